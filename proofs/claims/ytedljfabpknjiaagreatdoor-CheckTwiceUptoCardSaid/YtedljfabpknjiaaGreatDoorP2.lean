/- Texts of this proof, joined: AbsA, AbsB, AbsC, AbsD, AbsE, AbsF. -/
import Derived.WalkKit
section
namespace Go.Abs
open Go

/-- Data without addresses: a scalar; a slice that reads as rows of k cells; a struct's cells; an interface value. -/
inductive Data where
  |s (v:Value)
  |sl (k:Nat) (xs:List (List Data))
  |agg (cs:List Data)
  |ifc (t:TypeId) (d:Data)

/-- Values: data; the header of an owned row; structs and tuples of values; a pointer to a box's cell; a pointer to cells that nobody writes; a closure; an interface value; a slice over a box; what an owner of several blocks has at a place (0: the map; from 1 on its arrays); a pointer to a cell of such an array; whatever it is. -/
inductive PV where
  |d (x:Data)
  |acc (id:Nat)
  |agg (cs:List PV)
  |tup (vs:List PV)
  |box (id off:Nat)
  |eptr (cs:List Data)
  |fn (f:FuncId) (caps:List PV)
  |ifc (t:TypeId) (x:PV)
  |arr (id off len:Nat)
  |am (id j:Nat)
  |amc (id j off:Nat)
  |any

/-- A box: a block that is written; an owned row: a slice that may be appended to; a map from strings, in the order in which its keys came; a box of scalars, as many as there are; a map from strings to slices of numbers that nobody else has (fz: they are read alone from here on). -/
inductive Row where
  |box (ty:TypeId) (cells:List PV)
  |acc (e:TypeId) (k:Nat) (xs:List (List Data))
  |map (t:TypeId) (es:List (ByteArray×Data))
  |vec (ty:TypeId) (xs:List Value)
  |amap (t:TypeId) (fz:Bool) (es:List (ByteArray×List Int))

/-- A scalar of memory, not a struct. -/
def oneV:Value→Bool
  |.agg _=>false
  |.tuple _=>false
  |_=>true
/-- Data of one cell. -/
def flatD:Data→Bool
  |.s v=>oneV v
  |.sl ..=>true
  |.agg _=>false
  |.ifc ..=>true

section
variable (lim:Nat→Nat) (w:World)
mutual
def VD:Data→Value→Prop
  |.s v0,v=>v=v0
  |.agg cs,v=>∃vs:List Value,v=.agg vs.toArray∧VDs cs vs
  |.sl k xs,v=>∃A n c,v=.slice A n c∧n=xs.length∧n≤c∧c≤maxLen∧(n≠0→∃b o,A=some ⟨b,o,none⟩∧VRow b k o xs)
  |.ifc t x,v=>∃v',v=.iface t v'∧VD x v'
def VDs:List Data→List Value→Prop
  |[],vs=>vs=[]
  |c::cs,vs=>∃u us,vs=u::us∧VD c u∧VDs cs us
def VRow(b k:Nat):Nat→List (List Data)→Prop
  |_,[]=>True
  |o,x::xs=>x.length=k∧VCells b o x∧VRow b k (o+k) xs
def VCells(b:Nat):Nat→List Data→Prop
  |_,[]=>True
  |o,c::cs=>(∃v,w.cell? ⟨b,o,none⟩=some v∧o<lim b∧flatD c=true∧VD c v)∧VCells b (o+1) cs
end
end

/-- The header of a row that has several blocks: its parts. -/
@[reducible] def hdr (vs:List Value):Value:=.func (.func 0) #[] vs.toArray
theorem hdr_inj{vs us:List Value}(h:hdr vs=hdr us):vs=us:=by simpa [hdr] using h
section
variable (H:Nat→Option Value) (lim:Nat→Nat) (w:World)
mutual
def V:PV→Value→Prop
  |.d x,v=>VD lim w x v
  |.acc id,v=>H id=some v
  |.agg cs,v=>∃vs:List Value,v=.agg vs.toArray∧Vs cs vs
  |.tup cs,v=>∃vs:List Value,v=.tuple vs.toArray∧Vs cs vs
  |.box id off,v=>∃b,H id=some (.pointer (some ⟨b,0,none⟩))∧v=.pointer (some ⟨b,off,none⟩)
  |.eptr cs,v=>∃b o,v=.pointer (some ⟨b,o,none⟩)∧VCells lim w b o cs
  |.fn f caps,v=>∃vs:List Value,v=.func (.func f) #[] vs.toArray∧Vs caps vs
  |.ifc t x,v=>∃v',v=.iface t v'∧V x v'
  |.arr id off len,v=>∃b cap,H id=some (.pointer (some ⟨b,0,none⟩))∧v=.slice (some ⟨b,off,none⟩) len cap∧len≤cap∧cap≤maxLen
  |.am id j,v=>∃vs:List Value,H id=some (hdr vs)∧vs[j]? = some v
  |.amc id j off,v=>∃(vs:List Value) (b n c:Nat),H id=some (hdr vs)∧vs[j]? = some (.slice (some ⟨b,0,none⟩) n c)∧v=.pointer (some ⟨b,off,none⟩)
  |.any,_=>True
def Vs:List PV→List Value→Prop
  |[],vs=>vs=[]
  |c::cs,vs=>∃u us,vs=u::us∧V c u∧Vs cs us
end
end

/-- What the entries of a map are. -/
def VE(lim:Nat→Nat)(w:World):Nat→List (ByteArray×Data)→List MapEntry→Prop
  |_,[],ms=>ms=[]
  |i,(k,p)::r,ms=>∃e ms',ms=e::ms'∧e.key=.string k∧e.born=i∧VD lim w p e.val∧VE lim w (i+1) r ms'
/-- A header that never changes. -/
def stay:Value→Bool
  |.pointer _=>true
  |.map _=>true
  |.func ..=>true
  |_=>false

/-- What lies between two worlds: what nobody writes stays; what is not to be written stays whole. -/
structure Fr (Wr:Nat→Prop) (lim:Nat→Nat) (w:World) (lim':Nat→Nat) (w':World):Prop where
  os:w'.os=w.os
  tape:w'.tape=w.tape
  output:w'.output=w.output
  size:w.heap.size≤w'.heap.size
  keep:∀b,b<w.heap.size→lim b≤lim' b∧∀o,o<lim b→w'.cell? ⟨b,o,none⟩=w.cell? ⟨b,o,none⟩
  same:∀b,b<w.heap.size→¬Wr b→w'.heap[b]? = w.heap[b]?∧lim' b=lim b

theorem Fr.refl(Wr:Nat→Prop)(lim:Nat→Nat)(w:World):Fr Wr lim w lim w:=
  ⟨rfl,rfl,rfl,Nat.le_refl _,fun _ _=>⟨Nat.le_refl _,fun _ _=>rfl⟩,fun _ _ _=>⟨rfl,rfl⟩⟩

theorem Fr.trans {Wr Wr':Nat→Prop}{lim lim' lim'':Nat→Nat}{w w' w'':World}(h:Fr Wr lim w lim' w') (k:Fr Wr' lim' w' lim'' w'')
    (hw:∀b,b<w.heap.size→Wr' b→Wr b):Fr Wr lim w lim'' w'':=
  ⟨k.os.trans h.os,k.tape.trans h.tape,k.output.trans h.output,Nat.le_trans h.size k.size,
   fun b hb=>⟨Nat.le_trans (h.keep b hb).1 (k.keep b (Nat.lt_of_lt_of_le hb h.size)).1,
     fun o ho=>((k.keep b (Nat.lt_of_lt_of_le hb h.size)).2 o (Nat.lt_of_lt_of_le ho (h.keep b hb).1)).trans ((h.keep b hb).2 o ho)⟩,
   fun b hb hn=>⟨((k.same b (Nat.lt_of_lt_of_le hb h.size) (fun q=>hn (hw b hb q))).1).trans (h.same b hb hn).1,
     ((k.same b (Nat.lt_of_lt_of_le hb h.size) (fun q=>hn (hw b hb q))).2).trans (h.same b hb hn).2⟩⟩

section
variable {Wr:Nat→Prop}{lim lim':Nat→Nat}{w w':World}
mutual
theorem VD.mono(h:Fr Wr lim w lim' w'):∀(d:Data) (v:Value),VD lim w d v→VD lim' w' d v
  |.s _,_,hv=>by simpa only [VD] using hv
  |.agg cs,v,hv=>by
    simp only [VD] at hv ⊢
    obtain ⟨vs,rfl,hc⟩:=hv
    exact ⟨vs,rfl,VDs.mono h cs vs hc⟩
  |.sl k xs,v,hv=>by
    simp only [VD] at hv ⊢
    obtain ⟨A,n,c,rfl,h1,h2,h3,h4⟩:=hv
    refine ⟨A,n,c,rfl,h1,h2,h3,fun hn=>?_⟩
    obtain ⟨b,o,hA,hr⟩:=h4 hn
    exact ⟨b,o,hA,VRow.mono h b k xs o hr⟩
  |.ifc t x,v,hv=>by
    simp only [VD] at hv ⊢
    obtain ⟨v',rfl,hx⟩:=hv
    exact ⟨v',rfl,VD.mono h x v' hx⟩
theorem VDs.mono(h:Fr Wr lim w lim' w'):∀(cs:List Data) (vs:List Value),VDs lim w cs vs→VDs lim' w' cs vs
  |[],vs,hv=>by simpa only [VDs] using hv
  |c::cs,vs,hv=>by
    simp only [VDs] at hv ⊢
    obtain ⟨u,us,rfl,h1,h2⟩:=hv
    exact ⟨u,us,rfl,VD.mono h c u h1,VDs.mono h cs us h2⟩
theorem VRow.mono(h:Fr Wr lim w lim' w')(b k:Nat):∀(xs:List (List Data)) (o:Nat),VRow lim w b k o xs→VRow lim' w' b k o xs
  |[],_,_=>by simp only [VRow]
  |x::xs,o,hv=>by
    simp only [VRow] at hv ⊢
    exact ⟨hv.1,VCells.mono h b x o hv.2.1,VRow.mono h b k xs (o+k) hv.2.2⟩
theorem VCells.mono(h:Fr Wr lim w lim' w')(b:Nat):∀(cs:List Data) (o:Nat),VCells lim w b o cs→VCells lim' w' b o cs
  |[],_,_=>by simp only [VCells]
  |c::cs,o,hv=>by
    simp only [VCells] at hv ⊢
    obtain ⟨⟨v,h1,h2,hf,h3⟩,h4⟩:=hv
    have hb:b<w.heap.size:=World.block_lt_of_cell? w (a:=⟨b,o,none⟩) h1
    exact ⟨⟨v,((h.keep b hb).2 o h2).trans h1,Nat.lt_of_lt_of_le h2 (h.keep b hb).1,hf,VD.mono h c v h3⟩,VCells.mono h b cs (o+1) h4⟩
end

variable {H H':Nat→Option Value}
mutual
theorem V.mono(h:Fr Wr lim w lim' w')(hH:∀i v,H i=some v→H' i=some v):∀(p:PV) (v:Value),V H lim w p v→V H' lim' w' p v
  |.d x,v,hv=>by
    simp only [V] at hv ⊢
    exact VD.mono h x v hv
  |.acc id,v,hv=>by
    simp only [V] at hv ⊢
    exact hH id v hv
  |.agg cs,v,hv=>by
    simp only [V] at hv ⊢
    obtain ⟨vs,rfl,hc⟩:=hv
    exact ⟨vs,rfl,Vs.mono h hH cs vs hc⟩
  |.tup cs,v,hv=>by
    simp only [V] at hv ⊢
    obtain ⟨vs,rfl,hc⟩:=hv
    exact ⟨vs,rfl,Vs.mono h hH cs vs hc⟩
  |.box id off,v,hv=>by
    simp only [V] at hv ⊢
    obtain ⟨b,h1,h2⟩:=hv
    exact ⟨b,hH id _ h1,h2⟩
  |.eptr cs,v,hv=>by
    simp only [V] at hv ⊢
    obtain ⟨b,o,rfl,hc⟩:=hv
    exact ⟨b,o,rfl,VCells.mono h b cs o hc⟩
  |.fn f caps,v,hv=>by
    simp only [V] at hv ⊢
    obtain ⟨vs,rfl,hc⟩:=hv
    exact ⟨vs,rfl,Vs.mono h hH caps vs hc⟩
  |.ifc t x,v,hv=>by
    simp only [V] at hv ⊢
    obtain ⟨v',rfl,hx⟩:=hv
    exact ⟨v',rfl,V.mono h hH x v' hx⟩
  |.arr id off len,v,hv=>by
    simp only [V] at hv ⊢
    obtain ⟨b,cap,h1,h2⟩:=hv
    exact ⟨b,cap,hH id _ h1,h2⟩
  |.am id j,v,hv=>by
    simp only [V] at hv ⊢
    obtain ⟨vs,h1,h2⟩:=hv
    exact ⟨vs,hH id _ h1,h2⟩
  |.amc id j off,v,hv=>by
    simp only [V] at hv ⊢
    obtain ⟨vs,b,n,c,h1,h2⟩:=hv
    exact ⟨vs,b,n,c,hH id _ h1,h2⟩
  |.any,_,_=>by simp only [V]
theorem Vs.mono(h:Fr Wr lim w lim' w')(hH:∀i v,H i=some v→H' i=some v):∀(cs:List PV) (vs:List Value),Vs H lim w cs vs→Vs H' lim' w' cs vs
  |[],vs,hv=>by simpa only [Vs] using hv
  |c::cs,vs,hv=>by
    simp only [Vs] at hv ⊢
    obtain ⟨u,us,rfl,h1,h2⟩:=hv
    exact ⟨u,us,rfl,V.mono h hH c u h1,Vs.mono h hH cs us h2⟩
end
theorem VE.mono(h:Fr Wr lim w lim' w'):∀(es:List (ByteArray×Data)) (i:Nat) (ms:List MapEntry),VE lim w i es ms→VE lim' w' i es ms
  |[],_,_,hv=>by simpa only [VE] using hv
  | (k,p)::r,i,ms,hv=>by
    simp only [VE] at hv ⊢
    obtain ⟨e,ms',rfl,h1,h2,h3,h4⟩:=hv
    exact ⟨e,ms',rfl,h1,h2,VD.mono h p _ h3,VE.mono h r (i+1) ms' h4⟩
end
end Go.Abs
end
section
namespace Go.Abs
open Go

/-- What becomes of a name: another name; the data that it stood for; it must not stand there. -/
inductive Sb where
 |to (i:Nat)
 |data (x:Data)
 |no

mutual
def PV.sub(σ:Nat→Sb):PV→Option PV
 |.d x=>some (.d x)
 |.acc id=>match σ id with
  |.to i=>some (.acc i)
  |.data x=>some (.d x)
  |.no=>none
 |.agg cs=>match PV.subs σ cs with
  |some cs'=>some (.agg cs')
  |none=>none
 |.tup cs=>match PV.subs σ cs with
  |some cs'=>some (.tup cs')
  |none=>none
 |.box id off=>match σ id with
  |.to i=>some (.box i off)
  |_=>none
 |.eptr cs=>some (.eptr cs)
 |.fn f cs=>match PV.subs σ cs with
  |some cs'=>some (.fn f cs')
  |none=>none
 |.ifc t x=>match PV.sub σ x with
  |some x'=>some (.ifc t x')
  |none=>none
 |.arr id off len=>match σ id with
  |.to i=>some (.arr i off len)
  |_=>none
 |.am id j=>match σ id with
  |.to i=>some (.am i j)
  |_=>none
 |.amc id j off=>match σ id with
  |.to i=>some (.amc i j off)
  |_=>none
 |.any=>some .any
def PV.subs(σ:Nat→Sb):List PV→Option (List PV)
 |[]=>some []
 |c::cs=>match PV.sub σ c with
  |some c'=>match PV.subs σ cs with
   |some cs'=>some (c'::cs')
   |none=>none
  |none=>none
end

section
variable {Wr:Nat→Prop}{lim lim':Nat→Nat}{w w':World}{H H':Nat→Option Value}{σ:Nat→Sb}
mutual
theorem V.sub(h:Fr Wr lim w lim' w')(h1:∀id i v,σ id=.to i→H id=some v→H' i=some v)(h2:∀id x v,σ id=.data x→H id=some v→VD lim' w' x v):
  ∀(p q:PV) (v:Value),PV.sub σ p=some q→V H lim w p v→V H' lim' w' q v
 |.d x,q,v,hs,hv=>by
  simp only [PV.sub,Option.some.injEq] at hs
  subst hs
  simp only [V] at hv ⊢
  exact VD.mono h x v hv
 |.acc id,q,v,hs,hv=>by
  simp only [PV.sub] at hs
  simp only [V] at hv
  split at hs
  ·rename_i i hi
   simp only [Option.some.injEq] at hs
   subst hs
   simp only [V]
   exact h1 id i v hi hv
  ·rename_i x hx
   simp only [Option.some.injEq] at hs
   subst hs
   simp only [V]
   exact h2 id x v hx hv
  cases hs
 |.agg cs,q,v,hs,hv=>by
  simp only [PV.sub] at hs
  simp only [V] at hv
  obtain ⟨vs,rfl,hc⟩:=hv
  split at hs
  ·rename_i cs' hcs
   simp only [Option.some.injEq] at hs
   subst hs
   simp only [V]
   exact ⟨vs,rfl,Vs.sub h h1 h2 cs cs' vs hcs hc⟩
  cases hs
 |.tup cs,q,v,hs,hv=>by
  simp only [PV.sub] at hs
  simp only [V] at hv
  obtain ⟨vs,rfl,hc⟩:=hv
  split at hs
  ·rename_i cs' hcs
   simp only [Option.some.injEq] at hs
   subst hs
   simp only [V]
   exact ⟨vs,rfl,Vs.sub h h1 h2 cs cs' vs hcs hc⟩
  cases hs
 |.box id off,q,v,hs,hv=>by
  simp only [PV.sub] at hs
  simp only [V] at hv
  split at hs
  ·rename_i i hi
   simp only [Option.some.injEq] at hs
   subst hs
   simp only [V]
   obtain ⟨b,q1,q2⟩:=hv
   exact ⟨b,h1 id i _ hi q1,q2⟩
  cases hs
 |.eptr cs,q,v,hs,hv=>by
  simp only [PV.sub,Option.some.injEq] at hs
  subst hs
  simp only [V] at hv ⊢
  obtain ⟨b,o,rfl,hc⟩:=hv
  exact ⟨b,o,rfl,VCells.mono h b cs o hc⟩
 |.fn f cs,q,v,hs,hv=>by
  simp only [PV.sub] at hs
  simp only [V] at hv
  obtain ⟨vs,rfl,hc⟩:=hv
  split at hs
  ·rename_i cs' hcs
   simp only [Option.some.injEq] at hs
   subst hs
   simp only [V]
   exact ⟨vs,rfl,Vs.sub h h1 h2 cs cs' vs hcs hc⟩
  cases hs
 |.ifc t x,q,v,hs,hv=>by
  simp only [PV.sub] at hs
  simp only [V] at hv
  obtain ⟨u,rfl,hc⟩:=hv
  split at hs
  ·rename_i x' hx
   simp only [Option.some.injEq] at hs
   subst hs
   simp only [V]
   exact ⟨u,rfl,V.sub h h1 h2 x x' u hx hc⟩
  cases hs
 |.arr id off len,q,v,hs,hv=>by
  simp only [PV.sub] at hs
  simp only [V] at hv
  split at hs
  ·rename_i i hi
   simp only [Option.some.injEq] at hs
   subst hs
   simp only [V]
   obtain ⟨b,cap,q1,q2⟩:=hv
   exact ⟨b,cap,h1 id i _ hi q1,q2⟩
  cases hs
 |.am id j,q,v,hs,hv=>by
  simp only [PV.sub] at hs
  simp only [V] at hv
  split at hs
  ·rename_i i hi
   simp only [Option.some.injEq] at hs
   subst hs
   simp only [V]
   obtain ⟨vs,q1,q2⟩:=hv
   exact ⟨vs,h1 id i _ hi q1,q2⟩
  cases hs
 |.amc id j off,q,v,hs,hv=>by
  simp only [PV.sub] at hs
  simp only [V] at hv
  split at hs
  ·rename_i i hi
   simp only [Option.some.injEq] at hs
   subst hs
   simp only [V]
   obtain ⟨vs,b,n,c,q1,q2⟩:=hv
   exact ⟨vs,b,n,c,h1 id i _ hi q1,q2⟩
  cases hs
 |.any,q,v,hs,hv=>by
  simp only [PV.sub,Option.some.injEq] at hs
  subst hs
  simp only [V]
theorem Vs.sub(h:Fr Wr lim w lim' w')(h1:∀id i v,σ id=.to i→H id=some v→H' i=some v)(h2:∀id x v,σ id=.data x→H id=some v→VD lim' w' x v):
  ∀(ps qs:List PV) (vs:List Value),PV.subs σ ps=some qs→Vs H lim w ps vs→Vs H' lim' w' qs vs
 |[],qs,vs,hs,hv=>by
  simp only [PV.subs,Option.some.injEq] at hs
  subst hs
  simp only [Vs] at hv ⊢
  exact hv
 |c::cs,qs,vs,hs,hv=>by
  simp only [PV.subs] at hs
  simp only [Vs] at hv
  obtain ⟨u,us,rfl,hu,hus⟩:=hv
  split at hs
  ·rename_i c' hc
   split at hs
   ·rename_i cs' hcs
    simp only [Option.some.injEq] at hs
    subst hs
    simp only [Vs]
    exact ⟨u,us,rfl,V.sub h h1 h2 c c' u hc hu,Vs.sub h h1 h2 cs cs' us hcs hus⟩
   cases hs
  cases hs
end
end

/-- The block of a header. -/
def blk:Value→Option Nat
 |.map (some b)=>some b
 |.pointer (some a)=>some a.block
 |.slice (some a) _ _=>some a.block
 |_=>none

/-- The blocks of a header: some rows have several. -/
def own:Value→Nat→Prop
 |.map (some b),c=>c=b
 |.pointer (some a),c=>c=a.block
 |.slice (some a) _ _,c=>c=a.block
 |.func _ _ vs,c=>∃v,v∈vs.toList∧blk v=some c
 |_,_=>False
theorem own_blk{v:Value}{b:Nat}(h:blk v=some b):own v b:=by
 unfold blk at h
 split at h <;> first
  |cases h;rfl
  |cases h
/-- A state: what slots hold, as far as it is known; the rows. -/
structure St where
 env:List (Nat×PV)
 rows:List Row

def look:List (Nat×PV)→Nat→Option PV
 |[],_=>none
 | (i,p)::r,j=>if i=j then some p else look r j

/-- Scalars, as values. -/
def vecP(xs:List Value):List PV:=xs.map fun v=>.d (.s v)
/-- What the entries of a map of arrays are, and the arrays' headers. -/
def AE(lim:Nat→Nat)(w:World)(fz:Bool):Nat→List (ByteArray×List Int)→List MapEntry→List Value→Prop
 |_,[],ms,hs=>ms=[]∧hs=[]
 |i,(k,l)::r,ms,hs=>∃(e:MapEntry) (ms':List MapEntry) (c:Nat) (ty:TypeId) (hs':List Value) (cap:Nat),ms=e::ms'∧hs=e.val::hs'∧e.key=.string k∧e.born=i∧e.val=.slice (some ⟨c,0,none⟩) l.length cap∧(l.length≤cap∧cap≤maxLen)∧
   w.heap[c]? = some (.cells (l.map (Value.int .i64)).toArray ty (0,0))∧lim c=(match fz with|true=>l.length|false=>0)∧AE lim w fz (i+1) r ms' hs'
/-- What a row says of the world. -/
def RowOk(H:Nat→Option Value)(lim:Nat→Nat)(w:World)(id:Nat):Row→Prop
 |.box ty cells=>∃b cs,H id=some (.pointer (some ⟨b,0,none⟩))∧w.heap[b]? = some (.cells (cs:List Value).toArray ty (0,0))∧Vs H lim w cells cs∧lim b=0
 |.acc e k xs=>∃hv zs,H id=some hv∧w.ownsRow 0 e k hv xs.length zs∧VDs lim w xs.flatten zs∧(∀x,x∈xs→x.length=k∧∀d,d∈x→flatD d=true)∧0<k∧(∀b,blk hv=some b→lim b=xs.length * k)
 |.vec ty xs=>∃b cs,H id=some (.pointer (some ⟨b,0,none⟩))∧w.heap[b]? = some (.cells (cs:List Value).toArray ty (0,0))∧Vs H lim w (vecP xs) cs∧lim b=0
 |.map _ es=>∃b ms,H id=some (.map (some b))∧w.heap[b]? = some (.map ms es.length)∧VE lim w 0 es ms.toList∧lim b=0
 |.amap _ fz es=>∃b ms hs,H id=some (hdr (Value.map (some b)::hs))∧w.heap[b]? = some (.map ms es.length)∧AE lim w fz 0 es ms.toList hs∧lim b=0∧(b::hs.filterMap blk).Nodup

/-- A block of a name. -/
def Ow(H:Nat→Option Value)(id b:Nat):Prop:=∃v,H id=some v∧own v b
theorem ow_of{H:Nat→Option Value}{id b:Nat}{v:Value}(h:H id=some v):Ow H id b↔own v b:=⟨fun ⟨u,q,r⟩=>by rw [h] at q;cases q;exact r,fun r=>⟨v,h,r⟩⟩
theorem ow_none{H:Nat→Option Value}{id b:Nat}(h:H id=none):¬Ow H id b:=fun ⟨v,q,_⟩=>by rw [h] at q;cases q
structure RowsOk (H:Nat→Option Value) (lim:Nat→Nat) (w:World) (rows:List Row):Prop where
 row:∀id r,rows[id]? = some r→RowOk H lim w id r
 apart:∀i j b,i≠j→Ow H i b→¬Ow H j b
 dom:∀id,rows.length≤id→H id=none

/-- What package-level variables hold. -/
abbrev Glob:=Nat→Option Value

/-- A block is one of the rows'. -/
def Bl(H:Nat→Option Value)(b:Nat):Prop:=∃id,Ow H id b
/-- The blocks that were there at first, as many as G says: no row lies among them. -/
def NGof(G:Glob):Nat:=match G 1000 with
 |some (.int _ n)=>n.toNat
 |_=>0
/-- A variable holds one value; or it is a table that nobody writes; or (told at a free number) a pointer to a variable that nobody writes. -/
def GlobOk1(n:Nat)(lim:Nat→Nat)(w:World)(g:Nat):Value→Prop
 |.tuple cs=>g<n∧∃ty fr,w.heap[g]? = some (.cells cs ty fr)
 |.agg vs=>∃(a:Addr) (cs:Array Value) (ty:TypeId),vs = #[.pointer (some a)]∧a.block<n∧w.heap[a.block]? = some (.cells cs ty (0,0))
 |v=>w.cell? ⟨g,0,none⟩=some v∧0<lim g∧oneV v=true
structure GlobOk (G:Glob) (H:Nat→Option Value) (lim:Nat→Nat) (w:World):Prop where
 size:NGof G≤w.heap.size
 rows:∀b,Bl H b→NGof G≤b
 holds:∀g v,Nat.ble g 999=true→G g=some v→GlobOk1 (NGof G) lim w g v
theorem GlobOk1.one{n:Nat}{lim:Nat→Nat}{w:World}{g:Nat}{v:Value}(h:GlobOk1 n lim w g v)(hv:oneV v=true):w.cell? ⟨g,0,none⟩=some v∧0<lim g∧oneV v=true:=by
 cases v <;> first|exact h|cases hv
theorem GlobOk.sub{G:Glob}{H H':Nat→Option Value}{lim:Nat→Nat}{w:World}(h:GlobOk G H lim w)(hB:∀b,Bl H' b→Bl H b):GlobOk G H' lim w:=⟨h.size,fun b q=>h.rows b (hB b q),h.holds⟩

structure Rep (D:List Deferred) (G:Glob) (N:Nat) (H:Nat→Option Value) (lim:Nat→Nat) (X:St) (a:Act) (w:World):Prop where
 env:∀j p,look X.env j=some p→j<N∧V H lim w p (a.tmps.getD j undef)
 rows:RowsOk H lim w X.rows
 glob:GlobOk G H lim w
 defers:a.defers=D
 size:a.tmps.size=N

inductive Out where
 |ret (p:PV)
 |pan (p:PV)

def OutOk(H:Nat→Option Value)(lim:Nat→Nat)(w:World)(out:Out)(e:Ending):Prop:=match out with
 |.ret p=>∃v,e=.returned v∧V H lim w p v
 |.pan p=>∃v,e=.panicked [{ v,recovered:=false }]∧V H lim w p v
/-- A CONTRACT over pure values: called with such arguments over such rows the function comes to this end, over these rows; it writes nothing but the rows' blocks and new ones. -/
def Spec(P:Program)(G:Glob)(f:FuncId)(args:List PV)(rows:List Row)(out:Out)(rows':List Row):Prop:=
 (∀(av0:Array Value) (w:World),(callFunc f av0).run P w=.ok (.enter f av0) w)∧rows.length≤rows'.length∧
 ∀(H:Nat→Option Value) (lim:Nat→Nat) (w:World) (vs:List Value),RowsOk H lim w rows→GlobOk G H lim w→Vs H lim w args vs→
  Calls P f vs.toArray w fun e w'=>∃(H':Nat→Option Value) (lim':Nat→Nat),RowsOk H' lim' w' rows'∧Fr (Bl H) lim w lim' w'∧
   (∀id v,stay v=true→H id=some v→H' id=H id)∧
   (∀b,Bl H' b→Bl H b∨w.heap.size≤b)∧
   OutOk H' lim' w' out e
end Go.Abs
end
section
namespace Go.Abs
open Go

/-- What is asked of a type: a table of a program's types (TabOk). -/
inductive TK where
 |int (k:IntKind)|bool|string|slice (e:TypeId)|ptr (e:TypeId)|struct (fs:List (Nat×TypeId))|iface|map (k v:TypeId)|func
structure TI where
 desc:TK
 size:Nat
 bytes:Nat
 zero:List Value
abbrev Tab:=TypeId→Option TI
def TKOk:TK→TypeDesc→Prop
 |.int k,d=>d=.int k
 |.bool,d=>d=.bool
 |.string,d=>d=.string
 |.slice e,d=>d=.slice e
 |.ptr e,d=>d=.pointer e
 |.struct fs,d=>∃fa:Array Field,d=.struct fa∧fa.toList.map (fun f=>(f.offset,f.type))=fs
 |.iface,d=>∃ms,d=.interface ms
 |.map k v,d=>d=.map k v
 |.func,d=>∃ps rs b,d=.func ps rs b
def aggV:Value→Bool
 |.agg _=>true
 |_=>false
def TK.agg:TK→Bool
 |.struct _=>true
 |_=>false
def TabOk(P:Program)(T:Tab):Prop:=
 ∀t i,T t=some i→(∃d,P.underlying t=some d∧TKOk i.desc d)∧∃ti,P.info? t=some ti∧ti.size=i.size∧ti.bytes=i.bytes∧∃z,ti.zero=some z∧z.cells.toList=i.zero∧aggV z=i.desc.agg

/-- A constant. -/
def cv:Value→PV
 |.agg cs=>.d (.agg (cs.toList.map Data.s))
 |.tuple vs=>.tup (vs.toList.map fun v=>.d (.s v))
 |v=>.d (.s v)
def ev(G:Glob)(X:St):Operand→Option PV
 |.tmp t=>look X.env t
 |.const v=>some (cv v)
 |.global g=>match Nat.ble g 999,G g with
  |true,some v=>match oneV v with
   |true=>some (.eptr [.s v])
   |false=>none
  |_,_=>none
 |.func f=>some (.fn f [])
def cellsD:List PV→Option (List Data)
 |[]=>some []
 |.d x::r=>match cellsD r with
  |some ds=>some (x::ds)
  |none=>none
 |_::_=>none
def mkAgg(cs:List PV):PV:=match cellsD cs with
 |some ds=>.d (.agg ds)
 |none=>.agg cs
/-- Owned rows told as data. -/
def dem(rows:List Row):Nat→Sb:=fun id=>match rows[id]? with
 |some (.acc _ k xs)=>.data (.sl k xs)
 |some (.box ..)=>.to id
 |some (.map ..)=>.to id
 |some (.vec ..)=>.to id
 |some (.amap ..)=>.to id
 |none=>.no

section
variable {P:Program}{G:Glob}{D:List Deferred}{N:Nat}{H:Nat→Option Value}{lim:Nat→Nat}{X:St}{a:Act}{w:World}{T:Tab}

theorem VDs_map_s(cs:List Value):VDs lim w (cs.map Data.s) cs:=by
 induction cs with
 |nil=>simp only [List.map_nil,VDs]
 |cons c cs ih=>simp only [List.map_cons,VDs,VD];exact ⟨c,cs,rfl,rfl,ih⟩
theorem Vs_map_s(cs:List Value):Vs H lim w (cs.map fun v=>.d (.s v)) cs:=by
 induction cs with
 |nil=>simp only [List.map_nil,Vs]
 |cons c cs ih=>simp only [List.map_cons,Vs,V,VD];exact ⟨c,cs,rfl,rfl,ih⟩
theorem V_cv(v:Value):V H lim w (cv v) v:=by
 cases v <;> simp only [cv,V,VD]
 ·rename_i cs;exact ⟨cs.toList,by simp,VDs_map_s _⟩
 rename_i cs;exact ⟨cs.toList,by simp,Vs_map_s _⟩
theorem ev_sound(hR:Rep D G N H lim X a w){x:Operand}{p:PV}(h:ev G X x=some p):V H lim w p (a.eval x):=by
 cases x with
 |tmp t=>exact (hR.env t p h).2
 |const v=>simp only [ev,Option.some.injEq] at h;subst h;exact V_cv v
 |global g=>
  simp only [ev] at h
  split at h
  ·rename_i v hg hv
   split at h
   ·rename_i ho
    simp only [Option.some.injEq] at h
    subst h
    obtain ⟨h1,h2,h3⟩:=(hR.glob.holds g v hg hv).one ho
    simp only [V,Act.eval]
    exact ⟨g,0,rfl,by simp only [VCells,VD,and_true];exact ⟨v,h1,h2,h3,rfl⟩⟩
   cases h
  cases h
 |func f=>
  simp only [ev,Option.some.injEq] at h
  subst h
  simp only [V,Act.eval]
  exact ⟨[],rfl,by simp only [Vs]⟩
theorem Vs_length{ps:List PV}{vs:List Value}(h:Vs H lim w ps vs):vs.length=ps.length:=by
 induction ps generalizing vs with
 |nil=>simp only [Vs] at h;subst h;rfl
 |cons p ps ih=>simp only [Vs] at h;obtain ⟨u,us,rfl,_,h2⟩:=h;simp [ih h2]
theorem VDs_length{ps:List Data}{vs:List Value}(h:VDs lim w ps vs):vs.length=ps.length:=by
 induction ps generalizing vs with
 |nil=>simp only [VDs] at h;subst h;rfl
 |cons p ps ih=>simp only [VDs] at h;obtain ⟨u,us,rfl,_,h2⟩:=h;simp [ih h2]
theorem Vs_cellsD{ps:List PV}{vs:List Value}{ds:List Data}(h:Vs H lim w ps vs)(hd:cellsD ps=some ds):VDs lim w ds vs:=by
 induction ps generalizing vs ds with
 |nil=>simp only [cellsD,Option.some.injEq] at hd;subst hd;simpa only [Vs,VDs] using h
 |cons p ps ih=>
  simp only [Vs] at h
  obtain ⟨u,us,rfl,h1,h2⟩:=h
  cases p <;> simp only [cellsD] at hd
  all_goals try cases hd
  split at hd
  ·rename_i ds' hds
   simp only [Option.some.injEq] at hd
   subst hd
   simp only [VDs]
   exact ⟨u,us,rfl,by simpa only [V] using h1,ih h2 hds⟩
  cases hd
theorem V_mkAgg{ps:List PV}{vs:List Value}(h:Vs H lim w ps vs):V H lim w (mkAgg ps) (.agg vs.toArray):=by
 unfold mkAgg
 split
 ·rename_i ds hd
  simp only [V,VD]
  exact ⟨vs,rfl,Vs_cellsD h hd⟩
 simp only [V]
 exact ⟨vs,rfl,h⟩
theorem Vs_append{ps qs:List PV}{vs us:List Value}(h:Vs H lim w ps vs)(k:Vs H lim w qs us):Vs H lim w (ps++qs) (vs++us):=by
 induction ps generalizing vs with
 |nil=>simp only [Vs] at h;subst h;simpa using k
 |cons p ps ih=>simp only [Vs] at h;obtain ⟨u,us',rfl,h1,h2⟩:=h;simp only [List.cons_append,Vs];exact ⟨u,us'++us,rfl,h1,ih h2⟩
theorem Vs_get{ps:List PV}{vs:List Value}(h:Vs H lim w ps vs){i:Nat}{p:PV}(hp:ps[i]? = some p):∃v,vs[i]? = some v∧V H lim w p v:=by
 induction ps generalizing vs i with
 |nil=>cases hp
 |cons q ps ih=>
  simp only [Vs] at h
  obtain ⟨u,us,rfl,h1,h2⟩:=h
  cases i with
  |zero=>simp only [List.getElem?_cons_zero,Option.some.injEq] at hp ⊢;subst hp;exact ⟨u,rfl,h1⟩
  |succ i=>simp only [List.getElem?_cons_succ] at hp ⊢;exact ih h2 hp
theorem VDs_get{ps:List Data}{vs:List Value}(h:VDs lim w ps vs){i:Nat}{p:Data}(hp:ps[i]? = some p):∃v,vs[i]? = some v∧VD lim w p v:=by
 induction ps generalizing vs i with
 |nil=>cases hp
 |cons q ps ih=>
  simp only [VDs] at h
  obtain ⟨u,us,rfl,h1,h2⟩:=h
  cases i with
  |zero=>simp only [List.getElem?_cons_zero,Option.some.injEq] at hp ⊢;subst hp;exact ⟨u,rfl,h1⟩
  |succ i=>simp only [List.getElem?_cons_succ] at hp ⊢;exact ih h2 hp
theorem Vs_drop{ps:List PV}{vs:List Value}(h:Vs H lim w ps vs)(n:Nat):Vs H lim w (ps.drop n) (vs.drop n):=by
 induction n generalizing ps vs with
 |zero=>simpa using h
 |succ n ih=>cases ps with
  |nil=>simp only [Vs] at h;subst h;simp only [List.drop_nil,Vs]
  |cons p ps=>simp only [Vs] at h;obtain ⟨u,us,rfl,_,h2⟩:=h;simpa using ih h2
theorem Vs_take{ps:List PV}{vs:List Value}(h:Vs H lim w ps vs)(n:Nat):Vs H lim w (ps.take n) (vs.take n):=by
 induction n generalizing ps vs with
 |zero=>simp only [List.take_zero,Vs]
 |succ n ih=>cases ps with
  |nil=>simp only [Vs] at h;subst h;simp only [List.take_nil,Vs]
  |cons p ps=>simp only [Vs] at h;obtain ⟨u,us,rfl,h1,h2⟩:=h;simp only [List.take_succ_cons,Vs];exact ⟨u,us.take n,rfl,h1,ih h2⟩
theorem VDs_drop{ps:List Data}{vs:List Value}(h:VDs lim w ps vs)(n:Nat):VDs lim w (ps.drop n) (vs.drop n):=by
 induction n generalizing ps vs with
 |zero=>simpa using h
 |succ n ih=>cases ps with
  |nil=>simp only [VDs] at h;subst h;simp only [List.drop_nil,VDs]
  |cons p ps=>simp only [VDs] at h;obtain ⟨u,us,rfl,_,h2⟩:=h;simpa using ih h2
theorem VDs_take{ps:List Data}{vs:List Value}(h:VDs lim w ps vs)(n:Nat):VDs lim w (ps.take n) (vs.take n):=by
 induction n generalizing ps vs with
 |zero=>simp only [List.take_zero,VDs]
 |succ n ih=>cases ps with
  |nil=>simp only [VDs] at h;subst h;simp only [List.take_nil,VDs]
  |cons p ps=>simp only [VDs] at h;obtain ⟨u,us,rfl,h1,h2⟩:=h;simp only [List.take_succ_cons,VDs];exact ⟨u,us.take n,rfl,h1,ih h2⟩
theorem VCells_drop{b:Nat}{ds:List Data}{o:Nat}(h:VCells lim w b o ds)(n:Nat):VCells lim w b (o+n) (ds.drop n):=by
 induction n generalizing ds o with
 |zero=>simpa using h
 |succ n ih=>cases ds with
  |nil=>simp only [List.drop_nil,VCells]
  |cons c cs=>simp only [VCells] at h;have:=ih h.2;simpa [Nat.add_assoc,Nat.add_comm 1 n] using this
theorem VCells_take{b:Nat}{ds:List Data}{o:Nat}(h:VCells lim w b o ds)(n:Nat):VCells lim w b o (ds.take n):=by
 induction n generalizing ds o with
 |zero=>simp only [List.take_zero,VCells]
 |succ n ih=>cases ds with
  |nil=>simp only [List.take_nil,VCells]
  |cons c cs=>simp only [VCells] at h;simp only [List.take_succ_cons,VCells];exact ⟨h.1,ih h.2⟩
theorem VRow_get{b k:Nat}{xs:List (List Data)}{o:Nat}(h:VRow lim w b k o xs){i:Nat}{cs:List Data}(hi:xs[i]? = some cs):cs.length=k∧VCells lim w b (o+i * k) cs:=by
 induction xs generalizing o i with
 |nil=>cases hi
 |cons x xs ih=>
  simp only [VRow] at h
  cases i with
  |zero=>simp only [List.getElem?_cons_zero,Option.some.injEq] at hi;subst hi;simpa using ⟨h.1,h.2.1⟩
  |succ i=>
   simp only [List.getElem?_cons_succ] at hi
   have:=ih h.2.2 hi
   refine ⟨this.1,?_⟩
   have e:o+k+i * k=o+(i+1) * k:=by rw [Nat.succ_mul];omega
   rw [e] at this
   exact this.2
/-- Another world in which the cells that nobody writes are the same, and the boxes of K. -/
def Agr:Option (Nat→Bool)→(H:Nat→Option Value)→(lim:Nat→Nat)→(w w1:World)→Prop
 |none,_,_,_,_=>True
 |some K,H,lim,w,w1=>(∀b o,b<w.heap.size→o<lim b→w1.cell? ⟨b,o,none⟩=w.cell? ⟨b,o,none⟩)∧∀id v b,K id=true→H id=some v→stay v=true→own v b→w1.heap[b]? = w.heap[b]?
theorem Agr.refl(K:Option (Nat→Bool))(H:Nat→Option Value)(lim:Nat→Nat)(w:World):Agr K H lim w w:=by
 cases K
 ·trivial
 exact ⟨fun _ _ _ _=>rfl,fun _ _ _ _ _ _ _=>rfl⟩
theorem Agr.cell{K:Nat→Bool}{w1:World}(h:Agr (some K) H lim w w1){b o:Nat}{v:Value}(hc:w.cell? ⟨b,o,none⟩=some v)(ho:o<lim b):w1.cell? ⟨b,o,none⟩=some v:=
 (h.1 b o (World.block_lt_of_cell? w (a:=⟨b,o,none⟩) hc) ho).trans hc
/-- Cells that are read, as the machine loads them. -/
theorem run_cells{b:Nat}{ds:List Data}{o:Nat}(h:VCells lim w b o ds):∃vs,VDs lim w ds vs∧∀(K:Nat→Bool) (H:Nat→Option Value) (w1:World),Agr (some K) H lim w w1→∀(i:Nat) (acc:Array Value),∀o0,o=o0+i→(loadCellsFrom ⟨b,o0,none⟩ i ds.length acc).run P w1=.ok (acc++vs.toArray) w1:=by
 induction ds generalizing o with
 |nil=>exact ⟨[],by simp only [VDs],fun K H w1 hA i acc o0 _=>by simp [loadCellsFrom,Sem.run_pure]⟩
 |cons c cs ih=>
  simp only [VCells] at h
  obtain ⟨⟨v,h1,h2,_,h3⟩,h4⟩:=h
  obtain ⟨vs,hvs,hr⟩:=ih h4
  refine ⟨v::vs,by simp only [VDs];exact ⟨v,vs,rfl,h3,hvs⟩,fun K H w1 hA i acc o0 ho=>?_⟩
  have ha:(⟨b,o0,none⟩:Addr).add i=⟨b,o,none⟩:=by unfold Addr.add;split <;> simp_all
  have hld:(load ((⟨b,o0,none⟩:Addr).add i)).run P w1=.ok v w1:=by rw [ha];simp [load,Sem.run,hA.cell h1 h2]
  simp only [List.length_cons,loadCellsFrom,Sem.run_bind,hld,Result.andThen]
  rw [hr K H w1 hA (i+1) (acc.push v) o0 (by omega)]
  simp
end
end Go.Abs
end
section
namespace Go.Abs
open Go

def elemOf(T:Tab)(t:TypeId):Option (Nat):=match T t with
 |some { desc:=.slice e,.. }=>match T e with
  |some i=>some i.size
  |none=>none
 |_=>none
def fieldOf(T:Tab)(t:TypeId)(f:Nat):Option (Nat×TI):=match T t with
 |some { desc:=.struct fs,.. }=>match fs[f]? with
  |some (off,u)=>match T u with
   |some i=>some (off,i)
   |none=>none
  |none=>none
 |_=>none

def pIndexAddr(T:Tab)(X:St)(t:TypeId)(x ix:Option PV)(k:PV→Prop):Prop:=
 match elemOf T t,x,ix with
 |some kk,some (.d (.sl k' xs)),some (.d (.s (.int _ i)))=>match Nat.beq k' kk with
  |true=>0≤i∧∃cs,xs[i.toNat]? = some cs∧k (.eptr cs)
  |false=>False
 |some kk,some (.acc id),some (.d (.s (.int _ i)))=>match X.rows[id]? with
  |some (.acc _ k' xs)=>match Nat.beq k' kk with
   |true=>0≤i∧∃cs,xs[i.toNat]? = some cs∧k (.eptr cs)
   |false=>False
  |_=>False
 |some kk,some (.arr id off len),some (.d (.s (.int _ i)))=>0≤i∧i<len∧k (.box id (off+i.toNat * kk))
 |some kk,some (.am id (j+1)),some (.d (.s (.int _ i)))=>match Nat.beq kk 1,X.rows[id]? with
  |true,some (.amap _ _ es)=>0≤i∧∃s l,es[j]? = some (s,l)∧i<l.length∧k (.amc id (j+1) i.toNat)
  |_,_=>False
 |_,_,_=>False

def pLoad1(T:Tab)(K:Nat→Bool)(X:St)(t:TypeId)(x:Option PV)(k:PV→Prop):Prop:=
 match T t,x with
 |some i,some (.eptr cs)=>match i.desc.agg with
  |true=>match Nat.ble i.size cs.length with
   |true=>k (.d (.agg (cs.take i.size)))
   |false=>False
  |false=>match cs with
   |c::_=>k (.d c)
   |[]=>False
 |some i,some (.box id off)=>match K id,X.rows[id]? with
  |true,some (.box _ cells)=>match i.desc.agg with
   |true=>match Nat.ble (off+i.size) cells.length,PV.subs (dem X.rows) ((cells.drop off).take i.size) with
    |true,some cs=>k (mkAgg cs)
    |_,_=>False
   |false=>match cells[off]? with
    |some p=>k p
    |none=>False
  |_,_=>False
 |some i,some (.amc id (j+1) off)=>match K id,X.rows[id]?,i.desc.agg with
  |true,some (.amap _ _ es),false=>∃s l n,es[j]? = some (s,l)∧l[off]? = some n∧k (.d (.s (.int .i64 n)))
  |_,_,_=>False
 |_,_=>False

def pLoad(T:Tab)(K:Option (Nat→Bool))(X:St)(t:TypeId)(x:Option PV)(k:PV→Prop):Prop:=match K with
 |some K=>pLoad1 T K X t x k
 |none=>False

def pField(T:Tab)(X:St)(t:TypeId)(x:Option PV)(f:Nat)(k:PV→Prop):Prop:=
 match fieldOf T t f,x with
 |some (off,i),some (.d (.agg cs))=>match i.desc.agg with
  |true=>match Nat.ble (off+i.size) cs.length with
   |true=>k (.d (.agg ((cs.drop off).take i.size)))
   |false=>False
  |false=>match cs[off]? with
   |some c=>k (.d c)
   |none=>False
 |some (off,i),some (.agg cs)=>match i.desc.agg with
  |true=>match Nat.ble (off+i.size) cs.length,PV.subs (dem X.rows) ((cs.drop off).take i.size) with
   |true,some cs=>k (mkAgg cs)
   |_,_=>False
  |false=>match cs[off]? with
   |some c=>k c
   |none=>False
 |_,_=>False

def pFieldAddr(T:Tab)(t:TypeId)(x:Option PV)(f:Nat)(k:PV→Prop):Prop:=
 match fieldOf T t f,x with
 |some (off,i),some (.box id o)=>match Nat.beq i.size 0 with
  |true=>False
  |false=>k (.box id (o+off))
 |some (off,i),some (.eptr cs)=>match Nat.beq i.size 0 with
  |true=>False
  |false=>k (.eptr (cs.drop off))
 |_,_=>False

def pIntOp(op:BinOp)(ik:IntKind)(x y:Int)(k:PV→Prop):Prop:=
 match op with
 |.add=>k (.d (.s (.int ik (ik.wrap (x+y)))))
 |.sub=>k (.d (.s (.int ik (ik.wrap (x - y)))))
 |.mul=>k (.d (.s (.int ik (ik.wrap (x * y)))))
 |.quo=>y≠0∧k (.d (.s (.int ik (ik.wrap (x.tdiv y)))))
 |.rem=>y≠0∧k (.d (.s (.int ik (x.tmod y))))
 |.eql=>k (.d (.s (.bool (x==y))))
 |.neq=>k (.d (.s (.bool (x != y))))
 |.lss=>k (.d (.s (.bool (decide (x<y)))))
 |.leq=>k (.d (.s (.bool (decide (x≤y)))))
 |.gtr=>k (.d (.s (.bool (decide (x>y)))))
 |.geq=>k (.d (.s (.bool (decide (x≥y)))))
 |_=>False
def pStrOp(op:BinOp)(x y:ByteArray)(k:PV→Prop):Prop:=
 match op with
 |.add=>x.size+y.size≤9223372036854775807∧k (.d (.s (.string (x++y))))
 |.eql=>k (.d (.s (.bool (x.toList==y.toList))))
 |.neq=>k (.d (.s (.bool !(x.toList==y.toList))))
 |.lss=>k (.d (.s (.bool (Op.bytesLess x.toList y.toList))))
 |_=>False
def isIfc:PV→Bool
 |.d (.ifc ..)=>true
 |.ifc ..=>true
 |.d (.s (.iface ..))=>true
 |_=>false
def isNilI:PV→Bool
 |.d (.s .nilIface)=>true
 |_=>false
def constO:Operand→Bool
 |.const _=>true
 |_=>false
def isBoolT(T:Tab)(t:TypeId):Bool:=match T t with
 |some { desc:=.bool,.. }=>true
 |_=>false
def isIfaceT(T:Tab)(t:TypeId):Bool:=match T t with
 |some { desc:=.iface,.. }=>true
 |_=>false
def pBoolOp(op:BinOp)(s u:Bool)(k:PV→Prop):Prop:=match op with
 |.eql=>k (.d (.s (.bool (s==u))))
 |.neq=>k (.d (.s (.bool !(s==u))))
 |_=>False
def pNilOp(op:BinOp)(nil ifc:Bool)(k:PV→Prop):Prop:=match nil,ifc,op with
 |true,_,.eql=>k (.d (.s (.bool true)))
 |true,_,.neq=>k (.d (.s (.bool false)))
 |false,true,.eql=>k (.d (.s (.bool false)))
 |false,true,.neq=>k (.d (.s (.bool true)))
 |_,_,_=>False
def isSlT(T:Tab)(t:TypeId):Bool:=match T t with
 |some { desc:=.slice _,.. }=>true
 |_=>false
def isNilS:PV→Bool
 |.d (.s (.slice none 0 0))=>true
 |_=>false
/-- May this slice be nil or not? -/
def nilOf:PV→Bool→Prop
 |.d (.s (.slice none 0 0)),b=>b=true
 |.d (.sl _ xs),b=>xs≠[]→b=false
 |.arr _ _ _,b=>b=false
 |_,_=>True
def isSl:PV→Bool
 |.d (.s (.slice none 0 0))=>true
 |.d (.sl _ _)=>true
 |.arr _ _ _=>true
 |_=>false
def pNilS(op:BinOp)(p:PV)(k:PV→Prop):Prop:=∀b,nilOf p b→pNilOp op b true k
def pBin(T:Tab)(op:BinOp)(t:TypeId)(x y:Option PV)(cy:Bool)(k:PV→Prop):Prop:=
 match x,y with
 |some (.d (.s (.int ik i))),some (.d (.s (.int jk j)))=>match decide (ik=jk) with
  |true=>pIntOp op ik i j k
  |false=>False
 |some (.d (.s (.string s))),some (.d (.s (.string u)))=>pStrOp op s u k
 |some (.d (.s (.bool s))),some (.d (.s (.bool u)))=>match isBoolT T t with
  |true=>pBoolOp op s u k
  |false=>False
 |some p,some q=>match isIfaceT T t,cy,isNilI q with
  |true,true,true=>pNilOp op (isNilI p) (isIfc p) k
  |_,_,_=>match isSlT T t,isSl p,isNilS q with
   |true,true,true=>pNilS op p k
   |_,_,_=>False
 |_,_=>False

def okK(ok:Bool)(p:PV)(b:Bool)(k:PV→Prop):Prop:=match ok with
 |true=>k (.tup [p,.d (.s (.bool b))])
 |false=>k p
/-- The zero value of a type. -/
def zeroP(T:Tab)(e:TypeId):Option PV:=match T e with
 |some i=>match i.desc.agg,i.zero with
  |true,cs=>some (.d (.agg (cs.map Data.s)))
  |false,[z]=>some (.d (.s z))
  |_,_=>none
 |none=>none
def mapGet:List (ByteArray×Data)→ByteArray→Option Data
 |[],_=>none
 | (k,p)::r,s=>match s==k with
  |true=>some p
  |false=>mapGet r s
def amGet:List (ByteArray×List Int)→ByteArray→Nat→Option (Nat×List Int)
 |[],_,_=>none
 | (k,l)::r,s,j=>match s==k with
  |true=>some (j,l)
  |false=>amGet r s (j+1)
/-- Numbers, as the cells of a slice. -/
def numsD(l:List Int):List (List Data):=l.map fun n=>[.s (.int .i64 n)]
def amPV(fz:Bool)(id j:Nat)(l:List Int):PV:=match fz with
 |true=>.d (.sl 1 (numsD l))
 |false=>.am id (j+1)
def isStrT(T:Tab)(t:TypeId):Bool:=match T t with
 |some { desc:=.string,.. }=>true
 |_=>false
def pLookup1(T:Tab)(Kb:Nat→Bool)(X:St)(t:TypeId)(x i:Option PV)(ok:Bool)(k:PV→Prop):Prop:=
 match T t,x,i with
 |some { desc:=.map kt e,.. },some (.acc id),some (.d (.s (.string s)))=>match Kb id,isStrT T kt,X.rows[id]? with
  |true,true,some (.map _ es)=>∃o,mapGet es s=o∧match o with
   |some p=>okK ok (.d p) true k
   |none=>match zeroP T e with
    |some z=>okK ok z false k
    |none=>False
  |_,_,_=>False
 |some { desc:=.map kt e,.. },some (.am id 0),some (.d (.s (.string s)))=>match Kb id,isStrT T kt,X.rows[id]? with
  |true,true,some (.amap _ fz es)=>∃o,amGet es s 0=o∧match o with
   |some (j,l)=>okK ok (amPV fz id j l) true k
   |none=>match zeroP T e with
    |some z=>okK ok z false k
    |none=>False
  |_,_,_=>False
 |_,_,_=>False
def pLookup(T:Tab)(K:Option (Nat→Bool))(X:St)(t:TypeId)(x i:Option PV)(ok:Bool)(k:PV→Prop):Prop:=match K with
 |some K=>pLookup1 T K X t x i ok k
 |none=>False
def isIfcK:TK→Bool
 |.iface=>true
 |_=>false
def pFails(T:Tab)(ok:Bool)(t:TypeId)(k:PV→Prop):Prop:=match ok,zeroP T t with
 |true,some z=>okK true z false k
 |_,_=>False
def pAssert1(T:Tab)(x:Option PV)(t:TypeId)(ok:Bool)(k:PV→Prop):Prop:=match x with
 |some (.d (.ifc t' d))=>match Nat.beq t' t with
  |true=>okK ok (.d d) true k
  |false=>pFails T ok t k
 |some (.ifc t' p)=>match Nat.beq t' t with
  |true=>okK ok p true k
  |false=>pFails T ok t k
 |some (.d (.s (.iface t' v)))=>match Nat.beq t' t with
  |true=>okK ok (.d (.s v)) true k
  |false=>pFails T ok t k
 |some (.d (.s .nilIface))=>pFails T ok t k
 |_=>False
def pAssert(T:Tab)(x:Option PV)(t:TypeId)(ok:Bool)(k:PV→Prop):Prop:=match T t with
 |some i=>match isIfcK i.desc with
  |true=>False
  |false=>pAssert1 T x t ok k
 |none=>False

/-- Byte i of a string. -/
def byteAt(s:ByteArray)(i:Int):Int:=match s[i.toNat]? with
 |some b=>b.toNat
 |none=>0

/-- The rows of a slice that is read. -/
def pvSl(X:St)(k:Nat):PV→Option (List (List Data))
 |.d (.sl k' ys)=>match Nat.beq k' k with
  |true=>some ys
  |false=>none
 |.d (.s (.slice none 0 0))=>some []
 |.acc id=>match X.rows[id]? with
  |some (.acc _ k' ys)=>match Nat.beq k' k with
   |true=>some ys
   |false=>none
  |_=>none
 |_=>none
def pSliceD(kk:Nat)(xs:List (List Data))(lo hi:Option (Option PV))(k:PV→Prop):Prop:=match lo,hi with
 |none,none=>k (.d (.sl kk xs))
 |some (some (.d (.s (.int _ i)))),none=>∃n:Nat,i=n∧n≤xs.length∧k (.d (.sl kk (xs.drop n)))
 |none,some (some (.d (.s (.int _ j))))=>∃n:Nat,j=n∧n≤xs.length∧k (.d (.sl kk (xs.take n)))
 |some (some (.d (.s (.int _ i)))),some (some (.d (.s (.int _ j))))=>∃m n:Nat,i=m∧j=n∧m≤n∧n≤xs.length∧k (.d (.sl kk ((xs.take n).drop m)))
 |_,_=>False
def pSlice(T:Tab)(X:St)(t:TypeId)(x:Option PV)(lo hi mx:Option (Option PV))(k:PV→Prop):Prop:=
 match T t,x,mx with
 |some { desc:=.string,.. },some (.d (.s (.string s))),none=>match lo,hi with
  |none,none=>k (.d (.s (.string (s.extract 0 s.size))))
  |some (some (.d (.s (.int _ i)))),none=>0≤i∧i≤s.size∧k (.d (.s (.string (s.extract i.toNat s.size))))
  |none,some (some (.d (.s (.int _ j))))=>0≤j∧j≤s.size∧k (.d (.s (.string (s.extract 0 j.toNat))))
  |some (some (.d (.s (.int _ i)))),some (some (.d (.s (.int _ j))))=>0≤i∧i≤j∧j≤s.size∧k (.d (.s (.string (s.extract i.toNat j.toNat))))
  |_,_=>False
 |some { desc:=.slice e,.. },some p,none=>match T e with
  |some i=>match pvSl X i.size p with
   |some xs=>pSliceD i.size xs lo hi k
   |none=>False
  |none=>False
 |_,_,_=>False

def pLen(T:Tab)(X:St)(t:TypeId)(x:Option PV)(k:PV→Prop):Prop:=
 match T t,x with
 |some { desc:=.string,.. },some (.d (.s (.string s)))=>k (.d (.s (.int .i64 s.size)))
 |some { desc:=.slice _,.. },some (.d (.sl _ xs))=>k (.d (.s (.int .i64 xs.length)))
 |some { desc:=.slice _,.. },some (.d (.s (.slice _ n _)))=>k (.d (.s (.int .i64 n)))
 |some { desc:=.slice _,.. },some (.arr _ _ n)=>k (.d (.s (.int .i64 n)))
 |some { desc:=.slice _,.. },some (.acc id)=>match X.rows[id]? with
  |some (.acc _ _ xs)=>k (.d (.s (.int .i64 xs.length)))
  |_=>False
 |some { desc:=.slice _,.. },some (.am id (j+1))=>match X.rows[id]? with
  |some (.amap _ _ es)=>∃s l,es[j]? = some (s,l)∧k (.d (.s (.int .i64 (List.length l))))
  |_=>False
 |_,_=>False

/-- Bytes told as data. -/
def bytesL:List (List Data)→Option (List Int)
 |[]=>some []
 |[.s (.int .u8 n)]::r=>match bytesL r with
  |some l=>some (n::l)
  |none=>none
 |_=>none
def bytesS(ns:List Int):ByteArray:=⟨(ns.map fun n=>UInt8.ofNat n.toNat).toArray⟩
def isByteT(T:Tab)(t:TypeId):Bool:=match T t with
 |some { desc:=.int .u8,.. }=>true
 |_=>false
def pConvB(T:Tab)(K:Option (Nat→Bool))(e:TypeId)(m:Nat)(xs:List (List Data))(k:PV→Prop):Prop:=match K,isByteT T e,Nat.beq m 1 with
 |some _,true,true=>∃ns,bytesL xs=some ns∧k (.d (.s (.string (bytesS ns))))
 |_,_,_=>False
def maxI(x y:Int):Int:=if y>x then y else x
/-- The operations that change no state: what they yield is handed on. -/
def pop(T:Tab)(G:Glob)(K:Option (Nat→Bool))(X:St):Op→(PV→Prop)→Prop
 |.move x,k=>match ev G X x with
  |some p=>k p
  |none=>False
 |.assign x,k=>match ev G X x with
  |some p=>k p
  |none=>False
 |.pick c x y,k=>match ev G X c with
  |some (.d (.s (.bool t)))=>match t with
   |true=>match ev G X x with
    |some p=>k p
    |none=>False
   |false=>match ev G X y with
    |some p=>k p
    |none=>False
  |_=>False
 |.nilCheck x,k=>match ev G X x with
  |some (.box i o)=>k (.box i o)
  |some (.eptr cs)=>k (.eptr cs)
  |some (.fn f cs)=>k (.fn f cs)
  |_=>False
 |.fieldAddr t x f,k=>pFieldAddr T t (ev G X x) f k
 |.indexAddr t x i,k=>pIndexAddr T X t (ev G X x) (ev G X i) k
 |.load t x,k=>pLoad T K X t (ev G X x) k
 |.field t x f,k=>pField T X t (ev G X x) f k
 |.binOp op t x y _,k=>pBin T op t (ev G X x) (ev G X y) (constO y) k
 |.unOp .not _ x,k=>match ev G X x with
  |some (.d (.s (.bool b)))=>k (.d (.s (.bool !b)))
  |_=>False
 |.unOp .neg _ x,k=>match ev G X x with
  |some (.d (.s (.int ik i)))=>k (.d (.s (.int ik (ik.wrap (0 - i)))))
  |_=>False
 |.convert src dst x,k=>match T src,T dst,ev G X x with
  |some { desc:=.int _,.. },some { desc:=.int jk,.. },some (.d (.s (.int _ i)))=>k (.d (.s (.int jk (jk.wrap i))))
  |some { desc:=.string,.. },some { desc:=.string,.. },some (.d (.s (.string s)))=>k (.d (.s (.string s)))
  |some { desc:=.slice e,.. },some { desc:=.string,.. },some (.d (.sl m xs))=>pConvB T K e m xs k
  |_,_,_=>False
 |.makeInterface t x,k=>match T t with
  |some { desc:=.iface,.. }=>False
  |none=>False
  |_=>match ev G X x with
   |some (.d x)=>k (.d (.ifc t x))
   |some (.acc _)=>False
   |some p=>k (.ifc t p)
   |none=>False
 |.extract x i,k=>match ev G X x with
  |some (.tup cs)=>match cs[i]? with
   |some p=>k p
   |none=>False
  |_=>False
 |.index t x i,k=>match T t,ev G X x,ev G X i with
  |some { desc:=.string,.. },some (.d (.s (.string s))),some (.d (.s (.int _ i)))=>0≤i∧i<s.size∧k (.d (.s (.int .u8 (byteAt s i))))
  |_,_,_=>False
 |.slice t x lo hi mx,k=>pSlice T X t (ev G X x) (lo.map (ev G X)) (hi.map (ev G X)) (mx.map (ev G X)) k
 |.lookup t x i ok,k=>pLookup T K X t (ev G X x) (ev G X i) ok k
 |.typeAssert x _ t ok,k=>pAssert T (ev G X x) t ok k
 |.call c,k=>match c.callee,c.args.toList,c.argTypes.toList with
  |.builtin .len,[x],[t]=>pLen T X t (ev G X x) k
  |.builtin .max,[x,y],_=>match ev G X x,ev G X y with
   |some (.d (.s (.int i a))),some (.d (.s (.int _ b)))=>k (.d (.s (.int i (maxI a b))))
   |_,_=>False
  |.builtin .max,[x,y,z],_=>match ev G X x,ev G X y,ev G X z with
   |some (.d (.s (.int i a))),some (.d (.s (.int _ b))),some (.d (.s (.int _ c)))=>k (.d (.s (.int i (maxI (maxI a b) c))))
   |_,_,_=>False
  |_,_,_=>False
 |_,_=>False

section
variable {P:Program}{G:Glob}{D:List Deferred}{N:Nat}{H:Nat→Option Value}{lim:Nat→Nat}{X:St}{a:Act}{w:World}{T:Tab}{K:Option (Nat→Bool)}

theorem add_plain(g j o:Nat):(⟨g,o,none⟩:Addr).add j=⟨g,o+j,none⟩:=by unfold Addr.add;split <;> simp_all

theorem run_under(hT:TabOk P T){t:TypeId}{i:TI}(h:T t=some i):∃d,TKOk i.desc d∧∀w,(underlying t).run P w=.ok d w:=by
 obtain ⟨⟨d,h1,h2⟩,_⟩:=hT t i h
 exact ⟨d,h2,fun w=>run_underlying h1 w⟩
theorem run_size(hT:TabOk P T){t:TypeId}{i:TI}(h:T t=some i)(w:World):(sizeOf t).run P w=.ok i.size w:=by
 obtain ⟨_,ti,h1,h2,_⟩:=hT t i h
 simp [sizeOf,typeInfo,h1,h2]
theorem run_isAgg(hT:TabOk P T){t:TypeId}{i:TI}(h:T t=some i)(w:World):(isAgg t).run P w=.ok i.desc.agg w:=by
 obtain ⟨d,h1,h2⟩:=run_under hT h
 cases hd:i.desc <;> rw [hd] at h1 <;> simp only [TKOk] at h1
 all_goals
  first
   | (subst h1;simp [isAgg,h2,TK.agg])
   | (obtain ⟨_,rfl,_⟩:=h1;simp [isAgg,h2,TK.agg])
   | (obtain ⟨_,rfl⟩:=h1;simp [isAgg,h2,TK.agg])
   | (obtain ⟨_,_,_,rfl⟩:=h1;simp [isAgg,h2,TK.agg])

/-- What it is to do an operation. -/
def Does(P:Program)(K:Option (Nat→Bool))(a:Act)(w:World)(H:Nat→Option Value)(lim:Nat→Nat)(o:Oper)(p:PV):Prop:=
 ∃v,(∀w1,Agr K H lim w w1→(execOp a.eval o).run P w1=.ok (.value v) w1)∧V H lim w p v

theorem elemOf_some{t:TypeId}{kk:Nat}(h:elemOf T t=some kk):∃i e j,T t=some i∧i.desc=.slice e∧T e=some j∧j.size=kk:=by
 unfold elemOf at h
 split at h
 ·rename_i e _ _ _ h1
  split at h
  ·rename_i j h2
   simp only [Option.some.injEq] at h
   exact ⟨_,e,j,h1,rfl,h2,h⟩
  cases h
 cases h
theorem fieldOf_some{t:TypeId}{f off:Nat}{i:TI}(h:fieldOf T t f=some (off,i)):∃j fs u,T t=some j∧j.desc=.struct fs∧fs[f]? = some (off,u)∧T u=some i:=by
 unfold fieldOf at h
 split at h
 ·rename_i fs _ _ _ h1
  split at h
  ·rename_i off' u h2
   split at h
   ·rename_i i' h3
    simp only [Option.some.injEq,Prod.mk.injEq] at h
    obtain ⟨rfl,rfl⟩:=h
    exact ⟨_,fs,u,h1,rfl,h2,h3⟩
   cases h
  cases h
 cases h

theorem indexAddr_slice(hT:TabOk P T){t:TypeId}{kk:Nat}(h:elemOf T t=some kk){b o n c:Nat}{ik:IntKind}{i:Int}(h0:0≤i)(h1:i<n)(w:World):
  (Instr.indexAt t (.slice (some ⟨b,o,none⟩) n c) (.int ik i)).run P w=.ok (.pointer (some ⟨b,o+i.toNat * kk,none⟩)) w:=by
 obtain ⟨ti,e,j,h2,h3,h4,h5⟩:=elemOf_some h
 obtain ⟨d,hd,hu⟩:=run_under hT h2
 rw [h3] at hd
 simp only [TKOk] at hd
 subst hd
 have hs:=run_size hT h4 w
 rw [h5] at hs
 simp [Instr.indexAt,asIntOf,hu,hs,h0,h1,add_plain]

theorem VCells_of{b:Nat}:∀(ds:List Data) (o:Nat) (zs:List Value),VDs lim w ds zs→(∀d,d∈ds→flatD d=true)→(∀j v,zs[j]? = some v→w.cell? ⟨b,o+j,none⟩=some v∧o+j<lim b)→VCells lim w b o ds
 |[],_,_,_,_,_=>by simp only [VCells]
 |c::cs,o,zs,h,hf,hz=>by
  simp only [VDs] at h
  obtain ⟨u,us,rfl,h1,h2⟩:=h
  simp only [VCells]
  obtain ⟨q1,q2⟩:=hz 0 u rfl
  refine ⟨⟨u,q1,q2,hf c (List.mem_cons_self ..),h1⟩,VCells_of cs (o+1) us h2 (fun d hd=>hf d (List.mem_cons_of_mem _ hd)) fun j v hj=>?_⟩
  have:=hz (j+1) v hj
  rw [show o+(j+1)=o+1+j from by omega] at this
  exact this
theorem VDs_split{ds es:List Data}{zs:List Value}(h:VDs lim w (ds++es) zs):VDs lim w ds (zs.take ds.length)∧VDs lim w es (zs.drop ds.length):=by
 have h1:=VDs_take h ds.length
 have h2:=VDs_drop h ds.length
 rw [List.take_left] at h1
 rw [List.drop_left] at h2
 exact ⟨h1,h2⟩
theorem VRow_of{b k:Nat}:∀(xs:List (List Data)) (o:Nat) (zs:List Value),VDs lim w xs.flatten zs→(∀x,x∈xs→x.length=k∧∀d,d∈x→flatD d=true)→(∀j v,zs[j]? = some v→w.cell? ⟨b,o+j,none⟩=some v∧o+j<lim b)→VRow lim w b k o xs
 |[],_,_,_,_,_=>by simp only [VRow]
 |x::xs,o,zs,h,hk,hz=>by
  simp only [List.flatten_cons] at h
  obtain ⟨h1,h2⟩:=VDs_split h
  have hx:x.length=k:=(hk x (List.mem_cons_self ..)).1
  simp only [VRow]
  refine ⟨hx,VCells_of x o _ h1 (hk x (List.mem_cons_self ..)).2 fun j v hj=>?_,VRow_of xs (o+k) _ h2 (fun y hy=>hk y (List.mem_cons_of_mem _ hy)) fun j v hj=>?_⟩
  ·exact hz j v (by rw [List.getElem?_take] at hj;split at hj <;> simp_all)
  have:=hz (x.length+j) v (by rw [List.getElem?_drop] at hj;exact hj)
  rw [hx,show o+(k+j)=o+k+j from by omega] at this
  exact this
/-- An owned row, told as data. -/
theorem acc_reads{id:Nat}{e:TypeId}{k:Nat}{xs:List (List Data)}(h:RowOk H lim w id (.acc e k xs)):∃u,H id=some u∧VD lim w (.sl k xs) u:=by
 obtain ⟨u,zs,hu,⟨hl,ho⟩,hz,hk,hpos,hlim⟩:=h
 refine ⟨u,hu,?_⟩
 simp only [VD]
 rcases ho with ⟨hv,hn⟩|⟨g,cap,cur,hv,_,hh,hnc,hcm,hcs,ht⟩
 ·rw [hv]
  exact ⟨none,0,0,rfl,hn.symm,Nat.le_refl _,by simp [maxLen],fun q=>absurd rfl q⟩
 rw [hv]
 refine ⟨_,_,cap,rfl,rfl,hnc,hcm,fun _=>⟨g,0,rfl,VRow_of xs 0 zs hz hk fun j v hj=>?_⟩⟩
 have hg:lim g=xs.length * k:=hlim g (by rw [hv];rfl)
 have hj':j<zs.length:=(List.getElem?_eq_some_iff.1 hj).1
 rw [hg,Nat.zero_add]
 refine ⟨?_,by omega⟩
 rw [← ht,List.getElem?_take] at hj
 split at hj
 ·simp only [World.cell?,hh]
  simpa using hj
 cases hj
theorem row_of(hR:Rep D G N H lim X a w){id:Nat}{r:Row}(h:X.rows[id]? = some r):RowOk H lim w id r:=hR.rows.row id r h

theorem index_data(hT:TabOk P T){t:TypeId}{kk:Nat}(he:elemOf T t=some kk){xs:List (List Data)}{v:Value}(hv:VD lim w (.sl kk xs) v){i:Int}(h0:0≤i){cs:List Data}(hc:xs[i.toNat]? = some cs)(ik:IntKind):
  ∃u,(∀w,(Instr.indexAt t v (.int ik i)).run P w=.ok u w)∧V H lim w (.eptr cs) u:=by
 simp only [VD] at hv
 obtain ⟨A,n,c,rfl,hn,_,_,hrow⟩:=hv
 have hlt:i.toNat<xs.length:=(List.getElem?_eq_some_iff.1 hc).1
 obtain ⟨b,off,rfl,hr⟩:=hrow (by omega)
 refine ⟨_,fun w=>indexAddr_slice hT he h0 (show i<(n:Int) by omega) w,?_⟩
 simp only [V]
 exact ⟨b,_,rfl,(VRow_get hr hc).2⟩

theorem ae_get{fz:Bool}:∀ {es:List (ByteArray×List Int)}{i:Nat}{ms:List MapEntry}{hs:List Value}{j:Nat}{s:ByteArray}{l:List Int},AE lim w fz i es ms hs→es[j]? = some (s,l)→
  ∃c ty cap,hs[j]? = some (.slice (some ⟨c,0,none⟩) l.length cap)∧(l.length≤cap∧cap≤maxLen)∧w.heap[c]? = some (.cells (l.map (Value.int .i64)).toArray ty (0,0))∧lim c=(match fz with|true=>l.length|false=>0)
 |[],_,_,_,_,_,_,_,h=>by cases h
 | (k,l')::r,i,ms,hs,0,s,l,h,hj=>by
  simp only [List.getElem?_cons_zero,Option.some.injEq,Prod.mk.injEq] at hj
  obtain ⟨rfl,rfl⟩:=hj
  obtain ⟨e,ms',c,ty,hs',cap,rfl,rfl,_,_,h3,h4,h5,h6,_⟩:=h
  exact ⟨c,ty,cap,by rw [List.getElem?_cons_zero,h3],h4,h5,h6⟩
 | (k,l')::r,i,ms,hs,j+1,s,l,h,hj=>by
  obtain ⟨e,ms',c,ty,hs',cap,rfl,rfl,_,_,_,_,_,_,h7⟩:=h
  rw [List.getElem?_cons_succ] at hj ⊢
  exact ae_get h7 hj
/-- What an owner of arrays has at a place. -/
theorem am_array(hR:RowsOk H lim w X.rows){id j:Nat}{t:TypeId}{fz:Bool}{es:List (ByteArray×List Int)}{v:Value}{s:ByteArray}{l:List Int}(hr:X.rows[id]? = some (.amap t fz es))(hv:V H lim w (.am id (j+1)) v)(hj:es[j]? = some (s,l)):
  ∃(c:Nat) (ty:TypeId) (vs:List Value) (cap:Nat),v=.slice (some ⟨c,0,none⟩) l.length cap∧H id=some (hdr vs)∧vs[j+1]? = some v∧(l.length≤cap∧cap≤maxLen)∧w.heap[c]? = some (.cells (l.map (Value.int .i64)).toArray ty (0,0))∧lim c=(match fz with|true=>l.length|false=>0):=by
 obtain ⟨b,ms,hs,h1,_,h3,_⟩:=hR.row id _ hr
 simp only [V] at hv
 obtain ⟨vs,q1,q2⟩:=hv
 rw [h1] at q1
 have q1:Value.map (some b)::hs=vs:=hdr_inj (Option.some.inj q1)
 obtain ⟨c,ty,cap,g1,g2,g3,g4⟩:=ae_get h3 hj
 rw [← q1,List.getElem?_cons_succ,g1] at q2
 cases q2
 exact ⟨c,ty,_,cap,rfl,h1,by rw [List.getElem?_cons_succ];exact g1,g2,g3,g4⟩
theorem am_map(hR:RowsOk H lim w X.rows){id:Nat}{t:TypeId}{fz:Bool}{es:List (ByteArray×List Int)}{v:Value}(hr:X.rows[id]? = some (.amap t fz es))(hv:V H lim w (.am id 0) v):
  ∃(b:Nat) (ms:Array MapEntry) (hs:List Value),v=.map (some b)∧H id=some (hdr (Value.map (some b)::hs))∧w.heap[b]? = some (.map ms es.length)∧AE lim w fz 0 es ms.toList hs∧lim b=0∧(b::hs.filterMap blk).Nodup:=by
 obtain ⟨b,ms,hs,h1,h2,h3,h4,h5⟩:=hR.row id _ hr
 simp only [V] at hv
 obtain ⟨vs,q1,q2⟩:=hv
 rw [h1] at q1
 have q1:Value.map (some b)::hs=vs:=hdr_inj (Option.some.inj q1)
 rw [← q1,List.getElem?_cons_zero] at q2
 cases q2
 exact ⟨b,ms,hs,rfl,h1,h2,h3,h4,h5⟩
theorem own_tuple{vs:List Value}{j:Nat}{v:Value}{b:Nat}(h:vs[j]? = some v)(hb:blk v=some b):own (hdr vs) b:=⟨v,by simpa using List.mem_of_getElem? h,hb⟩
theorem pIndexAddr_sound (hT:TabOk P T) (hR:Rep D G N H lim X a w) {o:Oper}{t:TypeId}{x i:Operand}{k:PV→Prop}(ho:o.op=.indexAddr t x i)
  (h:pIndexAddr T X t (ev G X x) (ev G X i) k):∃p,Does P K a w H lim o p∧k p:=by
 unfold pIndexAddr at h
 split at h
 ·rename_i kk k' xs ik i' he hx hi
  split at h
  case h_2=>exact h.elim
  rename_i hb
  have:=Nat.eq_of_beq_eq_true hb
  subst this
  obtain ⟨h0,cs,hc,hk⟩:=h
  have vx:=ev_sound hR hx
  have vi:=ev_sound hR hi
  simp only [V,VD.eq_1] at vx vi
  obtain ⟨u,h1,h2⟩:=index_data (H:=H) hT he vx h0 hc ik
  exact ⟨_,⟨u,fun _ _=>by simp [execOp,ho,vi,h1],h2⟩,hk⟩
 ·rename_i kk id ik i' he hx hi
  split at h
  ·rename_i e' k' xs hrw
   split at h
   case h_2=>exact h.elim
   rename_i hb
   have:=Nat.eq_of_beq_eq_true hb
   subst this
   obtain ⟨h0,cs,hc,hk⟩:=h
   have vx:=ev_sound hR hx
   have vi:=ev_sound hR hi
   simp only [V,VD.eq_1] at vx vi
   obtain ⟨hv,hh,hrd⟩:=acc_reads (row_of hR hrw)
   rw [vx] at hh
   cases hh
   obtain ⟨u,h1,h2⟩:=index_data (H:=H) hT he hrd h0 hc ik
   exact ⟨_,⟨u,fun _ _=>by simp [execOp,ho,vi,h1],h2⟩,hk⟩
  exact h.elim
 ·rename_i kk id off len ik i' he hx hi
  obtain ⟨h0,h1,hk⟩:=h
  have vx:=ev_sound hR hx
  have vi:=ev_sound hR hi
  simp only [V,VD] at vx vi
  obtain ⟨b,cap,hH,hv,_,_⟩:=vx
  refine ⟨_,⟨.pointer (some ⟨b,off+i'.toNat * kk,none⟩),?_,?_⟩,hk⟩
  ·intro w1 _;simp [execOp,ho,hv,vi,indexAddr_slice hT he h0 (show i'<(len:Int) by omega)]
  simp only [V];exact ⟨b,hH,rfl⟩
 ·rename_i kk id j ik i' he hx hi
  split at h
  ·rename_i t' fz es hb hrw
   have e1:=Nat.eq_of_beq_eq_true hb
   subst e1
   obtain ⟨h0,s,l,hj,h1,hk⟩:=h
   have vi:=ev_sound hR hi
   simp only [V,VD.eq_1] at vi
   obtain ⟨c,ty,vs,cap,hv,hH,hvj,_⟩:=am_array hR.rows hrw (ev_sound hR hx) hj
   rw [hv] at hvj
   refine ⟨_,⟨.pointer (some ⟨c,0+i'.toNat * 1,none⟩),?_,?_⟩,hk⟩
   ·intro w1 _;simp only [execOp,ho,hv,vi];rw [Sem.run_bind,indexAddr_slice hT he h0 h1];rfl
   simp only [V];exact ⟨vs,c,l.length,cap,hH,hvj,by simp⟩
  exact h.elim
 exact h.elim
end
end Go.Abs
end
section
namespace Go.Abs
open Go
section
variable {P:Program}{G:Glob}{D:List Deferred}{N:Nat}{H:Nat→Option Value}{lim:Nat→Nat}{X:St}{a:Act}{w:World}{T:Tab}{K:Option (Nat→Bool)}

theorem dem_ok(hR:RowsOk H lim w X.rows):(∀id i v,dem X.rows id=.to i→H id=some v→H i=some v)∧(∀id x v,dem X.rows id=.data x→H id=some v→VD lim w x v):=by
 constructor
 ·intro id i v h hv
  unfold dem at h
  split at h
  ·cases h
  ·simp only [Sb.to.injEq] at h;subst h;exact hv
  ·simp only [Sb.to.injEq] at h;subst h;exact hv
  ·simp only [Sb.to.injEq] at h;subst h;exact hv
  ·simp only [Sb.to.injEq] at h;subst h;exact hv
  cases h
 intro id x v h hv
 unfold dem at h
 split at h
 ·rename_i e k xs hr
  simp only [Sb.data.injEq] at h
  subst h
  obtain ⟨u,hu,hr'⟩:=acc_reads (hR.row id _ hr)
  rw [hv] at hu
  cases hu
  exact hr'
 ·cases h
 ·cases h
 ·cases h
 ·cases h
 cases h
theorem Vs_dem(hR:RowsOk H lim w X.rows){ps qs:List PV}{vs:List Value}(h:PV.subs (dem X.rows) ps=some qs)(hv:Vs H lim w ps vs):Vs H lim w qs vs:=
 Vs.sub (Fr.refl (fun _=>False) lim w) (dem_ok hR).1 (dem_ok hR).2 ps qs vs h hv

theorem run_loadVar(hT:TabOk P T){t:TypeId}{i:TI}(h:T t=some i)(ad:Addr)(w:World):
  (loadVar t ad).run P w=match i.desc.agg with
   |true=>(do pure (Value.agg (← loadCells ad i.size)):Sem Value).run P w
   |false=>(load ad).run P w:=by
 have h1:=run_isAgg hT h w
 have h2:=run_size hT h w
 cases hd:i.desc.agg <;> rw [hd] at h1
 ·simp [loadVar,h1]
 simp [loadVar,h1,h2]

/-- The cells of a box, as the machine loads them. -/
theorem run_boxcells{b ty:Nat}{cs:List Value}(h:w.heap[b]? = some (.cells cs.toArray ty (0,0))):∀(n off i:Nat) (acc:Array Value),off+i+n≤cs.length→
  (loadCellsFrom ⟨b,off,none⟩ i n acc).run P w=.ok (acc++((cs.drop (off+i)).take n).toArray) w:=by
 intro n
 induction n with
 |zero=>intro off i acc _;simp [loadCellsFrom]
 |succ n ih=>
  intro off i acc hl
  have hlt:off+i<cs.length:=by omega
  have hld:(load ((⟨b,off,none⟩:Addr).add i)).run P w=.ok cs[off+i] w:=by
   rw [add_plain]
   simp [load,Sem.run,World.cell?,h,List.getElem?_eq_getElem hlt]
  simp only [loadCellsFrom,Sem.run_bind,hld,Result.andThen]
  rw [ih off (i+1) (acc.push cs[off+i]) (by omega)]
  rw [List.drop_eq_getElem_cons hlt,List.take_succ_cons]
  simp [Nat.add_assoc]

theorem pLoad_sound (hT:TabOk P T) (hR:Rep D G N H lim X a w) {o:Oper}{t:TypeId}{x:Operand}{k:PV→Prop}(ho:o.op=.load t x)
  (h:pLoad T K X t (ev G X x) k):∃p,Does P K a w H lim o p∧k p:=by
 unfold pLoad at h
 cases K with
 |none=>exact h.elim
 |some K=>
 simp only at h
 unfold pLoad1 at h
 split at h
 ·rename_i i cs hi hx
  have vx:=ev_sound hR hx
  simp only [V] at vx
  obtain ⟨b,off,hv,hc⟩:=vx
  have hrun:∀w,(execOp a.eval o).run P w=((loadVar t ⟨b,off,none⟩).run P w).andThen fun v w=>.ok (.value v) w:=by
   intro w;simp [execOp,ho,hv,Instr.loadAt,Instr.sureAddr]
  split at h
  ·rename_i hd
   split at h
   case h_2=>exact h.elim
   rename_i hlb
   have hl:=Nat.le_of_ble_eq_true hlb
   have hk:=h
   obtain ⟨vs,hvs,hr⟩:=run_cells (P:=P) (VCells_take hc i.size)
   have hr':=fun w1 (hA:Agr (some K) H lim w w1)=>hr K H w1 hA 0 #[] off rfl
   simp only [List.length_take,Nat.min_eq_left hl] at hr'
   refine ⟨_,⟨.agg vs.toArray,?_,?_⟩,hk⟩
   ·intro w1 hA
    rw [hrun,run_loadVar hT hi,hd]
    simp [loadCells,hr' w1 hA,Result.andThen]
   simp only [V,VD];exact ⟨vs,rfl,hvs⟩
  rename_i hd
  split at h
  ·rename_i c cs'
   simp only [VCells] at hc
   obtain ⟨⟨v,h1,h2,_,h3⟩,_⟩:=hc
   refine ⟨_,⟨v,?_,?_⟩,h⟩
   ·intro w1 hA
    rw [hrun,run_loadVar hT hi,hd]
    simp [load,Sem.run,hA.cell h1 h2,Result.andThen]
   simpa only [V] using h3
  exact h.elim
 ·rename_i i id off hi hx
  have vx:=ev_sound hR hx
  simp only [V] at vx
  obtain ⟨b,hH,hv⟩:=vx
  have hrun:∀w,(execOp a.eval o).run P w=((loadVar t ⟨b,off,none⟩).run P w).andThen fun v w=>.ok (.value v) w:=by
   intro w;simp [execOp,ho,hv,Instr.loadAt,Instr.sureAddr]
  split at h
  ·rename_i ty cells hK hrw
   obtain ⟨b',cs,hH',hb,hcs,_⟩:=row_of hR hrw
   rw [hH] at hH'
   simp only [Option.some.injEq,Value.pointer.injEq,Addr.mk.injEq,and_true] at hH'
   subst hH'
   have hlen:=Vs_length hcs
   split at h
   ·rename_i hd
    split at h
    ·rename_i qs hlb hq
     have hl:=Nat.le_of_ble_eq_true hlb
     refine ⟨_,⟨.agg ((cs.drop off).take i.size).toArray,?_,V_mkAgg (Vs_dem hR.rows hq (Vs_take (Vs_drop hcs off) i.size))⟩,h⟩
     intro w1 hA
     rw [hrun,run_loadVar hT hi,hd]
     have:=run_boxcells (P:=P) ((hA.2 _ _ b hK hH rfl rfl).trans hb) i.size off 0 #[] (by omega)
     simp [loadCells,this,Result.andThen]
    exact h.elim
   rename_i hd
   split at h
   ·rename_i p hp
    obtain ⟨v,hv1,hv2⟩:=Vs_get hcs hp
    refine ⟨_,⟨v,?_,hv2⟩,h⟩
    intro w1 hA
    rw [hrun,run_loadVar hT hi,hd]
    have hb1:=(hA.2 _ _ b hK hH rfl rfl).trans hb
    simp [load,Sem.run,World.cell?,hb1,hv1,Result.andThen]
   exact h.elim
  exact h.elim
 ·rename_i i id j off hi hx
  have vx:=ev_sound hR hx
  simp only [V] at vx
  obtain ⟨vs,b,n,c,hH,hvj,hv⟩:=vx
  have hrun:∀w,(execOp a.eval o).run P w=((loadVar t ⟨b,off,none⟩).run P w).andThen fun v w=>.ok (.value v) w:=by
   intro w;simp [execOp,ho,hv,Instr.loadAt,Instr.sureAddr]
  split at h
  ·rename_i t' fz es hK hrw hd
   obtain ⟨s,l,m,hj,hm,hk⟩:=h
   obtain ⟨b',ty,vs',cap,e1,e2,_,_,e4,_⟩:=am_array hR.rows hrw (by simp only [V];exact ⟨vs,hH,hvj⟩) hj
   simp only [Value.slice.injEq,Option.some.injEq,Addr.mk.injEq,and_true] at e1
   obtain ⟨rfl,_⟩:=e1
   refine ⟨_,⟨.int .i64 m,?_,by simp only [V,VD]⟩,hk⟩
   intro w1 hA
   rw [hrun,run_loadVar hT hi,hd]
   have hb1:=(hA.2 id _ b hK hH rfl (own_tuple hvj rfl)).trans e4
   simp [load,Sem.run,World.cell?,hb1,hm,Result.andThen]
  exact h.elim
 exact h.elim

theorem run_part(hT:TabOk P T){t:TypeId}{i:TI}(h:T t=some i)(cs:Array Value)(off:Nat)(w:World):
  (part t cs off).run P w=match i.desc.agg with
   |true=>.ok (.agg (cs.extract off (off+i.size))) w
   |false=>(match cs[off]? with|some v=>pure v|none=>stuck "part: no such cell" : Sem Value).run P w:=by
 have h1:=run_isAgg hT h w
 have h2:=run_size hT h w
 cases hd:i.desc.agg <;> rw [hd] at h1
 ·simp only [part,Sem.run_bind,h1,Result.andThen]
  cases cs[off]? <;> rfl
 simp [part,h1,h2]

theorem field_at{j:TI}{t:TypeId}{fs:List (Nat×TypeId)}{f off:Nat}{u:TypeId}(hT:TabOk P T)(h1:T t=some j)(h2:j.desc=.struct fs)(h3:fs[f]? = some (off,u)):
  ∃fa fd,(∀w,(underlying t).run P w=.ok (.struct fa) w)∧fa[f]? = some fd∧fd.offset=off∧fd.type=u:=by
 obtain ⟨d,hd,hu⟩:=run_under hT h1
 rw [h2] at hd
 simp only [TKOk] at hd
 obtain ⟨fa,rfl,hfa⟩:=hd
 rw [← hfa,List.getElem?_map,Array.getElem?_toList] at h3
 obtain ⟨fd,hfd,he⟩:=Option.map_eq_some_iff.1 h3
 simp only [Prod.mk.injEq] at he
 exact ⟨fa,fd,hu,hfd,he.1,he.2⟩

theorem pField_sound (hT:TabOk P T) (hR:Rep D G N H lim X a w) {o:Oper}{t:TypeId}{x:Operand}{f:Nat}{k:PV→Prop}(ho:o.op=.field t x f)
  (h:pField T X t (ev G X x) f k):∃p,Does P K a w H lim o p∧k p:=by
 unfold pField at h
 split at h
 ·rename_i off i cs hf hx
  obtain ⟨j,fs,u,h1,h2,h3,h4⟩:=fieldOf_some hf
  obtain ⟨fa,fd,hu,hfd,hoff,hty⟩:=field_at hT h1 h2 h3
  have vx:=ev_sound hR hx
  simp only [V,VD] at vx
  obtain ⟨vs,hv,hvs⟩:=vx
  have hlen:=VDs_length hvs
  have hrun:∀w,(execOp a.eval o).run P w=((part u vs.toArray off).run P w).andThen fun v w=>.ok (.value v) w:=by
   intro w;simp [execOp,ho,hv,Instr.field,hu,hfd,asAgg,hoff,hty]
  split at h
  ·rename_i hd
   split at h
   case h_2=>exact h.elim
   refine ⟨_,⟨.agg ((vs.drop off).take i.size).toArray,?_,?_⟩,h⟩
   ·intro w1 _;rw [hrun,run_part hT h4,hd]
    simp [Result.andThen,List.extract_eq_take_drop]
   simp only [V,VD];exact ⟨_,rfl,VDs_take (VDs_drop hvs off) _⟩
  rename_i hd
  split at h
  ·rename_i c hc
   obtain ⟨v,hv1,hv2⟩:=VDs_get hvs hc
   refine ⟨_,⟨v,?_,by simpa only [V] using hv2⟩,h⟩
   intro w1 _;rw [hrun,run_part hT h4,hd]
   simp [hv1,Result.andThen]
  exact h.elim
 ·rename_i off i cs hf hx
  obtain ⟨j,fs,u,h1,h2,h3,h4⟩:=fieldOf_some hf
  obtain ⟨fa,fd,hu,hfd,hoff,hty⟩:=field_at hT h1 h2 h3
  have vx:=ev_sound hR hx
  simp only [V] at vx
  obtain ⟨vs,hv,hvs⟩:=vx
  have hlen:=Vs_length hvs
  have hrun:∀w,(execOp a.eval o).run P w=((part u vs.toArray off).run P w).andThen fun v w=>.ok (.value v) w:=by
   intro w;simp [execOp,ho,hv,Instr.field,hu,hfd,asAgg,hoff,hty]
  split at h
  ·rename_i hd
   split at h
   ·rename_i qs _ hq
    refine ⟨_,⟨.agg ((vs.drop off).take i.size).toArray,?_,V_mkAgg (Vs_dem hR.rows hq (Vs_take (Vs_drop hvs off) i.size))⟩,h⟩
    intro w1 _;rw [hrun,run_part hT h4,hd]
    simp [Result.andThen,List.extract_eq_take_drop]
   exact h.elim
  rename_i hd
  split at h
  ·rename_i c hc
   obtain ⟨v,hv1,hv2⟩:=Vs_get hvs hc
   refine ⟨_,⟨v,?_,hv2⟩,h⟩
   intro w1 _;rw [hrun,run_part hT h4,hd]
   simp [hv1,Result.andThen]
  exact h.elim
 exact h.elim

theorem pFieldAddr_sound (hT:TabOk P T) (hR:Rep D G N H lim X a w) {o:Oper}{t:TypeId}{x:Operand}{f:Nat}{k:PV→Prop}(ho:o.op=.fieldAddr t x f)
  (h:pFieldAddr T t (ev G X x) f k):∃p,Does P K a w H lim o p∧k p:=by
 unfold pFieldAddr at h
 split at h
 ·rename_i off i id off' hf hx
  obtain ⟨j,fs,u,h1,h2,h3,h4⟩:=fieldOf_some hf
  obtain ⟨fa,fd,hu,hfd,hoff,hty⟩:=field_at hT h1 h2 h3
  have hs:=run_size hT h4
  have vx:=ev_sound hR hx
  simp only [V] at vx
  obtain ⟨b,hH,hv⟩:=vx
  split at h
  case h_1=>exact h.elim
  rename_i hz
  have hz':i.size≠0:=fun e=>by rw [e] at hz;cases hz
  refine ⟨_,⟨.pointer (some ⟨b,off'+off,none⟩),?_,by simp only [V];exact ⟨b,hH,rfl⟩⟩,h⟩
  intro w1 _;simp [execOp,ho,hv,Instr.fieldAt,hu,hfd,Instr.sureAddr,fieldPlace,hty,hs,hz',hoff,add_plain]
 ·rename_i off i cs hf hx
  obtain ⟨j,fs,u,h1,h2,h3,h4⟩:=fieldOf_some hf
  obtain ⟨fa,fd,hu,hfd,hoff,hty⟩:=field_at hT h1 h2 h3
  have hs:=run_size hT h4
  have vx:=ev_sound hR hx
  simp only [V] at vx
  obtain ⟨b,o',hv,hc⟩:=vx
  split at h
  case h_1=>exact h.elim
  rename_i hz
  have hz':i.size≠0:=fun e=>by rw [e] at hz;cases hz
  refine ⟨_,⟨.pointer (some ⟨b,o'+off,none⟩),?_,by simp only [V];exact ⟨b,_,rfl,VCells_drop hc off⟩⟩,h⟩
  intro w1 _;simp [execOp,ho,hv,Instr.fieldAt,hu,hfd,Instr.sureAddr,fieldPlace,hty,hs,hz',hoff,add_plain]
 exact h.elim
end
end Go.Abs
end
section
namespace Go.Abs
open Go
section
variable {P:Program}{G:Glob}{D:List Deferred}{N:Nat}{H:Nat→Option Value}{lim:Nat→Nat}{X:St}{a:Act}{w:World}{T:Tab}{K:Option (Nat→Bool)}

theorem V_s(v:Value):V H lim w (.d (.s v)) v:=by simp only [V,VD]
theorem pIntOp_sound{op:BinOp}{ik:IntKind}{x y:Int}{k:PV→Prop}(h:pIntOp op ik x y k)(t:TypeId):
    ∃p v,(∀w,(binOp op t (.int ik x) (.int ik y)).run P w=.ok v w)∧V H lim w p v∧k p:=by
  cases op <;> simp only [pIntOp] at h
  all_goals first
    |exact ⟨_,_,fun _=>by simp [binOp,Op.intArith,Op.intCmp],V_s _,h⟩
    |exact ⟨_,_,fun _=>by simp [binOp,Op.intDiv,h.1],V_s _,h.2⟩
theorem pStrOp_sound{op:BinOp}{x y:ByteArray}{k:PV→Prop}(h:pStrOp op x y k)(t:TypeId):
    ∃p v,(∀w,(binOp op t (.string x) (.string y)).run P w=.ok v w)∧V H lim w p v∧k p:=by
  cases op <;> simp only [pStrOp] at h
  all_goals first
    |exact ⟨_,_,fun _=>by simp [binOp,Op.stringOp],V_s _,h⟩
    | (refine ⟨_,_,?_,V_s _,h.2⟩
       intro w
       have h1:¬(((x.size+y.size:Nat):Int)>IntKind.i64.max):=by
         have e:IntKind.i64.max=9223372036854775807:=by decide
         rw [e];omega
       simp only [binOp,Op.stringOp,if_neg h1,Sem.run_pure])
theorem isNilI_V{p:PV}{v:Value}(h:isNilI p=true)(hv:V H lim w p v):v=.nilIface:=by
  unfold isNilI at h
  split at h
  · simpa only [V,VD] using hv
  cases h
theorem isIfc_V{p:PV}{v:Value}(h:isIfc p=true)(hv:V H lim w p v):∃t u,v=.iface t u:=by
  unfold isIfc at h
  split at h
  · simp only [V,VD] at hv;obtain ⟨u,rfl,_⟩:=hv;exact ⟨_,u,rfl⟩
  · simp only [V] at hv;obtain ⟨u,rfl,_⟩:=hv;exact ⟨_,u,rfl⟩
  · simp only [V,VD] at hv;exact ⟨_,_,hv⟩
  cases h
theorem isBoolT_run(hT:TabOk P T){t:TypeId}(h:isBoolT T t=true)(w:World):(underlying t).run P w=.ok .bool w:=by
  unfold isBoolT at h
  split at h
  · rename_i hd
    obtain ⟨d,hd',hu⟩:=run_under hT hd
    simp only [TKOk] at hd'
    subst hd'
    exact hu w
  cases h
theorem isIfaceT_run(hT:TabOk P T){t:TypeId}(h:isIfaceT T t=true):∃ms,∀w,(underlying t).run P w=.ok (.interface ms) w:=by
  unfold isIfaceT at h
  split at h
  · rename_i hd
    obtain ⟨d,hd',hu⟩:=run_under hT hd
    simp only [TKOk] at hd'
    obtain ⟨ms,rfl⟩:=hd'
    exact ⟨ms,hu⟩
  cases h
theorem isSlT_run(hT:TabOk P T){t:TypeId}(h:isSlT T t=true):∃e,∀w,(underlying t).run P w=.ok (.slice e) w:=by
  unfold isSlT at h
  split at h
  · rename_i hd
    obtain ⟨d,hd',hu⟩:=run_under hT hd
    simp only [TKOk] at hd'
    subst hd'
    exact ⟨_,hu⟩
  cases h
theorem equalIn_sl(d:Nat){t e:TypeId}(hu:∀w,(underlying t).run P w=.ok (.slice e) w)(A:Option Addr)(n c:Nat)(w:World):(Op.equalIn (d+1) t (.slice A n c) (.slice none 0 0)).run P w=.ok A.isNone w:=by
  cases A <;> simp [Op.equalIn,Sem.run_bind,hu,Result.andThen,Sem.run_pure]
theorem equal_sl{t e:TypeId}(hu:∀w,(underlying t).run P w=.ok (.slice e) w)(A:Option Addr)(n c:Nat)(w:World):(Op.equal t (.slice A n c) (.slice none 0 0)).run P w=.ok A.isNone w:=equalIn_sl 9999 hu A n c w
theorem nilOf_V{p:PV}{u:Value}(hs:isSl p=true)(h:V H lim w p u):∃A n c,u=.slice A n c∧nilOf p A.isNone:=by
  unfold isSl at hs
  split at hs
  · simp only [V,VD] at h
    exact ⟨_,_,_,h,rfl⟩
  · simp only [V,VD] at h
    obtain ⟨A,n,c,rfl,hn,_,_,hr⟩:=h
    refine ⟨_,_,_,rfl,fun hx=>?_⟩
    obtain ⟨b,o,rfl,_⟩:=hr (by intro q;rw [q] at hn;exact hx (List.eq_nil_of_length_eq_zero hn.symm))
    rfl
  · simp only [V] at h
    obtain ⟨b,cap,_,rfl,_⟩:=h
    exact ⟨_,_,_,rfl,rfl⟩
  cases hs
theorem eqGuard_none{op:BinOp}{t:TypeId}{x y:Operand}{u v:Value}(h:(∀cs ds,u=.agg cs→v=.agg ds→False)∧(u=.nilIface→v=.nilIface→(∃q,x=.const q)∨∃q,y=.const q))(w:World):
    (eqGuard op t x y u v).run P w=.ok () w:=by
  unfold eqGuard
  cases op
  case eql|neq=>
    simp only [Bool.not_true,Bool.false_eq_true,if_false]
    split
    · obtain ⟨q,rfl⟩|⟨q,rfl⟩:=h.2 rfl rfl <;> simp
    · exact (h.1 _ _ rfl rfl).elim
    simp
  all_goals simp
theorem equalIn_bool(d:Nat){t:TypeId}(hu:∀w,(underlying t).run P w=.ok .bool w)(s u:Bool)(w:World):(Op.equalIn (d+1) t (.bool s) (.bool u)).run P w=.ok (s==u) w:=by
  simp only [Op.equalIn,Sem.run_bind,hu,Result.andThen,Sem.run_pure]
theorem equalIn_nil2(d:Nat){t:TypeId}{ms:Array (String×TypeId)}(hu:∀w,(underlying t).run P w=.ok (.interface ms) w)(w:World):(Op.equalIn (d+1) t .nilIface .nilIface).run P w=.ok true w:=by
  simp only [Op.equalIn,Sem.run_bind,hu,Result.andThen,Sem.run_pure]
theorem equalIn_nil1(d:Nat){t:TypeId}{ms:Array (String×TypeId)}(hu:∀w,(underlying t).run P w=.ok (.interface ms) w)(tt:TypeId)(v:Value)(w:World):(Op.equalIn (d+1) t (.iface tt v) .nilIface).run P w=.ok false w:=by
  simp only [Op.equalIn,Sem.run_bind,hu,Result.andThen,Sem.run_pure]
theorem equal_bool{t:TypeId}(hu:∀w,(underlying t).run P w=.ok .bool w)(s u:Bool)(w:World):(Op.equal t (.bool s) (.bool u)).run P w=.ok (s==u) w:=equalIn_bool 9999 hu s u w
theorem equal_nil2{t:TypeId}{ms:Array (String×TypeId)}(hu:∀w,(underlying t).run P w=.ok (.interface ms) w)(w:World):(Op.equal t .nilIface .nilIface).run P w=.ok true w:=equalIn_nil2 9999 hu w
theorem equal_nil1{t:TypeId}{ms:Array (String×TypeId)}(hu:∀w,(underlying t).run P w=.ok (.interface ms) w)(tt:TypeId)(v:Value)(w:World):(Op.equal t (.iface tt v) .nilIface).run P w=.ok false w:=equalIn_nil1 9999 hu tt v w

theorem pBin_sound (hT:TabOk P T) (hR:Rep D G N H lim X a w) {o:Oper}{op:BinOp}{t yt:TypeId}{x y:Operand}{k:PV→Prop}(ho:o.op=.binOp op t x y yt)
    (h:pBin T op t (ev G X x) (ev G X y) (constO y) k):∃p,Does P K a w H lim o p∧k p:=by
  have key:∀u v,a.eval x=u→a.eval y=v→((∀cs ds,u=.agg cs→v=.agg ds→False)∧(u=.nilIface→v=.nilIface→(∃q,x=.const q)∨∃q,y=.const q))→
      (∃p r,(∀w,(binOp op t u v).run P w=.ok r w)∧V H lim w p r∧k p)→∃p,Does P K a w H lim o p∧k p:=by
    intro u v hu hv hg ⟨p,r,h1,h2,h3⟩
    refine ⟨p,⟨r,?_,h2⟩,h3⟩
    intro w1 _
    simp [execOp,ho,hu,hv,eqGuard_none hg,h1]
  unfold pBin at h
  split at h
  · rename_i ik i jk j hx hy
    split at h
    case h_2=>exact h.elim
    rename_i hb
    have:=of_decide_eq_true hb
    subst this
    have vx:=ev_sound hR hx
    have vy:=ev_sound hR hy
    simp only [V,VD] at vx vy
    exact key _ _ vx vy ⟨by simp,by simp⟩ (pIntOp_sound h t)
  · rename_i s u hx hy
    have vx:=ev_sound hR hx
    have vy:=ev_sound hR hy
    simp only [V,VD] at vx vy
    exact key _ _ vx vy ⟨by simp,by simp⟩ (pStrOp_sound h t)
  · rename_i s u hx hy
    have vx:=ev_sound hR hx
    have vy:=ev_sound hR hy
    simp only [V,VD] at vx vy
    refine key _ _ vx vy ⟨by simp,by simp⟩ ?_
    split at h
    · rename_i hb
      have hu:=equal_bool (isBoolT_run hT hb)
      cases op <;> simp only [pBoolOp] at h
      all_goals first
        |exact h.elim
        |exact ⟨_,_,fun _=>by simp only [binOp,Sem.run_bind,hu,Result.andThen,Sem.run_pure],V_s _,h⟩
    exact h.elim
  · rename_i p q _ _ _ hx hy
    have vx:=ev_sound hR hx
    have vy:=ev_sound hR hy
    split at h
    · rename_i hi hcy hq
      obtain ⟨ms,hu⟩:=isIfaceT_run hT hi
      have e2:=equal_nil2 hu
      have e1:=equal_nil1 hu
      have hy':=isNilI_V hq vy
      have hcy':∃c,y=.const c:=by
        cases y <;> simp only [constO] at hcy
        all_goals try cases hcy
        exact ⟨_,rfl⟩
      cases hp:isNilI p with
      |true=>
        have hx':=isNilI_V hp vx
        rw [hp] at h
        cases op <;> simp only [pNilOp] at h
        all_goals first
          |exact h.elim
          |exact key _ _ hx' hy' ⟨by simp,fun _ _=>.inr hcy'⟩ ⟨_,_,fun _=>by simp only [binOp,Sem.run_bind,e2,Result.andThen,Sem.run_pure,Bool.not_true],V_s _,h⟩
      |false=>
        rw [hp] at h
        cases hq':isIfc p with
        |true=>
          obtain ⟨tt,uu,hx'⟩:=isIfc_V hq' vx
          rw [hq'] at h
          cases op <;> simp only [pNilOp] at h
          all_goals first
            |exact h.elim
            |exact key _ _ hx' hy' ⟨by simp,by simp⟩ ⟨_,_,fun _=>by simp only [binOp,Sem.run_bind,e1,Result.andThen,Sem.run_pure,Bool.not_false],V_s _,h⟩
        |false=>
          rw [hq'] at h
          cases op <;> simp only [pNilOp] at h
    split at h
    · rename_i hi hp hq
      obtain ⟨e,hu⟩:=isSlT_run hT hi
      obtain ⟨A,n,c,hx',hn⟩:=nilOf_V hp vx
      have hy':a.eval y=.slice none 0 0:=by
        unfold isNilS at hq
        split at hq
        · simpa only [V,VD] using vy
        cases hq
      have h:=h _ hn
      refine key _ _ hx' hy' ⟨by simp,by simp⟩ ?_
      have e1:=equal_sl hu A n c
      cases hA:A.isNone with
      |true=>
        rw [hA] at h e1
        cases op <;> simp only [pNilOp] at h
        all_goals exact ⟨_,_,fun _=>by simp only [binOp,Sem.run_bind,e1,Result.andThen,Sem.run_pure,Bool.not_true],V_s _,h⟩
      |false=>
        rw [hA] at h e1
        cases op <;> simp only [pNilOp] at h
        all_goals exact ⟨_,_,fun _=>by simp only [binOp,Sem.run_bind,e1,Result.andThen,Sem.run_pure,Bool.not_false],V_s _,h⟩
    exact h.elim
  exact h.elim

theorem pLen_sound (hT:TabOk P T) (hR:Rep D G N H lim X a w) {t:TypeId}{x:Operand}{k:PV→Prop}(ty:TypeId)
    (h:pLen T X t (ev G X x) k):∃p v,(∀w,(Builtin.len_ #[t] ty #[a.eval x]).run P w=.ok v w)∧V H lim w p v∧k p:=by
  unfold pLen at h
  split at h
  · rename_i hd hx
    obtain ⟨d,hd',hu⟩:=run_under hT hd
    simp only [TKOk] at hd'
    subst hd'
    have vx:=ev_sound hR hx
    simp only [V,VD] at vx
    exact ⟨_,_,fun _=>by simp [Builtin.len_,hu,vx,goInt],V_s _,h⟩
  · rename_i hd hx
    obtain ⟨d,hd',hu⟩:=run_under hT hd
    simp only [TKOk] at hd'
    subst hd'
    have vx:=ev_sound hR hx
    simp only [V,VD] at vx
    obtain ⟨A,n,c,hv,rfl,_⟩:=vx
    exact ⟨_,_,fun _=>by simp [Builtin.len_,hu,hv,goInt],V_s _,h⟩
  · rename_i hd hx
    obtain ⟨d,hd',hu⟩:=run_under hT hd
    simp only [TKOk] at hd'
    subst hd'
    have vx:=ev_sound hR hx
    simp only [V,VD] at vx
    exact ⟨_,_,fun _=>by simp [Builtin.len_,hu,vx,goInt],V_s _,h⟩
  · rename_i hd hx
    obtain ⟨d,hd',hu⟩:=run_under hT hd
    simp only [TKOk] at hd'
    subst hd'
    have vx:=ev_sound hR hx
    simp only [V] at vx
    obtain ⟨b,cap,_,hv,_⟩:=vx
    exact ⟨_,_,fun _=>by simp [Builtin.len_,hu,hv,goInt],V_s _,h⟩
  · rename_i hd hx
    obtain ⟨d,hd',hu⟩:=run_under hT hd
    simp only [TKOk] at hd'
    subst hd'
    have vx:=ev_sound hR hx
    simp only [V] at vx
    split at h
    · rename_i e kk xs hrw
      obtain ⟨q,hq,this⟩:=acc_reads (row_of hR hrw)
      rw [vx] at hq
      simp only [VD] at this
      obtain ⟨A,n,c,hv,rfl,_⟩:=this
      cases hq
      exact ⟨_,_,fun _=>by simp [Builtin.len_,hu,hv,goInt],V_s _,h⟩
    exact h.elim
  · rename_i hd hx
    obtain ⟨d,hd',hu⟩:=run_under hT hd
    simp only [TKOk] at hd'
    subst hd'
    split at h
    · rename_i hrw
      obtain ⟨s,l,hj,hk⟩:=h
      obtain ⟨c,ty,vs,cap,hv,_⟩:=am_array hR.rows hrw (ev_sound hR hx) hj
      exact ⟨_,_,fun _=>by simp [Builtin.len_,hu,hv,goInt],V_s _,hk⟩
    exact h.elim
  exact h.elim

theorem pvSl_sound(hR:RowsOk H lim w X.rows){k:Nat}{p:PV}{ys:List (List Data)}{v:Value}(h:pvSl X k p=some ys)(hv:V H lim w p v):VD lim w (.sl k ys) v:=by
  unfold pvSl at h
  split at h
  · split at h
    · rename_i hb
      simp only [Option.some.injEq] at h
      subst h
      have:=Nat.eq_of_beq_eq_true hb
      subst this
      simpa only [V] using hv
    cases h
  · simp only [Option.some.injEq] at h
    subst h
    simp only [V,VD.eq_1] at hv
    subst hv
    simp only [VD]
    exact ⟨none,0,0,rfl,rfl,Nat.le_refl _,by simp [maxLen],fun q=>absurd rfl q⟩
  · split at h
    · rename_i hr
      split at h
      · rename_i hb
        simp only [Option.some.injEq] at h
        subst h
        have:=Nat.eq_of_beq_eq_true hb
        subst this
        obtain ⟨u,hu,hd⟩:=acc_reads (hR.row _ _ hr)
        simp only [V] at hv
        rw [hv] at hu
        cases hu
        exact hd
      cases h
    cases h
  cases h

theorem VRow_drop{b k:Nat}:∀(xs:List (List Data)) (o l:Nat),VRow lim w b k o xs→VRow lim w b k (o+l * k) (xs.drop l)
  |[],_,_,_=>by simp only [List.drop_nil,VRow]
  |x::xs,o,0,h=>by simpa using h
  |x::xs,o,l+1,h=>by
    simp only [VRow] at h
    have:=VRow_drop xs (o+k) l h.2.2
    rw [show o+(l+1) * k=o+k+l * k from by rw [Nat.succ_mul];omega]
    simpa using this
theorem VRow_take{b k:Nat}:∀(xs:List (List Data)) (o l:Nat),VRow lim w b k o xs→VRow lim w b k o (xs.take l)
  |[],_,_,_=>by simp only [List.take_nil,VRow]
  |x::xs,o,0,h=>by simp only [List.take_zero,VRow]
  |x::xs,o,l+1,h=>by
    simp only [VRow] at h
    simp only [List.take_succ_cons,VRow]
    exact ⟨h.1,h.2.1,VRow_take xs (o+k) l h.2.2⟩
theorem VD_cutout{kk:Nat}{xs:List (List Data)}{A:Option Addr}{n c l m:Nat}(h:VD lim w (.sl kk xs) (.slice A n c))(h1:l≤m)(h2:m≤n):
    VD lim w (.sl kk ((xs.take m).drop l)) (.slice (if c=l then A else A.map (·.add (l * kk))) (m - l) (c - l)):=by
  simp only [VD,Value.slice.injEq] at h ⊢
  obtain ⟨A',n',c',⟨rfl,rfl,rfl⟩,hn,hc,hm,hr⟩:=h
  refine ⟨_,_,_,⟨rfl,rfl,rfl⟩,by simp;omega,by omega,by omega,fun hne=>?_⟩
  obtain ⟨b,o,hA,hr2⟩:=hr (by omega)
  rw [if_neg (by omega),hA]
  exact ⟨b,o+l * kk,by simp [add_plain],VRow_drop _ _ _ (VRow_take _ _ _ hr2)⟩
theorem pSliceD_sound (hT:TabOk P T) (hR:Rep D G N H lim X a w) {o:Oper}{t e:TypeId}{ti i:TI}{x:Operand}{lo hi:Option Operand}{xs:List (List Data)}{k:PV→Prop}(ho:o.op=.slice t x lo hi none)
    (ht:T t=some ti) (htd:ti.desc=.slice e) (he:T e=some i) (hv:VD lim w (.sl i.size xs) (a.eval x)) (h:pSliceD i.size xs (lo.map (ev G X)) (hi.map (ev G X)) k):∃p,Does P K a w H lim o p∧k p:=by
  obtain ⟨d,hd',hu⟩:=run_under hT ht
  rw [htd] at hd'
  simp only [TKOk] at hd'
  subst hd'
  have hs:=run_size hT he
  obtain ⟨A,n,c,hval,hn⟩:∃A n c,a.eval x=.slice A n c∧n=xs.length∧n≤c:=by
    simp only [VD] at hv
    obtain ⟨A,n,c,h1,h2,h3,_⟩:=hv
    exact ⟨A,n,c,h1,h2,h3⟩
  rw [hval] at hv
  unfold pSliceD at h
  split at h
  · rename_i hlo hhi
    have hlo':lo=none:=by simpa using hlo
    have hhi':hi=none:=by simpa using hhi
    subst hlo' hhi'
    have hc:=VD_cutout hv (Nat.zero_le n) (Nat.le_refl n)
    have e2:(xs.take n).drop 0=xs:=by rw [hn.1];simp
    rw [e2] at hc
    refine ⟨_,⟨_,fun w1 _=>?_,by simp only [V];exact hc⟩,h⟩
    simp [execOp,ho,Instr.sliceAt,Instr.slice,hu,hval,hs,Instr.sliceBounds]
  · rename_i ik i' hlo hhi
    obtain ⟨lo,rfl,hlo'⟩:=Option.map_eq_some_iff.1 hlo
    have hhi':hi=none:=by simpa using hhi
    subst hhi'
    have vl:=ev_sound hR hlo'
    simp only [V,VD] at vl
    obtain ⟨m,rfl,hm,hk⟩:=h
    have hc:=VD_cutout hv (show m≤n by omega) (Nat.le_refl n)
    have e2:xs.take n=xs:=by rw [hn.1];simp
    rw [e2] at hc
    refine ⟨_,⟨_,fun w1 _=>?_,by simp only [V];exact hc⟩,hk⟩
    have q1:m≤n:=by omega
    simp [execOp,ho,Instr.sliceAt,Instr.slice,hu,hval,hs,vl,Instr.sliceBounds,Instr.sliceBound,asIntOf,q1]
  · rename_i ik j' hlo hhi
    obtain ⟨hi,rfl,hhi'⟩:=Option.map_eq_some_iff.1 hhi
    have hlo':lo=none:=by simpa using hlo
    subst hlo'
    have vl:=ev_sound hR hhi'
    simp only [V,VD] at vl
    obtain ⟨m,rfl,hm,hk⟩:=h
    have hc:=VD_cutout hv (Nat.zero_le m) (show m≤n by omega)
    rw [List.drop_zero] at hc
    refine ⟨_,⟨_,fun w1 _=>?_,by simp only [V];exact hc⟩,hk⟩
    have q1:m≤c:=by omega
    simp [execOp,ho,Instr.sliceAt,Instr.slice,hu,hval,hs,vl,Instr.sliceBounds,Instr.sliceBound,asIntOf,q1]
  · rename_i ik i' jk j' hlo hhi
    obtain ⟨lo,rfl,hlo'⟩:=Option.map_eq_some_iff.1 hlo
    obtain ⟨hi,rfl,hhi'⟩:=Option.map_eq_some_iff.1 hhi
    have vl:=ev_sound hR hlo'
    have vh:=ev_sound hR hhi'
    simp only [V,VD] at vl vh
    obtain ⟨l,m,rfl,rfl,hlm,hm,hk⟩:=h
    have hc:=VD_cutout hv hlm (show m≤n by omega)
    refine ⟨_,⟨_,fun w1 _=>?_,by simp only [V];exact hc⟩,hk⟩
    have q1:m≤c:=by omega
    simp [execOp,ho,Instr.sliceAt,Instr.slice,hu,hval,hs,vl,vh,Instr.sliceBounds,Instr.sliceBound,asIntOf,q1,hlm]
  exact h.elim
theorem pSlice_sound (hT:TabOk P T) (hR:Rep D G N H lim X a w) {o:Oper}{t:TypeId}{x:Operand}{lo hi mx:Option Operand}{k:PV→Prop}(ho:o.op=.slice t x lo hi mx)
    (h:pSlice T X t (ev G X x) (lo.map (ev G X)) (hi.map (ev G X)) (mx.map (ev G X)) k):∃p,Does P K a w H lim o p∧k p:=by
  unfold pSlice at h
  split at h
  · rename_i s hd hx hm
    obtain ⟨d,hd',hu⟩:=run_under hT hd
    simp only [TKOk] at hd'
    subst hd'
    have vx:=ev_sound hR hx
    simp only [V,VD] at vx
    have hmx:mx=none:=by simpa using hm
    subst hmx
    split at h
    · rename_i hlo hhi
      have hlo':lo=none:=by simpa using hlo
      have hhi':hi=none:=by simpa using hhi
      subst hlo' hhi'
      exact ⟨_,⟨_,fun _ _=>by simp [execOp,ho,Instr.sliceAt,Instr.slice,hu,vx,Instr.sliceBounds],V_s _⟩,h⟩
    · rename_i ik i hlo hhi
      obtain ⟨lo,rfl,hlo'⟩:=Option.map_eq_some_iff.1 hlo
      have hhi':hi=none:=by simpa using hhi
      subst hhi'
      have vl:=ev_sound hR hlo'
      simp only [V,VD] at vl
      obtain ⟨h0,h1,h⟩:=h
      exact ⟨_,⟨_,fun _ _=>by simp [execOp,ho,Instr.sliceAt,Instr.slice,hu,vx,vl,Instr.sliceBounds,Instr.sliceBound,asIntOf,h0,h1],V_s _⟩,h⟩
    · rename_i ik i hlo hhi
      obtain ⟨hi,rfl,hhi'⟩:=Option.map_eq_some_iff.1 hhi
      have hlo':lo=none:=by simpa using hlo
      subst hlo'
      have vl:=ev_sound hR hhi'
      simp only [V,VD] at vl
      obtain ⟨h0,h1,h⟩:=h
      exact ⟨_,⟨_,fun _ _=>by simp [execOp,ho,Instr.sliceAt,Instr.slice,hu,vx,vl,Instr.sliceBounds,Instr.sliceBound,asIntOf,h0,h1],V_s _⟩,h⟩
    · rename_i ik i jk j hlo hhi
      obtain ⟨lo,rfl,hlo'⟩:=Option.map_eq_some_iff.1 hlo
      obtain ⟨hi,rfl,hhi'⟩:=Option.map_eq_some_iff.1 hhi
      have vl:=ev_sound hR hlo'
      have vh:=ev_sound hR hhi'
      simp only [V,VD] at vl vh
      obtain ⟨h0,h1,h2,h⟩:=h
      have hj:0≤j:=by omega
      have hij:i≤max j 0:=by omega
      exact ⟨_,⟨_,fun _ _=>by simp [execOp,ho,Instr.sliceAt,Instr.slice,hu,vx,vl,vh,Instr.sliceBounds,Instr.sliceBound,asIntOf,h0,h2,hj,hij],V_s _⟩,h⟩
    exact h.elim
  · rename_i e _ _ _ p hd hx hm
    have hmx:mx=none:=by simpa using hm
    subst hmx
    split at h
    · rename_i i hi'
      split at h
      · rename_i xs hxs
        exact pSliceD_sound hT hR ho hd rfl hi' (pvSl_sound hR.rows hxs (ev_sound hR hx)) h
      exact h.elim
    exact h.elim
  exact h.elim
end
end Go.Abs
end
