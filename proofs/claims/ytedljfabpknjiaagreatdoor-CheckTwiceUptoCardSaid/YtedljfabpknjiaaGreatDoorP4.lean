/- Texts of this proof, joined: AbsM, AbsN, AbsO, AbsP, AbsQ. -/
import Derived.Test.YtedljfabpknjiaaGreatDoorP3
import Derived.Laws.MakeOwn
import Derived.Deep.LoopGhost
section
namespace Go.Abs
open Go

def evs(G:Glob)(X:St):List Operand→Option (List PV)
 |[]=>some []
 |x::r=>match ev G X x with
  |some p=>match evs G X r with
   |some ps=>some (p::ps)
   |none=>none
  |none=>none
def mapPut:List (ByteArray×Data)→ByteArray→Data→List (ByteArray×Data)
 |[],s,p=>[(s,p)]
 | (k,q)::r,s,p=>match s==k with
  |true=>(k,p)::r
  |false=>(k,q)::mapPut r s p
def xMapPut(T:Tab)(X:St)(t:TypeId)(m key:Option PV)(val:Option PV)(k:PV→St→List Nat→Prop):Prop:=
 match T t,m,key,val with
 |some { desc:=.map kt _,.. },some (.acc id),some (.d (.s (.string s))),some (.d p)=>match isStrT T kt,X.rows[id]? with
  |true,some (.map t' es)=>∃es',mapPut es s p=es'∧k (.d (.s undef)) { X with rows:=X.rows.set id (.map t' es') } [id]
  |_,_=>False
 |_,_,_,_=>False
def xAppend(T:Tab)(X:St)(t:TypeId)(x y:Option PV)(k:PV→St→List Nat→Prop):Prop:=
 match T t,y with
 |some { desc:=.slice e,.. },some y=>match T e with
  |some i=>match Nat.beq i.zero.length i.size,Nat.ble 1 i.size,pvSl X i.size y,x with
   |true,true,some ys,some (.d (.s (.slice none 0 0)))=>(ys.length * i.bytes≤140737488355328∧ys.length≤maxLen)∧k (.acc X.rows.length) { X with rows:=X.rows++[.acc e i.size ys] } []
   |true,true,some ys,some (.acc id)=>match X.rows[id]? with
    |some (.acc e' k' xs)=>match Nat.beq e' e,Nat.beq k' i.size,demEnv (demOne id k' xs) X.env,demRows (demOne id k' xs) X.rows with
     |true,true,some env',some rows'=>((xs.length+ys.length) * i.bytes≤140737488355328∧xs.length+ys.length≤maxLen)∧k (.acc id) ⟨env',rows'.set id (.acc e i.size (xs++ys))⟩ [id]
     |_,_,_,_=>False
    |_=>False
   |_,_,_,_=>False
  |none=>False
 |_,_=>False
/-- A slice of no elements, made anew: a row of its own, of either kind. -/
def xEmpty(T:Tab)(X:St)(t:TypeId)(k:PV→St→List Nat→Prop):Prop:=match T t with
 |some { desc:=.slice e,.. }=>match T e with
  |some i=>match Nat.ble 1 i.size with
   |true=>k (.arr X.rows.length 0 0) { X with rows:=X.rows++[.box e []] } []∨k (.acc X.rows.length) { X with rows:=X.rows++[.acc e i.size []] } []
   |false=>False
  |none=>False
 |_=>False
def isByteZ:List Value→Bool
 |[.int .u8 (.ofNat 0)]=>true
 |_=>false
/-- The bytes of a string behind an owned row. -/
def xAppendS(T:Tab)(X:St)(t u:TypeId)(x y:Option PV)(k:PV→St→List Nat→Prop):Prop:=
 match T t,isStrT T u,y,x with
 |some { desc:=.slice e,.. },true,some (.d (.s (.string s))),some (.acc id)=>match T e with
  |some i=>match isByteZ i.zero,Nat.beq i.size 1,Nat.beq i.bytes 1,i.desc.agg,X.rows[id]? with
   |true,true,true,false,some (.acc e' k' xs)=>match Nat.beq e' e,Nat.beq k' 1,demEnv (demOne id 1 xs) X.env,demRows (demOne id 1 xs) X.rows with
    |true,true,some env',some rows'=>xs.length+s.size≤140737488355328∧k (.acc id) ⟨env',rows'.set id (.acc e 1 (xs++bts s))⟩ [id]
    |_,_,_,_=>False
   |_,_,_,_,_=>False
  |none=>False
 |_,_,_,_=>False
/-- An entry found or made: what it holds, its number, the entries. -/
def mapEnt:List (ByteArray×Data)→ByteArray→Data→Data×Nat×List (ByteArray×Data)
 |[],s,z=>(z,0,[(s,z)])
 | (k,q)::r,s,z=>match s==k with
  |true=>(q,0,(k,q)::r)
  |false=>((mapEnt r s z).1,(mapEnt r s z).2.1+1,(k,q)::(mapEnt r s z).2.2)
def xMapEnt(T:Tab)(X:St)(t:TypeId)(m key:Option PV)(k:PV→St→List Nat→Prop):Prop:=
 match T t,m,key with
 |some { desc:=.map kt et,.. },some (.acc id),some (.d (.s (.string s)))=>match isStrT T kt,X.rows[id]?,zeroP T et with
  |true,some (.map t' es),some (.d z)=>∃r,mapEnt es s z=r∧k (.tup [.d r.1,.d (.s (.int .i64 r.2.1))]) { X with rows:=X.rows.set id (.map t' r.2.2) } [id]
  |_,_,_=>False
 |_,_,_=>False
def xEntStore(X:St)(m stamp val:Option PV)(k:PV→St→List Nat→Prop):Prop:=
 match m,stamp,val with
 |some (.acc id),some (.d (.s (.int _ i))),some (.d p)=>match X.rows[id]? with
  |some (.map t' es)=>∃(j:Nat) (es':List (ByteArray×Data)),i=j∧j<es.length∧es.modify j (fun e=>(e.1,p))=es'∧k (.d (.s undef)) { X with rows:=X.rows.set id (.map t' es') } [id]
  |_=>False
 |_,_,_=>False
def xop(T:Tab)(G:Glob)(X:St):Op→(PV→St→List Nat→Prop)→Prop
 |.alloc elem,k=>match T elem with
  |some i=>k (.box X.rows.length 0) { X with rows:=X.rows++[.box elem (zeroPV i.zero)] } []
  |none=>False
 |.box elem x,k=>match ev G X x with
  |some p=>match pvCells p with
   |some cs=>k (.box X.rows.length 0) { X with rows:=X.rows++[.box elem cs] } []
   |none=>False
  |none=>False
 |.build t parts,k=>match pBuild T G X t parts with
  |some cs=>k (mkAgg cs) X []
  |none=>False
 |.buildSlice t len parts,k=>match len,parts.toList with
  |0,[]=>(match pBuildSlice T G X t 0 #[] with
   |some x=>k (.d x) X []
   |none=>False)∨xEmpty T X t k
  |_,_=>match pBuildSlice T G X t len parts with
   |some x=>k (.d x) X []
   |none=>False
 |.store t addr val,k=>match T t,ev G X addr,ev G X val with
  |some i,some (.box id off),some p=>match X.rows[id]?,pvCells p with
   |some (.box ty cells),some qs=>match Nat.beq qs.length i.size,Nat.ble (off+qs.length) cells.length with
    |true,true=>k (.d (.s undef)) { X with rows:=X.rows.set id (.box ty (setAt cells off qs)) } [id]
    |_,_=>False
   |_,_=>False
  |some i,some (.amc id (j+1) off),some (.d (.s (.int .i64 n)))=>match Nat.beq i.size 1,X.rows[id]? with
   |true,some (.amap t' false es)=>∃s l,es[j]? = some (s,l)∧off<l.length∧k (.d (.s undef)) { X with rows:=X.rows.set id (.amap t' false (es.set j (s,l.set off n))) } [id]
   |_,_=>False
  |_,_,_=>False
 |.makeMap t hint,k=>match T t,hint with
  |some { desc:=.map _ e,.. },none=>match isSlT T e with
   |false=>k (.acc X.rows.length) { X with rows:=X.rows++[.map t []] } []
   |true=>k (.am X.rows.length 0) { X with rows:=X.rows++[.amap t false []] } []
  |_,_=>False
 |.mapUpdate t m x v,k=>xMapPut T X t (ev G X m) (ev G X x) (ev G X v) k
 |.insert t m x v,k=>xMapPut T X t (ev G X m) (ev G X x) (ev G X v) k
 |.mapEntry t m x,k=>xMapEnt T X t (ev G X m) (ev G X x) k
 |.entryStore _ m i v,k=>xEntStore X (ev G X m) (ev G X i) (ev G X v) k
 |.makeSlice t len cap,k=>match T t,ev G X len,ev G X cap with
  |some { desc:=.slice e,.. },some (.d (.s (.int _ n))),some (.d (.s (.int _ c)))=>match T e with
   |some i=>match i.zero,Nat.beq i.size 1 with
    |[z],true=>c=n∧∃n':Nat,n=n'∧i.bytes * n'≤281474976710656∧n'≤maxLen∧k (.arr X.rows.length 0 n') { X with rows:=X.rows++[.box e (List.replicate n' (.d (.s z)))] } []
    |_,_=>False
   |none=>False
  |_,_,_=>False
 |.makeFunc fn first captured,k=>match fn,first.toList,evs G X captured.toList with
  |.func f,[],some cs=>k (.fn f cs) X []
  |_,_,_=>False
 |.call c,k=>match c.callee,c.args.toList,c.argTypes.toList with
  |.builtin .append,[x,y],[t,t']=>match Nat.beq t t' with
   |true=>xAppend T X t (ev G X x) (ev G X y) k
   |false=>xAppendS T X t t' (ev G X x) (ev G X y) k
  |_,_,_=>False
 |_,_=>False

section
variable {P:Program}{G:Glob}{D:List Deferred}{N:Nat}{H H':Nat→Option Value}{lim lim':Nat→Nat}{X X':St}{a:Act}{w w':World}{T:Tab}{F F':Nat→Prop}

theorem Nx.weaken(h:Nx D F G N H lim w X' a H' lim' w')(hf:∀i,F i→F' i):Nx D F' G N H lim w X' a H' lim' w':=
 ⟨h.rep,h.fr.weaken fun _ ⟨id,q,r⟩=>⟨id,hf id q,r⟩,h.ptr,h.blocks⟩
theorem Nx.refl(h:Rep D G N H lim X a w):Nx D F G N H lim w X a H lim w:=
 ⟨h,Fr.refl _ lim w,fun _ _ _ _=>rfl,fun _ q=>.inl q⟩

/-- What it is to do an operation that changes the state. -/
def Does2(D:List Deferred)(P:Program)(G:Glob)(N:Nat)(a:Act)(w:World)(H:Nat→Option Value)(lim:Nat→Nat)(o:Oper)(p:PV)(X':St)(F:List Nat):Prop:=
 ∃H' lim' w' v,((execOp a.eval o).run P w=.ok (.value v) w'∨((execOp a.eval o).run P w=.ok .skip w'∧v=undef))∧Nx D (fun i=>i∈F) G N H lim w X' a H' lim' w'∧V H' lim' w' p v

theorem evs_sound(hR:Rep D G N H lim X a w):∀(l:List Operand) (ps:List PV),evs G X l=some ps→Vs H lim w ps (l.map a.eval)
 |[],ps,h=>by simp only [evs,Option.some.injEq] at h;subst h;simp only [List.map_nil,Vs]
 |x::r,ps,h=>by
  simp only [evs] at h
  split at h
  ·rename_i p hp
   split at h
   ·rename_i qs hq
    simp only [Option.some.injEq] at h
    subst h
    simp only [List.map_cons,Vs]
    exact ⟨_,_,rfl,ev_sound hR hp,evs_sound hR r qs hq⟩
   cases h
  cases h
theorem elemOk(hT:TabOk P T){t e:TypeId}{ti i:TI}(h:T t=some ti)(hd:ti.desc=.slice e)(he:T e=some i)(hz:Nat.beq i.zero.length i.size=true):ElemOk P t e i.size i.bytes:=by
 obtain ⟨⟨d,h1,h2⟩,_⟩:=hT t ti h
 rw [hd] at h2
 simp only [TKOk] at h2
 subst h2
 obtain ⟨_,ii,g1,g2,g3,z,g4,g5,_⟩:=hT e i he
 refine ⟨h1,ii,z,g1,g4,g2,g3,?_⟩
 rw [← Nat.eq_of_beq_eq_true hz,← g5]
 simp

theorem mem1{i j:Nat}(h:i=j):i∈[j]:=by simp [h]

theorem xAppend_sound(hT:TabOk P T)(hR:Rep D G N H lim X a w){t ty:TypeId}{x y:Operand}{k:PV→St→List Nat→Prop}(h:xAppend T X t (ev G X x) (ev G X y) k):
  ∃p X' F,(∃H' lim' w' v,(Builtin.append_ #[t,t] ty #[a.eval x,a.eval y]).run P w=.ok v w'∧Nx D (fun i=>i∈F) G N H lim w X' a H' lim' w'∧V H' lim' w' p v)∧k p X' F:=by
 unfold xAppend at h
 split at h
 ·rename_i e _ _ _ y' ht hy
  have vy:=ev_sound hR hy
  split at h
  ·rename_i i hi
   split at h
   ·rename_i ys hz h1 hys hx
    have vx:=ev_sound hR hx
    simp only [V,VD] at vx
    have hE:=elemOk hT ht rfl hi hz
    have hk:0<i.size:=Nat.le_of_ble_eq_true h1
    obtain ⟨⟨b1,b2⟩,hkk⟩:=h
    obtain ⟨v',w',lim',r1,r2⟩:=nx_append_nil hR hE hk ty (pvSl_sound hR.rows hys vy) b1 b2
    refine ⟨_,_,_,⟨_,lim',w',v',by rw [vx];exact r1,r2.weaken fun _ q=>q.elim,?_⟩,hkk⟩
    simp only [V];exact upd_same _ _ _
   ·rename_i ys id hz h1 hys hx
    have vx:=ev_sound hR hx
    simp only [V] at vx
    have hE:=elemOk hT ht rfl hi hz
    split at h
    ·rename_i e' k' xs hr
     split at h
     ·rename_i env' rows' he' hk' hm1 hm2
      have e1:=Nat.eq_of_beq_eq_true he'
      have e2:=Nat.eq_of_beq_eq_true hk'
      subst e1 e2
      obtain ⟨⟨b1,b2⟩,hkk⟩:=h
      obtain ⟨v',w',lim',r1,r2⟩:=nx_append_acc hR hE ty hr vx (pvSl_sound hR.rows hys vy) b1 b2 hm1 hm2
      refine ⟨_,_,_,⟨_,lim',w',v',r1,r2.weaken fun _ q=>mem1 q,?_⟩,hkk⟩
      simp only [V];exact upd_same _ _ _
     exact h.elim
    exact h.elim
   exact h.elim
  exact h.elim
 exact h.elim

theorem xAppendS_sound(hT:TabOk P T)(hR:Rep D G N H lim X a w){t u ty:TypeId}{x y:Operand}{k:PV→St→List Nat→Prop}(h:xAppendS T X t u (ev G X x) (ev G X y) k):
  ∃p X' F,(∃H' lim' w' v,(Builtin.append_ #[t,u] ty #[a.eval x,a.eval y]).run P w=.ok v w'∧Nx D (fun i=>i∈F) G N H lim w X' a H' lim' w'∧V H' lim' w' p v)∧k p X' F:=by
 unfold xAppendS at h
 split at h
 ·rename_i e _ _ _ s id ht hu hy hx
  have vy:=ev_sound hR hy
  have vx:=ev_sound hR hx
  simp only [V,VD] at vx vy
  split at h
  ·rename_i i hi
   split at h
   ·rename_i e' k' xs hz h1 h2 hag hr
    split at h
    ·rename_i env' rows' he' hk' hm1 hm2
     have e1:=Nat.eq_of_beq_eq_true he'
     have e2:=Nat.eq_of_beq_eq_true hk'
     subst e1 e2
     obtain ⟨b1,hkk⟩:=h
     have hut:P.underlying u=some .string:=by
      unfold isStrT at hu
      split at hu
      ·rename_i hu'
       obtain ⟨⟨d,g1,g2⟩,_⟩:=hT u _ hu'
       simp only [TKOk] at g2
       rw [g1,g2]
      cases hu
     obtain ⟨⟨d,g1,g2⟩,_⟩:=hT t _ ht
     simp only [TKOk] at g2
     subst g2
     obtain ⟨_,ii,q1,q2,q3,z,q4,q5,q6⟩:=hT e' i hi
     have hz0:z=.int .u8 0:=by
      have hz':i.zero=[.int .u8 0]:=by
       unfold isByteZ at hz
       split at hz
       ·rename_i hzz;exact hzz
       cases hz
      rw [hag] at q6
      rw [hz'] at q5
      cases z <;> simp only [aggV] at q6 <;> simp_all [Value.cells]
     obtain ⟨v',w',lim',r1,r2⟩:=nx_append_gen (ys:=bts s) (Run:=fun v' w'=>(Builtin.append_ #[t,u] ty #[a.eval x,.string s]).run P w=.ok v' w') hR hr vx
      (fun zs _ g2 _=>append_run_str g1 hut q1 (hz0▸q4) (by rw [q2];exact Nat.eq_of_beq_eq_true h1) (by rw [q3];exact Nat.eq_of_beq_eq_true h2) ty g2 s b1) hm1 hm2
     refine ⟨_,_,_,⟨_,lim',w',v',by rw [vy];exact r1,r2.weaken fun _ q=>mem1 q,?_⟩,hkk⟩
     simp only [V];exact upd_same _ _ _
    exact h.elim
   exact h.elim
  exact h.elim
 exact h.elim

theorem setObj_Fr{b:Nat}{ob ob':Obj}(_hb:w.heap[b]? = some ob)(hl:lim b=0):Fr (fun c=>c=b) lim w lim { w with heap:=w.heap.setIfInBounds b ob' }:=by
 have hne:∀c,c≠b→({ w with heap:=w.heap.setIfInBounds b ob' }:World).heap[c]? = w.heap[c]?:=fun c hc=>by
  simp [Array.getElem?_setIfInBounds_ne (Ne.symm hc)]
 refine ⟨rfl,rfl,rfl,by simp,fun c _=>⟨Nat.le_refl _,fun o ho=>?_⟩,fun c _ hn=>⟨hne c hn,rfl⟩⟩
 have:c≠b:=fun q=>by rw [q,hl] at ho;omega
 exact World.cell?_of_block (w:=w) (hne c this)
theorem put_str{s:ByteArray}{p:Data}{v:Value}(hp:VD lim w p v):∀ {es:List (ByteArray×Data)}{ms:List MapEntry}{i j:Nat},VE lim w i es ms→
  (Instr.findNow .string (.string s) ms j=some none∧VE lim w i (mapPut es s p) (ms++[⟨.string s,v,i+es.length⟩])∧(mapPut es s p).length=es.length+1)∨
  ∃q e,Instr.findNow .string (.string s) ms j=some (some (j+q,e.val))∧ms[q]? = some e∧e.key=.string s∧VE lim w i (mapPut es s p) (ms.modify q fun e=>{ e with key:=.string s,val:=v })∧(mapPut es s p).length=es.length
 |[],ms,i,j,h=>by
  simp only [VE] at h
  subst h
  refine .inl ⟨rfl,?_,rfl⟩
  simp only [mapPut,VE]
  exact ⟨_,[],rfl,rfl,rfl,hp,rfl⟩
 | (k,q)::r,ms,i,j,h=>by
  simp only [VE] at h
  obtain ⟨e,ms',rfl,h1,h2,h3,h4⟩:=h
  simp only [mapPut,Instr.findNow,h1,Instr.sameNow]
  cases hb:(s==k)
  ·rcases put_str hp (s:=s) (j:=j+1) h4 with ⟨g1,g2,g3⟩|⟨q',e',g1,g2,g3,g4,g5⟩
   ·refine .inl ⟨g1,?_,by simp [g3]⟩
    simp only [List.cons_append,VE,List.length_cons]
    exact ⟨e,_,rfl,h1,h2,h3,by rw [show i+(r.length+1)=i+1+r.length from by omega];exact g2⟩
   refine .inr ⟨q'+1,e',by rw [g1,show j+1+q'=j+(q'+1) from by omega],by simpa using g2,g3,?_,by simp [g5]⟩
   simp only [List.modify_succ_cons,VE]
   exact ⟨e,_,rfl,h1,h2,h3,g4⟩
  have hs:s=k:=(MapKept.bytes_beq _ _).1 hb
  subst hs
  refine .inr ⟨0,e,rfl,rfl,h1,?_,rfl⟩
  simp only [List.modify_zero_cons,VE]
  exact ⟨_,ms',rfl,rfl,h2,hp,h4⟩
theorem xMapPut_sound(hT:TabOk P T)(hR:Rep D G N H lim X a w){t:TypeId}{m x y:Operand}{k:PV→St→List Nat→Prop}(h:xMapPut T X t (ev G X m) (ev G X x) (ev G X y) k):
  ∃p X' F,(∃H' lim' w',(Instr.mapUpdate t (a.eval m) (a.eval x) (a.eval y)).run P w=.ok () w'∧Nx D (fun i=>i∈F) G N H lim w X' a H' lim' w'∧p=.d (.s undef))∧k p X' F:=by
 unfold xMapPut at h
 split at h
 ·rename_i kt e _ _ _ id s p ht hm hx hp
  have vm:=ev_sound hR hm
  have vx:=ev_sound hR hx
  have vp:=ev_sound hR hp
  simp only [V,VD.eq_1] at vm vx
  simp only [V] at vp
  obtain ⟨d,hd,hu⟩:=run_under hT ht
  simp only [TKOk] at hd
  subst hd
  split at h
  ·rename_i t' es hs hr
   obtain ⟨es',rfl,hk⟩:=h
   have hro:=row_of hR hr
   obtain ⟨b,ms,h1,h2,h3,h4⟩:=hro
   rw [vm] at h1
   simp only [Option.some.injEq] at h1
   have hH:H id=some (.map (some b)):=by rw [vm,h1]
   have hbl:Ow H id b:=(ow_of hH).2 rfl
   have fin:∀(ms':Array MapEntry),VE lim w 0 (mapPut es s p) ms'.toList→
     Nx D (fun i=>i∈[id]) G N H lim w { X with rows:=X.rows.set id (.map t' (mapPut es s p)) } a H lim { w with heap:=w.heap.setIfInBounds b (.map ms' (mapPut es s p).length) }:=by
    intro ms' hms
    have hF:=setObj_Fr (lim:=lim) (ob':=.map ms' (mapPut es s p).length) h2 h4
    refine (nx_set (r':=.map t' (mapPut es s p)) hR hr (hF.weaken fun c q=>by rw [q];exact hbl) ⟨b,ms',hH,?_,VE.mono hF _ _ _ hms,h4⟩).weaken fun _ q=>mem1 q
    simp [lt_heap h2]
   have hck:=check_str hT hs false s w
   have hfk:∀r,Instr.findNow .string (.string s) ms.toList 0=some r→(Instr.findKey kt (.string s) ms.toList).run P w=.ok r w:=fun r hr'=>by simp [Instr.findKey,isStrT_run hT hs,hr']
   rcases put_str vp (s:=s) (j:=0) h3 with ⟨g1,g2,g3⟩|⟨q,e',g1,g2,g3,g4,g5⟩
   ·refine ⟨_,_,_,⟨H,lim,_,?_,fin (ms.push ⟨.string s,a.eval y,es.length⟩) (by simpa using g2),rfl⟩,hk⟩
    rw [g3]
    simp [h1,vx,Instr.mapUpdate,hu,MapKept.run_getObj_map h2,hck,hfk _ g1,MapKept.run_setObj_map _ h2]
   refine ⟨_,_,_,⟨H,lim,_,?_,fin (ms.modify q fun e=>{ e with key:=.string s,val:=a.eval y }) (by simpa using g4),rfl⟩,hk⟩
   rw [g5]
   have hq:ms[q]? = some e':=by simpa using g2
   have hsb:Instr.sameBits 10000 (.string s) (.string s)=true:=by
    show Instr.sameBits (9999+1) (.string s) (.string s)=true
    simp [Instr.sameBits,(MapKept.bytes_beq s s).2 rfl]
   rw [Nat.zero_add] at g1
   simp [h1,vx,Instr.mapUpdate,hu,MapKept.run_getObj_map h2,hck,hfk _ g1,MapKept.run_setObj_map _ h2,Instr.keyThatStays,hq,g3,hsb]
  exact h.elim
 exact h.elim

theorem ent_put:∀(es:List (ByteArray×Data)) (s:ByteArray) (z p:Data),(mapEnt es s z).2.1<(mapEnt es s z).2.2.length∧(mapEnt es s z).2.2.modify (mapEnt es s z).2.1 (fun e=>(e.1,p))=mapPut es s p
 |[],s,z,p=>⟨by simp [mapEnt],rfl⟩
 | (k,q)::r,s,z,p=>by
  obtain ⟨h1,h2⟩:=ent_put r s z p
  simp only [mapEnt,mapPut]
  cases (s==k)
  ·exact ⟨by simpa using h1,by rw [List.modify_succ_cons,h2]⟩
  exact ⟨by simp,rfl⟩
theorem ent_str{s:ByteArray}{z:Data}{v:Value}(hp:VD lim w z v):∀ {es:List (ByteArray×Data)}{ms:List MapEntry}{i j:Nat},VE lim w i es ms→
  (Instr.findNow .string (.string s) ms j=some none∧(mapEnt es s z).1=z∧(mapEnt es s z).2.1=es.length∧VE lim w i (mapEnt es s z).2.2 (ms++[⟨.string s,v,i+es.length⟩])∧(mapEnt es s z).2.2.length=es.length+1)∨
  ∃q e,Instr.findNow .string (.string s) ms j=some (some (j+q,e.val))∧ms[q]? = some e∧e.key=.string s∧e.born=i+q∧(mapEnt es s z).2.1=q∧VD lim w (mapEnt es s z).1 e.val∧VE lim w i (mapEnt es s z).2.2 (ms.modify q fun e=>{ e with key:=.string s })∧(mapEnt es s z).2.2.length=es.length
 |[],ms,i,j,h=>by
  simp only [VE] at h
  subst h
  refine .inl ⟨rfl,rfl,rfl,?_,rfl⟩
  simp only [mapEnt,VE]
  exact ⟨_,[],rfl,rfl,rfl,hp,rfl⟩
 | (k,q)::r,ms,i,j,h=>by
  simp only [VE] at h
  obtain ⟨e,ms',rfl,h1,h2,h3,h4⟩:=h
  simp only [mapEnt,Instr.findNow,h1,Instr.sameNow]
  cases hb:(s==k)
  ·rcases ent_str hp (s:=s) (j:=j+1) h4 with ⟨g1,g2,g3,g4,g5⟩|⟨q',e',g1,g2,g3,g4,g5,g6,g7,g8⟩
   ·refine .inl ⟨g1,g2,by simp [g3],?_,by simp [g5]⟩
    simp only [List.cons_append,VE,List.length_cons]
    exact ⟨e,_,rfl,h1,h2,h3,by rw [show i+(r.length+1)=i+1+r.length from by omega];exact g4⟩
   refine .inr ⟨q'+1,e',by rw [g1,show j+1+q'=j+(q'+1) from by omega],by simpa using g2,g3,by omega,by simp [g5],g6,?_,by simp [g8]⟩
   simp only [List.modify_succ_cons,VE]
   exact ⟨e,_,rfl,h1,h2,h3,g7⟩
  have hs:s=k:=(MapKept.bytes_beq _ _).1 hb
  subst hs
  refine .inr ⟨0,e,rfl,rfl,h1,h2,rfl,h3,?_,rfl⟩
  simp only [List.modify_zero_cons,VE]
  exact ⟨_,ms',rfl,rfl,h2,h3,h4⟩
theorem ent_at{p:Data}{v:Value}(hp:VD lim w p v):∀ {es:List (ByteArray×Data)}{ms:List MapEntry}{i j:Nat},VE lim w i es ms→j<es.length→
  ms.findIdx? (fun e=>(e.born:Int)==((i+j:Nat):Int))=some j∧VE lim w i (es.modify j (fun e=>(e.1,p))) (ms.modify j fun e=>{ e with val:=v })
 |[],_,_,_,_,h=>by cases h
 | (k,q)::r,ms,i,j,h,hj=>by
  simp only [VE] at h
  obtain ⟨e,ms',rfl,h1,h2,h3,h4⟩:=h
  cases j with
  |zero=>
   refine ⟨by simp [List.findIdx?_cons,h2],?_⟩
   simp only [List.modify_zero_cons,VE]
   exact ⟨_,ms',rfl,h1,h2,hp,h4⟩
  |succ j=>
   obtain ⟨g1,g2⟩:=ent_at hp h4 (show j<r.length by simpa using hj)
   refine ⟨?_,?_⟩
   ·rw [show i+(j+1)=i+1+j from by omega,List.findIdx?_cons,g1]
    have:((e.born:Int)==((i+1+j:Nat):Int))=false:=beq_eq_false_iff_ne.2 (by omega)
    simp only [this]
    rfl
   simp only [List.modify_succ_cons,VE]
   exact ⟨e,_,rfl,h1,h2,h3,g2⟩
theorem nx_map(hR:Rep D G N H lim X a w){id:Nat}{t':TypeId}{es es':List (ByteArray×Data)}{b:Nat}{ms ms':Array MapEntry}(hr:X.rows[id]? = some (.map t' es))(hH:H id=some (.map (some b)))(h2:w.heap[b]? = some (.map ms es.length))(h4:lim b=0)(hms:VE lim w 0 es' ms'.toList):
  Nx D (fun i=>i∈[id]) G N H lim w { X with rows:=X.rows.set id (.map t' es') } a H lim { w with heap:=w.heap.setIfInBounds b (.map ms' es'.length) }:=by
 have hbl:Ow H id b:=(ow_of hH).2 rfl
 have hF:=setObj_Fr (lim:=lim) (ob':=.map ms' es'.length) h2 h4
 refine (nx_set (r':=.map t' es') hR hr (hF.weaken fun c q=>by rw [q];exact hbl) ⟨b,ms',hH,?_,VE.mono hF _ _ _ hms,h4⟩).weaken fun _ q=>mem1 q
 simp [lt_heap h2]
theorem xMapEnt_sound(hT:TabOk P T)(hR:Rep D G N H lim X a w){t:TypeId}{m x:Operand}{k:PV→St→List Nat→Prop}(h:xMapEnt T X t (ev G X m) (ev G X x) k):
  ∃p X' F,(∃H' lim' w' v,(Instr.mapEntry t (a.eval m) (a.eval x)).run P w=.ok v w'∧Nx D (fun i=>i∈F) G N H lim w X' a H' lim' w'∧V H' lim' w' p v)∧k p X' F:=by
 unfold xMapEnt at h
 split at h
 ·rename_i kt et _ _ _ id s ht hm hx
  have vm:=ev_sound hR hm
  have vx:=ev_sound hR hx
  simp only [V,VD.eq_1] at vm vx
  obtain ⟨d,hd,hu⟩:=run_under hT ht
  simp only [TKOk] at hd
  subst hd
  split at h
  ·rename_i t' es z hs hr hz
   obtain ⟨r,rfl,hk⟩:=h
   obtain ⟨b,ms,h1,h2,h3,h4⟩:=row_of hR hr
   rw [vm] at h1
   simp only [Option.some.injEq] at h1
   have hH:H id=some (.map (some b)):=by rw [vm,h1]
   obtain ⟨zv,z1,z2⟩:=zeroP_sound (H:=H) (lim:=lim) (w:=w) hT hz
   simp only [V] at z2
   have hck:=check_str hT hs false s w
   have hfk:∀r,Instr.findNow .string (.string s) ms.toList 0=some r→(Instr.findKey kt (.string s) ms.toList).run P w=.ok r w:=fun r hr'=>by simp [Instr.findKey,isStrT_run hT hs,hr']
   rcases ent_str z2 (s:=s) (j:=0) h3 with ⟨g1,g2,g3,g4,g5⟩|⟨q,e',g1,g2,g3,g4,g5,g6,g7,g8⟩
   ·refine ⟨_,_,_,⟨H,lim,_,.tuple #[zv,.int .i64 (es.length:Int)],?_,nx_map (ms':=ms.push ⟨.string s,zv,es.length⟩) hR hr hH h2 h4 (by simpa using g4),?_⟩,hk⟩
    ·rw [g5]
     simp [h1,vx,Instr.mapEntry,hu,MapKept.run_getObj_map h2,hck,hfk _ g1,MapKept.run_setObj_map _ h2,z1,goInt]
    simp only [V,Vs]
    rw [g2,g3]
    exact ⟨_,rfl,_,_,rfl,VD.mono (setObj_Fr h2 h4) _ _ z2,_,_,rfl,rfl,rfl⟩
   have hq:ms[q]? = some e':=by simpa using g2
   have hsb:Instr.sameBits 10000 (.string s) (.string s)=true:=by
    show Instr.sameBits (9999+1) (.string s) (.string s)=true
    simp [Instr.sameBits,(MapKept.bytes_beq s s).2 rfl]
   rw [Nat.zero_add] at g1 g4
   refine ⟨_,_,_,⟨H,lim,_,.tuple #[e'.val,.int .i64 (q:Int)],?_,nx_map (ms':=ms.modify q fun e=>{ e with key:=.string s }) hR hr hH h2 h4 (by simpa using g7),?_⟩,hk⟩
   ·rw [g8]
    simp [h1,vx,Instr.mapEntry,hu,MapKept.run_getObj_map h2,hck,hfk _ g1,MapKept.run_setObj_map _ h2,Instr.keyThatStays,hq,g3,hsb,goInt,g4]
   simp only [V,Vs]
   rw [g5]
   exact ⟨_,rfl,_,_,rfl,VD.mono (setObj_Fr h2 h4) _ _ g6,_,_,rfl,rfl,rfl⟩
  exact h.elim
 exact h.elim
theorem xEntStore_sound(hR:Rep D G N H lim X a w){t:TypeId}{m x y:Operand}{k:PV→St→List Nat→Prop}(h:xEntStore X (ev G X m) (ev G X x) (ev G X y) k):
  ∃p X' F,(∃H' lim' w',(Instr.entryStore t (a.eval m) (a.eval x) (a.eval y)).run P w=.ok () w'∧Nx D (fun i=>i∈F) G N H lim w X' a H' lim' w'∧p=.d (.s undef))∧k p X' F:=by
 unfold xEntStore at h
 split at h
 ·rename_i id ik i p hm hx hp
  have vm:=ev_sound hR hm
  have vx:=ev_sound hR hx
  have vp:=ev_sound hR hp
  simp only [V,VD.eq_1] at vm vx
  simp only [V] at vp
  split at h
  ·rename_i t' es hr
   obtain ⟨j,es',rfl,hj,rfl,hk⟩:=h
   obtain ⟨b,ms,h1,h2,h3,h4⟩:=row_of hR hr
   rw [vm] at h1
   simp only [Option.some.injEq] at h1
   have hH:H id=some (.map (some b)):=by rw [vm,h1]
   obtain ⟨g1,g2⟩:=ent_at vp h3 hj
   rw [Nat.zero_add] at g1
   have hfi:ms.findIdx? (fun e=>(e.born:Int)==(j:Int))=some j:=by
    have e:ms=ms.toList.toArray:=by simp
    rw [e,List.findIdx?_toArray]
    exact g1
   have hx:=nx_map (ms':=ms.modify j fun e=>{ e with val:=a.eval y }) hR hr hH h2 h4 (by simpa using g2)
   rw [show (es.modify j fun e=>(e.1,p)).length=es.length by simp] at hx
   refine ⟨_,_,_,⟨H,lim,_,?_,hx,rfl⟩,hk⟩
   simp [h1,vx,Instr.entryStore,MapKept.run_getObj_map h2,MapKept.run_setObj_map _ h2,asInt,asIntOf,hfi]
  exact h.elim
 exact h.elim

theorem ae_far{fz:Bool}{c:Nat}(hne:∀b,b≠c→w'.heap[b]? = w.heap[b]?):∀ {es:List (ByteArray×List Int)}{i:Nat}{ms:List MapEntry}{hs:List Value},AE lim w fz i es ms hs→c∉hs.filterMap blk→AE lim w' fz i es ms hs
 |[],_,_,_,h,_=>h
 | (k,l')::r,i,ms,hs,h,hn=>by
  obtain ⟨e,ms',c',ty,hs',cap,rfl,rfl,h1,h2,h3,h4,h5,h6,h7⟩:=h
  have e1:blk e.val=some c':=by rw [h3];rfl
  rw [List.filterMap_cons_some e1,List.mem_cons,not_or] at hn
  exact ⟨e,ms',c',ty,hs',cap,rfl,rfl,h1,h2,h3,h4,(hne c' (Ne.symm hn.1)).trans h5,h6,ae_far hne h7 hn.2⟩
theorem ae_store{c off:Nat}{n:Int}{s:ByteArray}{l:List Int}(hne:∀b,b≠c→w'.heap[b]? = w.heap[b]?)(hc:∀ty,w.heap[c]? = some (.cells (l.map (Value.int .i64)).toArray ty (0,0))→w'.heap[c]? = some (.cells ((l.set off n).map (Value.int .i64)).toArray ty (0,0))):
  ∀ {es:List (ByteArray×List Int)}{i j m cc:Nat}{ms:List MapEntry}{hs:List Value},AE lim w false i es ms hs→(hs.filterMap blk).Nodup→es[j]? = some (s,l)→hs[j]? = some (.slice (some ⟨c,0,none⟩) m cc)→AE lim w' false i (es.set j (s,l.set off n)) ms hs
 |[],_,_,_,_,_,_,_,_,h,_=>by cases h
 | (k,l')::r,i,0,_,_,ms,hs,h,hn,hj,hh=>by
  simp only [List.getElem?_cons_zero,Option.some.injEq,Prod.mk.injEq] at hj
  obtain ⟨rfl,rfl⟩:=hj
  obtain ⟨e,ms',c',ty,hs',cap,rfl,rfl,h1,h2,h3,h4,h5,h6,h7⟩:=h
  rw [List.getElem?_cons_zero,h3] at hh
  simp only [Option.some.injEq,Value.slice.injEq,Addr.mk.injEq,and_true] at hh
  obtain ⟨rfl,_⟩:=hh
  have e1:blk e.val=some c':=by rw [h3];rfl
  rw [List.filterMap_cons_some e1,List.nodup_cons] at hn
  exact ⟨e,ms',c',ty,hs',cap,rfl,rfl,h1,h2,by rw [h3,List.length_set],by rw [List.length_set];exact h4,hc ty h5,h6,ae_far hne h7 hn.1⟩
 | (k,l')::r,i,j+1,_,_,ms,hs,h,hn,hj,hh=>by
  obtain ⟨e,ms',c',ty,hs',cap,rfl,rfl,h1,h2,h3,h4,h5,h6,h7⟩:=h
  have e1:blk e.val=some c':=by rw [h3];rfl
  rw [List.filterMap_cons_some e1,List.nodup_cons] at hn
  rw [List.getElem?_cons_succ] at hj hh
  have hcc:c'≠c:=by
   intro q
   subst q
   exact hn.1 (List.mem_filterMap.2 ⟨_,List.mem_of_getElem? hh,rfl⟩)
  exact ⟨e,ms',c',ty,hs',cap,rfl,rfl,h1,h2,h3,h4,(hne c' hcc).trans h5,h6,ae_store hne hc h7 hn.2 hj hh⟩
/-- A store into an array. -/
theorem nx_amstore(hR:Rep D G N H lim X a w){id j off:Nat}{t:TypeId}{es:List (ByteArray×List Int)}{s:ByteArray}{l:List Int}{n:Int}{v:Value}(hr:X.rows[id]? = some (.amap t false es))(hv:V H lim w (.amc id (j+1) off) v)(hj:es[j]? = some (s,l))(ho:off<l.length):
  ∃b w',v=.pointer (some ⟨b,off,none⟩)∧(storeCells ⟨b,off,none⟩ [.int .i64 n]).run P w=.ok () w'∧Nx D (fun i=>i=id) G N H lim w { X with rows:=X.rows.set id (.amap t false (es.set j (s,l.set off n))) } a H lim w':=by
 simp only [V] at hv
 obtain ⟨vs,c,n',c',hH,hvj,hv⟩:=hv
 obtain ⟨b',ty,_,cap,e1,e2,_,e3,e4,e5⟩:=am_array hR.rows hr (by simp only [V];exact ⟨vs,hH,hvj⟩) hj
 simp only [Value.slice.injEq,Option.some.injEq,Addr.mk.injEq,and_true] at e1
 obtain ⟨rfl,rfl,rfl⟩:=e1
 obtain ⟨w',r1,r2,r3,r4,r5,r6,r7⟩:=run_stores (P:=P) (off:=off) [.int .i64 n] 0 w (l.map (Value.int .i64)) e4 (by simp;omega) (by simp [oneV])
 have hst:setAt (l.map (Value.int .i64)) (off+0) [Value.int .i64 n]=(l.set off n).map (Value.int .i64):=by
  unfold setAt
  rw [List.map_set,List.set_eq_take_append_cons_drop,if_pos (by simpa using ho)]
  simp
 rw [hst] at r2
 have hbl:Ow H id c:=(ow_of hH).2 (own_tuple hvj rfl)
 have hF:Fr (fun b=>Ow H id b) lim w lim w':=by
  refine ⟨r5,r6,r7,by omega,fun d hd=>⟨Nat.le_refl _,fun o ho'=>?_⟩,fun d hd hn=>⟨r4 d (fun q=>hn (q▸hbl)),rfl⟩⟩
  have hne:d≠c:=fun q=>by rw [q,e5] at ho';cases ho'
  exact World.cell?_of_block (w:=w) (r4 d hne)
 refine ⟨c,w',hv,r1,nx_set hR hr hF ?_⟩
 obtain ⟨b,ms,hs,h1,h2,h3,h4,h5⟩:=hR.rows.row id _ hr
 rw [hH] at h1
 have h1':=hdr_inj (Option.some.inj h1)
 subst h1'
 rw [List.getElem?_cons_succ] at hvj
 have hcm:c∈hs.filterMap blk:=List.mem_filterMap.2 ⟨_,List.mem_of_getElem? hvj,rfl⟩
 rw [List.nodup_cons] at h5
 have hbc:b≠c:=fun q=>h5.1 (q▸hcm)
 exact ⟨b,ms,hs,hH,by rw [List.length_set];exact (r4 b hbc).trans h2,ae_store r4 (fun ty' q=>by rw [e4] at q;cases q;exact r2) h3 h5.2 hj hvj,h4,List.nodup_cons.2 h5⟩
theorem xop_sound(hT:TabOk P T)(hR:Rep D G N H lim X a w)(o:Oper)(k:PV→St→List Nat→Prop)(h:xop T G X o.op k):∃p X' F,Does2 D P G N a w H lim o p X' F∧k p X' F:=by
 cases ho:o.op <;> rw [ho] at h
 case alloc elem=>
  simp only [xop] at h
  split at h
  ·rename_i i hi
   obtain ⟨_,ti,h1,h2,_,z,hz,hzc,_⟩:=hT elem i hi
   have hz0:Vs H lim w (zeroPV i.zero) i.zero:=Vs_map_s _
   refine ⟨_,_,_,⟨_,_,_,.pointer (some ⟨w.heap.size,0,none⟩),.inl ?_,(nx_box (ty:=elem) hR hz0).weaken fun _ q=>q.elim,?_⟩,h⟩
   ·have e1:z.cells=i.zero.toArray:=by rw [← hzc]
    simp [execOp,ho,Instr.alloc,zeroValue,typeInfo,h1,hz,newVar,newRow,e1]
   simp only [V];exact ⟨w.heap.size,by rw [upd_same],rfl⟩
  exact h.elim
 case box elem x=>
  simp only [xop] at h
  split at h
  ·rename_i p hp
   split at h
   ·rename_i cs hc
    obtain ⟨vs,g1,g2,g3⟩:=pvCells_sound hR.rows hc (ev_sound hR hp)
    refine ⟨_,_,_,⟨_,_,_,.pointer (some ⟨w.heap.size,0,none⟩),.inl ?_,(nx_box (ty:=elem) hR g2).weaken fun _ q=>q.elim,?_⟩,h⟩
    ·simp [execOp,ho,Instr.box,newVar,newRow,g1]
    simp only [V];exact ⟨w.heap.size,by rw [upd_same],rfl⟩
   exact h.elim
  exact h.elim
 case build t parts=>
  simp only [xop] at h
  split at h
  ·rename_i cs hc
   obtain ⟨os,r1,r2⟩:=build_sound hT hR hc
   refine ⟨_,_,_,⟨H,lim,w,_,.inl ?_,Nx.refl hR,V_mkAgg r2⟩,h⟩
   simp only [execOp,ho]
   rw [Sem.run_bind,r1]
   rfl
  exact h.elim
 case buildSlice t len parts=>
  have key:∀ {x:Data},pBuildSlice T G X t len parts=some x→k (.d x) X []→∃p X' F,Does2 D P G N a w H lim o p X' F∧k p X' F:=by
   intro x hc h
   obtain ⟨v,w',lim',r1,r2,r3⟩:=buildSlice_sound hT hR hc
   refine ⟨_,_,_,⟨H,lim',w',v,.inl ?_,r2.weaken fun _ q=>q.elim,by simpa only [V] using r3⟩,h⟩
   simp only [execOp,ho]
   rw [Sem.run_bind,r1]
   rfl
  simp only [xop] at h
  split at h
  ·rename_i hp
   have hp':parts = #[]:=by rw [← Array.toArray_toList (xs:=parts),hp]
   subst hp'
   rcases h with h|h
   ·split at h
    ·rename_i x hc
     exact key hc h
    exact h.elim
   unfold xEmpty at h
   split at h
   ·rename_i e _ _ _ ht
    split at h
    ·rename_i i hi
     split at h
     ·rename_i h1
      have hpos:1≤i.size:=Nat.le_of_ble_eq_true h1
      obtain ⟨d,hd,hu⟩:=run_under hT ht
      simp only [TKOk] at hd
      subst hd
      have hs:=run_size hT hi
      have hrun:(execOp a.eval o).run P w=.ok (.value (.slice (some ⟨w.heap.size,0,none⟩) 0 0)) (w.alloc (.cells #[] e)):=by
       simp only [execOp,ho]
       simp [Instr.buildSlice,hu,hs,newRow,Instr.fill]
       rw [show (Array.map (fun _=>(default:Value)) (Array.range 0)) = #[] from by simp]
      rcases h with h|h
      ·refine ⟨_,_,_,⟨_,_,_,.slice (some ⟨w.heap.size,0,none⟩) 0 0,.inl hrun,(nx_box (cells:=[]) (cs:=[]) (ty:=e) hR (by simp only [Vs])).weaken fun _ q=>q.elim,?_⟩,h⟩
       simp only [V]
       exact ⟨w.heap.size,0,by rw [upd_same],rfl,Nat.le_refl _,Nat.zero_le _⟩
      have hF:=Fr_alloc (lim:=lim) (w:=w) (.cells #[] e) 0
      refine ⟨_,_,_,⟨_,_,_,.slice (some ⟨w.heap.size,0,none⟩) 0 0,.inl hrun,(nx_push (r:=.acc e i.size []) hR hF (u:=.slice (some ⟨w.heap.size,0,none⟩) 0 0) (fun b hb=>Nat.le_of_eq (Eq.symm hb)) ⟨_,[],upd_same _ _ _,⟨by simp,.inr ⟨w.heap.size,0,#[],rfl,Nat.zero_le _,heap_alloc_new w _,Nat.le_refl _,Nat.zero_le _,by simp,by simp⟩⟩,by simp only [List.flatten_nil,VDs],(fun x hx=>by cases hx),hpos,?_⟩).weaken fun _ q=>q.elim,?_⟩,h⟩
      ·intro b hb
       simp only [blk,Option.some.injEq] at hb
       subst hb
       rw [upd_same];simp
      simp only [V];exact upd_same _ _ _
     exact h.elim
    exact h.elim
   exact h.elim
  split at h
  ·rename_i x hc
   exact key hc h
  exact h.elim
 case store t addr val=>
  simp only [xop] at h
  split at h
  ·rename_i i id off p hi ha hp
   split at h
   ·rename_i ty cells qs hr hq
    split at h
    ·rename_i hb1 hb2
     have e1:=Nat.eq_of_beq_eq_true hb1
     have e2:off+qs.length≤cells.length:=Nat.le_of_ble_eq_true hb2
     obtain ⟨vs,g1,g2,g3⟩:=pvCells_sound hR.rows hq (ev_sound hR hp)
     have va:=ev_sound hR ha
     simp only [V] at va
     obtain ⟨b,hH,hv⟩:=va
     have hl:=Vs_length g2
     obtain ⟨w',r1,r2⟩:=nx_store (P:=P) (off:=off) hR hr g2 g3 (by omega) hH
     have hs:=run_size hT hi w
     refine ⟨_,_,_,⟨_,_,w',undef,.inr ⟨?_,rfl⟩,r2.weaken fun _ q=>mem1 q,V_s _⟩,h⟩
     have hsz:¬(vs.length≠i.size):=by omega
     simp [execOp,ho,Instr.storeAt,hv,Instr.sureAddr,storeVar,hs,g1,r1,show vs.length=i.size by omega]
    exact h.elim
   exact h.elim
  ·rename_i i id j off n hi ha hp
   split at h
   ·rename_i t' es hb1 hr
    have e1:=Nat.eq_of_beq_eq_true hb1
    obtain ⟨s,l,hj,hoff,hk⟩:=h
    have vp:=ev_sound hR hp
    simp only [V,VD.eq_1] at vp
    obtain ⟨b,w',hv,r1,r2⟩:=nx_amstore (P:=P) (n:=n) hR hr (ev_sound hR ha) hj hoff
    have hs:=run_size hT hi w
    refine ⟨_,_,_,⟨_,_,w',undef,.inr ⟨?_,rfl⟩,r2.weaken fun _ q=>mem1 q,V_s _⟩,hk⟩
    simp [execOp,ho,Instr.storeAt,hv,vp,Instr.sureAddr,storeVar,hs,Value.cells,r1,e1]
   exact h.elim
  exact h.elim
 case makeMap t hint=>
  simp only [xop] at h
  split at h
  ·rename_i kt e _ _ _ ht
   split at h
   case h_2=>
    refine ⟨_,_,_,⟨_,_,_,.map (some w.heap.size),.inl ?_,(nx_push (r:=.amap t false []) (u:=hdr [.map (some w.heap.size)]) hR (Fr_alloc (.map #[] 0) 0) (fun b hb=>?_) ⟨w.heap.size,#[],[],by simp [upd_same],heap_alloc_new w _,⟨rfl,rfl⟩,upd_same _ _ _,by simp⟩).weaken fun _ q=>q.elim,?_⟩,h⟩
    ·simp [execOp,ho,Instr.makeMap]
    ·obtain ⟨v,hv,hb⟩:=hb
     simp only [List.mem_singleton] at hv
     subst hv
     cases hb
     exact Nat.le_refl _
    simp only [V];exact ⟨_,upd_same _ _ _,rfl⟩
   refine ⟨_,_,_,⟨_,_,_,.map (some w.heap.size),.inl ?_,(nx_push (r:=.map t []) (u:=.map (some w.heap.size)) hR (Fr_alloc (.map #[] 0) 0) (fun b hb=>Nat.le_of_eq (Eq.symm hb)) ⟨w.heap.size,#[],by simp [upd_same],heap_alloc_new w _,by simp [VE],upd_same _ _ _⟩).weaken fun _ q=>q.elim,?_⟩,h⟩
   ·simp [execOp,ho,Instr.makeMap]
   simp only [V];rw [upd_same]
  exact h.elim
 case mapUpdate t m x y=>
  simp only [xop] at h
  obtain ⟨p,X',F,⟨H',lim',w',r1,r2,rfl⟩,hk⟩:=xMapPut_sound hT hR h
  exact ⟨_,X',F,⟨H',lim',w',undef,.inr ⟨by simp [execOp,ho,r1],rfl⟩,r2,V_s _⟩,hk⟩
 case insert t m x y=>
  simp only [xop] at h
  obtain ⟨p,X',F,⟨H',lim',w',r1,r2,rfl⟩,hk⟩:=xMapPut_sound hT hR h
  exact ⟨_,X',F,⟨H',lim',w',undef,.inr ⟨by simp [execOp,ho,r1],rfl⟩,r2,V_s _⟩,hk⟩
 case mapEntry t m x=>
  simp only [xop] at h
  obtain ⟨p,X',F,⟨H',lim',w',v,r1,r2,r3⟩,hk⟩:=xMapEnt_sound hT hR h
  exact ⟨_,X',F,⟨H',lim',w',v,.inl (by simp [execOp,ho,r1]),r2,r3⟩,hk⟩
 case entryStore t m x y=>
  simp only [xop] at h
  obtain ⟨p,X',F,⟨H',lim',w',r1,r2,rfl⟩,hk⟩:=xEntStore_sound (P:=P) (t:=t) hR h
  exact ⟨_,X',F,⟨H',lim',w',undef,.inr ⟨by simp [execOp,ho,r1],rfl⟩,r2,V_s _⟩,hk⟩
 case makeSlice t len cap=>
  simp only [xop] at h
  split at h
  ·rename_i e _ _ _ ik n jk c ht hl hc
   split at h
   ·rename_i i hi
    split at h
    ·rename_i z hz hs1
     obtain ⟨rfl,n',rfl,hb,hm,hk⟩:=h
     have vl:=ev_sound hR hl
     have vc:=ev_sound hR hc
     simp only [V,VD.eq_1] at vl vc
     obtain ⟨⟨d,hu,hd⟩,_⟩:=hT t _ ht
     simp only [TKOk] at hd
     subst hd
     obtain ⟨_,ti,g1,g2,g3,zv,g4,g5,_⟩:=hT e i hi
     have hs1':=Nat.eq_of_beq_eq_true hs1
     have hcells:madeCells zv.cells (n' * ti.size)=(List.replicate n' z).toArray:=by
      have hzz:zv.cells = #[z]:=by rw [← Array.toArray_toList (xs:=zv.cells),g5,hz]
      rw [g2,hs1',Nat.mul_one,hzz]
      apply Array.ext
      ·simp [madeCells]
      intro j h1 h2
      simp [madeCells,Nat.mod_one]
     have hrun:=run_make (P:=P) w t e ti zv hu g1 g4 ik jk (n':Int) (n':Int) (by omega) (Int.le_refl _) (by rw [g3];have:((i.bytes * n':Nat):Int)≤((281474976710656:Nat):Int):=Int.ofNat_le.2 hb;rw [Int.natCast_mul] at this;exact this) (by have:maxLen=9223372036854775807:=rfl;omega)
     simp only [Int.toNat_natCast] at hrun
     rw [hcells] at hrun
     have hvs:Vs H lim w (List.replicate n' (.d (.s z))) (List.replicate n' z):=by
      have:=Vs_map_s (H:=H) (lim:=lim) (w:=w) (List.replicate n' z)
      simpa using this
     refine ⟨_,_,_,⟨_,_,_,.slice (some ⟨w.heap.size,0,none⟩) n' n',.inl ?_,(nx_box (ty:=e) hR hvs).weaken fun _ q=>q.elim,?_⟩,hk⟩
     ·simp [execOp,ho,vl,vc,hrun]
     simp only [V];exact ⟨w.heap.size,n',by rw [upd_same],rfl,Nat.le_refl _,hm⟩
    exact h.elim
   exact h.elim
  exact h.elim
 case makeFunc fn first captured=>
  simp only [xop] at h
  split at h
  ·rename_i f cs hf hc
   have hvs:=evs_sound hR _ _ hc
   have hf':first = #[]:=by rw [← Array.toArray_toList (xs:=first),hf]
   refine ⟨_,_,_,⟨H,lim,w,.func (.func f) #[] (captured.toList.map a.eval).toArray,.inl ?_,Nx.refl hR,?_⟩,h⟩
   ·have e:captured.map a.eval=(captured.toList.map a.eval).toArray:=by apply Array.ext';simp
    simp only [execOp,ho,hf',e,List.map_toArray,List.map_nil,Instr.makeFunc,Sem.run_bind,Sem.run_pure,Result.andThen]
   simp only [V];exact ⟨_,rfl,hvs⟩
  exact h.elim
 case call c=>
  simp only [xop] at h
  split at h
  ·rename_i x y t t' hc ha ht
   split at h
   ·rename_i hb
    have e1:=Nat.eq_of_beq_eq_true hb
    subst e1
    obtain ⟨p,X',F,⟨H',lim',w',v,r1,r2,r3⟩,hk⟩:=xAppend_sound (ty:=o.type) hT hR h
    refine ⟨p,X',F,⟨H',lim',w',v,.inl ?_,r2,r3⟩,hk⟩
    have ha':c.args = #[x,y]:=by rw [← Array.toArray_toList (xs:=c.args),ha]
    have ht':c.argTypes = #[t,t]:=by rw [← Array.toArray_toList (xs:=c.argTypes),ht]
    simp [execOp,ho,resolve,hc,ha',ht',invoke,builtin,r1]
   obtain ⟨p,X',F,⟨H',lim',w',v,r1,r2,r3⟩,hk⟩:=xAppendS_sound (ty:=o.type) hT hR h
   refine ⟨p,X',F,⟨H',lim',w',v,.inl ?_,r2,r3⟩,hk⟩
   have ha':c.args = #[x,y]:=by rw [← Array.toArray_toList (xs:=c.args),ha]
   have ht':c.argTypes = #[t,t']:=by rw [← Array.toArray_toList (xs:=c.argTypes),ht]
   simp [execOp,ho,resolve,hc,ha',ht',invoke,builtin,r1]
  exact h.elim
 all_goals (simp only [xop] at h)
end
end Go.Abs
end
section
namespace Go.Abs
open Go

/-- What lies between two points of a function's walk: B rows were there at its start. -/
structure Lk (B:Nat) (H:Nat→Option Value) (lim:Nat→Nat) (w:World) (H':Nat→Option Value) (lim':Nat→Nat) (w':World):Prop where
 fr:Fr (Bl H) lim w lim' w'
 ptr:∀id v,id<B→stay v=true→H id=some v→H' id=H id
 blocks:∀b,Bl H' b→Bl H b∨w.heap.size≤b

theorem Lk.refl{B:Nat}{H:Nat→Option Value}{lim:Nat→Nat}{w:World}:Lk B H lim w H lim w:=⟨Fr.refl _ lim w,fun _ _ _ _ _=>rfl,fun _ q=>.inl q⟩
theorem Lk.trans{B:Nat}{H H' H'':Nat→Option Value}{lim lim' lim'':Nat→Nat}{w w' w'':World}(h:Lk B H lim w H' lim' w')(k:Lk B H' lim' w' H'' lim'' w''):Lk B H lim w H'' lim'' w'':=by
 refine ⟨h.fr.trans k.fr fun b hb q=>?_,fun id q hid hst hq=>?_,fun b hb=>?_⟩
 ·rcases h.blocks b q with q|q
  ·exact q
  omega
 ·have e:=h.ptr id q hid hst hq
  exact (k.ptr id q hid hst (e.trans hq)).trans e
 rcases k.blocks b hb with q|q
 ·exact h.blocks b q
 exact .inr (Nat.le_trans h.fr.size q)
theorem Nx.lk{D:List Deferred}{F:Nat→Prop}{G:Glob}{N B:Nat}{H H':Nat→Option Value}{lim lim':Nat→Nat}{X':St}{a:Act}{w w':World}(h:Nx D F G N H lim w X' a H' lim' w'):Lk B H lim w H' lim' w':=
 ⟨h.fr.weaken fun _ ⟨id,_,r⟩=>⟨id,r⟩,fun id q _ hst hq=>h.ptr id q hst hq,h.blocks⟩

inductive AExit where
 |normal
 |exit (id:Nat)
 |ret
 |pan (p:PV)

def Post(D:List Deferred)(G:Glob)(N B:Nat)(Q:AExit→St→Prop)(H:Nat→Option Value)(lim:Nat→Nat)(w:World):Exit→Act→World→Prop
 |.normal,a',w'=>∃X' H' lim',Rep D G N H' lim' X' a' w'∧Lk B H lim w H' lim' w'∧Q .normal X'
 |.exit id,a',w'=>∃X' H' lim',Rep D G N H' lim' X' a' w'∧Lk B H lim w H' lim' w'∧Q (.exit id) X'
 |.ret,a',w'=>∃X' H' lim',Rep D G N H' lim' X' a' w'∧Lk B H lim w H' lim' w'∧Q .ret X'
 |.panic chain,a',w'=>∃X' H' lim' v p,chain=[{ v,recovered:=false }]∧RowsOk H' lim' w' X'.rows∧V H' lim' w' p v∧a'.defers=D∧Lk B H lim w H' lim' w'∧Q (.pan p) X'
 |_,_,_=>False

def AWp(D:List Deferred)(P:Program)(G:Glob)(N B:Nat)(c:Code)(Q:AExit→St→Prop)(X:St):Prop:=
 ∀(H:Nat→Option Value) (lim:Nat→Nat) (a:Act) (w:World),Rep D G N H lim X a w→c.wp P (Post D G N B Q H lim w) a w

/-- The same frame and world, told in other words. -/
def Sub(D:List Deferred)(G:Glob)(N B:Nat)(X X':St):Prop:=
 ∀(H:Nat→Option Value) (lim:Nat→Nat) (a:Act) (w:World),Rep D G N H lim X a w→∃H' lim',Rep D G N H' lim' X' a w∧Lk B H lim w H' lim' w

def Then(K:St→Prop)(Q:AExit→St→Prop):AExit→St→Prop
 |.normal,X=>K X
 |e,X=>Q e X
def InBlock(id:Nat)(Q:AExit→St→Prop):AExit→St→Prop
 |.exit j,X=>match Nat.beq j id with
  |true=>Q .normal X
  |false=>Q (.exit j) X
 |e,X=>Q e X
/-- Both ways of a bool. -/
def onB(b:Bool)(yes no:Prop):Prop:=Bool.rec no yes b
theorem onB_intro{b:Bool}{yes no:Prop}(h1:b=true→yes)(h2:b=false→no):onB b yes no:=by
 cases b
 ·exact h2 rfl
 exact h1 rfl
theorem onB_elim{b:Bool}{yes no:Prop}(h:onB b yes no):(b=true→yes)∧(b=false→no):=by
 cases b
 ·exact ⟨fun e=>(nomatch e),fun _=>h⟩
 exact ⟨fun _=>h,fun e=>nomatch e⟩

section
variable {P:Program}{G:Glob}{D:List Deferred}{N B:Nat}{Q Q':AExit→St→Prop}{X X':St}{H H' H'':Nat→Option Value}{lim lim' lim'':Nat→Nat}{a:Act}{w w' w'':World}

theorem Post.mono(h:Lk B H lim w H' lim' w')(hq:∀e X,Q e X→Q' e X){e:Exit}{a':Act}(hp:Post D G N B Q H' lim' w' e a' w''):Post D G N B Q' H lim w e a' w'':=by
 cases e <;> simp only [Post] at hp ⊢
 ·obtain ⟨X',H',lim',h1,h2,h3⟩:=hp
  exact ⟨X',H',lim',h1,h.trans h2,hq _ _ h3⟩
 ·obtain ⟨X',H',lim',h1,h2,h3⟩:=hp
  exact ⟨X',H',lim',h1,h.trans h2,hq _ _ h3⟩
 ·obtain ⟨X',H',lim',h1,h2,h3⟩:=hp
  exact ⟨X',H',lim',h1,h.trans h2,hq _ _ h3⟩
 obtain ⟨X',H',lim',v,p,h1,h2,h3,h4,h5,h6⟩:=hp
 exact ⟨X',H',lim',v,p,h1,h2,h3,h4,h.trans h5,hq _ _ h6⟩

theorem Sub.lk(hH:∀id,id<B→H' id=H id)(hb:∀b,Bl H' b→Bl H b):Lk B H lim w H' lim w:=⟨Fr.refl _ lim w,fun id _ hid _ _=>hH id hid,fun b q=>.inl (hb b q)⟩
theorem Sub.refl:Sub D G N B X X:=fun H lim _ _ hR=>⟨H,lim,hR,Lk.refl⟩
theorem Sub.trans{X''}(h:Sub D G N B X X')(k:Sub D G N B X' X''):Sub D G N B X X'':=by
 intro H lim a w hR
 obtain ⟨H1,lim1,r1,r2⟩:=h H lim a w hR
 obtain ⟨H2,lim2,q1,q2⟩:=k H1 lim1 a w r1
 exact ⟨H2,lim2,q1,r2.trans q2⟩

theorem awp_mono{c:Code}(h:AWp D P G N B c Q X)(hq:∀e X,Q e X→Q' e X):AWp D P G N B c Q' X:=
 fun H lim a w hR=>wp_mono (h H lim a w hR) fun _ _ _ hp=>Post.mono Lk.refl hq hp
theorem awp_sub{c:Code}(hs:Sub D G N B X X')(h:AWp D P G N B c Q X'):AWp D P G N B c Q X:=by
 intro H lim a w hR
 obtain ⟨H',lim',r1,r2⟩:=hs H lim a w hR
 exact wp_mono (h H' lim' a w r1) fun _ _ _ hp=>Post.mono r2 (fun _ _ q=>q) hp

theorem awp_skip(h:Q .normal X):AWp D P G N B .skip Q X:=fun H lim _ _ hR=>wp_skip ⟨X,H,lim,hR,Lk.refl,h⟩
theorem awp_exit{id:Nat}(h:Q (.exit id) X):AWp D P G N B (.exit id) Q X:=fun H lim _ _ hR=>wp_exit ⟨X,H,lim,hR,Lk.refl,h⟩
theorem awp_ret(h:Q .ret X):AWp D P G N B .ret Q X:=fun H lim _ _ hR=>wp_ret ⟨X,H,lim,hR,Lk.refl,h⟩

theorem awp_seq{x y:Code}(h:AWp D P G N B x (Then (AWp D P G N B y Q) Q) X):AWp D P G N B (.seq x y) Q X:=by
 intro H lim a w hR
 refine wp_seq (wp_mono (h H lim a w hR) ?_)
 intro e a' w' hp
 cases e <;> simp only [Post,Exit.then] at hp ⊢
 ·obtain ⟨X',H',lim',h1,h2,h3⟩:=hp
  exact wp_mono (h3 H' lim' a' w' h1) fun _ _ _ hp=>Post.mono h2 (fun _ _ q=>q) hp
 all_goals exact hp
/-- A sequence, cut at what is known between its parts. -/
theorem awp_cut{x y:Code}(M:St→Prop)(h:AWp D P G N B x (Then (fun Z=>∃Z',Sub D G N B Z Z'∧M Z') Q) X)(k:∀Z,M Z→AWp D P G N B y Q Z):AWp D P G N B (.seq x y) Q X:=by
 refine awp_seq (awp_mono h ?_)
 intro e Z q
 cases e <;> simp only [Then] at q ⊢
 ·obtain ⟨Z',h1,h2⟩:=q
  exact awp_sub h1 (k Z' h2)
 all_goals exact q

theorem awp_block{id:Nat}{c:Code}(h:AWp D P G N B c (InBlock id Q) X):AWp D P G N B (.block id c) Q X:=by
 intro H lim a w hR
 refine wp_block (wp_mono (h H lim a w hR) ?_)
 intro e a' w' hp
 cases e <;> simp only [Post,Exit.inBlock] at hp ⊢
 ·exact hp
 ·rename_i j
  obtain ⟨X',H',lim',h1,h2,h3⟩:=hp
  simp only [InBlock] at h3
  by_cases hj:j=id
  ·rw [if_pos hj]
   subst hj
   simp only [Nat.beq_refl] at h3
   exact ⟨X',H',lim',h1,h2,h3⟩
  rw [if_neg hj]
  split at h3
  ·rename_i e;exact absurd (Nat.eq_of_beq_eq_true e) hj
  exact ⟨X',H',lim',h1,h2,h3⟩
 all_goals exact hp

theorem awp_loop {c:Code}(I:Nat→St→Prop) (n₀:Nat) (h₀:I n₀ X)
  (round:∀n Y,I n Y→AWp D P G N B c (Then (fun Z=>∃n',n'<n∧∃Z',Sub D G N B Z Z'∧I n' Z') Q) Y):AWp D P G N B (.loop c) Q X:=by
 intro H lim a w hR
 refine wp_loop_ghost (fun n a' w'=>∃Y H' lim',Rep D G N H' lim' Y a' w'∧Lk B H lim w H' lim' w'∧I n Y) n₀ ⟨X,H,lim,hR,Lk.refl,h₀⟩ ?_
 intro n a1 w1 ⟨Y,H1,lim1,hR1,lk,hI⟩
 refine wp_mono (round n Y hI H1 lim1 a1 w1 hR1) ?_
 intro e a2 w2 hp
 cases e <;> simp only [Post,Exit.then,Then] at hp ⊢
 ·obtain ⟨Z,H2,lim2,r1,r2,n',hn,Z',hs,hI'⟩:=hp
  obtain ⟨H3,lim3,q1,q2⟩:=hs H2 lim2 a2 w2 r1
  exact ⟨n',hn,Z',H3,lim3,q1,lk.trans (r2.trans q2),hI'⟩
 ·obtain ⟨X',H',lim',h1,h2,h3⟩:=hp
  exact ⟨X',H',lim',h1,lk.trans h2,h3⟩
 ·obtain ⟨X',H',lim',h1,h2,h3⟩:=hp
  exact ⟨X',H',lim',h1,lk.trans h2,h3⟩
 obtain ⟨X',H',lim',v,p,h1,h2,h3,h4,h5,h6⟩:=hp
 exact ⟨X',H',lim',v,p,h1,h2,h3,h4,lk.trans h5,h6⟩

theorem awp_cond{c:Operand}{x y:Code}{b:Bool}(hc:ev G X c=some (.d (.s (.bool b))))(h:onB b (AWp D P G N B x Q X) (AWp D P G N B y Q X)):AWp D P G N B (.cond c x y) Q X:=by
 intro H lim a w hR
 have hv:=ev_sound hR hc
 simp only [V,VD] at hv
 exact wp_cond_split hv (fun e=>(onB_elim h).1 e H lim a w hR) (fun e=>(onB_elim h).2 e H lim a w hR)
end
end Go.Abs
end
section
namespace Go.Abs
open Go

def idx:List Nat→Nat→Option Nat
 |[],_=>none
 |x::r,id=>match Nat.beq x id with
  |true=>some 0
  |false=>match idx r id with
   |some j=>some (j+1)
   |none=>none
def nodupB:List Nat→Bool
 |[]=>true
 |x::r=>match idx r x with
  |some _=>false
  |none=>nodupB r
/-- Names, as the rows of L alone know them. -/
def sIn(L:List Nat)(rows:List Row):Nat→Sb:=fun id=>match idx L id with
 |some j=>.to j
 |none=>match rows[id]? with
  |some (.acc _ k xs)=>.data (.sl k xs)
  |_=>.no
def pickRows(σ:Nat→Sb)(rows:List Row):List Nat→Option (List Row)
 |[]=>some []
 |id::L=>match rows[id]? with
  |some r=>match demRow σ r with
   |some q=>match pickRows σ rows L with
    |some qs=>some (q::qs)
    |none=>none
   |none=>none
  |none=>none
def pickEnv(env:List (Nat×PV)):List Nat→Option (List (Nat×PV))
 |[]=>some []
 |s::r=>match look env s with
  |some p=>match pickEnv env r with
   |some e=>some ((s,p)::e)
   |none=>none
  |none=>none
def HL(L:List Nat)(H:Nat→Option Value):Nat→Option Value:=fun j=>(L[j]?).bind H

/-- Names behind a call. -/
def sOut(L:List Nat)(n:Nat):Nat→Sb:=fun j=>match L[j]? with
 |some id=>.to id
 |none=>.to (n+(j - L.length))
def sKeep(L:List Nat)(rows:List Row):Nat→Sb:=fun id=>match idx L id with
 |some _=>match rows[id]? with
  |some (.acc _ k xs)=>.data (.sl k xs)
  |some (.box ..)=>.to id
  |some (.map ..)=>.to id
  |some (.vec ..)=>.to id
  |some (.amap ..)=>.to id
  |none=>.no
 |none=>.to id
def setAll:List Nat→List Row→List Row→List Row
 |id::L,rows,r::rs=>setAll L (rows.set id r) rs
 |_,rows,_=>rows
def place(L:List Nat)(rows1 rows2:List Row):List Row:=setAll L rows1 rows2++rows2.drop L.length

theorem idx_some:∀ {L:List Nat}{id j:Nat},idx L id=some j→L[j]? = some id
 |[],_,_,h=>by cases h
 |x::r,id,j,h=>by
  simp only [idx] at h
  split at h
  ·rename_i e;have:=Nat.eq_of_beq_eq_true e;simp only [Option.some.injEq] at h;subst h this;rfl
  split at h
  ·rename_i j' hj;simp only [Option.some.injEq] at h;subst h;simpa using idx_some hj
  cases h
theorem idx_none:∀ {L:List Nat}{id:Nat},idx L id=none→id∉L
 |[],_,_,q=>by cases q
 |x::r,id,h,q=>by
  simp only [idx] at h
  split at h
  ·cases h
  rename_i hb
  split at h
  ·cases h
  rename_i hn
  rcases List.mem_cons.1 q with rfl|q
  ·simp at hb
  exact idx_none hn q
theorem idx_get:∀ {L:List Nat}{id j:Nat},nodupB L=true→L[j]? = some id→idx L id=some j
 |[],_,_,_,h=>by cases h
 |x::r,id,j,hn,h=>by
  simp only [nodupB] at hn
  split at hn
  ·cases hn
  rename_i hx
  cases j with
  |zero=>simp only [List.getElem?_cons_zero,Option.some.injEq] at h;subst h;simp [idx]
  |succ j=>
   simp only [List.getElem?_cons_succ] at h
   have:=idx_get hn h
   simp only [idx,this]
   split
   ·rename_i e;have:=Nat.eq_of_beq_eq_true e;subst this;rw [hx] at this;cases this
   rfl
theorem pickRows_get{σ:Nat→Sb}{rows:List Row}:∀ {L:List Nat}{qs:List Row},pickRows σ rows L=some qs→qs.length=L.length∧(∀x,x∈L→x<rows.length)∧∀(j:Nat) (q:Row),qs[j]? = some q→∃(id:Nat) (r:Row),L[j]? = some id∧rows[id]? = some r∧demRow σ r=some q
 |[],qs,h=>by simp only [pickRows,Option.some.injEq] at h;subst h;exact ⟨rfl,fun _ q=>(by cases q),fun j q hq=>(by cases hq)⟩
 |id::L,qs,h=>by
  simp only [pickRows] at h
  split at h
  ·rename_i r hr
   split at h
   ·rename_i q hq
    split at h
    ·rename_i qs' hqs
     simp only [Option.some.injEq] at h
     subst h
     obtain ⟨h1,h2,h3⟩:=pickRows_get hqs
     refine ⟨by simp [h1],fun x hx=>?_,fun j q' hj=>?_⟩
     ·rcases List.mem_cons.1 hx with rfl|hx
      ·exact (List.getElem?_eq_some_iff.1 hr).1
      exact h2 x hx
     cases j with
     |zero=>simp only [List.getElem?_cons_zero,Option.some.injEq] at hj;subst hj;exact ⟨id,r,rfl,hr,hq⟩
     |succ j=>simpa using h3 j q' (by simpa using hj)
    cases h
   cases h
  cases h
theorem pickEnv_look{env:List (Nat×PV)}{j:Nat}{p:PV}:∀ {l:List Nat}{e:List (Nat×PV)},pickEnv env l=some e→look e j=some p→look env j=some p
 |[],e,h,hj=>by simp only [pickEnv,Option.some.injEq] at h;subst h;cases hj
 |s::r,e,h,hj=>by
  simp only [pickEnv] at h
  split at h
  ·rename_i q hq
   split at h
   ·rename_i e' he
    simp only [Option.some.injEq] at h
    subst h
    simp only [look] at hj
    split at hj
    ·rename_i hs;subst hs;rw [hq];exact hj
    exact pickEnv_look he hj
   cases h
  cases h

section
variable {P:Program}{G:Glob}{D:List Deferred}{N B:Nat}{X:St}{H:Nat→Option Value}{lim:Nat→Nat}{a:Act}{w:World}{L:List Nat}

theorem bl_HL{j b:Nat}(h:Ow (HL L H) j b):∃id,L[j]? = some id∧Ow H id b:=by
 unfold Ow HL at h
 cases hL:L[j]? with
 |none=>rw [hL] at h;obtain ⟨v,h,_⟩:=h;cases h
 |some id=>rw [hL] at h;exact ⟨id,rfl,h⟩

theorem sIn_ok(hR:RowsOk H lim w X.rows):(∀id i v,sIn L X.rows id=.to i→H id=some v→HL L H i=some v)∧(∀id x v,sIn L X.rows id=.data x→H id=some v→VD lim w x v):=by
 constructor
 ·intro id i v h hv
  unfold sIn at h
  split at h
  ·rename_i j hj
   simp only [Sb.to.injEq] at h
   subst h
   simp [HL,idx_some hj,hv]
  split at h <;> cases h
 intro id x v h hv
 unfold sIn at h
 split at h
 ·cases h
 split at h
 ·rename_i e k xs hr
  simp only [Sb.data.injEq] at h
  subst h
  obtain ⟨u,hu,hr'⟩:=acc_reads (hR.row id _ hr)
  rw [hv] at hu
  cases hu
  exact hr'
 cases h

theorem Bl_HL(b:Nat)(h:Bl (HL L H) b):Bl H b:=by
 obtain ⟨j,hj⟩:=h
 obtain ⟨x,_,x2⟩:=bl_HL hj
 exact ⟨x,x2⟩
theorem rows_pick(hR:RowsOk H lim w X.rows)(hn:nodupB L=true){qs:List Row}(h:pickRows (sIn L X.rows) X.rows L=some qs):RowsOk (HL L H) lim w qs:=by
 obtain ⟨h1,h2,h3⟩:=pickRows_get h
 refine ⟨fun j q hq=>?_,fun i j b hij hi hj=>?_,fun j hj=>?_⟩
 ·obtain ⟨id,r,e1,e2,e3⟩:=h3 j q hq
  exact row_dem (Fr.refl (fun _=>False) lim w) (sIn_ok hR).1 (sIn_ok hR).2 (fun v hv=>by simp [HL,e1,hv]) (fun _ _ q=>q) e3 (hR.row id r e2)
 ·obtain ⟨x,x1,x2⟩:=bl_HL hi
  obtain ⟨y,y1,y2⟩:=bl_HL hj
  refine hR.apart x y b (fun e=>hij ?_) x2 y2
  subst e
  have g1:=idx_get hn x1
  have g2:=idx_get hn y1
  rw [g1] at g2
  exact Option.some.inj g2
 simp [HL,List.getElem?_eq_none (show L.length≤j by omega)]

/-- The same, over the rows of L (the first B stay), with these slots. -/
theorem sub_pick {slots:List Nat}{env1 env2:List (Nat×PV)}{rows2:List Row}(h0:L.take B=List.range B) (h1:pickEnv X.env slots=some env1) (h2:demEnv (sIn L X.rows) env1=some env2)
  (h3:pickRows (sIn L X.rows) X.rows L=some rows2) (h4:nodupB L=true):Sub D G N B X ⟨env2,rows2⟩:=by
 intro H lim a w hR
 refine ⟨HL L H,lim,⟨fun j p hj=>?_,rows_pick hR.rows h4 h3,hR.glob.sub Bl_HL,hR.defers,hR.size⟩,Sub.lk (fun id hid=>?_) (fun b ⟨j,hb⟩=>?_)⟩
 ·obtain ⟨q,q1,q2⟩:=look_demEnv h2 hj
  obtain ⟨r1,r2⟩:=hR.env j q (pickEnv_look h1 q1)
  exact ⟨r1,V.sub (Fr.refl (fun _=>False) lim w) (sIn_ok hR.rows).1 (sIn_ok hR.rows).2 _ _ _ q2 r2⟩
 ·have e:(L.take B)[id]? = some id:=by rw [h0];simp [hid]
  rw [List.getElem?_take,if_pos hid] at e
  simp [HL,e]
 obtain ⟨id,_,h⟩:=bl_HL hb
 exact ⟨id,h⟩

/-- The names behind a call. -/
def HB(L:List Nat)(n:Nat)(H H1:Nat→Option Value):Nat→Option Value:=fun id=>match idx L id with
 |some j=>H1 j
 |none=>if id<n then H id else H1 (L.length+(id - n))

theorem setAll_get:∀ {L:List Nat}{rows rs:List Row}{id:Nat},nodupB L=true→L.length≤rs.length→(∀x,x∈L→x<rows.length)→(setAll L rows rs)[id]? = match idx L id with
  |some j=>rs[j]?
  |none=>rows[id]?
 |[],rows,rs,id,_,_,_=>by simp [setAll,idx]
 |x::L,rows,[],id,_,h,_=>by simp at h
 |x::L,rows,r::rs,id,hn,h,hx=>by
  simp only [nodupB] at hn
  split at hn
  ·cases hn
  rename_i hxn
  simp only [setAll]
  rw [setAll_get hn (by simpa using h) (fun y hy=>by simpa using hx y (List.mem_cons_of_mem _ hy))]
  have hxl:x<rows.length:=hx x (List.mem_cons_self ..)
  by_cases e:x=id
  ·subst e
   simp [hxn,idx,hxl]
  have hb:Nat.beq x id=false:=by cases hq:Nat.beq x id;rfl;exact absurd (Nat.eq_of_beq_eq_true hq) e
  simp only [idx,hb]
  cases hi:idx L id with
  |none=>simp [List.getElem?_set_ne e]
  |some j=>simp
theorem setAll_length:∀ {L:List Nat}{rows rs:List Row},(setAll L rows rs).length=rows.length
 |[],rows,rs=>by simp [setAll]
 |x::L,rows,[]=>by simp [setAll]
 |x::L,rows,r::rs=>by simp [setAll,setAll_length (L:=L)]

variable {args' ps:List PV}{rowsL rowsL' rows1 rows2:List Row}{p p':PV}{env':List (Nat×PV)}{f:FuncId}{vs:List Value}{H1:Nat→Option Value}{lim1:Nat→Nat}{w1:World}

theorem lt_of_bl(hR:RowsOk H lim w X.rows){i b:Nat}(hb:Ow H i b):i<X.rows.length∧b<w.heap.size:=by
 rcases Nat.lt_or_ge i X.rows.length with hi|hi
 ·exact ⟨hi,row_block (hR.row i _ (List.getElem?_eq_getElem hi)) hb⟩
 exact absurd hb (ow_none (hR.dom i hi))

/-- What a caller knows behind a call that was handed the rows of L. -/
theorem call_back (hR:Rep D G N H lim X a w) (hL:nodupB L=true) (hrows:pickRows (sIn L X.rows) X.rows L=some rowsL) (hlen:rowsL.length≤rowsL'.length)
  (henv:demEnv (sKeep L X.rows) X.env=some env') (hk:demRows (sKeep L X.rows) X.rows=some rows1) (hout:demRows (sOut L X.rows.length) rowsL'=some rows2)
  (c1:RowsOk H1 lim1 w1 rowsL') (c2:Fr (Bl (HL L H)) lim w lim1 w1) (c3:∀id v,stay v=true→HL L H id=some v→H1 id=HL L H id) (c4:∀b,Bl H1 b→Bl (HL L H) b∨w.heap.size≤b) :
  Nx D (fun i=>i∈L) G N H lim w ⟨env',place L rows1 rows2⟩ a (HB L X.rows.length H H1) lim1 w1∧(∀v,PV.sub (sOut L X.rows.length) p=some p'→V H1 lim1 w1 p v→V (HB L X.rows.length H H1) lim1 w1 p' v):=by
 obtain ⟨g1,g2,g3⟩:=pickRows_get hrows
 have hl1:=demRows_length hk
 have hl2:=demRows_length hout
 have so1:∀j i v,sOut L X.rows.length j=.to i→H1 j=some v→HB L X.rows.length H H1 i=some v:=by
  intro j i v h hv
  unfold sOut at h
  split at h
  ·rename_i id hid
   simp only [Sb.to.injEq] at h
   subst h
   simp only [HB,idx_get hL hid,hv]
  rename_i hid
  simp only [Sb.to.injEq] at h
  subst h
  have hj:L.length≤j:=by
   rcases Nat.lt_or_ge j L.length with q|q
   ·rw [List.getElem?_eq_getElem q] at hid;cases hid
   exact q
  have hi:idx L (X.rows.length+(j - L.length))=none:=by
   cases hq:idx L (X.rows.length+(j - L.length)) with
   |none=>rfl
   |some y=>have:=g2 _ (List.mem_of_getElem? (idx_some hq));omega
  simp only [HB,hi]
  rw [if_neg (by omega),show L.length+(X.rows.length+(j - L.length) - X.rows.length)=j from by omega,hv]
 have so2:∀j x v,sOut L X.rows.length j=.data x→H1 j=some v→VD lim1 w1 x v:=by
  intro j x v h
  unfold sOut at h
  split at h <;> cases h
 have sk1:∀i j v,sKeep L X.rows i=.to j→H i=some v→HB L X.rows.length H H1 j=some v:=by
  intro i j v h hv
  have hlt:i<X.rows.length:=by
   rcases Nat.lt_or_ge i X.rows.length with q|q
   ·exact q
   rw [hR.rows.dom i q] at hv;cases hv
  unfold sKeep at h
  split at h
  ·rename_i y hy
   split at h
   ·cases h
   ·rename_i ty cells hr
    simp only [Sb.to.injEq] at h
    subst h
    obtain ⟨b,cs,e1,_⟩:=hR.rows.row i _ hr
    rw [hv] at e1
    simp only [Option.some.injEq] at e1
    subst e1
    have e2:HL L H y=some (.pointer (some ⟨b,0,none⟩)):=by simp [HL,idx_some hy,hv]
    have:=c3 y _ rfl e2
    simp only [HB,hy,this,e2]
   ·rename_i ty es hr
    simp only [Sb.to.injEq] at h
    subst h
    obtain ⟨b,ms,e1,_⟩:=hR.rows.row i _ hr
    rw [hv] at e1
    simp only [Option.some.injEq] at e1
    subst e1
    have e2:HL L H y=some (.map (some b)):=by simp [HL,idx_some hy,hv]
    have:=c3 y _ rfl e2
    simp only [HB,hy,this,e2]
   ·rename_i ty xs hr
    simp only [Sb.to.injEq] at h
    subst h
    obtain ⟨b,cs,e1,_⟩:=hR.rows.row i _ hr
    rw [hv] at e1
    simp only [Option.some.injEq] at e1
    subst e1
    have e2:HL L H y=some (.pointer (some ⟨b,0,none⟩)):=by simp [HL,idx_some hy,hv]
    have:=c3 y _ rfl e2
    simp only [HB,hy,this,e2]
   ·rename_i ty fz es hr
    simp only [Sb.to.injEq] at h
    subst h
    obtain ⟨b,ms,hs,e1,_⟩:=hR.rows.row i _ hr
    rw [hv] at e1
    simp only [Option.some.injEq] at e1
    subst e1
    have e2:HL L H y=some (hdr (.map (some b)::hs)):=by simp [HL,idx_some hy,hv]
    have:=c3 y _ rfl e2
    simp only [HB,hy,this,e2]
   cases h
  rename_i hy
  simp only [Sb.to.injEq] at h
  subst h
  simp only [HB,hy,if_pos hlt,hv]
 have sk2:∀i x v,sKeep L X.rows i=.data x→H i=some v→VD lim1 w1 x v:=by
  intro i x v h hv
  unfold sKeep at h
  split at h
  ·split at h
   ·rename_i e k xs hr
    simp only [Sb.data.injEq] at h
    subst h
    obtain ⟨u,hu,hd⟩:=acc_reads (hR.rows.row i _ hr)
    rw [hv] at hu
    cases hu
    exact VD.mono c2 _ _ hd
   ·cases h
   ·cases h
   ·cases h
   ·cases h
   cases h
  cases h
 have hB:∀id b,Ow (HB L X.rows.length H H1) id b→(∃j,Ow H1 j b∧(idx L id=some j∨(idx L id=none∧X.rows.length≤id∧j=L.length+(id - X.rows.length))))∨(idx L id=none∧id<X.rows.length∧Ow H id b):=by
  intro id b hb
  cases hi:idx L id with
  |some j=>
   simp only [Ow,HB,hi] at hb
   exact .inl ⟨j,hb,.inl rfl⟩
  |none=>
   by_cases hlt:id<X.rows.length
   ·simp only [Ow,HB,hi,if_pos hlt] at hb
    exact .inr ⟨rfl,hlt,hb⟩
   simp only [Ow,HB,hi,if_neg hlt] at hb
   exact .inl ⟨_,hb,.inr ⟨rfl,by omega,rfl⟩⟩
 have hapart:∀id j b,idx L id=none→Ow H id b→¬Ow H1 j b:=by
  intro id j b hi hb hj
  rcases c4 b ⟨j,hj⟩ with ⟨y,hy⟩|hy
  ·obtain ⟨id',e1,e2⟩:=bl_HL hy
   exact hR.rows.apart id id' b (fun e=>idx_none hi (e▸List.mem_of_getElem? e1)) hb e2
  have:=(lt_of_bl hR.rows hb).2;omega
 have hget:∀id r,(place L rows1 rows2)[id]? = some r→(∃j,rows2[j]? = some r∧HB L X.rows.length H H1 id=H1 j)∨(idx L id=none∧id<X.rows.length∧rows1[id]? = some r):=by
  intro id r h
  unfold place at h
  have hs:(setAll L rows1 rows2).length=X.rows.length:=by rw [setAll_length,hl1]
  by_cases hlt:id<X.rows.length
  ·rw [List.getElem?_append_left (by omega),setAll_get hL (by omega) (fun x hx=>by have:=g2 x hx;omega)] at h
   cases hi:idx L id with
   |some j=>rw [hi] at h;exact .inl ⟨j,h,by simp only [HB,hi]⟩
   |none=>rw [hi] at h;exact .inr ⟨rfl,hlt,h⟩
  rw [List.getElem?_append_right (by omega),hs,List.getElem?_drop] at h
  have hi:idx L id=none:=by
   cases hq:idx L id with
   |none=>rfl
   |some y=>have:=g2 _ (List.mem_of_getElem? (idx_some hq));omega
  exact .inl ⟨_,h,by simp only [HB,hi,if_neg hlt]⟩
 refine ⟨⟨⟨fun j q hj=>?_,⟨fun id r hr=>?_,fun i j b hij hi hj=>?_,fun id hid=>?_⟩,hR.glob.mono c2 Bl_HL (fun b ⟨id,hb⟩=>by
  rcases hB id b hb with ⟨j,q1,_⟩|⟨_,_,q2⟩
  ·rcases c4 b ⟨j,q1⟩ with hy|hy
   ·exact .inl (Bl_HL b hy)
   exact .inr hy
  exact .inl ⟨id,q2⟩),hR.defers,hR.size⟩,c2.weaken fun b ⟨j,hj⟩=>?_,fun id q hst hq=>?_,fun b ⟨id,hb⟩=>?_⟩,fun v hs hv=>V.sub (Fr.refl (fun _=>False) lim1 w1) so1 so2 _ _ _ hs hv⟩
 ·obtain ⟨q',q1,q2⟩:=look_demEnv henv hj
  obtain ⟨r1,r2⟩:=hR.env j q' q1
  exact ⟨r1,V.sub c2 sk1 sk2 _ _ _ q2 r2⟩
 ·rcases hget id r hr with ⟨j,e1,e2⟩|⟨hi,hlt,e1⟩
  ·obtain ⟨r0,f1,f2⟩:=demRows_get hout e1
   exact row_dem (Fr.refl (fun _=>False) lim1 w1) so1 so2 (fun v hv=>e2.trans hv) (fun _ _ q=>q) f2 (c1.row j r0 f1)
  obtain ⟨r0,f1,f2⟩:=demRows_get hk e1
  refine row_dem c2 sk1 sk2 (fun v hv=>by simp only [HB,hi,if_pos hlt,hv]) (fun b hb ⟨y,hy⟩=>?_) f2 (hR.rows.row id r0 f1)
  obtain ⟨id',q1,q2⟩:=bl_HL hy
  exact hR.rows.apart id id' b (fun e=>idx_none hi (e▸List.mem_of_getElem? q1)) hb q2
 ·rcases hB i b hi with ⟨x,x1,x2⟩|⟨x1,_,x2⟩ <;> rcases hB j b hj with ⟨y,y1,y2⟩|⟨y1,_,y2⟩
  ·refine c1.apart x y b (fun e=>hij ?_) x1 y1
   subst e
   rcases x2 with x2|⟨x2,x3,x4⟩ <;> rcases y2 with y2|⟨y2,y3,y4⟩
   ·have:=idx_some x2;rw [idx_some y2] at this;exact (Option.some.inj this).symm
   ·have h1:=idx_some x2
    have:=(List.getElem?_eq_some_iff.1 h1).1
    omega
   ·have h1:=idx_some y2
    have:=(List.getElem?_eq_some_iff.1 h1).1
    omega
   omega
  ·exact hapart j x b y1 y2 x1
  ·exact hapart i y b x1 x2 y1
  exact hR.rows.apart i j b hij x2 y2
 ·have hlen2:(place L rows1 rows2).length=X.rows.length+(rows2.length - L.length):=by simp only [place,List.length_append,setAll_length,List.length_drop];omega
  rw [hlen2] at hid
  have hi:idx L id=none:=by
   cases hq:idx L id with
   |none=>rfl
   |some y=>have:=g2 _ (List.mem_of_getElem? (idx_some hq));omega
  simp only [HB,hi]
  rw [if_neg (by omega)]
  exact c1.dom _ (by omega)
 ·obtain ⟨id,q1,q2⟩:=bl_HL hj
  exact ⟨id,List.mem_of_getElem? q1,q2⟩
 ·have hlt:id<X.rows.length:=by
   rcases Nat.lt_or_ge id X.rows.length with h|h
   ·exact h
   rw [hR.rows.dom id h] at hq;cases hq
  cases hi:idx L id with
  |some j=>
   have e:HL L H j=some q:=by simp [HL,idx_some hi,hq]
   simp only [HB,hi,c3 j q hst e,e,hq]
  |none=>simp only [HB,hi,if_pos hlt]
 rcases hB id b hb with ⟨j,q1,_⟩|⟨_,_,q2⟩
 ·rcases c4 b ⟨j,q1⟩ with ⟨y,hy⟩|hy
  ·obtain ⟨id',_,e2⟩:=bl_HL hy
   exact .inl ⟨id',e2⟩
  exact .inr hy
 exact .inl ⟨id,q2⟩
end
end Go.Abs
end
section
namespace Go.Abs
open Go

def nth{α:Type}:List α→Nat→Option α
 |[],_=>none
 |x::r,i=>match Nat.beq i 0 with
  |true=>some x
  |false=>nth r (Nat.pred i)
theorem nth_get{α:Type}:∀(l:List α) (i:Nat),nth l i=l[i]?
 |[],i=>by simp [nth]
 |x::r,0=>by simp [nth]
 |x::r,i+1=>by
  have:Nat.beq (i+1) 0=false:=rfl
  simp [nth,this,nth_get r i]
theorem nth_ops(ops:Array Oper)(i:Nat):nth ops.toList i=ops[i]?:=by rw [nth_get];simp
def setE(d:Option Nat)(p:PV)(X:St):St:=match d with
 |some d=>⟨(d,p)::X.env,X.rows⟩
 |none=>X
def dstOk(N:Nat):Option Nat→Bool
 |some d=>Nat.blt d N
 |none=>true

def aCall(P:Program)(G:Glob)(X:St)(f:FuncId)(ps:List PV)(k:PV→St→List Nat→Prop)(pan:PV→St→Prop):Prop:=
 ∃(L:List Nat) (args':List PV) (rowsL:List Row) (out:Out) (rowsL' rows1 rows2:List Row) (env':List (Nat×PV)),
  nodupB L=true∧PV.subs (sIn L X.rows) ps=some args'∧pickRows (sIn L X.rows) X.rows L=some rowsL∧Spec P G f args' rowsL out rowsL'∧
  demRows (sOut L X.rows.length) rowsL'=some rows2∧demEnv (sKeep L X.rows) X.env=some env'∧demRows (sKeep L X.rows) X.rows=some rows1∧
  match out with
  |.ret p=>∃p',PV.sub (sOut L X.rows.length) p=some p'∧k p' ⟨env',place L rows1 rows2⟩ L
  |.pan p=>∃p',PV.sub (sOut L X.rows.length) p=some p'∧pan p' ⟨env',place L rows1 rows2⟩

def act(P:Program)(T:Tab)(G:Glob)(K:Option (Nat→Bool))(X:St)(op:Op)(k:PV→St→List Nat→Prop)(pan:PV→St→Prop):Prop:=match op with
 |.panic x=>match ev G X x with
  |some p=>match isIfc p with
   |true=>pan p X
   |false=>False
  |none=>False
 |.call c=>match c.callee with
  |.builtin .append=>xop T G X (.call c) k
  |.builtin .len=>pop T G K X (.call c) fun p=>k p X []
  |.builtin .max=>pop T G K X (.call c) fun p=>k p X []
  |.value x=>match ev G X x,evs G X c.args.toList with
   |some (.fn f caps),some ps=>aCall P G X f (ps++caps) k pan
   |_,_=>False
  |_=>False
 |.alloc t=>xop T G X (.alloc t) k
 |.box t x=>xop T G X (.box t x) k
 |.build t ps=>xop T G X (.build t ps) k
 |.buildSlice t n ps=>xop T G X (.buildSlice t n ps) k
 |.store t x y=>xop T G X (.store t x y) k
 |.makeFunc f x y=>xop T G X (.makeFunc f x y) k
 |.makeMap t x=>xop T G X (.makeMap t x) k
 |.mapUpdate t m x y=>xop T G X (.mapUpdate t m x y) k
 |.insert t m x y=>xop T G X (.insert t m x y) k
 |.makeSlice t x y=>xop T G X (.makeSlice t x y) k
 |.mapEntry t m x=>xop T G X (.mapEntry t m x) k
 |.entryStore t m x y=>xop T G X (.entryStore t m x y) k
 |op=>pop T G K X op fun p=>k p X []

def dstAt(ops:Array Oper)(j:Nat):Option Tmp:=match nth ops.toList j with
 |some o=>o.dst
 |none=>none
theorem dstAt_eq(ops:Array Oper)(j:Nat):dstAt ops j=(ops[j]?).bind (·.dst):=by
 unfold dstAt
 rw [nth_ops]
 cases ops[j]? <;> rfl
/-- What an operation's guard says: wanted or not, as the bool is. -/
def guarded(ops:Array Oper)(o:Oper)(X:St)(yes no:St→Prop):Prop:=match o.guard with
 |none=>yes X
 |some (j,want)=>match dstAt ops j with
  |some d=>match look X.env d with
   |some (.d (.s (.bool b)))=>match want with
    |true=>Bool.rec (motive:=fun _=>Prop) (no (setE (some d) (.d (.s (.bool false))) X)) (yes (setE (some d) (.d (.s (.bool true))) X)) b
    |false=>Bool.rec (motive:=fun _=>Prop) (yes (setE (some d) (.d (.s (.bool false))) X)) (no (setE (some d) (.d (.s (.bool true))) X)) b
   |some (.d (.s (.tuple _)))=>no X
   |_=>False
  |none=>False

/-- The operations of a region, one after another. -/
def aops(P:Program)(T:Tab)(G:Glob)(N:Nat)(ops:Array Oper)(pan:PV→St→Prop):List Nat→(St→Prop)→St→Prop
 |[],k,X=>k X
 |i::l,k,X=>match nth ops.toList i with
  |some o=>match dstOk N o.dst with
   |true=>guarded ops o X (fun X1=>act P T G (some fun _=>true) X1 o.op (fun p X2 _=>aops P T G N ops pan l k (setE o.dst p X2)) pan)
     (fun X1=>aops P T G N ops pan l k (setE o.dst (.d (.s undef)) X1))
   |false=>False
  |none=>False

section
variable {P:Program}{T:Tab}{G:Glob}{D:List Deferred}{N B:Nat}{X X':St}{H H':Nat→Option Value}{lim lim':Nat→Nat}{a:Act}{w w':World}{K:Option (Nat→Bool)}

theorem rep_put(hR:Rep D G N H lim X a w){d:Option Nat}{p:PV}{v:Value}(hd:dstOk N d=true)(hv:V H lim w p v):Rep D G N H lim (setE d p X) (a.put d v) w:=by
 cases d with
 |none=>exact hR
 |some d=>
  have hlt:d<N:=by simpa [dstOk,Nat.blt_eq] using hd
  refine ⟨fun j q hj=>?_,hR.rows,hR.glob,hR.defers,by simp [Act.put,hR.size]⟩
  simp only [setE,look] at hj
  split at hj
  ·rename_i e
   subst e
   simp only [Option.some.injEq] at hj
   subst hj
   refine ⟨hlt,?_⟩
   have:(a.put (some d) v).tmps.getD d undef=v:=by
    simp [Act.put,hR.size,hlt]
   rw [this]
   exact hv
  rename_i e
  obtain ⟨r1,r2⟩:=hR.env j q hj
  refine ⟨r1,?_⟩
  have:(a.put (some d) v).tmps.getD j undef=a.tmps.getD j undef:=by
   simp [Act.put,Array.getElem?_setIfInBounds_ne e]
  rw [this]
  exact r2
theorem rep_same(hR:Rep D G N H lim X a w){d:Nat}{p:PV}(hlt:d<N)(hv:V H lim w p (a.tmps.getD d undef)):Rep D G N H lim (setE (some d) p X) a w:=by
 refine ⟨fun j q hj=>?_,hR.rows,hR.glob,hR.defers,hR.size⟩
 simp only [setE,look] at hj
 split at hj
 ·rename_i e
  subst e
  simp only [Option.some.injEq] at hj
  subst hj
  exact ⟨hlt,hv⟩
 exact hR.env j q hj

theorem guarded_sound{ops:Array Oper}{o:Oper}{yes no:St→Prop}(hR:Rep D G N H lim X a w)(h:guarded ops o X yes no):
  (Region.wanted o (yielded ops a.tmps)=true∧∃X1,Rep D G N H lim X1 a w∧X1.rows=X.rows∧yes X1)∨(Region.wanted o (yielded ops a.tmps)=false∧∃X1,Rep D G N H lim X1 a w∧X1.rows=X.rows∧no X1):=by
 unfold guarded at h
 split at h
 ·rename_i hg
  exact .inl ⟨by simp [Region.wanted,hg],X,hR,rfl,h⟩
 rename_i j want hg
 split at h
 ·rename_i d hd
  rw [dstAt_eq] at hd
  split at h
  ·rename_i b hb
   obtain ⟨hlt,hv⟩:=hR.env d _ hb
   simp only [V,VD.eq_1] at hv
   have hy:yielded ops a.tmps j=some b:=by
    unfold yielded
    rw [hd]
    have:a.tmps[d]? = some (.bool b):=by
     rw [Array.getD_eq_getD_getElem?] at hv
     cases hq:a.tmps[d]? with
     |none=>rw [Array.getElem?_eq_none_iff] at hq;have:=hR.size;omega
     |some u=>rw [hq] at hv;simpa using hv
    simp [this]
   have hrt:∀c,b=c→Rep D G N H lim (setE (some d) (.d (.s (.bool c))) X) a w:=fun c e=>rep_same hR hlt (by simp only [V,VD.eq_1];rw [hv,e])
   have hr:∀p,(setE (some d) p X).rows=X.rows:=fun p=>rfl
   split at h
   ·cases hb':b with
    |true=>exact .inl ⟨by simp [Region.wanted,hg,hy,hb'],_,hrt true hb',hr _,(onB_elim h).1 hb'⟩
    |false=>exact .inr ⟨by simp [Region.wanted,hg,hy,hb'],_,hrt false hb',hr _,(onB_elim h).2 hb'⟩
   cases hb':b with
   |true=>exact .inr ⟨by simp [Region.wanted,hg,hy,hb'],_,hrt true hb',hr _,(onB_elim h).1 hb'⟩
   |false=>exact .inl ⟨by simp [Region.wanted,hg,hy,hb'],_,hrt false hb',hr _,(onB_elim h).2 hb'⟩
  ·rename_i vs hb
   obtain ⟨hlt,hv⟩:=hR.env d _ hb
   simp only [V,VD.eq_1] at hv
   have hy:yielded ops a.tmps j=none:=by
    unfold yielded
    rw [hd]
    have:a.tmps[d]? = some (.tuple vs):=by
     rw [Array.getD_eq_getD_getElem?] at hv
     cases hq:a.tmps[d]? with
     |none=>rw [Array.getElem?_eq_none_iff] at hq;have:=hR.size;omega
     |some u=>rw [hq] at hv;simpa using hv
    simp [this]
   exact .inr ⟨by simp [Region.wanted,hg,hy],X,hR,rfl,h⟩
  exact h.elim
 exact h.elim

/-- One operation, in the machine's own wp. -/
theorem act_sound (hT:TabOk P T) (hR:Rep D G N H lim X a w) {o:Oper}{k:PV→St→List Nat→Prop}{pan:PV→St→Prop}(h:act P T G (some fun _=>true) X o.op k pan)
  {next:Act→World→Prop}{Q:Exit→Act→World→Prop}
  (hk:∀p X' F H' lim' w' v,k p X' F→Nx D (fun i=>i∈F) G N H lim w X' a H' lim' w'→V H' lim' w' p v→next (a.put o.dst v) w')
  (hp:∀p X' H' lim' w' v,pan p X'→Rep D G N H' lim' X' a w'→(∀B,Lk B H lim w H' lim' w')→V H' lim' w' p v→Q (.panic [{ v,recovered:=false }]) a w') :
  o.wp P a w next Q:=by
 have kpop:∀op,o.op=op→pop T G (some fun _=>true) X op (fun p=>k p X [])→o.wp P a w next Q:=by
  intro op ho h
  obtain ⟨p,⟨v,h1,h2⟩,h3⟩:=pop_sound hT hR o _ (ho▸h)
  have:=h1 w (Agr.refl _ H lim w)
  unfold Oper.wp
  rw [this]
  exact hk p X [] H lim w v h3 (Nx.refl hR) h2
 have kxop:∀op,o.op=op→xop T G X op k→o.wp P a w next Q:=by
  intro op ho h
  obtain ⟨p,X',F,⟨H',lim',w',v,h1,h2,h3⟩,h4⟩:=xop_sound hT hR o _ (ho▸h)
  unfold Oper.wp
  rcases h1 with h1|⟨h1,rfl⟩
  ·rw [h1];exact hk p X' F H' lim' w' v h4 h2 h3
  rw [h1];exact hk p X' F H' lim' w' undef h4 h2 h3
 unfold act at h
 split at h
 ·rename_i x ho
  split at h
  ·rename_i p hx
   split at h
   ·rename_i hi
    have vx:=ev_sound hR hx
    obtain ⟨t,u,hv⟩:=isIfc_V hi vx
    unfold Oper.wp
    have:(execOp a.eval o).run P w=.halt (.panic (a.eval x)) w:=by
     simp [execOp,ho,hv,Instr.panic]
    rw [this]
    exact hp p X H lim w _ h hR (fun _=>Lk.refl) vx
   exact h.elim
  exact h.elim
 ·rename_i c ho
  split at h
  ·exact kxop _ ho h
  ·exact kpop _ ho h
  ·exact kpop _ ho h
  ·rename_i x hc
   split at h
   ·rename_i f caps ps hx hps
    have vx:=ev_sound hR hx
    have vps:=evs_sound hR _ _ hps
    simp only [V] at vx
    obtain ⟨cs,hf,hcs⟩:=vx
    obtain ⟨L,args',rowsL,out,rowsL',rows1,rows2,env',hL,hin,hrows,⟨hen,hlen,hsp⟩,hout,henv,hk1,hfin⟩:=h
    have hvs:Vs (HL L H) lim w args' (c.args.toList.map a.eval++cs):=Vs.sub (Fr.refl (fun _=>False) lim w) (sIn_ok hR.rows).1 (sIn_ok hR.rows).2 _ _ _ hin (Vs_append vps hcs)
    have hcalls:=hsp (HL L H) lim w _ (rows_pick hR.rows hL hrows) (hR.glob.sub Bl_HL) hvs
    unfold Oper.wp
    have hrun:(execOp a.eval o).run P w=.ok (.enter f (c.args.toList.map a.eval++cs).toArray) w:=by
     have e:c.args.map a.eval++cs.toArray=(c.args.toList.map a.eval++cs).toArray:=by apply Array.ext';simp
     have:=hen (c.args.map a.eval++cs.toArray) w
     rw [e] at this
     simp only [execOp,ho,resolve,hc,hf,Deferred.ofValue,Sem.run_bind,Sem.run_pure,Result.andThen,invoke]
     simpa [e] using this
    rw [hrun,Oper.upon_enter]
    refine Calls.mono hcalls ?_
    intro e w' ⟨H1,lim1,c1,c2,c3,c4,c5⟩
    obtain ⟨hnx,hval⟩:=call_back (p:=match out with | .ret p=>p | .pan p=>p) (p':=match out with | .ret p=>(PV.sub (sOut L X.rows.length) p).getD (.tup []) | .pan p=>(PV.sub (sOut L X.rows.length) p).getD (.tup [])) hR hL hrows hlen henv hk1 hout c1 c2 c3 c4
    cases out with
    |ret p=>
     obtain ⟨p',hp',hfin⟩:=hfin
     obtain ⟨v,rfl,hv⟩:=c5
     simp only [hp',Option.getD_some] at hval
     exact hk p' _ L _ lim1 w' v hfin hnx (hval v trivial hv)
    |pan p=>
     obtain ⟨p',hp',hfin⟩:=hfin
     obtain ⟨v,rfl,hv⟩:=c5
     simp only [hp',Option.getD_some] at hval
     exact hp p' _ _ lim1 w' v hfin hnx.rep (fun _=>hnx.lk) (hval v trivial hv)
   exact h.elim
  exact h.elim
 ·rename_i ho;exact kxop _ ho h
 ·rename_i ho;exact kxop _ ho h
 ·rename_i ho;exact kxop _ ho h
 ·rename_i ho;exact kxop _ ho h
 ·rename_i ho;exact kxop _ ho h
 ·rename_i ho;exact kxop _ ho h
 ·rename_i ho;exact kxop _ ho h
 ·rename_i ho;exact kxop _ ho h
 ·rename_i ho;exact kxop _ ho h
 ·rename_i ho;exact kxop _ ho h
 ·rename_i ho;exact kxop _ ho h
 ·rename_i ho;exact kxop _ ho h
 exact kpop _ rfl h

theorem aops_sound(hT:TabOk P T){ops:Array Oper}{Q:AExit→St→Prop}{H0:Nat→Option Value}{lim0:Nat→Nat}{w0:World}:
  ∀(l:List Nat) (X:St) (H:Nat→Option Value) (lim:Nat→Nat) (a:Act) (w:World),aops P T G N ops (fun p X=>Q (.pan p) X) l (fun X=>Q .normal X) X→Rep D G N H lim X a w→Lk B H0 lim0 w0 H lim w→
   wpOps P ops (Post D G N B Q H0 lim0 w0) l a w
 |[],X,H,lim,a,w,h,hR,lk=>⟨X,H,lim,hR,lk,h⟩
 |i::l,X,H,lim,a,w,h,hR,lk=>by
  simp only [aops] at h
  simp only [wpOps]
  split at h
  ·rename_i o ho
   rw [nth_ops] at ho
   rw [ho]
   split at h
   ·rename_i hd
    simp only
    rcases guarded_sound hR h with ⟨hw,X1,hR1,_,h⟩|⟨hw,X1,hR1,_,h⟩
    ·rw [if_pos hw]
     refine .inl (act_sound hT hR1 h ?_ ?_)
     ·intro p X' F H' lim' w' v hk hnx hv
      exact aops_sound hT l _ H' lim' _ w' hk (rep_put hnx.rep hd hv) (lk.trans hnx.lk)
     intro p X' H' lim' w' v hp hR' lk' hv
     exact ⟨X',H',lim',v,p,rfl,hR'.rows,hv,hR'.defers,lk.trans (lk' B),hp⟩
    rw [if_neg (by simp [hw])]
    exact aops_sound hT l _ H lim _ w h (rep_put hR1 hd (V_s _)) lk
   exact h.elim
  exact h.elim

theorem awp_region(hT:TabOk P T){ops:Array Oper}{id:Nat}{Q:AExit→St→Prop}(h:aops P T G N ops (fun p X=>Q (.pan p) X) (List.range ops.size) (fun X=>Q .normal X) X):AWp D P G N B (.region id ops false) Q X:=
 fun H lim a w hR=>wp_region (aops_sound hT _ X H lim a w h hR Lk.refl)

theorem awp_region_k(hT:TabOk P T){ops:Array Oper}{id:Nat}{Q:AExit→St→Prop}(h:∀(pan:PV→St→Prop) (K:St→Prop),(∀p X,Q (.pan p) X→pan p X)→(∀X,Q .normal X→K X)→aops P T G N ops pan (List.range ops.size) K X):AWp D P G N B (.region id ops false) Q X:=
 awp_region hT (h _ _ (fun _ _ q=>q) fun _ q=>q)
theorem aCall_ret {L:List Nat}{f:FuncId}{ps args':List PV}{rowsL rowsL' rows1 rows2:List Row}{p p':PV}{env':List (Nat×PV)}{k:PV→St→List Nat→Prop}{pan:PV→St→Prop}
  (hL:nodupB L=true) (hin:PV.subs (sIn L X.rows) ps=some args') (hrows:pickRows (sIn L X.rows) X.rows L=some rowsL) (hs:Spec P G f args' rowsL (.ret p) rowsL')
  (hout:demRows (sOut L X.rows.length) rowsL'=some rows2) (henv:demEnv (sKeep L X.rows) X.env=some env') (hk:demRows (sKeep L X.rows) X.rows=some rows1) (hp:PV.sub (sOut L X.rows.length) p=some p')
  (h:k p' ⟨env',place L rows1 rows2⟩ L):aCall P G X f ps k pan:=
 ⟨L,args',rowsL,.ret p,rowsL',rows1,rows2,env',hL,hin,hrows,hs,hout,henv,hk,p',hp,h⟩
theorem aCall_pan {L:List Nat}{f:FuncId}{ps args':List PV}{rowsL rowsL' rows1 rows2:List Row}{p p':PV}{env':List (Nat×PV)}{k:PV→St→List Nat→Prop}{pan:PV→St→Prop}
  (hL:nodupB L=true) (hin:PV.subs (sIn L X.rows) ps=some args') (hrows:pickRows (sIn L X.rows) X.rows L=some rowsL) (hs:Spec P G f args' rowsL (.pan p) rowsL')
  (hout:demRows (sOut L X.rows.length) rowsL'=some rows2) (henv:demEnv (sKeep L X.rows) X.env=some env') (hk:demRows (sKeep L X.rows) X.rows=some rows1) (hp:PV.sub (sOut L X.rows.length) p=some p')
  (h:pan p' ⟨env',place L rows1 rows2⟩):aCall P G X f ps k pan:=
 ⟨L,args',rowsL,.pan p,rowsL',rows1,rows2,env',hL,hin,hrows,hs,hout,henv,hk,p',hp,h⟩

/-- A list, reckoned out. -/
def forceL{α:Type}:List α→Option (List α)
 |[]=>some []
 |x::r=>match forceL r with
  |some r'=>some (x::r')
  |none=>none
def forceRows:List Row→Option (List Row)
 |[]=>some []
 |.box ty cells::r=>match forceL cells with
  |some cells=>match forceRows r with
   |some r'=>some (.box ty cells::r')
   |none=>none
  |none=>none
 |.acc e k xs::r=>match forceRows r with
  |some r'=>some (.acc e k xs::r')
  |none=>none
 |.map t es::r=>match forceRows r with
  |some r'=>some (.map t es::r')
  |none=>none
 |.vec ty xs::r=>match forceRows r with
  |some r'=>some (.vec ty xs::r')
  |none=>none
 |.amap t fz es::r=>match forceRows r with
  |some r'=>some (.amap t fz es::r')
  |none=>none
theorem forceL_eq{α:Type}:∀ {l l':List α},forceL l=some l'→l'=l
 |[],l',h=>by simp only [forceL,Option.some.injEq] at h;exact h.symm
 |x::r,l',h=>by
  simp only [forceL] at h
  split at h
  ·rename_i r' hr
   simp only [Option.some.injEq] at h
   rw [← h,forceL_eq hr]
  cases h
theorem forceRows_eq:∀ {l l':List Row},forceRows l=some l'→l'=l
 |[],l',h=>by simp only [forceRows,Option.some.injEq] at h;exact h.symm
 |.box ty cells::r,l',h=>by
  simp only [forceRows] at h
  split at h
  ·rename_i cs hc
   split at h
   ·rename_i r' hr
    simp only [Option.some.injEq] at h
    rw [← h,forceRows_eq hr,forceL_eq hc]
   cases h
  cases h
 |.acc e k xs::r,l',h=>by
  simp only [forceRows] at h
  split at h
  ·rename_i r' hr
   simp only [Option.some.injEq] at h
   rw [← h,forceRows_eq hr]
  cases h
 |.map t es::r,l',h=>by
  simp only [forceRows] at h
  split at h
  ·rename_i r' hr
   simp only [Option.some.injEq] at h
   rw [← h,forceRows_eq hr]
  cases h
 |.vec ty xs::r,l',h=>by
  simp only [forceRows] at h
  split at h
  ·rename_i r' hr
   simp only [Option.some.injEq] at h
   rw [← h,forceRows_eq hr]
  cases h
 |.amap t fz es::r,l',h=>by
  simp only [forceRows] at h
  split at h
  ·rename_i r' hr
   simp only [Option.some.injEq] at h
   rw [← h,forceRows_eq hr]
  cases h
theorem sub_norm{slots:List Nat}{env':List (Nat×PV)}{rows':List Row}(h1:pickEnv X.env slots=some env')(h2:forceRows X.rows=some rows'):Sub D G N B X ⟨env',rows'⟩:=by
 intro H lim a w hR
 rw [forceRows_eq h2]
 exact ⟨H,lim,⟨fun j p hj=>hR.env j p (pickEnv_look h1 hj),hR.rows,hR.glob,hR.defers,hR.size⟩,Lk.refl⟩
/-- The state, reckoned out, with these slots alone. -/
theorem awp_norm(slots:List Nat){c:Code}{Q:AExit→St→Prop}{env':List (Nat×PV)}{rows':List Row}(h1:pickEnv X.env slots=some env')(h2:forceRows X.rows=some rows')(h:AWp D P G N B c Q ⟨env',rows'⟩):AWp D P G N B c Q X:=
 awp_sub (sub_norm h1 h2) h

/-- What a load of a box gives. -/
def loadP(T:Tab)(X:St)(t:TypeId)(x:Option PV):Option PV:=match T t,x with
 |some i,some (.box id off)=>match X.rows[id]? with
  |some (.box _ cells)=>match i.desc.agg with
   |true=>match Nat.ble (off+i.size) cells.length,PV.subs (dem X.rows) ((cells.drop off).take i.size) with
    |true,some cs=>some (mkAgg cs)
    |_,_=>none
   |false=>cells[off]?
  |_=>none
 |_,_=>none
theorem loadP_pLoad{t:TypeId}{x:Option PV}{p:PV}(h:loadP T X t x=some p):pLoad T (some fun _=>true) X t x (fun q=>q=p):=by
 unfold loadP at h
 split at h
 ·rename_i i id off hTt
  split at h
  ·rename_i ty cells hr
   simp only [pLoad,pLoad1,hTt,hr]
   split at h
   ·rename_i hd
    split at h
    ·rename_i cs h1 h2
     simp only [Option.some.injEq] at h
     simp only [hd,h1,h2,h]
    cases h
   rename_i hd
   simp only [hd,h]
  cases h
 cases h

/-- What a function's results are. -/
def aResults(T:Tab)(X:St):List ResultVar→Option (List PV)
 |[]=>some []
 |.tmp t::r=>match look X.env t with
  |some p=>match aResults T X r with
   |some ps=>some (p::ps)
   |none=>none
  |none=>none
 |.cell b t::r=>match loadP T X t (look X.env b) with
  |some p=>match aResults T X r with
   |some ps=>some (p::ps)
   |none=>none
  |none=>none
def resOf:List PV→PV
 |[p]=>p
 |ps=>.tup ps
def argEnv:Nat→List PV→List (Nat×PV)
 |_,[]=>[]
 |i,p::ps=>(i,p)::argEnv (i+1) ps

theorem argEnv_look{ps:List PV}{j:Nat}{p:PV}:∀ {i:Nat},look (argEnv i ps) j=some p→i≤j∧ps[j - i]? = some p:=by
 induction ps with
 |nil=>intro i h;cases h
 |cons q ps ih=>
  intro i h
  simp only [argEnv,look] at h
  split at h
  ·rename_i e;subst e;simpa using h
  rename_i e
  obtain ⟨h1,h2⟩:=ih h
  refine ⟨by omega,?_⟩
  rw [show j - i=(j - (i+1))+1 from by omega,List.getElem?_cons_succ]
  exact h2

theorem aResults_sound(hT:TabOk P T)(hR:Rep D G N H lim X a w):∀(l:List ResultVar) (ps:List PV),aResults T X l=some ps→∃vs:List Value,(l.mapM (fun
  |.tmp t=>pure (a.tmps.getD t undef)
  |.cell b t=>do loadVar t (← asAddr (a.tmps.getD b undef))):Sem (List Value)).run P w=.ok vs w∧Vs H lim w ps vs
 |[],ps,h=>by simp only [aResults,Option.some.injEq] at h;subst h;exact ⟨[],by simp,by simp only [Vs]⟩
 |.tmp t::r,ps,h=>by
  simp only [aResults] at h
  split at h
  ·rename_i p hp
   split at h
   ·rename_i qs hq
    simp only [Option.some.injEq] at h
    subst h
    obtain ⟨vs,h1,h2⟩:=aResults_sound hT hR r qs hq
    refine ⟨a.tmps.getD t undef::vs,?_,by simp only [Vs];exact ⟨_,vs,rfl,(hR.env t p hp).2,h2⟩⟩
    rw [List.mapM_cons]
    simp only [Sem.run_bind,Sem.run_pure,Result.andThen]
    rw [h1]
   cases h
  cases h
 |.cell b t::r,ps,h=>by
  simp only [aResults] at h
  split at h
  ·rename_i p hp
   split at h
   ·rename_i qs hq
    simp only [Option.some.injEq] at h
    subst h
    obtain ⟨vs,h1,h2⟩:=aResults_sound hT hR r qs hq
    obtain ⟨p',⟨v,g1,g2⟩,rfl⟩:=pLoad_sound (o:={ dst:=none,op:=.load t (.tmp b),type:=0,pos:= "",after:=#[],guard:=none }) hT hR rfl (loadP_pLoad hp)
    have g:=g1 w (Agr.refl _ H lim w)
    have hbox:∃ad,a.tmps.getD b undef=.pointer (some ad):=by
     unfold loadP at hp
     split at hp
     ·rename_i hx
      have:=(hR.env b _ hx).2
      simp only [V] at this
      obtain ⟨bb,_,hv⟩:=this
      exact ⟨_,hv⟩
     cases hp
    obtain ⟨ad,had⟩:=hbox
    have hl:(loadVar t ad).run P w=.ok v w:=by
     have e:(execOp a.eval { dst:=none,op:=.load t (.tmp b),type:=0,pos:= "",after:=#[],guard:=none }).run P w=((loadVar t ad).run P w).andThen fun v w=>.ok (.value v) w:=by
      simp only [execOp,Act.eval,had,Instr.loadAt,Instr.sureAddr,Sem.run_bind,Sem.run_pure,Result.andThen]
     rw [e] at g
     cases hq2:(loadVar t ad).run P w with
     |ok v2 w2=>rw [hq2] at g;simp only [Result.andThen,Result.ok.injEq,Next.value.injEq] at g;rw [g.1,g.2]
     |halt x w2=>rw [hq2] at g;simp [Result.andThen] at g
    refine ⟨v::vs,?_,by simp only [Vs];exact ⟨v,vs,rfl,g2,h2⟩⟩
    rw [List.mapM_cons]
    have ha:asAddr (.pointer (some ad))=(pure ad:Sem Addr):=rfl
    simp only [had,ha,Sem.run_bind,Sem.run_pure,Result.andThen,hl]
    rw [h1]
   cases h
  cases h

def RetPost(T:Tab)(fn:Func)(out:Out)(rows':List Row):AExit→St→Prop:=fun e X=>match e with
 |.normal=>∃ps,aResults T X fn.results.toList=some ps∧out=.ret (resOf ps)∧X.rows=rows'
 |.ret=>∃ps,aResults T X fn.results.toList=some ps∧out=.ret (resOf ps)∧X.rows=rows'
 |.pan p=>out=.pan p∧X.rows=rows'
 |.exit _=>False
/-- Parts of a body. -/
def bodyOf(f:Func):Code:=match f.body with
 |some c=>c
 |none=>.skip
def seqB:Code→Code
 |.seq _ b=>b
 |c=>c
/-- A CONTRACT from a body. -/
theorem spec_of_awp (hT:TabOk P T) {f:FuncId}{fn:Func}{c:Code}{args:List PV}{rows rows':List Row}{out:Out}(hf:P.funcs[f]? = some fn) (hb:fn.body=some c) (hname:(fn.name== "runtime.NumGoroutine")=false)
  (hlen:rows.length≤rows'.length) (hN:N=args.length+(fn.ntmps - args.length))
  (h:AWp [] P G N rows.length c (RetPost T fn out rows') ⟨argEnv 0 args,rows⟩):Spec P G f args rows out rows':=by
 refine ⟨fun av0 w=>?_,hlen,fun H lim w vs hrows hglob hvs=>?_⟩
 ·have hne:¬fn.name = "runtime.NumGoroutine":=by simpa using hname
  simp [callFunc,hf,hne,hb,program,Sem.run]
 have hvl:vs.length=args.length:=Vs_length hvs
 refine calls_of_wp hf hb (wp_mono (h H lim _ w ⟨fun j p hj=>?_,hrows,hglob,rfl,?_⟩) ?_)
 ·obtain ⟨_,hj⟩:=argEnv_look hj
  obtain ⟨v,h1,h2⟩:=Vs_get hvs hj
  simp only [Nat.sub_zero] at h1
  have hlt:=(List.getElem?_eq_some_iff.1 h1).1
  refine ⟨by omega,?_⟩
  have:((vs.toArray++Array.replicate (fn.ntmps - vs.toArray.size) undef).getD j undef)=v:=by
   rw [Array.getD_eq_getD_getElem?,Array.getElem?_append_left (by simpa using hlt)]
   simp [h1]
  rw [this]
  exact h2
 ·simp [hN,hvl]
 intro e a' w' hp
 have key:∀X' H' lim',Rep [] G N H' lim' X' a' w'→Lk rows.length H lim w H' lim' w'→(∃ps,aResults T X' fn.results.toList=some ps∧out=.ret (resOf ps)∧X'.rows=rows')→
   a'.defers=[]∧∃v,(results fn a'.tmps).run P w'=.ok v w'∧(∃(H':Nat→Option Value) (lim':Nat→Nat),RowsOk H' lim' w' rows'∧Fr (Bl H) lim w lim' w'∧(∀id v,stay v=true→H id=some v→H' id=H id)∧(∀b,Bl H' b→Bl H b∨w.heap.size≤b)∧
    OutOk H' lim' w' out (.returned v)):=by
  intro X' H' lim' hR lk ⟨ps,q1,q2,q3⟩
  refine ⟨hR.defers,?_⟩
  obtain ⟨us,r1,r2⟩:=aResults_sound (P:=P) hT hR _ _ q1
  have hl:=Vs_length r2
  have hptr:∀id v,stay v=true→H id=some v→H' id=H id:=fun id q hst hq=>by
   rcases Nat.lt_or_ge id rows.length with hlt|hlt
   ·exact lk.ptr id q hlt hst hq
   rw [hrows.dom id hlt] at hq;cases hq
  have hres:(results fn a'.tmps).run P w'=.ok (if h:us.length=1 then us[0] else .tuple us.toArray) w':=by
   unfold results
   have:∀(g:ResultVar→Sem Value),(fn.results.mapM g).run P w'=((fn.results.toList.mapM g).run P w').andThen fun l w=>.ok l.toArray w:=by
    intro g
    rw [← Array.toArray_toList (xs:=fn.results),List.mapM_toArray]
    simp only [List.toList_toArray]
    show Sem.run P (List.mapM g fn.results.toList >>= fun x=>pure x.toArray) w'=_
    rw [Sem.run_bind]
    rfl
   rw [Sem.run_bind,this]
   erw [r1]
   simp [Result.andThen]
  refine ⟨_,hres,H',lim',q3▸hR.rows,lk.fr,hptr,lk.blocks,?_⟩
  subst q2
  refine ⟨_,rfl,?_⟩
  cases ps with
  |nil=>
   simp only [Vs] at r2
   subst r2
   simp only [resOf,V]
   exact ⟨[],rfl,by simp only [Vs]⟩
  |cons p ps=>
   cases ps with
   |nil=>
    simp only [Vs] at r2
    obtain ⟨u,us',rfl,h1,rfl⟩:=r2
    simpa [resOf] using h1
   |cons q ps=>
    have hne:¬us.length=1:=by simp at hl;omega
    rw [dif_neg hne]
    simp only [resOf,V]
    exact ⟨us,rfl,r2⟩
 cases e <;> simp only [Post,bodyPost] at hp ⊢
 ·obtain ⟨X',H',lim',h1,h2,h3⟩:=hp
  exact key X' H' lim' h1 h2 h3
 ·obtain ⟨X',H',lim',h1,h2,h3⟩:=hp
  exact h3
 ·obtain ⟨X',H',lim',h1,h2,h3⟩:=hp
  exact key X' H' lim' h1 h2 h3
 obtain ⟨X',H',lim',v,p,rfl,h2,h3,h4,h5,h6,h7⟩:=hp
 refine ⟨h4,H',lim',h7▸h2,h5.fr,fun id q hst hq=>?_,h5.blocks,?_⟩
 ·rcases Nat.lt_or_ge id rows.length with hlt|hlt
  ·exact h5.ptr id q hlt hst hq
  rw [hrows.dom id hlt] at hq;cases hq
 subst h6
 exact ⟨v,rfl,h3⟩
end
end Go.Abs
end
section
namespace Go.Abs
open Go

def tkOf:TypeDesc→Option TK
 |.int k=>some (.int k)
 |.bool=>some .bool
 |.string=>some .string
 |.slice e=>some (.slice e)
 |.pointer e=>some (.ptr e)
 |.struct fs=>some (.struct (fs.toList.map fun f=>(f.offset,f.type)))
 |.interface _=>some .iface
 |.map k v=>some (.map k v)
 |.func ..=>some .func
 |_=>none
def tabOf(P:Program):Tab:=fun t=>match P.underlying t with
 |some d=>match tkOf d with
  |some tk=>match P.info? t with
   |some ti=>match ti.zero with
    |some z=>match aggV z==tk.agg with
     |true=>some { desc:=tk,size:=ti.size,bytes:=ti.bytes,zero:=z.cells.toList }
     |false=>none
    |none=>none
   |none=>none
  |none=>none
 |none=>none
theorem tkOf_ok{d:TypeDesc}{tk:TK}(h:tkOf d=some tk):TKOk tk d:=by
 cases d <;> simp only [tkOf,Option.some.injEq] at h
 all_goals first
  | (subst h;rfl)
  | (subst h;exact ⟨_,rfl,rfl⟩)
  | (subst h;exact ⟨_,_,_,rfl⟩)
  | (subst h;exact ⟨_,rfl⟩)
  |cases h
theorem tabOf_ok(P:Program):TabOk P (tabOf P):=by
 intro t i h
 unfold tabOf at h
 split at h
 ·rename_i d hd
  split at h
  ·rename_i tk htk
   split at h
   ·rename_i ti hti
    split at h
    ·rename_i z hz
     split at h
     ·rename_i hag
      simp only [Option.some.injEq] at h
      subst h
      exact ⟨⟨d,hd,tkOf_ok htk⟩,ti,hti,rfl,rfl,z,hz,rfl,eq_of_beq hag⟩
     cases h
    cases h
   cases h
  cases h
 cases h
/-- Rows of twenty. -/
def tabC(l:List (List (Option TI))):Tab:=fun t=>match l[t / 20]? with
 |some c=>match c[t % 20]? with
  |some o=>o
  |none=>none
 |none=>none
def memB(l:List Nat)(t:Nat):Bool:=match l with
 |[]=>false
 |x::r=>match Nat.beq x t with
  |true=>true
  |false=>memB r t
/-- The types of a list alone. -/
def tabU(P:Program)(u:List Nat):Tab:=fun t=>match memB u t with
 |true=>tabOf P t
 |false=>none
theorem tabU_ok{P:Program}{u:List Nat}{l:List (List (Option TI))}(h:(List.range l.length).map (fun q=>(List.range 20).map fun r=>tabU P u (q * 20+r))=l):TabOk P (tabC l):=by
 intro t i ht
 unfold tabC at ht
 split at ht
 ·rename_i c hc
  split at ht
  ·rename_i o ho
   subst ht
   have hlt:=(List.getElem?_eq_some_iff.1 hc).1
   have h1:((List.range l.length).map (fun q=>(List.range 20).map fun r=>tabU P u (q * 20+r)))[t / 20]? = some c:=by rw [h];exact hc
   rw [List.getElem?_map,List.getElem?_range hlt] at h1
   simp only [Option.map_some,Option.some.injEq] at h1
   rw [← h1,List.getElem?_map,List.getElem?_range (Nat.mod_lt _ (by decide))] at ho
   simp only [Option.map_some,Option.some.injEq] at ho
   rw [Nat.mul_comm,Nat.div_add_mod] at ho
   unfold tabU at ho
   split at ho
   ·exact tabOf_ok P t i ho
   cases ho
  cases ht
 cases ht
end Go.Abs
end
