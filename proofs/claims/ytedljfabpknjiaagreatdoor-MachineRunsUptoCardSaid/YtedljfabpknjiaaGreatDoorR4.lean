/- Texts of this proof, joined and shortened. -/
import Derived.Test.YtedljfabpknjiaaGreatDoorR3
import Derived.Laws.MakeOwn
import Derived.Deep.LoopGhost
section
namespace Go.Abs
open Go
section

def Rg(G:Glob)(X:St):List Operand->Option (List PV)
 |[]=>some []
 |x::r=>match ev G X x with
  |some p=>match Rg G X r with
   |some ps=>some (p::ps)
   |none=>none
  |none=>none
def cZ:List (BA×Data)->BA->Data->List (BA×Data)
 |[],s,p=>[(s,p)]
 | (k,q)::r,s,p=>match s==k with
  |true=>(k,p)::r
  |false=>(k,q)::cZ r s p
def tj(T:Tab)(X:St)(t:TypeId)(m key:Option PV)(val:Option PV)(k:PV->St->List Nat->Prop):Prop:=
 match T t,m,key,val with
 |some { desc:=.map kt _,.. },some (.acc id),some (.d (.s (.string s))),some (.d p)=>match gQ T kt,X.rows[id]? with
  |true,some (.map t' es)=>∃Hc,cZ es s p=Hc/\k (.d (.s undef)) { X with rows:=X.rows.set id (.map t' Hc) } [id]
  |_,_=>False
 |_,_,_,_=>False
def zB(T:Tab)(X:St)(t:TypeId)(x y:Option PV)(k:PV->St->List Nat->Prop):Prop:=
 match T t,y with
 |some { desc:=.slice e,.. },some y=>match T e with
  |some i=>match Nat.beq i.zero.length i.size,Nat.ble 1 i.size,MT X i.size y,x with
   |true,true,some ys,some (.d (.s (.slice none 0 0)))=>(ys.length * i.bytes<=140737488355328/\ys.length<=maxLen)/\k (.acc X.rows.length) { X with rows:=X.rows++[.acc e i.size ys] } []
   |true,true,some ys,some (.acc id)=>match X.rows[id]? with
    |some (.acc e' k' xs)=>match Nat.beq e' e,Nat.beq k' i.size,eJ (gy id k' xs) X.env,ce (gy id k' xs) X.rows with
     |true,true,some env',some rows'=>((xs.length+ys.length) * i.bytes<=140737488355328/\xs.length+ys.length<=maxLen)/\k (.acc id) ⟨env',rows'.set id (.acc e i.size (xs++ys))⟩ [id]
     |_,_,_,_=>False
    |_=>False
   |_,_,_,_=>False
  |none=>False
 |_,_=>False
def Kf(T:Tab)(X:St)(t:TypeId)(k:PV->St->List Nat->Prop):Prop:=match T t with
 |some { desc:=.slice e,.. }=>match T e with
  |some i=>match Nat.ble 1 i.size with
   |true=>k (.arr X.rows.length 0 0) { X with rows:=X.rows++[.box e []] } []\/k (.acc X.rows.length) { X with rows:=X.rows++[.acc e i.size []] } []
   |false=>False
  |none=>False
 |_=>False
def FL:List Value->Bool
 |[.int .u8 (.ofNat 0)]=>true
 |_=>false
def uZ(T:Tab)(X:St)(t u:TypeId)(x y:Option PV)(k:PV->St->List Nat->Prop):Prop:=
 match T t,gQ T u,y,x with
 |some { desc:=.slice e,.. },true,some (.d (.s (.string s))),some (.acc id)=>match T e with
  |some i=>match FL i.zero,Nat.beq i.size 1,Nat.beq i.bytes 1,i.desc.agg,X.rows[id]? with
   |true,true,true,false,some (.acc e' k' xs)=>match Nat.beq e' e,Nat.beq k' 1,eJ (gy id 1 xs) X.env,ce (gy id 1 xs) X.rows with
    |true,true,some env',some rows'=>xs.length+s.size<=140737488355328/\k (.acc id) ⟨env',rows'.set id (.acc e 1 (xs++jn s))⟩ [id]
    |_,_,_,_=>False
   |_,_,_,_,_=>False
  |none=>False
 |_,_,_,_=>False
def dL:List (BA×Data)->BA->Data->Data×Nat×List (BA×Data)
 |[],s,z=>(z,0,[(s,z)])
 | (k,q)::r,s,z=>match s==k with
  |true=>(q,0,(k,q)::r)
  |false=>((dL r s z).1,(dL r s z).2.1+1,(k,q)::(dL r s z).2.2)
def zC(T:Tab)(X:St)(t:TypeId)(m key:Option PV)(k:PV->St->List Nat->Prop):Prop:=
 match T t,m,key with
 |some { desc:=.map kt et,.. },some (.acc id),some (.d (.s (.string s)))=>match gQ T kt,X.rows[id]?,nX T et with
  |true,some (.map t' es),some (.d z)=>∃r,dL es s z=r/\k (.tup [.d r.1,.d (.s (.int .i64 r.2.1))]) { X with rows:=X.rows.set id (.map t' r.2.2) } [id]
  |_,_,_=>False
 |_,_,_=>False
def rE(X:St)(m Tz val:Option PV)(k:PV->St->List Nat->Prop):Prop:=
 match m,Tz,val with
 |some (.acc id),some (.d (.s (.int _ i))),some (.d p)=>match X.rows[id]? with
  |some (.map t' es)=>∃(j:Nat) (Hc:List (BA×Data)),i=j/\j<es.length/\es.modify j (fun e=>(e.1,p))=Hc/\k (.d (.s undef)) { X with rows:=X.rows.set id (.map t' Hc) } [id]
  |_=>False
 |_,_,_=>False
def qo(T:Tab)(G:Glob)(X:St):Op->(PV->St->List Nat->Prop)->Prop
 |.alloc tp,k=>match T tp with
  |some i=>k (.box X.rows.length 0) { X with rows:=X.rows++[.box tp (rC i.zero)] } []
  |none=>False
 |.box tp x,k=>match ev G X x with
  |some p=>match ql p with
   |some cs=>k (.box X.rows.length 0) { X with rows:=X.rows++[.box tp cs] } []
   |none=>False
  |none=>False
 |.build t parts,k=>match D1 T G X t parts with
  |some cs=>k (xa cs) X []
  |none=>False
 |.buildSlice t fN parts,k=>match fN,parts.toList with
  |0,[]=>(match iw T G X t 0 #[] with
   |some x=>k (.d x) X []
   |none=>False)\/Kf T X t k
  |_,_=>match iw T G X t fN parts with
   |some x=>k (.d x) X []
   |none=>False
 |.store t TA val,k=>match T t,ev G X TA,ev G X val with
  |some i,some (.box id off),some p=>match X.rows[id]?,ql p with
   |some (.box ty cells),some qs=>match Nat.beq qs.length i.size,Nat.ble (off+qs.length) cells.length with
    |true,true=>k (.d (.s undef)) { X with rows:=X.rows.set id (.box ty (fR cells off qs)) } [id]
    |_,_=>False
   |_,_=>False
  |some i,some (.amc id (j+1) off),some (.d (.s (.int .i64 n)))=>match Nat.beq i.size 1,X.rows[id]? with
   |true,some (.amap t' false es)=>∃s l,es[j]? = some (s,l)/\off<l.length/\k (.d (.s undef)) { X with rows:=X.rows.set id (.amap t' false (es.set j (s,l.set off n))) } [id]
   |_,_=>False
  |some i,some (.d (.s (.pointer (some ⟨b,off,none⟩)))),some (.d (.s (.int .i64 m)))=>match Nat.beq i.size 1 with
   |true=>∃(id:Nat) (ks:List (Nat×Nat)) (ls:List (List Int)) (j n:Nat) (l:List Int),X.rows[id]? = some (.arrs false ks ls)/\ks[j]? = some (b,n)/\ls[j]? = some l/\off<l.length/\k (.d (.s undef)) { X with rows:=X.rows.set id (.arrs false ks (ls.set j (l.set off m))) } [id]
   |false=>False
  |_,_,_=>False
 |.makeMap t TC,k=>match T t,TC with
  |some { desc:=.map _ e,.. },none=>match Fv T e with
   |false=>k (.acc X.rows.length) { X with rows:=X.rows++[.map t []] } []
   |true=>k (.am X.rows.length 0) { X with rows:=X.rows++[.amap t false []] } []
  |_,_=>False
 |.mapUpdate t m x v,k=>tj T X t (ev G X m) (ev G X x) (ev G X v) k
 |.insert t m x v,k=>tj T X t (ev G X m) (ev G X x) (ev G X v) k
 |.mapEntry t m x,k=>zC T X t (ev G X m) (ev G X x) k
 |.entryStore _ m i v,k=>rE X (ev G X m) (ev G X i) (ev G X v) k
 |.makeSlice t fN cap,k=>match T t,ev G X fN,ev G X cap with
  |some { desc:=.slice e,.. },some (.d (.s (.int _ n))),some (.d (.s (.int _ c)))=>match T e with
   |some i=>match i.zero,Nat.beq i.size 1 with
    |[z],true=>c=n/\∃n':Nat,n=n'/\i.bytes * n'<=281474976710656/\n'<=maxLen/\(k (.arr X.rows.length 0 n') { X with rows:=X.rows++[.box e (List.replicate n' (.d (.s z)))] } []\/(z=.int .i64 0/\∀b:Nat,k (.d (.s (kv (b,n')))) { X with rows:=X.rows++[.arrs false [(b,n')] [List.replicate n' 0]] } []))
    |_,_=>False
   |none=>False
  |_,_,_=>False
 |.makeFunc fn first mB,k=>match fn,first.toList,Rg G X mB.toList with
  |.func f,[],some cs=>k (.fn f cs) X []
  |_,_,_=>False
 |.call c,k=>match c.callee,c.args.toList,c.argTypes.toList with
  |.builtin .append,[x,y],[t,t']=>match Nat.beq t t' with
   |true=>zB T X t (ev G X x) (ev G X y) k
   |false=>uZ T X t t' (ev G X x) (ev G X y) k
  |_,_,_=>False
 |_,_=>False

section
variable {P:Program}{G:Glob}{D:List Deferred}{N:Nat}{H H':Nat->Option Value}{lim lim':Nat->Nat}{X X':St}{a:Act}{w w':World}{T:Tab}{F F':Nat->Prop}

theorem Nx.weaken(h:Nx D F G N H lim w X' a H' lim' w')(hf:∀i,F i->F' i):Nx D F' G N H lim w X' a H' lim' w':=
 ⟨h.rep,h.fr.weaken fun _ ⟨id,q,r⟩=>⟨id,hf id q,r⟩,h.ptr,h.blocks⟩
theorem Nx.refl(h:Rep D G N H lim X a w):Nx D F G N H lim w X a H lim w:=
 ⟨h,Fr.refl _ lim w,fun _ _ _ _=>rfl,fun _ q=>.inl q⟩

def OC(D:List Deferred)(P:Program)(G:Glob)(N:Nat)(a:Act)(w:World)(H:Nat->Option Value)(lim:Nat->Nat)(o:Oper)(p:PV)(X':St)(F:List Nat):Prop:=
 ∃H' lim' w' v,((execOp a.eval o).run P w=.ok (.value v) w'\/((execOp a.eval o).run P w=.ok .skip w'/\v=undef))/\Nx D (fun i=>i∈F) G N H lim w X' a H' lim' w'/\V H' lim' w' p v

theorem nr(hR:Rep D G N H lim X a w):∀(l:List Operand) (ps:List PV),Rg G X l=some ps->Vs H lim w ps (l.map a.eval)
 |[],ps,h=>by simp only [Rg,sI] at h;subst h;simp only [List.map_nil,Vs]
 |x::r,ps,h=>by
  simp only [Rg] at h
  split at h
  ·rename_i p hp
   split at h
   ·rename_i qs hq
    simp only [sI] at h
    subst h
    simp only [List.map_cons,Vs]
    exact ⟨_,_,rfl,aw hR hp,nr hR r qs hq⟩
   cases h
  cases h
theorem Kg(hT:bH P T){t e:TypeId}{ti i:TI}(h:T t=some ti)(hd:ti.desc=.slice e)(he:T e=some i)(hz:Nat.beq i.zero.length i.size=true):ElemOk P t e i.size i.bytes:=by
 obtain ⟨⟨d,h1,h2⟩,_⟩:=hT t ti h
 rw [hd] at h2
 simp only [eX] at h2
 subst h2
 obtain ⟨_,ii,g1,g2,g3,z,g4,g5,_⟩:=hT e i he
 refine ⟨h1,ii,z,g1,g4,g2,g3,?_⟩
 rw [<- Nat.eq_of_beq_eq_true hz,<- g5]
 simp

theorem D2{i j:Nat}(h:i=j):i∈[j]:=by simp [h]

theorem v7(hT:bH P T)(hR:Rep D G N H lim X a w){t ty:TypeId}{x y:Operand}{k:PV->St->List Nat->Prop}(h:zB T X t (ev G X x) (ev G X y) k):
  ∃p X' F,(∃H' lim' w' v,(Builtin.append_ #[t,t] ty #[a.eval x,a.eval y]).run P w=.ok v w'/\Nx D (fun i=>i∈F) G N H lim w X' a H' lim' w'/\V H' lim' w' p v)/\k p X' F:=by
 unfold zB at h
 split at h
 ·rename_i e _ _ _ y' ht hy
  have vy:=aw hR hy
  split at h
  ·rename_i i hi
   split at h
   ·rename_i ys hz h1 RM hx
    have vx:=aw hR hx
    simp only [V,VD] at vx
    have hE:=Kg hT ht rfl hi hz
    have hk:0<i.size:=Nat.le_of_ble_eq_true h1
    obtain ⟨⟨b1,b2⟩,TD⟩:=h
    obtain ⟨v',w',lim',r1,r2⟩:=vY hR hE hk ty (oV hR.rows RM vy) b1 b2
    refine ⟨_,_,_,⟨_,lim',w',v',by rw [vx];exact r1,r2.weaken fun _ q=>q.elim,?_⟩,TD⟩
    simp only [V];exact aX _ _ _
   ·rename_i ys id hz h1 RM hx
    have vx:=aw hR hx
    simp only [V] at vx
    have hE:=Kg hT ht rfl hi hz
    split at h
    ·rename_i e' k' xs hr
     split at h
     ·rename_i env' rows' II K2 Wi HJ
      have e1:=Nat.eq_of_beq_eq_true II
      have e2:=Nat.eq_of_beq_eq_true K2
      subst e1 e2
      obtain ⟨⟨b1,b2⟩,TD⟩:=h
      obtain ⟨v',w',lim',r1,r2⟩:=vZ hR hE ty hr vx (oV hR.rows RM vy) b1 b2 Wi HJ
      refine ⟨_,_,_,⟨_,lim',w',v',r1,r2.weaken fun _ q=>D2 q,?_⟩,TD⟩
      simp only [V];exact aX _ _ _
     exact h.elim
    exact h.elim
   exact h.elim
  exact h.elim
 exact h.elim

theorem u6(hT:bH P T)(hR:Rep D G N H lim X a w){t u ty:TypeId}{x y:Operand}{k:PV->St->List Nat->Prop}(h:uZ T X t u (ev G X x) (ev G X y) k):
  ∃p X' F,(∃H' lim' w' v,(Builtin.append_ #[t,u] ty #[a.eval x,a.eval y]).run P w=.ok v w'/\Nx D (fun i=>i∈F) G N H lim w X' a H' lim' w'/\V H' lim' w' p v)/\k p X' F:=by
 unfold uZ at h
 split at h
 ·rename_i e _ _ _ s id ht hu hy hx
  have vy:=aw hR hy
  have vx:=aw hR hx
  simp only [V,VD] at vx vy
  split at h
  ·rename_i i hi
   split at h
   ·rename_i e' k' xs hz h1 h2 Wj hr
    split at h
    ·rename_i env' rows' II K2 Wi HJ
     have e1:=Nat.eq_of_beq_eq_true II
     have e2:=Nat.eq_of_beq_eq_true K2
     subst e1 e2
     obtain ⟨b1,TD⟩:=h
     have Zh:P.underlying u=some .string:=by
      unfold gQ at hu
      split at hu
      ·rename_i Ke
       obtain ⟨⟨d,g1,g2⟩,_⟩:=hT u _ Ke
       simp only [eX] at g2
       rw [g1,g2]
      cases hu
     obtain ⟨⟨d,g1,g2⟩,_⟩:=hT t _ ht
     simp only [eX] at g2
     subst g2
     obtain ⟨_,ii,q1,q2,q3,z,q4,q5,q6⟩:=hT e' i hi
     have CB:z=.int .u8 0:=by
      have QI:i.zero=[.int .u8 0]:=by
       unfold FL at hz
       split at hz
       ·rename_i RK;exact RK
       cases hz
      rw [Wj] at q6
      rw [QI] at q5
      cases z <;> simp only [JK] at q6 <;> simp_all [Value.cells]
     obtain ⟨v',w',lim',r1,r2⟩:=oh (ys:=jn s) (Run:=fun v' w'=>(Builtin.append_ #[t,u] ty #[a.eval x,.string s]).run P w=.ok v' w') hR hr vx
      (fun zs _ g2 _=>uY g1 Zh q1 (CB▸q4) (by rw [q2];exact Nat.eq_of_beq_eq_true h1) (by rw [q3];exact Nat.eq_of_beq_eq_true h2) ty g2 s b1) Wi HJ
     refine ⟨_,_,_,⟨_,lim',w',v',by rw [vy];exact r1,r2.weaken fun _ q=>D2 q,?_⟩,TD⟩
     simp only [V];exact aX _ _ _
    exact h.elim
   exact h.elim
  exact h.elim
 exact h.elim

theorem j_{b:Nat}{ob ob':Obj}(hb:w.heap[b]? = some ob)(hl:lim b=0):Fr (fun c=>c=b) lim w lim { w with heap:=w.heap.setIfInBounds b ob' }:=by
 have aO:∀c,c≠b->({ w with heap:=w.heap.setIfInBounds b ob' }:World).heap[c]? = w.heap[c]?:=fun c hc=>by
  simp [Array.getElem?_setIfInBounds_ne (Ne.symm hc)]
 refine ⟨rfl,rfl,rfl,by simp,fun c _=>⟨nR _,fun o ho=>?_⟩,fun c _ hn=>⟨aO c hn,rfl⟩⟩
 have:c≠b:=fun q=>by rw [q,hl] at ho;omega
 exact World.cell?_of_block (w:=w) (aO c this)
theorem FM{s:BA}{p:Data}{v:Value}(hp:VD lim w p v):∀ {es:List (BA×Data)}{ms:List MapEntry}{i j:Nat},VE lim w i es ms->
  (Instr.findNow .string (.string s) ms j=some none/\VE lim w i (cZ es s p) (ms++[⟨.string s,v,i+es.length⟩])/\(cZ es s p).length=es.length+1)\/
  ∃q e,Instr.findNow .string (.string s) ms j=some (some (j+q,e.val))/\ms[q]? = some e/\e.key=.string s/\VE lim w i (cZ es s p) (ms.modify q fun e=>{ e with key:=.string s,val:=v })/\(cZ es s p).length=es.length
 |[],ms,i,j,h=>by
  simp only [VE] at h
  subst h
  refine .inl ⟨rfl,?_,rfl⟩
  simp only [cZ,VE]
  exact ⟨_,[],rfl,rfl,rfl,hp,rfl⟩
 | (k,q)::r,ms,i,j,h=>by
  simp only [VE] at h
  obtain ⟨e,ms',rfl,h1,h2,h3,h4⟩:=h
  simp only [cZ,Instr.findNow,h1,Instr.sameNow]
  cases hb:(s==k)
  ·rcases FM hp (s:=s) (j:=j+1) h4 with ⟨g1,g2,g3⟩|⟨q',e',g1,g2,g3,g4,g5⟩
   ·refine .inl ⟨g1,?_,by simp [g3]⟩
    simp only [List.cons_append,VE,lC]
    exact ⟨e,_,rfl,h1,h2,h3,by rw [show i+(r.length+1)=i+1+r.length from by omega];exact g2⟩
   refine .inr ⟨q'+1,e',by rw [g1,show j+1+q'=j+(q'+1) from by omega],by simpa using g2,g3,?_,by simp [g5]⟩
   simp only [List.modify_succ_cons,VE]
   exact ⟨e,_,rfl,h1,h2,h3,g4⟩
  have hs:s=k:=(MapKept.bytes_beq _ _).1 hb
  subst hs
  refine .inr ⟨0,e,rfl,rfl,h1,?_,rfl⟩
  simp only [List.modify_zero_cons,VE]
  exact ⟨_,ms',rfl,rfl,h2,hp,h4⟩
theorem om(hT:bH P T)(hR:Rep D G N H lim X a w){t:TypeId}{m x y:Operand}{k:PV->St->List Nat->Prop}(h:tj T X t (ev G X m) (ev G X x) (ev G X y) k):
  ∃p X' F,(∃H' lim' w',(Instr.mapUpdate t (a.eval m) (a.eval x) (a.eval y)).run P w=.ok () w'/\Nx D (fun i=>i∈F) G N H lim w X' a H' lim' w'/\p=.d (.s undef))/\k p X' F:=by
 unfold tj at h
 split at h
 ·rename_i kt e _ _ _ id s p ht hm hx hp
  have vm:=aw hR hm
  have vx:=aw hR hx
  have vp:=aw hR hp
  simp only [V,VD.eq_1] at vm vx
  simp only [V] at vp
  obtain ⟨d,hd,hu⟩:=bo hT ht
  simp only [eX] at hd
  subst hd
  split at h
  ·rename_i t' es hs hr
   obtain ⟨Hc,rfl,hk⟩:=h
   have Tr:=mv hR hr
   obtain ⟨b,ms,h1,h2,h3,h4⟩:=Tr
   rw [vm] at h1
   simp only [sI] at h1
   have hH:H id=some (.map (some b)):=by rw [vm,h1]
   have fA:Ow H id b:=(bU hH).2 rfl
   have N9:∀(ms':Array MapEntry),VE lim w 0 (cZ es s p) ms'.toList->
     Nx D (fun i=>i∈[id]) G N H lim w { X with rows:=X.rows.set id (.map t' (cZ es s p)) } a H lim { w with heap:=w.heap.setIfInBounds b (.map ms' (cZ es s p).length) }:=by
    intro ms' v8
    have hF:=j_ (lim:=lim) (ob':=.map ms' (cZ es s p).length) h2 h4
    refine (rB (r':=.map t' (cZ es s p)) hR hr (hF.weaken fun c q=>by rw [q];exact fA) ⟨b,ms',hH,?_,VE.mono hF _ _ _ v8,h4⟩).weaken fun _ q=>D2 q
    simp [eH h2]
   have xR:=gR hT hs false s w
   have OZ:∀r,Instr.findNow .string (.string s) ms.toList 0=some r->(Instr.findKey kt (.string s) ms.toList).run P w=.ok r w:=fun r js=>by simp [Instr.findKey,fj hT hs,js]
   rcases FM vp (s:=s) (j:=0) h3 with ⟨g1,g2,g3⟩|⟨q,e',g1,g2,g3,g4,g5⟩
   ·refine ⟨_,_,_,⟨H,lim,_,?_,N9 (ms.push ⟨.string s,a.eval y,es.length⟩) (by simpa using g2),rfl⟩,hk⟩
    rw [g3]
    simp [h1,vx,Instr.mapUpdate,hu,MapKept.run_getObj_map h2,xR,OZ _ g1,MapKept.run_setObj_map _ h2]
   refine ⟨_,_,_,⟨H,lim,_,?_,N9 (ms.modify q fun e=>{ e with key:=.string s,val:=a.eval y }) (by simpa using g4),rfl⟩,hk⟩
   rw [g5]
   have hq:ms[q]? = some e':=by simpa using g2
   have Wk:Instr.sameBits 10000 (.string s) (.string s)=true:=by
    show Instr.sameBits (9999+1) (.string s) (.string s)=true
    simp [Instr.sameBits,(MapKept.bytes_beq s s).2 rfl]
   rw [Nat.zero_add] at g1
   simp [h1,vx,Instr.mapUpdate,hu,MapKept.run_getObj_map h2,xR,OZ _ g1,MapKept.run_setObj_map _ h2,Instr.keyThatStays,hq,g3,Wk]
  exact h.elim
 exact h.elim

theorem E9:∀(es:List (BA×Data)) (s:BA) (z p:Data),(dL es s z).2.1<(dL es s z).2.2.length/\(dL es s z).2.2.modify (dL es s z).2.1 (fun e=>(e.1,p))=cZ es s p
 |[],s,z,p=>⟨by simp [dL],rfl⟩
 | (k,q)::r,s,z,p=>by
  obtain ⟨h1,h2⟩:=E9 r s z p
  simp only [dL,cZ]
  cases (s==k)
  ·exact ⟨by simpa using h1,by rw [List.modify_succ_cons,h2]⟩
  exact ⟨by simp,rfl⟩
theorem FN{s:BA}{z:Data}{v:Value}(hp:VD lim w z v):∀ {es:List (BA×Data)}{ms:List MapEntry}{i j:Nat},VE lim w i es ms->
  (Instr.findNow .string (.string s) ms j=some none/\(dL es s z).1=z/\(dL es s z).2.1=es.length/\VE lim w i (dL es s z).2.2 (ms++[⟨.string s,v,i+es.length⟩])/\(dL es s z).2.2.length=es.length+1)\/
  ∃q e,Instr.findNow .string (.string s) ms j=some (some (j+q,e.val))/\ms[q]? = some e/\e.key=.string s/\e.born=i+q/\(dL es s z).2.1=q/\VD lim w (dL es s z).1 e.val/\VE lim w i (dL es s z).2.2 (ms.modify q fun e=>{ e with key:=.string s })/\(dL es s z).2.2.length=es.length
 |[],ms,i,j,h=>by
  simp only [VE] at h
  subst h
  refine .inl ⟨rfl,rfl,rfl,?_,rfl⟩
  simp only [dL,VE]
  exact ⟨_,[],rfl,rfl,rfl,hp,rfl⟩
 | (k,q)::r,ms,i,j,h=>by
  simp only [VE] at h
  obtain ⟨e,ms',rfl,h1,h2,h3,h4⟩:=h
  simp only [dL,Instr.findNow,h1,Instr.sameNow]
  cases hb:(s==k)
  ·rcases FN hp (s:=s) (j:=j+1) h4 with ⟨g1,g2,g3,g4,g5⟩|⟨q',e',g1,g2,g3,g4,g5,g6,g7,g8⟩
   ·refine .inl ⟨g1,g2,by simp [g3],?_,by simp [g5]⟩
    simp only [List.cons_append,VE,lC]
    exact ⟨e,_,rfl,h1,h2,h3,by rw [show i+(r.length+1)=i+1+r.length from by omega];exact g4⟩
   refine .inr ⟨q'+1,e',by rw [g1,show j+1+q'=j+(q'+1) from by omega],by simpa using g2,g3,by omega,by simp [g5],g6,?_,by simp [g8]⟩
   simp only [List.modify_succ_cons,VE]
   exact ⟨e,_,rfl,h1,h2,h3,g7⟩
  have hs:s=k:=(MapKept.bytes_beq _ _).1 hb
  subst hs
  refine .inr ⟨0,e,rfl,rfl,h1,h2,rfl,h3,?_,rfl⟩
  simp only [List.modify_zero_cons,VE]
  exact ⟨_,ms',rfl,rfl,h2,h3,h4⟩
theorem Kh{p:Data}{v:Value}(hp:VD lim w p v):∀ {es:List (BA×Data)}{ms:List MapEntry}{i j:Nat},VE lim w i es ms->j<es.length->
  ms.findIdx? (fun e=>(e.born:Int)==((i+j:Nat):Int))=some j/\VE lim w i (es.modify j (fun e=>(e.1,p))) (ms.modify j fun e=>{ e with val:=v })
 |[],_,_,_,_,h=>by cases h
 | (k,q)::r,ms,i,j,h,hj=>by
  simp only [VE] at h
  obtain ⟨e,ms',rfl,h1,h2,h3,h4⟩:=h
  cases j with
  |zero=>
   refine ⟨by simp [List.findIdx?_cons,h2],?_⟩
   simp only [List.modify_zero_cons,VE]
   exact ⟨_,ms',rfl,h1,h2,hp,h4⟩
  |succ j=>
   obtain ⟨g1,g2⟩:=Kh hp h4 (show j<r.length by simpa using hj)
   refine ⟨?_,?_⟩
   ·rw [show i+(j+1)=i+1+j from by omega,List.findIdx?_cons,g1]
    have:((e.born:Int)==((i+1+j:Nat):Int))=false:=beq_eq_false_iff_ne.2 (by omega)
    simp only [this]
    rfl
   simp only [List.modify_succ_cons,VE]
   exact ⟨e,_,rfl,h1,h2,h3,g2⟩
theorem D3(hR:Rep D G N H lim X a w){id:Nat}{t':TypeId}{es Hc:List (BA×Data)}{b:Nat}{ms ms':Array MapEntry}(hr:X.rows[id]? = some (.map t' es))(hH:H id=some (.map (some b)))(h2:w.heap[b]? = some (.map ms es.length))(h4:lim b=0)(v8:VE lim w 0 Hc ms'.toList):
  Nx D (fun i=>i∈[id]) G N H lim w { X with rows:=X.rows.set id (.map t' Hc) } a H lim { w with heap:=w.heap.setIfInBounds b (.map ms' Hc.length) }:=by
 have fA:Ow H id b:=(bU hH).2 rfl
 have hF:=j_ (lim:=lim) (ob':=.map ms' Hc.length) h2 h4
 refine (rB (r':=.map t' Hc) hR hr (hF.weaken fun c q=>by rw [q];exact fA) ⟨b,ms',hH,?_,VE.mono hF _ _ _ v8,h4⟩).weaken fun _ q=>D2 q
 simp [eH h2]
theorem v_(hT:bH P T)(hR:Rep D G N H lim X a w){t:TypeId}{m x:Operand}{k:PV->St->List Nat->Prop}(h:zC T X t (ev G X m) (ev G X x) k):
  ∃p X' F,(∃H' lim' w' v,(Instr.mapEntry t (a.eval m) (a.eval x)).run P w=.ok v w'/\Nx D (fun i=>i∈F) G N H lim w X' a H' lim' w'/\V H' lim' w' p v)/\k p X' F:=by
 unfold zC at h
 split at h
 ·rename_i kt et _ _ _ id s ht hm hx
  have vm:=aw hR hm
  have vx:=aw hR hx
  simp only [V,VD.eq_1] at vm vx
  obtain ⟨d,hd,hu⟩:=bo hT ht
  simp only [eX] at hd
  subst hd
  split at h
  ·rename_i t' es z hs hr hz
   obtain ⟨r,rfl,hk⟩:=h
   obtain ⟨b,ms,h1,h2,h3,h4⟩:=mv hR hr
   rw [vm] at h1
   simp only [sI] at h1
   have hH:H id=some (.map (some b)):=by rw [vm,h1]
   obtain ⟨zv,z1,z2⟩:=iv (H:=H) (lim:=lim) (w:=w) hT hz
   simp only [V] at z2
   have xR:=gR hT hs false s w
   have OZ:∀r,Instr.findNow .string (.string s) ms.toList 0=some r->(Instr.findKey kt (.string s) ms.toList).run P w=.ok r w:=fun r js=>by simp [Instr.findKey,fj hT hs,js]
   rcases FN z2 (s:=s) (j:=0) h3 with ⟨g1,g2,g3,g4,g5⟩|⟨q,e',g1,g2,g3,g4,g5,g6,g7,g8⟩
   ·refine ⟨_,_,_,⟨H,lim,_,.tuple #[zv,.int .i64 (es.length:Int)],?_,D3 (ms':=ms.push ⟨.string s,zv,es.length⟩) hR hr hH h2 h4 (by simpa using g4),?_⟩,hk⟩
    ·rw [g5]
     simp [h1,vx,Instr.mapEntry,hu,MapKept.run_getObj_map h2,xR,OZ _ g1,MapKept.run_setObj_map _ h2,z1,goInt]
    simp only [V,Vs]
    rw [g2,g3]
    exact ⟨_,rfl,_,_,rfl,VD.mono (j_ h2 h4) _ _ z2,_,_,rfl,rfl,rfl⟩
   have hq:ms[q]? = some e':=by simpa using g2
   have Wk:Instr.sameBits 10000 (.string s) (.string s)=true:=by
    show Instr.sameBits (9999+1) (.string s) (.string s)=true
    simp [Instr.sameBits,(MapKept.bytes_beq s s).2 rfl]
   rw [Nat.zero_add] at g1 g4
   refine ⟨_,_,_,⟨H,lim,_,.tuple #[e'.val,.int .i64 (q:Int)],?_,D3 (ms':=ms.modify q fun e=>{ e with key:=.string s }) hR hr hH h2 h4 (by simpa using g7),?_⟩,hk⟩
   ·rw [g8]
    simp [h1,vx,Instr.mapEntry,hu,MapKept.run_getObj_map h2,xR,OZ _ g1,MapKept.run_setObj_map _ h2,Instr.keyThatStays,hq,g3,Wk,goInt,g4]
   simp only [V,Vs]
   rw [g5]
   exact ⟨_,rfl,_,_,rfl,VD.mono (j_ h2 h4) _ _ g6,_,_,rfl,rfl,rfl⟩
  exact h.elim
 exact h.elim
theorem sS(hR:Rep D G N H lim X a w){t:TypeId}{m x y:Operand}{k:PV->St->List Nat->Prop}(h:rE X (ev G X m) (ev G X x) (ev G X y) k):
  ∃p X' F,(∃H' lim' w',(Instr.entryStore t (a.eval m) (a.eval x) (a.eval y)).run P w=.ok () w'/\Nx D (fun i=>i∈F) G N H lim w X' a H' lim' w'/\p=.d (.s undef))/\k p X' F:=by
 unfold rE at h
 split at h
 ·rename_i id ik i p hm hx hp
  have vm:=aw hR hm
  have vx:=aw hR hx
  have vp:=aw hR hp
  simp only [V,VD.eq_1] at vm vx
  simp only [V] at vp
  split at h
  ·rename_i t' es hr
   obtain ⟨j,Hc,rfl,hj,rfl,hk⟩:=h
   obtain ⟨b,ms,h1,h2,h3,h4⟩:=mv hR hr
   rw [vm] at h1
   simp only [sI] at h1
   have hH:H id=some (.map (some b)):=by rw [vm,h1]
   obtain ⟨g1,g2⟩:=Kh vp h3 hj
   rw [Nat.zero_add] at g1
   have Zi:ms.findIdx? (fun e=>(e.born:Int)==(j:Int))=some j:=by
    have e:ms=ms.toList.toArray:=by simp
    rw [e,List.findIdx?_toArray]
    exact g1
   have hx:=D3 (ms':=ms.modify j fun e=>{ e with val:=a.eval y }) hR hr hH h2 h4 (by simpa using g2)
   rw [show (es.modify j fun e=>(e.1,p)).length=es.length by simp] at hx
   refine ⟨_,_,_,⟨H,lim,_,?_,hx,rfl⟩,hk⟩
   simp [h1,vx,Instr.entryStore,MapKept.run_getObj_map h2,MapKept.run_setObj_map _ h2,asInt,asIntOf,Zi]
  exact h.elim
 exact h.elim

theorem Ki{fz:Bool}{c:Nat}(aO:∀b,b≠c->w'.heap[b]? = w.heap[b]?):∀ {es:List (BA×List Int)}{i:Nat}{ms:List MapEntry}{hs:List Value},AE lim w fz i es ms hs->c∉hs.filterMap blk->AE lim w' fz i es ms hs
 |[],_,_,_,h,_=>h
 | (k,l')::r,i,ms,hs,h,hn=>by
  obtain ⟨e,ms',c',ty,yd,cap,rfl,rfl,h1,h2,h3,h4,h5,h6,h7⟩:=h
  have e1:blk e.val=some c':=by rw [h3];rfl
  rw [List.filterMap_cons_some e1,List.mem_cons,not_or] at hn
  exact ⟨e,ms',c',ty,yd,cap,rfl,rfl,h1,h2,h3,h4,(aO c' (Ne.symm hn.1)).trans h5,h6,Ki aO h7 hn.2⟩
theorem Cc{c off:Nat}{n:Int}{s:BA}{l:List Int}(aO:∀b,b≠c->w'.heap[b]? = w.heap[b]?)(hc:∀ty,w.heap[c]? = some (.cells (l.map (Value.int .i64)).toArray ty (0,0))->w'.heap[c]? = some (.cells ((l.set off n).map (Value.int .i64)).toArray ty (0,0))):
  ∀ {es:List (BA×List Int)}{i j m cc:Nat}{ms:List MapEntry}{hs:List Value},AE lim w false i es ms hs->(hs.filterMap blk).Nodup->es[j]? = some (s,l)->hs[j]? = some (.slice (some ⟨c,0,none⟩) m cc)->AE lim w' false i (es.set j (s,l.set off n)) ms hs
 |[],_,_,_,_,_,_,_,_,h,_=>by cases h
 | (k,l')::r,i,0,_,_,ms,hs,h,hn,hj,hh=>by
  simp only [List.getElem?_cons_zero,sI,Prod.mk.injEq] at hj
  obtain ⟨rfl,rfl⟩:=hj
  obtain ⟨e,ms',c',ty,yd,cap,rfl,rfl,h1,h2,h3,h4,h5,h6,h7⟩:=h
  rw [List.getElem?_cons_zero,h3] at hh
  simp only [sI,Value.slice.injEq,Addr.mk.injEq,and_true] at hh
  obtain ⟨rfl,_⟩:=hh
  have e1:blk e.val=some c':=by rw [h3];rfl
  rw [List.filterMap_cons_some e1,List.nodup_cons] at hn
  exact ⟨e,ms',c',ty,yd,cap,rfl,rfl,h1,h2,by rw [h3,List.length_set],by rw [List.length_set];exact h4,hc ty h5,h6,Ki aO h7 hn.1⟩
 | (k,l')::r,i,j+1,_,_,ms,hs,h,hn,hj,hh=>by
  obtain ⟨e,ms',c',ty,yd,cap,rfl,rfl,h1,h2,h3,h4,h5,h6,h7⟩:=h
  have e1:blk e.val=some c':=by rw [h3];rfl
  rw [List.filterMap_cons_some e1,List.nodup_cons] at hn
  rw [List.getElem?_cons_succ] at hj hh
  have tB:c'≠c:=by
   intro q
   subst q
   exact hn.1 (List.mem_filterMap.2 ⟨_,List.mem_of_getElem? hh,rfl⟩)
  exact ⟨e,ms',c',ty,yd,cap,rfl,rfl,h1,h2,h3,h4,(aO c' tB).trans h5,h6,Cc aO hc h7 hn.2 hj hh⟩
theorem D4(hR:Rep D G N H lim X a w){id j off:Nat}{t:TypeId}{es:List (BA×List Int)}{s:BA}{l:List Int}{n:Int}{v:Value}(hr:X.rows[id]? = some (.amap t false es))(hv:V H lim w (.amc id (j+1) off) v)(hj:es[j]? = some (s,l))(ho:off<l.length):
  ∃b w',v=.pointer (some ⟨b,off,none⟩)/\(storeCells ⟨b,off,none⟩ [.int .i64 n]).run P w=.ok () w'/\Nx D (fun i=>i=id) G N H lim w { X with rows:=X.rows.set id (.amap t false (es.set j (s,l.set off n))) } a H lim w':=by
 simp only [V] at hv
 obtain ⟨vs,c,n',c',hH,JO,hv⟩:=hv
 obtain ⟨b',ty,_,cap,e1,e2,_,e3,e4,e5⟩:=qf hR.rows hr (by simp only [V];exact ⟨vs,hH,JO⟩) hj
 simp only [Value.slice.injEq,sI,Addr.mk.injEq,and_true] at e1
 obtain ⟨rfl,rfl,rfl⟩:=e1
 obtain ⟨w',r1,r2,r3,r4,r5,r6,r7⟩:=kT (P:=P) (off:=off) [.int .i64 n] 0 w (l.map (Value.int .i64)) e4 (by simp;omega) (by simp [jg])
 have iF:fR (l.map (Value.int .i64)) (off+0) [Value.int .i64 n]=(l.set off n).map (Value.int .i64):=by
  unfold fR
  rw [List.map_set,List.set_eq_take_append_cons_drop,if_pos (by simpa using ho)]
  simp
 rw [iF] at r2
 have fA:Ow H id c:=(bU hH).2 (mV JO rfl)
 have hF:Fr (fun b=>Ow H id b) lim w lim w':=by
  refine ⟨r5,r6,r7,by omega,fun d hd=>⟨nR _,fun o Ov=>?_⟩,fun d hd hn=>⟨r4 d (fun q=>hn (q▸fA)),rfl⟩⟩
  have aO:d≠c:=fun q=>by rw [q,e5] at Ov;cases Ov
  exact World.cell?_of_block (w:=w) (r4 d aO)
 refine ⟨c,w',hv,r1,rB hR hr hF ?_⟩
 obtain ⟨b,ms,hs,h1,h2,h3,h4,h5⟩:=hR.rows.row id _ hr
 rw [hH] at h1
 have bO:=kC (Option.some.inj h1)
 subst bO
 rw [List.getElem?_cons_succ] at JO
 have N5:c∈hs.filterMap blk:=List.mem_filterMap.2 ⟨_,List.mem_of_getElem? JO,rfl⟩
 rw [List.nodup_cons] at h5
 have Zj:b≠c:=fun q=>h5.1 (q▸N5)
 exact ⟨b,ms,hs,hH,by rw [List.length_set];exact (r4 b Zj).trans h2,Cc r4 (fun NB q=>by rw [e4] at q;cases q;exact r2) h3 h5.2 hj JO,h4,List.nodup_cons.2 h5⟩
theorem Cd{b n:Nat}{l l':List Int}(hw:∀d,d≠b->w'.heap[d]? = w.heap[d]?)(he:l'.length=l.length)(hb:∀ty,w.heap[b]? = some (.cells (l.map (Value.int .i64)).toArray ty (0,0))->w'.heap[b]? = some (.cells (l'.map (Value.int .i64)).toArray ty (0,0))):
  ∀ {ks:List (Nat×Nat)}{ls:List (List Int)}{j:Nat},KR lim w false ks ls->(ks.map (·.1)).Nodup->ks[j]? = some (b,n)->ls[j]? = some l->KR lim w' false ks (ls.set j l')
 |[],_,_,_,_,h,_=>by cases h
 |q::ks,ls,j,h,hn,hj,hl=>by
  obtain ⟨l0,r,rfl,h1,h2,⟨ty,h3⟩,h4,h5⟩:=h
  rw [List.map_cons,List.nodup_cons] at hn
  cases j with
  |zero=>
   simp only [List.getElem?_cons_zero,sI] at hj hl
   subst hj hl
   have hr:∀ {ks:List (Nat×Nat)}{r:List (List Int)},b∉ks.map (·.1)->KR lim w false ks r->KR lim w' false ks r:=by
    intro ks
    induction ks with
    |nil=>intro r _ h;exact h
    |cons p ks ih=>
     intro r hb h
     obtain ⟨l1,r1,rfl,g1,g2,⟨NB,g3⟩,g4,g5⟩:=h
     simp only [List.map_cons,List.mem_cons,not_or] at hb
     exact ⟨l1,r1,rfl,g1,g2,⟨NB,(hw _ (Ne.symm hb.1)).trans g3⟩,g4,ih hb.2 g5⟩
   exact ⟨l',r,rfl,he.trans h1,h2,⟨ty,hb ty h3⟩,h4,hr hn.1 h5⟩
  |succ j=>
   simp only [List.getElem?_cons_succ] at hj hl
   have hq:q.1≠b:=fun e=>hn.1 (List.mem_map.2 ⟨(b,n),List.mem_of_getElem? hj,e.symm⟩)
   exact ⟨l0,r.set j l',rfl,h1,h2,⟨ty,(hw _ hq).trans h3⟩,h4,Cd hw he hb h5 hn.2 hj hl⟩
theorem D5(hR:Rep D G N H lim X a w){id j off b n:Nat}{ks:List (Nat×Nat)}{ls:List (List Int)}{l:List Int}{m:Int}(hr:X.rows[id]? = some (.arrs false ks ls))(hj:ks[j]? = some (b,n))(hl:ls[j]? = some l)(ho:off<l.length):
  ∃w',(storeCells ⟨b,off,none⟩ [.int .i64 m]).run P w=.ok () w'/\Nx D (fun i=>i=id) G N H lim w { X with rows:=X.rows.set id (.arrs false ks (ls.set j (l.set off m))) } a H lim w':=by
 obtain ⟨h1,h2,h3⟩:=hR.rows.row id _ hr
 obtain ⟨l',e1,e2,_,⟨ty,e3⟩,e4⟩:=tI h2 hj
 rw [hl] at e1
 cases e1
 obtain ⟨w',r1,r2,r3,r4,r5,r6,r7⟩:=kT (P:=P) (off:=off) [.int .i64 m] 0 w (l.map (Value.int .i64)) e3 (by simp;omega) (by simp [jg])
 have iF:fR (l.map (Value.int .i64)) (off+0) [Value.int .i64 m]=(l.set off m).map (Value.int .i64):=by
  unfold fR
  rw [List.map_set,List.set_eq_take_append_cons_drop,if_pos (by simpa using ho)]
  simp
 rw [iF] at r2
 have fA:Ow H id b:=(bU h1).2 (jJ.2 (List.mem_map.2 ⟨(b,n),List.mem_of_getElem? hj,rfl⟩))
 have hF:Fr (fun b=>Ow H id b) lim w lim w':=by
  refine ⟨r5,r6,r7,by omega,fun d hd=>⟨nR _,fun o Ov=>?_⟩,fun d hd hn=>⟨r4 d (fun q=>hn (q▸fA)),rfl⟩⟩
  have aO:d≠b:=fun q=>by rw [q] at Ov;simp only at e4;omega
  exact World.cell?_of_block (w:=w) (r4 d aO)
 exact ⟨w',r1,rB hR hr hF ⟨h1,Cd r4 (by simp) (fun NB q=>by simp only at e3;rw [e3] at q;cases q;exact r2) h2 h3 hj hl,h3⟩⟩
theorem Hd(hT:bH P T)(hR:Rep D G N H lim X a w)(o:Oper)(k:PV->St->List Nat->Prop)(h:qo T G X o.op k):∃p X' F,OC D P G N a w H lim o p X' F/\k p X' F:=by
 cases ho:o.op <;> rw [ho] at h
 case alloc tp=>
  simp only [qo] at h
  split at h
  ·rename_i i hi
   obtain ⟨_,ti,h1,h2,_,z,hz,Ty,_⟩:=hT tp i hi
   have CB:Vs H lim w (rC i.zero) i.zero:=mr _
   refine ⟨_,_,_,⟨_,_,_,.pointer (some ⟨w.heap.size,0,none⟩),.inl ?_,(zu (ty:=tp) hR CB).weaken fun _ q=>q.elim,?_⟩,h⟩
   ·have e1:z.cells=i.zero.toArray:=by rw [<- Ty]
    simp [execOp,ho,Instr.alloc,zeroValue,typeInfo,h1,hz,newVar,newRow,e1]
   simp only [V];exact ⟨w.heap.size,by rw [aX],rfl⟩
  exact h.elim
 case box tp x=>
  simp only [qo] at h
  split at h
  ·rename_i p hp
   split at h
   ·rename_i cs hc
    obtain ⟨vs,g1,g2,g3⟩:=jQ hR.rows hc (aw hR hp)
    refine ⟨_,_,_,⟨_,_,_,.pointer (some ⟨w.heap.size,0,none⟩),.inl ?_,(zu (ty:=tp) hR g2).weaken fun _ q=>q.elim,?_⟩,h⟩
    ·simp [execOp,ho,Instr.box,newVar,newRow,g1]
    simp only [V];exact ⟨w.heap.size,by rw [aX],rfl⟩
   exact h.elim
  exact h.elim
 case build t parts=>
  simp only [qo] at h
  split at h
  ·rename_i cs hc
   obtain ⟨os,r1,r2⟩:=Cb hT hR hc
   refine ⟨_,_,_,⟨H,lim,w,_,.inl ?_,Nx.refl hR,yZ r2⟩,h⟩
   simp only [execOp,ho]
   rw [Sem.run_bind,r1]
   rfl
  exact h.elim
 case buildSlice t fN parts=>
  have key:∀ {x:Data},iw T G X t fN parts=some x->k (.d x) X []->∃p X' F,OC D P G N a w H lim o p X' F/\k p X' F:=by
   intro x hc h
   obtain ⟨v,w',lim',r1,r2,r3⟩:=rD hT hR hc
   refine ⟨_,_,_,⟨H,lim',w',v,.inl ?_,r2.weaken fun _ q=>q.elim,by simpa only [V] using r3⟩,h⟩
   simp only [execOp,ho]
   rw [Sem.run_bind,r1]
   rfl
  simp only [qo] at h
  split at h
  ·rename_i hp
   have K6:parts = #[]:=by rw [<- Array.toArray_toList (xs:=parts),hp]
   subst K6
   rcases h with h|h
   ·split at h
    ·rename_i x hc
     exact key hc h
    exact h.elim
   unfold Kf at h
   split at h
   ·rename_i e _ _ _ ht
    split at h
    ·rename_i i hi
     split at h
     ·rename_i h1
      have sP:1<=i.size:=Nat.le_of_ble_eq_true h1
      obtain ⟨d,hd,hu⟩:=bo hT ht
      simp only [eX] at hd
      subst hd
      have hs:=ft hT hi
      have fo:(execOp a.eval o).run P w=.ok (.value (.slice (some ⟨w.heap.size,0,none⟩) 0 0)) (w.alloc (.cells #[] e)):=by
       simp only [execOp,ho]
       simp [Instr.buildSlice,hu,hs,newRow,Instr.fill]
       rw [show (Array.map (fun _=>(default:Value)) (Array.range 0)) = #[] from by simp]
      rcases h with h|h
      ·refine ⟨_,_,_,⟨_,_,_,.slice (some ⟨w.heap.size,0,none⟩) 0 0,.inl fo,(zu (cells:=[]) (cs:=[]) (ty:=e) hR (by simp only [Vs])).weaken fun _ q=>q.elim,?_⟩,h⟩
       simp only [V]
       exact ⟨w.heap.size,0,by rw [aX],rfl,nR _,Nat.zero_le _⟩
      have hF:=jc (lim:=lim) (w:=w) (.cells #[] e) 0
      refine ⟨_,_,_,⟨_,_,_,.slice (some ⟨w.heap.size,0,none⟩) 0 0,.inl fo,(h_ (r:=.acc e i.size []) hR hF (u:=.slice (some ⟨w.heap.size,0,none⟩) 0 0) (fun b hb=>Nat.le_of_eq (Eq.symm hb)) ⟨_,[],aX _ _ _,⟨by simp,.inr ⟨w.heap.size,0,#[],rfl,Nat.zero_le _,heap_alloc_new w _,nR _,Nat.zero_le _,by simp,by simp⟩⟩,by simp only [List.flatten_nil,VDs],(fun x hx=>by cases hx),sP,?_⟩).weaken fun _ q=>q.elim,?_⟩,h⟩
      ·intro b hb
       simp only [blk,sI] at hb
       subst hb
       rw [aX];simp
      simp only [V];exact aX _ _ _
     exact h.elim
    exact h.elim
   exact h.elim
  split at h
  ·rename_i x hc
   exact key hc h
  exact h.elim
 case store t TA val=>
  simp only [qo] at h
  split at h
  ·rename_i i id off p hi ha hp
   split at h
   ·rename_i ty cells qs hr hq
    split at h
    ·rename_i lr mQ
     have e1:=Nat.eq_of_beq_eq_true lr
     have e2:off+qs.length<=cells.length:=Nat.le_of_ble_eq_true mQ
     obtain ⟨vs,g1,g2,g3⟩:=jQ hR.rows hq (aw hR hp)
     have va:=aw hR ha
     simp only [V] at va
     obtain ⟨b,hH,hv⟩:=va
     have hl:=dA g2
     obtain ⟨w',r1,r2⟩:=Kd (P:=P) (off:=off) hR hr g2 g3 (by omega) hH
     have hs:=ft hT hi w
     refine ⟨_,_,_,⟨_,_,w',undef,.inr ⟨?_,rfl⟩,r2.weaken fun _ q=>D2 q,mW _⟩,h⟩
     have lB:¬(vs.length≠i.size):=by omega
     simp [execOp,ho,Instr.storeAt,hv,Instr.sureAddr,storeVar,hs,g1,r1,show vs.length=i.size by omega]
    exact h.elim
   exact h.elim
  ·rename_i i id j off n hi ha hp
   split at h
   ·rename_i t' es lr hr
    have e1:=Nat.eq_of_beq_eq_true lr
    obtain ⟨s,l,hj,uO,hk⟩:=h
    have vp:=aw hR hp
    simp only [V,VD.eq_1] at vp
    obtain ⟨b,w',hv,r1,r2⟩:=D4 (P:=P) (n:=n) hR hr (aw hR ha) hj uO
    have hs:=ft hT hi w
    refine ⟨_,_,_,⟨_,_,w',undef,.inr ⟨?_,rfl⟩,r2.weaken fun _ q=>D2 q,mW _⟩,hk⟩
    simp [execOp,ho,Instr.storeAt,hv,vp,Instr.sureAddr,storeVar,hs,Value.cells,r1,e1]
   exact h.elim
  ·rename_i i b off m hi ha hp
   split at h
   ·rename_i lr
    have e1:=Nat.eq_of_beq_eq_true lr
    obtain ⟨id,ks,ls,j,n,l,hr,hj,hl,uO,hk⟩:=h
    have va:=aw hR ha
    have vp:=aw hR hp
    simp only [V,VD.eq_1] at va vp
    obtain ⟨w',r1,r2⟩:=D5 (P:=P) (m:=m) hR hr hj hl uO
    have hs:=ft hT hi w
    refine ⟨_,_,_,⟨_,_,w',undef,.inr ⟨?_,rfl⟩,r2.weaken fun _ q=>D2 q,mW _⟩,hk⟩
    simp [execOp,ho,Instr.storeAt,va,vp,Instr.sureAddr,storeVar,hs,Value.cells,r1,e1]
   exact h.elim
  exact h.elim
 case makeMap t TC=>
  simp only [qo] at h
  split at h
  ·rename_i kt e _ _ _ ht
   split at h
   case h_2=>
    refine ⟨_,_,_,⟨_,_,_,.map (some w.heap.size),.inl ?_,(h_ (r:=.amap t false []) (u:=lu [.map (some w.heap.size)]) hR (jc (.map #[] 0) 0) (fun b hb=>?_) ⟨w.heap.size,#[],[],by simp [aX],heap_alloc_new w _,⟨rfl,rfl⟩,aX _ _ _,by simp⟩).weaken fun _ q=>q.elim,?_⟩,h⟩
    ·simp [execOp,ho,Instr.makeMap]
    ·obtain ⟨v,hv,hb⟩:=hb
     simp only [List.mem_singleton] at hv
     subst hv
     cases hb
     exact nR _
    simp only [V];exact ⟨_,aX _ _ _,rfl⟩
   refine ⟨_,_,_,⟨_,_,_,.map (some w.heap.size),.inl ?_,(h_ (r:=.map t []) (u:=.map (some w.heap.size)) hR (jc (.map #[] 0) 0) (fun b hb=>Nat.le_of_eq (Eq.symm hb)) ⟨w.heap.size,#[],by simp [aX],heap_alloc_new w _,by simp [VE],aX _ _ _⟩).weaken fun _ q=>q.elim,?_⟩,h⟩
   ·simp [execOp,ho,Instr.makeMap]
   simp only [V];rw [aX]
  exact h.elim
 case mapUpdate t m x y=>
  simp only [qo] at h
  obtain ⟨p,X',F,⟨H',lim',w',r1,r2,rfl⟩,hk⟩:=om hT hR h
  exact ⟨_,X',F,⟨H',lim',w',undef,.inr ⟨by simp [execOp,ho,r1],rfl⟩,r2,mW _⟩,hk⟩
 case insert t m x y=>
  simp only [qo] at h
  obtain ⟨p,X',F,⟨H',lim',w',r1,r2,rfl⟩,hk⟩:=om hT hR h
  exact ⟨_,X',F,⟨H',lim',w',undef,.inr ⟨by simp [execOp,ho,r1],rfl⟩,r2,mW _⟩,hk⟩
 case mapEntry t m x=>
  simp only [qo] at h
  obtain ⟨p,X',F,⟨H',lim',w',v,r1,r2,r3⟩,hk⟩:=v_ hT hR h
  exact ⟨_,X',F,⟨H',lim',w',v,.inl (by simp [execOp,ho,r1]),r2,r3⟩,hk⟩
 case entryStore t m x y=>
  simp only [qo] at h
  obtain ⟨p,X',F,⟨H',lim',w',r1,r2,rfl⟩,hk⟩:=sS (P:=P) (t:=t) hR h
  exact ⟨_,X',F,⟨H',lim',w',undef,.inr ⟨by simp [execOp,ho,r1],rfl⟩,r2,mW _⟩,hk⟩
 case makeSlice t fN cap=>
  simp only [qo] at h
  split at h
  ·rename_i e _ _ _ ik n jk c ht hl hc
   split at h
   ·rename_i i hi
    split at h
    ·rename_i z hz jP
     obtain ⟨rfl,n',rfl,hb,hm,hk⟩:=h
     have vl:=aw hR hl
     have vc:=aw hR hc
     simp only [V,VD.eq_1] at vl vc
     obtain ⟨⟨d,hu,hd⟩,_⟩:=hT t _ ht
     simp only [eX] at hd
     subst hd
     obtain ⟨_,ti,g1,g2,g3,zv,g4,g5,_⟩:=hT e i hi
     have Wl:=Nat.eq_of_beq_eq_true jP
     have D6:madeCells zv.cells (n' * ti.size)=(List.replicate n' z).toArray:=by
      have RK:zv.cells = #[z]:=by rw [<- Array.toArray_toList (xs:=zv.cells),g5,hz]
      rw [g2,Wl,Nat.mul_one,RK]
      apply Array.ext
      ·simp [madeCells]
      intro j h1 h2
      simp [madeCells,Nat.mod_one]
     have fo:=run_make (P:=P) w t e ti zv hu g1 g4 ik jk (n':Int) (n':Int) (by omega) (Int.le_refl _) (by rw [g3];have:((i.bytes * n':Nat):Int)<=((281474976710656:Nat):Int):=Int.ofNat_le.2 hb;rw [Int.natCast_mul] at this;exact this) (by have:maxLen=9223372036854775807:=rfl;omega)
     simp only [Int.toNat_natCast] at fo
     rw [D6] at fo
     have eq:Vs H lim w (List.replicate n' (.d (.s z))) (List.replicate n' z):=by
      have:=mr (H:=H) (lim:=lim) (w:=w) (List.replicate n' z)
      simpa using this
     rcases hk with hk|⟨CB,hk⟩
     ·refine ⟨_,_,_,⟨_,_,_,.slice (some ⟨w.heap.size,0,none⟩) n' n',.inl ?_,(zu (ty:=e) hR eq).weaken fun _ q=>q.elim,?_⟩,hk⟩
      ·simp [execOp,ho,vl,vc,fo]
      simp only [V];exact ⟨w.heap.size,n',by rw [aX],rfl,nR _,hm⟩
     subst CB
     have hF:=jc (lim:=lim) (w:=w) (.cells (List.replicate n' (Value.int .i64 0)).toArray e) 0
     refine ⟨_,_,_,⟨_,_,_,kv (w.heap.size,n'),.inl ?_,(h_ (r:=.arrs false [(w.heap.size,n')] [List.replicate n' 0]) (u:=lu [kv (w.heap.size,n')]) hR hF (fun b hb=>?_) ⟨by simp [aX],⟨_,[],rfl,by simp,hm,⟨e,?_⟩,aX _ _ _,rfl⟩,by simp⟩).weaken fun _ q=>q.elim,?_⟩,hk w.heap.size⟩
     ·simp [execOp,ho,vl,vc,fo,kv]
     ·obtain ⟨v,hv,hb⟩:=hb
      simp only [List.mem_singleton] at hv
      subst hv
      cases hb
      exact nR _
     ·rw [heap_alloc_new];simp
     simp only [V,VD.eq_1]
    exact h.elim
   exact h.elim
  exact h.elim
 case makeFunc fn first mB=>
  simp only [qo] at h
  split at h
  ·rename_i f cs hf hc
   have eq:=nr hR _ _ hc
   have Zk:first = #[]:=by rw [<- Array.toArray_toList (xs:=first),hf]
   refine ⟨_,_,_,⟨H,lim,w,.func (.func f) #[] (mB.toList.map a.eval).toArray,.inl ?_,Nx.refl hR,?_⟩,h⟩
   ·have e:mB.map a.eval=(mB.toList.map a.eval).toArray:=by apply Array.ext';simp
    simp only [execOp,ho,Zk,e,List.map_toArray,List.map_nil,Instr.makeFunc,Sem.run_bind,Sem.run_pure,Result.andThen]
   simp only [V];exact ⟨_,rfl,eq⟩
  exact h.elim
 case call c=>
  simp only [qo] at h
  split at h
  ·rename_i x y t t' hc ha ht
   split at h
   ·rename_i hb
    have e1:=Nat.eq_of_beq_eq_true hb
    subst e1
    obtain ⟨p,X',F,⟨H',lim',w',v,r1,r2,r3⟩,hk⟩:=v7 (ty:=o.type) hT hR h
    refine ⟨p,X',F,⟨H',lim',w',v,.inl ?_,r2,r3⟩,hk⟩
    have JF:c.args = #[x,y]:=by rw [<- Array.toArray_toList (xs:=c.args),ha]
    have Ra:c.argTypes = #[t,t]:=by rw [<- Array.toArray_toList (xs:=c.argTypes),ht]
    simp [execOp,ho,resolve,hc,JF,Ra,invoke,builtin,r1]
   obtain ⟨p,X',F,⟨H',lim',w',v,r1,r2,r3⟩,hk⟩:=u6 (ty:=o.type) hT hR h
   refine ⟨p,X',F,⟨H',lim',w',v,.inl ?_,r2,r3⟩,hk⟩
   have JF:c.args = #[x,y]:=by rw [<- Array.toArray_toList (xs:=c.args),ha]
   have Ra:c.argTypes = #[t,t']:=by rw [<- Array.toArray_toList (xs:=c.argTypes),ht]
   simp [execOp,ho,resolve,hc,JF,Ra,invoke,builtin,r1]
  exact h.elim
 all_goals (simp only [qo] at h)
end
end
section

structure Lk (B:Nat) (H:Nat->Option Value) (lim:Nat->Nat) (w:World) (H':Nat->Option Value) (lim':Nat->Nat) (w':World):Prop where
 fr:Fr (Bl H) lim w lim' w'
 ptr:∀id v,id<B->stay v=true->H id=some v->H' id=H id
 blocks:∀b,Bl H' b->Bl H b\/w.heap.size<=b

theorem Lk.refl{B:Nat}{H:Nat->Option Value}{lim:Nat->Nat}{w:World}:Lk B H lim w H lim w:=⟨Fr.refl _ lim w,fun _ _ _ _ _=>rfl,fun _ q=>.inl q⟩
theorem Lk.trans{B:Nat}{H H' H'':Nat->Option Value}{lim lim' w_:Nat->Nat}{w w' w'':World}(h:Lk B H lim w H' lim' w')(k:Lk B H' lim' w' H'' w_ w''):Lk B H lim w H'' w_ w'':=by
 refine ⟨h.fr.trans k.fr fun b hb q=>?_,fun id q hid iF hq=>?_,fun b hb=>?_⟩
 ·rcases h.blocks b q with q|q
  ·exact q
  omega
 ·have e:=h.ptr id q hid iF hq
  exact (k.ptr id q hid iF (e.trans hq)).trans e
 rcases k.blocks b hb with q|q
 ·exact h.blocks b q
 exact .inr (Nat.le_trans h.fr.size q)
theorem Nx.lk{D:List Deferred}{F:Nat->Prop}{G:Glob}{N B:Nat}{H H':Nat->Option Value}{lim lim':Nat->Nat}{X':St}{a:Act}{w w':World}(h:Nx D F G N H lim w X' a H' lim' w'):Lk B H lim w H' lim' w':=
 ⟨h.fr.weaken fun _ ⟨id,_,r⟩=>⟨id,r⟩,fun id q _ iF hq=>h.ptr id q iF hq,h.blocks⟩

inductive AExit where
 |normal
 |exit (id:Nat)
 |ret
 |pan (p:PV)

def Post(D:List Deferred)(G:Glob)(N B:Nat)(Q:AExit->St->Prop)(H:Nat->Option Value)(lim:Nat->Nat)(w:World):Exit->Act->World->Prop
 |.normal,a',w'=>∃X' H' lim',Rep D G N H' lim' X' a' w'/\Lk B H lim w H' lim' w'/\Q .normal X'
 |.exit id,a',w'=>∃X' H' lim',Rep D G N H' lim' X' a' w'/\Lk B H lim w H' lim' w'/\Q (.exit id) X'
 |.ret,a',w'=>∃X' H' lim',Rep D G N H' lim' X' a' w'/\Lk B H lim w H' lim' w'/\Q .ret X'
 |.panic TE,a',w'=>∃X' H' lim' v p,TE=[{ v,recovered:=false }]/\RowsOk H' lim' w' X'.rows/\V H' lim' w' p v/\a'.defers=D/\Lk B H lim w H' lim' w'/\Q (.pan p) X'
 |_,_,_=>False

def dJ(D:List Deferred)(P:Program)(G:Glob)(N B:Nat)(c:Code)(Q:AExit->St->Prop)(X:St):Prop:=
 ∀(H:Nat->Option Value) (lim:Nat->Nat) (a:Act) (w:World),Rep D G N H lim X a w->c.wp P (Post D G N B Q H lim w) a w

def Sub(D:List Deferred)(G:Glob)(N B:Nat)(X X':St):Prop:=
 ∀(H:Nat->Option Value) (lim:Nat->Nat) (a:Act) (w:World),Rep D G N H lim X a w->∃H' lim',Rep D G N H' lim' X' a w/\Lk B H lim w H' lim' w

def zD(K:St->Prop)(Q:AExit->St->Prop):AExit->St->Prop
 |.normal,X=>K X
 |e,X=>Q e X
def FO(id:Nat)(Q:AExit->St->Prop):AExit->St->Prop
 |.exit j,X=>match Nat.beq j id with
  |true=>Q .normal X
  |false=>Q (.exit j) X
 |e,X=>Q e X
def UG(b:Bool)(FP no:Prop):Prop:=Bool.rec no FP b
theorem ab{b:Bool}{FP no:Prop}(h1:b=true->FP)(h2:b=false->no):UG b FP no:=by
 cases b
 ·exact h2 rfl
 exact h1 rfl
theorem iy{b:Bool}{FP no:Prop}(h:UG b FP no):(b=true->FP)/\(b=false->no):=by
 cases b
 ·exact ⟨fun e=>(nomatch e),fun _=>h⟩
 exact ⟨fun _=>h,fun e=>nomatch e⟩

section
variable {P:Program}{G:Glob}{D:List Deferred}{N B:Nat}{Q Q':AExit->St->Prop}{X X':St}{H H' H'':Nat->Option Value}{lim lim' w_:Nat->Nat}{a:Act}{w w' w'':World}

theorem Post.mono(h:Lk B H lim w H' lim' w')(hq:∀e X,Q e X->Q' e X){e:Exit}{a':Act}(hp:Post D G N B Q H' lim' w' e a' w''):Post D G N B Q' H lim w e a' w'':=by
 cases e <;> simp only [Post] at hp ⊢
 ·obtain ⟨X',H',lim',h1,h2,h3⟩:=hp
  exact ⟨X',H',lim',h1,h.trans h2,hq _ _ h3⟩
 ·obtain ⟨X',H',lim',h1,h2,h3⟩:=hp
  exact ⟨X',H',lim',h1,h.trans h2,hq _ _ h3⟩
 ·obtain ⟨X',H',lim',h1,h2,h3⟩:=hp
  exact ⟨X',H',lim',h1,h.trans h2,hq _ _ h3⟩
 obtain ⟨X',H',lim',v,p,h1,h2,h3,h4,h5,h6⟩:=hp
 exact ⟨X',H',lim',v,p,h1,h2,h3,h4,h.trans h5,hq _ _ h6⟩

theorem Sub.lk(hH:∀id,id<B->H' id=H id)(hb:∀b,Bl H' b->Bl H b):Lk B H lim w H' lim w:=⟨Fr.refl _ lim w,fun id _ hid _ _=>hH id hid,fun b q=>.inl (hb b q)⟩
theorem Sub.refl:Sub D G N B X X:=fun H lim _ _ hR=>⟨H,lim,hR,Lk.refl⟩
theorem Sub.trans{X''}(h:Sub D G N B X X')(k:Sub D G N B X' X''):Sub D G N B X X'':=by
 intro H lim a w hR
 obtain ⟨H1,eu,r1,r2⟩:=h H lim a w hR
 obtain ⟨H2,iP,q1,q2⟩:=k H1 eu a w r1
 exact ⟨H2,iP,q1,r2.trans q2⟩

theorem Ce{c:Code}(h:dJ D P G N B c Q X)(hq:∀e X,Q e X->Q' e X):dJ D P G N B c Q' X:=
 fun H lim a w hR=>wp_mono (h H lim a w hR) fun _ _ _ hp=>Post.mono Lk.refl hq hp
theorem ju{c:Code}(hs:Sub D G N B X X')(h:dJ D P G N B c Q X'):dJ D P G N B c Q X:=by
 intro H lim a w hR
 obtain ⟨H',lim',r1,r2⟩:=hs H lim a w hR
 exact wp_mono (h H' lim' a w r1) fun _ _ _ hp=>Post.mono r2 (fun _ _ q=>q) hp

theorem ac(h:Q .normal X):dJ D P G N B .skip Q X:=fun H lim _ _ hR=>wp_skip ⟨X,H,lim,hR,Lk.refl,h⟩
theorem aA{id:Nat}(h:Q (.exit id) X):dJ D P G N B (.exit id) Q X:=fun H lim _ _ hR=>wp_exit ⟨X,H,lim,hR,Lk.refl,h⟩
theorem ae(h:Q .ret X):dJ D P G N B .ret Q X:=fun H lim _ _ hR=>wp_ret ⟨X,H,lim,hR,Lk.refl,h⟩

theorem aa{x y:Code}(h:dJ D P G N B x (zD (dJ D P G N B y Q) Q) X):dJ D P G N B (.seq x y) Q X:=by
 intro H lim a w hR
 refine wp_seq (wp_mono (h H lim a w hR) ?_)
 intro e a' w' hp
 cases e <;> simp only [Post,Exit.then] at hp ⊢
 ·obtain ⟨X',H',lim',h1,h2,h3⟩:=hp
  exact wp_mono (h3 H' lim' a' w' h1) fun _ _ _ hp=>Post.mono h2 (fun _ _ q=>q) hp
 all_goals exact hp
theorem bQ{x y:Code}(M:St->Prop)(h:dJ D P G N B x (zD (fun Z=>∃Z',Sub D G N B Z Z'/\M Z') Q) X)(k:∀Z,M Z->dJ D P G N B y Q Z):dJ D P G N B (.seq x y) Q X:=by
 refine aa (Ce h ?_)
 intro e Z q
 cases e <;> simp only [zD] at q ⊢
 ·obtain ⟨Z',h1,h2⟩:=q
  exact ju h1 (k Z' h2)
 all_goals exact q

theorem af{id:Nat}{c:Code}(h:dJ D P G N B c (FO id Q) X):dJ D P G N B (.block id c) Q X:=by
 intro H lim a w hR
 refine wp_block (wp_mono (h H lim a w hR) ?_)
 intro e a' w' hp
 cases e <;> simp only [Post,Exit.inBlock] at hp ⊢
 ·exact hp
 ·rename_i j
  obtain ⟨X',H',lim',h1,h2,h3⟩:=hp
  simp only [FO] at h3
  by_cases hj:j=id
  ·rw [if_pos hj]
   subst hj
   simp only [Nat.beq_refl] at h3
   exact ⟨X',H',lim',h1,h2,h3⟩
  rw [if_neg hj]
  split at h3
  ·rename_i e;exact absurd (Nat.eq_of_beq_eq_true e) hj
  exact ⟨X',H',lim',h1,h2,h3⟩
 all_goals exact hp

theorem aB {c:Code}(I:Nat->St->Prop) (n₀:Nat) (h₀:I n₀ X)
  (TF:∀n Y,I n Y->dJ D P G N B c (zD (fun Z=>∃n',n'<n/\∃Z',Sub D G N B Z Z'/\I n' Z') Q) Y):dJ D P G N B (.loop c) Q X:=by
 intro H lim a w hR
 refine wp_loop_ghost (fun n a' w'=>∃Y H' lim',Rep D G N H' lim' Y a' w'/\Lk B H lim w H' lim' w'/\I n Y) n₀ ⟨X,H,lim,hR,Lk.refl,h₀⟩ ?_
 intro n a1 w1 ⟨Y,H1,eu,kE,lk,hI⟩
 refine wp_mono (TF n Y hI H1 eu a1 w1 kE) ?_
 intro e a2 w2 hp
 cases e <;> simp only [Post,Exit.then,zD] at hp ⊢
 ·obtain ⟨Z,H2,iP,r1,r2,n',hn,Z',hs,Zl⟩:=hp
  obtain ⟨H3,Wm,q1,q2⟩:=hs H2 iP a2 w2 r1
  exact ⟨n',hn,Z',H3,Wm,q1,lk.trans (r2.trans q2),Zl⟩
 ·obtain ⟨X',H',lim',h1,h2,h3⟩:=hp
  exact ⟨X',H',lim',h1,lk.trans h2,h3⟩
 ·obtain ⟨X',H',lim',h1,h2,h3⟩:=hp
  exact ⟨X',H',lim',h1,lk.trans h2,h3⟩
 obtain ⟨X',H',lim',v,p,h1,h2,h3,h4,h5,h6⟩:=hp
 exact ⟨X',H',lim',v,p,h1,h2,h3,h4,lk.trans h5,h6⟩

theorem aj{c:Operand}{x y:Code}{b:Bool}(hc:ev G X c=some (.d (.s (.bool b))))(h:UG b (dJ D P G N B x Q X) (dJ D P G N B y Q X)):dJ D P G N B (.cond c x y) Q X:=by
 intro H lim a w hR
 have hv:=aw hR hc
 simp only [V,VD] at hv
 exact wp_cond_split hv (fun e=>(iy h).1 e H lim a w hR) (fun e=>(iy h).2 e H lim a w hR)
end
end
section

def pd:List Nat->Nat->Option Nat
 |[],_=>none
 |x::r,id=>match Nat.beq x id with
  |true=>some 0
  |false=>match pd r id with
   |some j=>some (j+1)
   |none=>none
def cl:List Nat->Bool
 |[]=>true
 |x::r=>match pd r x with
  |some _=>false
  |none=>cl r
def gc(L:List Nat)(rows:List Row):Nat->Sb:=fun id=>match pd L id with
 |some j=>.to j
 |none=>match rows[id]? with
  |some (.acc _ k xs)=>.data (.sl k xs)
  |_=>.no
def bs(σ:Nat->Sb)(rows:List Row):List Nat->Option (List Row)
 |[]=>some []
 |id::L=>match rows[id]? with
  |some r=>match ji σ r with
   |some q=>match bs σ rows L with
    |some qs=>some (q::qs)
    |none=>none
   |none=>none
  |none=>none
def fT(env:List (Nat×PV)):List Nat->Option (List (Nat×PV))
 |[]=>some []
 |s::r=>match look env s with
  |some p=>match fT env r with
   |some e=>some ((s,p)::e)
   |none=>none
  |none=>none
def HL(L:List Nat)(H:Nat->Option Value):Nat->Option Value:=fun j=>(L[j]?).bind H

def gS(L:List Nat)(n:Nat):Nat->Sb:=fun j=>match L[j]? with
 |some id=>.to id
 |none=>.to (n+(j - L.length))
def fc(L:List Nat)(rows:List Row):Nat->Sb:=fun id=>match pd L id with
 |some _=>match rows[id]? with
  |some (.acc _ k xs)=>.data (.sl k xs)
  |some (.box ..)=>.to id
  |some (.map ..)=>.to id
  |some (.vec ..)=>.to id
  |some (.amap ..)=>.to id
  |some (.arrs ..)=>.to id
  |none=>.no
 |none=>.to id
def jR:List Nat->List Row->List Row->List Row
 |id::L,rows,r::rs=>jR L (rows.set id r) rs
 |_,rows,_=>rows
def fG(L:List Nat)(rows1 rows2:List Row):List Row:=jR L rows1 rows2++rows2.drop L.length

theorem dS:∀ {L:List Nat}{id j:Nat},pd L id=some j->L[j]? = some id
 |[],_,_,h=>by cases h
 |x::r,id,j,h=>by
  simp only [pd] at h
  split at h
  ·rename_i e;have:=Nat.eq_of_beq_eq_true e;simp only [sI] at h;subst h this;rfl
  split at h
  ·rename_i j' hj;simp only [sI] at h;subst h;simpa using dS hj
  cases h
theorem u7:∀ {L:List Nat}{id:Nat},pd L id=none->id∉L
 |[],_,_,q=>by cases q
 |x::r,id,h,q=>by
  simp only [pd] at h
  split at h
  ·cases h
  rename_i hb
  split at h
  ·cases h
  rename_i hn
  rcases List.mem_cons.1 q with rfl|q
  ·simp at hb
  exact u7 hn q
theorem tl:∀ {L:List Nat}{id j:Nat},cl L=true->L[j]? = some id->pd L id=some j
 |[],_,_,_,h=>by cases h
 |x::r,id,j,hn,h=>by
  simp only [cl] at hn
  split at hn
  ·cases hn
  rename_i hx
  cases j with
  |zero=>simp only [List.getElem?_cons_zero,sI] at h;subst h;simp [pd]
  |succ j=>
   simp only [List.getElem?_cons_succ] at h
   have:=tl hn h
   simp only [pd,this]
   split
   ·rename_i e;have:=Nat.eq_of_beq_eq_true e;subst this;rw [hx] at this;cases this
   rfl
theorem kU{σ:Nat->Sb}{rows:List Row}:∀ {L:List Nat}{qs:List Row},bs σ rows L=some qs->qs.length=L.length/\(∀x,x∈L->x<rows.length)/\∀(j:Nat) (q:Row),qs[j]? = some q->∃(id:Nat) (r:Row),L[j]? = some id/\rows[id]? = some r/\ji σ r=some q
 |[],qs,h=>by simp only [bs,sI] at h;subst h;exact ⟨rfl,fun _ q=>(by cases q),fun j q hq=>(by cases hq)⟩
 |id::L,qs,h=>by
  simp only [bs] at h
  split at h
  ·rename_i r hr
   split at h
   ·rename_i q hq
    split at h
    ·rename_i qs' Wn
     simp only [sI] at h
     subst h
     obtain ⟨h1,h2,h3⟩:=kU Wn
     refine ⟨by simp [h1],fun x hx=>?_,fun j q' hj=>?_⟩
     ·rcases List.mem_cons.1 hx with rfl|hx
      ·exact (List.getElem?_eq_some_iff.1 hr).1
      exact h2 x hx
     cases j with
     |zero=>simp only [List.getElem?_cons_zero,sI] at hj;subst hj;exact ⟨id,r,rfl,hr,hq⟩
     |succ j=>simpa using h3 j q' (by simpa using hj)
    cases h
   cases h
  cases h
theorem gm{env:List (Nat×PV)}{j:Nat}{p:PV}:∀ {l:List Nat}{e:List (Nat×PV)},fT env l=some e->look e j=some p->look env j=some p
 |[],e,h,hj=>by simp only [fT,sI] at h;subst h;cases hj
 |s::r,e,h,hj=>by
  simp only [fT] at h
  split at h
  ·rename_i q hq
   split at h
   ·rename_i e' he
    simp only [sI] at h
    subst h
    simp only [look] at hj
    split at hj
    ·rename_i hs;subst hs;rw [hq];exact hj
    exact gm he hj
   cases h
  cases h

section
variable {P:Program}{G:Glob}{D:List Deferred}{N B:Nat}{X:St}{H:Nat->Option Value}{lim:Nat->Nat}{a:Act}{w:World}{L:List Nat}

theorem qp{j b:Nat}(h:Ow (HL L H) j b):∃id,L[j]? = some id/\Ow H id b:=by
 unfold Ow HL at h
 cases hL:L[j]? with
 |none=>rw [hL] at h;obtain ⟨v,h,_⟩:=h;cases h
 |some id=>rw [hL] at h;exact ⟨id,rfl,h⟩

theorem fM(hR:RowsOk H lim w X.rows):(∀id i v,gc L X.rows id=.to i->H id=some v->HL L H i=some v)/\(∀id x v,gc L X.rows id=.data x->H id=some v->VD lim w x v):=by
 constructor
 ·intro id i v h hv
  unfold gc at h
  split at h
  ·rename_i j hj
   simp only [Sb.to.injEq] at h
   subst h
   simp [HL,dS hj,hv]
  split at h <;> cases h
 intro id x v h hv
 unfold gc at h
 split at h
 ·cases h
 split at h
 ·rename_i e k xs hr
  simp only [Sb.data.injEq] at h
  subst h
  obtain ⟨u,hu,js⟩:=gg (hR.row id _ hr)
  rw [hv] at hu
  cases hu
  exact js
 cases h

theorem Cf(b:Nat)(h:Bl (HL L H) b):Bl H b:=by
 obtain ⟨j,hj⟩:=h
 obtain ⟨x,_,x2⟩:=qp hj
 exact ⟨x,x2⟩
theorem g9(hR:RowsOk H lim w X.rows)(hn:cl L=true){qs:List Row}(h:bs (gc L X.rows) X.rows L=some qs):RowsOk (HL L H) lim w qs:=by
 obtain ⟨h1,h2,h3⟩:=kU h
 refine ⟨fun j q hq=>?_,fun i j b qP hi hj=>?_,fun j hj=>?_⟩
 ·obtain ⟨id,r,e1,e2,e3⟩:=h3 j q hq
  exact th (Fr.refl (fun _=>False) lim w) (fM hR).1 (fM hR).2 (fun v hv=>by simp [HL,e1,hv]) (fun _ _ q=>q) e3 (hR.row id r e2)
 ·obtain ⟨x,x1,x2⟩:=qp hi
  obtain ⟨y,y1,y2⟩:=qp hj
  refine hR.apart x y b (fun e=>qP ?_) x2 y2
  subst e
  have g1:=tl hn x1
  have g2:=tl hn y1
  rw [g1] at g2
  exact Option.some.inj g2
 simp [HL,List.getElem?_eq_none (show L.length<=j by omega)]

theorem aG {slots:List Nat}{TG TH:List (Nat×PV)}{rows2:List Row}(h0:L.take B=List.range B) (h1:fT X.env slots=some TG) (h2:eJ (gc L X.rows) TG=some TH)
  (h3:bs (gc L X.rows) X.rows L=some rows2) (h4:cl L=true):Sub D G N B X ⟨TH,rows2⟩:=by
 intro H lim a w hR
 refine ⟨HL L H,lim,⟨fun j p hj=>?_,g9 hR.rows h4 h3,hR.glob.sub Cf,hR.defers,hR.size⟩,Sub.lk (fun id hid=>?_) (fun b ⟨j,hb⟩=>?_)⟩
 ·obtain ⟨q,q1,q2⟩:=jC h2 hj
  obtain ⟨r1,r2⟩:=hR.env j q (gm h1 q1)
  exact ⟨r1,V.sub (Fr.refl (fun _=>False) lim w) (fM hR.rows).1 (fM hR.rows).2 _ _ _ q2 r2⟩
 ·have e:(L.take B)[id]? = some id:=by rw [h0];simp [hid]
  rw [List.getElem?_take,if_pos hid] at e
  simp [HL,e]
 obtain ⟨id,_,h⟩:=qp hb
 exact ⟨id,h⟩

def HB(L:List Nat)(n:Nat)(H H1:Nat->Option Value):Nat->Option Value:=fun id=>match pd L id with
 |some j=>H1 j
 |none=>if id<n then H id else H1 (L.length+(id - n))

theorem u_:∀ {L:List Nat}{rows rs:List Row}{id:Nat},cl L=true->L.length<=rs.length->(∀x,x∈L->x<rows.length)->(jR L rows rs)[id]? = match pd L id with
  |some j=>rs[j]?
  |none=>rows[id]?
 |[],rows,rs,id,_,_,_=>by simp [jR,pd]
 |x::L,rows,[],id,_,h,_=>by simp at h
 |x::L,rows,r::rs,id,hn,h,hx=>by
  simp only [cl] at hn
  split at hn
  ·cases hn
  rename_i Zm
  simp only [jR]
  rw [u_ hn (by simpa using h) (fun y hy=>by simpa using hx y (List.mem_cons_of_mem _ hy))]
  have SG:x<rows.length:=hx x (List.mem_cons_self ..)
  by_cases e:x=id
  ·subst e
   simp [Zm,pd,SG]
  have hb:Nat.beq x id=false:=by cases hq:Nat.beq x id;rfl;exact absurd (Nat.eq_of_beq_eq_true hq) e
  simp only [pd,hb]
  cases hi:pd L id with
  |none=>simp [List.getElem?_set_ne e]
  |some j=>simp
theorem jS:∀ {L:List Nat}{rows rs:List Row},(jR L rows rs).length=rows.length
 |[],rows,rs=>by simp [jR]
 |x::L,rows,[]=>by simp [jR]
 |x::L,rows,r::rs=>by simp [jR,jS (L:=L)]

variable {args' ps:List PV}{rowsL cB rows1 rows2:List Row}{p p':PV}{env':List (Nat×PV)}{f:FuncId}{vs:List Value}{H1:Nat->Option Value}{eu:Nat->Nat}{w1:World}

theorem Cg(hR:RowsOk H lim w X.rows){i b:Nat}(hb:Ow H i b):i<X.rows.length/\b<w.heap.size:=by
 rcases Nat.lt_or_ge i X.rows.length with hi|hi
 ·exact ⟨hi,iR (hR.row i _ (List.getElem?_eq_getElem hi)) hb⟩
 exact absurd hb (jr (hR.dom i hi))

theorem xr (hR:Rep D G N H lim X a w) (hL:cl L=true) (bw:bs (gc L X.rows) X.rows L=some rowsL) (bZ:rowsL.length<=cB.length)
  (iX:eJ (fc L X.rows) X.env=some env') (hk:ce (fc L X.rows) X.rows=some rows1) (lm:ce (gS L X.rows.length) cB=some rows2)
  (c1:RowsOk H1 eu w1 cB) (c2:Fr (Bl (HL L H)) lim w eu w1) (c3:∀id v,stay v=true->HL L H id=some v->H1 id=HL L H id) (c4:∀b,Bl H1 b->Bl (HL L H) b\/w.heap.size<=b) :
  Nx D (fun i=>i∈L) G N H lim w ⟨env',fG L rows1 rows2⟩ a (HB L X.rows.length H H1) eu w1/\(∀v,PV.sub (gS L X.rows.length) p=some p'->V H1 eu w1 p v->V (HB L X.rows.length H H1) eu w1 p' v):=by
 obtain ⟨g1,g2,g3⟩:=kU bw
 have bV:=gz hk
 have du:=gz lm
 have XH:∀j i v,gS L X.rows.length j=.to i->H1 j=some v->HB L X.rows.length H H1 i=some v:=by
  intro j i v h hv
  unfold gS at h
  split at h
  ·rename_i id hid
   simp only [Sb.to.injEq] at h
   subst h
   simp only [HB,tl hL hid,hv]
  rename_i hid
  simp only [Sb.to.injEq] at h
  subst h
  have hj:L.length<=j:=by
   rcases Nat.lt_or_ge j L.length with q|q
   ·rw [List.getElem?_eq_getElem q] at hid;cases hid
   exact q
  have hi:pd L (X.rows.length+(j - L.length))=none:=by
   cases hq:pd L (X.rows.length+(j - L.length)) with
   |none=>rfl
   |some y=>have:=g2 _ (List.mem_of_getElem? (dS hq));omega
  simp only [HB,hi]
  rw [if_neg (by omega),show L.length+(X.rows.length+(j - L.length) - X.rows.length)=j from by omega,hv]
 have XI:∀j x v,gS L X.rows.length j=.data x->H1 j=some v->VD eu w1 x v:=by
  intro j x v h
  unfold gS at h
  split at h <;> cases h
 have XJ:∀i j v,fc L X.rows i=.to j->H i=some v->HB L X.rows.length H H1 j=some v:=by
  intro i j v h hv
  have hlt:i<X.rows.length:=by
   rcases Nat.lt_or_ge i X.rows.length with q|q
   ·exact q
   rw [hR.rows.dom i q] at hv;cases hv
  unfold fc at h
  split at h
  ·rename_i y hy
   split at h
   ·cases h
   ·rename_i ty cells hr
    simp only [Sb.to.injEq] at h
    subst h
    obtain ⟨b,cs,e1,_⟩:=hR.rows.row i _ hr
    rw [hv] at e1
    simp only [sI] at e1
    subst e1
    have e2:HL L H y=some (.pointer (some ⟨b,0,none⟩)):=by simp [HL,dS hy,hv]
    have:=c3 y _ rfl e2
    simp only [HB,hy,this,e2]
   ·rename_i ty es hr
    simp only [Sb.to.injEq] at h
    subst h
    obtain ⟨b,ms,e1,_⟩:=hR.rows.row i _ hr
    rw [hv] at e1
    simp only [sI] at e1
    subst e1
    have e2:HL L H y=some (.map (some b)):=by simp [HL,dS hy,hv]
    have:=c3 y _ rfl e2
    simp only [HB,hy,this,e2]
   ·rename_i ty xs hr
    simp only [Sb.to.injEq] at h
    subst h
    obtain ⟨b,cs,e1,_⟩:=hR.rows.row i _ hr
    rw [hv] at e1
    simp only [sI] at e1
    subst e1
    have e2:HL L H y=some (.pointer (some ⟨b,0,none⟩)):=by simp [HL,dS hy,hv]
    have:=c3 y _ rfl e2
    simp only [HB,hy,this,e2]
   ·rename_i ty fz es hr
    simp only [Sb.to.injEq] at h
    subst h
    obtain ⟨b,ms,hs,e1,_⟩:=hR.rows.row i _ hr
    rw [hv] at e1
    simp only [sI] at e1
    subst e1
    have e2:HL L H y=some (lu (.map (some b)::hs)):=by simp [HL,dS hy,hv]
    have:=c3 y _ rfl e2
    simp only [HB,hy,this,e2]
   ·rename_i fz ks ls hr
    simp only [Sb.to.injEq] at h
    subst h
    obtain ⟨e1,_⟩:=hR.rows.row i _ hr
    rw [hv] at e1
    simp only [sI] at e1
    subst e1
    have e2:HL L H y=some (lu (ks.map kv)):=by simp [HL,dS hy,hv]
    have:=c3 y _ rfl e2
    simp only [HB,hy,this,e2]
   cases h
  rename_i hy
  simp only [Sb.to.injEq] at h
  subst h
  simp only [HB,hy,if_pos hlt,hv]
 have XK:∀i x v,fc L X.rows i=.data x->H i=some v->VD eu w1 x v:=by
  intro i x v h hv
  unfold fc at h
  split at h
  ·split at h
   ·rename_i e k xs hr
    simp only [Sb.data.injEq] at h
    subst h
    obtain ⟨u,hu,hd⟩:=gg (hR.rows.row i _ hr)
    rw [hv] at hu
    cases hu
    exact VD.mono c2 _ _ hd
   ·cases h
   ·cases h
   ·cases h
   ·cases h
   ·cases h
   cases h
  cases h
 have hB:∀id b,Ow (HB L X.rows.length H H1) id b->(∃j,Ow H1 j b/\(pd L id=some j\/(pd L id=none/\X.rows.length<=id/\j=L.length+(id - X.rows.length))))\/(pd L id=none/\id<X.rows.length/\Ow H id b):=by
  intro id b hb
  cases hi:pd L id with
  |some j=>
   simp only [Ow,HB,hi] at hb
   exact .inl ⟨j,hb,.inl rfl⟩
  |none=>
   by_cases hlt:id<X.rows.length
   ·simp only [Ow,HB,hi,if_pos hlt] at hb
    exact .inr ⟨rfl,hlt,hb⟩
   simp only [Ow,HB,hi,if_neg hlt] at hb
   exact .inl ⟨_,hb,.inr ⟨rfl,by omega,rfl⟩⟩
 have Kj:∀id j b,pd L id=none->Ow H id b->¬Ow H1 j b:=by
  intro id j b hi hb hj
  rcases c4 b ⟨j,hj⟩ with ⟨y,hy⟩|hy
  ·obtain ⟨OA,e1,e2⟩:=qp hy
   exact hR.rows.apart id OA b (fun e=>u7 hi (e▸List.mem_of_getElem? e1)) hb e2
  have:=(Cg hR.rows hb).2;omega
 have CQ:∀id r,(fG L rows1 rows2)[id]? = some r->(∃j,rows2[j]? = some r/\HB L X.rows.length H H1 id=H1 j)\/(pd L id=none/\id<X.rows.length/\rows1[id]? = some r):=by
  intro id r h
  unfold fG at h
  have hs:(jR L rows1 rows2).length=X.rows.length:=by rw [jS,bV]
  by_cases hlt:id<X.rows.length
  ·rw [List.getElem?_append_left (by omega),u_ hL (by omega) (fun x hx=>by have:=g2 x hx;omega)] at h
   cases hi:pd L id with
   |some j=>rw [hi] at h;exact .inl ⟨j,h,by simp only [HB,hi]⟩
   |none=>rw [hi] at h;exact .inr ⟨rfl,hlt,h⟩
  rw [List.getElem?_append_right (by omega),hs,List.getElem?_drop] at h
  have hi:pd L id=none:=by
   cases hq:pd L id with
   |none=>rfl
   |some y=>have:=g2 _ (List.mem_of_getElem? (dS hq));omega
  exact .inl ⟨_,h,by simp only [HB,hi,if_neg hlt]⟩
 refine ⟨⟨⟨fun j q hj=>?_,⟨fun id r hr=>?_,fun i j b qP hi hj=>?_,fun id hid=>?_⟩,hR.glob.mono c2 Cf (fun b ⟨id,hb⟩=>by
  rcases hB id b hb with ⟨j,q1,_⟩|⟨_,_,q2⟩
  ·rcases c4 b ⟨j,q1⟩ with hy|hy
   ·exact .inl (Cf b hy)
   exact .inr hy
  exact .inl ⟨id,q2⟩),hR.defers,hR.size⟩,c2.weaken fun b ⟨j,hj⟩=>?_,fun id q iF hq=>?_,fun b ⟨id,hb⟩=>?_⟩,fun v hs hv=>V.sub (Fr.refl (fun _=>False) eu w1) XH XI _ _ _ hs hv⟩
 ·obtain ⟨q',q1,q2⟩:=jC iX hj
  obtain ⟨r1,r2⟩:=hR.env j q' q1
  exact ⟨r1,V.sub c2 XJ XK _ _ _ q2 r2⟩
 ·rcases CQ id r hr with ⟨j,e1,e2⟩|⟨hi,hlt,e1⟩
  ·obtain ⟨r0,f1,f2⟩:=jD lm e1
   exact th (Fr.refl (fun _=>False) eu w1) XH XI (fun v hv=>e2.trans hv) (fun _ _ q=>q) f2 (c1.row j r0 f1)
  obtain ⟨r0,f1,f2⟩:=jD hk e1
  refine th c2 XJ XK (fun v hv=>by simp only [HB,hi,if_pos hlt,hv]) (fun b hb ⟨y,hy⟩=>?_) f2 (hR.rows.row id r0 f1)
  obtain ⟨OA,q1,q2⟩:=qp hy
  exact hR.rows.apart id OA b (fun e=>u7 hi (e▸List.mem_of_getElem? q1)) hb q2
 ·rcases hB i b hi with ⟨x,x1,x2⟩|⟨x1,_,x2⟩ <;> rcases hB j b hj with ⟨y,y1,y2⟩|⟨y1,_,y2⟩
  ·refine c1.apart x y b (fun e=>qP ?_) x1 y1
   subst e
   rcases x2 with x2|⟨x2,x3,x4⟩ <;> rcases y2 with y2|⟨y2,y3,y4⟩
   ·have:=dS x2;rw [dS y2] at this;exact (Option.some.inj this).symm
   ·have h1:=dS x2
    have:=(List.getElem?_eq_some_iff.1 h1).1
    omega
   ·have h1:=dS y2
    have:=(List.getElem?_eq_some_iff.1 h1).1
    omega
   omega
  ·exact Kj j x b y1 y2 x1
  ·exact Kj i y b x1 x2 y1
  exact hR.rows.apart i j b qP x2 y2
 ·have TJ:(fG L rows1 rows2).length=X.rows.length+(rows2.length - L.length):=by simp only [fG,lA,jS,List.length_drop];omega
  rw [TJ] at hid
  have hi:pd L id=none:=by
   cases hq:pd L id with
   |none=>rfl
   |some y=>have:=g2 _ (List.mem_of_getElem? (dS hq));omega
  simp only [HB,hi]
  rw [if_neg (by omega)]
  exact c1.dom _ (by omega)
 ·obtain ⟨id,q1,q2⟩:=qp hj
  exact ⟨id,List.mem_of_getElem? q1,q2⟩
 ·have hlt:id<X.rows.length:=by
   rcases Nat.lt_or_ge id X.rows.length with h|h
   ·exact h
   rw [hR.rows.dom id h] at hq;cases hq
  cases hi:pd L id with
  |some j=>
   have e:HL L H j=some q:=by simp [HL,dS hi,hq]
   simp only [HB,hi,c3 j q iF e,e,hq]
  |none=>simp only [HB,hi,if_pos hlt]
 rcases hB id b hb with ⟨j,q1,_⟩|⟨_,_,q2⟩
 ·rcases c4 b ⟨j,q1⟩ with ⟨y,hy⟩|hy
  ·obtain ⟨OA,_,e2⟩:=qp hy
   exact .inl ⟨OA,e2⟩
  exact .inr hy
 exact .inl ⟨id,q2⟩
end
end
end Go.Abs
end
