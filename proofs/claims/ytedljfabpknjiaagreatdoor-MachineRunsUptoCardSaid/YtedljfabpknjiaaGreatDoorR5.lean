/- Texts of this proof, joined and shortened. -/
import Derived.Test.YtedljfabpknjiaaGreatDoorR4
import Derived.Test.YtedljfabpknjiaaGreatDoorProg
import Derived.OrdersHeld
import Derived.Deep.RegionHeld3
import Derived.Laws.BitsLemmas
import Derived.RowKit
section
namespace Go.Abs
open Go
section

def Gf{α:Type}:List α->Nat->Option α
 |[],_=>none
 |x::r,i=>match Nat.beq i 0 with
  |true=>some x
  |false=>Gf r (Nat.pred i)
theorem FQ{α:Type}:∀(l:List α) (i:Nat),Gf l i=l[i]?
 |[],i=>by simp [Gf]
 |x::r,0=>by simp [Gf]
 |x::r,i+1=>by
  have:Nat.beq (i+1) 0=false:=rfl
  simp [Gf,this,FQ r i]
theorem iL(be:Array Oper)(i:Nat):Gf be.toList i=be[i]?:=by rw [FQ];simp
def nM(d:Option Nat)(p:PV)(X:St):St:=match d with
 |some d=>⟨(d,p)::X.env,X.rows⟩
 |none=>X
def vd(N:Nat):Option Nat->Bool
 |some d=>Nat.blt d N
 |none=>true

def OD(rows:List Row)(r:Nat):PV->Option PV
 |.d x=>some (.d x)
 |.box id off=>match Nat.beq id r,rows[r]? with
  |true,some (.box _ cells)=>match oP cells with
   |some ds=>match lJ d_ ds with
    |true=>some (.eptr (ds.drop off))
    |false=>none
   |none=>none
  |_,_=>none
 |_=>none
def pf(rows:List Row)(r:Nat):List PV->Option (List PV)
 |[]=>some []
 |p::ps=>match OD rows r p,pf rows r ps with
  |some q,some qs=>some (q::qs)
  |_,_=>none
def c8(P:Program)(G:Glob)(X:St)(f:FuncId)(ps:List PV)(k:PV->St->List Nat->Prop)(pan:PV->St->Prop):Prop:=
 (∃(r:Nat) (args':List PV) (v:Value),pf X.rows r ps=some args'/\Spec P G f args' [] (.ret (.d (.s v))) []/\k (.d (.s v)) X [])\/
 ∃(L:List Nat) (args':List PV) (rowsL:List Row) (Pst:Out->List Row->Prop),
  cl L=true/\PV.subs (gc L X.rows) ps=some args'/\bs (gc L X.rows) X.rows L=some rowsL/\AA P G f args' rowsL Pst/\∀(out:Out) (cB:List Row),Pst out cB->∃(rows1 rows2:List Row) (env':List (Nat×PV)),
  ce (gS L X.rows.length) cB=some rows2/\eJ (fc L X.rows) X.env=some env'/\ce (fc L X.rows) X.rows=some rows1/\
  match out with
  |.ret p=>∃p',PV.sub (gS L X.rows.length) p=some p'/\k p' ⟨env',fG L rows1 rows2⟩ L
  |.pan p=>∃p',PV.sub (gS L X.rows.length) p=some p'/\pan p' ⟨env',fG L rows1 rows2⟩

def UH(P:Program)(T:Tab)(G:Glob)(K:Option (Nat->Bool))(X:St)(op:Op)(k:PV->St->List Nat->Prop)(pan:PV->St->Prop):Prop:=match op with
 |.panic x=>match ev G X x with
  |some p=>match BP p with
   |true=>pan p X
   |false=>False
  |none=>False
 |.call c=>match c.callee with
  |.builtin .append=>qo T G X (.call c) k
  |.builtin .len=>pop T G K X (.call c) fun p=>k p X []
  |.builtin .max=>pop T G K X (.call c) fun p=>k p X []
  |.value x=>match ev G X x,Rg G X c.args.toList with
   |some (.fn f iN),some ps=>c8 P G X f (ps++iN) k pan
   |_,_=>False
  |_=>False
 |.alloc t=>qo T G X (.alloc t) k
 |.box t x=>qo T G X (.box t x) k
 |.build t ps=>qo T G X (.build t ps) k
 |.buildSlice t n ps=>qo T G X (.buildSlice t n ps) k
 |.store t x y=>qo T G X (.store t x y) k
 |.makeFunc f x y=>qo T G X (.makeFunc f x y) k
 |.makeMap t x=>qo T G X (.makeMap t x) k
 |.mapUpdate t m x y=>qo T G X (.mapUpdate t m x y) k
 |.insert t m x y=>qo T G X (.insert t m x y) k
 |.makeSlice t x y=>qo T G X (.makeSlice t x y) k
 |.mapEntry t m x=>qo T G X (.mapEntry t m x) k
 |.entryStore t m x y=>qo T G X (.entryStore t m x y) k
 |op=>pop T G K X op fun p=>k p X []

def Kk(be:Array Oper)(j:Nat):Option Tmp:=match Gf be.toList j with
 |some o=>o.dst
 |none=>none
theorem Kl(be:Array Oper)(j:Nat):Kk be j=(be[j]?).bind (·.dst):=by
 unfold Kk
 rw [iL]
 cases be[j]? <;> rfl
def qt(be:Array Oper)(o:Oper)(X:St)(FP no:St->Prop):Prop:=match o.guard with
 |none=>FP X
 |some (j,TN)=>match Kk be j with
  |some d=>match look X.env d with
   |some (.d (.s (.bool b)))=>match TN with
    |true=>Bool.rec (motive:=fun _=>Prop) (no (nM (some d) (.d (.s (.bool false))) X)) (FP (nM (some d) (.d (.s (.bool true))) X)) b
    |false=>Bool.rec (motive:=fun _=>Prop) (FP (nM (some d) (.d (.s (.bool false))) X)) (no (nM (some d) (.d (.s (.bool true))) X)) b
   |some (.d (.s (.tuple _)))=>no X
   |_=>False
  |none=>False

def ka(P:Program)(T:Tab)(G:Glob)(N:Nat)(be:Array Oper)(pan:PV->St->Prop):List Nat->(St->Prop)->St->Prop
 |[],k,X=>k X
 |i::l,k,X=>match Gf be.toList i with
  |some o=>match vd N o.dst with
   |true=>qt be o X (fun X1=>UH P T G (some fun _=>true) X1 o.op (fun p X2 _=>ka P T G N be pan l k (nM o.dst p X2)) pan)
     (fun X1=>ka P T G N be pan l k (nM o.dst (.d (.s undef)) X1))
   |false=>False
  |none=>False

section
variable {P:Program}{T:Tab}{G:Glob}{D:List Deferred}{N B:Nat}{X X':St}{H H':Nat->Option Value}{lim lim':Nat->Nat}{a:Act}{w w':World}{K:Option (Nat->Bool)}

theorem e_(hR:Rep D G N H lim X a w){d:Option Nat}{p:PV}{v:Value}(hd:vd N d=true)(hv:V H lim w p v):Rep D G N H lim (nM d p X) (a.put d v) w:=by
 cases d with
 |none=>exact hR
 |some d=>
  have hlt:d<N:=by simpa [vd,Nat.blt_eq] using hd
  refine ⟨fun j q hj=>?_,hR.rows,hR.glob,hR.defers,by simp [Act.put,hR.size]⟩
  simp only [nM,look] at hj
  split at hj
  ·rename_i e
   subst e
   simp only [sI] at hj
   subst hj
   refine ⟨hlt,?_⟩
   have:(a.put (some d) v).tmps.getD d undef=v:=by
    simp [Act.put,hR.size,hlt]
   rw [this]
   exact hv
  rename_i e
  obtain ⟨r1,r2⟩:=hR.env j q hj
  refine ⟨r1,?_⟩
  have:(a.put (some d) v).tmps.getD j undef=a.tmps.getD j undef:=by
   simp [Act.put,Array.getElem?_setIfInBounds_ne e]
  rw [this]
  exact r2
theorem qu(hR:Rep D G N H lim X a w){d:Nat}{p:PV}(hlt:d<N)(hv:V H lim w p (a.tmps.getD d undef)):Rep D G N H lim (nM (some d) p X) a w:=by
 refine ⟨fun j q hj=>?_,hR.rows,hR.glob,hR.defers,hR.size⟩
 simp only [nM,look] at hj
 split at hj
 ·rename_i e
  subst e
  simp only [sI] at hj
  subst hj
  exact ⟨hlt,hv⟩
 exact hR.env j q hj

theorem eU{be:Array Oper}{o:Oper}{FP no:St->Prop}(hR:Rep D G N H lim X a w)(h:qt be o X FP no):
  (Region.wanted o (yielded be a.tmps)=true/\∃X1,Rep D G N H lim X1 a w/\X1.rows=X.rows/\FP X1)\/(Region.wanted o (yielded be a.tmps)=false/\∃X1,Rep D G N H lim X1 a w/\X1.rows=X.rows/\no X1):=by
 unfold qt at h
 split at h
 ·rename_i hg
  exact .inl ⟨by simp [Region.wanted,hg],X,hR,rfl,h⟩
 rename_i j TN hg
 split at h
 ·rename_i d hd
  rw [Kl] at hd
  split at h
  ·rename_i b hb
   obtain ⟨hlt,hv⟩:=hR.env d _ hb
   simp only [V,VD.eq_1] at hv
   have hy:yielded be a.tmps j=some b:=by
    unfold yielded
    rw [hd]
    have:a.tmps[d]? = some (.bool b):=by
     rw [Array.getD_eq_getD_getElem?] at hv
     cases hq:a.tmps[d]? with
     |none=>rw [Array.getElem?_eq_none_iff] at hq;have:=hR.size;omega
     |some u=>rw [hq] at hv;simpa using hv
    simp [this]
   have MQ:∀c,b=c->Rep D G N H lim (nM (some d) (.d (.s (.bool c))) X) a w:=fun c e=>qu hR hlt (by simp only [V,VD.eq_1];rw [hv,e])
   have hr:∀p,(nM (some d) p X).rows=X.rows:=fun p=>rfl
   split at h
   ·cases gV:b with
    |true=>exact .inl ⟨by simp [Region.wanted,hg,hy,gV],_,MQ true gV,hr _,(iy h).1 gV⟩
    |false=>exact .inr ⟨by simp [Region.wanted,hg,hy,gV],_,MQ false gV,hr _,(iy h).2 gV⟩
   cases gV:b with
   |true=>exact .inr ⟨by simp [Region.wanted,hg,hy,gV],_,MQ true gV,hr _,(iy h).1 gV⟩
   |false=>exact .inl ⟨by simp [Region.wanted,hg,hy,gV],_,MQ false gV,hr _,(iy h).2 gV⟩
  ·rename_i vs hb
   obtain ⟨hlt,hv⟩:=hR.env d _ hb
   simp only [V,VD.eq_1] at hv
   have hy:yielded be a.tmps j=none:=by
    unfold yielded
    rw [hd]
    have:a.tmps[d]? = some (.tuple vs):=by
     rw [Array.getD_eq_getD_getElem?] at hv
     cases hq:a.tmps[d]? with
     |none=>rw [Array.getElem?_eq_none_iff] at hq;have:=hR.size;omega
     |some u=>rw [hq] at hv;simpa using hv
    simp [this]
   exact .inr ⟨by simp [Region.wanted,hg,hy],X,hR,rfl,h⟩
  exact h.elim
 exact h.elim

theorem FR{iP:Nat->Nat}{r:Nat}(hR:RowsOk H lim w X.rows)(hF:∀b,lim b<=iP b)(h2:∀b ty (cs:List Value),H r=some (.pointer (some ⟨b,0,none⟩))->w.heap[b]? = some (.cells cs.toArray ty (0,0))->cs.length<=iP b):∀ {ps args':List PV}{vs:List Value},pf X.rows r ps=some args'->Vs H lim w ps vs->Vs (fun _=>none) iP w args' vs
 |[],_,vs,h,hv=>by
  simp only [pf,sI] at h
  subst h
  simpa only [Vs] using hv
 |p::ps,args',vs,h,hv=>by
  simp only [pf] at h
  split at h
  ·rename_i q qs hq Wn
   simp only [sI] at h
   subst h
   simp only [Vs] at hv ⊢
   obtain ⟨u,us,rfl,h3,h4⟩:=hv
   have XL:Fr (fun _=>True) lim w iP w:=⟨rfl,rfl,rfl,nR _,fun b _=>⟨hF b,fun _ _=>rfl⟩,fun _ _ q=>absurd trivial q⟩
   refine ⟨u,us,rfl,?_,FR hR hF h2 Wn h4⟩
   cases p <;> simp only [OD] at hq
   all_goals try cases hq
   ·simp only [V] at h3 ⊢
    exact VD.mono XL _ _ h3
   rename_i id off
   split at hq
   ·rename_i ty cells he CF
    have he:=Nat.eq_of_beq_eq_true he
    subst he
    split at hq
    ·rename_i ds S8
     split at hq
     ·rename_i Ld
      simp only [sI] at hq
      subst hq
      obtain ⟨b,cs,g1,g2,g3,_⟩:=hR.row id _ CF
      simp only [V] at h3 ⊢
      obtain ⟨b',g4,rfl⟩:=h3
      rw [g1] at g4
      simp only [sI,Value.pointer.injEq,Addr.mk.injEq,and_true] at g4
      subst g4
      have hl:=h2 b ty cs g1 g2
      have UF:=VDs.mono XL _ _ (rr g3 S8)
      refine ⟨b,off,rfl,?_⟩
      have:=sj (mT (b:=b) ds 0 cs UF (fun d hd=>gn Ld d hd) fun j v hj=>?_) off
      ·simpa using this
      have L':=(List.getElem?_eq_some_iff.1 hj).1
      refine ⟨?_,by omega⟩
      simp only [Nat.zero_add,World.cell?,g2]
      simpa using hj
     cases hq
    cases hq
   cases hq
  cases h
theorem Km (hR:Rep D G N H lim X a w) {o:Oper}{c:Call}{x:Operand}{f:FuncId}{cs:List Value}{iN ps args':List PV}{r:Nat}{v:Value}(ho:o.op=.call c) (hc:c.callee=.value x) (hf:a.eval x=.func (.func f) #[] cs.toArray) (_eV:Vs H lim w iN cs) (sG:pf X.rows r (ps++iN)=some args') (hs:Spec P G f args' [] (.ret (.d (.s v))) []) (eq:Vs H lim w (ps++iN) (c.args.toList.map a.eval++cs))
  {next:Act->World->Prop}{Q:Exit->Act->World->Prop}(hk:∀w' lim',Nx D (fun i=>i∈[]) G N H lim w X a H lim' w'->next (a.put o.dst v) w'):o.wp P a w next Q:=by
 obtain ⟨TO,_,wx⟩:=hs
 have sQ:∃iP:Nat->Nat,(∀b,lim b<=iP b)/\(∀b ty (cs:List Value),H r=some (.pointer (some ⟨b,0,none⟩))->w.heap[b]? = some (.cells cs.toArray ty (0,0))->cs.length<=iP b):=by
  cases hH:H r with
  |none=>exact ⟨lim,fun _=>nR _,fun b ty cs h=>by cases h⟩
  |some u=>
   by_cases hp:∃b ty,∃cs:List Value,u=.pointer (some ⟨b,0,none⟩)/\w.heap[b]? = some (.cells cs.toArray ty (0,0))
   ·obtain ⟨b,ty,cs,rfl,hb⟩:=hp
    refine ⟨pt lim b (lim b+cs.length),fun d=>?_,fun d NB cs' h1 h3=>?_⟩
    ·by_cases e:d=b
     ·subst e;rw [aX];omega
     rw [ch _ _ e];exact nR _
    simp only [sI,Value.pointer.injEq,Addr.mk.injEq,and_true] at h1
    subst h1
    rw [hb] at h3
    simp only [sI,Obj.cells.injEq] at h3
    have:cs=cs':=by simpa using h3.1
    subst this
    rw [aX]
    omega
   exact ⟨lim,fun _=>nR _,fun b ty cs h1 h3=>absurd ⟨b,ty,cs,Option.some.inj h1,h3⟩ hp⟩
 obtain ⟨iP,l1,l2⟩:=sQ
 have hg:GlobOk G (fun _=>none) iP w:=by
  refine ⟨hR.glob.size,fun b ⟨id,u,q,_⟩=>(by cases q),fun g u h1 h3=>?_⟩
  have:=hR.glob.holds g u h1 h3
  cases u with
  |tuple cs=>exact this
  |agg vs=>exact this
  |_=>exact ⟨this.1,Nat.lt_of_lt_of_le this.2.1 (l1 g),this.2.2⟩
 have ve:=wx (fun _=>none) iP w _ ⟨fun id r h=>by simp at h,fun i j b _ h=>absurd h (jr rfl),fun _ _=>rfl⟩ hg (FR hR.rows l1 l2 sG eq)
 unfold Oper.wp
 have fo:(execOp a.eval o).run P w=.ok (.enter f (c.args.toList.map a.eval++cs).toArray) w:=by
  have e:c.args.map a.eval++cs.toArray=(c.args.toList.map a.eval++cs).toArray:=by apply Array.ext';simp
  have:=TO (c.args.map a.eval++cs.toArray) w
  rw [e] at this
  simp only [execOp,ho,resolve,hc,hf,Deferred.ofValue,Sem.run_bind,Sem.run_pure,Result.andThen,invoke]
  simpa [e] using this
 rw [fo,Oper.upon_enter]
 refine Calls.mono ve ?_
 intro e w' ⟨H1,eu,_,c2,_,_,u,he,hu⟩
 subst he
 simp only [V,VD.eq_1] at hu
 subst hu
 have OE:∀b,b<w.heap.size->w'.heap[b]? = w.heap[b]?:=fun b hb=>(c2.same b hb fun ⟨id,q⟩=>jr rfl q).1
 have hF:Fr (fun _=>False) lim w lim w':=⟨c2.os,c2.tape,c2.output,c2.size,fun b hb=>⟨nR _,fun o _=>World.cell?_of_block (w:=w) (OE b hb)⟩,fun b hb _=>⟨OE b hb,rfl⟩⟩
 exact hk w' lim ⟨⟨io hF (fun _ _ q=>q) hR.env,⟨fun id r h=>gk hF (fun _ _ q=>q) (fun _ _ q=>q) (hR.rows.row id r h),hR.rows.apart,hR.rows.dom⟩,hR.glob.mono hF (fun _ q=>q.elim) (fun _ q=>.inl q),hR.defers,hR.size⟩,hF.weaken fun _ q=>q.elim,fun _ _ _ _=>rfl,fun b hb=>.inl hb⟩
theorem kb (hT:bH P T) (hR:Rep D G N H lim X a w) {o:Oper}{k:PV->St->List Nat->Prop}{pan:PV->St->Prop}(h:UH P T G (some fun _=>true) X o.op k pan)
  {next:Act->World->Prop}{Q:Exit->Act->World->Prop}
  (hk:∀p X' F H' lim' w' v,k p X' F->Nx D (fun i=>i∈F) G N H lim w X' a H' lim' w'->V H' lim' w' p v->next (a.put o.dst v) w')
  (hp:∀p X' H' lim' w' v,pan p X'->Rep D G N H' lim' X' a w'->(∀B,Lk B H lim w H' lim' w')->V H' lim' w' p v->Q (.panic [{ v,recovered:=false }]) a w') :
  o.wp P a w next Q:=by
 have Ri:∀op,o.op=op->pop T G (some fun _=>true) X op (fun p=>k p X [])->o.wp P a w next Q:=by
  intro op ho h
  obtain ⟨p,⟨v,h1,h2⟩,h3⟩:=xj hT hR o _ (ho▸h)
  have:=h1 w (Agr.refl _ H lim w)
  unfold Oper.wp
  rw [this]
  exact hk p X [] H lim w v h3 (Nx.refl hR) h2
 have rF:∀op,o.op=op->qo T G X op k->o.wp P a w next Q:=by
  intro op ho h
  obtain ⟨p,X',F,⟨H',lim',w',v,h1,h2,h3⟩,h4⟩:=Hd hT hR o _ (ho▸h)
  unfold Oper.wp
  rcases h1 with h1|⟨h1,rfl⟩
  ·rw [h1];exact hk p X' F H' lim' w' v h4 h2 h3
  rw [h1];exact hk p X' F H' lim' w' undef h4 h2 h3
 unfold UH at h
 split at h
 ·rename_i x ho
  split at h
  ·rename_i p hx
   split at h
   ·rename_i hi
    have vx:=aw hR hx
    obtain ⟨t,u,hv⟩:=Fy hi vx
    unfold Oper.wp
    have:(execOp a.eval o).run P w=.halt (.panic (a.eval x)) w:=by
     simp [execOp,ho,hv,Instr.panic]
    rw [this]
    exact hp p X H lim w _ h hR (fun _=>Lk.refl) vx
   exact h.elim
  exact h.elim
 ·rename_i c ho
  split at h
  ·exact rF _ ho h
  ·exact Ri _ ho h
  ·exact Ri _ ho h
  ·rename_i x hc
   split at h
   ·rename_i f iN ps hx zU
    have vx:=aw hR hx
    have XM:=nr hR _ _ zU
    simp only [V] at vx
    obtain ⟨cs,hf,eV⟩:=vx
    rcases h with ⟨r,args',v,sG,wx,wd⟩|⟨L,args',rowsL,Pst,hL,sG,bw,⟨TO,bZ,wx⟩,wd⟩
    ·exact Km hR ho hc hf eV sG wx (nk XM eV) fun w' lim' jK=>hk _ _ _ _ lim' w' v wd jK (mW v)
    have eq:Vs (HL L H) lim w args' (c.args.toList.map a.eval++cs):=Vs.sub (Fr.refl (fun _=>False) lim w) (fM hR.rows).1 (fM hR.rows).2 _ _ _ sG (nk XM eV)
    have ve:=wx (HL L H) lim w _ (g9 hR.rows hL bw) (hR.glob.sub Cf) eq
    unfold Oper.wp
    have fo:(execOp a.eval o).run P w=.ok (.enter f (c.args.toList.map a.eval++cs).toArray) w:=by
     have e:c.args.map a.eval++cs.toArray=(c.args.toList.map a.eval++cs).toArray:=by apply Array.ext';simp
     have:=TO (c.args.map a.eval++cs.toArray) w
     rw [e] at this
     simp only [execOp,ho,resolve,hc,hf,Deferred.ofValue,Sem.run_bind,Sem.run_pure,Result.andThen,invoke]
     simpa [e] using this
    rw [fo,Oper.upon_enter]
    refine Calls.mono ve ?_
    intro e w' ⟨out,cB,H1,eu,zU,c1,c2,c3,c4,c5⟩
    obtain ⟨rows1,rows2,env',lm,iX,QQ,wd⟩:=wd out cB zU
    have bZ:=bZ out cB zU
    obtain ⟨jK,oW⟩:=xr (p:=match out with | .ret p=>p | .pan p=>p) (p':=match out with | .ret p=>(PV.sub (gS L X.rows.length) p).getD (.tup []) | .pan p=>(PV.sub (gS L X.rows.length) p).getD (.tup [])) hR hL bw bZ iX QQ lm c1 c2 c3 c4
    cases out with
    |ret p=>
     obtain ⟨p',K6,wd⟩:=wd
     obtain ⟨v,rfl,hv⟩:=c5
     simp only [K6,Option.getD_some] at oW
     exact hk p' _ L _ eu w' v wd jK (oW v trivial hv)
    |pan p=>
     obtain ⟨p',K6,wd⟩:=wd
     obtain ⟨v,rfl,hv⟩:=c5
     simp only [K6,Option.getD_some] at oW
     exact hp p' _ _ eu w' v wd jK.rep (fun _=>jK.lk) (oW v trivial hv)
   exact h.elim
  exact h.elim
 ·rename_i ho;exact rF _ ho h
 ·rename_i ho;exact rF _ ho h
 ·rename_i ho;exact rF _ ho h
 ·rename_i ho;exact rF _ ho h
 ·rename_i ho;exact rF _ ho h
 ·rename_i ho;exact rF _ ho h
 ·rename_i ho;exact rF _ ho h
 ·rename_i ho;exact rF _ ho h
 ·rename_i ho;exact rF _ ho h
 ·rename_i ho;exact rF _ ho h
 ·rename_i ho;exact rF _ ho h
 ·rename_i ho;exact rF _ ho h
 exact Ri _ rfl h

theorem pg(hT:bH P T){be:Array Oper}{Q:AExit->St->Prop}{H0:Nat->Option Value}{lim0:Nat->Nat}{w0:World}:
  ∀(l:List Nat) (X:St) (H:Nat->Option Value) (lim:Nat->Nat) (a:Act) (w:World),ka P T G N be (fun p X=>Q (.pan p) X) l (fun X=>Q .normal X) X->Rep D G N H lim X a w->Lk B H0 lim0 w0 H lim w->
   wpOps P be (Post D G N B Q H0 lim0 w0) l a w
 |[],X,H,lim,a,w,h,hR,lk=>⟨X,H,lim,hR,lk,h⟩
 |i::l,X,H,lim,a,w,h,hR,lk=>by
  simp only [ka] at h
  simp only [wpOps]
  split at h
  ·rename_i o ho
   rw [iL] at ho
   rw [ho]
   split at h
   ·rename_i hd
    simp only
    rcases eU hR h with ⟨hw,X1,kE,_,h⟩|⟨hw,X1,kE,_,h⟩
    ·rw [if_pos hw]
     refine .inl (kb hT kE h ?_ ?_)
     ·intro p X' F H' lim' w' v hk jK hv
      exact pg hT l _ H' lim' _ w' hk (e_ jK.rep hd hv) (lk.trans jK.lk)
     intro p X' H' lim' w' v hp Ij LH hv
     exact ⟨X',H',lim',v,p,rfl,Ij.rows,hv,Ij.defers,lk.trans (LH B),hp⟩
    rw [if_neg (by simp [hw])]
    exact pg hT l _ H lim _ w h (e_ kE hd (mW _)) lk
   exact h.elim
  exact h.elim

theorem D7(hT:bH P T){be:Array Oper}{id:Nat}{Q:AExit->St->Prop}(h:ka P T G N be (fun p X=>Q (.pan p) X) (List.range be.size) (fun X=>Q .normal X) X):dJ D P G N B (.region id be false) Q X:=
 fun H lim a w hR=>wp_region (pg hT _ X H lim a w h hR Lk.refl)

theorem zF(hT:bH P T){be:Array Oper}{id:Nat}{Q:AExit->St->Prop}(h:∀(pan:PV->St->Prop) (K:St->Prop),(∀p X,Q (.pan p) X->pan p X)->(∀X,Q .normal X->K X)->ka P T G N be pan (List.range be.size) K X):dJ D P G N B (.region id be false) Q X:=
 D7 hT (h _ _ (fun _ _ q=>q) fun _ q=>q)
theorem xu {L:List Nat}{f:FuncId}{ps args':List PV}{rowsL cB rows1 rows2:List Row}{p p':PV}{env':List (Nat×PV)}{k:PV->St->List Nat->Prop}{pan:PV->St->Prop}
  (hL:cl L=true) (sG:PV.subs (gc L X.rows) ps=some args') (bw:bs (gc L X.rows) X.rows L=some rowsL) (hs:Spec P G f args' rowsL (.ret p) cB)
  (lm:ce (gS L X.rows.length) cB=some rows2) (iX:eJ (fc L X.rows) X.env=some env') (hk:ce (fc L X.rows) X.rows=some rows1) (hp:PV.sub (gS L X.rows.length) p=some p')
  (h:k p' ⟨env',fG L rows1 rows2⟩ L):c8 P G X f ps k pan:=
 .inr ⟨L,args',rowsL,_,hL,sG,bw,hs.toE,fun o r ⟨e1,e2⟩=>by subst e1 e2;exact ⟨rows1,rows2,env',lm,iX,hk,p',hp,h⟩⟩
theorem jf(r:Nat){f:FuncId}{ps args':List PV}{v:Value}{k:PV->St->List Nat->Prop}{pan:PV->St->Prop}(sG:pf X.rows r ps=some args')(hs:Spec P G f args' [] (.ret (.d (.s v))) [])(h:k (.d (.s v)) X []):c8 P G X f ps k pan:=.inl ⟨r,args',v,sG,hs,h⟩
theorem xv {L:List Nat}{f:FuncId}{ps args':List PV}{rowsL cB rows1 rows2:List Row}{p p':PV}{env':List (Nat×PV)}{k:PV->St->List Nat->Prop}{pan:PV->St->Prop}
  (hL:cl L=true) (sG:PV.subs (gc L X.rows) ps=some args') (bw:bs (gc L X.rows) X.rows L=some rowsL) (hs:Spec P G f args' rowsL (.pan p) cB)
  (lm:ce (gS L X.rows.length) cB=some rows2) (iX:eJ (fc L X.rows) X.env=some env') (hk:ce (fc L X.rows) X.rows=some rows1) (hp:PV.sub (gS L X.rows.length) p=some p')
  (h:pan p' ⟨env',fG L rows1 rows2⟩):c8 P G X f ps k pan:=
 .inr ⟨L,args',rowsL,_,hL,sG,bw,hs.toE,fun o r ⟨e1,e2⟩=>by subst e1 e2;exact ⟨rows1,rows2,env',lm,iX,hk,p',hp,h⟩⟩

def vf{α:Type}:List α->Option (List α)
 |[]=>some []
 |x::r=>match vf r with
  |some r'=>some (x::r')
  |none=>none
def cm:List Row->Option (List Row)
 |[]=>some []
 |.box ty cells::r=>match vf cells with
  |some cells=>match cm r with
   |some r'=>some (.box ty cells::r')
   |none=>none
  |none=>none
 |.acc e k xs::r=>match cm r with
  |some r'=>some (.acc e k xs::r')
  |none=>none
 |.map t es::r=>match cm r with
  |some r'=>some (.map t es::r')
  |none=>none
 |.vec ty xs::r=>match cm r with
  |some r'=>some (.vec ty xs::r')
  |none=>none
 |.amap t fz es::r=>match cm r with
  |some r'=>some (.amap t fz es::r')
  |none=>none
 |.arrs fz ks ls::r=>match cm r with
  |some r'=>some (.arrs fz ks ls::r')
  |none=>none
theorem xw{α:Type}:∀ {l l':List α},vf l=some l'->l'=l
 |[],l',h=>by simp only [vf,sI] at h;exact h.symm
 |x::r,l',h=>by
  simp only [vf] at h
  split at h
  ·rename_i r' hr
   simp only [sI] at h
   rw [<- h,xw hr]
  cases h
theorem eP:∀ {l l':List Row},cm l=some l'->l'=l
 |[],l',h=>by simp only [cm,sI] at h;exact h.symm
 |.box ty cells::r,l',h=>by
  simp only [cm] at h
  split at h
  ·rename_i cs hc
   split at h
   ·rename_i r' hr
    simp only [sI] at h
    rw [<- h,eP hr,xw hc]
   cases h
  cases h
 |.acc e k xs::r,l',h=>by
  simp only [cm] at h
  split at h
  ·rename_i r' hr
   simp only [sI] at h
   rw [<- h,eP hr]
  cases h
 |.map t es::r,l',h=>by
  simp only [cm] at h
  split at h
  ·rename_i r' hr
   simp only [sI] at h
   rw [<- h,eP hr]
  cases h
 |.vec ty xs::r,l',h=>by
  simp only [cm] at h
  split at h
  ·rename_i r' hr
   simp only [sI] at h
   rw [<- h,eP hr]
  cases h
 |.amap t fz es::r,l',h=>by
  simp only [cm] at h
  split at h
  ·rename_i r' hr
   simp only [sI] at h
   rw [<- h,eP hr]
  cases h
 |.arrs fz ks ls::r,l',h=>by
  simp only [cm] at h
  split at h
  ·rename_i r' hr
   simp only [sI] at h
   rw [<- h,eP hr]
  cases h
theorem ak{slots:List Nat}{env':List (Nat×PV)}{rows':List Row}(h1:fT X.env slots=some env')(h2:cm X.rows=some rows'):Sub D G N B X ⟨env',rows'⟩:=by
 intro H lim a w hR
 rw [eP h2]
 exact ⟨H,lim,⟨fun j p hj=>hR.env j p (gm h1 hj),hR.rows,hR.glob,hR.defers,hR.size⟩,Lk.refl⟩
theorem aq(slots:List Nat){c:Code}{Q:AExit->St->Prop}{env':List (Nat×PV)}{rows':List Row}(h1:fT X.env slots=some env')(h2:cm X.rows=some rows')(h:dJ D P G N B c Q ⟨env',rows'⟩):dJ D P G N B c Q X:=
 ju (ak h1 h2) h

def FS(T:Tab)(X:St)(t:TypeId)(x:Option PV):Option PV:=match T t,x with
 |some i,some (.box id off)=>match X.rows[id]? with
  |some (.box _ cells)=>match i.desc.agg with
   |true=>match Nat.ble (off+i.size) cells.length,PV.subs (Om X.rows) ((cells.drop off).take i.size) with
    |true,some cs=>some (xa cs)
    |_,_=>none
   |false=>cells[off]?
  |_=>none
 |_,_=>none
theorem Ci{t:TypeId}{x:Option PV}{p:PV}(h:FS T X t x=some p):BO T (some fun _=>true) X t x (fun q=>q=p):=by
 unfold FS at h
 split at h
 ·rename_i i id off Zn
  split at h
  ·rename_i ty cells hr
   simp only [BO,DB,Zn,hr]
   split at h
   ·rename_i hd
    split at h
    ·rename_i cs h1 h2
     simp only [sI] at h
     simp only [hd,h1,h2,h]
    cases h
   rename_i hd
   simp only [hd,h]
  cases h
 cases h

def cJ(T:Tab)(X:St):List ResultVar->Option (List PV)
 |[]=>some []
 |.tmp t::r=>match look X.env t with
  |some p=>match cJ T X r with
   |some ps=>some (p::ps)
   |none=>none
  |none=>none
 |.cell b t::r=>match FS T X t (look X.env b) with
  |some p=>match cJ T X r with
   |some ps=>some (p::ps)
   |none=>none
  |none=>none
def fI:List PV->PV
 |[p]=>p
 |ps=>.tup ps
def jT:Nat->List PV->List (Nat×PV)
 |_,[]=>[]
 |i,p::ps=>(i,p)::jT (i+1) ps

theorem jE{ps:List PV}{j:Nat}{p:PV}:∀ {i:Nat},look (jT i ps) j=some p->i<=j/\ps[j - i]? = some p:=by
 induction ps with
 |nil=>intro i h;cases h
 |cons q ps ih=>
  intro i h
  simp only [jT,look] at h
  split at h
  ·rename_i e;subst e;simpa using h
  rename_i e
  obtain ⟨h1,h2⟩:=ih h
  refine ⟨by omega,?_⟩
  rw [show j - i=(j - (i+1))+1 from by omega,List.getElem?_cons_succ]
  exact h2

theorem gA(hT:bH P T)(hR:Rep D G N H lim X a w):∀(l:List ResultVar) (ps:List PV),cJ T X l=some ps->∃vs:List Value,(l.mapM (fun
  |.tmp t=>pure (a.tmps.getD t undef)
  |.cell b t=>do loadVar t (<- asAddr (a.tmps.getD b undef))):Sem (List Value)).run P w=.ok vs w/\Vs H lim w ps vs
 |[],ps,h=>by simp only [cJ,sI] at h;subst h;exact ⟨[],by simp,by simp only [Vs]⟩
 |.tmp t::r,ps,h=>by
  simp only [cJ] at h
  split at h
  ·rename_i p hp
   split at h
   ·rename_i qs hq
    simp only [sI] at h
    subst h
    obtain ⟨vs,h1,h2⟩:=gA hT hR r qs hq
    refine ⟨a.tmps.getD t undef::vs,?_,by simp only [Vs];exact ⟨_,vs,rfl,(hR.env t p hp).2,h2⟩⟩
    rw [List.mapM_cons]
    simp only [Sem.run_bind,Sem.run_pure,Result.andThen]
    rw [h1]
   cases h
  cases h
 |.cell b t::r,ps,h=>by
  simp only [cJ] at h
  split at h
  ·rename_i p hp
   split at h
   ·rename_i qs hq
    simp only [sI] at h
    subst h
    obtain ⟨vs,h1,h2⟩:=gA hT hR r qs hq
    obtain ⟨p',⟨v,g1,g2⟩,rfl⟩:=sk (o:={ dst:=none,op:=.load t (.tmp b),type:=0,pos:= "",after:=#[],guard:=none }) hT hR rfl (Ci hp)
    have g:=g1 w (Agr.refl _ H lim w)
    have Wo:∃ad,a.tmps.getD b undef=.pointer (some ad):=by
     unfold FS at hp
     split at hp
     ·rename_i hx
      have:=(hR.env b _ hx).2
      simp only [V] at this
      obtain ⟨bb,_,hv⟩:=this
      exact ⟨_,hv⟩
     cases hp
    obtain ⟨ad,XN⟩:=Wo
    have hl:(loadVar t ad).run P w=.ok v w:=by
     have e:(execOp a.eval { dst:=none,op:=.load t (.tmp b),type:=0,pos:= "",after:=#[],guard:=none }).run P w=((loadVar t ad).run P w).andThen fun v w=>.ok (.value v) w:=by
      simp only [execOp,Act.eval,XN,Instr.loadAt,Instr.sureAddr,Sem.run_bind,Sem.run_pure,Result.andThen]
     rw [e] at g
     cases JI:(loadVar t ad).run P w with
     |ok v2 w2=>rw [JI] at g;simp only [Result.andThen,Result.ok.injEq,Next.value.injEq] at g;rw [g.1,g.2]
     |halt x w2=>rw [JI] at g;simp [Result.andThen] at g
    refine ⟨v::vs,?_,by simp only [Vs];exact ⟨v,vs,rfl,g2,h2⟩⟩
    rw [List.mapM_cons]
    have ha:asAddr (.pointer (some ad))=(pure ad:Sem Addr):=rfl
    simp only [XN,ha,Sem.run_bind,Sem.run_pure,Result.andThen,hl]
    rw [h1]
   cases h
  cases h

def zG(T:Tab)(fn:Func)(out:Out)(rows':List Row):AExit->St->Prop:=fun e X=>match e with
 |.normal=>∃ps,cJ T X fn.results.toList=some ps/\out=.ret (fI ps)/\X.rows=rows'
 |.ret=>∃ps,cJ T X fn.results.toList=some ps/\out=.ret (fI ps)/\X.rows=rows'
 |.pan p=>out=.pan p/\X.rows=rows'
 |.exit _=>False
def Ko(f:Func):Code:=match f.body with
 |some c=>c
 |none=>.skip
def D8:Code->Code
 |.seq _ b=>b
 |c=>c
theorem ee (hT:bH P T) {f:FuncId}{fn:Func}{c:Code}{args:List PV}{rows rows':List Row}{out:Out}(hf:P.funcs[f]? = some fn) (hb:fn.body=some c) (ic:(fn.name== "runtime.NumGoroutine")=false)
  (bZ:rows.length<=rows'.length) (hN:N=args.length+(fn.ntmps - args.length))
  (h:dJ [] P G N rows.length c (zG T fn out rows') ⟨jT 0 args,rows⟩):Spec P G f args rows out rows':=by
 refine ⟨fun QC w=>?_,bZ,fun H lim w vs bw eT eq=>?_⟩
 ·have aO:¬fn.name = "runtime.NumGoroutine":=by simpa using ic
  simp [callFunc,hf,aO,hb,program,Sem.run]
 have s8:vs.length=args.length:=dA eq
 refine calls_of_wp hf hb (wp_mono (h H lim _ w ⟨fun j p hj=>?_,bw,eT,rfl,?_⟩) ?_)
 ·obtain ⟨_,hj⟩:=jE hj
  obtain ⟨v,h1,h2⟩:=kG eq hj
  simp only [Nat.sub_zero] at h1
  have hlt:=(List.getElem?_eq_some_iff.1 h1).1
  refine ⟨by omega,?_⟩
  have:((vs.toArray++Array.replicate (fn.ntmps - vs.toArray.size) undef).getD j undef)=v:=by
   rw [Array.getD_eq_getD_getElem?,Array.getElem?_append_left (by simpa using hlt)]
   simp [h1]
  rw [this]
  exact h2
 ·simp [hN,s8]
 intro e a' w' hp
 have key:∀X' H' lim',Rep [] G N H' lim' X' a' w'->Lk rows.length H lim w H' lim' w'->(∃ps,cJ T X' fn.results.toList=some ps/\out=.ret (fI ps)/\X'.rows=rows')->
   a'.defers=[]/\∃v,(results fn a'.tmps).run P w'=.ok v w'/\(∃(H':Nat->Option Value) (lim':Nat->Nat),RowsOk H' lim' w' rows'/\Fr (Bl H) lim w lim' w'/\(∀id v,stay v=true->H id=some v->H' id=H id)/\(∀b,Bl H' b->Bl H b\/w.heap.size<=b)/\
    BK H' lim' w' out (.returned v)):=by
  intro X' H' lim' hR lk ⟨ps,q1,q2,q3⟩
  refine ⟨hR.defers,?_⟩
  obtain ⟨us,r1,r2⟩:=gA (P:=P) hT hR _ _ q1
  have hl:=dA r2
  have Cj:∀id v,stay v=true->H id=some v->H' id=H id:=fun id q iF hq=>by
   rcases Nat.lt_or_ge id rows.length with hlt|hlt
   ·exact lk.ptr id q hlt iF hq
   rw [bw.dom id hlt] at hq;cases hq
  have Ap:(results fn a'.tmps).run P w'=.ok (if h:us.length=1 then us[0] else .tuple us.toArray) w':=by
   unfold results
   have:∀(g:ResultVar->Sem Value),(fn.results.mapM g).run P w'=((fn.results.toList.mapM g).run P w').andThen fun l w=>.ok l.toArray w:=by
    intro g
    rw [<- Array.toArray_toList (xs:=fn.results),List.mapM_toArray]
    simp only [List.toList_toArray]
    show Sem.run P (List.mapM g fn.results.toList >>= fun x=>pure x.toArray) w'=_
    rw [Sem.run_bind]
    rfl
   rw [Sem.run_bind,this]
   erw [r1]
   simp [Result.andThen]
  refine ⟨_,Ap,H',lim',q3▸hR.rows,lk.fr,Cj,lk.blocks,?_⟩
  subst q2
  refine ⟨_,rfl,?_⟩
  cases ps with
  |nil=>
   simp only [Vs] at r2
   subst r2
   simp only [fI,V]
   exact ⟨[],rfl,by simp only [Vs]⟩
  |cons p ps=>
   cases ps with
   |nil=>
    simp only [Vs] at r2
    obtain ⟨u,QD,rfl,h1,rfl⟩:=r2
    simpa [fI] using h1
   |cons q ps=>
    have aO:¬us.length=1:=by simp at hl;omega
    rw [dif_neg aO]
    simp only [fI,V]
    exact ⟨us,rfl,r2⟩
 cases e <;> simp only [Post,bodyPost] at hp ⊢
 ·obtain ⟨X',H',lim',h1,h2,h3⟩:=hp
  exact key X' H' lim' h1 h2 h3
 ·obtain ⟨X',H',lim',h1,h2,h3⟩:=hp
  exact h3
 ·obtain ⟨X',H',lim',h1,h2,h3⟩:=hp
  exact key X' H' lim' h1 h2 h3
 obtain ⟨X',H',lim',v,p,rfl,h2,h3,h4,h5,h6,h7⟩:=hp
 refine ⟨h4,H',lim',h7▸h2,h5.fr,fun id q iF hq=>?_,h5.blocks,?_⟩
 ·rcases Nat.lt_or_ge id rows.length with hlt|hlt
  ·exact h5.ptr id q hlt iF hq
  rw [bw.dom id hlt] at hq;cases hq
 subst h6
 exact ⟨v,rfl,h3⟩
end
end

def Rj:TypeDesc->Option TK
 |.int k=>some (.int k)
 |.bool=>some .bool
 |.string=>some .string
 |.slice e=>some (.slice e)
 |.pointer e=>some (.ptr e)
 |.struct fs=>some (.struct (fs.toList.map fun f=>(f.offset,f.type)))
 |.interface _=>some .iface
 |.map k v=>some (.map k v)
 |.func ..=>some .func
 |_=>none
def Kp(P:Program):Tab:=fun t=>match P.underlying t with
 |some d=>match Rj d with
  |some tk=>match P.info? t with
   |some ti=>match ti.zero with
    |some z=>match JK z==tk.agg with
     |true=>some { desc:=tk,size:=ti.size,bytes:=ti.bytes,zero:=z.cells.toList }
     |false=>none
    |none=>none
   |none=>none
  |none=>none
 |none=>none
theorem Nd{d:TypeDesc}{tk:TK}(h:Rj d=some tk):eX tk d:=by
 cases d <;> simp only [Rj,sI] at h
 all_goals first
  | (subst h;rfl)
  | (subst h;exact ⟨_,rfl,rfl⟩)
  | (subst h;exact ⟨_,_,_,rfl⟩)
  | (subst h;exact ⟨_,rfl⟩)
  |cases h
theorem Kq(P:Program):bH P (Kp P):=by
 intro t i h
 unfold Kp at h
 split at h
 ·rename_i d hd
  split at h
  ·rename_i tk P0
   split at h
   ·rename_i ti Wb
    split at h
    ·rename_i z hz
     split at h
     ·rename_i Wj
      simp only [sI] at h
      subst h
      exact ⟨⟨d,hd,Nd P0⟩,ti,Wb,rfl,rfl,z,hz,rfl,eq_of_beq Wj⟩
     cases h
    cases h
   cases h
  cases h
 cases h
def Rk(l:List (List (Option TI))):Tab:=fun t=>match l[t / 20]? with
 |some c=>match c[t % 20]? with
  |some o=>o
  |none=>none
 |none=>none
def TP(l:List Nat)(t:Nat):Bool:=match l with
 |[]=>false
 |x::r=>match Nat.beq x t with
  |true=>true
  |false=>TP r t
def Rl(P:Program)(u:List Nat):Tab:=fun t=>match TP u t with
 |true=>Kp P t
 |false=>none
theorem Nf{P:Program}{u:List Nat}{l:List (List (Option TI))}(h:(List.range l.length).map (fun q=>(List.range 20).map fun r=>Rl P u (q * 20+r))=l):bH P (Rk l):=by
 intro t i ht
 unfold Rk at ht
 split at ht
 ·rename_i c hc
  split at ht
  ·rename_i o ho
   subst ht
   have hlt:=(List.getElem?_eq_some_iff.1 hc).1
   have h1:((List.range l.length).map (fun q=>(List.range 20).map fun r=>Rl P u (q * 20+r)))[t / 20]? = some c:=by rw [h];exact hc
   rw [List.getElem?_map,List.getElem?_range hlt] at h1
   simp only [Option.map_some,sI] at h1
   rw [<- h1,List.getElem?_map,List.getElem?_range (Nat.mod_lt _ (by decide))] at ho
   simp only [Option.map_some,sI] at ho
   rw [Nat.mul_comm,Nat.div_add_mod] at ho
   unfold Rl at ho
   split at ho
   ·exact Kq P t i ho
   cases ho
  cases ht
 cases ht
abbrev jj:Value:=Value.string { data:={ toList:=[] } }
abbrev ti(d:TK)(s b:Nat)(z:List Value):Option TI:=some { desc:=d,size:=s,bytes:=b,zero:=z }
def Kr:List Nat:=[1,2,3,4,5,9,17,20,21,23,24,25,26,28,30,33,34,35,37,39,55,56,58,59,60,62,64,67,69,74,76,82,99,101,105,108,109,118,121,122,123,125,127,128,130,132,134,135,138,143,145,148,157,159,161,162,163,165,167,169,179,184,185,186,188,189,191,196,200,205,207,212,213,215,217,219,226,228,234,238,239,244,246,256,259,261,262,269,273,275,279,282,286,288,306,307,309,312,314,336,343,345,373,380,384,386,388,391,397,398,401,402,406,409,411,412,413]
noncomputable def Ng:List (List (Option TI)):=[
 [none,ti (.func) 1 8 [.nilFunc],ti (.int .i64) 1 8 [.int .i64 0],ti (.int .i64) 1 8 [.int .i64 0],ti (.bool) 1 1 [.bool false],ti (.int .u8) 1 1 [.int .u8 0],none,none,none,ti (.string) 1 16 [jj],none,none,none,none,none,none,none,ti (.ptr 425) 1 8 [.pointer none],none,none],
 [ti (.iface) 1 16 [.nilIface],ti (.int .i32) 1 4 [.int .i32 0],none,ti (.slice 9) 1 24 [.slice none 0 0],ti (.slice 169) 1 24 [.slice none 0 0],ti (.slice 159) 1 24 [.slice none 0 0],ti (.slice 217) 1 24 [.slice none 0 0],none,ti (.struct [(0,23),(1,24),(2,25),(3,26)]) 4 96 [.slice none 0 0,.slice none 0 0,.slice none 0 0,.slice none 0 0],none,ti (.iface) 1 16 [.nilIface],none,none,ti (.slice 99) 1 24 [.slice none 0 0],ti (.slice 145) 1 24 [.slice none 0 0],ti (.slice 228) 1 24 [.slice none 0 0],none,ti (.struct [(0,23),(1,33),(2,34),(3,35)]) 4 96 [.slice none 0 0,.slice none 0 0,.slice none 0 0,.slice none 0 0],none,ti (.struct [(0,3),(1,3)]) 2 16 [.int .i64 0,.int .i64 0]],
 [none,none,none,none,none,none,none,none,none,none,none,none,none,none,none,ti (.slice 64) 1 24 [.slice none 0 0],ti (.slice 3) 1 24 [.slice none 0 0],none,ti (.struct [(0,23),(1,33),(2,3),(3,55),(4,56)]) 5 104 [.slice none 0 0,.slice none 0 0,.int .i64 0,.slice none 0 0,.slice none 0 0],ti (.slice 143) 1 24 [.slice none 0 0]],
 [ti (.slice 288) 1 24 [.slice none 0 0],none,ti (.struct [(0,9),(1,9),(2,59),(3,60)]) 4 80 [jj,jj,.slice none 0 0,.slice none 0 0],none,ti (.struct [(0,3),(1,3),(2,62)]) 6 96 [.int .i64 0,.int .i64 0,jj,jj,.slice none 0 0,.slice none 0 0],none,none,ti (.slice 127) 1 24 [.slice none 0 0],none,ti (.struct [(0,23),(1,24),(2,3),(3,67),(4,56)]) 5 104 [.slice none 0 0,.slice none 0 0,.int .i64 0,.slice none 0 0,.slice none 0 0],none,none,none,none,ti (.slice 56) 1 24 [.slice none 0 0],none,ti (.struct [(0,9),(1,3),(2,56),(3,74)]) 4 72 [jj,.int .i64 0,.slice none 0 0,.slice none 0 0],none,none,none],
 [none,none,ti (.struct [(0,9),(1,3),(2,56),(3,74)]) 4 72 [jj,.int .i64 0,.slice none 0 0,.slice none 0 0],none,none,none,none,none,none,none,none,none,none,none,none,none,none,none,none,ti (.struct [(0,9),(1,3)]) 2 24 [jj,.int .i64 0]],
 [none,ti (.slice 108) 1 24 [.slice none 0 0],none,none,none,ti (.slice 109) 1 24 [.slice none 0 0],none,none,ti (.struct [(0,3),(1,3),(2,56),(3,74)]) 4 64 [.int .i64 0,.int .i64 0,.slice none 0 0,.slice none 0 0],ti (.struct [(0,3),(1,3),(2,56),(3,74)]) 4 64 [.int .i64 0,.int .i64 0,.slice none 0 0,.slice none 0 0],none,none,none,none,none,none,none,none,ti (.slice 121) 1 24 [.slice none 0 0],none],
 [none,ti (.struct [(0,3),(1,3),(2,56),(3,74)]) 4 64 [.int .i64 0,.int .i64 0,.slice none 0 0,.slice none 0 0],ti (.slice 157) 1 24 [.slice none 0 0],ti (.slice 282) 1 24 [.slice none 0 0],none,ti (.struct [(0,9),(1,9),(2,122),(3,123)]) 4 80 [jj,jj,.slice none 0 0,.slice none 0 0],none,ti (.struct [(0,3),(1,3),(2,125)]) 6 96 [.int .i64 0,.int .i64 0,jj,jj,.slice none 0 0,.slice none 0 0],ti (.ptr 261) 1 8 [.pointer none],none,ti (.ptr 132) 1 8 [.pointer none],none,ti (.struct [(0,9),(1,3),(2,9)]) 3 40 [jj,.int .i64 0,jj],none,ti (.ptr 138) 1 8 [.pointer none],ti (.slice 256) 1 24 [.slice none 0 0],none,none,ti (.struct [(0,135),(1,3),(2,39)]) 4 48 [.slice none 0 0,.int .i64 0,.int .i64 0,.int .i64 0],none],
 [none,none,none,ti (.struct [(0,9),(1,3),(2,9),(3,59)]) 4 64 [jj,.int .i64 0,jj,.slice none 0 0],none,ti (.struct [(0,9),(1,23),(2,35),(3,143)]) 7 128 [jj,.slice none 0 0,.slice none 0 0,jj,.int .i64 0,jj,.slice none 0 0],none,none,ti (.func) 1 8 [.nilFunc],none,none,none,none,none,none,none,none,ti (.struct [(0,9),(1,3),(2,9),(3,122)]) 4 64 [jj,.int .i64 0,jj,.slice none 0 0],none,ti (.struct [(0,9),(1,23),(2,26),(3,157)]) 7 128 [jj,.slice none 0 0,.slice none 0 0,jj,.int .i64 0,jj,.slice none 0 0]],
 [none,ti (.ptr 167) 1 8 [.pointer none],ti (.ptr 165) 1 8 [.pointer none],ti (.slice 5) 1 24 [.slice none 0 0],none,ti (.struct [(0,162),(1,163)]) 2 32 [.pointer none,.slice none 0 0],none,ti (.struct [(0,165),(2,3),(3,4),(4,3)]) 5 56 [.pointer none,.slice none 0 0,.int .i64 0,.bool false,.int .i64 0],none,ti (.struct [(0,9),(1,3)]) 2 24 [jj,.int .i64 0],none,none,none,none,none,none,none,none,none,ti (.slice 4) 1 24 [.slice none 0 0]],
 [none,none,none,none,ti (.ptr 191) 1 8 [.pointer none],ti (.map 9 3) 1 8 [.map none],ti (.map 9 56) 1 8 [.map none],none,ti (.struct [(0,185),(1,186)]) 2 16 [.map none,.map none],ti (.map 9 159) 1 8 [.map none],none,ti (.struct [(0,188),(2,189),(3,56),(4,3),(5,3)]) 6 64 [.map none,.map none,.map none,.slice none 0 0,.int .i64 0,.int .i64 0],none,none,none,none,ti (.struct [(0,23),(1,23),(2,25)]) 3 72 [.slice none 0 0,.slice none 0 0,.slice none 0 0],none,none,none],
 [ti (.func) 1 8 [.nilFunc],none,none,none,none,ti (.ptr 207) 1 8 [.pointer none],none,ti (.struct [(0,25),(1,3)]) 2 32 [.slice none 0 0,.int .i64 0],none,none,none,none,ti (.map 9 4) 1 8 [.map none],ti (.func) 1 8 [.nilFunc],none,ti (.slice 123) 1 24 [.slice none 0 0],none,ti (.struct [(0,9),(1,9),(2,9),(3,122),(4,215),(5,26),(6,26)]) 7 144 [jj,jj,jj,.slice none 0 0,.slice none 0 0,.slice none 0 0,.slice none 0 0],none,ti (.func) 1 8 [.nilFunc]],
 [none,none,none,none,none,none,ti (.slice 60) 1 24 [.slice none 0 0],none,ti (.struct [(0,9),(1,9),(2,9),(3,59),(4,226),(5,35),(6,35)]) 7 144 [jj,jj,jj,.slice none 0 0,.slice none 0 0,.slice none 0 0,.slice none 0 0],none,none,none,none,none,ti (.ptr 238) 1 8 [.pointer none],none,none,none,ti (.struct [(0,23),(1,56),(2,33),(3,74),(4,34),(5,56),(6,3),(7,3),(8,9)]) 9 176 [.slice none 0 0,.slice none 0 0,.slice none 0 0,.slice none 0 0,.slice none 0 0,.slice none 0 0,.int .i64 0,.int .i64 0,jj],ti (.ptr 58) 1 8 [.pointer none]],
 [none,none,none,none,ti (.ptr 246) 1 8 [.pointer none],none,ti (.struct [(0,69),(5,4)]) 6 112 [.slice none 0 0,.slice none 0 0,.int .i64 0,.slice none 0 0,.slice none 0 0,.bool false],none,none,none,none,none,none,none,none,none,ti (.struct [(0,9),(1,3)]) 2 24 [jj,.int .i64 0],none,none,ti (.ptr 128) 1 8 [.pointer none]],
 [none,ti (.struct [(0,3),(1,30)]) 2 24 [.int .i64 0,.nilIface],ti (.slice 30) 1 24 [.slice none 0 0],none,none,none,none,none,none,ti (.ptr 5) 1 8 [.pointer none],none,none,none,ti (.string) 1 16 [jj],none,ti (.slice 23) 1 24 [.slice none 0 0],none,none,none,ti (.func) 1 8 [.nilFunc]],
 [none,none,ti (.struct [(0,157),(4,9),(5,157)]) 9 144 [jj,.int .i64 0,jj,.slice none 0 0,jj,jj,.int .i64 0,jj,.slice none 0 0],none,none,none,ti (.int .u64) 1 8 [.int .u64 0],none,ti (.struct [(0,143),(4,9),(5,143)]) 9 144 [jj,.int .i64 0,jj,.slice none 0 0,jj,jj,.int .i64 0,jj,.slice none 0 0],none,none,none,none,none,none,none,none,none,none,none],
 [none,none,none,none,none,none,none,ti (.int .u64) 1 8 [.int .u64 0],none,ti (.struct [(0,17),(1,306),(2,307)]) 3 24 [.pointer none,.pointer none,.int .u64 0],none,none,ti (.iface) 1 16 [.nilIface],none,ti (.int .u8) 1 1 [.int .u8 0],none,none,none,none,none],
 [none,none,none,none,none,none,none,none,none,none,none,none,none,none,none,none,ti (.int .i64) 1 8 [.int .i64 0],none,none,none],
 [none,none,none,ti (.int .u32) 1 4 [.int .u32 0],none,ti (.int .u64) 1 8 [.int .u64 0],none,none,none,none,none,none,none,none,none,none,none,none,none,none],
 [none,none,none,none,none,none,none,none,none,none,none,none,none,none,none,none,none,none,none,none],
 [ti (.int .u64) 1 8 [.int .u64 0],none,none,none,ti (.ptr 3) 1 8 [.pointer none],none,ti (.map 9 9) 1 8 [.map none],none,ti (.int .i64) 1 8 [.int .i64 0],none,none,ti (.ptr 406) 1 8 [.pointer none],none,none,none,none,none,none,none,none],
 [none,none,ti (.slice 401) 1 24 [.slice none 0 0],none,none,none,ti (.struct [(0,9),(1,9),(2,30)]) 3 48 [jj,jj,.nilIface],none,none,ti (.ptr 411) 1 8 [.pointer none],none,ti (.struct [(0,9)]) 1 16 [jj],none,none,none,none,none,none,none,none],
 [none,none,none,none,none,none,none,none,none,none,none,none,none,none,none,none,none,none,none,none]]
noncomputable abbrev TT:Tab:=Rk Ng
theorem b8:bH Go.Proofs.Tryz.prog TT:=Nf (u:=Kr) (by kernel_rfl)
theorem oM{P Q:Prop}(q:Q)(p:P:=by first|omega|(simp only [zA] at *;omega)):P/\Q:=⟨p,q⟩
theorem oN{P Q:Prop}(q:Q)(p:P:=by omega):P/\Q:=⟨p,q⟩
theorem Uv{D:List Deferred}{G:Glob}{N B:Nat}{X:St}{be:Array Oper}{id:Nat}{Q:AExit->St->Prop}(h:∀(pan:PV->St->Prop) (K:St->Prop),(∀p X,Q (.pan p) X->pan p X)->(∀X,Q .normal X->K X)->ka Go.Proofs.Tryz.prog TT G N be pan (List.range be.size) K X):dJ D Go.Proofs.Tryz.prog G N B (.region id be false) Q X:=zF b8 h
theorem XO{D:List Deferred}{G:Glob}{N B:Nat}{X:St}{be:Array Oper}{id:Nat}{y:Code}{Q:AExit->St->Prop}(h:∀(pan:PV->St->Prop) (K:St->Prop),(∀p X,zD (dJ D Go.Proofs.Tryz.prog G N B y Q) Q (.pan p) X->pan p X)->(∀X,zD (dJ D Go.Proofs.Tryz.prog G N B y Q) Q .normal X->K X)->ka Go.Proofs.Tryz.prog TT G N be pan (List.range be.size) K X):dJ D Go.Proofs.Tryz.prog G N B (.seq (.region id be false) y) Q X:=aa (Uv h)
theorem aN{D:List Deferred}{G:Glob}{N B:Nat}{X:St}{c:Code}{Q:AExit->St->Prop}(slots:List Nat){env':List (Nat×PV)}{rows':List Row}(h1:fT X.env slots=some env')(h2:cm X.rows=some rows')(h:dJ D Go.Proofs.Tryz.prog G N B c Q ⟨env',rows'⟩):dJ D Go.Proofs.Tryz.prog G N B c Q X:=aq slots h1 h2 h
theorem aR{P:Program}{G:Glob}{X:St}(L:List Nat){f:FuncId}{ps args':List PV}{rowsL cB rows1 rows2:List Row}{p p':PV}{env':List (Nat×PV)}{k:PV->St->List Nat->Prop}{pan:PV->St->Prop}(hL:cl L=true)(sG:PV.subs (gc L X.rows) ps=some args')(bw:bs (gc L X.rows) X.rows L=some rowsL)(hs:Spec P G f args' rowsL (.ret p) cB)(lm:ce (gS L X.rows.length) cB=some rows2)(iX:eJ (fc L X.rows) X.env=some env')(hk:ce (fc L X.rows) X.rows=some rows1)(hp:PV.sub (gS L X.rows.length) p=some p')(h:k p' ⟨env',fG L rows1 rows2⟩ L):c8 P G X f ps k pan:=xu hL sG bw hs lm iX hk hp h
theorem aP{P:Program}{G:Glob}{X:St}(L:List Nat){f:FuncId}{ps args':List PV}{rowsL cB rows1 rows2:List Row}{p p':PV}{env':List (Nat×PV)}{k:PV->St->List Nat->Prop}{pan:PV->St->Prop}(hL:cl L=true)(sG:PV.subs (gc L X.rows) ps=some args')(bw:bs (gc L X.rows) X.rows L=some rowsL)(hs:Spec P G f args' rowsL (.pan p) cB)(lm:ce (gS L X.rows.length) cB=some rows2)(iX:eJ (fc L X.rows) X.env=some env')(hk:ce (fc L X.rows) X.rows=some rows1)(hp:PV.sub (gS L X.rows.length) p=some p')(h:pan p' ⟨env',fG L rows1 rows2⟩):c8 P G X f ps k pan:=xv hL sG bw hs lm iX hk hp h
theorem rz {D:List Deferred}{G:Glob}{N B:Nat}{X X':St}{be:Array Oper}{id:Nat}{y:Code}{Q:AExit->St->Prop}(slots:List Nat) {env':List (Nat×PV)}{rows':List Row}(h:dJ D Go.Proofs.Tryz.prog G N B y Q ⟨env',rows'⟩)
 (h0:∀(pan:PV->St->Prop) (K:St->Prop),ka Go.Proofs.Tryz.prog TT G N be pan (List.range be.size) K X=K X':=by exact fun _ _=>rfl) (h1:fT X'.env slots=some env':=by rfl) (h2:cm X'.rows=some rows':=by rfl):dJ D Go.Proofs.Tryz.prog G N B (.seq (.region id be false) y) Q X:=
 XO fun pan K _ hK=>by rw [h0];exact hK _ (aq slots h1 h2 h)
theorem aM{D:List Deferred}{G:Glob}{N B:Nat}{X:St}{c:Code}{Q:AExit->St->Prop}(slots:List Nat){env':List (Nat×PV)}{rows':List Row}(h:dJ D Go.Proofs.Tryz.prog G N B c Q ⟨env',rows'⟩)(h1:fT X.env slots=some env':=by rfl)(h2:cm X.rows=some rows':=by rfl):dJ D Go.Proofs.Tryz.prog G N B c Q X:=aq slots h1 h2 h
theorem rG{D:List Deferred}{G:Glob}{N B:Nat}{X:St}{be:Array Oper}{id:Nat}{Q:AExit->St->Prop}(h:∀{pan:PV->St->Prop}{K:St->Prop},(∀p X,Q (.pan p) X->pan p X)->(∀X,Q .normal X->K X)->ka Go.Proofs.Tryz.prog TT G N be pan (List.range be.size) K X):dJ D Go.Proofs.Tryz.prog G N B (.region id be false) Q X:=Uv fun _ _ a b=>h a b
theorem rS{D:List Deferred}{G:Glob}{N B:Nat}{X:St}{be:Array Oper}{id:Nat}{y:Code}{Q:AExit->St->Prop}(h:∀{pan:PV->St->Prop}{K:St->Prop},(∀p X,zD (dJ D Go.Proofs.Tryz.prog G N B y Q) Q (.pan p) X->pan p X)->(∀X,zD (dJ D Go.Proofs.Tryz.prog G N B y Q) Q .normal X->K X)->ka Go.Proofs.Tryz.prog TT G N be pan (List.range be.size) K X):dJ D Go.Proofs.Tryz.prog G N B (.seq (.region id be false) y) Q X:=XO fun _ _ a b=>h a b
theorem sH{P:Program}{G:Glob}{X:St}{f:FuncId}{ps:List PV}{k:PV->St->List Nat->Prop}{pan:PV->St->Prop}(h:c8 P G X f ps k pan):c8 P G X f ps k pan:=h
theorem pS{P:Program}{G:Glob}{X:St}(L:List Nat){f:FuncId}{ps args':List PV}{rowsL cB rows1 rows2:List Row}{p p':PV}{env':List (Nat×PV)}{k:PV->St->List Nat->Prop}{pan:PV->St->Prop}(hs:Spec P G f args' rowsL (.pan p) cB)(h:pan p' ⟨env',fG L rows1 rows2⟩)(hL:cl L=true:=by rfl)(sG:PV.subs (gc L X.rows) ps=some args':=by rfl)(bw:bs (gc L X.rows) X.rows L=some rowsL:=by rfl)(lm:ce (gS L X.rows.length) cB=some rows2:=by rfl)(iX:eJ (fc L X.rows) X.env=some env':=by rfl)(hk:ce (fc L X.rows) X.rows=some rows1:=by rfl)(hp:PV.sub (gS L X.rows.length) p=some p':=by rfl):c8 P G X f ps k pan:=xv hL sG bw hs lm iX hk hp h
theorem aS{P:Program}{G:Glob}{X:St}(L:List Nat){f:FuncId}{ps args':List PV}{rowsL cB rows1 rows2:List Row}{p p':PV}{env':List (Nat×PV)}{k:PV->St->List Nat->Prop}{pan:PV->St->Prop}(hs:Spec P G f args' rowsL (.ret p) cB)(h:k p' ⟨env',fG L rows1 rows2⟩ L)(hL:cl L=true:=by rfl)(sG:PV.subs (gc L X.rows) ps=some args':=by rfl)(bw:bs (gc L X.rows) X.rows L=some rowsL:=by rfl)(lm:ce (gS L X.rows.length) cB=some rows2:=by rfl)(iX:eJ (fc L X.rows) X.env=some env':=by rfl)(hk:ce (fc L X.rows) X.rows=some rows1:=by rfl)(hp:PV.sub (gS L X.rows.length) p=some p':=by rfl):c8 P G X f ps k pan:=xu hL sG bw hs lm iX hk hp h
theorem bz:(∀b,(true||b)=true)/\(∀b,(false||b)=b)/\(∀b,(b||true)=true)/\(∀b,(b||false)=b)/\((!true)=false)/\((!false)=true)/\(∀b,(true&&b)=b)/\(∀b,(false&&b)=false)/\(∀b,(b&&false)=false)/\(∀b,(b&&true)=b)/\(∀b,(b||b)=b)/\(∀b,(b&&b)=b):=⟨Bool.true_or,Bool.false_or,Bool.or_true,Bool.or_false,Bool.not_true,Bool.not_false,Bool.true_and,Bool.false_and,Bool.and_false,Bool.and_true,Bool.or_self,Bool.and_self⟩
theorem bn:(∀b,(true||b)=true)/\(∀b,(false||b)=b)/\(∀b,(b||true)=true)/\(∀b,(b||false)=b)/\((!true)=false)/\((!false)=true)/\(∀b,(true&&b)=b)/\(∀b,(false&&b)=false)/\(∀b,(b&&false)=false)/\(∀b,(b&&true)=b)/\(∀b,(!!b)=b):=⟨Bool.true_or,Bool.false_or,Bool.or_true,Bool.or_false,Bool.not_true,Bool.not_false,Bool.true_and,Bool.false_and,Bool.and_false,Bool.and_true,Bool.not_not⟩
end Go.Abs
end
section
namespace Go.Abs.PrintLast
open Go
section

section
variable {P:Program}{be:Array Oper}{Q:Exit->Act->World->Prop}{md:Region.Mode}{S:World->Prop}{ds:List Nat}

def Region.reachB(md:Region.Mode)(be:Array Oper)(i:Nat):Nat->Nat->Bool
 |0,_=>false
 |fuel+1,d=>match be[d]? with
  |some o=>o.after.any fun e=>Region.binds md e&&(e.on==i||Region.reachB md be i fuel e.on)
  |none=>false

def Region.closedB(md:Region.Mode)(be:Array Oper)(listed:Array Bool):Bool:=
 (List.range be.size).all fun j=>!listed.getD j false||match be[j]? with
  |some o=>o.after.all fun e=>!Region.binds md e||listed.getD e.on false
  |none=>true

def Region.lastB(md:Region.Mode)(be:Array Oper)(listed:Array Bool)(ds:List Nat)(i:Nat):Bool:=
 ds.all fun d=>listed.getD d true||Region.reachB md be i be.size d

def ListedClosed(md:Region.Mode)(be:Array Oper)(listed:Array Bool):Prop:=
 ∀j oj,be[j]? = some oj->listed.getD j false=true->∀e∈oj.after,Region.binds md e=true->listed.getD e.on false=true

theorem Region.closedB_spec{listed:Array Bool}(h:Region.closedB md be listed=true):ListedClosed md be listed:=by
 intro j oj hj hl e he hb
 have hlt:j<be.size:=(Array.getElem?_eq_some_iff.1 hj).1
 have h1:=List.all_eq_true.1 h j (List.mem_range.2 hlt)
 simp only [hl,hj,Bool.not_true,Bool.false_or] at h1
 have h2:=Array.all_eq_true_iff_forall_mem.1 h1 e he
 simpa [hb] using h2

theorem ListedClosed.set{listed:Array Bool}{i:Nat}(h:ListedClosed md be listed)(hi:i∈Region.ready md be listed):ListedClosed md be (listed.setIfInBounds i true):=by
 obtain ⟨_,oi,Zo,yP⟩:=mem_ready.1 hi
 intro j oj hj hl e he hb
 by_cases qP:i=j
 ·subst qP
  have:oj=oi:=Option.some.inj (hj.symm.trans Zo)
  subst this
  exact getD_set_true (yP e he hb)
 rw [getD_set_ne false qP] at hl
 exact getD_set_true (h j oj hj hl e he hb)

theorem Region.reach_listed{listed:Array Bool}{i:Nat}(hc:ListedClosed md be listed):∀(fuel d:Nat),Region.reachB md be i fuel d=true->listed.getD d false=true->listed.getD i false=true
 |0,_,h,_=>by simp [Region.reachB] at h
 |fuel+1,d,h,hl=>by
  unfold Region.reachB at h
  cases ho:be[d]? with
  |none=>rw [ho] at h;simp at h
  |some o=>
   rw [ho] at h
   obtain ⟨e,he,h1⟩:=Array.any_eq_true'.1 h
   simp only [bE,Bool.or_eq_true,beq_iff_eq] at h1
   have Hu:=hc d o ho hl e he h1.1
   rcases h1.2 with h2|h2
   ·rw [<- h2];exact Hu
   exact Region.reach_listed hc fuel e.on h2 Hu

theorem Region.reach_not_ready{listed:Array Bool}{i d fuel:Nat}(hc:ListedClosed md be listed)(hr:Region.reachB md be i fuel d=true)(FT:listed.getD i true=false):d∉Region.ready md be listed:=by
 intro hd
 obtain ⟨_,o,ho,yP⟩:=mem_ready.1 hd
 have hi:listed.getD i false=true:=by
  cases fuel with
  |zero=>simp [Region.reachB] at hr
  |succ n=>
   unfold Region.reachB at hr
   rw [ho] at hr
   obtain ⟨e,he,h1⟩:=Array.any_eq_true'.1 hr
   simp only [bE,Bool.or_eq_true,beq_iff_eq] at h1
   have Hu:=yP e he h1.1
   rcases h1.2 with h2|h2
   ·rw [<- h2];exact Hu
   exact Region.reach_listed hc n e.on h2 Hu
 rcases Nat.lt_or_ge i listed.size with h'|h'
 ·simp [h'] at FT hi
  rw [FT] at hi
  cases hi
 simp [Array.getElem?_eq_none h'] at FT

def wpAnyLast(P:Program)(md:Region.Mode)(be:Array Oper)(Q:Exit->Act->World->Prop)(S:World->Prop)(ds:List Nat):Nat->Array Bool->Act->World->Prop
 |0,listed,a,w=>Region.ready md be listed=[]/\Q .normal a w
 |fuel+1,listed,a,w=>
  (Region.ready md be listed=[]->Q .normal a w)/\
  ∀i∈Region.ready md be listed,wpOp P be Q i (fun a' w'=>(i∉ds->S w->S w')/\wpAnyLast P md be Q S ds fuel (listed.setIfInBounds i true) a' w') a w

theorem oo:∀(fuel:Nat) (listed:Array Bool) (a:Act) (w:World),wpAnyLast P md be Q S ds fuel listed a w->wpAny P md be Q fuel listed a w
 |0,_,_,_,h=>h
 |fuel+1,_,_,_,h=>⟨h.1,fun i hi=>wpOp_mono (fun a' w' h'=>oo fuel _ a' w' h'.2) (h.2 i hi)⟩

theorem sT {i:Nat}{oi:Oper}{v:Value}(hi:be[i]? = some oi) (Ks:∀(j:Nat) (o:Oper) cs b,be[j]? = some o->o.op≠.select cs b)
  (hQ:∀c a w,Q (.panic c) (a.put oi.dst v) w->Q (.panic c) a w) (n:Nat) :
  ∀(fuel:Nat) (listed:Array Bool) (a:Act) (w:World),
   (∀j oj,be[j]? = some oj->j≠i->listed.getD j true=false->(∀e∈oj.after,Region.binds md e=true->e.on≠i)->oi.apart be oj=true)->
   ListedClosed md be listed->(∀d∈ds,listed.getD d true=false->Region.reachB md be i n d=true)->
   i∈Region.ready md be listed->YieldsIf P be S oi v a->S w->
   wpAnyLast P md be Q S ds fuel (listed.setIfInBounds i true) (a.put oi.dst v) w->wpAnyLast P md be Q S ds (fuel+1) listed a w:=by
 intro fuel
 induction fuel with
 |zero=>
  intro listed a w _ _ _ hr hy hS H
  refine ⟨fun h=>(by rw [h] at hr;cases hr),fun j hj=>?_⟩
  by_cases Ck:j=i
  ·subst Ck;exact hy.wpOp hi hS ⟨fun _ h=>h,H⟩
  have:=ready_mono hj Ck
  rw [H.1] at this
  cases this
 |succ fuel ih=>
  intro listed a w Cl hc hd hr hy hS H
  refine ⟨fun h=>(by rw [h] at hr;cases hr),fun j hj=>?_⟩
  by_cases Ck:j=i
  ·subst Ck;exact hy.wpOp hi hS ⟨fun _ h=>h,H⟩
  have h1:=H.2 j (ready_mono hj Ck)
  obtain ⟨D9,oj,Rm,yP⟩:=mem_ready.1 hj
  have He:=(mem_ready.1 hr).1
  have Rn:∀e∈oj.after,Region.binds md e=true->e.on≠i:=fun e he hb heq=>by
   have h1:=yP e he hb
   rw [heq] at h1
   rcases Nat.lt_or_ge i listed.size with h'|h'
   ·simp [h'] at He h1;rw [He] at h1;cases h1
   simp [Array.getElem?_eq_none h'] at h1
  have Zp:j∉ds:=fun hm=>Region.reach_not_ready hc (hd j hm D9) He hj
  have h2:=wpOp_putIf Rm (Cl j oj Rm Ck D9 Rn) (fun cs b=>Ks i oi cs b hi) (fun cs b=>Ks j oj cs b Rm) hQ hy h1
  have D_:∀k ok,be[k]? = some ok->k≠i->(listed.setIfInBounds j true).getD k true=false->
    (∀e∈ok.after,Region.binds md e=true->e.on≠i)->oi.apart be ok=true:=fun k ok hk Wp FT Wq=>by
   refine Cl k ok hk Wp ?_ Wq
   by_cases OF:j=k
   ·subst OF;exact D9
   rw [getD_set_ne true OF] at FT;exact FT
  have jo:∀d∈ds,(listed.setIfInBounds j true).getD d true=false->Region.reachB md be i n d=true:=fun d hm FT=>by
   refine hd d hm ?_
   by_cases OF:j=d
   ·subst OF;exact D9
   rw [getD_set_ne true OF] at FT;exact FT
  refine wpOp_mono (fun a' w' h3=>⟨h3.2.1,ih (listed.setIfInBounds j true) a' w' D_ (hc.set hj) jo (ready_mono hr (Ne.symm Ck)) h3.1 (h3.2.1 Zp hS) ?_⟩) h2
  rw [Array.setIfInBounds_comm _ _ Ck]
  exact h3.2.2

theorem wpAnyLast_any {i:Nat}{oi:Oper}{v:Value}(hi:be[i]? = some oi) (Ks:∀(j:Nat) (o:Oper) cs b,be[j]? = some o->o.op≠.select cs b)
  (hQ:∀c a w,Q (.panic c) (a.put oi.dst v) w->Q (.panic c) a w) :
  ∀(fuel:Nat) (listed:Array Bool) (a:Act) (w:World),
   (∀j oj,be[j]? = some oj->j≠i->listed.getD j true=false->(∀e∈oj.after,Region.binds md e=true->e.on≠i)->oi.apart be oj=true)->
   i∈Region.ready md be listed->Yields P be oi v a->
   wpAnyLast P md be Q S ds fuel (listed.setIfInBounds i true) (a.put oi.dst v) w->wpAnyLast P md be Q S ds (fuel+1) listed a w:=by
 intro fuel
 induction fuel with
 |zero=>
  intro listed a w _ hr hy H
  refine ⟨fun h=>(by rw [h] at hr;cases hr),fun j hj=>?_⟩
  by_cases Ck:j=i
  ·subst Ck;exact (hy.yieldsIf (S:=fun _=>True)).wpOp hi trivial ⟨fun _ h=>h,H⟩
  have:=ready_mono hj Ck
  rw [H.1] at this
  cases this
 |succ fuel ih=>
  intro listed a w Cl hr hy H
  refine ⟨fun h=>(by rw [h] at hr;cases hr),fun j hj=>?_⟩
  by_cases Ck:j=i
  ·subst Ck;exact (hy.yieldsIf (S:=fun _=>True)).wpOp hi trivial ⟨fun _ h=>h,H⟩
  have h1:=H.2 j (ready_mono hj Ck)
  obtain ⟨D9,oj,Rm,yP⟩:=mem_ready.1 hj
  have He:=(mem_ready.1 hr).1
  have Rn:∀e∈oj.after,Region.binds md e=true->e.on≠i:=fun e he hb heq=>by
   have h1:=yP e he hb
   rw [heq] at h1
   rcases Nat.lt_or_ge i listed.size with h'|h'
   ·simp [h'] at He h1;rw [He] at h1;cases h1
   simp [Array.getElem?_eq_none h'] at h1
  have h2:=wpOp_put Rm (Cl j oj Rm Ck D9 Rn) (fun cs b=>Ks i oi cs b hi) (fun cs b=>Ks j oj cs b Rm) hQ hy h1
  have D_:∀k ok,be[k]? = some ok->k≠i->(listed.setIfInBounds j true).getD k true=false->
    (∀e∈ok.after,Region.binds md e=true->e.on≠i)->oi.apart be ok=true:=fun k ok hk Wp FT Wq=>by
   refine Cl k ok hk Wp ?_ Wq
   by_cases OF:j=k
   ·subst OF;exact D9
   rw [getD_set_ne true OF] at FT;exact FT
  refine wpOp_mono (fun a' w' h3=>⟨h3.2.1,ih (listed.setIfInBounds j true) a' w' D_ (ready_mono hr (Ne.symm Ck)) h3.1 ?_⟩) h2
  rw [Array.setIfInBounds_comm _ _ Ck]
  exact h3.2.2

theorem wpAnyLast_take {i:Nat}{oi:Oper}{v:Value}{fuel:Nat}{listed:Array Bool}{a:Act}{w:World}(hi:be[i]? = some oi)
  (hs:Region.noSelect be=true) (hf:Region.free md be listed i=true) (hr:(Region.ready md be listed).contains i=true)
  (hc:Region.closedB md be listed=true) (hl:Region.lastB md be listed ds i=true)
  (hQ:∀c a w,Q (.panic c) (a.put oi.dst v) w->Q (.panic c) a w) (hy:YieldsIf P be S oi v a) (hS:S w)
  (h:wpAnyLast P md be Q S ds fuel (listed.setIfInBounds i true) (a.put oi.dst v) w):wpAnyLast P md be Q S ds (fuel+1) listed a w:=
 sT hi (Region.noSelect_spec hs) hQ be.size fuel listed a w (Region.free_spec hi hf) (Region.closedB_spec hc)
  (fun d hm FT=>by have:=List.all_eq_true.1 hl d hm;rw [FT] at this;simpa using this) (by simpa using hr) hy hS h

theorem wpAnyLast_all {rs:List Nat}{fuel:Nat}{listed:Array Bool}{a:Act}{w:World}(hr:Region.ready md be listed=rs) (aO:rs≠[])
  (h:∀i∈rs,wpOp P be Q i (fun a' w'=>(i∉ds->S w->S w')/\wpAnyLast P md be Q S ds fuel (listed.setIfInBounds i true) a' w') a w):wpAnyLast P md be Q S ds (fuel+1) listed a w:=
 ⟨fun h0=>absurd (hr▸h0) aO,hr▸h⟩

theorem wpAnyLast_done{listed:Array Bool}{a:Act}{w:World}(hr:Region.ready md be listed=[])(h:Q .normal a w):
  ∀fuel,wpAnyLast P md be Q S ds fuel listed a w
 |0=>⟨hr,h⟩
 |_+1=>⟨fun _=>h,by rw [hr];simp⟩

theorem wp_region_last {id:Nat}{a:Act}{w:World}(hm:P.follows .mixedOrders=true)
  (h:wpAnyLast P .any be Q S ds be.size (Array.replicate be.size false) a { w with drawn:=w.drawn+1 }):(Code.region id be true).wp P Q a w:=
 wp_region_any hm (oo _ _ _ _ h)

end
end
end Go.Abs.PrintLast
end
section
namespace Go.Abs
open Go Go.Abs.PrintLast
section

inductive Plan where
 |done
 |take (i:Nat) (r:Plan)
 |load (i:Nat) (r:Plan)
 |one (i:Nat) (r:Plan)
 |alt (i:Nat) (p o:Plan)

def Plan.depth:Plan->Nat
 |.done=>0
 |.take _ r=>r.depth+1
 |.load _ r=>r.depth+1
 |.one _ r=>r.depth+1
 |.alt _ p o=>Nat.max (p.depth+1) o.depth
def Plan.heads:Plan->List Nat
 |.alt i _ o=>i::o.heads
 |_=>[]
def rV(be:Array Oper)(listed:Array Bool)(i:Nat):Bool:=(Region.ready .any be listed).contains i&&Region.free .any be listed i
def eo(be:Array Oper)(ds:List Nat):Bool->Array Bool->Bool->Plan->Bool
 |false,listed,_,.done=>Region.ready .any be listed==[]
 |true,_,_,.done=>true
 |false,listed,dN,.take i r=>rV be listed i&&eo be ds false (listed.setIfInBounds i true) dN r
 |false,listed,dN,.load i r=>dN&&rV be listed i&&PrintLast.Region.closedB .any be listed&&PrintLast.Region.lastB .any be listed ds i&&eo be ds false (listed.setIfInBounds i true) dN r
 |false,listed,_,.one i r=>(Region.ready .any be listed==[i])&&eo be ds false (listed.setIfInBounds i true) false r
 |false,listed,_,.alt i p o=>(Region.ready .any be listed==i::o.heads)&&eo be ds false (listed.setIfInBounds i true) false p&&eo be ds true listed false o
 |true,listed,_,.alt i p o=>eo be ds false (listed.setIfInBounds i true) false p&&eo be ds true listed false o
 |true,_,_,_=>false

def vg(KB:Nat->Bool):List Nat->Bool
 |[]=>true
 |x::r=>match KB x with
  |true=>false
  |false=>vg KB r
def Kt(KB:Nat->Bool)(ds:List Nat)(i:Nat)(F:List Nat):Bool:=match ds.contains i with
 |true=>true
 |false=>vg KB F

def qv(T:Tab)(G:Glob)(N:Nat)(be:Array Oper)(K:Option (Nat->Bool))(i:Nat)(k:St->Prop)(X:St):Prop:=match Gf be.toList i with
 |some o=>match vd N o.dst with
  |true=>qt be o X (fun X1=>pop T G K X1 o.op fun p=>k (nM o.dst p X1)) (fun X1=>k (nM o.dst (.d (.s undef)) X1))
  |false=>False
 |none=>False
def qw(P:Program)(T:Tab)(G:Glob)(N:Nat)(be:Array Oper)(KB:Nat->Bool)(ds:List Nat)(pan:PV->St->Prop)(i:Nat)(k:St->Prop)(X:St):Prop:=match Gf be.toList i with
 |some o=>match vd N o.dst with
  |true=>qt be o X (fun X1=>UH P T G (some fun _=>true) X1 o.op (fun p X2 F=>match Kt KB ds i F with
    |true=>k (nM o.dst p X2)
    |false=>False) pan) (fun X1=>k (nM o.dst (.d (.s undef)) X1))
  |false=>False
 |none=>False
def fF(P:Program)(T:Tab)(G:Glob)(N:Nat)(be:Array Oper)(KB:Nat->Bool)(ds:List Nat)(pan:PV->St->Prop)(k:St->Prop):Bool->Plan->St->Prop
 |false,.done,X=>k X
 |true,.done,_=>True
 |_,.take i r,X=>qv T G N be none i (fF P T G N be KB ds pan k false r) X
 |_,.load i r,X=>qv T G N be (some KB) i (fF P T G N be KB ds pan k false r) X
 |_,.one i r,X=>qw P T G N be KB ds pan i (fF P T G N be KB ds pan k false r) X
 |_,.alt i p o,X=>qw P T G N be KB ds pan i (fF P T G N be KB ds pan k false p) X/\fF P T G N be KB ds pan k true o X

section
variable {P:Program}{T:Tab}{G:Glob}{D:List Deferred}{N B:Nat}{X X':St}{H H0 H00:Nat->Option Value}{lim lim0 ld:Nat->Nat}{a:Act}{w w0 HA:World}{be:Array Oper}{KB:Nat->Bool}{ds:List Nat}{Q:AExit->St->Prop}

theorem xx:∀ {F:List Nat},vg KB F=true->∀id,id∈F->KB id=false
 |[],_,_,h=>by cases h
 |x::r,h,id,hid=>by
  simp only [vg] at h
  split at h
  ·cases h
  rename_i hx
  rcases List.mem_cons.1 hid with rfl|hid
  ·exact hx
  exact xx h id hid

theorem Ku (bw:RowsOk H lim w X.rows) (qE:∀B',Lk B' H0 lim0 w0 H lim w) {F:List Nat}{H':Nat->Option Value}{lim':Nat->Nat}{w':World}(jK:Nx D (fun i=>i∈F) G N H lim w X' a H' lim' w') (hF:vg KB F=true)
  (hS:Agr (some KB) H0 lim0 w0 w):Agr (some KB) H0 lim0 w0 w':=by
 refine ⟨fun b o hb ho=>?_,fun id v b hid hH iF RV=>?_⟩
 ·have h1:=(qE 0).fr.keep b hb
  have h2:=jK.fr.keep b (Nat.lt_of_lt_of_le hb (qE 0).fr.size)
  exact (h2.2 o (Nat.lt_of_lt_of_le ho h1.1)).trans (hS.1 b o hb ho)
 have e:=hS.2 id v b hid hH iF RV
 have Ii:H id=some v:=((qE (id+1)).ptr id _ (nS id) iF hH).trans hH
 have hb:Ow H id b:=(bU Ii).2 RV
 have hlt:=(Cg (X:=X) bw hb).2
 refine ((jK.fr.same b hlt fun ⟨j,hj,UE⟩=>?_).1).trans e
 by_cases qP:j=id
 ·subst qP
  have:=xx hF j hj
  rw [hid] at this
  cases this
 exact bw.apart j id b qP UE hb

theorem pH{c:List PanicEntry}{d:Option Nat}{v:Value}(h:Post D G N B Q H lim w0 (.panic c) (a.put d v) w):Post D G N B Q H lim w0 (.panic c) a w:=by
 simp only [Post] at h ⊢
 obtain ⟨X',H',lim',v',p,h1,h2,h3,h4,h5,h6⟩:=h
 refine ⟨X',H',lim',v',p,h1,h2,h3,?_,h5,h6⟩
 cases d <;> exact h4

theorem kF(hT:bH P T)(hR:Rep D G N H lim X a w){K:Option (Nat->Bool)}{i:Nat}{k:St->Prop}(h:qv T G N be K i k X):
  ∃o v X',be[i]? = some o/\((Region.wanted o (yielded be a.tmps)=true/\∀w1,Agr K H lim w w1->(execOp a.eval o).run P w1=.ok (.value v) w1)\/(Region.wanted o (yielded be a.tmps)=false/\v=undef))/\Rep D G N H lim X' (a.put o.dst v) w/\k X':=by
 unfold qv at h
 split at h
 ·rename_i o ho
  rw [iL] at ho
  split at h
  ·rename_i hd
   rcases eU hR h with ⟨hw,X1,kE,_,h⟩|⟨hw,X1,kE,_,h⟩
   ·obtain ⟨p,⟨v,h1,h2⟩,h3⟩:=xj hT kE o _ h
    exact ⟨o,v,_,ho,.inl ⟨hw,h1⟩,e_ kE hd h2,h3⟩
   exact ⟨o,undef,_,ho,.inr ⟨hw,rfl⟩,e_ kE hd (mW _),h⟩
  exact h.elim
 exact h.elim

theorem qR (hT:bH P T) (hR:Rep D G N H lim X a w) (qE:∀B',Lk B' H0 lim0 w0 H lim w) (CC:Lk B H00 ld HA H0 lim0 w0) {i:Nat}{k:St->Prop}(h:qw P T G N be KB ds (fun p X=>Q (.pan p) X) i k X)
  {next:Act->World->Prop}(hk:∀X' H' lim' a' w',k X'->Rep D G N H' lim' X' a' w'->(∀B',Lk B' H0 lim0 w0 H' lim' w')->next a' w') :
  wpOp P be (Post D G N B Q H00 ld HA) i (fun a' w'=>(i∉ds->Agr (some KB) H0 lim0 w0 w->Agr (some KB) H0 lim0 w0 w')/\next a' w') a w:=by
 unfold qw at h
 split at h
 ·rename_i o ho
  rw [iL] at ho
  unfold wpOp
  rw [ho]
  split at h
  ·rename_i hd
   rcases eU hR h with ⟨hw,X1,kE,CF,h⟩|⟨hw,X1,kE,_,h⟩
   ·simp only [hw,if_true]
    refine .inl (kb hT kE h ?_ ?_)
    ·intro p X' F H' lim' w' v K2 jK hv
     split at K2
     ·rename_i hf
      refine ⟨fun hi hS=>?_,hk _ H' lim' _ w' K2 (e_ jK.rep hd hv) fun B'=>(qE B').trans jK.lk⟩
      unfold Kt at hf
      split at hf
      ·rename_i hc;exact absurd (by simpa using hc) hi
      exact Ku kE.rows qE jK hf hS
     exact K2.elim
    intro p X' H' lim' w' v hp Ij LH hv
    exact ⟨X',H',lim',v,p,rfl,Ij.rows,hv,Ij.defers,CC.trans ((qE B).trans (LH B)),hp⟩
   simp only [hw]
   exact ⟨fun _ hS=>hS,hk _ H lim _ w h (e_ kE hd (mW _)) qE⟩
  exact h.elim
 exact h.elim

theorem g_(hT:bH P T)(hs:Region.noSelect be=true)(CC:Lk B H00 ld HA H0 lim0 w0):∀(p:Plan) (fuel:Nat) (listed:Array Bool) (X:St) (H:Nat->Option Value) (lim:Nat->Nat) (a:Act) (w:World) (dN:Bool),
  p.depth<=fuel->Rep D G N H lim X a w->(∀B',Lk B' H0 lim0 w0 H lim w)->(dN=true->H=H0/\lim=lim0/\w=w0)->
  (eo be ds false listed dN p=true->fF P T G N be KB ds (fun p X=>Q (.pan p) X) (fun X=>Q .normal X) false p X->wpAnyLast P .any be (Post D G N B Q H00 ld HA) (Agr (some KB) H0 lim0 w0) ds fuel listed a w)/\
  (eo be ds true listed dN p=true->fF P T G N be KB ds (fun p X=>Q (.pan p) X) (fun X=>Q .normal X) true p X->1<=fuel->∀i∈p.heads,wpOp P be (Post D G N B Q H00 ld HA) i (fun a' w'=>(i∉ds->Agr (some KB) H0 lim0 w0 w->Agr (some KB) H0 lim0 w0 w')/\wpAnyLast P .any be (Post D G N B Q H00 ld HA) (Agr (some KB) H0 lim0 w0) ds (fuel - 1) (listed.setIfInBounds i true) a' w') a w)
 |.done,fuel,listed,X,H,lim,a,w,dN,hf,hR,qE,CS=>by
  refine ⟨fun ho h=>?_,fun _ _ _ i hi=>by cases hi⟩
  simp only [eo,beq_iff_eq] at ho
  exact wpAnyLast_done ho ⟨X,H,lim,hR,CC.trans (qE B),h⟩ fuel
 |.take i r,fuel,listed,X,H,lim,a,w,dN,hf,hR,qE,CS=>by
  refine ⟨fun ho h=>?_,fun ho=>by simp [eo] at ho⟩
  simp only [eo,rV,bE] at ho
  simp only [fF] at h
  obtain ⟨o,v,X',h1,h2,h3,h4⟩:=kF hT hR h
  simp only [Plan.depth] at hf
  obtain ⟨n,rfl⟩:∃n,fuel=n+1:=⟨fuel - 1,by omega⟩
  have ye:=(g_ hT hs CC r n (listed.setIfInBounds i true) X' H lim _ w dN (by omega) h3 qE CS).1 ho.2 h4
  exact wpAnyLast_any h1 (Region.noSelect_spec hs) (fun c a w q=>pH q) n listed a w (Region.free_spec h1 ho.1.2) (by simpa using ho.1.1) (h2.imp (fun ⟨q1,q2⟩=>⟨q1,fun w1=>q2 w1 trivial⟩) id) ye
 |.load i r,fuel,listed,X,H,lim,a,w,dN,hf,hR,qE,CS=>by
  refine ⟨fun ho h=>?_,fun ho=>by simp [eo] at ho⟩
  simp only [eo,rV,bE] at ho
  simp only [fF] at h
  obtain ⟨⟨⟨⟨o1,o2,o3⟩,o4⟩,o5⟩,o6⟩:=ho
  obtain ⟨e1,e2,e3⟩:=CS o1
  obtain ⟨o,v,X',h1,h2,h3,h4⟩:=kF hT hR h
  simp only [Plan.depth] at hf
  obtain ⟨n,rfl⟩:∃n,fuel=n+1:=⟨fuel - 1,by omega⟩
  have ye:=(g_ hT hs CC r n (listed.setIfInBounds i true) X' H lim _ w dN (by omega) h3 qE CS).1 o6 h4
  exact wpAnyLast_take h1 hs o3 o2 o4 o5 (fun c a w q=>pH q) (by rw [<- e1,<- e2,<- e3];exact h2) (by rw [<- e1,<- e2,<- e3];exact Agr.refl _ _ _ _) ye
 |.one i r,fuel,listed,X,H,lim,a,w,dN,hf,hR,qE,CS=>by
  refine ⟨fun ho h=>?_,fun ho=>by simp [eo] at ho⟩
  simp only [eo,bE,beq_iff_eq] at ho
  simp only [fF] at h
  simp only [Plan.depth] at hf
  obtain ⟨n,rfl⟩:∃n,fuel=n+1:=⟨fuel - 1,by omega⟩
  refine wpAnyLast_all ho.1 (by simp) fun j hj=>?_
  rw [List.mem_singleton.1 hj]
  exact qR hT hR qE CC h fun X' H' lim' a' w' q1 q2 q3=>(g_ hT hs CC r n (listed.setIfInBounds i true) X' H' lim' a' w' false (by omega) q2 q3 (fun e=>by cases e)).1 ho.2 q1
 |.alt i p o,fuel,listed,X,H,lim,a,w,dN,hf,hR,qE,CS=>by
  have Ws:p.depth+1<=fuel/\o.depth<=fuel:=by
   simp only [Plan.depth] at hf
   exact ⟨Nat.le_trans (Nat.le_max_left ..) hf,Nat.le_trans (Nat.le_max_right ..) hf⟩
  obtain ⟨n,rfl⟩:∃n,fuel=n+1:=⟨fuel - 1,by omega⟩
  have key:eo be ds false (listed.setIfInBounds i true) false p=true->eo be ds true listed false o=true->(qw P T G N be KB ds (fun p X=>Q (.pan p) X) i (fF P T G N be KB ds (fun p X=>Q (.pan p) X) (fun X=>Q .normal X) false p) X/\fF P T G N be KB ds (fun p X=>Q (.pan p) X) (fun X=>Q .normal X) true o X)->
    ∀j∈i::o.heads,wpOp P be (Post D G N B Q H00 ld HA) j (fun a' w'=>(j∉ds->Agr (some KB) H0 lim0 w0 w->Agr (some KB) H0 lim0 w0 w')/\wpAnyLast P .any be (Post D G N B Q H00 ld HA) (Agr (some KB) H0 lim0 w0) ds n (listed.setIfInBounds j true) a' w') a w:=by
   intro k1 k2 ⟨h1,h2⟩ j hj
   rcases List.mem_cons.1 hj with rfl|hj
   ·exact qR hT hR qE CC h1 fun X' H' lim' a' w' q1 q2 q3=>(g_ hT hs CC p n (listed.setIfInBounds j true) X' H' lim' a' w' false (by omega) q2 q3 (fun e=>by cases e)).1 k1 q1
   exact (g_ hT hs CC o (n+1) listed X H lim a w false Ws.2 hR qE (fun e=>by cases e)).2 k2 h2 (by omega) j hj
  refine ⟨fun ho h=>?_,fun ho h _=>?_⟩
  ·simp only [eo,bE,beq_iff_eq] at ho
   simp only [fF] at h
   exact wpAnyLast_all ho.1.1 (by simp) (key ho.1.2 ho.2 h)
  simp only [eo,bE] at ho
  simp only [fF] at h
  exact key ho.1 ho.2 h

def zH(be:Array Oper)(ds:List Nat)(p:Plan):Bool:=Region.noSelect be&&eo be ds false (Array.replicate be.size false) true p&&Nat.ble p.depth be.size

theorem Kv (hT:bH P T) (hm:P.follows .mixedOrders=true) {id:Nat}(p:Plan) (ds:List Nat) (KB:Nat->Bool) (hp:zH be ds p=true)
  (h:∀(pan:PV->St->Prop) (K:St->Prop),(∀p X,Q (.pan p) X->pan p X)->(∀X,Q .normal X->K X)->fF P T G N be KB ds pan K false p X):dJ D P G N B (.region id be true) Q X:=by
 intro H lim a w hR
 simp only [zH,bE] at hp
 obtain ⟨⟨h1,h2⟩,h3⟩:=hp
 have hw:Rep D G N H lim X a { w with drawn:=w.drawn+1 }:=by
  have hF:Fr (fun _=>False) lim w lim { w with drawn:=w.drawn+1 }:=⟨rfl,rfl,rfl,nR _,fun _ _=>⟨nR _,fun _ _=>rfl⟩,fun _ _ _=>⟨rfl,rfl⟩⟩
  exact ⟨io hF (fun _ _ q=>q) hR.env,⟨fun id r hr=>gk hF (fun _ _ q=>q) (fun _ _ q=>q) (hR.rows.row id r hr),hR.rows.apart,hR.rows.dom⟩,hR.glob.mono hF (fun _ q=>q.elim) (fun _ q=>.inl q),hR.defers,hR.size⟩
 have hl:Lk B H lim w H lim { w with drawn:=w.drawn+1 }:=⟨⟨rfl,rfl,rfl,nR _,fun _ _=>⟨nR _,fun _ _=>rfl⟩,fun _ _ _=>⟨rfl,rfl⟩⟩,fun _ _ _ _ _=>rfl,fun _ q=>.inl q⟩
 exact wp_region_last hm ((g_ hT h1 hl p be.size _ X H lim a _ true (Nat.le_of_ble_eq_true h3) hw (fun _=>Lk.refl) (fun _=>⟨rfl,rfl,rfl⟩)).1 h2 (h _ _ (fun _ _ q=>q) fun _ q=>q))
end
end
end Go.Abs
end
section
namespace Go.Abs
open Go Go.Proofs
theorem hJ(G:Glob)(c:Int):Spec Tryz.prog G 133 [.d (.s (.int .u8 c))] [] (.ret (.d (.s (.bool (decide (c≥48)&&decide (c<=57)))))) []:=by
 refine ee b8 (N:=9) Tryz.func133 rfl (by rfl) (nR _) rfl ?_;refine aa (rG fun J O=>O _ ?_);clear O J;refine aa (rG fun J O=>?_);refine ab (fun h=>?_) (fun h=>?_)
 ·refine O _ ?_;clear O J;refine ae ?_
  exact ⟨_,rfl,by rw [h,Bool.true_and];rfl,rfl⟩
 refine O _ ?_;refine ae ?_;exact ⟨_,rfl,by rw [h,Bool.false_and];rfl,rfl⟩
theorem sy(G:Glob)(c:Int):Spec Tryz.prog G 132 [.d (.s (.int .u8 c))] [] (.ret (.d (.s (.bool (decide (c≥97)&&decide (c<=122)))))) []:=by
 refine ee b8 (N:=9) Tryz.func132 rfl (by rfl) (nR _) rfl ?_;refine aa (rG fun J O=>O _ ?_);clear O J;refine aa (rG fun J O=>?_);refine ab (fun h=>?_) (fun h=>?_)
 ·refine O _ ?_;clear O J;refine ae ?_
  exact ⟨_,rfl,by rw [h,Bool.true_and];rfl,rfl⟩
 refine O _ ?_;refine ae ?_;exact ⟨_,rfl,by rw [h,Bool.false_and];rfl,rfl⟩
end Go.Abs
end
section
namespace Go.Abs
open Go Go.Proofs
attribute [local irreducible] c8 dJ Sub Spec
def xy(ty:TypeId)(s:BA)(i:Int)(w:BA):Row:=.box ty [.d (.s (.string s)),.d (.s (.int .i64 i)),.d (.s (.string w))]
theorem mixed:Tryz.prog.follows .mixedOrders=true:=by kernel_rfl
theorem dW{D:List Deferred}{G:Glob}{N B:Nat}{X:St}{be:Array Oper}{Q:AExit->St->Prop}{id:Nat}(p:Plan) (ds:List Nat) (KB:Nat->Bool) (hp:zH be ds p=true)(h:∀{pan:PV->St->Prop}{K:St->Prop},(∀p X,Q (.pan p) X->pan p X)->(∀X,Q .normal X->K X)->fF Go.Proofs.Tryz.prog TT G N be KB ds pan K false p X):dJ D Go.Proofs.Tryz.prog G N B (.region id be true) Q X:=Kv b8 mixed p ds KB hp fun _ _ a b=>h a b
theorem aH{x:Int}(h0:0<=x)(h1:x<9223372036854775808):IntKind.i64.wrap x=x:=by rw [IntKind.wrap_i64];omega
def TQ:Plan:=(.take 0 (.take 1 (.take 2 (.load 3 (.take 4 (.take 5 (.take 6 (.load 7 (.take 8 (.take 9 (.take 10 (.take 11 (.one 12 .done)))))))))))))
def TS:Plan:=(.take 0 (.take 1 (.take 2 (.load 3 (.take 4 (.take 5 (.take 6 (.load 7 (.take 8 (.take 9 (.take 10 (.take 11 (.take 12 (.take 13 (.load 14 (.take 15 (.take 16 (.take 17 (.load 18 (.take 19 (.take 20 (.take 21 (.take 22 (.take 23 (.take 24 (.load 25 (.take 26 (.take 27 (.take 28 (.load 29 (.take 30 (.take 31 (.take 32 (.take 33 .done))))))))))))))))))))))))))))))))))
def TU:Plan:=(.take 0 (.take 1 (.take 2 (.load 3 (.take 4 (.take 5 (.take 6 (.load 7 (.take 8 (.take 9 .done))))))))))
def La(c:Int):Bool:=decide (c≥97)&&decide (c<=122)
def isD(c:Int):Bool:=decide (c≥48)&&decide (c<=57)
def mC(p:Int->Bool)(r:BA):Nat->Nat->Nat
 |0,n=>n
 |f+1,n=>match decide ((n:Int)<(r.size:Int)) with
  |true=>match p (byteAt r n) with
   |true=>mC p r f (n+1)
   |false=>n
  |false=>n
def Ll(c:Int):Bool:=(c==60)||(c==62)||(c==61)||(c==33)
def qx(r:BA):Nat:=match decide ((r.size:Int)>1)&&(byteAt r 1==61)&&Ll (byteAt r 0) with
 |true=>2
 |false=>1
def jx(r:BA):Nat:=match r.toList.isEmpty with
 |true=>0
 |false=>match La (byteAt r 0) with
  |true=>mC La r r.size 0
  |false=>match isD (byteAt r 0) with
   |true=>mC isD r r.size 0
   |false=>qx r
def isSp(c:Int):Bool:=(c==32)||(c==10)
def ej(s:BA):Nat->Nat->Nat
 |0,i=>i
 |f+1,i=>match decide ((i:Int)<(s.size:Int)) with
  |true=>match isSp (byteAt s i) with
   |true=>ej s f (i+1)
   |false=>i
  |false=>i
noncomputable def c20:Code:=D8 (D8 (D8 (D8 (D8 (Ko Tryz.f55)))))
theorem gB(G:Glob)(ty:TypeId)(s w r:BA)(j n:Nat)(lB:s.size<4611686018427387904)(hr:r.size<=s.size)(hn:n<=r.size):dJ [] Tryz.prog G 122 1 c20 (zG TT Tryz.f55 (.ret (.tup [])) [xy ty s j (r.extract 0 n)]) ⟨[(0,.box 0 0),(2,.d (.s (.string r))),(3,.d (.s (.int .i64 n)))],[xy ty s j w]⟩:=by
 refine rG fun J O=>oN (oN ?_);refine O _ ?_;exact ⟨_,rfl,rfl,rfl⟩
theorem xz(G:Glob)(ty:TypeId)(s w:BA)(j:Nat)(lB:s.size<4611686018427387904)(hj:j<=s.size):dJ [] Tryz.prog G 122 1 (D8 (D8 (Ko Tryz.f55))) (zG TT Tryz.f55 (.ret (.tup [])) [xy ty s j ((s.extract j s.size).extract 0 (jx (s.extract j s.size)))]) ⟨[(0,.box 0 0)],[xy ty s j w]⟩:=by
 refine aa (dW TU [] (fun _=>true) (by kernel_rfl) fun J O=>oN (oN ?_));refine O _ (aM [0,2] ?_);clear O J;refine aa (rG fun J O=>O _ (aM [0,2,3] ?_));clear O J;rw [show ((j:Int).toNat)=j from rfl]
 have hr:(s.extract j s.size).size<=s.size:=by rw [ByteArray.size_extract];omega
 generalize s.extract j s.size=r at hr;refine aa (af ?_);refine aa (rG fun J O=>O _ (aM [0,2,3,81] ?_));clear O J;refine aj rfl (ab (fun h=>?_) (fun h=>?_))
 ·have hw:jx r=0:=by
   have:r.toList.isEmpty=true:=by simpa using h
   simp only [jx,this]
  rw [hw];refine ac (aq [0,2,3] rfl rfl ?_);exact gB G ty s w r j 0 lB hr (Nat.zero_le _)
 have he:r.toList.isEmpty=false:=by simpa using h
 have sP:0<r.size:=by
  rcases Nat.eq_zero_or_pos r.size with h0|h0
  ·have:r.toList=[]:=(toList_nil_iff_emptyBytes r).2 (ByteArray.size_eq_zero_iff.1 h0)
   rw [this] at he;cases he
  exact h0
 simp only [jx,he];refine aa (rG fun J O=>oN (oN ?_));refine aS [] (sy G _) ?_;refine O _ (aM [0,2,3,84] ?_);clear O J;refine aj rfl (ab (fun h1=>?_) (fun h1=>?_))
 ·rw [show La (byteAt r 0)=true from h1]
  generalize he:mC La r r.size 0=e;refine aq [0,2,3] rfl rfl ?_;refine af (aB (fun n Y=>∃m:Nat,n=r.size - m/\m<=r.size/\mC La r n m=e/\Y=⟨[(0,.box 0 0),(2,.d (.s (.string r))),(3,.d (.s (.int .i64 m)))],[xy ty s j w]⟩) r.size ⟨0,rfl,Nat.zero_le _,he,rfl⟩ ?_);rintro n Y ⟨m,hn,hm,v8,rfl⟩;refine aa (aa (rG fun J O=>?_));refine ab (fun h2=>?_) (fun h2=>?_)
  ·have hlt:=oT h2
   obtain ⟨q,rfl⟩:∃q,n=q+1:=⟨n - 1,by omega⟩;simp only [mC,h2] at v8;refine oN (aI hlt ?_);refine aS [] (sy G _) ?_;refine O _ (aM [0,2,3,97] ?_);clear O J;refine aj rfl (ab (fun h3=>?_) (fun h3=>?_))
   ·refine ac ?_
    refine af (rG fun J O=>O _ ?_);clear O J;refine ⟨q,nS q,_,ak (slots:=[0,2,3]) rfl rfl,m+1,by omega,by omega,?_,?_⟩
    ·rw [show La (byteAt r m)=true from h3] at v8
     exact v8
    rw [show IntKind.i64.wrap ((m:Int)+1)=((m+1:Nat):Int) from by rw [aH (by omega) (by omega)];omega]
    rfl
   refine aA ?_;rw [show La (byteAt r m)=false from h3] at v8;have L_:m=e:=v8;subst L_;refine aq [0,2,3] rfl rfl ?_;exact gB G ty s w r j m lB hr hm
  refine O _ (aM [0,2,3,97] ?_);clear O J;refine aj rfl (aA ?_)
  have L_:m=e:=by
   cases n with
   |zero=>exact v8
   |succ q=>simp only [mC,h2] at v8;exact v8
  subst L_;refine aq [0,2,3] rfl rfl ?_;exact gB G ty s w r j m lB hr hm
 rw [show La (byteAt r 0)=false from h1];refine aa (rG fun J O=>oN (oN ?_));refine aS [] (hJ G _) ?_;refine O _ (aM [0,2,3,100] ?_);clear O J;refine aj rfl (ab (fun h1=>?_) (fun h1=>?_))
 ·rw [show isD (byteAt r 0)=true from h1]
  generalize he:mC isD r r.size 0=e;refine aq [0,2,3] rfl rfl ?_;refine af (aB (fun n Y=>∃m:Nat,n=r.size - m/\m<=r.size/\mC isD r n m=e/\Y=⟨[(0,.box 0 0),(2,.d (.s (.string r))),(3,.d (.s (.int .i64 m)))],[xy ty s j w]⟩) r.size ⟨0,rfl,Nat.zero_le _,he,rfl⟩ ?_);rintro n Y ⟨m,hn,hm,v8,rfl⟩;refine aa (aa (rG fun J O=>?_));refine ab (fun h2=>?_) (fun h2=>?_)
  ·have hlt:=oT h2
   obtain ⟨q,rfl⟩:∃q,n=q+1:=⟨n - 1,by omega⟩;simp only [mC,h2] at v8;refine oN (aI hlt ?_);refine aS [] (hJ G _) ?_;refine O _ (aM [0,2,3,113] ?_);clear O J;refine aj rfl (ab (fun h3=>?_) (fun h3=>?_))
   ·refine ac ?_
    refine af (rG fun J O=>O _ ?_);clear O J;refine ⟨q,nS q,_,ak (slots:=[0,2,3]) rfl rfl,m+1,by omega,by omega,?_,?_⟩
    ·rw [show isD (byteAt r m)=true from h3] at v8
     exact v8
    rw [show IntKind.i64.wrap ((m:Int)+1)=((m+1:Nat):Int) from by rw [aH (by omega) (by omega)];omega]
    rfl
   refine aA ?_;rw [show isD (byteAt r m)=false from h3] at v8;have L_:m=e:=v8;subst L_;refine aq [0,2,3] rfl rfl ?_;exact gB G ty s w r j m lB hr hm
  refine O _ (aM [0,2,3,113] ?_);clear O J;refine aj rfl (aA ?_)
  have L_:m=e:=by
   cases n with
   |zero=>exact v8
   |succ q=>simp only [mC,h2] at v8;exact v8
  subst L_;refine aq [0,2,3] rfl rfl ?_;exact gB G ty s w r j m lB hr hm
 rw [show isD (byteAt r 0)=false from h1];refine aa (rG fun J O=>O _ (aM [0,2,3] ?_));clear O J;refine aa (rG fun J O=>?_);refine ab (fun h2=>?_) (fun h2=>?_)
 ·have hlt:=oT h2
  refine oN (oN ?_);refine O _ (aM [0,2,3,73] ?_);clear O J;refine aj rfl (ab (fun h3=>?_) (fun h3=>?_))
  ·refine aa (rG fun J O=>?_)
   refine oN (oN ?_);refine O _ (aM [0,2,3,75] ?_);clear O J;refine af (bQ (fun Z=>Z=⟨[(0,.box 0 0),(2,.d (.s (.string r))),(3,.d (.s (.int .i64 1))),(76,.d (.s (.bool (Ll (byteAt r 0)))))],[xy ty s j w]⟩) ?_ ?_)
   ·refine aa (rG fun J O=>?_)
    refine O _ (aM [0,2,3,75,76] ?_);clear O J;refine aj rfl (ab (fun h4=>?_) (fun h4=>?_))
    ·refine ac ?_
     refine ⟨_,ak (slots:=[0,2,3,76]) rfl rfl,?_⟩;rw [h4,show Ll (byteAt r 0)=true from by simp only [Ll,h4,Bool.true_or]]
     rfl
    refine aa (rG fun J O=>O _ (aM [0,2,3,75,76] ?_));clear O J;refine aj rfl (ab (fun h5=>?_) (fun h5=>?_))
    ·refine ac ?_
     refine ⟨_,ak (slots:=[0,2,3,76]) rfl rfl,?_⟩;rw [h5,show Ll (byteAt r 0)=true from by simp only [Ll,h5,Bool.true_or,Bool.or_true]]
     rfl
    refine aa (rG fun J O=>O _ (aM [0,2,3,75,76] ?_));clear O J;refine aj rfl (ab (fun h6=>?_) (fun h6=>?_))
    ·refine ac ?_
     refine ⟨_,ak (slots:=[0,2,3,76]) rfl rfl,?_⟩;rw [h6,show Ll (byteAt r 0)=true from by simp only [Ll,h6,Bool.true_or,Bool.or_true]]
     rfl
    refine rG fun J O=>O _ ?_;clear O J;refine ⟨_,ak (slots:=[0,2,3,76]) rfl rfl,?_⟩;rw [show Ll (byteAt r 0)=(byteAt r 0==33) from by simp only [Ll,h4,h5,h6,Bool.false_or]]
    rfl
   rintro Z rfl;refine aj rfl (ab (fun h4=>?_) (fun h4=>?_))
   ·refine rG fun J O=>O _ (aM [0,2,3] ?_);clear O J
    rw [show qx r=2 from by unfold qx;rw [h2,h3,h4];rfl];exact gB G ty s w r j 2 lB hr (by omega)
   refine ac (aq [0,2,3] rfl rfl ?_);rw [show qx r=1 from by unfold qx;rw [h2,h3,h4];rfl];exact gB G ty s w r j 1 lB hr (by omega)
  refine ac (aq [0,2,3] rfl rfl ?_);rw [show qx r=1 from by unfold qx;rw [h2,h3];rfl];exact gB G ty s w r j 1 lB hr (by omega)
 refine O _ (aM [0,2,3,73] ?_);clear O J;refine aj rfl (ac ?_);refine aq [0,2,3] rfl rfl ?_;rw [show qx r=1 from by unfold qx;rw [h2];rfl];exact gB G ty s w r j 1 lB hr (by omega)
def Cm(ty:TypeId)(s:BA)(i:Nat):Row:=let e:=ej s (s.size - i) i
 xy ty s e ((s.extract e s.size).extract 0 (jx (s.extract e s.size)))
theorem rH(G:Glob)(ty:TypeId)(s w:BA)(i:Nat)(lB:s.size<4611686018427387904)(hi:i+w.size<=s.size):Spec Tryz.prog G 55 [.box 0 0] [xy ty s i w] (.ret (.tup [])) [Cm ty s (i+w.size)]:=by
 obtain ⟨e,he⟩:∃e,ej s (s.size - (i+w.size)) (i+w.size)=e:=⟨_,rfl⟩;rw [show Cm ty s (i+w.size)=xy ty s e ((s.extract e s.size).extract 0 (jx (s.extract e s.size))) from by unfold Cm;rw [he]];refine ee b8 (N:=122) Tryz.func55 rfl (by rfl) (nR _) rfl ?_;refine aa (dW TQ [12] (fun _=>true) (by kernel_rfl) fun J O=>O _ (aM [0] ?_));clear O J;rw [show IntKind.i64.wrap ((i:Int)+(w.size:Int))=((i+w.size:Nat):Int) from by rw [aH (by omega) (by omega)];omega];refine aa (af (aB (fun n Y=>∃j:Nat,n=s.size - j/\j<=s.size/\ej s n j=e/\Y=⟨[(0,.box 0 0)],[xy ty s j w]⟩) _ ⟨i+w.size,rfl,hi,he,rfl⟩ ?_));rintro n Y ⟨j,hn,hj,AW,rfl⟩;refine aa (aa (dW TS [] (fun _=>true) (by kernel_rfl) fun J O=>?_));refine ab (fun h=>?_) (fun h=>?_)
 ·have hlt:=oT h
  obtain ⟨m,rfl⟩:∃m,n=m+1:=⟨n - 1,by omega⟩;simp only [ej,h] at AW;refine oN (aI hlt ?_);refine ab (fun h1=>?_) (fun h1=>?_)
  ·refine O _ (aM [0,49] ?_);clear O J;refine aj rfl (ac ?_)
   refine af (rG fun J O=>O _ ?_);clear O J;refine ⟨m,nS m,_,ak (slots:=[0]) rfl rfl,j+1,by omega,by omega,?_,?_⟩
   ·rw [show isSp (byteAt s j)=true from by simp only [isSp,h1,Bool.true_or]] at AW
    exact AW
   rw [show IntKind.i64.wrap ((j:Int)+1)=((j+1:Nat):Int) from by rw [aH (by omega) (by omega)];omega]
   rfl
  refine oN (aI hlt ?_);refine O _ (aM [0,49] ?_);clear O J;refine aj rfl (ab (fun h2=>?_) (fun h2=>?_))
  ·refine ac ?_
   refine af (rG fun J O=>O _ ?_);clear O J;refine ⟨m,nS m,_,ak (slots:=[0]) rfl rfl,j+1,by omega,by omega,?_,?_⟩
   ·rw [show isSp (byteAt s j)=true from by simp only [isSp,h2,Bool.or_true]] at AW
    exact AW
   rw [show IntKind.i64.wrap ((j:Int)+1)=((j+1:Nat):Int) from by rw [aH (by omega) (by omega)];omega]
   rfl
  refine aA ?_
  have Wt:j=e:=by
   rw [show isSp (byteAt s j)=false from by simp only [isSp,h1,h2,Bool.or_self]] at AW;exact AW
  subst Wt;refine aq [0] rfl rfl ?_;exact xz G ty s w j lB hj
 refine O _ (aM [0,49] ?_);clear O J;refine aj rfl (aA ?_)
 have Wt:j=e:=by
  cases n with
  |zero=>exact AW
  |succ m=>simp only [ej,h] at AW;exact AW
 subst Wt;refine aq [0] rfl rfl ?_;exact xz G ty s w j lB hj
def TV(i:Int)(t:TypeId)(u:Value):Row:=.box 261 [.d (.s (.int .i64 i)),.d (.s (.iface t u))]
theorem ci(G:Glob)(ty:TypeId)(s w:BA)(i:Int)(t:TypeId)(u:Value):
  Spec Tryz.prog G 195 [.box 0 0,.d (.s (.iface t u))] [xy ty s i w] (.pan (.ifc 128 (.box 1 0))) [xy ty s i w,TV i t u]:=by
 refine ee b8 (N:=12) Tryz.func195 rfl (by rfl) (Nat.le_succ _) rfl ?_;refine rG fun J O=>J _ _ ?_;exact ⟨rfl,rfl⟩
theorem Nh(G:Glob)(ty:TypeId)(s w:BA)(i:Nat)(lB:s.size<4611686018427387904)(hi:i+w.size<=s.size):Spec Tryz.prog G 136 [.box 0 0,.d (.s (.string w))] [xy ty s i w] (.ret (.tup [])) [Cm ty s (i+w.size)]:=by
 refine ee b8 (N:=15) Tryz.func136 rfl (by rfl) (nR _) rfl ?_;refine aa (aa (rG fun J O=>?_));refine O _ (aM [0,1,9] ?_);clear O J;refine aj rfl (ab (fun h=>?_) (fun h=>?_))
 ·simp at h
 refine ac (rG fun J O=>aS [0] (rH G ty s w i lB hi) ?_);refine O _ ?_;exact ⟨_,rfl,rfl,rfl⟩
def pow10V:List Int:=[1,10,100,1000,10000,100000,1000000,10000000,100000000,1000000000,10000000000,100000000000,1000000000000,10000000000000,100000000000000,1000000000000000,10000000000000000,100000000000000000,1000000000000000000,10000000000000000000]
def GO(t:Nat->TypeId)(u:Nat->Value):Glob:=fun g=>match Nat.ble g 8||(Nat.beq g 11||Nat.beq g 12) with
 |true=>some (.iface (t g) (u g))
 |false=>match Nat.beq g 9 with
  |true=>some (.tuple (pow10V.map fun z=>Value.int .u64 z).toArray)
  |false=>match Nat.beq g 1000 with
   |true=>some (u 1000)
   |false=>match Nat.ble 100 g&&Nat.ble g 107 with
    |true=>some (.agg #[u (g - 100)])
    |false=>none
def gx(u:Nat->Value)(o:Option Value):Option Value:=match u 2000 with
 |.bool true=>none
 |_=>o
def GV(t:Nat->TypeId)(u:Nat->Value):Glob:=fun g=>match (Nat.ble 4 g&&Nat.ble g 8)||(Nat.ble 104 g&&Nat.ble g 107) with
 |true=>gx u (GO t u g)
 |false=>GO t u g
theorem Sr{t:Nat->TypeId}{u:Nat->Value}(h:u 2000=.bool false):GV t u=GO t u:=by
 funext g
 unfold GV gx
 rw [h]
 split <;> rfl
theorem R7{t:Nat->TypeId}{u:Nat->Value}{g:Nat}{v:Value}(h:GV t u g=some v):GO t u g=some v:=by
 unfold GV gx at h
 split at h
 ·split at h
  ·cases h
  exact h
 exact h
theorem Kw(t:Nat->TypeId)(u:Nat->Value)(ty:TypeId)(s w x:BA)(i:Int)(hw:(w.toList==x.toList)=false):
  Spec Tryz.prog (GV t u) 136 [.box 0 0,.d (.s (.string x))] [xy ty s i w] (.pan (.ifc 128 (.box 1 0))) [xy ty s i w,TV i (t 3) (u 3)]:=by
 refine ee b8 (N:=15) Tryz.func136 rfl (by rfl) (Nat.le_succ _) rfl ?_;refine aa (aa (rG fun J O=>?_));refine O _ (aM [0,1,9] ?_);clear O J;refine aj rfl (ab (fun h=>?_) (fun h=>?_))
 ·refine rG fun J O=>pS [0] (ci (GV t u) ty s w i (t 3) (u 3)) ?_;refine J _ _ ?_;exact ⟨rfl,rfl⟩
 rw [hw] at h;cases h
theorem Ni(G:Glob)(ty:TypeId)(s w:BA)(i:Nat)(lB:s.size<4611686018427387904)(hi:i+w.size<=s.size):Spec Tryz.prog G 134 [.box 0 0,.d (.s (.string w))] [xy ty s i w] (.ret (.d (.s (.bool true)))) [Cm ty s (i+w.size)]:=by
 refine ee b8 (N:=13) Tryz.func134 rfl (by rfl) (nR _) rfl ?_;refine aa (rG fun J O=>O _ ?_);clear O J;refine aa (aa (rG fun J O=>?_));refine O _ (aM [0,1,4,10] ?_);clear O J;refine aj rfl (ab (fun h=>?_) (fun h=>?_))
 ·simp at h
 refine ac (aa (rG fun J O=>aS [0] (rH G ty s w i lB hi) ?_));refine O _ ?_;clear O J;refine aa (rG fun J O=>O _ ?_);clear O J;refine ae ?_;exact ⟨_,rfl,rfl,rfl⟩
theorem Ro(G:Glob)(ty:TypeId)(s w x:BA)(i:Int)(hw:(w.toList==x.toList)=false):Spec Tryz.prog G 134 [.box 0 0,.d (.s (.string x))] [xy ty s i w] (.ret (.d (.s (.bool false)))) [xy ty s i w]:=by
 refine ee b8 (N:=13) Tryz.func134 rfl (by rfl) (nR _) rfl ?_;refine aa (rG fun J O=>O _ ?_);clear O J;refine aa (aa (rG fun J O=>?_));refine O _ (aM [0,1,4,10] ?_);clear O J;refine aj rfl (ab (fun h=>?_) (fun h=>?_))
 ·refine aa (rG fun J O=>?_)
  refine O _ ?_;clear O J;refine ae ?_;exact ⟨_,rfl,rfl,rfl⟩
 rw [hw] at h;cases h
def dC(s:BA):Bool:=(s.toList==(⟨#[60]⟩:BA).toList)||(s.toList==(⟨#[60,61]⟩:BA).toList)||(s.toList==(⟨#[61,61]⟩:BA).toList)||(s.toList==(⟨#[33,61]⟩:BA).toList)||(s.toList==(⟨#[62]⟩:BA).toList)||(s.toList==(⟨#[62,61]⟩:BA).toList)
theorem vj(G:Glob)(s:BA):Spec Tryz.prog G 260 [.d (.s (.string s))] [] (.ret (.d (.s (.bool (dC s))))) []:=by
 refine ee b8 (N:=11) Tryz.func260 rfl (by rfl) (nR _) rfl ?_;refine aa (rG fun J O=>O _ ?_);clear O J;refine aa (aa (rG fun J O=>?_));refine O _ (aM [2,3] ?_);clear O J;refine af (bQ (fun Z=>Z=⟨[(2,.d (.s (.bool false))),(4,.d (.s (.bool (dC s))))],[]⟩) ?_ ?_)
 ·refine aa (rG fun J O=>?_)
  refine O _ (aM [2,3,4] ?_);clear O J;refine aj rfl (ab (fun h0=>?_) (fun h0=>?_))
  ·refine ac ?_
   refine ⟨_,ak (slots:=[2,4]) rfl rfl,?_⟩;rw [h0,show dC s=true from by simp only [dC,h0,Bool.true_or]]
   rfl
  refine aa (rG fun J O=>O _ (aM [2,3,4] ?_));clear O J;refine aj rfl (ab (fun h1=>?_) (fun h1=>?_))
  ·refine ac ?_
   refine ⟨_,ak (slots:=[2,4]) rfl rfl,?_⟩;rw [h1,show dC s=true from by simp only [dC,h1,Bool.true_or,Bool.or_true]]
   rfl
  refine aa (rG fun J O=>O _ (aM [2,3,4] ?_));clear O J;refine aj rfl (ab (fun h2=>?_) (fun h2=>?_))
  ·refine ac ?_
   refine ⟨_,ak (slots:=[2,4]) rfl rfl,?_⟩;rw [h2,show dC s=true from by simp only [dC,h2,Bool.true_or,Bool.or_true]]
   rfl
  refine aa (rG fun J O=>O _ (aM [2,3,4] ?_));clear O J;refine aj rfl (ab (fun h3=>?_) (fun h3=>?_))
  ·refine ac ?_
   refine ⟨_,ak (slots:=[2,4]) rfl rfl,?_⟩;rw [h3,show dC s=true from by simp only [dC,h3,Bool.true_or,Bool.or_true]]
   rfl
  refine aa (rG fun J O=>O _ (aM [2,3,4] ?_));clear O J;refine aj rfl (ab (fun h4=>?_) (fun h4=>?_))
  ·refine ac ?_
   refine ⟨_,ak (slots:=[2,4]) rfl rfl,?_⟩;rw [h4,show dC s=true from by simp only [dC,h4,Bool.true_or,Bool.or_true]]
   rfl
  refine rG fun J O=>O _ ?_;clear O J;refine ⟨_,ak (slots:=[2,4]) rfl rfl,?_⟩;rw [show dC s=(s.toList==(⟨#[62,61]⟩:BA).toList) from by simp only [dC,h0,h1,h2,h3,h4,Bool.false_or]]
  rfl
 rintro Z rfl;refine aj rfl (ab (fun h=>?_) (fun h=>?_))
 ·refine aa (rG fun J O=>?_)
  refine O _ ?_;clear O J;refine ae ?_;exact ⟨_,rfl,by rw [h];rfl,rfl⟩
 refine ac (aa (rG fun J O=>O _ ?_));clear O J;refine ae ?_;exact ⟨_,rfl,by rw [h];rfl,rfl⟩
end Go.Abs
end
