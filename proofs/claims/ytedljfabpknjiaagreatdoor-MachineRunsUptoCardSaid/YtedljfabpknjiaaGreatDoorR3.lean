/- Texts of this proof, joined and shortened. -/
import Derived.Test.YtedljfabpknjiaaGreatDoorR2
import Derived.MapKept
import Derived.Laws.BytesString
import Derived.Laws.BytesArg
import Derived.Laws.Small
import Derived.Laws.Cover1
import Derived.Below
import Derived.Maps.AppendAt
import Derived.Laws.OwnMore
import Derived.Lib.AppendStr
import Derived.Laws.Tables
section
namespace Go.Abs
open Go
section
section
variable {P:Program}{G:Glob}{D:List Deferred}{N:Nat}{H:Nat->Option Value}{lim:Nat->Nat}{X:St}{a:Act}{w:World}{T:Tab}{K:Option (Nat->Bool)}

theorem uT(hR:Rep D G N H lim X a w){o:Oper}{x:Operand}{k:PV->Prop}(ho:o.op=.move x\/o.op=.assign x)(h:match ev G X x with|some p=>k p|none=>False):∃p,qe P K a w H lim o p/\k p:=by
 split at h
 ·rename_i p hx
  refine ⟨p,⟨a.eval x,?_,aw hR hx⟩,h⟩
  intro w1 _
  rcases ho with ho|ho <;> simp [execOp,ho]
 exact h.elim

theorem iv(hT:bH P T){e:TypeId}{z:PV}(h:nX T e=some z):∃v,(∀w,(zeroValue e).run P w=.ok v w)/\V H lim w z v:=by
 unfold nX at h
 split at h
 ·rename_i i hi
  obtain ⟨_,ti,h1,_,_,v,hz,hc,ha⟩:=hT e i hi
  refine ⟨v,fun w=>by simp [zeroValue,typeInfo,h1,hz],?_⟩
  split at h
  ·rename_i hd
   simp only [sI] at h
   subst h
   rw [hd] at ha
   cases v <;> simp only [JK] at ha
   all_goals try cases ha
   rename_i cs
   simp only [V,VD]
   exact ⟨cs.toList,by simp,by rw [<- hc];exact xb _⟩
  ·rename_i z' hd RK
   simp only [sI] at h
   subst h
   rw [hd] at ha
   rw [RK] at hc
   have:v=z':=by
    cases v <;> simp only [JK] at ha
    all_goals try cases ha
    all_goals simpa [Value.cells] using hc
   rw [this]
   exact mW _
  cases h
 cases h
theorem gZ{ok b:Bool}{p:PV}{v:Value}{k:PV->Prop}(h:E_ ok p b k)(hv:V H lim w p v):∃q,V H lim w q (if ok then .tuple #[v,.bool b] else v)/\k q:=by
 cases ok
 ·exact ⟨p,hv,h⟩
 exact ⟨_,by simp only [V];exact ⟨[v,.bool b],rfl,by simp only [Vs,V,VD];exact ⟨v,_,rfl,hv,_,_,rfl,rfl,rfl⟩⟩,h⟩
theorem fj(hT:bH P T){t:TypeId}(h:gQ T t=true)(w:World):(underlying t).run P w=.ok .string w:=by
 unfold gQ at h
 split at h
 ·rename_i hi
  obtain ⟨d,hd,hu⟩:=bo hT hi
  simp only [eX] at hd
  subst hd
  exact hu w
 cases h
theorem DX(n:Nat)(hT:bH P T){t:TypeId}(h:gQ T t=true)(b:Bool)(s:BA)(w:World):(Instr.checkKey b (n+1) t (.string s)).run P w=.ok () w:=by
 simp [Instr.checkKey,fj hT h]
theorem gR(hT:bH P T){t:TypeId}(h:gQ T t=true)(b:Bool)(s:BA)(w:World):(Instr.checkKey b 10000 t (.string s)).run P w=.ok () w:=DX 9999 hT h b s w
theorem B4{s:BA}:∀ {es:List (BA×Data)}{ms:List MapEntry}{i j:Nat},VE lim w i es ms->
  (dF es s=none/\Instr.findNow .string (.string s) ms j=some none)\/∃p q v,dF es s=some p/\Instr.findNow .string (.string s) ms j=some (some (q,v))/\VD lim w p v
 |[],ms,i,j,h=>by
  simp only [VE] at h
  subst h
  exact .inl ⟨rfl,rfl⟩
 | (k,p)::r,ms,i,j,h=>by
  simp only [VE] at h
  obtain ⟨e,ms',rfl,h1,h2,h3,h4⟩:=h
  simp only [dF,Instr.findNow,h1,Instr.sameNow]
  cases hb:(s==k)
  ·exact B4 h4
  exact .inr ⟨p,j,e.val,rfl,rfl,h3⟩
theorem J8(hT:bH P T){t:TypeId}(h:gQ T t=true){s:BA}{es:List (BA×Data)}{ms:List MapEntry}{i:Nat}(hv:VE lim w i es ms):
  (dF es s=none/\∀w1,(Instr.findKey t (.string s) ms).run P w1=.ok none w1)\/∃p q v,dF es s=some p/\(∀w1,(Instr.findKey t (.string s) ms).run P w1=.ok (some (q,v)) w1)/\VD lim w p v:=by
 rcases B4 (s:=s) (j:=0) hv with ⟨h1,h2⟩|⟨p,q,v,h1,h2,h3⟩
 ·exact .inl ⟨h1,fun w1=>by simp [Instr.findKey,fj hT h,h2]⟩
 exact .inr ⟨p,q,v,h1,fun w1=>by simp [Instr.findKey,fj hT h,h2],h3⟩
theorem tF{fz:Bool}{s:BA}:∀ {es:List (BA×List Int)}{ms:List MapEntry}{hs:List Value}{i j:Nat},AE lim w fz i es ms hs->
  (gJ es s j=none/\Instr.findNow .string (.string s) ms j=some none)\/∃q l v,gJ es s j=some (j+q,l)/\Instr.findNow .string (.string s) ms j=some (some (j+q,v))/\hs[q]? = some v/\es[q]? = some (s,l)
 |[],ms,hs,i,j,h=>by
  obtain ⟨rfl,rfl⟩:=h
  exact .inl ⟨rfl,rfl⟩
 | (k,p)::r,ms,hs,i,j,h=>by
  obtain ⟨e,ms',c,ty,yd,cap,rfl,rfl,h1,h2,h3,h4,h5,h6,h7⟩:=h
  simp only [gJ,Instr.findNow,h1,Instr.sameNow]
  cases hb:(s==k)
  ·rcases tF (s:=s) (j:=j+1) h7 with ⟨g1,g2⟩|⟨q,l,v,g1,g2,g3,g4⟩
   ·exact .inl ⟨g1,g2⟩
   exact .inr ⟨q+1,l,v,by rw [show j+(q+1)=j+1+q from by omega];exact g1,by rw [show j+(q+1)=j+1+q from by omega];exact g2,by rw [List.getElem?_cons_succ];exact g3,by rw [List.getElem?_cons_succ];exact g4⟩
  have hs:s=k:=(MapKept.bytes_beq _ _).1 hb
  subst hs
  exact .inr ⟨0,p,e.val,rfl,rfl,rfl,rfl⟩
theorem tJ{c:Nat}:∀(l:List Int) (o:Nat),(∀k n,l[k]? = some n->w.cell? ⟨c,o+k,none⟩=some (.int .i64 n))->o+l.length<=lim c->VRow lim w c 1 o (numsD l)
 |[],_,_,_=>by simp only [numsD,List.map_nil,VRow]
 |n::l,o,h,hl=>by
  simp only [lC] at hl
  have ih:=tJ l (o+1) (fun k m hk=>by rw [show o+1+k=o+(k+1) from by omega];exact h (k+1) m hk) (by omega)
  simp only [numsD] at ih
  simp only [numsD,List.map_cons,VRow,VCells,VD,and_true]
  exact ⟨rfl,⟨_,h 0 n rfl,by omega,rfl,rfl⟩,ih⟩
theorem vV (hT:bH P T) (hR:Rep D G N H lim X a w) {o:Oper}{t:TypeId}{x i:Operand}{ok:Bool}{k:PV->Prop}(ho:o.op=.lookup t x i ok)
  (h:y7 T K X t (ev G X x) (ev G X i) ok k):∃p,qe P K a w H lim o p/\k p:=by
 unfold y7 at h
 cases K with
 |none=>exact h.elim
 |some K=>
 simp only at h
 unfold BQ at h
 split at h
 ·rename_i kt e _ _ _ id s ht hx hi
  have vx:=aw hR hx
  have vi:=aw hR hi
  simp only [V,VD.eq_1] at vx vi
  obtain ⟨d,hd,hu⟩:=bo hT ht
  simp only [eX] at hd
  subst hd
  split at h
  ·rename_i t' es hK hs hr
   obtain ⟨o',Ov,hk⟩:=h
   subst Ov
   obtain ⟨b,ms,h1,h2,h3,_⟩:=mv hR hr
   rw [vx] at h1
   simp only [sI] at h1
   have lr:∀w1,Agr (some K) H lim w w1->w1.heap[b]? = some (.map ms es.length):=fun w1 hA=>(hA.2 id (.map (some b)) b hK (by rw [vx,h1]) rfl rfl).trans h2
   rcases J8 (P:=P) hT hs (s:=s) h3 with ⟨g1,g2⟩|⟨p,q,v,g1,g2,g3⟩
   ·rw [g1] at hk
    simp only at hk
    split at hk
    ·rename_i z hz
     obtain ⟨zv,z1,z2⟩:=iv (H:=H) (lim:=lim) (w:=w) hT hz
     obtain ⟨q,q1,q2⟩:=gZ hk z2
     refine ⟨q,⟨_,fun w1 hA=>?_,q1⟩,q2⟩
     simp [execOp,ho,h1,vi,Instr.lookup,hu,MapKept.run_getObj_map (lr w1 hA),gR hT hs,g2,z1]
    exact hk.elim
   rw [g1] at hk
   simp only at hk
   obtain ⟨q',q1,q2⟩:=gZ (H:=H) (p:=.d p) hk (by simpa only [V] using g3)
   refine ⟨q',⟨_,fun w1 hA=>?_,q1⟩,q2⟩
   simp [execOp,ho,h1,vi,Instr.lookup,hu,MapKept.run_getObj_map (lr w1 hA),gR hT hs,g2]
  exact h.elim
 ·rename_i kt e _ _ _ id s ht hx hi
  have vi:=aw hR hi
  simp only [V,VD.eq_1] at vi
  obtain ⟨d,hd,hu⟩:=bo hT ht
  simp only [eX] at hd
  subst hd
  split at h
  ·rename_i t' fz es hK hs hr
   obtain ⟨o',Ov,hk⟩:=h
   subst Ov
   obtain ⟨b,ms,hd,h1,hH,h2,h3,h4,h5⟩:=Ih hR.rows hr (aw hR hx)
   have lr:∀w1,Agr (some K) H lim w w1->w1.heap[b]? = some (.map ms es.length):=fun w1 hA=>(hA.2 id _ b hK hH rfl (mV (j:=0) rfl rfl)).trans h2
   rcases tF (s:=s) (j:=0) h3 with ⟨g1,g2⟩|⟨q,l,v,g1,g2,g3,g4⟩
   ·rw [g1] at hk
    simp only at hk
    split at hk
    ·rename_i z hz
     obtain ⟨zv,z1,z2⟩:=iv (H:=H) (lim:=lim) (w:=w) hT hz
     obtain ⟨q,q1,q2⟩:=gZ hk z2
     refine ⟨q,⟨_,fun w1 hA=>?_,q1⟩,q2⟩
     simp [execOp,ho,h1,vi,Instr.lookup,hu,MapKept.run_getObj_map (lr w1 hA),gR hT hs,Instr.findKey,fj hT hs,g2,z1]
    exact hk.elim
   rw [g1] at hk
   simp only [Nat.zero_add] at hk g2 g4
   obtain ⟨c,ty,cap,e1,e2,e3,e4⟩:=DI h3 g4
   rw [g3] at e1
   cases e1
   have hV:V H lim w (Dl fz id q l) (.slice (some ⟨c,0,none⟩) l.length cap):=by
    cases fz
    ·simp only [Dl,V]
     exact ⟨_,hH,by rw [List.getElem?_cons_succ];exact g3⟩
    simp only [Dl,V,VD]
    exact ⟨_,_,_,rfl,by simp [numsD],e2.1,e2.2,fun _=>⟨c,0,rfl,tJ l 0 (fun k n hk=>by simp [World.cell?,e3,hk]) (by rw [e4];simp)⟩⟩
   obtain ⟨q',q1,q2⟩:=gZ (H:=H) (p:=Dl fz id q l) hk hV
   refine ⟨q',⟨_,fun w1 hA=>?_,q1⟩,q2⟩
   simp [execOp,ho,h1,vi,Instr.lookup,hu,MapKept.run_getObj_map (lr w1 hA),gR hT hs,Instr.findKey,fj hT hs,g2]
  exact h.elim
 exact h.elim
theorem uU{b:Nat}:∀(xs:List (List Data)) (o:Nat) (ns:List Int),VRow lim w b 1 o xs->mu xs=some ns->VCells lim w b o (ns.map fun n=>Data.s (.int .u8 n))
 |[],o,ns,_,h=>by
  simp only [mu,sI] at h
  subst h
  simp only [List.map_nil,VCells]
 |x::xs,o,ns,hv,h=>by
  unfold mu at h
  split at h
  ·rename_i e;cases e
  ·rename_i n r e
   simp only [List.cons.injEq] at e
   obtain ⟨rfl,rfl⟩:=e
   split at h
   ·rename_i l hl
    simp only [sI] at h
    subst h
    simp only [VRow,VCells] at hv
    simp only [List.map_cons,VCells]
    exact ⟨hv.2.1.1,uU _ _ _ hv.2.2 hl⟩
   cases h
  cases h
theorem og:∀ {xs:List (List Data)}{ns:List Int},mu xs=some ns->xs.length=ns.length
 |[],ns,h=>by
  simp only [mu,sI] at h
  subst h
  rfl
 |x::xs,ns,h=>by
  unfold mu at h
  split at h
  ·rename_i e;cases e
  ·rename_i n r e
   simp only [List.cons.injEq] at e
   obtain ⟨rfl,rfl⟩:=e
   split at h
   ·rename_i l hl
    simp only [sI] at h
    subst h
    simp only [lC,og hl]
   cases h
  cases h
theorem B5:∀ {ns:List Int}{vs:List Value},VDs lim w (ns.map fun n=>Data.s (.int .u8 n)) vs->vs=ns.map (Value.int .u8)
 |[],vs,h=>by simpa only [List.map_nil,VDs] using h
 |n::ns,vs,h=>by
  simp only [List.map_cons,VDs,VD] at h
  obtain ⟨u,us,rfl,rfl,h2⟩:=h
  rw [B5 h2]
  rfl
theorem sr:∀(ns:List Int) (s:BA),ns.foldl (fun r n=>r.push (UInt8.ofNat n.toNat)) s=s++iY ns
 |[],s=>by apply ByteArray.ext;simp [iY]
 |n::ns,s=>by
  rw [List.foldl_cons,sr ns]
  apply ByteArray.ext
  simp [iY,ByteArray.push]
theorem B6 (hT:bH P T) (hR:Rep D G N H lim X a w) {o:Oper}{src dst e:TypeId}{x:Operand}{m:Nat}{xs:List (List Data)}{k:PV->Prop}(ho:o.op=.convert src dst x) {s1 b1 s2 b2:Nat}{z1 z2:List Value}
  (h1:T src=some { desc:=.slice e,size:=s1,bytes:=b1,zero:=z1 }) (h2:T dst=some { desc:=.string,size:=s2,bytes:=b2,zero:=z2 }) (hx:ev G X x=some (.d (.sl m xs)))
  (h:DH T K e m xs k):∃p,qe P K a w H lim o p/\k p:=by
 unfold DH at h
 split at h
 ·rename_i K' hb hm
  have hm:=Nat.eq_of_beq_eq_true hm
  subst hm
  obtain ⟨ns,Uq,hk⟩:=h
  obtain ⟨d1,sE,J9⟩:=bo hT h1
  obtain ⟨d2,IH,Ox⟩:=bo hT h2
  simp only [eX] at sE IH
  subst sE IH
  have he:∀w,(underlying e).run P w=.ok (.int .u8) w:=by
   unfold Fx at hb
   split at hb
   ·rename_i h3
    obtain ⟨d3,XE,Wa⟩:=bo hT h3
    simp only [eX] at XE
    subst XE
    exact Wa
   cases hb
  have vx:=aw hR hx
  simp only [V,VD] at vx
  obtain ⟨A,n,c,e1,hn,_,_,pW⟩:=vx
  refine ⟨_,⟨.string (iY ns),fun w1 hA=>?_,by simp [V,VD]⟩,hk⟩
  simp only [execOp,ho,e1,convert,Sem.run_bind,J9,Ox,he,Result.andThen]
  have hz:(Conv.bytesToString (.slice A n c)).run P w1=.ok (.string (iY ns)) w1:=by
   have hl:=og Uq
   cases XF:decide (n=0) with
   |true=>
    have h0:=oT XF
    subst h0
    have:ns=[]:=lE (by omega)
    subst this
    cases A with
    |none=>rfl
    |some a=>
     have:=run_bytesToString (P:=P) w1 a 0 c [] (by simp [loadCells,loadCellsFrom,Sem.run_pure])
     rw [this]
     rfl
   |false=>
    have h0:=oF XF
    obtain ⟨b,off,rfl,hr⟩:=pW h0
    obtain ⟨vs,eq,fo⟩:=xc (P:=P) (uU xs off ns hr Uq)
    have hv:=B5 eq
    subst hv
    have hq:=fo K' H w1 hA 0 #[] off rfl
    rw [lM] at hq
    have:=run_bytesToString (P:=P) w1 ⟨b,off,none⟩ n c ns (by
     show (loadCellsFrom _ 0 n #[]).run P w1=_
     rw [hn,hl,hq]
     simp)
    rw [this,sr]
    simp
  simp [hz]
 exact h.elim
theorem o8(hT:bH P T){t:TypeId}{i:TI}(ht:T t=some i)(hi:JN i.desc=false)(xt t':TypeId)(v:Value)(ok:Bool)(w:World):
  ((t'=t->(Instr.typeAssert (.iface t' v) xt t ok).run P w=.ok (if ok then .tuple #[v,.bool true] else v) w))/\
  (∀zv,(zeroValue t).run P w=.ok zv w->(t'≠t->(Instr.typeAssert (.iface t' v) xt t true).run P w=.ok (.tuple #[zv,.bool false]) w)/\(Instr.typeAssert .nilIface xt t true).run P w=.ok (.tuple #[zv,.bool false]) w):=by
 obtain ⟨d,hd,hu⟩:=bo hT ht
 have Nb:∀ms,d≠.interface ms:=by
  intro ms e
  subst e
  cases Rb:i.desc <;> rw [Rb] at hd hi <;> simp only [eX] at hd
  all_goals first
   |exact absurd hi (by decide)
   | (obtain ⟨_,hd,_⟩:=hd;cases hd;done)
   | (obtain ⟨_,_,_,hd⟩:=hd;cases hd;done)
   | (cases hd;done)
 constructor
 ·intro e
  cases d <;> first|exact absurd rfl (Nb _)|simp [Instr.typeAssert,hu,e]
 intro zv hz
 constructor
 ·intro e
  cases d <;> first|exact absurd rfl (Nb _)|simp [Instr.typeAssert,hu,e,hz]
 cases d <;> first|exact absurd rfl (Nb _)|simp [Instr.typeAssert,hu,hz]
theorem vW (hT:bH P T) (hR:Rep D G N H lim X a w) {o:Oper}{t xt:TypeId}{x:Operand}{ok:Bool}{k:PV->Prop}(ho:o.op=.typeAssert x xt t ok)
  (h:y8 T (ev G X x) t ok k):∃p,qe P K a w H lim o p/\k p:=by
 unfold y8 at h
 split at h
 ·rename_i i hi
  split at h
  ·exact h.elim
  rename_i Nb
  have key:∀(t':TypeId) (v:Value),a.eval x=.iface t' v->(∀p,V H lim w p v->(match Nat.beq t' t with|true=>E_ ok p true k|false=>oU T ok t k)->∃p,qe P K a w H lim o p/\k p):=by
   intro t' v hv p hp hk
   split at hk
   ·rename_i hb
    obtain ⟨q,q1,q2⟩:=gZ hk hp
    exact ⟨q,⟨_,fun w1 _=>by simp [execOp,ho,hv,(o8 (P:=P) hT hi Nb xt t' v ok w1).1 (Nat.eq_of_beq_eq_true hb)],q1⟩,q2⟩
   rename_i hb
   have aO:t'≠t:=fun q=>by rw [q,Nat.beq_refl] at hb;cases hb
   unfold oU at hk
   split at hk
   ·rename_i z hz
    obtain ⟨zv,z1,z2⟩:=iv (H:=H) (lim:=lim) (w:=w) hT hz
    obtain ⟨q,q1,q2⟩:=gZ hk z2
    exact ⟨q,⟨_,fun w1 _=>by simp [execOp,ho,hv,((o8 (P:=P) hT hi Nb xt t' v true w1).2 zv (z1 w1)).1 aO],q1⟩,q2⟩
   exact hk.elim
  unfold BR at h
  split at h
  ·rename_i t' d hx
   have vx:=aw hR hx
   simp only [V,VD] at vx
   obtain ⟨u,hv,hu⟩:=vx
   exact key t' u hv (.d d) (by simpa only [V] using hu) h
  ·rename_i t' p hx
   have vx:=aw hR hx
   simp only [V] at vx
   obtain ⟨u,hv,hu⟩:=vx
   exact key t' u hv p hu h
  ·rename_i t' v hx
   have vx:=aw hR hx
   simp only [V,VD] at vx
   exact key t' v vx (.d (.s v)) (mW v) h
  ·rename_i hx
   have vx:=aw hR hx
   simp only [V,VD] at vx
   unfold oU at h
   split at h
   ·rename_i z hz
    obtain ⟨zv,z1,z2⟩:=iv (H:=H) (lim:=lim) (w:=w) hT hz
    obtain ⟨q,q1,q2⟩:=gZ h z2
    exact ⟨q,⟨_,fun w1 _=>by simp [execOp,ho,vx,((o8 (P:=P) hT hi Nb xt 0 .nilFunc true w1).2 zv (z1 w1)).2],q1⟩,q2⟩
   exact h.elim
  exact h.elim
 exact h.elim

theorem xj(hT:bH P T)(hR:Rep D G N H lim X a w)(o:Oper)(k:PV->Prop)(h:pop T G K X o.op k):∃p,qe P K a w H lim o p/\k p:=by
 cases ho:o.op <;> rw [ho] at h
 case move x=>simp only [pop] at h;exact uT hR (.inl ho) h
 case assign x=>simp only [pop] at h;exact uT hR (.inr ho) h
 case fieldAddr t x f=>simp only [pop] at h;exact rv hT hR ho h
 case indexAddr t x i=>simp only [pop] at h;exact ru hT hR ho h
 case load t x=>simp only [pop] at h;exact sk hT hR ho h
 case field t x f=>simp only [pop] at h;exact zb hT hR ho h
 case binOp op t x y yt=>simp only [pop] at h;exact DN hT hR ho h
 case slice t x lo hi mx=>simp only [pop] at h;exact zj hT hR ho h
 case pick c x y=>
  simp only [pop] at h
  split at h
  ·rename_i t hc
   have vc:=aw hR hc
   simp only [V,VD] at vc
   split at h
   ·split at h
    ·rename_i p hx
     exact ⟨p,⟨a.eval x,fun _ _=>by simp [execOp,ho,vc,asBool],aw hR hx⟩,h⟩
    exact h.elim
   split at h
   ·rename_i p hx
    exact ⟨p,⟨a.eval y,fun _ _=>by simp [execOp,ho,vc,asBool],aw hR hx⟩,h⟩
   exact h.elim
  exact h.elim
 case nilCheck x=>
  simp only [pop] at h
  split at h
  ·rename_i i off hx
   have vx:=aw hR hx
   simp only [V] at vx
   obtain ⟨b,h1,h2⟩:=vx
   exact ⟨_,⟨_,fun _ _=>by simp [execOp,ho,h2];rfl,by simp only [V];exact ⟨b,h1,rfl⟩⟩,h⟩
  ·rename_i cs hx
   have vx:=aw hR hx
   simp only [V] at vx
   obtain ⟨b,off,h1,h2⟩:=vx
   exact ⟨_,⟨_,fun _ _=>by simp [execOp,ho,h1];rfl,by simp only [V];exact ⟨b,off,rfl,h2⟩⟩,h⟩
  ·rename_i f cs hx
   have vx:=aw hR hx
   simp only [V] at vx
   obtain ⟨vs,h1,h2⟩:=vx
   exact ⟨_,⟨_,fun _ _=>by simp [execOp,ho,h1];rfl,by simp only [V];exact ⟨vs,rfl,h2⟩⟩,h⟩
  exact h.elim
 case unOp op t x=>
  cases op <;> simp only [pop] at h
  ·split at h
   ·rename_i ik i hx
    have vx:=aw hR hx
    simp only [V,VD] at vx
    exact ⟨_,⟨_,fun _ _=>by simp [execOp,ho,vx,Op.unary,Op.intArith];rfl,by simp [V,VD]⟩,h⟩
   exact h.elim
  split at h
  ·rename_i b hx
   have vx:=aw hR hx
   simp only [V,VD] at vx
   exact ⟨_,⟨_,fun _ _=>by simp [execOp,ho,vx,Op.unary];rfl,by simp [V,VD]⟩,h⟩
  exact h.elim
 case convert src dst x=>
  simp only [pop] at h
  split at h
  ·rename_i h1 h2 hx
   obtain ⟨d1,sE,J9⟩:=bo hT h1
   obtain ⟨d2,IH,Ox⟩:=bo hT h2
   simp only [eX] at sE IH
   subst sE IH
   have vx:=aw hR hx
   simp only [V,VD] at vx
   exact ⟨_,⟨_,fun _ _=>by simp [execOp,ho,vx,convert,J9,Ox,Conv.intToInt];rfl,by simp [V,VD]⟩,h⟩
  ·rename_i h1 h2 hx
   obtain ⟨d1,sE,J9⟩:=bo hT h1
   obtain ⟨d2,IH,Ox⟩:=bo hT h2
   simp only [eX] at sE IH
   subst sE IH
   have vx:=aw hR hx
   simp only [V,VD] at vx
   exact ⟨_,⟨_,fun _ _=>by simp [execOp,ho,vx,convert,J9,Ox];rfl,by simp [V,VD]⟩,h⟩
  ·rename_i e _ _ _ _ _ _ m xs h1 h2 hx
   obtain ⟨d2,IH,Ox⟩:=bo hT h2
   exact B6 hT hR ho h1 h2 hx h
  exact h.elim
 case makeInterface t x=>
  simp only [pop] at h
  split at h
  ·exact h.elim
  ·exact h.elim
  rename_i ti Nb Wb
  have fo:∀v w,(Instr.makeInterface t v).run P w=.ok (.iface t v) w:=by
   intro v w
   cases Wc:T t with
   |none=>exact (Wb Wc).elim
   |some i=>
    obtain ⟨d,hd,hu⟩:=bo hT Wc
    cases Rb:i.desc <;> rw [Rb] at hd <;> simp only [eX] at hd
    case iface=>
     obtain ⟨dd,sz,Za,zz⟩:=i
     simp only at Rb
     subst Rb
     exact (Nb sz Za zz Wc).elim
    all_goals first
     | (subst hd;simp [Instr.makeInterface,hu])
     | (obtain ⟨_,rfl,_⟩:=hd;simp [Instr.makeInterface,hu])
     | (obtain ⟨_,_,_,rfl⟩:=hd;simp [Instr.makeInterface,hu])
  split at h
  ·rename_i x' hx
   have vx:=aw hR hx
   simp only [V] at vx
   exact ⟨_,⟨.iface t (a.eval x),fun _ _=>by simp [execOp,ho,fo],by simp only [V,VD];exact ⟨_,rfl,vx⟩⟩,h⟩
  ·exact h.elim
  ·rename_i p _ _ hx
   have vx:=aw hR hx
   exact ⟨_,⟨.iface t (a.eval x),fun _ _=>by simp [execOp,ho,fo],by simp only [V];exact ⟨_,rfl,vx⟩⟩,h⟩
  exact h.elim
 case extract x i=>
  simp only [pop] at h
  split at h
  ·rename_i cs hx
   have vx:=aw hR hx
   simp only [V] at vx
   obtain ⟨vs,hv,eq⟩:=vx
   split at h
   ·rename_i p hp
    obtain ⟨v,h1,h2⟩:=kG eq hp
    exact ⟨p,⟨v,fun _ _=>by simp [execOp,ho,hv,Instr.extract,h1],h2⟩,h⟩
   exact h.elim
  exact h.elim
 case index t x i=>
  simp only [pop] at h
  split at h
  ·rename_i h1 hx hi
   obtain ⟨d1,sE,J9⟩:=bo hT h1
   simp only [eX] at sE
   subst sE
   have vx:=aw hR hx
   have vi:=aw hR hi
   simp only [V,VD] at vx vi
   rename_i s ik i'
   obtain ⟨h0,hlt,hk⟩:=h
   have Tw:i'.toNat<s.size:=by omega
   refine ⟨_,⟨.int .u8 (byteAt s i'),?_,by simp [V,VD]⟩,hk⟩
   have hb:byteAt s i'=(s[i'.toNat].toNat:Int):=by simp [byteAt,Tw]
   intro w1 _
   simp [execOp,ho,vx,vi,Instr.index,asIntOf,J9,h0,Tw,hb]
  exact h.elim
 case lookup t x i ok=>simp only [pop] at h;exact vV hT hR ho h
 case typeAssert x xt t ok=>simp only [pop] at h;exact vW hT hR ho h
 case call c=>
  simp only [pop] at h
  split at h
  ·rename_i x t hc ha ht
   obtain ⟨p,v,h1,h2,h3⟩:=DO hT hR o.type h
   refine ⟨p,⟨v,?_,h2⟩,h3⟩
   have JF:c.args = #[x]:=by rw [<- Array.toArray_toList (xs:=c.args),ha]
   have Ra:c.argTypes = #[t]:=by rw [<- Array.toArray_toList (xs:=c.argTypes),ht]
   intro w1 _
   simp [execOp,ho,resolve,hc,JF,Ra,invoke,builtin,h1]
  ·rename_i x y hc ha
   split at h
   ·rename_i i a' j b' hx hy
    have vx:=aw hR hx
    have vy:=aw hR hy
    simp only [V,VD] at vx vy
    have JF:c.args = #[x,y]:=by rw [<- Array.toArray_toList (xs:=c.args),ha]
    exact ⟨_,⟨_,fun w1 _=>by simp [execOp,ho,resolve,hc,JF,invoke,builtin,vx,vy,run_max_int2];rfl,by simp [V,VD,tK]⟩,h⟩
   exact h.elim
  ·rename_i x y z hc ha
   split at h
   ·rename_i i a' j b' j' c' hx hy hz
    have vx:=aw hR hx
    have vy:=aw hR hy
    have vz:=aw hR hz
    simp only [V,VD] at vx vy vz
    have JF:c.args = #[x,y,z]:=by rw [<- Array.toArray_toList (xs:=c.args),ha]
    exact ⟨_,⟨_,fun w1 _=>by simp [execOp,ho,resolve,hc,JF,invoke,builtin,vx,vy,vz,run_max_int3];rfl,by simp [V,VD,tK]⟩,h⟩
   exact h.elim
  exact h.elim
 all_goals (simp only [pop] at h)
end
end
section

def pt{α:Type}(f:Nat->α)(i:Nat)(x:α):Nat->α:=fun j=>if j=i then x else f j
theorem aX{α:Type}(f:Nat->α)(i:Nat)(x:α):pt f i x i=x:=by simp [pt]
theorem ch{α:Type}(f:Nat->α){i j:Nat}(x:α)(h:j≠i):pt f i x j=f j:=by simp [pt,h]

section
variable {P:Program}{G:Glob}{D:List Deferred}{N:Nat}{H H':Nat->Option Value}{lim lim':Nat->Nat}{X:St}{a:Act}{w w':World}{T:Tab}{Wr:Nat->Prop}

theorem Fr.weaken{Wr':Nat->Prop}(h:Fr Wr lim w lim' w')(hw:∀b,Wr b->Wr' b):Fr Wr' lim w lim' w':=
 ⟨h.os,h.tape,h.output,h.size,h.keep,fun b hb hn=>h.same b hb fun q=>hn (hw b q)⟩

theorem fu{n id b:Nat}{x:Option Value}(e:id≠n):Ow (pt H n x) id b↔Ow H id b:=by
 unfold Ow
 rw [ch _ _ e]
theorem J_{m n:Nat}{u:Value}(hu:∀b,JJ u b->Bl H b\/m<=b)(b:Nat)(h:Bl (pt H n (some u)) b):Bl H b\/m<=b:=by
 obtain ⟨id,hb⟩:=h
 by_cases e:id=n
 ·rw [e,bU (aX _ _ _)] at hb
  exact hu b hb
 rw [fu e] at hb
 exact .inl ⟨id,hb⟩
theorem GlobOk.mono(h:Fr Wr lim w lim' w')(hW:∀b,Wr b->Bl H b)(hB:∀b,Bl H' b->Bl H b\/w.heap.size<=b)(hg:GlobOk G H lim w):GlobOk G H' lim' w':=by
 refine ⟨Nat.le_trans hg.size h.size,fun b hb=>?_,fun g v Zb hv=>?_⟩
 ·rcases hB b hb with q|q
  ·exact hg.rows b q
  exact Nat.le_trans hg.size q
 have hk:=hg.holds g v Zb hv
 have Ia:∀b,b<NGof G->w'.heap[b]? = w.heap[b]?:=fun b hb=>(h.same b (Nat.lt_of_lt_of_le hb hg.size) fun q=>by have:=hg.rows b (hW b q);omega).1
 by_cases ho:jg v=true
 ·obtain ⟨h1,h2,h3⟩:=hk.one ho
  have hb:g<w.heap.size:=World.block_lt_of_cell? w (a:=⟨g,0,none⟩) h1
  have:w'.cell? ⟨g,0,none⟩=some v/\0<lim' g/\jg v=true:=⟨((h.keep g hb).2 0 h2).trans h1,Nat.lt_of_lt_of_le h2 (h.keep g hb).1,h3⟩
  cases v <;> first|exact this|cases ho
 cases v
 case tuple cs=>
  obtain ⟨h1,ty,fr,h2⟩:=hk
  exact ⟨h1,ty,fr,(Ia g h1).trans h2⟩
 case agg vs=>
  obtain ⟨b,cs,ty,e,h1,h2⟩:=hk
  exact ⟨b,cs,ty,e,h1,(Ia b.block h1).trans h2⟩
 all_goals first
  |exact absurd rfl ho
  |exact absurd hk.2.2 ho

theorem eH{b:Nat}{o:Obj}(h:w.heap[b]? = some o):b<w.heap.size:=(Array.getElem?_eq_some_iff.1 h).1

theorem J'{fz:Bool}:∀ {es:List (BA×List Int)}{i:Nat}{ms:List MapEntry}{hs:List Value}{v:Value}{c:Nat},AE lim w fz i es ms hs->v∈hs->blk v=some c->c<w.heap.size
 |[],_,_,_,_,_,h,hv,_=>by obtain ⟨_,rfl⟩:=h;cases hv
 | (k,l')::r,i,ms,hs,v,c,h,hv,hc=>by
  obtain ⟨e,ms',c',ty,yd,cap,rfl,rfl,_,_,h3,_,h5,_,h7⟩:=h
  rcases List.mem_cons.1 hv with rfl|hv
  ·rw [h3] at hc
   cases hc
   exact eH h5
  exact J' h7 hv hc
theorem pG(hF:Fr Wr lim w lim' w'){fz:Bool}:∀ {es:List (BA×List Int)}{i:Nat}{ms:List MapEntry}{hs:List Value},(∀v b,v∈hs->blk v=some b->¬Wr b)->AE lim w fz i es ms hs->AE lim' w' fz i es ms hs
 |[],_,_,_,_,h=>h
 | (k,l')::r,i,ms,hs,hb,h=>by
  obtain ⟨e,ms',c,ty,yd,cap,rfl,rfl,h1,h2,h3,h4,h5,h6,h7⟩:=h
  have hn:=hb e.val c (List.mem_cons_self ..) (by rw [h3];rfl)
  obtain ⟨e1,e2⟩:=hF.same c (eH h5) hn
  exact ⟨e,ms',c,ty,yd,cap,rfl,rfl,h1,h2,h3,h4,e1.trans h5,e2.trans h6,pG hF (fun v b hv=>hb v b (List.mem_cons_of_mem _ hv)) h7⟩
theorem Rc{fz:Bool}{ks:List (Nat×Nat)}{ls:List (List Int)}(h:KR lim w fz ks ls){b:Nat}(hb:b∈ks.map (·.1)):b<w.heap.size:=by
 obtain ⟨q,hq,rfl⟩:=List.mem_map.1 hb
 obtain ⟨j,hj⟩:=List.mem_iff_getElem?.1 hq
 obtain ⟨l,_,_,_,⟨ty,h5⟩,_⟩:=tI h hj
 exact eH h5
theorem sW(hF:Fr Wr lim w lim' w'){fz:Bool}:∀ {ks:List (Nat×Nat)}{ls:List (List Int)},(∀b,b∈ks.map (·.1)->¬Wr b)->KR lim w fz ks ls->KR lim' w' fz ks ls
 |[],_,_,h=>h
 |q::ks,ls,hb,h=>by
  obtain ⟨l,r,rfl,h1,h2,⟨ty,h3⟩,h4,h5⟩:=h
  obtain ⟨e1,e2⟩:=hF.same q.1 (eH h3) (hb _ (List.mem_cons_self ..))
  exact ⟨l,r,rfl,h1,h2,⟨ty,e1.trans h3⟩,e2.trans h4,sW hF (fun b hm=>hb b (List.mem_cons_of_mem _ hm)) h5⟩
theorem iR{id:Nat}{r:Row}(h:RowOk H lim w id r){b:Nat}(hb:Ow H id b):b<w.heap.size:=by
 cases r with
 |box ty cells=>
  obtain ⟨b',cs,h1,h2,_⟩:=h
  rw [bU h1] at hb
  have hb:b=b':=hb
  subst hb
  exact eH h2
 |acc e k xs=>
  obtain ⟨u,zs,h1,⟨_,ho⟩,_⟩:=h
  rcases ho with ⟨hv,_⟩|⟨g,cap,po,hv,_,hh,_⟩
  ·rw [bU h1,hv] at hb
   exact hb.elim
  rw [bU h1,hv] at hb
  have hb:b=g:=hb
  subst hb
  exact eH hh
 |map t es=>
  obtain ⟨b',ms,h1,h2,_⟩:=h
  rw [bU h1] at hb
  have hb:b=b':=hb
  subst hb
  exact eH h2
 |vec ty xs=>
  obtain ⟨b',cs,h1,h2,_⟩:=h
  rw [bU h1] at hb
  have hb:b=b':=hb
  subst hb
  exact eH h2
 |amap t fz es=>
  obtain ⟨b',ms,hs,h1,h2,h3,_⟩:=h
  rw [bU h1] at hb
  obtain ⟨v,hv,G8⟩:=hb
  rcases List.mem_cons.1 (show v∈Value.map (some b')::hs by simpa using hv) with rfl|hv
  ·cases G8
   exact eH h2
  exact J' h3 hv G8
 |arrs fz ks ls=>
  obtain ⟨h1,h2,_⟩:=h
  rw [bU h1,jJ] at hb
  exact Rc h2 hb

theorem gk(hF:Fr Wr lim w lim' w')(hH:∀i v,H i=some v->H' i=some v){id:Nat}{r:Row}(hb:∀b,Ow H id b->¬Wr b)(h:RowOk H lim w id r):RowOk H' lim' w' id r:=by
 have hlt:=fun b (q:Ow H id b)=>iR h q
 cases r with
 |box ty cells=>
  obtain ⟨b,cs,h1,h2,h3,h4⟩:=h
  have fA:Ow H id b:=(bU h1).2 rfl
  obtain ⟨e1,e2⟩:=hF.same b (hlt b fA) (hb b fA)
  exact ⟨b,cs,hH id _ h1,e1.trans h2,Vs.mono hF hH cells cs h3,e2.trans h4⟩
 |acc e k xs=>
  obtain ⟨u,zs,h1,⟨hl,ho⟩,h2,h3,h4,h5⟩:=h
  refine ⟨u,zs,hH id _ h1,⟨hl,?_⟩,VDs.mono hF _ _ h2,h3,h4,fun b q=>?_⟩
  ·rcases ho with ho|⟨g,cap,po,hv,hg,hh,r⟩
   ·exact .inl ho
   have fA:Ow H id g:=(bU h1).2 (by rw [hv];rfl)
   exact .inr ⟨g,cap,po,hv,hg,((hF.same g (hlt g fA) (hb g fA)).1).trans hh,r⟩
  have fA:Ow H id b:=(bU h1).2 (kD q)
  rw [(hF.same b (hlt b fA) (hb b fA)).2]
  exact h5 b q
 |map t es=>
  obtain ⟨b,ms,h1,h2,h3,h4⟩:=h
  have fA:Ow H id b:=(bU h1).2 rfl
  obtain ⟨e1,e2⟩:=hF.same b (hlt b fA) (hb b fA)
  exact ⟨b,ms,hH id _ h1,e1.trans h2,VE.mono hF es 0 _ h3,e2.trans h4⟩
 |vec ty xs=>
  obtain ⟨b,cs,h1,h2,h3,h4⟩:=h
  have fA:Ow H id b:=(bU h1).2 rfl
  obtain ⟨e1,e2⟩:=hF.same b (hlt b fA) (hb b fA)
  exact ⟨b,cs,hH id _ h1,e1.trans h2,Vs.mono hF hH _ cs h3,e2.trans h4⟩
 |amap t fz es=>
  obtain ⟨b,ms,hs,h1,h2,h3,h4,h5⟩:=h
  have fA:Ow H id b:=(bU h1).2 ⟨.map (some b),by simp,rfl⟩
  obtain ⟨e1,e2⟩:=hF.same b (hlt b fA) (hb b fA)
  exact ⟨b,ms,hs,hH id _ h1,e1.trans h2,pG hF (fun v c hv hc=>hb c ((bU h1).2 ⟨v,by simp [hv],hc⟩)) h3,e2.trans h4,h5⟩
 |arrs fz ks ls=>
  obtain ⟨h1,h2,h3⟩:=h
  exact ⟨hH id _ h1,sW hF (fun b hm=>hb b ((bU h1).2 (jJ.2 hm))) h2,h3⟩

theorem io (hF:Fr Wr lim w lim' w') (hH:∀i v,H i=some v->H' i=some v) {env:List (Nat×PV)}
  (h:∀j p,look env j=some p->j<N/\V H lim w p (a.tmps.getD j undef)):∀j p,look env j=some p->j<N/\V H' lim' w' p (a.tmps.getD j undef):=
 fun j p hj=>⟨(h j p hj).1,V.mono hF hH p _ (h j p hj).2⟩

theorem jc(o:Obj)(m:Nat):Fr (fun _=>False) lim w (pt lim w.heap.size m) (w.alloc o):=by
 refine ⟨rfl,rfl,rfl,by simp,fun b hb=>?_,fun b hb _=>?_⟩
 ·rw [ch _ _ (by omega)]
  refine ⟨nR _,fun o' _=>?_⟩
  exact World.cell?_alloc_lt w _ _ hb
 rw [ch _ _ (by omega)]
 exact ⟨heap_alloc_old w _ hb,rfl⟩

theorem vX{α:Type}{l:List α}{x r:α}{i:Nat}(h:(l++[x])[i]? = some r):l[i]? = some r\/(i=l.length/\r=x):=by
 rcases Nat.lt_or_ge i l.length with hi|hi
 ·rw [List.getElem?_append_left hi] at h;exact .inl h
 rw [List.getElem?_append_right hi] at h
 rcases Nat.eq_zero_or_pos (i - l.length) with h0|h0
 ·rw [h0,List.getElem?_cons_zero,sI] at h
  exact .inr ⟨by omega,h.symm⟩
 rw [List.getElem?_eq_none (by simp;omega)] at h;cases h

structure Nx (D:List Deferred) (F:Nat->Prop) (G:Glob) (N:Nat) (H:Nat->Option Value) (lim:Nat->Nat) (w:World) (X':St) (a:Act) (H':Nat->Option Value) (lim':Nat->Nat) (w':World):Prop where
 rep:Rep D G N H' lim' X' a w'
 fr:Fr (fun b=>∃id,F id/\Ow H id b) lim w lim' w'
 ptr:∀id v,stay v=true->H id=some v->H' id=H id
 blocks:∀b,Bl H' b->Bl H b\/w.heap.size<=b

theorem G9 (hR:RowsOk H lim w X.rows) (hF:Fr (fun _=>False) lim w lim' w') {r:Row}{u:Value}(hu:∀b,JJ u b->w.heap.size<=b)
  (hr:RowOk (pt H X.rows.length (some u)) lim' w' X.rows.length r):RowsOk (pt H X.rows.length (some u)) lim' w' (X.rows++[r]):=by
 have hn:H X.rows.length=none:=hR.dom _ (nR _)
 have hH:∀i v,H i=some v->pt H X.rows.length (some u) i=some v:=by
  intro i v hi
  rw [ch _ _ (fun q=>by rw [q,hn] at hi;cases hi)]
  exact hi
 have hlt:∀i b,Ow H i b->b<w.heap.size:=by
  intro i b hb
  rcases Nat.lt_or_ge i X.rows.length with hi|hi
  ·exact iR (hR.row i _ (List.getElem?_eq_getElem hi)) hb
  exact absurd hb (jr (hR.dom i hi))
 refine ⟨fun id r' h=>?_,fun i j b qP hi hj=>?_,fun id h=>?_⟩
 ·rcases vX h with h|⟨rfl,rfl⟩
  ·exact gk hF hH (fun _ _ q=>q) (hR.row id r' h)
  exact hr
 ·by_cases e1:i=X.rows.length
  ·have e2:j≠X.rows.length:=fun q=>qP (e1.trans q.symm)
   rw [e1,bU (aX _ _ _)] at hi
   rw [fu e2] at hj
   have:=hu b hi
   have:=hlt j b hj
   omega
  rw [fu e1] at hi
  by_cases e2:j=X.rows.length
  ·rw [e2,bU (aX _ _ _)] at hj
   have:=hu b hj
   have:=hlt i b hi
   omega
  rw [fu e2] at hj
  exact hR.apart i j b qP hi hj
 rw [lA,List.length_singleton] at h
 rw [ch _ _ (by omega)]
 exact hR.dom id (by omega)

theorem h_ (hR:Rep D G N H lim X a w) (hF:Fr (fun _=>False) lim w lim' w') {r:Row}{u:Value}(hu:∀b,JJ u b->w.heap.size<=b)
  (hr:RowOk (pt H X.rows.length (some u)) lim' w' X.rows.length r):Nx D (fun _=>False) G N H lim w { X with rows:=X.rows++[r] } a (pt H X.rows.length (some u)) lim' w':=by
 have hn:H X.rows.length=none:=hR.rows.dom _ (nR _)
 have aO:∀i v,H i=some v->i≠X.rows.length:=fun i v hi q=>by rw [q,hn] at hi;cases hi
 refine ⟨⟨io hF (fun i v hi=>by rw [ch _ _ (aO i v hi)];exact hi) hR.env,G9 hR.rows hF hu hr,hR.glob.mono hF (fun _ q=>q.elim) (J_ fun b hb=>.inr (hu b hb)),hR.defers,hR.size⟩,hF.weaken fun _ q=>q.elim,fun id q _ h=>?_,fun b hb=>?_⟩
 ·rw [ch _ _ (aO id _ h)]
 obtain ⟨id,hid⟩:=hb
 by_cases e:id=X.rows.length
 ·rw [e,bU (aX _ _ _)] at hid
  exact .inr (hu b hid)
 rw [fu e] at hid
 exact .inl ⟨id,hid⟩

theorem zu(hR:Rep D G N H lim X a w){ty:TypeId}{cells:List PV}{cs:List Value}(h:Vs H lim w cells cs):
  Nx D (fun _=>False) G N H lim w { X with rows:=X.rows++[.box ty cells] } a (pt H X.rows.length (some (.pointer (some ⟨w.heap.size,0,none⟩)))) (pt lim w.heap.size 0) (w.alloc (.cells cs.toArray ty)):=by
 have hn:H X.rows.length=none:=hR.rows.dom _ (nR _)
 have hF:=jc (lim:=lim) (w:=w) (.cells cs.toArray ty) 0
 refine h_ hR hF (fun b hb=>Nat.le_of_eq (Eq.symm hb)) ⟨w.heap.size,cs,by simp [aX],heap_alloc_new w _,?_,aX _ _ _⟩
 exact Vs.mono hF (fun i v hi=>by rw [ch _ _ (fun q=>by rw [q,hn] at hi;cases hi)];exact hi) cells cs h

theorem Nc(hR:Rep D G N H lim X a w)(o:Obj)(m:Nat):Nx D (fun _=>False) G N H lim w X a H (pt lim w.heap.size m) (w.alloc o):=by
 have hF:=jc (lim:=lim) (w:=w) o m
 exact ⟨⟨io hF (fun _ _ q=>q) hR.env,⟨fun id r h=>gk hF (fun _ _ q=>q) (fun _ _ q=>q) (hR.rows.row id r h),hR.rows.apart,hR.rows.dom⟩,hR.glob.mono hF (fun _ q=>q.elim) (fun _ q=>.inl q),hR.defers,hR.size⟩,
  hF.weaken fun _ q=>q.elim,fun _ _ _ _=>rfl,fun b hb=>.inl hb⟩
end
end
section

def B7:PV->Bool
 |.d x=>d_ x
 |.agg _=>false
 |.tup _=>false
 |.any=>false
 |_=>true
def lJ{α:Type}(f:α->Bool):List α->Bool
 |[]=>true
 |x::r=>f x&&lJ f r
def ql:PV->Option (List PV)
 |.d (.agg ds)=>match lJ d_ ds with
  |true=>some (ds.map PV.d)
  |false=>none
 |.agg cs=>match lJ B7 cs with
  |true=>some cs
  |false=>none
 |p=>match B7 p with
  |true=>some [p]
  |false=>none
def fR{α:Type}(l:List α)(off:Nat)(r:List α):List α:=l.take off++r++l.drop (off+r.length)

section
variable {P:Program}{G:Glob}{D:List Deferred}{N:Nat}{H H':Nat->Option Value}{lim lim':Nat->Nat}{X:St}{a:Act}{w w':World}{T:Tab}{Wr:Nat->Prop}

theorem rA{d:Data}{v:Value}(h:d_ d=true)(hv:VD lim w d v):jg v=true:=by
 cases d <;> simp only [d_] at h <;> simp only [VD] at hv
 ·subst hv;exact h
 ·obtain ⟨A,n,c,rfl,_⟩:=hv;rfl
 ·cases h
 obtain ⟨u,rfl,_⟩:=hv;rfl
theorem Ka{fz:Bool}:∀ {es:List (BA×List Int)}{i:Nat}{ms:List MapEntry}{hs:List Value}{v:Value},AE lim w fz i es ms hs->v∈hs->jg v=true
 |[],_,_,_,_,h,hv=>by obtain ⟨_,rfl⟩:=h;cases hv
 | (k,l')::r,i,ms,hs,v,h,hv=>by
  obtain ⟨e,ms',c',ty,yd,cap,rfl,rfl,_,_,h3,_,h5,_,h7⟩:=h
  rcases List.mem_cons.1 hv with rfl|hv
  ·rw [h3];rfl
  exact Ka h7 hv
theorem xk(hR:RowsOk H lim w X.rows){p:PV}{v:Value}(h:B7 p=true)(hv:V H lim w p v):jg v=true:=by
 cases p <;> simp only [B7] at h <;> simp only [V] at hv
 ·exact rA h hv
 ·rename_i id
  rcases Nat.lt_or_ge id X.rows.length with hi|hi
  ·have:=hR.row id _ (List.getElem?_eq_getElem hi)
   revert this
   generalize X.rows[id]=r
   intro this
   cases r with
   |box ty cells=>obtain ⟨b,cs,h1,_⟩:=this;rw [hv] at h1;cases h1;rfl
   |acc e k xs=>
    obtain ⟨u,zs,h1,⟨_,ho⟩,_⟩:=this
    rw [hv] at h1
    cases h1
    rcases ho with ⟨rfl,_⟩|⟨g,cap,po,rfl,_⟩ <;> rfl
   |map t es=>obtain ⟨b,ms,h1,_⟩:=this;rw [hv] at h1;cases h1;rfl
   |vec ty xs=>obtain ⟨b,cs,h1,_⟩:=this;rw [hv] at h1;cases h1;rfl
   |amap t fz es=>obtain ⟨b,ms,hs,h1,_⟩:=this;rw [hv] at h1;cases h1;rfl
   |arrs fz ks ls=>obtain ⟨h1,_⟩:=this;rw [hv] at h1;cases h1;rfl
  rw [hR.dom id hi] at hv;cases hv
 ·cases h
 ·cases h
 ·obtain ⟨b,_,rfl⟩:=hv;rfl
 ·obtain ⟨b,o,rfl,_⟩:=hv;rfl
 ·obtain ⟨vs,rfl,_⟩:=hv;rfl
 ·obtain ⟨u,rfl,_⟩:=hv;rfl
 ·obtain ⟨b,cap,_,rfl,_⟩:=hv;rfl
 ·rename_i id j
  obtain ⟨vs,h1,h2⟩:=hv
  rcases Nat.lt_or_ge id X.rows.length with hi|hi
  ·have:=hR.row id _ (List.getElem?_eq_getElem hi)
   revert this
   generalize X.rows[id]=r
   intro this
   cases r with
   |box ty cells=>obtain ⟨b,cs,h3,_⟩:=this;rw [h1] at h3;cases h3
   |acc e k xs=>
    obtain ⟨u,zs,h3,⟨_,ho⟩,_⟩:=this
    rw [h1] at h3
    cases h3
    rcases ho with ⟨q,_⟩|⟨g,cap,po,q,_⟩ <;> cases q
   |map t es=>obtain ⟨b,ms,h3,_⟩:=this;rw [h1] at h3;cases h3
   |vec ty xs=>obtain ⟨b,cs,h3,_⟩:=this;rw [h1] at h3;cases h3
   |amap t fz es=>
    obtain ⟨b,ms,hs,h3,_,h4,_⟩:=this
    rw [h1] at h3
    have h3:=kC (Option.some.inj h3)
    rw [h3] at h2
    rcases List.mem_cons.1 (List.mem_of_getElem? h2) with rfl|h2
    ·rfl
    exact Ka h4 h2
   |arrs fz ks ls=>
    obtain ⟨h3,_⟩:=this
    rw [h1] at h3
    have h3:=kC (Option.some.inj h3)
    rw [h3] at h2
    obtain ⟨q,_,rfl⟩:=List.mem_map.1 (List.mem_of_getElem? h2)
    rfl
  rw [hR.dom id hi] at h1;cases h1
 ·obtain ⟨vs,b,n,c,_,_,rfl⟩:=hv;rfl
 cases h
theorem FH:∀(ds:List Data) (vs:List Value),lJ d_ ds=true->VDs lim w ds vs->∀u,u∈vs->jg u=true
 |[],vs,_,hv,u,hu=>by simp only [VDs] at hv;subst hv;cases hu
 |d::ds,vs,h,hv,u,hu=>by
  simp only [lJ,bE] at h
  simp only [VDs] at hv
  obtain ⟨x,xs,rfl,h1,h2⟩:=hv
  rcases List.mem_cons.1 hu with rfl|hu
  ·exact rA h.1 h1
  exact FH ds xs h.2 h2 u hu
theorem Kc(hR:RowsOk H lim w X.rows):∀(ds:List PV) (vs:List Value),lJ B7 ds=true->Vs H lim w ds vs->∀u,u∈vs->jg u=true
 |[],vs,_,hv,u,hu=>by simp only [Vs] at hv;subst hv;cases hu
 |d::ds,vs,h,hv,u,hu=>by
  simp only [lJ,bE] at h
  simp only [Vs] at hv
  obtain ⟨x,xs,rfl,h1,h2⟩:=hv
  rcases List.mem_cons.1 hu with rfl|hu
  ·exact xk hR h.1 h1
  exact Kc hR ds xs h.2 h2 u hu
theorem xl:∀(ds:List Data) (vs:List Value),VDs lim w ds vs->Vs H lim w (ds.map PV.d) vs
 |[],vs,h=>by simpa only [List.map_nil,Vs,VDs] using h
 |d::ds,vs,h=>by
  simp only [VDs] at h
  obtain ⟨u,us,rfl,h1,h2⟩:=h
  simp only [List.map_cons,Vs,V]
  exact ⟨u,us,rfl,h1,xl ds us h2⟩
theorem G_{v:Value}(h:jg v=true):v.cells = #[v]:=by cases v <;> simp_all [jg,Value.cells]
theorem jQ(hR:RowsOk H lim w X.rows){p:PV}{v:Value}{cs:List PV}(h:ql p=some cs)(hv:V H lim w p v):
  ∃vs:List Value,v.cells=vs.toArray/\Vs H lim w cs vs/\∀u,u∈vs->jg u=true:=by
 unfold ql at h
 split at h
 ·rename_i ds
  split at h
  ·rename_i hf
   simp only [sI] at h
   subst h
   simp only [V,VD] at hv
   obtain ⟨vs,rfl,eq⟩:=hv
   exact ⟨vs,rfl,xl ds vs eq,FH ds vs hf eq⟩
  cases h
 ·rename_i ds
  split at h
  ·rename_i hf
   simp only [sI] at h
   subst h
   simp only [V] at hv
   obtain ⟨vs,rfl,eq⟩:=hv
   exact ⟨vs,rfl,eq,Kc hR ds vs hf eq⟩
  cases h
 split at h
 ·rename_i hf
  simp only [sI] at h
  subst h
  have h1:=xk hR hf hv
  refine ⟨[v],G_ h1,by simp only [Vs];exact ⟨v,[],rfl,hv,rfl⟩,fun u hu=>?_⟩
  simp only [List.mem_singleton] at hu
  subst hu
  exact h1
 cases h

theorem uV{b o:Nat}{cs:List Value}{ty:TypeId}(h:w.heap[b]? = some (.cells cs.toArray ty (0,0)))(v:Value):
  (w.setCell ⟨b,o,none⟩ v).heap[b]? = some (.cells (cs.set o v).toArray ty (0,0)):=by
 have hlt:=eH h
 have h':w.heap[b]=.cells cs.toArray ty (0,0):=by simpa [Array.getElem?_eq_getElem hlt] using h
 show (w.heap.modify b _)[b]? = _
 rw [Array.getElem?_eq_getElem (by simpa using hlt),Array.getElem_modify_self,h']
 simp
theorem my{b b' o:Nat}(v:Value)(h:b'≠b):(w.setCell ⟨b,o,none⟩ v).heap[b']? = w.heap[b']?:=by
 show (w.heap.modify b _)[b']? = _
 rw [Array.getElem?_modify]
 split
 ·rename_i e;exact absurd e.symm h
 rfl
theorem DY{b o:Nat}{cs:List Value}{ty:TypeId}(h:w.heap[b]? = some (.cells cs.toArray ty (0,0)))(ho:o<cs.length){v:Value}(hv:jg v=true):
  (store ⟨b,o,none⟩ v).run P w=.ok () (w.setCell ⟨b,o,none⟩ v):=by
 have hc:w.cell? ⟨b,o,none⟩=some cs[o]:=by simp [World.cell?,h,List.getElem?_eq_getElem ho]
 have hf:w.frozen? ⟨b,o,none⟩=false:=by simp [World.frozen?,h]
 cases v <;> simp [jg] at hv <;> simp [store,Sem.run,hc,hf]

theorem kT{b off ty:Nat}:∀(vs:List Value) (i:Nat) (w:World) (cs:List Value),w.heap[b]? = some (.cells cs.toArray ty (0,0))->off+i+vs.length<=cs.length->(∀u,u∈vs->jg u=true)->
  ∃w',(storeCells ⟨b,off,none⟩ vs i).run P w=.ok () w'/\w'.heap[b]? = some (.cells (fR cs (off+i) vs).toArray ty (0,0))/\w'.heap.size=w.heap.size/\(∀b',b'≠b->w'.heap[b']? = w.heap[b']?)/\w'.os=w.os/\w'.tape=w.tape/\w'.output=w.output
 |[],i,w,cs,h,hl,_=>⟨w,by simp [storeCells],by simpa [fR] using h,rfl,fun _ _=>rfl,rfl,rfl,rfl⟩
 |v::vs,i,w,cs,h,hl,h1=>by
  simp only [lC] at hl
  have iF:=DY (P:=P) h (o:=off+i) (by omega) (h1 v (List.mem_cons_self ..))
  have h':=uV h (o:=off+i) v
  obtain ⟨w',r1,r2,r3,r4,r5,r6,r7⟩:=kT (off:=off) vs (i+1) (w.setCell ⟨b,off+i,none⟩ v) (cs.set (off+i) v) h' (by simp;omega) (fun u hu=>h1 u (List.mem_cons_of_mem _ hu))
  refine ⟨w',?_,?_,r3.trans (by simp),fun b' gV=>(r4 b' gV).trans (my v gV),r5,r6,r7⟩
  ·simp only [storeCells,add_plain,Sem.run_bind,iF,Result.andThen,r1]
  rw [r2]
  congr 2
  unfold fR
  have e1:(cs.set (off+i) v).take (off+(i+1))=cs.take (off+i)++[v]:=by
   rw [<- Nat.add_assoc,List.take_add_one,List.take_set_of_le (nR _),List.getElem?_set_self (by omega)]
   rfl
  have e2:(cs.set (off+i) v).drop (off+(i+1)+vs.length)=cs.drop (off+i+(v::vs).length):=by
   rw [List.drop_set_of_lt (by omega)]
   congr 1
   simp only [lC]
   omega
  rw [e1,e2]
  simp
end
end
section
section
variable {P:Program}{G:Glob}{D:List Deferred}{N:Nat}{H H':Nat->Option Value}{lim lim':Nat->Nat}{X:St}{a:Act}{w w':World}{T:Tab}{Wr:Nat->Prop}

theorem B8{ps qs:List PV}{vs us:List Value}(h:Vs H lim w ps vs)(k:Vs H lim w qs us)(off:Nat):Vs H lim w (fR ps off qs) (fR vs off us):=by
 unfold fR
 rw [dA k]
 exact nk (nk (y5 h off) k) (y0 h _)
theorem da{α:Type}{l:List α}{i j:Nat}{x r:α}(h:(l.set i x)[j]? = some r):(j=i/\r=x)\/(j≠i/\l[j]? = some r):=by
 by_cases e:i=j
 ·subst e
  rw [List.getElem?_set] at h
  simp only [if_true] at h
  split at h
  ·exact .inl ⟨rfl,(Option.some.inj h).symm⟩
  cases h
 rw [List.getElem?_set_ne e] at h
 exact .inr ⟨fun q=>e q.symm,h⟩

theorem rB(hR:Rep D G N H lim X a w){id:Nat}{r r':Row}(hr:X.rows[id]? = some r)(hF:Fr (fun b=>Ow H id b) lim w lim' w')(h:RowOk H lim' w' id r'):
  Nx D (fun i=>i=id) G N H lim w { X with rows:=X.rows.set id r' } a H lim' w':=by
 have hid:id<X.rows.length:=(List.getElem?_eq_some_iff.1 hr).1
 refine ⟨⟨io hF (fun _ _ q=>q) hR.env,⟨fun j q hj=>?_,hR.rows.apart,fun j hj=>hR.rows.dom j (by simpa using hj)⟩,hR.glob.mono hF (fun b q=>⟨id,q⟩) (fun _ q=>.inl q),hR.defers,hR.size⟩,hF.weaken fun b q=>⟨id,rfl,q⟩,fun _ _ _ _=>rfl,fun b hb=>.inl hb⟩
 rcases da hj with ⟨rfl,rfl⟩|⟨aO,hj⟩
 ·exact h
 exact gk hF (fun _ _ q=>q) (fun b hb q=>hR.rows.apart j id b aO hb q) (hR.rows.row j q hj)

theorem Kd(hR:Rep D G N H lim X a w){id off:Nat}{ty:TypeId}{cells qs:List PV}{us:List Value}(hr:X.rows[id]? = some (.box ty cells))(VK:Vs H lim w qs us)(h1:∀u,u∈us->jg u=true)(hl:off+us.length<=cells.length){b:Nat}(hb:H id=some (.pointer (some ⟨b,0,none⟩))):
  ∃w',(storeCells ⟨b,off,none⟩ us).run P w=.ok () w'/\Nx D (fun i=>i=id) G N H lim w { X with rows:=X.rows.set id (.box ty (fR cells off qs)) } a H lim w':=by
 obtain ⟨b',cs,e1,e2,e3,e4⟩:=hR.rows.row id _ hr
 rw [hb] at e1
 simp only [sI,Value.pointer.injEq,Addr.mk.injEq,and_true] at e1
 subst e1
 obtain ⟨w',r1,r2,r3,r4,r5,r6,r7⟩:=kT (P:=P) (off:=off) us 0 w cs e2 (by rw [dA e3];omega) h1
 have fA:Ow H id b:=(bU hb).2 rfl
 have hF:Fr (fun b=>Ow H id b) lim w lim w':=by
  refine ⟨r5,r6,r7,by omega,fun c hc=>⟨nR _,fun o ho=>?_⟩,fun c hc hn=>⟨r4 c (fun q=>hn (q▸fA)),rfl⟩⟩
  have aO:c≠b:=fun q=>by rw [q,e4] at ho;omega
  exact World.cell?_of_block (w:=w) (r4 c aO)
 refine ⟨w',r1,rB hR hr hF ⟨b,_,hb,r2,?_,e4⟩⟩
 exact Vs.mono hF (fun _ _ q=>q) _ _ (B8 e3 VK _)

theorem DZ (t ty e:TypeId) (i:TypeInfo) (z:Value) (size bytes:Nat) (ht:P.underlying t=some (.slice e)) (hi:P.info? e=some i) (hz:i.zero=some z)
  (Oy:i.size=size) (Oz:i.bytes=bytes) (We:z.cells.size=size) (lB:0<size)
  (v:Value) (n:Nat) (xs:List Value) (ll:w.ownsRow 0 e size v n xs)
  (ad:Addr) (m c:Nat) (zw:List Value) (hl:zw.length=m * size) (FI:∀j u,zw[j]? = some u->w.cell? (ad.add j)=some u) (h1:∀u∈zw,u.oneCell'=true)
  (RU:n+m<=maxLen) (D0:(n+m) * bytes<=140737488355328) :
  ∃v' w',(Builtin.append_ #[t,t] ty #[v,.slice (some ad) m c]).run P w=.ok v' w'/\w'.ownsRow 0 e size v' (n+m) (xs++zw)/\
   ((blk v'=blk v/\w.grownBy w' (blk v))\/(blk v'=some w.heap.size/\w.grownBy w' none)):=by
 obtain ⟨v',w',hr,h2,h3,h4,h5⟩:=run_append_own_at (P:=P) w 0 t ty e i z size bytes ht hi hz Oy Oz We lB v n xs ll ad m c zw hl FI h1 RU D0 (Nat.zero_le _)
 have PA:∀(u:Value) (k:Nat) (zs:List Value) (w0:World),w0.ownsRow 0 e size u k zs->blk u=u.ownBlock:=by
  intro u k zs w0 hu
  rcases hu.2 with ⟨rfl,_⟩|⟨g,cap,po,rfl,_⟩ <;> rfl
 refine ⟨v',w',hr,h2,?_⟩
 rw [PA v n xs w ll,PA v' _ _ w' h2]
 rcases h5 with h5|h5
 ·exact .inl ⟨h5,h3⟩
 refine .inr ⟨h5,?_⟩
 subst Oy
 subst Oz
 have Zc:n+m<=9223372036854775807:=by simp only [maxLen] at RU;omega
 have B9:∀o:Obj,w'=w.drew.alloc o->w.grownBy w' none:=by
  rintro o rfl
  exact ⟨rfl,rfl,rfl,by simp,fun k hk _=>heap_alloc_old w.drew _ hk⟩
 rcases ll.2 with ⟨rfl,rfl⟩|⟨g,cap,po,rfl,_,hg,Le,_,eV,_⟩
 ·by_cases hm:m=0
  ·rw [(h4.2 ⟨rfl,hm⟩)] at h5;cases h5
  have js:=run_append_nil (P:=P) w t ty e i z ht hi hz ad m c zw hl FI (by omega) (by omega) (by have hb:=D0;rw [Nat.zero_add] at hb;omega)
  rw [hr] at js
  simp only [Result.ok.injEq] at js
  exact B9 _ js.2
 by_cases FJ:n+m<=cap
 ·have Re:n * i.size+zw.length<=po.size:=by rw [hl,eV,<- Nat.add_mul];exact Nat.mul_le_mul_right _ FJ
  have js:=run_append_room (P:=P) w t ty e i ht hi g n cap po hg ad m c zw hl FI h1 FJ Re
  rw [hr] at js
  simp only [Result.ok.injEq] at js
  rw [js.1] at h5
  simp only [Value.ownBlock,sI] at h5
  have:=eH hg
  omega
 have js:=run_append_grow (P:=P) w t ty e i z ht hi hz ⟨g,0,none⟩ n cap xs ll.1 (ll.cells (g:=g) rfl) ad m c zw hl FI (by omega) (by omega) (growslice_fits (by omega) D0)
 rw [hr] at js
 simp only [Result.ok.injEq] at js
 exact B9 _ js.2
end
end
section
section
variable {P:Program}{G:Glob}{D:List Deferred}{N:Nat}{H H':Nat->Option Value}{lim lim':Nat->Nat}{X:St}{a:Act}{w w':World}{T:Tab}{Wr:Nat->Prop}

theorem uW{ps qs:List Data}{vs us:List Value}(h:VDs lim w ps vs)(k:VDs lim w qs us):VDs lim w (ps++qs) (vs++us):=by
 induction ps generalizing vs with
 |nil=>simp only [VDs] at h;subst h;simpa using k
 |cons p ps ih=>simp only [VDs] at h;obtain ⟨u,QD,rfl,h1,h2⟩:=h;simp only [List.cons_append,VDs];exact ⟨u,QD++us,rfl,h1,ih h2⟩
theorem G'{d:Data}{v:Value}(h:d_ d=true)(hv:VD lim w d v):v.oneCell'=true:=by
 have:=rA h hv
 cases v <;> simp_all [jg,Value.oneCell']
theorem su{b:Nat}:∀(cs:List Data) (o:Nat),VCells lim w b o cs->∃us,VDs lim w cs us/\us.length=cs.length/\(∀u,u∈us->u.oneCell'=true)/\(∀j u,us[j]? = some u->w.cell? ⟨b,o+j,none⟩=some u)/\∀d,d∈cs->d_ d=true
 |[],_,_=>⟨[],by simp only [VDs],rfl,by simp,by simp,by simp⟩
 |c::cs,o,h=>by
  simp only [VCells] at h
  obtain ⟨⟨v,h1,_,hf,h3⟩,h4⟩:=h
  obtain ⟨us,q1,q2,q3,q4,q5⟩:=su cs (o+1) h4
  refine ⟨v::us,by simp only [VDs];exact ⟨v,us,rfl,h3,q1⟩,by simp [q2],fun u hu=>?_,fun j u hj=>?_,fun d hd=>?_⟩
  ·rcases List.mem_cons.1 hu with rfl|hu
   ·exact G' hf h3
   exact q3 u hu
  ·cases j with
   |zero=>simp only [List.getElem?_cons_zero,sI] at hj;subst hj;exact h1
   |succ j=>
    have:=q4 j u (by simpa using hj)
    rw [show o+(j+1)=o+1+j from by omega]
    exact this
  rcases List.mem_cons.1 hd with rfl|hd
  ·exact hf
  exact q5 d hd
theorem xm{b k:Nat}:∀(xs:List (List Data)) (o:Nat),VRow lim w b k o xs->∃us,VDs lim w xs.flatten us/\us.length=xs.length * k/\(∀u,u∈us->u.oneCell'=true)/\(∀j u,us[j]? = some u->w.cell? ⟨b,o+j,none⟩=some u)/\∀x,x∈xs->x.length=k/\∀d,d∈x->d_ d=true
 |[],_,_=>⟨[],by simp only [List.flatten_nil,VDs],by simp,by simp,by simp,by simp⟩
 |x::xs,o,h=>by
  simp only [VRow] at h
  obtain ⟨h1,h2,h3⟩:=h
  obtain ⟨us,q1,q2,q3,q4,q5⟩:=su x o h2
  obtain ⟨QD,r1,r2,r3,r4,r5⟩:=xm xs (o+k) h3
  refine ⟨us++QD,by simp only [List.flatten_cons];exact uW q1 r1,?_,fun u hu=>?_,fun j u hj=>?_,fun y hy=>?_⟩
  ·rw [lA,q2,r2,h1,lC,Nat.succ_mul,Nat.add_comm]
  ·rcases List.mem_append.1 hu with hu|hu
   ·exact q3 u hu
   exact r3 u hu
  ·rcases Nat.lt_or_ge j us.length with hl|hl
   ·rw [List.getElem?_append_left hl] at hj
    exact q4 j u hj
   rw [List.getElem?_append_right hl] at hj
   have:=r4 _ u hj
   rw [show o+k+(j - us.length)=o+j from by omega] at this
   exact this
  rcases List.mem_cons.1 hy with rfl|hy
  ·exact ⟨h1,q5⟩
  exact r5 y hy

theorem tg{e k n:Nat}{v:Value}{zs:List Value}(h:w.ownsRow 0 e k v n zs){b:Nat}(hb:JJ v b):blk v=some b:=by
 rcases h.2 with ⟨rfl,_⟩|⟨g,cap,po,rfl,_⟩
 ·exact hb.elim
 exact congrArg some (show b=g from hb).symm
theorem qm{row:Option Nat}(hg:w.grownBy w' row)(hk:∀b,b<w.heap.size->some b=row->lim b<=lim' b/\∀o,o<lim b->w'.cell? ⟨b,o,none⟩=w.cell? ⟨b,o,none⟩)(hl:∀b,b<w.heap.size->some b≠row->lim' b=lim b):Fr (fun b=>some b=row) lim w lim' w':=by
 refine ⟨hg.os,hg.tape,hg.output,hg.size,fun b hb=>?_,fun b hb hn=>⟨hg.block b hb hn,hl b hb hn⟩⟩
 by_cases e:some b=row
 ·exact hk b hb e
 rw [hl b hb e]
 exact ⟨nR _,fun o _=>World.cell?_of_block (w:=w) (hg.block b hb e)⟩

structure ElemOk (P:Program) (t e:TypeId) (k bytes:Nat):Prop where
 under:P.underlying t=some (.slice e)
 info:∃i z,P.info? e=some i/\i.zero=some z/\i.size=k/\i.bytes=bytes/\z.cells.size=k

theorem uX {t e:TypeId}{k bytes:Nat}(hE:ElemOk P t e k bytes) (hk:0<k) (ty:TypeId) {v x:Value}{xs ys:List (List Data)}{zs:List Value}
  (ll:w.ownsRow 0 e k v xs.length zs) (_hz:VDs lim w xs.flatten zs) (hx:VD lim w (.sl k ys) x) (hb:(xs.length+ys.length) * bytes<=140737488355328) (hm:xs.length+ys.length<=maxLen) :
  ∃v' w' us,(Builtin.append_ #[t,t] ty #[v,x]).run P w=.ok v' w'/\w'.ownsRow 0 e k v' (xs++ys).length (zs++us)/\VDs lim w ys.flatten us/\(∀y,y∈ys->y.length=k/\∀d,d∈y->d_ d=true)/\
   ((blk v'=blk v/\w.grownBy w' (blk v))\/(blk v'=some w.heap.size/\w.grownBy w' none)):=by
 obtain ⟨i,z,hi,CB,hs,Oz,We⟩:=hE.info
 simp only [VD] at hx
 obtain ⟨A,n,c,rfl,hn,_,_,pW⟩:=hx
 by_cases h0:n=0
 ·have RM:ys=[]:=lE (by omega)
  subst RM
  refine ⟨v,w,[],?_,by simpa using ll,by simp only [List.flatten_nil,VDs],by simp,.inl ⟨rfl,⟨rfl,rfl,rfl,nR _,fun _ _ _=>rfl⟩⟩⟩
  subst h0
  have hf:∀w,(Builtin.firstCells i.size 0 (.slice A 0 c)).run P w=.ok #[] w:=by
   intro w
   cases A <;> simp [Builtin.firstCells,loadCells,loadCellsFrom]
  rcases ll.2 with ⟨rfl,hl⟩|⟨g,cap,po,rfl,_,_,Le,_⟩
  ·simp [Builtin.append_,run_underlying hE.under,sizeOf,typeInfo,hi,Builtin.lenOf,hf]
  simp [Builtin.append_,run_underlying hE.under,sizeOf,typeInfo,hi,Builtin.lenOf,hf,Le,storeCells]
 obtain ⟨b,o,rfl,hr⟩:=pW h0
 obtain ⟨us,q1,q2,q3,q4,q5⟩:=xm ys o hr
 obtain ⟨v',w',r1,r2,r3⟩:=DZ (P:=P) t ty e i z k bytes hE.under hi CB hs Oz We hk v xs.length zs ll ⟨b,o,none⟩ n c us (by rw [q2,hn]) (fun j u hj=>by rw [add_plain];exact q4 j u hj) q3 (by omega) (by rw [hn];exact hb)
 refine ⟨v',w',us,r1,?_,q1,q5,r3⟩
 rw [lA,<- hn]
 exact r2

theorem sR{xs ys:List (List Data)}{k:Nat}(h:∀x,x∈xs->x.length=k/\∀d,d∈x->d_ d=true)(g:∀x,x∈ys->x.length=k/\∀d,d∈x->d_ d=true):∀x,x∈xs++ys->x.length=k/\∀d,d∈x->d_ d=true:=by
 intro x hx
 rcases List.mem_append.1 hx with hx|hx
 ·exact h x hx
 exact g x hx

theorem vY (hR:Rep D G N H lim X a w) {t e:TypeId}{k bytes:Nat}(hE:ElemOk P t e k bytes) (hk:0<k) (ty:TypeId) {x:Value}{ys:List (List Data)}
  (hx:VD lim w (.sl k ys) x) (hb:ys.length * bytes<=140737488355328) (hm:ys.length<=maxLen) :
  ∃v' w' lim',(Builtin.append_ #[t,t] ty #[.slice none 0 0,x]).run P w=.ok v' w'/\Nx D (fun _=>False) G N H lim w { X with rows:=X.rows++[.acc e k ys] } a (pt H X.rows.length (some v')) lim' w':=by
 obtain ⟨v',w',us,h1,h2,h3,h4,h5⟩:=uX (lim:=lim) (xs:=[]) (zs:=[]) hE hk ty (World.ownsRow_nil w 0 e k) (by simp only [List.flatten_nil,VDs]) hx (by simpa using hb) (by simpa using hm)
 have hg:w.grownBy w' none:=by
  rcases h5 with ⟨_,h⟩|⟨_,h⟩
  ·exact h
  exact h
 have sQ:Fr (fun _=>False) lim w (pt lim w.heap.size (ys.length * k)) w':=by
  have:=qm (lim:=lim) (lim':=pt lim w.heap.size (ys.length * k)) hg (fun b _ q=>by cases q) (fun b hb _=>ch _ _ (by omega))
  exact this.weaken fun b q=>by cases q
 refine ⟨v',w',pt lim w.heap.size (ys.length * k),h1,h_ hR sQ (fun b hb=>?_) ⟨v',us,by simp [aX],by simpa using h2,?_,h4,hk,fun b hb=>?_⟩⟩
 ·have hb:=tg h2 hb
  rcases h5 with ⟨h,_⟩|⟨h,_⟩
  ·rw [h] at hb;cases hb
  rw [h] at hb;cases hb;exact nR _
 ·exact VDs.mono sQ _ _ h3
 rcases h5 with ⟨h,_⟩|⟨h,_⟩
 ·rw [h] at hb;cases hb
 rw [h] at hb;cases hb;exact aX _ _ _

def gy(id:Nat)(k:Nat)(xs:List (List Data)):Nat->Sb:=fun j=>match Nat.beq j id with
 |true=>.data (.sl k xs)
 |false=>.to j
def eJ(σ:Nat->Sb):List (Nat×PV)->Option (List (Nat×PV))
 |[]=>some []
 | (j,p)::r=>match PV.sub σ p with
  |some q=>match eJ σ r with
   |some r'=>some ((j,q)::r')
   |none=>none
  |none=>none
def ji(σ:Nat->Sb):Row->Option Row
 |.box ty cells=>match PV.subs σ cells with
  |some cs=>some (.box ty cs)
  |none=>none
 |.acc e k xs=>some (.acc e k xs)
 |.map t es=>some (.map t es)
 |.vec ty xs=>some (.vec ty xs)
 |.amap t fz es=>some (.amap t fz es)
 |.arrs fz ks ls=>some (.arrs fz ks ls)
def ce(σ:Nat->Sb):List Row->Option (List Row)
 |[]=>some []
 |r::rs=>match ji σ r with
  |some q=>match ce σ rs with
   |some qs=>some (q::qs)
   |none=>none
  |none=>none
theorem jC{σ:Nat->Sb}{j:Nat}{q:PV}:∀ {env env':List (Nat×PV)},eJ σ env=some env'->look env' j=some q->∃p,look env j=some p/\PV.sub σ p=some q
 |[],env',he,h=>by simp only [eJ,sI] at he;subst he;cases h
 | (i,p)::r,env',he,h=>by
  simp only [eJ] at he
  split at he
  ·rename_i q' hq
   split at he
   ·rename_i r' hr
    simp only [sI] at he
    subst he
    simp only [look] at h ⊢
    split at h
    ·rename_i e
     simp only [sI] at h
     subst h
     exact ⟨p,by simp [e],hq⟩
    rename_i e
    obtain ⟨p',h1,h2⟩:=jC hr h
    exact ⟨p',by simp [e,h1],h2⟩
   cases he
  cases he
theorem jD{σ:Nat->Sb}{q:Row}:∀ {rows rows':List Row}{j:Nat},ce σ rows=some rows'->rows'[j]? = some q->∃r,rows[j]? = some r/\ji σ r=some q
 |[],rows',j,he,h=>by simp only [ce,sI] at he;subst he;cases h
 |r::rs,rows',j,he,h=>by
  simp only [ce] at he
  split at he
  ·rename_i q' hq
   split at he
   ·rename_i r' hr
    simp only [sI] at he
    subst he
    cases j with
    |zero=>simp only [List.getElem?_cons_zero,sI] at h ⊢;subst h;exact ⟨r,rfl,hq⟩
    |succ j=>simp only [List.getElem?_cons_succ] at h ⊢;exact jD hr h
   cases he
  cases he
theorem gz{σ:Nat->Sb}:∀ {rows rows':List Row},ce σ rows=some rows'->rows'.length=rows.length
 |[],rows',he=>by simp only [ce,sI] at he;subst he;rfl
 |r::rs,rows',he=>by
  simp only [ce] at he
  split at he
  ·split at he
   ·rename_i r' hr
    simp only [sI] at he
    subst he
    simp [gz hr]
   cases he
  cases he

theorem Ha{id k:Nat}{xs:List (List Data)}{j i:Nat}(h:gy id k xs j=.to i):j=i/\j≠id:=by
 unfold gy at h
 split at h
 ·cases h
 rename_i hb
 simp only [Sb.to.injEq] at h
 exact ⟨h,fun q=>by rw [q,Nat.beq_refl] at hb;cases hb⟩
theorem B_{id k:Nat}{xs:List (List Data)}{j:Nat}{x:Data}(h:gy id k xs j=.data x):j=id/\x=.sl k xs:=by
 unfold gy at h
 split at h
 ·rename_i hb
  simp only [Sb.data.injEq] at h
  exact ⟨Nat.eq_of_beq_eq_true hb,h.symm⟩
 cases h

theorem xn(σ:Nat->Sb):∀xs:List Value,PV.subs σ (Aw xs)=some (Aw xs)
 |[]=>rfl
 |x::xs=>by
  have:=xn σ xs
  simp only [Aw] at this
  simp only [Aw,List.map_cons,PV.subs,PV.sub,this]
theorem th (hF:Fr Wr lim w lim' w') {σ:Nat->Sb}(h1:∀i j v,σ i=.to j->H i=some v->H' j=some v) (h2:∀i x v,σ i=.data x->H i=some v->VD lim' w' x v) {id OA:Nat}{r q:Row}
  (hid:∀v,H id=some v->H' OA=some v) (hb:∀b,Ow H id b->¬Wr b) (hq:ji σ r=some q) (h:RowOk H lim w id r):RowOk H' lim' w' OA q:=by
 have hlt:=fun b (q:Ow H id b)=>iR h q
 cases r with
 |box ty cells=>
  simp only [ji] at hq
  split at hq
  ·rename_i cs' eV
   simp only [sI] at hq
   subst hq
   obtain ⟨b,cs,e1,e2,e3,e4⟩:=h
   have fA:Ow H id b:=(bU e1).2 rfl
   obtain ⟨g1,g2⟩:=hF.same b (hlt b fA) (hb b fA)
   exact ⟨b,cs,hid _ e1,g1.trans e2,Vs.sub hF h1 h2 cells cs' cs eV e3,g2.trans e4⟩
  cases hq
 |acc e k xs=>
  simp only [ji,sI] at hq
  subst hq
  obtain ⟨u,zs,e1,⟨hl,ho⟩,e2,e3,e4,e5⟩:=h
  refine ⟨u,zs,hid _ e1,⟨hl,?_⟩,VDs.mono hF _ _ e2,e3,e4,fun b q=>?_⟩
  ·rcases ho with ho|⟨g,cap,po,hv,hg,hh,r⟩
   ·exact .inl ho
   have fA:Ow H id g:=(bU e1).2 (by rw [hv];rfl)
   exact .inr ⟨g,cap,po,hv,hg,((hF.same g (hlt g fA) (hb g fA)).1).trans hh,r⟩
  have fA:Ow H id b:=(bU e1).2 (kD q)
  rw [(hF.same b (hlt b fA) (hb b fA)).2]
  exact e5 b q
 |map t es=>
  simp only [ji,sI] at hq
  subst hq
  obtain ⟨b,ms,e1,e2,e3,e4⟩:=h
  have fA:Ow H id b:=(bU e1).2 rfl
  obtain ⟨g1,g2⟩:=hF.same b (hlt b fA) (hb b fA)
  exact ⟨b,ms,hid _ e1,g1.trans e2,VE.mono hF es 0 _ e3,g2.trans e4⟩
 |vec ty xs=>
  simp only [ji,sI] at hq
  subst hq
  obtain ⟨b,cs,e1,e2,e3,e4⟩:=h
  have fA:Ow H id b:=(bU e1).2 rfl
  obtain ⟨g1,g2⟩:=hF.same b (hlt b fA) (hb b fA)
  exact ⟨b,cs,hid _ e1,g1.trans e2,Vs.sub hF h1 h2 _ _ cs (xn _ xs) e3,g2.trans e4⟩
 |amap t fz es=>
  simp only [ji,sI] at hq
  subst hq
  obtain ⟨b,ms,hs,e1,e2,e3,e4,e5⟩:=h
  have fA:Ow H id b:=(bU e1).2 ⟨.map (some b),by simp,rfl⟩
  obtain ⟨g1,g2⟩:=hF.same b (hlt b fA) (hb b fA)
  exact ⟨b,ms,hs,hid _ e1,g1.trans e2,pG hF (fun v c hv hc=>hb c ((bU e1).2 ⟨v,by simp [hv],hc⟩)) e3,g2.trans e4,e5⟩
 |arrs fz ks ls=>
  simp only [ji,sI] at hq
  subst hq
  obtain ⟨e1,e2,e3⟩:=h
  exact ⟨hid _ e1,sW hF (fun b hm=>hb b ((bU e1).2 (jJ.2 hm))) e2,e3⟩

theorem xo{e k n:Nat}{v:Value}{zs:List Value}(h:w.ownsRow 0 e k v n zs){b:Nat}(hb:blk v=some b){o:Nat}{u:Value}(ho:zs[o]? = some u):w.cell? ⟨b,o,none⟩=some u:=by
 rcases h.2 with ⟨rfl,_⟩|⟨g,cap,po,rfl,_,hh,_,_,eV,ht⟩
 ·cases hb
 simp only [blk,sI] at hb
 subst hb
 rw [<- ht,List.getElem?_take] at ho
 split at ho
 ·simp only [World.cell?,hh]
  simpa using ho
 cases ho

theorem oh (hR:Rep D G N H lim X a w) {e:TypeId}{k:Nat}{id:Nat}{v:Value}{xs ys:List (List Data)}{Run:Value->World->Prop}(hr:X.rows[id]? = some (.acc e k xs)) (hv:H id=some v)
  (Wf:∀zs,0<k->w.ownsRow 0 e k v xs.length zs->VDs lim w xs.flatten zs->∃v' w' us,Run v' w'/\w'.ownsRow 0 e k v' (xs++ys).length (zs++us)/\VDs lim w ys.flatten us/\(∀y,y∈ys->y.length=k/\∀d,d∈y->d_ d=true)/\
   ((blk v'=blk v/\w.grownBy w' (blk v))\/(blk v'=some w.heap.size/\w.grownBy w' none))) {env':List (Nat×PV)}{rows':List Row}
  (h1:eJ (gy id k xs) X.env=some env') (h2:ce (gy id k xs) X.rows=some rows') :
  ∃v' w' lim',Run v' w'/\Nx D (fun i=>i=id) G N H lim w ⟨env',rows'.set id (.acc e k (xs++ys))⟩ a (pt H id (some v')) lim' w':=by
 have pW:=hR.rows.row id _ hr
 obtain ⟨v0,zs,g1,g2,g3,g4,g5,g6⟩:=pW
 rw [hv] at g1
 cases g1
 have hid:id<X.rows.length:=(List.getElem?_eq_some_iff.1 hr).1
 obtain ⟨v',w',us,r1,r2,r3,r4,r5⟩:=Wf zs g5 g2 g3
 have key:∃lim',Fr (fun b=>Ow H id b) lim w lim' w'/\(∀b,blk v'=some b->lim' b=(xs++ys).length * k)/\(∀b,blk v'=some b->blk v=some b\/b=w.heap.size):=by
  rcases r5 with ⟨q1,q2⟩|⟨q1,q2⟩
  ·cases G8:blk v with
   |none=>
    refine ⟨lim,?_,fun b gV=>?_,fun b gV=>?_⟩
    ·rw [G8] at q2
     exact (qm (lim:=lim) (lim':=lim) q2 (fun b _ q=>by cases q) (fun _ _ _=>rfl)).weaken fun b q=>by cases q
    ·rw [q1,G8] at gV;cases gV
    rw [q1,G8] at gV;cases gV
   |some g=>
    refine ⟨pt lim g ((xs++ys).length * k),?_,fun b gV=>?_,fun b gV=>?_⟩
    ·rw [G8] at q2
     refine (qm (lim:=lim) (lim':=pt lim g ((xs++ys).length * k)) q2 (fun b gV q=>?_) (fun b _ q=>ch _ _ (fun e=>q (by rw [e])))).weaken fun b q=>?_
     ·simp only [sI] at q
      subst q
      rw [aX,g6 b G8]
      refine ⟨Nat.mul_le_mul_right _ (by simp),fun o ho=>?_⟩
      have Wg:o<zs.length:=by rw [g2.1];exact ho
      rw [xo g2 G8 (List.getElem?_eq_getElem Wg)]
      refine xo r2 (q1.trans G8) ?_
      rw [List.getElem?_append_left Wg]
      exact List.getElem?_eq_getElem Wg
     exact (bU hv).2 (kD (G8.trans q.symm))
    ·rw [q1,G8] at gV;cases gV;exact aX _ _ _
    rw [q1,G8] at gV;exact .inl gV
  refine ⟨pt lim w.heap.size ((xs++ys).length * k),?_,fun b gV=>?_,fun b gV=>?_⟩
  ·exact (qm (lim:=lim) (lim':=pt lim w.heap.size ((xs++ys).length * k)) q2 (fun b _ q=>by cases q) (fun b hb _=>ch _ _ (by omega))).weaken fun b q=>by cases q
  ·rw [q1] at gV;cases gV;exact aX _ _ _
  rw [q1] at gV;cases gV;exact .inr rfl
 obtain ⟨lim',hF,sQ,IM⟩:=key
 have hH:∀i j u,gy id k xs i=.to j->H i=some u->pt H id (some v') j=some u:=by
  intro i j u hi hu
  obtain ⟨rfl,aO⟩:=Ha hi
  rw [ch _ _ aO];exact hu
 have hD:∀i y u,gy id k xs i=.data y->H i=some u->VD lim' w' y u:=by
  intro i y u hi hu
  obtain ⟨rfl,rfl⟩:=B_ hi
  obtain ⟨u',Ke,VN⟩:=gg (hR.rows.row i _ hr)
  rw [hu] at Ke
  cases Ke
  exact VD.mono hF _ _ VN
 have hlt:∀i b,Ow H i b->b<w.heap.size:=by
  intro i b hb
  rcases Nat.lt_or_ge i X.rows.length with hi|hi
  ·exact iR (hR.rows.row i _ (List.getElem?_eq_getElem hi)) hb
  exact absurd hb (jr (hR.rows.dom i hi))
 have XG:∀j b,j≠id->JJ v' b->¬Ow H j b:=by
  intro j b hj hb UE
  rcases IM b (tg r2 hb) with q|q
  ·exact hR.rows.apart j id b hj UE ((bU hv).2 (kD q))
  have:=hlt j b UE;omega
 refine ⟨v',w',lim',r1,⟨⟨fun j p hj=>?_,⟨fun j q hj=>?_,fun i j b qP hi hj=>?_,fun j hj=>?_⟩,hR.glob.mono hF (fun b q=>⟨id,q⟩) (J_ fun b hb=>by
  rcases IM b (tg r2 hb) with q|q
  ·exact .inl ⟨id,(bU hv).2 (kD q)⟩
  exact .inr (by omega)),hR.defers,hR.size⟩,hF.weaken fun b q=>⟨id,rfl,q⟩,fun j q iF hj=>?_,fun b hb=>?_⟩⟩
 ·obtain ⟨p',K6,hs⟩:=jC h1 hj
  obtain ⟨q1,q2⟩:=hR.env j p' K6
  exact ⟨q1,V.sub hF hH hD p' p _ hs q2⟩
 ·rcases da hj with ⟨rfl,rfl⟩|⟨aO,hj⟩
  ·exact ⟨v',zs++us,by simp [aX],r2,by rw [List.flatten_append];exact uW (VDs.mono hF _ _ g3) (VDs.mono hF _ _ r3),sR g4 r4,g5,sQ⟩
  obtain ⟨r,js,hq⟩:=jD h2 hj
  exact th hF hH hD (fun u hu=>by rw [ch _ _ aO];exact hu) (fun b hb q=>hR.rows.apart j id b aO hb q) hq (hR.rows.row j r js)
 ·by_cases e1:i=id
  ·have e2:j≠id:=fun q=>qP (e1.trans q.symm)
   rw [e1,bU (aX _ _ _)] at hi
   rw [fu e2] at hj
   exact XG j b e2 hi hj
  rw [fu e1] at hi
  by_cases e2:j=id
  ·rw [e2,bU (aX _ _ _)] at hj
   exact XG i b e1 hj hi
  rw [fu e2] at hj
  exact hR.rows.apart i j b qP hi hj
 ·rw [List.length_set,gz h2] at hj
  rw [ch _ _ (by omega)]
  exact hR.rows.dom j hj
 ·by_cases e1:j=id
  ·subst e1
   rw [hv] at hj
   cases hj
   rcases g2.2 with ⟨q,_⟩|⟨_,_,_,q,_⟩ <;> (rw [q] at iF;cases iF)
  rw [ch _ _ e1]
 obtain ⟨j,hj⟩:=hb
 by_cases e1:j=id
 ·rw [e1,bU (aX _ _ _)] at hj
  rcases IM b (tg r2 hj) with q|q
  ·exact .inl ⟨id,(bU hv).2 (kD q)⟩
  exact .inr (by omega)
 rw [fu e1] at hj
 exact .inl ⟨j,hj⟩
theorem vZ (hR:Rep D G N H lim X a w) {t e:TypeId}{k bytes:Nat}(hE:ElemOk P t e k bytes) (ty:TypeId) {id:Nat}{v x:Value}{xs ys:List (List Data)}(hr:X.rows[id]? = some (.acc e k xs)) (hv:H id=some v)
  (hx:VD lim w (.sl k ys) x) (hb:(xs.length+ys.length) * bytes<=140737488355328) (hm:xs.length+ys.length<=maxLen) {env':List (Nat×PV)}{rows':List Row}
  (h1:eJ (gy id k xs) X.env=some env') (h2:ce (gy id k xs) X.rows=some rows') :
  ∃v' w' lim',(Builtin.append_ #[t,t] ty #[v,x]).run P w=.ok v' w'/\Nx D (fun i=>i=id) G N H lim w ⟨env',rows'.set id (.acc e k (xs++ys))⟩ a (pt H id (some v')) lim' w':=
 oh (Run:=fun v' w'=>(Builtin.append_ #[t,t] ty #[v,x]).run P w=.ok v' w') hR hr hv (fun _zs g5 g2 g3=>uX (lim:=lim) hE g5 ty g2 g3 hx hb hm) h1 h2
def jn(s:BA):List (List Data):=s.data.toList.map fun b=>[.s (.int .u8 b.toNat)]
theorem o_(s:BA):(jn s).length=s.size:=by
 rw [jn,lM,Array.length_toList]
 rfl
theorem Hb(s:BA):VDs lim w (jn s).flatten (Lib.strCells s):=by
 unfold jn Lib.strCells
 generalize s.data.toList=l
 induction l with
 |nil=>simp only [List.map_nil,List.flatten_nil,VDs]
 |cons c r ih=>
  simp only [List.map_cons,List.flatten_cons,List.cons_append,List.nil_append,VDs,VD]
  exact ⟨_,_,rfl,rfl,ih⟩
theorem uY {t u e:TypeId}{i:TypeInfo}(ht:P.underlying t=some (.slice e)) (hu:P.underlying u=some .string) (hi:P.info? e=some i) (hz:i.zero=some (.int .u8 0)) (hs:i.size=1) (Oz:i.bytes=1) (ty:TypeId) {v:Value}{xs:List (List Data)}{zs:List Value}
  (ll:w.ownsRow 0 e 1 v xs.length zs) (s:BA) (hb:xs.length+s.size<=140737488355328) :
  ∃v' w' us,(Builtin.append_ #[t,u] ty #[v,.string s]).run P w=.ok v' w'/\w'.ownsRow 0 e 1 v' (xs++jn s).length (zs++us)/\VDs lim w (jn s).flatten us/\(∀y,y∈jn s->y.length=1/\∀d,d∈y->d_ d=true)/\
   ((blk v'=blk v/\w.grownBy w' (blk v))\/(blk v'=some w.heap.size/\w.grownBy w' none)):=by
 have hm:xs.length+s.size<=maxLen:=by have:maxLen=9223372036854775807:=rfl;omega
 obtain ⟨v',w',r1,r2,r3,r4⟩:=Lib.run_append_own_string (P:=P) w 0 t u ty e i ht hu hi hz hs Oz v xs.length zs ll s hm hb (Nat.zero_le _)
 have H8:∀y,y∈jn s->y.length=1/\∀d,d∈y->d_ d=true:=by
  intro y hy
  simp only [jn,List.mem_map] at hy
  obtain ⟨c,_,rfl⟩:=hy
  exact ⟨rfl,fun d hd=>by rw [List.mem_singleton.1 hd];rfl⟩
 refine ⟨v',w',Lib.strCells s,r1,by rw [lA,o_];exact r2,Hb s,H8,?_⟩
 have PA:∀(u:Value) (k:Nat) (zs:List Value) (w0:World),w0.ownsRow 0 e 1 u k zs->blk u=u.ownBlock:=by
  intro u k zs w0 hu
  rcases hu.2 with ⟨rfl,_⟩|⟨g,cap,po,rfl,_⟩ <;> rfl
 rw [PA v _ zs w ll,PA v' _ _ w' r2]
 have B9:∀o:Obj,w'=w.drew.alloc o->w.grownBy w' none:=by
  rintro o rfl
  exact ⟨rfl,rfl,rfl,by simp,fun k hk _=>heap_alloc_old w.drew _ hk⟩
 rcases ll.2 with ⟨rfl,hx0⟩|⟨g,cap,po,rfl,_,hg,Le,_,eV,_⟩
 ·by_cases PK:s.size=0
  ·rw [(r4.2 ⟨rfl,PK⟩)]
   exact .inl ⟨rfl,r3⟩
  have hf:=Lib.run_firstCells_string (P:=P) w.drew i.size s
  have WN:(Builtin.firstCells i.size 0 (.slice none 0 0)).run P w.drew=.ok #[] w.drew:=by simp [Builtin.firstCells]
  have Zd:¬(281474976710656<Builtin.nextslicecap s.size 0 * i.bytes):=by
   have:Builtin.nextslicecap s.size 0=s.size:=by unfold Builtin.nextslicecap;rw [if_pos (by omega)]
   rw [this,Oz];omega
  have RU:¬(9223372036854775807<(s.size:Int)):=by omega
  have js:(Builtin.append_ #[t,u] ty #[.slice none 0 0,.string s]).run P w=.ok (.slice (some ⟨w.heap.size,0,none⟩) s.size (grownCap w s.size 0 e)) (w.drew.alloc (.cells (#[]++(Lib.strCells s).toArray++Builtin.zeroCells (Value.int .u8 0).cells (grownCap w s.size 0 e - s.size)) e)):=by
   simp [Builtin.append_,run_underlying ht,run_underlying hu,sizeOf,typeInfo,zeroValue,hi,hz,Builtin.lenOf,PK,RU,Zd,Question.forced,hf,WN,newRow,grownCap]
  rw [r1] at js
  simp only [Result.ok.injEq] at js
  exact .inr ⟨by rw [js.1];rfl,B9 _ js.2⟩
 by_cases FJ:xs.length+s.size<=cap
 ·have Re:xs.length+s.size<=po.size:=by rw [eV];omega
  have js:=Lib.run_append_room_string (P:=P) w t u ty e i ht hu hi hs g xs.length cap po hg s FJ Re
  rw [r1] at js
  simp only [Result.ok.injEq] at js
  rw [js.1]
  exact .inl ⟨rfl,r3⟩
 have js:=Lib.run_append_grow_string (P:=P) w t u ty e i _ ht hu hi hz ⟨g,0,none⟩ xs.length cap zs (by rw [hs];exact ll.1) (ll.cells (g:=g) rfl) s (by omega) (by omega) (growslice_fits (by omega) (by rw [Oz];omega))
 rw [r1] at js
 simp only [Result.ok.injEq] at js
 exact .inr ⟨by rw [js.1];rfl,B9 _ js.2⟩
end
end
section

def xp(fG:Nat->Option (Nat×Nat))(cells:List PV):List (Nat×Option PV)->Option (List PV)
 |[]=>some cells
 | (i,p)::H9=>match fG i,p with
  |some (off,size),some p=>match ql p with
   |some cs=>match Nat.beq cs.length size,Nat.ble (off+size) cells.length with
    |true,true=>xp fG (fR cells off cs) H9
    |_,_=>none
   |none=>none
  |_,_=>none
def mz(T:Tab):List (Nat×TypeId)->Option (List (Nat×Nat))
 |[]=>some []
 | (off,u)::r=>match T u with
  |some i=>match mz T r with
   |some ps=>some ((off,i.size)::ps)
   |none=>none
  |none=>none
def qn{α:Type}(k:Nat):Nat->List α->List (List α)
 |0,_=>[]
 |n+1,l=>l.take k::qn k n (l.drop k)
def rC(l:List Value):List PV:=l.map fun v=>.d (.s v)
def Tx(rows:List Row)(p:Option PV):Option PV:=match p with
 |some (.acc id)=>match rows[id]? with
  |some (.acc _ k xs)=>some (.d (.sl k xs))
  |_=>some (.acc id)
 |some p=>some p
 |none=>none
def OB(kp:Bool)(rows:List Row)(p:Option PV):Option PV:=match kp with
 |true=>p
 |false=>Tx rows p
def nq(kp:Bool)(G:Glob)(X:St)(parts:Array (Nat×Operand)):List (Nat×Option PV):=parts.toList.map fun q=>(q.1,OB kp X.rows (ev G X q.2))

section
variable {P:Program}{G:Glob}{D:List Deferred}{N:Nat}{H H':Nat->Option Value}{lim lim':Nat->Nat}{X:St}{a:Act}{w w':World}{T:Tab}{Wr:Nat->Prop}

theorem FK{off:Nat}:∀(vs:List Value) (s:Nat) (cells:List Value),off+s+vs.length<=cells.length->
  ((vs.zipIdx s).foldl (fun (cs:Array Value) p=>cs.setIfInBounds (off+p.2) p.1) cells.toArray)=(fR cells (off+s) vs).toArray
 |[],s,cells,_=>by simp [fR]
 |v::vs,s,cells,h=>by
  simp only [lC] at h
  rw [List.zipIdx_cons,List.foldl_cons]
  have:=FK (off:=off) vs (s+1) (cells.set (off+s) v) (by simp;omega)
  simp only [List.setIfInBounds_toArray]
  rw [this]
  congr 1
  unfold fR
  have e1:(cells.set (off+s) v).take (off+(s+1))=cells.take (off+s)++[v]:=by
   rw [<- Nat.add_assoc,List.take_add_one,List.take_set_of_le (nR _),List.getElem?_set_self (by omega)]
   rfl
  have e2:(cells.set (off+s) v).drop (off+(s+1)+vs.length)=cells.drop (off+s+(v::vs).length):=by
   rw [List.drop_set_of_lt (by omega)]
   congr 1
   simp only [lC]
   omega
  rw [e1,e2]
  simp

theorem zx{α:Type}{l r:List α}{off:Nat}(h:off+r.length<=l.length):(fR l off r).length=l.length:=by
 simp only [fR,lA,List.length_take,List.length_drop]
 omega

theorem pb(hR:RowsOk H lim w X.rows){fG:Nat->Option (Nat×Nat)}:∀(parts:List (Nat×Option PV)) (cells:List PV) (out:List PV) (ps:List (Nat×Value)) (cs:List Value),
  xp fG cells parts=some out->Vs H lim w cells cs->(List.length ps=parts.length/\∀(i:Nat) (q:Nat×Option PV) (v:Nat×Value),parts[i]? = some q->ps[i]? = some v->v.1=q.1/\∀p,q.2=some p->V H lim w p v.2)->
  ∃os:List Value,Instr.fill fG cs.toArray ps=some os.toArray/\Vs H lim w out os/\os.length=cs.length
 |[],cells,out,ps,cs,h,hv,hp=>by
  simp only [xp,sI] at h
  subst h
  have:ps=[]:=lE (by simpa using hp.1)
  subst this
  exact ⟨cs,by simp [Instr.fill],hv,rfl⟩
 | (i,p)::H9,cells,out,ps,cs,h,hv,hp=>by
  simp only [xp] at h
  split at h
  ·rename_i off size p' rZ
   split at h
   ·rename_i qs hq
    split at h
    ·rename_i lr mQ
     have e1:qs.length=size:=Nat.eq_of_beq_eq_true lr
     have e2:off+size<=cells.length:=Nat.le_of_ble_eq_true mQ
     cases ps with
     |nil=>simp at hp
     |cons pv ps=>
      obtain ⟨f1,f2⟩:=hp.2 0 (i,some p') pv rfl rfl
      obtain ⟨vs,g1,g2,g3⟩:=jQ hR hq (f2 p' rfl)
      have s8:=dA g2
      have iQ:=dA hv
      obtain ⟨os,r1,r2,r3⟩:=pb hR H9 (fR cells off qs) out ps (fR cs off vs) h (B8 hv g2 off)
       ⟨by have:=hp.1;simp at this;exact this,fun j q v S' Ze=>hp.2 (j+1) q v (by simpa using S') (by simpa using Ze)⟩
      refine ⟨os,?_,r2,by rw [r3,zx (by omega)]⟩
      obtain ⟨pi,Rf⟩:=pv
      simp only at f1 g1
      subst f1
      have hz:(Rf.cells.zipIdx.foldl (fun (cs:Array Value) p=>cs.setIfInBounds (off+p.2) p.1) cs.toArray)=(fR cs off vs).toArray:=by
       rw [g1]
       have:=FK (off:=off) vs 0 cs (by omega)
       simp only [Nat.add_zero] at this
       rw [<- this]
       simp
      have jP:¬(Rf.cells.size≠size||off+Rf.cells.size>cs.toArray.size)=true:=by
       rw [g1];simp;omega
      simp only [Instr.fill,rZ]
      rw [if_neg jP]
      rw [<- hz] at r1
      exact r1
    cases h
   cases h
  cases h

theorem Ca{kp:Bool}(hR:Rep D G N H lim X a w)(parts:Array (Nat×Operand)):(List.length (parts.toList.map fun q=>(q.1,a.eval q.2))=(nq kp G X parts).length/\∀(i:Nat) (q:Nat×Option PV) (v:Nat×Value),(nq kp G X parts)[i]? = some q->(parts.toList.map fun q=>(q.1,a.eval q.2))[i]? = some v->v.1=q.1/\∀p,q.2=some p->V H lim w p v.2):=by
 refine ⟨by simp [nq],fun i q v hq hv=>?_⟩
 simp only [nq,List.getElem?_map] at hq hv
 obtain ⟨x,hx,rfl⟩:=Option.map_eq_some_iff.1 hq
 obtain ⟨y,hy,rfl⟩:=Option.map_eq_some_iff.1 hv
 rw [hx] at hy
 cases hy
 refine ⟨rfl,fun p hp=>?_⟩
 cases kp with
 |true=>exact aw hR hp
 |false=>
 simp only [OB] at hp
 unfold Tx at hp
 split at hp
 ·rename_i id hid
  have hv:=aw hR hid
  split at hp
  ·rename_i e k xs hr
   simp only [sI] at hp
   subst hp
   obtain ⟨u,hu,hd⟩:=gg (hR.rows.row id _ hr)
   simp only [V] at hv ⊢
   rw [hv] at hu
   cases hu
   exact hd
  simp only [sI] at hp
  subst hp
  exact hv
 ·rename_i q _ hq
  simp only [sI] at hp
  subst hp
  exact aw hR hq
 cases hp

theorem sv(hT:bH P T):∀(fa:List Field) (ps:List (Nat×Nat)),mz T (fa.map fun f=>(f.offset,f.type))=some ps->fa.mapM (fun f=>(P.info? f.type).map fun i=>(f.offset,i.size))=some ps
 |[],ps,h=>by simpa [mz] using h
 |f::fa,ps,h=>by
  simp only [List.map_cons,mz] at h
  split at h
  ·rename_i i hi
   split at h
   ·rename_i ps' zU
    simp only [sI] at h
    subst h
    obtain ⟨_,ti,h1,h2,_⟩:=hT _ i hi
    simp [List.mapM_cons,h1,h2,sv hT fa ps' zU]
   cases h
  cases h

def D1(T:Tab)(G:Glob)(X:St)(t:TypeId)(parts:Array (Nat×Operand)):Option (List PV):=match T t with
 |some i=>match i.desc with
  |.struct fs=>match mz T fs with
   |some ps=>xp (fun j=>ps[j]?) (rC i.zero) (nq (Nat.beq t 28) G X parts)
   |none=>none
  |_=>none
 |none=>none

theorem Cb(hT:bH P T)(hR:Rep D G N H lim X a w){t:TypeId}{parts:Array (Nat×Operand)}{cells:List PV}(h:D1 T G X t parts=some cells):
  ∃os:List Value,(Instr.build t (parts.map fun (i,x)=>(i,a.eval x))).run P w=.ok (.agg os.toArray) w/\Vs H lim w cells os:=by
 unfold D1 at h
 split at h
 ·rename_i i hi
  split at h
  ·rename_i fs hd
   split at h
   ·rename_i ps zU
    obtain ⟨⟨d,hu,jo⟩,ti,h1,h2,_,z,hz,Ty,_⟩:=hT t i hi
    rw [hd] at jo
    simp only [eX] at jo
    obtain ⟨fa,rfl,VO⟩:=jo
    rw [<- VO] at zU
    have rZ:=sv hT _ _ zU
    have CB:Vs H lim w (rC i.zero) i.zero:=mr _
    obtain ⟨os,r1,r2,_⟩:=pb hR.rows _ _ _ (parts.toList.map fun q=>(q.1,a.eval q.2)) i.zero h CB (Ca hR parts)
    refine ⟨os,run_build w t _ _ ?_,r2⟩
    unfold Program.built
    simp only [h1,hu,hz,rZ]
    have e1:z.cells=i.zero.toArray:=by rw [<- Ty]
    have e2:(parts.map fun (i,x)=>(i,a.eval x)).toList=parts.toList.map fun q=>(q.1,a.eval q.2):=by simp
    rw [e1,e2]
    simpa using r1
   cases h
  cases h
 cases h

theorem ol{α:Type}{k:Nat}:∀(n:Nat) (l:List α),l.length=n * k->(qn k n l).flatten=l
 |0,l,h=>by simp only [qn,List.flatten_nil];exact (lE (by simpa using h)).symm
 |n+1,l,h=>by
  simp only [qn,List.flatten_cons]
  rw [ol n (l.drop k) (by rw [List.length_drop,h,Nat.succ_mul];omega),List.take_append_drop]
theorem ai{α:Type}{k:Nat}:∀(n:Nat) (l:List α),(qn k n l).length=n
 |0,_=>rfl
 |n+1,l=>by simp [qn,ai n]
theorem xq{k:Nat}:∀(n:Nat) (l:List Data),l.length=n * k->(∀d,d∈l->d_ d=true)->∀x,x∈qn k n l->x.length=k/\∀d,d∈x->d_ d=true
 |0,l,_,_,x,hx=>by cases hx
 |n+1,l,h,hf,x,hx=>by
  have hk:k<=l.length:=by rw [h,Nat.succ_mul];omega
  simp only [qn,List.mem_cons] at hx
  rcases hx with rfl|hx
  ·exact ⟨by rw [List.length_take,Nat.min_eq_left hk],fun d hd=>hf d (List.mem_of_mem_take hd)⟩
  exact xq n (l.drop k) (by rw [List.length_drop,h,Nat.succ_mul];omega) (fun d hd=>hf d (List.mem_of_mem_drop hd)) x hx
theorem gn{α:Type}{f:α->Bool}:∀ {l:List α},lJ f l=true->∀x,x∈l->f x=true
 |[],_,x,hx=>by cases hx
 |y::l,h,x,hx=>by
  simp only [lJ,bE] at h
  rcases List.mem_cons.1 hx with rfl|hx
  ·exact h.1
  exact gn h.2 x hx

def zeroCells(zero:List Value)(n:Nat):List Value:=(List.range n).map fun j=>(zero[j % zero.length]?).getD default
def iw(T:Tab)(G:Glob)(X:St)(t:TypeId)(fN:Nat)(parts:Array (Nat×Operand)):Option Data:=match T t with
 |some { desc:=.slice e,.. }=>match T e with
  |some i=>match Nat.ble (fN * i.size) 16777216,Nat.ble 1 i.size with
   |true,true=>match xp (fun j=>some (j * i.size,i.size)) (rC (zeroCells i.zero (fN * i.size))) (nq false G X parts) with
    |some cells=>match oP cells with
     |some ds=>match lJ d_ ds,Nat.beq ds.length (fN * i.size) with
      |true,true=>some (.sl i.size (qn i.size fN ds))
      |_,_=>none
     |none=>none
    |none=>none
   |_,_=>none
  |none=>none
 |_=>none

theorem zy{b k:Nat}{e:TypeId}{xs:List (List Data)}{zs:List Value}(h:VDs lim w xs.flatten zs)(hk:∀x,x∈xs->x.length=k/\∀d,d∈x->d_ d=true)(hb:w.heap[b]? = some (.cells zs.toArray e (0,0)))(hl:lim b=zs.length):VRow lim w b k 0 xs:=
 y_ xs 0 zs h hk fun j v hj=>by
  have:=(List.getElem?_eq_some_iff.1 hj).1
  refine ⟨?_,by omega⟩
  simp only [Nat.zero_add,World.cell?,hb]
  simpa using hj

theorem rD(hT:bH P T)(hR:Rep D G N H lim X a w){t:TypeId}{fN:Nat}{parts:Array (Nat×Operand)}{x:Data}(h:iw T G X t fN parts=some x):
  ∃v w' lim',(Instr.buildSlice t fN (parts.map fun (i,x)=>(i,a.eval x))).run P w=.ok v w'/\Nx D (fun _=>False) G N H lim w X a H lim' w'/\VD lim' w' x v:=by
 unfold iw at h
 split at h
 ·rename_i e _ _ _ ht
  split at h
  ·rename_i i hi
   split at h
   ·rename_i lr mQ
    have Hu:fN * i.size<=16777216:=Nat.le_of_ble_eq_true lr
    have sP:1<=i.size:=Nat.le_of_ble_eq_true mQ
    split at h
    ·rename_i cells hc
     split at h
     ·rename_i ds S8
      split at h
      ·rename_i hf bZ
       simp only [sI] at h
       subst h
       have bZ:ds.length=fN * i.size:=Nat.eq_of_beq_eq_true bZ
       obtain ⟨d,hd,hu⟩:=bo hT ht
       simp only [eX] at hd
       subst hd
       have hs:=ft hT hi
       obtain ⟨_,ti,h1,h2,_,z,hz,Ty,_⟩:=hT e i hi
       have CB:Vs H lim w (rC (zeroCells i.zero (fN * i.size))) (zeroCells i.zero (fN * i.size)):=mr _
       obtain ⟨os,r1,r2,r3⟩:=pb hR.rows _ _ _ (parts.toList.map fun q=>(q.1,a.eval q.2)) _ hc CB (Ca hR parts)
       have UF:=rr r2 S8
       have Wh:os.length=fN * i.size:=by rw [uK UF,bZ]
       have nx:=Nc hR (.cells os.toArray e) (fN * i.size)
       have e1:z.cells=i.zero.toArray:=by rw [<- Ty]
       have e2:(parts.map fun (i,x)=>(i,a.eval x)).toList=parts.toList.map fun q=>(q.1,a.eval q.2):=by simp
       have e3:(Array.range (fN * i.size)).map (z.cells[· % z.cells.size]!)=(zeroCells i.zero (fN * i.size)).toArray:=by
        apply Array.ext'
        rw [e1]
        simp [zeroCells,Array.getElem!_eq_getD,Array.getD_eq_getD_getElem?]
       refine ⟨.slice (some ⟨w.heap.size,0,none⟩) fN fN,_,_,?_,nx,?_⟩
       ·have QI:(zeroValue e).run P w=.ok z w:=by simp [zeroValue,typeInfo,h1,hz]
        by_cases h0:fN * i.size=0
        ·have E4:fN=0:=by
          rcases Nat.mul_eq_zero.1 h0 with q|q
          ·exact q
          omega
         rw [h0] at r1 Wh
         have Zf:os=[]:=lE Wh
         subst Zf
         have Zg:(zeroCells i.zero 0).toArray = #[]:=by simp [zeroCells]
         rw [Zg] at r1
         simp [Instr.buildSlice,hu,hs,newRow,E4]
         rw [show (Array.map (fun _=>(default:Value)) (Array.range 0)) = #[] from by simp,r1]
         simp
        have Xk:¬(fN * i.size>16777216):=by omega
        simp [Instr.buildSlice,hu,hs,h0,QI,newRow,e3,r1]
        omega
       simp only [VD]
       refine ⟨_,fN,fN,rfl,(ai fN ds).symm,nR _,?_,fun _=>⟨w.heap.size,0,rfl,?_⟩⟩
       ·have:fN<=fN * i.size:=Nat.le_mul_of_pos_right _ (by omega)
        simp only [maxLen];omega
       refine zy (e:=e) (zs:=os) ?_ (xq fN ds bZ (fun d hd=>gn hf d hd)) (heap_alloc_new w _) (by rw [aX,Wh])
       rw [ol fN ds bZ]
       exact VDs.mono nx.fr _ _ UF
      cases h
     cases h
    cases h
   cases h
  cases h
 cases h
end
end
end Go.Abs
end
