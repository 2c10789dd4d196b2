/- Texts of this proof, joined and shortened. -/
import Derived.Test.YtedljfabpknjiaaGreatDoorR7
import Derived.Lib.Builder
import Derived.Lib.Walk
import Derived.Laws.Externs
import Derived.Lib.UnsafeStr
section
namespace Go.Abs
open Go
section
def GW(D:List Deferred)(P:Program)(G:Glob)(N B:Nat)(H0:Nat->Option Value)(lim0:Nat->Nat)(w0:World)(c:Code)(Q:Exit->Act->World->Prop)(X:St):Prop:=
 ∀(H:Nat->Option Value) (lim:Nat->Nat) (a:Act) (w:World),Rep D G N H lim X a w->Lk B H0 lim0 w0 H lim w->c.wp P Q a w
def Br(D:List Deferred)(G:Glob)(N B:Nat)(H0:Nat->Option Value)(lim0:Nat->Nat)(w0:World)(Q:Exit->Act->World->Prop)(X:St):Prop:=
 ∀(H:Nat->Option Value) (lim:Nat->Nat) (a:Act) (w:World),Rep D G N H lim X a w->Lk B H0 lim0 w0 H lim w->Q .ret a w
def Bs(D:List Deferred)(G:Glob)(N B:Nat)(H0:Nat->Option Value)(lim0:Nat->Nat)(w0:World)(Q:Exit->Act->World->Prop)(p:PV)(X:St):Prop:=
 ∀(H:Nat->Option Value) (lim:Nat->Nat) (a:Act) (w:World) (v:Value),Rep D G N H lim X a w->Lk B H0 lim0 w0 H lim w->V H lim w p v->Q (.panic [{ v,recovered:=false }]) a w
def FZ(H:Nat->Option Value)(lim:Nat->Nat)(w:World)(out:Out)(rows':List Row)(e:Ending)(w':World):Prop:=
 ∃(H':Nat->Option Value) (lim':Nat->Nat),RowsOk H' lim' w' rows'/\Fr (Bl H) lim w lim' w'/\(∀id v,stay v=true->H id=some v->H' id=H id)/\(∀b,Bl H' b->Bl H b\/w.heap.size<=b)/\BK H' lim' w' out e
def T6(T:Tab)(fn:Func)(B:Nat)(out:Out)(rows':List Row)(X:St):Prop:=
 ∃ps L ps' fS,cJ T X fn.results.toList=some ps/\L.take B=List.range B/\cl L=true/\PV.subs (gc L X.rows) ps=some ps'/\bs (gc L X.rows) X.rows L=some rows'/\PWs ps' fS/\out=.ret (fI fS)
section
variable {P:Program}{T:Tab}{G:Glob}{D D':List Deferred}{N B B1:Nat}{X X':St}{H H' H0 H1:Nat->Option Value}{lim lim' lim0 eu:Nat->Nat}{a:Act}{w w' w0 w1:World}{L:List Nat}{Q:Exit->Act->World->Prop}{x y:Code}

theorem dt(hT:bH P T){id:Nat}{be:Array Oper}(h:∀(pan:PV->St->Prop) (K:St->Prop),(∀p Z,Bs D G N B H0 lim0 w0 Q p Z->pan p Z)->(∀Z,GW D P G N B H0 lim0 w0 y Q Z->K Z)->ka P T G N be pan (List.range be.size) K X):
  GW D P G N B H0 lim0 w0 (.seq (.region id be false) y) Q X:=by
 intro H lim a w hR lk
 refine wp_seq (wp_region (vq (D:=D) (B:=B) (H0:=H0) (lim0:=lim0) (w0:=w0) hT (K:=fun Z=>GW D P G N B H0 lim0 w0 y Q Z) (pan:=fun p Z=>Bs D G N B H0 lim0 w0 Q p Z) ?_ ?_ _ X H lim a w (h _ _ (fun _ _ q=>q) fun _ q=>q) hR lk))
 ·intro Z H lim a w hz hR lk
  exact hz H lim a w hR lk
 intro p Z H lim a w v hz hR lk hv
 exact hz H lim a w v hR lk hv
theorem Rx(hs:Sub D G N B X X')(h:GW D P G N B H0 lim0 w0 x Q X'):GW D P G N B H0 lim0 w0 x Q X:=by
 intro H lim a w hR lk
 obtain ⟨H',lim',r1,r2⟩:=hs H lim a w hR
 exact h H' lim' a w r1 (lk.trans r2)
theorem fV(slots:List Nat){env':List (Nat×PV)}{rows':List Row}(h1:fT X.env slots=some env')(h2:cm X.rows=some rows')(h:GW D P G N B H0 lim0 w0 x Q ⟨env',rows'⟩):GW D P G N B H0 lim0 w0 x Q X:=
 Rx (ak h1 h2) h
theorem Jh(h:Br D G N B H0 lim0 w0 Q X):GW D P G N B H0 lim0 w0 .ret Q X:=fun H lim a w hR lk=>wp_ret (h H lim a w hR lk)
theorem Ej (h:dJ D P G N B x (fun e Z=>match e with
  |.normal=>GW D P G N B H0 lim0 w0 y Q Z
  |.ret=>Br D G N B H0 lim0 w0 Q Z
  |_=>False) X):GW D P G N B H0 lim0 w0 (.seq x y) Q X:=by
 intro H lim a w hR lk
 refine wp_seq (wp_mono (h H lim a w hR) ?_)
 intro e a' w' hp
 cases e <;> simp only [Post,Exit.then] at hp ⊢
 ·obtain ⟨X',H',lim',h1,h2,h3⟩:=hp
  exact h3 H' lim' a' w' h1 (lk.trans h2)
 ·obtain ⟨_,_,_,_,_,hf⟩:=hp
  exact hf.elim
 ·obtain ⟨X',H',lim',h1,h2,h3⟩:=hp
  exact h3 H' lim' a' w' h1 (lk.trans h2)
 obtain ⟨_,_,_,_,_,_,_,_,_,_,hf⟩:=hp
 exact hf.elim

theorem kQ {id t g:Nat}{iN:Array Operand}{WD:Array TypeId}{cs:List PV}{o0 o1:Oper}{be:Array Oper}(O0:be = #[o0,o1]) (h0:o0.op=.makeFunc (.func g) #[] iN) (Lp:o0.dst=some t) (WE:o0.guard=none)
  (h1:o1.op=.defer { callee:=.value (.tmp t),args:=#[],argTypes:=WD }) (sE:o1.dst=none) (V_:o1.guard=none) (ht:Nat.blt t N=true) (eV:Rg G X iN.toList=some cs)
  (h:∀(H1:Nat->Option Value) (eu:Nat->Nat) (w1:World) (vs:List Value),Lk B H0 lim0 w0 H1 eu w1->Vs H1 eu w1 cs vs->
   GW [{ target:=.fn (.func g) vs.toArray,args:=#[] }] P G N X.rows.length H1 eu w1 y Q ⟨(t,.fn g cs)::X.env,X.rows⟩) :
  GW [] P G N B H0 lim0 w0 (.seq (.region id be false) y) Q X:=by
 intro H lim a w hR lk
 have eq:=nr hR _ _ eV
 have hlt:t<N:=by simpa [Nat.blt_eq] using ht
 refine wp_seq (wp_region ?_)
 subst O0
 have hr:List.range (#[o0,o1]:Array Oper).size=[0,1]:=rfl
 rw [hr]
 have Sh:V H lim w (.fn g cs) (.func (.func g) #[] (iN.map a.eval)):=by
  simp only [V]
  exact ⟨iN.toList.map a.eval,by congr 1;apply Array.ext';simp,eq⟩
 have kE:=e_ (d:=some t) hR (by simp only [vd];exact ht) Sh
 have CQ:(a.put (some t) (.func (.func g) #[] (iN.map a.eval))).tmps.getD t undef=.func (.func g) #[] (iN.map a.eval):=by
  simp [Act.put,hR.size,hlt]
 have e0:(execOp a.eval o0).run P w=.ok (.value (.func (.func g) #[] (iN.map a.eval))) w:=by
  simp [execOp,h0,Instr.makeFunc]
 have e1:(execOp (a.put (some t) (.func (.func g) #[] (iN.map a.eval))).eval o1).run P w=.ok (.defer { target:=.fn (.func g) (iN.map a.eval),args:=#[] }) w:=by
  simp [execOp,h1,resolve,Act.eval,CQ,Deferred.ofValue]
 have i0:(#[o0,o1]:Array Oper)[0]? = some o0:=rfl
 have i1:(#[o0,o1]:Array Oper)[1]? = some o1:=rfl
 have g0:∀f,Region.wanted o0 f=true:=fun f=>by simp [Region.wanted,WE]
 have g1:∀f,Region.wanted o1 f=true:=fun f=>by simp [Region.wanted,V_]
 unfold wpOps
 rw [i0]
 simp only
 rw [if_pos (g0 _)]
 refine .inl ?_
 unfold Oper.wp
 rw [e0,Oper.upon_value,Lp]
 unfold wpOps
 rw [i1]
 simp only
 rw [if_pos (g1 _)]
 refine .inl ?_
 unfold Oper.wp
 rw [e1,Oper.upon_defer,sE]
 unfold wpOps
 simp only [Exit.then,Act.put]
 have hd:a.defers=[]:=hR.defers
 have Rb:iN.map a.eval=(iN.toList.map a.eval).toArray:=by apply Array.ext';simp
 refine h H lim w (iN.toList.map a.eval) lk eq H lim _ w ⟨kE.env,kE.rows,kE.glob,?_,kE.size⟩ Lk.refl
 simp only [hd,Rb]

def zO(P:Program)(T:Tab)(G:Glob)(g:FuncId)(cs:List PV)(fn:Func)(B:Nat)(out:Out)(rows':List Row)(r:PV)(X:St):Prop:=
 ∃(L:List Nat) (args':List PV) (r':PV) (rowsL cB rows1 rows2:List Row) (env':List (Nat×PV)),
  cl L=true/\PV.subs (gc L X.rows) cs=some args'/\PV.sub (gc L X.rows) r=some r'/\bs (gc L X.rows) X.rows L=some rowsL/\ux P G g args' rowsL r' cB/\
  ce (gS L X.rows.length) cB=some rows2/\eJ (fc L X.rows) X.env=some env'/\ce (fc L X.rows) X.rows=some rows1/\T6 T fn B out rows' ⟨env',fG L rows1 rows2⟩
theorem xF (hT:bH P T) {g:FuncId}{cs:List PV}{vs:List Value}{fn:Func}{out:Out}{rows':List Row}{r:PV}{u:FrameMode}(hn:∀i,B<=i->H0 i=none) (hR:Rep D G N H lim X a w) (lk:Lk B H0 lim0 w0 H lim w)
  (eV:Vs H lim w cs vs) (hu:(r=.d (.s .nilIface)/\u=.returning)\/∃v,u=.panicking [{ v,recovered:=false }]/\V H lim w r v) (h:zO P T G g cs fn B out rows' r X) :
  Leaves P fn a.tmps (FZ H0 lim0 w0 out rows') [{ target:=.fn (.func g) vs.toArray,args:=#[] }] u w:=by
 obtain ⟨L,args',r',rowsL,cB,rows1,rows2,env',hL,sG,js,bw,⟨TO,bZ,wx⟩,lm,iX,QQ,Ap⟩:=h
 have eq:Vs (HL L H) lim w args' vs:=Vs.sub (Fr.refl (fun _=>False) lim w) (fM hR.rows).1 (fM hR.rows).2 _ _ _ sG eV
 have KK:KJ (HL L H) lim w r' u:=by
  rcases hu with ⟨rfl,hu⟩|⟨v,hu,hv⟩
  ·simp only [PV.sub,sI] at js
   exact .inl ⟨js.symm,hu⟩
  exact .inr ⟨v,hu,V.sub (Fr.refl (fun _=>False) lim w) (fM hR.rows).1 (fM hR.rows).2 _ _ _ js hv⟩
 have ve:=wx (HL L H) lim w vs u (g9 hR.rows hL bw) (hR.glob.sub Cf) eq KK
 refine leaves_cons (f:=g) (args:=vs.toArray) ?_ ?_ (ve.mono ?_)
 ·rcases hu with ⟨_,rfl⟩|⟨v,rfl,_⟩ <;> simp
 ·have:=TO vs.toArray w
  simpa [invoke] using this
 intro e u' w' ⟨⟨v,he⟩,WF,H1,eu,c1,c2,c3,c4⟩
 subst he
 simp only
 rw [WF]
 obtain ⟨jK,_⟩:=xr (p:=.tup []) (p':=.tup []) hR hL bw bZ iX QQ lm c1 c2 c3 c4
 have OH:=jK.rep
 have Kx:=lk.trans jK.lk
 obtain ⟨ps,L2,ps',fS,q1,q2,q3,q4,q5,q6,q7⟩:=Ap
 obtain ⟨us,r1,r2⟩:=mD (P:=P) hT OH q1
 have Rw:=Kx.trans (tm (H:=HB L X.rows.length H H1) (lim:=eu) (w:=w') q2)
 have r3:=Vs.sub (Fr.refl (fun _=>False) eu w') (fM OH.rows).1 (fM OH.rows).2 _ _ _ q4 r2
 have Cj:∀id v,stay v=true->H0 id=some v->HL L2 (HB L X.rows.length H H1) id=H0 id:=fun id v iF hq=>by
  rcases Nat.lt_or_ge id B with hlt|hlt
  ·exact Rw.ptr id v hlt iF hq
  rw [hn id hlt] at hq;cases hq
 simp only [Leaves]
 exact ⟨_,r1,_,eu,g9 OH.rows q3 q5,Rw.fr,Cj,Rw.blocks,by subst q7;exact ⟨_,rfl,FU (q6.sound r3)⟩⟩

def vr(B:Nat):List PV->Bool
 |[]=>true
 |.box i _::r=>match Nat.blt i B with
  |true=>vr B r
  |false=>false
 |_::_=>false
theorem pk(lk:Lk B H0 lim0 w0 H lim w):∀ {cs:List PV}{vs:List Value},vr B cs=true->Vs H0 lim0 w0 cs vs->Vs H lim w cs vs
 |[],_,_,hv=>hv
 |.box i o::r,vs,hb,hv=>by
  simp only [vr] at hb
  split at hb
  ·rename_i hi
   have hlt:i<B:=by simpa [Nat.blt_eq] using hi
   simp only [Vs,V] at hv ⊢
   obtain ⟨_,us,rfl,⟨b,h1,rfl⟩,h2⟩:=hv
   exact ⟨_,us,rfl,⟨b,(lk.ptr i _ hlt rfl h1).trans h1,rfl⟩,pk lk hb h2⟩
  cases hb
theorem Lk.narrow{B':Nat}(h:Lk B H lim w H' lim' w')(hB:B'<=B):Lk B' H lim w H' lim' w':=⟨h.fr,fun id v hid=>h.ptr id v (Nat.lt_of_lt_of_le hid hB),h.blocks⟩

theorem wW (hT:bH P T) {g:FuncId}{cs:List PV}{vs:List Value}{fn:Func}{out:Out}{rows':List Row}(hn:∀i,B<=i->H0 i=none) (WG:B<=B1) (Jg:Lk B H0 lim0 w0 H1 eu w1) (eV:Vs H1 eu w1 cs vs) (hb:vr B1 cs=true)
  (h:zO P T G g cs fn B out rows' (.d (.s .nilIface)) X):Br [{ target:=.fn (.func g) vs.toArray,args:=#[] }] G N B1 H1 eu w1 (bodyPostD P fn (FZ H0 lim0 w0 out rows')) X:=by
 intro H lim a w hR lk
 simp only [bodyPostD]
 rw [hR.defers]
 exact xF hT hn hR (Jg.trans (lk.narrow WG)) (pk lk hb eV) (.inl ⟨rfl,rfl⟩) h
theorem GK (hT:bH P T) {g:FuncId}{cs:List PV}{vs:List Value}{fn:Func}{out:Out}{rows':List Row}{p:PV}(hn:∀i,B<=i->H0 i=none) (WG:B<=B1) (Jg:Lk B H0 lim0 w0 H1 eu w1) (eV:Vs H1 eu w1 cs vs) (hb:vr B1 cs=true)
  (h:zO P T G g cs fn B out rows' p X):Bs [{ target:=.fn (.func g) vs.toArray,args:=#[] }] G N B1 H1 eu w1 (bodyPostD P fn (FZ H0 lim0 w0 out rows')) p X:=by
 intro H lim a w v hR lk hv
 simp only [bodyPostD]
 rw [hR.defers]
 exact xF hT hn hR (Jg.trans (lk.narrow WG)) (pk lk hb eV) (.inr ⟨v,rfl,hv⟩) h

theorem oL {f:FuncId}{fn:Func}{c:Code}{args:List PV}{rows rows':List Row}{out:Out}(hf:P.funcs[f]? = some fn) (hb:fn.body=some c) (ic:(fn.name== "runtime.NumGoroutine")=false)
  (bZ:rows.length<=rows'.length) (hN:N=args.length+(fn.ntmps - args.length))
  (h:∀(H0:Nat->Option Value) (lim0:Nat->Nat) (w0:World),(∀i,rows.length<=i->H0 i=none)->GW [] P G N rows.length H0 lim0 w0 c (bodyPostD P fn (FZ H0 lim0 w0 out rows')) ⟨jT 0 args,rows⟩):Spec P G f args rows out rows':=by
 refine ⟨fun av w=>?_,bZ,fun H lim w vs bw eT eq=>?_⟩
 ·have aO:¬fn.name = "runtime.NumGoroutine":=by simpa using ic
  simp [callFunc,hf,aO,hb,program,Sem.run]
 have s8:vs.length=args.length:=dA eq
 refine calls_of_wp_defers hf hb (h H lim w (fun i hi=>bw.dom i hi) H lim _ w ⟨fun j p hj=>?_,bw,eT,rfl,?_⟩ Lk.refl)
 ·obtain ⟨_,hj⟩:=jE hj
  obtain ⟨v,h1,h2⟩:=kG eq hj
  simp only [Nat.sub_zero] at h1
  have hlt:=(List.getElem?_eq_some_iff.1 h1).1
  refine ⟨by omega,?_⟩
  have:((vs.toArray++Array.replicate (fn.ntmps - vs.toArray.size) undef).getD j undef)=v:=by
   rw [Array.getD_eq_getD_getElem?,Array.getElem?_append_left (by simpa using hlt)]
   simp [h1]
  rw [this]
  exact h2
 simp [hN,s8]
end
end
end Go.Abs
end
section
namespace Go.Abs
open Go Go.Proofs
attribute [local irreducible] c8 dJ Sub Spec GW ux Br Bs
section
theorem Hm(G:Glob)(x0 x1 x2 x3 e:Data):ux Tryz.prog G 54 [.box 0 0,.box 1 0] [.box 28 [.d x0,.d x1,.d x2,.d x3],.box 30 [.d e]] (.d (.s .nilIface)) [.box 28 [.d x0,.d x1,.d x2,.d x3],.box 30 [.d e]]:=by
 refine kP b8 (N:=13) (fn:=Tryz.f54) (d0:=5) Tryz.func54 rfl (by rfl) rfl (nR _) rfl rfl rfl rfl rfl rfl rfl ?_;intro pan K hK;refine hK _ ?_;clear hK K pan;refine aq [0,1,2,3] rfl rfl ?_;refine rz [0,1,2,9] ?_;refine aj rfl (ac ?_);exact ⟨[0,1],rfl,rfl,rfl⟩
section
variable (t:Nat->TypeId) (u:Nat->Value)
def p0(s:BA):PS s:=⟨0,⟨#[]⟩,Nat.zero_le _⟩
theorem Nu(s:BA)(jW:s.size<=4000)(n:Nat)(Up:n<=1000000)(g:Pg)(q:PS s)(hr:Cx s n (nx s (p0 s))=.ok g q):Spec Tryz.prog (GV t u) 16 [.d (aW s)] [] (.ret (.tup [LZ g,.d (.s .nilIface)])) []:=by
 have hs:s.size<4611686018427387904:=by omega
 have sp:=Eh t u s jW n Up (nx s (p0 s));rw [hr] at sp;obtain ⟨v,a,f,m⟩:=g;refine oL (N:=18) Tryz.func16 rfl (by rfl) (nR _) rfl ?_;intro H0 lim0 w0 hn;refine dt b8 fun pan K hp hK=>?_;refine hK _ ?_;clear hK hp K pan;refine fV [0,2,3] rfl rfl ?_;refine Ej ?_;refine rz [0,2,3,7] ?_;refine cQ rfl (fun h1=>?_) fun h1=>?_
 ·have:=oT h1;omega
 refine ac (fV [0,2,3] rfl rfl ?_);refine kQ rfl rfl rfl rfl rfl rfl rfl rfl rfl fun H1 eu w1 vs Jg eV=>?_;refine fV [0,2,3] rfl rfl ?_;refine dt b8 fun pan K hp hK=>?_;refine hK _ ?_;clear hK hp K pan;refine fV [2,3,4] rfl rfl ?_;refine dt b8 fun pan K hp hK=>?_;refine aS [2] (bX _ s (p0 s) hs) ?_;refine hK _ ?_;clear hK hp K pan;refine fV [2,3,4] rfl rfl ?_;refine dt b8 fun pan K hp hK=>?_;refine aS [2] (sp nofun) ?_;refine hK _ ?_;clear hK hp K pan;refine fV [2,3] rfl rfl ?_;refine Jh (wW b8 hn (Nat.zero_le _) Jg eV rfl ?_);exact ⟨[0,1],_,_,_,_,_,_,_,rfl,rfl,rfl,rfl,Hm _ _ _ _ _ _,rfl,rfl,rfl,_,[],_,[_,_],rfl,rfl,rfl,rfl,rfl,PWs.refl _,rfl⟩
end
end
end Go.Abs
end
section
namespace Go.Proofs
open Go Go.RowKit
set_option maxHeartbeats 1000000 in
set_option maxRecDepth 100000 in
theorem Tryz.copyCheck_used(b:Nat)(w:World)(h0:w.cell? ⟨b,0,none⟩=some (.pointer (some ⟨b,0,none⟩))):
  Calls Tryz.prog 207 #[.pointer (some ⟨b,0,none⟩)] w fun e w'=>e=.returned (.tuple #[])/\w'=w:=by
 obtain ⟨j,hj,AW⟩:=Option.map_eq_some_iff.1 (show (Tryz.prog.info? 165).map (·.size)=some 2 from by kernel_rfl);have t70:=Tryz.underlying162
 go_enter Tryz.func207,Tryz.ntmps207
 go_wp2
 rw [Lib.run_neq_ptr_same w _ Tryz.underlying162 hj]
 go_wp2
 go_end0
 exact ⟨rfl,rfl⟩
set_option maxHeartbeats 1000000 in
set_option maxRecDepth 100000 in
theorem Tryz.copyCheck_fresh(b:Nat)(w:World)(h0:w.cell? ⟨b,0,none⟩=some (.pointer none))(HG:w.shape? b=some (167,5))(Y8:w.frozen? ⟨b,0,none⟩=false):
  Calls Tryz.prog 207 #[.pointer (some ⟨b,0,none⟩)] w fun e w'=>e=.returned (.tuple #[])/\w'=w.setCell ⟨b,0,none⟩ (.pointer (some ⟨b,0,none⟩)):=by
 obtain ⟨j,hj,AW⟩:=Option.map_eq_some_iff.1 (show (Tryz.prog.info? 165).map (·.size)=some 2 from by kernel_rfl);have t70:=Tryz.underlying162;have t164:=Tryz.underlying306
 have WH:liesAt Tryz.prog Tryz.prog.depth 167 (5 / Tryz.prog.cellsOf 167) 0 165 1=true:=by kernel_rfl
 go_enter Tryz.func207,Tryz.ntmps207
 go_wp2
 rw [Lib.run_to_unsafe w ⟨b,0,none⟩ Tryz.underlying162 Tryz.underlying306 hj (by rw [AW];decide) HG (Nat.zero_lt_succ 4)];simp only [Result.andThen];rw [Oper.upon_value]
 go_wp2
 rw [run_callFunc_extern Tryz.func250 (by kernel_rfl) (by kernel_rfl) (by kernel_rfl) (e:=Extern.AbiNoEscape.same) (by kernel_rfl)];rw [Lib.run_noEscape];simp only [Result.andThen];rw [Oper.upon_value]
 go_wp2
 rw [Lib.run_from_unsafe w ⟨b,0,none⟩ Tryz.underlying306 Tryz.underlying162 hj HG WH];simp only [Result.andThen];rw [Oper.upon_value]
 go_wp2
 go_end0
 exact ⟨rfl,rfl⟩
end Go.Proofs
end
section
namespace Go.Proofs
open Go Go.RowKit
set_option maxHeartbeats 2000000 in
set_option maxRecDepth 100000 in
theorem Tryz.String_at (b g cap:Nat) (cs:Array Value) (ty:TypeId) (po:Array Value) (l:List UInt8) (w:World) (h0:l≠[]) (RV:w.heap[b]? = some (.cells cs ty (0,0))) (eV:cs[1]? = some (.slice (some ⟨g,0,none⟩) l.length cap))
  (hg:w.heap[g]? = some (.cells po 5 (0,0))) (Le:l.length<=cap) (N5:cap<=maxLen) (lB:po.size=cap * 1) (T7:po.toList.take (l.length * 1)=Lib.byteCells l) :
  Calls Tryz.prog 82 #[.pointer (some ⟨b,0,none⟩)] w fun e w'=>e=.returned (.string ⟨l.toArray⟩)/\∃k,w'=(w.drewN k).freeze ⟨g,0,none⟩ l.length:=by
 have hl0:l.length≠0:=by simpa using h0
 have c1:w.drew.cell? ⟨b,1,none⟩=some (.slice (some ⟨g,0,none⟩) l.length cap):=by
  have:w.drew.heap[b]? = some (.cells cs ty (0,0)):=RV;rw [Lib.cell_of_heap this];exact eV
 have hSD:(Builtin.unsafeSliceData_ #[163] 269 #[.slice (some ⟨g,0,none⟩) l.length cap]).run Tryz.prog w.drew=.ok (.pointer (some ⟨g,0,none⟩)) w.drew:=
  Lib.run_unsafeSliceData_row _ _ _ _ _ _ (by omega)
 have hUS:(Builtin.unsafeString_ #[269,3] 9 #[.pointer (some ⟨g,0,none⟩),.int .i64 l.length]).run Tryz.prog w.drew=.ok (.string ⟨l.toArray⟩) (w.drew.freeze ⟨g,0,none⟩ l.length):=by
  refine Lib.run_unsafeString_row w.drew 269 3 9 5 Tryz.underlying269 (by kernel_rfl) g po.size (by have WI:w.drew.heap[g]? = some (.cells po 5 (0,0)):=hg;simp [World.shape?,WI]) l h0 (by omega) (by unfold maxLen at N5;omega) ?_;intro j x hx;have hj:j<l.length:=(List.getElem?_eq_some_iff.1 hx).1;have WI:w.drew.heap[g]? = some (.cells po 5 (0,0)):=hg
  have e1:(po.toList.take (l.length * 1))[j]? = some (Value.int .u8 x.toNat):=by rw [T7];simp [Lib.byteCells,hx]
  rw [List.getElem?_take_of_lt (by omega),Array.getElem?_toList] at e1;rw [Go.Abs.add_plain,Lib.cell_of_heap WI]
  simpa using e1
 have mixed:=Tryz.lays169.mixed;have t165:=Tryz.underlying165;have Zz:=Tryz.isAgg165;have ZA:=Tryz.sizeOf165;have ZB:=Tryz.zeroValue165;have ZC:=run_underlying Tryz.underlying165;have t162:=Tryz.underlying162;have ZD:=Tryz.isAgg162;have ZE:=Tryz.sizeOf162;have ZF:=Tryz.zeroValue162;have ZG:=run_underlying Tryz.underlying162;have t163:=Tryz.underlying163;have ZH:=Tryz.isAgg163;have ZI:=Tryz.sizeOf163;have ZJ:=Tryz.zeroValue163;have ZK:=run_underlying Tryz.underlying163;have t269:=Tryz.underlying269;have ZL:=Tryz.isAgg269;have ZM:=Tryz.sizeOf269;have ZN:=Tryz.zeroValue269;have ZO:=run_underlying Tryz.underlying269;have t3:=Tryz.underlying3;have a3:=Tryz.isAgg3;have z3:=Tryz.sizeOf3;have v3:=Tryz.zeroValue3;have u3:=run_underlying Tryz.underlying3;have t9:=Tryz.underlying9;have a9:=Tryz.isAgg9;have z9:=Tryz.sizeOf9;have v9:=Tryz.zeroValue9;have u9:=run_underlying Tryz.underlying9;have t5:=Tryz.underlying5;have a5:=Tryz.isAgg5;have z5:=Tryz.sizeOf5;have v5:=Tryz.zeroValue5;have u5:=run_underlying Tryz.underlying5
 go_enter Tryz.func82,Tryz.ntmps82
 go_wp2
 go_region_o
 all_goals (go_wp2;go_ret;exact ⟨rfl,1,rfl⟩)
end Go.Proofs
namespace Go.Abs
open Go Go.Proofs
theorem yF{P:Program}{f:FuncId}{fn:Func}{c:Code}(hf:P.funcs[f]? = some fn)(hb:fn.body=some c)(ic:(fn.name== "runtime.NumGoroutine")=false)(av:Array Value)(w:World):(callFunc f av).run P w=.ok (.enter f av) w:=by
 have aO:¬fn.name = "runtime.NumGoroutine":=by simpa using ic
 simp [callFunc,hf,aO,hb,program,Sem.run]
def WJ:Act:={ tmps:=#[],defers:=[] }
theorem SN{G:Glob}{H:Nat->Option Value}{lim:Nat->Nat}{w:World}{rows:List Row}(h:RowsOk H lim w rows)(hg:GlobOk G H lim w):Rep [] G 0 H lim ⟨[],rows⟩ WJ w:=
 ⟨fun j p q=>by simp [look] at q,h,hg,rfl,rfl⟩
theorem Ek{lim:Nat->Nat}{w:World}{b o:Nat}{ob:Obj}(hb:w.heap[b]? = some ob)(hl:lim b=0)(v:Value):Fr (fun c=>some b=some c) lim w lim (w.setCell ⟨b,o,none⟩ v):=by
 refine ⟨rfl,rfl,rfl,by simp [World.setCell],fun c _=>⟨nR _,fun o' ho=>?_⟩,fun c _ hn=>⟨my v fun e=>hn (by rw [e]),rfl⟩⟩
 have:c≠b:=fun q=>by rw [q,hl] at ho;omega
 exact World.cell?_of_block (w:=w) (my v this)
theorem Hn(G:Glob)(c:List PV)(xs:List (List Data)):Spec Tryz.prog G 207 [.box 0 0] [.box 167 (.box 0 0::c),.acc 5 1 xs] (.ret (.tup [])) [.box 167 (.box 0 0::c),.acc 5 1 xs]:=by
 refine ⟨yF Tryz.func207 (by rfl) (by rfl),nR _,fun H lim w vs bw eT eq=>?_⟩;simp only [Vs,V] at eq;obtain ⟨_,_,rfl,⟨b,hb,rfl⟩,rfl⟩:=eq;obtain ⟨b',cs,h1,h2,h3,h4⟩:=bw.row 0 _ rfl;rw [hb] at h1;simp only [sI,Value.pointer.injEq,Addr.mk.injEq,and_true] at h1;subst h1;simp only [Vs,V] at h3;obtain ⟨_,us,rfl,⟨b2,mQ,rfl⟩,h3⟩:=h3;rw [hb] at mQ;simp only [sI,Value.pointer.injEq,Addr.mk.injEq,and_true] at mQ;subst mQ;refine (Tryz.copyCheck_used b w (by rw [Lib.cell_of_heap h2];rfl)).mono ?_;rintro e w' ⟨rfl,rfl⟩;exact ⟨H,lim,bw,Fr.refl _ _ _,fun _ _ _ _=>rfl,fun _ q=>.inl q,_,rfl,[],rfl,by simp only [Vs]⟩
theorem El(G:Glob)(c:List PV)(hc:c.length=4)(xs:List (List Data)):Spec Tryz.prog G 207 [.box 0 0] [.box 167 (.d (.s (.pointer none))::c),.acc 5 1 xs] (.ret (.tup [])) [.box 167 (.box 0 0::c),.acc 5 1 xs]:=by
 refine ⟨yF Tryz.func207 (by rfl) (by rfl),nR _,fun H lim w vs bw eT eq=>?_⟩;simp only [Vs,V] at eq;obtain ⟨_,_,rfl,⟨b,hb,rfl⟩,rfl⟩:=eq;obtain ⟨b',cs,h1,h2,h3,h4⟩:=bw.row 0 _ rfl;rw [hb] at h1;simp only [sI,Value.pointer.injEq,Addr.mk.injEq,and_true] at h1;subst h1;simp only [Vs,V,VD] at h3;obtain ⟨_,us,rfl,rfl,h3⟩:=h3;have bZ:=dA h3;refine (Tryz.copyCheck_fresh b w (by rw [Lib.cell_of_heap h2];rfl) (by simp [World.shape?,h2,bZ,hc]) (by simp [World.frozen?,h2])).mono ?_;rintro e w' ⟨rfl,rfl⟩;have hF:=Ek (o:=0) h2 h4 (.pointer (some ⟨b,0,none⟩))
 replace hF:=hF.weaken (Wr':=fun c=>Ow H 0 c) fun c q=>(bU hb).2 (Option.some.inj q).symm
 have hn:=rB (D:=[]) (r':=.box 167 (.box 0 0::c)) (SN bw eT) (id:=0) rfl hF ⟨b,_,hb,by simpa using uV h2 _,?_,h4⟩
 ·exact ⟨H,lim,hn.rep.rows,hF.weaken fun _ q=>⟨0,q⟩,fun _ _ _ _=>rfl,fun _ q=>.inl q,_,rfl,[],rfl,by simp only [Vs]⟩
 simp only [Vs,V];exact ⟨_,us,rfl,⟨b,hb,rfl⟩,h3.mono hF (fun _ _ q=>q)⟩
theorem wk{lim:Nat->Nat}{w:World}(s:BA){zs:List Value}(h:VDs lim w (jn s).flatten zs):zs=Lib.byteCells s.data.toList:=by
 unfold jn at h
 unfold Lib.byteCells
 revert zs h
 generalize s.data.toList=l
 induction l with
 |nil=>intro zs h;simpa only [List.map_nil,List.flatten_nil,VDs] using h
 |cons c r ih=>
  intro zs h;simp only [List.map_cons,List.flatten_cons,List.cons_append,List.nil_append,VDs,VD] at h;obtain ⟨_,us,rfl,rfl,h⟩:=h;rw [List.map_cons,ih h]
theorem xG{w:World}{g n:Nat}(b:Nat)(h:b≠g):(w.freeze ⟨g,0,none⟩ n).heap[b]? = w.heap[b]?:=by
 unfold World.freeze
 split
 ·rfl
 simp only [Array.getElem?_modify];rw [if_neg (fun e=>h e.symm)]
theorem sC{w:World}{g n:Nat}(b o:Nat):(w.freeze ⟨g,0,none⟩ n).cell? ⟨b,o,none⟩=w.cell? ⟨b,o,none⟩:=by
 unfold World.freeze
 split
 ·rfl
 simp only [World.cell?,Array.getElem?_modify]
 by_cases e:g=b
 ·rw [if_pos e]
  cases w.heap[b]? with
  |none=>rfl
  |some ob=>cases ob <;> rfl
 rw [if_neg e]
theorem Cy(G:Glob)(x2 x3 x4:Data)(s:BA)(hs:s.data.toList≠[]):
  Spec Tryz.prog G 82 [.box 0 0] [.box 167 [.box 0 0,.acc 1,.d x2,.d x3,.d x4],.acc 5 1 (jn s)] (.ret (.d (aW s))) [.box 167 [.box 0 0,.d (.sl 1 (jn s)),.d x2,.d x3,.d x4],.acc 5 1 []]:=by
 refine ⟨yF Tryz.func82 (by rfl) (by rfl),nR _,fun H lim w vs bw eT eq=>?_⟩;simp only [Vs,V] at eq;obtain ⟨_,_,rfl,⟨b,hb,rfl⟩,rfl⟩:=eq;obtain ⟨b',cs,h1,h2,h3,h4⟩:=bw.row 0 _ rfl;rw [hb] at h1;simp only [sI,Value.pointer.injEq,Addr.mk.injEq,and_true] at h1;subst h1;obtain ⟨hv,zs,g1,g2,g3,g4,g5,g6⟩:=bw.row 1 _ rfl;have hz:=wk s g3;subst hz
 have bZ:s.data.toList.length=(jn s).length:=by simp [jn]
 have K9:=h3;simp only [Vs,V] at h3;obtain ⟨u0,us,rfl,XU,u1,us,rfl,J9,u2,us,rfl,Ox,u3,us,rfl,Wa,u4,us,rfl,ZP,rfl⟩:=h3;rw [g1] at J9;simp only [sI] at J9;subst J9;obtain ⟨q1,⟨rfl,q2⟩|⟨g,cap,po,rfl,q2,q3,q4,q5,q6,q7⟩⟩:=g2
 ·rw [<- bZ] at q2
  exact absurd (lE q2) hs
 have WK:Ow H 0 b:=(bU hb).2 rfl;have Ry:Ow H 1 g:=(bU g1).2 rfl;have Vj:b≠g:=fun e=>bw.apart 0 1 b (by decide) WK (e▸Ry);rw [<- bZ] at q4 q7;refine (Tryz.String_at b g cap _ 167 po s.data.toList w hs h2 (by simp [bZ]) q3 q4 q5 q6 q7).mono ?_;rintro e w' ⟨rfl,k,rfl⟩;have ZQ:lim g=(jn s).length * 1:=g6 g rfl
 have hF:Fr (fun c=>c=g) lim w lim ((w.drewN k).freeze ⟨g,0,none⟩ s.data.toList.length):=by
  refine ⟨by unfold World.freeze;split <;> rfl,by unfold World.freeze;split <;> rfl,by unfold World.freeze;split <;> rfl,by unfold World.freeze;split <;> simp [World.drewN],fun c _=>⟨nR _,fun o _=>?_⟩,fun c _ hn=>⟨?_,rfl⟩⟩
  ·rw [sC];rfl
  rw [xG c hn];rfl
 have hbs:∀id c,id≠1->Ow H id c->c≠g:=fun id c hid hc e=>bw.apart id 1 c hid hc (e▸Ry)
 have T8:∀(j:Nat) (v:Value),(Lib.byteCells s.data.toList)[j]? = some v->w.cell? ⟨g,j,none⟩=some v:=by
  intro j v hj;rw [Lib.cell_of_heap q3,<- Array.getElem?_toList];rw [<- q7,List.getElem?_take] at hj;split at hj
  ·exact hj
  cases hj
 have pW:∀(l:List UInt8) (o:Nat),o+l.length<=lim g->(∀j v,(Lib.byteCells l)[j]? = some v->w.cell? ⟨g,o+j,none⟩=some v)->VRow lim ((w.drewN k).freeze ⟨g,0,none⟩ s.data.toList.length) g 1 o (l.map fun b=>[.s (.int .u8 b.toNat)]):=by
  intro l
  induction l with
  |nil=>intro o _ _;simp only [List.map_nil,VRow]
  |cons c r ih=>
   intro o ho hc;simp only [List.map_cons,VRow,VCells,and_true];simp only [lC] at ho;refine ⟨rfl,⟨_,by rw [sC];exact hc 0 _ (by simp [Lib.byteCells];rfl),by omega,rfl,by simp only [VD]⟩,ih (o+1) (by omega) fun j v hj=>?_⟩;have:=hc (j+1) v (by simpa [Lib.byteCells] using hj)
   rwa [show o+1+j=o+(j+1) by omega]
 refine ⟨pt H 1 (some (.slice none 0 0)),lim,⟨fun id r hr=>?_,fun i j c qP hi hj=>?_,fun id hid=>?_⟩,hF.weaken fun c hc=>⟨1,hc▸Ry⟩,fun id v iF hv=>?_,fun c ⟨id,hc⟩=>?_,_,rfl,?_⟩
 ·match id with
  |0=>
   simp only [List.getElem?_cons_zero,sI] at hr;subst hr;refine ⟨b,[u0,.slice (some ⟨g,0,none⟩) (jn s).length cap,u2,u3,u4],by rw [ch _ _ (by decide)];exact hb,by rw [xG b Vj];exact h2,?_,h4⟩;simp only [Vs,V] at XU ⊢;obtain ⟨b2,mQ,rfl⟩:=XU;refine ⟨_,_,rfl,⟨b2,by rw [ch _ _ (by decide)];exact mQ,rfl⟩,_,_,rfl,?_,_,_,rfl,Ox.mono hF,_,_,rfl,Wa.mono hF,_,_,rfl,ZP.mono hF,rfl⟩;simp only [VD];refine ⟨_,_,cap,rfl,rfl,by rw [<- bZ];exact q4,q5,fun _=>⟨g,0,rfl,pW s.data.toList 0 (by rw [ZQ,<- bZ];omega) fun j v hj=>by rw [Nat.zero_add];exact T8 j v hj⟩⟩
  |1=>
   simp only [List.getElem?_cons_succ,List.getElem?_cons_zero,sI] at hr;subst hr;exact ⟨_,[],aX _ _ _,World.ownsRow_nil _ 0 5 1,by simp only [List.flatten_nil,VDs],(fun x hx=>by cases hx),by decide,(fun b hb=>by cases hb)⟩
  |id+2=>simp at hr
 ·have f:∀i c,Ow (pt H 1 (some (.slice none 0 0))) i c->Ow H i c:=by
   intro i c h
   by_cases e:i=1
   ·subst e;exact ((bU (aX _ _ _)).1 h).elim
   exact (fu e).1 h
  exact bw.apart i j c qP (f i c hi) (f j c hj)
 ·rw [ch _ _ (by simp at hid;omega)];exact bw.dom id hid
 ·by_cases e:id=1
  ·subst e;rw [g1] at hv;cases hv;cases iF
  rw [ch _ _ e]
 ·by_cases e:id=1
  ·subst e;exact ((bU (aX _ _ _)).1 hc).elim
  exact .inl ⟨id,(fu e).1 hc⟩
 simp only [V,aW,VD]
theorem rc{lim:Nat->Nat}{w:World}{b:Nat}:∀(xs:List BA) (o:Nat),VRow lim w b 1 o (strs xs)->∀(j:Nat) (x:BA),xs[j]? = some x->w.cell? ⟨b,o+j,none⟩=some (.string x)
 |[],_,_,j,x,hj=>by simp at hj
 |s::r,o,h,j,x,hj=>by
  simp only [strs,List.map_cons,VRow,VCells,and_true] at h;obtain ⟨_,⟨v,h1,_,_,h2⟩,h3⟩:=h
  cases j with
  |zero=>
   simp only [List.getElem?_cons_zero,sI] at hj;subst hj;simp only [aW,VD] at h2;rw [Nat.add_zero,h1,h2]
  |succ j=>
   have:=rc r (o+1) h3 j x (by simpa using hj)
   rwa [show o+(j+1)=o+1+j by omega]
theorem Ho(G:Glob)(xs:List BA)(sep:BA)(hl:(Lib.join (xs.map (·.data.toList)) sep.data.toList).length<=140737488355328)(hn:xs.length<=140737488355328):
  Spec Tryz.prog G 78 [.d (.sl 1 (strs xs)),.d (aW sep)] [] (.ret (.d (aW ⟨(Lib.join (xs.map (·.data.toList)) sep.data.toList).toArray⟩))) []:=by
 refine ia Tryz.func78 rfl (by rfl) ?_;intro H lim W vs Uo eT eq;simp only [Vs,V,aW,VD] at eq;obtain ⟨_,_,rfl,⟨A,n,c,rfl,rfl,Le,N5,pW⟩,_,_,rfl,rfl,rfl⟩:=eq
 have el:(strs xs).length=xs.length:=by simp [strs]
 by_cases h0:xs=[]
 ·subst h0
  refine (Tryz.strings_Join_none A c sep W).mono ?_;rintro e w' ⟨rfl,rfl⟩;exact ⟨⟨_,rfl,fun lim' _=>by simp only [V,aW,VD];rfl⟩,RowKit.Below.refl _ _⟩
 have aO:xs.length≠0:=fun e=>h0 (lE e);obtain ⟨b,o,rfl,hr⟩:=pW (by rw [el];exact aO);rw [el] at Le;have hc:=rc xs o hr
 have hb:b<W.heap.size:=by
  cases xs with
  |nil=>exact absurd rfl h0
  |cons x r=>
   have:=hc 0 x rfl
   rcases Nat.lt_or_ge b W.heap.size with h|h
   ·exact h
   simp [World.cell?,Array.getElem?_eq_none h] at this
 have:=Tryz.strings_Join b o c xs sep W hc hb hn Le hl;rw [<- el] at this;refine this.mono ?_;rintro e w' ⟨rfl,fA⟩;exact ⟨⟨_,rfl,fun lim' _=>by simp only [V,aW,VD]⟩,fA⟩
end Go.Abs
end
section
namespace Go.Abs
open Go Go.Proofs
attribute [local irreducible] c8 dJ Sub Spec
structure WS where
 b:BA
 inn:Nat
 ok:Bool
 n:Int
def wr(W:WS):List Row:=[.box 167 [.box 0 0,.acc 1,.d (aD W.inn),.d (.s (.bool W.ok)),.d (aD W.n)],.acc 5 1 (jn W.b)]
def KL(W:WS):List Row:=[.box 167 [.d (.s (.pointer none)),.acc 1,.d (aD W.inn),.d (.s (.bool W.ok)),.d (aD W.n)],.acc 5 1 (jn W.b)]
theorem vt(a b:BA):jn a++jn b=jn (a++b):=by simp [jn]
def aT(W:WS)(c:Bool):WS:=⟨W.b,W.inn,W.ok&&c,W.n⟩
def cU(W:WS)(d:Int):WS:=aT ⟨W.b,W.inn,W.ok,IntKind.i64.wrap (W.n+1)⟩ (decide (d<=12)&&decide (IntKind.i64.wrap (W.n+1)<=4000))
def CN(W:WS)(s:BA):WS:=⟨W.b++s,W.inn,W.ok,W.n⟩
def b9(n:Nat):BA:=⟨(Lib.repeatL (⟨#[32,32]⟩:BA).data.toList n).toArray⟩
def wq(W:WS)(s:BA):WS:=CN W ((b9 W.inn++s)++⟨#[10]⟩)
theorem T9{x y:BA}{m k:Nat}(hx:x.size<=m)(hy:y.size<=k)(h:m+k<=9223372036854775807):x.size+y.size<=9223372036854775807:=by omega
theorem sZ{x y:BA}{m k:Nat}{Q:Prop}(q:Q)(hx:x.size<=m:=by repeat' (first|assumption|apply xH|exact nR _))(hy:y.size<=k:=by repeat' (first|assumption|apply xH|exact nR _))(h:m+k<=9223372036854775807:=by decide):(x.size+y.size<=9223372036854775807)/\Q:=⟨T9 hx hy h,q⟩
theorem xH{x y:BA}{m k:Nat}(hx:x.size<=m)(hy:y.size<=k):(x++y).size<=m+k:=by rw [zA];omega
theorem cY(n:Nat):(b9 n).size=2 * n:=by
 show (Lib.repeatL _ n).toArray.size=_
 induction n with
 |zero=>rfl
 |succ n ih=>simp [Lib.repeatL] at ih ⊢;omega
theorem KM(G:Glob)(W:WS)(s:BA)(hz:W.b.size+s.size<=140737488355328):Spec Tryz.prog G 148 [.box 0 0,.d (aW s)] (wr W) (.ret (.tup [.d (aD s.size),.d (.s .nilIface)])) (wr (CN W s)):=by
 unfold CN wr
 rw [<- vt];refine sA (N:=19) Tryz.func148 ?_;refine rz [0,1] ?_;refine rS fun J O=>aS [0,1] (Hn G _ _) ?_;refine O _ (aM [0,1] ?_);clear O J;refine rS fun J O=>?_;refine aI (by rw [o_];exact hz) ?_;refine O _ (aM [1] ?_);clear O J;refine rz [4,5] ?_;refine ae ?_;exact lI [0,1] _
theorem nt(G:Glob)(W:WS)(c:Bool):Spec Tryz.prog G 76 [.box 0 0,.d (.s (.bool c))] (wr W) (.ret (.tup [])) (wr (aT W c)):=by
 obtain ⟨V',hG⟩:∃r,aT W c=r:=⟨_,rfl⟩;rw [hG];refine sA (N:=14) Tryz.func76 ?_;refine rG fun J O=>?_;refine ab (fun h1=>?_) (fun h1=>?_)
 ·refine O _ ?_;clear O J
  simp only [aT,h1,Bool.true_and] at hG;subst hG;exact lI [0,1] _
 refine O _ ?_;clear O J;simp only [aT,h1,Bool.false_and] at hG;subst hG;exact lI [0,1] _
theorem Hp(G:Glob)(W:WS)(s:BA)(hs:s.size<4611686018427387904):Spec Tryz.prog G 75 [.box 0 0,.d (aW s)] (wr W) (.ret (.d (aW s))) (wr (aT W (aC s))):=by
 refine sA (N:=10) Tryz.func75 ?_;refine rz [0,1] ?_;refine rS fun J O=>aS [] (mF G s hs) ?_;refine aS [0,1] (nt G W _) ?_;refine O _ (aM [1] ?_);clear O J;refine rz [4] ?_;refine ae ?_;exact lI [0,1] _
def OI:Plan:=(.take 0 (.take 1 (.take 2 (.take 3 (.take 4 (.take 5 (.load 6 (.take 8 (.one 7 (.take 9 (.take 10 (.one 11 .done))))))))))))
theorem Hq(G:Glob)(W:WS)(s:BA)(hi:W.inn<=1073741824)(hs:s.size<=1073741824)(hb:W.b.size<=70368744177664):Spec Tryz.prog G 74 [.box 0 0,.d (aW s)] (wr W) (.ret (.tup [])) (wr (wq W s)):=by
 have hx:(b9 W.inn).size<=2147483648:=by rw [cY];omega
 have hz:W.b.size+((b9 W.inn++s)++⟨#[10]⟩).size<=140737488355328:=by
  rw [zA,zA];have:(⟨#[10]⟩:BA).size=1:=rfl;omega
 unfold b9 at hx
 refine sA (N:=16) Tryz.func74 ?_;refine (dW OI [7,11] (fun _=>true) (by kernel_rfl) fun J O=>?_)
 refine aR [] rfl rfl rfl (sB G ⟨#[32,32]⟩ W.inn (by show 2 * W.inn<=_;omega) (by omega)) rfl rfl rfl rfl ?_;refine sZ ?_;refine sZ ?_;refine aS [0,1] (KM G W _ hz) ?_;refine O _ ?_;clear O J;exact lI [0,1] _
theorem Hr(G:Glob)(W:WS)(s:BA)(hz:W.b.size+s.size<=140737488355328):Spec Tryz.prog G 148 [.box 0 0,.d (aW s)] (KL W) (.ret (.tup [.d (aD s.size),.d (.s .nilIface)])) (wr (CN W s)):=by
 unfold CN wr
 rw [<- vt];refine sA (N:=19) Tryz.func148 ?_;refine rz [0,1] ?_;refine rS fun J O=>aS [0,1] (El G _ rfl _) ?_;refine O _ (aM [0,1] ?_);clear O J;refine rS fun J O=>?_;refine aI (by rw [o_];exact hz) ?_;refine O _ (aM [1] ?_);clear O J;refine rz [4,5] ?_;refine ae ?_;exact lI [0,1] _
theorem vu(G:Glob)(W:WS)(c:Bool):Spec Tryz.prog G 76 [.box 0 0,.d (.s (.bool c))] (KL W) (.ret (.tup [])) (KL (aT W c)):=by
 obtain ⟨V',hG⟩:∃r,aT W c=r:=⟨_,rfl⟩;rw [hG];refine sA (N:=14) Tryz.func76 ?_;refine rG fun J O=>?_;refine ab (fun h1=>?_) (fun h1=>?_)
 ·refine O _ ?_;clear O J
  simp only [aT,h1,Bool.true_and] at hG;subst hG;exact lI [0,1] _
 refine O _ ?_;clear O J;simp only [aT,h1,Bool.false_and] at hG;subst hG;exact lI [0,1] _
theorem Em(G:Glob)(W:WS)(s:BA)(hs:s.size<4611686018427387904):Spec Tryz.prog G 75 [.box 0 0,.d (aW s)] (KL W) (.ret (.d (aW s))) (KL (aT W (aC s))):=by
 refine sA (N:=10) Tryz.func75 ?_;refine rz [0,1] ?_;refine rS fun J O=>aS [] (mF G s hs) ?_;refine aS [0,1] (vu G W _) ?_;refine O _ (aM [1] ?_);clear O J;refine rz [4] ?_;refine ae ?_;exact lI [0,1] _
theorem En(G:Glob)(W:WS)(s:BA)(hi:W.inn<=1073741824)(hs:s.size<=1073741824)(hb:W.b.size<=70368744177664):Spec Tryz.prog G 74 [.box 0 0,.d (aW s)] (KL W) (.ret (.tup [])) (wr (wq W s)):=by
 have hx:(b9 W.inn).size<=2147483648:=by rw [cY];omega
 have hz:W.b.size+((b9 W.inn++s)++⟨#[10]⟩).size<=140737488355328:=by
  rw [zA,zA];have:(⟨#[10]⟩:BA).size=1:=rfl;omega
 unfold b9 at hx
 refine sA (N:=16) Tryz.func74 ?_;refine (dW OI [7,11] (fun _=>true) (by kernel_rfl) fun J O=>?_)
 refine aR [] rfl rfl rfl (sB G ⟨#[32,32]⟩ W.inn (by show 2 * W.inn<=_;omega) (by omega)) rfl rfl rfl rfl ?_;refine sZ ?_;refine sZ ?_;refine aS [0,1] (Hr G W _ hz) ?_;refine O _ ?_;clear O J;exact lI [0,1] _
theorem Hs(G:Glob)(W:WS)(d:Int):Spec Tryz.prog G 153 [.box 0 0,.d (aD d)] (wr W) (.ret (.d (.s (.bool (cU W d).ok)))) (wr (cU W d)):=by
 obtain ⟨V',hG⟩:∃r,cU W d=r:=⟨_,rfl⟩;rw [hG];refine sA (N:=27) Tryz.func153 ?_;refine rz [0,1] ?_;refine rz [0,1] ?_;refine rS fun J O=>?_;refine ab (fun h1=>?_) (fun h1=>?_)
 ·refine aS [0,1] (nt G ⟨W.b,W.inn,W.ok,IntKind.i64.wrap (W.n+1)⟩ _) ?_
  refine O _ (aM [0] ?_);clear O J;refine rz [4] ?_;refine ae ?_;simp only [cU,aT,h1,Bool.true_and] at hG;subst hG;exact lI [0,1] _
 refine aS [0,1] (nt G ⟨W.b,W.inn,W.ok,IntKind.i64.wrap (W.n+1)⟩ _) ?_;refine O _ (aM [0] ?_);clear O J;refine rz [4] ?_;refine ae ?_;simp only [cU,aT,h1,Bool.false_and] at hG;subst hG;exact lI [0,1] _
inductive Q (α:Type) where
 |ok (a:α) (W:WS)
 |out
def Q.bind{α β:Type}(r:Q α)(f:α->WS->Q β):Q β:=match r with
 |.ok a W=>f a W
 |.out=>.out
def bj(s:BA):Bool:=decide (s.size<=1073741824)
def jX(n:Int):Bool:=decide (-9223372036854775808<=n)&&decide (n<=9223372036854775807)
def fit(a:BA)(W:WS):Q BA:=match bj a with
 |true=>.ok a W
 |false=>.out
theorem f_{a:BA}{W:WS}{r:Q BA}(h:fit a W=r)(aO:r≠.out):r=.ok a W:=by
 unfold fit at h
 split at h
 ·exact h.symm
 exact absurd h.symm aO
def T_{α:Type}(enc:α->PV):Q α->Out
 |.ok a _=>.ret (enc a)
 |.out=>.ret (.tup [])
def vv{α:Type}:Q α->List Row
 |.ok _ W=>wr W
 |.out=>[]
def xI{α:Type}(G:Glob)(f:FuncId)(args:List PV)(W:WS)(enc:α->PV)(r:Q α):Prop:=r≠.out->Spec Tryz.prog G f args (wr W) (T_ enc r) (vv r)
def aU(s:BA):Int:=match ((s.toList==(⟨#[43]⟩:BA).toList)||(s.toList==(⟨#[45]⟩:BA).toList)) with
 |true=>1
 |false=>match (((s.toList==(⟨#[42]⟩:BA).toList)||(s.toList==(⟨#[47]⟩:BA).toList))||(s.toList==(⟨#[37]⟩:BA).toList)) with
  |true=>2
  |false=>3
def fO(op:BA):Bool:=(((((op.toList==(⟨#[43]⟩:BA).toList)||(op.toList==(⟨#[45]⟩:BA).toList))||(op.toList==(⟨#[42]⟩:BA).toList))||(op.toList==(⟨#[47]⟩:BA).toList))||(op.toList==(⟨#[37]⟩:BA).toList))
def dH(n:Int):BA:=⟨(Lib.itoa n).toArray⟩
def kY(G:Glob):Prop:=∀n,jX n=true->Spec Tryz.prog G 77 [.d (aD n)] [] (.ret (.d (aW (dH n)))) []
def cp:Nat->Ex->Int->Int->WS->Q BA
 |0,_,_,_,_=>.out
 |f+1,.mk op n nm l,bc,d,W=>match (cU W d).ok with
  |false=>fit ⟨#[]⟩ (cU W d)
  |true=>match decide (aU op<bc) with
   |true=>(cp f (.mk op n nm l) 1 (IntKind.i64.wrap (d+1)) (cU W d)).bind fun s V=>fit ((⟨#[40]⟩++s)++⟨#[41]⟩) V
   |false=>match (op.toList==(⟨#[110,117,109]⟩:BA).toList) with
    |true=>match jX n with
     |true=>fit (dH n) (aT (cU W d) (((decide (n≥0)&&decide (n<=1099511627776))&&(nm.toList==(⟨#[]⟩:BA).toList))&&(((bR l).length:Int)==0)))
     |false=>.out
    |false=>match (op.toList==(⟨#[118,97,114]⟩:BA).toList) with
     |true=>match bj nm with
      |true=>fit nm (aT (aT (cU W d) ((n==0)&&(((bR l).length:Int)==0))) (aC nm))
      |false=>.out
     |false=>match (op.toList==(⟨#[97,116]⟩:BA).toList) with
      |true=>match (aT (cU W d) ((n==0)&&(((bR l).length:Int)==1))).ok with
       |true=>match bj nm with
        |true=>match l with
         |[x]=>(cp f x 1 (IntKind.i64.wrap (d+1)) (aT (aT (cU W d) ((n==0)&&(((bR l).length:Int)==1))) (aC nm))).bind fun s V=>fit (((nm++⟨#[91]⟩)++s)++⟨#[93]⟩) V
         |_=>.out
        |false=>.out
       |false=>fit ⟨#[]⟩ (aT (cU W d) ((n==0)&&(((bR l).length:Int)==1)))
      |false=>match (op.toList==(⟨#[110,101,103]⟩:BA).toList) with
       |true=>match (aT (cU W d) (((n==0)&&(nm.toList==(⟨#[]⟩:BA).toList))&&(((bR l).length:Int)==1))).ok with
        |true=>match l with
         |[x]=>(cp f x 3 (IntKind.i64.wrap (d+1)) (aT (cU W d) (((n==0)&&(nm.toList==(⟨#[]⟩:BA).toList))&&(((bR l).length:Int)==1)))).bind fun s V=>fit (⟨#[45]⟩++s) V
         |_=>.out
        |false=>fit ⟨#[]⟩ (aT (cU W d) (((n==0)&&(nm.toList==(⟨#[]⟩:BA).toList))&&(((bR l).length:Int)==1)))
       |false=>match fO op with
        |true=>match (aT (cU W d) (((n==0)&&(nm.toList==(⟨#[]⟩:BA).toList))&&(((bR l).length:Int)==2))).ok with
         |true=>match bj op with
          |true=>match l with
           |[x,y]=>(cp f x (aU op) d (aT (cU W d) (((n==0)&&(nm.toList==(⟨#[]⟩:BA).toList))&&(((bR l).length:Int)==2)))).bind fun s V=>(cp f y (IntKind.i64.wrap (aU op+1)) d V).bind fun u V=>fit ((((s++⟨#[32]⟩)++op)++⟨#[32]⟩)++u) V
           |_=>.out
          |false=>.out
         |false=>fit ⟨#[]⟩ (aT (cU W d) (((n==0)&&(nm.toList==(⟨#[]⟩:BA).toList))&&(((bR l).length:Int)==2)))
        |false=>fit ⟨#[]⟩ (aT (cU W d) false)
theorem iA{x:BA}{U:WS}{a:BA}{V:WS}(h:fit x U=.ok a V):a.size<=1073741824:=by
 unfold fit at h
 split at h
 ·rename_i hc
  simp only [Q.ok.injEq] at h;rw [<- h.1];exact oT hc
 cases h
theorem ko{α:Type}{r:Q α}{f:α->WS->Q BA}{a:BA}{V:WS}(hf:∀x U,f x U=.ok a V->a.size<=1073741824)(h:r.bind f=.ok a V):a.size<=1073741824:=by
 cases r with
 |out=>cases h
 |ok x U=>exact hf x U h
theorem dq{f:Nat}{e:Ex}{bc d:Int}{W:WS}{a:BA}{V:WS}(h:cp f e bc d W=.ok a V):a.size<=1073741824:=by
 cases f with
 |zero=>simp only [cp] at h;cases h
 |succ f=>
  obtain ⟨op,n,nm,l⟩:=e;simp only [cp] at h
  repeat' (split at h)
  all_goals first
   |exact iA h
   |cases h;done
   |exact ko (fun _ _ q=>iA q) h
   |exact ko (fun _ _ q=>ko (fun _ _ q=>iA q) q) h
theorem bm(G:Glob){W V:WS}{c c':Bool}(h:c'=c)(hW:aT W c=V):Spec Tryz.prog G 76 [.box 0 0,.d (.s (.bool c'))] (wr W) (.ret (.tup [])) (wr V):=by
 subst h hW;exact nt G W c'
theorem df(G:Glob){W V:WS}{s:BA}(hs:s.size<=1073741824)(hW:aT W (aC s)=V):Spec Tryz.prog G 75 [.box 0 0,.d (aW s)] (wr W) (.ret (.d (aW s))) (wr V):=by
 subst hW;exact Hp G W s (by omega)
theorem vw(G:Glob){W V:WS}{d:Int}(hW:cU W d=V):Spec Tryz.prog G 153 [.box 0 0,.d (aD d)] (wr W) (.ret (.d (.s (.bool V.ok)))) (wr V):=by
 subst hW;exact Hs G W d
theorem kq{W V:WS}{c:Bool}(hW:aT W c=V)(h:V.ok=true):c=true:=by
 subst hW;simp only [aT,bE] at h;exact h.2
theorem b7:∀l:List Ex,(bR l).length=l.length
 |[]=>rfl
 |e::r=>by simp only [bR,lC,b7 r]
theorem ow{l:List Ex}{c:Bool}(h:(c&&(((bR l).length:Int)==1))=true):∃x,l=[x]:=by
 simp only [bE,beq_iff_eq,b7] at h;have h:=h.2
 match l,h with
 |[x],_=>exact ⟨x,rfl⟩
theorem lx{l:List Ex}{c:Bool}(h:(c&&(((bR l).length:Int)==2))=true):∃x y,l=[x,y]:=by
 simp only [bE,beq_iff_eq,b7] at h;have h:=h.2
 match l,h with
 |[x,y],_=>exact ⟨x,y,rfl⟩
theorem xJ(G:Glob)(s:BA):Spec Tryz.prog G 155 [.d (aW s)] [] (.ret (.d (aD (aU s)))) []:=by
 obtain ⟨V',hG⟩:∃r,aU s=r:=⟨_,rfl⟩;rw [hG];refine sA (N:=11) Tryz.func155 ?_;refine rz [0] ?_;refine aa (rz [3] ?_);refine af (aa ?_);refine rz [3,4] ?_;refine cQ rfl (fun h1=>?_) fun h1=>?_
 ·refine ac (aj rfl ?_);refine rz [2] ?_;refine ae ?_
  simp only [aU,h1,bz] at hG;subst hG;exact lI [] _
 refine rG fun J O=>O _ (aM [3,4] ?_);clear O J;refine cQ rfl (fun h2=>?_) fun h2=>?_
 ·refine rz [2] ?_;refine ae ?_
  simp only [aU,h1,h2,bz] at hG;subst hG;exact lI [] _
 refine aa (rz [3,7] ?_);refine cQ rfl (fun h3=>?_) fun h3=>?_
 ·refine ac (aj rfl ?_);refine rz [2] ?_;refine ae ?_
  simp only [aU,h1,h2,h3,bz] at hG;subst hG;exact lI [] _
 refine rz [3,7] ?_;refine cQ rfl (fun h4=>?_) fun h4=>?_
 ·refine ac (aj rfl ?_);refine rz [2] ?_;refine ae ?_
  simp only [aU,h1,h2,h3,h4,bz] at hG;subst hG;exact lI [] _
 refine rG fun J O=>O _ (aM [7] ?_);clear O J;refine cQ rfl (fun h5=>?_) fun h5=>?_
 ·refine rz [2] ?_;refine ae ?_
  simp only [aU,h1,h2,h3,h4,h5,bz] at hG;subst hG;exact lI [] _
 refine ac (rz [2] ?_);refine ae ?_;simp only [aU,h1,h2,h3,h4,h5,bz] at hG;subst hG;exact lI [] _
def zQ(G:Glob)(f:Nat):Prop:=∀(e:Ex) (bc d:Int) (W:WS),xI G 80 [.box 0 0,pN e,.d (aD bc),.d (aD d)] W encS (cp f e bc d W)
def Rz:Plan:=(.take 0 (.take 1 (.load 2 (.take 5 (.take 6 (.load 7 (.take 8 (.load 9 (.take 10 (.take 11 (.one 3 (.take 4 (.one 12 (.take 13 (.take 14 (.take 15 .done))))))))))))))))
def RA:Plan:=(.take 0 (.take 1 (.load 2 (.take 3 (.load 4 (.take 5 (.take 6 (.take 9 (.load 10 (.take 13 (.take 14 (.load 15 (.take 16 (.load 17 (.take 18 (.take 19 (.take 20 (.one 7 (.take 8 (.take 11 (.take 12 (.one 21 (.take 22 (.take 23 .done))))))))))))))))))))))))
theorem Eo(G:Glob)(hI:kY G)(f:Nat)(ih:zQ G f):zQ G (f+1):=by
 intro e bc d W aO;obtain ⟨r,hG⟩:∃r,cp (f+1) e bc d W=r:=⟨_,rfl⟩;rw [hG] at aO ⊢;obtain ⟨op,n,nm,l⟩:=e;simp only [cp] at hG
 refine aZ b8 (N:=188) Tryz.func80 rfl (by rfl) ((by cases r <;> simp [vv,wr] at aO ⊢)) rfl ?_
 refine rz [0,2,3,5] ?_;refine aa (rS fun J O=>sH ?_);obtain ⟨V1,OU⟩:∃V,cU W d=V:=⟨_,rfl⟩;rw [OU] at hG;refine aS [0,1] (vw G OU) ?_;refine O _ (aM [0,2,3,5,13] ?_);clear O J;refine cQ rfl (fun h1=>?_) fun h1=>?_
 ·simp only [Bool.not_eq_true'] at h1
  refine rz [8] ?_;refine ae ?_;simp only [h1] at hG;obtain rfl:=f_ hG aO;exact lF [0,1] [encS _]
 simp only [Bool.not_eq_false'] at h1;refine ac (aa ?_);refine rS fun J O=>aS [] (xJ G op) ?_;refine O _ (aM [0,3,5,18] ?_);clear O J;refine cQ rfl (fun h2=>?_) fun h2=>?_
 ·refine rS fun J O=>sH ?_
  have bB:=ih (.mk op n nm l) 1 (IntKind.i64.wrap (d+1)) V1
  cases aF:cp f (.mk op n nm l) 1 (IntKind.i64.wrap (d+1)) V1 with
  |out=>
   simp only [Q.bind,h1,h2,aF] at hG;cases aO hG.symm
  |ok a1 U1=>
   rw [aF] at bB;have qU:=dq aF;refine aS [0,1] (bB nofun) ?_;refine sZ ?_;refine sZ ?_;refine O _ (aM [8] ?_);clear O J;refine ae ?_;simp only [Q.bind,h1,h2,aF] at hG;obtain rfl:=f_ hG aO;exact lF [0,1] [encS _]
 refine ac (aa ?_);refine rz [0,3,5,27] ?_;refine af (rz [0,3,5,27,30] ?_);refine cQ rfl (fun h3=>?_) fun h3=>?_
 ·obtain ⟨V2,jV⟩:∃V,aT V1 (((decide (n≥0)&&decide (n<=1099511627776))&&(nm.toList==(⟨#[]⟩:BA).toList))&&(((bR l).length:Int)==0))=V:=⟨_,rfl⟩
  rw [jV] at hG;refine bQ (fun Z=>Z=⟨[(5,.box 2 0)],[.box 167 [.box 0 0,.acc 1,.d (aD V2.inn),.d (.s (.bool V2.ok)),.d (aD V2.n)],.acc 5 1 (jn V2.b),.box 157 [.d (aW op),.d (aD n),.d (aW nm),.d (.sl 4 (bR l))]]⟩) ?_ ?_
  ·refine rG fun J O=>?_
   refine ab (fun h4=>?_) (fun h4=>?_)
   ·refine ab (fun h5=>?_) (fun h5=>?_)
    ·refine ab (fun h6=>?_) (fun h6=>?_)
     ·refine aR [0,1] rfl rfl rfl (bm G (by simp only [h4,h5,h6,bz]) jV) rfl rfl rfl rfl ?_;refine O _ ?_;clear O J;exact ⟨_,ak (slots:=[5]) rfl rfl,rfl⟩
     refine aR [0,1] rfl rfl rfl (bm G (by simp only [h4,h5,h6,bz]) jV) rfl rfl rfl rfl ?_;refine O _ ?_;clear O J;exact ⟨_,ak (slots:=[5]) rfl rfl,rfl⟩
    refine aR [0,1] rfl rfl rfl (bm G (by simp only [h4,h5,bz]) jV) rfl rfl rfl rfl ?_;refine O _ ?_;clear O J;exact ⟨_,ak (slots:=[5]) rfl rfl,rfl⟩
   refine aR [0,1] rfl rfl rfl (bm G (by simp only [h4,bz]) jV) rfl rfl rfl rfl ?_;refine O _ ?_;clear O J;exact ⟨_,ak (slots:=[5]) rfl rfl,rfl⟩
  rintro Z rfl;refine rS fun J O=>sH ?_
  cases hi:jX n with
  |false=>
   simp only [h1,h2,h3,hi] at hG;cases aO hG.symm
  |true=>
   refine aS [] (hI n hi) ?_;refine O _ (aM [8] ?_);clear O J;refine ae ?_;simp only [h1,h2,h3,hi] at hG;obtain rfl:=f_ hG aO;exact lF [0,1] [encS _]
 refine rz [0,3,5,27,56] ?_;refine cQ rfl (fun h4=>?_) fun h4=>?_
 ·obtain ⟨V2,jV⟩:∃V,aT V1 ((n==0)&&(((bR l).length:Int)==0))=V:=⟨_,rfl⟩
  rw [jV] at hG;refine bQ (fun Z=>Z=⟨[(0,.box 0 0),(5,.box 2 0)],[.box 167 [.box 0 0,.acc 1,.d (aD V2.inn),.d (.s (.bool V2.ok)),.d (aD V2.n)],.acc 5 1 (jn V2.b),.box 157 [.d (aW op),.d (aD n),.d (aW nm),.d (.sl 4 (bR l))]]⟩) ?_ ?_
  ·refine rG fun J O=>?_
   refine ab (fun h5=>?_) (fun h5=>?_)
   ·refine aR [0,1] rfl rfl rfl (bm G (by simp only [h5,bz]) jV) rfl rfl rfl rfl ?_;refine O _ ?_;clear O J;exact ⟨_,ak (slots:=[0,5]) rfl rfl,rfl⟩
   refine aR [0,1] rfl rfl rfl (bm G (by simp only [h5,bz]) jV) rfl rfl rfl rfl ?_;refine O _ ?_;clear O J;exact ⟨_,ak (slots:=[0,5]) rfl rfl,rfl⟩
  rintro Z rfl;refine rS fun J O=>sH ?_
  cases hn:bj nm with
  |false=>
   simp only [h1,h2,h3,h4,hn] at hG;cases aO hG.symm
  |true=>
   obtain ⟨V3,xV⟩:∃V,aT V2 (aC nm)=V:=⟨_,rfl⟩;rw [xV] at hG;have hz:=oT hn;refine aS [0,1] (df G hz xV) ?_;refine O _ (aM [8] ?_);clear O J;refine ae ?_;simp only [h1,h2,h3,h4,hn] at hG;obtain rfl:=f_ hG aO;exact lF [0,1] [encS _]
 refine rz [0,3,5,27,73] ?_;refine cQ rfl (fun h5=>?_) fun h5=>?_
 ·obtain ⟨V2,jV⟩:∃V,aT V1 ((n==0)&&(((bR l).length:Int)==1))=V:=⟨_,rfl⟩
  rw [jV] at hG;refine bQ (fun Z=>Z=⟨[(0,.box 0 0),(3,.d (aD d)),(5,.box 2 0)],[.box 167 [.box 0 0,.acc 1,.d (aD V2.inn),.d (.s (.bool V2.ok)),.d (aD V2.n)],.acc 5 1 (jn V2.b),.box 157 [.d (aW op),.d (aD n),.d (aW nm),.d (.sl 4 (bR l))]]⟩) ?_ ?_
  ·refine rG fun J O=>?_
   refine ab (fun h6=>?_) (fun h6=>?_)
   ·refine aR [0,1] rfl rfl rfl (bm G (by simp only [h6,bz]) jV) rfl rfl rfl rfl ?_;refine O _ ?_;clear O J;exact ⟨_,ak (slots:=[0,3,5]) rfl rfl,rfl⟩
   refine aR [0,1] rfl rfl rfl (bm G (by simp only [h6,bz]) jV) rfl rfl rfl rfl ?_;refine O _ ?_;clear O J;exact ⟨_,ak (slots:=[0,3,5]) rfl rfl,rfl⟩
  rintro Z rfl;refine rz [0,3,5,89] ?_;refine cQ rfl (fun h6=>?_) fun h6=>?_
  ·obtain ⟨x,rfl⟩:=ow (kq jV h6)
   obtain ⟨o1,n1,m1,l1⟩:=x;refine aa ((dW Rz [12] (fun i=>Nat.beq i 2) (by kernel_rfl) fun J O=>?_));refine aI ((by first|omega|(simp only [bR,lC,lN];omega))) (eI _ (aI (rfl) ?_))
   refine sH ?_
   cases hn:bj nm with
   |false=>
    simp only [h1,h2,h3,h4,h5,h6,hn] at hG;cases aO hG.symm
   |true=>
    obtain ⟨V3,xV⟩:∃V,aT V2 (aC nm)=V:=⟨_,rfl⟩;rw [xV] at hG;have hz:=oT hn;refine aS [0,1] (df G hz xV) ?_;refine sZ ?_
    refine sH ?_
    have bB:=ih (.mk o1 n1 m1 l1) 1 (IntKind.i64.wrap (d+1)) V3
    cases aF:cp f (.mk o1 n1 m1 l1) 1 (IntKind.i64.wrap (d+1)) V3 with
    |out=>
     simp only [Q.bind,h1,h2,h3,h4,h5,h6,hn,aF] at hG;cases aO hG.symm
    |ok a1 U1=>
     rw [aF] at bB;have qU:=dq aF;refine aS [0,1] (bB nofun) ?_;refine sZ ?_;refine sZ ?_;refine O _ (aM [8] ?_);clear O J;refine ae ?_;simp only [Q.bind,h1,h2,h3,h4,h5,h6,hn,aF] at hG;obtain rfl:=f_ hG aO;exact lF [0,1] [encS _]
  refine ac (rz [8] ?_);refine ae ?_;simp only [h1,h2,h3,h4,h5,h6] at hG;obtain rfl:=f_ hG aO;exact lF [0,1] [encS _]
 refine rz [0,3,5,27,105] ?_;refine cQ rfl (fun h6=>?_) fun h6=>?_
 ·obtain ⟨V2,jV⟩:∃V,aT V1 (((n==0)&&(nm.toList==(⟨#[]⟩:BA).toList))&&(((bR l).length:Int)==1))=V:=⟨_,rfl⟩
  rw [jV] at hG;refine bQ (fun Z=>Z=⟨[(0,.box 0 0),(3,.d (aD d)),(5,.box 2 0)],[.box 167 [.box 0 0,.acc 1,.d (aD V2.inn),.d (.s (.bool V2.ok)),.d (aD V2.n)],.acc 5 1 (jn V2.b),.box 157 [.d (aW op),.d (aD n),.d (aW nm),.d (.sl 4 (bR l))]]⟩) ?_ ?_
  ·refine rG fun J O=>?_
   refine ab (fun h7=>?_) (fun h7=>?_)
   ·refine ab (fun h8=>?_) (fun h8=>?_)
    ·refine aR [0,1] rfl rfl rfl (bm G (by simp only [h7,h8,bz]) jV) rfl rfl rfl rfl ?_;refine O _ ?_;clear O J;exact ⟨_,ak (slots:=[0,3,5]) rfl rfl,rfl⟩
    refine aR [0,1] rfl rfl rfl (bm G (by simp only [h7,h8,bz]) jV) rfl rfl rfl rfl ?_;refine O _ ?_;clear O J;exact ⟨_,ak (slots:=[0,3,5]) rfl rfl,rfl⟩
   refine aR [0,1] rfl rfl rfl (bm G (by simp only [h7,bz]) jV) rfl rfl rfl rfl ?_;refine O _ ?_;clear O J;exact ⟨_,ak (slots:=[0,3,5]) rfl rfl,rfl⟩
  rintro Z rfl;refine rz [0,3,5,126] ?_;refine cQ rfl (fun h7=>?_) fun h7=>?_
  ·obtain ⟨x,rfl⟩:=ow (kq jV h7)
   obtain ⟨o1,n1,m1,l1⟩:=x;refine rS fun J O=>?_;refine aI ((by first|omega|(simp only [bR,lC,lN];omega))) (eI _ (aI (rfl) ?_))
   refine sH ?_
   have bB:=ih (.mk o1 n1 m1 l1) 3 (IntKind.i64.wrap (d+1)) V2
   cases aF:cp f (.mk o1 n1 m1 l1) 3 (IntKind.i64.wrap (d+1)) V2 with
   |out=>
    simp only [Q.bind,h1,h2,h3,h4,h5,h6,h7,aF] at hG;cases aO hG.symm
   |ok a1 U1=>
    rw [aF] at bB;have qU:=dq aF;refine aS [0,1] (bB nofun) ?_;refine sZ ?_;refine O _ (aM [8] ?_);clear O J;refine ae ?_;simp only [Q.bind,h1,h2,h3,h4,h5,h6,h7,aF] at hG;obtain rfl:=f_ hG aO;exact lF [0,1] [encS _]
  refine ac (rz [8] ?_);refine ae ?_;simp only [h1,h2,h3,h4,h5,h6,h7] at hG;obtain rfl:=f_ hG aO;exact lF [0,1] [encS _]
 refine bQ (fun Z=>Z=⟨[(0,.box 0 0),(3,.d (aD d)),(5,.box 2 0),(136,.d (.s (.bool (fO op))))],[.box 167 [.box 0 0,.acc 1,.d (aD V1.inn),.d (.s (.bool V1.ok)),.d (aD V1.n)],.acc 5 1 (jn V1.b),.box 157 [.d (aW op),.d (aD n),.d (aW nm),.d (.sl 4 (bR l))]]⟩) ?_ ?_
 ·refine rz [0,3,5,27,136] ?_
  refine cQ rfl (fun h7=>?_) fun h7=>?_
  ·refine ac ?_
   refine ⟨_,ak (slots:=[0,3,5,136]) rfl rfl,?_⟩
   first
    | (simp only [fO,h1,h7,bz];done)
    | (simp only [fO,h1,h7,bz];rfl)
  refine rz [0,3,5,27,136] ?_;refine cQ rfl (fun h8=>?_) fun h8=>?_
  ·refine ac ?_
   refine ⟨_,ak (slots:=[0,3,5,136]) rfl rfl,?_⟩
   first
    | (simp only [fO,h1,h7,h8,bz];done)
    | (simp only [fO,h1,h7,h8,bz];rfl)
  refine rz [0,3,5,27,136] ?_;refine cQ rfl (fun h9=>?_) fun h9=>?_
  ·refine ac ?_
   refine ⟨_,ak (slots:=[0,3,5,136]) rfl rfl,?_⟩
   first
    | (simp only [fO,h1,h7,h8,h9,bz];done)
    | (simp only [fO,h1,h7,h8,h9,bz];rfl)
  refine rz [0,3,5,27,136] ?_;refine cQ rfl (fun dO=>?_) fun dO=>?_
  ·refine ac ?_
   refine ⟨_,ak (slots:=[0,3,5,136]) rfl rfl,?_⟩
   first
    | (simp only [fO,h1,h7,h8,h9,dO,bz];done)
    | (simp only [fO,h1,h7,h8,h9,dO,bz];rfl)
  refine rG fun J O=>O _ ?_;clear O J;refine ⟨_,ak (slots:=[0,3,5,136]) rfl rfl,?_⟩
  first
   | (simp only [fO,h1,h7,h8,h9,dO,bz];done)
   | (simp only [fO,h1,h7,h8,h9,dO,bz];rfl)
 rintro Z rfl;refine cQ rfl (fun h7=>?_) fun h7=>?_
 ·obtain ⟨V2,jV⟩:∃V,aT V1 (((n==0)&&(nm.toList==(⟨#[]⟩:BA).toList))&&(((bR l).length:Int)==2))=V:=⟨_,rfl⟩
  rw [jV] at hG;refine bQ (fun Z=>Z=⟨[(0,.box 0 0),(3,.d (aD d)),(5,.box 2 0)],[.box 167 [.box 0 0,.acc 1,.d (aD V2.inn),.d (.s (.bool V2.ok)),.d (aD V2.n)],.acc 5 1 (jn V2.b),.box 157 [.d (aW op),.d (aD n),.d (aW nm),.d (.sl 4 (bR l))]]⟩) ?_ ?_
  ·refine rG fun J O=>?_
   refine ab (fun h8=>?_) (fun h8=>?_)
   ·refine ab (fun h9=>?_) (fun h9=>?_)
    ·refine aR [0,1] rfl rfl rfl (bm G (by simp only [h8,h9,bz]) jV) rfl rfl rfl rfl ?_;refine O _ ?_;clear O J;exact ⟨_,ak (slots:=[0,3,5]) rfl rfl,rfl⟩
    refine aR [0,1] rfl rfl rfl (bm G (by simp only [h8,h9,bz]) jV) rfl rfl rfl rfl ?_;refine O _ ?_;clear O J;exact ⟨_,ak (slots:=[0,3,5]) rfl rfl,rfl⟩
   refine aR [0,1] rfl rfl rfl (bm G (by simp only [h8,bz]) jV) rfl rfl rfl rfl ?_;refine O _ ?_;clear O J;exact ⟨_,ak (slots:=[0,3,5]) rfl rfl,rfl⟩
  rintro Z rfl;refine rz [0,3,5,161] ?_;refine cQ rfl (fun h8=>?_) fun h8=>?_
  ·obtain ⟨x,y,rfl⟩:=lx (kq jV h8)
   obtain ⟨o1,n1,m1,l1⟩:=x;obtain ⟨o2,n2,m2,l2⟩:=y;refine rS fun J O=>aS [] (xJ G op) ?_
   cases hn:bj op with
   |false=>
    simp only [h1,h2,h3,h4,h5,h6,h7,h8,hn] at hG;cases aO hG.symm
   |true=>
    have hz:=oT hn;refine O _ (aM [0,3,5,9] ?_);clear O J;refine aa ((dW RA [] (fun i=>Nat.beq i 2) (by kernel_rfl) fun J O=>?_));refine aI ((by first|omega|(simp only [bR,lC,lN];omega))) (eI _ (aI (rfl) ?_));refine aI ((by first|omega|(simp only [bR,lC,lN];omega))) (eI _ (aI (rfl) ?_))
    refine sH ?_
    have bB:=ih (.mk o1 n1 m1 l1) (aU op) d V2
    cases aF:cp f (.mk o1 n1 m1 l1) (aU op) d V2 with
    |out=>
     simp only [Q.bind,h1,h2,h3,h4,h5,h6,h7,h8,hn,aF] at hG;cases aO hG.symm
    |ok a1 U1=>
     rw [aF] at bB;have qU:=dq aF;refine aS [0,1] (bB nofun) ?_;refine sZ ?_;refine sZ ?_;refine sZ ?_
     refine sH ?_
     have a_:=ih (.mk o2 n2 m2 l2) (IntKind.i64.wrap (aU op+1)) d U1
     cases aJ:cp f (.mk o2 n2 m2 l2) (IntKind.i64.wrap (aU op+1)) d U1 with
     |out=>
      simp only [Q.bind,h1,h2,h3,h4,h5,h6,h7,h8,hn,aF,aJ] at hG;cases aO hG.symm
     |ok a2 U2=>
      rw [aJ] at a_;have dX:=dq aJ;refine aS [0,1] (a_ nofun) ?_;refine sZ ?_;refine O _ (aM [8] ?_);clear O J;refine ae ?_;simp only [Q.bind,h1,h2,h3,h4,h5,h6,h7,h8,hn,aF,aJ] at hG;obtain rfl:=f_ hG aO;exact lF [0,1] [encS _]
  refine ac (rz [8] ?_);refine ae ?_;simp only [h1,h2,h3,h4,h5,h6,h7,h8] at hG;obtain rfl:=f_ hG aO;exact lF [0,1] [encS _]
 refine rG fun J O=>sH ?_;obtain ⟨V2,jV⟩:∃V,aT V1 false=V:=⟨_,rfl⟩;rw [jV] at hG;refine aS [0,1] (bm G rfl jV) ?_;refine O _ (aM [] ?_);clear O J;refine rz [8] ?_;refine ae ?_;simp only [h1,h2,h3,h4,h5,h6,h7] at hG;obtain rfl:=f_ hG aO;exact lF [0,1] [encS _]
theorem eR(G:Glob)(hI:kY G):∀f,zQ G f
 |0=>fun e bc d W h=>absurd (by simp only [cp]) h
 |f+1=>Eo G hI f (eR G hI f)
def bP(l:List BA)(sep:BA):BA:=⟨(Lib.join (l.map (·.data.toList)) sep.data.toList).toArray⟩
theorem jm(G:Glob)(xs:List BA)(sep:BA)(hl:(bP xs sep).size<=1073741824)(hn:xs.length<=1073741824):Spec Tryz.prog G 78 [.d (.sl 1 (strs xs)),.d (aW sep)] [] (.ret (.d (aW (bP xs sep)))) []:=by
 refine Ho G xs sep ?_ (by omega)
 have:(bP xs sep).size=(Lib.join (xs.map (·.data.toList)) sep.data.toList).length:=by show (List.toArray _).size=_;simp
 omega
theorem F0{a:BA}{W:WS}{r:Q BA}(h:fit a W=r)(aO:r≠.out):a.size<=1073741824:=by
 unfold fit at h
 split at h
 ·rename_i hc;exact oT hc
 exact absurd h.symm aO
theorem iZ{l d e:List Ex}{x:Ex}(h:l=d++x::e):(bR l)[((d.length:Nat):Int).toNat]? = some x.cs:=by
 subst h;rw [Int.toNat_natCast]
 induction d with
 |nil=>rfl
 |cons y d ih=>simpa only [List.cons_append,bR,lC,List.getElem?_cons_succ] using ih
theorem kZ(l:List BA)(s:BA):strs l++[[aW s]]=strs (l++[s]):=by simp [strs]
def cV(n:Nat):Bool:=decide (n<=1073741824)
def rP(f:Nat):List Ex->WS->List BA->Q (List BA)
 |[],W,acc=>.ok acc W
 |e::r,W,acc=>(cp f e 1 1 W).bind fun s V=>rP f r V (acc++[s])
def ij(f:Nat)(l:List Ex)(W:WS):Q BA:=match cV l.length with
 |true=>(rP f l W []).bind fun ss V=>fit (bP ss ⟨#[44,32]⟩) V
 |false=>.out
theorem pl(G:Glob)(hI:kY G)(f:Nat):∀(l:List Ex) (W:WS),xI G 214 [.box 0 0,.d (.sl 4 (bR l))] W encS (ij f l W):=by
 intro l W aO;obtain ⟨r,hG⟩:∃r,ij f l W=r:=⟨_,rfl⟩;rw [hG] at aO ⊢
 unfold ij at hG
 cases iQ:cV l.length with
 |false=>rw [iQ] at hG;cases aO hG.symm
 |true=>
 rw [iQ] at hG;have iQ:=oT iQ;simp only at hG
 refine aZ b8 (N:=23) Tryz.func214 rfl (by rfl) ((by cases r <;> simp [vv,wr] at aO ⊢)) rfl ?_
 refine rz [0,1] ?_;refine rz [0,1,5] ?_;refine aa (rz [0,5,8,9,10] ?_);refine dV 5 9 1 rfl rfl rfl ?_;refine aq [0,5,8,9,10] rfl rfl ?_;refine af (aB (fun k Y=>∃(d e:List Ex) (V:WS) (acc:List BA),k=e.length/\l=d++e/\((rP f e V acc).bind fun ss V=>fit (bP ss ⟨#[44,32]⟩) V)=r/\acc.length=d.length/\Y=⟨[(0,.box 0 0),(5,.acc 2),(8,.d (.sl 4 (bR l))),(9,.d (aD (bR l).length)),(10,.d (aD d.length))],[.box 167 [.box 0 0,.acc 1,.d (aD V.inn),.d (.s (.bool V.ok)),.d (aD V.n)],.acc 5 1 (jn V.b),.acc 9 1 (strs acc)]⟩) (l.length) (⟨[],l,W,[],rfl,rfl,hG,rfl,rfl⟩) ?_);clear hG;rintro k Y ⟨d,e,V,acc,rfl,hl,hG,WL,rfl⟩
 have vC:(bR l).length=d.length+e.length:=by rw [b7,hl,lA]
 have Gk:d.length+e.length<=1073741824:=by rw [hl,lA] at iQ;exact iQ
 refine rz [0,5,8,9,10,11] ?_;refine aa (cQ rfl (fun h1=>?_) fun h1=>?_)
 ·have bO:=oT h1
  rw [vC] at bO
  cases e with
  |nil=>simp only [lN] at bO;omega
  |cons x e2=>
  obtain ⟨o,n,m,l2⟩:=x;subst hl;simp only [lC] at Gk;simp only [rP] at hG;refine ac (aa ?_);refine af (rS fun J O=>oN (eI _ (aI (iZ rfl) ?_)));refine O _ (aM [0,5,7,8,9,10] ?_);clear O J;refine rG fun J O=>sH ?_;have bB:=eR G hI f (.mk o n m l2) 1 1 V
  cases aF:cp f (.mk o n m l2) 1 1 V with
  |out=>
   simp only [Q.bind,aF] at hG;cases aO hG.symm
  |ok a1 U1=>
   rw [aF] at bB;have qU:=dq aF;refine aS [0,1] (bB nofun) ?_;refine aI (aI ((by simp only [ag,ai];omega)) ((by simp only [ag,ai,maxLen];omega))) ?_;refine O _ (aM [0,5,8,9,10] ?_);clear O J;refine rG fun J O=>O _ ?_;clear O J;simp only [Q.bind,aF] at hG;exact ⟨_,nS _,_,aG (L:=[0,1,2]) (slots:=[0,5,8,9,10]) rfl rfl rfl rfl rfl,d++[.mk o n m l2],e2,_,_,rfl,by simp,hG,by simp only [lA,lC,lN];omega,by rw [<- kZ,lA,aH (by omega) (by omega)];rfl⟩
 have bO:=oF h1;rw [vC] at bO;obtain rfl:e=[]:=lE (by omega);simp only [rP,Q.bind] at hG;refine aA ?_;refine aq [5] rfl rfl ?_;refine rS fun J O=>sH ?_;have hj:=F0 hG aO;refine aR [] rfl rfl rfl (jm G acc _ hj (by omega)) rfl rfl rfl rfl ?_;refine O _ (aM [4] ?_);clear O J;refine ae ?_;obtain rfl:=f_ hG aO;exact lF [0,1] [encS _]
def nz(l:List BA):List BA:=match l with
 |[]=>[⟨#[116,114,117,101]⟩]
 |x::r=>x::r
def Ev(f:Nat)(t:Ts)(W:WS):Q BA:=match bj t.rel with
 |true=>(cp f t.a 1 1 (aT W (dC t.rel))).bind fun s V=>(cp f t.b 1 1 V).bind fun u V=>fit ((((s++⟨#[32]⟩)++t.rel)++⟨#[32]⟩)++u) V
 |false=>.out
def Aa(f:Nat):List Ts->WS->List BA->Q (List BA)
 |[],W,acc=>.ok acc W
 |t::r,W,acc=>(Ev f t W).bind fun s V=>Aa f r V (acc++[s])
def Lq(f:Nat)(row:List Ts)(W:WS):Q BA:=match cV row.length with
 |true=>(Aa f row W []).bind fun ss V=>fit (bP (nz ss) ⟨#[32,97,110,100,32]⟩) V
 |false=>.out
def Lr(f:Nat):List (List Ts)->WS->List BA->Q (List BA)
 |[],W,acc=>.ok acc W
 |c::r,W,acc=>(Lq f c W).bind fun s V=>Lr f r V (acc++[s])
def gI(f:Nat)(c:List (List Ts))(W:WS):Q BA:=match cV c.length with
 |true=>match (((eG c).length:Int)==0) with
  |true=>fit ⟨#[102,97,108,115,101]⟩ W
  |false=>(Lr f c W []).bind fun ss V=>fit (bP ss ⟨#[32,111,114,32]⟩) V
 |false=>.out
theorem zR{a b:BA}{W V:WS}(h:fit a W=.ok b V):b=a/\V=W:=by
 have:=f_ h (by simp);simp only [Q.ok.injEq] at this;exact this
theorem eh{l d e:List (List Ts)}{x:List Ts}(h:l=d++x::e):(eG l)[((d.length:Nat):Int).toNat]? = some [.sl 9 (kr x)]:=by
 subst h;rw [Int.toNat_natCast]
 simp [eG]
theorem eL{l d e:List Ts}{x:Ts}(h:l=d++x::e):(kr l)[((d.length:Nat):Int).toNat]? = some x.cs:=by
 subst h;rw [Int.toNat_natCast]
 simp [kr]
def Nv:Plan:=(.take 0 (.take 1 (.take 2 (.load 3 (.take 6 (.load 7 (.take 10 (.take 11 (.load 12 (.one 4 (.take 5 (.take 8 (.take 9 (.one 13 (.take 14 (.one 15 (.one 16 (.take 17 .done))))))))))))))))))
theorem k0(G:Glob)(hI:kY G)(f:Nat):∀(c:List (List Ts)) (W:WS),xI G 215 [.box 0 0,.d (.sl 1 (eG c))] W encS (gI f c W):=by
 intro c W aO;obtain ⟨r,hG⟩:∃r,gI f c W=r:=⟨_,rfl⟩;rw [hG] at aO ⊢
 unfold gI at hG
 cases iQ:cV c.length with
 |false=>rw [iQ] at hG;cases aO hG.symm
 |true=>
 rw [iQ] at hG;have iQ:=oT iQ;simp only at hG
 refine aZ b8 (N:=64) Tryz.func215 rfl (by rfl) ((by cases r <;> simp [vv,wr] at aO ⊢)) rfl ?_
 refine rz [0,1] ?_;refine aa (rz [0,1,13] ?_);refine cQ rfl (fun h1=>?_) fun h1=>?_
 ·refine rz [4] ?_;refine ae ?_
  simp only [h1] at hG;obtain rfl:=f_ hG aO;exact lF [0,1] [encS _]
 refine ac (rz [0,1,5] ?_);refine aa (rz [0,5,14,15,16] ?_);refine dV 5 9 1 rfl rfl rfl ?_;refine aq [0,5,14,15,16] rfl rfl ?_;refine af ?_;simp only [h1] at hG;refine aB (fun k Y=>∃(d e':List (List Ts)) (V:WS) (acc:List BA),k=e'.length/\c=d++e'/\((Lr f e' V acc).bind fun ss V=>fit (bP ss ⟨#[32,111,114,32]⟩) V)=r/\acc.length=d.length/\Y=⟨[(0,.box 0 0),(5,.acc 2),(14,.d (.sl 1 (eG c))),(15,.d (aD (eG c).length)),(16,.d (aD d.length))],[.box 167 [.box 0 0,.acc 1,.d (aD V.inn),.d (.s (.bool V.ok)),.d (aD V.n)],.acc 5 1 (jn V.b),.acc 9 1 (strs acc)]⟩) (c.length) (⟨[],c,W,[],rfl,rfl,hG,rfl,rfl⟩) ?_;clear hG;rintro k Y ⟨d,e',V,acc,rfl,hl,hG,WL,rfl⟩
 have vC:(eG c).length=d.length+e'.length:=by rw [eG,lM,hl,lA]
 have Gk:d.length+e'.length<=1073741824:=by rw [hl,lA] at iQ;exact iQ
 refine rz [0,5,14,15,16,17] ?_;refine aa (cQ rfl (fun h2=>?_) fun h2=>?_)
 ·have h':=oT h2
  rw [vC] at h'
  cases e' with
  |nil=>simp only [lN] at h';omega
  |cons row e=>
  subst hl;simp only [lC] at Gk;simp only [Lr,Lq] at hG
  cases LO:cV row.length with
  |false=>simp only [LO,Q.bind] at hG;cases aO hG.symm
  |true=>
  have T':=oT LO;simp only [LO] at hG;refine ac (aa ?_);refine af (rS fun J O=>oN (eI _ (aI (eh rfl) ?_)));refine O _ (aM [0,5,7,14,15,16] ?_);clear O J;refine rS fun J O=>?_;refine Or.inr (Or.inr ?_);refine O _ (aM [0,5,7,8,14,15,16] ?_);clear O J;refine aa (rz [0,5,8,14,15,16,21,22,23] ?_);refine af (aB (fun k Y=>∃(d2 e2:List Ts) (V2:WS) (acc2:List BA),k=e2.length/\row=d2++e2/\((((Aa f e2 V2 acc2).bind fun ss V=>fit (bP (nz ss) ⟨#[32,97,110,100,32]⟩) V).bind fun s V=>Lr f e V (acc++[s])).bind fun ss V=>fit (bP ss ⟨#[32,111,114,32]⟩) V)=r/\acc2.length=d2.length/\Y=⟨[(0,.box 0 0),(5,.acc 2),(8,.acc 3),(14,.d (.sl 1 (eG (d++row::e)))),(15,.d (aD (eG (d++row::e)).length)),(16,.d (aD d.length)),(21,.d (.sl 9 (kr row))),(22,.d (aD (kr row).length)),(23,.d (aD d2.length))],[.box 167 [.box 0 0,.acc 1,.d (aD V2.inn),.d (.s (.bool V2.ok)),.d (aD V2.n)],.acc 5 1 (jn V2.b),.acc 9 1 (strs acc),.acc 9 1 (strs acc2)]⟩) (row.length) (⟨[],row,V,[],rfl,rfl,hG,rfl,rfl⟩) ?_);clear hG;rintro k Y ⟨d2,e2,V2,acc2,rfl,hr,hG,XV,rfl⟩
  have XW:(kr row).length=d2.length+e2.length:=by rw [kr,lM,hr,lA]
  have lu:d2.length+e2.length<=1073741824:=by rw [hr,lA] at T';exact T'
  refine rz [0,5,8,14,15,16,21,22,23,24] ?_;refine aa (cQ rfl (fun h3=>?_) fun h3=>?_)
  ·have h':=oT h3
   rw [XW] at h'
   cases e2 with
   |nil=>simp only [lN] at h';omega
   |cons x e3=>
   obtain ⟨⟨o1,n1,m1,l1⟩,dZ,⟨o2,n2,m2,l2⟩⟩:=x;subst hr;simp only [lC] at lu;simp only [Aa,Ev] at hG
   cases eV:bj dZ with
   |false=>simp only [eV,Q.bind] at hG;cases aO hG.symm
   |true=>
   have ZR:=oT eV;simp only [eV] at hG;refine ac (aa ?_);refine af (rS fun J O=>oN (eI _ (aI (eL rfl) ?_)));refine O _ (aM [0,5,8,10,14,15,16,21,22,23] ?_);clear O J;refine rS fun J O=>aS [] (vj G dZ) ?_
   refine sH ?_
   obtain ⟨X1,gj⟩:∃V,aT V2 (dC dZ)=V:=⟨_,rfl⟩;rw [gj] at hG;refine aS [0,1] (bm G rfl gj) ?_;refine O _ (aM [0,5,8,10,14,15,16,21,22,23] ?_);clear O J;refine (dW Nv [16] (fun i=>Nat.beq i 4) (by kernel_rfl) fun J O=>?_)
   refine sH ?_
   have bB:=eR G hI f (.mk o1 n1 m1 l1) 1 1 X1
   cases aF:cp f (.mk o1 n1 m1 l1) 1 1 X1 with
   |out=>
    simp only [Q.bind,aF] at hG;cases aO hG.symm
   |ok a1 U1=>
    rw [aF] at bB;have qU:=dq aF;refine aS [0,1] (bB nofun) ?_;refine sZ ?_;refine sZ ?_;refine sZ ?_
    refine sH ?_
    have a_:=eR G hI f (.mk o2 n2 m2 l2) 1 1 U1
    cases aJ:cp f (.mk o2 n2 m2 l2) 1 1 U1 with
    |out=>
     simp only [Q.bind,aF,aJ] at hG;cases aO hG.symm
    |ok a2 U2=>
     rw [aJ] at a_;have dX:=dq aJ;refine aS [0,1] (a_ nofun) ?_;refine sZ ?_;refine aI (aI ((by simp only [ag,ai];omega)) ((by simp only [ag,ai,maxLen];omega))) ?_;refine O _ (aM [0,5,8,14,15,16,21,22,23] ?_);clear O J;refine rG fun J O=>O _ ?_;clear O J;simp only [Q.bind,aF,aJ] at hG
     cases Ur:fit ((((a1++⟨#[32]⟩)++dZ)++⟨#[32]⟩)++a2) U2 with
     |out=>simp only [Ur] at hG;cases aO hG.symm
     |ok s0 V0=>
      obtain ⟨rfl,rfl⟩:=zR Ur;simp only [Ur] at hG;exact ⟨_,nS _,_,aG (L:=[0,1,2,3]) (slots:=[0,5,8,14,15,16,21,22,23]) rfl rfl rfl rfl rfl,d2++[⟨.mk o1 n1 m1 l1,dZ,.mk o2 n2 m2 l2⟩],e3,_,_,rfl,by simp,hG,by simp only [lA,lC,lN];omega,by rw [<- kZ,lA,aH (by omega) (by omega)];rfl⟩
  have h':=oF h3;rw [XW] at h';obtain rfl:e2=[]:=lE (by omega);simp only [Aa,Q.bind] at hG;refine aA ?_;refine aq [0,5,8,14,15,16] rfl rfl ?_;refine aa (rz [0,5,8,14,15,16,52] ?_);refine cQ rfl (fun h4=>?_) fun h4=>?_
  ·have h':=h4
   rw [ag,beq_iff_eq] at h';obtain rfl:acc2=[]:=lE (by omega);simp only [nz] at hG;refine rG fun J O=>?_;refine aI (aI ((by simp only [ag,ai,lN];omega)) ((by simp only [ag,ai,lN,maxLen];omega))) ?_;refine O _ (aM [0,5,8,14,15,16] ?_);clear O J;refine rG fun J O=>sH ?_
   cases hf:fit (bP [⟨#[116,114,117,101]⟩] ⟨#[32,97,110,100,32]⟩) V2 with
   |out=>simp only [hf] at hG;cases aO hG.symm
   |ok s0 V0=>
    obtain ⟨rfl,rfl⟩:=zR hf;simp only [hf] at hG;have hj:=iA hf;refine aR [] rfl rfl rfl (jm G [⟨#[116,114,117,101]⟩] _ hj (by first|omega|(simp only [lC,lN];omega))) rfl rfl rfl rfl ?_;refine aI (aI ((by simp only [ag,ai];omega)) ((by simp only [ag,ai,maxLen];omega))) ?_;refine O _ (aM [0,5,14,15,16] ?_);clear O J;refine rG fun J O=>O _ ?_;clear O J;exact ⟨_,nS _,_,aG (L:=[0,1,2]) (slots:=[0,5,14,15,16]) rfl rfl rfl rfl rfl,d++[row],e,_,_,rfl,by simp,hG,by simp only [lA,lC,lN];omega,by rw [<- kZ,lA,aH (by omega) (by omega)];rfl⟩
  have P7:nz acc2=acc2:=by
   cases acc2 with
   |nil=>exact absurd h4 (by decide)
   |cons x r=>rfl
  rw [P7] at hG;refine ac (rG fun J O=>sH ?_)
  cases hf:fit (bP acc2 ⟨#[32,97,110,100,32]⟩) V2 with
  |out=>simp only [hf] at hG;cases aO hG.symm
  |ok s0 V0=>
   obtain ⟨rfl,rfl⟩:=zR hf;simp only [hf] at hG;have hj:=iA hf;refine aR [] rfl rfl rfl (jm G acc2 _ hj (by first|omega|(simp only [lC,lN];omega))) rfl rfl rfl rfl ?_;refine aI (aI ((by simp only [ag,ai];omega)) ((by simp only [ag,ai,maxLen];omega))) ?_;refine O _ (aM [0,5,14,15,16] ?_);clear O J;refine rG fun J O=>O _ ?_;clear O J;exact ⟨_,nS _,_,aG (L:=[0,1,2]) (slots:=[0,5,14,15,16]) rfl rfl rfl rfl rfl,d++[row],e,_,_,rfl,by simp,hG,by simp only [lA,lC,lN];omega,by rw [<- kZ,lA,aH (by omega) (by omega)];rfl⟩
 have h':=oF h2;rw [vC] at h';obtain rfl:e'=[]:=lE (by omega);simp only [Lr,Q.bind] at hG;refine aA ?_;refine aq [5] rfl rfl ?_;refine rS fun J O=>sH ?_;have hj:=F0 hG aO;refine aR [] rfl rfl rfl (jm G acc _ hj (by omega)) rfl rfl rfl rfl ?_;refine O _ (aM [4] ?_);clear O J;refine ae ?_;obtain rfl:=f_ hG aO;exact lF [0,1] [encS _]
end Go.Abs
end
