/- Texts of this proof, joined and shortened. -/
import Derived.Test.YtedljfabpknjiaaGreatDoorR5
import Derived.Shelf.Strings.Builder1
import Derived.Shelf.Strings.Builder2
import Derived.Shelf.Strings.OnBuilder
import Derived.Shelf.Small.Bits
import Derived.Shelf.Strings.BuilderF
import Derived.Shelf.Strings.BuilderK
import Derived.Shelf.Strconv.Atoi
import Derived.Shelf.Strconv.Itoa0
import Derived.Shelf.Strconv.Itoa1
import Derived.Shelf.LaysM
import Derived.Shelf.Strconv.Itoa2
import Derived.Shelf.Strconv.Itoa3
import Derived.Shelf.Strconv.AtoiErrFast
import Derived.Shelf.Strconv.ParseIntEmpty
import Derived.Shelf.Strconv.AtoiFail
import Derived.Shelf.Strconv.Clone
import Derived.Shelf.Strconv.SyntaxError
import Derived.Shelf.LaysC
import Derived.Shelf.Strconv.ToError
import Derived.Shelf.Strconv.Lower
import Derived.Shelf.Strconv.ParseUint10
import Derived.Shelf.Strconv.ParseUint10Empty
import Derived.Shelf.Strconv.ParseUint10Any
import Derived.Shelf.Strconv.ParseInt10
import Derived.Shelf.Strconv.AtoiLong
import Derived.Shelf.Strconv.AtoiInnerAll
import Derived.Shelf.Strconv.RangeError
import Derived.Shelf.Strconv.ToErrorRange
import Derived.Shelf.Strconv.AtoiAll
import Derived.Shelf.Strconv.ErrVarAll
import Derived.Shelf.Strings.Prefix
import Derived.Shelf.Bits.Mul64
import Derived.Shelf.Strings.Repeat
import Derived.Shelf.Slices.Reverse
import Derived.Ground.Names2Prog
import Derived.Shelf.Slices.Clone
import Derived.Shelf.Slices.CompactS
import Derived.Shelf.Slices.Cells
import Derived.Ground.SlgnProg
import Derived.Shelf.SlicesE.Clone
import Derived.Test.YtedljfabpknjiaaGreatDoorProg
section
namespace Go.Abs
open Go
section

mutual
inductive DW:Data->Data->Prop
 |refl (d:Data):DW d d
 |nil (k:Nat):DW (.s (.slice none 0 0)) (.sl k [])
 |agg {cs ds:List Data}:DWs cs ds->DW (.agg cs) (.agg ds)
inductive DWs:List Data->List Data->Prop
 |nil:DWs [] []
 |cons {c d:Data}{cs ds:List Data}:DW c d->DWs cs ds->DWs (c::cs) (d::ds)
end
inductive PW:PV->PV->Prop
 |refl (p:PV):PW p p
 |d {x y:Data}:DW x y->PW (.d x) (.d y)
 |any (p:PV):PW p .any
inductive PWs:List PV->List PV->Prop
 |nil:PWs [] []
 |cons {c d:PV}{cs ds:List PV}:PW c d->PWs cs ds->PWs (c::cs) (d::ds)
theorem PWs.refl:∀l:List PV,PWs l l
 |[]=>.nil
 |_::r=>.cons (.refl _) (PWs.refl r)
theorem DWs.refl:∀l:List Data,DWs l l
 |[]=>.nil
 |_::r=>.cons (.refl _) (DWs.refl r)

section
variable {H:Nat->Option Value}{lim:Nat->Nat}{w:World}
mutual
theorem DW.sound:∀ {x y:Data}{v:Value},DW x y->VD lim w x v->VD lim w y v
 |_,_,_,.refl _,hv=>hv
 |_,_,v,.nil k,hv=>by
  simp only [VD] at hv
  subst hv
  simp only [VD]
  exact ⟨none,0,0,rfl,rfl,nR _,by simp [maxLen],fun q=>absurd rfl q⟩
 |_,_,v,.agg h,hv=>by
  simp only [VD] at hv ⊢
  obtain ⟨vs,rfl,hc⟩:=hv
  exact ⟨vs,rfl,DWs.sound h hc⟩
theorem DWs.sound:∀ {x y:List Data}{v:List Value},DWs x y->VDs lim w x v->VDs lim w y v
 |_,_,_,.nil,hv=>hv
 |_,_,v,.cons h k,hv=>by
  simp only [VDs] at hv ⊢
  obtain ⟨u,us,rfl,h1,h2⟩:=hv
  exact ⟨u,us,rfl,DW.sound h h1,DWs.sound k h2⟩
end
theorem PW.sound{p q:PV}{v:Value}(h:PW p q)(hv:V H lim w p v):V H lim w q v:=by
 cases h with
 |refl=>exact hv
 |d h=>simp only [V] at hv ⊢;exact h.sound hv
 |any=>simp only [V]
theorem PWs.sound:∀ {x y:List PV}{v:List Value},PWs x y->Vs H lim w x v->Vs H lim w y v
 |_,_,_,.nil,hv=>hv
 |_,_,v,.cons h k,hv=>by
  simp only [Vs] at hv ⊢
  obtain ⟨u,us,rfl,h1,h2⟩:=hv
  exact ⟨u,us,rfl,h.sound h1,PWs.sound k h2⟩
end

def Rp(T:Tab)(fn:Func)(B:Nat)(out:Out)(rows':List Row):AExit->St->Prop:=fun e X=>match e with
 |.normal=>∃ps L ps' fS,cJ T X fn.results.toList=some ps/\L.take B=List.range B/\cl L=true/\PV.subs (gc L X.rows) ps=some ps'/\bs (gc L X.rows) X.rows L=some rows'/\PWs ps' fS/\out=.ret (fI fS)
 |.ret=>∃ps L ps' fS,cJ T X fn.results.toList=some ps/\L.take B=List.range B/\cl L=true/\PV.subs (gc L X.rows) ps=some ps'/\bs (gc L X.rows) X.rows L=some rows'/\PWs ps' fS/\out=.ret (fI fS)
 |.pan p=>∃L p',L.take B=List.range B/\cl L=true/\PV.sub (gc L X.rows) p=some p'/\bs (gc L X.rows) X.rows L=some rows'/\out=.pan p'
 |.exit _=>False

section
variable {P:Program}{T:Tab}{G:Glob}{D:List Deferred}{N B:Nat}{X X':St}{H H':Nat->Option Value}{lim lim':Nat->Nat}{a:Act}{w w':World}{L:List Nat}

theorem tm(h0:L.take B=List.range B):Lk B H lim w (HL L H) lim w:=by
 refine Sub.lk (fun id hid=>?_) (fun b ⟨j,hb⟩=>?_)
 ·have e:(L.take B)[id]? = some id:=by rw [h0];simp [hid]
  rw [List.getElem?_take,if_pos hid] at e
  simp [HL,e]
 obtain ⟨id,_,h⟩:=qp hb
 exact ⟨id,h⟩

theorem mD(hT:bH P T)(hR:Rep D G N H lim X a w){fn:Func}{ps:List PV}(h:cJ T X fn.results.toList=some ps):
  ∃us:List Value,(results fn a.tmps).run P w=.ok (if h:us.length=1 then us[0] else .tuple us.toArray) w/\Vs H lim w ps us:=by
 obtain ⟨us,r1,r2⟩:=gA (P:=P) hT hR _ _ h
 refine ⟨us,?_,r2⟩
 unfold results
 have:∀(g:ResultVar->Sem Value),(fn.results.mapM g).run P w=((fn.results.toList.mapM g).run P w).andThen fun l w=>.ok l.toArray w:=by
  intro g
  rw [<- Array.toArray_toList (xs:=fn.results),List.mapM_toArray]
  simp only [List.toList_toArray]
  show Sem.run P (List.mapM g fn.results.toList >>= fun x=>pure x.toArray) w=_
  rw [Sem.run_bind]
  rfl
 rw [Sem.run_bind,this]
 erw [r1]
 simp [Result.andThen]
theorem FU{ps:List PV}{us:List Value}(h:Vs H lim w ps us):V H lim w (fI ps) (if h:us.length=1 then us[0] else .tuple us.toArray):=by
 have hl:=dA h
 cases ps with
 |nil=>
  simp only [Vs] at h
  subst h
  simp only [fI,V]
  exact ⟨[],rfl,by simp only [Vs]⟩
 |cons p ps=>
  cases ps with
  |nil=>
   simp only [Vs] at h
   obtain ⟨u,QD,rfl,h1,rfl⟩:=h
   simpa [fI] using h1
  |cons q ps=>
   have aO:¬us.length=1:=by simp at hl;omega
   rw [dif_neg aO]
   simp only [fI,V]
   exact ⟨us,rfl,h⟩

def TW(T:Tab)(fn:Func)(B:Nat)(Pst:Out->List Row->Prop):AExit->St->Prop:=fun e X=>match e with
 |.normal=>∃ps L ps' fS rows',cJ T X fn.results.toList=some ps/\L.take B=List.range B/\cl L=true/\PV.subs (gc L X.rows) ps=some ps'/\bs (gc L X.rows) X.rows L=some rows'/\PWs ps' fS/\Pst (.ret (fI fS)) rows'
 |.ret=>∃ps L ps' fS rows',cJ T X fn.results.toList=some ps/\L.take B=List.range B/\cl L=true/\PV.subs (gc L X.rows) ps=some ps'/\bs (gc L X.rows) X.rows L=some rows'/\PWs ps' fS/\Pst (.ret (fI fS)) rows'
 |.pan p=>∃L p' rows',L.take B=List.range B/\cl L=true/\PV.sub (gc L X.rows) p=some p'/\bs (gc L X.rows) X.rows L=some rows'/\Pst (.pan p') rows'
 |.exit _=>False
theorem Rq{fn:Func}{out:Out}{rows':List Row}:∀(e:AExit) (X:St),Rp T fn B out rows' e X->TW T fn B (fun o r=>o=out/\r=rows') e X
 |.normal,_,⟨ps,L,ps',fS,q1,q2,q3,q4,q5,q6,q7⟩=>⟨ps,L,ps',fS,rows',q1,q2,q3,q4,q5,q6,q7.symm,rfl⟩
 |.ret,_,⟨ps,L,ps',fS,q1,q2,q3,q4,q5,q6,q7⟩=>⟨ps,L,ps',fS,rows',q1,q2,q3,q4,q5,q6,q7.symm,rfl⟩
 |.pan _,_,⟨L,p',q1,q2,q3,q4,q5⟩=>⟨L,p',rows',q1,q2,q3,q4,q5.symm,rfl⟩
 |.exit _,_,h=>h
theorem od (hT:bH P T) {f:FuncId}{fn:Func}{c:Code}{args:List PV}{rows:List Row}{Pst:Out->List Row->Prop}(hf:P.funcs[f]? = some fn) (hb:fn.body=some c) (ic:(fn.name== "runtime.NumGoroutine")=false)
  (bZ:∀o r,Pst o r->rows.length<=r.length) (hN:N=args.length+(fn.ntmps - args.length))
  (h:dJ [] P G N rows.length c (TW T fn rows.length Pst) ⟨jT 0 args,rows⟩):AA P G f args rows Pst:=by
 refine ⟨fun QC w=>?_,bZ,fun H lim w vs bw eT eq=>?_⟩
 ·have aO:¬fn.name = "runtime.NumGoroutine":=by simpa using ic
  simp [callFunc,hf,aO,hb,program,Sem.run]
 have s8:vs.length=args.length:=dA eq
 refine calls_of_wp hf hb (wp_mono (h H lim _ w ⟨fun j p hj=>?_,bw,eT,rfl,?_⟩) ?_)
 ·obtain ⟨_,hj⟩:=jE hj
  obtain ⟨v,h1,h2⟩:=kG eq hj
  simp only [Nat.sub_zero] at h1
  have hlt:=(List.getElem?_eq_some_iff.1 h1).1
  refine ⟨by omega,?_⟩
  have:((vs.toArray++Array.replicate (fn.ntmps - vs.toArray.size) undef).getD j undef)=v:=by
   rw [Array.getD_eq_getD_getElem?,Array.getElem?_append_left (by simpa using hlt)]
   simp [h1]
  rw [this]
  exact h2
 ·simp [hN,s8]
 intro e a' w' hp
 have Cj:∀ {H':Nat->Option Value}{lim':Nat->Nat},Lk rows.length H lim w H' lim' w'->∀id v,stay v=true->H id=some v->H' id=H id:=fun lk id q iF hq=>by
  rcases Nat.lt_or_ge id rows.length with hlt|hlt
  ·exact lk.ptr id q hlt iF hq
  rw [bw.dom id hlt] at hq;cases hq
 have key:∀X' H' lim',Rep [] G N H' lim' X' a' w'->Lk rows.length H lim w H' lim' w'->(∃ps L ps' fS rows',cJ T X' fn.results.toList=some ps/\L.take rows.length=List.range rows.length/\cl L=true/\PV.subs (gc L X'.rows) ps=some ps'/\bs (gc L X'.rows) X'.rows L=some rows'/\PWs ps' fS/\Pst (.ret (fI fS)) rows')->
   a'.defers=[]/\∃v,(results fn a'.tmps).run P w'=.ok v w'/\(∃(out:Out) (rows':List Row) (H':Nat->Option Value) (lim':Nat->Nat),Pst out rows'/\RowsOk H' lim' w' rows'/\Fr (Bl H) lim w lim' w'/\(∀id v,stay v=true->H id=some v->H' id=H id)/\(∀b,Bl H' b->Bl H b\/w.heap.size<=b)/\
    BK H' lim' w' out (.returned v)):=by
  intro X' H' lim' hR lk ⟨ps,L,ps',fS,rows',q1,q2,q3,q4,q5,q6,q7⟩
  refine ⟨hR.defers,?_⟩
  obtain ⟨us,r1,r2⟩:=mD (P:=P) hT hR q1
  have Kx:=lk.trans (tm (H:=H') (lim:=lim') (w:=w') q2)
  have r3:=Vs.sub (Fr.refl (fun _=>False) lim' w') (fM hR.rows).1 (fM hR.rows).2 _ _ _ q4 r2
  exact ⟨_,r1,_,_,HL L H',lim',q7,g9 hR.rows q3 q5,Kx.fr,Cj Kx,Kx.blocks,_,rfl,FU (q6.sound r3)⟩
 cases e <;> simp only [Post,bodyPost] at hp ⊢
 ·obtain ⟨X',H',lim',h1,h2,h3⟩:=hp
  exact key X' H' lim' h1 h2 h3
 ·obtain ⟨X',H',lim',h1,h2,h3⟩:=hp
  exact h3
 ·obtain ⟨X',H',lim',h1,h2,h3⟩:=hp
  exact key X' H' lim' h1 h2 h3
 obtain ⟨X',H',lim',v,p,rfl,h2,h3,h4,h5,L,p',rows',q1,q2,q3,q4,q5⟩:=hp
 have Kx:=h5.trans (tm (H:=H') (lim:=lim') (w:=w') q1)
 exact ⟨h4,_,_,HL L H',lim',q5,g9 (X:=X') h2 q2 q4,Kx.fr,Cj Kx,Kx.blocks,v,rfl,V.sub (Fr.refl (fun _=>False) lim' w') (fM h2).1 (fM h2).2 _ _ _ q3 h3⟩

theorem aZ (hT:bH P T) {f:FuncId}{fn:Func}{c:Code}{args:List PV}{rows rows':List Row}{out:Out}(hf:P.funcs[f]? = some fn) (hb:fn.body=some c) (ic:(fn.name== "runtime.NumGoroutine")=false)
  (bZ:rows.length<=rows'.length) (hN:N=args.length+(fn.ntmps - args.length))
  (h:dJ [] P G N rows.length c (Rp T fn rows.length out rows') ⟨jT 0 args,rows⟩):Spec P G f args rows out rows':=by
 have k:=od hT hf hb ic (fun _ _ q=>by rw [q.2];exact bZ) hN (Ce h Rq)
 refine ⟨k.1,bZ,fun H lim w vs h1 h2 h3=>Calls.mono (k.2.2 H lim w vs h1 h2 h3) ?_⟩
 intro e w' ⟨o,r,H',lim',⟨e1,e2⟩,q⟩
 subst e1 e2
 exact ⟨H',lim',q⟩

theorem lF{T:Tab}{X:St}{rs:List ResultVar}{ps ps':List PV}{B:Nat}{rows':List Row}{out:Out}(L:List Nat)(E:List PV)(h1:cJ T X rs=some ps:=by rfl)(h2:L.take B=List.range B:=by rfl)(h3:cl L=true:=by rfl)(h4:PV.subs (gc L X.rows) ps=some ps':=by rfl)(h5:bs (gc L X.rows) X.rows L=some rows':=by rfl)(h7:out=.ret (fI E):=by rfl)(h6:PWs ps' E:=by exact PWs.refl _):∃ps L ps' fS,cJ T X rs=some ps/\L.take B=List.range B/\cl L=true/\PV.subs (gc L X.rows) ps=some ps'/\bs (gc L X.rows) X.rows L=some rows'/\PWs ps' fS/\out=.ret (fI fS):=⟨ps,L,ps',E,h1,h2,h3,h4,h5,h6,h7⟩
theorem lG{T:Tab}{X:St}{rs:List ResultVar}{ps ps':List PV}{B:Nat}{rows':List Row}{out:Out}(L:List Nat)(E:List PV)(h1:cJ T X rs=some ps:=by rfl)(h2:L.take B=List.range B:=by rfl)(h3:cl L=true:=by rfl)(h4:PV.subs (gc L X.rows) ps=some ps':=by rfl)(h5:bs (gc L X.rows) X.rows L=some rows':=by rfl)(h7:out=.ret (fI E):=by rfl)(h6:PWs ps' E:=by first|exact PWs.refl _|(refine PWs.cons (PW.d ?_) PWs.nil;repeat (first|exact DW.refl _|refine DW.agg ?_|refine DWs.cons ?_ ?_|exact DWs.nil|exact DW.nil _))):∃ps L ps' fS,cJ T X rs=some ps/\L.take B=List.range B/\cl L=true/\PV.subs (gc L X.rows) ps=some ps'/\bs (gc L X.rows) X.rows L=some rows'/\PWs ps' fS/\out=.ret (fI fS):=⟨ps,L,ps',E,h1,h2,h3,h4,h5,h6,h7⟩
theorem lI{T:Tab}{X:St}{rs:List ResultVar}{ps ps':List PV}{B:Nat}{rows':List Row}{out:Out}(L:List Nat)(E:List PV)(h1:cJ T X rs=some ps:=by rfl)(h2:L.take B=List.range B:=by rfl)(h3:cl L=true:=by rfl)(h4:PV.subs (gc L X.rows) ps=some ps':=by rfl)(h5:bs (gc L X.rows) X.rows L=some rows':=by rfl)(h6:PWs ps' E:=by exact PWs.refl _)(h7:out=.ret (fI E):=by rfl):∃ps L ps' fS,cJ T X rs=some ps/\L.take B=List.range B/\cl L=true/\PV.subs (gc L X.rows) ps=some ps'/\bs (gc L X.rows) X.rows L=some rows'/\PWs ps' fS/\out=.ret (fI fS):=⟨ps,L,ps',E,h1,h2,h3,h4,h5,h6,h7⟩
theorem lP{X:St}{B:Nat}{rows':List Row}{out:Out}{p p':PV}(L:List Nat)(h1:L.take B=List.range B:=by rfl)(h2:cl L=true:=by rfl)(h3:PV.sub (gc L X.rows) p=some p':=by rfl)(h4:bs (gc L X.rows) X.rows L=some rows':=by rfl)(h5:out=.pan p':=by rfl):∃L p',L.take B=List.range B/\cl L=true/\PV.sub (gc L X.rows) p=some p'/\bs (gc L X.rows) X.rows L=some rows'/\out=.pan p':=⟨L,p',h1,h2,h3,h4,h5⟩
theorem sA {G:Glob}{N:Nat}{f:FuncId}{fn:Func}{c:Code}{args:List PV}{rows rows':List Row}{out:Out}(hf:Go.Proofs.Tryz.prog.funcs[f]? = some fn)(h:dJ [] Go.Proofs.Tryz.prog G N rows.length c (Rp TT fn rows.length out rows') ⟨jT 0 args,rows⟩)(hb:fn.body=some c:=by rfl)(ic:(fn.name== "runtime.NumGoroutine")=false:=by rfl)(bZ:rows.length<=rows'.length:=by exact nR _)(hN:N=args.length+(fn.ntmps - args.length):=by rfl):Spec Go.Proofs.Tryz.prog G f args rows out rows':=aZ b8 hf hb ic bZ hN h
theorem Hf{t:Nat}{x y:Code}{b:Bool}{Q:AExit->St->Prop}(hc:look X.env t=some (.d (.s (.bool b))))(h:UG b (dJ D P G N B x Q ⟨(t,.d (.s (.bool true)))::X.env,X.rows⟩) (dJ D P G N B y Q ⟨(t,.d (.s (.bool false)))::X.env,X.rows⟩)):dJ D P G N B (.cond (.tmp t) x y) Q X:=by
 intro H lim a w hR
 have hv:=hR.env t _ hc
 have yf:=hv.2
 simp only [V,VD] at yf
 exact wp_cond_split (show a.eval (.tmp t)=.bool b from yf) (fun e=>(iy h).1 e H lim a w (qu (d:=t) hR hv.1 (by simp only [V,VD];rw [yf,e]))) (fun e=>(iy h).2 e H lim a w (qu (d:=t) hR hv.1 (by simp only [V,VD];rw [yf,e])))

theorem cQ{D:List Deferred}{P:Program}{G:Glob}{N B:Nat}{X:St}{t:Nat}{x y:Code}{b:Bool}{Q:AExit->St->Prop}(hc:look X.env t=some (.d (.s (.bool b))))(h1:b=true->dJ D P G N B x Q ⟨(t,.d (.s (.bool true)))::X.env,X.rows⟩)(h2:b=false->dJ D P G N B y Q ⟨(t,.d (.s (.bool false)))::X.env,X.rows⟩):dJ D P G N B (.cond (.tmp t) x y) Q X:=Hf hc (ab h1 h2)
theorem Nj{t:Nat}(e:TypeId)(k:Nat)(ht:look X.env t=some (.d (.s (.slice none 0 0))))(hk:Nat.ble 1 k=true)(hB:B<=X.rows.length):Sub D G N B X ⟨(t,.acc X.rows.length)::X.env,X.rows++[.acc e k []]⟩:=by
 intro H lim a w hR
 have hn:H X.rows.length=none:=hR.rows.dom _ (nR _)
 have jK:=h_ (D:=D) (r:=.acc e k []) (u:=.slice none 0 0) hR (Fr.refl _ lim w) (fun b hb=>hb.elim) ⟨.slice none 0 0,[],aX _ _ _,⟨by simp,.inl ⟨rfl,rfl⟩⟩,by simp only [List.flatten_nil,VDs],(fun _ q=>absurd q List.not_mem_nil),Nat.le_of_ble_eq_true hk,fun b q=>(by simp [blk] at q)⟩
 have hv:=(hR.env t _ ht)
 simp only [V,VD] at hv
 refine ⟨_,lim,qu (X:=⟨X.env,X.rows++[.acc e k []]⟩) jK.rep hv.1 (p:=.acc X.rows.length) (d:=t) ?_,⟨jK.fr.weaken fun b ⟨_,q,_⟩=>q.elim,fun id v _ iF h=>jK.ptr id v iF h,jK.blocks⟩⟩
 simp only [V]
 rw [aX,hv.2]
theorem dV (t:Nat) (e:TypeId) (k:Nat) {c:Code}{Q:AExit->St->Prop}(ht:look X.env t=some (.d (.s (.slice none 0 0)))) (hk:Nat.ble 1 k=true) (hB:Nat.ble B X.rows.length=true)
  (h:dJ D P G N B c Q ⟨(t,.acc X.rows.length)::X.env,X.rows++[.acc e k []]⟩):dJ D P G N B c Q X:=ju (Nj e k ht hk (Nat.le_of_ble_eq_true hB)) h
end

section
variable {P:Program}{T:Tab}{G:Glob}{D:List Deferred}{N B:Nat}{X X':St}{H H':Nat->Option Value}{lim lim':Nat->Nat}{a:Act}{w w':World}{L:List Nat}
theorem CT{q:PV}{v:Value}:∀ {ps:List PV}{vs:List Value}{i:Nat},Vs H lim w ps vs->vs[i]? = some v->V H lim w q v->Vs H lim w (ps.set i q) vs
 |[],vs,i,h,hv,hq=>by simpa using h
 |p::ps,vs,i,h,hv,hq=>by
  simp only [Vs] at h
  obtain ⟨u,us,rfl,h1,h2⟩:=h
  cases i with
  |zero=>
   simp only [List.getElem?_cons_zero,sI] at hv
   subst hv
   simp only [List.set_cons_zero,Vs]
   exact ⟨_,us,rfl,hq,h2⟩
  |succ i=>
   simp only [List.getElem?_cons_succ] at hv
   simp only [List.set_cons_succ,Vs]
   exact ⟨u,us,rfl,h1,CT h2 hv hq⟩
theorem Cn{id off:Nat}{ty:TypeId}{cells:List PV}(e:TypeId)(k:Nat)(hr:X.rows[id]? = some (.box ty cells))(hc:cells[off]? = some (.d (.s (.slice none 0 0))))(hk:Nat.ble 1 k=true)(_hB:B<=X.rows.length):
  Sub D G N B X ⟨X.env,X.rows.set id (.box ty (cells.set off (.acc X.rows.length)))++[.acc e k []]⟩:=by
 intro H lim a w hR
 have hn:H X.rows.length=none:=hR.rows.dom _ (nR _)
 have jK:=h_ (D:=D) (r:=.acc e k []) (u:=.slice none 0 0) hR (Fr.refl _ lim w) (fun b hb=>hb.elim) ⟨.slice none 0 0,[],aX _ _ _,⟨by simp,.inl ⟨rfl,rfl⟩⟩,by simp only [List.flatten_nil,VDs],(fun _ q=>absurd q List.not_mem_nil),Nat.le_of_ble_eq_true hk,fun b q=>(by simp [blk] at q)⟩
 have hid:id<X.rows.length:=(List.getElem?_eq_some_iff.1 hr).1
 have Co:=jK.rep
 refine ⟨_,lim,⟨Co.env,⟨fun j q hj=>?_,Co.rows.apart,fun j hj=>Co.rows.dom j (by simpa using hj)⟩,Co.glob,Co.defers,Co.size⟩,⟨jK.fr.weaken fun b ⟨_,q,_⟩=>q.elim,fun id v _ iF h=>jK.ptr id v iF h,jK.blocks⟩⟩
 by_cases NQ:j=id
 ·subst NQ
  rw [List.getElem?_append_left (by simpa using hid),List.getElem?_set_self hid] at hj
  simp only [sI] at hj
  subst hj
  have:=Co.rows.row j (.box ty cells) (by simp only;rw [List.getElem?_append_left hid];exact hr)
  obtain ⟨b,cs,h1,h2,h3,h4⟩:=this
  obtain ⟨v,Gi,yf⟩:=kG h3 hc
  simp only [V,VD] at yf
  exact ⟨b,cs,h1,h2,CT h3 Gi (by simp only [V];rw [aX,yf]),h4⟩
 refine Co.rows.row j q ?_
 simp only at hj ⊢
 rcases Nat.lt_or_ge j X.rows.length with hlt|hlt
 ·rw [List.getElem?_append_left (by simpa using hlt),List.getElem?_set_ne (Ne.symm NQ)] at hj
  rw [List.getElem?_append_left hlt];exact hj
 rw [List.getElem?_append_right (by simpa using hlt)] at hj
 rw [List.getElem?_append_right hlt]
 simpa using hj
theorem cr (id off:Nat) (e:TypeId) (k:Nat) {ty:TypeId}{cells:List PV}{c:Code}{Q:AExit->St->Prop}(hr:X.rows[id]? = some (.box ty cells)) (hc:cells[off]? = some (.d (.s (.slice none 0 0)))) (hk:Nat.ble 1 k=true) (hB:Nat.ble B X.rows.length=true)
  (h:dJ D P G N B c Q ⟨X.env,X.rows.set id (.box ty (cells.set off (.acc X.rows.length)))++[.acc e k []]⟩):dJ D P G N B c Q X:=ju (Cn e k hr hc hk (Nat.le_of_ble_eq_true hB)) h
end
theorem Spec.weak{P:Program}{G:Glob}{f:FuncId}{args args':List PV}{rows rows':List Row}{p p':PV}(h:Spec P G f args rows (.ret p) rows')(ha:PWs args' args)(hp:PW p p'):Spec P G f args' rows (.ret p') rows':=by
 refine ⟨h.1,h.2.1,fun H lim w vs h1 h2 h3=>Calls.mono (h.2.2 H lim w vs h1 h2 (ha.sound h3)) ?_⟩
 intro e w' ⟨H',lim',q1,q2,q3,q4,v,q5,q6⟩
 exact ⟨H',lim',q1,q2,q3,q4,v,q5,hp.sound q6⟩
end
end Go.Abs
end
section
namespace Go.Abs
open Go Go.Proofs
attribute [local irreducible] c8 dJ Sub Spec
section
def aW(s:BA):Data:=.s (.string s)
def aD(n:Int):Data:=.s (.int .i64 n)
def strs(l:List BA):List (List Data):=l.map fun s=>[aW s]
theorem ag(l:List BA):(strs l).length=l.length:=by simp [strs]
theorem Kz{l:List BA}{k:Nat}(h:k<l.length):(strs l)[((k:Nat):Int).toNat]? = some [aW (l[k]'h)]:=by
 rw [Int.toNat_natCast]
 simp [strs,h]
def tt:Data:=.s (.bool true)
def sK(l:List BA):List (BA×Data):=l.foldl (fun m w=>cZ m w tt) []
theorem Hg(l:List BA)(k:Nat)(h:k<l.length):cZ (sK (l.take k)) (l[k]'h) tt=sK (l.take (k+1)):=by
 unfold sK
 rw [List.take_succ_eq_append_getElem h,List.foldl_append]
 rfl
theorem wg(G:Glob)(l:List BA)(hl:l.length<1000):Spec Tryz.prog G 254 [.d (.sl 1 (strs l))] [] (.ret (.acc 0)) [.map 212 (sK l)]:=by
 refine aZ b8 (N:=17) Tryz.func254 rfl (by rfl) (Nat.zero_le _) rfl ?_;refine rz [0] ?_;refine rz [0,3] ?_;refine aa (rz [3,7,8,9] ?_);refine af (aB (fun n Y=>∃k:Nat,n=l.length - k/\k<=l.length/\Y=⟨[(3,.acc 0),(7,.d (.sl 1 (strs l))),(8,.d (.s (.int .i64 (strs l).length))),(9,.d (.s (.int .i64 k)))],[.map 212 (sK (l.take k))]⟩) (l.length) (⟨0,rfl,Nat.zero_le _,rfl⟩) ?_);rintro n Y ⟨k,hn,hk,rfl⟩;refine rz [3,7,8,9,10] ?_;refine aa (cQ rfl (fun h1=>?_) fun h1=>?_)
 ·have bO:=oT h1
  rw [ag] at bO;refine ac (aa ?_);refine af (rS fun J O=>?_);refine oN (eI _ (aI (Kz (by omega)) ?_));refine O _ (aM [3,5,7,8,9] ?_);clear O J;refine rG fun J O=>?_;refine eI _ (aI rfl ?_);refine O _ (aM [3,7,8,9] ?_);clear O J;refine rG fun J O=>O _ ?_;clear O J;refine ⟨n - 1,by omega,_,ak (slots:=[3,7,8,9]) rfl rfl,k+1,by omega,by omega,?_⟩;rw [show IntKind.i64.wrap ((k:Int)+1)=((k+1:Nat):Int) from by rw [aH (by omega) (by omega)];omega,show Data.s (Value.bool true)=tt from rfl,Hg l k (by omega)]
 have bO:=oF h1;rw [ag] at bO
 obtain rfl:k=l.length:=by omega
 rw [List.take_length];refine aA ?_;refine rz [2] ?_;refine ae ?_;exact lI [0] _
def resW:List BA:=[⟨#[118,97,114]⟩,⟨#[97,114,114,97,121]⟩,⟨#[112,114,111,99]⟩,⟨#[109,97,105,110]⟩,⟨#[114,101,116,117,114,110]⟩,⟨#[99,97,108,108]⟩,⟨#[105,102]⟩,⟨#[101,108,115,101]⟩,⟨#[119,104,105,108,101]⟩,⟨#[97,115,115,101,114,116]⟩,⟨#[97,115,115,117,109,101]⟩,⟨#[114,101,97,100]⟩,⟨#[97,110,100]⟩,⟨#[111,114]⟩,⟨#[116,114,117,101]⟩,⟨#[102,97,108,115,101]⟩]
theorem Ea(G:Glob):Spec Tryz.prog G 210 [] [] (.ret (.acc 0)) [.map 212 (sK resW)]:=by
 refine aZ b8 (N:=3) Tryz.func210 rfl (by rfl) (Nat.zero_le _) rfl ?_;refine rz [] ?_;refine rS fun J O=>?_;refine aS [] (wg G resW (by decide)) ?_;refine O _ (aM [0] ?_);clear O J;refine ae ?_;exact lI [0] _
theorem xA:∀(m:List (BA×Data)) (w:BA),(∀x∈m,x.2=tt)->∀x∈cZ m w tt,x.2=tt
 |[],w,h,x,hx=>by simp only [cZ,List.mem_singleton] at hx;rw [hx]
 | (k,q)::r,w,h,x,hx=>by
  simp only [cZ] at hx;split at hx
  ·rcases List.mem_cons.1 hx with rfl|hx
   ·rfl
   exact h x (List.mem_cons_of_mem _ hx)
  rcases List.mem_cons.1 hx with rfl|hx
  ·exact h _ (List.mem_cons_self ..)
  exact xA r w (fun y hy=>h y (List.mem_cons_of_mem _ hy)) x hx
theorem Nk(l:List BA):∀x∈sK l,x.2=tt:=by
 unfold sK
 suffices h:∀(l:List BA) (m:List (BA×Data)),(∀x∈m,x.2=tt)->∀x∈l.foldl (fun m w=>cZ m w tt) m,x.2=tt from h l [] (by simp)
 intro l
 induction l with
 |nil=>intro m h;exact h
 |cons w r ih=>intro m h;exact ih _ (xA m w h)
theorem xB:∀ {m:List (BA×Data)}{w:BA}{p:Data},(∀x∈m,x.2=tt)->dF m w=some p->p=tt
 |[],_,_,_,h=>by cases h
 | (k,q)::r,w,p,hm,h=>by
  simp only [dF] at h;split at h
  ·cases h;exact hm _ (List.mem_cons_self ..)
  exact xB (fun y hy=>hm y (List.mem_cons_of_mem _ hy)) h
def AQ(s:BA):Bool:=(dF (sK resW) s).isSome
def tN(s:BA):Nat->Nat->Bool
 |0,_=>true
 |n+1,i=>match decide ((i:Int)<(s.size:Int)) with
  |true=>match (decide (byteAt s i<97)||decide (byteAt s i>122)) with
   |true=>false
   |false=>tN s n (i+1)
  |false=>true
def aC(s:BA):Bool:=match tN s s.size 0 with
 |true=>(!(s.toList==(⟨#[]⟩:BA).toList))&&decide ((s.size:Int)<=8)&&!AQ s
 |false=>false
attribute [local irreducible] sK
theorem mF(G:Glob)(s:BA)(hs:s.size<4611686018427387904):Spec Tryz.prog G 150 [.d (aW s)] [] (.ret (.d (.s (.bool (aC s))))) []:=by
 obtain ⟨r,hr⟩:∃r,aC s=r:=⟨_,rfl⟩;rw [hr];refine sA (N:=33) Tryz.func150 ?_;refine rz [0] ?_;refine aa (rz [0,5,6] ?_);refine af (aB (fun n Y=>∃k:Nat,n=s.size - k/\k<=s.size/\tN s n k=tN s s.size 0/\Y=⟨[(0,.d (.s (.string s))),(5,.d (.s (.int .i64 s.size))),(6,.d (.s (.int .i64 k)))],[]⟩) (s.size) (⟨0,rfl,Nat.zero_le _,rfl,rfl⟩) ?_);rintro n Y ⟨k,hn,hk,mY,rfl⟩;refine rz [0,5,6,7] ?_;refine aa (cQ rfl (fun h1=>?_) fun h1=>?_)
 ·have bO:=oT h1
  obtain ⟨m,rfl⟩:∃m,n=m+1:=⟨n - 1,by omega⟩;simp only [tN,h1] at mY;refine ac (aa ?_);refine af (rz [0,3,5,6] ?_);refine rS fun J O=>oN (oN ?_);refine ab (fun h2=>?_) (fun h2=>?_)
  ·try simp only [h2,Bool.true_or] at mY
   refine O _ (aM [0,5,6,18] ?_);clear O J;refine aj rfl (rz [2] ?_);refine ae ?_;simp only [aC,<- mY] at hr;subst hr;exact lI [] _
  refine oN (oN ?_);refine O _ (aM [0,5,6,18] ?_);clear O J;refine cQ rfl (fun h3=>?_) fun h3=>?_
  ·try simp only [h2,h3,Bool.false_or] at mY
   refine rz [2] ?_;refine ae ?_;simp only [aC,<- mY] at hr;subst hr;exact lI [] _
  try simp only [h2,h3,Bool.false_or] at mY
  refine ac (rG fun J O=>O _ ?_);clear O J;refine ⟨m,by omega,_,ak (slots:=[0,5,6]) rfl rfl,k+1,by omega,by omega,mY,?_⟩;rw [show IntKind.i64.wrap ((k:Int)+1)=((k+1:Nat):Int) from by rw [aH (by omega) (by omega)];omega]
 have bO:=oF h1
 obtain rfl:n=0:=by omega
 simp only [tN] at mY;refine aA ?_;refine rS fun J O=>?_;refine ab (fun h2=>?_) (fun h2=>?_)
 ·try simp only [h2,Bool.true_or] at mY
  refine ab (fun h3=>?_) (fun h3=>?_)
  ·try simp only [h2,h3,Bool.false_or] at mY
   refine aS [] (Ea G) ?_
   cases hm:dF (sK resW) s with
   |none=>
    refine ⟨none,hm,?_⟩;refine O _ (aM [2] ?_);clear O J;refine ae ?_;simp only [aC,<- mY,h2,h3,AQ,hm,Option.isSome,Bool.and_true,Bool.not_false] at hr;subst hr;exact lI [] _
   |some p=>
    obtain rfl:=xB (Nk _) hm;refine ⟨some tt,hm,?_⟩;refine O _ (aM [2] ?_);clear O J;refine ae ?_;simp only [aC,<- mY,h2,h3,AQ,hm,Option.isSome,Bool.and_true,Bool.and_false,Bool.not_true] at hr;subst hr;exact lI [] _
  try simp only [h2,h3,Bool.false_or] at mY
  refine O _ (aM [2] ?_);clear O J;refine ae ?_;simp only [aC,<- mY,h2,h3,Bool.false_and,Bool.and_false] at hr;subst hr;exact lI [] _
 refine O _ (aM [2] ?_);clear O J;refine ae ?_;simp only [aC,<- mY,h2,Bool.false_and] at hr;subst hr;exact lI [] _
end
end Go.Abs
end
section
namespace Go.Proofs
open Go.Shelf
def Tryz.lays169_ren:Go.Shelf.Ren:=⟨fun|169=>82|n=>n,fun|70=>162|9=>9|0=>0|72=>165|37=>163|127=>269|3=>3|5=>5|n=>n,fun|n=>n⟩
theorem Tryz.lays169:Go.Proofs.Lays.n169 Tryz.prog Tryz.lays169_ren:={
 mixed:=by kernel_rfl
 f169:=Tryz.func82.trans (congrArg some (by kernel_rfl))
 t0:=Tryz.underlying0
 a0:=Tryz.isAgg0
 z0:=Tryz.sizeOf0
 v0:=Tryz.zeroValue0
 t3:=Tryz.underlying3
 a3:=Tryz.isAgg3
 z3:=Tryz.sizeOf3
 v3:=Tryz.zeroValue3
 t9:=Tryz.underlying9
 a9:=Tryz.isAgg9
 z9:=Tryz.sizeOf9
 v9:=Tryz.zeroValue9
 t37:=Tryz.underlying163
 a37:=Tryz.isAgg163
 z37:=Tryz.sizeOf163
 v37:=Tryz.zeroValue163
 t70:=Tryz.underlying162
 a70:=Tryz.isAgg162
 z70:=Tryz.sizeOf162
 v70:=Tryz.zeroValue162
 t72:=Tryz.underlying165
 a72:=Tryz.isAgg165
 z72:=Tryz.sizeOf165
 v72:=Tryz.zeroValue165
 t127:=Tryz.underlying269
 a127:=Tryz.isAgg269
 z127:=Tryz.sizeOf269
 v127:=Tryz.zeroValue269 }
def Tryz.lays156_ren:Go.Shelf.Ren:=⟨fun|156=>78|165=>152|166=>148|169=>82|240=>207|241=>212|276=>250|277=>259|n=>n,fun|31=>23|9=>9|3=>3|4=>4|0=>0|20=>20|72=>165|76=>264|70=>162|37=>163|75=>30|127=>269|164=>306|5=>5|80=>139|n=>n,fun|n=>n⟩
theorem Tryz.lays156:Go.Proofs.Lays.n156 Tryz.prog Tryz.lays156_ren:={
 mixed:=by kernel_rfl
 f156:=Tryz.func78.trans (congrArg some (by kernel_rfl))
 f165:=Tryz.func152.trans (congrArg some (by kernel_rfl))
 f166:=Tryz.func148.trans (congrArg some (by kernel_rfl))
 f169:=Tryz.func82.trans (congrArg some (by kernel_rfl))
 f240:=Tryz.func207.trans (congrArg some (by kernel_rfl))
 f241:=Tryz.func212.trans (congrArg some (by kernel_rfl))
 f276:=Tryz.func250.trans (congrArg some (by kernel_rfl))
 f277:=Tryz.func259.trans (congrArg some (by kernel_rfl))
 t0:=Tryz.underlying0
 a0:=Tryz.isAgg0
 z0:=Tryz.sizeOf0
 v0:=Tryz.zeroValue0
 t3:=Tryz.underlying3
 a3:=Tryz.isAgg3
 z3:=Tryz.sizeOf3
 v3:=Tryz.zeroValue3
 t4:=Tryz.underlying4
 a4:=Tryz.isAgg4
 z4:=Tryz.sizeOf4
 v4:=Tryz.zeroValue4
 t9:=Tryz.underlying9
 a9:=Tryz.isAgg9
 z9:=Tryz.sizeOf9
 v9:=Tryz.zeroValue9
 t20:=Tryz.underlying20
 a20:=Tryz.isAgg20
 z20:=Tryz.sizeOf20
 v20:=Tryz.zeroValue20
 t31:=Tryz.underlying23
 a31:=Tryz.isAgg23
 z31:=Tryz.sizeOf23
 v31:=Tryz.zeroValue23
 t37:=Tryz.underlying163
 a37:=Tryz.isAgg163
 z37:=Tryz.sizeOf163
 v37:=Tryz.zeroValue163
 t70:=Tryz.underlying162
 a70:=Tryz.isAgg162
 z70:=Tryz.sizeOf162
 v70:=Tryz.zeroValue162
 t72:=Tryz.underlying165
 a72:=Tryz.isAgg165
 z72:=Tryz.sizeOf165
 v72:=Tryz.zeroValue165
 t75:=Tryz.underlying30
 a75:=Tryz.isAgg30
 z75:=Tryz.sizeOf30
 v75:=Tryz.zeroValue30
 t76:=Tryz.underlying264
 a76:=Tryz.isAgg264
 z76:=Tryz.sizeOf264
 v76:=Tryz.zeroValue264
 t127:=Tryz.underlying269
 a127:=Tryz.isAgg269
 z127:=Tryz.sizeOf269
 v127:=Tryz.zeroValue269
 t164:=Tryz.underlying306
 a164:=Tryz.isAgg306
 z164:=Tryz.sizeOf306
 v164:=Tryz.zeroValue306 }
theorem Tryz.Builder_Extra_156:Builder.Extra Tryz.prog Tryz.lays156_ren:={
 sizeBuilder:=by kernel_rfl
 liesBuilder:=by kernel_rfl
 t5:=Tryz.underlying5
 a5:=Tryz.isAgg5
 z5:=Tryz.sizeOf5
 v5:=Tryz.zeroValue5
 infoByte:=by kernel_rfl
 cellsByte:=by kernel_rfl
 sizeByte:=by kernel_rfl
 neB5:=by decide }
open Go.RowKit in
theorem Tryz.strings_Join_none(a:Option Addr)(c:Nat)(sep:BA)(w:World):
  Calls Tryz.prog 78 #[.slice a 0 c,.string sep] w fun e w'=>e=.returned (.string ⟨#[]⟩)/\w'=w:=Any.strings_Join_none Tryz.lays156 Tryz.Builder_Extra_156 a c sep w
open Go.RowKit in
theorem Tryz.strings_Join(bk o c:Nat)(xs:List BA)(sep:BA)(w:World)(D6:∀(j:Nat) x,xs[j]? = some x->w.cell? ⟨bk,o+j,none⟩=some (.string x))(RV:bk<w.heap.size)(hN:xs.length<=140737488355328)(Rr:xs.length<=c)(bZ:(Lib.join (xs.map (·.data.toList)) sep.data.toList).length<=140737488355328):
  Calls Tryz.prog 78 #[.slice (some ⟨bk,o,none⟩) xs.length c,.string sep] w fun e w'=>e=.returned (.string ⟨(Lib.join (xs.map (·.data.toList)) sep.data.toList).toArray⟩)/\Below w.heap.size w w':=Any.strings_Join Tryz.lays156 Tryz.Builder_Extra_156 bk o c xs sep w D6 RV hN Rr bZ
def Tryz.laysM171_ren:Go.Shelf.Ren:=⟨fun|171=>77|243=>151|246=>211|283=>255|284=>256|285=>257|286=>258|129=>237|317=>278|318=>279|319=>280|320=>281|337=>286|338=>287|n=>n,fun|3=>3|9=>9|2=>2|4=>4|171=>373|0=>0|53=>345|37=>163|5=>5|173=>375|212=>397|51=>343|20=>20|213=>398|46=>286|232=>412|233=>413|n=>n,fun|17=>9|18=>13|19=>14|n=>n⟩
theorem Tryz.laysM171:Go.Proofs.LaysM.n171 Tryz.prog Tryz.laysM171_ren:={
 mixed:=by kernel_rfl
 f129:=Tryz.func237.trans (congrArg some (by kernel_rfl))
 f171:=Tryz.func77.trans (congrArg some (by kernel_rfl))
 f243:=Tryz.func151.trans (congrArg some (by kernel_rfl))
 f246:=Tryz.func211.trans (congrArg some (by kernel_rfl))
 f283:=Tryz.func255.trans (congrArg some (by kernel_rfl))
 f284:=Tryz.func256.trans (congrArg some (by kernel_rfl))
 f285:=Tryz.func257.trans (congrArg some (by kernel_rfl))
 f286:=Tryz.func258.trans (congrArg some (by kernel_rfl))
 f317:=Tryz.func278.trans (congrArg some (by kernel_rfl))
 f318:=Tryz.func279.trans (congrArg some (by kernel_rfl))
 f319:=Tryz.func280.trans (congrArg some (by kernel_rfl))
 f320:=Tryz.func281.trans (congrArg some (by kernel_rfl))
 f337:=Tryz.func286.trans (congrArg some (by kernel_rfl))
 f338:=Tryz.func287.trans (congrArg some (by kernel_rfl))
 t0:=Tryz.underlying0
 a0:=Tryz.isAgg0
 z0:=Tryz.sizeOf0
 v0:=Tryz.zeroValue0
 t2:=Tryz.underlying2
 a2:=Tryz.isAgg2
 z2:=Tryz.sizeOf2
 v2:=Tryz.zeroValue2
 t3:=Tryz.underlying3
 a3:=Tryz.isAgg3
 z3:=Tryz.sizeOf3
 v3:=Tryz.zeroValue3
 t4:=Tryz.underlying4
 a4:=Tryz.isAgg4
 z4:=Tryz.sizeOf4
 v4:=Tryz.zeroValue4
 t5:=Tryz.underlying5
 a5:=Tryz.isAgg5
 z5:=Tryz.sizeOf5
 v5:=Tryz.zeroValue5
 t9:=Tryz.underlying9
 a9:=Tryz.isAgg9
 z9:=Tryz.sizeOf9
 v9:=Tryz.zeroValue9
 t20:=Tryz.underlying20
 a20:=Tryz.isAgg20
 z20:=Tryz.sizeOf20
 v20:=Tryz.zeroValue20
 t37:=Tryz.underlying163
 a37:=Tryz.isAgg163
 z37:=Tryz.sizeOf163
 v37:=Tryz.zeroValue163
 t46:=Tryz.underlying286
 a46:=Tryz.isAgg286
 z46:=Tryz.sizeOf286
 v46:=Tryz.zeroValue286
 t51:=Tryz.underlying343
 a51:=Tryz.isAgg343
 z51:=Tryz.sizeOf343
 v51:=Tryz.zeroValue343
 t53:=Tryz.underlying345
 a53:=Tryz.isAgg345
 z53:=Tryz.sizeOf345
 v53:=Tryz.zeroValue345
 t171:=Tryz.underlying373
 a171:=Tryz.isAgg373
 z171:=Tryz.sizeOf373
 v171:=Tryz.zeroValue373
 t173:=Tryz.underlying375
 a173:=Tryz.isAgg375
 z173:=Tryz.sizeOf375
 v173:=Tryz.zeroValue375
 t212:=Tryz.underlying397
 a212:=Tryz.isAgg397
 z212:=Tryz.sizeOf397
 v212:=Tryz.zeroValue397
 t213:=Tryz.underlying398
 a213:=Tryz.isAgg398
 z213:=Tryz.sizeOf398
 t232:=Tryz.underlying412
 a232:=Tryz.isAgg412
 z232:=Tryz.sizeOf412
 v232:=Tryz.zeroValue412
 t233:=Tryz.underlying413
 a233:=Tryz.isAgg413
 z233:=Tryz.sizeOf413
 v233:=Tryz.zeroValue413
 g17:=by kernel_rfl
 g18:=by kernel_rfl
 g19:=by kernel_rfl
 i0:=by kernel_rfl
 i2:=by kernel_rfl
 i3:=by kernel_rfl
 i4:=by kernel_rfl
 i5:=by kernel_rfl
 i9:=by kernel_rfl
 i20:=by kernel_rfl
 i37:=by kernel_rfl
 i46:=by kernel_rfl
 i51:=by kernel_rfl
 i53:=by kernel_rfl
 i171:=by kernel_rfl
 i173:=by kernel_rfl
 i212:=by kernel_rfl
 i232:=by kernel_rfl
 i233:=by kernel_rfl
 m17:=by kernel_rfl
 m18:=by kernel_rfl
 m19:=by kernel_rfl }
open Go.RowKit Go.Sort Go.Lib in
theorem Tryz.strconv_Itoa(n:Int)(h0 : -9223372036854775808<=n)(h1:n<=9223372036854775807)(w:World)(Rs:Lib.TabIs Tryz.prog w "internal/strconv.uint64pow10" .u64 Lib.pow10Tab):
  Calls Tryz.prog 77 #[.int .i64 n] w fun e w'=>e=.returned (.string ⟨(Lib.itoa n).toArray⟩)/\∃k os,w'=grow (w.drewN k) os:=Any.strconv_Itoa Tryz.laysM171 n h0 h1 w Rs
def Tryz.laysC172_ren:Go.Shelf.Ren:=⟨fun|172=>196|244=>243|245=>244|247=>271|279=>272|280=>273|281=>274|282=>275|287=>283|316=>284|171=>77|205=>285|321=>288|322=>289|243=>151|246=>211|283=>255|284=>256|285=>257|286=>258|129=>237|317=>278|318=>279|319=>280|320=>281|337=>286|338=>287|n=>n,fun|9=>9|3=>3|75=>30|76=>264|4=>4|5=>5|167=>388|37=>163|0=>0|85=>389|2=>2|168=>391|53=>345|175=>403|46=>286|210=>406|127=>269|145=>411|143=>409|21=>21|171=>373|173=>375|212=>397|51=>343|20=>20|213=>398|232=>412|233=>413|80=>139|n=>n,fun|15=>11|16=>12|17=>9|18=>13|19=>14|n=>n⟩
theorem Tryz.laysC172:Go.Proofs.LaysC.n172 Tryz.prog Tryz.laysC172_ren:={
 mixed:=by kernel_rfl
 f129:=Tryz.func237.trans (congrArg some (by kernel_rfl))
 f171:=Tryz.func77.trans (congrArg some (by kernel_rfl))
 f172:=Tryz.func196.trans (congrArg some (by kernel_rfl))
 f205:=Tryz.func285.trans (congrArg some (by kernel_rfl))
 f243:=Tryz.func151.trans (congrArg some (by kernel_rfl))
 f244:=Tryz.func243.trans (congrArg some (by kernel_rfl))
 f245:=Tryz.func244.trans (congrArg some (by kernel_rfl))
 f246:=Tryz.func211.trans (congrArg some (by kernel_rfl))
 f247:=Tryz.func271.trans (congrArg some (by kernel_rfl))
 f279:=Tryz.func272.trans (congrArg some (by kernel_rfl))
 f280:=Tryz.func273.trans (congrArg some (by kernel_rfl))
 f281:=Tryz.func274.trans (congrArg some (by kernel_rfl))
 f282:=Tryz.func275.trans (congrArg some (by kernel_rfl))
 f283:=Tryz.func255.trans (congrArg some (by kernel_rfl))
 f284:=Tryz.func256.trans (congrArg some (by kernel_rfl))
 f285:=Tryz.func257.trans (congrArg some (by kernel_rfl))
 f286:=Tryz.func258.trans (congrArg some (by kernel_rfl))
 f287:=Tryz.func283.trans (congrArg some (by kernel_rfl))
 f316:=Tryz.func284.trans (congrArg some (by kernel_rfl))
 f317:=Tryz.func278.trans (congrArg some (by kernel_rfl))
 f318:=Tryz.func279.trans (congrArg some (by kernel_rfl))
 f319:=Tryz.func280.trans (congrArg some (by kernel_rfl))
 f320:=Tryz.func281.trans (congrArg some (by kernel_rfl))
 f321:=Tryz.func288.trans (congrArg some (by kernel_rfl))
 f322:=Tryz.func289.trans (congrArg some (by kernel_rfl))
 f337:=Tryz.func286.trans (congrArg some (by kernel_rfl))
 f338:=Tryz.func287.trans (congrArg some (by kernel_rfl))
 t0:=Tryz.underlying0
 a0:=Tryz.isAgg0
 z0:=Tryz.sizeOf0
 v0:=Tryz.zeroValue0
 t2:=Tryz.underlying2
 a2:=Tryz.isAgg2
 z2:=Tryz.sizeOf2
 v2:=Tryz.zeroValue2
 t3:=Tryz.underlying3
 a3:=Tryz.isAgg3
 z3:=Tryz.sizeOf3
 v3:=Tryz.zeroValue3
 t4:=Tryz.underlying4
 a4:=Tryz.isAgg4
 z4:=Tryz.sizeOf4
 v4:=Tryz.zeroValue4
 t5:=Tryz.underlying5
 a5:=Tryz.isAgg5
 z5:=Tryz.sizeOf5
 v5:=Tryz.zeroValue5
 t9:=Tryz.underlying9
 a9:=Tryz.isAgg9
 z9:=Tryz.sizeOf9
 v9:=Tryz.zeroValue9
 t20:=Tryz.underlying20
 a20:=Tryz.isAgg20
 z20:=Tryz.sizeOf20
 v20:=Tryz.zeroValue20
 t21:=Tryz.underlying21
 a21:=Tryz.isAgg21
 z21:=Tryz.sizeOf21
 v21:=Tryz.zeroValue21
 t37:=Tryz.underlying163
 a37:=Tryz.isAgg163
 z37:=Tryz.sizeOf163
 v37:=Tryz.zeroValue163
 t46:=Tryz.underlying286
 a46:=Tryz.isAgg286
 z46:=Tryz.sizeOf286
 v46:=Tryz.zeroValue286
 t51:=Tryz.underlying343
 a51:=Tryz.isAgg343
 z51:=Tryz.sizeOf343
 v51:=Tryz.zeroValue343
 t53:=Tryz.underlying345
 a53:=Tryz.isAgg345
 z53:=Tryz.sizeOf345
 v53:=Tryz.zeroValue345
 t75:=Tryz.underlying30
 a75:=Tryz.isAgg30
 z75:=Tryz.sizeOf30
 v75:=Tryz.zeroValue30
 t76:=Tryz.underlying264
 a76:=Tryz.isAgg264
 z76:=Tryz.sizeOf264
 v76:=Tryz.zeroValue264
 t85:=Tryz.underlying389
 a85:=Tryz.isAgg389
 z85:=Tryz.sizeOf389
 v85:=Tryz.zeroValue389
 t127:=Tryz.underlying269
 a127:=Tryz.isAgg269
 z127:=Tryz.sizeOf269
 v127:=Tryz.zeroValue269
 t143:=Tryz.underlying409
 a143:=Tryz.isAgg409
 z143:=Tryz.sizeOf409
 v143:=Tryz.zeroValue409
 t145:=Tryz.underlying411
 a145:=Tryz.isAgg411
 z145:=Tryz.sizeOf411
 v145:=Tryz.zeroValue411
 t167:=Tryz.underlying388
 a167:=Tryz.isAgg388
 z167:=Tryz.sizeOf388
 v167:=Tryz.zeroValue388
 t168:=Tryz.underlying391
 a168:=Tryz.isAgg391
 z168:=Tryz.sizeOf391
 v168:=Tryz.zeroValue391
 t171:=Tryz.underlying373
 a171:=Tryz.isAgg373
 z171:=Tryz.sizeOf373
 v171:=Tryz.zeroValue373
 t173:=Tryz.underlying375
 a173:=Tryz.isAgg375
 z173:=Tryz.sizeOf375
 v173:=Tryz.zeroValue375
 t175:=Tryz.underlying403
 a175:=Tryz.isAgg403
 z175:=Tryz.sizeOf403
 v175:=Tryz.zeroValue403
 t210:=Tryz.underlying406
 a210:=Tryz.isAgg406
 z210:=Tryz.sizeOf406
 v210:=Tryz.zeroValue406
 t212:=Tryz.underlying397
 a212:=Tryz.isAgg397
 z212:=Tryz.sizeOf397
 v212:=Tryz.zeroValue397
 t213:=Tryz.underlying398
 a213:=Tryz.isAgg398
 z213:=Tryz.sizeOf398
 t232:=Tryz.underlying412
 a232:=Tryz.isAgg412
 z232:=Tryz.sizeOf412
 v232:=Tryz.zeroValue412
 t233:=Tryz.underlying413
 a233:=Tryz.isAgg413
 z233:=Tryz.sizeOf413
 v233:=Tryz.zeroValue413
 g15:=by kernel_rfl
 g16:=by kernel_rfl
 g17:=by kernel_rfl
 g18:=by kernel_rfl
 g19:=by kernel_rfl
 t80:=Tryz.underlying139
 a80:=Tryz.isAgg139
 z80:=Tryz.sizeOf139
 v80:=Tryz.zeroValue139
 i0:=by kernel_rfl
 i2:=by kernel_rfl
 i3:=by kernel_rfl
 i4:=by kernel_rfl
 i5:=by kernel_rfl
 i9:=by kernel_rfl
 i20:=by kernel_rfl
 i21:=by kernel_rfl
 i37:=by kernel_rfl
 i46:=by kernel_rfl
 i51:=by kernel_rfl
 i53:=by kernel_rfl
 i75:=by kernel_rfl
 i76:=by kernel_rfl
 i80:=by kernel_rfl
 i85:=by kernel_rfl
 i127:=by kernel_rfl
 i143:=by kernel_rfl
 i145:=by kernel_rfl
 i167:=by kernel_rfl
 i168:=by kernel_rfl
 i171:=by kernel_rfl
 i173:=by kernel_rfl
 i175:=by kernel_rfl
 i210:=by kernel_rfl
 i212:=by kernel_rfl
 i232:=by kernel_rfl
 i233:=by kernel_rfl
 m15:=by kernel_rfl
 m16:=by kernel_rfl
 m17:=by kernel_rfl
 m18:=by kernel_rfl
 m19:=by kernel_rfl
 c0:=by kernel_rfl
 c2:=by kernel_rfl
 c3:=by kernel_rfl
 c4:=by kernel_rfl
 c5:=by kernel_rfl
 c9:=by kernel_rfl
 c20:=by kernel_rfl
 c21:=by kernel_rfl
 c37:=by kernel_rfl
 c46:=by kernel_rfl
 c51:=by kernel_rfl
 c53:=by kernel_rfl
 c75:=by kernel_rfl
 c76:=by kernel_rfl
 c80:=by kernel_rfl
 c85:=by kernel_rfl
 c127:=by kernel_rfl
 c143:=by kernel_rfl
 c145:=by kernel_rfl
 c167:=by kernel_rfl
 c168:=by kernel_rfl
 c171:=by kernel_rfl
 c173:=by kernel_rfl
 c175:=by kernel_rfl
 c210:=by kernel_rfl
 c212:=by kernel_rfl
 c213:=by kernel_rfl
 c232:=by kernel_rfl
 c233:=by kernel_rfl }
open Go.RowKit in
theorem Tryz.strconv_Atoi_ok(s:BA)(Wu:s.size<=9223372036854775806)(v:Int)(h:Lib.atoiAll s.data.toList=.ok v)(w:World):
  Calls Tryz.prog 196 #[.string s] w fun e w'=>e=.returned (.tuple #[.int .i64 v,.nilIface])/\(w'=w\/∃t,w'=Lib.bytesWorld w 5 t):=Any.strconv_Atoi_ok Tryz.laysC172 s Wu v h w
open Go.RowKit in
theorem Tryz.strconv_Atoi_syntax(s:BA)(sQ:s.size<=281474976710656)(h:Lib.atoiAll s.data.toList=Lib.atoiAll [])(ev:Value)(w:World)(hv:w.cell? ⟨11,0,none⟩=some ev)(Wv:ev=.nilIface\/∃te pe,ev=.iface te pe):
  Calls Tryz.prog 196 #[.string s] w fun e w'=>∃N,e=.returned (.tuple #[.int .i64 (0),.iface 391 (.pointer (some ⟨N,0,none⟩))])/\w.heap.size<=N/\w'.heap[N]? = some (.cells #[.string ⟨#[65,116,111,105]⟩,.string s,ev] 406 (0,0))/\Below w.heap.size w w':=Any.strconv_Atoi_syntax Tryz.laysC172 s sQ h ev w hv Wv
open Go.RowKit in
theorem Tryz.strconv_Atoi_range(s:BA)(sQ:s.size<=281474976710656)(h:Lib.atoiAll s.data.toList=.range)(ev:Value)(w:World)(hv:w.cell? ⟨12,0,none⟩=some ev)(Wv:ev=.nilIface\/∃te pe,ev=.iface te pe):
  Calls Tryz.prog 196 #[.string s] w fun e w'=>∃N,e=.returned (.tuple #[.int .i64 (Lib.atoiSat s.data.toList),.iface 391 (.pointer (some ⟨N,0,none⟩))])/\w.heap.size<=N/\w'.heap[N]? = some (.cells #[.string ⟨#[65,116,111,105]⟩,.string s,ev] 406 (0,0))/\Below w.heap.size w w':=Any.strconv_Atoi_range Tryz.laysC172 s sQ h ev w hv Wv
def Tryz.lays105_ren:Go.Shelf.Ren:=⟨fun|105=>149|212=>208|99=>209|165=>152|166=>148|170=>81|169=>82|263=>251|264=>252|206=>253|240=>207|241=>212|276=>250|277=>259|n=>n,fun|9=>9|3=>3|4=>4|20=>20|0=>0|46=>286|109=>320|5=>5|72=>165|76=>264|51=>343|146=>368|53=>345|148=>370|70=>162|37=>163|75=>30|127=>269|164=>306|80=>139|n=>n,fun|n=>n⟩
theorem Tryz.lays105:Go.Proofs.Lays.n105 Tryz.prog Tryz.lays105_ren:={
 mixed:=by kernel_rfl
 f99:=Tryz.func209.trans (congrArg some (by kernel_rfl))
 f105:=Tryz.func149.trans (congrArg some (by kernel_rfl))
 f165:=Tryz.func152.trans (congrArg some (by kernel_rfl))
 f166:=Tryz.func148.trans (congrArg some (by kernel_rfl))
 f169:=Tryz.func82.trans (congrArg some (by kernel_rfl))
 f170:=Tryz.func81.trans (congrArg some (by kernel_rfl))
 f206:=Tryz.func253.trans (congrArg some (by kernel_rfl))
 f212:=Tryz.func208.trans (congrArg some (by kernel_rfl))
 f240:=Tryz.func207.trans (congrArg some (by kernel_rfl))
 f241:=Tryz.func212.trans (congrArg some (by kernel_rfl))
 f263:=Tryz.func251.trans (congrArg some (by kernel_rfl))
 f264:=Tryz.func252.trans (congrArg some (by kernel_rfl))
 f276:=Tryz.func250.trans (congrArg some (by kernel_rfl))
 f277:=Tryz.func259.trans (congrArg some (by kernel_rfl))
 t0:=Tryz.underlying0
 a0:=Tryz.isAgg0
 z0:=Tryz.sizeOf0
 v0:=Tryz.zeroValue0
 t3:=Tryz.underlying3
 a3:=Tryz.isAgg3
 z3:=Tryz.sizeOf3
 v3:=Tryz.zeroValue3
 t4:=Tryz.underlying4
 a4:=Tryz.isAgg4
 z4:=Tryz.sizeOf4
 v4:=Tryz.zeroValue4
 t5:=Tryz.underlying5
 a5:=Tryz.isAgg5
 z5:=Tryz.sizeOf5
 v5:=Tryz.zeroValue5
 t9:=Tryz.underlying9
 a9:=Tryz.isAgg9
 z9:=Tryz.sizeOf9
 v9:=Tryz.zeroValue9
 t20:=Tryz.underlying20
 a20:=Tryz.isAgg20
 z20:=Tryz.sizeOf20
 v20:=Tryz.zeroValue20
 t37:=Tryz.underlying163
 a37:=Tryz.isAgg163
 z37:=Tryz.sizeOf163
 v37:=Tryz.zeroValue163
 t46:=Tryz.underlying286
 a46:=Tryz.isAgg286
 z46:=Tryz.sizeOf286
 v46:=Tryz.zeroValue286
 t51:=Tryz.underlying343
 a51:=Tryz.isAgg343
 z51:=Tryz.sizeOf343
 v51:=Tryz.zeroValue343
 t53:=Tryz.underlying345
 a53:=Tryz.isAgg345
 z53:=Tryz.sizeOf345
 v53:=Tryz.zeroValue345
 t70:=Tryz.underlying162
 a70:=Tryz.isAgg162
 z70:=Tryz.sizeOf162
 v70:=Tryz.zeroValue162
 t72:=Tryz.underlying165
 a72:=Tryz.isAgg165
 z72:=Tryz.sizeOf165
 v72:=Tryz.zeroValue165
 t75:=Tryz.underlying30
 a75:=Tryz.isAgg30
 z75:=Tryz.sizeOf30
 v75:=Tryz.zeroValue30
 t76:=Tryz.underlying264
 a76:=Tryz.isAgg264
 z76:=Tryz.sizeOf264
 v76:=Tryz.zeroValue264
 t109:=Tryz.underlying320
 a109:=Tryz.isAgg320
 z109:=Tryz.sizeOf320
 v109:=Tryz.zeroValue320
 t127:=Tryz.underlying269
 a127:=Tryz.isAgg269
 z127:=Tryz.sizeOf269
 v127:=Tryz.zeroValue269
 t146:=Tryz.underlying368
 a146:=Tryz.isAgg368
 z146:=Tryz.sizeOf368
 v146:=Tryz.zeroValue368
 t148:=Tryz.underlying370
 a148:=Tryz.isAgg370
 z148:=Tryz.sizeOf370
 v148:=Tryz.zeroValue370
 t164:=Tryz.underlying306
 a164:=Tryz.isAgg306
 z164:=Tryz.sizeOf306
 v164:=Tryz.zeroValue306 }
theorem Tryz.Builder_Extra_105:Builder.Extra Tryz.prog Tryz.lays105_ren:={
 sizeBuilder:=by kernel_rfl
 liesBuilder:=by kernel_rfl
 t5:=Tryz.underlying5
 a5:=Tryz.isAgg5
 z5:=Tryz.sizeOf5
 v5:=Tryz.zeroValue5
 infoByte:=by kernel_rfl
 cellsByte:=by kernel_rfl
 sizeByte:=by kernel_rfl
 neB5:=by decide }
open Go.RowKit Go.Lib in
theorem Tryz.strings_Repeat(s:BA)(c:Nat)(w:World)(hc:c<=9223372036854775807)(bZ:s.size * c<=140737488355328):
  Calls Tryz.prog 149 #[.string s,.int .i64 c] w fun e w'=>e=.returned (.string ⟨(Lib.repeatL s.data.toList c).toArray⟩)/\Below w.heap.size w w':=Any.strings_Repeat Tryz.lays105 Tryz.Builder_Extra_105 s c w hc bZ
def Tryz.laysNm216_ren:Go.Shelf.Ren:=⟨fun|16=>95|n=>n,fun|24=>23|9=>9|4=>4|n=>n,fun|n=>n⟩
theorem Tryz.laysNm216:Go.Proofs.Lays2.n16 Tryz.prog Tryz.laysNm216_ren:={
 mixed:=by kernel_rfl
 f16:=Tryz.func95.trans (congrArg some (by kernel_rfl))
 t4:=Tryz.underlying4
 a4:=Tryz.isAgg4
 z4:=Tryz.sizeOf4
 v4:=Tryz.zeroValue4
 t9:=Tryz.underlying9
 a9:=Tryz.isAgg9
 z9:=Tryz.sizeOf9
 v9:=Tryz.zeroValue9
 t24:=Tryz.underlying23
 a24:=Tryz.isAgg23
 z24:=Tryz.sizeOf23
 v24:=Tryz.zeroValue23
 i9:=by kernel_rfl }
open Go.RowKit Go.Lib in
theorem Tryz.slices_Clone_string(b off n c:Nat)(zs:List BA)(w:World)(hz:n<=zs.length)(i6:n * 16<=140737488355328)(hc:∀j,j<zs.length->w.cell? ⟨b,off+j,none⟩=some (.string (zs.getD j ByteArray.empty))):
  Calls Tryz.prog 95 #[.slice (some ⟨b,off,none⟩) n c] w fun e w'=>∃v',e=.returned v'/\w'.ownsRow w.heap.size 9 1 v' n ((zs.take n).map (Value.string))/\v'≠.slice none 0 0/\Below w.heap.size w w':=Any.slices_Clone_string Tryz.laysNm216 b off n c zs w hz i6 hc
open Go.RowKit Go.Lib in
theorem Tryz.slices_Clone_string_nil(n c:Nat)(w:World):
  Calls Tryz.prog 95 #[.slice none n c] w fun e w'=>e=.returned (.slice none 0 0)/\w'=w:=Any.slices_Clone_string_nil Tryz.laysNm216 n c w
open Go.RowKit Go.Lib in
theorem Tryz.slices_Clone_string_zero(a:Addr)(c:Nat)(w:World):
  Calls Tryz.prog 95 #[.slice (some a) 0 c] w fun e w'=>∃v',e=.returned v'/\w'.ownsRow w.heap.size 9 1 v' 0 []/\v'≠.slice none 0 0/\Below w.heap.size w w':=Any.slices_Clone_string_zero Tryz.laysNm216 a c w
def Tryz.lays194_ren:Go.Shelf.Ren:=⟨fun|194=>162|n=>n,fun|31=>23|9=>9|3=>3|4=>4|0=>0|n=>n,fun|n=>n⟩
theorem Tryz.lays194:Go.Proofs.Lays.n194 Tryz.prog Tryz.lays194_ren:={
 mixed:=by kernel_rfl
 f194:=Tryz.func162.trans (congrArg some (by kernel_rfl))
 t0:=Tryz.underlying0
 a0:=Tryz.isAgg0
 z0:=Tryz.sizeOf0
 v0:=Tryz.zeroValue0
 t3:=Tryz.underlying3
 a3:=Tryz.isAgg3
 z3:=Tryz.sizeOf3
 v3:=Tryz.zeroValue3
 t4:=Tryz.underlying4
 a4:=Tryz.isAgg4
 z4:=Tryz.sizeOf4
 v4:=Tryz.zeroValue4
 t9:=Tryz.underlying9
 a9:=Tryz.isAgg9
 z9:=Tryz.sizeOf9
 v9:=Tryz.zeroValue9
 t31:=Tryz.underlying23
 a31:=Tryz.isAgg23
 z31:=Tryz.sizeOf23
 v31:=Tryz.zeroValue23 }
open Go.RowKit Go.Lib Go.Sort in
theorem Tryz.slices_Compact_string(blk off cap:Nat)(zs:List (List UInt8))(w:World)(hH:Holds encStr w blk off zs.toArray)(lB:zs.length<=9223372036854775807)(Rr:zs.length<=cap):
  Calls Tryz.prog 162 #[.slice (some ⟨blk,off,none⟩) zs.length cap] w fun e w'=>e=.returned (.slice (some ⟨blk,off,none⟩) (Lib.compact zs).length cap)/\∃q,w'=putRow encStr (Sort.ahead w q) blk off (Lib.compact zs++List.replicate (zs.length - (Lib.compact zs).length) []).toArray:=Any.slices_Compact_string Tryz.lays194 blk off cap zs w hH lB Rr
open Go.RowKit Go.Lib Go.Sort in
theorem Tryz.slices_Compact_string_empty(a:Option Addr)(cap:Nat)(w:World):
  Calls Tryz.prog 162 #[.slice a 0 cap] w fun e w'=>e=.returned (.slice a 0 cap)/\w'=w:=Any.slices_Compact_string_empty Tryz.lays194 a cap w
end Go.Proofs
end
section
namespace Go.Abs
open Go Go.Proofs
theorem tq{lim:Nat->Nat}{w w':World}(h:RowKit.Below w.heap.size w w'):Fr (fun _=>False) lim w lim w':=
 ⟨h.os,h.tape,h.output,h.size,fun b hb=>⟨nR _,fun _o _=>World.cell?_of_block (w:=w) (h.block b hb)⟩,fun b hb _=>⟨h.block b hb,rfl⟩⟩
theorem ia {P:Program}{G:Glob}{f:FuncId}{fn:Func}{c:Code}{args:List PV}{p:PV}(hf:P.funcs[f]? = some fn) (hb:fn.body=some c) (ic:(fn.name== "runtime.NumGoroutine")=false)
  (h:∀(H:Nat->Option Value) (lim:Nat->Nat) (w:World) (vs:List Value),(∀i,H i=none)->GlobOk G H lim w->Vs H lim w args vs->
   Calls P f vs.toArray w fun e w'=>(∃v,e=.returned v/\∀lim',Fr (fun _=>False) lim w lim' w'->V H lim' w' p v)/\RowKit.Below w.heap.size w w'):Spec P G f args [] (.ret p) []:=by
 refine ⟨fun av w=>?_,nR _,fun H lim w vs bw eT eq=>?_⟩
 ·have aO:¬fn.name = "runtime.NumGoroutine":=by simpa using ic
  simp [callFunc,hf,aO,hb,program,Sem.run]
 have hn:∀i,H i=none:=fun i=>bw.dom i (Nat.zero_le _);refine Calls.mono (h H lim w vs hn eT eq) ?_;intro e w' ⟨⟨v,he,hv⟩,fA⟩;exact ⟨H,lim,⟨fun id r q=>(by simp at q),fun i j b _ q=>(absurd q (jr (hn i))),fun id _=>hn id⟩,(tq fA).weaken fun _ q=>q.elim,fun _ _ _ _=>rfl,fun b q=>.inl q,v,he,hv lim (tq fA)⟩
theorem bytesWorld_below(w:World)(e:TypeId)(s:BA):RowKit.Below w.heap.size w (Lib.bytesWorld w e s):=
 ⟨rfl,rfl,rfl,by rw [Lib.bytesWorld_size];omega,fun j hj=>Lib.bytesWorld_at_old w e s j hj⟩
def Cp(w:BA):PV:=match Lib.atoiAll w.data.toList with
 |.ok v=>.tup [.d (aD v),.d (.s .nilIface)]
 |.range=>.tup [.d (aD (Lib.atoiSat w.data.toList)),.ifc 391 .any]
 |_=>.tup [.d (aD 0),.ifc 391 .any]
theorem xC{G:Glob}{H:Nat->Option Value}{lim:Nat->Nat}{w:World}(h:GlobOk G H lim w){g:Nat}{v:Value}(hg:G g=some v)(h9:Nat.ble g 999=true:=by rfl)(hv:jg v=true:=by rfl):w.cell? ⟨g,0,none⟩=some v:=((h.holds g v h9 hg).one hv).1
theorem rI(t:Nat->TypeId)(u:Nat->Value)(w:BA)(hw:w.size<=281474976710656):Spec Tryz.prog (GV t u) 196 [.d (aW w)] [] (.ret (Cp w)) []:=by
 refine ia Tryz.func196 rfl (by rfl) ?_;intro H lim W vs hn eT eq;simp only [Vs,V,aW,VD] at eq;obtain ⟨_,_,rfl,rfl,rfl⟩:=eq
 unfold Cp
 cases h:Lib.atoiAll w.data.toList with
 |ok v=>
  refine (Tryz.strconv_Atoi_ok w (by omega) v h W).mono ?_;rintro e w' ⟨rfl,PB⟩;refine ⟨⟨_,rfl,fun lim' _=>?_⟩,?_⟩
  ·simp only [V,Vs,VD,aD]
   exact ⟨[.int .i64 v,.nilIface],rfl,_,_,rfl,rfl,_,_,rfl,rfl,rfl⟩
  rcases PB with rfl|⟨_,rfl⟩
  ·exact RowKit.Below.refl _ _
  exact bytesWorld_below _ _ _
 |range=>
  refine (Tryz.strconv_Atoi_range w hw h _ W (xC eT (show GV t u 12=some (.iface (t 12) (u 12)) from rfl)) (Or.inr ⟨_,_,rfl⟩)).mono ?_;rintro e w' ⟨N,rfl,_,_,hb⟩;refine ⟨⟨_,rfl,fun lim' _=>?_⟩,hb⟩;simp only [V,Vs,VD,aD];exact ⟨[.int .i64 _,.iface 391 (.pointer (some ⟨N,0,none⟩))],rfl,_,_,rfl,rfl,_,_,rfl,⟨_,rfl,trivial⟩,rfl⟩
 |_=>
  refine (Tryz.strconv_Atoi_syntax w hw h _ W (xC eT (show GV t u 11=some (.iface (t 11) (u 11)) from rfl)) (Or.inr ⟨_,_,rfl⟩)).mono ?_;rintro e w' ⟨N,rfl,_,_,hb⟩;refine ⟨⟨_,rfl,fun lim' _=>?_⟩,hb⟩;simp only [V,Vs,VD,aD];exact ⟨[.int .i64 0,.iface 391 (.pointer (some ⟨N,0,none⟩))],rfl,_,_,rfl,rfl,_,_,rfl,⟨_,rfl,trivial⟩,rfl⟩
theorem sB(G:Glob)(s:BA)(c:Nat)(hc:s.size * c<=140737488355328)(RU:c<=9223372036854775807):Spec Tryz.prog G 149 [.d (aW s),.d (aD c)] [] (.ret (.d (aW ⟨(Lib.repeatL s.data.toList c).toArray⟩))) []:=by
 refine ia Tryz.func149 rfl (by rfl) ?_;intro H lim W vs hn eT eq;simp only [Vs,V,aW,aD,VD] at eq;obtain ⟨_,_,rfl,rfl,_,_,rfl,rfl,rfl⟩:=eq;refine (Tryz.strings_Repeat s c W RU hc).mono ?_;rintro e w' ⟨rfl,hb⟩;exact ⟨⟨_,rfl,fun lim' _=>by simp only [V,aW,VD]⟩,hb⟩
end Go.Abs
end
section
namespace Go.Abs
open Go Go.Proofs
attribute [local irreducible] c8 dJ Sub Spec
section
inductive Ex where
 |mk (op:BA) (n:Int) (name:BA) (l:List Ex)
mutual
def Ex.cs:Ex->List Data
 |.mk op n name l=>[aW op,aD n,aW name,.sl 4 (bR l)]
def bR:List Ex->List (List Data)
 |[]=>[]
 |e::r=>e.cs::bR r
end
structure Ts where
 a:Ex
 rel:BA
 b:Ex
def Ts.cs(t:Ts):List Data:=t.a.cs++(aW t.rel::t.b.cs)
def kr(l:List Ts):List (List Data):=l.map Ts.cs
def eG(c:List (List Ts)):List (List Data):=c.map fun r=>[.sl 9 (kr r)]
inductive Sm where
 |mk (ap name proc:BA) (args:List Ex) (cond:List (List Ts)) (ao aK:List Sm)
mutual
def Sm.cs:Sm->List Data
 |.mk ap name proc args cond ao aK=>[aW ap,aW name,aW proc,.sl 4 (bR args),.sl 1 (eG cond),.sl 7 (bF ao),.sl 7 (bF aK)]
def bF:List Sm->List (List Data)
 |[]=>[]
 |e::r=>e.cs::bF r
end
structure Ar where
 name:BA
 size:Int
def Ar.cs(a:Ar):List Data:=[aW a.name,aD a.size]
structure Pc where
 name:BA
 params:List BA
 body:List Sm
 ret:Ex
def Pc.cs(p:Pc):List Data:=[aW p.name,.sl 1 (strs p.params),.sl 7 (bF p.body)]++p.ret.cs
structure Pg where
 vars:List BA
 arrays:List Ar
 procs:List Pc
 main:List Sm
def Pg.cs(p:Pg):List Data:=[.sl 1 (strs p.vars),.sl 2 (p.arrays.map Ar.cs),.sl 7 (p.procs.map Pc.cs),.sl 7 (bF p.main)]

structure PS (s:BA) where
 i:Nat
 w:BA
 ok:i+w.size<=s.size
inductive R (s:BA) (α:Type) where
 |ok (a:α) (p:PS s)
 |bad (p:PS s) (c:Nat)
 |out
def R.bind{s:BA}{α β:Type}(r:R s α)(f:α->PS s->R s β):R s β:=match r with
 |.ok a p=>f a p
 |.bad p c=>.bad p c
 |.out=>.out
def rd(s:BA)(p:PS s):Row:=xy 132 s p.i p.w
theorem xD(s:BA):∀(n i:Nat),i<=s.size->i<=ej s n i/\ej s n i<=s.size
 |0,i,h=>⟨nR _,h⟩
 |n+1,i,h=>by
  simp only [ej]
  split
  ·rename_i hd
   have:=oT hd
   split
   ·have:=xD s n (i+1) (by omega)
    exact ⟨by omega,this.2⟩
   exact ⟨nR _,h⟩
  exact ⟨nR _,h⟩
def nx(s:BA)(p:PS s):PS s where
 i:=ej s (s.size - (p.i+p.w.size)) (p.i+p.w.size)
 w:=(s.extract (ej s (s.size - (p.i+p.w.size)) (p.i+p.w.size)) s.size).extract 0 (jx (s.extract (ej s (s.size - (p.i+p.w.size)) (p.i+p.w.size)) s.size))
 ok:=by
  have:=xD s (s.size - (p.i+p.w.size)) _ p.ok;simp only [ByteArray.size_extract];omega
def eqW(w x:BA):Bool:=w.toList==x.toList
theorem dj{w x:BA}(h:(w.toList==x.toList)=true):w=x:=(MapKept.bytes_beq w x).1 (by rw [beq_toListBytes];exact h)
def bx(s x:BA)(p:PS s):R s Unit:=match eqW p.w x with
 |true=>.ok () (nx s p)
 |false=>.bad p 3
def fv(s:BA)(p:PS s):R s BA:=match aC p.w with
 |true=>.ok p.w (nx s p)
 |false=>.bad p 3
def eY(w:BA)(n:Int)(err:Bool):Bool:=(eqW w ⟨#[]⟩||!isD (byteAt w 0))||(decide ((w.size:Int)>1)&&(byteAt w 0==48))||err||decide (n>1099511627776)
def ln(w:BA):Option Int:=match Lib.atoiAll w.data.toList with
 |.ok v=>match eY w v false with
  |true=>none
  |false=>some v
 |_=>none
def co(s:BA)(p:PS s):R s Int:=match ln p.w with
 |some n=>.ok n (nx s p)
 |none=>.bad p 3
def mG(s:BA)(d:Int)(p:PS s):R s Int:=match decide (d≥12) with
 |true=>.bad p 0
 |false=>.ok (IntKind.i64.wrap (d+1)) p
section
variable (t:Nat->TypeId) (u:Nat->Value)
def Ww{s:BA}{α:Type}(enc:α->PV):R s α->Out
 |.ok a _=>.ret (enc a)
 |.bad _ _=>.pan (.ifc 128 (.box 1 0))
 |.out=>.ret (.tup [])
def jF{s:BA}{α:Type}:R s α->List Row
 |.ok _ p=>[rd s p]
 |.bad p c=>[rd s p,TV p.i (t c) (u c)]
 |.out=>[]
def jl{α:Type}(f:FuncId)(args:List PV)(s:BA)(p:PS s)(enc:α->PV)(r:R s α):Prop:=
 r≠.out->Spec Tryz.prog (GV t u) f args [rd s p] (Ww enc r) (jF t u r)
end
def KA:Unit->PV:=fun _=>.tup []
def encS:BA->PV:=fun w=>.d (aW w)
def encI:Int->PV:=fun n=>.d (aD n)
def pN:Ex->PV:=fun e=>.d (.agg e.cs)
theorem bX(G:Glob)(s:BA)(p:PS s)(hs:s.size<4611686018427387904):Spec Tryz.prog G 55 [.box 0 0] [rd s p] (.ret (.tup [])) [rd s (nx s p)]:=rH G 132 s p.w p.i hs p.ok
section
variable (t:Nat->TypeId) (u:Nat->Value)
theorem bf(s x:BA)(p:PS s)(hs:s.size<4611686018427387904):jl t u 136 [.box 0 0,.d (aW x)] s p KA (bx s x p):=by
 intro _
 unfold bx eqW
 cases h:(p.w.toList==x.toList) with
 |true=>
  have e:p.w=x:=dj h;subst e;exact Nh (GV t u) 132 s p.w p.i hs p.ok
 |false=>exact Kw t u 132 s p.w x p.i h
end
end
section
section
variable (t:Nat->TypeId) (u:Nat->Value)
theorem kV(s:BA)(p:PS s)(d:Int):jl t u 277 [.box 0 0,.d (aD d)] s p encI (mG s d p):=by
 intro aO;obtain ⟨r,hG⟩:∃r,mG s d p=r:=⟨_,rfl⟩;rw [hG] at aO ⊢
 refine aZ b8 (N:=12) Tryz.func277 rfl (by rfl) ((by cases r <;> simp [jF] at aO ⊢)) rfl ?_
 refine rz [0,1] ?_;refine aa (rz [0,1,6] ?_);refine cQ rfl (fun h1=>?_) fun h1=>?_
 ·refine rG fun J O=>pS [0] (ci (GV t u) 132 s _ _ (t 0) (u 0)) ?_;refine J _ _ ?_;simp only [mG,h1] at hG;subst hG;exact lP [0,1]
 refine ac (rz [4] ?_);refine ae ?_;simp only [mG,h1] at hG;subst hG;exact lG [0] [encI _]
theorem ep(s:BA)(p:PS s)(hs:s.size<4611686018427387904):jl t u 135 [.box 0 0] s p encS (fv s p):=by
 intro aO;obtain ⟨r,hG⟩:∃r,fv s p=r:=⟨_,rfl⟩;rw [hG] at aO ⊢
 refine aZ b8 (N:=17) Tryz.func135 rfl (by rfl) ((by cases r <;> simp [jF] at aO ⊢)) rfl ?_
 refine rz [0] ?_;refine rz [0,3] ?_;refine aa (rS fun J O=>?_);refine aR [] rfl rfl rfl (mF _ p.w (by have:=p.ok;omega)) rfl rfl rfl rfl ?_;refine O _ (aM [0,3,10] ?_);clear O J;refine cQ rfl (fun h1=>?_) fun h1=>?_
 ·have h1:=Bool.not_eq_true' _▸h1
  refine rG fun J O=>pS [0] (ci (GV t u) 132 s _ _ (t 3) (u 3)) ?_;refine J _ _ ?_;simp only [fv,h1] at hG;subst hG;exact lP [0,1]
 have h1:=Bool.not_eq_false' _▸h1;refine ac (rS fun J O=>aS [0] (bX _ s p hs) ?_);refine O _ (aM [3] ?_);clear O J;refine rz [2] ?_;refine ae ?_;simp only [fv,h1] at hG;subst hG;exact lG [0] [encS _]
theorem fw(G:Glob)(s x:BA)(p:PS s)(hs:s.size<4611686018427387904)(h:eqW p.w x=true):Spec Tryz.prog G 134 [.box 0 0,.d (aW x)] [rd s p] (.ret (.d (.s (.bool true)))) [rd s (nx s p)]:=by
 have e:p.w=x:=dj h;subst e;exact Ni G 132 s p.w p.i hs p.ok
theorem gC(G:Glob)(s x:BA)(p:PS s)(h:eqW p.w x=false):Spec Tryz.prog G 134 [.box 0 0,.d (aW x)] [rd s p] (.ret (.d (.s (.bool false)))) [rd s p]:=Ro G 132 s p.w x p.i h
theorem qy{w:BA}(h:(w.toList==(⟨#[]⟩:BA).toList)=false):0<w.size:=by
 rcases Nat.eq_zero_or_pos w.size with h0|h0
 ·have:w=⟨#[]⟩:=ByteArray.size_eq_zero_iff.1 h0
  rw [this] at h
  simp at h
 exact h0
theorem Eb(s:BA)(p:PS s)(hs:s.size<=4000)(v:Int)(ha:Lib.atoiAll p.w.data.toList=.ok v):jl t u 137 [.box 0 0] s p encI (co s p):=by
 intro aO;obtain ⟨r,hG⟩:∃r,co s p=r:=⟨_,rfl⟩;rw [hG] at aO ⊢
 refine aZ b8 (N:=57) Tryz.func137 rfl (by rfl) ((by cases r <;> simp [jF] at aO ⊢)) rfl ?_
 refine rz [0] ?_;refine rS fun J O=>?_;refine aR [] rfl rfl rfl (show Spec _ _ _ _ _ (.ret (.tup [.d (aD v),.d (.s .nilIface)])) _ from by have:=rI t u p.w (by have:=p.ok;omega);unfold Cp at this;rw [ha] at this;exact this) rfl rfl rfl rfl ?_;refine O _ (aM [0,3,4] ?_);clear O J;refine aa (rS fun J O=>?_);refine ab (fun h1=>?_) (fun h1=>?_)
 ·refine O _ (aM [0,3,50] ?_);clear O J;refine aj rfl (rG fun J O=>pS [0] (ci (GV t u) 132 s _ _ (t 3) (u 3)) ?_);refine J _ _ ?_;simp only [co,ln,eY,ha,eqW,isD,bz,h1] at hG;subst hG;exact lP [0,1]
 have sP:=qy h1;refine oN (oN ?_);refine aS [] (hJ _ _) ?_;refine ab (fun h2=>?_) (fun h2=>?_)
 ·refine O _ (aM [0,3,50] ?_);clear O J;refine aj rfl (rG fun J O=>pS [0] (ci (GV t u) 132 s _ _ (t 3) (u 3)) ?_);refine J _ _ ?_;simp only [co,ln,eY,ha,eqW,isD,bz,h1,h2] at hG;subst hG;exact lP [0,1]
 refine ab (fun h3=>?_) (fun h3=>?_)
 ·refine oN (oN ?_)
  refine ab (fun h4=>?_) (fun h4=>?_)
  ·refine O _ (aM [0,3,50] ?_);clear O J;refine aj rfl (rG fun J O=>pS [0] (ci (GV t u) 132 s _ _ (t 3) (u 3)) ?_);refine J _ _ ?_;simp only [co,ln,eY,ha,eqW,isD,bz,h1,h2,h3,h4] at hG;subst hG;exact lP [0,1]
  refine O _ (aM [0,3,50] ?_);clear O J;refine cQ rfl (fun h5=>?_) fun h5=>?_
  ·refine rG fun J O=>pS [0] (ci (GV t u) 132 s _ _ (t 3) (u 3)) ?_;refine J _ _ ?_;simp only [co,ln,eY,ha,eqW,isD,bz,h1,h2,h3,h4,h5] at hG;subst hG;exact lP [0,1]
  refine ac (rS fun J O=>sH ?_)
  have hs:s.size<4611686018427387904:=by omega
  refine aS [0] (bX _ s p hs) ?_;refine O _ (aM [3] ?_);clear O J;refine rz [2] ?_;refine ae ?_;simp only [co,ln,eY,ha,eqW,isD,bz,h1,h2,h3,h4,h5] at hG;subst hG;exact lG [0] [encI _]
 refine O _ (aM [0,3,50] ?_);clear O J;refine cQ rfl (fun h4=>?_) fun h4=>?_
 ·refine rG fun J O=>pS [0] (ci (GV t u) 132 s _ _ (t 3) (u 3)) ?_;refine J _ _ ?_;simp only [co,ln,eY,ha,eqW,isD,bz,h1,h2,h3,h4] at hG;subst hG;exact lP [0,1]
 refine ac (rS fun J O=>sH ?_)
 have hs:s.size<4611686018427387904:=by omega
 refine aS [0] (bX _ s p hs) ?_;refine O _ (aM [3] ?_);clear O J;refine rz [2] ?_;refine ae ?_;simp only [co,ln,eY,ha,eqW,isD,bz,h1,h2,h3,h4] at hG;subst hG;exact lG [0] [encI _]
theorem Cq(s:BA)(p:PS s)(hs:s.size<=4000)(ha:Lib.atoiAll p.w.data.toList=Lib.atoiAll []):jl t u 137 [.box 0 0] s p encI (co s p):=by
 cases hz:Lib.atoiAll p.w.data.toList with
 |ok v=>rw [hz] at ha;cases ha
 |range=>rw [hz] at ha;cases ha
 |_=>
  rw [hz] at ha;have ha:=hz;intro aO;obtain ⟨r,hG⟩:∃r,co s p=r:=⟨_,rfl⟩;rw [hG] at aO ⊢
  refine aZ b8 (N:=57) Tryz.func137 rfl (by rfl) ((by cases r <;> simp [jF] at aO ⊢)) rfl ?_
  refine rz [0] ?_;refine rS fun J O=>?_;refine aR [] rfl rfl rfl (show Spec _ _ _ _ _ (.ret (.tup [.d (aD 0),.ifc 391 .any])) _ from by have:=rI t u p.w (by have:=p.ok;omega);unfold Cp at this;rw [ha] at this;exact this) rfl rfl rfl rfl ?_;refine O _ (aM [0,3,4] ?_);clear O J;refine aa (rS fun J O=>?_);refine ab (fun h1=>?_) (fun h1=>?_)
  ·refine O _ (aM [0,3,50] ?_);clear O J;refine aj rfl (rG fun J O=>pS [0] (ci (GV t u) 132 s _ _ (t 3) (u 3)) ?_);refine J _ _ ?_;simp only [co,ln,ha] at hG;subst hG;exact lP [0,1]
  have sP:=qy h1;refine oN (oN ?_);refine aS [] (hJ _ _) ?_;refine ab (fun h2=>?_) (fun h2=>?_)
  ·refine O _ (aM [0,3,50] ?_);clear O J;refine aj rfl (rG fun J O=>pS [0] (ci (GV t u) 132 s _ _ (t 3) (u 3)) ?_);refine J _ _ ?_;simp only [co,ln,ha] at hG;subst hG;exact lP [0,1]
  refine ab (fun h3=>?_) (fun h3=>?_)
  ·refine oN (oN ?_)
   refine ab (fun h4=>?_) (fun h4=>?_)
   ·refine O _ (aM [0,3,50] ?_);clear O J;refine aj rfl (rG fun J O=>pS [0] (ci (GV t u) 132 s _ _ (t 3) (u 3)) ?_);refine J _ _ ?_;simp only [co,ln,ha] at hG;subst hG;exact lP [0,1]
   refine O _ (aM [0,3,50] ?_);clear O J;refine aj rfl (rG fun J O=>pS [0] (ci (GV t u) 132 s _ _ (t 3) (u 3)) ?_);refine J _ _ ?_;simp only [co,ln,ha] at hG;subst hG;exact lP [0,1]
  refine O _ (aM [0,3,50] ?_);clear O J;refine aj rfl (rG fun J O=>pS [0] (ci (GV t u) 132 s _ _ (t 3) (u 3)) ?_);refine J _ _ ?_;simp only [co,ln,ha] at hG;subst hG;exact lP [0,1]
theorem Cr(s:BA)(p:PS s)(hs:s.size<=4000)(ha:Lib.atoiAll p.w.data.toList=.range):jl t u 137 [.box 0 0] s p encI (co s p):=by
 intro aO;obtain ⟨r,hG⟩:∃r,co s p=r:=⟨_,rfl⟩;rw [hG] at aO ⊢
 refine aZ b8 (N:=57) Tryz.func137 rfl (by rfl) ((by cases r <;> simp [jF] at aO ⊢)) rfl ?_
 refine rz [0] ?_;refine rS fun J O=>?_;refine aR [] rfl rfl rfl (show Spec _ _ _ _ _ (.ret (.tup [.d (aD (Lib.atoiSat p.w.data.toList)),.ifc 391 .any])) _ from by have:=rI t u p.w (by have:=p.ok;omega);unfold Cp at this;rw [ha] at this;exact this) rfl rfl rfl rfl ?_;refine O _ (aM [0,3,4] ?_);clear O J;refine aa (rS fun J O=>?_);refine ab (fun h1=>?_) (fun h1=>?_)
 ·refine O _ (aM [0,3,50] ?_);clear O J;refine aj rfl (rG fun J O=>pS [0] (ci (GV t u) 132 s _ _ (t 3) (u 3)) ?_);refine J _ _ ?_;simp only [co,ln,ha] at hG;subst hG;exact lP [0,1]
 have sP:=qy h1;refine oN (oN ?_);refine aS [] (hJ _ _) ?_;refine ab (fun h2=>?_) (fun h2=>?_)
 ·refine O _ (aM [0,3,50] ?_);clear O J;refine aj rfl (rG fun J O=>pS [0] (ci (GV t u) 132 s _ _ (t 3) (u 3)) ?_);refine J _ _ ?_;simp only [co,ln,ha] at hG;subst hG;exact lP [0,1]
 refine ab (fun h3=>?_) (fun h3=>?_)
 ·refine oN (oN ?_)
  refine ab (fun h4=>?_) (fun h4=>?_)
  ·refine O _ (aM [0,3,50] ?_);clear O J;refine aj rfl (rG fun J O=>pS [0] (ci (GV t u) 132 s _ _ (t 3) (u 3)) ?_);refine J _ _ ?_;simp only [co,ln,ha] at hG;subst hG;exact lP [0,1]
  refine O _ (aM [0,3,50] ?_);clear O J;refine aj rfl (rG fun J O=>pS [0] (ci (GV t u) 132 s _ _ (t 3) (u 3)) ?_);refine J _ _ ?_;simp only [co,ln,ha] at hG;subst hG;exact lP [0,1]
 refine O _ (aM [0,3,50] ?_);clear O J;refine aj rfl (rG fun J O=>pS [0] (ci (GV t u) 132 s _ _ (t 3) (u 3)) ?_);refine J _ _ ?_;simp only [co,ln,ha] at hG;subst hG;exact lP [0,1]
theorem qz(s:BA)(p:PS s)(hs:s.size<=4000):jl t u 137 [.box 0 0] s p encI (co s p):=by
 cases ha:Lib.atoiAll p.w.data.toList with
 |ok v=>exact Eb t u s p hs v ha
 |range=>exact Cr t u s p hs ha
 |_=>exact Cq t u s p hs ha
end
end
section
mutual
def factorF(s:BA):Nat->Int->PS s->R s Ex
 |0,_,_=>.out
 |n+1,d,p=>match eqW p.w ⟨#[45]⟩ with
  |true=>(mG s d p).bind fun d1 q=>(factorF s n d1 (nx s q)).bind fun e q=>.ok (.mk ⟨#[110,101,103]⟩ 0 ⟨#[]⟩ [e]) q
  |false=>match eqW p.w ⟨#[40]⟩ with
   |true=>(mG s d p).bind fun d1 q=>(termF s n d1 (nx s q)).bind fun e q=>(bx s ⟨#[41]⟩ q).bind fun _ q=>.ok e q
   |false=>match (!eqW p.w ⟨#[]⟩&&isD (byteAt p.w 0)) with
    |true=>(co s p).bind fun k q=>.ok (.mk ⟨#[110,117,109]⟩ k ⟨#[]⟩ []) q
    |false=>(fv s p).bind fun m q=>match eqW q.w ⟨#[91]⟩ with
     |true=>(mG s d q).bind fun d1 q=>(termF s n d1 (nx s q)).bind fun e q=>(bx s ⟨#[93]⟩ q).bind fun _ q=>.ok (.mk ⟨#[97,116]⟩ 0 m [e]) q
     |false=>.ok (.mk ⟨#[118,97,114]⟩ 0 m []) q
def productF(s:BA):Nat->Int->PS s->R s Ex
 |0,_,_=>.out
 |n+1,d,p=>(factorF s n d p).bind fun e q=>jb s n d e q
def jb(s:BA):Nat->Int->Ex->PS s->R s Ex
 |0,_,_,_=>.out
 |n+1,d,e,p=>match (eqW p.w ⟨#[42]⟩||eqW p.w ⟨#[47]⟩||eqW p.w ⟨#[37]⟩) with
  |true=>(factorF s n d (nx s p)).bind fun f q=>jb s n d (.mk p.w 0 ⟨#[]⟩ [e,f]) q
  |false=>.ok e p
def termF(s:BA):Nat->Int->PS s->R s Ex
 |0,_,_=>.out
 |n+1,d,p=>(productF s n d p).bind fun e q=>lg s n d e q
def lg(s:BA):Nat->Int->Ex->PS s->R s Ex
 |0,_,_,_=>.out
 |n+1,d,e,p=>match (eqW p.w ⟨#[43]⟩||eqW p.w ⟨#[45]⟩) with
  |true=>(productF s n d (nx s p)).bind fun f q=>lg s n d (.mk p.w 0 ⟨#[]⟩ [e,f]) q
  |false=>.ok e p
end
def zE:List PV:=[.d (aW ⟨#[]⟩),.d (aD 0),.d (aW ⟨#[]⟩),.d (.s (.slice none 0 0))]
def cE(op:BA)(n:Int)(m:BA)(l:List Ex):List PV:=[.d (aW op),.d (aD n),.d (aW m),.d (.sl 4 (bR l))]
section
variable (t:Nat->TypeId) (u:Nat->Value)
def FV(s:BA)(n:Nat):Prop:=∀(d:Int) (p:PS s),jl t u 246 [.box 0 0,.d (aD d)] s p pN (factorF s n d p)
def Ec(s:BA)(n:Nat):Prop:=∀(d:Int) (p:PS s),jl t u 198 [.box 0 0,.d (aD d)] s p pN (productF s n d p)
def zI(s:BA)(n:Nat):Prop:=∀(d:Int) (p:PS s),jl t u 140 [.box 0 0,.d (aD d)] s p pN (termF s n d p)
def Ed:Plan:=(.take 0 (.load 1 (.take 2 (.take 3 (.one 4 (.one 5 (.one 6 (.one 7 .done))))))))
theorem Hh(s:BA)(hs:s.size<4611686018427387904)(n:Nat)(ih:∀m,m<=n->FV t u s m):Ec t u s (n+1):=by
 intro d p aO;obtain ⟨r,hG⟩:∃r,productF s (n+1) d p=r:=⟨_,rfl⟩;rw [hG] at aO ⊢
 refine aZ b8 (N:=43) Tryz.func198 rfl (by rfl) ((by cases r <;> simp [jF] at aO ⊢)) rfl ?_
 refine rz [0,1,4] ?_;refine rS fun J O=>sH ?_;have bB:=ih n (by omega) d p
 cases aF:factorF s n d p with
 |out=>
  simp only [productF,R.bind,aF] at hG;cases aO hG.symm
 |bad q1 c1=>
  rw [aF] at bB;refine pS [0] (bB nofun) ?_;refine J _ _ ?_;simp only [productF,R.bind,aF] at hG;subst hG;exact lP [0,2]
 |ok a1 q1=>
  obtain ⟨o1,n1,m1,l1⟩:=a1;rw [aF] at bB;refine aS [0] (bB nofun) ?_;refine O _ (aM [0,1,4,5] ?_);clear O J;refine aa (af ?_);simp only [productF,R.bind,aF] at hG;clear aF bB;refine aB (fun k Y=>∃o1 n1 m1 l1 q,k<=n/\jb s k d (.mk o1 n1 m1 l1) q=r/\Y=⟨[(0,.box 0 0),(1,.d (aD d)),(4,.box 1 0),(5,.box 2 0)],[rd s q,.box 157 zE,.box 157 (cE o1 n1 m1 l1)]⟩) (n) (⟨_,_,_,_,_,nR _,hG,rfl⟩) ?_;clear hG q1 o1 n1 m1 l1;rintro k Y ⟨o1,n1,m1,l1,q,hk,hG,rfl⟩
  cases k with
  |zero=>simp only [jb] at hG;cases aO hG.symm
  |succ m=>
   refine aa (rS fun J O=>?_);refine ab (fun h1=>?_) (fun h1=>?_)
   ·refine O _ (aM [0,1,4,5,28] ?_);clear O J;refine aj rfl (ac ?_);refine af (rz [0,1,4,5,6] ?_);refine rS fun J O=>?_
    refine aS [0] (bX _ s q hs) ?_;refine O _ (aM [0,1,4,5,6] ?_);clear O J;refine (dW Ed [7] (fun i=>Nat.beq i 2) (by kernel_rfl) fun J O=>?_)
    refine sH ?_
    have a_:=ih m (by omega) d (nx s q)
    cases aJ:factorF s m d (nx s q) with
    |out=>
     simp only [jb,eqW,bz,R.bind,h1,aJ] at hG;cases aO hG.symm
    |bad q2 c2=>
     rw [aJ] at a_;refine pS [0] (a_ nofun) ?_;refine J _ _ ?_;simp only [jb,eqW,bz,R.bind,h1,aJ] at hG;subst hG;exact lP [0,3]
    |ok a2 q2=>
     obtain ⟨o2,n2,m2,l2⟩:=a2;rw [aJ] at a_;refine aS [0] (a_ nofun) ?_;refine O _ ?_;clear O J;simp only [jb,eqW,bz,R.bind,h1,aJ] at hG;exact ⟨m,nS m,_,ak (slots:=[0,1,4,5]) rfl rfl,_,_,_,_,_,by omega,hG,rfl⟩
   refine ab (fun h2=>?_) (fun h2=>?_)
   ·refine O _ (aM [0,1,4,5,28] ?_);clear O J;refine aj rfl (ac ?_);refine af (rz [0,1,4,5,6] ?_);refine rS fun J O=>?_
    refine aS [0] (bX _ s q hs) ?_;refine O _ (aM [0,1,4,5,6] ?_);clear O J;refine (dW Ed [7] (fun i=>Nat.beq i 2) (by kernel_rfl) fun J O=>?_)
    refine sH ?_
    have a_:=ih m (by omega) d (nx s q)
    cases aJ:factorF s m d (nx s q) with
    |out=>
     simp only [jb,eqW,bz,R.bind,h1,h2,aJ] at hG;cases aO hG.symm
    |bad q2 c2=>
     rw [aJ] at a_;refine pS [0] (a_ nofun) ?_;refine J _ _ ?_;simp only [jb,eqW,bz,R.bind,h1,h2,aJ] at hG;subst hG;exact lP [0,3]
    |ok a2 q2=>
     obtain ⟨o2,n2,m2,l2⟩:=a2;rw [aJ] at a_;refine aS [0] (a_ nofun) ?_;refine O _ ?_;clear O J;simp only [jb,eqW,bz,R.bind,h1,h2,aJ] at hG;exact ⟨m,nS m,_,ak (slots:=[0,1,4,5]) rfl rfl,_,_,_,_,_,by omega,hG,rfl⟩
   refine O _ (aM [0,1,4,5,28] ?_);clear O J;refine cQ rfl (fun h3=>?_) fun h3=>?_
   ·refine ac (af ?_);refine rz [0,1,4,5,6] ?_;refine rS fun J O=>?_
    refine aS [0] (bX _ s q hs) ?_;refine O _ (aM [0,1,4,5,6] ?_);clear O J;refine (dW Ed [7] (fun i=>Nat.beq i 2) (by kernel_rfl) fun J O=>?_)
    refine sH ?_
    have a_:=ih m (by omega) d (nx s q)
    cases aJ:factorF s m d (nx s q) with
    |out=>
     simp only [jb,eqW,bz,R.bind,h1,h2,h3,aJ] at hG;cases aO hG.symm
    |bad q2 c2=>
     rw [aJ] at a_;refine pS [0] (a_ nofun) ?_;refine J _ _ ?_;simp only [jb,eqW,bz,R.bind,h1,h2,h3,aJ] at hG;subst hG;exact lP [0,3]
    |ok a2 q2=>
     obtain ⟨o2,n2,m2,l2⟩:=a2;rw [aJ] at a_;refine aS [0] (a_ nofun) ?_;refine O _ ?_;clear O J;simp only [jb,eqW,bz,R.bind,h1,h2,h3,aJ] at hG;exact ⟨m,nS m,_,ak (slots:=[0,1,4,5]) rfl rfl,_,_,_,_,_,by omega,hG,rfl⟩
   refine aA ?_;refine rz [4] ?_;refine ae ?_;simp only [jb,eqW,bz,h1,h2,h3] at hG;subst hG;exact lG [0] [pN _]
def KC:Plan:=(.take 0 (.load 1 (.take 2 (.take 3 (.one 4 (.one 5 (.one 6 (.one 7 .done))))))))
theorem Hi(s:BA)(hs:s.size<4611686018427387904)(n:Nat)(ih:∀m,m<=n->Ec t u s m):zI t u s (n+1):=by
 intro d p aO;obtain ⟨r,hG⟩:∃r,termF s (n+1) d p=r:=⟨_,rfl⟩;rw [hG] at aO ⊢
 refine aZ b8 (N:=36) Tryz.func140 rfl (by rfl) ((by cases r <;> simp [jF] at aO ⊢)) rfl ?_
 refine rz [0,1,4] ?_;refine rS fun J O=>sH ?_;have bB:=ih n (by omega) d p
 cases aF:productF s n d p with
 |out=>
  simp only [termF,R.bind,aF] at hG;cases aO hG.symm
 |bad q1 c1=>
  rw [aF] at bB;refine pS [0] (bB nofun) ?_;refine J _ _ ?_;simp only [termF,R.bind,aF] at hG;subst hG;exact lP [0,2]
 |ok a1 q1=>
  obtain ⟨o1,n1,m1,l1⟩:=a1;rw [aF] at bB;refine aS [0] (bB nofun) ?_;refine O _ (aM [0,1,4,5] ?_);clear O J;refine aa (af ?_);simp only [termF,R.bind,aF] at hG;clear aF bB;refine aB (fun k Y=>∃o1 n1 m1 l1 q,k<=n/\lg s k d (.mk o1 n1 m1 l1) q=r/\Y=⟨[(0,.box 0 0),(1,.d (aD d)),(4,.box 1 0),(5,.box 2 0)],[rd s q,.box 157 zE,.box 157 (cE o1 n1 m1 l1)]⟩) (n) (⟨_,_,_,_,_,nR _,hG,rfl⟩) ?_;clear hG q1 o1 n1 m1 l1;rintro k Y ⟨o1,n1,m1,l1,q,hk,hG,rfl⟩
  cases k with
  |zero=>simp only [lg] at hG;cases aO hG.symm
  |succ m=>
   refine aa (rS fun J O=>?_);refine ab (fun h1=>?_) (fun h1=>?_)
   ·refine O _ (aM [0,1,4,5,21] ?_);clear O J;refine aj rfl (ac ?_);refine af (rz [0,1,4,5,6] ?_);refine rS fun J O=>?_
    refine aS [0] (bX _ s q hs) ?_;refine O _ (aM [0,1,4,5,6] ?_);clear O J;refine (dW KC [7] (fun i=>Nat.beq i 2) (by kernel_rfl) fun J O=>?_)
    refine sH ?_
    have a_:=ih m (by omega) d (nx s q)
    cases aJ:productF s m d (nx s q) with
    |out=>
     simp only [lg,eqW,bz,R.bind,h1,aJ] at hG;cases aO hG.symm
    |bad q2 c2=>
     rw [aJ] at a_;refine pS [0] (a_ nofun) ?_;refine J _ _ ?_;simp only [lg,eqW,bz,R.bind,h1,aJ] at hG;subst hG;exact lP [0,3]
    |ok a2 q2=>
     obtain ⟨o2,n2,m2,l2⟩:=a2;rw [aJ] at a_;refine aS [0] (a_ nofun) ?_;refine O _ ?_;clear O J;simp only [lg,eqW,bz,R.bind,h1,aJ] at hG;exact ⟨m,nS m,_,ak (slots:=[0,1,4,5]) rfl rfl,_,_,_,_,_,by omega,hG,rfl⟩
   refine O _ (aM [0,1,4,5,21] ?_);clear O J;refine cQ rfl (fun h2=>?_) fun h2=>?_
   ·refine ac (af ?_);refine rz [0,1,4,5,6] ?_;refine rS fun J O=>?_
    refine aS [0] (bX _ s q hs) ?_;refine O _ (aM [0,1,4,5,6] ?_);clear O J;refine (dW KC [7] (fun i=>Nat.beq i 2) (by kernel_rfl) fun J O=>?_)
    refine sH ?_
    have a_:=ih m (by omega) d (nx s q)
    cases aJ:productF s m d (nx s q) with
    |out=>
     simp only [lg,eqW,bz,R.bind,h1,h2,aJ] at hG;cases aO hG.symm
    |bad q2 c2=>
     rw [aJ] at a_;refine pS [0] (a_ nofun) ?_;refine J _ _ ?_;simp only [lg,eqW,bz,R.bind,h1,h2,aJ] at hG;subst hG;exact lP [0,3]
    |ok a2 q2=>
     obtain ⟨o2,n2,m2,l2⟩:=a2;rw [aJ] at a_;refine aS [0] (a_ nofun) ?_;refine O _ ?_;clear O J;simp only [lg,eqW,bz,R.bind,h1,h2,aJ] at hG;exact ⟨m,nS m,_,ak (slots:=[0,1,4,5]) rfl rfl,_,_,_,_,_,by omega,hG,rfl⟩
   refine aA ?_;refine rz [4] ?_;refine ae ?_;simp only [lg,eqW,bz,h1,h2] at hG;subst hG;exact lG [0] [pN _]
def FW:Plan:=(.take 0 (.load 1 (.take 2 (.take 3 (.one 4 (.one 5 (.one 6 (.one 7 .done))))))))
theorem KD(s:BA)(jW:s.size<=4000)(n:Nat)(Zq:∀m,m<=n->FV t u s m)(Wx:∀m,m<=n->zI t u s m):FV t u s (n+1):=by
 intro d p aO;obtain ⟨r,hG⟩:∃r,factorF s (n+1) d p=r:=⟨_,rfl⟩;rw [hG] at aO ⊢
 have hs:s.size<4611686018427387904:=by omega
 refine aZ b8 (N:=83) Tryz.func246 rfl (by rfl) ((by cases r <;> simp [jF] at aO ⊢)) rfl ?_
 refine rz [0,1,4] ?_;refine aa (af ?_);refine rz [0,1,4,10] ?_;refine cQ rfl (fun h1=>?_) fun h1=>?_
 ·refine rS fun J O=>sH ?_
  have bB:=kV t u s p d
  cases aF:mG s d p with
  |out=>
   simp only [factorF,eqW,R.bind,h1,aF] at hG;cases aO hG.symm
  |bad q1 c1=>
   rw [aF] at bB;refine pS [0] (bB nofun) ?_;refine J _ _ ?_;simp only [factorF,eqW,R.bind,h1,aF] at hG;subst hG;exact lP [0,2]
  |ok a1 q1=>
   rw [aF] at bB;refine aS [0] (bB nofun) ?_;refine O _ (aM [0,4,5] ?_);clear O J;refine rS fun J O=>aS [0] (bX _ s q1 hs) ?_;refine O _ (aM [0,4,5] ?_);clear O J;refine rS fun J O=>sH ?_;have a_:=Zq n (by omega) a1 (nx s q1)
   cases aJ:factorF s n a1 (nx s q1) with
   |out=>
    simp only [factorF,eqW,R.bind,h1,aF,aJ] at hG;cases aO hG.symm
   |bad q2 c2=>
    rw [aJ] at a_;refine pS [0] (a_ nofun) ?_;refine J _ _ ?_;simp only [factorF,eqW,R.bind,h1,aF,aJ] at hG;subst hG;exact lP [0,2]
   |ok a2 q2=>
    obtain ⟨o2,n2,m2,l2⟩:=a2;rw [aJ] at a_;refine aS [0] (a_ nofun) ?_;refine O _ (aM [4] ?_);clear O J;refine ae ?_;simp only [factorF,eqW,R.bind,h1,aF,aJ] at hG;subst hG;exact lG [0] [pN _]
 refine rz [0,1,4,26] ?_;refine cQ rfl (fun h2=>?_) fun h2=>?_
 ·refine rS fun J O=>sH ?_
  have bB:=kV t u s p d
  cases aF:mG s d p with
  |out=>
   simp only [factorF,eqW,R.bind,h1,h2,aF] at hG;cases aO hG.symm
  |bad q1 c1=>
   rw [aF] at bB;refine pS [0] (bB nofun) ?_;refine J _ _ ?_;simp only [factorF,eqW,R.bind,h1,h2,aF] at hG;subst hG;exact lP [0,2]
  |ok a1 q1=>
   rw [aF] at bB;refine aS [0] (bB nofun) ?_;refine O _ (aM [0,4,6] ?_);clear O J;refine rS fun J O=>aS [0] (bX _ s q1 hs) ?_;refine O _ (aM [0,4,6] ?_);clear O J;refine rS fun J O=>sH ?_;have a_:=Wx n (by omega) a1 (nx s q1)
   cases aJ:termF s n a1 (nx s q1) with
   |out=>
    simp only [factorF,eqW,R.bind,h1,h2,aF,aJ] at hG;cases aO hG.symm
   |bad q2 c2=>
    rw [aJ] at a_;refine pS [0] (a_ nofun) ?_;refine J _ _ ?_;simp only [factorF,eqW,R.bind,h1,h2,aF,aJ] at hG;subst hG;exact lP [0,2]
   |ok a2 q2=>
    obtain ⟨o2,n2,m2,l2⟩:=a2;rw [aJ] at a_;refine aS [0] (a_ nofun) ?_;refine O _ (aM [0,4,7] ?_);clear O J;refine rS fun J O=>sH ?_;have cz:=bf t u s ⟨#[41]⟩ q2 hs
    cases bh:bx s ⟨#[41]⟩ q2 with
    |out=>
     simp only [factorF,eqW,R.bind,h1,h2,aF,aJ,bh] at hG;cases aO hG.symm
    |bad q3 c3=>
     rw [bh] at cz;refine pS [0] (cz nofun) ?_;refine J _ _ ?_;simp only [factorF,eqW,R.bind,h1,h2,aF,aJ,bh] at hG;subst hG;exact lP [0,3]
    |ok a3 q3=>
     rw [bh] at cz;refine aS [0] (cz nofun) ?_;refine O _ (aM [4,7] ?_);clear O J;refine rz [4] ?_;refine ae ?_;simp only [factorF,eqW,R.bind,h1,h2,aF,aJ,bh] at hG;subst hG;exact lG [0] [pN _]
 refine rS fun J O=>?_;refine ab (fun h3=>?_) (fun h3=>?_)
 ·have sP:=qy (by simpa using h3)
  refine oN (oN ?_);refine aS [] (hJ _ _) ?_;refine O _ (aM [0,1,4,43] ?_);clear O J;refine cQ rfl (fun h4=>?_) fun h4=>?_
  ·refine rS fun J O=>sH ?_
   have bB:=qz t u s p jW
   cases aF:co s p with
   |out=>
    simp only [factorF,eqW,isD,bz,R.bind,h1,h2,h3,h4,aF] at hG;cases aO hG.symm
   |bad q1 c1=>
    rw [aF] at bB;refine pS [0] (bB nofun) ?_;refine J _ _ ?_;simp only [factorF,eqW,isD,bz,R.bind,h1,h2,h3,h4,aF] at hG;subst hG;exact lP [0,2]
   |ok a1 q1=>
    rw [aF] at bB;refine aS [0] (bB nofun) ?_;refine O _ (aM [4] ?_);clear O J;refine ae ?_;simp only [factorF,eqW,isD,bz,R.bind,h1,h2,h3,h4,aF] at hG;subst hG;exact lG [0] [pN _]
  refine ac (rS fun J O=>sH ?_);have bB:=ep t u s p hs
  cases aF:fv s p with
  |out=>
   simp only [factorF,eqW,isD,bz,R.bind,h1,h2,h3,h4,aF] at hG;cases aO hG.symm
  |bad q1 c1=>
   rw [aF] at bB;refine pS [0] (bB nofun) ?_;refine J _ _ ?_;simp only [factorF,eqW,isD,bz,R.bind,h1,h2,h3,h4,aF] at hG;subst hG;exact lP [0,2]
  |ok a1 q1=>
   rw [aF] at bB;refine aS [0] (bB nofun) ?_;refine O _ (aM [0,1,4,8] ?_);clear O J;refine aa (rz [0,1,4,8,67] ?_);refine cQ rfl (fun h5=>?_) fun h5=>?_
   ·refine rS fun J O=>sH ?_
    have a_:=kV t u s q1 d
    cases aJ:mG s d q1 with
    |out=>
     simp only [factorF,eqW,isD,bz,R.bind,h1,h2,h3,h4,aF,h5,aJ] at hG;cases aO hG.symm
    |bad q2 c2=>
     rw [aJ] at a_;refine pS [0] (a_ nofun) ?_;refine J _ _ ?_;simp only [factorF,eqW,isD,bz,R.bind,h1,h2,h3,h4,aF,h5,aJ] at hG;subst hG;exact lP [0,3]
    |ok a2 q2=>
     rw [aJ] at a_;refine aS [0] (a_ nofun) ?_;refine O _ (aM [0,4,8,9] ?_);clear O J;refine rS fun J O=>aS [0] (bX _ s q2 hs) ?_;refine O _ (aM [0,4,8,9] ?_);clear O J;refine aa ((dW FW [7] (fun i=>Nat.beq i 2) (by kernel_rfl) fun J O=>?_))
     refine sH ?_
     have cz:=Wx n (by omega) a2 (nx s q2)
     cases bh:termF s n a2 (nx s q2) with
     |out=>
      simp only [factorF,eqW,isD,bz,R.bind,h1,h2,h3,h4,aF,h5,aJ,bh] at hG;cases aO hG.symm
     |bad q3 c3=>
      rw [bh] at cz;refine pS [0] (cz nofun) ?_;refine J _ _ ?_;simp only [factorF,eqW,isD,bz,R.bind,h1,h2,h3,h4,aF,h5,aJ,bh] at hG;subst hG;exact lP [0,3]
     |ok a3 q3=>
      obtain ⟨o3,n3,m3,l3⟩:=a3;rw [bh] at cz;refine aS [0] (cz nofun) ?_;refine O _ (aM [0,4,8] ?_);clear O J;refine rG fun J O=>sH ?_;have lw:=bf t u s ⟨#[93]⟩ q3 hs
      cases fC:bx s ⟨#[93]⟩ q3 with
      |out=>
       simp only [factorF,eqW,isD,bz,R.bind,h1,h2,h3,h4,aF,h5,aJ,bh,fC] at hG;cases aO hG.symm
      |bad q4 c4=>
       rw [fC] at lw;refine pS [0] (lw nofun) ?_;refine J _ _ ?_;simp only [factorF,eqW,isD,bz,R.bind,h1,h2,h3,h4,aF,h5,aJ,bh,fC] at hG;subst hG;exact lP [0,3]
      |ok a4 q4=>
       rw [fC] at lw;refine aS [0] (lw nofun) ?_;refine O _ (aM [4,8] ?_);clear O J;refine rz [4] ?_;refine ae ?_;simp only [factorF,eqW,isD,bz,R.bind,h1,h2,h3,h4,aF,h5,aJ,bh,fC] at hG;subst hG;exact lG [0] [pN _]
   refine ac (rz [4] ?_);refine ae ?_;simp only [factorF,eqW,isD,bz,R.bind,h1,h2,h3,h4,aF,h5] at hG;subst hG;exact lG [0] [pN _]
 refine O _ (aM [0,1,4,43] ?_);clear O J;refine aj rfl (ac ?_);refine rS fun J O=>sH ?_;have bB:=ep t u s p hs
 cases aF:fv s p with
 |out=>
  simp only [factorF,eqW,isD,bz,R.bind,h1,h2,h3,aF] at hG;cases aO hG.symm
 |bad q1 c1=>
  rw [aF] at bB;refine pS [0] (bB nofun) ?_;refine J _ _ ?_;simp only [factorF,eqW,isD,bz,R.bind,h1,h2,h3,aF] at hG;subst hG;exact lP [0,2]
 |ok a1 q1=>
  rw [aF] at bB;refine aS [0] (bB nofun) ?_;refine O _ (aM [0,1,4,8] ?_);clear O J;refine aa (rz [0,1,4,8,67] ?_);refine cQ rfl (fun h4=>?_) fun h4=>?_
  ·refine rS fun J O=>sH ?_
   have a_:=kV t u s q1 d
   cases aJ:mG s d q1 with
   |out=>
    simp only [factorF,eqW,isD,bz,R.bind,h1,h2,h3,aF,h4,aJ] at hG;cases aO hG.symm
   |bad q2 c2=>
    rw [aJ] at a_;refine pS [0] (a_ nofun) ?_;refine J _ _ ?_;simp only [factorF,eqW,isD,bz,R.bind,h1,h2,h3,aF,h4,aJ] at hG;subst hG;exact lP [0,3]
   |ok a2 q2=>
    rw [aJ] at a_;refine aS [0] (a_ nofun) ?_;refine O _ (aM [0,4,8,9] ?_);clear O J;refine rS fun J O=>aS [0] (bX _ s q2 hs) ?_;refine O _ (aM [0,4,8,9] ?_);clear O J;refine aa ((dW FW [7] (fun i=>Nat.beq i 2) (by kernel_rfl) fun J O=>?_))
    refine sH ?_
    have cz:=Wx n (by omega) a2 (nx s q2)
    cases bh:termF s n a2 (nx s q2) with
    |out=>
     simp only [factorF,eqW,isD,bz,R.bind,h1,h2,h3,aF,h4,aJ,bh] at hG;cases aO hG.symm
    |bad q3 c3=>
     rw [bh] at cz;refine pS [0] (cz nofun) ?_;refine J _ _ ?_;simp only [factorF,eqW,isD,bz,R.bind,h1,h2,h3,aF,h4,aJ,bh] at hG;subst hG;exact lP [0,3]
    |ok a3 q3=>
     obtain ⟨o3,n3,m3,l3⟩:=a3;rw [bh] at cz;refine aS [0] (cz nofun) ?_;refine O _ (aM [0,4,8] ?_);clear O J;refine rG fun J O=>sH ?_;have lw:=bf t u s ⟨#[93]⟩ q3 hs
     cases fC:bx s ⟨#[93]⟩ q3 with
     |out=>
      simp only [factorF,eqW,isD,bz,R.bind,h1,h2,h3,aF,h4,aJ,bh,fC] at hG;cases aO hG.symm
     |bad q4 c4=>
      rw [fC] at lw;refine pS [0] (lw nofun) ?_;refine J _ _ ?_;simp only [factorF,eqW,isD,bz,R.bind,h1,h2,h3,aF,h4,aJ,bh,fC] at hG;subst hG;exact lP [0,3]
     |ok a4 q4=>
      rw [fC] at lw;refine aS [0] (lw nofun) ?_;refine O _ (aM [4,8] ?_);clear O J;refine rz [4] ?_;refine ae ?_;simp only [factorF,eqW,isD,bz,R.bind,h1,h2,h3,aF,h4,aJ,bh,fC] at hG;subst hG;exact lG [0] [pN _]
  refine ac (rz [4] ?_);refine ae ?_;simp only [factorF,eqW,isD,bz,R.bind,h1,h2,h3,aF,h4] at hG;subst hG;exact lG [0] [pN _]
theorem KE(s:BA)(jW:s.size<=4000):∀n,FV t u s n/\Ec t u s n/\zI t u s n:=by
 have hs:s.size<4611686018427387904:=by omega
 intro n
 induction n using Nat.strongRecOn with
 |_ n ih=>
  cases n with
  |zero=>exact ⟨fun d p h=>absurd (by simp only [factorF]) h,fun d p h=>absurd (by simp only [productF]) h,fun d p h=>absurd (by simp only [termF]) h⟩
  |succ n=>exact ⟨KD t u s jW n (fun m hm=>(ih m (by omega)).1) (fun m hm=>(ih m (by omega)).2.2),Hh t u s hs n (fun m hm=>(ih m (by omega)).1),Hi t u s hs n (fun m hm=>(ih m (by omega)).2.1)⟩
theorem fx(s:BA)(jW:s.size<=4000)(n:Nat):zI t u s n:=(KE t u s jW n).2.2
end
end
end Go.Abs
end
