/- Texts of this proof, joined and shortened. -/
import Derived.Test.YtedljfabpknjiaaGreatDoorR9
import Derived.Test.YtedljfabpknjiaaGreatDoorCards
import Derived.Test.YtedljfabpknjiaaGreatDoorTie
import Derived.LaidLaws
import Derived.Lib.LaidTab
set_option maxHeartbeats 1000000
section
namespace Go.Proofs
open Go Go.RowKit Go.Extern.Stop Go.Stop Go.Extern
set_option maxRecDepth 100000
theorem Tryz.grow3(w:World)(a b c:Obj):((w.alloc a).alloc b).alloc c={ w with heap:=w.heap++#[a,b,c] }:=by
 unfold World.alloc;simp only [Array.push_eq_append,Array.append_assoc];rfl
theorem Tryz.noAsE(v:Value)(xT:TypeId)(w:World):(Instr.typeAssert (.iface 409 v) xT 357 true).run Tryz.prog w=.ok (.tuple #[.nilIface,.bool false]) w:=run_typeAssert_lacksB Tryz.underlying357 (by kernel_rfl) (by kernel_rfl) v xT w
set_option maxHeartbeats 4000000 in
theorem Tryz.as_miss(e t:Addr)(XY:Value)(w:World)(hg:w.cell? ⟨8,0,none⟩=some (.iface 353 (.agg #[.pointer (some ⟨15,30,none⟩)])))(XZ:w.cell? t=some XY)(_WN:w.frozen? t=false):
  Calls Tryz.prog 146 #[.iface 409 (.pointer (some e)),.iface 259 (.pointer (some t))] w fun ev w'=>ev=.returned (.bool false)/\∃os:Array Obj,w'={ w with heap:=w.heap++os }:=by
 have h6:=@run_callFunc_extern Tryz.prog 201 _ (fun args=>ReflectliteValue.unpack (args.getD 0 (.tuple #[]))) Tryz.func201 (by kernel_rfl) (by kernel_rfl) (by kernel_rfl) (by kernel_rfl);have h7:=@run_callFunc_extern Tryz.prog 202 _ (ReflectliteValue.methodAny (ReflectliteValue.valueError "reflectlite.Value.Type" 0) (fun t _ _ _=>ReflectliteType.toType t)) Tryz.func202 (by kernel_rfl) (by kernel_rfl) (by kernel_rfl) (by kernel_rfl);have h8:=@run_callFunc_extern Tryz.prog 203 _ (ReflectliteValue.method (ReflectliteValue.valueError "reflectlite.Value.IsNil" 0) ReflectliteValue.isNil) Tryz.func203 (by kernel_rfl) (by kernel_rfl) (by kernel_rfl) (by kernel_rfl);have ZW:=@run_callFunc_extern Tryz.prog 304 _ (ReflectliteType.abiMethod fun t=>do pure (.int .u8 (<- Rtype.kind t))) Tryz.func304 (by kernel_rfl) (by kernel_rfl) (by kernel_rfl) (by kernel_rfl);have ZX:=@run_callFunc_extern Tryz.prog 316 _ (ReflectliteType.method ReflectliteType.elem) Tryz.func316 (by kernel_rfl) (by kernel_rfl) (by kernel_rfl) (by kernel_rfl);have ZY:=@run_callFunc_extern Tryz.prog 317 _ (ReflectliteType.relation "Implements" ReflectliteType.implements_) Tryz.func317 (by kernel_rfl) (by kernel_rfl) (by kernel_rfl) (by kernel_rfl);have dO:=@run_callFunc_extern Tryz.prog 205 _ ReflectliteType.typeOf Tryz.func205 (by kernel_rfl) (by kernel_rfl) (by kernel_rfl) (by kernel_rfl);have ZZ:=@run_callFunc_extern Tryz.prog 314 _ (ReflectliteType.relation "AssignableTo" ReflectliteType.assignableTo) Tryz.func314 (by kernel_rfl) (by kernel_rfl) (by kernel_rfl) (by kernel_rfl);have tO:=Tryz.isTypeOf;have mA:=Tryz.as_methodAssignableTo;have Z1:=Tryz.asAssignF;have nA:=Tryz.noAsE;have uE:=Tryz.noUnwrapE;have vE:=Tryz.noUnwrapsE;have f6:=Tryz.as_valueOf27;have f7:=Tryz.as_type27;have mK:=Tryz.as_methodKind;have mE:=Tryz.as_methodElem;have mI:=Tryz.as_methodImplements;have Z2:=Tryz.as_kind27;have Z3:=Tryz.as_kind25;have Z4:=Tryz.as_elem27;have Z5:=Tryz.as_implements25;have n8:=Tryz.as_isNil27 ⟨w.heap.size,0,none⟩ t ((w.alloc (.cells #[.pointer (some t)] 259)).alloc (.cells #[.pointer (some ⟨15,259,none⟩),.pointer (some ⟨w.heap.size,0,none⟩),.int .u64 150] 309)) (by simp)
 have hlt:8<w.heap.size:=by
  rcases Nat.lt_or_ge 8 w.heap.size with h|h
  ·exact h
  simp [World.cell?,Array.getElem?_eq_none h] at hg
 have WO:((w.alloc (.cells #[.pointer (some t)] 259)).alloc (.cells #[.pointer (some ⟨15,259,none⟩),.pointer (some ⟨w.heap.size,0,none⟩),.int .u64 150] 309)).cell? ⟨8,0,none⟩=some (.iface 353 (.agg #[.pointer (some ⟨15,30,none⟩)])):=by
  rw [World.cell?_alloc_lt _ _ ⟨8,0,none⟩ (by simp;omega),World.cell?_alloc_lt _ _ ⟨8,0,none⟩ hlt];exact hg
 have WP:t.block<w.heap.size:=by
  rcases Nat.lt_or_ge t.block w.heap.size with h|h
  ·exact h
  simp [World.cell?,Array.getElem?_eq_none h] at XZ
 go_enter Tryz.func146,Tryz.ntmps146
 go_wp2
 refine wp_loop_rounds 1 ?_;rw [rounds_succ]
 go_wp2
 go_ret
 exact ⟨rfl,_,Tryz.grow3 _ _ _ _⟩
end Go.Proofs
end
section
namespace Go.Abs
open Go Go.Proofs
section
structure ErrsOk (t:Nat->TypeId) (u:Nat->Value):Prop where
 ty:∀k,k<=7->t k=409
 tt:t 8=353
 tu:u 8=.agg #[.pointer (some ⟨15,30,none⟩)]
 apart:∀i j,i<=7->j<=7->i≠j->u i≠u j
 on:u 2000=.bool false
theorem hX {P:Program}{G:Glob}{f:FuncId}{fn:Func}{c:Code}{args:List PV}{rows:List Row}{p:PV}(hf:P.funcs[f]? = some fn) (hb:fn.body=some c) (ic:(fn.name== "runtime.NumGoroutine")=false)
  (h:∀(H:Nat->Option Value) (lim:Nat->Nat) (w:World) (vs:List Value),RowsOk H lim w rows->GlobOk G H lim w->Vs H lim w args vs->
   Calls P f vs.toArray w fun e w'=>(∃v,e=.returned v/\∀lim',Fr (fun _=>False) lim w lim' w'->V H lim' w' p v)/\RowKit.Below w.heap.size w w'):Spec P G f args rows (.ret p) rows:=by
 refine ⟨fun av w=>?_,nR _,fun H lim w vs bw eT eq=>?_⟩
 ·have aO:¬fn.name = "runtime.NumGoroutine":=by simpa using ic
  simp [callFunc,hf,aO,hb,program,Sem.run]
 refine Calls.mono (h H lim w vs bw eT eq) ?_;intro e w' ⟨⟨v,he,hv⟩,fA⟩;have hF:Fr (fun _=>False) lim w lim w':=tq fA;exact ⟨H,lim,⟨fun id r q=>gk hF (fun _ _ q=>q) (fun _ _ q=>q) (bw.row id r q),bw.apart,bw.dom⟩,hF.weaken fun _ q=>q.elim,fun _ _ _ _=>rfl,fun b q=>.inl q,v,he,hv lim hF⟩
section
variable {t:Nat->TypeId}{u:Nat->Value}{H:Nat->Option Value}{lim:Nat->Nat}{w:World}
theorem mM(hg:GlobOk (GO t u) H lim w)(k:Nat)(hk:k<=7):∃(a:Addr) (cs:Array Value) (ty:TypeId),u k=.pointer (some a)/\a.block<NGof (GO t u)/\w.heap[a.block]? = some (.cells cs ty (0,0)):=by
 have e:GO t u (100+k)=some (.agg #[u k]):=by
  have:k=0\/k=1\/k=2\/k=3\/k=4\/k=5\/k=6\/k=7:=by omega
  rcases this with rfl|rfl|rfl|rfl|rfl|rfl|rfl|rfl <;> rfl
 have:=hg.holds (100+k) _ (by rw [Nat.ble_eq];omega) e;simp only [GlobOk1] at this;obtain ⟨b,cs,ty,q1,q2,q3⟩:=this;simp only [Array.mk.injEq,List.cons.injEq,and_true] at q1;exact ⟨b,cs,ty,q1,q2,q3⟩
theorem Lm(hE:ErrsOk t u)(hg:GlobOk (GO t u) H lim w):w.cell? ⟨8,0,none⟩=some (.iface 353 (.agg #[.pointer (some ⟨15,30,none⟩)])):=by
 have:=(hg.holds 8 (.iface (t 8) (u 8)) rfl rfl).one rfl;rw [hE.tt,hE.tu] at this;exact this.1
theorem xL(hE:ErrsOk t u)(k:Nat)(hk:k<=7):Spec Tryz.prog (GO t u) 147 [.d (.s (.iface (t k) (u k))),.d (.s (.iface (t k) (u k)))] [] (.ret (.d (.s (.bool true)))) []:=by
 refine hX Tryz.func147 rfl (by rfl) ?_;intro H lim w vs _ hg eq;simp only [Vs,V,VD] at eq;obtain ⟨_,_,rfl,rfl,_,_,rfl,rfl,rfl⟩:=eq;obtain ⟨b,cs,ty,e1,_,e3⟩:=mM hg k hk;rw [hE.ty k hk,e1];refine (Tryz.is_same b w).mono ?_;rintro e w' ⟨rfl,rfl⟩;exact ⟨⟨_,rfl,fun _ _=>by simp only [V,VD]⟩,RowKit.Below.refl _ _⟩
theorem vG(hE:ErrsOk t u)(k j:Nat)(hk:k<=7)(hj:j<=7)(aO:k≠j):Spec Tryz.prog (GO t u) 147 [.d (.s (.iface (t k) (u k))),.d (.s (.iface (t j) (u j)))] [] (.ret (.d (.s (.bool false)))) []:=by
 refine hX Tryz.func147 rfl (by rfl) ?_;intro H lim w vs _ hg eq;simp only [Vs,V,VD] at eq;obtain ⟨_,_,rfl,rfl,_,_,rfl,rfl,rfl⟩:=eq;obtain ⟨b,cs,ty,e1,_,e3⟩:=mM hg k hk;obtain ⟨b',cs',NB,f1,_,f3⟩:=mM hg j hj;have HP:=hE.apart k j hk hj aO;rw [e1,f1] at HP;rw [hE.ty k hk,hE.ty j hj,e1,f1];refine (Tryz.is_other b b' cs cs' ty NB w (fun q=>HP (by rw [q])) e3 f3).mono ?_;rintro e w' ⟨rfl,rfl⟩;exact ⟨⟨_,rfl,fun _ _=>by simp only [V,VD]⟩,RowKit.Below.refl _ _⟩
theorem xM(hE:ErrsOk t u)(k:Nat)(hk:k<=7):Spec Tryz.prog (GO t u) 146 [.d (.s (.iface (t k) (u k))),.ifc 259 (.box 0 0)] [.box 128 [.d (.s (.pointer none))]] (.ret (.d (.s (.bool false)))) [.box 128 [.d (.s (.pointer none))]]:=by
 refine hX Tryz.func146 rfl (by rfl) ?_;intro H lim w vs hr hg eq;obtain ⟨b0,Z6,h1,h2,h3,_⟩:=hr.row 0 _ rfl;simp only [Vs,V,VD] at h3;obtain ⟨_,_,rfl,rfl,rfl⟩:=h3;simp only [Vs,V,VD] at eq;obtain ⟨_,_,rfl,rfl,_,_,rfl,⟨_,rfl,_,p1,rfl⟩,rfl⟩:=eq;rw [h1] at p1;simp only [sI,Value.pointer.injEq,Addr.mk.injEq,and_true] at p1;subst p1;obtain ⟨b,cs,ty,e1,_,e3⟩:=mM hg k hk;rw [hE.ty k hk,e1];refine (Tryz.as_miss b ⟨b0,0,none⟩ (.pointer none) w (Lm hE hg) (by simp [World.cell?,h2]) (by simp [World.frozen?,h2])).mono ?_;rintro e w' ⟨rfl,os,rfl⟩;exact ⟨⟨_,rfl,fun _ _=>by simp only [V,VD]⟩,⟨rfl,rfl,rfl,by simp,fun j hj=>by
  show (w.heap++os)[j]? = _
  rw [Array.getElem?_append_left hj]⟩⟩
end
end
end Go.Abs
end
section
namespace Go.Abs
open Go Go.Proofs Go.Proofs.YtedljfabpknjiaaGreatDoor
set_option maxRecDepth 100000
abbrev laidA:List (String×DataW Unit):=[("math/bits.deBruijn32tab",Rows.laid_math_bits_deBruijn32tab),("math/bits.deBruijn64tab",Rows.laid_math_bits_deBruijn64tab),("internal/strconv.uint64pow10",Rows.laid_internal_strconv_uint64pow10),("raycone/api.ErrText",Rows.laid_raycone_api_ErrText),("raycone/api.ErrBound",Rows.laid_raycone_api_ErrBound),("raycone/api.ErrShape",Rows.laid_raycone_api_ErrShape),("raycone/api.ErrEmpty",Rows.laid_raycone_api_ErrEmpty),("raycone/api.ErrName",Rows.laid_raycone_api_ErrName),("raycone/api.ErrNone",Rows.laid_raycone_api_ErrNone),("raycone/api.ErrOrder",Rows.laid_raycone_api_ErrOrder),("raycone/api.ErrProof",Rows.laid_raycone_api_ErrProof),("strconv.ErrRange",Rows.laid_strconv_ErrRange),("strconv.ErrSyntax",Rows.laid_strconv_ErrSyntax)]
abbrev laidH:List (String×DataW Unit):=[("errors.errorType",Rows.laid_errors_errorType)]
abbrev mN:List (String×DataW Unit):=[("math/bits.deBruijn32tab",Rows.laid_math_bits_deBruijn32tab),("math/bits.deBruijn64tab",Rows.laid_math_bits_deBruijn64tab),("internal/strconv.uint64pow10",Rows.laid_internal_strconv_uint64pow10),("errors.errorType",Rows.laid_errors_errorType),("raycone/api.ErrText",Rows.laid_raycone_api_ErrText),("raycone/api.ErrBound",Rows.laid_raycone_api_ErrBound),("raycone/api.ErrShape",Rows.laid_raycone_api_ErrShape),("raycone/api.ErrEmpty",Rows.laid_raycone_api_ErrEmpty),("raycone/api.ErrName",Rows.laid_raycone_api_ErrName),("raycone/api.ErrNone",Rows.laid_raycone_api_ErrNone),("raycone/api.ErrOrder",Rows.laid_raycone_api_ErrOrder),("raycone/api.ErrProof",Rows.laid_raycone_api_ErrProof),("strconv.ErrRange",Rows.laid_strconv_ErrRange),("strconv.ErrSyntax",Rows.laid_strconv_ErrSyntax)]
theorem rN:mN.filter (fun x=>x.2.handleName?.isSome)=laidH:=by kernel_rfl
theorem rO:mN.filter (fun x=>x.2.handleName?.isNone)=laidA:=by kernel_rfl
theorem CH{W:World}(h:laidMetH Tryz.prog mN W):laidMet Tryz.prog laidA W/\handlesMet Tryz.prog laidH W:=by
 unfold laidMetH at h;rw [rN,rO] at h;exact h
theorem ku{P:Program}{w:World}{n:String}{d:DataW Unit}:∀ {l:List (String×DataW Unit)}{ps:List MemPlace},DataW.LaidVars P w l ps->(n,d)∈l->
  ∃g t cs fuel p,P.globalNamed n=some g/\(P.globals[g]?).map (·.type)=some t/\w.var? P n=some cs/\DataW.trod (fun _=>()) P w 0 (fun _=>true) false fuel t cs.toList=some (d,p)/\∀x,x∈MemPlace.row ⟨g,0,none⟩ cs.size++p->x∈ps
 |[],_,_,h=>by cases h
 | (n',d')::r,ps,⟨g,t,cs,fuel,p,q,h1,h2,h3,h4,h5,h6⟩,h=>by
  cases h with
  |head=>exact ⟨g,t,cs,fuel,p,h1,h2,h3,h4,fun x hx=>by rw [h6];exact List.mem_append_left _ hx⟩
  |tail _ h=>
   obtain ⟨g',t',cs',f',p',k1,k2,k3,k4,k5⟩:=ku h5 h;exact ⟨g',t',cs',f',p',k1,k2,k3,k4,fun x hx=>by rw [h6];exact List.mem_append_right _ (k5 x hx)⟩
def isErr(W:World)(k:Nat)(text:List UInt8):Prop:=∃(a:Addr) (s:BA) (c:Array Value) (ty:TypeId),W.cell? ⟨k,0,none⟩=some (.iface 409 (.pointer (some a)))/\W.cell? a=some (.string s)/\s.data.toList=text/\W.heap[a.block]? = some (.cells c ty (0,0))
theorem zY:("*errors.errorString" : String) = "*"++ "errors.errorString":=by decide
theorem OK:∀u,Tryz.prog.typeName? 3 u=some "*errors.errorString"->u=409:=fun u h=>
 typeName_ptr_named (nm:= "errors.errorString") (by rw [<- zY];kernel_rfl) (by kernel_rfl) (by decide) u (by rw [<- zY];exact h)
theorem jH {W:World}{L:List (String×DataW Unit)}{name:String}{k:Nat}{text:List UInt8}(hg:Tryz.prog.globalNamed name=some k) (Ln:(Tryz.prog.globals[k]?).map (·.type)=some 30) (h:laidMet Tryz.prog L W)
  (hm:(name,(DataW.iface "*errors.errorString" (.ptr (.agg [.lit (.string text)])):DataW Unit))∈L):isErr W k text:=by
 obtain ⟨ps,hl,_,bw⟩:=h;obtain ⟨g,t,cs,fuel,p,h1,h2,h3,h4,h5⟩:=ku hl hm;obtain rfl:=Option.some.inj (hg.symm.trans h1);obtain rfl:=Option.some.inj (Ln.symm.trans h2);obtain ⟨l0⟩:=cs;have X0:∀u v,l0=[.iface u v]->Value.okWide Tryz.prog W .any 0 u v:=fun u v e=>by
  subst e;exact (bw k 0 (h5 _ (by simp [MemPlace.row]))).2 u v (by simpa using World.var?_cell h1 h3 0)
 obtain ⟨a0,s0,rfl,X4,CI,CB,rfl⟩:=errorString_of_trod Tryz.underlying30 OK Tryz.underlying409 Tryz.underlying411 rfl rfl Tryz.underlying9 (by kernel_rfl) (by kernel_rfl) h4 X0;obtain ⟨c0,t0,Lo⟩:=(bw a0.block a0.off (h5 _ (by simp [MemPlace.row]))).1;exact ⟨a0,s0,c0,t0,by simpa using World.var?_cell h1 h3 0,X4,CI,Lo⟩
structure LaidOk (W:World):Prop where
 e3:isErr W 3 [114,97,121,99,111,110,101,58,32,116,101,120,116]
 e0:isErr W 0 [114,97,121,99,111,110,101,58,32,98,111,117,110,100]
 e1:isErr W 1 [114,97,121,99,111,110,101,58,32,115,104,97,112,101]
 e4:isErr W 4 [114,97,121,99,111,110,101,58,32,101,109,112,116,121]
 e2:isErr W 2 [114,97,121,99,111,110,101,58,32,110,97,109,101]
 e5:isErr W 5 [114,97,121,99,111,110,101,58,32,110,111,110,101]
 e6:isErr W 6 [114,97,121,99,111,110,101,58,32,111,114,100,101,114]
 e7:isErr W 7 [114,97,121,99,111,110,101,58,32,112,114,111,111,102]
 e12:isErr W 12 [118,97,108,117,101,32,111,117,116,32,111,102,32,114,97,110,103,101]
 e11:isErr W 11 [105,110,118,97,108,105,100,32,115,121,110,116,97,120]
 et:W.cell? ⟨8,0,none⟩=some (.iface 353 (.agg #[.pointer (some ⟨15,30,none⟩)]))
 tab:∃ty fr,W.heap[9]? = some (.cells (pow10V.map fun z=>Value.int .u64 z).toArray ty fr)
theorem HQ:(Tryz.prog.cutTypes.find? (·.1== "internal/reflectlite.rtype")).map (·.2)=some 353:=by kernel_rfl
theorem OL:((List.range Tryz.prog.types.size).filter fun t=>Tryz.prog.rowNamed t [101,114,114,111,114])=[30]:=by kernel_rfl
theorem RW{W:World}(h:handlesMet Tryz.prog laidH W):W.cell? ⟨8,0,none⟩=some (.iface 353 (.agg #[.pointer (some ⟨15,30,none⟩)])):=by
 obtain ⟨name,u,ty,e1,e2,e3,e4,e5⟩:=h _ (List.mem_singleton.2 rfl);have en:name=[101,114,114,111,114]:=(Option.some.inj e1).symm;subst en;obtain rfl:=Option.some.inj (HQ.symm.trans e2);have hm:ty∈(List.range Tryz.prog.types.size).filter fun t=>Tryz.prog.rowNamed t [101,114,114,111,114]:=List.mem_filter.2 ⟨List.mem_range.2 e3,e4⟩;rw [OL] at hm;obtain rfl:=List.mem_singleton.1 hm
 have hh:typeHandle Tryz.prog 30=.pointer (some ⟨15,30,none⟩):=by kernel_rfl
 rw [hh] at e5
 simpa using World.var?_cell (show Tryz.prog.globalNamed "errors.errorType" = some 8 by kernel_rfl) e5 0
theorem OM{W:World}{L:List (String×DataW Unit)}(h:laidMet Tryz.prog L W)(hm:("internal/strconv.uint64pow10",(Rows.laid_internal_strconv_uint64pow10:DataW Unit))∈L):∃ty fr,W.heap[9]? = some (.cells (pow10V.map fun z=>Value.int .u64 z).toArray ty fr):=by
 obtain ⟨ps,hl,_,_⟩:=h;obtain ⟨g,t,cs,fuel,p,h1,h2,h3,h4,_⟩:=ku hl hm;obtain rfl:=Option.some.inj ((show Tryz.prog.globalNamed "internal/strconv.uint64pow10" = some 9 by kernel_rfl).symm.trans h1);have ht:=(show (Tryz.prog.globals[9]?).map (·.type)=some 397 by kernel_rfl);obtain rfl:=Option.some.inj (ht.symm.trans h2);have hc:=Lib.cells_of_tab (n:=20) (k:=.u64) (zs:=pow10V) Tryz.underlying397 Tryz.underlying345 (by kernel_rfl) (by kernel_rfl) h4
 unfold World.var? at h3;rw [h1] at h3;simp only [Option.bind_some] at h3;split at h3
 ·rename_i c ty fr hb;simp only [sI] at h3;subst h3;exact ⟨ty,fr,by rw [hb,<- hc]⟩
 cases h3
theorem F5{W:World}(h:laidMetH Tryz.prog mN W):LaidOk W:=by
 obtain ⟨h1,h2⟩:=CH h;exact ⟨jH (name:= "raycone/api.ErrText") (by kernel_rfl) (by kernel_rfl) h1 (.tail _ (.tail _ (.tail _ (.head _)))),jH (name:= "raycone/api.ErrBound") (by kernel_rfl) (by kernel_rfl) h1 (.tail _ (.tail _ (.tail _ (.tail _ (.head _))))),jH (name:= "raycone/api.ErrShape") (by kernel_rfl) (by kernel_rfl) h1 (.tail _ (.tail _ (.tail _ (.tail _ (.tail _ (.head _)))))),jH (name:= "raycone/api.ErrEmpty") (by kernel_rfl) (by kernel_rfl) h1 (.tail _ (.tail _ (.tail _ (.tail _ (.tail _ (.tail _ (.head _))))))),jH (name:= "raycone/api.ErrName") (by kernel_rfl) (by kernel_rfl) h1 (.tail _ (.tail _ (.tail _ (.tail _ (.tail _ (.tail _ (.tail _ (.head _)))))))),jH (name:= "raycone/api.ErrNone") (by kernel_rfl) (by kernel_rfl) h1 (.tail _ (.tail _ (.tail _ (.tail _ (.tail _ (.tail _ (.tail _ (.tail _ (.head _))))))))),jH (name:= "raycone/api.ErrOrder") (by kernel_rfl) (by kernel_rfl) h1 (.tail _ (.tail _ (.tail _ (.tail _ (.tail _ (.tail _ (.tail _ (.tail _ (.tail _ (.head _)))))))))),jH (name:= "raycone/api.ErrProof") (by kernel_rfl) (by kernel_rfl) h1 (.tail _ (.tail _ (.tail _ (.tail _ (.tail _ (.tail _ (.tail _ (.tail _ (.tail _ (.tail _ (.head _))))))))))),jH (name:= "strconv.ErrRange") (by kernel_rfl) (by kernel_rfl) h1 (.tail _ (.tail _ (.tail _ (.tail _ (.tail _ (.tail _ (.tail _ (.tail _ (.tail _ (.tail _ (.tail _ (.head _)))))))))))),jH (name:= "strconv.ErrSyntax") (by kernel_rfl) (by kernel_rfl) h1 (.tail _ (.tail _ (.tail _ (.tail _ (.tail _ (.tail _ (.tail _ (.tail _ (.tail _ (.tail _ (.tail _ (.tail _ (.head _))))))))))))),RW h2,OM h1 (.tail _ (.tail _ (.head _)))⟩
end Go.Abs
end
section
namespace Go.Abs
open Go Go.Proofs
abbrev TIs:=Option (BA×Nat)
def Ex.op:Ex->BA
 |.mk op _ _ _=>op
def ez(r:Int)(b:Int->TIs)(bc d:Int):TIs:=match decide (d<=12) with
 |false=>none
 |true=>match decide (r<bc) with
  |true=>match decide (d+1<=12) with
   |true=>(b (d+1)).map fun x=>((⟨#[40]⟩++x.1)++⟨#[41]⟩,x.2+2)
   |false=>none
  |false=>(b d).map fun x=>(x.1,x.2+1)
def fE:Ex->Int->TIs
 |.mk op n nm l,d=>match (op.toList==(⟨#[110,117,109]⟩:BA).toList) with
  |true=>match (((decide (n≥0)&&decide (n<=1099511627776))&&(nm.toList==(⟨#[]⟩:BA).toList))&&(((bR l).length:Int)==0)) with
   |true=>some (dH n,0)
   |false=>none
  |false=>match (op.toList==(⟨#[118,97,114]⟩:BA).toList) with
   |true=>match ((n==0)&&(((bR l).length:Int)==0))&&aC nm with
    |true=>some (nm,0)
    |false=>none
   |false=>match (op.toList==(⟨#[97,116]⟩:BA).toList) with
    |true=>match ((n==0)&&(((bR l).length:Int)==1))&&aC nm,l with
     |true,[x]=>(ez (aU x.op) (fE x) 1 (d+1)).map fun y=>(((nm++⟨#[91]⟩)++y.1)++⟨#[93]⟩,y.2)
     |_,_=>none
    |false=>match (op.toList==(⟨#[110,101,103]⟩:BA).toList) with
     |true=>match (((n==0)&&(nm.toList==(⟨#[]⟩:BA).toList))&&(((bR l).length:Int)==1)),l with
      |true,[x]=>(ez (aU x.op) (fE x) 3 (d+1)).map fun y=>(⟨#[45]⟩++y.1,y.2)
      |_,_=>none
     |false=>match fO op&&(((n==0)&&(nm.toList==(⟨#[]⟩:BA).toList))&&(((bR l).length:Int)==2)),l with
      |true,[x,y]=>(ez (aU x.op) (fE x) (aU op) d).bind fun u=>(ez (aU y.op) (fE y) (aU op+1) d).map fun v=>((((u.1++⟨#[32]⟩)++op)++⟨#[32]⟩)++v.1,u.2+v.2)
      |_,_=>none
def exprI(e:Ex)(bc d:Int):TIs:=ez (aU e.op) (fE e) bc d
mutual
def fuE:Ex->Nat
 |.mk _ _ _ l=>1+la l
def la:List Ex->Nat
 |[]=>0
 |e::r=>fuE e+1+la r
end
mutual
def wtE:Ex->Nat
 |.mk op _ nm l=>64+op.size+nm.size+gD l
def gD:List Ex->Nat
 |[]=>0
 |e::r=>wtE e+2+gD r
end
mutual
def nmE:Ex->Bool
 |.mk _ n _ l=>jX n&&vH l
def vH:List Ex->Bool
 |[]=>true
 |e::r=>nmE e&&vH r
end
def TL{α:Type}(W:WS)(x:Option (α×Nat))(a:α)(V:WS):Prop:=match x with
 |none=>V.ok=false
 |some (s,k)=>match decide (W.n+k<=4000) with
  |true=>V=⟨W.b,W.inn,true,W.n+k⟩/\a=s
  |false=>V.ok=false
def Et(r bc:Int):Nat:=match decide (r<bc) with
 |true=>1
 |false=>0
structure TTm {α:Type}(μ:α->Nat) (W:WS) (x:Option (α×Nat)) (m:Nat) (r:Q α):Prop where
 ex:∃a V,r=.ok a V/\μ a<=m/\V.b=W.b/\V.inn=W.inn/\(W.ok=false->V.ok=false)/\(W.ok=true->TL W x a V)
abbrev Ht(W:WS)(x:TIs)(m:Nat)(r:Q BA):Prop:=TTm ByteArray.size W x m r
def okN(W:WS):Prop:=W.ok=true->0<=W.n/\W.n<=4000
theorem dl{x:Int}(h0 : -9223372036854775808<=x)(h1:x<=9223372036854775807):IntKind.i64.wrap x=x:=by rw [IntKind.wrap_i64];omega
theorem tr{W:WS}{d:Int}(h:W.ok=false):(cU W d).ok=false:=by simp [cU,aT,h]
theorem gO{a:BA}{W:WS}(h:a.size<=1073741824):fit a W=.ok a W:=by
 unfold fit bj;simp [h]
theorem wl{W:WS}{d:Int}(h:W.ok=true)(hn:0<=W.n/\W.n<=4000):cU W d=⟨W.b,W.inn,decide (d<=12)&&decide (W.n+1<=4000),W.n+1⟩:=by
 have e:IntKind.i64.wrap (W.n+1)=W.n+1:=dl (by omega) (by omega);simp [cU,aT,h,e]
theorem CJ{α β:Type}{W U:WS}{x:Option (α×Nat)}{a:α}{V:WS}(g:α->β)(c:Nat)(h:TL U x a V)(hb:U.b=W.b)(hi:U.inn=W.inn)(hn:U.n=W.n+c):TL W (x.map fun y=>(g y.1,y.2+c)) (g a) V:=by
 cases x with
 |none=>exact h
 |some y=>
  obtain ⟨s,k⟩:=y;have e:W.n+((k+c:Nat):Int)=U.n+k:=by rw [hn];omega
  show TL W (some (g s,k+c)) (g a) V
  simp only [TL] at h ⊢;rw [e];cases hk:decide (U.n+(k:Int)<=4000) with
  |false=>rw [hk] at h;exact h
  |true=>rw [hk] at h;obtain ⟨rfl,rfl⟩:=h;rw [hb,hi];exact ⟨rfl,rfl⟩
theorem zZ{α:Type}{W:WS}{x:Option (α×Nat)}{a:α}{V:WS}(h:TL W x a V)(hv:V.ok=true):∃k,x=some (a,k)/\W.n+k<=4000/\V=⟨W.b,W.inn,true,W.n+k⟩:=by
 cases x with
 |none=>exact absurd (h.symm.trans hv) (by decide)
 |some y=>
  obtain ⟨s,k⟩:=y;simp only [TL] at h;cases hk:decide (W.n+(k:Int)<=4000) with
  |false=>rw [hk] at h;exact absurd (h.symm.trans hv) (by decide)
  |true=>rw [hk] at h;obtain ⟨rfl,rfl⟩:=h;exact ⟨k,rfl,oT hk,rfl⟩
theorem CK{α:Type}{W:WS}{x:Option (α×Nat)}{a:α}{V:WS}(h:TL W x a V)(hv:V.ok=false):∀s k,x=some (s,k)->¬W.n+k<=4000:=by
 rintro s k rfl;simp only [TL] at h;cases hk:decide (W.n+(k:Int)<=4000) with
 |false=>exact oF hk
 |true=>rw [hk] at h;obtain ⟨rfl,rfl⟩:=h;cases hv
theorem qG{α:Type}{W:WS}{x:Option (α×Nat)}{a:α}{V:WS}(hv:V.ok=false)(h:∀s k,x=some (s,k)->¬W.n+k<=4000):TL W x a V:=by
 cases x with
 |none=>exact hv
 |some y=>
  obtain ⟨s,k⟩:=y;simp only [TL];rw [decide_eq_false (h s k rfl)];exact hv
theorem ON{α β γ:Type}{U:WS}{x:Option (α×Nat)}{y:Option (β×Nat)}{a:α}{b:β}{V V':WS}(g:α->β->γ)(h:TL U x a V)(h1:V.ok=true->TL V y b V')(h0:V.ok=false->V'.ok=false):TL U (x.bind fun u=>y.map fun v=>(g u.1 v.1,u.2+v.2)) (g a b) V':=by
 cases hv:V.ok with
 |false=>
  refine qG (h0 hv) ?_;intro s k e;have hx:=CK h hv;cases x with
  |none=>cases e
  |some u=>
   obtain ⟨s1,k1⟩:=u;have:=hx s1 k1 rfl;cases y with
   |none=>cases e
   |some v=>
    obtain ⟨s2,k2⟩:=v;simp only [Option.bind_some,Option.map_some,sI,Prod.mk.injEq] at e;have e2:=e.2;omega
 |true=>
  obtain ⟨k,rfl,hk,rfl⟩:=zZ h hv;have h2:=h1 rfl;have:=CJ (W:=U) (g a) k h2 rfl rfl rfl;cases y with
  |none=>exact this
  |some v=>
   obtain ⟨s2,k2⟩:=v;simp only [Option.bind_some,Option.map_some] at this ⊢;rw [Nat.add_comm k k2];exact this
theorem dM(s:BA):1<=aU s/\aU s<=3:=by
 unfold aU;split
 ·omega
 split <;> omega
theorem qH{r l:Int}(h:l<=r):Et r l=0:=by
 unfold Et;rw [decide_eq_false (by omega)]
def NC(f:Nat):Prop:=∀(e:Ex) (bc d:Int) (W:WS),fuE e+Et (aU e.op) bc<=f->nmE e=true->wtE e<=1000000000->okN W->-1<=d->d<=100->1<=bc->
  Ht W (exprI e bc d) (wtE e+2 * Et (aU e.op) bc) (cp f e bc d W)
theorem Eu{bc:Int}{s:BA}(h:decide (aU s<bc)=false):Et (aU s) bc=0:=by unfold Et;rw [h]
theorem pu:(⟨#[]⟩:BA).size=0:=rfl
theorem TTm.bad{W:WS}{x:TIs}{m:Nat}{V:WS}(hb:V.b=W.b)(hi:V.inn=W.inn)(hv:V.ok=false)(hx:W.ok=true->∀s k,x=some (s,k)->¬W.n+k<=4000):Ht W x m (fit ⟨#[]⟩ V):=
 ⟨⟨⟨#[]⟩,V,gO (by rw [pu];omega),by rw [pu];omega,hb,hi,fun _=>hv,fun h=>qG hv (hx h)⟩⟩
theorem iV{W:WS}{c:Bool}(h:c=true)(hW:W.ok=true):aT W c=W:=by
 obtain ⟨b,i,o,n⟩:=W;simp only at hW;subst hW;simp [aT,h]
theorem TTm.fit{W U:WS}{x:TIs}{m:Nat}{a:BA}(hW:W.ok=true)(ha:a.size<=m)(hm:m<=1073741824)(hb:U.b=W.b)(hi:U.inn=W.inn)(h:TL W x a U):Ht W x m (fit a U):=
 ⟨⟨a,U,gO (by omega),ha,hb,hi,fun q=>absurd (q.symm.trans hW) (by decide),fun _=>h⟩⟩
theorem TTm.bind1{W U:WS}{x:TIs}{m m':Nat}{r:Q BA}(g:BA->BA)(c:Nat)(hW:W.ok=true)(h:Ht U x m r)(hU:U.ok=true)(hg:∀s,(g s).size<=s.size+c)(hm:m+c<=m')(WT:m'<=1073741824)(hb:U.b=W.b)(hi:U.inn=W.inn)(hn:U.n=W.n+1):
  Ht W (x.map fun y=>(g y.1,y.2+1)) m' (r.bind fun s V=>Go.Abs.fit (g s) V):=by
 obtain ⟨a,V,rfl,h1,h2,h3,_,h5⟩:=h.ex;have:=hg a;refine ⟨⟨g a,V,gO (by omega),by omega,h2.trans hb,h3.trans hi,fun q=>absurd (q.symm.trans hW) (by decide),fun _=>?_⟩⟩;exact CJ g 1 (h5 hU) hb hi hn
theorem UJ{x y z:BA}:((x++y)++z).size=x.size+y.size+z.size:=by simp
theorem dX{x y:BA}:(x++y).size=x.size+y.size:=by simp
theorem xN(x:Ex):gD [x]=wtE x+2:=by simp [gD]
theorem xO(x y:Ex):gD [x,y]=wtE x+2+(wtE y+2):=by simp [gD]
theorem qI(x:Ex):la [x]=fuE x+1:=by simp [la]
theorem tv(x y:Ex):la [x,y]=fuE x+1+(fuE y+1):=by simp [la]
theorem qJ(r l:Int):Et r l<=1:=by
 unfold Et;split <;> omega
theorem pw(x:TIs)(g:BA->BA):((x.map fun y=>(g y.1,y.2)).map fun y=>(y.1,y.2+1))=x.map fun y=>(g y.1,y.2+1):=by cases x <;> rfl
theorem F6 {f:Nat}(ih:NC f) (op:BA) (n:Int) (nm:BA) (l:List Ex) (d:Int) (W:WS) (hf:fuE (.mk op n nm l)<=f+1) (ga:nmE (.mk op n nm l)=true) (hw:wtE (.mk op n nm l)<=1000000000)
  (hW:W.ok=true) (hn:0<=W.n/\W.n<=4000) (Lp : -1<=d) (hd:d<=12) (nN:W.n+1<=4000) (hl:cU W d=⟨W.b,W.inn,true,W.n+1⟩) (bc:Int) (hr:decide (aU op<bc)=false) :
  Ht W ((fE (.mk op n nm l) d).map fun x=>(x.1,x.2+1)) (wtE (.mk op n nm l)) (cp (f+1) (.mk op n nm l) bc d W):=by
 simp only [cp,hl,hr];simp only [fuE] at hf;simp only [nmE,bE] at ga;simp only [wtE] at hw ⊢;have sE:IntKind.i64.wrap (d+1)=d+1:=dl (by omega) (by omega);have UK:∀c,TL W (none:TIs) c (aT ⟨W.b,W.inn,true,W.n+1⟩ false):=fun _=>rfl
 have RX:∀a:BA,TL W (some (a,0+1)) a ⟨W.b,W.inn,true,W.n+1⟩:=by
  intro a;simp only [TL];rw [dT (by omega)];simp
 rw [fE.eq_def];dsimp only;cases k1:(op.toList==(⟨#[110,117,109]⟩:BA).toList) with
 |true=>
  simp only [ga.1];refine TTm.fit hW (Nat.le_trans (gP ga.1) (by omega)) (by omega) rfl rfl ?_;cases hc:(((decide (n≥0)&&decide (n<=1099511627776))&&(nm.toList==(⟨#[]⟩:BA).toList))&&(((bR l).length:Int)==0)) with
  |true=>rw [iV rfl rfl];exact RX _
  |false=>exact UK _
 |false=>
  simp only;cases k2:(op.toList==(⟨#[118,97,114]⟩:BA).toList) with
  |true=>
   have eV:bj nm=true:=dT (by omega);simp only [eV];refine TTm.fit hW (by omega) (by omega) rfl rfl ?_;cases hc:((n==0)&&(((bR l).length:Int)==0)) with
   |true=>
    rw [iV rfl rfl];cases hq:aC nm with
    |true=>rw [iV rfl rfl];exact RX _
    |false=>exact UK _
   |false=>exact UK _
  |false=>
   simp only;cases k3:(op.toList==(⟨#[97,116]⟩:BA).toList) with
   |true=>
    have eV:bj nm=true:=dT (by omega);simp only;cases hc:((n==0)&&(((bR l).length:Int)==1)) with
    |false=>exact TTm.bad rfl rfl rfl (fun _ s k e=>by cases e)
    |true=>
     obtain ⟨x,rfl⟩:=ow hc;rw [iV rfl rfl];simp only [eV,Bool.true_and];simp only [qI] at hf;simp only [xN] at hw ⊢;simp only [vH,Bool.and_true] at ga;have UL:=qH (r:=aU x.op) (l:=1) (dM _).1;cases hq:aC nm with
     |true=>
      rw [iV rfl rfl,sE];simp only [pw _ (fun s=>((nm++⟨#[91]⟩)++s)++⟨#[93]⟩)];have hx:=ih x 1 (d+1) ⟨W.b,W.inn,true,W.n+1⟩ (by omega) ga.2 (by omega) (fun _=>by simp only;omega) (by omega) (by omega) (by omega);exact TTm.bind1 (fun s=>((nm++⟨#[91]⟩)++s)++⟨#[93]⟩) (nm.size+2) hW hx rfl (fun s=>by simp only [dX];have e1:(⟨#[91]⟩:BA).size=1:=rfl;have e2:(⟨#[93]⟩:BA).size=1:=rfl;omega) (by omega) (by omega) rfl rfl rfl
     |false=>
      rw [sE];obtain ⟨a,V,e,h1,h2,h3,h4,_⟩:=(ih x 1 (d+1) (aT ⟨W.b,W.inn,true,W.n+1⟩ false) (by omega) ga.2 (by omega) (fun q=>by cases q) (by omega) (by omega) (by omega)).ex;rw [e];refine ⟨⟨_,V,gO ?_,?_,h2,h3,fun q=>absurd (q.symm.trans hW) (by decide),fun _=>h4 rfl⟩⟩;all_goals
       simp only [dX];have e1:(⟨#[91]⟩:BA).size=1:=rfl;have e2:(⟨#[93]⟩:BA).size=1:=rfl;omega
   |false=>
    simp only;cases k4:(op.toList==(⟨#[110,101,103]⟩:BA).toList) with
    |true=>
     simp only;cases hc:(((n==0)&&(nm.toList==(⟨#[]⟩:BA).toList))&&(((bR l).length:Int)==1)) with
     |false=>exact TTm.bad rfl rfl rfl (fun _ s k e=>by cases e)
     |true=>
      obtain ⟨x,rfl⟩:=ow hc;rw [iV rfl rfl,sE];simp only [qI] at hf;simp only [xN] at hw ⊢;simp only [vH,Bool.and_true] at ga;have UL:=qJ (aU x.op) 3;simp only [pw _ (fun s=>⟨#[45]⟩++s)];have hx:=ih x 3 (d+1) ⟨W.b,W.inn,true,W.n+1⟩ (by omega) ga.2 (by omega) (fun _=>by simp only;omega) (by omega) (by omega) (by omega);exact TTm.bind1 (m':=64+op.size+nm.size+(wtE x+2)) (fun s=>⟨#[45]⟩++s) 1 hW hx rfl (fun s=>by simp only [dX];have e1:(⟨#[45]⟩:BA).size=1:=rfl;omega) (by omega) (by omega) rfl rfl rfl
    |false=>
     simp only;cases k5:fO op with
     |false=>exact TTm.bad rfl rfl rfl (fun _ s k e=>by cases e)
     |true=>
      simp only [Bool.true_and];cases hc:(((n==0)&&(nm.toList==(⟨#[]⟩:BA).toList))&&(((bR l).length:Int)==2)) with
      |false=>exact TTm.bad rfl rfl rfl (fun _ s k e=>by cases e)
      |true=>
       obtain ⟨x,y,rfl⟩:=lx hc;have eV:bj op=true:=dT (by omega);have K0:=dM op;rw [iV rfl rfl,show IntKind.i64.wrap (aU op+1)=aU op+1 from dl (by omega) (by omega)];simp only [eV];simp only [tv] at hf;simp only [xO] at hw ⊢;simp only [vH,Bool.and_true,bE] at ga;have X5:=qJ (aU x.op) (aU op);have X6:=qJ (aU y.op) (aU op+1);obtain ⟨a,V,e,h1,h2,h3,h4,h5⟩:=(ih x (aU op) d ⟨W.b,W.inn,true,W.n+1⟩ (by omega) ga.2.1 (by omega) (fun _=>by simp only;omega) (by omega) (by omega) (by omega)).ex;have h5:=h5 rfl;have hV:okN V:=fun q=>by
        obtain ⟨k,_,hk,rfl⟩:=zZ h5 q;simp only at hk ⊢;omega
       obtain ⟨b,U,e',g1,g2,g3,g4,g5⟩:=(ih y (aU op+1) d V (by omega) ga.2.2 (by omega) hV (by omega) (by omega) (by omega)).ex;rw [e];simp only [Q.bind,e'];have hs:(((((a++⟨#[32]⟩)++op)++⟨#[32]⟩)++b):BA).size<=64+op.size+nm.size+(wtE x+2+(wtE y+2)):=by
        simp only [dX];have e1:(⟨#[32]⟩:BA).size=1:=rfl;omega
       refine ⟨⟨_,U,gO (by omega),hs,g2.trans h2,g3.trans h3,fun q=>absurd (q.symm.trans hW) (by decide),fun _=>?_⟩⟩;have:=ON (fun a b=>(((a++⟨#[32]⟩)++op)++⟨#[32]⟩)++b) h5 (fun q=>g5 q) g4;have:=CJ (W:=W) id 1 this rfl rfl rfl;exact this
theorem z6:∀f,NC f
 |0=>by
  intro e bc d W hf;obtain ⟨op,n,nm,l⟩:=e;simp only [fuE] at hf;omega
 |f+1=>by
  intro e bc d W hf ga hw hW Lp hd Hu;have ih:=z6 f;obtain ⟨op,n,nm,l⟩:=e;cases cd:W.ok with
  |false=>
   simp only [cp,tr cd];refine ⟨⟨⟨#[]⟩,_,gO (by rw [pu];omega),by rw [pu];omega,rfl,rfl,fun _=>tr cd,fun q=>absurd (cd.symm.trans q) (by decide)⟩⟩
  |true=>
   have hn:=hW cd;have hl:=wl (d:=d) cd hn;cases qK:decide (d<=12) with
   |false=>
    have e:(cU W d).ok=false:=by rw [hl,qK];rfl
    simp only [cp,e];exact TTm.bad rfl rfl e (fun _ s k q=>by simp only [exprI,ez,qK] at q;cases q)
   |true=>
    have jo:=oT qK;cases nN:decide (W.n+1<=4000) with
    |false=>
     have nN:=oF nN;have e:(cU W d).ok=false:=by rw [hl,decide_eq_false nN];simp
     simp only [cp,e];refine TTm.bad rfl rfl e (fun _ s k q=>?_);simp only [exprI,ez,qK] at q;split at q
     ·split at q
      ·obtain ⟨y,_,hy⟩:=Option.map_eq_some_iff.1 q;simp only [Prod.mk.injEq] at hy;omega
      cases q
     obtain ⟨y,_,hy⟩:=Option.map_eq_some_iff.1 q;simp only [Prod.mk.injEq] at hy;omega
    |true=>
     have nN:=oT nN;have hl:cU W d=⟨W.b,W.inn,true,W.n+1⟩:=by rw [hl,qK,dT nN];rfl
     have lp:(Ex.mk op n nm l).op=op:=rfl;rw [lp] at hf ⊢;cases hr:decide (aU op<bc) with
     |false=>
      rw [Eu hr] at hf ⊢;have:=F6 ih op n nm l d W (by omega) ga hw cd hn Lp jo nN hl bc hr;have e:exprI (.mk op n nm l) bc d=(fE (.mk op n nm l) d).map fun x=>(x.1,x.2+1):=by simp only [exprI,ez,qK,lp,hr]
      rw [e];exact this
     |true=>
      have ho:Et (aU op) bc=1:=by unfold Et;rw [hr]
      rw [ho] at hf ⊢;have h1:=qH (r:=aU op) (l:=1) (dM _).1;have hx:=ih (.mk op n nm l) 1 (d+1) ⟨W.b,W.inn,true,W.n+1⟩ (by rw [lp];omega) ga hw (fun _=>by simp only;omega) (by omega) (by omega) (by omega);rw [lp,h1] at hx;simp only [cp,hl,hr];rw [dl (x:=d+1) (by omega) (by omega)];have:=TTm.bind1 (W:=W) (m':=wtE (.mk op n nm l)+2 * 1) (fun s=>(⟨#[40]⟩++s)++⟨#[41]⟩) 2 cd hx rfl (fun s=>by simp only [dX];have e1:(⟨#[40]⟩:BA).size=1:=rfl;have e2:(⟨#[41]⟩:BA).size=1:=rfl;omega) (by omega) (by omega) rfl rfl rfl;have e:exprI (.mk op n nm l) bc d=(exprI (.mk op n nm l) 1 (d+1)).map fun y=>((⟨#[40]⟩++y.1)++⟨#[41]⟩,y.2+1):=by
       have h2:decide (aU op<1)=false:=decide_eq_false (by have:=(dM op).1;omega);simp only [exprI,ez,qK,lp,hr,h2];cases decide (d+1<=12) with
       |true=>cases fE (.mk op n nm l) (d+1) <;> rfl
       |false=>rfl
      rw [e];exact this
abbrev TM(α:Type):=Option (α×Nat)
def TM.ret{α:Type}(a:α):TM α:=some (a,0)
def TM.bd{α β:Type}(x:TM α)(f:α->TM β):TM β:=match x with
 |none=>none
 |some (a,k)=>match f a with
  |none=>none
  |some (b,j)=>some (b,k+j)
def TM.grd{α:Type}(c:Bool)(x:TM α):TM α:=match c with
 |true=>x
 |false=>none
theorem HR{α:Type}{W:WS}{a:α}{k:Nat}(h:W.n+k<=4000):TL W (some (a,k)) a ⟨W.b,W.inn,true,W.n+k⟩:=by
 simp only [TL];rw [dT h];simp
theorem OO{α:Type}{W:WS}(a:α)(hW:W.ok=true)(hn:W.n<=4000):TL W (TM.ret a) a W:=by
 have:=HR (W:=W) (a:=a) (k:=0) (by simpa using hn);obtain ⟨b,i,o,n⟩:=W;simp only at hW;subst hW;show TL _ (some (a,0)) a _
 simpa using this
theorem RY{α β:Type}{U V V':WS}{x:TM α}{f:α->TM β}{a:α}{b:β}(h:TL U x a V)(h1:V.ok=true->TL V (f a) b V')(h0:V.ok=false->V'.ok=false):TL U (x.bd f) b V':=by
 cases hv:V.ok with
 |false=>
  refine qG (h0 hv) ?_;intro s k e;have hx:=CK h hv;cases x with
  |none=>cases e
  |some u=>
   obtain ⟨s1,k1⟩:=u;have:=hx s1 k1 rfl;simp only [TM.bd] at e;split at e
   ·cases e
   simp only [sI,Prod.mk.injEq] at e;omega
 |true=>
  obtain ⟨k,rfl,hk,rfl⟩:=zZ h hv;have h2:=h1 rfl;simp only [TM.bd];cases hf:f a with
  |none=>rw [hf] at h2;exact h2
  |some v=>
   obtain ⟨s2,k2⟩:=v;rw [hf] at h2;simp only [TL] at h2 ⊢;have e:U.n+((k+k2:Nat):Int)=U.n+k+k2:=by omega
   rw [e];exact h2
theorem OP{α:Type}{W V:WS}{x:TM α}{a:α}(h:TL W x a V)(hW:W.ok=true)(hn:okN W):okN V:=fun q=>by
 obtain ⟨k,_,hk,rfl⟩:=zZ h q;have:=hn hW;simp only at hk ⊢;omega
theorem TTm.okN{α:Type}{μ:α->Nat}{W V:WS}{x:TM α}{m:Nat}{r:Q α}{a:α}(hn:okN W)(h0:W.ok=false->V.ok=false)(h1:W.ok=true->TL W x a V):Go.Abs.okN V:=fun q=>by
 cases hW:W.ok with
 |false=>exact absurd ((h0 hW).symm.trans q) (by decide)
 |true=>exact OP (h1 hW) hW hn q
theorem TTm.bind {α β:Type}{μ:α->Nat}{ν:β->Nat}{W:WS}{x:TM α}{m m':Nat}{r:Q α}{f:α->WS->Q β}{y:α->TM β}(hW:Go.Abs.okN W) (h:TTm μ W x m r)
  (hf:∀a V,μ a<=m->Go.Abs.okN V->V.b=W.b->V.inn=W.inn->TTm ν V (y a) m' (f a V)):TTm ν W (x.bd y) m' (r.bind f):=by
 obtain ⟨a,V,rfl,h1,h2,h3,h4,h5⟩:=h.ex;obtain ⟨b,U,e,g1,g2,g3,g4,g5⟩:=(hf a V h1 (TTm.okN (μ:=μ) (m:=m) (r:=.ok a V) hW h4 h5) h2 h3).ex;refine ⟨⟨b,U,e,g1,g2.trans h2,g3.trans h3,fun q=>g4 (h4 q),fun q=>RY (h5 q) g5 g4⟩⟩
theorem TTm.ret{α:Type}{μ:α->Nat}{W:WS}{m:Nat}(a:α)(hW:Go.Abs.okN W)(hm:μ a<=m):TTm μ W (TM.ret a) m (.ok a W):=
 ⟨⟨a,W,rfl,hm,rfl,rfl,id,fun q=>OO a q (hW q).2⟩⟩
theorem TTm.fitR{W:WS}{m:Nat}(a:BA)(hW:Go.Abs.okN W)(hm:a.size<=m)(hl:m<=1073741824):Ht W (TM.ret a) m (Go.Abs.fit a W):=by
 rw [gO (by omega)];exact TTm.ret a hW hm
theorem TTm.none{α:Type}{μ:α->Nat}{W U:WS}{x y:TM α}{m:Nat}{r:Q α}(hU:U.ok=false)(hb:U.b=W.b)(hi:U.inn=W.inn)(h:TTm μ U x m r):TTm μ W (none:TM α) m r:=by
 obtain ⟨a,V,rfl,h1,h2,h3,h4,h5⟩:=h.ex;exact ⟨⟨a,V,rfl,h1,h2.trans hb,h3.trans hi,fun _=>h4 hU,fun _=>h4 hU⟩⟩
theorem fh{W:WS}:(aT W false).ok=false:=by simp [aT]
theorem kw(W:WS):aT W true=W:=by obtain ⟨b,i,o,n⟩:=W;simp [aT]
theorem TTm.guard{α:Type}{μ:α->Nat}{W:WS}{x:TM α}{m:Nat}{f:WS->Q α}(c:Bool)(hW:Go.Abs.okN W)(h:∀U,Go.Abs.okN U->U.inn=W.inn->U.b=W.b->TTm μ U x m (f U)):TTm μ W (TM.grd c x) m (f (aT W c)):=by
 cases c with
 |true=>rw [kw];exact h W hW rfl rfl
 |false=>exact TTm.none (x:=x) (y:=x) fh rfl rfl (h _ (fun q=>absurd (fh.symm.trans q) (by decide)) rfl rfl)
def eS(c:Nat):List BA->Nat
 |[]=>0
 |s::r=>s.size+c+eS c r
theorem fX(c:Nat)(a b:List BA):eS c (a++b)=eS c a+eS c b:=by
 induction a with
 |nil=>simp [eS]
 |cons x a ih=>simp only [List.cons_append,eS,ih];omega
theorem z7(sep:List UInt8):∀l:List (List UInt8),(Lib.join l sep).length<=(l.map fun x=>x.length+sep.length).sum
 |[]=>by simp [Lib.join]
 |[x]=>by simp [Lib.join]
 |x::y::r=>by
  have:=z7 sep (y::r);simp only [Lib.join,List.intercalate_cons_cons,lA,List.map_cons,List.sum_cons] at this ⊢;omega
theorem dB(l:List BA)(sep:BA):(bP l sep).size<=eS sep.size l:=by
 have h:=z7 sep.data.toList (l.map (·.data.toList));have e:((l.map (·.data.toList)).map fun x=>x.length+sep.data.toList.length).sum=eS sep.size l:=by
  clear h;induction l with
  |nil=>rfl
  |cons x l ih=>
   simp only [List.map_cons,List.sum_cons,eS,ih];rfl
 rw [e] at h;show (List.toArray _).size<=_
 simpa using h
def gH:List Ex->TM (List BA)
 |[]=>TM.ret []
 |e::r=>TM.bd (exprI e 1 1) fun s=>TM.bd (gH r) fun ss=>TM.ret (s::ss)
def vI(acc:List BA)(x:TM (List BA)):TM (List BA):=TM.bd x fun ss=>TM.ret (acc++ss)
theorem CL{α:Type}(x:TM α):TM.bd x TM.ret=x:=by
 cases x with
 |none=>rfl
 |some u=>obtain ⟨a,k⟩:=u;simp [TM.bd,TM.ret]
theorem tw{α β γ:Type}(x:TM α)(f:α->TM β)(g:β->TM γ):TM.bd (TM.bd x f) g=TM.bd x fun a=>TM.bd (f a) g:=by
 cases x with
 |none=>rfl
 |some u=>
  obtain ⟨a,k⟩:=u;simp only [TM.bd];cases f a with
  |none=>rfl
  |some v=>
   obtain ⟨b,j⟩:=v;simp only;cases g b with
   |none=>rfl
   |some w=>simp [Nat.add_assoc]
theorem qL{α β:Type}(a:α)(f:α->TM β):TM.bd (TM.ret a) f=f a:=by
 simp only [TM.bd,TM.ret];cases f a with
 |none=>rfl
 |some v=>simp
theorem z8(e:Ex)(r:List Ex):gD (e::r)=wtE e+2+gD r:=by simp [gD]
theorem jY(f:Nat)(e:Ex)(W:WS)(hf:fuE e<=f)(hn:nmE e=true)(hw:wtE e<=1000000000)(hW:okN W):Ht W (exprI e 1 1) (wtE e) (cp f e 1 1 W):=by
 have ho:=qH (r:=aU e.op) (l:=1) (dM _).1;have:=z6 f e 1 1 W (by omega) hn hw hW (by omega) (by omega) (by omega);rw [ho] at this;exact this
theorem wm(f:Nat):∀(l:List Ex) (W:WS) (acc:List BA),la l<=f->vH l=true->eS 2 acc+gD l<=1000000000->okN W->TTm (eS 2) W (vI acc (gH l)) (eS 2 acc+gD l) (rP f l W acc)
 |[],W,acc,_,_,_,hW=>by
  simp only [gH,vI,qL,List.append_nil,rP];exact TTm.ret acc hW (by omega)
 |e::r,W,acc,hf,hn,hw,hW=>by
  simp only [la] at hf;simp only [vH,bE] at hn;rw [z8] at hw ⊢;simp only [gH,vI,tw,qL,rP];refine TTm.bind hW (jY f e W (by omega) hn.1 (by omega) hW) fun s V hs hV _ _=>?_
  have hx:eS 2 (acc++[s])<=eS 2 acc+(wtE e+2):=by rw [fX];simp only [eS];omega
  have h:=wm f r V (acc++[s]) (by omega) hn.2 (by omega) hV;have e1:vI (acc++[s]) (gH r)=TM.bd (gH r) fun ss=>TM.ret (acc++(s::ss)):=by simp [vI]
  rw [e1] at h;obtain ⟨a,U,q1,q2,q3⟩:=h.ex;exact ⟨⟨a,U,q1,by omega,q3⟩⟩
def ig(l:List Ex):TIs:=TM.bd (gH l) fun ss=>TM.ret (bP ss ⟨#[44,32]⟩)
theorem wo(f:Nat)(l:List Ex)(W:WS)(hf:la l<=f)(hn:vH l=true)(hl:l.length<=1073741824)(hw:gD l<=1000000000)(hW:okN W):Ht W (ig l) (gD l) (ij f l W):=by
 have hc:cV l.length=true:=dT hl;simp only [ij,hc];have h:=wm f l W [] hf hn (by simp only [eS];omega) hW;have e:vI [] (gH l)=gH l:=by simp [vI,CL]
 rw [e] at h;refine TTm.bind hW h fun ss V hs hV _ _=>?_;have:=dB ss ⟨#[44,32]⟩;have e2:(⟨#[44,32]⟩:BA).size=2:=rfl;rw [e2] at this;simp only [eS] at hs;exact TTm.fitR _ hV (by omega) (by omega)
def px(t:Ts):TIs:=TM.grd (dC t.rel) (TM.bd (exprI t.a 1 1) fun s=>TM.bd (exprI t.b 1 1) fun u=>TM.ret ((((s++⟨#[32]⟩)++t.rel)++⟨#[32]⟩)++u))
def RH(t:Ts):Nat:=fuE t.a+fuE t.b
def HS(t:Ts):Nat:=wtE t.a+wtE t.b+t.rel.size+10
def RI(t:Ts):Bool:=nmE t.a&&nmE t.b
theorem F7(f:Nat)(t:Ts)(W:WS)(hf:RH t<=f)(hn:RI t=true)(hw:HS t<=1000000000)(hW:okN W):Ht W (px t) (HS t) (Ev f t W):=by
 simp only [RH] at hf;simp only [RI,bE] at hn;simp only [HS] at hw ⊢;have hc:bj t.rel=true:=dT (by omega);simp only [Ev,hc,px];have key:∀U:WS,okN U->U.inn=W.inn->U.b=W.b->TTm ByteArray.size U (TM.bd (exprI t.a 1 1) fun s=>TM.bd (exprI t.b 1 1) fun u=>TM.ret ((((s++⟨#[32]⟩)++t.rel)++⟨#[32]⟩)++u)) (wtE t.a+wtE t.b+t.rel.size+10) ((cp f t.a 1 1 U).bind fun s V=>(cp f t.b 1 1 V).bind fun u V=>fit ((((s++⟨#[32]⟩)++t.rel)++⟨#[32]⟩)++u) V):=by
  intro U hU _ _;refine TTm.bind hU (jY f t.a U (by omega) hn.1 (by omega) hU) fun s V hs hV _ _=>?_;refine TTm.bind hV (jY f t.b V (by omega) hn.2 (by omega) hV) fun u V2 hu jV _ _=>?_;refine TTm.fitR _ jV ?_ (by omega);simp only [dX];have e1:(⟨#[32]⟩:BA).size=1:=rfl;omega
 exact TTm.guard _ hW key
def jI:List Ts->TM (List BA)
 |[]=>TM.ret []
 |t::r=>TM.bd (px t) fun s=>TM.bd (jI r) fun ss=>TM.ret (s::ss)
def Hv:List Ts->Nat
 |[]=>0
 |t::r=>RH t+Hv r
def mO:List Ts->Nat
 |[]=>10
 |t::r=>HS t+5+mO r
def HT:List Ts->Bool
 |[]=>true
 |t::r=>RI t&&HT r
theorem z_(f:Nat):∀(l:List Ts) (W:WS) (acc:List BA),Hv l<=f->HT l=true->eS 5 acc+mO l<=1000000000->okN W->TTm (eS 5) W (vI acc (jI l)) (eS 5 acc+mO l) (Aa f l W acc)
 |[],W,acc,_,_,_,hW=>by
  simp only [jI,vI,qL,List.append_nil,Aa];exact TTm.ret acc hW (by omega)
 |t::r,W,acc,hf,hn,hw,hW=>by
  simp only [Hv] at hf;simp only [HT,bE] at hn;simp only [mO] at hw ⊢;simp only [jI,vI,tw,qL,Aa];refine TTm.bind hW (F7 f t W (by omega) hn.1 (by omega) hW) fun s V hs hV _ _=>?_
  have hx:eS 5 (acc++[s])<=eS 5 acc+(HS t+5):=by rw [fX];simp only [eS];omega
  have h:=z_ f r V (acc++[s]) (by omega) hn.2 (by omega) hV;have e1:vI (acc++[s]) (jI r)=TM.bd (jI r) fun ss=>TM.ret (acc++(s::ss)):=by simp [vI]
  rw [e1] at h;obtain ⟨a,U,q1,q2,q3⟩:=h.ex;exact ⟨⟨a,U,q1,by omega,q3⟩⟩
def xP(r:List Ts):TIs:=TM.bd (jI r) fun ss=>TM.ret (bP (nz ss) ⟨#[32,97,110,100,32]⟩)
theorem OQ(l:List BA)(m:Nat)(h:eS 5 l<=m)(hm:10<=m):eS 5 (nz l)<=m:=by
 cases l with
 |nil=>
  have:eS 5 (nz [])=9:=rfl;omega
 |cons x l=>exact h
theorem HU(r:List Ts):10<=mO r:=by
 induction r with
 |nil=>exact nR _
 |cons t r ih=>simp only [mO];omega
theorem HV(f:Nat)(r:List Ts)(W:WS)(hf:Hv r<=f)(hn:HT r=true)(hl:r.length<=1073741824)(hw:mO r<=1000000000)(hW:okN W):Ht W (xP r) (mO r) (Lq f r W):=by
 have hc:cV r.length=true:=dT hl;simp only [Lq,hc];have h:=z_ f r W [] hf hn (by simp only [eS];omega) hW;have e:vI [] (jI r)=jI r:=by simp [vI,CL]
 rw [e] at h;refine TTm.bind hW h fun ss V hs hV _ _=>?_;have:=dB (nz ss) ⟨#[32,97,110,100,32]⟩;have e2:(⟨#[32,97,110,100,32]⟩:BA).size=5:=rfl;rw [e2] at this;simp only [eS] at hs;have:=OQ ss (mO r) (by omega) (HU r);exact TTm.fitR _ hV (by omega) (by omega)
def Ab:List (List Ts)->TM (List BA)
 |[]=>TM.ret []
 |t::r=>TM.bd (xP t) fun s=>TM.bd (Ab r) fun ss=>TM.ret (s::ss)
def Ew:List (List Ts)->Nat
 |[]=>0
 |t::r=>Hv t+Ew r
def iD:List (List Ts)->Nat
 |[]=>10
 |t::r=>mO t+4+iD r
def Hw:List (List Ts)->Bool
 |[]=>true
 |t::r=>HT t&&Hw r
theorem kx(r:List Ts):r.length<=mO r:=by
 induction r with
 |nil=>exact Nat.zero_le _
 |cons t r ih=>simp only [mO,lC];omega
theorem ky(r:List (List Ts)):r.length<=iD r:=by
 induction r with
 |nil=>exact Nat.zero_le _
 |cons t r ih=>simp only [iD,lC];omega
theorem dU(r:List Ex):r.length<=gD r:=by
 induction r with
 |nil=>exact Nat.zero_le _
 |cons t r ih=>simp only [gD,lC];omega
theorem Ey(f:Nat):∀(l:List (List Ts)) (W:WS) (acc:List BA),Ew l<=f->Hw l=true->eS 4 acc+iD l<=1000000000->okN W->TTm (eS 4) W (vI acc (Ab l)) (eS 4 acc+iD l) (Lr f l W acc)
 |[],W,acc,_,_,_,hW=>by
  simp only [Ab,vI,qL,List.append_nil,Lr];exact TTm.ret acc hW (by omega)
 |t::r,W,acc,hf,hn,hw,hW=>by
  simp only [Ew] at hf;simp only [Hw,bE] at hn;simp only [iD] at hw ⊢;simp only [Ab,vI,tw,qL,Lr];have:=kx t;refine TTm.bind hW (HV f t W (by omega) hn.1 (by omega) (by omega) hW) fun s V hs hV _ _=>?_
  have hx:eS 4 (acc++[s])<=eS 4 acc+(mO t+4):=by rw [fX];simp only [eS];omega
  have h:=Ey f r V (acc++[s]) (by omega) hn.2 (by omega) hV;have e1:vI (acc++[s]) (Ab r)=TM.bd (Ab r) fun ss=>TM.ret (acc++(s::ss)):=by simp [vI]
  rw [e1] at h;obtain ⟨a,U,q1,q2,q3⟩:=h.ex;exact ⟨⟨a,U,q1,by omega,q3⟩⟩
def gb(c:List (List Ts)):TIs:=match c with
 |[]=>TM.ret ⟨#[102,97,108,115,101]⟩
 |r::c=>TM.bd (Ab (r::c)) fun ss=>TM.ret (bP ss ⟨#[32,111,114,32]⟩)
theorem qM(f:Nat)(c:List (List Ts))(W:WS)(hf:Ew c<=f)(hn:Hw c=true)(hw:iD c<=1000000000)(hW:okN W):Ht W (gb c) (iD c) (gI f c W):=by
 have bZ:=ky c;have hc:cV c.length=true:=dT (by omega);cases c with
 |nil=>
  simp only [gI,hc,gb];exact TTm.fitR (m:=iD []) ⟨#[102,97,108,115,101]⟩ hW (by show 5<=10;omega) (by show 10<=_;omega)
 |cons r c=>
  have hz:(((eG (r::c)).length:Int)==0)=false:=by
   rw [beq_eq_false_iff_ne];simp only [eG,lM,lC];omega
  simp only [gI,hc,hz,gb];have h:=Ey f (r::c) W [] hf hn (by simp only [eS];omega) hW;have e:vI [] (Ab (r::c))=Ab (r::c):=by simp [vI,CL]
  rw [e] at h;refine TTm.bind hW h fun ss V hs hV _ _=>?_;have:=dB ss ⟨#[32,111,114,32]⟩;have e2:(⟨#[32,111,114,32]⟩:BA).size=4:=rfl;rw [e2] at this;simp only [eS] at hs;exact TTm.fitR _ hV (by omega) (by omega)
def iE(x y:TIs):TIs:=TM.bd x fun a=>TM.bd y fun b=>TM.ret (a++b)
def eF(k:Nat)(s:BA):BA:=(b9 k++s)++⟨#[10]⟩
def TB(W:WS)(x:TIs)(V:WS):Prop:=match x with
 |none=>V.ok=false
 |some (s,k)=>match decide (W.n+k<=4000) with
  |true=>V=⟨W.b++s,W.inn,true,W.n+k⟩
  |false=>V.ok=false
structure TSq (W:WS) (x:TIs) (m:Nat) (r:Q Unit):Prop where
 ex:∃V,r=.ok () V/\V.inn=W.inn/\V.b.size<=W.b.size+m/\(W.ok=false->V.ok=false)/\(W.ok=true->TB W x V)
theorem Ac{W:WS}{x:TIs}{V:WS}(h:TB W x V)(hv:V.ok=true):∃s k,x=some (s,k)/\W.n+k<=4000/\V=⟨W.b++s,W.inn,true,W.n+k⟩:=by
 cases x with
 |none=>exact absurd (h.symm.trans hv) (by decide)
 |some y=>
  obtain ⟨s,k⟩:=y;simp only [TB] at h;cases hk:decide (W.n+(k:Int)<=4000) with
  |false=>rw [hk] at h;exact absurd (h.symm.trans hv) (by decide)
  |true=>rw [hk] at h;subst h;exact ⟨s,k,rfl,oT hk,rfl⟩
theorem xQ{W:WS}{x:TIs}{V:WS}(h:TB W x V)(hv:V.ok=false):∀s k,x=some (s,k)->¬W.n+k<=4000:=by
 rintro s k rfl;simp only [TB] at h;cases hk:decide (W.n+(k:Int)<=4000) with
 |false=>exact oF hk
 |true=>rw [hk] at h;subst h;cases hv
theorem jZ{W:WS}{x:TIs}{V:WS}(hv:V.ok=false)(h:∀s k,x=some (s,k)->¬W.n+k<=4000):TB W x V:=by
 cases x with
 |none=>exact hv
 |some y=>
  obtain ⟨s,k⟩:=y;simp only [TB];rw [decide_eq_false (h s k rfl)];exact hv
theorem HW{W V:WS}{x:TIs}(hn:okN W)(h0:W.ok=false->V.ok=false)(h:W.ok=true->TB W x V):okN V:=fun q=>by
 cases hW:W.ok with
 |false=>exact absurd ((h0 hW).symm.trans q) (by decide)
 |true=>
  obtain ⟨s,k,_,hk,rfl⟩:=Ac (h hW) q;have:=hn hW;simp only at hk ⊢;omega
theorem py{α β:Type}{a:α}{k:Nat}{f:α->TM β}{s:β}{j:Nat}(h:TM.bd (some (a,k)) f=some (s,j)):∃i,f a=some (s,i)/\j=k+i:=by
 simp only [TM.bd] at h;split at h
 ·cases h
 rename_i b i hf;simp only [sI,Prod.mk.injEq] at h;obtain ⟨rfl,rfl⟩:=h;exact ⟨i,hf,rfl⟩
theorem ND{U V V':WS}{x y:TIs}(h:TB U x V)(h1:V.ok=true->TB V y V')(h0:V.ok=false->V'.ok=false):TB U (iE x y) V':=by
 cases hv:V.ok with
 |false=>
  refine jZ (h0 hv) ?_;intro s k e;have hx:=xQ h hv;cases x with
  |none=>cases e
  |some u=>
   obtain ⟨s1,k1⟩:=u;have:=hx s1 k1 rfl;obtain ⟨i,_,rfl⟩:=py e;omega
 |true=>
  obtain ⟨s,k,rfl,hk,rfl⟩:=Ac h hv;have h2:=h1 rfl;cases y with
  |none=>exact h2
  |some v=>
   obtain ⟨s2,k2⟩:=v;simp only [iE,TM.bd,TM.ret,TB] at h2 ⊢;by_cases hq:U.n+(k:Int)+(k2:Int)<=4000
   ·rw [dT hq] at h2;rw [dT (by omega)];simp only at h2 ⊢;rw [h2,ByteArray.append_assoc]
    congr 1
    omega
   rw [decide_eq_false hq] at h2;rw [decide_eq_false (by omega)];exact h2
theorem NE{α:Type}{U V V':WS}{x:TM α}{y:α->TIs}{a:α}(h:TL U x a V)(h1:V.ok=true->TB V (y a) V')(h0:V.ok=false->V'.ok=false):TB U (x.bd y) V':=by
 cases hv:V.ok with
 |false=>
  refine jZ (h0 hv) ?_;intro s k e;have hx:=CK h hv;cases x with
  |none=>cases e
  |some u=>
   obtain ⟨s1,k1⟩:=u;have:=hx s1 k1 rfl;obtain ⟨i,_,rfl⟩:=py e;omega
 |true=>
  obtain ⟨k,rfl,hk,rfl⟩:=zZ h hv;have h2:=h1 rfl;simp only [TM.bd];cases hf:y a with
  |none=>rw [hf] at h2;exact h2
  |some v=>
   obtain ⟨s2,k2⟩:=v;rw [hf] at h2;simp only [TB] at h2 ⊢;have e:U.n+((k+k2:Nat):Int)=U.n+k+k2:=by omega
   rw [e];exact h2
theorem TSq.weak{W:WS}{x:TIs}{m m':Nat}{r:Q Unit}(h:TSq W x m r)(hm:m<=m'):TSq W x m' r:=by
 obtain ⟨V,h1,h2,h3,h4⟩:=h.ex;exact ⟨⟨V,h1,h2,by omega,h4⟩⟩
theorem TSq.seq{W:WS}{x y:TIs}{m m':Nat}{r:Q Unit}{f:WS->Q Unit}(hW:okN W)(h:TSq W x m r)(hf:∀V,okN V->V.inn=W.inn->V.b.size<=W.b.size+m->TSq V y m' (f V)):TSq W (iE x y) (m+m') (r.bind fun _ V=>f V):=by
 obtain ⟨V,rfl,h2,h3,h4,h5⟩:=h.ex;obtain ⟨U,e,g2,g3,g4,g5⟩:=(hf V (HW hW h4 h5) h2 h3).ex;exact ⟨⟨U,e,g2.trans h2,by omega,fun q=>g4 (h4 q),fun q=>ND (h5 q) g5 g4⟩⟩
theorem TSq.aft{α:Type}{μ:α->Nat}{W:WS}{x:TM α}{y:α->TIs}{m m':Nat}{r:Q α}{f:α->WS->Q Unit}(hW:okN W)(h:TTm μ W x m r)(hf:∀a V,μ a<=m->okN V->V.b=W.b->V.inn=W.inn->TSq V (y a) m' (f a V)):TSq W (x.bd y) m' (r.bind f):=by
 obtain ⟨a,V,rfl,h1,h2,h3,h4,h5⟩:=h.ex;obtain ⟨U,e,g2,g3,g4,g5⟩:=(hf a V h1 (TTm.okN (μ:=μ) (m:=m) (r:=.ok a V) hW h4 h5) h2 h3).ex;exact ⟨⟨U,e,g2.trans h3,by rw [<- h2];exact g3,fun q=>g4 (h4 q),fun q=>NE (h5 q) g5 g4⟩⟩
theorem TSq.no{W U:WS}{x y:TIs}{m:Nat}{r:Q Unit}(hU:U.ok=false)(hb:U.b=W.b)(hi:U.inn=W.inn)(h:TSq U x m r):TSq W none m r:=by
 obtain ⟨V,rfl,h2,h3,h4,h5⟩:=h.ex;exact ⟨⟨V,rfl,h2.trans hi,by rw [<- hb];exact h3,fun _=>h4 hU,fun _=>h4 hU⟩⟩
theorem TSq.tick{W:WS}{x:TIs}{m:Nat}{r:Q Unit}(hW:W.ok=true)(hn:W.n+1<=4000)(h:TSq ⟨W.b,W.inn,true,W.n+1⟩ x m r):TSq W (TM.bd (some ((),1)) fun _=>x) m r:=by
 obtain ⟨V,rfl,h2,h3,h4,h5⟩:=h.ex;exact ⟨⟨V,rfl,h2,h3,fun q=>absurd (hW.symm.trans q) (by decide),fun _=>NE (a:=()) (HR (k:=1) hn) (fun _=>h5 rfl) (fun q=>absurd q (by simp))⟩⟩
theorem TSq.guard{W:WS}{x:TIs}{m:Nat}{f:WS->Q Unit}(c:Bool)(hW:okN W)(h:∀U,okN U->U.inn=W.inn->U.b=W.b->TSq U x m (f U)):TSq W (TM.grd c x) m (f (aT W c)):=by
 cases c with
 |true=>rw [kw];exact h W hW rfl rfl
 |false=>exact TSq.no (x:=x) (y:=x) fh rfl rfl (h _ (fun q=>absurd (fh.symm.trans q) (by decide)) rfl rfl)
theorem dv(k:Nat)(s:BA):(eF k s).size=2 * k+s.size+1:=by
 simp only [eF,dX,cY];rfl
theorem TSq.line0{W:WS}{m:Nat}(s:BA)(hW:okN W)(hi:W.inn<=20)(hs:s.size+41<=m)(hm:m<=1000000000)(hb:W.b.size<=10000000000):TSq W (TM.ret (eF W.inn s)) m (bi s W):=by
 have hc:CM s W=true:=by
  unfold CM;rw [dT (show W.inn<=1073741824 by omega),dT (show s.size<=1073741824 by omega),dT (show W.b.size<=70368744177664 by omega)];rfl
 unfold bi;rw [hc];refine ⟨⟨wq W s,rfl,rfl,?_,fun q=>q,fun q=>?_⟩⟩
 ·show (W.b++eF W.inn s).size<=_
  rw [dX,dv];omega
 have h:=hW q;show TB W (some (eF W.inn s,0)) _
 simp only [TB];rw [dT (by omega)];obtain ⟨b,i,o,n⟩:=W;simp only at q;subst q;simp [wq,CN,eF]
theorem TSq.line{W:WS}{k m:Nat}(s:BA)(hW:okN W)(hi:W.inn=k)(hk:k<=20)(hs:s.size+41<=m)(hm:m<=1000000000)(hb:W.b.size<=10000000000):TSq W (TM.ret (eF k s)) m (bi s W):=by
 subst hi;exact TSq.line0 s hW hk hs hm hb
mutual
def dr:Sm->Nat->TIs
 |.mk ap name proc args cond ao aK,k=>match (ap.toList==(⟨#[115,101,116]⟩:BA).toList) with
  |true=>TM.grd ((bJ true false true false false false (.mk ap name proc args cond ao aK))&&(((bR args).length:Int)==1)) (TM.grd (aC name) (TM.bd (ig args) fun t=>TM.ret (eF k (((name++(⟨#[32,61,32]⟩:BA))++t)++(⟨#[59]⟩:BA)))))
  |false=>match (ap.toList==(⟨#[112,117,116]⟩:BA).toList) with
   |true=>TM.grd ((bJ true false true false false false (.mk ap name proc args cond ao aK))&&(((bR args).length:Int)==2)) (TM.grd (aC name) (match args with
    |[x,y]=>TM.bd (exprI x 1 1) fun s=>TM.bd (exprI y 1 1) fun u=>TM.ret (eF k (((((name++(⟨#[91]⟩:BA))++s)++(⟨#[93,32,61,32]⟩:BA))++u)++(⟨#[59]⟩:BA)))
    |_=>none))
   |false=>match (ap.toList==(⟨#[99,97,108,108]⟩:BA).toList) with
    |true=>TM.grd (bJ true true true false false false (.mk ap name proc args cond ao aK)) (TM.grd (aC name) (TM.grd (aC proc) (TM.bd (ig args) fun t=>TM.ret (eF k (((((name++(⟨#[32,61,32,99,97,108,108,32]⟩:BA))++proc)++(⟨#[40]⟩:BA))++t)++(⟨#[41,59]⟩:BA))))))
    |false=>match (ap.toList==(⟨#[105,102]⟩:BA).toList) with
     |true=>TM.grd (bJ false false false true true true (.mk ap name proc args cond ao aK)) (TM.bd (gb cond) fun c=>iE (TM.ret (eF k (((⟨#[105,102,32]⟩:BA)++c)++(⟨#[32,123]⟩:BA)))) (iE (bI ao (k+1)) (match decide (((bF aK).length:Int)>0) with
      |true=>iE (TM.ret (eF k (⟨#[125,32,101,108,115,101,32,123]⟩:BA))) (iE (bI aK (k+1)) (TM.ret (eF k (⟨#[125]⟩:BA))))
      |false=>TM.ret (eF k (⟨#[125]⟩:BA)))))
     |false=>match (ap.toList==(⟨#[119,104,105,108,101]⟩:BA).toList) with
      |true=>TM.grd (bJ false false false true true false (.mk ap name proc args cond ao aK)) (TM.bd (gb cond) fun c=>iE (TM.ret (eF k (((⟨#[119,104,105,108,101,32]⟩:BA)++c)++(⟨#[32,123]⟩:BA)))) (iE (bI ao (k+1)) (TM.ret (eF k (⟨#[125]⟩:BA)))))
      |false=>match ((ap.toList==(⟨#[97,115,115,101,114,116]⟩:BA).toList)||(ap.toList==(⟨#[97,115,115,117,109,101]⟩:BA).toList)) with
       |true=>TM.grd (bJ false false false true false false (.mk ap name proc args cond ao aK)) (TM.bd (gb cond) fun c=>TM.ret (eF k (((ap++(⟨#[32]⟩:BA))++c)++(⟨#[59]⟩:BA))))
       |false=>match (ap.toList==(⟨#[114,101,97,100]⟩:BA).toList) with
        |true=>TM.grd (bJ true false false false false false (.mk ap name proc args cond ao aK)) (TM.grd (aC name) (TM.ret (eF k (((⟨#[114,101,97,100,32]⟩:BA)++name)++(⟨#[59]⟩:BA)))))
        |false=>none
def bI:List Sm->Nat->TIs
 |[],_=>TM.ret ⟨#[]⟩
 |s::r,k=>match decide ((k:Int)<=12) with
  |true=>TM.bd (some ((),1)) fun _=>iE (dr s k) (bI r k)
  |false=>none
end
mutual
def pz:Sm->Nat
 |.mk _ _ _ _ _ ao aK=>2+lq ao+lq aK
def lq:List Sm->Nat
 |[]=>2
 |s::r=>2+pz s+lq r
end
mutual
def im:Sm->Nat
 |.mk ap name proc args cond ao aK=>400+ap.size+name.size+proc.size+gD args+iD cond+dG ao+dG aK
def dG:List Sm->Nat
 |[]=>1
 |s::r=>1+im s+dG r
end
mutual
def tx(n:Nat):Sm->Bool
 |.mk _ _ _ args cond ao aK=>(vH args&&decide (la args<=n))&&(Hw cond&&decide (Ew cond<=n))&&okB n ao&&okB n aK
def okB(n:Nat):List Sm->Bool
 |[]=>true
 |s::r=>tx n s&&okB n r
end
theorem UM{α β γ:Type}(r:Q α)(f:α->WS->Q β)(g:β->WS->Q γ):((r.bind f).bind g)=r.bind fun a V=>(f a V).bind g:=by cases r <;> rfl
def UN(n f:Nat):Prop:=∀(s:Sm) (k:Nat) (W:WS),pz s<=f->tx n s=true->im s+W.b.size<=1000000000->okN W->W.ok=true->W.inn=k->k<=13->TSq W (dr s k) (im s) (pA n f s k W)
def Ua(n f:Nat):Prop:=∀(l:List Sm) (k:Nat) (W:WS),lq l<=f->okB n l=true->dG l+W.b.size<=1000000000->okN W->W.inn=k->k<=14->TSq W (bI l k) (dG l) (jp n f l k W)
def UO(n f:Nat):Prop:=∀(l:List Sm) (k:Nat) (W:WS),lq l+1<=f->okB n l=true->dG l+W.b.size<=1000000000->okN W->W.inn=k->k<=13->TSq W (bI l (k+1)) (dG l) (dY n f l (k+1) W)
theorem kz(r:List Sm):r.length<=dG r:=by
 induction r with
 |nil=>exact Nat.zero_le _
 |cons t r ih=>simp only [dG,lC];omega
theorem F8{n f:Nat}(ih:Ua n f):UO n (f+1):=by
 intro l k W hf cd hw hW hi hk;have bZ:=kz l;have Hx:cV W.inn=true:=dT (by omega);have HX:cV l.length=true:=dT (by omega);simp only [dY,Hx,HX,Bool.and_self];have h:=ih l (k+1) ⟨W.b,W.inn+1,W.ok,W.n⟩ (by omega) cd hw hW (by simp only;omega) (by omega);obtain ⟨V,e,h2,h3,h4,h5⟩:=h.ex;have ek:((k:Int)+1)=((k+1:Nat):Int):=by omega
 rw [ek,e];simp only at h2 h3 h4 h5;have K1:ox V.inn=true:=by
  unfold ox;rw [dT (show 1<=V.inn by omega),dT (show V.inn<=1073741824 by omega)];rfl
 simp only [Q.bind,K1];refine ⟨⟨_,rfl,by simp only;omega,h3,h4,fun q=>?_⟩⟩;have h5:=h5 q;cases hv:V.ok with
 |false=>exact jZ rfl (fun s j e=>xQ (W:=⟨W.b,W.inn+1,W.ok,W.n⟩) h5 hv s j e)
 |true=>
  obtain ⟨s,j,e1,hj,rfl⟩:=Ac h5 hv;rw [e1];simp only [TB] at hj ⊢;rw [dT hj];simp
theorem HY{n f:Nat}(ih:Ua n f)(X7:UN n f):Ua n (f+1):=by
 intro l k W hf cd hw hW hi hk;cases l with
 |nil=>
  simp only [jp,bI];refine ⟨⟨W,rfl,rfl,by omega,id,fun q=>?_⟩⟩;have h:=hW q;show TB W (some (⟨#[]⟩,0)) W
  simp only [TB];rw [dT (by omega)];obtain ⟨b,i,o,m⟩:=W;simp only at q;subst q;simp
  apply ByteArray.ext;simp
 |cons s r=>
  simp only [lq] at hf;simp only [okB,bE] at cd;simp only [dG] at hw ⊢;simp only [jp,bI];cases hq:W.ok with
  |false=>
   have hl:=tr (d:=k) hq;rw [hl];have h:=ih r k (cU W k) (by omega) cd.2 (by show dG r+W.b.size<=_;omega) (fun q=>absurd (hl.symm.trans q) (by decide)) hi hk;obtain ⟨V,e,h2,h3,h4,h5⟩:=h.ex;rw [e];exact ⟨⟨V,rfl,h2,by have:(cU W k).b=W.b:=rfl;rw [this] at h3;omega,fun _=>h4 hl,fun q=>absurd (hq.symm.trans q) (by decide)⟩⟩
  |true=>
   have hn:=hW hq;have hl:=wl (d:=k) hq hn;have bad:(cU W k).ok=false->(∀x j,(match decide ((k:Int)<=12) with
     |true=>TM.bd (some ((),1)) fun _=>iE (dr s k) (bI r k)
     |false=>none)=some (x,j)->¬W.n+j<=4000)->TSq W (match decide ((k:Int)<=12) with
     |true=>TM.bd (some ((),1)) fun _=>iE (dr s k) (bI r k)
     |false=>none) (1+im s+dG r) (match (cU W k).ok with
     |true=>(pA n f s k (cU W k)).bind fun _ V=>jp n f r k V
     |false=>jp n f r k (cU W k)):=by
    intro hl hx;rw [hl];have h:=ih r k (cU W k) (by omega) cd.2 (by show dG r+W.b.size<=_;omega) (fun q=>absurd (hl.symm.trans q) (by decide)) hi hk;obtain ⟨V,e,h2,h3,h4,h5⟩:=h.ex;simp only [e];exact ⟨⟨V,rfl,h2,by have:(cU W k).b=W.b:=rfl;rw [this] at h3;omega,fun _=>h4 hl,fun _=>jZ (h4 hl) hx⟩⟩
   cases hd:decide ((k:Int)<=12) with
   |false=>
    rw [hd] at bad;exact bad (by rw [hl,hd];rfl) (fun x j e=>by cases e)
   |true=>
    have K2:=oT hd;cases nN:decide (W.n+1<=4000) with
    |false=>
     have nN:=oF nN;rw [hd] at bad;refine bad (by rw [hl,decide_eq_false nN];simp) (fun x j e=>?_);obtain ⟨i,_,rfl⟩:=py e;omega
    |true=>
     have nN:=oT nN;have hl:cU W k=⟨W.b,W.inn,true,W.n+1⟩:=by rw [hl,hd,dT nN];rfl
     rw [hl];refine TSq.tick hq nN ((TSq.seq (m:=im s) (m':=dG r) (f:=fun V=>jp n f r k V) (fun _=>by simp only;omega) (X7 s k ⟨W.b,W.inn,true,W.n+1⟩ (by omega) cd.1 (by simp only;omega) (fun _=>by simp only;omega) rfl hi (by omega)) fun V hV HZ Ad=>?_).weak (by omega));simp only at HZ Ad;exact ih r k V (by omega) cd.2 (by omega) hV (by omega) (by omega)
theorem dD(l:List Sm):2<=lq l:=by cases l <;> simp only [lq] <;> omega
theorem H4{n f:Nat}(ih:UO n f):UN n (f+1):=by
 intro s k W hf cd hw hW hq hi hk;subst hi;obtain ⟨ap,name,proc,args,cond,ao,aK⟩:=s;simp only [pz] at hf;simp only [tx,bE,dE] at cd;simp only [im] at hw ⊢;have X8:=hw;have UP:=cd.1.1.1.2;have X9:=cd.1.1.2.2;have hl:=dU args;have K3:=dD ao;have K4:=dD aK;have eV:bj name=true:=dT (by omega);have NF:bj proc=true:=dT (by omega);have xR:bj ap=true:=dT (by omega);have sE:IntKind.i64.wrap ((W.inn:Int)+1)=(W.inn:Int)+1:=dl (by omega) (by omega);rw [dr.eq_def];simp only [pA,eV,NF,xR,sE,Bool.and_self];have e0:(⟨#[32,61,32]⟩:BA).size=3:=rfl;have e1:(⟨#[59]⟩:BA).size=1:=rfl;have e2:(⟨#[91]⟩:BA).size=1:=rfl;have e3:(⟨#[93,32,61,32]⟩:BA).size=4:=rfl;have e4:(⟨#[32,61,32,99,97,108,108,32]⟩:BA).size=8:=rfl;have e5:(⟨#[40]⟩:BA).size=1:=rfl;have e6:(⟨#[41,59]⟩:BA).size=2:=rfl;have e7:(⟨#[105,102,32]⟩:BA).size=3:=rfl;have e8:(⟨#[32,123]⟩:BA).size=2:=rfl;have e9:(⟨#[125,32,101,108,115,101,32,123]⟩:BA).size=8:=rfl;have Z7:(⟨#[125]⟩:BA).size=1:=rfl;have WR:(⟨#[119,104,105,108,101,32]⟩:BA).size=6:=rfl;have WQ:(⟨#[32]⟩:BA).size=1:=rfl;have Z8:(⟨#[114,101,97,100,32]⟩:BA).size=5:=rfl;cases k1:(ap.toList==(⟨#[115,101,116]⟩:BA).toList) with
 |true=>
  dsimp only;have qN:∀U1,okN U1->U1.inn=W.inn->U1.b=W.b->TSq U1 (TM.grd (aC name) (TM.bd (ig args) fun t=>TM.ret (eF W.inn (((name++(⟨#[32,61,32]⟩:BA))++t)++(⟨#[59]⟩:BA))))) (400+ap.size+name.size+proc.size+gD args+iD cond+dG ao+dG aK) ((ij n args (aT U1 (aC name))).bind fun t V=>bi (((name++(⟨#[32,61,32]⟩:BA))++t)++(⟨#[59]⟩:BA)) V):=by
   intro U1 Ae F9 qO;have xS:∀U2,okN U2->U2.inn=U1.inn->U2.b=U1.b->TSq U2 (TM.bd (ig args) fun t=>TM.ret (eF W.inn (((name++(⟨#[32,61,32]⟩:BA))++t)++(⟨#[59]⟩:BA)))) (400+ap.size+name.size+proc.size+gD args+iD cond+dG ao+dG aK) ((ij n args U2).bind fun t V=>bi (((name++(⟨#[32,61,32]⟩:BA))++t)++(⟨#[59]⟩:BA)) V):=by
    intro U2 Hy Ls xU;have RJ:=congrArg ByteArray.size qO;have Ub:=congrArg ByteArray.size xU;refine TSq.aft Hy (wo n args U2 (by omega) cd.1.1.1.1 (by omega) (by omega) Hy) fun t V ht hV Ad HZ=>?_;have hz:=congrArg ByteArray.size Ad;exact TSq.line (((name++(⟨#[32,61,32]⟩:BA))++t)++(⟨#[59]⟩:BA)) hV (by omega) (by omega) (by simp only [dX];omega) (by omega) (by omega)
   exact TSq.guard _ Ae xS
  exact TSq.guard _ hW qN
 |false=>
  dsimp only;cases k2:(ap.toList==(⟨#[112,117,116]⟩:BA).toList) with
  |true=>
   dsimp only;cases hc:((bJ true false true false false false (.mk ap name proc args cond ao aK))&&(((bR args).length:Int)==2)) with
   |false=>
    have hm:=fh (W:=W);simp only [hm];exact ⟨⟨_,rfl,rfl,by show W.b.size<=_;omega,fun _=>hm,fun _=>hm⟩⟩
   |true=>
    have HX:=hc;obtain ⟨x,y,rfl⟩:=lx hc;rw [kw,hq];simp only [eV];simp only [vH,Bool.and_true,bE] at cd;simp only [xO] at hw X8 ⊢;simp only [tv] at UP;dsimp only [TM.grd];have qN:∀U1,okN U1->U1.inn=W.inn->U1.b=W.b->TSq U1 (TM.bd (exprI x 1 1) fun s=>TM.bd (exprI y 1 1) fun u=>TM.ret (eF W.inn (((((name++(⟨#[91]⟩:BA))++s)++(⟨#[93,32,61,32]⟩:BA))++u)++(⟨#[59]⟩:BA)))) (400+ap.size+name.size+proc.size+(wtE x+2+(wtE y+2))+iD cond+dG ao+dG aK) ((cp n x 1 1 U1).bind fun s V=>(cp n y 1 1 V).bind fun u V=>bi (((((name++(⟨#[91]⟩:BA))++s)++(⟨#[93,32,61,32]⟩:BA))++u)++(⟨#[59]⟩:BA)) V):=by
     intro U1 Ae F9 qO;have RJ:=congrArg ByteArray.size qO;refine TSq.aft Ae (jY n x U1 (by omega) cd.1.1.1.1.1 (by omega) Ae) fun s V hs hV Ad HZ=>?_;refine TSq.aft hV (jY n y V (by omega) cd.1.1.1.1.2 (by omega) hV) fun u V2 hu jV OR RZ=>?_;have hz:=congrArg ByteArray.size Ad;have RK:=congrArg ByteArray.size OR;exact TSq.line (((((name++(⟨#[91]⟩:BA))++s)++(⟨#[93,32,61,32]⟩:BA))++u)++(⟨#[59]⟩:BA)) jV (by omega) (by omega) (by simp only [dX];omega) (by omega) (by omega)
    exact TSq.guard _ hW qN
  |false=>
   dsimp only;cases k3:(ap.toList==(⟨#[99,97,108,108]⟩:BA).toList) with
   |true=>
    dsimp only;have qN:∀U1,okN U1->U1.inn=W.inn->U1.b=W.b->TSq U1 (TM.grd (aC name) (TM.grd (aC proc) (TM.bd (ig args) fun t=>TM.ret (eF W.inn (((((name++(⟨#[32,61,32,99,97,108,108,32]⟩:BA))++proc)++(⟨#[40]⟩:BA))++t)++(⟨#[41,59]⟩:BA)))))) (400+ap.size+name.size+proc.size+gD args+iD cond+dG ao+dG aK) ((ij n args (aT (aT U1 (aC name)) (aC proc))).bind fun t V=>bi (((((name++(⟨#[32,61,32,99,97,108,108,32]⟩:BA))++proc)++(⟨#[40]⟩:BA))++t)++(⟨#[41,59]⟩:BA)) V):=by
     intro U1 Ae F9 qO;have xS:∀U2,okN U2->U2.inn=U1.inn->U2.b=U1.b->TSq U2 (TM.grd (aC proc) (TM.bd (ig args) fun t=>TM.ret (eF W.inn (((((name++(⟨#[32,61,32,99,97,108,108,32]⟩:BA))++proc)++(⟨#[40]⟩:BA))++t)++(⟨#[41,59]⟩:BA))))) (400+ap.size+name.size+proc.size+gD args+iD cond+dG ao+dG aK) ((ij n args (aT U2 (aC proc))).bind fun t V=>bi (((((name++(⟨#[32,61,32,99,97,108,108,32]⟩:BA))++proc)++(⟨#[40]⟩:BA))++t)++(⟨#[41,59]⟩:BA)) V):=by
      intro U2 Hy Ls xU;have UQ:∀U3,okN U3->U3.inn=U2.inn->U3.b=U2.b->TSq U3 (TM.bd (ig args) fun t=>TM.ret (eF W.inn (((((name++(⟨#[32,61,32,99,97,108,108,32]⟩:BA))++proc)++(⟨#[40]⟩:BA))++t)++(⟨#[41,59]⟩:BA)))) (400+ap.size+name.size+proc.size+gD args+iD cond+dG ao+dG aK) ((ij n args U3).bind fun t V=>bi (((((name++(⟨#[32,61,32,99,97,108,108,32]⟩:BA))++proc)++(⟨#[40]⟩:BA))++t)++(⟨#[41,59]⟩:BA)) V):=by
       intro U3 WU X_ UR;have RJ:=congrArg ByteArray.size qO;have Ub:=congrArg ByteArray.size xU;have Z9:=congrArg ByteArray.size UR;refine TSq.aft WU (wo n args U3 (by omega) cd.1.1.1.1 (by omega) (by omega) WU) fun t V ht hV Ad HZ=>?_;have hz:=congrArg ByteArray.size Ad;exact TSq.line (((((name++(⟨#[32,61,32,99,97,108,108,32]⟩:BA))++proc)++(⟨#[40]⟩:BA))++t)++(⟨#[41,59]⟩:BA)) hV (by omega) (by omega) (by simp only [dX];omega) (by omega) (by omega)
      exact TSq.guard _ Hy UQ
     exact TSq.guard _ Ae xS
    exact TSq.guard _ hW qN
   |false=>
    dsimp only;cases k4:(ap.toList==(⟨#[105,102]⟩:BA).toList) with
    |true=>
     dsimp only;have qN:∀U1,okN U1->U1.inn=W.inn->U1.b=W.b->TSq U1 (TM.bd (gb cond) fun c=>iE (TM.ret (eF W.inn (((⟨#[105,102,32]⟩:BA)++c)++(⟨#[32,123]⟩:BA)))) (iE (bI ao (W.inn+1)) (match decide (((bF aK).length:Int)>0) with
      |true=>iE (TM.ret (eF W.inn (⟨#[125,32,101,108,115,101,32,123]⟩:BA))) (iE (bI aK (W.inn+1)) (TM.ret (eF W.inn (⟨#[125]⟩:BA))))
      |false=>TM.ret (eF W.inn (⟨#[125]⟩:BA))))) (400+ap.size+name.size+proc.size+gD args+iD cond+dG ao+dG aK) ((gI n cond U1).bind fun c V=>(bi (((⟨#[105,102,32]⟩:BA)++c)++(⟨#[32,123]⟩:BA)) V).bind fun _ V=>(dY n f ao ((W.inn:Int)+1) V).bind fun _ V=>match decide (((bF aK).length:Int)>0) with
      |true=>(bi (⟨#[125,32,101,108,115,101,32,123]⟩:BA) V).bind fun _ V=>(dY n f aK ((W.inn:Int)+1) V).bind fun _ V=>bi (⟨#[125]⟩:BA) V
      |false=>bi (⟨#[125]⟩:BA) V):=by
      intro U1 Ae F9 qO;have RJ:=congrArg ByteArray.size qO;refine TSq.aft Ae (qM n cond U1 (by omega) cd.1.1.2.1 (by omega) Ae) fun c V hc hV Ad HZ=>?_;have hz:=congrArg ByteArray.size Ad;refine (TSq.seq (m:=c.size+60) (m':=dG ao+60+dG aK+60+60) hV (TSq.line (((⟨#[105,102,32]⟩:BA)++c)++(⟨#[32,123]⟩:BA)) hV (by omega) (by omega) (by simp only [dX];omega) (by omega) (by omega)) fun V2 jV RZ OR=>?_).weak (by omega);refine (TSq.seq (m:=dG ao) (m':=60+dG aK+60) jV (ih ao W.inn V2 (by omega) cd.1.2 (by omega) jV (by omega) (by omega)) fun V3 xV OS OT=>?_).weak (by omega)
      cases decide (((bF aK).length:Int)>0) with
      |false=>exact TSq.line (⟨#[125]⟩:BA) xV (by omega) (by omega) (by omega) (by omega) (by omega)
      |true=>
       refine (TSq.seq (m:=60) (m':=dG aK+60) xV (TSq.line (⟨#[125,32,101,108,115,101,32,123]⟩:BA) xV (by omega) (by omega) (by omega) (by omega) (by omega)) fun V4 Uc R0 R1=>?_).weak (by omega);refine (TSq.seq (m:=dG aK) (m':=60) Uc (ih aK W.inn V4 (by omega) cd.2 (by omega) Uc (by omega) (by omega)) fun V5 Ud US UT=>?_).weak (by omega);exact TSq.line (⟨#[125]⟩:BA) Ud (by omega) (by omega) (by omega) (by omega) (by omega)
     exact TSq.guard _ hW qN
    |false=>
     dsimp only;cases k5:(ap.toList==(⟨#[119,104,105,108,101]⟩:BA).toList) with
     |true=>
      dsimp only;have qN:∀U1,okN U1->U1.inn=W.inn->U1.b=W.b->TSq U1 (TM.bd (gb cond) fun c=>iE (TM.ret (eF W.inn (((⟨#[119,104,105,108,101,32]⟩:BA)++c)++(⟨#[32,123]⟩:BA)))) (iE (bI ao (W.inn+1)) (TM.ret (eF W.inn (⟨#[125]⟩:BA))))) (400+ap.size+name.size+proc.size+gD args+iD cond+dG ao+dG aK) ((gI n cond U1).bind fun c V=>(bi (((⟨#[119,104,105,108,101,32]⟩:BA)++c)++(⟨#[32,123]⟩:BA)) V).bind fun _ V=>(dY n f ao ((W.inn:Int)+1) V).bind fun _ V=>bi (⟨#[125]⟩:BA) V):=by
       intro U1 Ae F9 qO;have RJ:=congrArg ByteArray.size qO;refine TSq.aft Ae (qM n cond U1 (by omega) cd.1.1.2.1 (by omega) Ae) fun c V hc hV Ad HZ=>?_;have hz:=congrArg ByteArray.size Ad;refine (TSq.seq (m:=c.size+60) (m':=dG ao+60+dG aK+60+60) hV (TSq.line (((⟨#[119,104,105,108,101,32]⟩:BA)++c)++(⟨#[32,123]⟩:BA)) hV (by omega) (by omega) (by simp only [dX];omega) (by omega) (by omega)) fun V2 jV RZ OR=>?_).weak (by omega);refine (TSq.seq (m:=dG ao) (m':=60+dG aK+60) jV (ih ao W.inn V2 (by omega) cd.1.2 (by omega) jV (by omega) (by omega)) fun V3 xV OS OT=>?_).weak (by omega);exact TSq.line (⟨#[125]⟩:BA) xV (by omega) (by omega) (by omega) (by omega) (by omega)
      exact TSq.guard _ hW qN
     |false=>
      dsimp only;cases k6:((ap.toList==(⟨#[97,115,115,101,114,116]⟩:BA).toList)||(ap.toList==(⟨#[97,115,115,117,109,101]⟩:BA).toList)) with
      |true=>
       dsimp only;have qN:∀U1,okN U1->U1.inn=W.inn->U1.b=W.b->TSq U1 (TM.bd (gb cond) fun c=>TM.ret (eF W.inn (((ap++(⟨#[32]⟩:BA))++c)++(⟨#[59]⟩:BA)))) (400+ap.size+name.size+proc.size+gD args+iD cond+dG ao+dG aK) ((gI n cond U1).bind fun c V=>bi (((ap++(⟨#[32]⟩:BA))++c)++(⟨#[59]⟩:BA)) V):=by
        intro U1 Ae F9 qO;have RJ:=congrArg ByteArray.size qO;refine TSq.aft Ae (qM n cond U1 (by omega) cd.1.1.2.1 (by omega) Ae) fun c V hc hV Ad HZ=>?_;have hz:=congrArg ByteArray.size Ad;exact TSq.line (((ap++(⟨#[32]⟩:BA))++c)++(⟨#[59]⟩:BA)) hV (by omega) (by omega) (by simp only [dX];omega) (by omega) (by omega)
       exact TSq.guard _ hW qN
      |false=>
       dsimp only;cases k7:(ap.toList==(⟨#[114,101,97,100]⟩:BA).toList) with
       |true=>
        dsimp only;have qN:∀U1,okN U1->U1.inn=W.inn->U1.b=W.b->TSq U1 (TM.grd (aC name) (TM.ret (eF W.inn (((⟨#[114,101,97,100,32]⟩:BA)++name)++(⟨#[59]⟩:BA))))) (400+ap.size+name.size+proc.size+gD args+iD cond+dG ao+dG aK) (bi (((⟨#[114,101,97,100,32]⟩:BA)++name)++(⟨#[59]⟩:BA)) (aT U1 (aC name))):=by
         intro U1 Ae F9 qO;have xS:∀U2,okN U2->U2.inn=U1.inn->U2.b=U1.b->TSq U2 (TM.ret (eF W.inn (((⟨#[114,101,97,100,32]⟩:BA)++name)++(⟨#[59]⟩:BA)))) (400+ap.size+name.size+proc.size+gD args+iD cond+dG ao+dG aK) (bi (((⟨#[114,101,97,100,32]⟩:BA)++name)++(⟨#[59]⟩:BA)) U2):=by
          intro U2 Hy Ls xU;have RJ:=congrArg ByteArray.size qO;have Ub:=congrArg ByteArray.size xU;exact TSq.line (((⟨#[114,101,97,100,32]⟩:BA)++name)++(⟨#[59]⟩:BA)) Hy (by omega) (by omega) (by simp only [dX];omega) (by omega) (by omega)
         exact TSq.guard _ Ae xS
        exact TSq.guard _ hW qN
       |false=>
        dsimp only;exact ⟨⟨_,rfl,rfl,by show W.b.size<=_;omega,fun _=>fh,fun _=>fh⟩⟩
theorem j0(n:Nat):∀f,Ua n f/\UN n f/\UO n f
 |0=>⟨fun l k W h=>by have:=dD l;omega,fun s k W h=>by obtain ⟨_,_,_,_,_,_,_⟩:=s;simp only [pz] at h;omega,fun l k W h=>by omega⟩
 |f+1=>⟨HY (j0 n f).1 (j0 n f).2.1,H4 (j0 n f).2.2,F8 (j0 n f).1⟩

def rQ:List BA->TIs
 |[]=>TM.ret ⟨#[]⟩
 |v::r=>TM.grd (aC v) (iE (TM.ret (eF 0 (((⟨#[118,97,114,32]⟩:BA)++v)++(⟨#[59]⟩:BA)))) (rQ r))
def nO:List Ar->TIs
 |[]=>TM.ret ⟨#[]⟩
 |⟨nm,sz⟩::r=>TM.grd (decide (sz≥0)&&decide (sz<=1099511627776)) (TM.grd (aC nm) (iE (TM.ret (eF 0 (((((⟨#[97,114,114,97,121,32]⟩:BA)++nm)++(⟨#[91]⟩:BA))++dH sz)++(⟨#[93,59]⟩:BA)))) (nO r)))
def Af(l:List BA):Bool:=l.all aC
def eW:List Pc->TIs
 |[]=>TM.ret ⟨#[]⟩
 |⟨nm,ps,bd,rt⟩::r=>TM.grd (Af ps) (TM.grd (aC nm) (iE (TM.ret (eF 0 (((((⟨#[112,114,111,99,32]⟩:BA)++nm)++(⟨#[40]⟩:BA))++bP ps (⟨#[44,32]⟩:BA))++(⟨#[41,32,123]⟩:BA)))) (iE (bI bd 1) (iE (TM.bd (exprI rt 1 1) fun s=>TM.ret (eF 1 (((⟨#[114,101,116,117,114,110,32]⟩:BA)++s)++(⟨#[59]⟩:BA)))) (iE (TM.ret (eF 0 (⟨#[125]⟩:BA))) (eW r))))))
def ly(m:List Sm):TIs:=iE (TM.ret (eF 0 (⟨#[109,97,105,110,32,123]⟩:BA))) (iE (bI m 1) (TM.ret (eF 0 (⟨#[125]⟩:BA))))
def jq(p:Pg):TIs:=iE (rQ p.vars) (iE (nO p.arrays) (iE (eW p.procs) (ly p.main)))
def nu:List BA->Nat
 |[]=>1
 |v::r=>v.size+60+nu r
def xW:List Ar->Nat
 |[]=>1
 |a::r=>a.name.size+90+xW r
def lz:List Pc->Nat
 |[]=>1
 |p::r=>p.name.size+300+nu p.params+dG p.body+wtE p.ret+lz r
def wtPg(p:Pg):Nat:=200+nu p.vars+xW p.arrays+lz p.procs+dG p.main
def Lt:List Ar->Bool
 |[]=>true
 |a::r=>jX a.size&&Lt r
def xX(n f:Nat):List Pc->Bool
 |[]=>true
 |p::r=>(okB n p.body&&decide (lq p.body+1<=f))&&(nmE p.ret&&decide (fuE p.ret<=n))&&xX n f r
def okPg(n f:Nat)(p:Pg):Bool:=Lt p.arrays&&xX n f p.procs&&(okB n p.main&&decide (lq p.main+1<=f))
theorem xY{W:WS}(hW:okN W)(m:Nat):TSq W (TM.ret ⟨#[]⟩) m (.ok () W):=by
 refine ⟨⟨W,rfl,rfl,by omega,id,fun q=>?_⟩⟩;have h:=hW q;show TB W (some (⟨#[]⟩,0)) W
 simp only [TB];rw [dT (by omega)];obtain ⟨b,i,o,m⟩:=W;simp only at q;subst q;simp
 apply ByteArray.ext;simp
theorem Ag:∀(l:List BA) (W:WS),nu l+W.b.size<=1000000000->okN W->W.inn=0->TSq W (rQ l) (nu l) (pB l W)
 |[],W,_,hW,_=>xY hW _
 |v::r,W,hw,hW,hi=>by
  simp only [nu] at hw ⊢;have hc:bj v=true:=dT (by omega);simp only [pB,hc,rQ];have key:∀U,okN U->U.inn=W.inn->U.b=W.b->TSq U (iE (TM.ret (eF 0 (((⟨#[118,97,114,32]⟩:BA)++v)++(⟨#[59]⟩:BA)))) (rQ r)) (v.size+60+nu r) ((bi (((⟨#[118,97,114,32]⟩:BA)++v)++(⟨#[59]⟩:BA)) U).bind fun _ V=>pB r V):=by
   intro U hU WV R4;have hz:=congrArg ByteArray.size R4;have e0:(⟨#[118,97,114,32]⟩:BA).size=4:=rfl;have e1:(⟨#[59]⟩:BA).size=1:=rfl;refine (TSq.seq (m:=v.size+60) (m':=nu r) hU (TSq.line (((⟨#[118,97,114,32]⟩:BA)++v)++(⟨#[59]⟩:BA)) hU (by omega) (by omega) (by simp only [dX];omega) (by omega) (by omega)) fun V hV HZ Ad=>?_).weak (by omega);exact Ag r V (by omega) hV (by omega)
  exact TSq.guard _ hW key
theorem Ah:∀(l:List Ar) (W:WS),Lt l=true->xW l+W.b.size<=1000000000->okN W->W.inn=0->TSq W (nO l) (xW l) (lb l W)
 |[],W,_,_,hW,_=>xY hW _
 |⟨nm,sz⟩::r,W,cd,hw,hW,hi=>by
  simp only [xW] at hw ⊢;simp only [Lt,bE] at cd;have hc:bj nm=true:=dT (by omega);have lB:=gP cd.1;simp only [lb,hc,cd.1,nO,Bool.and_self];have key:∀U,okN U->U.inn=W.inn->U.b=W.b->TSq U (TM.grd (aC nm) (iE (TM.ret (eF 0 (((((⟨#[97,114,114,97,121,32]⟩:BA)++nm)++(⟨#[91]⟩:BA))++dH sz)++(⟨#[93,59]⟩:BA)))) (nO r))) (nm.size+90+xW r) ((bi (((((⟨#[97,114,114,97,121,32]⟩:BA)++nm)++(⟨#[91]⟩:BA))++dH sz)++(⟨#[93,59]⟩:BA)) (aT U (aC nm))).bind fun _ V=>lb r V):=by
   intro U hU WV R4;have hz:=congrArg ByteArray.size R4;have e0:(⟨#[97,114,114,97,121,32]⟩:BA).size=6:=rfl;have e1:(⟨#[91]⟩:BA).size=1:=rfl;have e2:(⟨#[93,59]⟩:BA).size=2:=rfl;have xS:∀U2,okN U2->U2.inn=U.inn->U2.b=U.b->TSq U2 (iE (TM.ret (eF 0 (((((⟨#[97,114,114,97,121,32]⟩:BA)++nm)++(⟨#[91]⟩:BA))++dH sz)++(⟨#[93,59]⟩:BA)))) (nO r)) (nm.size+90+xW r) ((bi (((((⟨#[97,114,114,97,121,32]⟩:BA)++nm)++(⟨#[91]⟩:BA))++dH sz)++(⟨#[93,59]⟩:BA)) U2).bind fun _ V=>lb r V):=by
    intro U2 Hy Ls xU;have Ub:=congrArg ByteArray.size xU;refine (TSq.seq (m:=nm.size+90) (m':=xW r) Hy (TSq.line (((((⟨#[97,114,114,97,121,32]⟩:BA)++nm)++(⟨#[91]⟩:BA))++dH sz)++(⟨#[93,59]⟩:BA)) Hy (by omega) (by omega) (by simp only [dX];omega) (by omega) (by omega)) fun V hV HZ Ad=>?_).weak (by omega);exact Ah r V cd.2 (by omega) hV (by omega)
   exact TSq.guard _ hU xS
  exact TSq.guard _ hW key
theorem F_(W:WS)(a b:Bool):aT (aT W a) b=aT W (a&&b):=by simp [aT,Bool.and_assoc]
theorem Ai:∀(l:List BA) (W:WS),nu l<=1000000000->tz l W=.ok () (aT W (Af l))
 |[],W,_=>by rw [show Af []=true from rfl,kw];rfl
 |v::r,W,h=>by
  simp only [nu] at h;have hc:bj v=true:=dT (by omega);simp only [tz,hc];rw [Ai r _ (by omega),F_];rfl
theorem Lu(l:List BA):eS 2 l<=nu l:=by
 induction l with
 |nil=>exact Nat.zero_le _
 |cons v r ih=>simp only [eS,nu];omega
theorem ew(l:List BA):l.length<=nu l:=by
 induction l with
 |nil=>exact Nat.zero_le _
 |cons v r ih=>simp only [nu,lC];omega
theorem mP(l:List Ar):l.length<=xW l:=by
 induction l with
 |nil=>exact Nat.zero_le _
 |cons v r ih=>simp only [xW,lC];omega
theorem kA(l:List Pc):l.length<=lz l:=by
 induction l with
 |nil=>exact Nat.zero_le _
 |cons v r ih=>simp only [lz,lC];omega
theorem rR(l:List BA):(bP l (⟨#[44,32]⟩:BA)).size<=nu l:=by
 have:=dB l (⟨#[44,32]⟩:BA);have e2:(⟨#[44,32]⟩:BA).size=2:=rfl;rw [e2] at this;have:=Lu l;omega
theorem TSq.inn{W:WS}{j:Nat}{x y:TIs}{m m':Nat}{r:Q Unit}{f:WS->Q Unit}(hW:okN W)(hj:j=W.inn+1)(hi:W.inn<=20)(h:TSq ⟨W.b,j,W.ok,W.n⟩ x m r)(hf:∀V,okN V->V.inn=W.inn->V.b.size<=W.b.size+m->TSq V y m' (f V)):
  TSq W (iE x y) (m+m') (r.bind fun _ V=>match ox V.inn with
   |true=>f ⟨V.b,V.inn - 1,V.ok,V.n⟩
   |false=>.out):=by
 obtain ⟨V,rfl,h2,h3,h4,h5⟩:=h.ex;subst hj;simp only at h2 h3 h4 h5;have K1:ox V.inn=true:=by
  unfold ox;rw [dT (show 1<=V.inn by omega),dT (show V.inn<=1073741824 by omega)];rfl
 have rT:W.ok=true->TB W x ⟨V.b,V.inn - 1,V.ok,V.n⟩:=by
  intro q;have h5:=h5 q;cases hv:V.ok with
  |false=>exact jZ rfl (fun s j e=>xQ (W:=⟨W.b,W.inn+1,W.ok,W.n⟩) h5 hv s j e)
  |true=>
   obtain ⟨s,j,e1,hj,rfl⟩:=Ac h5 hv;rw [e1];simp only [TB] at hj ⊢;rw [dT hj];simp
 simp only [Q.bind,K1];obtain ⟨U,e,g2,g3,g4,g5⟩:=(hf ⟨V.b,V.inn - 1,V.ok,V.n⟩ (HW hW h4 rT) (by simp only;omega) h3).ex;simp only at g2 g3 g4 g5;exact ⟨⟨U,e,by omega,by omega,fun q=>g4 (h4 q),fun q=>ND (rT q) g5 g4⟩⟩
theorem wu(n f:Nat):∀(l:List Pc) (W:WS),xX n f l=true->lz l+W.b.size<=1000000000->okN W->W.inn=0->TSq W (eW l) (lz l) (fJ n f l W)
 |[],W,_,_,hW,_=>xY hW _
 |⟨nm,ps,bd,rt⟩::r,W,cd,hw,hW,hi=>by
  simp only [lz] at hw ⊢;simp only [xX,bE,dE] at cd;have hj:=rR ps;have hl:=ew ps;have hc:bj nm=true:=dT (by omega);have iQ:cV ps.length=true:=dT (by omega);have R5:bj (bP ps (⟨#[44,32]⟩:BA))=true:=dT (by omega);simp only [fJ,hc,iQ,R5,eW,Bool.and_self];rw [Ai ps W (by omega)];simp only [Q.bind];have e0:(⟨#[112,114,111,99,32]⟩:BA).size=5:=rfl;have e1:(⟨#[40]⟩:BA).size=1:=rfl;have e2:(⟨#[41,32,123]⟩:BA).size=3:=rfl;have e3:(⟨#[125]⟩:BA).size=1:=rfl;have e4:(⟨#[114,101,116,117,114,110,32]⟩:BA).size=7:=rfl;have e5:(⟨#[59]⟩:BA).size=1:=rfl;have key:∀U,okN U->U.inn=W.inn->U.b=W.b->TSq U (TM.grd (aC nm) (iE (TM.ret (eF 0 (((((⟨#[112,114,111,99,32]⟩:BA)++nm)++(⟨#[40]⟩:BA))++bP ps (⟨#[44,32]⟩:BA))++(⟨#[41,32,123]⟩:BA)))) (iE (bI bd 1) (iE (TM.bd (exprI rt 1 1) fun s=>TM.ret (eF 1 (((⟨#[114,101,116,117,114,110,32]⟩:BA)++s)++(⟨#[59]⟩:BA)))) (iE (TM.ret (eF 0 (⟨#[125]⟩:BA))) (eW r)))))) (nm.size+300+nu ps+dG bd+wtE rt+lz r) ((bi (((((⟨#[112,114,111,99,32]⟩:BA)++nm)++(⟨#[40]⟩:BA))++bP ps (⟨#[44,32]⟩:BA))++(⟨#[41,32,123]⟩:BA)) (aT U (aC nm))).bind fun _ V=>(dY n f bd 1 V).bind fun _ V=>match cV V.inn with
    |true=>(cp n rt 1 1 ⟨V.b,V.inn+1,V.ok,V.n⟩).bind fun s V=>(bi (((⟨#[114,101,116,117,114,110,32]⟩:BA)++s)++(⟨#[59]⟩:BA)) V).bind fun _ V=>match ox V.inn with
     |true=>(bi (⟨#[125]⟩:BA) ⟨V.b,V.inn - 1,V.ok,V.n⟩).bind fun _ V=>fJ n f r V
     |false=>.out
    |false=>.out):=by
   intro U hU WV R4;have hz:=congrArg ByteArray.size R4;have xS:∀U2,okN U2->U2.inn=U.inn->U2.b=U.b->TSq U2 (iE (TM.ret (eF 0 (((((⟨#[112,114,111,99,32]⟩:BA)++nm)++(⟨#[40]⟩:BA))++bP ps (⟨#[44,32]⟩:BA))++(⟨#[41,32,123]⟩:BA)))) (iE (bI bd 1) (iE (TM.bd (exprI rt 1 1) fun s=>TM.ret (eF 1 (((⟨#[114,101,116,117,114,110,32]⟩:BA)++s)++(⟨#[59]⟩:BA)))) (iE (TM.ret (eF 0 (⟨#[125]⟩:BA))) (eW r))))) (nm.size+300+nu ps+dG bd+wtE rt+lz r) ((bi (((((⟨#[112,114,111,99,32]⟩:BA)++nm)++(⟨#[40]⟩:BA))++bP ps (⟨#[44,32]⟩:BA))++(⟨#[41,32,123]⟩:BA)) U2).bind fun _ V=>(dY n f bd 1 V).bind fun _ V=>match cV V.inn with
     |true=>(cp n rt 1 1 ⟨V.b,V.inn+1,V.ok,V.n⟩).bind fun s V=>(bi (((⟨#[114,101,116,117,114,110,32]⟩:BA)++s)++(⟨#[59]⟩:BA)) V).bind fun _ V=>match ox V.inn with
      |true=>(bi (⟨#[125]⟩:BA) ⟨V.b,V.inn - 1,V.ok,V.n⟩).bind fun _ V=>fJ n f r V
      |false=>.out
     |false=>.out):=by
    intro U2 Hy Ls xU;have Ub:=congrArg ByteArray.size xU;refine (TSq.seq (m:=nm.size+nu ps+70) (m':=dG bd+wtE rt+150+lz r) Hy (TSq.line (((((⟨#[112,114,111,99,32]⟩:BA)++nm)++(⟨#[40]⟩:BA))++bP ps (⟨#[44,32]⟩:BA))++(⟨#[41,32,123]⟩:BA)) Hy (by omega) (by omega) (by simp only [dX];omega) (by omega) (by omega)) fun V hV HZ Ad=>?_).weak (by omega);have hb:=(j0 n f).2.2 bd 0 V cd.1.1.2 cd.1.1.1 (by omega) hV (by omega) (by omega);refine (TSq.seq (m:=dG bd) (m':=wtE rt+150+lz r) hV hb fun V3 xV OS OT=>?_).weak (by omega);have UU:cV V3.inn=true:=dT (by omega);rw [UU];dsimp only;rw [<- UM];have ht:TSq ⟨V3.b,V3.inn+1,V3.ok,V3.n⟩ (TM.bd (exprI rt 1 1) fun s=>TM.ret (eF 1 (((⟨#[114,101,116,117,114,110,32]⟩:BA)++s)++(⟨#[59]⟩:BA)))) (wtE rt+70) ((cp n rt 1 1 ⟨V3.b,V3.inn+1,V3.ok,V3.n⟩).bind fun s V=>bi (((⟨#[114,101,116,117,114,110,32]⟩:BA)++s)++(⟨#[59]⟩:BA)) V):=by
     refine TSq.aft (W:=⟨V3.b,V3.inn+1,V3.ok,V3.n⟩) xV (jY n rt ⟨V3.b,V3.inn+1,V3.ok,V3.n⟩ cd.1.2.2 cd.1.2.1 (by omega) xV) fun s V4 hs Uc R1 R0=>?_;have Ya:=congrArg ByteArray.size R1;simp only at Ya R0;exact TSq.line (((⟨#[114,101,116,117,114,110,32]⟩:BA)++s)++(⟨#[59]⟩:BA)) Uc (by omega) (by omega) (by simp only [dX];omega) (by omega) (by omega)
    have hh:=TSq.inn (m':=80+lz r) (y:=iE (TM.ret (eF 0 (⟨#[125]⟩:BA))) (eW r)) (f:=fun V=>(bi (⟨#[125]⟩:BA) V).bind fun _ V=>fJ n f r V) xV rfl (by omega) ht fun V5 Ud US UT=>(TSq.seq (m:=80) (m':=lz r) Ud (TSq.line (⟨#[125]⟩:BA) Ud (by omega) (by omega) (by omega) (by omega) (by omega)) fun V6 Yb Yc Yd=>wu n f r V6 cd.2 (by omega) Yb (by omega)).weak (by omega);exact hh.weak (by omega)
   exact TSq.guard _ hU xS
  exact TSq.guard _ hW key
theorem H5(n f:Nat)(m:List Sm)(W:WS)(cd:okB n m=true)(hf:lq m+1<=f)(hw:dG m+150+W.b.size<=1000000000)(hW:okN W)(hi:W.inn=0):TSq W (ly m) (dG m+150) (lc n f m W):=by
 have e0:(⟨#[109,97,105,110,32,123]⟩:BA).size=6:=rfl;have e1:(⟨#[125]⟩:BA).size=1:=rfl;unfold lc ly;refine (TSq.seq (m:=70) (m':=dG m+70) hW (TSq.line (⟨#[109,97,105,110,32,123]⟩:BA) hW (by omega) (by omega) (by omega) (by omega) (by omega)) fun V hV HZ Ad=>?_).weak (by omega);refine (TSq.seq (m:=dG m) (m':=70) hV ((j0 n f).2.2 m 0 V hf cd (by omega) hV (by omega) (by omega)) fun V3 xV OS OT=>?_).weak (by omega);exact TSq.line (⟨#[125]⟩:BA) xV (by omega) (by omega) (by omega) (by omega) (by omega)
theorem Ga(n f:Nat)(p:Pg)(cd:okPg n f p=true)(hw:wtPg p<=500000000):j9 n f p=match jq p with
  |none=>.bad
  |some (s,k)=>match decide ((k:Int)<=4000)&&decide (s.size<=4000) with
   |true=>.ok s
   |false=>.bad:=by
 simp only [okPg,bE,dE] at cd;simp only [wtPg] at hw;have l1:=ew p.vars;have l2:=mP p.arrays;have l3:=kA p.procs;have c1:cV p.vars.length=true:=dT (by omega);have c2:cV p.arrays.length=true:=dT (by omega);have c3:cV p.procs.length=true:=dT (by omega);have z0:W00.b.size=0:=rfl;have h0:okN W00:=fun _=>⟨by decide,by decide⟩
 have h:TSq W00 (jq p) (nu p.vars+(xW p.arrays+(lz p.procs+(dG p.main+150)))) ((pB p.vars W00).bind fun _ V=>(lb p.arrays V).bind fun _ V=>(fJ n f p.procs V).bind fun _ V=>lc n f p.main V):=by
  refine TSq.seq h0 (Ag p.vars W00 (by omega) h0 rfl) fun V1 OU UV lr=>?_;have UV:V1.inn=0:=UV;refine TSq.seq OU (Ah p.arrays V1 cd.1.1 (by omega) OU UV) fun V2 jV Z_ mQ=>?_;refine TSq.seq jV (wu n f p.procs V2 cd.1.2 (by omega) jV (by omega)) fun V3 xV hi3 WW=>?_;exact H5 n f p.main V3 cd.2.1 cd.2.2 (by omega) xV (by omega)
 obtain ⟨V,e,_,_,_,h5⟩:=h.ex;have h5:=h5 rfl;unfold j9;rw [c1,c2,c3];simp only [Bool.and_self,e,gi];cases hv:V.ok with
 |false=>
  have hb:=xQ h5 hv;cases hx:jq p with
  |none=>rfl
  |some y=>
   obtain ⟨s,k⟩:=y;have:=hb s k hx;have z:W00.n=0:=rfl;rw [z] at this;simp only;rw [decide_eq_false (show ¬(k:Int)<=4000 by omega)];rfl
 |true=>
  obtain ⟨s,k,hx,hk,rfl⟩:=Ac h5 hv;have z:W00.n=0:=rfl;rw [z] at hk;rw [hx];have es:W00.b++s=s:=by
   apply ByteArray.ext;rw [ByteArray.data_append];show #[]++s.data=s.data
   simp
  simp only [es];have el:(jn s).length=s.size:=by simp [jn]
  rw [el,dT (show (k:Int)<=4000 by omega),Bool.true_and];by_cases hq:s.size<=4000
  ·rw [dT hq,decide_eq_false (by omega)]
  rw [decide_eq_false hq,dT (by omega)]
end Go.Abs
end
