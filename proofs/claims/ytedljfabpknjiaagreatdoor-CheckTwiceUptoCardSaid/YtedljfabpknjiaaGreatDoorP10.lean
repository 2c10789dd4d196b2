/- Texts of this proof, joined: AbsCA, AbsLA, AbsLB, AbsLC, AbsLD, AbsLE. -/
import Derived.Test.YtedljfabpknjiaaGreatDoorP9
import Derived.Test.YtedljfabpknjiaaGreatDoorCards
import Derived.Test.YtedljfabpknjiaaGreatDoorTie
import Derived.LaidLaws
import Derived.Lib.LaidTab
section
namespace Go.Abs
open Go Go.Proofs Go.Proofs.YtedljfabpknjiaaGreatDoor
set_option maxRecDepth 100000
abbrev laidA:List (String×DataW Unit):=[("math/bits.deBruijn32tab",Rows.laid_math_bits_deBruijn32tab),("math/bits.deBruijn64tab",Rows.laid_math_bits_deBruijn64tab),("internal/strconv.uint64pow10",Rows.laid_internal_strconv_uint64pow10),("raycone/api.ErrText",Rows.laid_raycone_api_ErrText),("raycone/api.ErrBound",Rows.laid_raycone_api_ErrBound),("raycone/api.ErrShape",Rows.laid_raycone_api_ErrShape),("raycone/api.ErrEmpty",Rows.laid_raycone_api_ErrEmpty),("raycone/api.ErrName",Rows.laid_raycone_api_ErrName),("raycone/api.ErrNone",Rows.laid_raycone_api_ErrNone),("raycone/api.ErrOrder",Rows.laid_raycone_api_ErrOrder),("raycone/api.ErrProof",Rows.laid_raycone_api_ErrProof),("strconv.ErrRange",Rows.laid_strconv_ErrRange),("strconv.ErrSyntax",Rows.laid_strconv_ErrSyntax)]
abbrev laidH:List (String×DataW Unit):=[("errors.errorType",Rows.laid_errors_errorType)]
abbrev laidAll:List (String×DataW Unit):=[("math/bits.deBruijn32tab",Rows.laid_math_bits_deBruijn32tab),("math/bits.deBruijn64tab",Rows.laid_math_bits_deBruijn64tab),("internal/strconv.uint64pow10",Rows.laid_internal_strconv_uint64pow10),("errors.errorType",Rows.laid_errors_errorType),("raycone/api.ErrText",Rows.laid_raycone_api_ErrText),("raycone/api.ErrBound",Rows.laid_raycone_api_ErrBound),("raycone/api.ErrShape",Rows.laid_raycone_api_ErrShape),("raycone/api.ErrEmpty",Rows.laid_raycone_api_ErrEmpty),("raycone/api.ErrName",Rows.laid_raycone_api_ErrName),("raycone/api.ErrNone",Rows.laid_raycone_api_ErrNone),("raycone/api.ErrOrder",Rows.laid_raycone_api_ErrOrder),("raycone/api.ErrProof",Rows.laid_raycone_api_ErrProof),("strconv.ErrRange",Rows.laid_strconv_ErrRange),("strconv.ErrSyntax",Rows.laid_strconv_ErrSyntax)]
theorem laid_isSome:laidAll.filter (fun x=>x.2.handleName?.isSome)=laidH:=by kernel_rfl
theorem laid_isNone:laidAll.filter (fun x=>x.2.handleName?.isNone)=laidA:=by kernel_rfl
theorem laid_split{W:World}(h:laidMetH Tryz.prog laidAll W):laidMet Tryz.prog laidA W∧handlesMet Tryz.prog laidH W:=by
 unfold laidMetH at h
 rw [laid_isSome,laid_isNone] at h;exact h
theorem laidVars_mem{P:Program}{w:World}{n:String}{d:DataW Unit}:∀ {l:List (String×DataW Unit)}{ps:List MemPlace},DataW.LaidVars P w l ps→(n,d)∈l→
  ∃g t cs fuel p,P.globalNamed n=some g∧(P.globals[g]?).map (·.type)=some t∧w.var? P n=some cs∧DataW.trod (fun _=>()) P w 0 (fun _=>true) false fuel t cs.toList=some (d,p)∧∀x,x∈MemPlace.row ⟨g,0,none⟩ cs.size++p→x∈ps
 |[],_,_,h=>by cases h
 | (n',d')::r,ps,⟨g,t,cs,fuel,p,q,h1,h2,h3,h4,h5,h6⟩,h=>by
  cases h with
  |head=>exact ⟨g,t,cs,fuel,p,h1,h2,h3,h4,fun x hx=>by rw [h6];exact List.mem_append_left _ hx⟩
  |tail _ h=>
   obtain ⟨g',t',cs',f',p',k1,k2,k3,k4,k5⟩:=laidVars_mem h5 h;exact ⟨g',t',cs',f',p',k1,k2,k3,k4,fun x hx=>by rw [h6];exact List.mem_append_right _ (k5 x hx)⟩
/-- A variable that holds an error of errors.New's make with such a text. -/
def isErr(W:World)(k:Nat)(text:List UInt8):Prop:=∃(a:Addr) (s:ByteArray) (c:Array Value) (ty:TypeId),W.cell? ⟨k,0,none⟩=some (.iface 409 (.pointer (some a)))∧W.cell? a=some (.string s)∧s.data.toList=text∧W.heap[a.block]? = some (.cells c ty (0,0))
theorem starName:("*errors.errorString" : String) = "*"++ "errors.errorString":=by decide
theorem rowErr:∀u,Tryz.prog.typeName? 3 u=some "*errors.errorString"→u=409:=fun u h=>
 typeName_ptr_named (nm:= "errors.errorString") (by rw [← starName];kernel_rfl) (by kernel_rfl) (by decide) u (by rw [← starName];exact h)
theorem err_of {W:World}{L:List (String×DataW Unit)}{name:String}{k:Nat}{text:List UInt8}(hg:Tryz.prog.globalNamed name=some k) (hty:(Tryz.prog.globals[k]?).map (·.type)=some 30) (h:laidMet Tryz.prog L W)
  (hm:(name,(DataW.iface "*errors.errorString" (.ptr (.agg [.lit (.string text)])):DataW Unit))∈L):isErr W k text:=by
 obtain ⟨ps,hl,_,hrows⟩:=h;obtain ⟨g,t,cs,fuel,p,h1,h2,h3,h4,h5⟩:=laidVars_mem hl hm;obtain rfl:=Option.some.inj (hg.symm.trans h1);obtain rfl:=Option.some.inj (hty.symm.trans h2);obtain ⟨l0⟩:=cs
 have ok0:∀u v,l0=[.iface u v]→Value.okWide Tryz.prog W .any 0 u v:=fun u v e=>by
  subst e;exact (hrows k 0 (h5 _ (by simp [MemPlace.row]))).2 u v (by simpa using World.var?_cell h1 h3 0)
 obtain ⟨a0,s0,rfl,hc0,hs0,hz0,rfl⟩:=errorString_of_trod Tryz.underlying30 rowErr Tryz.underlying409 Tryz.underlying411 rfl rfl Tryz.underlying9 (by kernel_rfl) (by kernel_rfl) h4 ok0;obtain ⟨c0,t0,hb0⟩:=(hrows a0.block a0.off (h5 _ (by simp [MemPlace.row]))).1;exact ⟨a0,s0,c0,t0,by simpa using World.var?_cell h1 h3 0,hc0,hs0,hb0⟩
structure LaidOk (W:World):Prop where
 e3:isErr W 3 [114,97,121,99,111,110,101,58,32,116,101,120,116]
 e0:isErr W 0 [114,97,121,99,111,110,101,58,32,98,111,117,110,100]
 e1:isErr W 1 [114,97,121,99,111,110,101,58,32,115,104,97,112,101]
 e4:isErr W 4 [114,97,121,99,111,110,101,58,32,101,109,112,116,121]
 e2:isErr W 2 [114,97,121,99,111,110,101,58,32,110,97,109,101]
 e5:isErr W 5 [114,97,121,99,111,110,101,58,32,110,111,110,101]
 e6:isErr W 6 [114,97,121,99,111,110,101,58,32,111,114,100,101,114]
 e7:isErr W 7 [114,97,121,99,111,110,101,58,32,112,114,111,111,102]
 e12:isErr W 12 [118,97,108,117,101,32,111,117,116,32,111,102,32,114,97,110,103,101]
 e11:isErr W 11 [105,110,118,97,108,105,100,32,115,121,110,116,97,120]
 et:W.cell? ⟨8,0,none⟩=some (.iface 353 (.agg #[.pointer (some ⟨15,30,none⟩)]))
 tab:∃ty fr,W.heap[9]? = some (.cells (pow10V.map fun z=>Value.int .u64 z).toArray ty fr)
theorem rtypeRow:(Tryz.prog.cutTypes.find? (·.1== "internal/reflectlite.rtype")).map (·.2)=some 353:=by kernel_rfl
theorem oneErr:((List.range Tryz.prog.types.size).filter fun t=>Tryz.prog.rowNamed t [101,114,114,111,114])=[30]:=by kernel_rfl
theorem et_of{W:World}(h:handlesMet Tryz.prog laidH W):W.cell? ⟨8,0,none⟩=some (.iface 353 (.agg #[.pointer (some ⟨15,30,none⟩)])):=by
 obtain ⟨name,u,ty,e1,e2,e3,e4,e5⟩:=h _ (List.mem_singleton.2 rfl);have en:name=[101,114,114,111,114]:=(Option.some.inj e1).symm;subst en;obtain rfl:=Option.some.inj (rtypeRow.symm.trans e2);have hm:ty∈(List.range Tryz.prog.types.size).filter fun t=>Tryz.prog.rowNamed t [101,114,114,111,114]:=List.mem_filter.2 ⟨List.mem_range.2 e3,e4⟩;rw [oneErr] at hm;obtain rfl:=List.mem_singleton.1 hm
 have hh:typeHandle Tryz.prog 30=.pointer (some ⟨15,30,none⟩):=by kernel_rfl
 rw [hh] at e5
 simpa using World.var?_cell (show Tryz.prog.globalNamed "errors.errorType" = some 8 by kernel_rfl) e5 0
theorem tab_of{W:World}{L:List (String×DataW Unit)}(h:laidMet Tryz.prog L W)(hm:("internal/strconv.uint64pow10",(Rows.laid_internal_strconv_uint64pow10:DataW Unit))∈L):∃ty fr,W.heap[9]? = some (.cells (pow10V.map fun z=>Value.int .u64 z).toArray ty fr):=by
 obtain ⟨ps,hl,_,_⟩:=h;obtain ⟨g,t,cs,fuel,p,h1,h2,h3,h4,_⟩:=laidVars_mem hl hm;obtain rfl:=Option.some.inj ((show Tryz.prog.globalNamed "internal/strconv.uint64pow10" = some 9 by kernel_rfl).symm.trans h1);have ht:=(show (Tryz.prog.globals[9]?).map (·.type)=some 397 by kernel_rfl);obtain rfl:=Option.some.inj (ht.symm.trans h2);have hc:=Lib.cells_of_tab (n:=20) (k:=.u64) (zs:=pow10V) Tryz.underlying397 Tryz.underlying345 (by kernel_rfl) (by kernel_rfl) h4
 unfold World.var? at h3
 rw [h1] at h3;simp only [Option.bind_some] at h3;split at h3
 ·rename_i c ty fr hb
  simp only [Option.some.injEq] at h3;subst h3;exact ⟨ty,fr,by rw [hb,← hc]⟩
 cases h3
theorem laidOk_of{W:World}(h:laidMetH Tryz.prog laidAll W):LaidOk W:=by
 obtain ⟨h1,h2⟩:=laid_split h;exact ⟨err_of (name:= "raycone/api.ErrText") (by kernel_rfl) (by kernel_rfl) h1 (.tail _ (.tail _ (.tail _ (.head _)))),err_of (name:= "raycone/api.ErrBound") (by kernel_rfl) (by kernel_rfl) h1 (.tail _ (.tail _ (.tail _ (.tail _ (.head _))))),err_of (name:= "raycone/api.ErrShape") (by kernel_rfl) (by kernel_rfl) h1 (.tail _ (.tail _ (.tail _ (.tail _ (.tail _ (.head _)))))),err_of (name:= "raycone/api.ErrEmpty") (by kernel_rfl) (by kernel_rfl) h1 (.tail _ (.tail _ (.tail _ (.tail _ (.tail _ (.tail _ (.head _))))))),err_of (name:= "raycone/api.ErrName") (by kernel_rfl) (by kernel_rfl) h1 (.tail _ (.tail _ (.tail _ (.tail _ (.tail _ (.tail _ (.tail _ (.head _)))))))),err_of (name:= "raycone/api.ErrNone") (by kernel_rfl) (by kernel_rfl) h1 (.tail _ (.tail _ (.tail _ (.tail _ (.tail _ (.tail _ (.tail _ (.tail _ (.head _))))))))),err_of (name:= "raycone/api.ErrOrder") (by kernel_rfl) (by kernel_rfl) h1 (.tail _ (.tail _ (.tail _ (.tail _ (.tail _ (.tail _ (.tail _ (.tail _ (.tail _ (.head _)))))))))),err_of (name:= "raycone/api.ErrProof") (by kernel_rfl) (by kernel_rfl) h1 (.tail _ (.tail _ (.tail _ (.tail _ (.tail _ (.tail _ (.tail _ (.tail _ (.tail _ (.tail _ (.head _))))))))))),err_of (name:= "strconv.ErrRange") (by kernel_rfl) (by kernel_rfl) h1 (.tail _ (.tail _ (.tail _ (.tail _ (.tail _ (.tail _ (.tail _ (.tail _ (.tail _ (.tail _ (.tail _ (.head _)))))))))))),err_of (name:= "strconv.ErrSyntax") (by kernel_rfl) (by kernel_rfl) h1 (.tail _ (.tail _ (.tail _ (.tail _ (.tail _ (.tail _ (.tail _ (.tail _ (.tail _ (.tail _ (.tail _ (.tail _ (.head _))))))))))))),et_of h2,tab_of h1 (.tail _ (.tail _ (.head _)))⟩
end Go.Abs
end
section
namespace Go.Abs
open Go Go.Proofs
/-- A text, and how many terms and statements were looked at for it; or there is none. -/
abbrev TIs:=Option (ByteArray×Nat)
def Ex.op:Ex→ByteArray
 |.mk op _ _ _=>op
def closeI(r:Int)(b:Int→TIs)(least d:Int):TIs:=match decide (d≤12) with
 |false=>none
 |true=>match decide (r<least) with
  |true=>match decide (d+1≤12) with
   |true=>(b (d+1)).map fun x=>((⟨#[40]⟩++x.1)++⟨#[41]⟩,x.2+2)
   |false=>none
  |false=>(b d).map fun x=>(x.1,x.2+1)
def bodyI:Ex→Int→TIs
 |.mk op n nm l,d=>match (op.toList==(⟨#[110,117,109]⟩:ByteArray).toList) with
  |true=>match (((decide (n≥0)&&decide (n≤1099511627776))&&(nm.toList==(⟨#[]⟩:ByteArray).toList))&&(((exs l).length:Int)==0)) with
   |true=>some (itoaB n,0)
   |false=>none
  |false=>match (op.toList==(⟨#[118,97,114]⟩:ByteArray).toList) with
   |true=>match ((n==0)&&(((exs l).length:Int)==0))&&isNameF nm with
    |true=>some (nm,0)
    |false=>none
   |false=>match (op.toList==(⟨#[97,116]⟩:ByteArray).toList) with
    |true=>match ((n==0)&&(((exs l).length:Int)==1))&&isNameF nm,l with
     |true,[x]=>(closeI (rankF x.op) (bodyI x) 1 (d+1)).map fun y=>(((nm++⟨#[91]⟩)++y.1)++⟨#[93]⟩,y.2)
     |_,_=>none
    |false=>match (op.toList==(⟨#[110,101,103]⟩:ByteArray).toList) with
     |true=>match (((n==0)&&(nm.toList==(⟨#[]⟩:ByteArray).toList))&&(((exs l).length:Int)==1)),l with
      |true,[x]=>(closeI (rankF x.op) (bodyI x) 3 (d+1)).map fun y=>(⟨#[45]⟩++y.1,y.2)
      |_,_=>none
     |false=>match binF op&&(((n==0)&&(nm.toList==(⟨#[]⟩:ByteArray).toList))&&(((exs l).length:Int)==2)),l with
      |true,[x,y]=>(closeI (rankF x.op) (bodyI x) (rankF op) d).bind fun u=>(closeI (rankF y.op) (bodyI y) (rankF op+1) d).map fun v=>((((u.1++⟨#[32]⟩)++op)++⟨#[32]⟩)++v.1,u.2+v.2)
      |_,_=>none
def exprI(e:Ex)(least d:Int):TIs:=closeI (rankF e.op) (bodyI e) least d
mutual
def fuE:Ex→Nat
 |.mk _ _ _ l=>1+fuL l
def fuL:List Ex→Nat
 |[]=>0
 |e::r=>fuE e+1+fuL r
end
mutual
def wtE:Ex→Nat
 |.mk op _ nm l=>64+op.size+nm.size+wtL l
def wtL:List Ex→Nat
 |[]=>0
 |e::r=>wtE e+2+wtL r
end
mutual
def nmE:Ex→Bool
 |.mk _ n _ l=>chkN n&&nmL l
def nmL:List Ex→Bool
 |[]=>true
 |e::r=>nmE e&&nmL r
end
/-- What a writer comes to at such a text. -/
def TL{α:Type}(W:WS)(x:Option (α×Nat))(a:α)(V:WS):Prop:=match x with
 |none=>V.ok=false
 |some (s,k)=>match decide (W.n+k≤4000) with
  |true=>V=⟨W.b,W.inn,true,W.n+k⟩∧a=s
  |false=>V.ok=false
def ovr(r least:Int):Nat:=match decide (r<least) with
 |true=>1
 |false=>0
structure TTm {α:Type}(μ:α→Nat) (W:WS) (x:Option (α×Nat)) (m:Nat) (r:Q α):Prop where
 ex:∃a V,r=.ok a V∧μ a≤m∧V.b=W.b∧V.inn=W.inn∧(W.ok=false→V.ok=false)∧(W.ok=true→TL W x a V)
abbrev TTl(W:WS)(x:TIs)(m:Nat)(r:Q ByteArray):Prop:=TTm ByteArray.size W x m r
def okN(W:WS):Prop:=W.ok=true→0≤W.n∧W.n≤4000
theorem i64_id{x:Int}(h0 : -9223372036854775808≤x)(h1:x≤9223372036854775807):IntKind.i64.wrap x=x:=by rw [IntKind.wrap_i64];omega
theorem lookW_no{W:WS}{d:Int}(h:W.ok=false):(lookW W d).ok=false:=by simp [lookW,mustW,h]
theorem fit_small{a:ByteArray}{W:WS}(h:a.size≤1073741824):fit a W=.ok a W:=by
 unfold fit chkS
 simp [h]
theorem lookW_yes{W:WS}{d:Int}(h:W.ok=true)(hn:0≤W.n∧W.n≤4000):lookW W d=⟨W.b,W.inn,decide (d≤12)&&decide (W.n+1≤4000),W.n+1⟩:=by
 have e:IntKind.i64.wrap (W.n+1)=W.n+1:=i64_id (by omega) (by omega)
 simp [lookW,mustW,h,e]
theorem TL_map{α β:Type}{W U:WS}{x:Option (α×Nat)}{a:α}{V:WS}(g:α→β)(c:Nat)(h:TL U x a V)(hb:U.b=W.b)(hi:U.inn=W.inn)(hn:U.n=W.n+c):TL W (x.map fun y=>(g y.1,y.2+c)) (g a) V:=by
 cases x with
 |none=>exact h
 |some y=>
  obtain ⟨s,k⟩:=y
  have e:W.n+((k+c:Nat):Int)=U.n+k:=by rw [hn];omega
  show TL W (some (g s,k+c)) (g a) V
  simp only [TL] at h ⊢;rw [e]
  cases hk:decide (U.n+(k:Int)≤4000) with
  |false=>rw [hk] at h;exact h
  |true=>rw [hk] at h;obtain ⟨rfl,rfl⟩:=h;rw [hb,hi];exact ⟨rfl,rfl⟩
theorem TL_ok{α:Type}{W:WS}{x:Option (α×Nat)}{a:α}{V:WS}(h:TL W x a V)(hv:V.ok=true):∃k,x=some (a,k)∧W.n+k≤4000∧V=⟨W.b,W.inn,true,W.n+k⟩:=by
 cases x with
 |none=>exact absurd (h.symm.trans hv) (by decide)
 |some y=>
  obtain ⟨s,k⟩:=y;simp only [TL] at h
  cases hk:decide (W.n+(k:Int)≤4000) with
  |false=>rw [hk] at h;exact absurd (h.symm.trans hv) (by decide)
  |true=>rw [hk] at h;obtain ⟨rfl,rfl⟩:=h;exact ⟨k,rfl,of_decide_eq_true hk,rfl⟩
theorem TL_bad{α:Type}{W:WS}{x:Option (α×Nat)}{a:α}{V:WS}(h:TL W x a V)(hv:V.ok=false):∀s k,x=some (s,k)→¬W.n+k≤4000:=by
 rintro s k rfl;simp only [TL] at h
 cases hk:decide (W.n+(k:Int)≤4000) with
 |false=>exact of_decide_eq_false hk
 |true=>rw [hk] at h;obtain ⟨rfl,rfl⟩:=h;cases hv
theorem TL_of_bad{α:Type}{W:WS}{x:Option (α×Nat)}{a:α}{V:WS}(hv:V.ok=false)(h:∀s k,x=some (s,k)→¬W.n+k≤4000):TL W x a V:=by
 cases x with
 |none=>exact hv
 |some y=>
  obtain ⟨s,k⟩:=y;simp only [TL];rw [decide_eq_false (h s k rfl)];exact hv
theorem TL_two{α β γ:Type}{U:WS}{x:Option (α×Nat)}{y:Option (β×Nat)}{a:α}{b:β}{V V':WS}(g:α→β→γ)(h:TL U x a V)(h1:V.ok=true→TL V y b V')(h0:V.ok=false→V'.ok=false):TL U (x.bind fun u=>y.map fun v=>(g u.1 v.1,u.2+v.2)) (g a b) V':=by
 cases hv:V.ok with
 |false=>
  refine TL_of_bad (h0 hv) ?_;intro s k e;have hx:=TL_bad h hv
  cases x with
  |none=>cases e
  |some u=>
   obtain ⟨s1,k1⟩:=u;have:=hx s1 k1 rfl
   cases y with
   |none=>cases e
   |some v=>
    obtain ⟨s2,k2⟩:=v;simp only [Option.bind_some,Option.map_some,Option.some.injEq,Prod.mk.injEq] at e;have e2:=e.2;omega
 |true=>
  obtain ⟨k,rfl,hk,rfl⟩:=TL_ok h hv;have h2:=h1 rfl;have:=TL_map (W:=U) (g a) k h2 rfl rfl rfl
  cases y with
  |none=>exact this
  |some v=>
   obtain ⟨s2,k2⟩:=v;simp only [Option.bind_some,Option.map_some] at this ⊢;rw [Nat.add_comm k k2];exact this
theorem rankF_range(s:ByteArray):1≤rankF s∧rankF s≤3:=by
 unfold rankF
 split
 ·omega
 split <;> omega
theorem ovr_no{r l:Int}(h:l≤r):ovr r l=0:=by
 unfold ovr
 rw [decide_eq_false (by omega)]
def TermT(f:Nat):Prop:=∀(e:Ex) (least d:Int) (W:WS),fuE e+ovr (rankF e.op) least≤f→nmE e=true→wtE e≤1000000000→okN W→-1≤d→d≤100→1≤least→
  TTl W (exprI e least d) (wtE e+2 * ovr (rankF e.op) least) (termW f e least d W)
theorem rank_le{least:Int}{s:ByteArray}(h:decide (rankF s<least)=false):ovr (rankF s) least=0:=by unfold ovr;rw [h]
theorem emp_size:(⟨#[]⟩:ByteArray).size=0:=rfl
theorem TTm.bad{W:WS}{x:TIs}{m:Nat}{V:WS}(hb:V.b=W.b)(hi:V.inn=W.inn)(hv:V.ok=false)(hx:W.ok=true→∀s k,x=some (s,k)→¬W.n+k≤4000):TTl W x m (fit ⟨#[]⟩ V):=
 ⟨⟨⟨#[]⟩,V,fit_small (by rw [emp_size];omega),by rw [emp_size];omega,hb,hi,fun _=>hv,fun h=>TL_of_bad hv (hx h)⟩⟩
theorem mustW_ok{W:WS}{c:Bool}(h:c=true)(hW:W.ok=true):mustW W c=W:=by
 obtain ⟨b,i,o,n⟩:=W;simp only at hW;subst hW
 simp [mustW,h]
theorem TTm.fit{W U:WS}{x:TIs}{m:Nat}{a:ByteArray}(hW:W.ok=true)(ha:a.size≤m)(hm:m≤1073741824)(hb:U.b=W.b)(hi:U.inn=W.inn)(h:TL W x a U):TTl W x m (fit a U):=
 ⟨⟨a,U,fit_small (by omega),ha,hb,hi,fun q=>absurd (q.symm.trans hW) (by decide),fun _=>h⟩⟩
/-- One part, and what is put around it. -/
theorem TTm.bind1{W U:WS}{x:TIs}{m m':Nat}{r:Q ByteArray}(g:ByteArray→ByteArray)(c:Nat)(hW:W.ok=true)(h:TTl U x m r)(hU:U.ok=true)(hg:∀s,(g s).size≤s.size+c)(hm:m+c≤m')(hm':m'≤1073741824)(hb:U.b=W.b)(hi:U.inn=W.inn)(hn:U.n=W.n+1):
  TTl W (x.map fun y=>(g y.1,y.2+1)) m' (r.bind fun s V=>Go.Abs.fit (g s) V):=by
 obtain ⟨a,V,rfl,h1,h2,h3,_,h5⟩:=h.ex;have:=hg a;refine ⟨⟨g a,V,fit_small (by omega),by omega,h2.trans hb,h3.trans hi,fun q=>absurd (q.symm.trans hW) (by decide),fun _=>?_⟩⟩;exact TL_map g 1 (h5 hU) hb hi hn
theorem sz3{x y z:ByteArray}:((x++y)++z).size=x.size+y.size+z.size:=by simp [ByteArray.size_append]
theorem sz2{x y:ByteArray}:(x++y).size=x.size+y.size:=by simp [ByteArray.size_append]
theorem wt_one(x:Ex):wtL [x]=wtE x+2:=by simp [wtL]
theorem wt_two(x y:Ex):wtL [x,y]=wtE x+2+(wtE y+2):=by simp [wtL]
theorem fu_one(x:Ex):fuL [x]=fuE x+1:=by simp [fuL]
theorem fu_two(x y:Ex):fuL [x,y]=fuE x+1+(fuE y+1):=by simp [fuL]
theorem ovr_le(r l:Int):ovr r l≤1:=by
 unfold ovr
 split <;> omega
theorem map_map1(x:TIs)(g:ByteArray→ByteArray):((x.map fun y=>(g y.1,y.2)).map fun y=>(y.1,y.2+1))=x.map fun y=>(g y.1,y.2+1):=by cases x <;> rfl
/-- A term that does not need brackets. -/
theorem term_body {f:Nat}(ih:TermT f) (op:ByteArray) (n:Int) (nm:ByteArray) (l:List Ex) (d:Int) (W:WS) (hf:fuE (.mk op n nm l)≤f+1) (hnm:nmE (.mk op n nm l)=true) (hw:wtE (.mk op n nm l)≤1000000000)
  (hW:W.ok=true) (hn:0≤W.n∧W.n≤4000) (hd0 : -1≤d) (hd:d≤12) (hn1:W.n+1≤4000) (hl:lookW W d=⟨W.b,W.inn,true,W.n+1⟩) (least:Int) (hr:decide (rankF op<least)=false) :
  TTl W ((bodyI (.mk op n nm l) d).map fun x=>(x.1,x.2+1)) (wtE (.mk op n nm l)) (termW (f+1) (.mk op n nm l) least d W):=by
 simp only [termW,hl,hr];simp only [fuE] at hf;simp only [nmE,Bool.and_eq_true] at hnm;simp only [wtE] at hw ⊢;have hd1:IntKind.i64.wrap (d+1)=d+1:=i64_id (by omega) (by omega);have hU0:∀c,TL W (none:TIs) c (mustW ⟨W.b,W.inn,true,W.n+1⟩ false):=fun _=>rfl
 have leaf:∀a:ByteArray,TL W (some (a,0+1)) a ⟨W.b,W.inn,true,W.n+1⟩:=by
  intro a;simp only [TL];rw [decide_eq_true (by omega)]
  simp
 rw [bodyI.eq_def]
 dsimp only
 cases k1:(op.toList==(⟨#[110,117,109]⟩:ByteArray).toList) with
 |true=>
  simp only [hnm.1];refine TTm.fit hW (Nat.le_trans (itoaB_size hnm.1) (by omega)) (by omega) rfl rfl ?_
  cases hc:(((decide (n≥0)&&decide (n≤1099511627776))&&(nm.toList==(⟨#[]⟩:ByteArray).toList))&&(((exs l).length:Int)==0)) with
  |true=>rw [mustW_ok rfl rfl];exact leaf _
  |false=>exact hU0 _
 |false=>
  simp only
  cases k2:(op.toList==(⟨#[118,97,114]⟩:ByteArray).toList) with
  |true=>
   have hcs:chkS nm=true:=decide_eq_true (by omega);simp only [hcs];refine TTm.fit hW (by omega) (by omega) rfl rfl ?_
   cases hc:((n==0)&&(((exs l).length:Int)==0)) with
   |true=>
    rw [mustW_ok rfl rfl]
    cases hq:isNameF nm with
    |true=>rw [mustW_ok rfl rfl];exact leaf _
    |false=>exact hU0 _
   |false=>exact hU0 _
  |false=>
   simp only
   cases k3:(op.toList==(⟨#[97,116]⟩:ByteArray).toList) with
   |true=>
    have hcs:chkS nm=true:=decide_eq_true (by omega);simp only
    cases hc:((n==0)&&(((exs l).length:Int)==1)) with
    |false=>exact TTm.bad rfl rfl rfl (fun _ s k e=>by cases e)
    |true=>
     obtain ⟨x,rfl⟩:=ex_one hc;rw [mustW_ok rfl rfl];simp only [hcs,Bool.true_and];simp only [fu_one] at hf;simp only [wt_one] at hw ⊢;simp only [nmL,Bool.and_true] at hnm;have hov:=ovr_no (r:=rankF x.op) (l:=1) (rankF_range _).1
     cases hq:isNameF nm with
     |true=>
      rw [mustW_ok rfl rfl,hd1];simp only [map_map1 _ (fun s=>((nm++⟨#[91]⟩)++s)++⟨#[93]⟩)];have hx:=ih x 1 (d+1) ⟨W.b,W.inn,true,W.n+1⟩ (by omega) hnm.2 (by omega) (fun _=>by simp only;omega) (by omega) (by omega) (by omega);exact TTm.bind1 (fun s=>((nm++⟨#[91]⟩)++s)++⟨#[93]⟩) (nm.size+2) hW hx rfl (fun s=>by simp only [sz2];have e1:(⟨#[91]⟩:ByteArray).size=1:=rfl;have e2:(⟨#[93]⟩:ByteArray).size=1:=rfl;omega) (by omega) (by omega) rfl rfl rfl
     |false=>
      rw [hd1];obtain ⟨a,V,e,h1,h2,h3,h4,_⟩:=(ih x 1 (d+1) (mustW ⟨W.b,W.inn,true,W.n+1⟩ false) (by omega) hnm.2 (by omega) (fun q=>by cases q) (by omega) (by omega) (by omega)).ex;rw [e];refine ⟨⟨_,V,fit_small ?_,?_,h2,h3,fun q=>absurd (q.symm.trans hW) (by decide),fun _=>h4 rfl⟩⟩
      all_goals
       simp only [sz2];have e1:(⟨#[91]⟩:ByteArray).size=1:=rfl;have e2:(⟨#[93]⟩:ByteArray).size=1:=rfl;omega
   |false=>
    simp only
    cases k4:(op.toList==(⟨#[110,101,103]⟩:ByteArray).toList) with
    |true=>
     simp only
     cases hc:(((n==0)&&(nm.toList==(⟨#[]⟩:ByteArray).toList))&&(((exs l).length:Int)==1)) with
     |false=>exact TTm.bad rfl rfl rfl (fun _ s k e=>by cases e)
     |true=>
      obtain ⟨x,rfl⟩:=ex_one hc;rw [mustW_ok rfl rfl,hd1];simp only [fu_one] at hf;simp only [wt_one] at hw ⊢;simp only [nmL,Bool.and_true] at hnm;have hov:=ovr_le (rankF x.op) 3;simp only [map_map1 _ (fun s=>⟨#[45]⟩++s)];have hx:=ih x 3 (d+1) ⟨W.b,W.inn,true,W.n+1⟩ (by omega) hnm.2 (by omega) (fun _=>by simp only;omega) (by omega) (by omega) (by omega);exact TTm.bind1 (m':=64+op.size+nm.size+(wtE x+2)) (fun s=>⟨#[45]⟩++s) 1 hW hx rfl (fun s=>by simp only [sz2];have e1:(⟨#[45]⟩:ByteArray).size=1:=rfl;omega) (by omega) (by omega) rfl rfl rfl
    |false=>
     simp only
     cases k5:binF op with
     |false=>exact TTm.bad rfl rfl rfl (fun _ s k e=>by cases e)
     |true=>
      simp only [Bool.true_and]
      cases hc:(((n==0)&&(nm.toList==(⟨#[]⟩:ByteArray).toList))&&(((exs l).length:Int)==2)) with
      |false=>exact TTm.bad rfl rfl rfl (fun _ s k e=>by cases e)
      |true=>
       obtain ⟨x,y,rfl⟩:=ex_two hc;have hcs:chkS op=true:=decide_eq_true (by omega);have hrk:=rankF_range op;rw [mustW_ok rfl rfl,show IntKind.i64.wrap (rankF op+1)=rankF op+1 from i64_id (by omega) (by omega)];simp only [hcs];simp only [fu_two] at hf;simp only [wt_two] at hw ⊢;simp only [nmL,Bool.and_true,Bool.and_eq_true] at hnm;have hox:=ovr_le (rankF x.op) (rankF op);have hoy:=ovr_le (rankF y.op) (rankF op+1);obtain ⟨a,V,e,h1,h2,h3,h4,h5⟩:=(ih x (rankF op) d ⟨W.b,W.inn,true,W.n+1⟩ (by omega) hnm.2.1 (by omega) (fun _=>by simp only;omega) (by omega) (by omega) (by omega)).ex;have h5:=h5 rfl
       have hV:okN V:=fun q=>by
        obtain ⟨k,_,hk,rfl⟩:=TL_ok h5 q;simp only at hk ⊢;omega
       obtain ⟨b,U,e',g1,g2,g3,g4,g5⟩:=(ih y (rankF op+1) d V (by omega) hnm.2.2 (by omega) hV (by omega) (by omega) (by omega)).ex;rw [e];simp only [Q.bind,e']
       have hs:(((((a++⟨#[32]⟩)++op)++⟨#[32]⟩)++b):ByteArray).size≤64+op.size+nm.size+(wtE x+2+(wtE y+2)):=by
        simp only [sz2];have e1:(⟨#[32]⟩:ByteArray).size=1:=rfl;omega
       refine ⟨⟨_,U,fit_small (by omega),hs,g2.trans h2,g3.trans h3,fun q=>absurd (q.symm.trans hW) (by decide),fun _=>?_⟩⟩;have:=TL_two (fun a b=>(((a++⟨#[32]⟩)++op)++⟨#[32]⟩)++b) h5 (fun q=>g5 q) g4;have:=TL_map (W:=W) id 1 this rfl rfl rfl;exact this
theorem term_tot:∀f,TermT f
 |0=>by
  intro e least d W hf;obtain ⟨op,n,nm,l⟩:=e;simp only [fuE] at hf;omega
 |f+1=>by
  intro e least d W hf hnm hw hW hd0 hd hle;have ih:=term_tot f;obtain ⟨op,n,nm,l⟩:=e
  cases hok:W.ok with
  |false=>
   simp only [termW,lookW_no hok];refine ⟨⟨⟨#[]⟩,_,fit_small (by rw [emp_size];omega),by rw [emp_size];omega,rfl,rfl,fun _=>lookW_no hok,fun q=>absurd (hok.symm.trans q) (by decide)⟩⟩
  |true=>
   have hn:=hW hok;have hl:=lookW_yes (d:=d) hok hn
   cases hd12:decide (d≤12) with
   |false=>
    have e:(lookW W d).ok=false:=by rw [hl,hd12];rfl
    simp only [termW,e];exact TTm.bad rfl rfl e (fun _ s k q=>by simp only [exprI,closeI,hd12] at q;cases q)
   |true=>
    have hd':=of_decide_eq_true hd12
    cases hn1:decide (W.n+1≤4000) with
    |false=>
     have hn1:=of_decide_eq_false hn1
     have e:(lookW W d).ok=false:=by rw [hl,decide_eq_false hn1];simp
     simp only [termW,e];refine TTm.bad rfl rfl e (fun _ s k q=>?_);simp only [exprI,closeI,hd12] at q;split at q
     ·split at q
      ·obtain ⟨y,_,hy⟩:=Option.map_eq_some_iff.1 q
       simp only [Prod.mk.injEq] at hy;omega
      cases q
     obtain ⟨y,_,hy⟩:=Option.map_eq_some_iff.1 q;simp only [Prod.mk.injEq] at hy;omega
    |true=>
     have hn1:=of_decide_eq_true hn1
     have hl:lookW W d=⟨W.b,W.inn,true,W.n+1⟩:=by rw [hl,hd12,decide_eq_true hn1];rfl
     have hop:(Ex.mk op n nm l).op=op:=rfl;rw [hop] at hf ⊢
     cases hr:decide (rankF op<least) with
     |false=>
      rw [rank_le hr] at hf ⊢;have:=term_body ih op n nm l d W (by omega) hnm hw hok hn hd0 hd' hn1 hl least hr
      have e:exprI (.mk op n nm l) least d=(bodyI (.mk op n nm l) d).map fun x=>(x.1,x.2+1):=by simp only [exprI,closeI,hd12,hop,hr]
      rw [e];exact this
     |true=>
      have ho:ovr (rankF op) least=1:=by unfold ovr;rw [hr]
      rw [ho] at hf ⊢;have h1:=ovr_no (r:=rankF op) (l:=1) (rankF_range _).1;have hx:=ih (.mk op n nm l) 1 (d+1) ⟨W.b,W.inn,true,W.n+1⟩ (by rw [hop];omega) hnm hw (fun _=>by simp only;omega) (by omega) (by omega) (by omega);rw [hop,h1] at hx;simp only [termW,hl,hr];rw [i64_id (x:=d+1) (by omega) (by omega)];have:=TTm.bind1 (W:=W) (m':=wtE (.mk op n nm l)+2 * 1) (fun s=>(⟨#[40]⟩++s)++⟨#[41]⟩) 2 hok hx rfl (fun s=>by simp only [sz2];have e1:(⟨#[40]⟩:ByteArray).size=1:=rfl;have e2:(⟨#[41]⟩:ByteArray).size=1:=rfl;omega) (by omega) (by omega) rfl rfl rfl
      have e:exprI (.mk op n nm l) least d=(exprI (.mk op n nm l) 1 (d+1)).map fun y=>((⟨#[40]⟩++y.1)++⟨#[41]⟩,y.2+1):=by
       have h2:decide (rankF op<1)=false:=decide_eq_false (by have:=(rankF_range op).1;omega);simp only [exprI,closeI,hd12,hop,hr,h2]
       cases decide (d+1≤12) with
       |true=>cases bodyI (.mk op n nm l) (d+1) <;> rfl
       |false=>rfl
      rw [e];exact this
end Go.Abs
end
section
namespace Go.Abs
open Go Go.Proofs
abbrev TM(α:Type):=Option (α×Nat)
def TM.ret{α:Type}(a:α):TM α:=some (a,0)
def TM.bd{α β:Type}(x:TM α)(f:α→TM β):TM β:=match x with
 |none=>none
 |some (a,k)=>match f a with
  |none=>none
  |some (b,j)=>some (b,k+j)
def TM.grd{α:Type}(c:Bool)(x:TM α):TM α:=match c with
 |true=>x
 |false=>none
theorem TL_ok'{α:Type}{W:WS}{a:α}{k:Nat}(h:W.n+k≤4000):TL W (some (a,k)) a ⟨W.b,W.inn,true,W.n+k⟩:=by
 simp only [TL];rw [decide_eq_true h]
 simp
theorem TL_ret{α:Type}{W:WS}(a:α)(hW:W.ok=true)(hn:W.n≤4000):TL W (TM.ret a) a W:=by
 have:=TL_ok' (W:=W) (a:=a) (k:=0) (by simpa using hn);obtain ⟨b,i,o,n⟩:=W;simp only at hW;subst hW
 show TL _ (some (a,0)) a _
 simpa using this
theorem TL_bd{α β:Type}{U V V':WS}{x:TM α}{f:α→TM β}{a:α}{b:β}(h:TL U x a V)(h1:V.ok=true→TL V (f a) b V')(h0:V.ok=false→V'.ok=false):TL U (x.bd f) b V':=by
 cases hv:V.ok with
 |false=>
  refine TL_of_bad (h0 hv) ?_;intro s k e;have hx:=TL_bad h hv
  cases x with
  |none=>cases e
  |some u=>
   obtain ⟨s1,k1⟩:=u;have:=hx s1 k1 rfl;simp only [TM.bd] at e;split at e
   ·cases e
   simp only [Option.some.injEq,Prod.mk.injEq] at e;omega
 |true=>
  obtain ⟨k,rfl,hk,rfl⟩:=TL_ok h hv;have h2:=h1 rfl;simp only [TM.bd]
  cases hf:f a with
  |none=>rw [hf] at h2;exact h2
  |some v=>
   obtain ⟨s2,k2⟩:=v;rw [hf] at h2;simp only [TL] at h2 ⊢
   have e:U.n+((k+k2:Nat):Int)=U.n+k+k2:=by omega
   rw [e];exact h2
theorem TL_okN{α:Type}{W V:WS}{x:TM α}{a:α}(h:TL W x a V)(hW:W.ok=true)(hn:okN W):okN V:=fun q=>by
 obtain ⟨k,_,hk,rfl⟩:=TL_ok h q;have:=hn hW;simp only at hk ⊢;omega
theorem TTm.okN{α:Type}{μ:α→Nat}{W V:WS}{x:TM α}{m:Nat}{r:Q α}{a:α}(hn:okN W)(h0:W.ok=false→V.ok=false)(h1:W.ok=true→TL W x a V):Go.Abs.okN V:=fun q=>by
 cases hW:W.ok with
 |false=>exact absurd ((h0 hW).symm.trans q) (by decide)
 |true=>exact TL_okN (h1 hW) hW hn q
theorem TTm.bind {α β:Type}{μ:α→Nat}{ν:β→Nat}{W:WS}{x:TM α}{m m':Nat}{r:Q α}{f:α→WS→Q β}{y:α→TM β}(hW:Go.Abs.okN W) (h:TTm μ W x m r)
  (hf:∀a V,μ a≤m→Go.Abs.okN V→V.b=W.b→V.inn=W.inn→TTm ν V (y a) m' (f a V)):TTm ν W (x.bd y) m' (r.bind f):=by
 obtain ⟨a,V,rfl,h1,h2,h3,h4,h5⟩:=h.ex;obtain ⟨b,U,e,g1,g2,g3,g4,g5⟩:=(hf a V h1 (TTm.okN (μ:=μ) (m:=m) (r:=.ok a V) hW h4 h5) h2 h3).ex;refine ⟨⟨b,U,e,g1,g2.trans h2,g3.trans h3,fun q=>g4 (h4 q),fun q=>TL_bd (h5 q) g5 g4⟩⟩
theorem TTm.ret{α:Type}{μ:α→Nat}{W:WS}{m:Nat}(a:α)(hW:Go.Abs.okN W)(hm:μ a≤m):TTm μ W (TM.ret a) m (.ok a W):=
 ⟨⟨a,W,rfl,hm,rfl,rfl,id,fun q=>TL_ret a q (hW q).2⟩⟩
theorem TTm.fitR{W:WS}{m:Nat}(a:ByteArray)(hW:Go.Abs.okN W)(hm:a.size≤m)(hl:m≤1073741824):TTl W (TM.ret a) m (Go.Abs.fit a W):=by
 rw [fit_small (by omega)];exact TTm.ret a hW hm
/-- A check that fails: there is no text, whatever comes behind. -/
theorem TTm.none{α:Type}{μ:α→Nat}{W U:WS}{x y:TM α}{m:Nat}{r:Q α}(hU:U.ok=false)(hb:U.b=W.b)(hi:U.inn=W.inn)(h:TTm μ U x m r):TTm μ W (none:TM α) m r:=by
 obtain ⟨a,V,rfl,h1,h2,h3,h4,h5⟩:=h.ex;exact ⟨⟨a,V,rfl,h1,h2.trans hb,h3.trans hi,fun _=>h4 hU,fun _=>h4 hU⟩⟩
theorem mustW_false{W:WS}:(mustW W false).ok=false:=by simp [mustW]
theorem mustW_true(W:WS):mustW W true=W:=by obtain ⟨b,i,o,n⟩:=W;simp [mustW]
theorem TTm.guard{α:Type}{μ:α→Nat}{W:WS}{x:TM α}{m:Nat}{f:WS→Q α}(c:Bool)(hW:Go.Abs.okN W)(h:∀U,Go.Abs.okN U→U.inn=W.inn→U.b=W.b→TTm μ U x m (f U)):TTm μ W (TM.grd c x) m (f (mustW W c)):=by
 cases c with
 |true=>rw [mustW_true];exact h W hW rfl rfl
 |false=>exact TTm.none (x:=x) (y:=x) mustW_false rfl rfl (h _ (fun q=>absurd (mustW_false.symm.trans q) (by decide)) rfl rfl)
def ssz(c:Nat):List ByteArray→Nat
 |[]=>0
 |s::r=>s.size+c+ssz c r
theorem ssz_append(c:Nat)(a b:List ByteArray):ssz c (a++b)=ssz c a+ssz c b:=by
 induction a with
 |nil=>simp [ssz]
 |cons x a ih=>simp only [List.cons_append,ssz,ih];omega
theorem join_len(sep:List UInt8):∀l:List (List UInt8),(Lib.join l sep).length≤(l.map fun x=>x.length+sep.length).sum
 |[]=>by simp [Lib.join]
 |[x]=>by simp [Lib.join]
 |x::y::r=>by
  have:=join_len sep (y::r);simp only [Lib.join,List.intercalate_cons_cons,List.length_append,List.map_cons,List.sum_cons] at this ⊢;omega
theorem joinB_size(l:List ByteArray)(sep:ByteArray):(joinB l sep).size≤ssz sep.size l:=by
 have h:=join_len sep.data.toList (l.map (·.data.toList))
 have e:((l.map (·.data.toList)).map fun x=>x.length+sep.data.toList.length).sum=ssz sep.size l:=by
  clear h
  induction l with
  |nil=>rfl
  |cons x l ih=>
   simp only [List.map_cons,List.sum_cons,ssz,ih]
   rfl
 rw [e] at h
 show (List.toArray _).size≤_
 simpa using h
def listI:List Ex→TM (List ByteArray)
 |[]=>TM.ret []
 |e::r=>TM.bd (exprI e 1 1) fun s=>TM.bd (listI r) fun ss=>TM.ret (s::ss)
def pre(acc:List ByteArray)(x:TM (List ByteArray)):TM (List ByteArray):=TM.bd x fun ss=>TM.ret (acc++ss)
theorem bd_ret{α:Type}(x:TM α):TM.bd x TM.ret=x:=by
 cases x with
 |none=>rfl
 |some u=>obtain ⟨a,k⟩:=u;simp [TM.bd,TM.ret]
theorem bd_assoc{α β γ:Type}(x:TM α)(f:α→TM β)(g:β→TM γ):TM.bd (TM.bd x f) g=TM.bd x fun a=>TM.bd (f a) g:=by
 cases x with
 |none=>rfl
 |some u=>
  obtain ⟨a,k⟩:=u;simp only [TM.bd]
  cases f a with
  |none=>rfl
  |some v=>
   obtain ⟨b,j⟩:=v;simp only
   cases g b with
   |none=>rfl
   |some w=>simp [Nat.add_assoc]
theorem ret_bd{α β:Type}(a:α)(f:α→TM β):TM.bd (TM.ret a) f=f a:=by
 simp only [TM.bd,TM.ret]
 cases f a with
 |none=>rfl
 |some v=>simp
theorem wtL_cons(e:Ex)(r:List Ex):wtL (e::r)=wtE e+2+wtL r:=by simp [wtL]
theorem term_one(f:Nat)(e:Ex)(W:WS)(hf:fuE e≤f)(hn:nmE e=true)(hw:wtE e≤1000000000)(hW:okN W):TTl W (exprI e 1 1) (wtE e) (termW f e 1 1 W):=by
 have ho:=ovr_no (r:=rankF e.op) (l:=1) (rankF_range _).1;have:=term_tot f e 1 1 W (by omega) hn hw hW (by omega) (by omega) (by omega);rw [ho] at this;exact this
theorem listW_tot(f:Nat):∀(l:List Ex) (W:WS) (acc:List ByteArray),fuL l≤f→nmL l=true→ssz 2 acc+wtL l≤1000000000→okN W→TTm (ssz 2) W (pre acc (listI l)) (ssz 2 acc+wtL l) (listW f l W acc)
 |[],W,acc,_,_,_,hW=>by
  simp only [listI,pre,ret_bd,List.append_nil,listW];exact TTm.ret acc hW (by omega)
 |e::r,W,acc,hf,hn,hw,hW=>by
  simp only [fuL] at hf;simp only [nmL,Bool.and_eq_true] at hn;rw [wtL_cons] at hw ⊢;simp only [listI,pre,bd_assoc,ret_bd,listW];refine TTm.bind hW (term_one f e W (by omega) hn.1 (by omega) hW) fun s V hs hV _ _=>?_
  have hx:ssz 2 (acc++[s])≤ssz 2 acc+(wtE e+2):=by rw [ssz_append];simp only [ssz];omega
  have h:=listW_tot f r V (acc++[s]) (by omega) hn.2 (by omega) hV
  have e1:pre (acc++[s]) (listI r)=TM.bd (listI r) fun ss=>TM.ret (acc++(s::ss)):=by simp [pre]
  rw [e1] at h;obtain ⟨a,U,q1,q2,q3⟩:=h.ex;exact ⟨⟨a,U,q1,by omega,q3⟩⟩
def listJ(l:List Ex):TIs:=TM.bd (listI l) fun ss=>TM.ret (joinB ss ⟨#[44,32]⟩)
theorem listT_tot(f:Nat)(l:List Ex)(W:WS)(hf:fuL l≤f)(hn:nmL l=true)(hl:l.length≤1073741824)(hw:wtL l≤1000000000)(hW:okN W):TTl W (listJ l) (wtL l) (listT f l W):=by
 have hc:chkL l.length=true:=decide_eq_true hl;simp only [listT,hc];have h:=listW_tot f l W [] hf hn (by simp only [ssz];omega) hW
 have e:pre [] (listI l)=listI l:=by simp [pre,bd_ret]
 rw [e] at h;refine TTm.bind hW h fun ss V hs hV _ _=>?_;have:=joinB_size ss ⟨#[44,32]⟩;have e2:(⟨#[44,32]⟩:ByteArray).size=2:=rfl;rw [e2] at this;simp only [ssz] at hs;exact TTm.fitR _ hV (by omega) (by omega)
def testI(t:Ts):TIs:=TM.grd (isRelF t.rel) (TM.bd (exprI t.a 1 1) fun s=>TM.bd (exprI t.b 1 1) fun u=>TM.ret ((((s++⟨#[32]⟩)++t.rel)++⟨#[32]⟩)++u))
def fuT(t:Ts):Nat:=fuE t.a+fuE t.b
def wtT(t:Ts):Nat:=wtE t.a+wtE t.b+t.rel.size+10
def nmT(t:Ts):Bool:=nmE t.a&&nmE t.b
theorem testT_tot(f:Nat)(t:Ts)(W:WS)(hf:fuT t≤f)(hn:nmT t=true)(hw:wtT t≤1000000000)(hW:okN W):TTl W (testI t) (wtT t) (testT f t W):=by
 simp only [fuT] at hf;simp only [nmT,Bool.and_eq_true] at hn;simp only [wtT] at hw ⊢;have hc:chkS t.rel=true:=decide_eq_true (by omega);simp only [testT,hc,testI]
 have key:∀U:WS,okN U→U.inn=W.inn→U.b=W.b→TTm ByteArray.size U (TM.bd (exprI t.a 1 1) fun s=>TM.bd (exprI t.b 1 1) fun u=>TM.ret ((((s++⟨#[32]⟩)++t.rel)++⟨#[32]⟩)++u)) (wtE t.a+wtE t.b+t.rel.size+10) ((termW f t.a 1 1 U).bind fun s V=>(termW f t.b 1 1 V).bind fun u V=>fit ((((s++⟨#[32]⟩)++t.rel)++⟨#[32]⟩)++u) V):=by
  intro U hU _ _;refine TTm.bind hU (term_one f t.a U (by omega) hn.1 (by omega) hU) fun s V hs hV _ _=>?_;refine TTm.bind hV (term_one f t.b V (by omega) hn.2 (by omega) hV) fun u V2 hu hV2 _ _=>?_;refine TTm.fitR _ hV2 ?_ (by omega);simp only [sz2];have e1:(⟨#[32]⟩:ByteArray).size=1:=rfl;omega
 exact TTm.guard _ hW key
def andI:List Ts→TM (List ByteArray)
 |[]=>TM.ret []
 |t::r=>TM.bd (testI t) fun s=>TM.bd (andI r) fun ss=>TM.ret (s::ss)
def fuR:List Ts→Nat
 |[]=>0
 |t::r=>fuT t+fuR r
def wtR:List Ts→Nat
 |[]=>10
 |t::r=>wtT t+5+wtR r
def nmR:List Ts→Bool
 |[]=>true
 |t::r=>nmT t&&nmR r
theorem andW_tot(f:Nat):∀(l:List Ts) (W:WS) (acc:List ByteArray),fuR l≤f→nmR l=true→ssz 5 acc+wtR l≤1000000000→okN W→TTm (ssz 5) W (pre acc (andI l)) (ssz 5 acc+wtR l) (andW f l W acc)
 |[],W,acc,_,_,_,hW=>by
  simp only [andI,pre,ret_bd,List.append_nil,andW];exact TTm.ret acc hW (by omega)
 |t::r,W,acc,hf,hn,hw,hW=>by
  simp only [fuR] at hf;simp only [nmR,Bool.and_eq_true] at hn;simp only [wtR] at hw ⊢;simp only [andI,pre,bd_assoc,ret_bd,andW];refine TTm.bind hW (testT_tot f t W (by omega) hn.1 (by omega) hW) fun s V hs hV _ _=>?_
  have hx:ssz 5 (acc++[s])≤ssz 5 acc+(wtT t+5):=by rw [ssz_append];simp only [ssz];omega
  have h:=andW_tot f r V (acc++[s]) (by omega) hn.2 (by omega) hV
  have e1:pre (acc++[s]) (andI r)=TM.bd (andI r) fun ss=>TM.ret (acc++(s::ss)):=by simp [pre]
  rw [e1] at h;obtain ⟨a,U,q1,q2,q3⟩:=h.ex;exact ⟨⟨a,U,q1,by omega,q3⟩⟩
def rowI(r:List Ts):TIs:=TM.bd (andI r) fun ss=>TM.ret (joinB (nz ss) ⟨#[32,97,110,100,32]⟩)
theorem nz_ssz(l:List ByteArray)(m:Nat)(h:ssz 5 l≤m)(hm:10≤m):ssz 5 (nz l)≤m:=by
 cases l with
 |nil=>
  have:ssz 5 (nz [])=9:=rfl;omega
 |cons x l=>exact h
theorem wtR_ge(r:List Ts):10≤wtR r:=by
 induction r with
 |nil=>exact Nat.le_refl _
 |cons t r ih=>simp only [wtR];omega
theorem rowT_tot(f:Nat)(r:List Ts)(W:WS)(hf:fuR r≤f)(hn:nmR r=true)(hl:r.length≤1073741824)(hw:wtR r≤1000000000)(hW:okN W):TTl W (rowI r) (wtR r) (rowT f r W):=by
 have hc:chkL r.length=true:=decide_eq_true hl;simp only [rowT,hc];have h:=andW_tot f r W [] hf hn (by simp only [ssz];omega) hW
 have e:pre [] (andI r)=andI r:=by simp [pre,bd_ret]
 rw [e] at h;refine TTm.bind hW h fun ss V hs hV _ _=>?_;have:=joinB_size (nz ss) ⟨#[32,97,110,100,32]⟩;have e2:(⟨#[32,97,110,100,32]⟩:ByteArray).size=5:=rfl;rw [e2] at this;simp only [ssz] at hs;have:=nz_ssz ss (wtR r) (by omega) (wtR_ge r);exact TTm.fitR _ hV (by omega) (by omega)
def orI:List (List Ts)→TM (List ByteArray)
 |[]=>TM.ret []
 |t::r=>TM.bd (rowI t) fun s=>TM.bd (orI r) fun ss=>TM.ret (s::ss)
def fuC:List (List Ts)→Nat
 |[]=>0
 |t::r=>fuR t+fuC r
def wtC:List (List Ts)→Nat
 |[]=>10
 |t::r=>wtR t+4+wtC r
def nmC:List (List Ts)→Bool
 |[]=>true
 |t::r=>nmR t&&nmC r
theorem wtR_len(r:List Ts):r.length≤wtR r:=by
 induction r with
 |nil=>exact Nat.zero_le _
 |cons t r ih=>simp only [wtR,List.length_cons];omega
theorem wtC_len(r:List (List Ts)):r.length≤wtC r:=by
 induction r with
 |nil=>exact Nat.zero_le _
 |cons t r ih=>simp only [wtC,List.length_cons];omega
theorem wtL_len(r:List Ex):r.length≤wtL r:=by
 induction r with
 |nil=>exact Nat.zero_le _
 |cons t r ih=>simp only [wtL,List.length_cons];omega
theorem orW_tot(f:Nat):∀(l:List (List Ts)) (W:WS) (acc:List ByteArray),fuC l≤f→nmC l=true→ssz 4 acc+wtC l≤1000000000→okN W→TTm (ssz 4) W (pre acc (orI l)) (ssz 4 acc+wtC l) (orW f l W acc)
 |[],W,acc,_,_,_,hW=>by
  simp only [orI,pre,ret_bd,List.append_nil,orW];exact TTm.ret acc hW (by omega)
 |t::r,W,acc,hf,hn,hw,hW=>by
  simp only [fuC] at hf;simp only [nmC,Bool.and_eq_true] at hn;simp only [wtC] at hw ⊢;simp only [orI,pre,bd_assoc,ret_bd,orW];have:=wtR_len t;refine TTm.bind hW (rowT_tot f t W (by omega) hn.1 (by omega) (by omega) hW) fun s V hs hV _ _=>?_
  have hx:ssz 4 (acc++[s])≤ssz 4 acc+(wtR t+4):=by rw [ssz_append];simp only [ssz];omega
  have h:=orW_tot f r V (acc++[s]) (by omega) hn.2 (by omega) hV
  have e1:pre (acc++[s]) (orI r)=TM.bd (orI r) fun ss=>TM.ret (acc++(s::ss)):=by simp [pre]
  rw [e1] at h;obtain ⟨a,U,q1,q2,q3⟩:=h.ex;exact ⟨⟨a,U,q1,by omega,q3⟩⟩
def condI(c:List (List Ts)):TIs:=match c with
 |[]=>TM.ret ⟨#[102,97,108,115,101]⟩
 |r::c=>TM.bd (orI (r::c)) fun ss=>TM.ret (joinB ss ⟨#[32,111,114,32]⟩)
theorem condT_tot(f:Nat)(c:List (List Ts))(W:WS)(hf:fuC c≤f)(hn:nmC c=true)(hw:wtC c≤1000000000)(hW:okN W):TTl W (condI c) (wtC c) (condT f c W):=by
 have hlen:=wtC_len c;have hc:chkL c.length=true:=decide_eq_true (by omega)
 cases c with
 |nil=>
  simp only [condT,hc,condI];exact TTm.fitR (m:=wtC []) ⟨#[102,97,108,115,101]⟩ hW (by show 5≤10;omega) (by show 10≤_;omega)
 |cons r c=>
  have hz:(((cnd (r::c)).length:Int)==0)=false:=by
   rw [beq_eq_false_iff_ne];simp only [cnd,List.length_map,List.length_cons];omega
  simp only [condT,hc,hz,condI];have h:=orW_tot f (r::c) W [] hf hn (by simp only [ssz];omega) hW
  have e:pre [] (orI (r::c))=orI (r::c):=by simp [pre,bd_ret]
  rw [e] at h;refine TTm.bind hW h fun ss V hs hV _ _=>?_;have:=joinB_size ss ⟨#[32,111,114,32]⟩;have e2:(⟨#[32,111,114,32]⟩:ByteArray).size=4:=rfl;rw [e2] at this;simp only [ssz] at hs;exact TTm.fitR _ hV (by omega) (by omega)
end Go.Abs
end
section
namespace Go.Abs
open Go Go.Proofs
def sqI(x y:TIs):TIs:=TM.bd x fun a=>TM.bd y fun b=>TM.ret (a++b)
def lnI(k:Nat)(s:ByteArray):ByteArray:=(indent k++s)++⟨#[10]⟩
/-- What a writer comes to that has written such a text. -/
def TB(W:WS)(x:TIs)(V:WS):Prop:=match x with
 |none=>V.ok=false
 |some (s,k)=>match decide (W.n+k≤4000) with
  |true=>V=⟨W.b++s,W.inn,true,W.n+k⟩
  |false=>V.ok=false
structure TSq (W:WS) (x:TIs) (m:Nat) (r:Q Unit):Prop where
 ex:∃V,r=.ok () V∧V.inn=W.inn∧V.b.size≤W.b.size+m∧(W.ok=false→V.ok=false)∧(W.ok=true→TB W x V)
theorem TB_ok{W:WS}{x:TIs}{V:WS}(h:TB W x V)(hv:V.ok=true):∃s k,x=some (s,k)∧W.n+k≤4000∧V=⟨W.b++s,W.inn,true,W.n+k⟩:=by
 cases x with
 |none=>exact absurd (h.symm.trans hv) (by decide)
 |some y=>
  obtain ⟨s,k⟩:=y;simp only [TB] at h
  cases hk:decide (W.n+(k:Int)≤4000) with
  |false=>rw [hk] at h;exact absurd (h.symm.trans hv) (by decide)
  |true=>rw [hk] at h;subst h;exact ⟨s,k,rfl,of_decide_eq_true hk,rfl⟩
theorem TB_bad{W:WS}{x:TIs}{V:WS}(h:TB W x V)(hv:V.ok=false):∀s k,x=some (s,k)→¬W.n+k≤4000:=by
 rintro s k rfl;simp only [TB] at h
 cases hk:decide (W.n+(k:Int)≤4000) with
 |false=>exact of_decide_eq_false hk
 |true=>rw [hk] at h;subst h;cases hv
theorem TB_of_bad{W:WS}{x:TIs}{V:WS}(hv:V.ok=false)(h:∀s k,x=some (s,k)→¬W.n+k≤4000):TB W x V:=by
 cases x with
 |none=>exact hv
 |some y=>
  obtain ⟨s,k⟩:=y;simp only [TB];rw [decide_eq_false (h s k rfl)];exact hv
theorem TB_okN{W V:WS}{x:TIs}(hn:okN W)(h0:W.ok=false→V.ok=false)(h:W.ok=true→TB W x V):okN V:=fun q=>by
 cases hW:W.ok with
 |false=>exact absurd ((h0 hW).symm.trans q) (by decide)
 |true=>
  obtain ⟨s,k,_,hk,rfl⟩:=TB_ok (h hW) q;have:=hn hW;simp only at hk ⊢;omega
theorem some_bd{α β:Type}{a:α}{k:Nat}{f:α→TM β}{s:β}{j:Nat}(h:TM.bd (some (a,k)) f=some (s,j)):∃i,f a=some (s,i)∧j=k+i:=by
 simp only [TM.bd] at h;split at h
 ·cases h
 rename_i b i hf;simp only [Option.some.injEq,Prod.mk.injEq] at h;obtain ⟨rfl,rfl⟩:=h;exact ⟨i,hf,rfl⟩
theorem TB_sq{U V V':WS}{x y:TIs}(h:TB U x V)(h1:V.ok=true→TB V y V')(h0:V.ok=false→V'.ok=false):TB U (sqI x y) V':=by
 cases hv:V.ok with
 |false=>
  refine TB_of_bad (h0 hv) ?_;intro s k e;have hx:=TB_bad h hv
  cases x with
  |none=>cases e
  |some u=>
   obtain ⟨s1,k1⟩:=u;have:=hx s1 k1 rfl;obtain ⟨i,_,rfl⟩:=some_bd e;omega
 |true=>
  obtain ⟨s,k,rfl,hk,rfl⟩:=TB_ok h hv;have h2:=h1 rfl
  cases y with
  |none=>exact h2
  |some v=>
   obtain ⟨s2,k2⟩:=v;simp only [sqI,TM.bd,TM.ret,TB] at h2 ⊢
   by_cases hq:U.n+(k:Int)+(k2:Int)≤4000
   ·rw [decide_eq_true hq] at h2
    rw [decide_eq_true (by omega)];simp only at h2 ⊢;rw [h2,ByteArray.append_assoc]
    congr 1
    omega
   rw [decide_eq_false hq] at h2;rw [decide_eq_false (by omega)];exact h2
theorem TB_bd{α:Type}{U V V':WS}{x:TM α}{y:α→TIs}{a:α}(h:TL U x a V)(h1:V.ok=true→TB V (y a) V')(h0:V.ok=false→V'.ok=false):TB U (x.bd y) V':=by
 cases hv:V.ok with
 |false=>
  refine TB_of_bad (h0 hv) ?_;intro s k e;have hx:=TL_bad h hv
  cases x with
  |none=>cases e
  |some u=>
   obtain ⟨s1,k1⟩:=u;have:=hx s1 k1 rfl;obtain ⟨i,_,rfl⟩:=some_bd e;omega
 |true=>
  obtain ⟨k,rfl,hk,rfl⟩:=TL_ok h hv;have h2:=h1 rfl;simp only [TM.bd]
  cases hf:y a with
  |none=>rw [hf] at h2;exact h2
  |some v=>
   obtain ⟨s2,k2⟩:=v;rw [hf] at h2;simp only [TB] at h2 ⊢
   have e:U.n+((k+k2:Nat):Int)=U.n+k+k2:=by omega
   rw [e];exact h2
theorem TSq.weak{W:WS}{x:TIs}{m m':Nat}{r:Q Unit}(h:TSq W x m r)(hm:m≤m'):TSq W x m' r:=by
 obtain ⟨V,h1,h2,h3,h4⟩:=h.ex;exact ⟨⟨V,h1,h2,by omega,h4⟩⟩
theorem TSq.seq{W:WS}{x y:TIs}{m m':Nat}{r:Q Unit}{f:WS→Q Unit}(hW:okN W)(h:TSq W x m r)(hf:∀V,okN V→V.inn=W.inn→V.b.size≤W.b.size+m→TSq V y m' (f V)):TSq W (sqI x y) (m+m') (r.bind fun _ V=>f V):=by
 obtain ⟨V,rfl,h2,h3,h4,h5⟩:=h.ex;obtain ⟨U,e,g2,g3,g4,g5⟩:=(hf V (TB_okN hW h4 h5) h2 h3).ex;exact ⟨⟨U,e,g2.trans h2,by omega,fun q=>g4 (h4 q),fun q=>TB_sq (h5 q) g5 g4⟩⟩
theorem TSq.aft{α:Type}{μ:α→Nat}{W:WS}{x:TM α}{y:α→TIs}{m m':Nat}{r:Q α}{f:α→WS→Q Unit}(hW:okN W)(h:TTm μ W x m r)(hf:∀a V,μ a≤m→okN V→V.b=W.b→V.inn=W.inn→TSq V (y a) m' (f a V)):TSq W (x.bd y) m' (r.bind f):=by
 obtain ⟨a,V,rfl,h1,h2,h3,h4,h5⟩:=h.ex;obtain ⟨U,e,g2,g3,g4,g5⟩:=(hf a V h1 (TTm.okN (μ:=μ) (m:=m) (r:=.ok a V) hW h4 h5) h2 h3).ex;exact ⟨⟨U,e,g2.trans h3,by rw [← h2];exact g3,fun q=>g4 (h4 q),fun q=>TB_bd (h5 q) g5 g4⟩⟩
theorem TSq.no{W U:WS}{x y:TIs}{m:Nat}{r:Q Unit}(hU:U.ok=false)(hb:U.b=W.b)(hi:U.inn=W.inn)(h:TSq U x m r):TSq W none m r:=by
 obtain ⟨V,rfl,h2,h3,h4,h5⟩:=h.ex;exact ⟨⟨V,rfl,h2.trans hi,by rw [← hb];exact h3,fun _=>h4 hU,fun _=>h4 hU⟩⟩
theorem TSq.tick{W:WS}{x:TIs}{m:Nat}{r:Q Unit}(hW:W.ok=true)(hn:W.n+1≤4000)(h:TSq ⟨W.b,W.inn,true,W.n+1⟩ x m r):TSq W (TM.bd (some ((),1)) fun _=>x) m r:=by
 obtain ⟨V,rfl,h2,h3,h4,h5⟩:=h.ex;exact ⟨⟨V,rfl,h2,h3,fun q=>absurd (hW.symm.trans q) (by decide),fun _=>TB_bd (a:=()) (TL_ok' (k:=1) hn) (fun _=>h5 rfl) (fun q=>absurd q (by simp))⟩⟩
theorem TSq.guard{W:WS}{x:TIs}{m:Nat}{f:WS→Q Unit}(c:Bool)(hW:okN W)(h:∀U,okN U→U.inn=W.inn→U.b=W.b→TSq U x m (f U)):TSq W (TM.grd c x) m (f (mustW W c)):=by
 cases c with
 |true=>rw [mustW_true];exact h W hW rfl rfl
 |false=>exact TSq.no (x:=x) (y:=x) mustW_false rfl rfl (h _ (fun q=>absurd (mustW_false.symm.trans q) (by decide)) rfl rfl)
theorem lnI_size(k:Nat)(s:ByteArray):(lnI k s).size=2 * k+s.size+1:=by
 simp only [lnI,sz2,indent_size]
 rfl
theorem TSq.line0{W:WS}{m:Nat}(s:ByteArray)(hW:okN W)(hi:W.inn≤20)(hs:s.size+41≤m)(hm:m≤1000000000)(hb:W.b.size≤10000000000):TSq W (TM.ret (lnI W.inn s)) m (lineQ s W):=by
 have hc:chkB s W=true:=by
  unfold chkB
  rw [decide_eq_true (show W.inn≤1073741824 by omega),decide_eq_true (show s.size≤1073741824 by omega),decide_eq_true (show W.b.size≤70368744177664 by omega)]
  rfl
 unfold lineQ
 rw [hc];refine ⟨⟨lineW W s,rfl,rfl,?_,fun q=>q,fun q=>?_⟩⟩
 ·show (W.b++lnI W.inn s).size≤_
  rw [sz2,lnI_size];omega
 have h:=hW q
 show TB W (some (lnI W.inn s,0)) _
 simp only [TB];rw [decide_eq_true (by omega)];obtain ⟨b,i,o,n⟩:=W;simp only at q;subst q
 simp [lineW,putW,lnI]
theorem TSq.line{W:WS}{k m:Nat}(s:ByteArray)(hW:okN W)(hi:W.inn=k)(hk:k≤20)(hs:s.size+41≤m)(hm:m≤1000000000)(hb:W.b.size≤10000000000):TSq W (TM.ret (lnI k s)) m (lineQ s W):=by
 subst hi;exact TSq.line0 s hW hk hs hm hb
mutual
def stmtI:Sm→Nat→TIs
 |.mk kind name proc args cond body els,k=>match (kind.toList==(⟨#[115,101,116]⟩:ByteArray).toList) with
  |true=>TM.grd ((bareF true false true false false false (.mk kind name proc args cond body els))&&(((exs args).length:Int)==1)) (TM.grd (isNameF name) (TM.bd (listJ args) fun t=>TM.ret (lnI k (((name++(⟨#[32,61,32]⟩:ByteArray))++t)++(⟨#[59]⟩:ByteArray)))))
  |false=>match (kind.toList==(⟨#[112,117,116]⟩:ByteArray).toList) with
   |true=>TM.grd ((bareF true false true false false false (.mk kind name proc args cond body els))&&(((exs args).length:Int)==2)) (TM.grd (isNameF name) (match args with
    |[x,y]=>TM.bd (exprI x 1 1) fun s=>TM.bd (exprI y 1 1) fun u=>TM.ret (lnI k (((((name++(⟨#[91]⟩:ByteArray))++s)++(⟨#[93,32,61,32]⟩:ByteArray))++u)++(⟨#[59]⟩:ByteArray)))
    |_=>none))
   |false=>match (kind.toList==(⟨#[99,97,108,108]⟩:ByteArray).toList) with
    |true=>TM.grd (bareF true true true false false false (.mk kind name proc args cond body els)) (TM.grd (isNameF name) (TM.grd (isNameF proc) (TM.bd (listJ args) fun t=>TM.ret (lnI k (((((name++(⟨#[32,61,32,99,97,108,108,32]⟩:ByteArray))++proc)++(⟨#[40]⟩:ByteArray))++t)++(⟨#[41,59]⟩:ByteArray))))))
    |false=>match (kind.toList==(⟨#[105,102]⟩:ByteArray).toList) with
     |true=>TM.grd (bareF false false false true true true (.mk kind name proc args cond body els)) (TM.bd (condI cond) fun c=>sqI (TM.ret (lnI k (((⟨#[105,102,32]⟩:ByteArray)++c)++(⟨#[32,123]⟩:ByteArray)))) (sqI (blockI body (k+1)) (match decide (((sms els).length:Int)>0) with
      |true=>sqI (TM.ret (lnI k (⟨#[125,32,101,108,115,101,32,123]⟩:ByteArray))) (sqI (blockI els (k+1)) (TM.ret (lnI k (⟨#[125]⟩:ByteArray))))
      |false=>TM.ret (lnI k (⟨#[125]⟩:ByteArray)))))
     |false=>match (kind.toList==(⟨#[119,104,105,108,101]⟩:ByteArray).toList) with
      |true=>TM.grd (bareF false false false true true false (.mk kind name proc args cond body els)) (TM.bd (condI cond) fun c=>sqI (TM.ret (lnI k (((⟨#[119,104,105,108,101,32]⟩:ByteArray)++c)++(⟨#[32,123]⟩:ByteArray)))) (sqI (blockI body (k+1)) (TM.ret (lnI k (⟨#[125]⟩:ByteArray)))))
      |false=>match ((kind.toList==(⟨#[97,115,115,101,114,116]⟩:ByteArray).toList)||(kind.toList==(⟨#[97,115,115,117,109,101]⟩:ByteArray).toList)) with
       |true=>TM.grd (bareF false false false true false false (.mk kind name proc args cond body els)) (TM.bd (condI cond) fun c=>TM.ret (lnI k (((kind++(⟨#[32]⟩:ByteArray))++c)++(⟨#[59]⟩:ByteArray))))
       |false=>match (kind.toList==(⟨#[114,101,97,100]⟩:ByteArray).toList) with
        |true=>TM.grd (bareF true false false false false false (.mk kind name proc args cond body els)) (TM.grd (isNameF name) (TM.ret (lnI k (((⟨#[114,101,97,100,32]⟩:ByteArray)++name)++(⟨#[59]⟩:ByteArray)))))
        |false=>none
def blockI:List Sm→Nat→TIs
 |[],_=>TM.ret ⟨#[]⟩
 |s::r,k=>match decide ((k:Int)≤12) with
  |true=>TM.bd (some ((),1)) fun _=>sqI (stmtI s k) (blockI r k)
  |false=>none
end
mutual
def fuS:Sm→Nat
 |.mk _ _ _ _ _ body els=>2+fuB body+fuB els
def fuB:List Sm→Nat
 |[]=>2
 |s::r=>2+fuS s+fuB r
end
mutual
def wtS:Sm→Nat
 |.mk kind name proc args cond body els=>400+kind.size+name.size+proc.size+wtL args+wtC cond+wtB body+wtB els
def wtB:List Sm→Nat
 |[]=>1
 |s::r=>1+wtS s+wtB r
end
mutual
def okS(n:Nat):Sm→Bool
 |.mk _ _ _ args cond body els=>(nmL args&&decide (fuL args≤n))&&(nmC cond&&decide (fuC cond≤n))&&okB n body&&okB n els
def okB(n:Nat):List Sm→Bool
 |[]=>true
 |s::r=>okS n s&&okB n r
end
theorem bdot{α β γ:Type}(r:Q α)(f:α→WS→Q β)(g:β→WS→Q γ):((r.bind f).bind g)=r.bind fun a V=>(f a V).bind g:=by cases r <;> rfl
def StT(n f:Nat):Prop:=∀(s:Sm) (k:Nat) (W:WS),fuS s≤f→okS n s=true→wtS s+W.b.size≤1000000000→okN W→W.ok=true→W.inn=k→k≤13→TSq W (stmtI s k) (wtS s) (stmtW n f s k W)
def LpT(n f:Nat):Prop:=∀(l:List Sm) (k:Nat) (W:WS),fuB l≤f→okB n l=true→wtB l+W.b.size≤1000000000→okN W→W.inn=k→k≤14→TSq W (blockI l k) (wtB l) (loopW n f l k W)
def BlT(n f:Nat):Prop:=∀(l:List Sm) (k:Nat) (W:WS),fuB l+1≤f→okB n l=true→wtB l+W.b.size≤1000000000→okN W→W.inn=k→k≤13→TSq W (blockI l (k+1)) (wtB l) (blockW n f l (k+1) W)
theorem wtB_len(r:List Sm):r.length≤wtB r:=by
 induction r with
 |nil=>exact Nat.zero_le _
 |cons t r ih=>simp only [wtB,List.length_cons];omega
theorem block_tot{n f:Nat}(ih:LpT n f):BlT n (f+1):=by
 intro l k W hf hok hw hW hi hk;have hlen:=wtB_len l;have hc1:chkL W.inn=true:=decide_eq_true (by omega);have hc2:chkL l.length=true:=decide_eq_true (by omega);simp only [blockW,hc1,hc2,Bool.and_self];have h:=ih l (k+1) ⟨W.b,W.inn+1,W.ok,W.n⟩ (by omega) hok hw hW (by simp only;omega) (by omega);obtain ⟨V,e,h2,h3,h4,h5⟩:=h.ex
 have ek:((k:Int)+1)=((k+1:Nat):Int):=by omega
 rw [ek,e];simp only at h2 h3 h4 h5
 have hc3:chkI V.inn=true:=by
  unfold chkI
  rw [decide_eq_true (show 1≤V.inn by omega),decide_eq_true (show V.inn≤1073741824 by omega)]
  rfl
 simp only [Q.bind,hc3];refine ⟨⟨_,rfl,by simp only;omega,h3,h4,fun q=>?_⟩⟩;have h5:=h5 q
 cases hv:V.ok with
 |false=>exact TB_of_bad rfl (fun s j e=>TB_bad (W:=⟨W.b,W.inn+1,W.ok,W.n⟩) h5 hv s j e)
 |true=>
  obtain ⟨s,j,e1,hj,rfl⟩:=TB_ok h5 hv;rw [e1];simp only [TB] at hj ⊢;rw [decide_eq_true hj]
  simp
theorem loop_tot{n f:Nat}(ih:LpT n f)(ih2:StT n f):LpT n (f+1):=by
 intro l k W hf hok hw hW hi hk
 cases l with
 |nil=>
  simp only [loopW,blockI];refine ⟨⟨W,rfl,rfl,by omega,id,fun q=>?_⟩⟩;have h:=hW q
  show TB W (some (⟨#[]⟩,0)) W
  simp only [TB];rw [decide_eq_true (by omega)];obtain ⟨b,i,o,m⟩:=W;simp only at q;subst q
  simp
  apply ByteArray.ext
  simp
 |cons s r=>
  simp only [fuB] at hf;simp only [okB,Bool.and_eq_true] at hok;simp only [wtB] at hw ⊢;simp only [loopW,blockI]
  cases hq:W.ok with
  |false=>
   have hl:=lookW_no (d:=k) hq;rw [hl];have h:=ih r k (lookW W k) (by omega) hok.2 (by show wtB r+W.b.size≤_;omega) (fun q=>absurd (hl.symm.trans q) (by decide)) hi hk;obtain ⟨V,e,h2,h3,h4,h5⟩:=h.ex;rw [e];exact ⟨⟨V,rfl,h2,by have:(lookW W k).b=W.b:=rfl;rw [this] at h3;omega,fun _=>h4 hl,fun q=>absurd (hq.symm.trans q) (by decide)⟩⟩
  |true=>
   have hn:=hW hq;have hl:=lookW_yes (d:=k) hq hn
   have bad:(lookW W k).ok=false→(∀x j,(match decide ((k:Int)≤12) with
     |true=>TM.bd (some ((),1)) fun _=>sqI (stmtI s k) (blockI r k)
     |false=>none)=some (x,j)→¬W.n+j≤4000)→TSq W (match decide ((k:Int)≤12) with
     |true=>TM.bd (some ((),1)) fun _=>sqI (stmtI s k) (blockI r k)
     |false=>none) (1+wtS s+wtB r) (match (lookW W k).ok with
     |true=>(stmtW n f s k (lookW W k)).bind fun _ V=>loopW n f r k V
     |false=>loopW n f r k (lookW W k)):=by
    intro hl hx;rw [hl];have h:=ih r k (lookW W k) (by omega) hok.2 (by show wtB r+W.b.size≤_;omega) (fun q=>absurd (hl.symm.trans q) (by decide)) hi hk;obtain ⟨V,e,h2,h3,h4,h5⟩:=h.ex;simp only [e];exact ⟨⟨V,rfl,h2,by have:(lookW W k).b=W.b:=rfl;rw [this] at h3;omega,fun _=>h4 hl,fun _=>TB_of_bad (h4 hl) hx⟩⟩
   cases hd:decide ((k:Int)≤12) with
   |false=>
    rw [hd] at bad;exact bad (by rw [hl,hd];rfl) (fun x j e=>by cases e)
   |true=>
    have hk':=of_decide_eq_true hd
    cases hn1:decide (W.n+1≤4000) with
    |false=>
     have hn1:=of_decide_eq_false hn1;rw [hd] at bad;refine bad (by rw [hl,decide_eq_false hn1];simp) (fun x j e=>?_);obtain ⟨i,_,rfl⟩:=some_bd e;omega
    |true=>
     have hn1:=of_decide_eq_true hn1
     have hl:lookW W k=⟨W.b,W.inn,true,W.n+1⟩:=by rw [hl,hd,decide_eq_true hn1];rfl
     rw [hl];refine TSq.tick hq hn1 ((TSq.seq (m:=wtS s) (m':=wtB r) (f:=fun V=>loopW n f r k V) (fun _=>by simp only;omega) (ih2 s k ⟨W.b,W.inn,true,W.n+1⟩ (by omega) hok.1 (by simp only;omega) (fun _=>by simp only;omega) rfl hi (by omega)) fun V hV hVi hVb=>?_).weak (by omega));simp only at hVi hVb;exact ih r k V (by omega) hok.2 (by omega) hV (by omega) (by omega)
theorem fuB_ge(l:List Sm):2≤fuB l:=by cases l <;> simp only [fuB] <;> omega
theorem stmt_tot{n f:Nat}(ih:BlT n f):StT n (f+1):=by
 intro s k W hf hok hw hW hq hi hk;subst hi;obtain ⟨kind,name,proc,args,cond,body,els⟩:=s;simp only [fuS] at hf;simp only [okS,Bool.and_eq_true,decide_eq_true_eq] at hok;simp only [wtS] at hw ⊢;have hws:=hw;have hok2:=hok.1.1.1.2;have hok3:=hok.1.1.2.2;have hl:=wtL_len args;have hfb:=fuB_ge body;have hfe:=fuB_ge els;have hcs:chkS name=true:=decide_eq_true (by omega);have hcp:chkS proc=true:=decide_eq_true (by omega);have hck:chkS kind=true:=decide_eq_true (by omega);have hd1:IntKind.i64.wrap ((W.inn:Int)+1)=(W.inn:Int)+1:=i64_id (by omega) (by omega);rw [stmtI.eq_def];simp only [stmtW,hcs,hcp,hck,hd1,Bool.and_self];have e0:(⟨#[32,61,32]⟩:ByteArray).size=3:=rfl;have e1:(⟨#[59]⟩:ByteArray).size=1:=rfl;have e2:(⟨#[91]⟩:ByteArray).size=1:=rfl;have e3:(⟨#[93,32,61,32]⟩:ByteArray).size=4:=rfl;have e4:(⟨#[32,61,32,99,97,108,108,32]⟩:ByteArray).size=8:=rfl;have e5:(⟨#[40]⟩:ByteArray).size=1:=rfl;have e6:(⟨#[41,59]⟩:ByteArray).size=2:=rfl;have e7:(⟨#[105,102,32]⟩:ByteArray).size=3:=rfl;have e8:(⟨#[32,123]⟩:ByteArray).size=2:=rfl;have e9:(⟨#[125,32,101,108,115,101,32,123]⟩:ByteArray).size=8:=rfl;have e10:(⟨#[125]⟩:ByteArray).size=1:=rfl;have e11:(⟨#[119,104,105,108,101,32]⟩:ByteArray).size=6:=rfl;have e12:(⟨#[32]⟩:ByteArray).size=1:=rfl;have e13:(⟨#[114,101,97,100,32]⟩:ByteArray).size=5:=rfl
 cases k1:(kind.toList==(⟨#[115,101,116]⟩:ByteArray).toList) with
 |true=>
  dsimp only
  have key1:∀U1,okN U1→U1.inn=W.inn→U1.b=W.b→TSq U1 (TM.grd (isNameF name) (TM.bd (listJ args) fun t=>TM.ret (lnI W.inn (((name++(⟨#[32,61,32]⟩:ByteArray))++t)++(⟨#[59]⟩:ByteArray))))) (400+kind.size+name.size+proc.size+wtL args+wtC cond+wtB body+wtB els) ((listT n args (mustW U1 (isNameF name))).bind fun t V=>lineQ (((name++(⟨#[32,61,32]⟩:ByteArray))++t)++(⟨#[59]⟩:ByteArray)) V):=by
   intro U1 hU1 hUi1 hUb1
   have key2:∀U2,okN U2→U2.inn=U1.inn→U2.b=U1.b→TSq U2 (TM.bd (listJ args) fun t=>TM.ret (lnI W.inn (((name++(⟨#[32,61,32]⟩:ByteArray))++t)++(⟨#[59]⟩:ByteArray)))) (400+kind.size+name.size+proc.size+wtL args+wtC cond+wtB body+wtB els) ((listT n args U2).bind fun t V=>lineQ (((name++(⟨#[32,61,32]⟩:ByteArray))++t)++(⟨#[59]⟩:ByteArray)) V):=by
    intro U2 hU2 hUi2 hUb2;have hz1:=congrArg ByteArray.size hUb1;have hz2:=congrArg ByteArray.size hUb2;refine TSq.aft hU2 (listT_tot n args U2 (by omega) hok.1.1.1.1 (by omega) (by omega) hU2) fun t V ht hV hVb hVi=>?_;have hz:=congrArg ByteArray.size hVb;exact TSq.line (((name++(⟨#[32,61,32]⟩:ByteArray))++t)++(⟨#[59]⟩:ByteArray)) hV (by omega) (by omega) (by simp only [sz2];omega) (by omega) (by omega)
   exact TSq.guard _ hU1 key2
  exact TSq.guard _ hW key1
 |false=>
  dsimp only
  cases k2:(kind.toList==(⟨#[112,117,116]⟩:ByteArray).toList) with
  |true=>
   dsimp only
   cases hc:((bareF true false true false false false (.mk kind name proc args cond body els))&&(((exs args).length:Int)==2)) with
   |false=>
    have hm:=mustW_false (W:=W);simp only [hm];exact ⟨⟨_,rfl,rfl,by show W.b.size≤_;omega,fun _=>hm,fun _=>hm⟩⟩
   |true=>
    have hc2:=hc;obtain ⟨x,y,rfl⟩:=ex_two hc;rw [mustW_true,hq];simp only [hcs];simp only [nmL,Bool.and_true,Bool.and_eq_true] at hok;simp only [wt_two] at hw hws ⊢;simp only [fu_two] at hok2
    dsimp only [TM.grd]
    have key1:∀U1,okN U1→U1.inn=W.inn→U1.b=W.b→TSq U1 (TM.bd (exprI x 1 1) fun s=>TM.bd (exprI y 1 1) fun u=>TM.ret (lnI W.inn (((((name++(⟨#[91]⟩:ByteArray))++s)++(⟨#[93,32,61,32]⟩:ByteArray))++u)++(⟨#[59]⟩:ByteArray)))) (400+kind.size+name.size+proc.size+(wtE x+2+(wtE y+2))+wtC cond+wtB body+wtB els) ((termW n x 1 1 U1).bind fun s V=>(termW n y 1 1 V).bind fun u V=>lineQ (((((name++(⟨#[91]⟩:ByteArray))++s)++(⟨#[93,32,61,32]⟩:ByteArray))++u)++(⟨#[59]⟩:ByteArray)) V):=by
     intro U1 hU1 hUi1 hUb1;have hz1:=congrArg ByteArray.size hUb1;refine TSq.aft hU1 (term_one n x U1 (by omega) hok.1.1.1.1.1 (by omega) hU1) fun s V hs hV hVb hVi=>?_;refine TSq.aft hV (term_one n y V (by omega) hok.1.1.1.1.2 (by omega) hV) fun u V2 hu hV2 hVb2 hVi2=>?_;have hz:=congrArg ByteArray.size hVb;have hzz:=congrArg ByteArray.size hVb2;exact TSq.line (((((name++(⟨#[91]⟩:ByteArray))++s)++(⟨#[93,32,61,32]⟩:ByteArray))++u)++(⟨#[59]⟩:ByteArray)) hV2 (by omega) (by omega) (by simp only [sz2];omega) (by omega) (by omega)
    exact TSq.guard _ hW key1
  |false=>
   dsimp only
   cases k3:(kind.toList==(⟨#[99,97,108,108]⟩:ByteArray).toList) with
   |true=>
    dsimp only
    have key1:∀U1,okN U1→U1.inn=W.inn→U1.b=W.b→TSq U1 (TM.grd (isNameF name) (TM.grd (isNameF proc) (TM.bd (listJ args) fun t=>TM.ret (lnI W.inn (((((name++(⟨#[32,61,32,99,97,108,108,32]⟩:ByteArray))++proc)++(⟨#[40]⟩:ByteArray))++t)++(⟨#[41,59]⟩:ByteArray)))))) (400+kind.size+name.size+proc.size+wtL args+wtC cond+wtB body+wtB els) ((listT n args (mustW (mustW U1 (isNameF name)) (isNameF proc))).bind fun t V=>lineQ (((((name++(⟨#[32,61,32,99,97,108,108,32]⟩:ByteArray))++proc)++(⟨#[40]⟩:ByteArray))++t)++(⟨#[41,59]⟩:ByteArray)) V):=by
     intro U1 hU1 hUi1 hUb1
     have key2:∀U2,okN U2→U2.inn=U1.inn→U2.b=U1.b→TSq U2 (TM.grd (isNameF proc) (TM.bd (listJ args) fun t=>TM.ret (lnI W.inn (((((name++(⟨#[32,61,32,99,97,108,108,32]⟩:ByteArray))++proc)++(⟨#[40]⟩:ByteArray))++t)++(⟨#[41,59]⟩:ByteArray))))) (400+kind.size+name.size+proc.size+wtL args+wtC cond+wtB body+wtB els) ((listT n args (mustW U2 (isNameF proc))).bind fun t V=>lineQ (((((name++(⟨#[32,61,32,99,97,108,108,32]⟩:ByteArray))++proc)++(⟨#[40]⟩:ByteArray))++t)++(⟨#[41,59]⟩:ByteArray)) V):=by
      intro U2 hU2 hUi2 hUb2
      have key3:∀U3,okN U3→U3.inn=U2.inn→U3.b=U2.b→TSq U3 (TM.bd (listJ args) fun t=>TM.ret (lnI W.inn (((((name++(⟨#[32,61,32,99,97,108,108,32]⟩:ByteArray))++proc)++(⟨#[40]⟩:ByteArray))++t)++(⟨#[41,59]⟩:ByteArray)))) (400+kind.size+name.size+proc.size+wtL args+wtC cond+wtB body+wtB els) ((listT n args U3).bind fun t V=>lineQ (((((name++(⟨#[32,61,32,99,97,108,108,32]⟩:ByteArray))++proc)++(⟨#[40]⟩:ByteArray))++t)++(⟨#[41,59]⟩:ByteArray)) V):=by
       intro U3 hU3 hUi3 hUb3;have hz1:=congrArg ByteArray.size hUb1;have hz2:=congrArg ByteArray.size hUb2;have hz3:=congrArg ByteArray.size hUb3;refine TSq.aft hU3 (listT_tot n args U3 (by omega) hok.1.1.1.1 (by omega) (by omega) hU3) fun t V ht hV hVb hVi=>?_;have hz:=congrArg ByteArray.size hVb;exact TSq.line (((((name++(⟨#[32,61,32,99,97,108,108,32]⟩:ByteArray))++proc)++(⟨#[40]⟩:ByteArray))++t)++(⟨#[41,59]⟩:ByteArray)) hV (by omega) (by omega) (by simp only [sz2];omega) (by omega) (by omega)
      exact TSq.guard _ hU2 key3
     exact TSq.guard _ hU1 key2
    exact TSq.guard _ hW key1
   |false=>
    dsimp only
    cases k4:(kind.toList==(⟨#[105,102]⟩:ByteArray).toList) with
    |true=>
     dsimp only
     have key1:∀U1,okN U1→U1.inn=W.inn→U1.b=W.b→TSq U1 (TM.bd (condI cond) fun c=>sqI (TM.ret (lnI W.inn (((⟨#[105,102,32]⟩:ByteArray)++c)++(⟨#[32,123]⟩:ByteArray)))) (sqI (blockI body (W.inn+1)) (match decide (((sms els).length:Int)>0) with
      |true=>sqI (TM.ret (lnI W.inn (⟨#[125,32,101,108,115,101,32,123]⟩:ByteArray))) (sqI (blockI els (W.inn+1)) (TM.ret (lnI W.inn (⟨#[125]⟩:ByteArray))))
      |false=>TM.ret (lnI W.inn (⟨#[125]⟩:ByteArray))))) (400+kind.size+name.size+proc.size+wtL args+wtC cond+wtB body+wtB els) ((condT n cond U1).bind fun c V=>(lineQ (((⟨#[105,102,32]⟩:ByteArray)++c)++(⟨#[32,123]⟩:ByteArray)) V).bind fun _ V=>(blockW n f body ((W.inn:Int)+1) V).bind fun _ V=>match decide (((sms els).length:Int)>0) with
      |true=>(lineQ (⟨#[125,32,101,108,115,101,32,123]⟩:ByteArray) V).bind fun _ V=>(blockW n f els ((W.inn:Int)+1) V).bind fun _ V=>lineQ (⟨#[125]⟩:ByteArray) V
      |false=>lineQ (⟨#[125]⟩:ByteArray) V):=by
      intro U1 hU1 hUi1 hUb1;have hz1:=congrArg ByteArray.size hUb1;refine TSq.aft hU1 (condT_tot n cond U1 (by omega) hok.1.1.2.1 (by omega) hU1) fun c V hc hV hVb hVi=>?_;have hz:=congrArg ByteArray.size hVb;refine (TSq.seq (m:=c.size+60) (m':=wtB body+60+wtB els+60+60) hV (TSq.line (((⟨#[105,102,32]⟩:ByteArray)++c)++(⟨#[32,123]⟩:ByteArray)) hV (by omega) (by omega) (by simp only [sz2];omega) (by omega) (by omega)) fun V2 hV2 hVi2 hVb2=>?_).weak (by omega);refine (TSq.seq (m:=wtB body) (m':=60+wtB els+60) hV2 (ih body W.inn V2 (by omega) hok.1.2 (by omega) hV2 (by omega) (by omega)) fun V3 hV3 hVi3 hVb3=>?_).weak (by omega)
      cases decide (((sms els).length:Int)>0) with
      |false=>exact TSq.line (⟨#[125]⟩:ByteArray) hV3 (by omega) (by omega) (by omega) (by omega) (by omega)
      |true=>
       refine (TSq.seq (m:=60) (m':=wtB els+60) hV3 (TSq.line (⟨#[125,32,101,108,115,101,32,123]⟩:ByteArray) hV3 (by omega) (by omega) (by omega) (by omega) (by omega)) fun V4 hV4 hVi4 hVb4=>?_).weak (by omega);refine (TSq.seq (m:=wtB els) (m':=60) hV4 (ih els W.inn V4 (by omega) hok.2 (by omega) hV4 (by omega) (by omega)) fun V5 hV5 hVi5 hVb5=>?_).weak (by omega);exact TSq.line (⟨#[125]⟩:ByteArray) hV5 (by omega) (by omega) (by omega) (by omega) (by omega)
     exact TSq.guard _ hW key1
    |false=>
     dsimp only
     cases k5:(kind.toList==(⟨#[119,104,105,108,101]⟩:ByteArray).toList) with
     |true=>
      dsimp only
      have key1:∀U1,okN U1→U1.inn=W.inn→U1.b=W.b→TSq U1 (TM.bd (condI cond) fun c=>sqI (TM.ret (lnI W.inn (((⟨#[119,104,105,108,101,32]⟩:ByteArray)++c)++(⟨#[32,123]⟩:ByteArray)))) (sqI (blockI body (W.inn+1)) (TM.ret (lnI W.inn (⟨#[125]⟩:ByteArray))))) (400+kind.size+name.size+proc.size+wtL args+wtC cond+wtB body+wtB els) ((condT n cond U1).bind fun c V=>(lineQ (((⟨#[119,104,105,108,101,32]⟩:ByteArray)++c)++(⟨#[32,123]⟩:ByteArray)) V).bind fun _ V=>(blockW n f body ((W.inn:Int)+1) V).bind fun _ V=>lineQ (⟨#[125]⟩:ByteArray) V):=by
       intro U1 hU1 hUi1 hUb1;have hz1:=congrArg ByteArray.size hUb1;refine TSq.aft hU1 (condT_tot n cond U1 (by omega) hok.1.1.2.1 (by omega) hU1) fun c V hc hV hVb hVi=>?_;have hz:=congrArg ByteArray.size hVb;refine (TSq.seq (m:=c.size+60) (m':=wtB body+60+wtB els+60+60) hV (TSq.line (((⟨#[119,104,105,108,101,32]⟩:ByteArray)++c)++(⟨#[32,123]⟩:ByteArray)) hV (by omega) (by omega) (by simp only [sz2];omega) (by omega) (by omega)) fun V2 hV2 hVi2 hVb2=>?_).weak (by omega);refine (TSq.seq (m:=wtB body) (m':=60+wtB els+60) hV2 (ih body W.inn V2 (by omega) hok.1.2 (by omega) hV2 (by omega) (by omega)) fun V3 hV3 hVi3 hVb3=>?_).weak (by omega);exact TSq.line (⟨#[125]⟩:ByteArray) hV3 (by omega) (by omega) (by omega) (by omega) (by omega)
      exact TSq.guard _ hW key1
     |false=>
      dsimp only
      cases k6:((kind.toList==(⟨#[97,115,115,101,114,116]⟩:ByteArray).toList)||(kind.toList==(⟨#[97,115,115,117,109,101]⟩:ByteArray).toList)) with
      |true=>
       dsimp only
       have key1:∀U1,okN U1→U1.inn=W.inn→U1.b=W.b→TSq U1 (TM.bd (condI cond) fun c=>TM.ret (lnI W.inn (((kind++(⟨#[32]⟩:ByteArray))++c)++(⟨#[59]⟩:ByteArray)))) (400+kind.size+name.size+proc.size+wtL args+wtC cond+wtB body+wtB els) ((condT n cond U1).bind fun c V=>lineQ (((kind++(⟨#[32]⟩:ByteArray))++c)++(⟨#[59]⟩:ByteArray)) V):=by
        intro U1 hU1 hUi1 hUb1;have hz1:=congrArg ByteArray.size hUb1;refine TSq.aft hU1 (condT_tot n cond U1 (by omega) hok.1.1.2.1 (by omega) hU1) fun c V hc hV hVb hVi=>?_;have hz:=congrArg ByteArray.size hVb;exact TSq.line (((kind++(⟨#[32]⟩:ByteArray))++c)++(⟨#[59]⟩:ByteArray)) hV (by omega) (by omega) (by simp only [sz2];omega) (by omega) (by omega)
       exact TSq.guard _ hW key1
      |false=>
       dsimp only
       cases k7:(kind.toList==(⟨#[114,101,97,100]⟩:ByteArray).toList) with
       |true=>
        dsimp only
        have key1:∀U1,okN U1→U1.inn=W.inn→U1.b=W.b→TSq U1 (TM.grd (isNameF name) (TM.ret (lnI W.inn (((⟨#[114,101,97,100,32]⟩:ByteArray)++name)++(⟨#[59]⟩:ByteArray))))) (400+kind.size+name.size+proc.size+wtL args+wtC cond+wtB body+wtB els) (lineQ (((⟨#[114,101,97,100,32]⟩:ByteArray)++name)++(⟨#[59]⟩:ByteArray)) (mustW U1 (isNameF name))):=by
         intro U1 hU1 hUi1 hUb1
         have key2:∀U2,okN U2→U2.inn=U1.inn→U2.b=U1.b→TSq U2 (TM.ret (lnI W.inn (((⟨#[114,101,97,100,32]⟩:ByteArray)++name)++(⟨#[59]⟩:ByteArray)))) (400+kind.size+name.size+proc.size+wtL args+wtC cond+wtB body+wtB els) (lineQ (((⟨#[114,101,97,100,32]⟩:ByteArray)++name)++(⟨#[59]⟩:ByteArray)) U2):=by
          intro U2 hU2 hUi2 hUb2;have hz1:=congrArg ByteArray.size hUb1;have hz2:=congrArg ByteArray.size hUb2;exact TSq.line (((⟨#[114,101,97,100,32]⟩:ByteArray)++name)++(⟨#[59]⟩:ByteArray)) hU2 (by omega) (by omega) (by simp only [sz2];omega) (by omega) (by omega)
         exact TSq.guard _ hU1 key2
        exact TSq.guard _ hW key1
       |false=>
        dsimp only
        exact ⟨⟨_,rfl,rfl,by show W.b.size≤_;omega,fun _=>mustW_false,fun _=>mustW_false⟩⟩
theorem text_tot(n:Nat):∀f,LpT n f∧StT n f∧BlT n f
 |0=>⟨fun l k W h=>by have:=fuB_ge l;omega,fun s k W h=>by obtain ⟨_,_,_,_,_,_,_⟩:=s;simp only [fuS] at h;omega,fun l k W h=>by omega⟩
 |f+1=>⟨loop_tot (text_tot n f).1 (text_tot n f).2.1,stmt_tot (text_tot n f).2.2,block_tot (text_tot n f).1⟩

end Go.Abs
end
section
namespace Go.Abs
open Go Go.Proofs
def varsI:List ByteArray→TIs
 |[]=>TM.ret ⟨#[]⟩
 |v::r=>TM.grd (isNameF v) (sqI (TM.ret (lnI 0 (((⟨#[118,97,114,32]⟩:ByteArray)++v)++(⟨#[59]⟩:ByteArray)))) (varsI r))
def arrsI:List Ar→TIs
 |[]=>TM.ret ⟨#[]⟩
 |⟨nm,sz⟩::r=>TM.grd (decide (sz≥0)&&decide (sz≤1099511627776)) (TM.grd (isNameF nm) (sqI (TM.ret (lnI 0 (((((⟨#[97,114,114,97,121,32]⟩:ByteArray)++nm)++(⟨#[91]⟩:ByteArray))++itoaB sz)++(⟨#[93,59]⟩:ByteArray)))) (arrsI r)))
def allN(l:List ByteArray):Bool:=l.all isNameF
def procsI:List Pc→TIs
 |[]=>TM.ret ⟨#[]⟩
 |⟨nm,ps,bd,rt⟩::r=>TM.grd (allN ps) (TM.grd (isNameF nm) (sqI (TM.ret (lnI 0 (((((⟨#[112,114,111,99,32]⟩:ByteArray)++nm)++(⟨#[40]⟩:ByteArray))++joinB ps (⟨#[44,32]⟩:ByteArray))++(⟨#[41,32,123]⟩:ByteArray)))) (sqI (blockI bd 1) (sqI (TM.bd (exprI rt 1 1) fun s=>TM.ret (lnI 1 (((⟨#[114,101,116,117,114,110,32]⟩:ByteArray)++s)++(⟨#[59]⟩:ByteArray)))) (sqI (TM.ret (lnI 0 (⟨#[125]⟩:ByteArray))) (procsI r))))))
def mainI(m:List Sm):TIs:=sqI (TM.ret (lnI 0 (⟨#[109,97,105,110,32,123]⟩:ByteArray))) (sqI (blockI m 1) (TM.ret (lnI 0 (⟨#[125]⟩:ByteArray))))
def progI(p:Pg):TIs:=sqI (varsI p.vars) (sqI (arrsI p.arrays) (sqI (procsI p.procs) (mainI p.main)))
def wtV:List ByteArray→Nat
 |[]=>1
 |v::r=>v.size+60+wtV r
def wtA:List Ar→Nat
 |[]=>1
 |a::r=>a.name.size+90+wtA r
def wtP:List Pc→Nat
 |[]=>1
 |p::r=>p.name.size+300+wtV p.params+wtB p.body+wtE p.ret+wtP r
def wtPg(p:Pg):Nat:=200+wtV p.vars+wtA p.arrays+wtP p.procs+wtB p.main
def okA:List Ar→Bool
 |[]=>true
 |a::r=>chkN a.size&&okA r
def okP'(n f:Nat):List Pc→Bool
 |[]=>true
 |p::r=>(okB n p.body&&decide (fuB p.body+1≤f))&&(nmE p.ret&&decide (fuE p.ret≤n))&&okP' n f r
def okPg(n f:Nat)(p:Pg):Bool:=okA p.arrays&&okP' n f p.procs&&(okB n p.main&&decide (fuB p.main+1≤f))
theorem emp_ret{W:WS}(hW:okN W)(m:Nat):TSq W (TM.ret ⟨#[]⟩) m (.ok () W):=by
 refine ⟨⟨W,rfl,rfl,by omega,id,fun q=>?_⟩⟩;have h:=hW q
 show TB W (some (⟨#[]⟩,0)) W
 simp only [TB];rw [decide_eq_true (by omega)];obtain ⟨b,i,o,m⟩:=W;simp only at q;subst q
 simp
 apply ByteArray.ext
 simp
theorem vars_tot:∀(l:List ByteArray) (W:WS),wtV l+W.b.size≤1000000000→okN W→W.inn=0→TSq W (varsI l) (wtV l) (varsW l W)
 |[],W,_,hW,_=>emp_ret hW _
 |v::r,W,hw,hW,hi=>by
  simp only [wtV] at hw ⊢;have hc:chkS v=true:=decide_eq_true (by omega);simp only [varsW,hc,varsI]
  have key:∀U,okN U→U.inn=W.inn→U.b=W.b→TSq U (sqI (TM.ret (lnI 0 (((⟨#[118,97,114,32]⟩:ByteArray)++v)++(⟨#[59]⟩:ByteArray)))) (varsI r)) (v.size+60+wtV r) ((lineQ (((⟨#[118,97,114,32]⟩:ByteArray)++v)++(⟨#[59]⟩:ByteArray)) U).bind fun _ V=>varsW r V):=by
   intro U hU hUi hUb;have hz:=congrArg ByteArray.size hUb;have e0:(⟨#[118,97,114,32]⟩:ByteArray).size=4:=rfl;have e1:(⟨#[59]⟩:ByteArray).size=1:=rfl;refine (TSq.seq (m:=v.size+60) (m':=wtV r) hU (TSq.line (((⟨#[118,97,114,32]⟩:ByteArray)++v)++(⟨#[59]⟩:ByteArray)) hU (by omega) (by omega) (by simp only [sz2];omega) (by omega) (by omega)) fun V hV hVi hVb=>?_).weak (by omega);exact vars_tot r V (by omega) hV (by omega)
  exact TSq.guard _ hW key
theorem arrs_tot:∀(l:List Ar) (W:WS),okA l=true→wtA l+W.b.size≤1000000000→okN W→W.inn=0→TSq W (arrsI l) (wtA l) (arrsW l W)
 |[],W,_,_,hW,_=>emp_ret hW _
 |⟨nm,sz⟩::r,W,hok,hw,hW,hi=>by
  simp only [wtA] at hw ⊢;simp only [okA,Bool.and_eq_true] at hok;have hc:chkS nm=true:=decide_eq_true (by omega);have hsz:=itoaB_size hok.1;simp only [arrsW,hc,hok.1,arrsI,Bool.and_self]
  have key:∀U,okN U→U.inn=W.inn→U.b=W.b→TSq U (TM.grd (isNameF nm) (sqI (TM.ret (lnI 0 (((((⟨#[97,114,114,97,121,32]⟩:ByteArray)++nm)++(⟨#[91]⟩:ByteArray))++itoaB sz)++(⟨#[93,59]⟩:ByteArray)))) (arrsI r))) (nm.size+90+wtA r) ((lineQ (((((⟨#[97,114,114,97,121,32]⟩:ByteArray)++nm)++(⟨#[91]⟩:ByteArray))++itoaB sz)++(⟨#[93,59]⟩:ByteArray)) (mustW U (isNameF nm))).bind fun _ V=>arrsW r V):=by
   intro U hU hUi hUb;have hz:=congrArg ByteArray.size hUb;have e0:(⟨#[97,114,114,97,121,32]⟩:ByteArray).size=6:=rfl;have e1:(⟨#[91]⟩:ByteArray).size=1:=rfl;have e2:(⟨#[93,59]⟩:ByteArray).size=2:=rfl
   have key2:∀U2,okN U2→U2.inn=U.inn→U2.b=U.b→TSq U2 (sqI (TM.ret (lnI 0 (((((⟨#[97,114,114,97,121,32]⟩:ByteArray)++nm)++(⟨#[91]⟩:ByteArray))++itoaB sz)++(⟨#[93,59]⟩:ByteArray)))) (arrsI r)) (nm.size+90+wtA r) ((lineQ (((((⟨#[97,114,114,97,121,32]⟩:ByteArray)++nm)++(⟨#[91]⟩:ByteArray))++itoaB sz)++(⟨#[93,59]⟩:ByteArray)) U2).bind fun _ V=>arrsW r V):=by
    intro U2 hU2 hUi2 hUb2;have hz2:=congrArg ByteArray.size hUb2;refine (TSq.seq (m:=nm.size+90) (m':=wtA r) hU2 (TSq.line (((((⟨#[97,114,114,97,121,32]⟩:ByteArray)++nm)++(⟨#[91]⟩:ByteArray))++itoaB sz)++(⟨#[93,59]⟩:ByteArray)) hU2 (by omega) (by omega) (by simp only [sz2];omega) (by omega) (by omega)) fun V hV hVi hVb=>?_).weak (by omega);exact arrs_tot r V hok.2 (by omega) hV (by omega)
   exact TSq.guard _ hU key2
  exact TSq.guard _ hW key
theorem mustW_two(W:WS)(a b:Bool):mustW (mustW W a) b=mustW W (a&&b):=by simp [mustW,Bool.and_assoc]
theorem prms_run:∀(l:List ByteArray) (W:WS),wtV l≤1000000000→prmsW l W=.ok () (mustW W (allN l))
 |[],W,_=>by rw [show allN []=true from rfl,mustW_true];rfl
 |v::r,W,h=>by
  simp only [wtV] at h;have hc:chkS v=true:=decide_eq_true (by omega);simp only [prmsW,hc];rw [prms_run r _ (by omega),mustW_two]
  rfl
theorem ssz_wtV(l:List ByteArray):ssz 2 l≤wtV l:=by
 induction l with
 |nil=>exact Nat.zero_le _
 |cons v r ih=>simp only [ssz,wtV];omega
theorem wtV_len(l:List ByteArray):l.length≤wtV l:=by
 induction l with
 |nil=>exact Nat.zero_le _
 |cons v r ih=>simp only [wtV,List.length_cons];omega
theorem wtA_len(l:List Ar):l.length≤wtA l:=by
 induction l with
 |nil=>exact Nat.zero_le _
 |cons v r ih=>simp only [wtA,List.length_cons];omega
theorem wtP_len(l:List Pc):l.length≤wtP l:=by
 induction l with
 |nil=>exact Nat.zero_le _
 |cons v r ih=>simp only [wtP,List.length_cons];omega
theorem joinB_size2(l:List ByteArray):(joinB l (⟨#[44,32]⟩:ByteArray)).size≤wtV l:=by
 have:=joinB_size l (⟨#[44,32]⟩:ByteArray);have e2:(⟨#[44,32]⟩:ByteArray).size=2:=rfl;rw [e2] at this;have:=ssz_wtV l;omega
/-- Written one step further in. -/
theorem TSq.inn{W:WS}{j:Nat}{x y:TIs}{m m':Nat}{r:Q Unit}{f:WS→Q Unit}(hW:okN W)(hj:j=W.inn+1)(hi:W.inn≤20)(h:TSq ⟨W.b,j,W.ok,W.n⟩ x m r)(hf:∀V,okN V→V.inn=W.inn→V.b.size≤W.b.size+m→TSq V y m' (f V)):
  TSq W (sqI x y) (m+m') (r.bind fun _ V=>match chkI V.inn with
   |true=>f ⟨V.b,V.inn - 1,V.ok,V.n⟩
   |false=>.out):=by
 obtain ⟨V,rfl,h2,h3,h4,h5⟩:=h.ex;subst hj;simp only at h2 h3 h4 h5
 have hc3:chkI V.inn=true:=by
  unfold chkI
  rw [decide_eq_true (show 1≤V.inn by omega),decide_eq_true (show V.inn≤1073741824 by omega)]
  rfl
 have h5':W.ok=true→TB W x ⟨V.b,V.inn - 1,V.ok,V.n⟩:=by
  intro q;have h5:=h5 q
  cases hv:V.ok with
  |false=>exact TB_of_bad rfl (fun s j e=>TB_bad (W:=⟨W.b,W.inn+1,W.ok,W.n⟩) h5 hv s j e)
  |true=>
   obtain ⟨s,j,e1,hj,rfl⟩:=TB_ok h5 hv;rw [e1];simp only [TB] at hj ⊢;rw [decide_eq_true hj]
   simp
 simp only [Q.bind,hc3];obtain ⟨U,e,g2,g3,g4,g5⟩:=(hf ⟨V.b,V.inn - 1,V.ok,V.n⟩ (TB_okN hW h4 h5') (by simp only;omega) h3).ex;simp only at g2 g3 g4 g5;exact ⟨⟨U,e,by omega,by omega,fun q=>g4 (h4 q),fun q=>TB_sq (h5' q) g5 g4⟩⟩
theorem procs_tot(n f:Nat):∀(l:List Pc) (W:WS),okP' n f l=true→wtP l+W.b.size≤1000000000→okN W→W.inn=0→TSq W (procsI l) (wtP l) (procsW n f l W)
 |[],W,_,_,hW,_=>emp_ret hW _
 |⟨nm,ps,bd,rt⟩::r,W,hok,hw,hW,hi=>by
  simp only [wtP] at hw ⊢;simp only [okP',Bool.and_eq_true,decide_eq_true_eq] at hok;have hj:=joinB_size2 ps;have hl:=wtV_len ps;have hc:chkS nm=true:=decide_eq_true (by omega);have hcl:chkL ps.length=true:=decide_eq_true (by omega);have hcj:chkS (joinB ps (⟨#[44,32]⟩:ByteArray))=true:=decide_eq_true (by omega);simp only [procsW,hc,hcl,hcj,procsI,Bool.and_self];rw [prms_run ps W (by omega)];simp only [Q.bind];have e0:(⟨#[112,114,111,99,32]⟩:ByteArray).size=5:=rfl;have e1:(⟨#[40]⟩:ByteArray).size=1:=rfl;have e2:(⟨#[41,32,123]⟩:ByteArray).size=3:=rfl;have e3:(⟨#[125]⟩:ByteArray).size=1:=rfl;have e4:(⟨#[114,101,116,117,114,110,32]⟩:ByteArray).size=7:=rfl;have e5:(⟨#[59]⟩:ByteArray).size=1:=rfl
  have key:∀U,okN U→U.inn=W.inn→U.b=W.b→TSq U (TM.grd (isNameF nm) (sqI (TM.ret (lnI 0 (((((⟨#[112,114,111,99,32]⟩:ByteArray)++nm)++(⟨#[40]⟩:ByteArray))++joinB ps (⟨#[44,32]⟩:ByteArray))++(⟨#[41,32,123]⟩:ByteArray)))) (sqI (blockI bd 1) (sqI (TM.bd (exprI rt 1 1) fun s=>TM.ret (lnI 1 (((⟨#[114,101,116,117,114,110,32]⟩:ByteArray)++s)++(⟨#[59]⟩:ByteArray)))) (sqI (TM.ret (lnI 0 (⟨#[125]⟩:ByteArray))) (procsI r)))))) (nm.size+300+wtV ps+wtB bd+wtE rt+wtP r) ((lineQ (((((⟨#[112,114,111,99,32]⟩:ByteArray)++nm)++(⟨#[40]⟩:ByteArray))++joinB ps (⟨#[44,32]⟩:ByteArray))++(⟨#[41,32,123]⟩:ByteArray)) (mustW U (isNameF nm))).bind fun _ V=>(blockW n f bd 1 V).bind fun _ V=>match chkL V.inn with
    |true=>(termW n rt 1 1 ⟨V.b,V.inn+1,V.ok,V.n⟩).bind fun s V=>(lineQ (((⟨#[114,101,116,117,114,110,32]⟩:ByteArray)++s)++(⟨#[59]⟩:ByteArray)) V).bind fun _ V=>match chkI V.inn with
     |true=>(lineQ (⟨#[125]⟩:ByteArray) ⟨V.b,V.inn - 1,V.ok,V.n⟩).bind fun _ V=>procsW n f r V
     |false=>.out
    |false=>.out):=by
   intro U hU hUi hUb;have hz:=congrArg ByteArray.size hUb
   have key2:∀U2,okN U2→U2.inn=U.inn→U2.b=U.b→TSq U2 (sqI (TM.ret (lnI 0 (((((⟨#[112,114,111,99,32]⟩:ByteArray)++nm)++(⟨#[40]⟩:ByteArray))++joinB ps (⟨#[44,32]⟩:ByteArray))++(⟨#[41,32,123]⟩:ByteArray)))) (sqI (blockI bd 1) (sqI (TM.bd (exprI rt 1 1) fun s=>TM.ret (lnI 1 (((⟨#[114,101,116,117,114,110,32]⟩:ByteArray)++s)++(⟨#[59]⟩:ByteArray)))) (sqI (TM.ret (lnI 0 (⟨#[125]⟩:ByteArray))) (procsI r))))) (nm.size+300+wtV ps+wtB bd+wtE rt+wtP r) ((lineQ (((((⟨#[112,114,111,99,32]⟩:ByteArray)++nm)++(⟨#[40]⟩:ByteArray))++joinB ps (⟨#[44,32]⟩:ByteArray))++(⟨#[41,32,123]⟩:ByteArray)) U2).bind fun _ V=>(blockW n f bd 1 V).bind fun _ V=>match chkL V.inn with
     |true=>(termW n rt 1 1 ⟨V.b,V.inn+1,V.ok,V.n⟩).bind fun s V=>(lineQ (((⟨#[114,101,116,117,114,110,32]⟩:ByteArray)++s)++(⟨#[59]⟩:ByteArray)) V).bind fun _ V=>match chkI V.inn with
      |true=>(lineQ (⟨#[125]⟩:ByteArray) ⟨V.b,V.inn - 1,V.ok,V.n⟩).bind fun _ V=>procsW n f r V
      |false=>.out
     |false=>.out):=by
    intro U2 hU2 hUi2 hUb2;have hz2:=congrArg ByteArray.size hUb2;refine (TSq.seq (m:=nm.size+wtV ps+70) (m':=wtB bd+wtE rt+150+wtP r) hU2 (TSq.line (((((⟨#[112,114,111,99,32]⟩:ByteArray)++nm)++(⟨#[40]⟩:ByteArray))++joinB ps (⟨#[44,32]⟩:ByteArray))++(⟨#[41,32,123]⟩:ByteArray)) hU2 (by omega) (by omega) (by simp only [sz2];omega) (by omega) (by omega)) fun V hV hVi hVb=>?_).weak (by omega);have hb:=(text_tot n f).2.2 bd 0 V hok.1.1.2 hok.1.1.1 (by omega) hV (by omega) (by omega);refine (TSq.seq (m:=wtB bd) (m':=wtE rt+150+wtP r) hV hb fun V3 hV3 hVi3 hVb3=>?_).weak (by omega);have hcl3:chkL V3.inn=true:=decide_eq_true (by omega);rw [hcl3]
    dsimp only
    rw [← bdot]
    have ht:TSq ⟨V3.b,V3.inn+1,V3.ok,V3.n⟩ (TM.bd (exprI rt 1 1) fun s=>TM.ret (lnI 1 (((⟨#[114,101,116,117,114,110,32]⟩:ByteArray)++s)++(⟨#[59]⟩:ByteArray)))) (wtE rt+70) ((termW n rt 1 1 ⟨V3.b,V3.inn+1,V3.ok,V3.n⟩).bind fun s V=>lineQ (((⟨#[114,101,116,117,114,110,32]⟩:ByteArray)++s)++(⟨#[59]⟩:ByteArray)) V):=by
     refine TSq.aft (W:=⟨V3.b,V3.inn+1,V3.ok,V3.n⟩) hV3 (term_one n rt ⟨V3.b,V3.inn+1,V3.ok,V3.n⟩ hok.1.2.2 hok.1.2.1 (by omega) hV3) fun s V4 hs hV4 hVb4 hVi4=>?_;have hz4:=congrArg ByteArray.size hVb4;simp only at hz4 hVi4;exact TSq.line (((⟨#[114,101,116,117,114,110,32]⟩:ByteArray)++s)++(⟨#[59]⟩:ByteArray)) hV4 (by omega) (by omega) (by simp only [sz2];omega) (by omega) (by omega)
    have hh:=TSq.inn (m':=80+wtP r) (y:=sqI (TM.ret (lnI 0 (⟨#[125]⟩:ByteArray))) (procsI r)) (f:=fun V=>(lineQ (⟨#[125]⟩:ByteArray) V).bind fun _ V=>procsW n f r V) hV3 rfl (by omega) ht fun V5 hV5 hVi5 hVb5=>(TSq.seq (m:=80) (m':=wtP r) hV5 (TSq.line (⟨#[125]⟩:ByteArray) hV5 (by omega) (by omega) (by omega) (by omega) (by omega)) fun V6 hV6 hVi6 hVb6=>procs_tot n f r V6 hok.2 (by omega) hV6 (by omega)).weak (by omega);exact hh.weak (by omega)
   exact TSq.guard _ hU key2
  exact TSq.guard _ hW key
theorem main_tot(n f:Nat)(m:List Sm)(W:WS)(hok:okB n m=true)(hf:fuB m+1≤f)(hw:wtB m+150+W.b.size≤1000000000)(hW:okN W)(hi:W.inn=0):TSq W (mainI m) (wtB m+150) (mainW n f m W):=by
 have e0:(⟨#[109,97,105,110,32,123]⟩:ByteArray).size=6:=rfl;have e1:(⟨#[125]⟩:ByteArray).size=1:=rfl
 unfold mainW mainI
 refine (TSq.seq (m:=70) (m':=wtB m+70) hW (TSq.line (⟨#[109,97,105,110,32,123]⟩:ByteArray) hW (by omega) (by omega) (by omega) (by omega) (by omega)) fun V hV hVi hVb=>?_).weak (by omega);refine (TSq.seq (m:=wtB m) (m':=70) hV ((text_tot n f).2.2 m 0 V hf hok (by omega) hV (by omega) (by omega)) fun V3 hV3 hVi3 hVb3=>?_).weak (by omega);exact TSq.line (⟨#[125]⟩:ByteArray) hV3 (by omega) (by omega) (by omega) (by omega) (by omega)
/-- What lang.Text comes to. -/
theorem textF_law(n f:Nat)(p:Pg)(hok:okPg n f p=true)(hw:wtPg p≤500000000):textF n f p=match progI p with
  |none=>.bad
  |some (s,k)=>match decide ((k:Int)≤4000)&&decide (s.size≤4000) with
   |true=>.ok s
   |false=>.bad:=by
 simp only [okPg,Bool.and_eq_true,decide_eq_true_eq] at hok;simp only [wtPg] at hw;have l1:=wtV_len p.vars;have l2:=wtA_len p.arrays;have l3:=wtP_len p.procs;have c1:chkL p.vars.length=true:=decide_eq_true (by omega);have c2:chkL p.arrays.length=true:=decide_eq_true (by omega);have c3:chkL p.procs.length=true:=decide_eq_true (by omega);have z0:W00.b.size=0:=rfl;have h0:okN W00:=fun _=>⟨by decide,by decide⟩
 have h:TSq W00 (progI p) (wtV p.vars+(wtA p.arrays+(wtP p.procs+(wtB p.main+150)))) ((varsW p.vars W00).bind fun _ V=>(arrsW p.arrays V).bind fun _ V=>(procsW n f p.procs V).bind fun _ V=>mainW n f p.main V):=by
  refine TSq.seq h0 (vars_tot p.vars W00 (by omega) h0 rfl) fun V1 hV1 hi1 hb1=>?_;have hi1:V1.inn=0:=hi1;refine TSq.seq hV1 (arrs_tot p.arrays V1 hok.1.1 (by omega) hV1 hi1) fun V2 hV2 hi2 hb2=>?_;refine TSq.seq hV2 (procs_tot n f p.procs V2 hok.1.2 (by omega) hV2 (by omega)) fun V3 hV3 hi3 hb3=>?_;exact main_tot n f p.main V3 hok.2.1 hok.2.2 (by omega) hV3 (by omega)
 obtain ⟨V,e,_,_,_,h5⟩:=h.ex;have h5:=h5 rfl
 unfold textF
 rw [c1,c2,c3];simp only [Bool.and_self,e,endW]
 cases hv:V.ok with
 |false=>
  have hb:=TB_bad h5 hv
  cases hx:progI p with
  |none=>rfl
  |some y=>
   obtain ⟨s,k⟩:=y;have:=hb s k hx;have z:W00.n=0:=rfl;rw [z] at this;simp only;rw [decide_eq_false (show ¬(k:Int)≤4000 by omega)]
   rfl
 |true=>
  obtain ⟨s,k,hx,hk,rfl⟩:=TB_ok h5 hv;have z:W00.n=0:=rfl;rw [z] at hk;rw [hx]
  have es:W00.b++s=s:=by
   apply ByteArray.ext;rw [ByteArray.data_append]
   show #[]++s.data=s.data
   simp
  simp only [es]
  have el:(bts s).length=s.size:=by simp [bts]
  rw [el,decide_eq_true (show (k:Int)≤4000 by omega),Bool.true_and]
  by_cases hq:s.size≤4000
  ·rw [decide_eq_true hq,decide_eq_false (by omega)]
  rw [decide_eq_false hq,decide_eq_true (by omega)]
end Go.Abs
end
section
namespace Go.Abs
open Go Go.Proofs
theorem bd_some{α β:Type}{x:TM α}{f:α→TM β}{b:β}{j:Nat}(h:TM.bd x f=some (b,j)):∃a k i,x=some (a,k)∧f a=some (b,i)∧j=k+i:=by
 cases x with
 |none=>cases h
 |some u=>
  obtain ⟨a,k⟩:=u;obtain ⟨i,h1,h2⟩:=some_bd h;exact ⟨a,k,i,rfl,h1,h2⟩
theorem ret_some{α:Type}{a b:α}{j:Nat}(h:TM.ret a=some (b,j)):b=a∧j=0:=by
 simp only [TM.ret,Option.some.injEq,Prod.mk.injEq] at h;exact ⟨h.1.symm,h.2.symm⟩
theorem grd_some{α:Type}{c:Bool}{x:TM α}{y:α×Nat}(h:TM.grd c x=some y):c=true∧x=some y:=by
 cases c with
 |true=>exact ⟨rfl,h⟩
 |false=>cases h
theorem sq_some{x y:TIs}{s:ByteArray}{j:Nat}(h:sqI x y=some (s,j)):∃a b k i,x=some (a,k)∧y=some (b,i)∧s=a++b∧j=k+i:=by
 obtain ⟨a,k,i,h1,h2,h3⟩:=bd_some h;obtain ⟨b,k2,i2,g1,g2,g3⟩:=bd_some h2;obtain ⟨e1,e2⟩:=ret_some g2;exact ⟨a,b,k,k2,h1,g1,e1,by omega⟩
theorem itoaB_pos(n:Int):1≤(itoaB n).size:=by
 show 1≤(List.toArray _).size
 simp only [List.size_toArray]
 unfold Lib.itoa
 split
 ·simp
 unfold Lib.decDigits
 split <;> simp
theorem name_pos{s:ByteArray}(h:isNameF s=true):1≤s.size:=by
 unfold isNameF at h
 split at h
 ·simp only [Bool.and_eq_true,Bool.not_eq_true',beq_eq_false_iff_ne,ne_eq] at h
  have h:=h.1.1
  rcases Nat.eq_zero_or_pos s.size with h0|h0
  ·exfalso
   apply h
   have:s=⟨#[]⟩:=by
    apply ByteArray.ext;exact Array.eq_empty_of_size_eq_zero h0
   rw [this]
  exact h0
 cases h
def Lk1(b:Int→TIs):Prop:=∀d s k,b d=some (s,k)→k+1≤s.size
theorem close_lk{r least:Int}{b:Int→TIs}(h:Lk1 b):∀d s k,closeI r b least d=some (s,k)→k≤s.size:=by
 intro d s k e
 unfold closeI at e
 split at e
 ·cases e
 split at e
 ·split at e
  ·obtain ⟨y,hy,e⟩:=Option.map_eq_some_iff.1 e
   simp only [Prod.mk.injEq] at e;obtain ⟨rfl,rfl⟩:=e;have:=h (d+1) y.1 y.2 hy;simp only [sz2];have e1:(⟨#[40]⟩:ByteArray).size=1:=rfl;have e2:(⟨#[41]⟩:ByteArray).size=1:=rfl;omega
  cases e
 obtain ⟨y,hy,e⟩:=Option.map_eq_some_iff.1 e;simp only [Prod.mk.injEq] at e;obtain ⟨rfl,rfl⟩:=e;exact h d y.1 y.2 hy
theorem body_lk:∀(m:Nat) (e:Ex),fuE e≤m→Lk1 (bodyI e)
 |0,.mk _ _ _ _,h=>by simp only [fuE] at h;omega
 |m+1,.mk op n nm l,h=>by
  intro d s k e;simp only [fuE] at h;rw [bodyI.eq_def] at e
  dsimp only at e
  split at e
  ·split at e
   ·simp only [Option.some.injEq,Prod.mk.injEq] at e
    obtain ⟨rfl,rfl⟩:=e;have:=itoaB_pos n;omega
   cases e
  split at e
  ·split at e
   ·rename_i hc
    simp only [Option.some.injEq,Prod.mk.injEq] at e;obtain ⟨rfl,rfl⟩:=e;simp only [Bool.and_eq_true] at hc;have:=name_pos hc.2;omega
   cases e
  split at e
  ·split at e
   ·rename_i x _
    obtain ⟨y,hy,e⟩:=Option.map_eq_some_iff.1 e;simp only [Prod.mk.injEq] at e;obtain ⟨rfl,rfl⟩:=e;simp only [fu_one] at h;have:=close_lk (body_lk m x (by omega)) (d+1) y.1 y.2 hy;simp only [sz2];have e1:(⟨#[91]⟩:ByteArray).size=1:=rfl;omega
   cases e
  split at e
  ·split at e
   ·rename_i x _
    obtain ⟨y,hy,e⟩:=Option.map_eq_some_iff.1 e;simp only [Prod.mk.injEq] at e;obtain ⟨rfl,rfl⟩:=e;simp only [fu_one] at h;have:=close_lk (body_lk m x (by omega)) (d+1) y.1 y.2 hy;simp only [sz2];have e1:(⟨#[45]⟩:ByteArray).size=1:=rfl;omega
   cases e
  split at e
  ·rename_i x y _
   obtain ⟨u,hu,e⟩:=Option.bind_eq_some_iff.1 e;obtain ⟨v,hv,e⟩:=Option.map_eq_some_iff.1 e;simp only [Prod.mk.injEq] at e;obtain ⟨rfl,rfl⟩:=e;simp only [fu_two] at h;have:=close_lk (body_lk m x (by omega)) d u.1 u.2 hu;have:=close_lk (body_lk m y (by omega)) d v.1 v.2 hv;simp only [sz2];have e1:(⟨#[32]⟩:ByteArray).size=1:=rfl;omega
  cases e
theorem expr_lk(e:Ex)(least d:Int)(s:ByteArray)(k:Nat)(h:exprI e least d=some (s,k)):k≤s.size:=close_lk (body_lk (fuE e) e (Nat.le_refl _)) d s k h
theorem join_ge(sep:List UInt8):∀l:List (List UInt8),(l.map fun x=>x.length).sum≤(Lib.join l sep).length
 |[]=>by simp
 |[x]=>by simp [Lib.join]
 |x::y::r=>by
  have:=join_ge sep (y::r);simp only [Lib.join,List.intercalate_cons_cons,List.length_append,List.map_cons,List.sum_cons] at this ⊢;omega
theorem joinB_ge(l:List ByteArray)(sep:ByteArray):ssz 0 l≤(joinB l sep).size:=by
 have h:=join_ge sep.data.toList (l.map (·.data.toList))
 have e:((l.map (·.data.toList)).map fun x=>x.length).sum=ssz 0 l:=by
  clear h
  induction l with
  |nil=>rfl
  |cons x l ih=>
   simp only [List.map_cons,List.sum_cons,ssz,ih]
   rfl
 rw [e] at h
 show _≤(List.toArray _).size
 simpa using h
theorem list_lk:∀(l:List Ex) (ss:List ByteArray) (k:Nat),listI l=some (ss,k)→k≤ssz 0 ss
 |[],ss,k,h=>by obtain ⟨rfl,rfl⟩:=ret_some h;exact Nat.zero_le _
 |e::r,ss,k,h=>by
  obtain ⟨a,k1,i1,h1,h2,rfl⟩:=bd_some h;obtain ⟨b,k2,i2,h3,h4,rfl⟩:=bd_some h2;obtain ⟨rfl,rfl⟩:=ret_some h4;have:=expr_lk e 1 1 a k1 h1;have:=list_lk r b k2 h3;simp only [ssz];omega
theorem listJ_lk(l:List Ex)(s:ByteArray)(k:Nat)(h:listJ l=some (s,k)):k≤s.size:=by
 obtain ⟨a,k1,i1,h1,h2,rfl⟩:=bd_some h;obtain ⟨rfl,rfl⟩:=ret_some h2;have:=list_lk l a k1 h1;have:=joinB_ge a ⟨#[44,32]⟩;omega
theorem test_lk(t:Ts)(s:ByteArray)(k:Nat)(h:testI t=some (s,k)):k≤s.size:=by
 obtain ⟨_,h⟩:=grd_some h;obtain ⟨a,k1,i1,h1,h2,rfl⟩:=bd_some h;obtain ⟨b,k2,i2,h3,h4,rfl⟩:=bd_some h2;obtain ⟨rfl,rfl⟩:=ret_some h4;have:=expr_lk t.a 1 1 a k1 h1;have:=expr_lk t.b 1 1 b k2 h3;simp only [sz2];omega
theorem and_lk:∀(l:List Ts) (ss:List ByteArray) (k:Nat),andI l=some (ss,k)→k≤ssz 0 ss
 |[],ss,k,h=>by obtain ⟨rfl,rfl⟩:=ret_some h;exact Nat.zero_le _
 |e::r,ss,k,h=>by
  obtain ⟨a,k1,i1,h1,h2,rfl⟩:=bd_some h;obtain ⟨b,k2,i2,h3,h4,rfl⟩:=bd_some h2;obtain ⟨rfl,rfl⟩:=ret_some h4;have:=test_lk e a k1 h1;have:=and_lk r b k2 h3;simp only [ssz];omega
theorem row_lk(l:List Ts)(s:ByteArray)(k:Nat)(h:rowI l=some (s,k)):k≤s.size:=by
 obtain ⟨a,k1,i1,h1,h2,rfl⟩:=bd_some h;obtain ⟨rfl,rfl⟩:=ret_some h2;have h3:=and_lk l a k1 h1;have h4:=joinB_ge (nz a) ⟨#[32,97,110,100,32]⟩
 cases a with
 |nil=>have:ssz 0 ([]:List ByteArray)=0:=rfl;omega
 |cons x a=>simp only [nz] at h4 ⊢;omega
theorem or_lk:∀(l:List (List Ts)) (ss:List ByteArray) (k:Nat),orI l=some (ss,k)→k≤ssz 0 ss
 |[],ss,k,h=>by obtain ⟨rfl,rfl⟩:=ret_some h;exact Nat.zero_le _
 |e::r,ss,k,h=>by
  obtain ⟨a,k1,i1,h1,h2,rfl⟩:=bd_some h;obtain ⟨b,k2,i2,h3,h4,rfl⟩:=bd_some h2;obtain ⟨rfl,rfl⟩:=ret_some h4;have:=row_lk e a k1 h1;have:=or_lk r b k2 h3;simp only [ssz];omega
theorem cond_lk(c:List (List Ts))(s:ByteArray)(k:Nat)(h:condI c=some (s,k)):k≤s.size:=by
 cases c with
 |nil=>obtain ⟨rfl,rfl⟩:=ret_some h;exact Nat.zero_le _
 |cons r c=>
  dsimp only [condI] at h
  obtain ⟨a,k1,i1,h1,h2,rfl⟩:=bd_some h;obtain ⟨rfl,rfl⟩:=ret_some h2;have:=or_lk (r::c) a k1 h1;have:=joinB_ge a ⟨#[32,111,114,32]⟩;omega
def LkS(m:Nat):Prop:=∀(s:Sm) (d:Nat) (t:ByteArray) (k:Nat),fuS s≤m→stmtI s d=some (t,k)→k+1≤t.size
def LkB(m:Nat):Prop:=∀(l:List Sm) (d:Nat) (t:ByteArray) (k:Nat),fuB l≤m→blockI l d=some (t,k)→k≤t.size
theorem block_lk{m:Nat}(hs:LkS m)(hb:LkB m):LkB (m+1):=by
 intro l d t k hf h
 cases l with
 |nil=>obtain ⟨rfl,rfl⟩:=ret_some h;exact Nat.zero_le _
 |cons s r=>
  simp only [fuB] at hf;simp only [blockI] at h;split at h
  ·obtain ⟨i,h',rfl⟩:=some_bd h
   obtain ⟨a,b,k1,k2,h1,h2,rfl,rfl⟩:=sq_some h';have:=hs s d a k1 (by omega) h1;have:=hb r d b k2 (by omega) h2;simp only [sz2];omega
  cases h
theorem stmt_lk{m:Nat}(hb:LkB m):LkS (m+1):=by
 intro s d t k hf h;obtain ⟨kind,name,proc,args,cond,body,els⟩:=s;simp only [fuS] at hf;have hfb:=fuB_ge body;have hfe:=fuB_ge els;rw [stmtI.eq_def] at h
 dsimp only at h
 split at h
 ·obtain ⟨_,h⟩:=grd_some h
  obtain ⟨_,h⟩:=grd_some h;obtain ⟨a,k1,i1,h1,h2,rfl⟩:=bd_some h;obtain ⟨rfl,rfl⟩:=ret_some h2;have:=listJ_lk args a k1 h1;simp only [lnI_size,sz2];omega
 split at h
 ·obtain ⟨_,h⟩:=grd_some h
  obtain ⟨_,h⟩:=grd_some h;split at h
  ·obtain ⟨a,k1,i1,h1,h2,rfl⟩:=bd_some h
   obtain ⟨b,k2,i2,h3,h4,rfl⟩:=bd_some h2;obtain ⟨rfl,rfl⟩:=ret_some h4;have:=expr_lk _ 1 1 a k1 h1;have:=expr_lk _ 1 1 b k2 h3;simp only [lnI_size,sz2];omega
  cases h
 split at h
 ·obtain ⟨_,h⟩:=grd_some h
  obtain ⟨_,h⟩:=grd_some h;obtain ⟨_,h⟩:=grd_some h;obtain ⟨a,k1,i1,h1,h2,rfl⟩:=bd_some h;obtain ⟨rfl,rfl⟩:=ret_some h2;have:=listJ_lk args a k1 h1;simp only [lnI_size,sz2];omega
 split at h
 ·obtain ⟨_,h⟩:=grd_some h
  obtain ⟨c,k1,i1,h1,h2,rfl⟩:=bd_some h;obtain ⟨a,b,j1,j2,g1,g2,rfl,rfl⟩:=sq_some h2;obtain ⟨a2,b2,j3,j4,g3,g4,rfl,rfl⟩:=sq_some g2;obtain ⟨rfl,rfl⟩:=ret_some g1;have:=cond_lk cond c k1 h1;have:=hb body (d+1) a2 j3 (by omega) g3;simp only [lnI_size,sz2];split at g4
  ·obtain ⟨a3,b3,j5,j6,q1,q2,rfl,rfl⟩:=sq_some g4
   obtain ⟨a4,b4,j7,j8,q3,q4,rfl,rfl⟩:=sq_some q2;obtain ⟨rfl,rfl⟩:=ret_some q1;obtain ⟨rfl,rfl⟩:=ret_some q4;have:=hb els (d+1) a4 j7 (by omega) q3;simp only [lnI_size,sz2];omega
  obtain ⟨rfl,rfl⟩:=ret_some g4;omega
 split at h
 ·obtain ⟨_,h⟩:=grd_some h
  obtain ⟨c,k1,i1,h1,h2,rfl⟩:=bd_some h;obtain ⟨a,b,j1,j2,g1,g2,rfl,rfl⟩:=sq_some h2;obtain ⟨a2,b2,j3,j4,g3,g4,rfl,rfl⟩:=sq_some g2;obtain ⟨rfl,rfl⟩:=ret_some g1;obtain ⟨rfl,rfl⟩:=ret_some g4;have:=cond_lk cond c k1 h1;have:=hb body (d+1) a2 j3 (by omega) g3;simp only [lnI_size,sz2];omega
 split at h
 ·obtain ⟨_,h⟩:=grd_some h
  obtain ⟨c,k1,i1,h1,h2,rfl⟩:=bd_some h;obtain ⟨rfl,rfl⟩:=ret_some h2;have:=cond_lk cond c k1 h1;simp only [lnI_size,sz2];omega
 split at h
 ·obtain ⟨_,h⟩:=grd_some h
  obtain ⟨_,h⟩:=grd_some h;obtain ⟨rfl,rfl⟩:=ret_some h;simp only [lnI_size];omega
 cases h
theorem all_lk:∀m,LkS m∧LkB m
 |0=>⟨fun s d t k h=>by obtain ⟨_,_,_,_,_,_,_⟩:=s;simp only [fuS] at h;omega,fun l d t k h=>by have:=fuB_ge l;omega⟩
 |m+1=>⟨stmt_lk (all_lk m).2,block_lk (all_lk m).1 (all_lk m).2⟩
theorem blockI_lk(l:List Sm)(d:Nat)(t:ByteArray)(k:Nat)(h:blockI l d=some (t,k)):k≤t.size:=(all_lk (fuB l)).2 l d t k (Nat.le_refl _) h
theorem vars_lk:∀(l:List ByteArray) (t:ByteArray) (k:Nat),varsI l=some (t,k)→k≤t.size
 |[],t,k,h=>by obtain ⟨rfl,rfl⟩:=ret_some h;exact Nat.zero_le _
 |v::r,t,k,h=>by
  obtain ⟨_,h⟩:=grd_some h;obtain ⟨a,b,k1,k2,h1,h2,rfl,rfl⟩:=sq_some h;obtain ⟨rfl,rfl⟩:=ret_some h1;have:=vars_lk r b k2 h2;simp only [sz2];omega
theorem arrs_lk:∀(l:List Ar) (t:ByteArray) (k:Nat),arrsI l=some (t,k)→k≤t.size
 |[],t,k,h=>by obtain ⟨rfl,rfl⟩:=ret_some h;exact Nat.zero_le _
 |⟨nm,sz⟩::r,t,k,h=>by
  obtain ⟨_,h⟩:=grd_some h;obtain ⟨_,h⟩:=grd_some h;obtain ⟨a,b,k1,k2,h1,h2,rfl,rfl⟩:=sq_some h;obtain ⟨rfl,rfl⟩:=ret_some h1;have:=arrs_lk r b k2 h2;simp only [sz2];omega
theorem procs_lk:∀(l:List Pc) (t:ByteArray) (k:Nat),procsI l=some (t,k)→k≤t.size
 |[],t,k,h=>by obtain ⟨rfl,rfl⟩:=ret_some h;exact Nat.zero_le _
 |⟨nm,ps,bd,rt⟩::r,t,k,h=>by
  obtain ⟨_,h⟩:=grd_some h;obtain ⟨_,h⟩:=grd_some h;obtain ⟨a,b,k1,k2,h1,h2,rfl,rfl⟩:=sq_some h;obtain ⟨rfl,rfl⟩:=ret_some h1;obtain ⟨a2,b2,k3,k4,h3,h4,rfl,rfl⟩:=sq_some h2;obtain ⟨a3,b3,k5,k6,h5,h6,rfl,rfl⟩:=sq_some h4;obtain ⟨a4,b4,k7,k8,h7,h8,rfl,rfl⟩:=sq_some h6;obtain ⟨rfl,rfl⟩:=ret_some h7;obtain ⟨s,k9,k10,h9,h10,rfl⟩:=bd_some h5;obtain ⟨rfl,rfl⟩:=ret_some h10;have:=procs_lk r b4 k8 h8;have:=blockI_lk bd 1 a2 k3 h3;have:=expr_lk rt 1 1 s k9 h9;simp only [sz2,lnI_size];omega
theorem prog_lk(p:Pg)(t:ByteArray)(k:Nat)(h:progI p=some (t,k)):k≤t.size:=by
 obtain ⟨a,b,k1,k2,h1,h2,rfl,rfl⟩:=sq_some h;obtain ⟨a2,b2,k3,k4,h3,h4,rfl,rfl⟩:=sq_some h2;obtain ⟨a3,b3,k5,k6,h5,h6,rfl,rfl⟩:=sq_some h4;obtain ⟨a4,b4,k7,k8,h7,h8,rfl,rfl⟩:=sq_some h6;obtain ⟨a5,b5,k9,k10,h9,h10,rfl,rfl⟩:=sq_some h8;obtain ⟨rfl,rfl⟩:=ret_some h7;obtain ⟨rfl,rfl⟩:=ret_some h10;have:=vars_lk p.vars a k1 h1;have:=arrs_lk p.arrays a2 k3 h3;have:=procs_lk p.procs a3 k5 h5;have:=blockI_lk p.main 1 a5 k9 h9;simp only [sz2];omega
/-- What lang.Text comes to, without the count. -/
theorem textF_law'(n f:Nat)(p:Pg)(hok:okPg n f p=true)(hw:wtPg p≤500000000):textF n f p=match progI p with
  |none=>.bad
  |some (s,_)=>match decide (s.size≤4000) with
   |true=>.ok s
   |false=>.bad:=by
 rw [textF_law n f p hok hw]
 cases h:progI p with
 |none=>rfl
 |some y=>
  obtain ⟨s,k⟩:=y;have:=prog_lk p s k h;simp only
  by_cases hs:s.size≤4000
  ·rw [decide_eq_true hs,decide_eq_true (show (k:Int)≤4000 by omega)]
   rfl
  rw [decide_eq_false hs,Bool.and_false]
end Go.Abs
end
