/- Texts of this proof, joined: AbsWB, AbsWC, AbsWD, AbsWE, AbsWF. -/
import Derived.Test.YtedljfabpknjiaaGreatDoorP7
import Derived.Lib.UnsafeStr
section
namespace Go.Proofs
open Go Go.RowKit
set_option maxHeartbeats 2000000 in
set_option maxRecDepth 100000 in
theorem Tryz.String_at (b g cap:Nat) (cs:Array Value) (ty:TypeId) (cur:Array Value) (l:List UInt8) (w:World) (h0:l≠[]) (hbk:w.heap[b]? = some (.cells cs ty (0,0))) (hcs:cs[1]? = some (.slice (some ⟨g,0,none⟩) l.length cap))
  (hg:w.heap[g]? = some (.cells cur 5 (0,0))) (hnc:l.length≤cap) (hcm:cap≤maxLen) (hsz:cur.size=cap * 1) (htake:cur.toList.take (l.length * 1)=Lib.byteCells l) :
  Calls Tryz.prog 82 #[.pointer (some ⟨b,0,none⟩)] w fun e w'=>e=.returned (.string ⟨l.toArray⟩)∧∃k,w'=(w.drewN k).freeze ⟨g,0,none⟩ l.length:=by
 have hl0:l.length≠0:=by simpa using h0
 have c1:w.drew.cell? ⟨b,1,none⟩=some (.slice (some ⟨g,0,none⟩) l.length cap):=by
  have:w.drew.heap[b]? = some (.cells cs ty (0,0)):=hbk;rw [Lib.cell_of_heap this];exact hcs
 have hSD:(Builtin.unsafeSliceData_ #[163] 269 #[.slice (some ⟨g,0,none⟩) l.length cap]).run Tryz.prog w.drew=.ok (.pointer (some ⟨g,0,none⟩)) w.drew:=
  Lib.run_unsafeSliceData_row _ _ _ _ _ _ (by omega)
 have hUS:(Builtin.unsafeString_ #[269,3] 9 #[.pointer (some ⟨g,0,none⟩),.int .i64 l.length]).run Tryz.prog w.drew=.ok (.string ⟨l.toArray⟩) (w.drew.freeze ⟨g,0,none⟩ l.length):=by
  refine Lib.run_unsafeString_row w.drew 269 3 9 5 Tryz.underlying269 (by kernel_rfl) g cur.size (by have hg':w.drew.heap[g]? = some (.cells cur 5 (0,0)):=hg;simp [World.shape?,hg']) l h0 (by omega) (by unfold maxLen at hcm;omega) ?_;intro j x hx;have hj:j<l.length:=(List.getElem?_eq_some_iff.1 hx).1;have hg':w.drew.heap[g]? = some (.cells cur 5 (0,0)):=hg
  have e1:(cur.toList.take (l.length * 1))[j]? = some (Value.int .u8 x.toNat):=by rw [htake];simp [Lib.byteCells,hx]
  rw [List.getElem?_take_of_lt (by omega),Array.getElem?_toList] at e1;rw [Go.Abs.add_plain,Lib.cell_of_heap hg']
  simpa using e1
 have mixed:=Tryz.lays169.mixed;have t165:=Tryz.underlying165;have a165:=Tryz.isAgg165;have z165:=Tryz.sizeOf165;have v165:=Tryz.zeroValue165;have u165:=run_underlying Tryz.underlying165;have t162:=Tryz.underlying162;have a162:=Tryz.isAgg162;have z162:=Tryz.sizeOf162;have v162:=Tryz.zeroValue162;have u162:=run_underlying Tryz.underlying162;have t163:=Tryz.underlying163;have a163:=Tryz.isAgg163;have z163:=Tryz.sizeOf163;have v163:=Tryz.zeroValue163;have u163:=run_underlying Tryz.underlying163;have t269:=Tryz.underlying269;have a269:=Tryz.isAgg269;have z269:=Tryz.sizeOf269;have v269:=Tryz.zeroValue269;have u269:=run_underlying Tryz.underlying269;have t3:=Tryz.underlying3;have a3:=Tryz.isAgg3;have z3:=Tryz.sizeOf3;have v3:=Tryz.zeroValue3;have u3:=run_underlying Tryz.underlying3;have t9:=Tryz.underlying9;have a9:=Tryz.isAgg9;have z9:=Tryz.sizeOf9;have v9:=Tryz.zeroValue9;have u9:=run_underlying Tryz.underlying9;have t5:=Tryz.underlying5;have a5:=Tryz.isAgg5;have z5:=Tryz.sizeOf5;have v5:=Tryz.zeroValue5;have u5:=run_underlying Tryz.underlying5
 go_enter Tryz.func82,Tryz.ntmps82
 go_wp2
 go_region_o
 all_goals (go_wp2;go_ret;exact ⟨rfl,1,rfl⟩)
end Go.Proofs
namespace Go.Abs
open Go Go.Proofs
theorem enters{P:Program}{f:FuncId}{fn:Func}{c:Code}(hf:P.funcs[f]? = some fn)(hb:fn.body=some c)(hname:(fn.name== "runtime.NumGoroutine")=false)(av:Array Value)(w:World):(callFunc f av).run P w=.ok (.enter f av) w:=by
 have hne:¬fn.name = "runtime.NumGoroutine":=by simpa using hname
 simp [callFunc,hf,hne,hb,program,Sem.run]
def act0:Act:={ tmps:=#[],defers:=[] }
theorem rep0{G:Glob}{H:Nat→Option Value}{lim:Nat→Nat}{w:World}{rows:List Row}(h:RowsOk H lim w rows)(hg:GlobOk G H lim w):Rep [] G 0 H lim ⟨[],rows⟩ act0 w:=
 ⟨fun j p q=>by simp [look] at q,h,hg,rfl,rfl⟩
theorem setCell_Fr{lim:Nat→Nat}{w:World}{b o:Nat}{ob:Obj}(_hb:w.heap[b]? = some ob)(hl:lim b=0)(v:Value):Fr (fun c=>some b=some c) lim w lim (w.setCell ⟨b,o,none⟩ v):=by
 refine ⟨rfl,rfl,rfl,by simp [World.setCell],fun c _=>⟨Nat.le_refl _,fun o' ho=>?_⟩,fun c _ hn=>⟨setCell_far v fun e=>hn (by rw [e]),rfl⟩⟩
 have:c≠b:=fun q=>by rw [q,hl] at ho;omega
 exact World.cell?_of_block (w:=w) (setCell_far v this)
/-- The writer's builder: its address is set. -/
theorem copy_used(G:Glob)(c:List PV)(xs:List (List Data)):Spec Tryz.prog G 207 [.box 0 0] [.box 167 (.box 0 0::c),.acc 5 1 xs] (.ret (.tup [])) [.box 167 (.box 0 0::c),.acc 5 1 xs]:=by
 refine ⟨enters Tryz.func207 (by rfl) (by rfl),Nat.le_refl _,fun H lim w vs hrows hglob hvs=>?_⟩;simp only [Vs,V] at hvs;obtain ⟨_,_,rfl,⟨b,hb,rfl⟩,rfl⟩:=hvs;obtain ⟨b',cs,h1,h2,h3,h4⟩:=hrows.row 0 _ rfl;rw [hb] at h1;simp only [Option.some.injEq,Value.pointer.injEq,Addr.mk.injEq,and_true] at h1;subst h1;simp only [Vs,V] at h3;obtain ⟨_,us,rfl,⟨b2,hb2,rfl⟩,h3⟩:=h3;rw [hb] at hb2;simp only [Option.some.injEq,Value.pointer.injEq,Addr.mk.injEq,and_true] at hb2;subst hb2;refine (Tryz.copyCheck_used b w (by rw [Lib.cell_of_heap h2];rfl)).mono ?_;rintro e w' ⟨rfl,rfl⟩;exact ⟨H,lim,hrows,Fr.refl _ _ _,fun _ _ _ _=>rfl,fun _ q=>.inl q,_,rfl,[],rfl,by simp only [Vs]⟩
theorem copy_fresh(G:Glob)(c:List PV)(hc:c.length=4)(xs:List (List Data)):Spec Tryz.prog G 207 [.box 0 0] [.box 167 (.d (.s (.pointer none))::c),.acc 5 1 xs] (.ret (.tup [])) [.box 167 (.box 0 0::c),.acc 5 1 xs]:=by
 refine ⟨enters Tryz.func207 (by rfl) (by rfl),Nat.le_refl _,fun H lim w vs hrows hglob hvs=>?_⟩;simp only [Vs,V] at hvs;obtain ⟨_,_,rfl,⟨b,hb,rfl⟩,rfl⟩:=hvs;obtain ⟨b',cs,h1,h2,h3,h4⟩:=hrows.row 0 _ rfl;rw [hb] at h1;simp only [Option.some.injEq,Value.pointer.injEq,Addr.mk.injEq,and_true] at h1;subst h1;simp only [Vs,V,VD] at h3;obtain ⟨_,us,rfl,rfl,h3⟩:=h3;have hlen:=Vs_length h3;refine (Tryz.copyCheck_fresh b w (by rw [Lib.cell_of_heap h2];rfl) (by simp [World.shape?,h2,hlen,hc]) (by simp [World.frozen?,h2])).mono ?_;rintro e w' ⟨rfl,rfl⟩;have hF:=setCell_Fr (o:=0) h2 h4 (.pointer (some ⟨b,0,none⟩))
 replace hF:=hF.weaken (Wr':=fun c=>Ow H 0 c) fun c q=>(ow_of hb).2 (Option.some.inj q).symm
 have hn:=nx_set (D:=[]) (r':=.box 167 (.box 0 0::c)) (rep0 hrows hglob) (id:=0) rfl hF ⟨b,_,hb,by simpa using setCell_at h2 _,?_,h4⟩
 ·exact ⟨H,lim,hn.rep.rows,hF.weaken fun _ q=>⟨0,q⟩,fun _ _ _ _=>rfl,fun _ q=>.inl q,_,rfl,[],rfl,by simp only [Vs]⟩
 simp only [Vs,V];exact ⟨_,us,rfl,⟨b,hb,rfl⟩,h3.mono hF (fun _ _ q=>q)⟩
theorem bts_byteCells{lim:Nat→Nat}{w:World}(s:ByteArray){zs:List Value}(h:VDs lim w (bts s).flatten zs):zs=Lib.byteCells s.data.toList:=by
 unfold bts at h
 unfold Lib.byteCells
 revert zs h
 generalize s.data.toList=l
 induction l with
 |nil=>intro zs h;simpa only [List.map_nil,List.flatten_nil,VDs] using h
 |cons c r ih=>
  intro zs h;simp only [List.map_cons,List.flatten_cons,List.cons_append,List.nil_append,VDs,VD] at h;obtain ⟨_,us,rfl,rfl,h⟩:=h;rw [List.map_cons,ih h]
theorem freeze_at{w:World}{g n:Nat}(b:Nat)(h:b≠g):(w.freeze ⟨g,0,none⟩ n).heap[b]? = w.heap[b]?:=by
 unfold World.freeze
 split
 ·rfl
 simp only [Array.getElem?_modify];rw [if_neg (fun e=>h e.symm)]
theorem freeze_cell{w:World}{g n:Nat}(b o:Nat):(w.freeze ⟨g,0,none⟩ n).cell? ⟨b,o,none⟩=w.cell? ⟨b,o,none⟩:=by
 unfold World.freeze
 split
 ·rfl
 simp only [World.cell?,Array.getElem?_modify]
 by_cases e:g=b
 ·rw [if_pos e]
  cases w.heap[b]? with
  |none=>rfl
  |some ob=>cases ob <;> rfl
 rw [if_neg e]
theorem string_spec(G:Glob)(x2 x3 x4:Data)(s:ByteArray)(hs:s.data.toList≠[]):
  Spec Tryz.prog G 82 [.box 0 0] [.box 167 [.box 0 0,.acc 1,.d x2,.d x3,.d x4],.acc 5 1 (bts s)] (.ret (.d (str s))) [.box 167 [.box 0 0,.d (.sl 1 (bts s)),.d x2,.d x3,.d x4],.acc 5 1 []]:=by
 refine ⟨enters Tryz.func82 (by rfl) (by rfl),Nat.le_refl _,fun H lim w vs hrows hglob hvs=>?_⟩;simp only [Vs,V] at hvs;obtain ⟨_,_,rfl,⟨b,hb,rfl⟩,rfl⟩:=hvs;obtain ⟨b',cs,h1,h2,h3,h4⟩:=hrows.row 0 _ rfl;rw [hb] at h1;simp only [Option.some.injEq,Value.pointer.injEq,Addr.mk.injEq,and_true] at h1;subst h1;obtain ⟨hv,zs,g1,g2,g3,g4,g5,g6⟩:=hrows.row 1 _ rfl;have hz:=bts_byteCells s g3;subst hz
 have hlen:s.data.toList.length=(bts s).length:=by simp [bts]
 have h3':=h3;simp only [Vs,V] at h3;obtain ⟨u0,us,rfl,hu0,u1,us,rfl,hu1,u2,us,rfl,hu2,u3,us,rfl,hu3,u4,us,rfl,hu4,rfl⟩:=h3;rw [g1] at hu1;simp only [Option.some.injEq] at hu1;subst hu1;obtain ⟨q1,⟨rfl,q2⟩|⟨g,cap,cur,rfl,q2,q3,q4,q5,q6,q7⟩⟩:=g2
 ·rw [← hlen] at q2
  exact absurd (List.eq_nil_of_length_eq_zero q2) hs
 have hbl0:Ow H 0 b:=(ow_of hb).2 rfl;have hbl1:Ow H 1 g:=(ow_of g1).2 rfl;have hbg:b≠g:=fun e=>hrows.apart 0 1 b (by decide) hbl0 (e▸hbl1);rw [← hlen] at q4 q7;refine (Tryz.String_at b g cap _ 167 cur s.data.toList w hs h2 (by simp [hlen]) q3 q4 q5 q6 q7).mono ?_;rintro e w' ⟨rfl,k,rfl⟩;have hlg:lim g=(bts s).length * 1:=g6 g rfl
 have hF:Fr (fun c=>c=g) lim w lim ((w.drewN k).freeze ⟨g,0,none⟩ s.data.toList.length):=by
  refine ⟨by unfold World.freeze;split <;> rfl,by unfold World.freeze;split <;> rfl,by unfold World.freeze;split <;> rfl,by unfold World.freeze;split <;> simp [World.drewN],fun c _=>⟨Nat.le_refl _,fun o _=>?_⟩,fun c _ hn=>⟨?_,rfl⟩⟩
  ·rw [freeze_cell];rfl
  rw [freeze_at c hn];rfl
 have hbs:∀id c,id≠1→Ow H id c→c≠g:=fun id c hid hc e=>hrows.apart id 1 c hid hc (e▸hbl1)
 have hcell:∀(j:Nat) (v:Value),(Lib.byteCells s.data.toList)[j]? = some v→w.cell? ⟨g,j,none⟩=some v:=by
  intro j v hj;rw [Lib.cell_of_heap q3,← Array.getElem?_toList];rw [← q7,List.getElem?_take] at hj;split at hj
  ·exact hj
  cases hj
 have hrow:∀(l:List UInt8) (o:Nat),o+l.length≤lim g→(∀j v,(Lib.byteCells l)[j]? = some v→w.cell? ⟨g,o+j,none⟩=some v)→VRow lim ((w.drewN k).freeze ⟨g,0,none⟩ s.data.toList.length) g 1 o (l.map fun b=>[.s (.int .u8 b.toNat)]):=by
  intro l
  induction l with
  |nil=>intro o _ _;simp only [List.map_nil,VRow]
  |cons c r ih=>
   intro o ho hc;simp only [List.map_cons,VRow,VCells,and_true];simp only [List.length_cons] at ho;refine ⟨rfl,⟨_,by rw [freeze_cell];exact hc 0 _ (by simp [Lib.byteCells];rfl),by omega,rfl,by simp only [VD]⟩,ih (o+1) (by omega) fun j v hj=>?_⟩;have:=hc (j+1) v (by simpa [Lib.byteCells] using hj)
   rwa [show o+1+j=o+(j+1) by omega]
 refine ⟨upd H 1 (some (.slice none 0 0)),lim,⟨fun id r hr=>?_,fun i j c hij hi hj=>?_,fun id hid=>?_⟩,hF.weaken fun c hc=>⟨1,hc▸hbl1⟩,fun id v hst hv=>?_,fun c ⟨id,hc⟩=>?_,_,rfl,?_⟩
 ·match id with
  |0=>
   simp only [List.getElem?_cons_zero,Option.some.injEq] at hr;subst hr;refine ⟨b,[u0,.slice (some ⟨g,0,none⟩) (bts s).length cap,u2,u3,u4],by rw [upd_other _ _ (by decide)];exact hb,by rw [freeze_at b hbg];exact h2,?_,h4⟩;simp only [Vs,V] at hu0 ⊢;obtain ⟨b2,hb2,rfl⟩:=hu0;refine ⟨_,_,rfl,⟨b2,by rw [upd_other _ _ (by decide)];exact hb2,rfl⟩,_,_,rfl,?_,_,_,rfl,hu2.mono hF,_,_,rfl,hu3.mono hF,_,_,rfl,hu4.mono hF,rfl⟩;simp only [VD];refine ⟨_,_,cap,rfl,rfl,by rw [← hlen];exact q4,q5,fun _=>⟨g,0,rfl,hrow s.data.toList 0 (by rw [hlg,← hlen];omega) fun j v hj=>by rw [Nat.zero_add];exact hcell j v hj⟩⟩
  |1=>
   simp only [List.getElem?_cons_succ,List.getElem?_cons_zero,Option.some.injEq] at hr;subst hr;exact ⟨_,[],upd_same _ _ _,World.ownsRow_nil _ 0 5 1,by simp only [List.flatten_nil,VDs],(fun x hx=>by cases hx),by decide,(fun b hb=>by cases hb)⟩
  |id+2=>simp at hr
 ·have f:∀i c,Ow (upd H 1 (some (.slice none 0 0))) i c→Ow H i c:=by
   intro i c h
   by_cases e:i=1
   ·subst e;exact ((ow_of (upd_same _ _ _)).1 h).elim
   exact (ow_other e).1 h
  exact hrows.apart i j c hij (f i c hi) (f j c hj)
 ·rw [upd_other _ _ (by simp at hid;omega)];exact hrows.dom id hid
 ·by_cases e:id=1
  ·subst e;rw [g1] at hv;cases hv;cases hst
  rw [upd_other _ _ e]
 ·by_cases e:id=1
  ·subst e;exact ((ow_of (upd_same _ _ _)).1 hc).elim
  exact .inl ⟨id,(ow_other e).1 hc⟩
 simp only [V,str,VD]
theorem strs_cell{lim:Nat→Nat}{w:World}{b:Nat}:∀(xs:List ByteArray) (o:Nat),VRow lim w b 1 o (strs xs)→∀(j:Nat) (x:ByteArray),xs[j]? = some x→w.cell? ⟨b,o+j,none⟩=some (.string x)
 |[],_,_,j,x,hj=>by simp at hj
 |s::r,o,h,j,x,hj=>by
  simp only [strs,List.map_cons,VRow,VCells,and_true] at h;obtain ⟨_,⟨v,h1,_,_,h2⟩,h3⟩:=h
  cases j with
  |zero=>
   simp only [List.getElem?_cons_zero,Option.some.injEq] at hj;subst hj;simp only [str,VD] at h2;rw [Nat.add_zero,h1,h2]
  |succ j=>
   have:=strs_cell r (o+1) h3 j x (by simpa using hj)
   rwa [show o+(j+1)=o+1+j by omega]
/-- strings.Join. -/
theorem join_spec(G:Glob)(xs:List ByteArray)(sep:ByteArray)(hl:(Lib.join (xs.map (·.data.toList)) sep.data.toList).length≤140737488355328)(hn:xs.length≤140737488355328):
  Spec Tryz.prog G 78 [.d (.sl 1 (strs xs)),.d (str sep)] [] (.ret (.d (str ⟨(Lib.join (xs.map (·.data.toList)) sep.data.toList).toArray⟩))) []:=by
 refine spec_of_below Tryz.func78 rfl (by rfl) ?_;intro H lim W vs hnn hglob hvs;simp only [Vs,V,str,VD] at hvs;obtain ⟨_,_,rfl,⟨A,n,c,rfl,rfl,hnc,hcm,hrow⟩,_,_,rfl,rfl,rfl⟩:=hvs
 have el:(strs xs).length=xs.length:=by simp [strs]
 by_cases h0:xs=[]
 ·subst h0
  refine (Tryz.strings_Join_none A c sep W).mono ?_;rintro e w' ⟨rfl,rfl⟩;exact ⟨⟨_,rfl,fun lim' _=>by simp only [V,str,VD];rfl⟩,RowKit.Below.refl _ _⟩
 have hne:xs.length≠0:=fun e=>h0 (List.eq_nil_of_length_eq_zero e);obtain ⟨b,o,rfl,hr⟩:=hrow (by rw [el];exact hne);rw [el] at hnc;have hc:=strs_cell xs o hr
 have hb:b<W.heap.size:=by
  cases xs with
  |nil=>exact absurd rfl h0
  |cons x r=>
   have:=hc 0 x rfl
   rcases Nat.lt_or_ge b W.heap.size with h|h
   ·exact h
   simp [World.cell?,Array.getElem?_eq_none h] at this
 have:=Tryz.strings_Join b o c xs sep W hc hb hn hnc hl;rw [← el] at this;refine this.mono ?_;rintro e w' ⟨rfl,hbl⟩;exact ⟨⟨_,rfl,fun lim' _=>by simp only [V,str,VD]⟩,hbl⟩
end Go.Abs
end
section
namespace Go.Abs
open Go Go.Proofs
attribute [local irreducible] aCall AWp Sub Spec
/-- What the writer holds. -/
structure WS where
 b:ByteArray
 inn:Nat
 ok:Bool
 n:Int
/-- The writer that has written, and the one that has not. -/
def wr(W:WS):List Row:=[.box 167 [.box 0 0,.acc 1,.d (num W.inn),.d (.s (.bool W.ok)),.d (num W.n)],.acc 5 1 (bts W.b)]
def wr0(W:WS):List Row:=[.box 167 [.d (.s (.pointer none)),.acc 1,.d (num W.inn),.d (.s (.bool W.ok)),.d (num W.n)],.acc 5 1 (bts W.b)]
theorem bts_append(a b:ByteArray):bts a++bts b=bts (a++b):=by simp [bts]
def mustW(W:WS)(c:Bool):WS:=⟨W.b,W.inn,W.ok&&c,W.n⟩
def lookW(W:WS)(d:Int):WS:=mustW ⟨W.b,W.inn,W.ok,IntKind.i64.wrap (W.n+1)⟩ (decide (d≤12)&&decide (IntKind.i64.wrap (W.n+1)≤4000))
def putW(W:WS)(s:ByteArray):WS:=⟨W.b++s,W.inn,W.ok,W.n⟩
def indent(n:Nat):ByteArray:=⟨(Lib.repeatL (⟨#[32,32]⟩:ByteArray).data.toList n).toArray⟩
def lineW(W:WS)(s:ByteArray):WS:=putW W ((indent W.inn++s)++⟨#[10]⟩)
theorem szlim{x y:ByteArray}{m k:Nat}(hx:x.size≤m)(hy:y.size≤k)(h:m+k≤9223372036854775807):x.size+y.size≤9223372036854775807:=by omega
theorem sz_append{x y:ByteArray}{m k:Nat}(hx:x.size≤m)(hy:y.size≤k):(x++y).size≤m+k:=by rw [ByteArray.size_append];omega
theorem indent_size(n:Nat):(indent n).size=2 * n:=by
 show (Lib.repeatL _ n).toArray.size=_
 induction n with
 |zero=>rfl
 |succ n ih=>simp [Lib.repeatL] at ih ⊢;omega
theorem put_spec(G:Glob)(W:WS)(s:ByteArray)(hz:W.b.size+s.size≤140737488355328):Spec Tryz.prog G 148 [.box 0 0,.d (str s)] (wr W) (.ret (.tup [.d (num s.size),.d (.s .nilIface)])) (wr (putW W s)):=by
 unfold putW wr
 rw [← bts_append];refine spec_of_awp2 TT_ok (N:=19) Tryz.func148 rfl (by rfl) (Nat.le_refl _) rfl ?_;refine rz [0,1] ?_;refine rgs fun E K J O=>?_;refine aS [0,1] (copy_used G _ _) ?_;refine O _ (aN [0,1] rfl rfl ?_);clear O J K E;refine rgs fun E K J O=>?_;refine And.intro (by rw [bts_length];exact hz) ?_;refine O _ (aN [1] rfl rfl ?_);clear O J K E;refine rz [4,5] ?_;refine awp_ret ?_;exact ⟨_,[0,1],_,_,rfl,rfl,rfl,rfl,rfl,PWs.refl _,rfl⟩
theorem must_spec(G:Glob)(W:WS)(c:Bool):Spec Tryz.prog G 76 [.box 0 0,.d (.s (.bool c))] (wr W) (.ret (.tup [])) (wr (mustW W c)):=by
 obtain ⟨V',hG⟩:∃r,mustW W c=r:=⟨_,rfl⟩;rw [hG];refine spec_of_awp2 TT_ok (N:=14) Tryz.func76 rfl (by rfl) (Nat.le_refl _) rfl ?_;refine rgn fun E K J O=>?_;refine onB_intro (fun h1=>?_) (fun h1=>?_)
 ·refine O _ ?_;clear O J K E
  simp only [mustW,h1,Bool.true_and] at hG;subst hG;exact ⟨_,[0,1],_,_,rfl,rfl,rfl,rfl,rfl,PWs.refl _,rfl⟩
 refine O _ ?_;clear O J K E;simp only [mustW,h1,Bool.false_and] at hG;subst hG;exact ⟨_,[0,1],_,_,rfl,rfl,rfl,rfl,rfl,PWs.refl _,rfl⟩
theorem name_spec(G:Glob)(W:WS)(s:ByteArray)(hs:s.size<4611686018427387904):Spec Tryz.prog G 75 [.box 0 0,.d (str s)] (wr W) (.ret (.d (str s))) (wr (mustW W (isNameF s))):=by
 refine spec_of_awp2 TT_ok (N:=10) Tryz.func75 rfl (by rfl) (Nat.le_refl _) rfl ?_;refine rz [0,1] ?_;refine rgs fun E K J O=>?_;refine aS [] (isName_spec G s hs) ?_;refine aS [0,1] (must_spec G W _) ?_;refine O _ (aN [1] rfl rfl ?_);clear O J K E;refine rz [4] ?_;refine awp_ret ?_;exact ⟨_,[0,1],_,_,rfl,rfl,rfl,rfl,rfl,PWs.refl _,rfl⟩
def p74_0:Plan:=(.take 0 (.take 1 (.take 2 (.take 3 (.take 4 (.take 5 (.load 6 (.take 8 (.one 7 (.take 9 (.take 10 (.one 11 .done))))))))))))
theorem line_spec(G:Glob)(W:WS)(s:ByteArray)(hi:W.inn≤1073741824)(hs:s.size≤1073741824)(hb:W.b.size≤70368744177664):Spec Tryz.prog G 74 [.box 0 0,.d (str s)] (wr W) (.ret (.tup [])) (wr (lineW W s)):=by
 have hx:(indent W.inn).size≤2147483648:=by rw [indent_size];omega
 have hz:W.b.size+((indent W.inn++s)++⟨#[10]⟩).size≤140737488355328:=by
  rw [ByteArray.size_append,ByteArray.size_append];have:(⟨#[10]⟩:ByteArray).size=1:=rfl;omega
 unfold indent at hx
 refine spec_of_awp2 TT_ok (N:=16) Tryz.func74 rfl (by rfl) (Nat.le_refl _) rfl ?_;refine (awp_draw TT_ok mixed p74_0 [7,11] (fun _=>true) (by kernel_rfl) fun E K J O=>?_)
 show aCall _ _ _ _ _ _ _
 refine aR [] rfl rfl rfl (repeat_spec G ⟨#[32,32]⟩ W.inn (by show 2 * W.inn≤_;omega) (by omega)) rfl rfl rfl rfl ?_;refine And.intro (szlim (by repeat' (first|assumption|apply sz_append|exact Nat.le_refl _)) (by repeat' (first|assumption|apply sz_append|exact Nat.le_refl _)) (by decide)) ?_;refine And.intro (szlim (by repeat' (first|assumption|apply sz_append|exact Nat.le_refl _)) (by repeat' (first|assumption|apply sz_append|exact Nat.le_refl _)) (by decide)) ?_;refine aS [0,1] (put_spec G W _ hz) ?_;refine O _ ?_;clear O J K E;exact ⟨_,[0,1],_,_,rfl,rfl,rfl,rfl,rfl,PWs.refl _,rfl⟩
theorem put_spec0(G:Glob)(W:WS)(s:ByteArray)(hz:W.b.size+s.size≤140737488355328):Spec Tryz.prog G 148 [.box 0 0,.d (str s)] (wr0 W) (.ret (.tup [.d (num s.size),.d (.s .nilIface)])) (wr (putW W s)):=by
 unfold putW wr
 rw [← bts_append];refine spec_of_awp2 TT_ok (N:=19) Tryz.func148 rfl (by rfl) (Nat.le_refl _) rfl ?_;refine rz [0,1] ?_;refine rgs fun E K J O=>?_;refine aS [0,1] (copy_fresh G _ rfl _) ?_;refine O _ (aN [0,1] rfl rfl ?_);clear O J K E;refine rgs fun E K J O=>?_;refine And.intro (by rw [bts_length];exact hz) ?_;refine O _ (aN [1] rfl rfl ?_);clear O J K E;refine rz [4,5] ?_;refine awp_ret ?_;exact ⟨_,[0,1],_,_,rfl,rfl,rfl,rfl,rfl,PWs.refl _,rfl⟩
theorem must_spec0(G:Glob)(W:WS)(c:Bool):Spec Tryz.prog G 76 [.box 0 0,.d (.s (.bool c))] (wr0 W) (.ret (.tup [])) (wr0 (mustW W c)):=by
 obtain ⟨V',hG⟩:∃r,mustW W c=r:=⟨_,rfl⟩;rw [hG];refine spec_of_awp2 TT_ok (N:=14) Tryz.func76 rfl (by rfl) (Nat.le_refl _) rfl ?_;refine rgn fun E K J O=>?_;refine onB_intro (fun h1=>?_) (fun h1=>?_)
 ·refine O _ ?_;clear O J K E
  simp only [mustW,h1,Bool.true_and] at hG;subst hG;exact ⟨_,[0,1],_,_,rfl,rfl,rfl,rfl,rfl,PWs.refl _,rfl⟩
 refine O _ ?_;clear O J K E;simp only [mustW,h1,Bool.false_and] at hG;subst hG;exact ⟨_,[0,1],_,_,rfl,rfl,rfl,rfl,rfl,PWs.refl _,rfl⟩
theorem name_spec0(G:Glob)(W:WS)(s:ByteArray)(hs:s.size<4611686018427387904):Spec Tryz.prog G 75 [.box 0 0,.d (str s)] (wr0 W) (.ret (.d (str s))) (wr0 (mustW W (isNameF s))):=by
 refine spec_of_awp2 TT_ok (N:=10) Tryz.func75 rfl (by rfl) (Nat.le_refl _) rfl ?_;refine rz [0,1] ?_;refine rgs fun E K J O=>?_;refine aS [] (isName_spec G s hs) ?_;refine aS [0,1] (must_spec0 G W _) ?_;refine O _ (aN [1] rfl rfl ?_);clear O J K E;refine rz [4] ?_;refine awp_ret ?_;exact ⟨_,[0,1],_,_,rfl,rfl,rfl,rfl,rfl,PWs.refl _,rfl⟩
theorem line_spec0(G:Glob)(W:WS)(s:ByteArray)(hi:W.inn≤1073741824)(hs:s.size≤1073741824)(hb:W.b.size≤70368744177664):Spec Tryz.prog G 74 [.box 0 0,.d (str s)] (wr0 W) (.ret (.tup [])) (wr (lineW W s)):=by
 have hx:(indent W.inn).size≤2147483648:=by rw [indent_size];omega
 have hz:W.b.size+((indent W.inn++s)++⟨#[10]⟩).size≤140737488355328:=by
  rw [ByteArray.size_append,ByteArray.size_append];have:(⟨#[10]⟩:ByteArray).size=1:=rfl;omega
 unfold indent at hx
 refine spec_of_awp2 TT_ok (N:=16) Tryz.func74 rfl (by rfl) (Nat.le_refl _) rfl ?_;refine (awp_draw TT_ok mixed p74_0 [7,11] (fun _=>true) (by kernel_rfl) fun E K J O=>?_)
 show aCall _ _ _ _ _ _ _
 refine aR [] rfl rfl rfl (repeat_spec G ⟨#[32,32]⟩ W.inn (by show 2 * W.inn≤_;omega) (by omega)) rfl rfl rfl rfl ?_;refine And.intro (szlim (by repeat' (first|assumption|apply sz_append|exact Nat.le_refl _)) (by repeat' (first|assumption|apply sz_append|exact Nat.le_refl _)) (by decide)) ?_;refine And.intro (szlim (by repeat' (first|assumption|apply sz_append|exact Nat.le_refl _)) (by repeat' (first|assumption|apply sz_append|exact Nat.le_refl _)) (by decide)) ?_;refine aS [0,1] (put_spec0 G W _ hz) ?_;refine O _ ?_;clear O J K E;exact ⟨_,[0,1],_,_,rfl,rfl,rfl,rfl,rfl,PWs.refl _,rfl⟩
theorem look_spec(G:Glob)(W:WS)(d:Int):Spec Tryz.prog G 153 [.box 0 0,.d (num d)] (wr W) (.ret (.d (.s (.bool (lookW W d).ok)))) (wr (lookW W d)):=by
 obtain ⟨V',hG⟩:∃r,lookW W d=r:=⟨_,rfl⟩;rw [hG];refine spec_of_awp2 TT_ok (N:=27) Tryz.func153 rfl (by rfl) (Nat.le_refl _) rfl ?_;refine rz [0,1] ?_;refine rz [0,1] ?_;refine rgs fun E K J O=>?_;refine onB_intro (fun h1=>?_) (fun h1=>?_)
 ·refine aS [0,1] (must_spec G ⟨W.b,W.inn,W.ok,IntKind.i64.wrap (W.n+1)⟩ _) ?_
  refine O _ (aN [0] rfl rfl ?_);clear O J K E;refine rz [4] ?_;refine awp_ret ?_;simp only [lookW,mustW,h1,Bool.true_and] at hG;subst hG;exact ⟨_,[0,1],_,_,rfl,rfl,rfl,rfl,rfl,PWs.refl _,rfl⟩
 refine aS [0,1] (must_spec G ⟨W.b,W.inn,W.ok,IntKind.i64.wrap (W.n+1)⟩ _) ?_;refine O _ (aN [0] rfl rfl ?_);clear O J K E;refine rz [4] ?_;refine awp_ret ?_;simp only [lookW,mustW,h1,Bool.false_and] at hG;subst hG;exact ⟨_,[0,1],_,_,rfl,rfl,rfl,rfl,rfl,PWs.refl _,rfl⟩
end Go.Abs
end
section
namespace Go.Abs
open Go Go.Proofs
attribute [local irreducible] aCall AWp Sub Spec
/-- What a function of the writer comes to; no answer within so many steps, or past what is small. -/
inductive Q (α:Type) where
 |ok (a:α) (W:WS)
 |out
def Q.bind{α β:Type}(r:Q α)(f:α→WS→Q β):Q β:=match r with
 |.ok a W=>f a W
 |.out=>.out
def chkS(s:ByteArray):Bool:=decide (s.size≤1073741824)
def chkN(n:Int):Bool:=decide (-9223372036854775808≤n)&&decide (n≤9223372036854775807)
def fit(a:ByteArray)(W:WS):Q ByteArray:=match chkS a with
 |true=>.ok a W
 |false=>.out
theorem fit_ok{a:ByteArray}{W:WS}{r:Q ByteArray}(h:fit a W=r)(hne:r≠.out):r=.ok a W:=by
 unfold fit at h
 split at h
 ·exact h.symm
 exact absurd h.symm hne
def outQ{α:Type}(enc:α→PV):Q α→Out
 |.ok a _=>.ret (enc a)
 |.out=>.ret (.tup [])
def rowsQ{α:Type}:Q α→List Row
 |.ok _ W=>wr W
 |.out=>[]
/-- The contract of a function of the writer. -/
def QSpec{α:Type}(G:Glob)(f:FuncId)(args:List PV)(W:WS)(enc:α→PV)(r:Q α):Prop:=r≠.out→Spec Tryz.prog G f args (wr W) (outQ enc r) (rowsQ r)
def rankF(s:ByteArray):Int:=match ((s.toList==(⟨#[43]⟩:ByteArray).toList)||(s.toList==(⟨#[45]⟩:ByteArray).toList)) with
 |true=>1
 |false=>match (((s.toList==(⟨#[42]⟩:ByteArray).toList)||(s.toList==(⟨#[47]⟩:ByteArray).toList))||(s.toList==(⟨#[37]⟩:ByteArray).toList)) with
  |true=>2
  |false=>3
def binF(op:ByteArray):Bool:=(((((op.toList==(⟨#[43]⟩:ByteArray).toList)||(op.toList==(⟨#[45]⟩:ByteArray).toList))||(op.toList==(⟨#[42]⟩:ByteArray).toList))||(op.toList==(⟨#[47]⟩:ByteArray).toList))||(op.toList==(⟨#[37]⟩:ByteArray).toList))
def itoaB(n:Int):ByteArray:=⟨(Lib.itoa n).toArray⟩
def ItoaOk(G:Glob):Prop:=∀n,chkN n=true→Spec Tryz.prog G 77 [.d (num n)] [] (.ret (.d (str (itoaB n)))) []
/-- The text of a term. -/
def termW:Nat→Ex→Int→Int→WS→Q ByteArray
 |0,_,_,_,_=>.out
 |f+1,.mk op n nm l,least,d,W=>match (lookW W d).ok with
  |false=>fit ⟨#[]⟩ (lookW W d)
  |true=>match decide (rankF op<least) with
   |true=>(termW f (.mk op n nm l) 1 (IntKind.i64.wrap (d+1)) (lookW W d)).bind fun s V=>fit ((⟨#[40]⟩++s)++⟨#[41]⟩) V
   |false=>match (op.toList==(⟨#[110,117,109]⟩:ByteArray).toList) with
    |true=>match chkN n with
     |true=>fit (itoaB n) (mustW (lookW W d) (((decide (n≥0)&&decide (n≤1099511627776))&&(nm.toList==(⟨#[]⟩:ByteArray).toList))&&(((exs l).length:Int)==0)))
     |false=>.out
    |false=>match (op.toList==(⟨#[118,97,114]⟩:ByteArray).toList) with
     |true=>match chkS nm with
      |true=>fit nm (mustW (mustW (lookW W d) ((n==0)&&(((exs l).length:Int)==0))) (isNameF nm))
      |false=>.out
     |false=>match (op.toList==(⟨#[97,116]⟩:ByteArray).toList) with
      |true=>match (mustW (lookW W d) ((n==0)&&(((exs l).length:Int)==1))).ok with
       |true=>match chkS nm with
        |true=>match l with
         |[x]=>(termW f x 1 (IntKind.i64.wrap (d+1)) (mustW (mustW (lookW W d) ((n==0)&&(((exs l).length:Int)==1))) (isNameF nm))).bind fun s V=>fit (((nm++⟨#[91]⟩)++s)++⟨#[93]⟩) V
         |_=>.out
        |false=>.out
       |false=>fit ⟨#[]⟩ (mustW (lookW W d) ((n==0)&&(((exs l).length:Int)==1)))
      |false=>match (op.toList==(⟨#[110,101,103]⟩:ByteArray).toList) with
       |true=>match (mustW (lookW W d) (((n==0)&&(nm.toList==(⟨#[]⟩:ByteArray).toList))&&(((exs l).length:Int)==1))).ok with
        |true=>match l with
         |[x]=>(termW f x 3 (IntKind.i64.wrap (d+1)) (mustW (lookW W d) (((n==0)&&(nm.toList==(⟨#[]⟩:ByteArray).toList))&&(((exs l).length:Int)==1)))).bind fun s V=>fit (⟨#[45]⟩++s) V
         |_=>.out
        |false=>fit ⟨#[]⟩ (mustW (lookW W d) (((n==0)&&(nm.toList==(⟨#[]⟩:ByteArray).toList))&&(((exs l).length:Int)==1)))
       |false=>match binF op with
        |true=>match (mustW (lookW W d) (((n==0)&&(nm.toList==(⟨#[]⟩:ByteArray).toList))&&(((exs l).length:Int)==2))).ok with
         |true=>match chkS op with
          |true=>match l with
           |[x,y]=>(termW f x (rankF op) d (mustW (lookW W d) (((n==0)&&(nm.toList==(⟨#[]⟩:ByteArray).toList))&&(((exs l).length:Int)==2)))).bind fun s V=>(termW f y (IntKind.i64.wrap (rankF op+1)) d V).bind fun u V=>fit ((((s++⟨#[32]⟩)++op)++⟨#[32]⟩)++u) V
           |_=>.out
          |false=>.out
         |false=>fit ⟨#[]⟩ (mustW (lookW W d) (((n==0)&&(nm.toList==(⟨#[]⟩:ByteArray).toList))&&(((exs l).length:Int)==2)))
        |false=>fit ⟨#[]⟩ (mustW (lookW W d) false)
theorem fit_size{x:ByteArray}{U:WS}{a:ByteArray}{V:WS}(h:fit x U=.ok a V):a.size≤1073741824:=by
 unfold fit at h
 split at h
 ·rename_i hc
  simp only [Q.ok.injEq] at h;rw [← h.1];exact of_decide_eq_true hc
 cases h
theorem bind_size{α:Type}{r:Q α}{f:α→WS→Q ByteArray}{a:ByteArray}{V:WS}(hf:∀x U,f x U=.ok a V→a.size≤1073741824)(h:r.bind f=.ok a V):a.size≤1073741824:=by
 cases r with
 |out=>cases h
 |ok x U=>exact hf x U h
theorem termW_size{f:Nat}{e:Ex}{least d:Int}{W:WS}{a:ByteArray}{V:WS}(h:termW f e least d W=.ok a V):a.size≤1073741824:=by
 cases f with
 |zero=>simp only [termW] at h;cases h
 |succ f=>
  obtain ⟨op,n,nm,l⟩:=e;simp only [termW] at h
  repeat' (split at h)
  all_goals first
   |exact fit_size h
   |cases h;done
   |exact bind_size (fun _ _ q=>fit_size q) h
   |exact bind_size (fun _ _ q=>bind_size (fun _ _ q=>fit_size q) q) h
theorem must_specE(G:Glob){W V:WS}{c c':Bool}(h:c'=c)(hW:mustW W c=V):Spec Tryz.prog G 76 [.box 0 0,.d (.s (.bool c'))] (wr W) (.ret (.tup [])) (wr V):=by
 subst h hW;exact must_spec G W c'
theorem name_specE(G:Glob){W V:WS}{s:ByteArray}(hs:s.size≤1073741824)(hW:mustW W (isNameF s)=V):Spec Tryz.prog G 75 [.box 0 0,.d (str s)] (wr W) (.ret (.d (str s))) (wr V):=by
 subst hW;exact name_spec G W s (by omega)
theorem look_specE(G:Glob){W V:WS}{d:Int}(hW:lookW W d=V):Spec Tryz.prog G 153 [.box 0 0,.d (num d)] (wr W) (.ret (.d (.s (.bool V.ok)))) (wr V):=by
 subst hW;exact look_spec G W d
theorem must_true{W V:WS}{c:Bool}(hW:mustW W c=V)(h:V.ok=true):c=true:=by
 subst hW;simp only [mustW,Bool.and_eq_true] at h;exact h.2
theorem ex_len:∀l:List Ex,(exs l).length=l.length
 |[]=>rfl
 |e::r=>by simp only [exs,List.length_cons,ex_len r]
theorem ex_one{l:List Ex}{c:Bool}(h:(c&&(((exs l).length:Int)==1))=true):∃x,l=[x]:=by
 simp only [Bool.and_eq_true,beq_iff_eq,ex_len] at h;have h:=h.2
 match l,h with
 |[x],_=>exact ⟨x,rfl⟩
theorem ex_two{l:List Ex}{c:Bool}(h:(c&&(((exs l).length:Int)==2))=true):∃x y,l=[x,y]:=by
 simp only [Bool.and_eq_true,beq_iff_eq,ex_len] at h;have h:=h.2
 match l,h with
 |[x,y],_=>exact ⟨x,y,rfl⟩
theorem rank_spec(G:Glob)(s:ByteArray):Spec Tryz.prog G 155 [.d (str s)] [] (.ret (.d (num (rankF s)))) []:=by
 obtain ⟨V',hG⟩:∃r,rankF s=r:=⟨_,rfl⟩;rw [hG];refine spec_of_awp2 TT_ok (N:=11) Tryz.func155 rfl (by rfl) (Nat.le_refl _) rfl ?_;refine rz [0] ?_;refine awp_seq ?_;refine rz [3] ?_;refine awp_block ?_;refine awp_seq ?_;refine rz [3,4] ?_;refine awp_cond2 rfl (onB_intro (fun h1=>?_) (fun h1=>?_))
 ·refine awp_skip ?_;refine awp_cond rfl ?_;refine rz [2] ?_;refine awp_ret ?_
  simp only [rankF,h1,bz] at hG;subst hG;exact ⟨_,[],_,_,rfl,rfl,rfl,rfl,rfl,PWs.refl _,rfl⟩
 refine rgn fun E K J O=>?_;refine O _ (aN [3,4] rfl rfl ?_);clear O J K E;refine awp_cond2 rfl (onB_intro (fun h2=>?_) (fun h2=>?_))
 ·refine rz [2] ?_;refine awp_ret ?_
  simp only [rankF,h1,h2,bz] at hG;subst hG;exact ⟨_,[],_,_,rfl,rfl,rfl,rfl,rfl,PWs.refl _,rfl⟩
 refine awp_seq ?_;refine rz [3,7] ?_;refine awp_cond2 rfl (onB_intro (fun h3=>?_) (fun h3=>?_))
 ·refine awp_skip ?_;refine awp_cond rfl ?_;refine rz [2] ?_;refine awp_ret ?_
  simp only [rankF,h1,h2,h3,bz] at hG;subst hG;exact ⟨_,[],_,_,rfl,rfl,rfl,rfl,rfl,PWs.refl _,rfl⟩
 refine rz [3,7] ?_;refine awp_cond2 rfl (onB_intro (fun h4=>?_) (fun h4=>?_))
 ·refine awp_skip ?_;refine awp_cond rfl ?_;refine rz [2] ?_;refine awp_ret ?_
  simp only [rankF,h1,h2,h3,h4,bz] at hG;subst hG;exact ⟨_,[],_,_,rfl,rfl,rfl,rfl,rfl,PWs.refl _,rfl⟩
 refine rgn fun E K J O=>?_;refine O _ (aN [7] rfl rfl ?_);clear O J K E;refine awp_cond2 rfl (onB_intro (fun h5=>?_) (fun h5=>?_))
 ·refine rz [2] ?_;refine awp_ret ?_
  simp only [rankF,h1,h2,h3,h4,h5,bz] at hG;subst hG;exact ⟨_,[],_,_,rfl,rfl,rfl,rfl,rfl,PWs.refl _,rfl⟩
 refine awp_skip ?_;refine rz [2] ?_;refine awp_ret ?_;simp only [rankF,h1,h2,h3,h4,h5,bz] at hG;subst hG;exact ⟨_,[],_,_,rfl,rfl,rfl,rfl,rfl,PWs.refl _,rfl⟩
def TermWOk(G:Glob)(f:Nat):Prop:=∀(e:Ex) (least d:Int) (W:WS),QSpec G 80 [.box 0 0,encE e,.d (num least),.d (num d)] W encS (termW f e least d W)
def p80_16:Plan:=(.take 0 (.take 1 (.load 2 (.take 5 (.take 6 (.load 7 (.take 8 (.load 9 (.take 10 (.take 11 (.one 3 (.take 4 (.one 12 (.take 13 (.take 14 (.take 15 .done))))))))))))))))
def p80_29:Plan:=(.take 0 (.take 1 (.load 2 (.take 3 (.load 4 (.take 5 (.take 6 (.take 9 (.load 10 (.take 13 (.take 14 (.load 15 (.take 16 (.load 17 (.take 18 (.take 19 (.take 20 (.one 7 (.take 8 (.take 11 (.take 12 (.one 21 (.take 22 (.take 23 .done))))))))))))))))))))))))
theorem term_stepW(G:Glob)(hI:ItoaOk G)(f:Nat)(ih:TermWOk G f):TermWOk G (f+1):=by
 intro e least d W hne;obtain ⟨r,hG⟩:∃r,termW (f+1) e least d W=r:=⟨_,rfl⟩;rw [hG] at hne ⊢;obtain ⟨op,n,nm,l⟩:=e;simp only [termW] at hG
 refine spec_of_awp2 TT_ok (N:=188) Tryz.func80 rfl (by rfl) ((by cases r <;> simp [rowsQ,wr] at hne ⊢)) rfl ?_
 refine rz [0,2,3,5] ?_;refine awp_seq ?_;refine rgs fun E K J O=>?_;show aCall _ _ _ _ _ _ _;obtain ⟨V1,hV1⟩:∃V,lookW W d=V:=⟨_,rfl⟩;rw [hV1] at hG;refine aS [0,1] (look_specE G hV1) ?_;refine O _ (aN [0,2,3,5,13] rfl rfl ?_);clear O J K E;refine awp_cond2 rfl (onB_intro (fun h1=>?_) (fun h1=>?_))
 ·simp only [Bool.not_eq_true'] at h1
  refine rz [8] ?_;refine awp_ret ?_;simp only [h1] at hG;obtain rfl:=fit_ok hG hne;exact ⟨_,[0,1],_,[encS _],rfl,rfl,rfl,rfl,rfl,PWs.refl _,rfl⟩
 simp only [Bool.not_eq_false'] at h1;refine awp_skip ?_;refine awp_seq ?_;refine rgs fun E K J O=>?_;refine aS [] (rank_spec G op) ?_;refine O _ (aN [0,3,5,18] rfl rfl ?_);clear O J K E;refine awp_cond2 rfl (onB_intro (fun h2=>?_) (fun h2=>?_))
 ·refine rgs fun E K J O=>?_;show aCall _ _ _ _ _ _ _
  have sp1:=ih (.mk op n nm l) 1 (IntKind.i64.wrap (d+1)) V1
  cases hr1:termW f (.mk op n nm l) 1 (IntKind.i64.wrap (d+1)) V1 with
  |out=>
   simp only [Q.bind,h1,h2,hr1] at hG;exact absurd hG.symm hne
  |ok a1 U1=>
   rw [hr1] at sp1;have sz1:=termW_size hr1;refine aS [0,1] (sp1 nofun) ?_;refine And.intro (szlim (by repeat' (first|assumption|apply sz_append|exact Nat.le_refl _)) (by repeat' (first|assumption|apply sz_append|exact Nat.le_refl _)) (by decide)) ?_;refine And.intro (szlim (by repeat' (first|assumption|apply sz_append|exact Nat.le_refl _)) (by repeat' (first|assumption|apply sz_append|exact Nat.le_refl _)) (by decide)) ?_;refine O _ (aN [8] rfl rfl ?_);clear O J K E;refine awp_ret ?_;simp only [Q.bind,h1,h2,hr1] at hG;obtain rfl:=fit_ok hG hne;exact ⟨_,[0,1],_,[encS _],rfl,rfl,rfl,rfl,rfl,PWs.refl _,rfl⟩
 refine awp_skip ?_;refine awp_seq ?_;refine rz [0,3,5,27] ?_;refine awp_block ?_;refine rz [0,3,5,27,30] ?_;refine awp_cond2 rfl (onB_intro (fun h3=>?_) (fun h3=>?_))
 ·obtain ⟨V2,hV2⟩:∃V,mustW V1 (((decide (n≥0)&&decide (n≤1099511627776))&&(nm.toList==(⟨#[]⟩:ByteArray).toList))&&(((exs l).length:Int)==0))=V:=⟨_,rfl⟩
  rw [hV2] at hG;refine awp_cut (fun Z=>Z=⟨[(5,.box 2 0)],[.box 167 [.box 0 0,.acc 1,.d (num V2.inn),.d (.s (.bool V2.ok)),.d (num V2.n)],.acc 5 1 (bts V2.b),.box 157 [.d (str op),.d (num n),.d (str nm),.d (.sl 4 (exs l))]]⟩) ?_ ?_
  ·refine rgn fun E K J O=>?_
   refine onB_intro (fun h4=>?_) (fun h4=>?_)
   ·refine onB_intro (fun h5=>?_) (fun h5=>?_)
    ·refine onB_intro (fun h6=>?_) (fun h6=>?_)
     ·show aCall _ _ _ _ _ _ _
      refine aR [0,1] rfl rfl rfl (must_specE G (by simp only [h4,h5,h6,bz]) hV2) rfl rfl rfl rfl ?_;refine O _ ?_;clear O J K E;exact ⟨_,sub_norm (slots:=[5]) rfl rfl,rfl⟩
     show aCall _ _ _ _ _ _ _
     refine aR [0,1] rfl rfl rfl (must_specE G (by simp only [h4,h5,h6,bz]) hV2) rfl rfl rfl rfl ?_;refine O _ ?_;clear O J K E;exact ⟨_,sub_norm (slots:=[5]) rfl rfl,rfl⟩
    show aCall _ _ _ _ _ _ _
    refine aR [0,1] rfl rfl rfl (must_specE G (by simp only [h4,h5,bz]) hV2) rfl rfl rfl rfl ?_;refine O _ ?_;clear O J K E;exact ⟨_,sub_norm (slots:=[5]) rfl rfl,rfl⟩
   show aCall _ _ _ _ _ _ _
   refine aR [0,1] rfl rfl rfl (must_specE G (by simp only [h4,bz]) hV2) rfl rfl rfl rfl ?_;refine O _ ?_;clear O J K E;exact ⟨_,sub_norm (slots:=[5]) rfl rfl,rfl⟩
  rintro Z rfl;refine rgs fun E K J O=>?_;show aCall _ _ _ _ _ _ _
  cases hi:chkN n with
  |false=>
   simp only [h1,h2,h3,hi] at hG;exact absurd hG.symm hne
  |true=>
   refine aS [] (hI n hi) ?_;refine O _ (aN [8] rfl rfl ?_);clear O J K E;refine awp_ret ?_;simp only [h1,h2,h3,hi] at hG;obtain rfl:=fit_ok hG hne;exact ⟨_,[0,1],_,[encS _],rfl,rfl,rfl,rfl,rfl,PWs.refl _,rfl⟩
 refine rz [0,3,5,27,56] ?_;refine awp_cond2 rfl (onB_intro (fun h4=>?_) (fun h4=>?_))
 ·obtain ⟨V2,hV2⟩:∃V,mustW V1 ((n==0)&&(((exs l).length:Int)==0))=V:=⟨_,rfl⟩
  rw [hV2] at hG;refine awp_cut (fun Z=>Z=⟨[(0,.box 0 0),(5,.box 2 0)],[.box 167 [.box 0 0,.acc 1,.d (num V2.inn),.d (.s (.bool V2.ok)),.d (num V2.n)],.acc 5 1 (bts V2.b),.box 157 [.d (str op),.d (num n),.d (str nm),.d (.sl 4 (exs l))]]⟩) ?_ ?_
  ·refine rgn fun E K J O=>?_
   refine onB_intro (fun h5=>?_) (fun h5=>?_)
   ·show aCall _ _ _ _ _ _ _
    refine aR [0,1] rfl rfl rfl (must_specE G (by simp only [h5,bz]) hV2) rfl rfl rfl rfl ?_;refine O _ ?_;clear O J K E;exact ⟨_,sub_norm (slots:=[0,5]) rfl rfl,rfl⟩
   show aCall _ _ _ _ _ _ _
   refine aR [0,1] rfl rfl rfl (must_specE G (by simp only [h5,bz]) hV2) rfl rfl rfl rfl ?_;refine O _ ?_;clear O J K E;exact ⟨_,sub_norm (slots:=[0,5]) rfl rfl,rfl⟩
  rintro Z rfl;refine rgs fun E K J O=>?_;show aCall _ _ _ _ _ _ _
  cases hn:chkS nm with
  |false=>
   simp only [h1,h2,h3,h4,hn] at hG;exact absurd hG.symm hne
  |true=>
   obtain ⟨V3,hV3⟩:∃V,mustW V2 (isNameF nm)=V:=⟨_,rfl⟩;rw [hV3] at hG;have hz:=of_decide_eq_true hn;refine aS [0,1] (name_specE G hz hV3) ?_;refine O _ (aN [8] rfl rfl ?_);clear O J K E;refine awp_ret ?_;simp only [h1,h2,h3,h4,hn] at hG;obtain rfl:=fit_ok hG hne;exact ⟨_,[0,1],_,[encS _],rfl,rfl,rfl,rfl,rfl,PWs.refl _,rfl⟩
 refine rz [0,3,5,27,73] ?_;refine awp_cond2 rfl (onB_intro (fun h5=>?_) (fun h5=>?_))
 ·obtain ⟨V2,hV2⟩:∃V,mustW V1 ((n==0)&&(((exs l).length:Int)==1))=V:=⟨_,rfl⟩
  rw [hV2] at hG;refine awp_cut (fun Z=>Z=⟨[(0,.box 0 0),(3,.d (num d)),(5,.box 2 0)],[.box 167 [.box 0 0,.acc 1,.d (num V2.inn),.d (.s (.bool V2.ok)),.d (num V2.n)],.acc 5 1 (bts V2.b),.box 157 [.d (str op),.d (num n),.d (str nm),.d (.sl 4 (exs l))]]⟩) ?_ ?_
  ·refine rgn fun E K J O=>?_
   refine onB_intro (fun h6=>?_) (fun h6=>?_)
   ·show aCall _ _ _ _ _ _ _
    refine aR [0,1] rfl rfl rfl (must_specE G (by simp only [h6,bz]) hV2) rfl rfl rfl rfl ?_;refine O _ ?_;clear O J K E;exact ⟨_,sub_norm (slots:=[0,3,5]) rfl rfl,rfl⟩
   show aCall _ _ _ _ _ _ _
   refine aR [0,1] rfl rfl rfl (must_specE G (by simp only [h6,bz]) hV2) rfl rfl rfl rfl ?_;refine O _ ?_;clear O J K E;exact ⟨_,sub_norm (slots:=[0,3,5]) rfl rfl,rfl⟩
  rintro Z rfl;refine rz [0,3,5,89] ?_;refine awp_cond2 rfl (onB_intro (fun h6=>?_) (fun h6=>?_))
  ·obtain ⟨x,rfl⟩:=ex_one (must_true hV2 h6)
   obtain ⟨o1,n1,m1,l1⟩:=x;refine awp_seq ?_;refine (awp_draw TT_ok mixed p80_16 [12] (fun i=>Nat.beq i 2) (by kernel_rfl) fun E K J O=>?_);refine And.intro ((by first|omega|(simp only [exs,List.length_cons,List.length_nil];omega))) (Exists.intro _ (And.intro (rfl) ?_))
   show aCall _ _ _ _ _ _ _
   cases hn:chkS nm with
   |false=>
    simp only [h1,h2,h3,h4,h5,h6,hn] at hG;exact absurd hG.symm hne
   |true=>
    obtain ⟨V3,hV3⟩:∃V,mustW V2 (isNameF nm)=V:=⟨_,rfl⟩;rw [hV3] at hG;have hz:=of_decide_eq_true hn;refine aS [0,1] (name_specE G hz hV3) ?_;refine And.intro (szlim (by repeat' (first|assumption|apply sz_append|exact Nat.le_refl _)) (by repeat' (first|assumption|apply sz_append|exact Nat.le_refl _)) (by decide)) ?_
    show aCall _ _ _ _ _ _ _
    have sp1:=ih (.mk o1 n1 m1 l1) 1 (IntKind.i64.wrap (d+1)) V3
    cases hr1:termW f (.mk o1 n1 m1 l1) 1 (IntKind.i64.wrap (d+1)) V3 with
    |out=>
     simp only [Q.bind,h1,h2,h3,h4,h5,h6,hn,hr1] at hG;exact absurd hG.symm hne
    |ok a1 U1=>
     rw [hr1] at sp1;have sz1:=termW_size hr1;refine aS [0,1] (sp1 nofun) ?_;refine And.intro (szlim (by repeat' (first|assumption|apply sz_append|exact Nat.le_refl _)) (by repeat' (first|assumption|apply sz_append|exact Nat.le_refl _)) (by decide)) ?_;refine And.intro (szlim (by repeat' (first|assumption|apply sz_append|exact Nat.le_refl _)) (by repeat' (first|assumption|apply sz_append|exact Nat.le_refl _)) (by decide)) ?_;refine O _ (aN [8] rfl rfl ?_);clear O J K E;refine awp_ret ?_;simp only [Q.bind,h1,h2,h3,h4,h5,h6,hn,hr1] at hG;obtain rfl:=fit_ok hG hne;exact ⟨_,[0,1],_,[encS _],rfl,rfl,rfl,rfl,rfl,PWs.refl _,rfl⟩
  refine awp_skip ?_;refine rz [8] ?_;refine awp_ret ?_;simp only [h1,h2,h3,h4,h5,h6] at hG;obtain rfl:=fit_ok hG hne;exact ⟨_,[0,1],_,[encS _],rfl,rfl,rfl,rfl,rfl,PWs.refl _,rfl⟩
 refine rz [0,3,5,27,105] ?_;refine awp_cond2 rfl (onB_intro (fun h6=>?_) (fun h6=>?_))
 ·obtain ⟨V2,hV2⟩:∃V,mustW V1 (((n==0)&&(nm.toList==(⟨#[]⟩:ByteArray).toList))&&(((exs l).length:Int)==1))=V:=⟨_,rfl⟩
  rw [hV2] at hG;refine awp_cut (fun Z=>Z=⟨[(0,.box 0 0),(3,.d (num d)),(5,.box 2 0)],[.box 167 [.box 0 0,.acc 1,.d (num V2.inn),.d (.s (.bool V2.ok)),.d (num V2.n)],.acc 5 1 (bts V2.b),.box 157 [.d (str op),.d (num n),.d (str nm),.d (.sl 4 (exs l))]]⟩) ?_ ?_
  ·refine rgn fun E K J O=>?_
   refine onB_intro (fun h7=>?_) (fun h7=>?_)
   ·refine onB_intro (fun h8=>?_) (fun h8=>?_)
    ·show aCall _ _ _ _ _ _ _
     refine aR [0,1] rfl rfl rfl (must_specE G (by simp only [h7,h8,bz]) hV2) rfl rfl rfl rfl ?_;refine O _ ?_;clear O J K E;exact ⟨_,sub_norm (slots:=[0,3,5]) rfl rfl,rfl⟩
    show aCall _ _ _ _ _ _ _
    refine aR [0,1] rfl rfl rfl (must_specE G (by simp only [h7,h8,bz]) hV2) rfl rfl rfl rfl ?_;refine O _ ?_;clear O J K E;exact ⟨_,sub_norm (slots:=[0,3,5]) rfl rfl,rfl⟩
   show aCall _ _ _ _ _ _ _
   refine aR [0,1] rfl rfl rfl (must_specE G (by simp only [h7,bz]) hV2) rfl rfl rfl rfl ?_;refine O _ ?_;clear O J K E;exact ⟨_,sub_norm (slots:=[0,3,5]) rfl rfl,rfl⟩
  rintro Z rfl;refine rz [0,3,5,126] ?_;refine awp_cond2 rfl (onB_intro (fun h7=>?_) (fun h7=>?_))
  ·obtain ⟨x,rfl⟩:=ex_one (must_true hV2 h7)
   obtain ⟨o1,n1,m1,l1⟩:=x;refine rgs fun E K J O=>?_;refine And.intro ((by first|omega|(simp only [exs,List.length_cons,List.length_nil];omega))) (Exists.intro _ (And.intro (rfl) ?_))
   show aCall _ _ _ _ _ _ _
   have sp1:=ih (.mk o1 n1 m1 l1) 3 (IntKind.i64.wrap (d+1)) V2
   cases hr1:termW f (.mk o1 n1 m1 l1) 3 (IntKind.i64.wrap (d+1)) V2 with
   |out=>
    simp only [Q.bind,h1,h2,h3,h4,h5,h6,h7,hr1] at hG;exact absurd hG.symm hne
   |ok a1 U1=>
    rw [hr1] at sp1;have sz1:=termW_size hr1;refine aS [0,1] (sp1 nofun) ?_;refine And.intro (szlim (by repeat' (first|assumption|apply sz_append|exact Nat.le_refl _)) (by repeat' (first|assumption|apply sz_append|exact Nat.le_refl _)) (by decide)) ?_;refine O _ (aN [8] rfl rfl ?_);clear O J K E;refine awp_ret ?_;simp only [Q.bind,h1,h2,h3,h4,h5,h6,h7,hr1] at hG;obtain rfl:=fit_ok hG hne;exact ⟨_,[0,1],_,[encS _],rfl,rfl,rfl,rfl,rfl,PWs.refl _,rfl⟩
  refine awp_skip ?_;refine rz [8] ?_;refine awp_ret ?_;simp only [h1,h2,h3,h4,h5,h6,h7] at hG;obtain rfl:=fit_ok hG hne;exact ⟨_,[0,1],_,[encS _],rfl,rfl,rfl,rfl,rfl,PWs.refl _,rfl⟩
 refine awp_cut (fun Z=>Z=⟨[(0,.box 0 0),(3,.d (num d)),(5,.box 2 0),(136,.d (.s (.bool (binF op))))],[.box 167 [.box 0 0,.acc 1,.d (num V1.inn),.d (.s (.bool V1.ok)),.d (num V1.n)],.acc 5 1 (bts V1.b),.box 157 [.d (str op),.d (num n),.d (str nm),.d (.sl 4 (exs l))]]⟩) ?_ ?_
 ·refine rz [0,3,5,27,136] ?_
  refine awp_cond2 rfl (onB_intro (fun h7=>?_) (fun h7=>?_))
  ·refine awp_skip ?_
   refine ⟨_,sub_norm (slots:=[0,3,5,136]) rfl rfl,?_⟩
   first
    | (simp only [binF,h1,h7,bz];done)
    | (simp only [binF,h1,h7,bz];rfl)
  refine rz [0,3,5,27,136] ?_;refine awp_cond2 rfl (onB_intro (fun h8=>?_) (fun h8=>?_))
  ·refine awp_skip ?_
   refine ⟨_,sub_norm (slots:=[0,3,5,136]) rfl rfl,?_⟩
   first
    | (simp only [binF,h1,h7,h8,bz];done)
    | (simp only [binF,h1,h7,h8,bz];rfl)
  refine rz [0,3,5,27,136] ?_;refine awp_cond2 rfl (onB_intro (fun h9=>?_) (fun h9=>?_))
  ·refine awp_skip ?_
   refine ⟨_,sub_norm (slots:=[0,3,5,136]) rfl rfl,?_⟩
   first
    | (simp only [binF,h1,h7,h8,h9,bz];done)
    | (simp only [binF,h1,h7,h8,h9,bz];rfl)
  refine rz [0,3,5,27,136] ?_;refine awp_cond2 rfl (onB_intro (fun h10=>?_) (fun h10=>?_))
  ·refine awp_skip ?_
   refine ⟨_,sub_norm (slots:=[0,3,5,136]) rfl rfl,?_⟩
   first
    | (simp only [binF,h1,h7,h8,h9,h10,bz];done)
    | (simp only [binF,h1,h7,h8,h9,h10,bz];rfl)
  refine rgn fun E K J O=>?_;refine O _ ?_;clear O J K E;refine ⟨_,sub_norm (slots:=[0,3,5,136]) rfl rfl,?_⟩
  first
   | (simp only [binF,h1,h7,h8,h9,h10,bz];done)
   | (simp only [binF,h1,h7,h8,h9,h10,bz];rfl)
 rintro Z rfl;refine awp_cond2 rfl (onB_intro (fun h7=>?_) (fun h7=>?_))
 ·obtain ⟨V2,hV2⟩:∃V,mustW V1 (((n==0)&&(nm.toList==(⟨#[]⟩:ByteArray).toList))&&(((exs l).length:Int)==2))=V:=⟨_,rfl⟩
  rw [hV2] at hG;refine awp_cut (fun Z=>Z=⟨[(0,.box 0 0),(3,.d (num d)),(5,.box 2 0)],[.box 167 [.box 0 0,.acc 1,.d (num V2.inn),.d (.s (.bool V2.ok)),.d (num V2.n)],.acc 5 1 (bts V2.b),.box 157 [.d (str op),.d (num n),.d (str nm),.d (.sl 4 (exs l))]]⟩) ?_ ?_
  ·refine rgn fun E K J O=>?_
   refine onB_intro (fun h8=>?_) (fun h8=>?_)
   ·refine onB_intro (fun h9=>?_) (fun h9=>?_)
    ·show aCall _ _ _ _ _ _ _
     refine aR [0,1] rfl rfl rfl (must_specE G (by simp only [h8,h9,bz]) hV2) rfl rfl rfl rfl ?_;refine O _ ?_;clear O J K E;exact ⟨_,sub_norm (slots:=[0,3,5]) rfl rfl,rfl⟩
    show aCall _ _ _ _ _ _ _
    refine aR [0,1] rfl rfl rfl (must_specE G (by simp only [h8,h9,bz]) hV2) rfl rfl rfl rfl ?_;refine O _ ?_;clear O J K E;exact ⟨_,sub_norm (slots:=[0,3,5]) rfl rfl,rfl⟩
   show aCall _ _ _ _ _ _ _
   refine aR [0,1] rfl rfl rfl (must_specE G (by simp only [h8,bz]) hV2) rfl rfl rfl rfl ?_;refine O _ ?_;clear O J K E;exact ⟨_,sub_norm (slots:=[0,3,5]) rfl rfl,rfl⟩
  rintro Z rfl;refine rz [0,3,5,161] ?_;refine awp_cond2 rfl (onB_intro (fun h8=>?_) (fun h8=>?_))
  ·obtain ⟨x,y,rfl⟩:=ex_two (must_true hV2 h8)
   obtain ⟨o1,n1,m1,l1⟩:=x;obtain ⟨o2,n2,m2,l2⟩:=y;refine rgs fun E K J O=>?_;refine aS [] (rank_spec G op) ?_
   cases hn:chkS op with
   |false=>
    simp only [h1,h2,h3,h4,h5,h6,h7,h8,hn] at hG;exact absurd hG.symm hne
   |true=>
    have hz:=of_decide_eq_true hn;refine O _ (aN [0,3,5,9] rfl rfl ?_);clear O J K E;refine awp_seq ?_;refine (awp_draw TT_ok mixed p80_29 [] (fun i=>Nat.beq i 2) (by kernel_rfl) fun E K J O=>?_);refine And.intro ((by first|omega|(simp only [exs,List.length_cons,List.length_nil];omega))) (Exists.intro _ (And.intro (rfl) ?_));refine And.intro ((by first|omega|(simp only [exs,List.length_cons,List.length_nil];omega))) (Exists.intro _ (And.intro (rfl) ?_))
    show aCall _ _ _ _ _ _ _
    have sp1:=ih (.mk o1 n1 m1 l1) (rankF op) d V2
    cases hr1:termW f (.mk o1 n1 m1 l1) (rankF op) d V2 with
    |out=>
     simp only [Q.bind,h1,h2,h3,h4,h5,h6,h7,h8,hn,hr1] at hG;exact absurd hG.symm hne
    |ok a1 U1=>
     rw [hr1] at sp1;have sz1:=termW_size hr1;refine aS [0,1] (sp1 nofun) ?_;refine And.intro (szlim (by repeat' (first|assumption|apply sz_append|exact Nat.le_refl _)) (by repeat' (first|assumption|apply sz_append|exact Nat.le_refl _)) (by decide)) ?_;refine And.intro (szlim (by repeat' (first|assumption|apply sz_append|exact Nat.le_refl _)) (by repeat' (first|assumption|apply sz_append|exact Nat.le_refl _)) (by decide)) ?_;refine And.intro (szlim (by repeat' (first|assumption|apply sz_append|exact Nat.le_refl _)) (by repeat' (first|assumption|apply sz_append|exact Nat.le_refl _)) (by decide)) ?_
     show aCall _ _ _ _ _ _ _
     have sp2:=ih (.mk o2 n2 m2 l2) (IntKind.i64.wrap (rankF op+1)) d U1
     cases hr2:termW f (.mk o2 n2 m2 l2) (IntKind.i64.wrap (rankF op+1)) d U1 with
     |out=>
      simp only [Q.bind,h1,h2,h3,h4,h5,h6,h7,h8,hn,hr1,hr2] at hG;exact absurd hG.symm hne
     |ok a2 U2=>
      rw [hr2] at sp2;have sz2:=termW_size hr2;refine aS [0,1] (sp2 nofun) ?_;refine And.intro (szlim (by repeat' (first|assumption|apply sz_append|exact Nat.le_refl _)) (by repeat' (first|assumption|apply sz_append|exact Nat.le_refl _)) (by decide)) ?_;refine O _ (aN [8] rfl rfl ?_);clear O J K E;refine awp_ret ?_;simp only [Q.bind,h1,h2,h3,h4,h5,h6,h7,h8,hn,hr1,hr2] at hG;obtain rfl:=fit_ok hG hne;exact ⟨_,[0,1],_,[encS _],rfl,rfl,rfl,rfl,rfl,PWs.refl _,rfl⟩
  refine awp_skip ?_;refine rz [8] ?_;refine awp_ret ?_;simp only [h1,h2,h3,h4,h5,h6,h7,h8] at hG;obtain rfl:=fit_ok hG hne;exact ⟨_,[0,1],_,[encS _],rfl,rfl,rfl,rfl,rfl,PWs.refl _,rfl⟩
 refine rgn fun E K J O=>?_;show aCall _ _ _ _ _ _ _;obtain ⟨V2,hV2⟩:∃V,mustW V1 false=V:=⟨_,rfl⟩;rw [hV2] at hG;refine aS [0,1] (must_specE G rfl hV2) ?_;refine O _ (aN [] rfl rfl ?_);clear O J K E;refine rz [8] ?_;refine awp_ret ?_;simp only [h1,h2,h3,h4,h5,h6,h7] at hG;obtain rfl:=fit_ok hG hne;exact ⟨_,[0,1],_,[encS _],rfl,rfl,rfl,rfl,rfl,PWs.refl _,rfl⟩
theorem termW_spec(G:Glob)(hI:ItoaOk G):∀f,TermWOk G f
 |0=>fun e least d W h=>absurd (by simp only [termW]) h
 |f+1=>term_stepW G hI f (termW_spec G hI f)
end Go.Abs
end
section
namespace Go.Abs
open Go Go.Proofs
attribute [local irreducible] aCall AWp Sub Spec
def joinB(l:List ByteArray)(sep:ByteArray):ByteArray:=⟨(Lib.join (l.map (·.data.toList)) sep.data.toList).toArray⟩
theorem joinE_spec(G:Glob)(xs:List ByteArray)(sep:ByteArray)(hl:(joinB xs sep).size≤1073741824)(hn:xs.length≤1073741824):Spec Tryz.prog G 78 [.d (.sl 1 (strs xs)),.d (str sep)] [] (.ret (.d (str (joinB xs sep)))) []:=by
 refine join_spec G xs sep ?_ (by omega)
 have:(joinB xs sep).size=(Lib.join (xs.map (·.data.toList)) sep.data.toList).length:=by show (List.toArray _).size=_;simp
 omega
theorem fit_chk{a:ByteArray}{W:WS}{r:Q ByteArray}(h:fit a W=r)(hne:r≠.out):a.size≤1073741824:=by
 unfold fit at h
 split at h
 ·rename_i hc;exact of_decide_eq_true hc
 exact absurd h.symm hne
theorem exs_at{l d e:List Ex}{x:Ex}(h:l=d++x::e):(exs l)[((d.length:Nat):Int).toNat]? = some x.cs:=by
 subst h;rw [Int.toNat_natCast]
 induction d with
 |nil=>rfl
 |cons y d ih=>simpa only [List.cons_append,exs,List.length_cons,List.getElem?_cons_succ] using ih
theorem strs_snoc1(l:List ByteArray)(s:ByteArray):strs l++[[str s]]=strs (l++[s]):=by simp [strs]
def chkL(n:Nat):Bool:=decide (n≤1073741824)
/-- The texts of terms, one behind the other. -/
def listW(f:Nat):List Ex→WS→List ByteArray→Q (List ByteArray)
 |[],W,acc=>.ok acc W
 |e::r,W,acc=>(termW f e 1 1 W).bind fun s V=>listW f r V (acc++[s])
def listT(f:Nat)(l:List Ex)(W:WS):Q ByteArray:=match chkL l.length with
 |true=>(listW f l W []).bind fun ss V=>fit (joinB ss ⟨#[44,32]⟩) V
 |false=>.out
theorem listT_spec(G:Glob)(hI:ItoaOk G)(f:Nat):∀(l:List Ex) (W:WS),QSpec G 214 [.box 0 0,.d (.sl 4 (exs l))] W encS (listT f l W):=by
 intro l W hne;obtain ⟨r,hG⟩:∃r,listT f l W=r:=⟨_,rfl⟩;rw [hG] at hne ⊢
 unfold listT at hG
 cases hcl:chkL l.length with
 |false=>rw [hcl] at hG;exact absurd hG.symm hne
 |true=>
 rw [hcl] at hG;have hcl:=of_decide_eq_true hcl;simp only at hG
 refine spec_of_awp2 TT_ok (N:=23) Tryz.func214 rfl (by rfl) ((by cases r <;> simp [rowsQ,wr] at hne ⊢)) rfl ?_
 refine rz [0,1] ?_;refine rz [0,1,5] ?_;refine awp_seq ?_;refine rz [0,5,8,9,10] ?_;refine awp_acc 5 9 1 rfl rfl rfl ?_;refine awp_norm [0,5,8,9,10] rfl rfl ?_;refine awp_block ?_;refine awp_loop (fun k Y=>∃(d e:List Ex) (V:WS) (acc:List ByteArray),k=e.length∧l=d++e∧((listW f e V acc).bind fun ss V=>fit (joinB ss ⟨#[44,32]⟩) V)=r∧acc.length=d.length∧Y=⟨[(0,.box 0 0),(5,.acc 2),(8,.d (.sl 4 (exs l))),(9,.d (num (exs l).length)),(10,.d (num d.length))],[.box 167 [.box 0 0,.acc 1,.d (num V.inn),.d (.s (.bool V.ok)),.d (num V.n)],.acc 5 1 (bts V.b),.acc 9 1 (strs acc)]⟩) (l.length) (⟨[],l,W,[],rfl,rfl,hG,rfl,rfl⟩) ?_;clear hG;rintro k Y ⟨d,e,V,acc,rfl,hl,hG,hacc,rfl⟩
 have hll:(exs l).length=d.length+e.length:=by rw [ex_len,hl,List.length_append]
 have hdl:d.length+e.length≤1073741824:=by rw [hl,List.length_append] at hcl;exact hcl
 refine rz [0,5,8,9,10,11] ?_;refine awp_seq ?_;refine awp_cond2 rfl (onB_intro (fun h1=>?_) (fun h1=>?_))
 ·have h1':=of_decide_eq_true h1
  rw [hll] at h1'
  cases e with
  |nil=>simp only [List.length_nil] at h1';omega
  |cons x e2=>
  obtain ⟨o,n,m,l2⟩:=x;subst hl;simp only [List.length_cons] at hdl;simp only [listW] at hG;refine awp_skip ?_;refine awp_seq ?_;refine awp_block ?_;refine rgs fun E K J O=>?_;refine And.intro ((by omega)) (Exists.intro _ (And.intro (exs_at rfl) ?_));refine O _ (aN [0,5,7,8,9,10] rfl rfl ?_);clear O J K E;refine rgn fun E K J O=>?_;show aCall _ _ _ _ _ _ _;have sp1:=termW_spec G hI f (.mk o n m l2) 1 1 V
  cases hr1:termW f (.mk o n m l2) 1 1 V with
  |out=>
   simp only [Q.bind,hr1] at hG;exact absurd hG.symm hne
  |ok a1 U1=>
   rw [hr1] at sp1;have sz1:=termW_size hr1;refine aS [0,1] (sp1 nofun) ?_;refine And.intro (And.intro ((by simp only [strs_length,chunk_length];omega)) ((by simp only [strs_length,chunk_length,maxLen];omega))) ?_;refine O _ (aN [0,5,8,9,10] rfl rfl ?_);clear O J K E;refine rgn fun E K J O=>?_;refine O _ ?_;clear O J K E;simp only [Q.bind,hr1] at hG;exact ⟨_,Nat.lt_succ_self _,_,sub_pick (L:=[0,1,2]) (slots:=[0,5,8,9,10]) rfl rfl rfl rfl rfl,d++[.mk o n m l2],e2,_,_,rfl,by simp,hG,by simp only [List.length_append,List.length_cons,List.length_nil];omega,by rw [← strs_snoc1,List.length_append,wrapId (by omega) (by omega)];rfl⟩
 have h1':=of_decide_eq_false h1;rw [hll] at h1';obtain rfl:e=[]:=List.eq_nil_of_length_eq_zero (by omega);simp only [listW,Q.bind] at hG;refine awp_exit ?_;refine awp_norm [5] rfl rfl ?_;refine rgs fun E K J O=>?_;show aCall _ _ _ _ _ _ _;have hj:=fit_chk hG hne;refine aR [] rfl rfl rfl (joinE_spec G acc _ hj (by omega)) rfl rfl rfl rfl ?_;refine O _ (aN [4] rfl rfl ?_);clear O J K E;refine awp_ret ?_;obtain rfl:=fit_ok hG hne;exact ⟨_,[0,1],_,[encS _],rfl,rfl,rfl,rfl,rfl,PWs.refl _,rfl⟩
def nz(l:List ByteArray):List ByteArray:=match l with
 |[]=>[⟨#[116,114,117,101]⟩]
 |x::r=>x::r
def testT(f:Nat)(t:Ts)(W:WS):Q ByteArray:=match chkS t.rel with
 |true=>(termW f t.a 1 1 (mustW W (isRelF t.rel))).bind fun s V=>(termW f t.b 1 1 V).bind fun u V=>fit ((((s++⟨#[32]⟩)++t.rel)++⟨#[32]⟩)++u) V
 |false=>.out
def andW(f:Nat):List Ts→WS→List ByteArray→Q (List ByteArray)
 |[],W,acc=>.ok acc W
 |t::r,W,acc=>(testT f t W).bind fun s V=>andW f r V (acc++[s])
def rowT(f:Nat)(row:List Ts)(W:WS):Q ByteArray:=match chkL row.length with
 |true=>(andW f row W []).bind fun ss V=>fit (joinB (nz ss) ⟨#[32,97,110,100,32]⟩) V
 |false=>.out
def orW(f:Nat):List (List Ts)→WS→List ByteArray→Q (List ByteArray)
 |[],W,acc=>.ok acc W
 |c::r,W,acc=>(rowT f c W).bind fun s V=>orW f r V (acc++[s])
def condT(f:Nat)(c:List (List Ts))(W:WS):Q ByteArray:=match chkL c.length with
 |true=>match (((cnd c).length:Int)==0) with
  |true=>fit ⟨#[102,97,108,115,101]⟩ W
  |false=>(orW f c W []).bind fun ss V=>fit (joinB ss ⟨#[32,111,114,32]⟩) V
 |false=>.out
theorem fit_inj{a b:ByteArray}{W V:WS}(h:fit a W=.ok b V):b=a∧V=W:=by
 have:=fit_ok h (by simp);simp only [Q.ok.injEq] at this;exact this
theorem cnd_at{l d e:List (List Ts)}{x:List Ts}(h:l=d++x::e):(cnd l)[((d.length:Nat):Int).toNat]? = some [.sl 9 (tss x)]:=by
 subst h;rw [Int.toNat_natCast]
 simp [cnd]
theorem tss_at{l d e:List Ts}{x:Ts}(h:l=d++x::e):(tss l)[((d.length:Nat):Int).toNat]? = some x.cs:=by
 subst h;rw [Int.toNat_natCast]
 simp [tss]
def p215_12:Plan:=(.take 0 (.take 1 (.take 2 (.load 3 (.take 6 (.load 7 (.take 10 (.take 11 (.load 12 (.one 4 (.take 5 (.take 8 (.take 9 (.one 13 (.take 14 (.one 15 (.one 16 (.take 17 .done))))))))))))))))))
theorem condT_spec(G:Glob)(hI:ItoaOk G)(f:Nat):∀(c:List (List Ts)) (W:WS),QSpec G 215 [.box 0 0,.d (.sl 1 (cnd c))] W encS (condT f c W):=by
 intro c W hne;obtain ⟨r,hG⟩:∃r,condT f c W=r:=⟨_,rfl⟩;rw [hG] at hne ⊢
 unfold condT at hG
 cases hcl:chkL c.length with
 |false=>rw [hcl] at hG;exact absurd hG.symm hne
 |true=>
 rw [hcl] at hG;have hcl:=of_decide_eq_true hcl;simp only at hG
 refine spec_of_awp2 TT_ok (N:=64) Tryz.func215 rfl (by rfl) ((by cases r <;> simp [rowsQ,wr] at hne ⊢)) rfl ?_
 refine rz [0,1] ?_;refine awp_seq ?_;refine rz [0,1,13] ?_;refine awp_cond2 rfl (onB_intro (fun h1=>?_) (fun h1=>?_))
 ·refine rz [4] ?_;refine awp_ret ?_
  simp only [h1] at hG;obtain rfl:=fit_ok hG hne;exact ⟨_,[0,1],_,[encS _],rfl,rfl,rfl,rfl,rfl,PWs.refl _,rfl⟩
 refine awp_skip ?_;refine rz [0,1,5] ?_;refine awp_seq ?_;refine rz [0,5,14,15,16] ?_;refine awp_acc 5 9 1 rfl rfl rfl ?_;refine awp_norm [0,5,14,15,16] rfl rfl ?_;refine awp_block ?_;simp only [h1] at hG;refine awp_loop (fun k Y=>∃(d e':List (List Ts)) (V:WS) (acc:List ByteArray),k=e'.length∧c=d++e'∧((orW f e' V acc).bind fun ss V=>fit (joinB ss ⟨#[32,111,114,32]⟩) V)=r∧acc.length=d.length∧Y=⟨[(0,.box 0 0),(5,.acc 2),(14,.d (.sl 1 (cnd c))),(15,.d (num (cnd c).length)),(16,.d (num d.length))],[.box 167 [.box 0 0,.acc 1,.d (num V.inn),.d (.s (.bool V.ok)),.d (num V.n)],.acc 5 1 (bts V.b),.acc 9 1 (strs acc)]⟩) (c.length) (⟨[],c,W,[],rfl,rfl,hG,rfl,rfl⟩) ?_;clear hG;rintro k Y ⟨d,e',V,acc,rfl,hl,hG,hacc,rfl⟩
 have hll:(cnd c).length=d.length+e'.length:=by rw [cnd,List.length_map,hl,List.length_append]
 have hdl:d.length+e'.length≤1073741824:=by rw [hl,List.length_append] at hcl;exact hcl
 refine rz [0,5,14,15,16,17] ?_;refine awp_seq ?_;refine awp_cond2 rfl (onB_intro (fun h2=>?_) (fun h2=>?_))
 ·have h':=of_decide_eq_true h2
  rw [hll] at h'
  cases e' with
  |nil=>simp only [List.length_nil] at h';omega
  |cons row e=>
  subst hl;simp only [List.length_cons] at hdl;simp only [orW,rowT] at hG
  cases hcr:chkL row.length with
  |false=>simp only [hcr,Q.bind] at hG;exact absurd hG.symm hne
  |true=>
  have hcr':=of_decide_eq_true hcr;simp only [hcr] at hG;refine awp_skip ?_;refine awp_seq ?_;refine awp_block ?_;refine rgs fun E K J O=>?_;refine And.intro (by omega) (Exists.intro _ (And.intro (cnd_at rfl) ?_));refine O _ (aN [0,5,7,14,15,16] rfl rfl ?_);clear O J K E;refine rgs fun E K J O=>?_;refine Or.inr (Or.inr ?_);refine O _ (aN [0,5,7,8,14,15,16] rfl rfl ?_);clear O J K E;refine awp_seq ?_;refine rz [0,5,8,14,15,16,21,22,23] ?_;refine awp_block ?_;refine awp_loop (fun k Y=>∃(d2 e2:List Ts) (V2:WS) (acc2:List ByteArray),k=e2.length∧row=d2++e2∧((((andW f e2 V2 acc2).bind fun ss V=>fit (joinB (nz ss) ⟨#[32,97,110,100,32]⟩) V).bind fun s V=>orW f e V (acc++[s])).bind fun ss V=>fit (joinB ss ⟨#[32,111,114,32]⟩) V)=r∧acc2.length=d2.length∧Y=⟨[(0,.box 0 0),(5,.acc 2),(8,.acc 3),(14,.d (.sl 1 (cnd (d++row::e)))),(15,.d (num (cnd (d++row::e)).length)),(16,.d (num d.length)),(21,.d (.sl 9 (tss row))),(22,.d (num (tss row).length)),(23,.d (num d2.length))],[.box 167 [.box 0 0,.acc 1,.d (num V2.inn),.d (.s (.bool V2.ok)),.d (num V2.n)],.acc 5 1 (bts V2.b),.acc 9 1 (strs acc),.acc 9 1 (strs acc2)]⟩) (row.length) (⟨[],row,V,[],rfl,rfl,hG,rfl,rfl⟩) ?_;clear hG;rintro k Y ⟨d2,e2,V2,acc2,rfl,hr,hG,hacc2,rfl⟩
  have hlr:(tss row).length=d2.length+e2.length:=by rw [tss,List.length_map,hr,List.length_append]
  have hdr:d2.length+e2.length≤1073741824:=by rw [hr,List.length_append] at hcr';exact hcr'
  refine rz [0,5,8,14,15,16,21,22,23,24] ?_;refine awp_seq ?_;refine awp_cond2 rfl (onB_intro (fun h3=>?_) (fun h3=>?_))
  ·have h':=of_decide_eq_true h3
   rw [hlr] at h'
   cases e2 with
   |nil=>simp only [List.length_nil] at h';omega
   |cons x e3=>
   obtain ⟨⟨o1,n1,m1,l1⟩,rel,⟨o2,n2,m2,l2⟩⟩:=x;subst hr;simp only [List.length_cons] at hdr;simp only [andW,testT] at hG
   cases hcs:chkS rel with
   |false=>simp only [hcs,Q.bind] at hG;exact absurd hG.symm hne
   |true=>
   have hcs':=of_decide_eq_true hcs;simp only [hcs] at hG;refine awp_skip ?_;refine awp_seq ?_;refine awp_block ?_;refine rgs fun E K J O=>?_;refine And.intro (by omega) (Exists.intro _ (And.intro (tss_at rfl) ?_));refine O _ (aN [0,5,8,10,14,15,16,21,22,23] rfl rfl ?_);clear O J K E;refine rgs fun E K J O=>?_;refine aS [] (isRel_spec G rel) ?_
   show aCall _ _ _ _ _ _ _
   obtain ⟨X1,hX1⟩:∃V,mustW V2 (isRelF rel)=V:=⟨_,rfl⟩;rw [hX1] at hG;refine aS [0,1] (must_specE G rfl hX1) ?_;refine O _ (aN [0,5,8,10,14,15,16,21,22,23] rfl rfl ?_);clear O J K E;refine (awp_draw TT_ok mixed p215_12 [16] (fun i=>Nat.beq i 4) (by kernel_rfl) fun E K J O=>?_)
   show aCall _ _ _ _ _ _ _
   have sp1:=termW_spec G hI f (.mk o1 n1 m1 l1) 1 1 X1
   cases hr1:termW f (.mk o1 n1 m1 l1) 1 1 X1 with
   |out=>
    simp only [Q.bind,hr1] at hG;exact absurd hG.symm hne
   |ok a1 U1=>
    rw [hr1] at sp1;have sz1:=termW_size hr1;refine aS [0,1] (sp1 nofun) ?_;refine And.intro (szlim (by repeat' (first|assumption|apply sz_append|exact Nat.le_refl _)) (by repeat' (first|assumption|apply sz_append|exact Nat.le_refl _)) (by decide)) ?_;refine And.intro (szlim (by repeat' (first|assumption|apply sz_append|exact Nat.le_refl _)) (by repeat' (first|assumption|apply sz_append|exact Nat.le_refl _)) (by decide)) ?_;refine And.intro (szlim (by repeat' (first|assumption|apply sz_append|exact Nat.le_refl _)) (by repeat' (first|assumption|apply sz_append|exact Nat.le_refl _)) (by decide)) ?_
    show aCall _ _ _ _ _ _ _
    have sp2:=termW_spec G hI f (.mk o2 n2 m2 l2) 1 1 U1
    cases hr2:termW f (.mk o2 n2 m2 l2) 1 1 U1 with
    |out=>
     simp only [Q.bind,hr1,hr2] at hG;exact absurd hG.symm hne
    |ok a2 U2=>
     rw [hr2] at sp2;have sz2:=termW_size hr2;refine aS [0,1] (sp2 nofun) ?_;refine And.intro (szlim (by repeat' (first|assumption|apply sz_append|exact Nat.le_refl _)) (by repeat' (first|assumption|apply sz_append|exact Nat.le_refl _)) (by decide)) ?_;refine And.intro (And.intro ((by simp only [strs_length,chunk_length];omega)) ((by simp only [strs_length,chunk_length,maxLen];omega))) ?_;refine O _ (aN [0,5,8,14,15,16,21,22,23] rfl rfl ?_);clear O J K E;refine rgn fun E K J O=>?_;refine O _ ?_;clear O J K E;simp only [Q.bind,hr1,hr2] at hG
     cases hft:fit ((((a1++⟨#[32]⟩)++rel)++⟨#[32]⟩)++a2) U2 with
     |out=>simp only [hft] at hG;exact absurd hG.symm hne
     |ok s0 V0=>
      obtain ⟨rfl,rfl⟩:=fit_inj hft;simp only [hft] at hG;exact ⟨_,Nat.lt_succ_self _,_,sub_pick (L:=[0,1,2,3]) (slots:=[0,5,8,14,15,16,21,22,23]) rfl rfl rfl rfl rfl,d2++[⟨.mk o1 n1 m1 l1,rel,.mk o2 n2 m2 l2⟩],e3,_,_,rfl,by simp,hG,by simp only [List.length_append,List.length_cons,List.length_nil];omega,by rw [← strs_snoc1,List.length_append,wrapId (by omega) (by omega)];rfl⟩
  have h':=of_decide_eq_false h3;rw [hlr] at h';obtain rfl:e2=[]:=List.eq_nil_of_length_eq_zero (by omega);simp only [andW,Q.bind] at hG;refine awp_exit ?_;refine awp_norm [0,5,8,14,15,16] rfl rfl ?_;refine awp_seq ?_;refine rz [0,5,8,14,15,16,52] ?_;refine awp_cond2 rfl (onB_intro (fun h4=>?_) (fun h4=>?_))
  ·have h':=h4
   rw [strs_length,beq_iff_eq] at h';obtain rfl:acc2=[]:=List.eq_nil_of_length_eq_zero (by omega);simp only [nz] at hG;refine rgn fun E K J O=>?_;refine And.intro (And.intro ((by simp only [strs_length,chunk_length,List.length_nil];omega)) ((by simp only [strs_length,chunk_length,List.length_nil,maxLen];omega))) ?_;refine O _ (aN [0,5,8,14,15,16] rfl rfl ?_);clear O J K E;refine rgn fun E K J O=>?_;show aCall _ _ _ _ _ _ _
   cases hf:fit (joinB [⟨#[116,114,117,101]⟩] ⟨#[32,97,110,100,32]⟩) V2 with
   |out=>simp only [hf] at hG;exact absurd hG.symm hne
   |ok s0 V0=>
    obtain ⟨rfl,rfl⟩:=fit_inj hf;simp only [hf] at hG;have hj:=fit_size hf;refine aR [] rfl rfl rfl (joinE_spec G [⟨#[116,114,117,101]⟩] _ hj (by first|omega|(simp only [List.length_cons,List.length_nil];omega))) rfl rfl rfl rfl ?_;refine And.intro (And.intro ((by simp only [strs_length,chunk_length];omega)) ((by simp only [strs_length,chunk_length,maxLen];omega))) ?_;refine O _ (aN [0,5,14,15,16] rfl rfl ?_);clear O J K E;refine rgn fun E K J O=>?_;refine O _ ?_;clear O J K E;exact ⟨_,Nat.lt_succ_self _,_,sub_pick (L:=[0,1,2]) (slots:=[0,5,14,15,16]) rfl rfl rfl rfl rfl,d++[row],e,_,_,rfl,by simp,hG,by simp only [List.length_append,List.length_cons,List.length_nil];omega,by rw [← strs_snoc1,List.length_append,wrapId (by omega) (by omega)];rfl⟩
  have hnz:nz acc2=acc2:=by
   cases acc2 with
   |nil=>exact absurd h4 (by decide)
   |cons x r=>rfl
  rw [hnz] at hG;refine awp_skip ?_;refine rgn fun E K J O=>?_;show aCall _ _ _ _ _ _ _
  cases hf:fit (joinB acc2 ⟨#[32,97,110,100,32]⟩) V2 with
  |out=>simp only [hf] at hG;exact absurd hG.symm hne
  |ok s0 V0=>
   obtain ⟨rfl,rfl⟩:=fit_inj hf;simp only [hf] at hG;have hj:=fit_size hf;refine aR [] rfl rfl rfl (joinE_spec G acc2 _ hj (by first|omega|(simp only [List.length_cons,List.length_nil];omega))) rfl rfl rfl rfl ?_;refine And.intro (And.intro ((by simp only [strs_length,chunk_length];omega)) ((by simp only [strs_length,chunk_length,maxLen];omega))) ?_;refine O _ (aN [0,5,14,15,16] rfl rfl ?_);clear O J K E;refine rgn fun E K J O=>?_;refine O _ ?_;clear O J K E;exact ⟨_,Nat.lt_succ_self _,_,sub_pick (L:=[0,1,2]) (slots:=[0,5,14,15,16]) rfl rfl rfl rfl rfl,d++[row],e,_,_,rfl,by simp,hG,by simp only [List.length_append,List.length_cons,List.length_nil];omega,by rw [← strs_snoc1,List.length_append,wrapId (by omega) (by omega)];rfl⟩
 have h':=of_decide_eq_false h2;rw [hll] at h';obtain rfl:e'=[]:=List.eq_nil_of_length_eq_zero (by omega);simp only [orW,Q.bind] at hG;refine awp_exit ?_;refine awp_norm [5] rfl rfl ?_;refine rgs fun E K J O=>?_;show aCall _ _ _ _ _ _ _;have hj:=fit_chk hG hne;refine aR [] rfl rfl rfl (joinE_spec G acc _ hj (by omega)) rfl rfl rfl rfl ?_;refine O _ (aN [4] rfl rfl ?_);clear O J K E;refine awp_ret ?_;obtain rfl:=fit_ok hG hne;exact ⟨_,[0,1],_,[encS _],rfl,rfl,rfl,rfl,rfl,PWs.refl _,rfl⟩
end Go.Abs
end
section
namespace Go.Abs
open Go Go.Proofs
attribute [local irreducible] aCall AWp Sub Spec
theorem nil_len{args:List Ex}(h:nilOf (.d (.sl 4 (exs args))) true):(((exs args).length:Int)==0)=true:=by
 cases args with
 |nil=>rfl
 |cons a q=>exact absurd (h (by cases a;simp only [exs];exact fun e=>nomatch e)) (by decide)
theorem lit_x:¬(!((⟨#[120]⟩:ByteArray).toList==(⟨#[]⟩:ByteArray).toList))=false:=by simp only [ByteArray.toList_eq];decide
theorem lit_e:¬(!((⟨#[]⟩:ByteArray).toList==(⟨#[]⟩:ByteArray).toList))=true:=by simp only [ByteArray.toList_eq];decide
theorem pNilS_sl{xs:List (List Data)}{n:Nat}{k:PV→Prop}(h1:nilOf (.d (.sl n xs)) true→k (.d (.s (.bool true))))(h2:k (.d (.s (.bool false)))):pNilS .eql (.d (.sl n xs)) k:=fun b hb=>match b,hb with
 |true,hb=>h1 hb
 |false,_=>h2
theorem pNilS_nil{k:PV→Prop}(h:k (.d (.s (.bool false)))):pNilS .neq (.d (.s (.slice none 0 0))) k:=fun b (hb:b=true)=>by subst hb;exact h
theorem pNilS_arr{i j l:Nat}{k:PV→Prop}(h:k (.d (.s (.bool true)))):pNilS .neq (.arr i j l) k:=fun b (hb:b=false)=>by subst hb;exact h
def bareF(wn wp wa wc wb we:Bool)(s:Sm):Bool:=match s with
 |.mk _ name proc args cond body els=>(((((((name.toList==(⟨#[]⟩:ByteArray).toList)||wn)&&((proc.toList==(⟨#[]⟩:ByteArray).toList)||wp))&&((((exs args).length:Int)==0)||wa))&&((((cnd cond).length:Int)==0)||wc))&&((((sms body).length:Int)==0)||wb))&&((((sms els).length:Int)==0)||we))
theorem bare_na(G:Glob)(s:Sm):Spec Tryz.prog G 213 [.d (.agg s.cs),.agg [.d (str ⟨#[]⟩),.d (str ⟨#[120]⟩),.d (str ⟨#[]⟩),.arr 0 0 0,.d (.s (.slice none 0 0)),.d (.s (.slice none 0 0)),.d (.s (.slice none 0 0))]] [.box 157 []] (.ret (.d (.s (.bool (bareF true false true false false false s))))) [.box 157 []]:=by
 obtain ⟨kind,name,proc,args,cond,body,els⟩:=s;obtain ⟨r,hG⟩:∃r,bareF true false true false false false (.mk kind name proc args cond body els)=r:=⟨_,rfl⟩;rw [hG];refine spec_of_awp2 TT_ok (N:=72) Tryz.func213 rfl (by rfl) (Nat.le_refl _) rfl ?_;refine awp_seq (rgn fun E K J O=>?_);refine O _ (aN [2,3] rfl rfl ?_);clear O J K E;refine awp_seq (rgn fun E K J O=>?_);refine onB_intro (fun h=>?_) (fun h=>?_);refine onB_intro (fun h=>?_) (fun h=>?_);refine pNilS_sl (fun hb=>?_) ?_;have hz:=nil_len hb;refine onB_intro (fun h=>?_) (fun h=>?_);refine onB_intro (fun h=>?_) (fun h=>?_);refine onB_intro (fun h=>?_) (fun h=>?_);rotate_left;refine pNilS_nil ?_;rotate_left;refine pNilS_nil ?_;rotate_left;refine pNilS_nil ?_;rotate_left;refine onB_intro (fun h=>?_) (fun h=>?_);refine onB_intro (fun h=>?_) (fun h=>?_);refine onB_intro (fun h=>?_) (fun h=>?_);refine onB_intro (fun h=>?_) (fun h=>?_);rotate_left;refine pNilS_nil ?_;rotate_left;refine pNilS_nil ?_;rotate_left;refine pNilS_nil ?_;rotate_left;refine pNilS_arr ?_;refine onB_intro (fun h=>?_) (fun h=>?_);refine onB_intro (fun h=>?_) (fun h=>?_);refine onB_intro (fun h=>?_) (fun h=>?_);rotate_left;refine pNilS_nil ?_;rotate_left;refine pNilS_nil ?_;rotate_left;refine pNilS_nil ?_;rotate_left;refine onB_intro (fun h=>?_) (fun h=>?_);exact absurd h lit_e;rotate_left;refine onB_intro (fun h=>?_) (fun h=>?_);refine onB_intro (fun h=>?_) (fun h=>?_);refine pNilS_sl (fun hb=>?_) ?_;have hz:=nil_len hb;refine onB_intro (fun h=>?_) (fun h=>?_);refine onB_intro (fun h=>?_) (fun h=>?_);refine onB_intro (fun h=>?_) (fun h=>?_);rotate_left;refine pNilS_nil ?_;rotate_left;refine pNilS_nil ?_;rotate_left;refine pNilS_nil ?_;rotate_left;refine onB_intro (fun h=>?_) (fun h=>?_);refine onB_intro (fun h=>?_) (fun h=>?_);refine onB_intro (fun h=>?_) (fun h=>?_);refine onB_intro (fun h=>?_) (fun h=>?_);rotate_left;refine pNilS_nil ?_;rotate_left;refine pNilS_nil ?_;rotate_left;refine pNilS_nil ?_;rotate_left;refine pNilS_arr ?_;refine onB_intro (fun h=>?_) (fun h=>?_);refine onB_intro (fun h=>?_) (fun h=>?_);refine onB_intro (fun h=>?_) (fun h=>?_);rotate_left;refine pNilS_nil ?_;rotate_left;refine pNilS_nil ?_;rotate_left;refine pNilS_nil ?_;rotate_left;refine onB_intro (fun h=>?_) (fun h=>?_);exact absurd h lit_e;rotate_left;exact absurd h lit_x
 all_goals
  refine O _ (aN [4] rfl rfl ?_);clear O J K E;refine awp_ret ?_;simp only [bareF, *,bz] at hG;subst hG;exact ⟨_,[0],_,[.d (.s (.bool _))],rfl,rfl,rfl,rfl,rfl,PWs.refl _,rfl⟩
theorem bare_npa(G:Glob)(s:Sm):Spec Tryz.prog G 213 [.d (.agg s.cs),.agg [.d (str ⟨#[]⟩),.d (str ⟨#[120]⟩),.d (str ⟨#[120]⟩),.arr 0 0 0,.d (.s (.slice none 0 0)),.d (.s (.slice none 0 0)),.d (.s (.slice none 0 0))]] [.box 157 []] (.ret (.d (.s (.bool (bareF true true true false false false s))))) [.box 157 []]:=by
 obtain ⟨kind,name,proc,args,cond,body,els⟩:=s;obtain ⟨r,hG⟩:∃r,bareF true true true false false false (.mk kind name proc args cond body els)=r:=⟨_,rfl⟩;rw [hG];refine spec_of_awp2 TT_ok (N:=72) Tryz.func213 rfl (by rfl) (Nat.le_refl _) rfl ?_;refine awp_seq (rgn fun E K J O=>?_);refine O _ (aN [2,3] rfl rfl ?_);clear O J K E;refine awp_seq (rgn fun E K J O=>?_);refine onB_intro (fun h=>?_) (fun h=>?_);refine onB_intro (fun h=>?_) (fun h=>?_);refine pNilS_sl (fun hb=>?_) ?_;have hz:=nil_len hb;refine onB_intro (fun h=>?_) (fun h=>?_);refine onB_intro (fun h=>?_) (fun h=>?_);refine onB_intro (fun h=>?_) (fun h=>?_);rotate_left;refine pNilS_nil ?_;rotate_left;refine pNilS_nil ?_;rotate_left;refine pNilS_nil ?_;rotate_left;refine onB_intro (fun h=>?_) (fun h=>?_);refine onB_intro (fun h=>?_) (fun h=>?_);refine onB_intro (fun h=>?_) (fun h=>?_);refine onB_intro (fun h=>?_) (fun h=>?_);rotate_left;refine pNilS_nil ?_;rotate_left;refine pNilS_nil ?_;rotate_left;refine pNilS_nil ?_;rotate_left;refine pNilS_arr ?_;refine onB_intro (fun h=>?_) (fun h=>?_);refine onB_intro (fun h=>?_) (fun h=>?_);refine onB_intro (fun h=>?_) (fun h=>?_);rotate_left;refine pNilS_nil ?_;rotate_left;refine pNilS_nil ?_;rotate_left;refine pNilS_nil ?_;rotate_left;refine onB_intro (fun h=>?_) (fun h=>?_);refine pNilS_sl (fun hb=>?_) ?_;have hz:=nil_len hb;refine onB_intro (fun h=>?_) (fun h=>?_);refine onB_intro (fun h=>?_) (fun h=>?_);refine onB_intro (fun h=>?_) (fun h=>?_);rotate_left;refine pNilS_nil ?_;rotate_left;refine pNilS_nil ?_;rotate_left;refine pNilS_nil ?_;rotate_left;refine onB_intro (fun h=>?_) (fun h=>?_);refine onB_intro (fun h=>?_) (fun h=>?_);refine onB_intro (fun h=>?_) (fun h=>?_);refine onB_intro (fun h=>?_) (fun h=>?_);rotate_left;refine pNilS_nil ?_;rotate_left;refine pNilS_nil ?_;rotate_left;refine pNilS_nil ?_;rotate_left;refine pNilS_arr ?_;refine onB_intro (fun h=>?_) (fun h=>?_);refine onB_intro (fun h=>?_) (fun h=>?_);refine onB_intro (fun h=>?_) (fun h=>?_);rotate_left;refine pNilS_nil ?_;rotate_left;refine pNilS_nil ?_;rotate_left;refine pNilS_nil ?_;rotate_left;exact absurd h lit_x;refine onB_intro (fun h=>?_) (fun h=>?_);refine onB_intro (fun h=>?_) (fun h=>?_);refine pNilS_sl (fun hb=>?_) ?_;have hz:=nil_len hb;refine onB_intro (fun h=>?_) (fun h=>?_);refine onB_intro (fun h=>?_) (fun h=>?_);refine onB_intro (fun h=>?_) (fun h=>?_);rotate_left;refine pNilS_nil ?_;rotate_left;refine pNilS_nil ?_;rotate_left;refine pNilS_nil ?_;rotate_left;refine onB_intro (fun h=>?_) (fun h=>?_);refine onB_intro (fun h=>?_) (fun h=>?_);refine onB_intro (fun h=>?_) (fun h=>?_);refine onB_intro (fun h=>?_) (fun h=>?_);rotate_left;refine pNilS_nil ?_;rotate_left;refine pNilS_nil ?_;rotate_left;refine pNilS_nil ?_;rotate_left;refine pNilS_arr ?_;refine onB_intro (fun h=>?_) (fun h=>?_);refine onB_intro (fun h=>?_) (fun h=>?_);refine onB_intro (fun h=>?_) (fun h=>?_);rotate_left;refine pNilS_nil ?_;rotate_left;refine pNilS_nil ?_;rotate_left;refine pNilS_nil ?_;rotate_left;refine onB_intro (fun h=>?_) (fun h=>?_);refine pNilS_sl (fun hb=>?_) ?_;have hz:=nil_len hb;refine onB_intro (fun h=>?_) (fun h=>?_);refine onB_intro (fun h=>?_) (fun h=>?_);refine onB_intro (fun h=>?_) (fun h=>?_);rotate_left;refine pNilS_nil ?_;rotate_left;refine pNilS_nil ?_;rotate_left;refine pNilS_nil ?_;rotate_left;refine onB_intro (fun h=>?_) (fun h=>?_);refine onB_intro (fun h=>?_) (fun h=>?_);refine onB_intro (fun h=>?_) (fun h=>?_);refine onB_intro (fun h=>?_) (fun h=>?_);rotate_left;refine pNilS_nil ?_;rotate_left;refine pNilS_nil ?_;rotate_left;refine pNilS_nil ?_;rotate_left;refine pNilS_arr ?_;refine onB_intro (fun h=>?_) (fun h=>?_);refine onB_intro (fun h=>?_) (fun h=>?_);refine onB_intro (fun h=>?_) (fun h=>?_);rotate_left;refine pNilS_nil ?_;rotate_left;refine pNilS_nil ?_;rotate_left;refine pNilS_nil ?_;rotate_left;exact absurd h lit_x;exact absurd h lit_x
 all_goals
  refine O _ (aN [4] rfl rfl ?_);clear O J K E;refine awp_ret ?_;simp only [bareF, *,bz] at hG;subst hG;exact ⟨_,[0],_,[.d (.s (.bool _))],rfl,rfl,rfl,rfl,rfl,PWs.refl _,rfl⟩
theorem bare_cbe(G:Glob)(s:Sm):Spec Tryz.prog G 213 [.d (.agg s.cs),.agg [.d (str ⟨#[]⟩),.d (str ⟨#[]⟩),.d (str ⟨#[]⟩),.d (.s (.slice none 0 0)),.arr 0 0 0,.arr 1 0 0,.arr 1 0 0]] [.box 123 [],.box 217 []] (.ret (.d (.s (.bool (bareF false false false true true true s))))) [.box 123 [],.box 217 []]:=by
 obtain ⟨kind,name,proc,args,cond,body,els⟩:=s;obtain ⟨r,hG⟩:∃r,bareF false false false true true true (.mk kind name proc args cond body els)=r:=⟨_,rfl⟩;rw [hG];refine spec_of_awp2 TT_ok (N:=72) Tryz.func213 rfl (by rfl) (Nat.le_refl _) rfl ?_;refine awp_seq (rgn fun E K J O=>?_);refine O _ (aN [2,3] rfl rfl ?_);clear O J K E;refine awp_seq (rgn fun E K J O=>?_);refine onB_intro (fun h=>?_) (fun h=>?_);refine onB_intro (fun h=>?_) (fun h=>?_);refine pNilS_sl (fun hb=>?_) ?_;have hz:=nil_len hb;refine onB_intro (fun h=>?_) (fun h=>?_);refine onB_intro (fun h=>?_) (fun h=>?_);refine onB_intro (fun h=>?_) (fun h=>?_);rotate_left;refine pNilS_arr ?_;rotate_left;refine pNilS_arr ?_;refine onB_intro (fun h=>?_) (fun h=>?_);rotate_left;refine pNilS_arr ?_;rotate_left;refine pNilS_arr ?_;refine onB_intro (fun h=>?_) (fun h=>?_);refine onB_intro (fun h=>?_) (fun h=>?_);rotate_left;refine pNilS_arr ?_;rotate_left;refine pNilS_arr ?_;refine onB_intro (fun h=>?_) (fun h=>?_);rotate_left;refine pNilS_arr ?_;rotate_left;refine onB_intro (fun h=>?_) (fun h=>?_);refine onB_intro (fun h=>?_) (fun h=>?_);refine onB_intro (fun h=>?_) (fun h=>?_);refine onB_intro (fun h=>?_) (fun h=>?_);rotate_left;refine pNilS_arr ?_;rotate_left;refine pNilS_arr ?_;refine onB_intro (fun h=>?_) (fun h=>?_);rotate_left;refine pNilS_arr ?_;rotate_left;refine pNilS_arr ?_;refine onB_intro (fun h=>?_) (fun h=>?_);refine onB_intro (fun h=>?_) (fun h=>?_);rotate_left;refine pNilS_arr ?_;rotate_left;refine pNilS_arr ?_;refine onB_intro (fun h=>?_) (fun h=>?_);rotate_left;refine pNilS_arr ?_;rotate_left;refine pNilS_nil ?_;rotate_left;refine onB_intro (fun h=>?_) (fun h=>?_);exact absurd h lit_e;rotate_left;refine onB_intro (fun h=>?_) (fun h=>?_);exact absurd h lit_e;rotate_left
 all_goals
  refine O _ (aN [4] rfl rfl ?_);clear O J K E;refine awp_ret ?_;simp only [bareF, *,bz] at hG;subst hG;exact ⟨_,[0,1],_,[.d (.s (.bool _))],rfl,rfl,rfl,rfl,rfl,PWs.refl _,rfl⟩
theorem bare_cb(G:Glob)(s:Sm):Spec Tryz.prog G 213 [.d (.agg s.cs),.agg [.d (str ⟨#[]⟩),.d (str ⟨#[]⟩),.d (str ⟨#[]⟩),.d (.s (.slice none 0 0)),.arr 0 0 0,.arr 1 0 0,.d (.s (.slice none 0 0))]] [.box 123 [],.box 217 []] (.ret (.d (.s (.bool (bareF false false false true true false s))))) [.box 123 [],.box 217 []]:=by
 obtain ⟨kind,name,proc,args,cond,body,els⟩:=s;obtain ⟨r,hG⟩:∃r,bareF false false false true true false (.mk kind name proc args cond body els)=r:=⟨_,rfl⟩;rw [hG];refine spec_of_awp2 TT_ok (N:=72) Tryz.func213 rfl (by rfl) (Nat.le_refl _) rfl ?_;refine awp_seq (rgn fun E K J O=>?_);refine O _ (aN [2,3] rfl rfl ?_);clear O J K E;refine awp_seq (rgn fun E K J O=>?_);refine onB_intro (fun h=>?_) (fun h=>?_);refine onB_intro (fun h=>?_) (fun h=>?_);refine pNilS_sl (fun hb=>?_) ?_;have hz:=nil_len hb;refine onB_intro (fun h=>?_) (fun h=>?_);refine onB_intro (fun h=>?_) (fun h=>?_);refine onB_intro (fun h=>?_) (fun h=>?_);rotate_left;refine pNilS_nil ?_;rotate_left;refine pNilS_arr ?_;refine onB_intro (fun h=>?_) (fun h=>?_);rotate_left;refine pNilS_nil ?_;rotate_left;refine pNilS_arr ?_;refine onB_intro (fun h=>?_) (fun h=>?_);refine onB_intro (fun h=>?_) (fun h=>?_);rotate_left;refine pNilS_nil ?_;rotate_left;refine pNilS_arr ?_;refine onB_intro (fun h=>?_) (fun h=>?_);rotate_left;refine pNilS_nil ?_;rotate_left;refine onB_intro (fun h=>?_) (fun h=>?_);refine onB_intro (fun h=>?_) (fun h=>?_);refine onB_intro (fun h=>?_) (fun h=>?_);refine onB_intro (fun h=>?_) (fun h=>?_);rotate_left;refine pNilS_nil ?_;rotate_left;refine pNilS_arr ?_;refine onB_intro (fun h=>?_) (fun h=>?_);rotate_left;refine pNilS_nil ?_;rotate_left;refine pNilS_arr ?_;refine onB_intro (fun h=>?_) (fun h=>?_);refine onB_intro (fun h=>?_) (fun h=>?_);rotate_left;refine pNilS_nil ?_;rotate_left;refine pNilS_arr ?_;refine onB_intro (fun h=>?_) (fun h=>?_);rotate_left;refine pNilS_nil ?_;rotate_left;refine pNilS_nil ?_;rotate_left;refine onB_intro (fun h=>?_) (fun h=>?_);exact absurd h lit_e;rotate_left;refine onB_intro (fun h=>?_) (fun h=>?_);exact absurd h lit_e;rotate_left
 all_goals
  refine O _ (aN [4] rfl rfl ?_);clear O J K E;refine awp_ret ?_;simp only [bareF, *,bz] at hG;subst hG;exact ⟨_,[0,1],_,[.d (.s (.bool _))],rfl,rfl,rfl,rfl,rfl,PWs.refl _,rfl⟩
theorem bare_c(G:Glob)(s:Sm):Spec Tryz.prog G 213 [.d (.agg s.cs),.agg [.d (str ⟨#[]⟩),.d (str ⟨#[]⟩),.d (str ⟨#[]⟩),.d (.s (.slice none 0 0)),.arr 0 0 0,.d (.s (.slice none 0 0)),.d (.s (.slice none 0 0))]] [.box 123 []] (.ret (.d (.s (.bool (bareF false false false true false false s))))) [.box 123 []]:=by
 obtain ⟨kind,name,proc,args,cond,body,els⟩:=s;obtain ⟨r,hG⟩:∃r,bareF false false false true false false (.mk kind name proc args cond body els)=r:=⟨_,rfl⟩;rw [hG];refine spec_of_awp2 TT_ok (N:=72) Tryz.func213 rfl (by rfl) (Nat.le_refl _) rfl ?_;refine awp_seq (rgn fun E K J O=>?_);refine O _ (aN [2,3] rfl rfl ?_);clear O J K E;refine awp_seq (rgn fun E K J O=>?_);refine onB_intro (fun h=>?_) (fun h=>?_);refine onB_intro (fun h=>?_) (fun h=>?_);refine pNilS_sl (fun hb=>?_) ?_;have hz:=nil_len hb;refine onB_intro (fun h=>?_) (fun h=>?_);refine onB_intro (fun h=>?_) (fun h=>?_);refine onB_intro (fun h=>?_) (fun h=>?_);rotate_left;refine pNilS_nil ?_;rotate_left;refine pNilS_nil ?_;rotate_left;refine pNilS_arr ?_;refine onB_intro (fun h=>?_) (fun h=>?_);refine onB_intro (fun h=>?_) (fun h=>?_);rotate_left;refine pNilS_nil ?_;rotate_left;refine pNilS_nil ?_;rotate_left;refine onB_intro (fun h=>?_) (fun h=>?_);refine onB_intro (fun h=>?_) (fun h=>?_);refine onB_intro (fun h=>?_) (fun h=>?_);refine onB_intro (fun h=>?_) (fun h=>?_);rotate_left;refine pNilS_nil ?_;rotate_left;refine pNilS_nil ?_;rotate_left;refine pNilS_arr ?_;refine onB_intro (fun h=>?_) (fun h=>?_);refine onB_intro (fun h=>?_) (fun h=>?_);rotate_left;refine pNilS_nil ?_;rotate_left;refine pNilS_nil ?_;rotate_left;refine pNilS_nil ?_;rotate_left;refine onB_intro (fun h=>?_) (fun h=>?_);exact absurd h lit_e;rotate_left;refine onB_intro (fun h=>?_) (fun h=>?_);exact absurd h lit_e;rotate_left
 all_goals
  refine O _ (aN [4] rfl rfl ?_);clear O J K E;refine awp_ret ?_;simp only [bareF, *,bz] at hG;subst hG;exact ⟨_,[0],_,[.d (.s (.bool _))],rfl,rfl,rfl,rfl,rfl,PWs.refl _,rfl⟩
theorem bare_n(G:Glob)(s:Sm):Spec Tryz.prog G 213 [.d (.agg s.cs),.d (.agg [str ⟨#[]⟩,str ⟨#[120]⟩,str ⟨#[]⟩,.s (.slice none 0 0),.s (.slice none 0 0),.s (.slice none 0 0),.s (.slice none 0 0)])] [] (.ret (.d (.s (.bool (bareF true false false false false false s))))) []:=by
 obtain ⟨kind,name,proc,args,cond,body,els⟩:=s;obtain ⟨r,hG⟩:∃r,bareF true false false false false false (.mk kind name proc args cond body els)=r:=⟨_,rfl⟩;rw [hG];refine spec_of_awp2 TT_ok (N:=72) Tryz.func213 rfl (by rfl) (Nat.le_refl _) rfl ?_;refine awp_seq (rgn fun E K J O=>?_);refine O _ (aN [2,3] rfl rfl ?_);clear O J K E;refine awp_seq (rgn fun E K J O=>?_);refine onB_intro (fun h=>?_) (fun h=>?_);refine onB_intro (fun h=>?_) (fun h=>?_);refine pNilS_sl (fun hb=>?_) ?_;have hz:=nil_len hb;refine onB_intro (fun h=>?_) (fun h=>?_);refine onB_intro (fun h=>?_) (fun h=>?_);refine onB_intro (fun h=>?_) (fun h=>?_);rotate_left;refine pNilS_nil ?_;rotate_left;refine pNilS_nil ?_;rotate_left;refine pNilS_nil ?_;rotate_left;refine onB_intro (fun h=>?_) (fun h=>?_);refine onB_intro (fun h=>?_) (fun h=>?_);refine onB_intro (fun h=>?_) (fun h=>?_);refine onB_intro (fun h=>?_) (fun h=>?_);rotate_left;refine pNilS_nil ?_;rotate_left;refine pNilS_nil ?_;rotate_left;refine pNilS_nil ?_;rotate_left;refine pNilS_nil ?_;rotate_left;refine onB_intro (fun h=>?_) (fun h=>?_);exact absurd h lit_e;rotate_left;refine onB_intro (fun h=>?_) (fun h=>?_);refine onB_intro (fun h=>?_) (fun h=>?_);refine pNilS_sl (fun hb=>?_) ?_;have hz:=nil_len hb;refine onB_intro (fun h=>?_) (fun h=>?_);refine onB_intro (fun h=>?_) (fun h=>?_);refine onB_intro (fun h=>?_) (fun h=>?_);rotate_left;refine pNilS_nil ?_;rotate_left;refine pNilS_nil ?_;rotate_left;refine pNilS_nil ?_;rotate_left;refine onB_intro (fun h=>?_) (fun h=>?_);refine onB_intro (fun h=>?_) (fun h=>?_);refine onB_intro (fun h=>?_) (fun h=>?_);refine onB_intro (fun h=>?_) (fun h=>?_);rotate_left;refine pNilS_nil ?_;rotate_left;refine pNilS_nil ?_;rotate_left;refine pNilS_nil ?_;rotate_left;refine pNilS_nil ?_;rotate_left;refine onB_intro (fun h=>?_) (fun h=>?_);exact absurd h lit_e;rotate_left;exact absurd h lit_x
 all_goals
  refine O _ (aN [4] rfl rfl ?_);clear O J K E;refine awp_ret ?_;simp only [bareF, *,bz] at hG;subst hG;exact ⟨_,[],_,[.d (.s (.bool _))],rfl,rfl,rfl,rfl,rfl,PWs.refl _,rfl⟩
end Go.Abs
end
