/- Texts of this proof, joined and shortened. -/
import Derived.Test.YtedljfabpknjiaaGreatDoorR15
import Derived.Shelf.Sort.Plain
import Derived.Ground.NamesProg
import Derived.Test.YtedljfabpknjiaaGreatDoorProg
import Derived.Lib.SlicesCompact
import Derived.Test.YtedljfabpknjiaaGreatDoorR14
set_option maxHeartbeats 1000000
section
namespace Go.Abs
open Go Go.Proofs
section
theorem gW{wn wp wa wc wb we:Bool}{ap name proc:BA}{args:List Ex}{cond:List (List Ts)}{ao aK:List Sm}(h:bJ wn wp wa wc wb we (.mk ap name proc args cond ao aK)=true):(wn=false->name=⟨#[]⟩)/\(wp=false->proc=⟨#[]⟩)/\(wa=false->args=[])/\(wc=false->cond=[])/\(wb=false->ao=[])/\(we=false->aK=[]):=by
 simp only [bJ,bE,Bool.or_eq_true] at h;obtain ⟨⟨⟨⟨⟨h1,h2⟩,h3⟩,h4⟩,h5⟩,h6⟩:=h;refine ⟨fun q=>?_,fun q=>?_,fun q=>?_,fun q=>?_,fun q=>?_,fun q=>?_⟩
 ·rcases h1 with h|h
  ·exact dj h
  rw [q] at h;cases h
 ·rcases h2 with h|h
  ·exact dj h
  rw [q] at h;cases h
 ·rcases h3 with h|h
  ·have:=eq_of_beq h;rw [ba] at this;exact lE (by omega)
  rw [q] at h;cases h
 ·rcases h4 with h|h
  ·have:=eq_of_beq h;rw [eN] at this;exact lE (by omega)
  rw [q] at h;cases h
 ·rcases h5 with h|h
  ·have:=eq_of_beq h;rw [cj] at this;exact lE (by omega)
  rw [q] at h;cases h
 rcases h6 with h|h
 ·have:=eq_of_beq h;rw [cj] at this;exact lE (by omega)
 rw [q] at h;cases h
theorem IL{x:Ex}{t:BA}{k:Nat}(h:ig [x]=some (t,k)):∃k1,exprI x 1 1=some (t,k1):=by
 obtain ⟨ss,k1,i1,h1,h2,_⟩:=aY h;obtain ⟨rfl,_⟩:=aV h2;obtain ⟨t,k3,i3,h5,h2,_⟩:=aY h1;obtain ⟨rs,k2,i2,h3,h4,_⟩:=aY h2;obtain ⟨rfl,_⟩:=aV h4;obtain ⟨rfl,_⟩:=aV h3;have e:bP [t] ⟨#[44,32]⟩=t:=PE (by rw [join_cons];simp [SF]);rw [e];exact ⟨k3,h5⟩
theorem q_{ap name proc:BA}{args:List Ex}{cond:List (List Ts)}{ao aK:List Sm}{k:Nat}{t:BA}{j:Nat}(h:dr (.mk ap name proc args cond ao aK) k=some (t,j)):
  (ap=⟨#[115,101,116]⟩/\proc=⟨#[]⟩/\cond=[]/\ao=[]/\aK=[]/\aC name=true/\∃x t1 k1,args=[x]/\exprI x 1 1=some (t1,k1)/\t=eF k (((name++⟨#[32,61,32]⟩)++t1)++⟨#[59]⟩))\/
  (ap=⟨#[112,117,116]⟩/\proc=⟨#[]⟩/\cond=[]/\ao=[]/\aK=[]/\aC name=true/\∃x y t1 k1 t2 k2,args=[x,y]/\exprI x 1 1=some (t1,k1)/\exprI y 1 1=some (t2,k2)/\t=eF k (((((name++⟨#[91]⟩)++t1)++⟨#[93,32,61,32]⟩)++t2)++⟨#[59]⟩))\/
  (ap=⟨#[99,97,108,108]⟩/\cond=[]/\ao=[]/\aK=[]/\aC name=true/\aC proc=true/\∃t1 k1,ig args=some (t1,k1)/\t=eF k (((((name++⟨#[32,61,32,99,97,108,108,32]⟩)++proc)++⟨#[40]⟩)++t1)++⟨#[41,59]⟩))\/
  (ap=⟨#[105,102]⟩/\name=⟨#[]⟩/\proc=⟨#[]⟩/\args=[]/\∃c k1 b k2 r,gb cond=some (c,k1)/\bI ao (k+1)=some (b,k2)/\t=eF k ((⟨#[105,102,32]⟩++c)++⟨#[32,123]⟩)++(b++r)/\((aK=[]/\r=eF k ⟨#[125]⟩)\/∃e k3,bI aK (k+1)=some (e,k3)/\r=eF k ⟨#[125,32,101,108,115,101,32,123]⟩++(e++eF k ⟨#[125]⟩)))\/
  (ap=⟨#[119,104,105,108,101]⟩/\name=⟨#[]⟩/\proc=⟨#[]⟩/\args=[]/\aK=[]/\∃c k1 b k2,gb cond=some (c,k1)/\bI ao (k+1)=some (b,k2)/\t=eF k ((⟨#[119,104,105,108,101,32]⟩++c)++⟨#[32,123]⟩)++(b++eF k ⟨#[125]⟩))\/
  ((ap=⟨#[97,115,115,101,114,116]⟩\/ap=⟨#[97,115,115,117,109,101]⟩)/\name=⟨#[]⟩/\proc=⟨#[]⟩/\args=[]/\ao=[]/\aK=[]/\∃c k1,gb cond=some (c,k1)/\t=eF k (((ap++⟨#[32]⟩)++c)++⟨#[59]⟩))\/
  (ap=⟨#[114,101,97,100]⟩/\proc=⟨#[]⟩/\args=[]/\cond=[]/\ao=[]/\aK=[]/\aC name=true/\t=eF k ((⟨#[114,101,97,100,32]⟩++name)++⟨#[59]⟩)):=by
 have bZ:∀l:List Ex,∀m:Nat,(((bR l).length:Int)==(m:Int))=true->l.length=m:=by
  intro l m h;have:=eq_of_beq h;rw [ba] at this;omega
 unfold dr at h;split at h
 ·rename_i h1;obtain ⟨g1,h⟩:=bp h;obtain ⟨g2,h⟩:=bp h;rw [bE] at g1;obtain ⟨b1,b2,b3,b4,b5,b6⟩:=gW g1.1;obtain ⟨x,rfl⟩:=List.length_eq_one_iff.1 (bZ args 1 g1.2);obtain ⟨t1,k1,i1,h2,h3,_⟩:=aY h;obtain ⟨rfl,_⟩:=aV h3;obtain ⟨k2,h4⟩:=IL h2;exact .inl ⟨dj h1,b2 rfl,b4 rfl,b5 rfl,b6 rfl,g2,x,t1,k2,rfl,h4,rfl⟩
 split at h
 ·rename_i h1;obtain ⟨g1,h⟩:=bp h;obtain ⟨g2,h⟩:=bp h;rw [bE] at g1;obtain ⟨b1,b2,b3,b4,b5,b6⟩:=gW g1.1;split at h
  ·rename_i x y _ _;obtain ⟨t1,k1,i1,h2,h3,_⟩:=aY h;obtain ⟨t2,k2,i2,h4,h5,_⟩:=aY h3;obtain ⟨rfl,_⟩:=aV h5;exact .inr (.inl ⟨dj h1,b2 rfl,b4 rfl,b5 rfl,b6 rfl,g2,x,y,t1,k1,t2,k2,rfl,h2,h4,rfl⟩)
  cases h
 split at h
 ·rename_i h1;obtain ⟨g1,h⟩:=bp h;obtain ⟨g2,h⟩:=bp h;obtain ⟨g3,h⟩:=bp h;obtain ⟨b1,b2,b3,b4,b5,b6⟩:=gW g1;obtain ⟨t1,k1,i1,h2,h3,_⟩:=aY h;obtain ⟨rfl,_⟩:=aV h3;exact .inr (.inr (.inl ⟨dj h1,b4 rfl,b5 rfl,b6 rfl,g2,g3,t1,k1,h2,rfl⟩))
 split at h
 ·rename_i h1;obtain ⟨g1,h⟩:=bp h;obtain ⟨b1,b2,b3,b4,b5,b6⟩:=gW g1;obtain ⟨c,k1,i1,h2,h3,_⟩:=aY h;obtain ⟨a1,a2,k2,i2,h4,h5,rfl,_⟩:=br h3;obtain ⟨rfl,_⟩:=aV h4;obtain ⟨b,r,k3,i3,h6,h7,rfl,_⟩:=br h5;refine .inr (.inr (.inr (.inl ⟨dj h1,b1 rfl,b2 rfl,b3 rfl,c,k1,b,k3,r,h2,h6,rfl,?_⟩)));split at h7
  ·obtain ⟨a3,a4,k4,i4,h8,h9,rfl,_⟩:=br h7;obtain ⟨rfl,_⟩:=aV h8;obtain ⟨e,a5,k5,i5,dO,qV,rfl,_⟩:=br h9;obtain ⟨rfl,_⟩:=aV qV;exact .inr ⟨e,k5,dO,rfl⟩
  rename_i h8;obtain ⟨rfl,_⟩:=aV h7;have:=oF h8;rw [cj] at this;exact .inl ⟨lE (by omega),rfl⟩
 split at h
 ·rename_i h1;obtain ⟨g1,h⟩:=bp h;obtain ⟨b1,b2,b3,b4,b5,b6⟩:=gW g1;obtain ⟨c,k1,i1,h2,h3,_⟩:=aY h;obtain ⟨a1,a2,k2,i2,h4,h5,rfl,_⟩:=br h3;obtain ⟨rfl,_⟩:=aV h4;obtain ⟨b,r,k3,i3,h6,h7,rfl,_⟩:=br h5;obtain ⟨rfl,_⟩:=aV h7;exact .inr (.inr (.inr (.inr (.inl ⟨dj h1,b1 rfl,b2 rfl,b3 rfl,b6 rfl,c,k1,b,k3,h2,h6,rfl⟩))))
 split at h
 ·rename_i h1;obtain ⟨g1,h⟩:=bp h;obtain ⟨b1,b2,b3,b4,b5,b6⟩:=gW g1;obtain ⟨c,k1,i1,h2,h3,_⟩:=aY h;obtain ⟨rfl,_⟩:=aV h3;rw [Bool.or_eq_true] at h1;refine .inr (.inr (.inr (.inr (.inr (.inl ⟨?_,b1 rfl,b2 rfl,b3 rfl,b5 rfl,b6 rfl,c,k1,h2,rfl⟩)))));rcases h1 with h1|h1
  ·exact .inl (dj h1)
  exact .inr (dj h1)
 split at h
 ·rename_i h1;obtain ⟨g1,h⟩:=bp h;obtain ⟨g2,h⟩:=bp h;obtain ⟨b1,b2,b3,b4,b5,b6⟩:=gW g1;obtain ⟨rfl,_⟩:=aV h;exact .inr (.inr (.inr (.inr (.inr (.inr ⟨dj h1,b2 rfl,b3 rfl,b4 rfl,b5 rfl,b6 rfl,g2,rfl⟩)))))
 cases h
section
variable {s:BA}
end
end
end Go.Abs
end
section
namespace Go.Proofs
open Go.Shelf
def Tryz.lays190_ren:Go.Shelf.Ren:=⟨fun|190=>115|125=>177|258=>176|128=>236|129=>237|302=>227|303=>228|304=>229|305=>230|306=>231|307=>232|308=>233|309=>234|310=>235|333=>263|329=>264|330=>265|334=>266|335=>267|336=>268|344=>282|n=>n,fun|31=>23|9=>9|3=>3|46=>286|0=>0|51=>343|53=>345|4=>4|183=>337|182=>336|131=>240|5=>5|218=>380|222=>384|228=>399|229=>149|n=>n,fun|n=>n⟩
theorem Tryz.lays190:Go.Proofs.Lays.n190 Tryz.prog Tryz.lays190_ren:={
 mixed:=by kernel_rfl
 f125:=Tryz.func177.trans (congrArg some (by kernel_rfl))
 f128:=Tryz.func236.trans (congrArg some (by kernel_rfl))
 f129:=Tryz.func237.trans (congrArg some (by kernel_rfl))
 f190:=Tryz.func115.trans (congrArg some (by kernel_rfl))
 f258:=Tryz.func176.trans (congrArg some (by kernel_rfl))
 f302:=Tryz.func227.trans (congrArg some (by kernel_rfl))
 f303:=Tryz.func228.trans (congrArg some (by kernel_rfl))
 f304:=Tryz.func229.trans (congrArg some (by kernel_rfl))
 f305:=Tryz.func230.trans (congrArg some (by kernel_rfl))
 f306:=Tryz.func231.trans (congrArg some (by kernel_rfl))
 f307:=Tryz.func232.trans (congrArg some (by kernel_rfl))
 f308:=Tryz.func233.trans (congrArg some (by kernel_rfl))
 f309:=Tryz.func234.trans (congrArg some (by kernel_rfl))
 f310:=Tryz.func235.trans (congrArg some (by kernel_rfl))
 f329:=Tryz.func264.trans (congrArg some (by kernel_rfl))
 f330:=Tryz.func265.trans (congrArg some (by kernel_rfl))
 f333:=Tryz.func263.trans (congrArg some (by kernel_rfl))
 f334:=Tryz.func266.trans (congrArg some (by kernel_rfl))
 f335:=Tryz.func267.trans (congrArg some (by kernel_rfl))
 f336:=Tryz.func268.trans (congrArg some (by kernel_rfl))
 f344:=Tryz.func282.trans (congrArg some (by kernel_rfl))
 t0:=Tryz.underlying0
 a0:=Tryz.isAgg0
 z0:=Tryz.sizeOf0
 v0:=Tryz.zeroValue0
 t3:=Tryz.underlying3
 a3:=Tryz.isAgg3
 z3:=Tryz.sizeOf3
 v3:=Tryz.zeroValue3
 t4:=Tryz.underlying4
 a4:=Tryz.isAgg4
 z4:=Tryz.sizeOf4
 v4:=Tryz.zeroValue4
 t5:=Tryz.underlying5
 a5:=Tryz.isAgg5
 z5:=Tryz.sizeOf5
 v5:=Tryz.zeroValue5
 t9:=Tryz.underlying9
 a9:=Tryz.isAgg9
 z9:=Tryz.sizeOf9
 v9:=Tryz.zeroValue9
 t31:=Tryz.underlying23
 a31:=Tryz.isAgg23
 z31:=Tryz.sizeOf23
 v31:=Tryz.zeroValue23
 t46:=Tryz.underlying286
 a46:=Tryz.isAgg286
 z46:=Tryz.sizeOf286
 v46:=Tryz.zeroValue286
 t51:=Tryz.underlying343
 a51:=Tryz.isAgg343
 z51:=Tryz.sizeOf343
 v51:=Tryz.zeroValue343
 t53:=Tryz.underlying345
 a53:=Tryz.isAgg345
 z53:=Tryz.sizeOf345
 v53:=Tryz.zeroValue345
 t131:=Tryz.underlying240
 a131:=Tryz.isAgg240
 z131:=Tryz.sizeOf240
 v131:=Tryz.zeroValue240
 t182:=Tryz.underlying336
 a182:=Tryz.isAgg336
 z182:=Tryz.sizeOf336
 v182:=Tryz.zeroValue336
 t183:=Tryz.underlying337
 a183:=Tryz.isAgg337
 z183:=Tryz.sizeOf337
 v183:=Tryz.zeroValue337
 t218:=Tryz.underlying380
 a218:=Tryz.isAgg380
 z218:=Tryz.sizeOf380
 v218:=Tryz.zeroValue380
 t222:=Tryz.underlying384
 a222:=Tryz.isAgg384
 z222:=Tryz.sizeOf384
 v222:=Tryz.zeroValue384
 t228:=Tryz.underlying399
 a228:=Tryz.isAgg399
 z228:=Tryz.sizeOf399
 v228:=Tryz.zeroValue399
 t229:=Tryz.underlying149
 a229:=Tryz.isAgg149
 z229:=Tryz.sizeOf149
 v229:=Tryz.zeroValue149 }
open Go.RowKit Go.Sort in
theorem Tryz.slices_Sort_string(blk off cap:Nat)(ss:List (List UInt8))(w:World)(hH:Holds encStr w blk off ss.toArray)(IM:blk<w.heap.size)(lB:ss.length<4611686018427387904):
  Calls Tryz.prog 115 #[.slice (some ⟨blk,off,none⟩) ss.length cap] w fun e w'=>e=.returned (.tuple #[])/\∃n os,w'=grow (putRow encStr (Sort.ahead w n) blk off (ss.mergeSort fun x y=>decide (x<=y)).toArray) os:=Any.slices_Sort_string Tryz.lays190 blk off cap ss w hH IM lB
end Go.Proofs
end
section
namespace Go.Abs
open Go
theorem L8(l:List (List UInt8)):(l.mergeSort fun x y=>decide (x<=y)).Pairwise (·<=·):=by
 have h:=List.pairwise_mergeSort (le:=fun x y:List UInt8=>decide (x<=y)) (fun a b c h1 h2=>dT (List.le_trans (oT h1) (oT h2))) (fun a b=>by rcases List.le_total a b with h|h <;> simp [h]) l;exact h.imp fun h=>oT h
theorem A2{m:List (List UInt8)}(hs:m.Pairwise (·<=·)):(Lib.compact m).length<m.length↔¬m.Nodup:=by
 have Lc:∀(j:Nat) (h:j<m.length),m.toArray[j]! = m[j]:=fun j h=>by simp [h]
 have key:(∀j,j<m.length->Lib.keeps m.toArray j=true)↔m.Nodup:=by
  constructor
  ·intro hk;refine List.pairwise_iff_getElem.2 fun i j hi hj qP=>?_
   intro e;have h1:=hk j hj;unfold Lib.keeps at h1;have h1:=oT h1;rw [Lc j hj,Lc (j - 1) (by omega)] at h1;rcases h1 with h1|h1
   ·omega
   apply h1;have a:m[j - 1]<=m[j]:=List.pairwise_iff_getElem.1 hs (j - 1) j (by omega) hj (by omega);have b:m[i]<=m[j - 1]:=by
    rcases Nat.lt_or_ge i (j - 1) with q|q
    ·exact List.pairwise_iff_getElem.1 hs i (j - 1) hi (by omega) q
    have:i=j - 1:=by omega
    subst this;exact List.le_refl _
   rw [e] at b;exact List.le_antisymm b a
  intro hn j hj;unfold Lib.keeps;apply dT;rcases Nat.eq_zero_or_pos j with q|q
  ·exact .inl q
  right
  rw [Lc j hj,Lc (j - 1) (by omega)];exact fun e=>List.pairwise_iff_getElem.1 hn (j - 1) j (by omega) hj (by omega) e.symm
 have bZ:(Lib.compact m).length=((List.range m.length).filter (Lib.keeps m.toArray)).length:=by
  unfold Lib.compact Lib.compactUpTo;rw [lM]
 have Hu:((List.range m.length).filter (Lib.keeps m.toArray)).length<=m.length:=by
  have:=List.length_filter_le (Lib.keeps m.toArray) (List.range m.length)
  simpa using this
 have heq:((List.range m.length).filter (Lib.keeps m.toArray)).length=m.length↔m.Nodup:=by
  rw [<- key];have:=List.length_filter_eq_length_iff (p:=Lib.keeps m.toArray) (l:=List.range m.length);rw [List.length_range] at this;rw [this];exact ⟨fun h j hj=>h j (List.mem_range.2 hj),fun h j hj=>h j (List.mem_range.1 hj)⟩
 rw [bZ,<- heq];omega
theorem C_(l:List (List UInt8)):decide ((Lib.compact (l.mergeSort fun x y=>decide (x<=y))).length<l.length)=!decide l.Nodup:=by
 have hp:=List.mergeSort_perm l fun x y=>decide (x<=y)
 have h:=A2 (L8 l);rw [hp.length_eq,hp.nodup_iff] at h;by_cases q:l.Nodup
 ·rw [dT q,decide_eq_false (fun e=>h.1 e q)];rfl
 rw [decide_eq_false q,dT (h.2 q)];rfl
end Go.Abs
end
section
namespace Go.Abs
open Go Go.Proofs
attribute [local irreducible] c8 dJ Sub Spec
section
def eC:List BA->BA->Bool
 |[],_=>false
 |y::r,v=>match y.toList==v.toList with
  |true=>true
  |false=>eC r v
def A3(v:BA):List BA->Nat->Int
 |[],_=>-1
 |y::r,i=>match v.toList==y.toList with
  |true=>i
  |false=>A3 v r (i+1)
def cu(v:BA):List Pc->Nat->Int
 |[],_=>-1
 |f::r,i=>match f.name.toList==v.toList with
  |true=>i
  |false=>cu v r (i+1)
theorem pQ{l d e:List BA}{x:BA}(h:l=d++x::e):(strs l)[((d.length:Nat):Int).toNat]? = some [aW x]:=by
 subst h;rw [Int.toNat_natCast];simp [strs]
theorem IN(a b:List UInt8):(a==b)=(b==a):=by
 by_cases h:a=b
 ·subst h;rfl
 rw [beq_eq_false_iff_ne.2 h,beq_eq_false_iff_ne.2 (Ne.symm h)]
theorem EZ(v:BA):∀(l:List BA) (i:Nat),decide (A3 v l i≥0)=eC l v
 |[],_=>rfl
 |y::r,i=>by
  simp only [A3,eC,IN v.toList y.toList];cases y.toList==v.toList with
  |true=>exact dT (show ((i:Int)≥0) by omega)
  |false=>exact EZ v r (i+1)
section
variable (G:Glob)
theorem C'(l:List BA)(v:BA)(hn:l.length<=1073741824):Spec Tryz.prog G 222 [.d (.sl 1 (strs l)),.d (aW v)] [] (.ret (.d (aD (A3 v l 0)))) []:=by
 obtain ⟨r,hG⟩:∃r,A3 v l 0=r:=⟨_,rfl⟩;rw [hG];refine sA (N:=19) Tryz.func222 ?_;refine rz [0,1] ?_;refine aa (rz [0,1,7,8] ?_);refine af (aB (fun k Y=>∃(d1 e1:List BA) ,k=e1.length/\l=d1++e1/\A3 v e1 d1.length=r/\Y=⟨[(0,.d (.sl 1 (strs l))),(1,.d (aW v)),(7,.d (aD (strs l).length)),(8,.d (aD d1.length))],[]⟩) (l.length) (⟨[],l,rfl,rfl,hG,rfl⟩) ?_);clear hG;rintro k Y ⟨d1,e1,rfl,bV,hG,rfl⟩;have bu:(strs l).length=d1.length+e1.length:=by rw [ag,bV,lA]
 have cn:d1.length+e1.length<=1073741824:=by rw [bV,lA] at hn;exact hn
 refine rz [0,1,7,8,9] ?_;refine aa (cQ rfl (fun h1=>?_) fun h1=>?_)
 ·have bO:=oT h1;rw [bu] at bO;cases e1 with
  |nil=>simp only [lN] at bO;omega
  |cons x cw=>
  subst bV;simp only [lC] at cn;simp only [A3] at hG;refine ac (aa ?_);refine af (rz [0,1,5,7,8] ?_);refine rS fun J O=>oN (eI _ (aI (pQ rfl) ?_));refine O _ (aM [0,1,5,7,8,16] ?_);clear O J;refine cQ rfl (fun h2=>?_) fun h2=>?_
  ·simp only [h2] at hG;refine rz [4] ?_;refine ae ?_;subst hG;exact lF [] [.d (aD _)]
  simp only [h2] at hG;refine ac (rG fun J O=>O _ ?_);clear O J;exact ⟨_,nS _,_,ak (slots:=[0,1,7,8]) rfl rfl,d1++[x],cw,rfl,by simp,(by rw [lA];exact hG),by rw [lA,aH (by omega) (by omega)];rfl⟩
 have bO:=oF h1;rw [bu] at bO;obtain rfl:e1=[]:=lE (by omega);simp only [A3] at hG;refine aA ?_;refine aq [] rfl rfl ?_;refine rz [4] ?_;refine ae ?_;subst hG;exact lF [] [.d (aD _)]
theorem cx(l:List BA)(v:BA)(hn:l.length<=1073741824):Spec Tryz.prog G 165 [.d (.sl 1 (strs l)),.d (aW v)] [] (.ret (.d (.s (.bool (eC l v))))) []:=by
 rw [<- EZ v l 0];refine sA (N:=9) Tryz.func165 ?_;refine rz [0,1] ?_;refine rS fun J O=>aS [] (C' G l v hn) ?_;refine O _ (aM [4] ?_);clear O J;refine ae ?_;exact lF [] [.d (.s (.bool _))]
theorem fB(l:List BA)(v:BA)(hn:l.length<=1073741824):Spec Tryz.prog G 102 [.d (.sl 1 (strs l)),.d (aW v)] [] (.ret (.d (.s (.bool (eC l v))))) []:=by
 obtain ⟨b,hG⟩:∃b,eC l v=b:=⟨_,rfl⟩;rw [hG];refine sA (N:=18) Tryz.func102 ?_;refine rz [0,1] ?_;refine aa (rz [0,1,5] ?_);refine af (aB (fun k Y=>∃(d1 e1:List BA) ,k=e1.length/\l=d1++e1/\eC e1 v=b/\Y=⟨[(0,.d (.sl 1 (strs l))),(1,.d (aW v)),(5,.d (aD d1.length))],[]⟩) (l.length) (⟨[],l,rfl,rfl,hG,rfl⟩) ?_);clear hG;rintro k Y ⟨d1,e1,rfl,bV,hG,rfl⟩;have bu:(strs l).length=d1.length+e1.length:=by rw [ag,bV,lA]
 have cn:d1.length+e1.length<=1073741824:=by rw [bV,lA] at hn;exact hn
 refine aa (rz [0,1,5,9] ?_);refine cQ rfl (fun h1=>?_) fun h1=>?_
 ·have bO:=oT h1;rw [bu] at bO;cases e1 with
  |nil=>simp only [lN] at bO;omega
  |cons x cw=>
  subst bV;simp only [lC] at cn;simp only [eC] at hG;refine ac (aa ?_);refine af (rS fun J O=>oN (eI _ (aI (pQ rfl) ?_)));refine O _ (aM [0,1,5,17] ?_);clear O J;refine cQ rfl (fun h2=>?_) fun h2=>?_
  ·simp only [h2] at hG;refine rz [4] ?_;refine ae ?_;subst hG;exact lF [] [.d (.s (.bool _))]
  simp only [h2] at hG;refine ac (rG fun J O=>O _ ?_);clear O J;exact ⟨_,nS _,_,ak (slots:=[0,1,5]) rfl rfl,d1++[x],cw,rfl,by simp,hG,by rw [lA,aH (by omega) (by omega)];rfl⟩
 have bO:=oF h1;rw [bu] at bO;obtain rfl:e1=[]:=lE (by omega);simp only [eC] at hG;refine aA ?_;refine aq [] rfl rfl ?_;refine rz [4] ?_;refine ae ?_;subst hG;exact lF [] [.d (.s (.bool _))]
theorem jy(l:List Pc)(v:BA)(hn:l.length<=1073741824):Spec Tryz.prog G 119 [.d (.sl 7 (c_ l)),.d (aW v)] [] (.ret (.d (aD (cu v l 0)))) []:=by
 obtain ⟨r,hG⟩:∃r,cu v l 0=r:=⟨_,rfl⟩;rw [hG];refine sA (N:=20) Tryz.func119 ?_;refine rz [0,1] ?_;refine aa (rz [0,1,5] ?_);refine af (aB (fun k Y=>∃(d1 e1:List Pc) ,k=e1.length/\l=d1++e1/\cu v e1 d1.length=r/\Y=⟨[(0,.d (.sl 7 (c_ l))),(1,.d (aW v)),(5,.d (aD d1.length))],[]⟩) (l.length) (⟨[],l,rfl,rfl,hG,rfl⟩) ?_);clear hG;rintro k Y ⟨d1,e1,rfl,bV,hG,rfl⟩;have bu:(c_ l).length=d1.length+e1.length:=by rw [aE,bV,lA]
 have cn:d1.length+e1.length<=1073741824:=by rw [bV,lA] at hn;exact hn
 refine aa (rz [0,1,5,9] ?_);refine cQ rfl (fun h1=>?_) fun h1=>?_
 ·have bO:=oT h1;rw [bu] at bO;cases e1 with
  |nil=>simp only [lN] at bO;omega
  |cons x cw=>
  obtain ⟨nm,ps,bd,⟨o1,n1,m1,l1⟩⟩:=x;subst bV;simp only [lC] at cn;simp only [cu] at hG;refine ac (aa ?_);refine af (rS fun J O=>oN (eI _ (aI (eM rfl) ?_)));refine O _ (aM [0,1,5,18] ?_);clear O J;refine cQ rfl (fun h2=>?_) fun h2=>?_
  ·simp only [h2] at hG;refine rz [4] ?_;refine ae ?_;subst hG;exact lF [] [.d (aD _)]
  simp only [h2] at hG;refine ac (rG fun J O=>O _ ?_);clear O J;exact ⟨_,nS _,_,ak (slots:=[0,1,5]) rfl rfl,d1++[⟨nm,ps,bd,.mk o1 n1 m1 l1⟩],cw,rfl,by simp,(by rw [lA];exact hG),by rw [lA,aH (by omega) (by omega)];rfl⟩
 have bO:=oF h1;rw [bu] at bO;obtain rfl:e1=[]:=lE (by omega);simp only [cu] at hG;refine aA ?_;refine aq [] rfl rfl ?_;refine rz [4] ?_;refine ae ?_;subst hG;exact lF [] [.d (aD _)]
theorem A4(f:Pc)(v:BA):Spec Tryz.prog G 223 [.d (.agg f.cs),.box 0 0] [.box 9 [.d (aW v)]] (.ret (.d (.s (.bool (f.name.toList==v.toList))))) [.box 9 [.d (aW v)]]:=by
 obtain ⟨nm,ps,bd,⟨o1,n1,m1,l1⟩⟩:=f;refine sA (N:=8) Tryz.func223 ?_;refine rz [1,2] ?_;refine rz [3] ?_;refine ae ?_;exact lF [0] [.d (.s (.bool _))]
theorem A5(l:List Pc)(v:BA)(hn:l.length<=1073741824):Spec Tryz.prog G 171 [.d (.sl 7 (c_ l)),.fn 223 [.box 0 0]] [.box 9 [.d (aW v)]] (.ret (.d (aD (cu v l 0)))) [.box 9 [.d (aW v)]]:=by
 obtain ⟨r,hG⟩:∃r,cu v l 0=r:=⟨_,rfl⟩;rw [hG];refine sA (N:=19) Tryz.func171 ?_;refine rz [0,1] ?_;refine aa (rz [0,1,7,8] ?_);refine af (aB (fun k Y=>∃(d1 e1:List Pc) ,k=e1.length/\l=d1++e1/\cu v e1 d1.length=r/\Y=⟨[(0,.d (.sl 7 (c_ l))),(1,.fn 223 [.box 0 0]),(7,.d (aD (c_ l).length)),(8,.d (aD d1.length))],[.box 9 [.d (aW v)]]⟩) (l.length) (⟨[],l,rfl,rfl,hG,rfl⟩) ?_);clear hG;rintro k Y ⟨d1,e1,rfl,bV,hG,rfl⟩;have bu:(c_ l).length=d1.length+e1.length:=by rw [aE,bV,lA]
 have cn:d1.length+e1.length<=1073741824:=by rw [bV,lA] at hn;exact hn
 refine rz [0,1,7,8,9] ?_;refine aa (cQ rfl (fun h1=>?_) fun h1=>?_)
 ·have bO:=oT h1;rw [bu] at bO;cases e1 with
  |nil=>simp only [lN] at bO;omega
  |cons x cw=>
  obtain ⟨nm,ps,bd,⟨o1,n1,m1,l1⟩⟩:=x;subst bV;simp only [lC] at cn;simp only [cu] at hG;refine ac (aa ?_);refine af (rz [0,1,5,7,8] ?_);refine rS fun J O=>oN (eI _ (aI (eM rfl) ?_));refine aS [0] (A4 G ⟨nm,ps,bd,.mk o1 n1 m1 l1⟩ v) ?_;refine O _ (aM [0,1,5,7,8,16] ?_);clear O J;refine cQ rfl (fun h2=>?_) fun h2=>?_
  ·simp only [h2] at hG;refine rz [4] ?_;refine ae ?_;subst hG;exact lF [0] [.d (aD _)]
  simp only [h2] at hG;refine ac (rG fun J O=>O _ ?_);clear O J;exact ⟨_,nS _,_,ak (slots:=[0,1,7,8]) rfl rfl,d1++[⟨nm,ps,bd,.mk o1 n1 m1 l1⟩],cw,rfl,by simp,(by rw [lA];exact hG),by rw [lA,aH (by omega) (by omega)];rfl⟩
 have bO:=oF h1;rw [bu] at bO;obtain rfl:e1=[]:=lE (by omega);simp only [cu] at hG;refine aA ?_;refine aq [] rfl rfl ?_;refine rz [4] ?_;refine ae ?_;subst hG;exact lF [0] [.d (aD _)]
def HC(vs ay:List BA)(ps:List Pc):List Data:=[.sl 1 (strs vs),.sl 1 (strs ay),.sl 7 (c_ ps)]
theorem wJ(vs ay:List BA)(ps:List Pc)(v:BA)(hn:ps.length<=1073741824):Spec Tryz.prog G 166 [.d (.agg (HC vs ay ps)),.d (aW v)] [] (.ret (.d (aD (cu v ps 0)))) []:=by
 refine sA (N:=9) Tryz.func166 ?_;refine rz [2,3] ?_;refine rS fun J O=>aS [1] (A5 G ps v hn) ?_;refine O _ (aM [4] ?_);clear O J;refine ae ?_;exact lF [] [.d (aD _)]
end
end
section
def A6(g:Ex->Bool):List Ex->Nat->Int
 |[],_=>-1
 |e::r,i=>match g e with
  |true=>i
  |false=>A6 g r (i+1)
theorem E0(g:Ex->Bool):∀(l:List Ex) (i:Nat),decide (A6 g l i≥0)=l.any g
 |[],_=>rfl
 |e::r,i=>by
  have key:∀b:Bool,decide ((match b with
    |true=>(i:Int)
    |false=>A6 g r (i+1))≥0)=(b||r.any g):=fun b=>by
   cases b with
   |true=>exact dT (show ((i:Int)≥0) by omega)
   |false=>simpa using E0 g r (i+1)
  exact key (g e)
mutual
def tmN(vs ay:List BA):Ex->Bool
 |.mk op _ nm l=>(match op.toList==(⟨#[118,97,114]⟩:BA).toList with
  |true=>eC vs nm
  |false=>match op.toList==(⟨#[97,116]⟩:BA).toList with
   |true=>eC ay nm
   |false=>true)&&eO vs ay l
def eO(vs ay:List BA):List Ex->Bool
 |[]=>true
 |e::r=>tmN vs ay e&&eO vs ay r
end
theorem yy(vs ay:List BA):∀l:List Ex,l.any (fun e=>!tmN vs ay e)=!eO vs ay l
 |[]=>rfl
 |e::r=>by
  simp only [List.any_cons,eO,yy vs ay r];cases tmN vs ay e <;> rfl
def A7(vs ay:List BA)(ps:List Pc):List Row:=[.box 196 [.d (.sl 1 (strs vs)),.d (.sl 1 (strs ay)),.d (.sl 7 (c_ ps))]]
section
variable (G:Glob)
theorem A8(c:FuncId)(vs ay:List BA)(ps:List Pc)(g:Ex->Bool)(l:List Ex)(hc:∀x,x∈l->Spec Tryz.prog G c [.d (.agg x.cs),.box 0 0] (A7 vs ay ps) (.ret (.d (.s (.bool (g x))))) (A7 vs ay ps))(hn:l.length<=1073741824):Spec Tryz.prog G 224 [.d (.sl 4 (bR l)),.fn c [.box 0 0]] (A7 vs ay ps) (.ret (.d (aD (A6 g l 0)))) (A7 vs ay ps):=by
 obtain ⟨r,hG⟩:∃r,A6 g l 0=r:=⟨_,rfl⟩;rw [hG];refine sA (N:=19) Tryz.func224 ?_;refine rz [0,1] ?_;refine aa (rz [0,1,7,8] ?_);refine af (aB (fun k Y=>∃(d1 e1:List Ex) ,k=e1.length/\l=d1++e1/\A6 g e1 d1.length=r/\Y=⟨[(0,.d (.sl 4 (bR l))),(1,.fn c [.box 0 0]),(7,.d (aD (bR l).length)),(8,.d (aD d1.length))],(A7 vs ay ps)⟩) (l.length) (⟨[],l,rfl,rfl,hG,rfl⟩) ?_);clear hG;rintro k Y ⟨d1,e1,rfl,bV,hG,rfl⟩;have bu:(bR l).length=d1.length+e1.length:=by rw [b7,bV,lA]
 have cn:d1.length+e1.length<=1073741824:=by rw [bV,lA] at hn;exact hn
 refine rz [0,1,7,8,9] ?_;refine aa (cQ rfl (fun h1=>?_) fun h1=>?_)
 ·have bO:=oT h1;rw [bu] at bO;cases e1 with
  |nil=>simp only [lN] at bO;omega
  |cons x cw=>
  obtain ⟨p1,n1,m1,l1⟩:=x;subst bV;simp only [lC] at cn;simp only [A6] at hG;refine ac (aa ?_);refine af (rz [0,1,5,7,8] ?_);refine rS fun J O=>oN (eI _ (aI (iZ rfl) ?_))
  refine aR [0] rfl rfl rfl (hc (.mk p1 n1 m1 l1) (by simp)) rfl rfl rfl rfl ?_;refine O _ (aM [0,1,5,7,8,16] ?_);clear O J;refine cQ rfl (fun h2=>?_) fun h2=>?_
  ·simp only [h2] at hG;refine rz [4] ?_;refine ae ?_;subst hG;exact lF [0] [.d (aD _)]
  simp only [h2] at hG;refine ac (rG fun J O=>O _ ?_);clear O J;exact ⟨_,nS _,_,ak (slots:=[0,1,7,8]) rfl rfl,d1++[.mk p1 n1 m1 l1],cw,rfl,by simp,(by rw [lA];exact hG),by rw [lA,aH (by omega) (by omega)];rfl⟩
 have bO:=oF h1;rw [bu] at bO;obtain rfl:e1=[]:=lE (by omega);simp only [A6] at hG;refine aA ?_;refine aq [] rfl rfl ?_;refine rz [4] ?_;refine ae ?_;subst hG;exact lF [0] [.d (aD _)]
theorem lX(c:FuncId)(vs ay:List BA)(ps:List Pc)(g:Ex->Bool)(l:List Ex)(hc:∀x,x∈l->Spec Tryz.prog G c [.d (.agg x.cs),.box 0 0] (A7 vs ay ps) (.ret (.d (.s (.bool (g x))))) (A7 vs ay ps))(hn:l.length<=1073741824):Spec Tryz.prog G 167 [.d (.sl 4 (bR l)),.fn c [.box 0 0]] (A7 vs ay ps) (.ret (.d (.s (.bool (l.any g))))) (A7 vs ay ps):=by
 rw [<- E0 g l 0];refine sA (N:=9) Tryz.func167 ?_;refine rz [0,1] ?_;refine rS fun J O=>aS [0] (A8 G c vs ay ps g l hc hn) ?_;refine O _ (aM [4] ?_);clear O J;refine ae ?_;exact lF [0] [.d (.s (.bool _))]
def PF(vs ay:List BA)(ps:List Pc)(m:Nat):Prop:=∀e:Ex,fuE e<=m->wtE e<=1000000000->Spec Tryz.prog G 100 [.d (.agg (HC vs ay ps)),.d (.agg e.cs)] [] (.ret (.d (.s (.bool (tmN vs ay e))))) []
theorem yz(vs ay:List BA)(ps:List Pc)(e:Ex)(b:Bool)(h:Spec Tryz.prog G 100 [.d (.agg (HC vs ay ps)),.d (.agg e.cs)] [] (.ret (.d (.s (.bool b)))) []):Spec Tryz.prog G 169 [.d (.agg e.cs),.box 0 0] (A7 vs ay ps) (.ret (.d (.s (.bool (!b))))) (A7 vs ay ps):=by
 obtain ⟨op,n,nm,l⟩:=e;refine sA (N:=8) Tryz.func169 ?_;refine rz [1,2] ?_;refine rS fun J O=>aS [] h ?_;refine O _ (aM [3] ?_);clear O J;refine ae ?_;exact lF [0] [.d (.s (.bool _))]
theorem vN(vs ay:List BA)(ps:List Pc)(e:Ex)(b:Bool)(h:Spec Tryz.prog G 100 [.d (.agg (HC vs ay ps)),.d (.agg e.cs)] [] (.ret (.d (.s (.bool b)))) []):Spec Tryz.prog G 168 [.d (.agg e.cs),.box 0 0] (A7 vs ay ps) (.ret (.d (.s (.bool (!b))))) (A7 vs ay ps):=by
 obtain ⟨op,n,nm,l⟩:=e;refine sA (N:=8) Tryz.func168 ?_;refine rz [1,2] ?_;refine rS fun J O=>aS [] h ?_;refine O _ (aM [3] ?_);clear O J;refine ae ?_;exact lF [0] [.d (.s (.bool _))]
theorem s6:∀ {l:List Ex}{x:Ex},x∈l->fuE x+1<=la l
 |e::r,x,h=>by
  simp only [la];rcases List.mem_cons.1 h with rfl|h
  ·omega
  have:=s6 h;omega
theorem pR:∀ {l:List Ex}{x:Ex},x∈l->wtE x<=gD l
 |e::r,x,h=>by
  simp only [gD];rcases List.mem_cons.1 h with rfl|h
  ·omega
  have:=pR h;omega
theorem Da(vs ay:List BA)(ps:List Pc)(hv:vs.length<=1073741824)(ha:ay.length<=1073741824)(m:Nat)(ih:PF G vs ay ps m):PF G vs ay ps (m+1):=by
 intro e hf hw;obtain ⟨op,n,nm,l⟩:=e;simp only [fuE] at hf;simp only [wtE] at hw;have bZ:=dU l;have hs:=lX G 169 vs ay ps (fun e=>!tmN vs ay e) l (fun x hx=>yz G vs ay ps x _ (ih x (by have:=s6 hx;omega) (by have:=pR hx;omega))) (by omega);rw [yy] at hs;obtain ⟨b,hG⟩:∃b,tmN vs ay (.mk op n nm l)=b:=⟨_,rfl⟩;rw [hG];simp only [tmN] at hG;refine sA (N:=30) Tryz.func100 ?_;refine rz [2,3] ?_;refine rz [2,3,5] ?_;refine aa (rz [2,3,5,7] ?_);refine af (rz [2,3,5,7,8] ?_);refine cQ rfl (fun h1=>?_) fun h1=>?_
 ·simp only [h1] at hG;refine rG fun J O=>sH ?_
  first
   |refine aS [] (cx G vs nm hv) ?_
   |refine aS [] (cx G ay nm ha) ?_
  refine O _ (aM [2,3,5] ?_);clear O J;refine rS fun J O=>?_;refine ab (fun h2=>?_) (fun h2=>?_)
  ·simp only [h2,bn] at hG;refine aS [0] hs ?_;refine O _ (aM [4] ?_);clear O J;refine ae ?_
   (try simp only [bn] at hG)
   subst hG;exact ⟨_,[],_,[.d (.s (.bool _))],rfl,rfl,rfl,rfl,rfl,by (first|exact PWs.refl _|(simp only [bn];exact PWs.refl _)),rfl⟩
  simp only [h2,bn] at hG;refine O _ (aM [4] ?_);clear O J;refine ae ?_
  (try simp only [bn] at hG)
  subst hG;exact ⟨_,[],_,[.d (.s (.bool _))],rfl,rfl,rfl,rfl,rfl,by (first|exact PWs.refl _|(simp only [bn];exact PWs.refl _)),rfl⟩
 simp only [h1] at hG;refine rz [2,3,5,15] ?_;refine cQ rfl (fun h2=>?_) fun h2=>?_
 ·simp only [h2] at hG;refine rG fun J O=>sH ?_
  first
   |refine aS [] (cx G vs nm hv) ?_
   |refine aS [] (cx G ay nm ha) ?_
  refine O _ (aM [2,3,5] ?_);clear O J;refine rS fun J O=>?_;refine ab (fun h3=>?_) (fun h3=>?_)
  ·simp only [h3,bn] at hG;refine aS [0] hs ?_;refine O _ (aM [4] ?_);clear O J;refine ae ?_
   (try simp only [bn] at hG)
   subst hG;exact ⟨_,[],_,[.d (.s (.bool _))],rfl,rfl,rfl,rfl,rfl,by (first|exact PWs.refl _|(simp only [bn];exact PWs.refl _)),rfl⟩
  simp only [h3,bn] at hG;refine O _ (aM [4] ?_);clear O J;refine ae ?_
  (try simp only [bn] at hG)
  subst hG;exact ⟨_,[],_,[.d (.s (.bool _))],rfl,rfl,rfl,rfl,rfl,by (first|exact PWs.refl _|(simp only [bn];exact PWs.refl _)),rfl⟩
 simp only [h2,bn] at hG;refine ac (rS fun J O=>aS [0] hs ?_);refine O _ (aM [4] ?_);clear O J;refine ae ?_
 (try simp only [bn] at hG)
 subst hG;exact ⟨_,[],_,[.d (.s (.bool _))],rfl,rfl,rfl,rfl,rfl,by (first|exact PWs.refl _|(simp only [bn];exact PWs.refl _)),rfl⟩
theorem wK(vs ay:List BA)(ps:List Pc)(hv:vs.length<=1073741824)(ha:ay.length<=1073741824):∀m,PF G vs ay ps m
 |0=>fun e h=>by obtain ⟨_,_,_,_⟩:=e;simp only [fuE] at h;omega
 |m+1=>Da G vs ay ps hv ha m (wK vs ay ps hv ha m)
theorem tY(vs ay:List BA)(ps:List Pc)(hv:vs.length<=1073741824)(ha:ay.length<=1073741824)(e:Ex)(hw:wtE e<=1000000000):Spec Tryz.prog G 100 [.d (.agg (HC vs ay ps)),.d (.agg e.cs)] [] (.ret (.d (.s (.bool (tmN vs ay e))))) []:=wK G vs ay ps hv ha (fuE e) e (nR _) hw
theorem r8(vs ay:List BA)(ps:List Pc)(hv:vs.length<=1073741824)(ha:ay.length<=1073741824)(l:List Ex)(hw:gD l<=1000000000):Spec Tryz.prog G 167 [.d (.sl 4 (bR l)),.fn 168 [.box 0 0]] (A7 vs ay ps) (.ret (.d (.s (.bool (!eO vs ay l))))) (A7 vs ay ps):=by
 have bZ:=dU l;have hs:=lX G 168 vs ay ps (fun e=>!tmN vs ay e) l (fun x hx=>vN G vs ay ps x _ (tY G vs ay ps hv ha x (by have:=pR hx;omega))) (by omega)
 rwa [yy] at hs
def PG(vs ay:List BA)(m:Nat):Prop:=∀e:Ex,fuE e<=m->wtE e<=1000000000->Spec Tryz.prog G 104 [.d (.agg e.cs),.d (.sl 1 (strs vs)),.d (.sl 1 (strs ay))] [] (.ret (.d (.s (.bool (tmN vs ay e))))) []
theorem Db(vs ay:List BA)(hv:vs.length<=1073741824)(ha:ay.length<=1073741824)(m:Nat)(ih:PG G vs ay m):PG G vs ay (m+1):=by
 intro e hf hw;obtain ⟨op,n,nm,l⟩:=e;simp only [fuE] at hf;simp only [wtE] at hw;have bZ:=dU l;have hn:l.length<=1073741824:=by omega
 obtain ⟨b,hG⟩:∃b,tmN vs ay (.mk op n nm l)=b:=⟨_,rfl⟩;rw [hG];simp only [tmN] at hG;refine sA (N:=52) Tryz.func104 ?_;refine rz [1,2,3] ?_;refine rS fun J O=>sH ?_
 first
  |refine aS [] (fB G vs nm hv) ?_
  |refine aS [] (fB G ay nm ha) ?_
 refine O _ (aM [1,2,3,7] ?_);clear O J;refine rS fun J O=>sH ?_
 first
  |refine aS [] (fB G vs nm hv) ?_
  |refine aS [] (fB G ay nm ha) ?_
 refine O _ (aM [1,2,3,7,8] ?_);clear O J;refine bQ (fun Z=>Z=⟨[(1,.d (.sl 1 (strs vs))),(2,.d (.sl 1 (strs ay))),(3,.box 0 0)],[.box 143 [.d (aW op),.d (aD n),.d (aW nm),.d (.sl 4 (bR l))]]⟩/\eO vs ay l=b) ?_ ?_
 ·refine rS fun J O=>?_
  refine ab (fun h1=>?_) (fun h1=>?_)
  ·try simp only [Bool.not_eq_true',Bool.not_eq_false'] at h1
   try simp only [h1] at hG
   refine ab (fun h2=>?_) (fun h2=>?_)
   ·try simp only [Bool.not_eq_true'] at h2
    try simp only [h2,bn] at hG
    refine O _ (aM [1,2,3,34] ?_);clear O J;refine aj rfl (rz [6] ?_);refine ae ?_
    (try simp only [bn] at hG)
    subst hG;exact ⟨_,[],_,[.d (.s (.bool _))],rfl,rfl,rfl,rfl,rfl,by (first|exact PWs.refl _|(simp only [bn];exact PWs.refl _)),rfl⟩
   try simp only [Bool.not_eq_false'] at h2
   try simp only [h2,bn] at hG
   refine ab (fun h3=>?_) (fun h3=>?_)
   ·try simp only [Bool.not_eq_true',Bool.not_eq_false'] at h3
    try simp only [h3,bn] at hG
    have z1:=eq_of_beq h1;rw [z1,show ((⟨#[118,97,114]⟩:BA).toList==(⟨#[97,116]⟩:BA).toList)=false from by kernel_rfl] at h3;cases h3
   try simp only [Bool.not_eq_true',Bool.not_eq_false'] at h3
   try simp only [h3,bn] at hG
   refine O _ (aM [1,2,3,34] ?_);clear O J;refine aj rfl (ac ?_);exact ⟨_,ak (slots:=[1,2,3]) rfl rfl,rfl,hG⟩
  try simp only [Bool.not_eq_true',Bool.not_eq_false'] at h1
  try simp only [h1] at hG
  refine ab (fun h2=>?_) (fun h2=>?_)
  ·try simp only [Bool.not_eq_true',Bool.not_eq_false'] at h2
   try simp only [h2] at hG
   refine O _ (aM [1,2,3,34] ?_);clear O J;refine cQ rfl (fun h3=>?_) fun h3=>?_
   ·try simp only [Bool.not_eq_true'] at h3
    try simp only [h3,bn] at hG
    refine rz [6] ?_;refine ae ?_
    (try simp only [bn] at hG)
    subst hG;exact ⟨_,[],_,[.d (.s (.bool _))],rfl,rfl,rfl,rfl,rfl,by (first|exact PWs.refl _|(simp only [bn];exact PWs.refl _)),rfl⟩
   try simp only [Bool.not_eq_false'] at h3
   try simp only [h3,bn] at hG
   refine ac ?_;exact ⟨_,ak (slots:=[1,2,3]) rfl rfl,rfl,hG⟩
  try simp only [Bool.not_eq_true',Bool.not_eq_false'] at h2
  try simp only [h2,bn] at hG
  refine O _ (aM [1,2,3,34] ?_);clear O J;refine aj rfl (ac ?_);exact ⟨_,ak (slots:=[1,2,3]) rfl rfl,rfl,hG⟩
 clear hG;rintro Z ⟨rfl,hG⟩;refine aa (rz [1,2,3,9] ?_);refine af (aB (fun k Y=>∃(d1 e1:List Ex) ,k=e1.length/\l=d1++e1/\eO vs ay e1=b/\Y=⟨[(1,.d (.sl 1 (strs vs))),(2,.d (.sl 1 (strs ay))),(3,.box 0 0),(9,.d (aD d1.length))],[.box 143 [.d (aW op),.d (aD n),.d (aW nm),.d (.sl 4 (bR l))]]⟩) (l.length) (⟨[],l,rfl,rfl,hG,rfl⟩) ?_);clear hG;rintro k Y ⟨d1,e1,rfl,bV,hG,rfl⟩;have bu:(bR l).length=d1.length+e1.length:=by rw [b7,bV,lA]
 have cn:d1.length+e1.length<=1073741824:=by rw [bV,lA] at hn;exact hn
 refine aa (rz [1,2,3,9,39] ?_);refine cQ rfl (fun h1=>?_) fun h1=>?_
 ·have bO:=oT h1;rw [bu] at bO;cases e1 with
  |nil=>simp only [lN] at bO;omega
  |cons x cw=>
  obtain ⟨p1,n1,m1,l1⟩:=x;subst bV;simp only [lC] at cn;simp only [eO] at hG;refine ac (aa ?_);refine af (rS fun J O=>oN (eI _ (aI (iZ rfl) ?_)));refine aR [] rfl rfl rfl (ih (.mk p1 n1 m1 l1) (by have:=s6 (l:=d1++.mk p1 n1 m1 l1::cw) (x:=.mk p1 n1 m1 l1) (by simp);omega) (by have:=pR (l:=d1++.mk p1 n1 m1 l1::cw) (x:=.mk p1 n1 m1 l1) (by simp);omega)) rfl rfl rfl rfl ?_;refine O _ (aM [1,2,3,9,10] ?_);clear O J;refine rz [1,2,3,9,51] ?_;refine cQ rfl (fun h2=>?_) fun h2=>?_
  ·try simp only [Bool.not_eq_true'] at h2
   try simp only [h2,bn] at hG
   refine rz [6] ?_;refine ae ?_
   (try simp only [bn] at hG)
   subst hG;exact ⟨_,[],_,[.d (.s (.bool _))],rfl,rfl,rfl,rfl,rfl,by (first|exact PWs.refl _|(simp only [bn];exact PWs.refl _)),rfl⟩
  try simp only [Bool.not_eq_false'] at h2
  try simp only [h2,bn] at hG
  refine ac (rG fun J O=>O _ ?_);clear O J;exact ⟨_,nS _,_,ak (slots:=[1,2,3,9]) rfl rfl,d1++[.mk p1 n1 m1 l1],cw,rfl,by simp,hG,by rw [lA,aH (by omega) (by omega)];rfl⟩
 have bO:=oF h1;rw [bu] at bO;obtain rfl:e1=[]:=lE (by omega);simp only [eO] at hG;refine aA ?_;refine aq [] rfl rfl ?_;refine rz [6] ?_;refine ae ?_
 (try simp only [bn] at hG)
 subst hG;exact ⟨_,[],_,[.d (.s (.bool _))],rfl,rfl,rfl,rfl,rfl,by (first|exact PWs.refl _|(simp only [bn];exact PWs.refl _)),rfl⟩
theorem ra(vs ay:List BA)(hv:vs.length<=1073741824)(ha:ay.length<=1073741824):∀m,PG G vs ay m
 |0=>fun e h=>by obtain ⟨_,_,_,_⟩:=e;simp only [fuE] at h;omega
 |m+1=>Db G vs ay hv ha m (ra vs ay hv ha m)
end
end
section
def tZ:List Ts->List Ex
 |[]=>[]
 |t::r=>t.a::t.b::tZ r
def cI:List (List Ts)->List Ex
 |[]=>[]
 |r::c=>tZ r++cI c
def Sm.terms:Sm->List Ex
 |.mk _ _ _ args cond _ _=>args++cI cond
theorem s7:∀a b:List Ts,tZ (a++b)=tZ a++tZ b
 |[],_=>rfl
 |t::a,b=>by simp only [List.cons_append,tZ,s7 a b]
theorem na:∀a b:List (List Ts),cI (a++b)=cI a++cI b
 |[],_=>rfl
 |t::a,b=>by simp only [List.cons_append,cI,na a b,List.append_assoc]
theorem t_(d:List (List Ts))(x:List Ts):cI (d++[x])=cI d++tZ x:=by rw [na];simp [cI]
theorem E1:∀a b:List Ex,bR (a++b)=bR a++bR b
 |[],_=>rfl
 |t::a,b=>by simp only [List.cons_append,bR,E1 a b]
theorem Xd(A:List Ex)(d:List Ts)(t:Ts):bR (A++tZ (d++[t]))=bR (A++tZ d)++[t.a.cs,t.b.cs]:=by rw [s7,<- List.append_assoc,E1 _ (tZ [t])];rfl
theorem E2:∀r:List Ts,(tZ r).length<=mO r
 |[]=>Nat.zero_le _
 |t::r=>by have:=E2 r;simp only [tZ,mO,HS,lC];omega
theorem nb:∀c:List (List Ts),(cI c).length<=iD c
 |[]=>Nat.zero_le _
 |r::c=>by have:=nb c;have:=E2 r;simp only [cI,iD,lA];omega
theorem L9{l:List Ex}(h:ua (.d (.sl 4 (bR l))) true):l=[]:=by
 have:=eq_of_beq (fU h);rw [b7] at this;exact lE (by omega)
section
variable (G:Glob)
theorem A9(l:List Ex)(hn:l.length<=1073741824):Spec Tryz.prog G 174 [.d (.sl 4 (bR l))] [] (.ret (.acc 0)) [.acc 157 4 (bR l)]:=by
 refine aZ b8 (N:=8) Tryz.func174 rfl (by rfl) (Nat.zero_le _) rfl ?_;refine rz [0] ?_;refine aa (rS fun J O=>?_);refine eD (fun hb=>?_) ?_
 ·obtain rfl:=L9 hb;refine O _ (aM [0,4] ?_);clear O J;refine aj rfl (rz [2] ?_);refine dV 2 157 4 rfl rfl rfl ?_;refine aq [2] rfl rfl ?_;refine ae ?_;exact lF [0] [.acc 0]
 refine O _ (aM [0,4] ?_);clear O J;refine aj rfl (ac ?_);refine rS fun J O=>?_;refine Or.inr (Or.inr ?_);refine aI (aI ((by simp only [b7,lN] at *;omega)) ((by simp only [b7,lN,maxLen] at *;omega))) ?_;refine O _ (aM [2] ?_);clear O J;refine ae ?_;exact lF [0] [.acc 0]
theorem ub(ap name proc:BA)(args:List Ex)(cond:List (List Ts))(ao aK:List Sm)(lB:args.length+(cI cond).length<=1073741000)(hc:iD cond<=1000000000):Spec Tryz.prog G 112 [.d (.agg (Sm.mk ap name proc args cond ao aK).cs)] [] (.ret (.d (.sl 4 (bR (args++cI cond))))) []:=by
 have iQ:=ky cond;have hb:cond.length<=1073741824:=by omega
 refine sA (N:=34) Tryz.func112 ?_;refine rz [1] ?_;refine rS fun J O=>?_;refine aS [] (A9 G args (by omega)) ?_;refine O _ (aM [1,3] ?_);clear O J;refine aa (rz [3,12,13,14] ?_);refine af (aB (fun k Y=>∃(d1 e1:List (List Ts)),k=e1.length/\cond=d1++e1/\Y=⟨[(3,.acc 1),(12,.d (.sl 1 (eG cond))),(13,.d (aD (eG cond).length)),(14,.d (aD d1.length))],[.box 217 [.d (aW ap),.d (aW name),.d (aW proc),.d (.sl 4 (bR args)),.d (.sl 1 (eG cond)),.d (.sl 7 (bF ao)),.d (.sl 7 (bF aK))],.acc 157 4 (bR (args++cI d1))]⟩) (cond.length) (⟨[],cond,rfl,rfl,by rw [show cI ([]:List (List Ts))=[] from rfl,List.append_nil];rfl⟩) ?_);rintro k Y ⟨d1,e1,rfl,bV,rfl⟩
 have bu:(eG cond).length=d1.length+e1.length:=by rw [cg,bV,lA]
 have cn:d1.length+e1.length<=1073741824:=by rw [bV,lA] at hb;exact hb
 refine rz [3,12,13,14,15] ?_;refine aa (cQ rfl (fun h1=>?_) fun h1=>?_)
 ·have bO:=oT h1;rw [bu] at bO;cases e1 with
  |nil=>simp only [lN] at bO;omega
  |cons x cw=>
  subst bV;simp only [lC] at cn;have Ps:=lB;simp only [na,cI,lA] at Ps;have SG:=s5 d1 (x::cw);simp only [iD] at SG;have Vh:=kx x;have mQ:x.length<=1073741824:=by omega
  refine ac (aa ?_);refine af (rS fun J O=>oN (eI _ (aI (eh rfl) ?_)));refine O _ (aM [3,5,12,13,14] ?_);clear O J;refine rz [3,12,13,14,18,19,20] ?_;refine af (aB (fun k Y=>∃(d2 e2:List Ts),k=e2.length/\x=d2++e2/\Y=⟨[(3,.acc 1),(12,.d (.sl 1 (eG (d1++x::cw)))),(13,.d (aD (eG (d1++x::cw)).length)),(14,.d (aD d1.length)),(18,.d (.sl 9 (kr x))),(19,.d (aD (kr x).length)),(20,.d (aD d2.length))],[.box 217 [.d (aW ap),.d (aW name),.d (aW proc),.d (.sl 4 (bR args)),.d (.sl 1 (eG (d1++x::cw))),.d (.sl 7 (bF ao)),.d (.sl 7 (bF aK))],.acc 157 4 (bR ((args++cI d1)++tZ d2))]⟩) (x.length) (⟨[],x,rfl,rfl,by rw [show tZ ([]:List Ts)=[] from rfl,List.append_nil];rfl⟩) ?_);rintro k Y ⟨d2,e2,rfl,du,rfl⟩;have dI:(kr x).length=d2.length+e2.length:=by rw [cf,du,lA]
  have fK:d2.length+e2.length<=1073741824:=by rw [du,lA] at mQ;exact mQ
  refine rz [3,12,13,14,18,19,20,21] ?_;refine aa (cQ rfl (fun h2=>?_) fun h2=>?_)
  ·have fe:=oT h2;rw [dI] at fe;cases e2 with
   |nil=>simp only [lN] at fe;omega
   |cons x ke=>
   obtain ⟨⟨p1,n1,m1,l1⟩,dZ,⟨p2,n2,m2,l2⟩⟩:=x;subst du;simp only [lC] at fK;simp only [s7,tZ,lA,lC] at Ps;refine ac (aa ?_);refine af (rS fun J O=>oN (eI _ (aI (eL rfl) ?_)));refine O _ (aM [3,7,12,13,14,18,19,20] ?_);clear O J;refine rG fun J O=>?_;refine aI (aI ((by simp only [b7,cf,cg,lA,ai,lC,lN] at *;omega)) ((by simp only [b7,cf,cg,lA,ai,lC,lN,maxLen] at *;omega))) ?_;refine O _ (aM [3,12,13,14,18,19,20] ?_);clear O J;refine rG fun J O=>O _ ?_;clear O J;exact ⟨_,nS _,_,aG (L:=[0,1]) (slots:=[3,12,13,14,18,19,20]) rfl rfl rfl rfl rfl,d2++[⟨.mk p1 n1 m1 l1,dZ,.mk p2 n2 m2 l2⟩],ke,rfl,by simp,by rw [Xd,lA,aH (by omega) (by omega)];rfl⟩
  have fe:=oF h2;rw [dI] at fe;obtain rfl:e2=[]:=lE (by omega);rw [List.append_nil] at du;subst du;refine aA ?_;refine aq [3,12,13,14] rfl rfl ?_;refine rG fun J O=>O _ ?_;clear O J;exact ⟨_,nS _,_,aG (L:=[0,1]) (slots:=[3,12,13,14]) rfl rfl rfl rfl rfl,d1++[x],cw,rfl,by simp,by rw [t_,<- List.append_assoc,lA,aH (by omega) (by omega)];rfl⟩
 have bO:=oF h1;rw [bu] at bO;obtain rfl:e1=[]:=lE (by omega);rw [List.append_nil] at bV;subst bV;refine aA ?_;refine aq [3] rfl rfl ?_;refine rz [2] ?_;refine ae ?_;exact lF [] [.d (.sl 4 (bR (args++cI cond)))]
def PH:Plan:=(.take 0 (.take 1 (.load 2 (.take 3 (.take 4 (.load 5 (.take 6 (.take 7 (.take 8 (.load 9 (.take 10 (.load 11 (.take 12 (.take 13 (.load 14 (.take 15 (.take 16 (.take 17 (.load 18 (.one 19 (.one 20 (.take 21 .done))))))))))))))))))))))
theorem yA(ap name proc:BA)(args:List Ex)(cond:List (List Ts))(ao aK:List Sm)(lB:args.length+(cI cond).length<=1073741000)(hc:iD cond<=1000000000):Spec Tryz.prog G 117 [.d (.agg (Sm.mk ap name proc args cond ao aK).cs)] [] (.ret (.d (.sl 4 (bR (args++cI cond))))) []:=by
 have iQ:=ky cond;have hb:cond.length<=1073741824:=by omega
 refine sA (N:=49) Tryz.func117 ?_;refine rz [1] ?_;refine rz [1,3] ?_;refine dV 3 143 4 rfl rfl rfl ?_;refine aq [1,3] rfl rfl ?_;refine rS fun J O=>?_;refine aI (aI ((by simp only [b7,lN] at *;omega)) ((by simp only [b7,lN,maxLen] at *;omega))) ?_;refine O _ (aM [1,3] ?_);clear O J;refine aa (rz [1,3,4] ?_);refine af (aB (fun k Y=>∃(d1 e1:List (List Ts)),k=e1.length/\cond=d1++e1/\Y=⟨[(1,.box 0 0),(3,.acc 1),(4,.d (aD d1.length))],[.box 228 [.d (aW ap),.d (aW name),.d (aW proc),.d (.sl 4 (bR args)),.d (.sl 1 (eG cond)),.d (.sl 7 (bF ao)),.d (.sl 7 (bF aK))],.acc 143 4 (bR (args++cI d1))]⟩) (cond.length) (⟨[],cond,rfl,rfl,by rw [show cI ([]:List (List Ts))=[] from rfl,List.append_nil];rfl⟩) ?_);rintro k Y ⟨d1,e1,rfl,bV,rfl⟩
 have bu:(eG cond).length=d1.length+e1.length:=by rw [cg,bV,lA]
 have cn:d1.length+e1.length<=1073741824:=by rw [bV,lA] at hb;exact hb
 refine aa (rz [1,3,4,14] ?_);refine cQ rfl (fun h1=>?_) fun h1=>?_
 ·have bO:=oT h1;rw [bu] at bO;cases e1 with
  |nil=>simp only [lN] at bO;omega
  |cons x cw=>
  subst bV;simp only [lC] at cn;have Ps:=lB;simp only [na,cI,lA] at Ps;have SG:=s5 d1 (x::cw);simp only [iD] at SG;have Vh:=kx x;have mQ:x.length<=1073741824:=by omega
  refine ac (aa ?_);refine af (rz [1,3,4,5] ?_);refine af (aB (fun k Y=>∃(d2 e2:List Ts),k=e2.length/\x=d2++e2/\Y=⟨[(1,.box 0 0),(3,.acc 1),(4,.d (aD d1.length)),(5,.d (aD d2.length))],[.box 228 [.d (aW ap),.d (aW name),.d (aW proc),.d (.sl 4 (bR args)),.d (.sl 1 (eG (d1++x::cw))),.d (.sl 7 (bF ao)),.d (.sl 7 (bF aK))],.acc 143 4 (bR ((args++cI d1)++tZ d2))]⟩) (x.length) (⟨[],x,rfl,rfl,by rw [show tZ ([]:List Ts)=[] from rfl,List.append_nil];rfl⟩) ?_);rintro k Y ⟨d2,e2,rfl,du,rfl⟩;have dI:(kr x).length=d2.length+e2.length:=by rw [cf,du,lA]
  have fK:d2.length+e2.length<=1073741824:=by rw [du,lA] at mQ;exact mQ
  refine aa (rS fun J O=>oN (eI _ (aI (eh rfl) ?_)));refine O _ (aM [1,3,4,5,24] ?_);clear O J;refine cQ rfl (fun h2=>?_) fun h2=>?_
  ·have fe:=oT h2;rw [dI] at fe;cases e2 with
   |nil=>simp only [lN] at fe;omega
   |cons x ke=>
   obtain ⟨⟨p1,n1,m1,l1⟩,dZ,⟨p2,n2,m2,l2⟩⟩:=x;subst du;simp only [lC] at fK;simp only [s7,tZ,lA,lC] at Ps;refine ac (aa ?_);refine af ((dW PH [20] (fun _=>true) (by kernel_rfl) fun J O=>oN (eI _ (aI (eh rfl) ?_))));refine oN (eI _ (aI (eL rfl) ?_));refine oN (eI _ (aI (eh rfl) ?_));refine oN (eI _ (aI (eL rfl) ?_));refine aI (aI ((by simp only [b7,cf,cg,lA,ai,lC,lN] at *;omega)) ((by simp only [b7,cf,cg,lA,ai,lC,lN,maxLen] at *;omega))) ?_;refine O _ (aM [1,3,4,5] ?_);clear O J;refine rG fun J O=>O _ ?_;clear O J;exact ⟨_,nS _,_,aG (L:=[0,1]) (slots:=[1,3,4,5]) rfl rfl rfl rfl rfl,d2++[⟨.mk p1 n1 m1 l1,dZ,.mk p2 n2 m2 l2⟩],ke,rfl,by simp,by rw [Xd,lA,aH (by omega) (by omega)];rfl⟩
  have fe:=oF h2;rw [dI] at fe;obtain rfl:e2=[]:=lE (by omega);rw [List.append_nil] at du;subst du;refine aA ?_;refine aq [1,3,4] rfl rfl ?_;refine rG fun J O=>O _ ?_;clear O J;exact ⟨_,nS _,_,aG (L:=[0,1]) (slots:=[1,3,4]) rfl rfl rfl rfl rfl,d1++[x],cw,rfl,by simp,by rw [t_,<- List.append_assoc,lA,aH (by omega) (by omega)];rfl⟩
 have bO:=oF h1;rw [bu] at bO;obtain rfl:e1=[]:=lE (by omega);rw [List.append_nil] at bV;subst bV;refine aA ?_;refine aq [3] rfl rfl ?_;refine rz [2] ?_;refine ae ?_;exact lF [] [.d (.sl 4 (bR (args++cI cond)))]
end
mutual
def gM:Sm->List Sm
 |.mk ap name proc args cond ao aK=>.mk ap name proc args cond ao aK::(flatB ao++flatB aK)
def flatB:List Sm->List Sm
 |[]=>[]
 |s::r=>gM s++flatB r
end
theorem gX:∀a b:List Sm,flatB (a++b)=flatB a++flatB b
 |[],_=>by simp [flatB]
 |t::a,b=>by simp only [List.cons_append,flatB,gX a b,List.append_assoc]
theorem yB:∀a b:List Sm,bF (a++b)=bF a++bF b
 |[],_=>by simp [bF]
 |t::a,b=>by simp only [List.cons_append,bF,yB a b]
mutual
theorem Gu:∀s:Sm,(gM s).length<=im s
 |.mk ap name proc args cond ao aK=>by
  have:=kj ao;have:=kj aK;simp only [gM,im,lC,lA];omega
theorem kj:∀l:List Sm,(flatB l).length<=dG l
 |[]=>by simp [flatB]
 |s::r=>by
  have:=Gu s;have:=kj r;simp only [flatB,dG,lA];omega
end
theorem Gv(d:List Sm)(ap name proc:BA)(args:List Ex)(cond:List (List Ts))(ao aK:List Sm):((bF (flatB d)++[(Sm.mk ap name proc args cond ao aK).cs])++bF (flatB ao))++bF (flatB aK)=bF (flatB (d++[.mk ap name proc args cond ao aK])):=by
 rw [gX,yB];simp only [flatB,gM,List.append_nil,bF,yB,List.append_assoc,List.cons_append,List.nil_append]
section
variable (G:Glob)
def PI(m:Nat):Prop:=∀l:List Sm,lq l<m->dG l<=1000000000->Spec Tryz.prog G 116 [.d (.sl 7 (bF l))] [] (.ret (.d (.sl 7 (bF (flatB l))))) []
theorem Gw(m:Nat)(ih:PI G m):PI G (m+1):=by
 intro l hf hw;have bZ:=kz l;have i6:l.length<=1073741824:=by omega
 refine sA (N:=35) Tryz.func116 ?_;refine rz [0] ?_;refine rz [0,3] ?_;refine dV 3 228 7 rfl rfl rfl ?_;refine aq [0,3] rfl rfl ?_;refine aa (rz [0,3,4] ?_);refine af (aB (fun k Y=>∃(d1 e1:List Sm),k=e1.length/\l=d1++e1/\Y=⟨[(0,.d (.sl 7 (bF l))),(3,.acc 0),(4,.d (aD d1.length))],[.acc 228 7 (bF (flatB d1))]⟩) (l.length) (⟨[],l,rfl,rfl,rfl⟩) ?_);rintro k Y ⟨d1,e1,rfl,bV,rfl⟩;have bu:(bF l).length=d1.length+e1.length:=by rw [aL,bV,lA]
 have cn:d1.length+e1.length<=1073741824:=by rw [bV,lA] at i6;exact i6
 refine aa (rz [0,3,4,8] ?_);refine cQ rfl (fun h1=>?_) fun h1=>?_
 ·have bO:=oT h1;rw [bu] at bO;cases e1 with
  |nil=>simp only [lN] at bO;omega
  |cons x cw=>
  obtain ⟨ap,name,proc,args,cond,ao,aK⟩:=x;subst bV;simp only [lC] at cn;have Pp:=s3 d1 (.mk ap name proc args cond ao aK::cw);have yu:=s4 d1 (.mk ap name proc args cond ao aK::cw);simp only [lq,pz,dG,im] at Pp yu;have Ld:=kj (d1++.mk ap name proc args cond ao aK::cw);simp only [gX,flatB,gM,lA,lC] at Ld;refine ac (aa ?_);refine af (rS fun J O=>oN (eI _ (aI (ed rfl) ?_)));refine aI (aI ((by simp only [aL,lA,ai,lC,lN] at *;omega)) ((by simp only [aL,lA,ai,lC,lN,maxLen] at *;omega))) ?_;refine O _ (aM [0,3,4] ?_);clear O J;refine rS fun J O=>oN (eI _ (aI (ed rfl) ?_));refine aS [] (ih ao (by omega) (by omega)) ?_;refine aI (aI ((by simp only [aL,lA,ai,lC,lN] at *;omega)) ((by simp only [aL,lA,ai,lC,lN,maxLen] at *;omega))) ?_;refine O _ (aM [0,3,4] ?_);clear O J;refine rG fun J O=>oN (eI _ (aI (ed rfl) ?_));refine aS [] (ih aK (by omega) (by omega)) ?_;refine aI (aI ((by simp only [aL,lA,ai,lC,lN] at *;omega)) ((by simp only [aL,lA,ai,lC,lN,maxLen] at *;omega))) ?_;refine O _ (aM [0,3,4] ?_);clear O J;refine rG fun J O=>O _ ?_;clear O J;exact ⟨_,nS _,_,aG (L:=[0]) (slots:=[0,3,4]) rfl rfl rfl rfl rfl,d1++[.mk ap name proc args cond ao aK],cw,rfl,by simp,by rw [<- Gv,lA,aH (by omega) (by omega)];rfl⟩
 have bO:=oF h1;rw [bu] at bO;obtain rfl:e1=[]:=lE (by omega);rw [List.append_nil] at bV;subst bV;refine aA ?_;refine aq [3] rfl rfl ?_;refine rz [2] ?_;refine ae ?_;exact lF [] [.d (.sl 7 (bF (flatB l)))]
theorem A_:∀m,PI G m
 |0=>fun l h=>absurd h (by omega)
 |m+1=>Gw G m (A_ m)
theorem wL(l:List Sm)(hw:dG l<=1000000000):Spec Tryz.prog G 116 [.d (.sl 7 (bF l))] [] (.ret (.d (.sl 7 (bF (flatB l))))) []:=A_ G (lq l+1) l (nS _) hw
def yC(vs ay:List BA)(ps:List Pc)(ok:Bool):List Row:=[.box 4 [.d (.s (.bool ok))],.box 196 [.d (.sl 1 (strs vs)),.d (.sl 1 (strs ay)),.d (.sl 7 (c_ ps))]]
theorem Gx(g:Sm->Bool)(ok:Bool)(d:List Sm)(ap name proc:BA)(args:List Ex)(cond:List (List Ts))(ao aK:List Sm):((((ok&&(flatB d).all g)&&g (.mk ap name proc args cond ao aK))&&(flatB ao).all g)&&(flatB aK).all g)=(ok&&(flatB (d++[.mk ap name proc args cond ao aK])).all g):=by
 rw [gX];simp only [flatB,gM,List.append_nil,List.all_append,List.all_cons,Bool.and_assoc]
def PJ(vs ay:List BA)(ps:List Pc)(c:FuncId)(g:Sm->Bool)(m:Nat):Prop:=∀(l:List Sm) (ok:Bool),lq l<m->dG l<=1000000000->(∀x,x∈flatB l->∀ok,Spec Tryz.prog G c [.d (.agg x.cs),.box 0 0,.box 1 0] (yC vs ay ps ok) (.ret (.tup [])) (yC vs ay ps (ok&&g x)))->
 Spec Tryz.prog G 113 [.d (.sl 7 (bF l)),.fn c [.box 0 0,.box 1 0]] (yC vs ay ps ok) (.ret (.tup [])) (yC vs ay ps (ok&&(flatB l).all g))
theorem Gy(vs ay:List BA)(ps:List Pc)(c:FuncId)(g:Sm->Bool)(m:Nat)(ih:PJ G vs ay ps c g m):PJ G vs ay ps c g (m+1):=by
 intro l ok hf hw hc;have bZ:=kz l;have i6:l.length<=1073741824:=by omega
 refine sA (N:=24) Tryz.func113 ?_;refine rz [1,6,7,8] ?_;refine af (aB (fun k Y=>∃(d1 e1:List Sm),k=e1.length/\l=d1++e1/\Y=⟨[(1,.fn c [.box 0 0,.box 1 0]),(6,.d (.sl 7 (bF l))),(7,.d (aD (bF l).length)),(8,.d (aD d1.length))],(yC vs ay ps (ok&&(flatB d1).all g))⟩) (l.length) (⟨[],l,rfl,rfl,by rw [show (flatB ([]:List Sm)).all g=true from rfl,Bool.and_true];rfl⟩) ?_);rintro k Y ⟨d1,e1,rfl,bV,rfl⟩;have bu:(bF l).length=d1.length+e1.length:=by rw [aL,bV,lA]
 have cn:d1.length+e1.length<=1073741824:=by rw [bV,lA] at i6;exact i6
 refine rz [1,6,7,8,9] ?_;refine aa (cQ rfl (fun h1=>?_) fun h1=>?_)
 ·have bO:=oT h1;rw [bu] at bO;cases e1 with
  |nil=>simp only [lN] at bO;omega
  |cons x cw=>
  obtain ⟨ap,name,proc,args,cond,ao,aK⟩:=x;subst bV;simp only [lC] at cn;have Pp:=s3 d1 (.mk ap name proc args cond ao aK::cw);have yu:=s4 d1 (.mk ap name proc args cond ao aK::cw);simp only [lq,pz,dG,im] at Pp yu;have PK : .mk ap name proc args cond ao aK∈flatB (d1++.mk ap name proc args cond ao aK::cw):=by rw [gX];simp [flatB,gM]
  have YG:∀y,y∈flatB ao->y∈flatB (d1++.mk ap name proc args cond ao aK::cw):=fun y hy=>by rw [gX];simp [flatB,gM,hy]
  have L_:∀y,y∈flatB aK->y∈flatB (d1++.mk ap name proc args cond ao aK::cw):=fun y hy=>by rw [gX];simp [flatB,gM,hy]
  refine ac (aa ?_);refine af (rS fun J O=>oN (eI _ (aI (ed rfl) ?_)));refine O _ (aM [1,5,6,7,8] ?_);clear O J;refine rS fun J O=>aS [0,1] (hc _ PK _) ?_;refine O _ (aM [1,5,6,7,8] ?_);clear O J;refine rS fun J O=>?_;refine aR [0,1] rfl rfl rfl (ih ao _ (by omega) (by omega) (fun y hy=>hc y (YG y hy))) rfl rfl rfl rfl ?_;refine O _ (aM [1,5,6,7,8] ?_);clear O J;refine rG fun J O=>?_;refine aR [0,1] rfl rfl rfl (ih aK _ (by omega) (by omega) (fun y hy=>hc y (L_ y hy))) rfl rfl rfl rfl ?_;refine O _ (aM [1,6,7,8] ?_);clear O J;refine rG fun J O=>O _ ?_;clear O J;exact ⟨_,nS _,_,aG (L:=[0,1]) (slots:=[1,6,7,8]) rfl rfl rfl rfl rfl,d1++[.mk ap name proc args cond ao aK],cw,rfl,by simp,by rw [<- Gx,lA,aH (by omega) (by omega)];rfl⟩
 have bO:=oF h1;rw [bu] at bO;obtain rfl:e1=[]:=lE (by omega);rw [List.append_nil] at bV;subst bV;refine aA ?_;exact lF [0,1] [] (h6:=PWs.nil)
theorem uc(vs ay:List BA)(ps:List Pc)(c:FuncId)(g:Sm->Bool):∀m,PJ G vs ay ps c g m
 |0=>fun l ok h=>absurd h (by omega)
 |m+1=>Gy G vs ay ps c g m (uc vs ay ps c g m)
end
end
section
def pT(vs ay:List BA)(ps:List Pc)(ap name proc:BA):Bool:=match (ap.toList==(⟨#[115,101,116]⟩:BA).toList) with
 |true=>eC vs name
 |false=>match (ap.toList==(⟨#[114,101,97,100]⟩:BA).toList) with
  |true=>eC vs name
  |false=>match (ap.toList==(⟨#[112,117,116]⟩:BA).toList) with
   |true=>eC ay name
   |false=>match (ap.toList==(⟨#[99,97,108,108]⟩:BA).toList) with
    |true=>eC vs name&&decide (cu proc ps 0≥0)
    |false=>true
def gu(vs ay:List BA)(ps:List Pc):Sm->Bool
 |.mk ap name proc args cond _ _=>pT vs ay ps ap name proc&&eO vs ay (args++cI cond)
section
variable (G:Glob)
theorem IP:∀r:List Ts,gD (tZ r)<=mO r
 |[]=>by simp [tZ,gD]
 |t::r=>by have:=IP r;simp only [tZ,gD,mO,HS];omega
theorem pU:∀c:List (List Ts),gD (cI c)<=iD c
 |[]=>by simp [cI,gD]
 |r::c=>by have:=pU c;have:=IP r;simp only [cI,iD,m0];omega
theorem IQ(vs ay:List BA)(ps:List Pc)(hv:vs.length<=1073741824)(ha:ay.length<=1073741824)(vO:ps.length<=1073741824)(ap name proc:BA)(args:List Ex)(cond:List (List Ts))(ao aK:List Sm)(hw:gD args+iD cond<=500000000):Spec Tryz.prog G 164 [.d (.agg (Sm.mk ap name proc args cond ao aK).cs),.box 0 0,.box 1 0] (yC vs ay ps true) (.ret (.tup [])) (yC vs ay ps (gu vs ay ps (.mk ap name proc args cond ao aK))):=by
 have vB:=dU args;have iQ:=nb cond;have Un:gD (args++cI cond)<=1000000000:=by rw [m0];have:=pU cond;omega
 have ht:=ub G ap name proc args cond ao aK (by omega) (by omega);have hs:=r8 G vs ay ps hv ha (args++cI cond) Un;obtain ⟨b,hG⟩:∃b,gu vs ay ps (.mk ap name proc args cond ao aK)=b:=⟨_,rfl⟩;rw [hG];simp only [gu,pT] at hG;refine sA (N:=52) Tryz.func164 ?_;refine rz [1,2,3] ?_;refine aa (rz [1,2,3,5] ?_);refine af (aa ?_);refine rz [1,2,3,5,6] ?_;refine cQ rfl (fun h1=>?_) fun h1=>?_
 ·try simp only [h1] at hG
  refine ac (aj rfl ?_);refine rG fun J O=>sH ?_
  first
   |refine aS [] (cx G vs name hv) ?_
   |refine aS [] (cx G ay name ha) ?_
  refine O _ (aM [1,2,3] ?_);clear O J;refine rG fun J O=>?_;refine ab (fun h2=>?_) (fun h2=>?_)
  ·try simp only [h2,bn] at hG
   refine aS [] ht ?_;refine sH ?_;cases hr:eO vs ay (args++cI cond) with
   |true=>
    rw [hr] at hs;try simp only [hr] at hG
    refine aS [1] hs ?_;refine O _ ?_;clear O J
    (try simp only [bn] at hG)
    subst hG;exact lF [0,1] [] (h6:=PWs.nil)
   |false=>
    rw [hr] at hs;try simp only [hr] at hG
    refine aS [1] hs ?_;refine O _ ?_;clear O J
    (try simp only [bn] at hG)
    subst hG;exact lF [0,1] [] (h6:=PWs.nil)
  try simp only [h2,bn] at hG
  refine O _ ?_;clear O J
  (try simp only [bn] at hG)
  subst hG;exact lF [0,1] [] (h6:=PWs.nil)
 try simp only [h1] at hG
 refine rG fun J O=>O _ (aM [1,2,3,5,6] ?_);clear O J;refine cQ rfl (fun h2=>?_) fun h2=>?_
 ·try simp only [h2] at hG
  refine rG fun J O=>sH ?_
  first
   |refine aS [] (cx G vs name hv) ?_
   |refine aS [] (cx G ay name ha) ?_
  refine O _ (aM [1,2,3] ?_);clear O J;refine rG fun J O=>?_;refine ab (fun h3=>?_) (fun h3=>?_)
  ·try simp only [h3,bn] at hG
   refine aS [] ht ?_;refine sH ?_;cases hr:eO vs ay (args++cI cond) with
   |true=>
    rw [hr] at hs;try simp only [hr] at hG
    refine aS [1] hs ?_;refine O _ ?_;clear O J
    (try simp only [bn] at hG)
    subst hG;exact lF [0,1] [] (h6:=PWs.nil)
   |false=>
    rw [hr] at hs;try simp only [hr] at hG
    refine aS [1] hs ?_;refine O _ ?_;clear O J
    (try simp only [bn] at hG)
    subst hG;exact lF [0,1] [] (h6:=PWs.nil)
  try simp only [h3,bn] at hG
  refine O _ ?_;clear O J
  (try simp only [bn] at hG)
  subst hG;exact lF [0,1] [] (h6:=PWs.nil)
 try simp only [h2] at hG
 refine rz [1,2,3,5,17] ?_;refine cQ rfl (fun h3=>?_) fun h3=>?_
 ·try simp only [h3] at hG
  refine rG fun J O=>sH ?_
  first
   |refine aS [] (cx G vs name hv) ?_
   |refine aS [] (cx G ay name ha) ?_
  refine O _ (aM [1,2,3] ?_);clear O J;refine rG fun J O=>?_;refine ab (fun h4=>?_) (fun h4=>?_)
  ·try simp only [h4,bn] at hG
   refine aS [] ht ?_;refine sH ?_;cases hr:eO vs ay (args++cI cond) with
   |true=>
    rw [hr] at hs;try simp only [hr] at hG
    refine aS [1] hs ?_;refine O _ ?_;clear O J
    (try simp only [bn] at hG)
    subst hG;exact lF [0,1] [] (h6:=PWs.nil)
   |false=>
    rw [hr] at hs;try simp only [hr] at hG
    refine aS [1] hs ?_;refine O _ ?_;clear O J
    (try simp only [bn] at hG)
    subst hG;exact lF [0,1] [] (h6:=PWs.nil)
  try simp only [h4,bn] at hG
  refine O _ ?_;clear O J
  (try simp only [bn] at hG)
  subst hG;exact lF [0,1] [] (h6:=PWs.nil)
 try simp only [h3] at hG
 refine rz [1,2,3,27] ?_;refine cQ rfl (fun h4=>?_) fun h4=>?_
 ·try simp only [h4] at hG
  refine rG fun J O=>sH ?_
  first
   |refine aS [] (cx G vs name hv) ?_
   |refine aS [] (cx G ay name ha) ?_
  refine ab (fun h5=>?_) (fun h5=>?_)
  ·try simp only [h5,bn] at hG
   refine aS [] (wJ G vs ay ps proc vO) ?_;refine O _ (aM [1,2,3] ?_);clear O J;refine rG fun J O=>?_;refine ab (fun h6=>?_) (fun h6=>?_)
   ·try simp only [h6,bn] at hG
    refine aS [] ht ?_;refine sH ?_;cases hr:eO vs ay (args++cI cond) with
    |true=>
     rw [hr] at hs;try simp only [hr] at hG
     refine aS [1] hs ?_;refine O _ ?_;clear O J
     (try simp only [bn] at hG)
     subst hG;exact lF [0,1] [] (h6:=PWs.nil)
    |false=>
     rw [hr] at hs;try simp only [hr] at hG
     refine aS [1] hs ?_;refine O _ ?_;clear O J
     (try simp only [bn] at hG)
     subst hG;exact lF [0,1] [] (h6:=PWs.nil)
   try simp only [h6,bn] at hG
   refine O _ ?_;clear O J
   (try simp only [bn] at hG)
   subst hG;exact lF [0,1] [] (h6:=PWs.nil)
  try simp only [h5,bn] at hG
  refine O _ (aM [1,2,3] ?_);clear O J;refine rG fun J O=>O _ ?_;clear O J
  (try simp only [bn] at hG)
  subst hG;exact lF [0,1] [] (h6:=PWs.nil)
 try simp only [h4,bn] at hG
 refine ac (rG fun J O=>aS [] ht ?_);refine sH ?_;cases hr:eO vs ay (args++cI cond) with
 |true=>
  rw [hr] at hs;try simp only [hr] at hG
  refine aS [1] hs ?_;refine O _ ?_;clear O J
  (try simp only [bn] at hG)
  subst hG;exact lF [0,1] [] (h6:=PWs.nil)
 |false=>
  rw [hr] at hs;try simp only [hr] at hG
  refine aS [1] hs ?_;refine O _ ?_;clear O J
  (try simp only [bn] at hG)
  subst hG;exact lF [0,1] [] (h6:=PWs.nil)
theorem Gz(vs ay:List BA)(ps:List Pc)(hv:vs.length<=1073741824)(ha:ay.length<=1073741824)(vO:ps.length<=1073741824)(ap name proc:BA)(args:List Ex)(cond:List (List Ts))(ao aK:List Sm)(hw:gD args+iD cond<=500000000):Spec Tryz.prog G 164 [.d (.agg (Sm.mk ap name proc args cond ao aK).cs),.box 0 0,.box 1 0] (yC vs ay ps false) (.ret (.tup [])) (yC vs ay ps (false)):=by
 have vB:=dU args;have iQ:=nb cond;have Un:gD (args++cI cond)<=1000000000:=by rw [m0];have:=pU cond;omega
 have ht:=ub G ap name proc args cond ao aK (by omega) (by omega);have hs:=r8 G vs ay ps hv ha (args++cI cond) Un;refine sA (N:=52) Tryz.func164 ?_;refine rz [1,2,3] ?_;refine aa (rz [1,2,3,5] ?_);refine af (aa ?_);refine rz [1,2,3,5,6] ?_;refine cQ rfl (fun h1=>?_) fun h1=>?_
 ·refine ac (aj rfl ?_);refine rG fun J O=>O _ (aM [1,2,3] ?_);clear O J;refine rG fun J O=>O _ ?_;clear O J
  exact lF [0,1] [] (h6:=PWs.nil)
 refine rG fun J O=>O _ (aM [1,2,3,5,6] ?_);clear O J;refine cQ rfl (fun h2=>?_) fun h2=>?_
 ·refine rG fun J O=>O _ (aM [1,2,3] ?_);clear O J;refine rG fun J O=>O _ ?_;clear O J
  exact lF [0,1] [] (h6:=PWs.nil)
 refine rz [1,2,3,5,17] ?_;refine cQ rfl (fun h3=>?_) fun h3=>?_
 ·refine rG fun J O=>O _ (aM [1,2,3] ?_);clear O J;refine rG fun J O=>O _ ?_;clear O J
  exact lF [0,1] [] (h6:=PWs.nil)
 refine rz [1,2,3,27] ?_;refine cQ rfl (fun h4=>?_) fun h4=>?_
 ·refine rG fun J O=>O _ (aM [1,2,3] ?_);clear O J;refine rG fun J O=>O _ ?_;clear O J
  exact lF [0,1] [] (h6:=PWs.nil)
 refine ac (rG fun J O=>O _ ?_);clear O J;exact lF [0,1] [] (h6:=PWs.nil)
theorem IR(vs ay:List BA)(ps:List Pc)(hv:vs.length<=1073741824)(ha:ay.length<=1073741824)(vO:ps.length<=1073741824)(s:Sm)(hw:im s<=500000000)(ok:Bool):Spec Tryz.prog G 164 [.d (.agg s.cs),.box 0 0,.box 1 0] (yC vs ay ps ok) (.ret (.tup [])) (yC vs ay ps (ok&&gu vs ay ps s)):=by
 obtain ⟨ap,name,proc,args,cond,ao,aK⟩:=s;simp only [im] at hw;cases ok with
 |true=>rw [Bool.true_and];exact IQ G vs ay ps hv ha vO ap name proc args cond ao aK (by omega)
 |false=>exact Gz G vs ay ps hv ha vO ap name proc args cond ao aK (by omega)
mutual
theorem IS:∀(s x:Sm),x∈gM s->im x<=im s
 |.mk ap name proc args cond ao aK,x,h=>by
  simp only [gM,List.mem_cons,List.mem_append] at h;rcases h with rfl|h|h
  ·exact nR _
  ·have:=pV ao x h;simp only [im];omega
  have:=pV aK x h;simp only [im];omega
theorem pV:∀(l:List Sm) (x:Sm),x∈flatB l->im x<=dG l
 |[],x,h=>by simp [flatB] at h
 |s::r,x,h=>by
  simp only [flatB,List.mem_append] at h;rcases h with h|h
  ·have:=IS s x h;simp only [dG];omega
  have:=pV r x h;simp only [dG];omega
end
theorem ud(vs ay:List BA)(ps:List Pc)(hv:vs.length<=1073741824)(ha:ay.length<=1073741824)(vO:ps.length<=1073741824)(l:List Sm)(hw:dG l<=500000000):Spec Tryz.prog G 99 [.d (.agg (HC vs ay ps)),.d (.sl 7 (bF l))] [] (.ret (.d (.s (.bool ((flatB l).all (gu vs ay ps)))))) []:=by
 have hk:=uc G vs ay ps 164 (gu vs ay ps) (lq l+1) l true (nS _) (by omega) (fun x hx ok=>IR G vs ay ps hv ha vO x (by have:=pV l x hx;omega) ok);rw [Bool.true_and] at hk;refine sA (N:=10) Tryz.func99 ?_;refine rz [1,2] ?_;refine rz [1,2,5] ?_;refine rS fun J O=>aS [1,0] hk ?_;refine O _ (aM [5] ?_);clear O J;refine rz [4] ?_;refine ae ?_;exact lF [] [.d (.s (.bool _))]
theorem lY(vs ay:List BA)(ps:List Pc)(hv:vs.length<=1073741824)(ha:ay.length<=1073741824)(vO:ps.length<=1073741824)(l:List Sm)(hw:dG l<=500000000):Spec Tryz.prog G 103 [.d (.sl 7 (bF l)),.d (.sl 1 (strs vs)),.d (.sl 1 (strs ay)),.d (.sl 7 (c_ ps))] [] (.ret (.d (.s (.bool ((flatB l).all (gu vs ay ps)))))) []:=by
 have Ld:=wL G l (by omega);have SH:=kj l;have HD:∀x,x∈flatB l->im x<=500000000:=fun x hx=>Nat.le_trans (pV l x hx) hw;obtain ⟨F,PL⟩:∃F,flatB l=F:=⟨_,rfl⟩;rw [PL] at Ld SH HD;have hF:∀x,x∈F->im x<=500000000:=HD
 have hn:F.length<=1073741824:=by omega
 obtain ⟨b,hG⟩:∃b,(flatB l).all (gu vs ay ps)=b:=⟨_,rfl⟩;rw [hG];rw [PL] at hG;clear PL SH HD;refine sA (N:=89) Tryz.func103 ?_;refine rz [0,1,2,3] ?_;refine rS fun J O=>aS [] Ld ?_;refine O _ (aM [0,1,2,3] ?_);clear O J;refine aa (rz [0,1,2,3,9] ?_);refine af (aB (fun k Y=>∃(d1 e1:List Sm) ,k=e1.length/\F=d1++e1/\e1.all (gu vs ay ps)=b/\Y=⟨[(0,.d (.sl 7 (bF F))),(1,.d (.sl 1 (strs vs))),(2,.d (.sl 1 (strs ay))),(3,.d (.sl 7 (c_ ps))),(9,.d (aD d1.length))],[]⟩) (F.length) (⟨[],F,rfl,rfl,hG,rfl⟩) ?_);clear hG;rintro k Y ⟨d1,e1,rfl,bV,hG,rfl⟩
 have bu:(bF F).length=d1.length+e1.length:=by rw [aL,bV,lA]
 have cn:d1.length+e1.length<=1073741824:=by rw [bV,lA] at hn;exact hn
 refine aa (rz [0,1,2,3,9,21] ?_);refine cQ rfl (fun h1=>?_) fun h1=>?_
 ·have bO:=oT h1;rw [bu] at bO;cases e1 with
  |nil=>simp only [lN] at bO;omega
  |cons x cw=>
  obtain ⟨ap,name,proc,args,cond,ao,aK⟩:=x;subst bV;simp only [lC] at cn;simp only [List.all_cons,gu,pT] at hG;have yu:=hF (.mk ap name proc args cond ao aK) (by simp);simp only [im] at yu;have vB:=dU args;have iQ:=nb cond;have Un:gD (args++cI cond)<=1000000000:=by rw [m0];have:=pU cond;omega
  have ht:=yA G ap name proc args cond ao aK (by omega) (by omega);refine ac (aa ?_);refine af (rS fun J O=>oN (eI _ (aI (ed rfl) ?_)));refine O _ (aM [0,1,2,3,9,10] ?_);clear O J;refine rS fun J O=>sH ?_
  first
   |refine aS [] (fB G vs name hv) ?_
   |refine aS [] (fB G ay name ha) ?_
  refine O _ (aM [0,1,2,3,9,10,11] ?_);clear O J;refine rS fun J O=>sH ?_
  first
   |refine aS [] (fB G vs name hv) ?_
   |refine aS [] (fB G ay name ha) ?_
  refine O _ (aM [0,1,2,3,9,10,11,12] ?_);clear O J;refine bQ (fun Z=>Z=⟨[(0,.d (.sl 7 (bF (d1++.mk ap name proc args cond ao aK::cw)))),(1,.d (.sl 1 (strs vs))),(2,.d (.sl 1 (strs ay))),(3,.d (.sl 7 (c_ ps))),(9,.d (aD d1.length)),(10,.box 0 0)],[.box 228 [.d (aW ap),.d (aW name),.d (aW proc),.d (.sl 4 (bR args)),.d (.sl 1 (eG cond)),.d (.sl 7 (bF ao)),.d (.sl 7 (bF aK))]]⟩/\((match (ap.toList==(⟨#[99,97,108,108]⟩:BA).toList) with|true=>decide (cu proc ps 0≥0)|false=>true)&&(eO vs ay (args++cI cond)&&cw.all (gu vs ay ps)))=b) ?_ ?_
  ·refine rS fun J O=>?_
   refine ab (fun h2=>?_) (fun h2=>?_)
   ·have N3:(ap.toList==(⟨#[99,97,108,108]⟩:BA).toList)=false:=by rw [eq_of_beq h2];kernel_rfl
    try simp only [h2] at hG
    refine ab (fun h3=>?_) (fun h3=>?_)
    ·try simp only [Bool.not_eq_true'] at h3
     try simp only [h3,bn] at hG
     refine O _ (aM [0,1,2,3,9,10,61] ?_);clear O J;refine aj rfl (rz [8] ?_);refine ae ?_
     (try simp only [bn] at hG)
     subst hG;exact lF [] [.d (.s (.bool _))]
    try simp only [Bool.not_eq_false'] at h3
    try simp only [h3,bn] at hG
    refine ab (fun h4=>?_) (fun h4=>?_)
    ·try simp only [h4,bn] at hG
     have z1:=eq_of_beq h2;rw [z1,show ((⟨#[115,101,116]⟩:BA).toList==(⟨#[112,117,116]⟩:BA).toList)=false from by kernel_rfl] at h4;cases h4
    try simp only [h4,bn] at hG
    refine O _ (aM [0,1,2,3,9,10,61] ?_);clear O J;refine aj rfl (ac ?_);exact ⟨_,ak (slots:=[0,1,2,3,9,10]) rfl rfl,rfl,by simp only [N3,bn];(try simp only [Bool.and_assoc] at hG);exact hG⟩
   try simp only [h2] at hG
   refine ab (fun h3=>?_) (fun h3=>?_)
   ·have N3:(ap.toList==(⟨#[99,97,108,108]⟩:BA).toList)=false:=by rw [eq_of_beq h3];kernel_rfl
    try simp only [h3] at hG
    refine ab (fun h4=>?_) (fun h4=>?_)
    ·try simp only [Bool.not_eq_true'] at h4
     try simp only [h4,bn] at hG
     refine O _ (aM [0,1,2,3,9,10,61] ?_);clear O J;refine aj rfl (rz [8] ?_);refine ae ?_
     (try simp only [bn] at hG)
     subst hG;exact lF [] [.d (.s (.bool _))]
    try simp only [Bool.not_eq_false'] at h4
    try simp only [h4,bn] at hG
    refine ab (fun h5=>?_) (fun h5=>?_)
    ·try simp only [h5,bn] at hG
     have z1:=eq_of_beq h3;rw [z1,show ((⟨#[114,101,97,100]⟩:BA).toList==(⟨#[112,117,116]⟩:BA).toList)=false from by kernel_rfl] at h5;cases h5
    try simp only [h5,bn] at hG
    refine O _ (aM [0,1,2,3,9,10,61] ?_);clear O J;refine aj rfl (ac ?_);exact ⟨_,ak (slots:=[0,1,2,3,9,10]) rfl rfl,rfl,by simp only [N3,bn];(try simp only [Bool.and_assoc] at hG);exact hG⟩
   try simp only [h3] at hG
   refine ab (fun h4=>?_) (fun h4=>?_)
   ·have YH:(ap.toList==(⟨#[112,117,116]⟩:BA).toList)=false:=by rw [eq_of_beq h4];kernel_rfl
    try simp only [YH] at hG
    have N3:=h4;try simp only [h4] at hG
    refine ab (fun h5=>?_) (fun h5=>?_)
    ·try simp only [Bool.not_eq_true'] at h5
     try simp only [h5,bn] at hG
     refine O _ (aM [0,1,2,3,9,10,61] ?_);clear O J;refine aj rfl (rz [8] ?_);refine ae ?_
     (try simp only [bn] at hG)
     subst hG;exact lF [] [.d (.s (.bool _))]
    try simp only [Bool.not_eq_false'] at h5
    try simp only [h5,bn] at hG
    refine ab (fun h6=>?_) (fun h6=>?_)
    ·try simp only [h6,bn] at hG
     have z1:=eq_of_beq h4;rw [z1,show ((⟨#[99,97,108,108]⟩:BA).toList==(⟨#[112,117,116]⟩:BA).toList)=false from by kernel_rfl] at h6;cases h6
    try simp only [h6,bn] at hG
    refine O _ (aM [0,1,2,3,9,10,61] ?_);clear O J;refine aj rfl (ac ?_);exact ⟨_,ak (slots:=[0,1,2,3,9,10]) rfl rfl,rfl,by simp only [N3];(try simp only [Bool.and_assoc] at hG);exact hG⟩
   have N3:=h4;try simp only [h4] at hG
   refine ab (fun h5=>?_) (fun h5=>?_)
   ·try simp only [h5] at hG
    refine O _ (aM [0,1,2,3,9,10,61] ?_);clear O J;refine cQ rfl (fun h6=>?_) fun h6=>?_
    ·try simp only [Bool.not_eq_true'] at h6
     try simp only [h6,bn] at hG
     refine rz [8] ?_;refine ae ?_
     (try simp only [bn] at hG)
     subst hG;exact lF [] [.d (.s (.bool _))]
    try simp only [Bool.not_eq_false'] at h6
    try simp only [h6,bn] at hG
    refine ac ?_;exact ⟨_,ak (slots:=[0,1,2,3,9,10]) rfl rfl,rfl,by simp only [N3,bn];(try simp only [Bool.and_assoc] at hG);exact hG⟩
   try simp only [h5,bn] at hG
   refine O _ (aM [0,1,2,3,9,10,61] ?_);clear O J;refine aj rfl (ac ?_);exact ⟨_,ak (slots:=[0,1,2,3,9,10]) rfl rfl,rfl,by simp only [N3,bn];(try simp only [Bool.and_assoc] at hG);exact hG⟩
  clear hG;rintro Z ⟨rfl,hG⟩;refine bQ (fun Z=>Z=⟨[(0,.d (.sl 7 (bF (d1++.mk ap name proc args cond ao aK::cw)))),(1,.d (.sl 1 (strs vs))),(2,.d (.sl 1 (strs ay))),(3,.d (.sl 7 (c_ ps))),(9,.d (aD d1.length)),(10,.box 0 0)],[.box 228 [.d (aW ap),.d (aW name),.d (aW proc),.d (.sl 4 (bR args)),.d (.sl 1 (eG cond)),.d (.sl 7 (bF ao)),.d (.sl 7 (bF aK))]]⟩/\(eO vs ay (args++cI cond)&&cw.all (gu vs ay ps))=b) ?_ ?_
  ·refine rS fun J O=>?_
   refine ab (fun h2=>?_) (fun h2=>?_)
   ·try simp only [Bool.not_eq_true',Bool.not_eq_false'] at h2
    try simp only [h2] at hG
    refine aS [] (jy G ps proc vO) ?_;refine O _ (aM [0,1,2,3,9,10,71] ?_);clear O J;refine cQ rfl (fun h3=>?_) fun h3=>?_
    ·have Lc:decide (cu proc ps 0≥0)=false:=by first|exact dT (by have:=oF h3;omega)|exact decide_eq_false (by have:=oT h3;omega)
     simp only [Lc,bn] at hG;refine rz [8] ?_;refine ae ?_
     (try simp only [bn] at hG)
     subst hG;exact lF [] [.d (.s (.bool _))]
    have Lc:decide (cu proc ps 0≥0)=true:=by first|exact dT (by have:=oF h3;omega)|exact decide_eq_false (by have:=oT h3;omega)
    simp only [Lc,bn] at hG;refine ac ?_;exact ⟨_,ak (slots:=[0,1,2,3,9,10]) rfl rfl,rfl,hG⟩
   try simp only [Bool.not_eq_true',Bool.not_eq_false'] at h2
   try simp only [h2,bn] at hG
   refine O _ (aM [0,1,2,3,9,10,71] ?_);clear O J;refine aj rfl (ac ?_);exact ⟨_,ak (slots:=[0,1,2,3,9,10]) rfl rfl,rfl,hG⟩
  clear hG;rintro Z ⟨rfl,hG⟩;generalize hQ:args++cI cond=Q at *;have hq:Q.length<=1073741824:=by have:=dU Q;omega
  refine rS fun J O=>aS [] ht ?_;refine O _ (aM [0,1,2,3,9,13] ?_);clear O J;refine rz [0,1,2,3,9,13,14] ?_;refine af (aB (fun k Y=>∃(d2 e2:List Ex) ,k=e2.length/\Q=d2++e2/\(eO vs ay e2&&cw.all (gu vs ay ps))=b/\Y=⟨[(0,.d (.sl 7 (bF (d1++.mk ap name proc args cond ao aK::cw)))),(1,.d (.sl 1 (strs vs))),(2,.d (.sl 1 (strs ay))),(3,.d (.sl 7 (c_ ps))),(9,.d (aD d1.length)),(13,.d (.sl 4 (bR Q))),(14,.d (aD d2.length))],[.box 228 [.d (aW ap),.d (aW name),.d (aW proc),.d (.sl 4 (bR args)),.d (.sl 1 (eG cond)),.d (.sl 7 (bF ao)),.d (.sl 7 (bF aK))]]⟩) (Q.length) (⟨[],Q,rfl,rfl,hG,rfl⟩) ?_);clear hG;rintro k Y ⟨d2,e2,rfl,du,hG,rfl⟩
  have dI:(bR Q).length=d2.length+e2.length:=by rw [b7,du,lA]
  have fK:d2.length+e2.length<=1073741824:=by rw [du,lA] at hq;exact hq
  refine aa (rz [0,1,2,3,9,13,14,77] ?_);refine cQ rfl (fun h2=>?_) fun h2=>?_
  ·have fe:=oT h2;rw [dI] at fe;cases e2 with
   |nil=>simp only [lN] at fe;omega
   |cons x ke=>
   obtain ⟨p1,n1,m1,l1⟩:=x;subst du;simp only [lC] at fK;simp only [eO] at hG;refine ac (aa ?_);refine af (rS fun J O=>oN (eI _ (aI (iZ rfl) ?_)));refine aR [] rfl rfl rfl (ra G vs ay hv ha _ (.mk p1 n1 m1 l1) (nR _) (by have:=pR (l:=d2++.mk p1 n1 m1 l1::ke) (x:=.mk p1 n1 m1 l1) (by simp);omega)) rfl rfl rfl rfl ?_;refine O _ (aM [0,1,2,3,9,13,14,15] ?_);clear O J;refine rz [0,1,2,3,9,13,14,88] ?_;refine cQ rfl (fun h3=>?_) fun h3=>?_
   ·try simp only [Bool.not_eq_true'] at h3
    try simp only [h3,bn] at hG
    refine rz [8] ?_;refine ae ?_
    (try simp only [bn] at hG)
    subst hG;exact lF [] [.d (.s (.bool _))]
   try simp only [Bool.not_eq_false'] at h3
   try simp only [h3,bn] at hG
   refine ac (rG fun J O=>O _ ?_);clear O J;exact ⟨_,nS _,_,ak (slots:=[0,1,2,3,9,13,14]) rfl rfl,d2++[.mk p1 n1 m1 l1],ke,rfl,by simp,hG,by rw [lA,aH (by omega) (by omega)];rfl⟩
  have fe:=oF h2;rw [dI] at fe;obtain rfl:e2=[]:=lE (by omega);simp only [eO] at hG;refine aA ?_;refine aq [0,1,2,3,9] rfl rfl ?_;refine rG fun J O=>O _ ?_;clear O J;exact ⟨_,nS _,_,aG (L:=[]) (slots:=[0,1,2,3,9]) rfl rfl rfl rfl rfl,d1++[.mk ap name proc args cond ao aK],cw,rfl,by simp,hG,by rw [lA,aH (by omega) (by omega)];rfl⟩
 have bO:=oF h1;rw [bu] at bO;obtain rfl:e1=[]:=lE (by omega);simp only [List.all_nil] at hG;refine aA ?_;refine aq [] rfl rfl ?_;refine rz [8] ?_;refine ae ?_
 (try simp only [bn] at hG)
 subst hG;exact lF [] [.d (.s (.bool _))]
end
end
end Go.Abs
end
