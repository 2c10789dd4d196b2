/- Texts of this proof, joined and shortened. -/
import Derived.Test.YtedljfabpknjiaaGreatDoorR16
import Derived.Test.YtedljfabpknjiaaGreatDoorR6
import Derived.Test.YtedljfabpknjiaaGreatDoorR10
import Derived.WalkKit
import Derived.Deep.LoopGhost
import Derived.Shelf.Slices.In.SortNone
import Derived.Sort.OwnSorted
import Derived.Sort.Grow
import Derived.Lib.OwnBridge
import Derived.Lib.RowBridge
import Derived.Laws.Append
import Derived.Laws.AppendOwn
import Derived.Test.YtedljfabpknjiaaGreatDoorR14
import Derived.Test.YtedljfabpknjiaaGreatDoorR15
import Derived.Test.YtedljfabpknjiaaGreatDoorR12
import Derived.Test.YtedljfabpknjiaaGreatDoorR11
set_option maxHeartbeats 1000000
section
namespace Go.Abs
open Go Go.Proofs
attribute [local irreducible] c8 dJ Sub Spec
section
theorem ue(v:BA):∀(l:List Pc) (i:Nat),cu v l i≥0->∃(j:Nat) (f:Pc),l[j]? = some f/\cu v l i=((i+j:Nat):Int)
 |[],i,h=>absurd h (by simp [cu])
 |f::r,i,h=>by
  simp only [cu] at h ⊢;cases hq:(f.name.toList==v.toList) with
  |true=>exact ⟨0,f,rfl,rfl⟩
  |false=>
   rw [hq] at h;obtain ⟨j,g,h1,h2⟩:=ue v r (i+1) h;exact ⟨j+1,g,h1,by simp only;rw [h2];omega⟩
def r9(ps:List Pc)(v:BA):List BA:=match ps[(cu v ps 0).toNat]? with
 |some f=>f.params
 |none=>[]
theorem E3{ps:List Pc}{v:BA}(h:cu v ps 0≥0):∃f:Pc,0<=cu v ps 0/\cu v ps 0<(c_ ps).length/\(c_ ps)[(cu v ps 0).toNat]? = some f.cs/\r9 ps v=f.params:=by
 obtain ⟨j,f,h1,h2⟩:=ue v ps 0 h;have hj:(cu v ps 0).toNat=j:=by omega
 obtain ⟨hl,hf⟩:=List.getElem?_eq_some_iff.1 h1;refine ⟨f,h,by rw [aE];omega,?_,?_⟩
 ·rw [hj];simp only [c_,List.getElem?_map,h1,Option.map_some]
 unfold r9;rw [hj,h1]
def gv(ps:List Pc):Sm->Bool
 |.mk ap _ proc args _ _ _=>match (ap.toList==(⟨#[99,97,108,108]⟩:BA).toList) with
  |true=>(((bR args).length:Int)==((strs (r9 ps proc)).length:Int))
  |false=>true
def rb(ps:List Pc):Sm->Prop
 |.mk ap _ proc _ _ _ _=>(ap.toList==(⟨#[99,97,108,108]⟩:BA).toList)=true->cu proc ps 0≥0
section
variable (G:Glob)
theorem IT(vs ay:List BA)(ps:List Pc)(vO:ps.length<=1073741824)(ap name proc:BA)(args:List Ex)(cond:List (List Ts))(ao aK:List Sm)(hk:(ap.toList==(⟨#[99,97,108,108]⟩:BA).toList)=false)(ok:Bool):Spec Tryz.prog G 170 [.d (.agg (Sm.mk ap name proc args cond ao aK).cs),.box 0 0,.box 1 0] (yC vs ay ps ok) (.ret (.tup [])) (yC vs ay ps ok):=by
 refine sA (N:=24) Tryz.func170 ?_;refine rz [1,2,3] ?_;refine rz [1,2,3,6] ?_;refine cQ rfl (fun h1=>?_) fun h1=>?_
 ·rw [hk] at h1;cases h1
 refine ac ?_;exact lF [0,1] [] (h6:=PWs.nil)
def IU:Plan:=(.load 0 (.take 1 (.take 2 (.load 3 (.take 4 (.take 5 (.load 6 (.load 7 (.take 8 (.load 9 (.one 10 (.take 11 (.take 12 (.one 13 (.take 14 (.take 15 (.take 16 (.one 17 .done))))))))))))))))))
theorem GA(vs ay:List BA)(ps:List Pc)(vO:ps.length<=1073741824)(ap name proc:BA)(args:List Ex)(cond:List (List Ts))(ao aK:List Sm)(hk:(ap.toList==(⟨#[99,97,108,108]⟩:BA).toList)=true)(SI:0<=cu proc ps 0)(HE:cu proc ps 0<(c_ ps).length)(f:Pc)(PM:(c_ ps)[(cu proc ps 0).toNat]? = some f.cs):Spec Tryz.prog G 170 [.d (.agg (Sm.mk ap name proc args cond ao aK).cs),.box 0 0,.box 1 0] (yC vs ay ps true) (.ret (.tup [])) (yC vs ay ps (((bR args).length:Int)==((strs f.params).length:Int))):=by
 obtain ⟨nm,pr,bd,⟨o1,n1,m1,l1⟩⟩:=f;have Dc:=PM;refine sA (N:=24) Tryz.func170 ?_;refine rz [1,2,3] ?_;refine rz [1,2,3,6] ?_;refine cQ rfl (fun h1=>?_) fun h1=>?_
 ·refine (dW IU [17] (fun _=>true) (by kernel_rfl) fun J O=>?_);refine aS [] (wJ G vs ay ps proc vO) ?_;refine oN (eI _ (aI Dc ?_));refine O _ ?_;clear O J;exact lF [0,1] [] (h6:=PWs.nil)
 rw [hk] at h1;cases h1
theorem Dd(vs ay:List BA)(ps:List Pc)(vO:ps.length<=1073741824)(ap name proc:BA)(args:List Ex)(cond:List (List Ts))(ao aK:List Sm)(hk:(ap.toList==(⟨#[99,97,108,108]⟩:BA).toList)=true)(SI:0<=cu proc ps 0)(HE:cu proc ps 0<(c_ ps).length)(f:Pc)(PM:(c_ ps)[(cu proc ps 0).toNat]? = some f.cs):Spec Tryz.prog G 170 [.d (.agg (Sm.mk ap name proc args cond ao aK).cs),.box 0 0,.box 1 0] (yC vs ay ps false) (.ret (.tup [])) (yC vs ay ps false):=by
 obtain ⟨nm,pr,bd,⟨o1,n1,m1,l1⟩⟩:=f;have Dc:=PM;refine sA (N:=24) Tryz.func170 ?_;refine rz [1,2,3] ?_;refine rz [1,2,3,6] ?_;refine cQ rfl (fun h1=>?_) fun h1=>?_
 ·refine (dW IU [17] (fun _=>true) (by kernel_rfl) fun J O=>?_);refine O _ ?_;clear O J;exact lF [0,1] [] (h6:=PWs.nil)
 rw [hk] at h1;cases h1
theorem yD(vs ay:List BA)(ps:List Pc)(vO:ps.length<=1073741824)(s:Sm)(hN:rb ps s)(ok:Bool):Spec Tryz.prog G 170 [.d (.agg s.cs),.box 0 0,.box 1 0] (yC vs ay ps ok) (.ret (.tup [])) (yC vs ay ps (ok&&gv ps s)):=by
 obtain ⟨ap,name,proc,args,cond,ao,aK⟩:=s;simp only [rb] at hN;simp only [gv];cases hk:(ap.toList==(⟨#[99,97,108,108]⟩:BA).toList) with
 |false=>rw [Bool.and_true];exact IT G vs ay ps vO ap name proc args cond ao aK hk ok
 |true=>
  obtain ⟨f,SI,HE,Dc,Vi⟩:=E3 (hN hk);simp only [Vi];cases ok with
  |true=>rw [Bool.true_and];exact GA G vs ay ps vO ap name proc args cond ao aK hk SI HE f Dc
  |false=>exact Dd G vs ay ps vO ap name proc args cond ao aK hk SI HE f Dc
theorem uf(vs ay:List BA)(ps:List Pc)(vO:ps.length<=1073741824)(l:List Sm)(hw:dG l<=500000000)(hN:∀x,x∈flatB l->rb ps x):Spec Tryz.prog G 101 [.d (.agg (HC vs ay ps)),.d (.sl 7 (bF l))] [] (.ret (.d (.s (.bool ((flatB l).all (gv ps)))))) []:=by
 have hk:=uc G vs ay ps 170 (gv ps) (lq l+1) l true (nS _) (by omega) (fun x hx ok=>yD G vs ay ps vO x (hN x hx) ok);rw [Bool.true_and] at hk;refine sA (N:=10) Tryz.func101 ?_;refine rz [1,2] ?_;refine rz [1,2,5] ?_;refine rS fun J O=>aS [1,0] hk ?_;refine O _ (aM [5] ?_);clear O J;refine rz [4] ?_;refine ae ?_;exact lF [] [.d (.s (.bool _))]
def PN:Plan:=(.take 0 (.take 1 (.take 2 (.take 3 (.load 4 (.take 5 (.take 6 (.take 7 (.take 8 (.take 9 (.take 10 (.load 11 (.take 12 (.take 13 (.take 14 (.take 15 (.take 16 (.take 17 (.take 18 (.load 19 (.one 20 (.take 21 (.take 22 (.one 23 (.take 24 (.take 25 (.take 26 .done)))))))))))))))))))))))))))
theorem lZ(ps:List Pc)(vO:ps.length<=1073741824)(l:List Sm)(hw:dG l<=500000000)(hN:∀x,x∈flatB l->rb ps x):Spec Tryz.prog G 105 [.d (.sl 7 (bF l)),.d (.sl 7 (c_ ps))] [] (.ret (.d (.s (.bool ((flatB l).all (gv ps)))))) []:=by
 have Ld:=wL G l (by omega);have SH:=kj l;obtain ⟨F,PL⟩:∃F,flatB l=F:=⟨_,rfl⟩;rw [PL] at Ld SH hN;have hF:=hN;have hn:F.length<=1073741824:=by omega
 obtain ⟨b,hG⟩:∃b,(flatB l).all (gv ps)=b:=⟨_,rfl⟩;rw [hG];rw [PL] at hG;clear PL SH hN;refine sA (N:=41) Tryz.func105 ?_;refine rz [0,1] ?_;refine rS fun J O=>aS [] Ld ?_;refine O _ (aM [0,1] ?_);clear O J;refine aa (rz [0,1,5] ?_);refine af (aB (fun k Y=>∃(d1 e1:List Sm) ,k=e1.length/\F=d1++e1/\e1.all (gv ps)=b/\Y=⟨[(0,.d (.sl 7 (bF F))),(1,.d (.sl 7 (c_ ps))),(5,.d (aD d1.length))],[]⟩) (F.length) (⟨[],F,rfl,rfl,hG,rfl⟩) ?_);clear hG;rintro k Y ⟨d1,e1,rfl,bV,hG,rfl⟩
 have bu:(bF F).length=d1.length+e1.length:=by rw [aL,bV,lA]
 have cn:d1.length+e1.length<=1073741824:=by rw [bV,lA] at hn;exact hn
 refine aa (rz [0,1,5,11] ?_);refine cQ rfl (fun h1=>?_) fun h1=>?_
 ·have bO:=oT h1;rw [bu] at bO;cases e1 with
  |nil=>simp only [lN] at bO;omega
  |cons x cw=>
  obtain ⟨ap,name,proc,args,cond,ao,aK⟩:=x;subst bV;simp only [lC] at cn;simp only [List.all_cons,gv] at hG;have hx:=hF (.mk ap name proc args cond ao aK) (by simp);simp only [rb] at hx;refine ac (aa ?_);refine af (aa ?_);refine (dW PN [] (fun _=>true) (by kernel_rfl) fun J O=>oN (eI _ (aI (ed rfl) ?_)));refine ab (fun h2=>?_) (fun h2=>?_)
  ·obtain ⟨f,SI,HE,Dc,Vi⟩:=E3 (hx h2);obtain ⟨nm,pr,bd,⟨o1,n1,m1,l1⟩⟩:=f;simp only [h2,Vi] at hG;refine oN (eI _ (aI (ed rfl) ?_));refine oN (eI _ (aI (ed rfl) ?_));refine aS [] (jy G ps proc vO) ?_;refine oN (eI _ (aI Dc ?_));refine O _ (aM [0,1,5,40] ?_);clear O J;refine cQ rfl (fun h3=>?_) fun h3=>?_
   ·have hz:(((bR args).length:Int)==((strs pr).length:Int))=false:=by first|simpa using h3|(cases q:(((bR args).length:Int)==((strs pr).length:Int)) <;> simp_all)
    simp only [hz,bn] at hG;refine rz [4] ?_;refine ae ?_
    (try simp only [bn] at hG)
    subst hG;exact lF [] [.d (.s (.bool _))]
   have hz:(((bR args).length:Int)==((strs pr).length:Int))=true:=by first|simpa using h3|(cases q:(((bR args).length:Int)==((strs pr).length:Int)) <;> simp_all)
   simp only [hz,bn] at hG;refine ac (rG fun J O=>O _ ?_);clear O J;exact ⟨_,nS _,_,ak (slots:=[0,1,5]) rfl rfl,d1++[.mk ap name proc args cond ao aK],cw,rfl,by simp,hG,by rw [lA,aH (by omega) (by omega)];rfl⟩
  simp only [h2,bn] at hG;refine O _ (aM [0,1,5,40] ?_);clear O J;refine aj rfl (ac ?_);refine rG fun J O=>O _ ?_;clear O J;exact ⟨_,nS _,_,ak (slots:=[0,1,5]) rfl rfl,d1++[.mk ap name proc args cond ao aK],cw,rfl,by simp,hG,by rw [lA,aH (by omega) (by omega)];rfl⟩
 have bO:=oF h1;rw [bu] at bO;obtain rfl:e1=[]:=lE (by omega);simp only [List.all_nil] at hG;refine aA ?_;refine aq [] rfl rfl ?_;refine rz [4] ?_;refine ae ?_
 (try simp only [bn] at hG)
 subst hG;exact lF [] [.d (.s (.bool _))]
end
end
section
def Ba(G:Glob):Prop:=∀a b:List BA,a.length+b.length<=1000000000->Spec Tryz.prog G 98 [.d (.sl 1 [[.sl 1 (strs a)],[.sl 1 (strs b)]])] [] (.ret (.d (.sl 1 (strs (a++b))))) []
def N4(az:List BA)(ah:List Ar)(procs:List Pc)(main:List Sm)(an:List BA):List Row:=[.box 28 [.d (.sl 1 (strs az)),.d (.sl 2 (ey ah)),.d (.sl 7 (c_ procs)),.d (.sl 7 (bF main))],.box 23 [.d (.sl 1 (strs an))]]
theorem Bb(l:List Pc)(i:Nat):(c_ l).take i=c_ (l.take i):=by simp [c_]
section
variable (G:Glob)
theorem PO(az:List BA)(ah:List Ar)(procs:List Pc)(main:List Sm)(an:List BA):Spec Tryz.prog G 97 [.d (aD procs.length),.box 0 0,.box 1 0] (N4 az ah procs main an) (.ret (.d (.agg (HC az an procs)))) (N4 az ah procs main an):=by
 refine sA (N:=32) Tryz.func97 ?_;refine rz [0,1,2,4] ?_;refine aa (rz [0,1,2,4,9] ?_);refine cQ rfl (fun h1=>?_) fun h1=>?_
 ·refine rz [4] ?_;refine ae ?_;exact lF [0,1] [.d (.agg (HC az an procs))]
 rw [aE] at h1;simp at h1
def SJ:Plan:=(.take 0 (.load 1 (.take 2 (.load 3 (.take 4 (.take 5 (.take 6 (.load 7 (.load 10 (.take 11 (.load 12 (.take 13 (.take 14 (.one 8 (.one 9 (.one 15 (.one 16 .done)))))))))))))))))
theorem IV(hC:Ba G)(az:List BA)(ah:List Ar)(procs:List Pc)(main:List Sm)(an:List BA)(i:Nat)(hi:i<procs.length)(hn:procs.length<=1000000000)(f:Pc)(hf:procs[i]? = some f)(hl:az.length+f.params.length<=1000000000):Spec Tryz.prog G 97 [.d (aD i),.box 0 0,.box 1 0] (N4 az ah procs main an) (.ret (.d (.agg (HC (az++f.params) an (procs.take i))))) (N4 az ah procs main an):=by
 have Dc:(c_ procs)[(i:Int).toNat]? = some f.cs:=by rw [Int.toNat_natCast];simp [c_,List.getElem?_map,hf]
 obtain ⟨nm,pr,bd,⟨o1,n1,m1,l1⟩⟩:=f;rw [show HC (az++pr) an (procs.take i)=[.sl 1 (strs (az++pr)),.sl 1 (strs an),.sl 7 ((c_ procs).take i)] from by rw [HC,Bb]];refine sA (N:=32) Tryz.func97 ?_;refine rz [0,1,2,4] ?_;refine aa (rz [0,1,2,4,9] ?_);refine cQ rfl (fun h1=>?_) fun h1=>?_
 ·have q:=eq_of_beq h1;rw [aE] at q;omega
 refine ac (aa ?_);refine (dW SJ [16] (fun _=>true) (by kernel_rfl) fun J O=>oN (eI _ (aI Dc ?_)));refine eI i (aI rfl (aI (by rw [aE];omega) ?_));refine aS [] (hC az pr hl) ?_;refine O _ (aM [4] ?_);clear O J;refine ae ?_;exact lF [0,1] [.d (.agg [.sl 1 (strs (az++pr)),.sl 1 (strs an),.sl 7 ((c_ procs).take i)])]
end
end
end Go.Abs
end
section
namespace Go.Proofs
open Go Go.RowKit Go.Shelf Go.Sort
theorem PP(l:List (List UInt8)):(l.map fun x=>(⟨x.toArray⟩:BA)).map Value.string=l.map encStr:=by
  rw [List.map_map];exact List.map_congr_left fun x _=>rfl
set_option maxHeartbeats 2000000 in
set_option maxRecDepth 100000 in
theorem Tryz.twice_tail (Xe:Value) (ss ts:List (List UInt8)) (n:Nat) (w:World) (Xf:ss.mergeSort (fun x y=>decide (x<=y))=ts) (E4:ss.length=n) (hn:n<=1000000)
    (IW:Calls Tryz.prog 95 #[Xe] w fun e w'=>∃v',e=.returned v'/\w'.ownsRow w.heap.size 9 1 v' n (ss.map encStr)/\v'≠.slice none 0 0/\Below w.heap.size w w') :
    Calls Tryz.prog 96 #[Xe] w fun e w'=>e=.returned (.bool (decide ((Lib.compact ts).length<n)))/\Below w.heap.size w w':=by
  have du:ts.length=n:=by rw [<- Xf,List.length_mergeSort,E4]
  go_enter Tryz.func96,Tryz.ntmps96
  go_wp2_with (first
    | (go_at_call 95;refine IW.mono ?_;rintro e w1 ⟨v1,rfl,ll,Uo,SK⟩
       obtain ⟨g,cap,rfl,Vj,Xg,SL,N5,bZ,hH⟩:=Lib.holds_of_ownsRow ll Uo;have IX:=Tryz.slices_Sort_string g 0 cap ss w1 hH Xg (by omega);rw [bZ,Xf] at IX;have X:Aside (Below w.heap.size w w1/\w.heap.size<=g/\g<w1.heap.size/\n<=cap/\cap<=maxLen/\Holds encStr w1 g 0 ss.toArray):=⟨SK,Vj,Xg,SL,N5,hH⟩;clear ll SK hH Uo IW)
    | (go_at_call 115;refine IX.mono ?_;rintro e w2 ⟨rfl,nn,os,rfl⟩
       have Xh:Holds encStr (grow (putRow encStr (Sort.ahead w1 nn) g 0 ts.toArray) os) g 0 ts.toArray:=
         holds_grow encStr _ os g 0 _ (by simpa [putRow,mapBlock,Sort.ahead] using X.out.2.2.1) (holds_putRow encStr _ g 0 _ _ (holds_ahead encStr w1 nn g 0 _ X.out.2.2.2.2.2) (by simp [du,E4]))
       have mQ:Below w.heap.size w (grow (putRow encStr (Sort.ahead w1 nn) g 0 ts.toArray) os):=X.out.1.grown (grownBy_sorted _) X.out.1.size (fun j hj=>by cases hj;exact X.out.2.1);have yE:=Tryz.slices_Clone_string g 0 n cap (ts.map fun x=>(⟨x.toArray⟩:BA)) (grow (putRow encStr (Sort.ahead w1 nn) g 0 ts.toArray) os) (by simp [du]) (by omega) (fun j hj=>by
         have L':j<ts.toArray.size:=by simpa using hj
         have:=(Xh j L').1
         simpa [encStr,List.getD_eq_getElem?_getD,List.getElem?_eq_getElem (show j<ts.length by simpa using hj)] using this)
       rw [List.take_of_length_le (by simp [du]),PP] at yE;generalize RO:grow (putRow encStr (Sort.ahead w1 nn) g 0 ts.toArray) os=w2 at *;clear Xh IX)
    | (go_at_call 95;refine yE.mono ?_;rintro e w3 ⟨v3,rfl,N6,SM,N7⟩
       obtain ⟨g3,Vk,rfl,Vl,YI,Vm,YJ,Xi,Xj⟩:=Lib.holds_of_ownsRow N6 SM;have N8:=Tryz.slices_Compact_string g3 0 Vk ts w3 Xj (by omega) (by omega);rw [du] at N8;have Y:Aside (Below w.heap.size w w2/\Below w2.heap.size w2 w3/\w2.heap.size<=g3):=⟨mQ,N7,Vl⟩;clear N6 N7 Xj SM yE)
    | (go_at_call 162;refine N8.mono ?_;rintro e w4 ⟨rfl,q,rfl⟩))
  go_ret
  have h3:Below w.heap.size w w3:=Y.out.1.trans (Y.out.2.1.mono Y.out.1.size);exact ⟨rfl,Lib.below_putRow h3 (Nat.le_trans Y.out.1.size Y.out.2.2)⟩
set_option maxHeartbeats 2000000 in
set_option maxRecDepth 100000 in
theorem Tryz.twice_nil(n c:Nat)(hn:n=0)(w:World):Calls Tryz.prog 96 #[.slice none n c] w fun e w'=>e=.returned (.bool false)/\w'=w:=by
  subst hn
  go_enter Tryz.func96,Tryz.ntmps96
  go_wp2_with (first
    | (go_at_call 95;refine (Tryz.slices_Clone_string_nil 0 c _).mono ?_;rintro e w' ⟨rfl,rfl⟩)
    | (go_at_call 115;refine (Any.slices_Sort_string_none Tryz.lays190 none 0 _).mono ?_;rintro e w' ⟨rfl,rfl⟩)
    | (go_at_call 95;refine (Tryz.slices_Clone_string_nil 0 0 _).mono ?_;rintro e w' ⟨rfl,rfl⟩)
    | (go_at_call 162;refine (Tryz.slices_Compact_string_empty none 0 _).mono ?_;rintro e w' ⟨rfl,rfl⟩))
  go_ret
  exact ⟨rfl,rfl⟩
end Go.Proofs
namespace Go.Abs
open Go Go.Proofs
def ug(l:List BA):Bool:=!decide (l.map (·.data.toList)).Nodup
theorem De{lim:Nat->Nat}{w:World}{b:Nat}(xs:List BA)(o:Nat)(h:VRow lim w b 1 o (strs xs)):∀j,j<xs.length->w.cell? ⟨b,o+j,none⟩=some (.string (xs.getD j ByteArray.empty)):=fun j hj=>by
  have:=rc xs o h j xs[j] (List.getElem?_eq_getElem hj)
  simpa [List.getD_eq_getElem?_getD,List.getElem?_eq_getElem hj] using this
theorem Df(G:Glob)(l:List BA)(hl:l.length<=1000000):Spec Tryz.prog G 96 [.d (.sl 1 (strs l))] [] (.ret (.d (.s (.bool (ug l))))) []:=by
  refine hX Tryz.func96 rfl (by rfl) fun H lim w vs bw eT eq=>?_;simp only [Vs,V,VD] at eq;obtain ⟨v,us,rfl,⟨A,n,c,rfl,hn,Le,hc,pW⟩,rfl⟩:=eq
  have Up:n=l.length:=by rw [hn];exact ag l
  have N9:∀b:Bool,∀(e:Ending) (w':World),e=.returned (.bool b)/\RowKit.Below w.heap.size w w'->b=ug l->(∃v,e=.returned v/\∀lim',Fr (fun _=>False) lim w lim' w'->V H lim' w' (.d (.s (.bool (ug l)))) v)/\RowKit.Below w.heap.size w w':=by
    rintro b e w' ⟨rfl,hb⟩ rfl;exact ⟨⟨_,rfl,fun lim' _=>by simp only [V,VD]⟩,hb⟩
  cases A with
  |none=>
    have h0:n=0:=by
      rcases Nat.eq_zero_or_pos n with q|q
      · exact q
      obtain ⟨b,o,e,_⟩:=pW (by omega);cases e
    obtain rfl:l=[]:=lE (by omega);refine Calls.mono (Tryz.twice_nil n c h0 w) ?_;rintro e w' ⟨rfl,rfl⟩;exact N9 false _ _ ⟨rfl,RowKit.Below.refl _ _⟩ rfl
  |some a=>
    have iQ:Calls Tryz.prog 95 #[.slice (some a) n c] w fun e w'=>∃v',e=.returned v'/\w'.ownsRow w.heap.size 9 1 v' n ((l.map (·.data.toList)).map encStr)/\v'≠.slice none 0 0/\RowKit.Below w.heap.size w w':=by
      rw [Lib.map_encStr];rcases Nat.eq_zero_or_pos n with q|q
      · subst q
        obtain rfl:l=[]:=lE (by omega);exact Tryz.slices_Clone_string_zero a c w
      obtain ⟨b,o,e,hr⟩:=pW (by omega);cases e;have:=Tryz.slices_Clone_string b o n c l w (by omega) (by omega) (De l o hr)
      rwa [List.take_of_length_le (by omega)] at this
    refine Calls.mono (Tryz.twice_tail _ (l.map (·.data.toList)) _ n w rfl (by simp [Up]) (by omega) iQ) ?_;intro e w' h;refine N9 _ e w' h ?_;have:=C_ (l.map (·.data.toList));rw [lM] at this;rw [Up,this];rfl
end Go.Abs
end
section
namespace Go.Proofs
open Go Go.RowKit
set_option maxHeartbeats 2000000 in
set_option maxRecDepth 100000 in
theorem Tryz.grow_some(n:Nat)(h0:0<n)(hn:n<=1000000000)(w:World):
  Calls Tryz.prog 163 #[.slice none 0 0,.int .i64 n] w fun e w'=>∃(cap:Nat) (cells:Array Value),e=.returned (.slice (some ⟨w.heap.size,0,none⟩) 0 cap)/\cap<=maxLen/\cells.size=cap/\w'=w.drew.alloc (.cells cells 9):=by
 have hlt:¬((n:Int)<0):=by omega
 have Xk:(n:Int)>0:=by omega
 have hb:Tryz.t9.bytes=16:=by kernel_rfl
 have Uq:=nextslicecap_zero h0
 go_enter Tryz.func163,Tryz.ntmps163
 go_wp2
 all_goals rw [hb] at *
 all_goals try rw [Uq] at *
 all_goals first
  | (exfalso;omega)
  |skip
 go_ret
 have Lc:=grownCap_ge w n 0 9;exact ⟨grownCap w n 0 9,rfl,grownCap_le_maxLen w n 0 9 (by simp only [maxLen];omega),_,by simp [Builtin.zeroCells,grownCap] at Lc ⊢;omega,rfl⟩
set_option maxHeartbeats 2000000 in
set_option maxRecDepth 100000 in
theorem Tryz.grow_none(w:World):Calls Tryz.prog 163 #[.slice none 0 0,.int .i64 0] w fun e w'=>e=.returned (.slice none 0 0)/\w'=w:=by
 go_enter Tryz.func163,Tryz.ntmps163
 go_wp2
 go_ret
 exact ⟨rfl,rfl⟩
end Go.Proofs
namespace Go.Abs
open Go Go.Proofs
theorem vP{lim:Nat->Nat}{w:World}(o:Obj)(m:Nat):Fr (fun _=>False) lim w (pt lim w.heap.size m) (w.drew.alloc o):=by
 refine ⟨rfl,rfl,rfl,by simp,fun b hb=>?_,fun b hb _=>?_⟩
 ·rw [ch _ _ (by omega)];refine ⟨nR _,fun o' _=>?_⟩;exact World.cell?_alloc_lt w.drew _ _ hb
 have:=(jc (lim:=lim) (w:=w) o m).same b hb (fun h=>h);exact this
theorem GB(G:Glob)(n:Nat)(hn:n<=1000000000):Spec Tryz.prog G 163 [.d (.s (.slice none 0 0)),.d (aD n)] [] (.ret (.acc 0)) [.acc 9 1 []]:=by
 refine ⟨yF Tryz.func163 rfl (by rfl),Nat.zero_le _,fun H lim w vs bw eT eq=>?_⟩;simp only [Vs,V,VD,aD] at eq;obtain ⟨_,_,rfl,rfl,_,_,rfl,rfl,rfl⟩:=eq;have hR:=SN bw eT;rcases Nat.eq_zero_or_pos n with h0|h0
 ·subst h0;refine Calls.mono (Tryz.grow_none w) ?_;rintro e w' ⟨rfl,rfl⟩;have hx:=h_ (r:=.acc 9 1 []) hR (Fr.refl _ _ _) (u:=.slice none 0 0) (fun b hb=>hb.elim) ⟨_,[],aX _ _ _,⟨by simp,.inl ⟨rfl,rfl⟩⟩,by simp [VDs],by simp,by decide,by simp [blk]⟩;exact ⟨_,_,hx.rep.rows,hx.fr.weaken fun _ ⟨_,q,_⟩=>q.elim,hx.ptr,hx.blocks,_,rfl,by simp only [V];exact aX _ _ _⟩
 refine Calls.mono (Tryz.grow_some n h0 hn w) ?_;rintro e w' ⟨cap,cells,rfl,hc,hs,rfl⟩;have hx:=h_ (r:=.acc 9 1 []) hR (vP (.cells cells 9) 0) (u:=.slice (some ⟨w.heap.size,0,none⟩) 0 cap) (fun b hb=>Nat.le_of_eq (Eq.symm hb)) ⟨_,[],aX _ _ _,⟨by simp,.inr ⟨w.heap.size,cap,cells,rfl,Nat.zero_le _,heap_alloc_new w.drew _,Nat.zero_le _,hc,by simp [hs],by simp⟩⟩,by simp [VDs],by simp,by decide,fun b hb=>by simp only [blk,sI] at hb;subst hb;rw [aX];rfl⟩;exact ⟨_,_,hx.rep.rows,hx.fr.weaken fun _ ⟨_,q,_⟩=>q.elim,hx.ptr,hx.blocks,_,rfl,by simp only [V];exact aX _ _ _⟩
end Go.Abs
end
section
namespace Go.Abs
open Go Go.Proofs
attribute [local irreducible] c8 dJ Sub Spec
section
def re(L:List (List BA)):List (List Data):=L.map fun x=>[.sl 1 (strs x)]
theorem Bc(L:List (List BA)):(re L).length=L.length:=by simp [re]
theorem E5{l d e:List (List BA)}{x:List BA}(h:l=d++x::e):(re l)[((d.length:Nat):Int).toNat]? = some [.sl 1 (strs x)]:=by
 subst h;rw [Int.toNat_natCast];simp [re]
def l4:List (List BA)->Nat
 |[]=>0
 |x::r=>x.length+l4 r
theorem pX:∀a b,l4 (a++b)=l4 a+l4 b
 |[],b=>by simp [l4]
 |x::a,b=>by simp only [List.cons_append,l4,pX a b];omega
theorem GC(d:List (List BA))(x:List BA):((l4 (d++[x]):Nat):Int)=(l4 d:Int)+((strs x).length:Int):=by
 rw [pX,ag];simp [l4]
theorem Bd:∀L:List (List BA),L.flatten.length=l4 L
 |[]=>rfl
 |x::r=>by simp only [List.flatten_cons,lA,l4,Bd r]
theorem GD(d:List (List BA))(x:List BA):strs d.flatten++strs x=strs (d++[x]).flatten:=by simp [strs]
section
variable (G:Glob)
theorem yG(l:List (List BA))(ht:l4 l<=1000000000)(hb:l.length<=1073741824):Spec Tryz.prog G 98 [.d (.sl 1 (re l))] [] (.ret (.d (.sl 1 (strs l.flatten)))) []:=by
 refine sA (N:=36) Tryz.func98 ?_;refine rz [0] ?_;refine rz [0,3] ?_;refine aa (rz [0,3,9,10,11] ?_);refine af (aB (fun k Y=>∃(d1 e1:List (List BA)),k=e1.length/\l=d1++e1/\Y=⟨[(0,.d (.sl 1 (re l))),(3,.d (aD (l4 d1:Nat))),(9,.d (.sl 1 (re l))),(10,.d (aD (re l).length)),(11,.d (aD d1.length))],[]⟩) (l.length) (⟨[],l,rfl,rfl,rfl⟩) ?_);rintro k Y ⟨d1,e1,rfl,bV,rfl⟩;have bu:(re l).length=d1.length+e1.length:=by rw [Bc,bV,lA]
 have cn:d1.length+e1.length<=1073741824:=by rw [bV,lA] at hb;exact hb
 refine rz [0,3,9,10,11,12] ?_;refine aa (cQ rfl (fun h1=>?_) fun h1=>?_)
 ·have bO:=oT h1;rw [bu] at bO;cases e1 with
  |nil=>simp only [lN] at bO;omega
  |cons x cw=>
  subst bV;simp only [lC] at cn;have hx:=ht;rw [pX] at hx;simp only [l4] at hx;have hsl:=ag x;refine ac (aa ?_);refine af (rS fun J O=>oN (eI _ (aI (E5 rfl) ?_)));refine O _ (aM [0,3,5,9,10,11] ?_);clear O J;refine rz [0,3,9,10,11] ?_;refine rz [0,3,9,10,11,20] ?_;refine cQ rfl (fun h2=>?_) fun h2=>?_
  ·rw [aH (by omega) (by omega)] at h2;have q:=oT h2;omega
  refine ac (rG fun J O=>O _ ?_);clear O J;exact ⟨_,nS _,_,ak (slots:=[0,3,9,10,11]) rfl rfl,d1++[x],cw,rfl,by simp,by rw [GC,lA,aH (by omega) (by omega),aH (by omega) (by omega)];rfl⟩
 have bO:=oF h1;rw [bu] at bO;obtain rfl:e1=[]:=lE (by omega);rw [List.append_nil] at bV;subst bV;refine aA ?_;refine aq [0,3] rfl rfl ?_;refine rS fun J O=>aS [] (GB G (l4 l) ht) ?_;refine O _ (aM [0,6] ?_);clear O J;refine aa (rz [6,25,26,27] ?_);refine af (aB (fun k Y=>∃(d2 e2:List (List BA)),k=e2.length/\l=d2++e2/\Y=⟨[(6,.acc 0),(25,.d (.sl 1 (re l))),(26,.d (aD (re l).length)),(27,.d (aD d2.length))],[.acc 9 1 (strs d2.flatten)]⟩) (l.length) (⟨[],l,rfl,rfl,rfl⟩) ?_);rintro k Y ⟨d2,e2,rfl,du,rfl⟩
 have dI:(re l).length=d2.length+e2.length:=by rw [Bc,du,lA]
 have fK:d2.length+e2.length<=1073741824:=by rw [du,lA] at hb;exact hb
 refine rz [6,25,26,27,28] ?_;refine aa (cQ rfl (fun h2=>?_) fun h2=>?_)
 ·have fe:=oT h2;rw [dI] at fe;cases e2 with
  |nil=>simp only [lN] at fe;omega
  |cons x ke=>
  subst du;simp only [lC] at fK;have hx:=ht;rw [pX] at hx;simp only [l4] at hx;have Ur:=Bd d2;refine ac (aa ?_);refine af (rS fun J O=>oN (eI _ (aI (E5 rfl) ?_)));refine O _ (aM [6,8,25,26,27] ?_);clear O J;refine rG fun J O=>?_;refine aI (aI ((by simp only [ag,lA,lC,lN] at *;omega)) ((by simp only [ag,lA,lC,lN,maxLen] at *;omega))) ?_;refine O _ (aM [6,25,26,27] ?_);clear O J;refine rG fun J O=>O _ ?_;clear O J;exact ⟨_,nS _,_,aG (L:=[0]) (slots:=[6,25,26,27]) rfl rfl rfl rfl rfl,d2++[x],ke,rfl,by simp,by rw [<- GD,lA,aH (by omega) (by omega)];rfl⟩
 have fe:=oF h2;rw [dI] at fe;obtain rfl:e2=[]:=lE (by omega);rw [List.append_nil] at du;subst du;refine aA ?_;refine aq [6] rfl rfl ?_;refine rz [2] ?_;refine ae ?_;exact lF [] [.d (.sl 1 (strs l.flatten))]
end
theorem Be(G:Glob):Ba G:=fun a b h=>by
 have:=yG G [a,b] (by simp [l4];omega) (by simp)
 simpa [re] using this
end
section
section
variable {t:Nat->TypeId}{u:Nat->Value}
theorem rf(hE:ErrsOk t u)(k:Nat)(hk:k<=7)(c:Int):Spec Tryz.prog (GV t u) 25 [.d (.s (.iface (t k) (u k))),.d (aD c)] [] (.ret (.d (.s (.bool (((kc k+1:Int)==c)&&((-1:Int)==-1)))))) []:=by
 refine sA (N:=19) Tryz.func25 ?_;refine rz [0,1] ?_;refine rS fun J O=>aS [] (Iw hE k hk) ?_;refine O _ (aM [1,5,6] ?_);clear O J;refine rS fun J O=>?_;refine ab (fun h1=>?_) (fun h1=>?_)
 ·refine O _ (aM [4] ?_);clear O J;refine ae ?_;exact ⟨_,[],_,[.d (.s (.bool _))],rfl,rfl,rfl,rfl,rfl,by (first|exact PWs.refl _|(simp only [h1,bz];exact PWs.refl _)),rfl⟩
 refine O _ (aM [4] ?_);clear O J;refine ae ?_;exact ⟨_,[],_,[.d (.s (.bool _))],rfl,rfl,rfl,rfl,rfl,by (first|exact PWs.refl _|(simp only [h1,bz];exact PWs.refl _)),rfl⟩
end
end
section
theorem IY{l:List BA}(h:ua (.d (.sl 1 (strs l))) true):l=[]:=by
 have:(strs l).length=0:=by
  cases l with
  |nil=>rfl
  |cons x r=>simp [ua,strs] at h
 rw [ag] at this;exact lE this
theorem l8(a b:List BA):strs (a++b)=strs a++strs b:=by simp [strs]
def arN(l:List Ar):List BA:=l.map (·.name)
def pcN(l:List Pc):List BA:=l.map (·.name)
def prmF:List Pc->List BA
 |[]=>[]
 |f::r=>f.params++prmF r
theorem l_:∀a b:List Pc,prmF (a++b)=prmF a++prmF b
 |[],_=>rfl
 |f::a,b=>by simp only [List.cons_append,prmF,l_ a b,List.append_assoc]
theorem Bf(d:List Ar)(nm:BA)(sz:Int):strs (arN d)++[[aW nm]]=strs (arN (d++[⟨nm,sz⟩])):=by simp [strs,arN]
theorem yH(A:List BA)(d:List Pc)(f:Pc):strs (A++prmF (d++[f]))=strs (A++prmF d)++strs f.params:=by rw [l_,<- List.append_assoc,l8];simp [prmF]
theorem Ma(d:List Pc)(f:Pc):strs (pcN (d++[f]))=strs (pcN d)++[[aW f.name]]:=by simp [strs,pcN]
theorem ma:∀l:List Pc,(prmF l).length<=lz l
 |[]=>by simp [prmF]
 |f::r=>by have:=ma r;have:=ew f.params;simp only [prmF,lz,lA];omega
def kl:List Ar->Bool
 |[]=>false
 |a::r=>match (decide (a.size<1)||decide (a.size>16)) with
  |true=>true
  |false=>kl r
def Dg(az an:List BA)(procs:List Pc):List Pc->Nat->Bool
 |[],_=>true
 |f::r,i=>match (flatB f.body).all (gu (az++f.params) an (procs.take i))&&tmN (az++f.params) an f.ret with
  |true=>Dg az an procs r (i+1)
  |false=>false
def HF(procs:List Pc):List Pc->Nat->Bool
 |[],_=>true
 |f::r,i=>match (flatB f.body).all (gv (procs.take i)) with
  |true=>HF procs r (i+1)
  |false=>false
def oC(bA bL bD bN bM bC bK:Bool):Option Nat:=match bA with
 |true=>some 0
 |false=>match bL with
  |true=>some 0
  |false=>match bD with
   |true=>some 2
   |false=>match bN with
    |false=>some 2
    |true=>match bM with
     |false=>some 2
     |true=>match bC with
      |false=>some 1
      |true=>match bK with
       |false=>some 1
       |true=>none
def Vn(t:Nat->TypeId)(u:Nat->Value):Option Nat->PV
 |none=>.d (.s .nilIface)
 |some k=>.d (.s (.iface (t k) (u k)))
def fq(az:List BA)(ah:List Ar)(procs:List Pc):List BA:=(az++arN ah)++prmF procs
def uh(az:List BA)(ah:List Ar)(procs:List Pc):Bool:=decide (((strs (fq az ah procs)).length:Int)>12)||decide (((strs (pcN procs)).length:Int)>6)
def gw(az:List BA)(ah:List Ar)(procs:List Pc)(main:List Sm):Option Nat:=
 oC (kl ah) (uh az ah procs) (ug (fq az ah procs++pcN procs)) (Dg az (arN ah) procs procs 0) ((flatB main).all (gu az (arN ah) procs)) (HF procs procs 0) ((flatB main).all (gv procs))
theorem IZ{vs ay:List BA}{ps:List Pc}{s:Sm}(h:gu vs ay ps s=true):rb ps s:=by
 obtain ⟨ap,name,proc,args,cond,ao,aK⟩:=s;intro hk;have k:=eq_of_beq hk;have e1:(ap.toList==(⟨#[115,101,116]⟩:BA).toList)=false:=by rw [k];kernel_rfl
 have e2:(ap.toList==(⟨#[114,101,97,100]⟩:BA).toList)=false:=by rw [k];kernel_rfl
 have e3:(ap.toList==(⟨#[112,117,116]⟩:BA).toList)=false:=by rw [k];kernel_rfl
 simp only [gu,pT,e1,e2,e3,hk,bE] at h;exact oT h.1.2
theorem ui{vs ay:List BA}{ps:List Pc}{l:List Sm}(h:l.all (gu vs ay ps)=true):∀x,x∈l->rb ps x:=fun x hx=>IZ (List.all_eq_true.1 h x hx)
theorem rg{az an:List BA}{procs:List Pc}:∀ {l:List Pc}{k:Nat},Dg az an procs l k=true->∀(j:Nat) (f:Pc),l[j]? = some f->(flatB f.body).all (gu (az++f.params) an (procs.take (k+j)))=true
 |[],k,_,j,f,hj=>by simp at hj
 |g::r,k,h,j,f,hj=>by
  simp only [Dg] at h;cases hq:((flatB g.body).all (gu (az++g.params) an (procs.take k))&&tmN (az++g.params) an g.ret) with
  |false=>rw [hq] at h;cases h
  |true=>
   rw [hq] at h;cases j with
   |zero=>
    simp only [List.getElem?_cons_zero,sI] at hj;subst hj;rw [bE] at hq;exact hq.1
   |succ j=>
    have:=rg h j f (by simpa using hj)
    rwa [show k+1+j=k+(j+1) by omega] at this
section
variable {t:Nat->TypeId}{u:Nat->Value}
theorem Bg(G:Glob)(l:List BA)(hn:l.length<=1000000000):Spec Tryz.prog G 95 [.d (.sl 1 (strs l))] [] (.ret (.acc 0)) [.acc 9 1 (strs l)]:=by
 refine aZ b8 (N:=8) Tryz.func95 rfl (by rfl) (Nat.zero_le _) rfl ?_;refine rz [0] ?_;refine aa (rS fun J O=>?_);refine eD (fun hb=>?_) ?_
 ·obtain rfl:=IY hb;refine O _ (aM [0,4] ?_);clear O J;refine aj rfl (rz [2] ?_);refine dV 2 9 1 rfl rfl rfl ?_;refine aq [2] rfl rfl ?_;refine ae ?_;exact lF [0] [.acc 0]
 refine O _ (aM [0,4] ?_);clear O J;refine aj rfl (ac ?_);refine rS fun J O=>?_;refine Or.inr (Or.inr ?_);refine aI (aI ((by simp only [ag,lN] at *;omega)) ((by simp only [ag,lN,maxLen] at *;omega))) ?_;refine O _ (aM [2] ?_);clear O J;refine ae ?_;exact lF [0] [.acc 0]
theorem I0(az:List BA)(ah:List Ar)(procs:List Pc)(main:List Sm)(w0:Spec Tryz.prog (GV t u) 22 [.d (.agg (Pg.cs ⟨az,ah,procs,main⟩))] [] (.ret (.tup [.d (aW ⟨#[]⟩),.d (.s (.iface (t 1) (u 1)))])) []):Spec Tryz.prog (GV t u) 34 [.d (.agg (Pg.cs ⟨az,ah,procs,main⟩))] [] (.ret (.d (.s (.iface (t 1) (u 1))))) []:=by
 refine sA (N:=146) Tryz.func34 ?_;refine rz [1] ?_;refine aa (rS fun J O=>aS [] w0 ?_);refine O _ (aM [1,4] ?_);clear O J;refine rz [1,24] ?_;refine aj rfl (rz [2] ?_);refine ae ?_;exact lF [] [.d (.s (.iface (t 1) (u 1)))]
set_option maxHeartbeats 2000000 in
def PQ:Plan:=(.take 0 (.take 1 (.take 3 (.load 4 (.one 2 (.one 5 (.take 6 (.take 7 (.take 8 (.take 9 (.take 11 (.alt 10 (.one 12 (.one 13 (.take 14 (.take 15 .done)))) (.alt 12 (.one 10 (.one 13 (.take 14 (.take 15 .done)))) .done)))))))))))))
def PR:Plan:=(.take 0 (.take 1 (.take 3 (.load 4 (.one 2 (.one 5 (.take 6 .done)))))))
theorem GE(az:List BA)(ah:List Ar)(procs:List Pc)(main:List Sm)(RN:wtPg ⟨az,ah,procs,main⟩<=400000000)(t1:BA)(w1:Spec Tryz.prog (GV t u) 22 [.d (.agg (Pg.cs ⟨az,ah,procs,main⟩))] [] (.ret (.tup [.d (aW t1),.d (.s .nilIface)])) []):Spec Tryz.prog (GV t u) 34 [.d (.agg (Pg.cs ⟨az,ah,procs,main⟩))] [] (.ret (Vn t u (gw az ah procs main))) []:=by
 have hw:=RN;simp only [wtPg] at hw;have Vo:=ew az;have Vp:=mP ah;have Vq:=kA procs;have Vr:=ma procs;have SO:ah.length<=1073741824:=by omega
 have Dh:procs.length<=1073741824:=by omega
 have hC:=Be (GV t u);have Vt:(arN ah).length=ah.length:=by simp [arN]
 have PT:(arN ah).length<=1073741824:=by omega
 have PU:(pcN procs).length=procs.length:=by simp [pcN]
 obtain ⟨R,hR⟩:∃R,gw az ah procs main=R:=⟨_,rfl⟩;rw [hR];unfold gw at hR;have PX:uh az ah procs=false->Spec Tryz.prog (GV t u) 96 [.d (.sl 1 (strs ((az++arN ah)++prmF procs)++strs (pcN procs)))] [] (.ret (.d (.s (.bool (ug (fq az ah procs++pcN procs)))))) []:=fun hb=>by
  have bZ:(fq az ah procs++pcN procs).length<=1000000:=by
   unfold uh at hb;rw [Bool.or_eq_false_iff] at hb;have q1:=oF hb.1;have q2:=oF hb.2;rw [ag] at q1 q2;rw [lA];omega
  have:=Df (GV t u) (fq az ah procs++pcN procs) bZ
  rwa [l8] at this
 obtain ⟨bA,hA⟩:∃b,kl ah=b:=⟨_,rfl⟩;obtain ⟨bL,hL⟩:∃b,uh az ah procs=b:=⟨_,rfl⟩;obtain ⟨bD,hD⟩:∃b,ug (fq az ah procs++pcN procs)=b:=⟨_,rfl⟩;obtain ⟨bN,hN⟩:∃b,Dg az (arN ah) procs procs 0=b:=⟨_,rfl⟩;obtain ⟨bM,hM⟩:∃b,(flatB main).all (gu az (arN ah) procs)=b:=⟨_,rfl⟩;obtain ⟨bC,uj⟩:∃b,HF procs procs 0=b:=⟨_,rfl⟩;obtain ⟨bK,SP⟩:∃b,(flatB main).all (gv procs)=b:=⟨_,rfl⟩;rw [hA,hL,hD,hN,hM,uj,SP] at hR;have SQ:=hL;have hL:(decide (((strs ((az++arN ah)++prmF procs)).length:Int)>12)||decide (((strs (pcN procs)).length:Int)>6))=bL:=SQ;have RP:=ud (GV t u) az (arN ah) procs (by omega) PT (by omega) main (by omega);rw [hM] at RP;rw [hD] at PX;have vB:=PO (GV t u) az ah procs main (arN ah);rw [<- aE procs] at vB;have Us:=hN;refine sA (N:=146) Tryz.func34 ?_;refine rz [1] ?_;refine aa (rS fun J O=>aS [] w1 ?_);refine O _ (aM [1,4] ?_);clear O J;refine rz [1,24] ?_;refine aj rfl (ac ?_);refine rS fun J O=>?_;refine aS [] (Bg (GV t u) az (by omega)) ?_;refine O _ (aM [1,5] ?_);clear O J;refine rz [1,5,6,7] ?_;refine dV 7 9 1 rfl rfl rfl ?_;refine cr 2 0 9 1 rfl rfl rfl rfl ?_;refine aq [1,5,6,7] rfl rfl ?_;refine aa (rz [1,5,6,7,30,31,32] ?_);refine af (aB (fun k Y=>∃(d1 e1:List Ar) ,k=e1.length/\ah=d1++e1/\kl e1=bA/\Y=⟨[(1,.box 0 0),(5,.acc 1),(6,.box 2 0),(7,.acc 3),(30,.d (.sl 2 (ey ah))),(31,.d (aD (ey ah).length)),(32,.d (aD d1.length))],[.box 28 [.d (.sl 1 (strs az)),.d (.sl 2 (ey ah)),.d (.sl 7 (c_ procs)),.d (.sl 7 (bF main))],.acc 9 1 (strs az),.box 23 [.acc 4],.acc 9 1 [],.acc 9 1 (strs (arN d1))]⟩) (ah.length) (⟨[],ah,rfl,rfl,hA,rfl⟩) ?_);clear hA;rintro k Y ⟨d1,e1,rfl,bV,hA,rfl⟩
 have bu:(ey ah).length=d1.length+e1.length:=by rw [ey,lM,bV,lA]
 have cn:d1.length+e1.length<=1073741824:=by rw [bV,lA] at SO;exact SO
 refine rz [1,5,6,7,30,31,32,33] ?_;refine aa (cQ rfl (fun h1=>?_) fun h1=>?_)
 ·have bO:=oT h1;rw [bu] at bO;cases e1 with
  |nil=>simp only [lN] at bO;omega
  |cons x cw=>
  obtain ⟨nm,sz⟩:=x;subst bV;simp only [lC] at cn;simp only [kl] at hA;have Vu:(arN d1).length=d1.length:=by simp [arN]
  refine ac (aa ?_);refine af (rS fun J O=>oN (eI _ (aI (fL rfl) ?_)));refine O _ (aM [1,5,6,7,9,30,31,32] ?_);clear O J;refine rS fun J O=>?_;refine aI (aI ((by simp only [ag,aE,lA,ai,lC,lN] at *;omega)) ((by simp only [ag,aE,lA,ai,lC,lN,maxLen] at *;omega))) ?_;refine O _ (aM [1,5,6,7,9,30,31,32] ?_);clear O J;refine rS fun J O=>?_;refine ab (fun h2=>?_) (fun h2=>?_)
  ·simp only [h2,bn] at hA;refine O _ (aM [1,5,6,7,30,31,32,48] ?_);clear O J;refine aj rfl (rz [2] ?_);refine ae ?_;subst hA;simp only [oC] at hR;subst hR;exact lF [] [.d (.s (.iface (t 0) (u 0)))]
  simp only [h2,bn] at hA;refine O _ (aM [1,5,6,7,30,31,32,48] ?_);clear O J;refine cQ rfl (fun h3=>?_) fun h3=>?_
  ·simp only [h3] at hA;refine rz [2] ?_;refine ae ?_;subst hA;simp only [oC] at hR;subst hR;exact lF [] [.d (.s (.iface (t 0) (u 0)))]
  simp only [h3] at hA;refine ac (rG fun J O=>O _ ?_);clear O J;exact ⟨_,nS _,_,aG (L:=[0,1,2,3,4]) (slots:=[1,5,6,7,30,31,32]) rfl rfl rfl rfl rfl,d1++[⟨nm,sz⟩],cw,rfl,by simp,hA,by rw [<- Bf,lA,aH (by omega) (by omega)];rfl⟩
 have bO:=oF h1;rw [bu] at bO;obtain rfl:e1=[]:=lE (by omega);simp only [kl] at hA;subst hA;rw [List.append_nil] at bV;subst bV;refine aA ?_;refine aq [1,5,6,7] rfl rfl ?_;refine rS fun J O=>?_;refine aI (aI ((by simp only [ag,aE,lA,lN] at *;omega)) ((by simp only [ag,aE,lA,lN,maxLen] at *;omega))) ?_;refine O _ (aM [1,5,6,7] ?_);clear O J;refine aa (rz [1,5,6,7,55,56,57] ?_);refine af (aB (fun k Y=>∃(d2 e2:List Pc),k=e2.length/\procs=d2++e2/\Y=⟨[(1,.box 0 0),(5,.acc 1),(6,.box 2 0),(7,.acc 3),(55,.d (.sl 7 (c_ procs))),(56,.d (aD (c_ procs).length)),(57,.d (aD d2.length))],[.box 28 [.d (.sl 1 (strs az)),.d (.sl 2 (ey ah)),.d (.sl 7 (c_ procs)),.d (.sl 7 (bF main))],.acc 9 1 (strs ((az++arN ah)++prmF d2)),.box 23 [.acc 4],.acc 9 1 (strs (pcN d2)),.acc 9 1 (strs (arN ah))]⟩) (procs.length) (⟨[],procs,rfl,rfl,by rw [show prmF []=[] from rfl,List.append_nil,l8];rfl⟩) ?_);rintro k Y ⟨d2,e2,rfl,du,rfl⟩
 have dI:(c_ procs).length=d2.length+e2.length:=by rw [aE,du,lA]
 have fK:d2.length+e2.length<=1073741824:=by rw [du,lA] at Dh;exact Dh
 refine rz [1,5,6,7,55,56,57,58] ?_;refine aa (cQ rfl (fun h2=>?_) fun h2=>?_)
 ·have fe:=oT h2;rw [dI] at fe;cases e2 with
  |nil=>simp only [lN] at fe;omega
  |cons x ke=>
  obtain ⟨nm,pr,bd,⟨o1,n1,m1,l1⟩⟩:=x;subst du;simp only [lC] at fK;have rZ:=ma (d2++⟨nm,pr,bd,.mk o1 n1 m1 l1⟩::ke);simp only [l_,prmF,lA] at rZ;have Vu:(pcN d2).length=d2.length:=by simp [pcN]
  have YK:(arN ah).length=ah.length:=by simp [arN]
  refine ac (aa ?_);refine af (rS fun J O=>oN (eI _ (aI (eM rfl) ?_)));refine O _ (aM [1,5,6,7,11,55,56,57] ?_);clear O J;refine rS fun J O=>?_;refine aI (aI ((by simp only [ag,aE,lA,lC,lN] at *;omega)) ((by simp only [ag,aE,lA,lC,lN,maxLen] at *;omega))) ?_;refine O _ (aM [1,5,6,7,11,55,56,57] ?_);clear O J;refine rG fun J O=>?_;refine aI (aI ((by simp only [ag,aE,lA,ai,lC,lN] at *;omega)) ((by simp only [ag,aE,lA,ai,lC,lN,maxLen] at *;omega))) ?_;refine O _ (aM [1,5,6,7,55,56,57] ?_);clear O J;refine rG fun J O=>O _ ?_;clear O J;exact ⟨_,nS _,_,aG (L:=[0,1,2,3,4]) (slots:=[1,5,6,7,55,56,57]) rfl rfl rfl rfl rfl,d2++[⟨nm,pr,bd,.mk o1 n1 m1 l1⟩],ke,rfl,by simp,by rw [yH,Ma,lA,aH (by omega) (by omega)];rfl⟩
 have fe:=oF h2;rw [dI] at fe;obtain rfl:e2=[]:=lE (by omega);rw [List.append_nil] at du;subst du;refine aA ?_;refine aq [1,5,6,7] rfl rfl ?_;refine aa (rS fun J O=>?_);refine ab (fun h3=>?_) (fun h3=>?_)
 ·have PY:decide (((strs ((az++arN ah)++prmF procs)).length:Int)>12)=true:=h3;simp only [PY,bn] at hL;refine O _ (aM [1,5,6,7,78] ?_);clear O J;refine aj rfl (rz [2] ?_);refine ae ?_;subst hL;simp only [oC] at hR;subst hR;exact lF [] [.d (.s (.iface (t 0) (u 0)))]
 have PY:decide (((strs ((az++arN ah)++prmF procs)).length:Int)>12)=false:=h3;simp only [PY,bn] at hL;refine O _ (aM [1,5,6,7,78] ?_);clear O J;refine cQ rfl (fun h4=>?_) fun h4=>?_
 ·have PZ:decide (((strs (pcN procs)).length:Int)>6)=true:=h4;simp only [PZ] at hL;refine rz [2] ?_;refine ae ?_;subst hL;simp only [oC] at hR;subst hR;exact lF [] [.d (.s (.iface (t 0) (u 0)))]
 have PZ:decide (((strs (pcN procs)).length:Int)>6)=false:=h4;simp only [PZ] at hL;subst hL;refine ac (aa ?_);refine rS fun J O=>?_;refine aI (aI ((by simp only [ag,aE,lA,lN] at *;omega)) ((by simp only [ag,aE,lA,lN,maxLen] at *;omega))) ?_
 refine sH ?_;cases bD with
 |true=>
  refine aS [] (PX SQ) ?_;refine O _ (aM [1,6,83] ?_);clear O J;refine aj rfl (rz [2] ?_);refine ae ?_;simp only [oC] at hR;subst hR;exact lF [] [.d (.s (.iface (t 2) (u 2)))]
 |false=>
  refine aS [] (PX SQ) ?_;refine O _ (aM [1,6,83] ?_);clear O J;refine aj rfl (ac ?_);refine bQ (fun Z=>Z=⟨[(1,.box 0 0),(12,.fn 97 [.box 0 0,.box 1 0])],(N4 az ah procs main (arN ah))⟩) ?_ ?_
  ·refine rG fun J O=>O _ ?_;clear O J
   exact ⟨_,aG (L:=[0,2]) (slots:=[1,12]) rfl rfl rfl rfl rfl,rfl⟩
  rintro Z rfl;refine aa (rz [1,12,87,88,89] ?_);refine af (aB (fun k Y=>∃(d3 e3:List Pc) ,k=e3.length/\procs=d3++e3/\Dg az (arN ah) procs e3 d3.length=bN/\Y=⟨[(1,.box 0 0),(12,.fn 97 [.box 0 0,.box 1 0]),(87,.d (.sl 7 (c_ procs))),(88,.d (aD (c_ procs).length)),(89,.d (aD d3.length))],(N4 az ah procs main (arN ah))⟩) (procs.length) (⟨[],procs,rfl,rfl,hN,rfl⟩) ?_);clear hN;rintro k Y ⟨d3,e3,rfl,yp,hN,rfl⟩;have tU:(c_ procs).length=d3.length+e3.length:=by rw [aE,yp,lA]
  have C0:d3.length+e3.length<=1073741824:=by rw [yp,lA] at Dh;exact Dh
  refine rz [1,12,87,88,89,90] ?_;refine aa (cQ rfl (fun h5=>?_) fun h5=>?_)
  ·have rT:=oT h5;rw [tU] at rT;cases e3 with
   |nil=>simp only [lN] at rT;omega
   |cons x vM=>
   obtain ⟨nm,pr,bd,⟨o1,n1,m1,l1⟩⟩:=x;subst yp;simp only [lC] at C0;simp only [Dg] at hN;have hi:d3.length<(d3++⟨nm,pr,bd,.mk o1 n1 m1 l1⟩::vM).length:=by simp
   have hf:(d3++⟨nm,pr,bd,.mk o1 n1 m1 l1⟩::vM)[d3.length]? = some ⟨nm,pr,bd,.mk o1 n1 m1 l1⟩:=by simp
   have yu:=m4 d3 (⟨nm,pr,bd,.mk o1 n1 m1 l1⟩::vM);simp only [lz] at yu;have Ut:=ew pr;have Dc:=IV (GV t u) hC az ah (d3++⟨nm,pr,bd,.mk o1 n1 m1 l1⟩::vM) main (arN ah) d3.length hi (by omega) _ hf (by simp only;omega);have P0:((d3++⟨nm,pr,bd,.mk o1 n1 m1 l1⟩::vM).take d3.length).length<=1073741824:=by rw [List.length_take];omega
   have s8:(az++pr).length<=1073741824:=by rw [lA];omega
   have iF:=ud (GV t u) (az++pr) (arN ah) ((d3++⟨nm,pr,bd,.mk o1 n1 m1 l1⟩::vM).take d3.length) s8 PT P0 bd (by omega);have SR:=tY (GV t u) (az++pr) (arN ah) ((d3++⟨nm,pr,bd,.mk o1 n1 m1 l1⟩::vM).take d3.length) s8 PT (.mk o1 n1 m1 l1) (by omega);refine ac (aa ?_);refine af (rS fun J O=>oN (eI _ (aI (eM rfl) ?_)));refine O _ (aM [1,12,13,14,87,88,89] ?_);clear O J;refine aa ((dW PQ [5,10,13] (fun i=>Nat.beq i 2) (by kernel_rfl) fun J O=>aS [0,1] Dc ?_));refine aS [] iF ?_;refine ab (fun h6=>?_) (fun h6=>?_)
   ·try simp only [Bool.not_eq_true'] at h6
    simp only [h6,bn] at hN;refine aI ?_ ?_
    ·refine O _ (aM [1,12,87,88,89,109] ?_);clear O J;refine aj rfl (rz [2] ?_);refine ae ?_;subst hN;simp only [oC] at hR;subst hR;exact lF [] [.d (.s (.iface (t 2) (u 2)))]
    refine aI ?_ ?_
    ·refine O _ (aM [1,12,87,88,89,109] ?_);clear O J;refine aj rfl (rz [2] ?_);refine ae ?_;subst hN;simp only [oC] at hR;subst hR;exact lF [] [.d (.s (.iface (t 2) (u 2)))]
    trivial
   try simp only [Bool.not_eq_false'] at h6
   simp only [h6,bn] at hN;refine aI ?_ ?_
   ·refine aS [0,1] Dc ?_;refine aS [] SR ?_;refine O _ (aM [1,12,87,88,89,109] ?_);clear O J;refine cQ rfl (fun h7=>?_) fun h7=>?_
    ·try simp only [Bool.not_eq_true'] at h7
     simp only [h7] at hN;refine rz [2] ?_;refine ae ?_;subst hN;simp only [oC] at hR;subst hR;exact lF [] [.d (.s (.iface (t 2) (u 2)))]
    try simp only [Bool.not_eq_false'] at h7
    simp only [h7] at hN;refine ac (rG fun J O=>O _ ?_);clear O J;exact ⟨_,nS _,_,aG (L:=[0,1]) (slots:=[1,12,87,88,89]) rfl rfl rfl rfl rfl,d3++[⟨nm,pr,bd,.mk o1 n1 m1 l1⟩],vM,rfl,by simp,by rw [lA];exact hN,by rw [lA,aH (by omega) (by omega)];rfl⟩
   refine aI ?_ ?_
   ·refine aS [0,1] Dc ?_;refine aS [] SR ?_;refine O _ (aM [1,12,87,88,89,109] ?_);clear O J;refine cQ rfl (fun h7=>?_) fun h7=>?_
    ·try simp only [Bool.not_eq_true'] at h7
     simp only [h7] at hN;refine rz [2] ?_;refine ae ?_;subst hN;simp only [oC] at hR;subst hR;exact lF [] [.d (.s (.iface (t 2) (u 2)))]
    try simp only [Bool.not_eq_false'] at h7
    simp only [h7] at hN;refine ac (rG fun J O=>O _ ?_);clear O J;exact ⟨_,nS _,_,aG (L:=[0,1]) (slots:=[1,12,87,88,89]) rfl rfl rfl rfl rfl,d3++[⟨nm,pr,bd,.mk o1 n1 m1 l1⟩],vM,rfl,by simp,by rw [lA];exact hN,by rw [lA,aH (by omega) (by omega)];rfl⟩
   trivial
  have rT:=oF h5;rw [tU] at rT;obtain rfl:e3=[]:=lE (by omega);simp only [Dg] at hN;subst hN;refine aA ?_;refine aq [1,12] rfl rfl ?_;refine rS fun J O=>aS [0,1] vB ?_;refine O _ (aM [1,12,15] ?_);clear O J;refine bQ (fun Z=>Z=⟨[(1,.box 0 0),(12,.fn 97 [.box 0 0,.box 1 0]),(15,.box 2 0)],N4 az ah procs main (arN ah)++A7 az (arN ah) procs⟩/\bM=true) ?_ ?_
  ·refine rS fun J O=>sH ?_
   cases bM with
   |true=>
    refine aS [] RP ?_;refine O _ (aM [1,12,15,121] ?_);clear O J;refine aj rfl (ac ?_);exact ⟨_,ak (slots:=[1,12,15]) rfl rfl,rfl,rfl⟩
   |false=>
    refine aS [] RP ?_;refine O _ (aM [1,12,15,121] ?_);clear O J;refine aj rfl (rz [2] ?_);refine ae ?_;simp only [oC] at hR;subst hR;exact lF [] [.d (.s (.iface (t 2) (u 2)))]
  rintro Z ⟨rfl,SS⟩;subst SS;refine aa (rz [1,12,15,124,125,126] ?_);refine af (aB (fun k Y=>∃(d4 e4:List Pc) ,k=e4.length/\procs=d4++e4/\HF procs e4 d4.length=bC/\Y=⟨[(1,.box 0 0),(12,.fn 97 [.box 0 0,.box 1 0]),(15,.box 2 0),(124,.d (.sl 7 (c_ procs))),(125,.d (aD (c_ procs).length)),(126,.d (aD d4.length))],(N4 az ah procs main (arN ah)++A7 az (arN ah) procs)⟩) (procs.length) (⟨[],procs,rfl,rfl,uj,rfl⟩) ?_);clear uj;rintro k Y ⟨d4,e4,rfl,AO,uj,rfl⟩;have tV:(c_ procs).length=d4.length+e4.length:=by rw [aE,AO,lA]
  have C1:d4.length+e4.length<=1073741824:=by rw [AO,lA] at Dh;exact Dh
  refine rz [1,12,15,124,125,126,127] ?_;refine aa (cQ rfl (fun h6=>?_) fun h6=>?_)
  ·have yI:=oT h6;rw [tV] at yI;cases e4 with
   |nil=>simp only [lN] at yI;omega
   |cons x yq=>
   obtain ⟨nm,pr,bd,⟨o1,n1,m1,l1⟩⟩:=x;subst AO;simp only [lC] at C1;simp only [HF] at uj;have hi:d4.length<(d4++⟨nm,pr,bd,.mk o1 n1 m1 l1⟩::yq).length:=by simp
   have hf:(d4++⟨nm,pr,bd,.mk o1 n1 m1 l1⟩::yq)[d4.length]? = some ⟨nm,pr,bd,.mk o1 n1 m1 l1⟩:=by simp
   have yu:=m4 d4 (⟨nm,pr,bd,.mk o1 n1 m1 l1⟩::yq);simp only [lz] at yu;have Ut:=ew pr;have Dc:=IV (GV t u) hC az ah (d4++⟨nm,pr,bd,.mk o1 n1 m1 l1⟩::yq) main (arN ah) d4.length hi (by omega) _ hf (by simp only;omega);have P0:((d4++⟨nm,pr,bd,.mk o1 n1 m1 l1⟩::yq).take d4.length).length<=1073741824:=by rw [List.length_take];omega
   have s8:(az++pr).length<=1073741824:=by rw [lA];omega
   have ga:=ui (rg Us _ _ hf);rw [Nat.zero_add] at ga;have Vv:=uf (GV t u) (az++pr) (arN ah) ((d4++⟨nm,pr,bd,.mk o1 n1 m1 l1⟩::yq).take d4.length) P0 bd (by omega) ga;refine ac (aa ?_);refine af (rS fun J O=>oN (eI _ (aI (eM rfl) ?_)));refine O _ (aM [1,12,15,16,17,124,125,126] ?_);clear O J;refine aa ((dW PR [5] (fun i=>Nat.beq i 3) (by kernel_rfl) fun J O=>aS [0,1] Dc ?_));refine aS [] Vv ?_;refine O _ (aM [1,12,15,124,125,126,137] ?_);clear O J;refine cQ rfl (fun h7=>?_) fun h7=>?_
   ·try simp only [Bool.not_eq_true'] at h7
    simp only [h7] at uj;refine rz [2] ?_;refine ae ?_;subst uj;simp only [oC] at hR;subst hR;exact lF [] [.d (.s (.iface (t 1) (u 1)))]
   try simp only [Bool.not_eq_false'] at h7
   simp only [h7] at uj;refine ac (rG fun J O=>O _ ?_);clear O J;exact ⟨_,nS _,_,aG (L:=[0,1,2]) (slots:=[1,12,15,124,125,126]) rfl rfl rfl rfl rfl,d4++[⟨nm,pr,bd,.mk o1 n1 m1 l1⟩],yq,rfl,by simp,by rw [lA];exact uj,by rw [lA,aH (by omega) (by omega)];rfl⟩
  have yI:=oF h6;rw [tV] at yI;obtain rfl:e4=[]:=lE (by omega);simp only [HF] at uj;subst uj;refine aA ?_;refine aq [1,15] rfl rfl ?_;refine aa (rS fun J O=>sH ?_);have P1:=uf (GV t u) az (arN ah) procs (by omega) main (by omega) (ui hM);rw [SP] at P1;cases bK with
  |true=>
   refine aS [] P1 ?_;refine O _ (aM [144] ?_);clear O J;refine aj rfl (ac ?_);refine rz [2] ?_;refine ae ?_;simp only [oC] at hR;subst hR;exact lF [] [.d (.s .nilIface)]
  |false=>
   refine aS [] P1 ?_;refine O _ (aM [144] ?_);clear O J;refine aj rfl (rz [2] ?_);refine ae ?_;simp only [oC] at hR;subst hR;exact lF [] [.d (.s (.iface (t 1) (u 1)))]
end
end
end Go.Abs
end
section
namespace Go.Abs
open Go Go.Proofs
def vQ(op:BA):Nat:=match op.toList==(⟨#[110,117,109]⟩:BA).toList with
 |true=>0
 |false=>match op.toList==(⟨#[118,97,114]⟩:BA).toList with
  |true=>0
  |false=>match op.toList==(⟨#[97,116]⟩:BA).toList with
   |true=>1
   |false=>match op.toList==(⟨#[110,101,103]⟩:BA).toList with
    |true=>1
    |false=>2
theorem Mb(op:BA):vQ op<=2:=by
 unfold vQ
 repeat' split
 all_goals omega
mutual
def shE:Ex->Bool
 |.mk op _ _ l=>Nat.ble (vQ op) l.length&&s9 l
def s9:List Ex->Bool
 |[]=>true
 |e::r=>shE e&&s9 r
end
def Vw(t:Ts):Bool:=shE t.a&&shE t.b
def RQ:List Ts->Bool
 |[]=>true
 |t::r=>Vw t&&RQ r
def GF:List (List Ts)->Bool
 |[]=>true
 |t::r=>RQ t&&GF r
theorem wM{e:Ex}{bc d:Int}{x:BA×Nat}(h:exprI e bc d=some x):∃d' t' k',fE e d'=some (t',k'):=by
 obtain ⟨t,k⟩:=x;unfold exprI at h;obtain ⟨_,⟨_,_,t',k',h1,_⟩|⟨_,k',h1⟩⟩:=A0 h
 ·exact ⟨_,t',k',h1⟩
 exact ⟨_,_,k',h1⟩
theorem YL:vQ ⟨#[110,117,109]⟩=0:=by kernel_rfl
theorem km:vQ ⟨#[118,97,114]⟩=0:=by kernel_rfl
theorem Lf:vQ ⟨#[97,116]⟩=1:=by kernel_rfl
theorem zV:vQ ⟨#[110,101,103]⟩=1:=by kernel_rfl
theorem oD:∀(e:Ex) (bc d:Int) (x:BA×Nat),exprI e bc d=some x->shE e=true:=by
 refine Ex.rec (motive_1:=fun e=>∀(bc d:Int) (x:BA×Nat),exprI e bc d=some x->shE e=true) (motive_2:=fun l=>∀x,x∈l->∀(bc d:Int) (y:BA×Nat),exprI x bc d=some y->shE x=true) ?_ ?_ ?_
 ·intro op n nm l ih bc d x h;obtain ⟨d',t',k',h1⟩:=wM h;rcases wI h1 with ⟨rfl,_,rfl,_⟩|⟨rfl,_,rfl,_⟩|⟨rfl,_,_,x,t1,k1,rfl,h2,_⟩|⟨rfl,_,_,x,t1,k1,rfl,h2,_⟩|⟨_,_,_,x,y,t1,k1,t2,k2,rfl,h2,h3,_⟩
  ·simp only [shE,s9,YL,Bool.and_true];rfl
  ·simp only [shE,s9,km,Bool.and_true];rfl
  ·have:=ih x (List.mem_cons_self ..) _ _ _ h2;simp only [shE,s9,this,Lf,Bool.and_true];rfl
  ·have:=ih x (List.mem_cons_self ..) _ _ _ h2;simp only [shE,s9,this,zV,Bool.and_true];rfl
  have e1:=ih x (List.mem_cons_self ..) _ _ _ h2;have e2:=ih y (List.mem_cons_of_mem _ (List.mem_cons_self ..)) _ _ _ h3;simp only [shE,s9,e1,e2,Bool.and_true];exact Nat.ble_eq_true_of_le (Mb op)
 ·intro x hx;cases hx
 intro e r he hr x hx;rcases List.mem_cons.1 hx with hx|hx
 ·rw [hx];exact he
 exact hr x hx
theorem Bh:∀(l:List Ex) (x:List BA×Nat),gH l=some x->s9 l=true
 |[],_,_=>rfl
 |e::r,(_,_),h=>by
  simp only [gH] at h;obtain ⟨s,k1,i1,h1,h2,_⟩:=aY h;obtain ⟨ss,k2,i2,h3,_,_⟩:=aY h2;simp only [s9,oD e _ _ _ h1,Bh r _ h3,Bool.and_true]
theorem E6:∀(l:List Ts) (x:List BA×Nat),jI l=some x->RQ l=true
 |[],_,_=>rfl
 |e::r,(_,_),h=>by
  simp only [jI] at h;obtain ⟨s,k1,i1,h1,h2,_⟩:=aY h;obtain ⟨ss,k2,i2,h3,_,_⟩:=aY h2;unfold px at h1;obtain ⟨_,h1⟩:=bp h1;obtain ⟨_,_,_,g1,h1,_⟩:=aY h1;obtain ⟨_,_,_,g2,_,_⟩:=aY h1;simp only [RQ,Vw,oD e.a _ _ _ g1,oD e.b _ _ _ g2,E6 r _ h3,Bool.and_true]
theorem I1:∀(l:List (List Ts)) (x:List BA×Nat),Ab l=some x->GF l=true
 |[],_,_=>rfl
 |e::r,(_,_),h=>by
  simp only [Ab] at h;obtain ⟨s,k1,i1,h1,h2,_⟩:=aY h;obtain ⟨ss,k2,i2,h3,_,_⟩:=aY h2;unfold xP at h1;obtain ⟨_,_,_,g1,_,_⟩:=aY h1;simp only [GF,E6 e _ g1,I1 r _ h3,Bool.and_true]
theorem pY{c:List (List Ts)}{t:BA}{k:Nat}(h:gb c=some (t,k)):GF c=true:=by
 cases c with
 |nil=>rfl
 |cons r c=>
  simp only [gb] at h;obtain ⟨ss,k1,i1,h1,_,_⟩:=aY h;exact I1 _ _ h1
theorem uk(v:BA):∀(l:List Pc) (i:Nat),cu v l i≥0->∃(j:Nat) (f:Pc),l[j]? = some f/\cu v l i=((i+j:Nat):Int)/\findP l v=some f
 |[],i,h=>absurd h (by simp [cu])
 |f::r,i,h=>by
  simp only [cu] at h ⊢;cases hq:(f.name.toList==v.toList) with
  |true=>exact ⟨0,f,rfl,rfl,by simp only [findP,List.find?_cons,hq]⟩
  |false=>
   rw [hq] at h;obtain ⟨j,g,h1,h2,h3⟩:=uk v r (i+1) h;exact ⟨j+1,g,h1,by simp only;rw [h2];omega,by simp only [findP,List.find?_cons,hq];exact h3⟩
theorem ul{l:List Pc}{v:BA}(h:cu v l 0≥0):∃f,findP l v=some f/\r9 l v=f.params:=by
 obtain ⟨j,f,h1,h2,h3⟩:=uk v l 0 h;refine ⟨f,h3,?_⟩;have hj:(cu v l 0).toNat=j:=by omega
 unfold r9;rw [hj,h1]
theorem wN{l:List Pc}{i:Nat}{v:BA}{f:Pc}(h:findP (l.take i) v=some f):findP l v=some f:=by
 unfold findP at h ⊢;rw [<- List.take_append_drop i l,List.find?_append,h];rfl
def Di(ps:List Pc):Sm->Bool
 |.mk ap _ proc args cond _ _=>(s9 args&&GF cond)&&match ap.toList==(⟨#[115,101,116]⟩:BA).toList with
  |true=>Nat.ble 1 args.length
  |false=>match ap.toList==(⟨#[112,117,116]⟩:BA).toList with
   |true=>Nat.ble 2 args.length
   |false=>match ap.toList==(⟨#[99,97,108,108]⟩:BA).toList with
    |true=>match findP ps proc with
     |some f=>Nat.ble f.params.length args.length
     |none=>false
    |false=>true
theorem oE:((⟨#[115,101,116]⟩:BA).toList==(⟨#[115,101,116]⟩:BA).toList)=true:=by kernel_rfl
theorem oG:((⟨#[115,101,116]⟩:BA).toList==(⟨#[112,117,116]⟩:BA).toList)=false:=by kernel_rfl
theorem mb:((⟨#[115,101,116]⟩:BA).toList==(⟨#[99,97,108,108]⟩:BA).toList)=false:=by kernel_rfl
theorem oH:((⟨#[112,117,116]⟩:BA).toList==(⟨#[115,101,116]⟩:BA).toList)=false:=by kernel_rfl
theorem oI:((⟨#[112,117,116]⟩:BA).toList==(⟨#[112,117,116]⟩:BA).toList)=true:=by kernel_rfl
theorem mc:((⟨#[112,117,116]⟩:BA).toList==(⟨#[99,97,108,108]⟩:BA).toList)=false:=by kernel_rfl
theorem wO:((⟨#[105,102]⟩:BA).toList==(⟨#[115,101,116]⟩:BA).toList)=false:=by kernel_rfl
theorem wP:((⟨#[105,102]⟩:BA).toList==(⟨#[112,117,116]⟩:BA).toList)=false:=by kernel_rfl
theorem um:((⟨#[105,102]⟩:BA).toList==(⟨#[99,97,108,108]⟩:BA).toList)=false:=by kernel_rfl
theorem pZ:((⟨#[119,104,105,108,101]⟩:BA).toList==(⟨#[115,101,116]⟩:BA).toList)=false:=by kernel_rfl
theorem p4:((⟨#[119,104,105,108,101]⟩:BA).toList==(⟨#[112,117,116]⟩:BA).toList)=false:=by kernel_rfl
theorem nQ:((⟨#[119,104,105,108,101]⟩:BA).toList==(⟨#[99,97,108,108]⟩:BA).toList)=false:=by kernel_rfl
theorem nT:((⟨#[97,115,115,101,114,116]⟩:BA).toList==(⟨#[115,101,116]⟩:BA).toList)=false:=by kernel_rfl
theorem nU:((⟨#[97,115,115,101,114,116]⟩:BA).toList==(⟨#[112,117,116]⟩:BA).toList)=false:=by kernel_rfl
theorem me:((⟨#[97,115,115,101,114,116]⟩:BA).toList==(⟨#[99,97,108,108]⟩:BA).toList)=false:=by kernel_rfl
theorem nV:((⟨#[97,115,115,117,109,101]⟩:BA).toList==(⟨#[115,101,116]⟩:BA).toList)=false:=by kernel_rfl
theorem nW:((⟨#[97,115,115,117,109,101]⟩:BA).toList==(⟨#[112,117,116]⟩:BA).toList)=false:=by kernel_rfl
theorem mf:((⟨#[97,115,115,117,109,101]⟩:BA).toList==(⟨#[99,97,108,108]⟩:BA).toList)=false:=by kernel_rfl
theorem mg:((⟨#[114,101,97,100]⟩:BA).toList==(⟨#[115,101,116]⟩:BA).toList)=false:=by kernel_rfl
theorem mh:((⟨#[114,101,97,100]⟩:BA).toList==(⟨#[112,117,116]⟩:BA).toList)=false:=by kernel_rfl
theorem kL:((⟨#[114,101,97,100]⟩:BA).toList==(⟨#[99,97,108,108]⟩:BA).toList)=false:=by kernel_rfl
theorem P2{vs ay:List BA}{ps:List Pc}{i:Nat}{s:Sm}{k:Nat}{r:BA×Nat}(h:dr s k=some r)(hn:gu vs ay (ps.take i) s=true)(hc:gv (ps.take i) s=true):Di ps s=true:=by
 have hN:=IZ hn;obtain ⟨ap,name,proc,args,cond,ao,aK⟩:=s;obtain ⟨t,j⟩:=r;have I2:(ap.toList==(⟨#[99,97,108,108]⟩:BA).toList)=true->(match findP ps proc with
   |some f=>Nat.ble f.params.length args.length
   |none=>false)=true:=by
  intro q;obtain ⟨f,h1,h2⟩:=ul (hN q);rw [wN h1];simp only [gv,q] at hc;have hc:=eq_of_beq hc;rw [h2,ba,ag] at hc;exact Nat.ble_eq_true_of_le (by omega)
 rcases q_ h with ⟨rfl,_,rfl,_,_,_,x,t1,k1,rfl,h1,_⟩|⟨rfl,_,rfl,_,_,_,x,y,t1,k1,t2,k2,rfl,h1,h2,_⟩|⟨rfl,rfl,_,_,_,_,t1,k1,h1,_⟩|⟨rfl,_,_,rfl,c,k1,b,k2,r,h1,_⟩|⟨rfl,_,_,rfl,_,c,k1,b,k2,h1,_⟩|⟨hk,_,_,rfl,_,_,c,k1,h1,_⟩|⟨rfl,_,rfl,rfl,_⟩
 ·simp only [Di,s9,GF,oD x _ _ _ h1,Bool.and_true,Bool.true_and,oE];rfl
 ·simp only [Di,s9,GF,oD x _ _ _ h1,oD y _ _ _ h2,Bool.and_true,Bool.true_and,oH,oI];rfl
 ·unfold ig at h1;obtain ⟨ss,k2,i2,h2,_,_⟩:=aY h1;have e1:((⟨#[99,97,108,108]⟩:BA).toList==(⟨#[115,101,116]⟩:BA).toList)=false:=by kernel_rfl
  have e2:((⟨#[99,97,108,108]⟩:BA).toList==(⟨#[112,117,116]⟩:BA).toList)=false:=by kernel_rfl
  have e3:((⟨#[99,97,108,108]⟩:BA).toList==(⟨#[99,97,108,108]⟩:BA).toList)=true:=by kernel_rfl
  simp only [Di,GF,Bh _ _ h2,Bool.and_true,Bool.true_and,e1,e2,e3];exact I2 e3
 ·simp only [Di,s9,pY h1,Bool.and_true,wO,wP,um]
 ·simp only [Di,s9,pY h1,Bool.and_true,pZ,p4,nQ]
 ·rcases hk with rfl|rfl
  ·simp only [Di,s9,pY h1,Bool.and_true,nT,nU,me]
  simp only [Di,s9,pY h1,Bool.and_true,nV,nW,mf]
 simp only [Di,s9,GF,Bool.and_true,mg,mh,kL]
def TxS(r:BA×Nat)(l:List Sm):Prop:=∀x,x∈l->∃(k:Nat) (t:BA) (j:Nat),dr x k=some (t,j)/\t.size<=r.1.size
theorem TxS.le{t u:BA}{j i:Nat}{l:List Sm}(h:TxS (t,j) l)(hs:t.size<=u.size):TxS (u,i) l:=fun x hx=>by
 obtain ⟨k,t',j',h1,h2⟩:=h x hx;exact ⟨k,t',j',h1,Nat.le_trans h2 hs⟩
theorem TxS.nil{r:BA×Nat}:TxS r []:=fun x hx=>by cases hx
theorem TxS.app{r:BA×Nat}{a b:List Sm}(h:TxS r a)(k:TxS r b):TxS r (a++b):=fun x hx=>by
 rcases List.mem_append.1 hx with hx|hx
 ·exact h x hx
 exact k x hx
theorem wQ:(∀(s:Sm) (k:Nat) (r:BA×Nat),dr s k=some r->TxS r (gM s))/\(∀(l:List Sm) (k:Nat) (r:BA×Nat),bI l k=some r->TxS r (flatB l)):=by
 have h0:∀(ap name proc:BA) (args:List Ex) (cond:List (List Ts)) (ao aK:List Sm),(∀(k:Nat) (r:BA×Nat),bI ao k=some r->TxS r (flatB ao))->(∀(k:Nat) (r:BA×Nat),bI aK k=some r->TxS r (flatB aK))->
   ∀(k:Nat) (r:BA×Nat),dr (.mk ap name proc args cond ao aK) k=some r->TxS r (gM (.mk ap name proc args cond ao aK)):=by
  intro ap name proc args cond ao aK ib ie k r h x hx;obtain ⟨t,j⟩:=r;simp only [gM] at hx;rcases List.mem_cons.1 hx with rfl|hx
  ·exact ⟨k,t,j,h,nR _⟩
  refine (?_:TxS (t,j) (flatB ao++flatB aK)) x hx;rcases q_ h with ⟨_,_,_,rfl,rfl,_⟩|⟨_,_,_,rfl,rfl,_⟩|⟨_,_,rfl,rfl,_⟩|⟨_,_,_,_,c,k1,b,k2,r,_,h2,rfl,⟨rfl,_⟩|⟨e,k3,h3,rfl⟩⟩|⟨_,_,_,_,rfl,c,k1,b,k2,_,h2,rfl⟩|⟨_,_,_,_,rfl,rfl,_⟩|⟨_,_,_,_,rfl,rfl,_⟩
  ·exact TxS.nil.app TxS.nil
  ·exact TxS.nil.app TxS.nil
  ·exact TxS.nil.app TxS.nil
  ·exact ((ib _ _ h2).le (by simp only [dX];omega)).app TxS.nil
  ·exact ((ib _ _ h2).le (by simp only [dX];omega)).app ((ie _ _ h3).le (by simp only [dX];omega))
  ·exact ((ib _ _ h2).le (by simp only [dX];omega)).app TxS.nil
  ·exact TxS.nil.app TxS.nil
  exact TxS.nil.app TxS.nil
 have h1:∀(k:Nat) (r:BA×Nat),bI [] k=some r->TxS r (flatB []):=fun _ _ _=>TxS.nil
 have h2:∀(s:Sm) (l:List Sm),(∀(k:Nat) (r:BA×Nat),dr s k=some r->TxS r (gM s))->(∀(k:Nat) (r:BA×Nat),bI l k=some r->TxS r (flatB l))->
   ∀(k:Nat) (r:BA×Nat),bI (s::l) k=some r->TxS r (flatB (s::l)):=by
  intro s l is il k r h;obtain ⟨t,j⟩:=r;simp only [bI] at h;split at h
  ·obtain ⟨_,_,_,_,h1,_⟩:=aY h;obtain ⟨a,b,k1,k2,h2,h3,rfl,_⟩:=br h1;exact ((is k _ h2).le (by simp only [dX];omega)).app ((il k _ h3).le (by simp only [dX];omega))
  cases h
 have hS:=fun s=>Sm.rec (motive_1:=fun s=>∀(k:Nat) (r:BA×Nat),dr s k=some r->TxS r (gM s)) (motive_2:=fun l=>∀(k:Nat) (r:BA×Nat),bI l k=some r->TxS r (flatB l)) h0 h1 h2 s;refine ⟨hS,fun l=>?_⟩
 induction l with
 |nil=>exact h1
 |cons s l ih=>exact h2 s l (hS s) ih
def wfB(ps:List Pc)(l:List Sm):Bool:=(flatB l).all (Di ps)
theorem I3{vs ay:List BA}{ps:List Pc}{i:Nat}{l:List Sm}{k:Nat}{r:BA×Nat}(h:bI l k=some r)(hn:(flatB l).all (gu vs ay (ps.take i))=true)(hc:(flatB l).all (gv (ps.take i))=true):wfB ps l=true:=by
 refine List.all_eq_true.2 fun x hx=>?_;obtain ⟨k',t',j',h',_⟩:=wQ.2 l k r h x hx;exact P2 h' (List.all_eq_true.1 hn x hx) (List.all_eq_true.1 hc x hx)
theorem I4{ps:List Pc}{ap name proc:BA}{args:List Ex}{cond:List (List Ts)}{ao aK r:List Sm}(h:wfB ps (.mk ap name proc args cond ao aK::r)=true):Di ps (.mk ap name proc args cond ao aK)=true/\wfB ps ao=true/\wfB ps aK=true/\wfB ps r=true:=by
 simp only [wfB,flatB,gM,List.cons_append,List.all_cons,List.all_append,bE] at h ⊢;exact ⟨h.1,h.2.1.1,h.2.1.2,h.2.2⟩
theorem Dj{procs:List Pc}:∀ {l:List Pc}{k:Nat},HF procs l k=true->∀(j:Nat) (f:Pc),l[j]? = some f->(flatB f.body).all (gv (procs.take (k+j)))=true
 |[],k,_,j,f,hj=>by simp at hj
 |g::r,k,h,j,f,hj=>by
  simp only [HF] at h;cases hq:(flatB g.body).all (gv (procs.take k)) with
  |false=>rw [hq] at h;cases h
  |true=>
   rw [hq] at h;cases j with
   |zero=>
    simp only [List.getElem?_cons_zero,sI] at hj;subst hj;exact hq
   |succ j=>
    have:=Dj h j f (by simpa using hj)
    rwa [show k+1+j=k+(j+1) by omega] at this
theorem un:∀(l:List Pc) (r:BA×Nat),eW l=some r->∀f,f∈l->(∃r,bI f.body 1=some r)/\shE f.ret=true
 |[],_,_,f,hf=>by cases hf
 |⟨nm,ps,bd,rt⟩::l,(_,_),h,f,hf=>by
  simp only [eW] at h;obtain ⟨_,h⟩:=bp h;obtain ⟨_,h⟩:=bp h;obtain ⟨_,_,_,_,_,h,_⟩:=br h;obtain ⟨_,_,_,_,h1,h,_⟩:=br h;obtain ⟨_,_,_,_,h2,h,_⟩:=br h;obtain ⟨_,_,_,_,_,h,_⟩:=br h;obtain ⟨_,_,_,h3,_⟩:=aY h2;rcases List.mem_cons.1 hf with rfl|hf
  ·exact ⟨⟨_,h1⟩,oD _ _ _ _ h3⟩
  exact un l _ h f hf
structure WfP (arrays:List Ar) (procs:List Pc) (main:List Sm):Prop where
 pc:∀f,f∈procs->wfB procs f.body=true/\shE f.ret=true
 mn:wfB procs main=true
 pn:(pcN procs).Nodup
 an:(arN arrays).Nodup
 size:∀a,a∈arrays->1<=a.size/\a.size<=16
theorem Bi{bA bL bD bN bM bC bK:Bool}(h:oC bA bL bD bN bM bC bK=none):bA=false/\bL=false/\bD=false/\bN=true/\bM=true/\bC=true/\bK=true:=by
 cases bA <;> cases bL <;> cases bD <;> cases bN <;> cases bM <;> cases bC <;> cases bK <;> first|exact ⟨rfl,rfl,rfl,rfl,rfl,rfl,rfl⟩|cases h
theorem Bj:∀ {l:List Ar},kl l=false->∀a,a∈l->1<=a.size/\a.size<=16
 |[],_,a,ha=>by cases ha
 |b::r,h,a,ha=>by
  simp only [kl] at h;cases hq:(decide (b.size<1)||decide (b.size>16)) with
  |true=>rw [hq] at h;cases h
  |false=>
   rw [hq] at h;rcases List.mem_cons.1 ha with rfl|ha
   ·simp only [Bool.or_eq_false_iff,decide_eq_false_iff_not] at hq;omega
   exact Bj h a ha
theorem SU{az:List BA}{ah:List Ar}{procs:List Pc}{main:List Sm}{r:BA×Nat}(h:jq ⟨az,ah,procs,main⟩=some r)(hc:gw az ah procs main=none):WfP ah procs main:=by
 obtain ⟨t,k⟩:=r;unfold jq at h;obtain ⟨_,_,_,_,_,h,_⟩:=br h;obtain ⟨_,_,_,_,_,h,_⟩:=br h;obtain ⟨_,_,_,_,hp,h,_⟩:=br h;unfold ly at h;obtain ⟨_,_,_,_,_,h,_⟩:=br h;obtain ⟨_,_,_,_,hm,_⟩:=br h;unfold gw at hc;obtain ⟨cA,_,cD,cN,cM,cC,cK⟩:=Bi hc;have uo:((fq az ah procs++pcN procs).map (·.data.toList)).Nodup:=by
  simp only [ug,Bool.not_eq_false',dE] at cD;exact cD
 have uo:(fq az ah procs++pcN procs).Nodup:=by
  refine (List.pairwise_map.1 uo).imp fun HP q=>HP (by rw [q])
 rw [List.nodup_append] at uo;obtain ⟨h1,h2,_⟩:=uo;unfold fq at h1;rw [List.nodup_append] at h1;obtain ⟨h1,_,_⟩:=h1;rw [List.nodup_append] at h1;refine ⟨fun f hf=>?_,?_,h2,h1.2.1,Bj cA⟩
 ·obtain ⟨⟨r,g1⟩,g2⟩:=un procs _ hp f hf;obtain ⟨j,hj,rfl⟩:=List.mem_iff_getElem.1 hf;have L':procs[j]? = some procs[j]:=List.getElem?_eq_getElem hj;have a1:=rg cN j _ L';have a2:=Dj cC j _ L';exact ⟨I3 g1 a1 a2,g2⟩
 have e:procs.take procs.length=procs:=List.take_length;exact I3 (vs:=az) (ay:=arN ah) (i:=procs.length) hm (by rw [e];exact cM) (by rw [e];exact cK)
def r_(vs:List (BA×Int)):List (BA×Data):=vs.map fun q=>(q.1,aD q.2)
theorem p5:∀(vs:List (BA×Int)) (s:BA) (n:Int),cZ (r_ vs) s (aD n)=r_ (ff vs s n)
 |[],_,_=>rfl
 | (k,q)::r,s,n=>by
  have ih:=p5 r s n;simp only [r_] at ih;simp only [r_,List.map_cons,cZ,ff];cases (s==k)
  ·simp only [List.map_cons,ih]
  rfl
theorem E7:∀(vs:List (BA×Int)) (s:BA),dF (r_ vs) s=some (aD (iM vs s))\/(dF (r_ vs) s=none/\iM vs s=0)
 |[],_=>.inr ⟨rfl,rfl⟩
 | (k,q)::r,s=>by
  have ih:=E7 r s;simp only [r_] at ih;simp only [r_,List.map_cons,dF,iM];cases (s==k)
  ·exact ih
  exact .inl rfl
theorem E8(vs:List (BA×Int))(s:BA)(n:Int):(dL (r_ vs) s (aD 0)).2.1<(dL (r_ vs) s (aD 0)).2.2.length/\(dL (r_ vs) s (aD 0)).2.2.modify (dL (r_ vs) s (aD 0)).2.1 (fun e=>(e.1,aD n))=r_ (ff vs s n):=by
 have h:=E9 (r_ vs) s (aD 0) (aD n);rw [p5] at h;exact h
theorem Dk:∀(ar:List (BA×List Int)) (s:BA) (i:Nat),(gJ ar s i=none/\ef ar s=[])\/∃j,gJ ar s i=some (i+j,ef ar s)/\ar[j]? = some (s,ef ar s)/\∀k n,jL ar s k n=ar.set j (s,(ef ar s).set k n)
 |[],_,_=>.inl ⟨rfl,rfl⟩
 | (k,l)::r,s,i=>by
  simp only [gJ,ef,jL];cases hb:(s==k)
  ·rcases Dk r s (i+1) with ⟨h1,h2⟩|⟨j,h1,h2,h3⟩
   ·exact .inl ⟨h1,h2⟩
   exact .inr ⟨j+1,by rw [h1,show i+1+j=i+(j+1) by omega],by simpa using h2,fun k n=>by simp only [h3 k n,List.set_cons_succ]⟩
  have hs:s=k:=(MapKept.bytes_beq _ _).1 hb;subst hs;exact .inr ⟨0,rfl,rfl,fun k n=>rfl⟩
theorem N_{T:Tab}{e:TypeId}{vs:List (BA×Int)}{s:BA}{k:PV->Prop}(hz:nX T e=some (.d (aD 0)))(h:k (.d (aD (iM vs s)))):∃o,dF (r_ vs) s=o/\match o with
  |some p=>E_ false (.d p) true k
  |none=>match nX T e with
   |some z=>E_ false z false k
   |none=>False:=by
 refine ⟨_,rfl,?_⟩;rcases E7 vs s with h1|⟨h1,h2⟩
 ·rw [h1];exact h
 rw [h1,hz];rw [h2] at h;exact h
theorem N' {T:Tab}{e:TypeId}{fz:Bool}{id:Nat}{ar:List (BA×List Int)}{s:BA}{k:PV->Prop}(hz:nX T e=some (.d (.s (.slice none 0 0))))
  (h1:∀j,gJ ar s 0=some (j,ef ar s)->ar[j]? = some (s,ef ar s)->(∀k n,jL ar s k n=ar.set j (s,(ef ar s).set k n))->k (Dl fz id j (ef ar s))) (h2:ef ar s=[]->k (.d (.s (.slice none 0 0)))):∃o,gJ ar s 0=o/\match o with
  |some (j,l)=>E_ false (Dl fz id j l) true k
  |none=>match nX T e with
   |some z=>E_ false z false k
   |none=>False:=by
 refine ⟨_,rfl,?_⟩;rcases Dk ar s 0 with ⟨q1,q2⟩|⟨j,q1,q2,q3⟩
 ·rw [q1,hz];exact h2 q2
 rw [Nat.zero_add] at q1;rw [q1];exact h1 j q1 q2 q3
def zW(ps:List Pc):List (BA×Data):=ps.map fun f=>(f.name,.agg f.cs)
theorem E':∀(ps:List Pc) (s:BA),dF (zW ps) s=(findP ps s).map fun f=>.agg f.cs
 |[],_=>rfl
 |f::r,s=>by
  have ih:=E' r s;simp only [zW,findP] at ih;have e:(s==f.name)=(f.name.toList==s.toList):=by
   rw [cR];cases q:(f.name.toList==s.toList) with
   |true=>exact dT (dj q).symm
   |false=>
    refine decide_eq_false fun h=>?_;rw [h] at q
    simp at q
  simp only [zW,findP,List.map_cons,dF,List.find?_cons,e];cases (f.name.toList==s.toList)
  ·exact ih
  rfl
theorem up:∀ {m:List (BA×Data)}{s:BA}{p:Data},s∉m.map (·.1)->cZ m s p=m++[(s,p)]
 |[],_,_,_=>rfl
 | (k,q)::r,s,p,h=>by
  simp only [List.map_cons,List.mem_cons,not_or] at h;have e:(s==k)=false:=by rw [cR];exact decide_eq_false h.1
  simp only [cZ,e,up h.2,List.cons_append]
theorem wR:∀ {m:List (BA×List Int)}{s:BA}{i:Nat},s∉m.map (·.1)->gJ m s i=none
 |[],_,_,_=>rfl
 | (k,q)::r,s,i,h=>by
  simp only [List.map_cons,List.mem_cons,not_or] at h;have e:(s==k)=false:=by rw [cR];exact decide_eq_false h.1
  simp only [gJ,e,wR h.2]
end Go.Abs
end
