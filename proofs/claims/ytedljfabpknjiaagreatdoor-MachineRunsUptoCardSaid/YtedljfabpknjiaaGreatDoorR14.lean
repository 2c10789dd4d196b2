/- Texts of this proof, joined and shortened. -/
import Derived.Test.YtedljfabpknjiaaGreatDoorR13
import Derived.Test.YtedljfabpknjiaaGreatDoorR12
import Derived.Test.YtedljfabpknjiaaGreatDoorR8
import Derived.Laws.StructEq
import Derived.Test.YtedljfabpknjiaaGreatDoorR9
set_option maxHeartbeats 1000000
section
namespace Go.Abs
open Go Go.Proofs
attribute [local irreducible] c8 dJ Sub Spec
section
theorem wC:∀(l:List Sm) (e:Sm),bF l++[e.cs]=bF (l++[e])
 |[],e=>rfl
 |x::r,e=>by simp only [bF,List.cons_append,wC r e]
def Vb(G:Glob)(f:FuncId)(m:Nat):Prop:=∀l:List Ex,la l<m->gD l<=1000000000->Spec Tryz.prog G f [.d (.sl 4 (bR l))] [] (.ret (.d (.sl 4 (bR l)))) []
theorem cf(l:List Ts):(kr l).length=l.length:=by simp [kr]
theorem cg(l:List (List Ts)):(eG l).length=l.length:=by simp [eG]
theorem EV:∀(a b:List Ex),la (a++b)=la a+la b
 |[],b=>by simp [la]
 |x::a,b=>by simp only [List.cons_append,la,EV a b];omega
theorem m0:∀(a b:List Ex),gD (a++b)=gD a+gD b
 |[],b=>by simp [gD]
 |x::a,b=>by simp only [List.cons_append,gD,m0 a b];omega
def Po:Plan:=(.take 0 (.take 1 (.take 2 (.take 3 (.take 4 (.load 5 (.take 6 (.take 7 (.take 8 (.take 9 (.load 10 (.take 11 (.take 12 (.take 13 (.take 14 (.load 15 (.take 16 (.take 17 (.take 18 (.take 19 (.load 20 (.one 21 (.one 22 (.one 23 (.one 24 (.take 25 .done))))))))))))))))))))))))))
theorem yr(G:Glob)(m:Nat)(ih:Vb G 156 m):Vb G 156 (m+1):=by
 intro l hf hw;have bZ:=dU l;have i6:l.length<=1073741824:=by omega
 refine sA (N:=37) Tryz.func156 ?_;refine rz [0] ?_;refine rz [0,3] ?_;refine aa (rz [0,3,4] ?_);refine dV 3 157 4 rfl rfl rfl ?_;refine aq [0,3,4] rfl rfl ?_;refine af (aB (fun k Y=>∃(d1 e1:List Ex),k=e1.length/\l=d1++e1/\Y=⟨[(0,.d (.sl 4 (bR l))),(3,.acc 0),(4,.d (aD d1.length))],[.acc 157 4 (bR d1)]⟩) (l.length) (⟨[],l,rfl,rfl,rfl⟩) ?_);rintro k Y ⟨d1,e1,rfl,bV,rfl⟩;have bu:(bR l).length=d1.length+e1.length:=by rw [b7,bV,lA]
 have cn:d1.length+e1.length<=1073741824:=by rw [bV,lA] at i6;exact i6
 refine aa (rz [0,3,4,8] ?_);refine cQ rfl (fun h1=>?_) fun h1=>?_
 ·have bO:=oT h1;rw [bu] at bO;cases e1 with
  |nil=>simp only [lN] at bO;omega
  |cons x cw=>
  obtain ⟨p1,n1,m1,l1⟩:=x;subst bV;simp only [lC] at cn;have Pp:la l1<m:=by rw [EV] at hf;simp only [la,fuE] at hf;omega
  have yu:gD l1<=1000000000:=by rw [m0] at hw;simp only [gD,wtE] at hw;omega
  refine ac (aa ?_);refine af ((dW Po [24] (fun _=>false) (by kernel_rfl) fun J O=>oN (eI _ (aI (iZ rfl) ?_))));refine oN (eI _ (aI (iZ rfl) ?_));refine oN (eI _ (aI (iZ rfl) ?_));refine oN (eI _ (aI (iZ rfl) ?_));refine aS [] (ih l1 Pp yu) ?_;refine aI (aI ((by simp only [b7,ai];omega)) ((by simp only [b7,ai,maxLen];omega))) ?_;refine O _ (aM [0,3,4] ?_);clear O J;refine rG fun J O=>O _ ?_;clear O J;exact ⟨_,nS _,_,aG (L:=[0]) (slots:=[0,3,4]) rfl rfl rfl rfl rfl,d1++[.mk p1 n1 m1 l1],cw,rfl,by simp,by rw [<- pL,lA,aH (by omega) (by omega)];rfl⟩
 have bO:=oF h1;rw [bu] at bO;obtain rfl:e1=[]:=lE (by omega);rw [List.append_nil] at bV;subst bV;refine aA ?_;refine aq [3] rfl rfl ?_;refine rz [2] ?_;refine ae ?_;exact lF [] [.d (.sl 4 (bR l))]
theorem pM(G:Glob):∀m,Vb G 156 m
 |0=>fun l h=>absurd h (by omega)
 |m+1=>yr G m (pM G m)
theorem lS(G:Glob)(l:List Ex)(hw:gD l<=1000000000):Spec Tryz.prog G 156 [.d (.sl 4 (bR l))] [] (.ret (.d (.sl 4 (bR l)))) []:=pM G (la l+1) l (nS _) hw
def Sx:Plan:=(.take 0 (.load 1 (.take 2 (.load 3 (.take 4 (.load 5 (.take 6 (.load 7 (.one 8 (.one 9 (.one 10 .done)))))))))))
theorem ir(G:Glob)(e:Ex)(hw:wtE e<=1000000000):Spec Tryz.prog G 84 [.d (.agg e.cs)] [] (.ret (.d (.agg e.cs))) []:=by
 obtain ⟨op,n,nm,l⟩:=e;refine sA (N:=13) Tryz.func84 ?_;refine rz [1,2] ?_;refine aa ((dW Sx [10] (fun i=>Nat.beq i 0) (by kernel_rfl) fun J O=>?_));refine aR [] rfl rfl rfl (lS G l (by simp only [wtE] at hw;omega)) rfl rfl rfl rfl ?_;refine O _ (aM [2] ?_);clear O J;refine ae ?_;exact lF [] [pN (.mk op n nm l)]
theorem EW:∀(a b:List Ts),mO b<=mO (a++b)
 |[],b=>nR _
 |x::a,b=>by have:=EW a b;simp only [List.cons_append,mO];omega
def Pq:Plan:=(.take 0 (.take 1 (.take 2 (.take 3 (.take 4 (.load 5 (.take 7 (.take 8 (.take 9 (.take 10 (.load 11 (.take 12 (.take 13 (.take 14 (.take 15 (.load 16 (.one 6 (.one 17 (.one 18 (.one 19 (.one 20 (.take 21 .done))))))))))))))))))))))
theorem yv(G:Glob)(l:List Ts)(hw:mO l<=1000000000):Spec Tryz.prog G 157 [.d (.sl 9 (kr l))] [] (.ret (.d (.sl 9 (kr l)))) []:=by
 have bZ:=kx l;have i6:l.length<=1073741824:=by omega
 refine sA (N:=33) Tryz.func157 ?_;refine rz [0] ?_;refine rz [0,3] ?_;refine aa (rz [0,3,4] ?_);refine dV 3 282 9 rfl rfl rfl ?_;refine aq [0,3,4] rfl rfl ?_;refine af (aB (fun k Y=>∃(d1 e1:List Ts),k=e1.length/\l=d1++e1/\Y=⟨[(0,.d (.sl 9 (kr l))),(3,.acc 0),(4,.d (aD d1.length))],[.acc 282 9 (kr d1)]⟩) (l.length) (⟨[],l,rfl,rfl,rfl⟩) ?_);rintro k Y ⟨d1,e1,rfl,bV,rfl⟩;have bu:(kr l).length=d1.length+e1.length:=by rw [cf,bV,lA]
 have cn:d1.length+e1.length<=1073741824:=by rw [bV,lA] at i6;exact i6
 refine aa (rz [0,3,4,8] ?_);refine cQ rfl (fun h1=>?_) fun h1=>?_
 ·have bO:=oT h1;rw [bu] at bO;cases e1 with
  |nil=>simp only [lN] at bO;omega
  |cons x cw=>
  obtain ⟨⟨p1,n1,m1,l1⟩,dZ,⟨p2,n2,m2,l2⟩⟩:=x;subst bV;simp only [lC] at cn;have hx:=EW d1 (⟨.mk p1 n1 m1 l1,dZ,.mk p2 n2 m2 l2⟩::cw);rw [mO,HS] at hx;simp only at hx;refine ac (aa ?_);refine af ((dW Pq [20] (fun _=>false) (by kernel_rfl) fun J O=>oN (eI _ (aI (eL rfl) ?_))));refine oN (eI _ (aI (eL rfl) ?_));refine oN (eI _ (aI (eL rfl) ?_));refine aS [] (ir G (.mk p1 n1 m1 l1) (by omega)) ?_;refine aS [] (ir G (.mk p2 n2 m2 l2) (by omega)) ?_;refine aI (aI ((by simp only [cf,ai];omega)) ((by simp only [cf,ai,maxLen];omega))) ?_;refine O _ (aM [0,3,4] ?_);clear O J;refine rG fun J O=>O _ ?_;clear O J;exact ⟨_,nS _,_,aG (L:=[0]) (slots:=[0,3,4]) rfl rfl rfl rfl rfl,d1++[⟨.mk p1 n1 m1 l1,dZ,.mk p2 n2 m2 l2⟩],cw,rfl,by simp,by rw [<- AR,lA,aH (by omega) (by omega)];rfl⟩
 have bO:=oF h1;rw [bu] at bO;obtain rfl:e1=[]:=lE (by omega);rw [List.append_nil] at bV;subst bV;refine aA ?_;refine aq [3] rfl rfl ?_;refine rz [2] ?_;refine ae ?_;exact lF [] [.d (.sl 9 (kr l))]
theorem s3:∀(a b:List Sm),lq b<=lq (a++b)
 |[],b=>nR _
 |x::a,b=>by have:=s3 a b;simp only [List.cons_append,lq];omega
theorem s4:∀(a b:List Sm),dG b<=dG (a++b)
 |[],b=>nR _
 |x::a,b=>by have:=s4 a b;simp only [List.cons_append,dG];omega
theorem s5:∀(a b:List (List Ts)),iD b<=iD (a++b)
 |[],b=>nR _
 |x::a,b=>by have:=s5 a b;simp only [List.cons_append,iD];omega
theorem m4:∀(a b:List Pc),lz b<=lz (a++b)
 |[],b=>nR _
 |x::a,b=>by have:=m4 a b;simp only [List.cons_append,lz];omega
def Vc(G:Glob)(m:Nat):Prop:=∀l:List Sm,lq l<m->dG l<=1000000000->Spec Tryz.prog G 83 [.d (.sl 7 (bF l))] [] (.ret (.d (.sl 7 (bF l)))) []
set_option maxHeartbeats 1000000
def Sy:Plan:=(.take 0 (.take 1 (.take 2 (.take 3 (.load 4 (.take 5 (.take 6 (.take 7 (.take 8 (.load 9 (.take 10 (.take 11 (.take 12 (.take 13 (.load 14 (.take 15 (.take 16 (.take 17 (.take 18 (.load 19 (.take 21 (.take 22 (.take 23 (.take 24 (.load 25 (.take 27 (.take 28 (.take 29 (.take 30 (.load 31 (.alt 20 (.alt 26 (.alt 32 (.alt 33 (.one 34 (.one 35 .done)) (.alt 34 (.one 33 (.one 35 .done)) .done)) (.alt 34 (.one 32 (.one 33 (.one 35 .done))) .done)) (.alt 34 (.one 26 (.one 32 (.one 33 (.one 35 .done)))) .done)) (.alt 34 (.one 20 (.one 26 (.one 32 (.one 33 (.one 35 .done))))) .done))))))))))))))))))))))))))))))))
def Sz:Plan:=(.take 0 (.load 1 (.take 2 (.take 3 (.take 4 (.take 5 (.load 6 (.take 7 (.take 8 (.load 9 (.one 10 (.one 11 (.one 12 (.take 13 (.one 14 .done)))))))))))))))
theorem yw(G:Glob)(m:Nat)(ih:Vc G m):Vc G (m+1):=by
 intro l hf hw;have bZ:=kz l;have i6:l.length<=1073741824:=by omega
 refine sA (N:=76) Tryz.func83 ?_;refine rz [0] ?_;refine rz [0,3] ?_;refine aa (rz [0,3,4] ?_);refine dV 3 217 7 rfl rfl rfl ?_;refine aq [0,3,4] rfl rfl ?_;refine af (aB (fun k Y=>∃(d1 e1:List Sm),k=e1.length/\l=d1++e1/\Y=⟨[(0,.d (.sl 7 (bF l))),(3,.acc 0),(4,.d (aD d1.length))],[.acc 217 7 (bF d1)]⟩) (l.length) (⟨[],l,rfl,rfl,rfl⟩) ?_);rintro k Y ⟨d1,e1,rfl,bV,rfl⟩;have bu:(bF l).length=d1.length+e1.length:=by rw [aL,bV,lA]
 have cn:d1.length+e1.length<=1073741824:=by rw [bV,lA] at i6;exact i6
 refine aa (rz [0,3,4,10] ?_);refine cQ rfl (fun h1=>?_) fun h1=>?_
 ·have bO:=oT h1;rw [bu] at bO;cases e1 with
  |nil=>simp only [lN] at bO;omega
  |cons x cw=>
  obtain ⟨ap,name,proc,args,cond,ao,aK⟩:=x;subst bV;simp only [lC] at cn;have Pp:=s3 d1 (.mk ap name proc args cond ao aK::cw);have yu:=s4 d1 (.mk ap name proc args cond ao aK::cw);simp only [lq,pz,dG,im] at Pp yu;have K3:=dD ao;have K4:=dD aK;have iQ:=ky cond;have N0:cond.length<=1073741824:=by omega
  refine ac (aa ?_);refine af (bQ (fun Z=>Z=⟨[(0,.d (.sl 7 (bF (d1++.mk ap name proc args cond ao aK::cw)))),(3,.acc 0),(4,.d (aD d1.length)),(5,.box 1 0)],[.acc 217 7 (bF d1),.box 217 [.d (aW ap),.d (aW name),.d (aW proc),.d (.sl 4 (bR args)),.d (.s (.slice none 0 0)),.d (.sl 7 (bF ao)),.d (.sl 7 (bF aK))]]⟩) ?_ ?_)
  ·refine (dW Sy [35] (fun _=>false) (by kernel_rfl) fun J O=>?_);refine oN (eI _ (aI (ed rfl) ?_));refine oN (eI _ (aI (ed rfl) ?_));refine oN (eI _ (aI (ed rfl) ?_));refine oN (eI _ (aI (ed rfl) ?_));refine oN (eI _ (aI (ed rfl) ?_));refine oN (eI _ (aI (ed rfl) ?_));refine aI ?_ ?_
   ·refine aS [] (lS G args (by omega)) ?_;refine aI ?_ ?_
    ·refine aS [] (ih ao (by omega) (by omega)) ?_;refine aI ?_ ?_
     ·refine aS [] (ih aK (by omega) (by omega)) ?_;refine aI ?_ ?_
      ·refine O _ ?_;clear O J;exact ⟨_,ak (slots:=[0,3,4,5]) rfl rfl,rfl⟩
      refine aI ?_ ?_
      ·refine O _ ?_;clear O J;exact ⟨_,ak (slots:=[0,3,4,5]) rfl rfl,rfl⟩
      trivial
     refine aI ?_ ?_
     ·refine aS [] (ih aK (by omega) (by omega)) ?_;refine O _ ?_;clear O J;exact ⟨_,ak (slots:=[0,3,4,5]) rfl rfl,rfl⟩
     trivial
    refine aI ?_ ?_
    ·refine aS [] (ih ao (by omega) (by omega)) ?_;refine aS [] (ih aK (by omega) (by omega)) ?_;refine O _ ?_;clear O J;exact ⟨_,ak (slots:=[0,3,4,5]) rfl rfl,rfl⟩
    trivial
   refine aI ?_ ?_
   ·refine aS [] (lS G args (by omega)) ?_;refine aS [] (ih ao (by omega) (by omega)) ?_;refine aS [] (ih aK (by omega) (by omega)) ?_;refine O _ ?_;clear O J;exact ⟨_,ak (slots:=[0,3,4,5]) rfl rfl,rfl⟩
   trivial
  rintro Z rfl;refine aa (rz [0,3,4,5,6] ?_);refine cr 1 4 123 1 rfl rfl rfl rfl ?_;refine aq [0,3,4,5,6] rfl rfl ?_;refine af (aB (fun k Y=>∃(d2 e2:List (List Ts)),k=e2.length/\cond=d2++e2/\Y=⟨[(0,.d (.sl 7 (bF (d1++.mk ap name proc args cond ao aK::cw)))),(3,.acc 0),(4,.d (aD d1.length)),(5,.box 1 0),(6,.d (aD d2.length))],[.acc 217 7 (bF d1),.box 217 [.d (aW ap),.d (aW name),.d (aW proc),.d (.sl 4 (bR args)),.acc 2,.d (.sl 7 (bF ao)),.d (.sl 7 (bF aK))],.acc 123 1 (eG d2)]⟩) (cond.length) (⟨[],cond,rfl,rfl,rfl⟩) ?_);rintro k Y ⟨d2,e2,rfl,du,rfl⟩;have dI:(eG cond).length=d2.length+e2.length:=by rw [cg,du,lA]
  have fK:d2.length+e2.length<=1073741824:=by rw [du,lA] at N0;exact N0
  refine aa (rS fun J O=>oN (eI _ (aI (ed rfl) ?_)));refine O _ (aM [0,3,4,5,6,54] ?_);clear O J;refine cQ rfl (fun h2=>?_) fun h2=>?_
  ·have fe:=oT h2;rw [dI] at fe;cases e2 with
   |nil=>simp only [lN] at fe;omega
   |cons x ke=>
   subst du;simp only [lC] at fK;have Ps:=s5 d2 (x::ke);simp only [iD] at Ps;refine ac (aa ?_);refine af ((dW Sz [12,14] (fun i=>Nat.beq i 1) (by kernel_rfl) fun J O=>oN (eI _ (aI (ed rfl) ?_))));refine oN (eI _ (aI (eh rfl) ?_));refine aS [] (yv G x (by omega)) ?_;refine aI (aI ((by simp only [cg,ai];omega)) ((by simp only [cg,ai,maxLen];omega))) ?_;refine O _ (aM [0,3,4,5,6] ?_);clear O J;refine rG fun J O=>O _ ?_;clear O J;exact ⟨_,nS _,_,aG (L:=[0,1,2]) (slots:=[0,3,4,5,6]) rfl rfl rfl rfl rfl,d2++[x],ke,rfl,by simp,by rw [<- lT,lA,aH (by omega) (by omega)];rfl⟩
  have fe:=oF h2;rw [dI] at fe;obtain rfl:e2=[]:=lE (by omega);rw [List.append_nil] at du;subst du;refine aA ?_;refine aq [0,3,4,5] rfl rfl ?_;refine rG fun J O=>?_;refine aI (aI ((by simp only [aL,ai];omega)) ((by simp only [aL,ai,maxLen];omega))) ?_;refine O _ (aM [0,3,4] ?_);clear O J;refine rG fun J O=>O _ ?_;clear O J;exact ⟨_,nS _,_,aG (L:=[0]) (slots:=[0,3,4]) rfl rfl rfl rfl rfl,d1++[.mk ap name proc args cond ao aK],cw,rfl,by simp,by rw [<- wC,lA,aH (by omega) (by omega)];rfl⟩
 have bO:=oF h1;rw [bu] at bO;obtain rfl:e1=[]:=lE (by omega);rw [List.append_nil] at bV;subst bV;refine aA ?_;refine aq [3] rfl rfl ?_;refine rz [2] ?_;refine ae ?_;exact lF [] [.d (.sl 7 (bF l))]
theorem pO(G:Glob):∀m,Vc G m
 |0=>fun l h=>absurd h (by omega)
 |m+1=>yw G m (pO G m)
theorem lU(G:Glob)(l:List Sm)(hw:dG l<=1000000000):Spec Tryz.prog G 83 [.d (.sl 7 (bF l))] [] (.ret (.d (.sl 7 (bF l)))) []:=pO G (lq l+1) l (nS _) hw
def SA:Plan:=(.take 0 (.load 1 (.take 2 (.load 3 (.take 4 (.take 5 (.take 6 (.load 7 (.take 8 (.load 9 (.take 10 (.take 11 (.take 12 (.load 13 (.one 14 (.one 15 (.one 16 (.take 17 (.one 18 .done)))))))))))))))))))
def Pt:Plan:=(.take 0 (.load 1 (.take 2 (.take 3 (.take 4 (.load 5 (.take 6 (.load 7 (.take 8 (.take 9 (.take 10 (.load 11 (.take 13 (.load 14 (.take 15 (.take 16 (.take 17 (.load 18 (.alt 12 (.alt 19 (.alt 20 (.one 21 (.one 22 .done)) (.alt 21 (.one 20 (.one 22 .done)) .done)) (.alt 21 (.one 19 (.one 20 (.one 22 .done))) .done)) (.alt 21 (.one 12 (.one 19 (.one 20 (.one 22 .done)))) .done))))))))))))))))))))
def Pu:Plan:=(.take 0 (.load 1 (.take 2 (.load 3 (.take 4 (.take 5 (.take 6 (.load 7 (.one 8 (.take 9 (.one 10 .done)))))))))))
theorem gr(G:Glob)(p:Pg)(hw:wtPg p<=1000000000):Spec Tryz.prog G 23 [.d (.agg p.cs)] [] (.ret (.d (.agg p.cs))) []:=by
 obtain ⟨az,ah,procs,main⟩:=p;simp only [wtPg] at hw;have h1:=ew az;have h2:=mP ah;have h3:=kA procs;have lr:ah.length<=1073741824:=by omega
 have mQ:procs.length<=1073741824:=by omega
 refine sA (N:=87) Tryz.func23 ?_;refine rz [1,2] ?_;refine rS fun J O=>?_;refine aS [] (lU G main (by omega)) ?_;refine O _ (aM [1,2,3] ?_);clear O J;refine cr 2 0 9 1 rfl rfl rfl rfl ?_;refine cr 2 1 169 2 rfl rfl rfl rfl ?_;refine cr 2 2 159 7 rfl rfl rfl rfl ?_;refine aq [1,2,3] rfl rfl ?_;refine rS fun J O=>?_;refine aI (aI ((by simp only [ag,lN];omega)) ((by simp only [ag,lN,maxLen];omega))) ?_;refine O _ (aM [1,2,3] ?_);clear O J;refine aa (rz [1,2,3,4] ?_);refine af (aB (fun k Y=>∃(d1 e1:List Ar),k=e1.length/\ah=d1++e1/\Y=⟨[(1,.box 0 0),(2,.box 1 0),(3,.box 2 0),(4,.d (aD d1.length))],[.box 37 [.d (.sl 1 (strs az)),.d (.sl 2 (ey ah)),.d (.sl 7 (c_ procs)),.d (.sl 7 (bF main))],.box 28 [.d (.s (.slice none 0 0)),.d (.s (.slice none 0 0)),.d (.s (.slice none 0 0)),.d (.s (.slice none 0 0))],.box 28 [.acc 3,.acc 4,.acc 5,.d (.sl 7 (bF main))],.acc 9 1 (strs az),.acc 169 2 (ey d1),.acc 159 7 (c_ [])]⟩) (ah.length) (⟨[],ah,rfl,rfl,rfl⟩) ?_);rintro k Y ⟨d1,e1,rfl,bV,rfl⟩
 have bu:(ey ah).length=d1.length+e1.length:=by rw [ey,lM,bV,lA]
 have cn:d1.length+e1.length<=1073741824:=by rw [bV,lA] at lr;exact lr
 refine aa (rz [1,2,3,4,21] ?_);refine cQ rfl (fun h1=>?_) fun h1=>?_
 ·have bO:=oT h1;rw [bu] at bO;cases e1 with
  |nil=>simp only [lN] at bO;omega
  |cons x cw=>
  obtain ⟨nm,sz⟩:=x;subst bV;simp only [lC] at cn;refine ac (aa ?_);refine af ((dW SA [16,18] (fun _=>true) (by kernel_rfl) fun J O=>oN (eI _ (aI (fL rfl) ?_))));refine oN (eI _ (aI (fL rfl) ?_));refine aI (aI ((by simp only [ey,lM,ai];omega)) ((by simp only [ey,lM,ai,maxLen];omega))) ?_;refine O _ (aM [1,2,3,4] ?_);clear O J;refine rG fun J O=>O _ ?_;clear O J;exact ⟨_,nS _,_,aG (L:=[0,1,2,3,4,5]) (slots:=[1,2,3,4]) rfl rfl rfl rfl rfl,d1++[⟨nm,sz⟩],cw,rfl,by simp,by rw [<- AS,lA,aH (by omega) (by omega)];rfl⟩
 have bO:=oF h1;rw [bu] at bO;obtain rfl:e1=[]:=lE (by omega);rw [List.append_nil] at bV;subst bV;refine aA ?_;refine aq [1,2,3] rfl rfl ?_;refine aa (rz [1,2,3,5] ?_);refine af (aB (fun k Y=>∃(d2 e2:List Pc),k=e2.length/\procs=d2++e2/\Y=⟨[(1,.box 0 0),(2,.box 1 0),(3,.box 2 0),(5,.d (aD d2.length))],[.box 37 [.d (.sl 1 (strs az)),.d (.sl 2 (ey ah)),.d (.sl 7 (c_ procs)),.d (.sl 7 (bF main))],.box 28 [.d (.s (.slice none 0 0)),.d (.s (.slice none 0 0)),.d (.s (.slice none 0 0)),.d (.s (.slice none 0 0))],.box 28 [.acc 3,.acc 4,.acc 5,.d (.sl 7 (bF main))],.acc 9 1 (strs az),.acc 169 2 (ey ah),.acc 159 7 (c_ d2)]⟩) (procs.length) (⟨[],procs,rfl,rfl,rfl⟩) ?_);rintro k Y ⟨d2,e2,rfl,du,rfl⟩;have dI:(c_ procs).length=d2.length+e2.length:=by rw [c_,lM,du,lA]
 have fK:d2.length+e2.length<=1073741824:=by rw [du,lA] at mQ;exact mQ
 refine aa (rz [1,2,3,5,46] ?_);refine cQ rfl (fun h2=>?_) fun h2=>?_
 ·have fe:=oT h2;rw [dI] at fe;cases e2 with
  |nil=>simp only [lN] at fe;omega
  |cons x ke=>
  obtain ⟨nm,ps,bd,rt⟩:=x;obtain ⟨p1,n1,m1,l1⟩:=rt;subst du;simp only [lC] at fK;have Yy:=m4 d2 (⟨nm,ps,bd,.mk p1 n1 m1 l1⟩::ke);simp only [lz] at Yy;have rZ:=ew ps;refine ac (aa ?_);refine af (bQ (fun Z=>Z=⟨[(1,.box 0 0),(2,.box 1 0),(3,.box 2 0),(5,.d (aD d2.length)),(6,.box 6 0)],[.box 37 [.d (.sl 1 (strs az)),.d (.sl 2 (ey ah)),.d (.sl 7 (c_ (d2++⟨nm,ps,bd,.mk p1 n1 m1 l1⟩::ke))),.d (.sl 7 (bF main))],.box 28 [.d (.s (.slice none 0 0)),.d (.s (.slice none 0 0)),.d (.s (.slice none 0 0)),.d (.s (.slice none 0 0))],.box 28 [.acc 3,.acc 4,.acc 5,.d (.sl 7 (bF main))],.acc 9 1 (strs az),.acc 169 2 (ey ah),.acc 159 7 (c_ d2),.box 159 [.d (aW nm),.d (.s (.slice none 0 0)),.d (.sl 7 (bF bd)),.d (aW p1),.d (aD n1),.d (aW m1),.d (.sl 4 (bR l1))]]⟩) ?_ ?_)
  ·refine (dW Pt [22] (fun i=>Nat.beq i 0) (by kernel_rfl) fun J O=>?_);refine oN (eI _ (aI (eM rfl) ?_));refine oN (eI _ (aI (eM rfl) ?_));refine oN (eI _ (aI (eM rfl) ?_));refine aI ?_ ?_
   ·refine aS [] (lU G bd (by omega)) ?_;refine aI ?_ ?_
    ·refine aS [] (ir G (.mk p1 n1 m1 l1) (by omega)) ?_;refine aI ?_ ?_
     ·refine O _ ?_;clear O J;exact ⟨_,ak (slots:=[1,2,3,5,6]) rfl rfl,rfl⟩
     refine aI ?_ ?_
     ·refine O _ ?_;clear O J;exact ⟨_,ak (slots:=[1,2,3,5,6]) rfl rfl,rfl⟩
     trivial
    refine aI ?_ ?_
    ·refine aS [] (ir G (.mk p1 n1 m1 l1) (by omega)) ?_;refine O _ ?_;clear O J;exact ⟨_,ak (slots:=[1,2,3,5,6]) rfl rfl,rfl⟩
    trivial
   refine aI ?_ ?_
   ·refine aS [] (lU G bd (by omega)) ?_;refine aS [] (ir G (.mk p1 n1 m1 l1) (by omega)) ?_;refine O _ ?_;clear O J;exact ⟨_,ak (slots:=[1,2,3,5,6]) rfl rfl,rfl⟩
   trivial
  rintro Z rfl;refine cr 6 1 9 1 rfl rfl rfl rfl ?_;refine aq [1,2,3,5,6] rfl rfl ?_;refine aa ((dW Pu [8,10] (fun _=>true) (by kernel_rfl) fun J O=>oN (eI _ (aI (eM rfl) ?_))));refine aI (aI ((by simp only [ag,lN];omega)) ((by simp only [ag,lN,maxLen];omega))) ?_;refine O _ (aM [1,2,3,5,6] ?_);clear O J;refine rG fun J O=>?_;refine aI (aI ((by simp only [c_,lM,ai];omega)) ((by simp only [c_,lM,ai,maxLen];omega))) ?_;refine O _ (aM [1,2,3,5] ?_);clear O J;refine rG fun J O=>O _ ?_;clear O J;exact ⟨_,nS _,_,aG (L:=[0,1,2,3,4,5]) (slots:=[1,2,3,5]) rfl rfl rfl rfl rfl,d2++[⟨nm,ps,bd,.mk p1 n1 m1 l1⟩],ke,rfl,by simp,by rw [<- AT,lA,aH (by omega) (by omega)];rfl⟩
 have fe:=oF h2;rw [dI] at fe;obtain rfl:e2=[]:=lE (by omega);rw [List.append_nil] at du;subst du;refine aA ?_;refine aq [2,3] rfl rfl ?_;refine rz [2] ?_;refine ae ?_;exact lF [] [LZ ⟨az,ah,procs,main⟩]
end
end Go.Abs
end
section
namespace Go.Abs
open Go Go.Proofs
mutual
def Yz:Sm->Int
 |.mk _ _ _ _ _ ao aK=>1+max (dpB ao) (dpB aK)
def dpB:List Sm->Int
 |[]=>0
 |s::r=>max (Yz s) (dpB r)
end
end Go.Abs
end
section
namespace Go.Abs
open Go Go.Proofs
attribute [local irreducible] c8 dJ Sub Spec
set_option maxHeartbeats 1000000
end Go.Abs
end
section
namespace Go.Abs
open Go Go.Proofs
attribute [local irreducible] c8 dJ Sub Spec
section
structure BkOk (p:Pg):Prop where
 wt:wtPg p<=1000000000
 md:dpB p.main<50
 mo:okB 9900 p.main=true
 pc:∀f,f∈p.procs->dpB f.body<50/\okB 9900 f.body=true/\fuE f.ret<=9900
set_option maxHeartbeats 1000000
section
variable {t:Nat->TypeId}{u:Nat->Value}
end
end
end Go.Abs
end
section
namespace Go.Abs
open Go Go.Proofs
attribute [local irreducible] c8 dJ Sub Spec
set_option maxHeartbeats 1000000
end Go.Abs
end
section
namespace Go.Abs
open Go Go.Proofs Go.Abs.PrintLast
section
section
variable {P:Program}{T:Tab}{G:Glob}{D:List Deferred}{N B:Nat}{H H00:Nat->Option Value}{lim ld:Nat->Nat}{w HA:World}{be:Array Oper}{Q:AExit->St->Prop}
end
attribute [local irreducible] c8 dJ Sub Spec
end
end Go.Abs
end
section
namespace Go.Abs
open Go Go.Proofs
def dpP(l:List Pc):Prop:=∀f,f∈l->dpB f.body<=12
structure PgG (N:Nat) (g:Pg):Prop where
 wt:wtPg g<=1000000
 ok:okPg N 16003 g=true
 main:dpB g.main<=12
 procs:dpP g.procs
end Go.Abs
end
section
namespace Go.Abs
open Go Go.Proofs
attribute [local irreducible] c8 dJ Sub Spec
section
section
variable {t:Nat->TypeId}{u:Nat->Value}
end
end
end Go.Abs
end
section
namespace Go.Abs
open Go Go.Proofs
section
section
variable {t:Nat->TypeId}{u:Nat->Value}
end
end
def fQ{α:Type}(x:TM α)(a:α):Prop:=∃k,x=some (a,k)
theorem kI{α:Type}{x:TM α}{a b:α}(h:fQ x a)(k:fQ x b):a=b:=by
 obtain ⟨i,h⟩:=h;obtain ⟨j,k⟩:=k;rw [h] at k;simp only [sI,Prod.mk.injEq] at k;exact k.1
theorem bl{α β:Type}{x:TM α}{f:α->TM β}{b:β}:fQ (TM.bd x f) b↔∃a,fQ x a/\fQ (f a) b:=by
 constructor
 ·rintro ⟨j,h⟩;obtain ⟨a,k,i,h1,h2,_⟩:=aY h;exact ⟨a,⟨k,h1⟩,⟨i,h2⟩⟩
 rintro ⟨a,⟨k,h1⟩,⟨i,h2⟩⟩;exact ⟨k+i,by simp only [TM.bd,h1,h2]⟩
theorem aQ{α:Type}{a b:α}:fQ (TM.ret a) b↔b=a:=by
 constructor
 ·rintro ⟨j,h⟩;exact (aV h).1
 rintro rfl;exact ⟨0,rfl⟩
theorem dc{α:Type}{c:Bool}{x:TM α}{a:α}:fQ (TM.grd c x) a↔c=true/\fQ x a:=by
 constructor
 ·rintro ⟨j,h⟩;exact ⟨(bp h).1,j,(bp h).2⟩
 rintro ⟨rfl,h⟩;exact h
theorem ct{x y:TIs}{t:BA}:fQ (iE x y) t↔∃a b,fQ x a/\fQ y b/\t=a++b:=by
 unfold iE;rw [bl];constructor
 ·rintro ⟨a,h1,h2⟩;obtain ⟨b,h3,h4⟩:=bl.1 h2;exact ⟨a,b,h1,h3,aQ.1 h4⟩
 rintro ⟨a,b,h1,h2,rfl⟩;exact ⟨a,h1,bl.2 ⟨b,h2,aQ.2 rfl⟩⟩
theorem lV{α:Type}{a:α}:¬fQ (none:TM α) a:=by rintro ⟨k,h⟩;cases h
structure GP (p:BA->Prop) (m:Nat) (r:GT):Prop where
 ex:∃s b,r=some (s,b)/\s.size<=m/\(b=true->p s)/\(∀t,p t->t.size<=4000->b=true)
theorem GR.gp{x:TIs}{m:Nat}{r:GT}(h:GR x m r):GP (fQ x) m r:=by
 obtain ⟨s,b,h1,h2,h3,h4⟩:=h.ex;exact ⟨⟨s,b,h1,h2,h3,fun t ⟨k,ht⟩=>h4 t k ht⟩⟩
theorem GP.no{p:BA->Prop}{m:Nat}(h:∀t,p t->4000<t.size):GP p m (some (⟨#[]⟩,false)):=
 ⟨⟨_,_,rfl,Nat.zero_le _,fun q=>Bool.noConfusion q,fun t e q=>by have:=h t e;omega⟩⟩
theorem GP.congr{p q:BA->Prop}{m m':Nat}{r:GT}(h:GP p m r)(hm:m<=m')(hp:∀t,p t↔q t):GP q m' r:=by
 obtain ⟨s,b,h1,h2,h3,h4⟩:=h.ex;exact ⟨⟨s,b,h1,by omega,fun z=>(hp s).1 (h3 z),fun t z=>h4 t ((hp t).2 z)⟩⟩
theorem GP.fit{p:BA->Prop}{m:Nat}{s:BA}{b:Bool}(hs:s.size<=m)(hm:m<=1073741824)(h1:b=true->p s)(h2:∀t,p t->t.size<=4000->b=true):GP p m (ip s b):=
 ⟨⟨s,b,oB (by omega),hs,h1,h2⟩⟩
theorem bv{a:BA}(h:a.size<=1073741824):bj a=true:=dT h
theorem wD(sep x:List UInt8):∀l:List (List UInt8),l≠[]->Lib.join (l++[x]) sep=Lib.join l sep++sep++x
 |[],h=>absurd rfl h
 |[y],_=>by simp [Lib.join]
 |y::z::r,_=>by
  have:=wD sep x (z::r) (by simp);simp only [Lib.join,List.cons_append,List.intercalate_cons_cons,List.append_assoc] at this ⊢;rw [this]
theorem kJ(pr:List BA)(s sep:BA):bP (pr++[s]) sep=eA pr.length (bP pr sep) sep++s:=by
 unfold eA;cases pr with
 |nil=>
  show (⟨(Lib.join [s.data.toList] sep.data.toList).toArray⟩:BA)=_
  have e:Lib.join [s.data.toList] sep.data.toList=s.data.toList:=by simp [Lib.join]
  rw [e];apply ByteArray.ext;rw [decide_eq_false (by simp)];simp only [ByteArray.data_append];show _=(Lib.join [] _).toArray++_
  simp [Lib.join]
 |cons y r=>
  rw [dT (by simp only [lC];omega)];unfold bP;have e:((y::r)++[s]).map (fun x:BA=>x.data.toList)=(y::r).map (fun x:BA=>x.data.toList)++[s.data.toList]:=by simp
  rw [e,wD _ _ _ (by simp)];apply ByteArray.ext;simp only [ByteArray.data_append];simp
theorem m8(sep:BA):bP [] sep=⟨#[]⟩:=by
 unfold bP;simp [Lib.join]
theorem L0{c:Nat}{s:BA}{l:List BA}(h:s∈l):s.size<=eS c l:=by
 induction l with
 |nil=>cases h
 |cons x l ih=>
  simp only [eS];rcases List.mem_cons.1 h with rfl|h
  ·omega
  have:=ih h;omega
theorem qW{s sep:BA}{l:List BA}(h:s∈l):s.size<=(bP l sep).size:=Nat.le_trans (L0 (c:=0) h) (pD l sep)
theorem kf(f:Nat)(e:Ex)(hf:fuE e<=f)(hn:nmE e=true)(hw:wtE e<=1000000000):GP (fQ (exprI e 1 1)) (wtE e) (db f e 1 1):=by
 have ho:=qH (r:=aU e.op) (l:=1) (dM _).1;have:=(EU f e 1 1 (by omega) hn hw (by omega) (by omega) (by omega)).gp;rw [ho] at this;exact this
theorem AU(f:Nat):∀(l:List Ex) (pr:List BA),la l<=f->vH l=true->gD l+eS 2 pr<=1000000000->
  GP (fun t=>∃ss,fQ (gH l) ss/\t=bP (pr++ss) ⟨#[44,32]⟩) (gD l+eS 2 pr) (jv f l pr.length (bP pr ⟨#[44,32]⟩))
 |[],pr,_,_,_=>by
  have hs:=dB pr ⟨#[44,32]⟩;have e2:(⟨#[44,32]⟩:BA).size=2:=rfl;rw [e2] at hs;simp only [jv];refine ⟨⟨_,_,rfl,by omega,fun _=>⟨[],aQ.2 rfl,by simp⟩,fun _ _ _=>rfl⟩⟩
 |e::r,pr,hf,hn,hw=>by
  simp only [la] at hf;simp only [vH,bE] at hn;rw [z8] at hw ⊢;obtain ⟨s,ok,e1,h1,h2,h3⟩:=(kf f e (by omega) hn.1 (by omega)).ex;simp only [jv,e1];cases ok with
  |false=>
   refine GP.no (fun t ht=>?_);obtain ⟨ss,kK,rfl⟩:=ht;simp only [gH] at kK;obtain ⟨a,ha,hb⟩:=bl.1 kK;obtain ⟨Gn,_,hb⟩:=bl.1 hb;have hb:=aQ.1 hb;subst hb;have:=qW (sep:=⟨#[44,32]⟩) (l:=pr++a::Gn) (s:=a) (by simp);rcases Nat.lt_or_ge 4000 a.size with w|w
   ·omega
   have:=h3 a ha w;cases this
  |true=>
   simp only [Bool.not_true];rw [<- kJ];have hs:=dB (pr++[s]) ⟨#[44,32]⟩;have e2:(⟨#[44,32]⟩:BA).size=2:=rfl;rw [e2] at hs;have hz:eS 2 (pr++[s])<=eS 2 pr+(wtE e+2):=by rw [fX];simp only [eS];omega
   rw [bv (by omega)];have ih:=AU f r (pr++[s]) (by omega) hn.2 (by omega);rw [lA] at ih;refine ih.congr (by omega) (fun t=>?_);have N1:=h2 rfl;constructor
   ·rintro ⟨ss,kK,rfl⟩;exact ⟨s::ss,bl.2 ⟨s,N1,bl.2 ⟨ss,kK,aQ.2 rfl⟩⟩,by simp⟩
   rintro ⟨ss,kK,rfl⟩;simp only [gH] at kK;obtain ⟨a,ha,hb⟩:=bl.1 kK;obtain ⟨Gn,h4,hb⟩:=bl.1 hb;have hb:=aQ.1 hb;subst hb;have:=kI ha N1;subst this;exact ⟨Gn,h4,by simp⟩
theorem lW(f:Nat)(l:List Ex)(hf:la l<=f)(hn:vH l=true)(hw:gD l<=1000000000):GP (fQ (ig l)) (gD l) (jv f l 0 ⟨#[]⟩):=by
 have h:=AU f l [] hf hn (by simp only [eS];omega);rw [m8] at h;refine h.congr (by simp only [eS];omega) (fun t=>?_);unfold ig;rw [bl];constructor
 ·rintro ⟨ss,h1,rfl⟩;exact ⟨ss,h1,aQ.2 rfl⟩
 rintro ⟨ss,h1,h2⟩;exact ⟨ss,h1,aQ.1 h2⟩
theorem L1(R a sep s:BA)(i:Nat):eA i (R++a) sep++s=R++(eA i a sep++s):=by
 unfold eA;split <;> simp only [ByteArray.append_assoc]
theorem wE{t:Ts}{x:BA}:fQ (px t) x↔dC t.rel=true/\∃a b,fQ (exprI t.a 1 1) a/\fQ (exprI t.b 1 1) b/\x=(((a++⟨#[32]⟩)++t.rel)++⟨#[32]⟩)++b:=by
 unfold px;rw [dc,bl];constructor
 ·rintro ⟨h,a,ha,hb⟩;obtain ⟨b,hb,hc⟩:=bl.1 hb;exact ⟨h,a,b,ha,hb,aQ.1 hc⟩
 rintro ⟨h,a,b,ha,hb,rfl⟩;exact ⟨h,a,ha,bl.2 ⟨b,hb,aQ.2 rfl⟩⟩
theorem EX(f:Nat)(R:BA):∀(l:List Ts) (pr:List BA),Hv l<=f->HT l=true->mO l+eS 5 pr+R.size<=1000000000->
  ∃o,yl f l pr.length (R++bP pr ⟨#[32,97,110,100,32]⟩)=some o/\(o=none->∀ss,fQ (jI l) ss->4000<(bP (pr++ss) ⟨#[32,97,110,100,32]⟩).size)/\
   (∀acc,o=some acc->∃ss,fQ (jI l) ss/\acc=R++bP (pr++ss) ⟨#[32,97,110,100,32]⟩/\eS 5 (pr++ss)<=mO l+eS 5 pr)
 |[],pr,_,_,hw=>by
  simp only [yl];refine ⟨_,rfl,fun q=>(by cases q),fun acc q=>⟨[],aQ.2 rfl,?_,by simp⟩⟩;simp only [sI] at q;rw [<- q];simp
 |t::r,pr,hf,hn,hw=>by
  simp only [Hv,RH] at hf;simp only [HT,RI,bE] at hn;simp only [mO,HS] at hw ⊢;obtain ⟨a,ok,e1,h1,h2,h3⟩:=(kf f t.a (by omega) hn.1.1 (by omega)).ex;obtain ⟨b,Ix,e2,g1,g2,g3⟩:=(kf f t.b (by omega) hn.1.2 (by omega)).ex;simp only [yl,e1,e2,LW];have Yu:(⟨#[32]⟩:BA).size=1:=rfl;cases hb:(((!ok)||(!Ix))||(!dC t.rel)) with
  |true=>
   refine ⟨none,rfl,fun _ ss kK=>?_,fun acc q=>by cases q⟩;simp only [jI] at kK;obtain ⟨x,hx,kK⟩:=bl.1 kK;obtain ⟨Gn,_,kK⟩:=bl.1 kK;have kK:=aQ.1 kK;subst kK;obtain ⟨hr,a',b',ha,gV,rfl⟩:=wE.1 hx;have:=qW (sep:=⟨#[32,97,110,100,32]⟩) (l:=pr++((((a'++⟨#[32]⟩)++t.rel)++⟨#[32]⟩)++b')::Gn) (s:=(((a'++⟨#[32]⟩)++t.rel)++⟨#[32]⟩)++b') (by simp);simp only [dX] at this;rcases Nat.lt_or_ge 4000 a'.size with w|w
   ·omega
   rcases Nat.lt_or_ge 4000 b'.size with w2|w2
   ·omega
   have q1:=h3 a' ha w;have q2:=g3 b' gV w2;rw [q1,q2,hr] at hb;cases hb
  |false=>
   simp only [Bool.or_eq_false_iff,Bool.not_eq_false'] at hb;obtain ⟨⟨q1,q2⟩,q3⟩:=hb;have ha:=h2 q1;have gV:=g2 q2;have hx:fQ (px t) ((((a++⟨#[32]⟩)++t.rel)++⟨#[32]⟩)++b):=wE.2 ⟨q3,a,b,ha,gV,rfl⟩;have ec:((((eA pr.length (R++bP pr ⟨#[32,97,110,100,32]⟩) ⟨#[32,97,110,100,32]⟩++a)++⟨#[32]⟩)++t.rel++⟨#[32]⟩)++b)=R++bP (pr++[(((a++⟨#[32]⟩)++t.rel)++⟨#[32]⟩)++b]) ⟨#[32,97,110,100,32]⟩:=by
    rw [kJ,<- L1];simp only [ByteArray.append_assoc]
   rw [ec];have hs:=dB (pr++[(((a++⟨#[32]⟩)++t.rel)++⟨#[32]⟩)++b]) ⟨#[32,97,110,100,32]⟩;have e5:(⟨#[32,97,110,100,32]⟩:BA).size=5:=rfl;rw [e5] at hs;have hz:eS 5 (pr++[(((a++⟨#[32]⟩)++t.rel)++⟨#[32]⟩)++b])<=eS 5 pr+(wtE t.a+wtE t.b+t.rel.size+10+5):=by
    rw [fX];simp only [eS,dX];omega
   rw [bv (by rw [dX];omega)];obtain ⟨o,e3,h4,h5⟩:=EX f R r (pr++[(((a++⟨#[32]⟩)++t.rel)++⟨#[32]⟩)++b]) (by omega) hn.2 (by omega);rw [lA] at e3;refine ⟨o,e3,fun q ss kK=>?_,fun acc q=>?_⟩
   ·simp only [jI] at kK;obtain ⟨x,YA,kK⟩:=bl.1 kK;obtain ⟨Gn,h6,kK⟩:=bl.1 kK;have kK:=aQ.1 kK;subst kK;have:=kI YA hx;subst this;have:=h4 q Gn h6
    simpa using this
   obtain ⟨ss,h6,rfl,h7⟩:=h5 acc q;exact ⟨_::ss,bl.2 ⟨_,hx,bl.2 ⟨ss,h6,aQ.2 rfl⟩⟩,by simp,by simp only [List.append_assoc,List.singleton_append] at h7;omega⟩
theorem tW:∀(l:List Ts) (ss:List BA),fQ (jI l) ss->ss.length=l.length
 |[],ss,h=>by rw [aQ.1 h];rfl
 |t::r,ss,h=>by
  simp only [jI] at h;obtain ⟨x,_,h⟩:=bl.1 h;obtain ⟨Gn,h6,h⟩:=bl.1 h;rw [aQ.1 h];simp only [lC,tW r Gn h6]
theorem tX{r:List Ts}{x:BA}:fQ (xP r) x↔∃ss,fQ (jI r) ss/\x=bP (nz ss) ⟨#[32,97,110,100,32]⟩:=by
 unfold xP;rw [bl];constructor
 ·rintro ⟨ss,h1,h2⟩;exact ⟨ss,h1,aQ.1 h2⟩
 rintro ⟨ss,h1,rfl⟩;exact ⟨ss,h1,aQ.2 rfl⟩
theorem EY{l:List BA}(h:l.length≠0):nz l=l:=by
 cases l with
 |nil=>exact absurd rfl h
 |cons x r=>rfl
theorem Pv(f:Nat)(R:BA)(r:List Ts)(hf:Hv r<=f)(hn:HT r=true)(hw:mO r+R.size<=1000000000):
  ∃o,yl f r 0 (jw r R)=some o/\(o=none->∀t,fQ (xP r) t->4000<t.size)/\(∀acc,o=some acc->∃t,fQ (xP r) t/\acc=R++t/\t.size<=mO r)/\(jw r R).size<=R.size+4:=by
 have t4:(⟨#[116,114,117,101]⟩:BA).size=4:=rfl;cases r with
 |nil=>
  have e:jw [] R=R++⟨#[116,114,117,101]⟩:=rfl;rw [e];refine ⟨some (R++⟨#[116,114,117,101]⟩),rfl,fun q=>(by cases q),fun acc q=>⟨⟨#[116,114,117,101]⟩,tX.2 ⟨[],aQ.2 rfl,?_⟩,?_,?_⟩,?_⟩
  ·simp [nz,bP,Lib.join]
  ·simp only [sI] at q;exact q.symm
  ·have:=HU [];omega
  rw [dX];omega
 |cons t r=>
  have e:jw (t::r) R=R:=by
   unfold jw;have:(((kr (t::r)).length:Int)==0)=false:=by rw [beq_eq_false_iff_ne];simp only [kr,lM,lC];omega
   rw [this]
  rw [e];obtain ⟨o,h1,h2,h3⟩:=EX f R (t::r) [] hf hn (by simp only [eS];omega);rw [m8] at h1;have e0:R++⟨#[]⟩=R:=by apply ByteArray.ext;simp
  rw [e0] at h1;refine ⟨o,h1,fun q t' ht=>?_,fun acc q=>?_,by omega⟩
  ·obtain ⟨ss,kK,rfl⟩:=tX.1 ht;have:=tW _ _ kK;rw [EY (by rw [this];simp)];exact h2 q ss kK
  obtain ⟨ss,kK,rfl,hz⟩:=h3 acc q;have hl:=tW _ _ kK;refine ⟨bP ss ⟨#[32,97,110,100,32]⟩,tX.2 ⟨ss,kK,by rw [EY (by rw [hl];simp)]⟩,rfl,?_⟩;have hs:=dB ss ⟨#[32,97,110,100,32]⟩;have e5:(⟨#[32,97,110,100,32]⟩:BA).size=5:=rfl;rw [e5] at hs;simp only [List.nil_append,eS] at hz;omega
theorem IC(f:Nat):∀(l:List (List Ts)) (pr:List BA),Ew l<=f->Hw l=true->iD l+eS 4 pr<=1000000000->
  GP (fun t=>∃ss,fQ (Ab l) ss/\t=bP (pr++ss) ⟨#[32,111,114,32]⟩) (iD l+eS 4 pr) (LN f l pr.length (bP pr ⟨#[32,111,114,32]⟩))
 |[],pr,_,_,_=>by
  have hs:=dB pr ⟨#[32,111,114,32]⟩;have e2:(⟨#[32,111,114,32]⟩:BA).size=4:=rfl;rw [e2] at hs;simp only [LN];refine ⟨⟨_,_,rfl,by omega,fun _=>⟨[],aQ.2 rfl,by simp⟩,fun _ _ _=>rfl⟩⟩
 |t::r,pr,hf,hn,hw=>by
  simp only [Ew] at hf;simp only [Hw,bE] at hn;simp only [iD] at hw ⊢;have CI:=dB pr ⟨#[32,111,114,32]⟩;have e4:(⟨#[32,111,114,32]⟩:BA).size=4:=rfl;rw [e4] at CI;have jP:=tQ (i:=pr.length) (sep:=⟨#[32,111,114,32]⟩) (nR (bP pr ⟨#[32,111,114,32]⟩).size);rw [e4] at jP;have bZ:=kx t;obtain ⟨o,e1,h1,h2,h3⟩:=Pv f (eA pr.length (bP pr ⟨#[32,111,114,32]⟩) ⟨#[32,111,114,32]⟩) t (by omega) hn.1 (by omega);have hc:(cV t.length&&bj (jw t (eA pr.length (bP pr ⟨#[32,111,114,32]⟩) ⟨#[32,111,114,32]⟩)))=true:=by
   rw [show cV t.length=true from dT (by omega),bv (by omega)];rfl
  simp only [LN,hc,e1];cases o with
  |none=>
   refine GP.no (fun x hx=>?_);obtain ⟨ss,kK,rfl⟩:=hx;simp only [Ab] at kK;obtain ⟨a,ha,hb⟩:=bl.1 kK;obtain ⟨Gn,_,hb⟩:=bl.1 hb;have hb:=aQ.1 hb;subst hb;have:=qW (sep:=⟨#[32,111,114,32]⟩) (l:=pr++a::Gn) (s:=a) (by simp);have:=h1 rfl a ha;omega
  |some acc=>
   obtain ⟨s,N1,rfl,lB⟩:=h2 acc rfl;simp only;rw [<- kJ];have hz:eS 4 (pr++[s])<=eS 4 pr+(mO t+4):=by rw [fX];simp only [eS];omega
   have ih:=IC f r (pr++[s]) (by omega) hn.2 (by omega);rw [lA] at ih;refine ih.congr (by omega) (fun x=>?_);constructor
   ·rintro ⟨ss,kK,rfl⟩;exact ⟨s::ss,bl.2 ⟨s,N1,bl.2 ⟨ss,kK,aQ.2 rfl⟩⟩,by simp⟩
   rintro ⟨ss,kK,rfl⟩;simp only [Ab] at kK;obtain ⟨a,ha,hb⟩:=bl.1 kK;obtain ⟨Gn,h4,hb⟩:=bl.1 hb;have hb:=aQ.1 hb;subst hb;have:=kI ha N1;subst this;exact ⟨Gn,h4,by simp⟩
theorem pP(f:Nat)(c:List (List Ts))(hf:Ew c<=f)(hn:Hw c=true)(hw:iD c<=1000000000):GP (fQ (gb c)) (iD c) (tP f c):=by
 have bZ:=ky c;have hc:cV c.length=true:=dT (by omega);unfold tP;rw [hc];cases c with
 |nil=>exact ⟨⟨_,_,rfl,by show 5<=10;omega,fun _=>aQ.2 rfl,fun _ _ _=>rfl⟩⟩
 |cons r c=>
  have hz:(((eG (r::c)).length:Int)==0)=false:=by
   rw [beq_eq_false_iff_ne];simp only [eG,lM,lC];omega
  simp only [hz];have h:=IC f (r::c) [] hf hn (by simp only [eS];omega);rw [m8] at h;refine h.congr (by simp only [eS];omega) (fun t=>?_);dsimp only [gb];rw [bl];constructor
  ·rintro ⟨ss,h1,rfl⟩;exact ⟨ss,h1,aQ.2 rfl⟩
  rintro ⟨ss,h1,h2⟩;exact ⟨ss,h1,aQ.1 h2⟩
end Go.Abs
end
