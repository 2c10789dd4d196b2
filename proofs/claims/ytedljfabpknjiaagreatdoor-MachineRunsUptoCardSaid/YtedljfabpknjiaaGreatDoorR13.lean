/- Texts of this proof, joined and shortened. -/
import Derived.Test.YtedljfabpknjiaaGreatDoorR12
import Derived.Test.YtedljfabpknjiaaGreatDoorR7
import Derived.Test.YtedljfabpknjiaaGreatDoorR10
import Derived.Lib.AtoiAllCases
import Derived.Test.YtedljfabpknjiaaGreatDoorR8
set_option maxHeartbeats 1000000
section
namespace Go.Abs
open Go Go.Proofs
attribute [local irreducible] c8 dJ Sub Spec
def ei(ap:BA):Bool:=(((ap.toList==(⟨#[115,101,116]⟩:BA).toList)||(ap.toList==(⟨#[112,117,116]⟩:BA).toList))||(ap.toList==(⟨#[99,97,108,108]⟩:BA).toList))||(ap.toList==(⟨#[114,101,97,100]⟩:BA).toList)
def dw(ap:BA):Bool:=(((ap.toList==(⟨#[105,102]⟩:BA).toList)||(ap.toList==(⟨#[119,104,105,108,101]⟩:BA).toList))||(ap.toList==(⟨#[97,115,115,101,114,116]⟩:BA).toList))||(ap.toList==(⟨#[97,115,115,117,109,101]⟩:BA).toList)
def cG(ap:BA):Bool:=(ap.toList==(⟨#[105,102]⟩:BA).toList)||(ap.toList==(⟨#[119,104,105,108,101]⟩:BA).toList)
def cO(ap name proc:BA):Bool:=(((!(ei ap==dK name))||((!ei ap)&&!(name.toList==(⟨#[]⟩:BA).toList)))||(!((ap.toList==(⟨#[99,97,108,108]⟩:BA).toList)==dK proc)))||((!(ap.toList==(⟨#[99,97,108,108]⟩:BA).toList))&&!(proc.toList==(⟨#[]⟩:BA).toList))
def bad2S(ap:BA)(cond:List (List Ts))(ao aK:List Sm):Bool:=(((!dw ap)&&decide (((eG cond).length:Int)>0))||((!cG ap)&&decide (((bF ao).length:Int)>0)))||((!(ap.toList==(⟨#[105,102]⟩:BA).toList))&&decide (((bF aK).length:Int)>0))
def bad3S(ap:BA)(args:List Ex):Bool:=(dw ap||(ap.toList==(⟨#[114,101,97,100]⟩:BA).toList))&&decide (((bR args).length:Int)>0)
def gL(aK:List Sm)(Yp et:BA):BA:=match decide (((bF aK).length:Int)>0) with
 |true=>(Yp++⟨#[125,32,101,108,115,101,32,123,10]⟩)++et
 |false=>et
def tR(n:Nat)(B:List Sm->Int->GT):Sm->Int->GT
 |.mk ap name proc args cond ao aK,d=>match (bj name&&bj proc)&&(bj ap&&decide (0<=d)) with
  |false=>none
  |true=>match decide (d>12) with
   |true=>some (⟨#[]⟩,false)
   |false=>match cO ap name proc with
    |true=>some (⟨#[]⟩,false)
    |false=>match bad2S ap cond ao aK with
     |true=>some (⟨#[]⟩,false)
     |false=>match bad3S ap args with
      |true=>some (⟨#[]⟩,false)
      |false=>match dw ap with
       |true=>match tP n cond with
        |none=>none
        |some (c,ok)=>match bj c with
         |false=>none
         |true=>match (!ok) with
          |true=>some (⟨#[]⟩,false)
          |false=>match (!cG ap) with
           |true=>ip ((((b9 d.toNat++ap)++⟨#[32]⟩)++c)++⟨#[59,10]⟩) true
           |false=>match B ao (IntKind.i64.wrap (d+1)) with
            |none=>none
            |some (bt,Ss)=>match B aK (IntKind.i64.wrap (d+1)) with
             |none=>none
             |some (et,Ix)=>match bj bt&&bj et with
              |false=>none
              |true=>ip ((((((((b9 d.toNat++ap)++⟨#[32]⟩)++c)++⟨#[32,123,10]⟩)++bt)++gL aK (b9 d.toNat) et)++b9 d.toNat)++⟨#[125,10]⟩) (Ss&&Ix)
       |false=>match cV args.length with
        |false=>none
        |true=>match jv n args 0 ⟨#[]⟩ with
         |none=>none
         |some (l,ok)=>match bj l with
          |false=>none
          |true=>match (ap.toList==(⟨#[114,101,97,100]⟩:BA).toList) with
           |true=>ip (((b9 d.toNat++⟨#[114,101,97,100,32]⟩)++name)++⟨#[59,10]⟩) true
           |false=>match (ap.toList==(⟨#[99,97,108,108]⟩:BA).toList) with
            |true=>ip ((((((b9 d.toNat++name)++⟨#[32,61,32,99,97,108,108,32]⟩)++proc)++⟨#[40]⟩)++l)++⟨#[41,59,10]⟩) ok
            |false=>match (ap.toList==(⟨#[115,101,116]⟩:BA).toList) with
             |true=>ip ((((b9 d.toNat++name)++⟨#[32,61,32]⟩)++l)++⟨#[59,10]⟩) (ok&&(((bR args).length:Int)==1))
             |false=>match (ap.toList==(⟨#[112,117,116]⟩:BA).toList) with
              |true=>match ((!ok)||(((bR args).length:Int) != 2)) with
               |true=>some (⟨#[]⟩,false)
               |false=>match args with
                |[x,y]=>match db n x 1 1 with
                 |none=>none
                 |some (a,_)=>match db n y 1 1 with
                  |none=>none
                  |some (b,_)=>ip ((((((b9 d.toNat++name)++⟨#[91]⟩)++a)++⟨#[93,32,61,32]⟩)++b)++⟨#[59,10]⟩) true
                |_=>none
              |false=>some (⟨#[]⟩,false)
def ym(S:Sm->Int->GT):List Sm->Int->BA->GT
 |[],_,acc=>some (acc,true)
 |s::r,d,acc=>match S s d with
  |none=>none
  |some (t,ok)=>match bj t with
   |false=>none
   |true=>match ((!ok)||decide ((acc.size:Int)>4000)) with
    |true=>some (⟨#[]⟩,false)
    |false=>match bj (acc++t) with
     |true=>ym S r d (acc++t)
     |false=>none
def di(n:Nat):Nat->List Sm->Int->GT
 |0,_,_=>none
 |f+1,l,d=>match cV l.length with
  |true=>ym (tR n (di n f)) l d ⟨#[]⟩
  |false=>none
def NU(G:Glob)(B:List Sm->Int->GT):Prop:=∀(l:List Sm) (d:Int) (s:BA) (b:Bool),B l d=some (s,b)->Spec Tryz.prog G 87 [.d (.sl 7 (bF l)),.d (aD d)] [] (.ret (.tup [.d (aW s),.d (.s (.bool b))])) []
def Su(G:Glob)(S:Sm->Int->GT):Prop:=∀(st:Sm) (d:Int) (s:BA) (b:Bool),S st d=some (s,b)->Spec Tryz.prog G 159 [.d (.agg st.cs),.d (aD d)] [] (.ret (.tup [.d (aW s),.d (.s (.bool b))])) []
def LP:Plan:=(.take 0 (.take 1 (.load 2 (.take 3 (.take 4 (.take 5 (.take 6 (.take 7 (.take 8 (.take 9 (.take 10 (.load 11 (.take 12 (.take 13 (.take 14 (.take 15 (.take 16 .done)))))))))))))))))
theorem CY(G:Glob)(n:Nat)(B:List Sm->Int->GT)(hB:NU G B):Su G (tR n B):=by
 intro st d s b hG;obtain ⟨ap,name,proc,args,cond,ao,aK⟩:=st;simp only [tR] at hG;cases hc:((bj name&&bj proc)&&(bj ap&&decide (0<=d))) with
 |false=>simp only [hc] at hG;cases hG
 |true=>
 simp only [hc] at hG;simp only [bE,dE] at hc;have ga:=cW hc.1.1;have hpr:=cW hc.1.2;have hkd:=cW hc.2.1;obtain ⟨k,rfl⟩:=Int.eq_ofNat_of_zero_le hc.2.2;rw [Int.toNat_natCast] at hG;have pq:(⟨#[32]⟩:BA).size=1:=rfl;have qT:(⟨#[59,10]⟩:BA).size=2:=rfl;have sJ:(⟨#[125,32,101,108,115,101,32,123,10]⟩:BA).size=9:=rfl;have sY:(⟨#[32,123,10]⟩:BA).size=3:=rfl;have Iz:(⟨#[125,10]⟩:BA).size=2:=rfl;have K8:(⟨#[114,101,97,100,32]⟩:BA).size=5:=rfl;have LQ:(⟨#[32,61,32,99,97,108,108,32]⟩:BA).size=8:=rfl;have LR:(⟨#[40]⟩:BA).size=1:=rfl;have LS:(⟨#[41,59,10]⟩:BA).size=3:=rfl;have LU:(⟨#[32,61,32]⟩:BA).size=3:=rfl;have yn:(⟨#[91]⟩:BA).size=1:=rfl;have yo:(⟨#[93,32,61,32]⟩:BA).size=4:=rfl;refine sA (N:=294) Tryz.func159 ?_;refine rz [1,2] ?_;refine aa (rz [1,2,24] ?_);refine cQ rfl (fun h1=>?_) fun h1=>?_
 ·refine rz [4,5] ?_;refine ae ?_;simp only [h1] at hG;obtain ⟨rfl,rfl⟩:=Prod.mk.inj (Option.some.inj hG);exact lF [] [encS _,.d (.s (.bool _))]
 have Yq:=oF h1;refine ac (bQ (fun Z=>Z=⟨[(1,.d (aD k)),(2,.box 0 0),(6,.d (.s (.bool (ei ap))))],[.box 228 [.d (aW ap),.d (aW name),.d (aW proc),.d (.sl 4 (bR args)),.d (.sl 1 (eG cond)),.d (.sl 7 (bF ao)),.d (.sl 7 (bF aK))]]⟩) ?_ ?_)
 ·refine rG fun J O=>?_
  refine ab (fun h2=>?_) (fun h2=>?_)
  ·refine O _ ?_;clear O J;exact ⟨_,ak (slots:=[1,2,6]) rfl rfl,by first|(simp only [ei,h2,bz];done)|(simp only [ei,h2,bz];rfl)⟩
  refine ab (fun h3=>?_) (fun h3=>?_)
  ·refine O _ ?_;clear O J;exact ⟨_,ak (slots:=[1,2,6]) rfl rfl,by first|(simp only [ei,h2,h3,bz];done)|(simp only [ei,h2,h3,bz];rfl)⟩
  refine ab (fun h4=>?_) (fun h4=>?_)
  ·refine O _ ?_;clear O J;exact ⟨_,ak (slots:=[1,2,6]) rfl rfl,by first|(simp only [ei,h2,h3,h4,bz];done)|(simp only [ei,h2,h3,h4,bz];rfl)⟩
  refine O _ ?_;clear O J;exact ⟨_,ak (slots:=[1,2,6]) rfl rfl,by first|(simp only [ei,h2,h3,h4,bz];done)|(simp only [ei,h2,h3,h4,bz];rfl)⟩
 rintro Z rfl;refine bQ (fun Z=>Z=⟨[(1,.d (aD k)),(2,.box 0 0),(6,.d (.s (.bool (ei ap)))),(7,.d (.s (.bool (dw ap))))],[.box 228 [.d (aW ap),.d (aW name),.d (aW proc),.d (.sl 4 (bR args)),.d (.sl 1 (eG cond)),.d (.sl 7 (bF ao)),.d (.sl 7 (bF aK))]]⟩) ?_ ?_
 ·refine rG fun J O=>?_
  refine ab (fun h2=>?_) (fun h2=>?_)
  ·refine O _ ?_;clear O J;exact ⟨_,ak (slots:=[1,2,6,7]) rfl rfl,by first|(simp only [dw,h2,bz];done)|(simp only [dw,h2,bz];rfl)⟩
  refine ab (fun h3=>?_) (fun h3=>?_)
  ·refine O _ ?_;clear O J;exact ⟨_,ak (slots:=[1,2,6,7]) rfl rfl,by first|(simp only [dw,h2,h3,bz];done)|(simp only [dw,h2,h3,bz];rfl)⟩
  refine ab (fun h4=>?_) (fun h4=>?_)
  ·refine O _ ?_;clear O J;exact ⟨_,ak (slots:=[1,2,6,7]) rfl rfl,by first|(simp only [dw,h2,h3,h4,bz];done)|(simp only [dw,h2,h3,h4,bz];rfl)⟩
  refine O _ ?_;clear O J;exact ⟨_,ak (slots:=[1,2,6,7]) rfl rfl,by first|(simp only [dw,h2,h3,h4,bz];done)|(simp only [dw,h1,h2,h3,h4,bz];rfl)⟩
 rintro Z rfl;refine bQ (fun Z=>Z=⟨[(1,.d (aD k)),(2,.box 0 0),(6,.d (.s (.bool (ei ap)))),(7,.d (.s (.bool (dw ap)))),(8,.d (.s (.bool (cG ap))))],[.box 228 [.d (aW ap),.d (aW name),.d (aW proc),.d (.sl 4 (bR args)),.d (.sl 1 (eG cond)),.d (.sl 7 (bF ao)),.d (.sl 7 (bF aK))]]⟩) ?_ ?_
 ·refine rG fun J O=>?_
  refine ab (fun h2=>?_) (fun h2=>?_)
  ·refine O _ ?_;clear O J;exact ⟨_,ak (slots:=[1,2,6,7,8]) rfl rfl,by first|(simp only [cG,h2,bz];done)|(simp only [cG,h2,bz];rfl)⟩
  refine O _ ?_;clear O J;exact ⟨_,ak (slots:=[1,2,6,7,8]) rfl rfl,by first|(simp only [cG,h2,bz];done)|(simp only [cG,h1,h2,bz];rfl)⟩
 rintro Z rfl;refine rS fun J O=>?_;refine aS [] (eK G name (by omega)) ?_;refine O _ (aM [1,2,6,7,8,9] ?_);clear O J;refine rS fun J O=>?_;refine aS [] (eK G proc (by omega)) ?_;refine O _ (aM [1,2,6,7,8,9,10] ?_);clear O J;refine aa (bQ (fun Z=>Z=⟨[(1,.d (aD k)),(2,.box 0 0),(7,.d (.s (.bool (dw ap)))),(8,.d (.s (.bool (cG ap)))),(103,.d (.s (.bool (cO ap name proc))))],[.box 228 [.d (aW ap),.d (aW name),.d (aW proc),.d (.sl 4 (bR args)),.d (.sl 1 (eG cond)),.d (.sl 7 (bF ao)),.d (.sl 7 (bF aK))]]⟩) ?_ ?_)
 ·refine rG fun J O=>?_
  refine ab (fun h2=>?_) (fun h2=>?_)
  ·refine O _ ?_;clear O J;exact ⟨_,ak (slots:=[1,2,7,8,103]) rfl rfl,by first|(simp only [cO,h2,bz];done)|(simp only [cO,h2,bz];rfl)⟩
  refine ab (fun h3=>?_) (fun h3=>?_)
  ·refine ab (fun h4=>?_) (fun h4=>?_)
   ·refine O _ ?_;clear O J;exact ⟨_,ak (slots:=[1,2,7,8,103]) rfl rfl,by first|(simp only [cO,h2,h3,h4,bz];done)|(simp only [cO,h2,h3,h4,bz];rfl)⟩
   refine ab (fun h5=>?_) (fun h5=>?_)
   ·refine O _ ?_;clear O J;exact ⟨_,ak (slots:=[1,2,7,8,103]) rfl rfl,by first|(simp only [cO,h2,h3,h4,h5,bz];done)|(simp only [cO,h2,h3,h4,h5,bz];rfl)⟩
   refine ab (fun h6=>?_) (fun h6=>?_)
   ·refine O _ ?_;clear O J;exact ⟨_,ak (slots:=[1,2,7,8,103]) rfl rfl,by first|(simp only [cO,h2,h3,h4,h5,h6,bz];done)|(simp only [cO,h1,h2,h3,h4,h5,h6,bz];rfl)⟩
   refine O _ ?_;clear O J;exact ⟨_,ak (slots:=[1,2,7,8,103]) rfl rfl,by first|(simp only [cO,h2,h3,h4,h5,h6,bz];done)|(simp only [cO,h2,h3,h4,h5,h6,bz];rfl)⟩
  refine ab (fun h4=>?_) (fun h4=>?_)
  ·refine O _ ?_;clear O J;exact ⟨_,ak (slots:=[1,2,7,8,103]) rfl rfl,by first|(simp only [cO,h2,h3,h4,bz];done)|(simp only [cO,h2,h3,h4,bz];rfl)⟩
  refine ab (fun h5=>?_) (fun h5=>?_)
  ·refine O _ ?_;clear O J;exact ⟨_,ak (slots:=[1,2,7,8,103]) rfl rfl,by first|(simp only [cO,h2,h3,h4,h5,bz];done)|(simp only [cO,h1,h2,h3,h4,h5,bz];rfl)⟩
  refine O _ ?_;clear O J;exact ⟨_,ak (slots:=[1,2,7,8,103]) rfl rfl,by first|(simp only [cO,h2,h3,h4,h5,bz];done)|(simp only [cO,h2,h3,h4,h5,bz];rfl)⟩
 rintro Z rfl;refine cQ rfl (fun h2=>?_) fun h2=>?_
 ·refine rz [4,5] ?_;refine ae ?_;simp only [h1,h2] at hG;obtain ⟨rfl,rfl⟩:=Prod.mk.inj (Option.some.inj hG);exact lF [] [encS _,.d (.s (.bool _))]
 refine ac (aa ?_);refine bQ (fun Z=>Z=⟨[(1,.d (aD k)),(2,.box 0 0),(7,.d (.s (.bool (dw ap)))),(8,.d (.s (.bool (cG ap)))),(132,.d (.s (.bool (bad2S ap cond ao aK))))],[.box 228 [.d (aW ap),.d (aW name),.d (aW proc),.d (.sl 4 (bR args)),.d (.sl 1 (eG cond)),.d (.sl 7 (bF ao)),.d (.sl 7 (bF aK))]]⟩) ?_ ?_
 ·refine rG fun J O=>?_
  refine ab (fun h3=>?_) (fun h3=>?_)
  ·refine ab (fun h4=>?_) (fun h4=>?_)
   ·refine O _ ?_;clear O J;exact ⟨_,ak (slots:=[1,2,7,8,132]) rfl rfl,by first|(simp only [bad2S,h3,h4,bz];done)|(simp only [bad2S,h3,h4,bz];rfl)⟩
   refine ab (fun h5=>?_) (fun h5=>?_)
   ·refine ab (fun h6=>?_) (fun h6=>?_)
    ·refine O _ ?_;clear O J;exact ⟨_,ak (slots:=[1,2,7,8,132]) rfl rfl,by first|(simp only [bad2S,h3,h4,h5,h6,bz];done)|(simp only [bad2S,h3,h4,h5,h6,bz];rfl)⟩
    refine ab (fun h7=>?_) (fun h7=>?_)
    ·refine O _ ?_;clear O J;exact ⟨_,ak (slots:=[1,2,7,8,132]) rfl rfl,by first|(simp only [bad2S,h3,h4,h5,h6,h7,bz];done)|(simp only [bad2S,h1,h2,h3,h4,h5,h6,h7,bz];rfl)⟩
    refine O _ ?_;clear O J;exact ⟨_,ak (slots:=[1,2,7,8,132]) rfl rfl,by first|(simp only [bad2S,h3,h4,h5,h6,h7,bz];done)|(simp only [bad2S,h3,h4,h5,h6,h7,bz];rfl)⟩
   refine ab (fun h6=>?_) (fun h6=>?_)
   ·refine O _ ?_;clear O J;exact ⟨_,ak (slots:=[1,2,7,8,132]) rfl rfl,by first|(simp only [bad2S,h3,h4,h5,h6,bz];done)|(simp only [bad2S,h1,h2,h3,h4,h5,h6,bz];rfl)⟩
   refine O _ ?_;clear O J;exact ⟨_,ak (slots:=[1,2,7,8,132]) rfl rfl,by first|(simp only [bad2S,h3,h4,h5,h6,bz];done)|(simp only [bad2S,h3,h4,h5,h6,bz];rfl)⟩
  refine ab (fun h4=>?_) (fun h4=>?_)
  ·refine ab (fun h5=>?_) (fun h5=>?_)
   ·refine O _ ?_;clear O J;exact ⟨_,ak (slots:=[1,2,7,8,132]) rfl rfl,by first|(simp only [bad2S,h3,h4,h5,bz];done)|(simp only [bad2S,h3,h4,h5,bz];rfl)⟩
   refine ab (fun h6=>?_) (fun h6=>?_)
   ·refine O _ ?_;clear O J;exact ⟨_,ak (slots:=[1,2,7,8,132]) rfl rfl,by first|(simp only [bad2S,h3,h4,h5,h6,bz];done)|(simp only [bad2S,h1,h2,h3,h4,h5,h6,bz];rfl)⟩
   refine O _ ?_;clear O J;exact ⟨_,ak (slots:=[1,2,7,8,132]) rfl rfl,by first|(simp only [bad2S,h3,h4,h5,h6,bz];done)|(simp only [bad2S,h3,h4,h5,h6,bz];rfl)⟩
  refine ab (fun h5=>?_) (fun h5=>?_)
  ·refine O _ ?_;clear O J;exact ⟨_,ak (slots:=[1,2,7,8,132]) rfl rfl,by first|(simp only [bad2S,h3,h4,h5,bz];done)|(simp only [bad2S,h1,h2,h3,h4,h5,bz];rfl)⟩
  refine O _ ?_;clear O J;exact ⟨_,ak (slots:=[1,2,7,8,132]) rfl rfl,by first|(simp only [bad2S,h3,h4,h5,bz];done)|(simp only [bad2S,h3,h4,h5,bz];rfl)⟩
 rintro Z rfl;refine cQ rfl (fun h3=>?_) fun h3=>?_
 ·refine rz [4,5] ?_;refine ae ?_;simp only [h1,h2,h3] at hG;obtain ⟨rfl,rfl⟩:=Prod.mk.inj (Option.some.inj hG);exact lF [] [encS _,.d (.s (.bool _))]
 refine ac (aa ?_);refine bQ (fun Z=>Z=⟨[(1,.d (aD k)),(2,.box 0 0),(7,.d (.s (.bool (dw ap)))),(8,.d (.s (.bool (cG ap)))),(144,.d (.s (.bool (bad3S ap args))))],[.box 228 [.d (aW ap),.d (aW name),.d (aW proc),.d (.sl 4 (bR args)),.d (.sl 1 (eG cond)),.d (.sl 7 (bF ao)),.d (.sl 7 (bF aK))]]⟩) ?_ ?_
 ·refine rG fun J O=>?_
  refine ab (fun h4=>?_) (fun h4=>?_)
  ·refine O _ ?_;clear O J;exact ⟨_,ak (slots:=[1,2,7,8,144]) rfl rfl,by first|(simp only [bad3S,h4,bz];done)|(simp only [bad3S,h1,h2,h3,h4,bz];rfl)⟩
  refine ab (fun h5=>?_) (fun h5=>?_)
  ·refine O _ ?_;clear O J;exact ⟨_,ak (slots:=[1,2,7,8,144]) rfl rfl,by first|(simp only [bad3S,h4,h5,bz];done)|(simp only [bad3S,h1,h2,h3,h4,h5,bz];rfl)⟩
  refine O _ ?_;clear O J;exact ⟨_,ak (slots:=[1,2,7,8,144]) rfl rfl,by first|(simp only [bad3S,h4,h5,bz];done)|(simp only [bad3S,h4,h5,bz];rfl)⟩
 rintro Z rfl;refine cQ rfl (fun h4=>?_) fun h4=>?_
 ·refine rz [4,5] ?_;refine ae ?_;simp only [h1,h2,h3,h4] at hG;obtain ⟨rfl,rfl⟩:=Prod.mk.inj (Option.some.inj hG);exact lF [] [encS _,.d (.s (.bool _))]
 refine ac (rS fun J O=>sH ?_);have hi:=cY k;refine aS [] (AJ G k (by omega)) ?_;refine O _ (aM [1,2,7,8,11] ?_);clear O J;refine aa (rz [1,2,8,11,147] ?_);refine cQ rfl (fun h5=>?_) fun h5=>?_
 ·refine rS fun J O=>sH ?_
  cases aF:tP n cond with
  |none=>
   simp only [h1,h2,h3,h4,h5,aF] at hG;cases hG
  |some v1=>
   obtain ⟨a1,o1⟩:=v1;cases jP:bj a1 with
   |false=>
    simp only [h1,h2,h3,h4,h5,aF,jP] at hG;cases hG
   |true=>
   have qU:=cW jP;refine aS [] (CX G n cond _ _ aF) ?_;refine O _ (aM [1,2,8,11,12,13] ?_);clear O J;refine aa (rz [1,2,8,11,12,155] ?_);refine cQ rfl (fun h6=>?_) fun h6=>?_
   ·refine rz [4,5] ?_;refine ae ?_;simp only [h1,h2,h3,h4,h5,aF,jP,h6] at hG;obtain ⟨rfl,rfl⟩:=Prod.mk.inj (Option.some.inj hG);exact lF [] [encS _,.d (.s (.bool _))]
   refine ac (aa ?_);refine rz [1,2,11,12,157] ?_;refine cQ rfl (fun h7=>?_) fun h7=>?_
   ·refine rS fun J O=>?_
    refine oM ?_;refine oM ?_;refine oM ?_;refine oM ?_;refine O _ (aM [4,5] ?_);clear O J;refine ae ?_;simp only [h1,h2,h3,h4,h5,aF,jP,h6,h7] at hG;obtain ⟨hz,hr⟩:=cP hG;obtain ⟨rfl,rfl⟩:=Prod.mk.inj hr;exact lF [] [encS _,.d (.s (.bool _))]
   refine ac (rS fun J O=>sH ?_);cases aJ:B ao (IntKind.i64.wrap ((k:Int)+1)) with
   |none=>
    simp only [h1,h2,h3,h4,h5,aF,jP,h6,h7,aJ] at hG;cases hG
   |some v2=>
    obtain ⟨a2,o2⟩:=v2;refine aS [] (hB ao _ _ _ aJ) ?_;refine O _ (aM [1,2,11,12,13,14] ?_);clear O J;refine rS fun J O=>sH ?_
    cases bh:B aK (IntKind.i64.wrap ((k:Int)+1)) with
    |none=>
     simp only [h1,h2,h3,h4,h5,aF,jP,h6,h7,aJ,bh] at hG;cases hG
    |some v3=>
     obtain ⟨a3,o3⟩:=v3;refine aS [] (hB aK _ _ _ bh) ?_;cases NV:(bj a2&&bj a3) with
     |false=>
      simp only [h1,h2,h3,h4,h5,aF,jP,h6,h7,aJ,bh,NV] at hG;cases hG
     |true=>
     have Pf:=NV;simp only [bE] at Pf;have dX:=cW Pf.1;have UJ:=cW Pf.2;refine O _ (aM [2,11,12,13,14,15,16] ?_);clear O J;refine bQ (fun Z=>Z=⟨[(2,.box 0 0),(11,.d (aW (b9 k))),(12,.d (aW a1)),(13,.d (.s (.bool o2))),(14,.d (aW a2)),(15,.d (aW (gL aK (b9 k) a3))),(16,.d (.s (.bool o3)))],[.box 228 [.d (aW ap),.d (aW name),.d (aW proc),.d (.sl 4 (bR args)),.d (.sl 1 (eG cond)),.d (.sl 7 (bF ao)),.d (.sl 7 (bF aK))]]⟩) ?_ ?_
     ·refine rz [2,11,12,13,14,15,16,185] ?_;refine cQ rfl (fun h8=>?_) fun h8=>?_
      ·refine rG fun J O=>?_
       refine oM ?_;refine oM ?_;refine O _ ?_;clear O J;exact ⟨_,ak (slots:=[2,11,12,13,14,15,16]) rfl rfl,by first|(simp only [gL,h8];done)|(simp only [gL,h8];rfl)⟩
      refine ac ?_;exact ⟨_,ak (slots:=[2,11,12,13,14,15,16]) rfl rfl,by first|(simp only [gL,h8];done)|(simp only [gL,h1,h2,h3,h4,h5,aF,jP,h6,h7,aJ,bh,NV,h8,bz];rfl)⟩
     rintro Z rfl;have W5:(gL aK (b9 k) a3).size<=1073741824+100:=by
      unfold gL;split
      ·simp only [zA];have zl:(⟨#[125,32,101,108,115,101,32,123,10]⟩:BA).size=9:=rfl;omega
      omega
     refine rS fun J O=>oM ?_;refine oM ?_;refine oM ?_;refine oM ?_;refine oM ?_;refine oM ?_;refine oM ?_;refine oM ?_;refine ab (fun h8=>?_) (fun h8=>?_)
     ·refine O _ (aM [4,5] ?_);clear O J;refine ae ?_;simp only [bz,h1,h2,h3,h4,h5,aF,jP,h6,h7,aJ,bh,NV,h8] at hG;obtain ⟨hz,hr⟩:=cP hG;obtain ⟨rfl,rfl⟩:=Prod.mk.inj hr;exact lF [] [encS _,.d (.s (.bool _))]
     refine O _ (aM [4,5] ?_);clear O J;refine ae ?_;simp only [bz,h1,h2,h3,h4,h5,aF,jP,h6,h7,aJ,bh,NV,h8] at hG;obtain ⟨hz,hr⟩:=cP hG;obtain ⟨rfl,rfl⟩:=Prod.mk.inj hr;exact lF [] [encS _,.d (.s (.bool _))]
 refine ac (rS fun J O=>sH ?_);cases hl:cV args.length with
 |false=>
  simp only [h1,h2,h3,h4,h5,hl] at hG;cases hG
 |true=>
 have vC:args.length<=1073741824:=oT hl;cases aF:jv n args 0 ⟨#[]⟩ with
 |none=>
  simp only [h1,h2,h3,h4,h5,hl,aF] at hG;cases hG
 |some v1=>
  obtain ⟨a1,o1⟩:=v1;cases jP:bj a1 with
  |false=>
   simp only [h1,h2,h3,h4,h5,hl,aF,jP] at hG;cases hG
  |true=>
  have qU:=cW jP;refine aS [] (CW G n args vC _ _ aF) ?_;refine O _ (aM [2,11,17,18] ?_);clear O J;refine aa (rz [2,11,17,18,216] ?_);refine af (rz [2,11,17,18,216,217] ?_);refine cQ rfl (fun h6=>?_) fun h6=>?_
  ·refine rS fun J O=>?_
   refine oM ?_;refine oM ?_;refine oM ?_;refine O _ (aM [4,5] ?_);clear O J;refine ae ?_;simp only [h1,h2,h3,h4,h5,hl,aF,jP,h6] at hG;obtain ⟨hz,hr⟩:=cP hG;obtain ⟨rfl,rfl⟩:=Prod.mk.inj hr;exact lF [] [encS _,.d (.s (.bool _))]
  refine rz [2,11,17,18,216,225] ?_;refine cQ rfl (fun h7=>?_) fun h7=>?_
  ·refine rS fun J O=>?_
   refine oM ?_;refine oM ?_;refine oM ?_;refine oM ?_;refine oM ?_;refine oM ?_;refine O _ (aM [4,5] ?_);clear O J;refine ae ?_;simp only [h1,h2,h3,h4,h5,hl,aF,jP,h6,h7] at hG;obtain ⟨hz,hr⟩:=cP hG;obtain ⟨rfl,rfl⟩:=Prod.mk.inj hr;exact lF [] [encS _,.d (.s (.bool _))]
  refine rz [2,11,17,18,216,240] ?_;refine cQ rfl (fun h8=>?_) fun h8=>?_
  ·refine aa ?_;refine (dW LP [] (fun _=>true) (by kernel_rfl) fun J O=>oM ?_);refine oM ?_;refine oM ?_;refine oM ?_;refine ab (fun h9=>?_) (fun h9=>?_)
   ·refine O _ (aM [4,5] ?_);clear O J;refine ae ?_;simp only [bz,h1,h2,h3,h4,h5,hl,aF,jP,h6,h7,h8,h9] at hG;obtain ⟨hz,hr⟩:=cP hG;obtain ⟨rfl,rfl⟩:=Prod.mk.inj hr;exact lF [] [encS _,.d (.s (.bool _))]
   refine O _ (aM [4,5] ?_);clear O J;refine ae ?_;simp only [bz,h1,h2,h3,h4,h5,hl,aF,jP,h6,h7,h8,h9] at hG;obtain ⟨hz,hr⟩:=cP hG;obtain ⟨rfl,rfl⟩:=Prod.mk.inj hr;exact lF [] [encS _,.d (.s (.bool _))]
  refine rz [2,11,18,257] ?_;refine cQ rfl (fun h9=>?_) fun h9=>?_
  ·refine aa (rS fun J O=>?_);refine ab (fun dO=>?_) (fun dO=>?_)
   ·refine O _ (aM [2,11,266] ?_);clear O J;refine aj rfl (rz [4,5] ?_);refine ae ?_;simp only [bz,h1,h2,h3,h4,h5,hl,aF,jP,h6,h7,h8,h9,dO] at hG;obtain ⟨rfl,rfl⟩:=Prod.mk.inj (Option.some.inj hG);exact lF [] [encS _,.d (.s (.bool _))]
   refine O _ (aM [2,11,266] ?_);clear O J;refine cQ rfl (fun qV=>?_) fun qV=>?_
   ·refine rz [4,5] ?_;refine ae ?_;simp only [bz,h1,h2,h3,h4,h5,hl,aF,jP,h6,h7,h8,h9,dO,qV] at hG;obtain ⟨rfl,rfl⟩:=Prod.mk.inj (Option.some.inj hG);exact lF [] [encS _,.d (.s (.bool _))]
   obtain ⟨x,y,rfl⟩:=Iy qV;obtain ⟨p1,n1,m1,l1⟩:=x;obtain ⟨p2,n2,m2,l2⟩:=y;refine ac (rS fun J O=>oN (eI _ (aI (rfl) ?_)));refine sH ?_;cases aJ:db n (.mk p1 n1 m1 l1) 1 1 with
   |none=>
    simp only [h1,h2,h3,h4,h5,hl,aF,jP,h6,h7,h8,h9,dO,qV,aJ] at hG;cases hG
   |some v2=>
    obtain ⟨a2,o2⟩:=v2;have dX:=dm n _ _ _ _ _ aJ;refine aS [] (eg G n (.mk p1 n1 m1 l1) 1 1 _ _ aJ) ?_;refine O _ (aM [2,11,19] ?_);clear O J;refine rS fun J O=>oN (eI _ (aI (rfl) ?_))
    refine sH ?_;cases bh:db n (.mk p2 n2 m2 l2) 1 1 with
    |none=>
     simp only [h1,h2,h3,h4,h5,hl,aF,jP,h6,h7,h8,h9,dO,qV,aJ,bh] at hG;cases hG
    |some v3=>
     obtain ⟨a3,o3⟩:=v3;have UJ:=dm n _ _ _ _ _ bh;refine aS [] (eg G n (.mk p2 n2 m2 l2) 1 1 _ _ bh) ?_;refine O _ (aM [2,11,19,21] ?_);clear O J;refine rS fun J O=>oM ?_;refine oM ?_;refine oM ?_;refine oM ?_;refine oM ?_;refine oM ?_;refine O _ (aM [4,5] ?_);clear O J;refine ae ?_;simp only [bz,h1,h2,h3,h4,h5,hl,aF,jP,h6,h7,h8,h9,dO,qV,aJ,bh] at hG;obtain ⟨hz,hr⟩:=cP hG;obtain ⟨rfl,rfl⟩:=Prod.mk.inj hr;exact lF [] [encS _,.d (.s (.bool _))]
  refine ac (rz [4,5] ?_);refine ae ?_;simp only [h1,h2,h3,h4,h5,hl,aF,jP,h6,h7,h8,h9] at hG;obtain ⟨rfl,rfl⟩:=Prod.mk.inj (Option.some.inj hG);exact lF [] [encS _,.d (.s (.bool _))]
theorem aL:∀l:List Sm,(bF l).length=l.length
 |[]=>rfl
 |s::r=>by simp only [bF,lC,aL r]
theorem ed{l d e:List Sm}{x:Sm}(h:l=d++x::e):(bF l)[((d.length:Nat):Int).toNat]? = some x.cs:=by
 subst h;rw [Int.toNat_natCast];induction d with
 |nil=>rfl
 |cons y d ih=>simpa only [List.cons_append,bF,lC,List.getElem?_cons_succ] using ih
theorem Gm(G:Glob)(S:Sm->Int->GT)(hS:Su G S)(l:List Sm)(hn:l.length<=1073741824)(dd:Int)(s:BA)(b:Bool)(hG:ym S l dd ⟨#[]⟩=some (s,b)):Spec Tryz.prog G 87 [.d (.sl 7 (bF l)),.d (aD dd)] [] (.ret (.tup [.d (aW s),.d (.s (.bool b))])) []:=by
 refine sA (N:=36) Tryz.func87 ?_;refine rz [0,1] ?_;refine rz [0,1,6] ?_;refine aa (rz [0,1,6,7] ?_);refine af (aB (fun k Y=>∃(d1 e1:List Sm) (acc:BA),k=e1.length/\l=d1++e1/\ym S e1 dd acc=some (s,b)/\acc.size<=1073741824/\Y=⟨[(0,.d (.sl 7 (bF l))),(1,.d (aD dd)),(6,.d (aW acc)),(7,.d (aD d1.length))],[]⟩) (l.length) (⟨[],l,⟨#[]⟩,rfl,rfl,hG,Nat.zero_le _,rfl⟩) ?_);clear hG;rintro k Y ⟨d1,e1,acc,rfl,bV,hG,gK,rfl⟩;have bu:(bF l).length=d1.length+e1.length:=by rw [aL,bV,lA]
 have cn:d1.length+e1.length<=1073741824:=by rw [bV,lA] at hn;exact hn
 refine aa (rz [0,1,6,7,13] ?_);refine cQ rfl (fun h1=>?_) fun h1=>?_
 ·have bO:=oT h1;rw [bu] at bO;cases e1 with
  |nil=>simp only [lN] at bO;omega
  |cons x cw=>
  obtain ⟨q1,q2,q3,q4,q5,q6,q7⟩:=x;subst bV;simp only [lC] at cn;simp only [ym] at hG;refine ac (aa ?_);refine af (rS fun J O=>oN (eI _ (aI (ed rfl) ?_)));refine sH ?_;cases aF:S (.mk q1 q2 q3 q4 q5 q6 q7) dd with
  |none=>
   simp only [aF] at hG;cases hG
  |some v1=>
  obtain ⟨a1,o1⟩:=v1;cases jP:bj a1 with
  |false=>
   simp only [aF,jP] at hG;cases hG
  |true=>
  have qU:=cW jP;refine aS [] (hS _ dd _ _ aF) ?_;refine O _ (aM [0,1,6,7,8,9] ?_);clear O J;refine aa (rS fun J O=>?_);refine ab (fun h2=>?_) (fun h2=>?_)
  ·refine O _ (aM [0,1,6,7,8,31] ?_);clear O J;refine aj rfl (rz [4,5] ?_);refine ae ?_;simp only [bz,aF,jP,h2] at hG;obtain ⟨rfl,rfl⟩:=Prod.mk.inj (Option.some.inj hG);exact lF [] [encS _,.d (.s (.bool _))]
  refine O _ (aM [0,1,6,7,8,31] ?_);clear O J;refine cQ rfl (fun h3=>?_) fun h3=>?_
  ·refine rz [4,5] ?_;refine ae ?_;simp only [bz,aF,jP,h2,h3] at hG;obtain ⟨rfl,rfl⟩:=Prod.mk.inj (Option.some.inj hG);exact lF [] [encS _,.d (.s (.bool _))]
  cases hc:bj (acc++a1) with
  |false=>simp only [aF,jP,h2,h3,hc,bz] at hG;cases hG
  |true=>
  have hq:=cW hc;simp only [aF,jP,h2,h3,hc,bz] at hG;refine ac (rG fun J O=>oM ?_);refine O _ (aM [0,1,6,7] ?_);clear O J;refine rG fun J O=>O _ ?_;clear O J;exact ⟨_,nS _,_,ak (slots:=[0,1,6,7]) rfl rfl,d1++[.mk q1 q2 q3 q4 q5 q6 q7],cw,_,rfl,by simp,hG,hq,by rw [lA,aH (by omega) (by omega)];rfl⟩
 have bO:=oF h1;rw [bu] at bO;obtain rfl:e1=[]:=lE (by omega);simp only [ym] at hG;refine aA ?_;refine aq [6] rfl rfl ?_;refine rz [4,5] ?_;refine ae ?_;obtain ⟨rfl,rfl⟩:=Prod.mk.inj (Option.some.inj hG);exact lF [] [encS _,.d (.s (.bool _))]
theorem lQ(G:Glob)(n:Nat):∀f,NU G (di n f)
 |0=>fun l d s b h=>by simp only [di] at h;cases h
 |f+1=>fun l d s b h=>by
  simp only [di] at h;split at h
  ·rename_i hc;exact Gm G _ (CY G n _ (lQ G n f)) l (oT hc) d s b h
  cases h
def tS(K:BA->GT):List BA->BA->GT
 |[],acc=>K acc
 |v::r,acc=>match bj v&&bj (((acc++⟨#[118,97,114,32]⟩)++v)++⟨#[59,10]⟩) with
  |false=>none
  |true=>match (!dK v) with
   |true=>some (⟨#[]⟩,false)
   |false=>tS K r (((acc++⟨#[118,97,114,32]⟩)++v)++⟨#[59,10]⟩)
def pK(K:BA->GT):List Ar->BA->GT
 |[],acc=>K acc
 |⟨nm,sz⟩::r,acc=>match (bj nm&&jX sz)&&bj (((((acc++⟨#[97,114,114,97,121,32]⟩)++nm)++⟨#[91]⟩)++dH sz)++⟨#[93,59,10]⟩) with
  |false=>none
  |true=>match (((!dK nm)||decide (sz<0))||decide (sz>1099511627776)) with
   |true=>some (⟨#[]⟩,false)
   |false=>pK K r (((((acc++⟨#[97,114,114,97,121,32]⟩)++nm)++⟨#[91]⟩)++dH sz)++⟨#[93,59,10]⟩)
def AK(K:Bool->BA->GT):List BA->Nat->Bool->BA->GT
 |[],_,ok,l=>K ok l
 |v::r,i,ok,l=>match bj v&&bj (eA i l ⟨#[44,32]⟩++v) with
  |false=>none
  |true=>AK K r (i+1) (ok&&dK v) (eA i l ⟨#[44,32]⟩++v)
def AL(n:Nat)(B:List Sm->Int->GT)(nm:BA)(bd:List Sm)(rt:Ex)(acc:BA)(K:BA->GT)(ok:Bool)(l:BA):GT:=match B bd 1 with
 |none=>none
 |some (bt,IA)=>match db n rt 1 1 with
  |none=>none
  |some (et,Ph)=>match (bj bt&&bj et)&&bj (((((((((acc++⟨#[112,114,111,99,32]⟩)++nm)++⟨#[40]⟩)++l)++⟨#[41,32,123,10]⟩)++bt)++⟨#[32,32,114,101,116,117,114,110,32]⟩)++et)++⟨#[59,10,125,10]⟩) with
   |false=>none
   |true=>match ((((!ok)||(!IA))||(!Ph))||decide ((acc.size:Int)>4000)) with
    |true=>some (⟨#[]⟩,false)
    |false=>K (((((((((acc++⟨#[112,114,111,99,32]⟩)++nm)++⟨#[40]⟩)++l)++⟨#[41,32,123,10]⟩)++bt)++⟨#[32,32,114,101,116,117,114,110,32]⟩)++et)++⟨#[59,10,125,10]⟩)
def gU(n:Nat)(B:List Sm->Int->GT)(K:BA->GT):List Pc->BA->GT
 |[],acc=>K acc
 |⟨nm,ps,bd,rt⟩::r,acc=>match bj nm&&cV ps.length with
  |false=>none
  |true=>AK (AL n B nm bd rt acc (gU n B K r)) ps 0 (dK nm) ⟨#[]⟩
def lR(B:List Sm->Int->GT)(m:List Sm)(acc:BA):GT:=match B m 1 with
 |none=>none
 |some (mt,ok)=>match bj mt with
  |false=>none
  |true=>ip (((acc++⟨#[109,97,105,110,32,123,10]⟩)++mt)++⟨#[125,10]⟩) (ok&&decide (((((acc++⟨#[109,97,105,110,32,123,10]⟩)++mt)++⟨#[125,10]⟩).size:Int)<=4000))
def AM(n f:Nat)(p:Pg):GT:=match (cV p.vars.length&&cV p.arrays.length)&&cV p.procs.length with
 |false=>none
 |true=>tS (pK (gU n (di n f) (lR (di n f) p.main) p.procs) p.arrays) p.vars ⟨#[]⟩
def Pi:Plan:=(.take 0 (.take 1 (.take 2 (.load 3 (.take 4 (.take 5 (.take 6 (.load 7 (.take 8 (.take 9 (.take 10 (.load 11 (.take 12 (.take 13 (.take 14 (.load 15 (.one 16 (.take 17 (.take 18 (.take 19 .done))))))))))))))))))))
theorem CZ(G:Glob)(n f:Nat)(p:Pg)(s:BA)(b:Bool)(hG:AM n f p=some (s,b)):Spec Tryz.prog G 24 [.d (.agg p.cs)] [] (.ret (.tup [.d (aW s),.d (.s (.bool b))])) []:=by
 obtain ⟨az,ah,procs,main⟩:=p;unfold AM at hG;cases iQ:((cV az.length&&cV ah.length)&&cV procs.length) with
 |false=>simp only [iQ] at hG;cases hG
 |true=>
 simp only [iQ] at hG;have hn:=iQ;simp only [cV,bE,dE] at hn;obtain ⟨⟨nN,CD⟩,K_⟩:=hn;have pq:(⟨#[118,97,114,32]⟩:BA).size=4:=rfl;have qT:(⟨#[59,10]⟩:BA).size=2:=rfl;have sJ:(⟨#[97,114,114,97,121,32]⟩:BA).size=6:=rfl;have sY:(⟨#[91]⟩:BA).size=1:=rfl;have Iz:(⟨#[93,59,10]⟩:BA).size=3:=rfl;have K8:(⟨#[44,32]⟩:BA).size=2:=rfl;have LQ:(⟨#[112,114,111,99,32]⟩:BA).size=5:=rfl;have LR:(⟨#[40]⟩:BA).size=1:=rfl;have LS:(⟨#[41,32,123,10]⟩:BA).size=4:=rfl;have LU:(⟨#[32,32,114,101,116,117,114,110,32]⟩:BA).size=9:=rfl;have yn:(⟨#[59,10,125,10]⟩:BA).size=4:=rfl;have yo:(⟨#[109,97,105,110,32,123,10]⟩:BA).size=7:=rfl;have AN:(⟨#[125,10]⟩:BA).size=2:=rfl;refine sA (N:=201) Tryz.func24 ?_;refine rz [1] ?_;refine rz [1,4] ?_;refine aa (rz [1,4,5] ?_);refine af (aB (fun k Y=>∃(d1 e1:List BA) (acc:BA),k=e1.length/\az=d1++e1/\tS (pK (gU n (di n f) (lR (di n f) main) procs) ah) e1 acc=some (s,b)/\acc.size<=1073741824/\Y=⟨[(1,.box 0 0),(4,.d (aW acc)),(5,.d (aD d1.length))],[.box 37 [.d (.sl 1 (strs az)),.d (.sl 2 (ah.map Ar.cs)),.d (.sl 7 (procs.map Pc.cs)),.d (.sl 7 (bF main))]]⟩) (az.length) (⟨[],az,⟨#[]⟩,rfl,rfl,hG,Nat.zero_le _,rfl⟩) ?_);clear hG;rintro k Y ⟨d1,e1,acc,rfl,bV,hG,gK,rfl⟩;have bu:(strs az).length=d1.length+e1.length:=by rw [ag,bV,lA]
 have cn:d1.length+e1.length<=1073741824:=by rw [bV,lA] at nN;exact nN
 refine aa (rz [1,4,5,25] ?_);refine cQ rfl (fun h1=>?_) fun h1=>?_
 ·have bO:=oT h1;rw [bu] at bO;cases e1 with
  |nil=>simp only [lN] at bO;omega
  |cons x cw=>
  subst bV;simp only [lC] at cn;simp only [tS] at hG;cases hc:(bj x&&bj (((acc++⟨#[118,97,114,32]⟩)++x)++⟨#[59,10]⟩)) with
  |false=>simp only [hc] at hG;cases hG
  |true=>
  simp only [hc] at hG;have tB:=hc;simp only [bE] at tB;have sx:=cW tB.1;have hq:=cW tB.2;refine ac (aa ?_);refine af (rS fun J O=>oN (eI _ (aI (kH rfl) ?_)));refine aS [] (eK G x (by omega)) ?_;refine O _ (aM [1,4,5,6] ?_);clear O J;refine aa (rz [1,4,5,35] ?_);refine cQ rfl (fun h2=>?_) fun h2=>?_
  ·refine rz [2,3] ?_;refine ae ?_;simp only [h2] at hG;obtain ⟨rfl,rfl⟩:=Prod.mk.inj (Option.some.inj hG);exact lF [] [encS _,.d (.s (.bool _))]
  simp only [h2] at hG;refine ac (rG fun J O=>oM ?_);refine oN (eI _ (aI (kH rfl) ?_));refine oM ?_;refine oM ?_;refine O _ (aM [1,4,5] ?_);clear O J;refine rG fun J O=>O _ ?_;clear O J;exact ⟨_,nS _,_,ak (slots:=[1,4,5]) rfl rfl,d1++[x],cw,_,rfl,by simp,hG,hq,by rw [lA,aH (by omega) (by omega)];rfl⟩
 have bO:=oF h1;rw [bu] at bO;obtain rfl:e1=[]:=lE (by omega);simp only [tS] at hG;refine aA ?_;refine aq [1,4] rfl rfl ?_;refine aa (rz [1,4,7] ?_);refine af (aB (fun k Y=>∃(d2 e2:List Ar) (acc:BA),k=e2.length/\ah=d2++e2/\pK (gU n (di n f) (lR (di n f) main) procs) e2 acc=some (s,b)/\acc.size<=1073741824/\Y=⟨[(1,.box 0 0),(4,.d (aW acc)),(7,.d (aD d2.length))],[.box 37 [.d (.sl 1 (strs az)),.d (.sl 2 (ah.map Ar.cs)),.d (.sl 7 (procs.map Pc.cs)),.d (.sl 7 (bF main))]]⟩) (ah.length) (⟨[],ah,_,rfl,rfl,hG,gK,rfl⟩) ?_);clear hG;rintro k Y ⟨d2,e2,acc,rfl,du,hG,ge,rfl⟩;have dI:(ah.map Ar.cs).length=d2.length+e2.length:=by rw [lM,du,lA]
 have fK:d2.length+e2.length<=1073741824:=by rw [du,lA] at CD;exact CD
 refine aa (rz [1,4,7,49] ?_);refine cQ rfl (fun h2=>?_) fun h2=>?_
 ·have fe:=oT h2;rw [dI] at fe;cases e2 with
  |nil=>simp only [lN] at fe;omega
  |cons x ke=>
  obtain ⟨nm,sz⟩:=x;subst du;simp only [lC] at fK;simp only [pK] at hG;cases hc:((bj nm&&jX sz)&&bj (((((acc++⟨#[97,114,114,97,121,32]⟩)++nm)++⟨#[91]⟩)++dH sz)++⟨#[93,59,10]⟩)) with
  |false=>simp only [hc] at hG;cases hG
  |true=>
  simp only [hc] at hG;have tB:=hc;simp only [bE] at tB;have sx:=cW tB.1.1;have hq:=cW tB.2;have Ul:=gP tB.1.2;refine ac (aa ?_);refine af (rS fun J O=>oN (eI _ (aI (fL rfl) ?_)));refine aS [] (eK G nm (by omega)) ?_;refine O _ (aM [1,4,7,8] ?_);clear O J;refine aa (rS fun J O=>?_);refine ab (fun h3=>?_) (fun h3=>?_)
  ·refine O _ (aM [1,4,7,78] ?_);clear O J;refine aj rfl (rz [2,3] ?_);refine ae ?_;simp only [bz,h3] at hG;obtain ⟨rfl,rfl⟩:=Prod.mk.inj (Option.some.inj hG);exact lF [] [encS _,.d (.s (.bool _))]
  refine oN (eI _ (aI (fL rfl) ?_));refine ab (fun h4=>?_) (fun h4=>?_)
  ·refine O _ (aM [1,4,7,78] ?_);clear O J;refine aj rfl (rz [2,3] ?_);refine ae ?_;simp only [bz,h3,h4] at hG;obtain ⟨rfl,rfl⟩:=Prod.mk.inj (Option.some.inj hG);exact lF [] [encS _,.d (.s (.bool _))]
  refine oN (eI _ (aI (fL rfl) ?_));refine O _ (aM [1,4,7,78] ?_);clear O J;refine cQ rfl (fun h5=>?_) fun h5=>?_
  ·refine rz [2,3] ?_;refine ae ?_;simp only [bz,h3,h4,h5] at hG;obtain ⟨rfl,rfl⟩:=Prod.mk.inj (Option.some.inj hG);exact lF [] [encS _,.d (.s (.bool _))]
  simp only [h3,h4,h5,bz] at hG;refine ac ((dW Pi [] (fun _=>true) (by kernel_rfl) fun J O=>oM ?_));refine oN (eI _ (aI (fL rfl) ?_));refine oM ?_;refine oM ?_;refine oN (eI _ (aI (fL rfl) ?_));refine aS [] (AH G sz tB.1.2) ?_;refine oM ?_;refine oM ?_;refine O _ (aM [1,4,7] ?_);clear O J;refine rG fun J O=>O _ ?_;clear O J;exact ⟨_,nS _,_,ak (slots:=[1,4,7]) rfl rfl,d2++[⟨nm,sz⟩],ke,_,rfl,by simp,hG,hq,by rw [lA,aH (by omega) (by omega)];rfl⟩
 have fe:=oF h2;rw [dI] at fe;obtain rfl:e2=[]:=lE (by omega);simp only [pK] at hG;refine aA ?_;refine aq [1,4] rfl rfl ?_;refine aa (rz [1,4,9] ?_);refine af (aB (fun k Y=>∃(d3 e3:List Pc) (acc:BA),k=e3.length/\procs=d3++e3/\gU n (di n f) (lR (di n f) main) e3 acc=some (s,b)/\acc.size<=1073741824/\Y=⟨[(1,.box 0 0),(4,.d (aW acc)),(9,.d (aD d3.length))],[.box 37 [.d (.sl 1 (strs az)),.d (.sl 2 (ah.map Ar.cs)),.d (.sl 7 (procs.map Pc.cs)),.d (.sl 7 (bF main))]]⟩) (procs.length) (⟨[],procs,_,rfl,rfl,hG,ge,rfl⟩) ?_);clear hG;rintro k Y ⟨d3,e3,acc,rfl,yp,hG,W6,rfl⟩;have tU:(procs.map Pc.cs).length=d3.length+e3.length:=by rw [lM,yp,lA]
 have C0:d3.length+e3.length<=1073741824:=by rw [yp,lA] at K_;exact K_
 refine aa (rz [1,4,9,102] ?_);refine cQ rfl (fun h3=>?_) fun h3=>?_
 ·have K9:=oT h3;rw [tU] at K9;cases e3 with
  |nil=>simp only [lN] at K9;omega
  |cons x vM=>
  obtain ⟨nm,ps,bd,rt⟩:=x;obtain ⟨p1,n1,m1,l1⟩:=rt;subst yp;simp only [lC] at C0;simp only [gU] at hG;cases hc:(bj nm&&cV ps.length) with
  |false=>simp only [hc] at hG;cases hG
  |true=>
  simp only [hc] at hG;have tB:=hc;simp only [bE] at tB;have sx:=cW tB.1;have rZ:ps.length<=1073741824:=oT tB.2;refine ac (aa ?_);refine af (rS fun J O=>oN (eI _ (aI (eM rfl) ?_)));refine O _ (aM [1,4,9,10] ?_);clear O J;refine rS fun J O=>?_;refine aS [] (eK G nm (by omega)) ?_;refine O _ (aM [1,4,9,10,11] ?_);clear O J;refine rz [1,4,9,10,11,12] ?_;refine aa (rz [1,4,9,10,11,12,13] ?_);refine af (aB (fun k Y=>∃(d4 e4:List BA) (ok:Bool) (l:BA),k=e4.length/\ps=d4++e4/\AK (AL n (di n f) nm bd (.mk p1 n1 m1 l1) acc (gU n (di n f) (lR (di n f) main) vM)) e4 d4.length ok l=some (s,b)/\l.size<=1073741824/\Y=⟨[(1,.box 0 0),(4,.d (aW acc)),(9,.d (aD d3.length)),(10,.box 1 0),(11,.d (.s (.bool ok))),(12,.d (aW l)),(13,.d (aD d4.length))],[.box 37 [.d (.sl 1 (strs az)),.d (.sl 2 (ah.map Ar.cs)),.d (.sl 7 ((d3++⟨nm,ps,bd,.mk p1 n1 m1 l1⟩::vM).map Pc.cs)),.d (.sl 7 (bF main))],.box 145 [.d (aW nm),.d (.sl 1 (strs ps)),.d (.sl 7 (bF bd)),.d (aW p1),.d (aD n1),.d (aW m1),.d (.sl 4 (bR l1))]]⟩) (ps.length) (⟨[],ps,_,⟨#[]⟩,rfl,rfl,hG,Nat.zero_le _,rfl⟩) ?_);clear hG;rintro k Y ⟨d4,e4,ok,l,rfl,AO,hG,Sv,rfl⟩
  have tV:(strs ps).length=d4.length+e4.length:=by rw [ag,AO,lA]
  have C1:d4.length+e4.length<=1073741824:=by rw [AO,lA] at rZ;exact rZ
  refine aa (rz [1,4,9,10,11,12,13,117] ?_);refine cQ rfl (fun h4=>?_) fun h4=>?_
  ·have ES:=oT h4;rw [tV] at ES;cases e4 with
   |nil=>simp only [lN] at ES;omega
   |cons x yq=>
   subst AO;simp only [lC] at C1;simp only [AK] at hG;cases U':(bj x&&bj ((eA d4.length l ⟨#[44,32]⟩)++x)) with
   |false=>simp only [U'] at hG;cases hG
   |true=>
   simp only [U'] at hG;have Pj:=U';simp only [bE] at Pj;have sx4:=cW Pj.1;have Yr:=cW Pj.2;refine ac (aa ?_);refine af (rS fun J O=>oN (eI _ (aI (kH rfl) ?_)));refine aS [] (eK G x (by omega)) ?_;refine O _ (aM [1,4,9,10,11,12,13,14] ?_);clear O J;refine bQ (fun Z=>Z=⟨[(1,.box 0 0),(4,.d (aW acc)),(9,.d (aD d3.length)),(10,.box 1 0),(11,.d (.s (.bool (ok&&dK x)))),(12,.d (aW l)),(13,.d (aD d4.length))],[.box 37 [.d (.sl 1 (strs az)),.d (.sl 2 (ah.map Ar.cs)),.d (.sl 7 ((d3++⟨nm,d4++x::yq,bd,.mk p1 n1 m1 l1⟩::vM).map Pc.cs)),.d (.sl 7 (bF main))],.box 145 [.d (aW nm),.d (.sl 1 (strs (d4++x::yq))),.d (.sl 7 (bF bd)),.d (aW p1),.d (aD n1),.d (aW m1),.d (.sl 4 (bR l1))]]⟩) ?_ ?_
   ·refine rG fun J O=>?_
    refine ab (fun h5=>?_) (fun h5=>?_)
    ·refine O _ ?_;clear O J;exact ⟨_,ak (slots:=[1,4,9,10,11,12,13]) rfl rfl,by first|(simp only [h5,bz];done)|(simp only [h4,h5,bz];rfl)⟩
    refine O _ ?_;clear O J;exact ⟨_,ak (slots:=[1,4,9,10,11,12,13]) rfl rfl,by first|(simp only [h5,bz];done)|(simp only [h5,bz];rfl)⟩
   rintro Z rfl;refine bQ (fun Z=>Z=⟨[(1,.box 0 0),(4,.d (aW acc)),(9,.d (aD d3.length)),(10,.box 1 0),(11,.d (.s (.bool (ok&&dK x)))),(12,.d (aW (eA d4.length l ⟨#[44,32]⟩))),(13,.d (aD d4.length))],[.box 37 [.d (.sl 1 (strs az)),.d (.sl 2 (ah.map Ar.cs)),.d (.sl 7 ((d3++⟨nm,d4++x::yq,bd,.mk p1 n1 m1 l1⟩::vM).map Pc.cs)),.d (.sl 7 (bF main))],.box 145 [.d (aW nm),.d (.sl 1 (strs (d4++x::yq))),.d (.sl 7 (bF bd)),.d (aW p1),.d (aD n1),.d (aW m1),.d (.sl 4 (bR l1))]]⟩) ?_ ?_
   ·refine rz [1,4,9,10,11,12,13,131] ?_;refine cQ rfl (fun h5=>?_) fun h5=>?_
    ·refine rG fun J O=>?_
     refine oM ?_;refine O _ ?_;clear O J;exact ⟨_,ak (slots:=[1,4,9,10,11,12,13]) rfl rfl,by first|(simp only [eA,h5];done)|(simp only [eA,h5];rfl)⟩
    refine ac ?_;exact ⟨_,ak (slots:=[1,4,9,10,11,12,13]) rfl rfl,by first|(simp only [eA,h5];done)|(simp only [eA,h5,bz];rfl)⟩
   rintro Z rfl;have jW:=tQ (i:=d4.length) (sep:=⟨#[44,32]⟩) Sv;refine rG fun J O=>oN (eI _ (aI (kH rfl) ?_));refine oM ?_;refine O _ (aM [1,4,9,10,11,12,13] ?_);clear O J;refine rG fun J O=>O _ ?_;clear O J;exact ⟨_,nS _,_,ak (slots:=[1,4,9,10,11,12,13]) rfl rfl,d4++[x],yq,_,_,rfl,by simp,(by rw [lA];exact hG),Yr,by rw [lA,aH (by omega) (by omega)];rfl⟩
  have ES:=oF h4;rw [tV] at ES;obtain rfl:e4=[]:=lE (by omega);simp only [AK] at hG;refine aA ?_;refine aq [1,4,9,10,11,12] rfl rfl ?_;refine rS fun J O=>sH ?_;simp only [AL] at hG
  cases aF:di n f bd 1 with
  |none=>simp only [aF] at hG;cases hG
  |some v1=>
  obtain ⟨a1,o1⟩:=v1;refine aS [] (lQ G n f bd 1 _ _ aF) ?_;refine O _ (aM [1,4,9,10,11,12,15,16] ?_);clear O J;refine rS fun J O=>sH ?_
  cases aJ:db n (.mk p1 n1 m1 l1) 1 1 with
  |none=>simp only [aF,aJ] at hG;cases hG
  |some v2=>
  obtain ⟨a2,o2⟩:=v2;cases K1:((bj a1&&bj a2)&&bj (((((((((acc++⟨#[112,114,111,99,32]⟩)++nm)++⟨#[40]⟩)++l)++⟨#[41,32,123,10]⟩)++a1)++⟨#[32,32,114,101,116,117,114,110,32]⟩)++a2)++⟨#[59,10,125,10]⟩)) with
  |false=>simp only [aF,aJ,K1] at hG;cases hG
  |true=>
  have LV:=K1;simp only [bE] at LV;have qU:=cW LV.1.1;have dX:=cW LV.1.2;have Ys:=cW LV.2;simp only [aF,aJ,K1] at hG;refine aS [] (eg G n (.mk p1 n1 m1 l1) 1 1 _ _ aJ) ?_;refine O _ (aM [1,4,9,10,11,12,15,16,17,18] ?_);clear O J;refine aa (rS fun J O=>?_);refine ab (fun h5=>?_) (fun h5=>?_)
  ·refine O _ (aM [1,4,9,10,12,15,17,167] ?_);clear O J;refine aj rfl (rz [2,3] ?_);refine ae ?_;simp only [bz,h5] at hG;obtain ⟨rfl,rfl⟩:=Prod.mk.inj (Option.some.inj hG);exact lF [] [encS _,.d (.s (.bool _))]
  refine ab (fun h6=>?_) (fun h6=>?_)
  ·refine O _ (aM [1,4,9,10,12,15,17,167] ?_);clear O J;refine aj rfl (rz [2,3] ?_);refine ae ?_;simp only [bz,h5,h6] at hG;obtain ⟨rfl,rfl⟩:=Prod.mk.inj (Option.some.inj hG);exact lF [] [encS _,.d (.s (.bool _))]
  refine ab (fun h7=>?_) (fun h7=>?_)
  ·refine O _ (aM [1,4,9,10,12,15,17,167] ?_);clear O J;refine aj rfl (rz [2,3] ?_);refine ae ?_;simp only [bz,h5,h6,h7] at hG;obtain ⟨rfl,rfl⟩:=Prod.mk.inj (Option.some.inj hG);exact lF [] [encS _,.d (.s (.bool _))]
  refine O _ (aM [1,4,9,10,12,15,17,167] ?_);clear O J;refine cQ rfl (fun h8=>?_) fun h8=>?_
  ·refine rz [2,3] ?_;refine ae ?_;simp only [bz,h5,h6,h7,h8] at hG;obtain ⟨rfl,rfl⟩:=Prod.mk.inj (Option.some.inj hG);exact lF [] [encS _,.d (.s (.bool _))]
  simp only [h5,h6,h7,h8,bz] at hG;refine ac (rG fun J O=>oM ?_);refine oM ?_;refine oM ?_;refine oM ?_;refine oM ?_;refine oM ?_;refine oM ?_;refine oM ?_;refine oM ?_;refine O _ (aM [1,4,9] ?_);clear O J;refine rG fun J O=>O _ ?_;clear O J;exact ⟨_,nS _,_,aG (L:=[0]) (slots:=[1,4,9]) rfl rfl rfl rfl rfl,d3++[⟨nm,ps,bd,.mk p1 n1 m1 l1⟩],vM,_,rfl,by simp,hG,Ys,by rw [lA,aH (by omega) (by omega)];rfl⟩
 have K9:=oF h3;rw [tU] at K9;obtain rfl:e3=[]:=lE (by omega);simp only [gU] at hG;refine aA ?_;refine aq [1,4] rfl rfl ?_;refine rS fun J O=>sH ?_;simp only [lR] at hG
 cases aF:di n f main 1 with
 |none=>simp only [aF] at hG;cases hG
 |some v1=>
 obtain ⟨a1,o1⟩:=v1;cases jP:bj a1 with
 |false=>simp only [aF,jP] at hG;cases hG
 |true=>
 have qU:=cW jP;simp only [aF,jP] at hG;obtain ⟨hz,hr⟩:=cP hG;refine aS [] (lQ G n f main 1 _ _ aF) ?_;refine O _ (aM [4,19,20] ?_);clear O J;refine rS fun J O=>oM ?_;refine oM ?_;refine oM ?_;refine O _ (aM [4,20] ?_);clear O J;refine rS fun J O=>?_;refine ab (fun h4=>?_) (fun h4=>?_)
 ·refine O _ (aM [2,3] ?_);clear O J;refine ae ?_;simp only [bz,h4] at hr;obtain ⟨rfl,rfl⟩:=Prod.mk.inj hr;exact lF [] [encS _,.d (.s (.bool _))]
 refine O _ (aM [2,3] ?_);clear O J;refine ae ?_;simp only [bz,h4] at hr;obtain ⟨rfl,rfl⟩:=Prod.mk.inj hr;exact lF [] [encS _,.d (.s (.bool _))]
end Go.Abs
end
section
namespace Go.Abs
open Go Go.Proofs
theorem cq(a b:BA):(a.toList==b.toList)=decide (a=b):=by
 by_cases h:a=b
 ·subst h;simp
 rw [decide_eq_false h,beq_eq_false_iff_ne];intro q;apply h;rw [ByteArray.toList_eq,ByteArray.toList_eq] at q;apply ByteArray.ext;exact Array.ext' q
theorem cR(a b:BA):(a==b)=decide (a=b):=by
 obtain ⟨a⟩:=a;obtain ⟨b⟩:=b;show (a==b)=_
 by_cases h:a=b
 ·subst h;simp
 have h2:¬(⟨a⟩:BA)=⟨b⟩:=fun q=>h (by injection q);rw [decide_eq_false h2,beq_eq_false_iff_ne];exact h
theorem ET:∀(m:List (BA×Data)) (w s:BA) (p:Data),(dF (cZ m w p) s).isSome=((dF m s).isSome||decide (w=s))
 |[],w,s,p=>by
  simp only [cZ,dF,cR];by_cases h:s=w
  ·rw [dT h,dT h.symm];rfl
  rw [decide_eq_false h,decide_eq_false (fun q=>h q.symm)];rfl
 | (k,q)::r,w,s,p=>by
  simp only [cZ,cR];by_cases h:w=k
  ·subst h;rw [dT rfl];simp only [dF,cR];by_cases h:s=w
   ·rw [dT h,dT h.symm];rfl
   rw [decide_eq_false h,decide_eq_false (fun q=>h q.symm)];simp
  rw [decide_eq_false h];simp only [dF,cR];by_cases h2:s=k
  ·rw [dT h2];rfl
  rw [decide_eq_false h2];exact ET r w s p
theorem AP(s:BA):∀(l:List BA) (m:List (BA×Data)),(dF (l.foldl (fun m w=>cZ m w tt) m) s).isSome=((dF m s).isSome||hasF s l)
 |[],m=>by simp [hasF]
 |x::r,m=>by
  rw [List.foldl_cons,AP s r,ET];simp only [hasF,cq];cases decide (x=s) <;> simp
theorem IB(s:BA):AQ s=hasF s resW:=by
 unfold AQ sK;rw [AP];rfl
theorem eB(s:BA):dK s=aC s:=by
 unfold dK aC;rw [IB];have:(!(s.toList==(⟨#[]⟩:BA).toList))=decide ((s.size:Int)>0):=by
  rw [cq];by_cases h:s=⟨#[]⟩
  ·subst h;rfl
  rw [decide_eq_false h,dT]
  ·rfl
  rcases Nat.eq_zero_or_pos s.size with q|q
  ·exact absurd (ByteArray.ext (Array.eq_empty_of_size_eq_zero q)) h
  omega
 rw [this];rfl
theorem LW(s:BA):yi s=dC s:=by
 unfold yi O9 dC;simp only [hasF,cq];simp only [eq_comm (b:=s)]
 repeat' split
 all_goals simp_all
theorem Pk{op:BA}(h:(op.toList==(⟨#[110,117,109]⟩:BA).toList)=true):(op.toList==(⟨#[110,117,109]⟩:BA).toList)=true/\(op.toList==(⟨#[118,97,114]⟩:BA).toList)=false/\(op.toList==(⟨#[97,116]⟩:BA).toList)=false/\(op.toList==(⟨#[110,101,103]⟩:BA).toList)=false/\aU op=3/\fO op=false:=by
 rw [cq] at h;have h:=oT h;subst h;refine ⟨?_,?_,?_,?_,?_,?_⟩ <;> kernel_rfl
theorem Pl{op:BA}(h:(op.toList==(⟨#[118,97,114]⟩:BA).toList)=true):(op.toList==(⟨#[110,117,109]⟩:BA).toList)=false/\(op.toList==(⟨#[118,97,114]⟩:BA).toList)=true/\(op.toList==(⟨#[97,116]⟩:BA).toList)=false/\(op.toList==(⟨#[110,101,103]⟩:BA).toList)=false/\aU op=3/\fO op=false:=by
 rw [cq] at h;have h:=oT h;subst h;refine ⟨?_,?_,?_,?_,?_,?_⟩ <;> kernel_rfl
theorem Sw{op:BA}(h:(op.toList==(⟨#[97,116]⟩:BA).toList)=true):(op.toList==(⟨#[110,117,109]⟩:BA).toList)=false/\(op.toList==(⟨#[118,97,114]⟩:BA).toList)=false/\(op.toList==(⟨#[97,116]⟩:BA).toList)=true/\(op.toList==(⟨#[110,101,103]⟩:BA).toList)=false/\aU op=3/\fO op=false:=by
 rw [cq] at h;have h:=oT h;subst h;refine ⟨?_,?_,?_,?_,?_,?_⟩ <;> kernel_rfl
theorem Pm{op:BA}(h:(op.toList==(⟨#[110,101,103]⟩:BA).toList)=true):(op.toList==(⟨#[110,117,109]⟩:BA).toList)=false/\(op.toList==(⟨#[118,97,114]⟩:BA).toList)=false/\(op.toList==(⟨#[97,116]⟩:BA).toList)=false/\(op.toList==(⟨#[110,101,103]⟩:BA).toList)=true/\aU op=3/\fO op=false:=by
 rw [cq] at h;have h:=oT h;subst h;refine ⟨?_,?_,?_,?_,?_,?_⟩ <;> kernel_rfl
theorem Pn{op:BA}(h:fO op=true):((op.toList==(⟨#[110,117,109]⟩:BA).toList)=false/\(op.toList==(⟨#[118,97,114]⟩:BA).toList)=false/\(op.toList==(⟨#[97,116]⟩:BA).toList)=false/\(op.toList==(⟨#[110,101,103]⟩:BA).toList)=false)/\(aU op==3)=false:=by
 unfold fO at h;simp only [Bool.or_eq_true,cq,dE] at h;rcases h with (((rfl|rfl)|rfl)|rfl)|rfl <;> (refine ⟨⟨?_,?_,?_,?_⟩,?_⟩ <;> kernel_rfl)
theorem LX{op:BA}(h:fO op=false):aU op=3:=by
 unfold fO at h;unfold aU;simp only [Bool.or_eq_false_iff] at h;simp only [h,Bool.or_self]
structure GR (x:TIs) (m:Nat) (r:GT):Prop where
 ex:∃s b,r=some (s,b)/\s.size<=m/\(b=true->∃k,x=some (s,k))/\(∀t k,x=some (t,k)->t.size<=4000->b=true)
theorem oB{a:BA}{b:Bool}(h:a.size<=1073741824):ip a b=some (a,b):=by
 unfold ip bj;rw [dT h]
theorem GR.no{x:TIs}{m:Nat}(h:∀t k,x=some (t,k)->4000<t.size):GR x m (some (⟨#[]⟩,false)):=
 ⟨⟨_,_,rfl,Nat.zero_le _,fun q=>Bool.noConfusion q,fun t k e q=>by have:=h t k e;omega⟩⟩
theorem GR.nil{m:Nat}:GR Option.none m (some (⟨#[]⟩,false)):=GR.no (fun t k e=>by cases e)
theorem GR.fit{x:TIs}{m:Nat}{s:BA}{b:Bool}(hs:s.size<=m)(hm:m<=1073741824)(h1:b=true->∃k,x=some (s,k))(h2:∀t k,x=some (t,k)->t.size<=4000->b=true):GR x m (ip s b):=
 ⟨⟨s,b,oB (by omega),hs,h1,h2⟩⟩
def Yt(g:BA->BA)(r:GT):GT:=match r with
 |some (s,ok)=>ip (g s) ok
 |none=>none
theorem GR.wrap{x:TIs}{m m' j:Nat}{r:GT}(g:BA->BA)(c:Nat)(h:GR x m r)(hg:∀s,s.size<=(g s).size/\(g s).size<=s.size+c)(hm:m+c<=m')(WT:m'<=1073741824):GR (x.map fun y=>(g y.1,y.2+j)) m' (Yt g r):=by
 obtain ⟨s,b,rfl,h1,h2,h3⟩:=h.ex;have:=hg s;refine GR.fit (by omega) WT (fun q=>?_) (fun t k e ht=>?_)
 ·obtain ⟨k,rfl⟩:=h2 q;exact ⟨k+j,rfl⟩
 obtain ⟨y,hy,e⟩:=Option.map_eq_some_iff.1 e;have e1:g y.1=t:=congrArg Prod.fst e;subst e1;have:=hg y.1;exact h3 y.1 y.2 hy (by omega)
def W7(f:Nat):Prop:=∀(e:Ex) (bc d:Int),fuE e+Et (aU e.op) bc<=f->nmE e=true->wtE e<=1000000000->-1<=d->d<=100->1<=bc->GR (exprI e bc d) (wtE e+2 * Et (aU e.op) bc) (db f e bc d)
theorem nameG_emp{nm:BA}(h:(nm.toList==(⟨#[]⟩:BA).toList)=true):aC nm=false:=by
 rw [cq] at h;have h:=oT h;subst h;cases q:aC ⟨#[]⟩ with
 |false=>rfl
 |true=>have:=Aj q;exact absurd this (by decide)
theorem bne_eq(a b:Int):(a != b)=!(a==b):=rfl
theorem LY{f:Nat}(ih:W7 f)(op:BA)(n:Int)(nm:BA)(l:List Ex)(d:Int)(hf:fuE (.mk op n nm l)<=f+1)(ga:nmE (.mk op n nm l)=true)(hw:wtE (.mk op n nm l)<=1000000000)(Lp : -1<=d)(hd:d<=12)(bc:Int)(hr:decide (aU op<bc)=false):
  GR ((fE (.mk op n nm l) d).map fun x=>(x.1,x.2+1)) (wtE (.mk op n nm l)) (db (f+1) (.mk op n nm l) bc d):=by
 simp only [fuE] at hf;simp only [nmE,bE] at ga;simp only [wtE] at hw ⊢;have sE:IntKind.i64.wrap (d+1)=d+1:=dl (by omega) (by omega);have hc:(bj nm&&bj op&&jX n)=true:=by
  rw [show bj nm=true from dT (by omega),show bj op=true from dT (by omega),ga.1];rfl
 simp only [db,decide_eq_false (show ¬d>12 by omega),hr,hc,sE];rw [fE.eq_def];dsimp only;unfold oA lO;simp only [eB];cases k1:(op.toList==(⟨#[110,117,109]⟩:BA).toList) with
 |true=>
  obtain ⟨_,e2,e3,e4,e5,e6⟩:=Pk k1;simp only [e2,e3];cases hz:(nm.toList==(⟨#[]⟩:BA).toList) with
  |false=>
   simp
   exact GR.nil
  |true=>
   rw [nameG_emp hz];simp only [Bool.or_self,Bool.not_false,Bool.not_true,Bool.and_false,Bool.false_and,Bool.and_true,BEq.rfl];refine GR.fit (Nat.le_trans (gP ga.1) (by omega)) (by omega) (fun q=>?_) (fun t k e ht=>?_)
   ·simp only [bE] at q;rw [q.1.2,q.2,q.1.1];exact ⟨_,rfl⟩
   cases h1:decide (n≥0) <;> cases h2:decide (n<=1099511627776) <;> cases h3:(((bR l).length:Int)==0) <;> simp [h1,h2,h3] at e ⊢
 |false=>
  simp only;cases k2:(op.toList==(⟨#[118,97,114]⟩:BA).toList) with
  |true=>
   obtain ⟨_,_,e3,e4,e5,e6⟩:=Pl k2;simp only [Bool.true_or,Bool.not_true,Bool.false_and,Bool.or_false,Bool.not_false,Bool.true_and];cases hq:aC nm with
   |false=>
    simp
    exact GR.nil
   |true=>
    cases hn:(n==0) with
    |false=>
     simp [bne_eq,hn]
     exact GR.nil
    |true=>
     simp only [bne_eq,hn,BEq.rfl,Bool.not_true,Bool.or_self,Bool.true_and,Bool.and_true];refine GR.fit (by omega) (by omega) (fun q=>?_) (fun t k e ht=>?_)
     ·rw [q];exact ⟨_,rfl⟩
     cases h3:(((bR l).length:Int)==0) with
     |true=>rfl
     |false=>rw [h3] at e;cases e
  |false=>
   simp only;cases k3:(op.toList==(⟨#[97,116]⟩:BA).toList) with
   |true=>
    obtain ⟨_,_,_,e4,e5,e6⟩:=Sw k3;simp only [Bool.or_true,Bool.not_true,Bool.false_and,Bool.or_false,Bool.not_false,Bool.true_and,Bool.true_or];cases hq:aC nm with
    |false=>
     simp
     exact GR.nil
    |true=>
     cases hn:(n==0) with
     |false=>
      simp [bne_eq,hn]
      exact GR.nil
     |true=>
      simp only [bne_eq,hn,BEq.rfl,Bool.not_true,Bool.or_self,Bool.true_and,Bool.and_true];cases h3:(((bR l).length:Int)==1) with
      |false=>exact GR.nil
      |true=>
       obtain ⟨x,rfl⟩:=ow (c:=true) (by simpa using h3);simp only [qI] at hf;simp only [xN] at hw ⊢;simp only [vH,Bool.and_true] at ga;have UL:=qH (r:=aU x.op) (l:=1) (dM _).1;have hx:=ih x 1 (d+1) (by omega) ga.2 (by omega) (by omega) (by omega) (by omega);simp only [Bool.not_true,pw _ (fun s=>((nm++⟨#[91]⟩)++s)++⟨#[93]⟩)];exact GR.wrap (m':=64+op.size+nm.size+(wtE x+2)) (fun s=>((nm++⟨#[91]⟩)++s)++⟨#[93]⟩) (nm.size+2) hx (fun s=>by simp only [dX];have e1:(⟨#[91]⟩:BA).size=1:=rfl;have e2:(⟨#[93]⟩:BA).size=1:=rfl;omega) (by omega) (by omega)
   |false=>
    simp only;cases k4:(op.toList==(⟨#[110,101,103]⟩:BA).toList) with
    |true=>
     obtain ⟨_,_,_,_,e5,e6⟩:=Pm k4;simp only [Bool.or_self,Bool.not_false,Bool.true_and,Bool.false_or];cases hz:(nm.toList==(⟨#[]⟩:BA).toList) with
     |false=>
      simp
      exact GR.nil
     |true=>
      rw [nameG_emp hz];cases hn:(n==0) with
      |false=>
       simp [bne_eq,hn]
       exact GR.nil
      |true=>
       simp only [bne_eq,hn,BEq.rfl,Bool.not_true,Bool.or_self,Bool.true_and,Bool.and_true];cases h3:(((bR l).length:Int)==1) with
       |false=>exact GR.nil
       |true=>
        obtain ⟨x,rfl⟩:=ow (c:=true) (by simpa using h3);simp only [qI] at hf;simp only [xN] at hw ⊢;simp only [vH,Bool.and_true] at ga;have UL:=qJ (aU x.op) 3;have hx:=ih x 3 (d+1) (by omega) ga.2 (by omega) (by omega) (by omega) (by omega);simp only [Bool.not_true,pw _ (fun s=>⟨#[45]⟩++s)];exact GR.wrap (m':=64+op.size+nm.size+(wtE x+2)) (fun s=>⟨#[45]⟩++s) 1 hx (fun s=>by simp only [dX];have e1:(⟨#[45]⟩:BA).size=1:=rfl;omega) (by omega) (by omega)
    |false=>
     simp only [Bool.or_self,Bool.not_false,Bool.true_and];cases k5:fO op with
     |false=>
      rw [LX k5];simp only [Bool.false_and];split
      ·exact GR.nil
      exact GR.nil
     |true=>
      have e5:=(Pn k5).2;cases hz:(nm.toList==(⟨#[]⟩:BA).toList) with
      |false=>
       simp
       exact GR.nil
      |true=>
       rw [nameG_emp hz];cases hn:(n==0) with
       |false=>
        simp [bne_eq,hn]
        exact GR.nil
       |true=>
        simp only [bne_eq,hn,e5,BEq.rfl,Bool.not_true,Bool.or_self,Bool.true_and,Bool.and_true,Bool.false_or];cases h3:(((bR l).length:Int)==2) with
        |false=>exact GR.nil
        |true=>
         obtain ⟨x,y,rfl⟩:=lx (c:=true) (by simpa using h3);have K0:=dM op;rw [show IntKind.i64.wrap (aU op+1)=aU op+1 from dl (by omega) (by omega)];simp only [tv] at hf;simp only [xO] at hw ⊢;simp only [vH,Bool.and_true,bE] at ga;have X5:=qJ (aU x.op) (aU op);have X6:=qJ (aU y.op) (aU op+1);obtain ⟨a,ok,e,h1,h2,h4⟩:=(ih x (aU op) d (by omega) ga.2.1 (by omega) (by omega) (by omega) (by omega)).ex;obtain ⟨b,Ix,e',g1,g2,g4⟩:=(ih y (aU op+1) d (by omega) ga.2.2 (by omega) (by omega) (by omega) (by omega)).ex;simp only [e,e',Bool.not_true];have Yu:(⟨#[32]⟩:BA).size=1:=rfl;show GR (Option.map (fun x=>(x.1,x.2+1)) ((exprI x (aU op) d).bind fun u=>(exprI y (aU op+1) d).map fun v=>((((u.1++⟨#[32]⟩)++op)++⟨#[32]⟩)++v.1,u.2+v.2))) _ _
         have NW:∀t k,Option.map (fun x=>(x.1,x.2+1)) ((exprI x (aU op) d).bind fun u=>(exprI y (aU op+1) d).map fun v=>((((u.1++⟨#[32]⟩)++op)++⟨#[32]⟩)++v.1,u.2+v.2))=some (t,k)->∃t1 k1 t2 k2,exprI x (aU op) d=some (t1,k1)/\exprI y (aU op+1) d=some (t2,k2)/\t=(((t1++⟨#[32]⟩)++op)++⟨#[32]⟩)++t2:=by
          intro t k q;obtain ⟨z,hz,q⟩:=Option.map_eq_some_iff.1 q;obtain ⟨u,hu,hz⟩:=Option.bind_eq_some_iff.1 hz;obtain ⟨v,hv,hz⟩:=Option.map_eq_some_iff.1 hz;subst hz;simp only [Prod.mk.injEq] at q;exact ⟨u.1,u.2,v.1,v.2,hu,hv,q.1.symm⟩
         cases ok with
         |false=>
          simp only [Bool.not_false,Bool.true_or];refine GR.no (fun t k q=>?_);obtain ⟨t1,k1,t2,k2,q1,q2,rfl⟩:=NW t k q;simp only [dX];rcases Nat.lt_or_ge 4000 t1.size with w|w
          ·omega
          have:=h4 t1 k1 q1 w;cases this
         |true=>
          obtain ⟨k1,q1⟩:=h2 rfl;by_cases i6:((a.size:Int)>4000)
          ·simp only [dT i6,Bool.or_true];refine GR.no (fun t k q=>?_);obtain ⟨t1,Yv,t2,k2,Um,q2,rfl⟩:=NW t k q;rw [q1] at Um;simp only [sI,Prod.mk.injEq] at Um;rw [<- Um.1];simp only [dX];omega
          simp only [decide_eq_false i6,Bool.not_true,Bool.or_self];refine GR.fit (by simp only [dX];omega) (by omega) (fun q=>?_) (fun t k q ht=>?_)
          ·obtain ⟨k2,q2⟩:=g2 q;rw [q1,q2];exact ⟨_,rfl⟩
          obtain ⟨t1,Yv,t2,k2,Um,q2,rfl⟩:=NW t k q;simp only [dX] at ht;exact g4 t2 k2 q2 (by omega)
theorem EU:∀f,W7 f
 |0=>by
  intro e bc d hf;obtain ⟨op,n,nm,l⟩:=e;simp only [fuE] at hf;omega
 |f+1=>by
  intro e bc d hf ga hw Lp hd Hu;have ih:=EU f;obtain ⟨op,n,nm,l⟩:=e;cases qK:decide (d<=12) with
  |false=>
   have jo:=oF qK;simp only [db,exprI,ez,qK,dT (show d>12 by omega)];exact GR.nil
  |true=>
   have jo:=oT qK;have lp:(Ex.mk op n nm l).op=op:=rfl;rw [lp] at hf ⊢;cases hr:decide (aU op<bc) with
   |false=>
    rw [Eu hr] at hf ⊢;have:=LY ih op n nm l d (by omega) ga hw Lp jo bc hr;have e:exprI (.mk op n nm l) bc d=(fE (.mk op n nm l) d).map fun x=>(x.1,x.2+1):=by simp only [exprI,ez,qK,lp,hr]
    rw [e];exact this
   |true=>
    have ho:Et (aU op) bc=1:=by unfold Et;rw [hr]
    rw [ho] at hf ⊢;have h1:=qH (r:=aU op) (l:=1) (dM _).1;have hx:=ih (.mk op n nm l) 1 (d+1) (by rw [lp];omega) ga hw (by omega) (by omega) (by omega);rw [lp,h1] at hx;simp only [db,decide_eq_false (show ¬d>12 by omega),hr];rw [dl (x:=d+1) (by omega) (by omega)];have:=GR.wrap (j:=1) (m':=wtE (.mk op n nm l)+2 * 1) (fun s=>(⟨#[40]⟩++s)++⟨#[41]⟩) 2 hx (fun s=>by simp only [dX];have e1:(⟨#[40]⟩:BA).size=1:=rfl;have e2:(⟨#[41]⟩:BA).size=1:=rfl;omega) (by omega) (by omega);have e:exprI (.mk op n nm l) bc d=(exprI (.mk op n nm l) 1 (d+1)).map fun y=>((⟨#[40]⟩++y.1)++⟨#[41]⟩,y.2+1):=by
     have h2:decide (aU op<1)=false:=decide_eq_false (by have:=(dM op).1;omega);simp only [exprI,ez,qK,lp,hr,h2];cases decide (d+1<=12) with
     |true=>cases fE (.mk op n nm l) (d+1) <;> rfl
     |false=>rfl
    rw [e];exact this
end Go.Abs
end
section
namespace Go.Abs
open Go Go.Proofs
attribute [local irreducible] c8 dJ Sub Spec
section
abbrev Wd:=BA×Int
structure RSt where
 k:Nat
 c:Int
 a:Int
def wat(W:List Wd)(k:Nat):Wd:=W.getD k (⟨#[]⟩,0)
structure WOk (W:List Wd):Prop where
 len:W.length<=100000
 size:∀k,(wat W k).1.size<=1000000
section
variable {G:Glob}{W:List Wd}
end
end
section
def NX(c:Int):Int:=match La c with
 |true=>1
 |false=>match isD c with
  |true=>2
  |false=>match isSp c with
   |true=>3
   |false=>4
section
variable {G:Glob}{W:List Wd}
end
end
def NY(s:BA)(k:Int):Nat->Nat->Nat->Nat
 |0,_,n=>n
 |f+1,i,n=>match decide (k<3) with
  |false=>n
  |true=>match decide (((i+n:Nat):Int)<(s.size:Int)) with
   |false=>n
   |true=>match NX (byteAt s ((i+n:Nat):Int))==k with
    |true=>NY s k f i (n+1)
    |false=>n
def Yw(s:BA)(i:Nat):Bool:=decide (((i+1:Nat):Int)<(s.size:Int))&&(byteAt s ((i+1:Nat):Int)==61)
def Va(s:BA)(i:Nat):Bool:=Yw s i&&((((byteAt s i==60)||(byteAt s i==62))||(byteAt s i==61))||(byteAt s i==33))
def NZ(s:BA)(i:Nat):Nat:=match Va s i with
 |true=>2
 |false=>NY s (NX (byteAt s i)) s.size i 1
end Go.Abs
end
section
namespace Go.Abs
open Go Go.Proofs
def RG{s:BA}{α:Type}(r:R s α)(Q:α->PS s->Prop):Prop:=match r with
 |.ok a q=>Q a q
 |.bad _ _=>True
 |.out=>False
theorem RG.bind{s:BA}{α β:Type}{r:R s α}{f:α->PS s->R s β}{Q:α->PS s->Prop}{Q':β->PS s->Prop}(h:RG r Q)(k:∀a q,Q a q->RG (f a q) Q'):RG (r.bind f) Q':=by
 cases r with
 |ok a q=>exact k a q h
 |bad q c=>trivial
 |out=>exact h.elim
def allDg(l:List UInt8):Prop:=∀c,c∈l->48<=c.toNat/\c.toNat<=57
def Ch(s:BA):Nat->List Wd->Prop
 |_,[]=>False
 |i,x::r=>match r with
  |[]=>ej s (s.size - i) i=s.size/\x=(⟨#[]⟩,(s.size:Int))
  |_::_=>ej s (s.size - i) i<s.size/\x=(s.extract (ej s (s.size - i) i) (ej s (s.size - i) i+NZ s (ej s (s.size - i) i)),(ej s (s.size - i) i:Int))/\Ch s (ej s (s.size - i) i+NZ s (ej s (s.size - i) i)) r
structure At (s:BA) (W:List Wd) (k:Nat) (p:PS s):Prop where
 lt:k<W.length
 word:wat W k=(p.w,(p.i:Int))
 dg:isD (byteAt p.w 0)=true->allDg p.w.data.toList
 rest:(W.drop (k+1)=[]/\p.w=⟨#[]⟩/\p.i=s.size)\/Ch s (p.i+p.w.size) (W.drop (k+1))
end Go.Abs
end
section
namespace Go.Abs
open Go Go.Proofs
attribute [local irreducible] c8 dJ Sub Spec
section
def KP{α:Type}(W:List Wd)(o:Option (α×RSt)):Prop:=∀r,o=some r->r.2.k<W.length
theorem KP.bind{α β:Type}{W:List Wd}{o:Option (α×RSt)}{f:α×RSt->Option (β×RSt)}(h:KP W o)(k:∀r,r.2.k<W.length->KP W (f r)):KP W (o.bind f):=by
 cases o with
 |none=>intro r hr;cases hr
 |some x=>exact k x (h x rfl)
theorem KP.some{α:Type}{W:List Wd}{a:α}{Y:RSt}(h:Y.k<W.length):KP W (some (a,Y)):=by
 intro r hr;cases hr;exact h
section
variable {G:Glob}{W:List Wd}
end
end
end Go.Abs
end
section
namespace Go.Abs
open Go Go.Proofs
section
abbrev Yx(k:Nat):RSt:=⟨k,0,0⟩
def Sim{s:BA}{α:Type}(W:List Wd)(r:R s α)(o:Option (α×RSt)):Prop:=match r with
 |.ok a q=>∃k,At s W k q/\o=some (a,Yx k)
 |.bad q c=>∃a X,o=some (a,X)/\X.c=kc c+1/\X.a=q.i/\c<=3
 |.out=>True
section
variable {s:BA}{W:List Wd}
end
end
end Go.Abs
end
section
namespace Go.Abs
open Go Go.Proofs
attribute [local irreducible] c8 dJ Sub Spec
section
section
variable {G:Glob}{W:List Wd}
end
end
section
section
variable {G:Glob}{W:List Wd}
end
end
section
section
variable {G:Glob}{W:List Wd}
end
end
section
section
variable {G:Glob}{W:List Wd}
end
end
end Go.Abs
end
section
namespace Go.Abs
open Go Go.Proofs
section
section
variable {s:BA}{W:List Wd}
end
end
section
section
variable {s:BA}{W:List Wd}
end
end
section
section
variable {s:BA}{W:List Wd}
end
end
end Go.Abs
end
