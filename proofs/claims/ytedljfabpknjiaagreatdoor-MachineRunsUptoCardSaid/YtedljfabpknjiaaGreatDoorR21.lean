/- Texts of this proof, joined and shortened. -/
import Derived.Test.YtedljfabpknjiaaGreatDoorR20
set_option maxHeartbeats 1000000
section
namespace Go.Abs
open Go Go.Proofs
attribute [local irreducible] c8 dJ Sub Spec
section
def qj(e:Int):List Int->Int
 |[]=>e
 |x::r=>match e==0 with
  |true=>match fP x with
   |true=>qj 2 r
   |false=>qj e r
  |false=>e
def zp(c n F:Int):Int:=match c==0 with
 |true=>match (decide (n>40)||decide (F<0))||decide (F>20000) with
  |true=>2
  |false=>c
 |false=>c
theorem zq{e:Int}(h:(e==0)=false):∀l:List Int,qj e l=e
 |[]=>rfl
 |x::r=>by simp only [qj,h]
theorem B2:∀ {l:List Int},(∃n,n∈l/\fP n=true)->qj 0 l=2
 |[],⟨_,h,_⟩=>by cases h
 |x::r,⟨n,h,hf⟩=>by
  simp only [qj,show ((0:Int)==0)=true from rfl];cases q:fP x with
  |true=>exact zq (by decide) r
  |false=>
   rcases List.mem_cons.1 h with rfl|h
   ·rw [hf] at q;cases q
   exact B2 ⟨n,h,hf⟩
theorem FF:∀ {l:List Int},(∀n,n∈l->fP n=false)->qj 0 l=0
 |[],_=>rfl
 |x::r,h=>by
  simp only [qj,show ((0:Int)==0)=true from rfl,h x (List.mem_cons_self ..)];exact FF fun n hn=>h n (List.mem_cons_of_mem _ hn)
section
variable (G:Glob)
theorem so(az:List BA)(ah:List Ar)(procs:List Pc)(main:List Sm)(inp:List Int)(F:Int)(UB:inp.length<=1000)(c:Int)(xR:Spec Tryz.prog G 35 [.d (.agg (Pg.cs ⟨az,ah,procs,main⟩))] [] (.ret (.d (aD c))) []):Spec Tryz.prog G 41 [.d (.agg (Pg.cs ⟨az,ah,procs,main⟩)),.d (.sl 1 (numsD inp)),.d (aD F)] [] (.ret (.d (aD (qj (zp c inp.length F) inp)))) []:=by
 rw [show ((inp.length:Nat):Int)=(((numsD inp).length:Nat):Int) by rw [cX]];obtain ⟨e0,hE⟩:∃e0,zp c ((numsD inp).length:Nat) F=e0:=⟨_,rfl⟩;rw [hE];obtain ⟨R,hG⟩:∃R,qj e0 inp=R:=⟨_,rfl⟩;rw [hG];unfold zp at hE;refine sA (N:=42) Tryz.func41 ?_;refine rz [1,2,3] ?_;refine rS fun J O=>aS [] xR ?_;refine O _ (aM [1,2,7] ?_);clear O J;refine bQ (fun Z=>Z=⟨[(1,.d (.sl 1 (numsD inp))),(7,.d (aD e0))],[.box 37 [.d (.sl 1 (strs az)),.d (.sl 2 (ey ah)),.d (.sl 7 (c_ procs)),.d (.sl 7 (bF main))]]⟩) ?_ ?_
 ·refine rS fun J O=>?_
  refine ab (fun h1=>?_) (fun h1=>?_)
  ·refine ab (fun h2=>?_) (fun h2=>?_)
   ·refine O _ (aM [1,7,25] ?_);clear O J;refine aj rfl (rG fun J O=>O _ ?_);clear O J;try simp only [bn,h1,h2] at hE
    subst hE;exact ⟨_,ak (slots:=[1,7]) rfl rfl,rfl⟩
   refine ab (fun h3=>?_) (fun h3=>?_)
   ·refine O _ (aM [1,7,25] ?_);clear O J;refine aj rfl (rG fun J O=>O _ ?_);clear O J;try simp only [bn,h1,h2,h3] at hE
    subst hE;exact ⟨_,ak (slots:=[1,7]) rfl rfl,rfl⟩
   refine O _ (aM [1,7,25] ?_);clear O J;refine cQ rfl (fun h4=>?_) fun h4=>?_
   ·refine rG fun J O=>O _ ?_;clear O J
    try simp only [bn,h1,h2,h3,h4] at hE
    subst hE;exact ⟨_,ak (slots:=[1,7]) rfl rfl,rfl⟩
   refine ac ?_;try simp only [bn,h1,h2,h3,h4] at hE
   subst hE;exact ⟨_,ak (slots:=[1,7]) rfl rfl,rfl⟩
  refine O _ (aM [1,7,25] ?_);clear O J;refine aj rfl (ac ?_);try simp only [h1] at hE
  subst hE;exact ⟨_,ak (slots:=[1,7]) rfl rfl,rfl⟩
 rintro Z rfl;refine aa (rz [1,7,8] ?_);refine af (aB (fun k Y=>∃(d1 e1:List Int) (ev:Int),k=e1.length/\inp=d1++e1/\qj ev e1=R/\Y=⟨[(1,.d (.sl 1 (numsD inp))),(7,.d (aD ev)),(8,.d (aD d1.length))],[.box 37 [.d (.sl 1 (strs az)),.d (.sl 2 (ey ah)),.d (.sl 7 (c_ procs)),.d (.sl 7 (bF main))]]⟩) (inp.length) (⟨[],inp,e0,rfl,rfl,hG,rfl⟩) ?_);clear hG;rintro k Y ⟨d1,e1,ev,rfl,bV,hG,rfl⟩;have bu:(numsD inp).length=d1.length+e1.length:=by rw [cX,bV,lA]
 have cn:d1.length+e1.length<=1073741824:=by rw [bV,lA] at UB;omega
 refine aa (rS fun J O=>?_);refine ab (fun h1=>?_) (fun h1=>?_)
 ·have bO:=oT h1;rw [bu] at bO;refine O _ (aM [1,7,8,33] ?_);clear O J;refine cQ rfl (fun h2=>?_) fun h2=>?_
  ·cases e1 with
   |nil=>simp only [lN] at bO;omega
   |cons x cw=>
   simp only [lC] at cn;simp only [qj,h2] at hG;refine ac (aa ?_);refine af (rS fun J O=>oN (eI _ (aI (ints_at bV) ?_)));refine sH ?_;have sf:=Ol G x;cases hf:fP x with
   |true=>
    rw [hf] at sf hG;refine aS [] sf ?_;refine O _ (aM [1,7,8,40] ?_);clear O J;refine aj rfl (rG fun J O=>O _ (aM [1,7,8] ?_));clear O J;refine rG fun J O=>O _ ?_;clear O J;exact ⟨_,nS _,_,aG (L:=[0]) (slots:=[1,7,8]) rfl rfl rfl rfl rfl,d1++[x],cw,2,rfl,by rw [bV];simp,hG,by rw [lA,aH (by omega) (by omega)];rfl⟩
   |false=>
    rw [hf] at sf hG;refine aS [] sf ?_;refine O _ (aM [1,7,8,40] ?_);clear O J;refine aj rfl (ac ?_);refine rG fun J O=>O _ ?_;clear O J;exact ⟨_,nS _,_,aG (L:=[0]) (slots:=[1,7,8]) rfl rfl rfl rfl rfl,d1++[x],cw,ev,rfl,by rw [bV];simp,hG,by rw [lA,aH (by omega) (by omega)];rfl⟩
  cases e1 with
  |nil=>simp only [lN] at bO;omega
  |cons x cw=>
  simp only [lC] at cn;simp only [qj,h2] at hG;refine aA ?_;refine aq [7] rfl rfl ?_;refine rz [6] ?_;refine ae ?_;subst hG;exact lF [] [.d (aD _)]
 have bO:=oF h1;rw [bu] at bO;obtain rfl:e1=[]:=lE (by omega);simp only [qj] at hG;refine O _ (aM [1,7,8,33] ?_);clear O J;refine aj rfl (aA ?_);refine aq [7] rfl rfl ?_;refine rz [6] ?_;refine ae ?_;subst hG;exact lF [] [.d (aD _)]
end
section
variable {t:Nat->TypeId}{u:Nat->Value}
def J1:Plan:=(.load 1 (.one 0 (.one 2 (.take 3 .done))))
theorem M6(az:List BA)(ah:List Ar)(procs:List Pc)(main:List Sm)(inp:List Int)(F:Int)(xR:Spec Tryz.prog (GV t u) 34 [.d (.agg (Pg.cs ⟨az,ah,procs,main⟩))] [] (.ret (.d (.s .nilIface))) [])(VW:¬(inp.length<=40/\0<=F/\F<=20000)):Spec Tryz.prog (GV t u) 30 [.d (.agg (Pg.cs ⟨az,ah,procs,main⟩)),.d (.sl 1 (numsD inp)),.d (aD F)] [] (.ret (.tup [.d (.agg Jq),.d (.s (.iface (t 0) (u 0)))])) []:=by
 refine sA (N:=145) Tryz.func30 ?_;refine rz [1,2,3,6] ?_;refine aa (rS fun J O=>aS [] xR ?_);refine O _ (aM [1,2,3,6,8] ?_);clear O J;refine rz [1,2,3,6,8,25] ?_;refine aj rfl (ac ?_);refine aa (rS fun J O=>?_);refine ab (fun h1=>?_) (fun h1=>?_)
 ·refine O _ (aM [1,2,3,6,38] ?_);clear O J;refine aj rfl (aa ?_);refine (dW J1 [] (fun _=>false) (by kernel_rfl) fun J O=>O _ (aM [6,7] ?_));clear O J;refine ae ?_;exact lF [] [.d (.agg _),.d (.s _)]
 have g1:=oF h1;rw [cX] at g1;refine ab (fun h2=>?_) (fun h2=>?_)
 ·refine O _ (aM [1,2,3,6,38] ?_);clear O J;refine aj rfl (aa ?_);refine (dW J1 [] (fun _=>false) (by kernel_rfl) fun J O=>O _ (aM [6,7] ?_));clear O J;refine ae ?_;exact lF [] [.d (.agg _),.d (.s _)]
 have g2:=oF h2;refine O _ (aM [1,2,3,6,38] ?_);clear O J;refine cQ rfl (fun h3=>?_) fun h3=>?_
 ·refine aa ?_;refine (dW J1 [] (fun _=>false) (by kernel_rfl) fun J O=>O _ (aM [6,7] ?_));clear O J;refine ae ?_;exact lF [] [.d (.agg _),.d (.s _)]
 have g3:=oF h3;exact absurd ⟨by omega,by omega,by omega⟩ VW
theorem J2(p:Pg)(inp:List Int)(F:Int)(bZ:200<inp.length):Spec Tryz.prog (GV t u) 10 [.d (.agg p.cs),.d (.sl 1 (numsD inp)),.d (aD F)] [] (.ret (.d (.s (.bool true)))) []:=by
 refine sA (N:=63) Tryz.func10 ?_;refine rz [1,2,3] ?_;refine rS fun J O=>aS [] (qk t u) ?_;refine O _ (aM [1,2,3,7] ?_);clear O J;refine aa (rz [1,2,3,7,18] ?_);refine cQ rfl (fun h1=>?_) fun h1=>?_
 ·refine rz [6] ?_;refine ae ?_;exact lF [] [.d (.s (.bool true))]
 exact absurd (oF h1) (by rw [cX];omega)
theorem uR(p:Pg)(hw:wtPg p<=1000000000)(inp:List Int)(F:Int)(bZ:inp.length<=200)(e:Int)(he:0<e)(w9:Spec Tryz.prog (GV t u) 41 [.d (.agg p.cs),.d (.sl 1 (numsD inp)),.d (aD F)] [] (.ret (.d (aD e))) [])(j:Nat)(hr:Spec Tryz.prog (GV t u) 30 [.d (.agg p.cs),.d (.sl 1 (numsD inp)),.d (aD F)] [] (.ret (.tup [.d (.agg Jq),.d (.s (.iface (t j) (u j)))])) [])(Y3:Spec Tryz.prog (GV t u) 25 [.d (.s (.iface (t j) (u j))),.d (aD e)] [] (.ret (.d (.s (.bool true)))) []):Spec Tryz.prog (GV t u) 10 [.d (.agg p.cs),.d (.sl 1 (numsD inp)),.d (aD F)] [] (.ret (.d (.s (.bool true)))) []:=by
 refine sA (N:=63) Tryz.func10 ?_;refine rz [1,2,3] ?_;refine rS fun J O=>aS [] (qk t u) ?_;refine O _ (aM [1,2,3,7] ?_);clear O J;refine aa (rz [1,2,3,7,18] ?_);refine cQ rfl (fun h1=>?_) fun h1=>?_
 ·exact absurd (oT h1) (by rw [cX];omega)
 refine ac (rS fun J O=>aS [] w9 ?_);refine O _ (aM [1,2,3,8] ?_);clear O J;refine rS fun J O=>aS [] (gr _ p hw) ?_
 refine aR [] rfl rfl rfl (FE _ inp (by omega)) rfl rfl rfl rfl ?_;refine aS [] hr ?_;refine O _ (aM [1,2,3,8,9,10] ?_);clear O J;refine aa (rz [1,2,3,8,9,10,34] ?_);refine cQ rfl (fun h2=>?_) fun h2=>?_
 ·refine rS fun J O=>?_
  refine aS [] Y3 ?_;refine aS [] (M3 _) ?_;refine O _ (aM [6] ?_);clear O J;refine ae ?_;exact lF [] [.d (.s (.bool true))]
 exact absurd (oF h2) (by omega)
def J3:Plan:=(.take 0 (.take 1 (.take 2 (.load 3 (.load 4 (.take 5 (.take 6 (.one 7 (.one 8 (.take 9 (.take 10 .done)))))))))))
theorem DV(p:Pg)(hw:wtPg p<=1000000000)(inp:List Int)(F:Int)(bZ:inp.length<=200)(hF:F<=2000)(w9:Spec Tryz.prog (GV t u) 41 [.d (.agg p.cs),.d (.sl 1 (numsD inp)),.d (aD F)] [] (.ret (.d (aD 0))) [])(k2:BA)(Jc:Int)(Q4:List Int)(M7:List (List Int))(aF:Spec Tryz.prog (GV t u) 30 [.d (.agg p.cs),.d (.sl 1 (numsD inp)),.d (aD F)] [] (.ret (.tup [.d (.agg [aW k2,aD Jc,.sl 1 (numsD Q4),.sl 1 (zX M7)]),.d (.s .nilIface)])) [])(Tr:Spec Tryz.prog (GV t u) 42 [.d (.agg p.cs),.d (.sl 1 (numsD inp)),.d (aD F)] [] (.ret (.d (.agg [aW k2,aD Jc,.sl 1 (numsD Q4),.sl 1 (zX M7)]))) [])(s8:Q4.length<=1073741824)(Tm:M7.length<=1073741824)(DT:∀x,x∈M7->x.length<=16):Spec Tryz.prog (GV t u) 10 [.d (.agg p.cs),.d (.sl 1 (numsD inp)),.d (aD F)] [] (.ret (.d (.s (.bool true)))) []:=by
 refine sA (N:=63) Tryz.func10 ?_;refine rz [1,2,3] ?_;refine rS fun J O=>aS [] (qk t u) ?_;refine O _ (aM [1,2,3,7] ?_);clear O J;refine aa (rz [1,2,3,7,18] ?_);refine cQ rfl (fun h1=>?_) fun h1=>?_
 ·exact absurd (oT h1) (by rw [cX];omega)
 refine ac (rS fun J O=>aS [] w9 ?_);refine O _ (aM [1,2,3,8] ?_);clear O J;refine rS fun J O=>aS [] (gr _ p hw) ?_
 refine aR [] rfl rfl rfl (FE _ inp (by omega)) rfl rfl rfl rfl ?_;refine aS [] aF ?_;refine O _ (aM [1,2,3,8,9,10] ?_);clear O J;refine aa (rz [1,2,3,8,9,10,34] ?_);refine cQ rfl (fun h2=>?_) fun h2=>?_
 ·exact absurd (oT h2) (by decide)
 refine ac (aa ?_);refine rz [1,2,3,9,10,43] ?_;refine cQ rfl (fun h3=>?_) fun h3=>?_
 ·exact absurd (oT h3) (by omega)
 refine ac (aa ?_);refine (dW J3 [8] (fun i=>Nat.beq i 0||Nat.beq i 1) (by kernel_rfl) fun J O=>aS [] Tr ?_);refine aS [] (uQ _ _ _ _ _ s8 Tm DT) ?_;refine O _ (aM [6] ?_);clear O J;refine ae ?_;exact lF [] [.d (.s (.bool true))]
theorem J4(p:Pg)(hw:wtPg p<=1000000000)(inp:List Int)(F:Int)(bZ:inp.length<=200)(hF:2000<F)(w9:Spec Tryz.prog (GV t u) 41 [.d (.agg p.cs),.d (.sl 1 (numsD inp)),.d (aD F)] [] (.ret (.d (aD 0))) [])(k1 k2:BA)(qF Jc:Int)(Y4 Q4:List Int)(Y5 M7:List (List Int))(aF:Spec Tryz.prog (GV t u) 30 [.d (.agg p.cs),.d (.sl 1 (numsD inp)),.d (aD F)] [] (.ret (.tup [.d (.agg [aW k1,aD qF,.sl 1 (numsD Y4),.sl 1 (zX Y5)]),.d (.s .nilIface)])) [])(aJ:Spec Tryz.prog (GV t u) 30 [.d (.agg p.cs),.d (.sl 1 (numsD inp)),.d (aD 2000)] [] (.ret (.tup [.d (.agg [aW k2,aD Jc,.sl 1 (numsD Q4),.sl 1 (zX M7)]),.d (.s .nilIface)])) [])(Tr:Spec Tryz.prog (GV t u) 42 [.d (.agg p.cs),.d (.sl 1 (numsD inp)),.d (aD 2000)] [] (.ret (.d (.agg [aW k2,aD Jc,.sl 1 (numsD Q4),.sl 1 (zX M7)]))) [])(s8:Q4.length<=1073741824)(Tm:M7.length<=1073741824)(DT:∀x,x∈M7->x.length<=16):Spec Tryz.prog (GV t u) 10 [.d (.agg p.cs),.d (.sl 1 (numsD inp)),.d (aD F)] [] (.ret (.d (.s (.bool true)))) []:=by
 refine sA (N:=63) Tryz.func10 ?_;refine rz [1,2,3] ?_;refine rS fun J O=>aS [] (qk t u) ?_;refine O _ (aM [1,2,3,7] ?_);clear O J;refine aa (rz [1,2,3,7,18] ?_);refine cQ rfl (fun h1=>?_) fun h1=>?_
 ·exact absurd (oT h1) (by rw [cX];omega)
 refine ac (rS fun J O=>aS [] w9 ?_);refine O _ (aM [1,2,3,8] ?_);clear O J;refine rS fun J O=>aS [] (gr _ p hw) ?_
 refine aR [] rfl rfl rfl (FE _ inp (by omega)) rfl rfl rfl rfl ?_;refine aS [] aF ?_;refine O _ (aM [1,2,3,8,9,10] ?_);clear O J;refine aa (rz [1,2,3,8,9,10,34] ?_);refine cQ rfl (fun h2=>?_) fun h2=>?_
 ·exact absurd (oT h2) (by decide)
 refine ac (aa ?_);refine rz [1,2,3,9,10,43] ?_;refine cQ rfl (fun h3=>?_) fun h3=>?_
 ·refine rz [1,2,3,9] ?_;refine rG fun J O=>?_
  refine aS [] (gr _ p hw) ?_;refine aR [] rfl rfl rfl (FE _ inp (by omega)) rfl rfl rfl rfl ?_;refine aS [] aJ ?_;refine O _ (aM [1,2,3,9,10] ?_);clear O J;refine aa ((dW J3 [8] (fun i=>Nat.beq i 0||Nat.beq i 1) (by kernel_rfl) fun J O=>aS [] Tr ?_));refine aS [] (uQ _ _ _ _ _ s8 Tm DT) ?_;refine O _ (aM [6] ?_);clear O J;refine ae ?_;exact lF [] [.d (.s (.bool true))]
 exact absurd (oF h3) (by omega)
theorem M8{n f:Nat}{p:Pg}{s:BA}(cd:okPg n f p=true)(hw:wtPg p<=500000000)(h:j9 n f p=.ok s):∃k,jq p=some (s,k)/\s.size<=4000:=by
 rw [oy n f p cd hw] at h;cases hp:jq p with
 |none=>rw [hp] at h;cases h
 |some y=>
  obtain ⟨s',k⟩:=y;rw [hp] at h;cases hz:decide (s'.size<=4000) with
  |false=>simp only [hz] at h;cases h
  |true=>
   simp only [hz,TR.ok.injEq] at h;subst h;exact ⟨k,rfl,oT hz⟩
theorem G6{ah:List Ar}{inp:List Int}{F:Int}(jz:∀n,n∈inp->fP n=false)(HD:0<=F):SOk F ⟨[],vF ah,inp,0⟩:=by
 refine ⟨fun q hq=>(List.not_mem_nil hq).elim,Jl ah,fun n hn=>?_,Int.le_refl _,HD⟩;have h:=jz n hn;simp only [fP,Bool.or_eq_false_iff,decide_eq_false_iff_not] at h;exact ⟨by omega,by omega⟩
theorem ry(hE:ErrsOk t u)(n f:Nat)(p:Pg)(cd:okPg n f p=true)(hw:wtPg p<=400000000)(inp:List Int)(F:Int):Spec Tryz.prog (GV t u) 10 [.d (.agg p.cs),.d (.sl 1 (numsD inp)),.d (aD F)] [] (.ret (.d (.s (.bool true)))) []:=by
 by_cases VX:200<inp.length
 ·exact J2 p inp F VX
 have bZ:inp.length<=200:=by omega
 obtain ⟨s,b,e,h1,h2⟩:=IK n f p cd hw;have sw:j9 n f p≠.out->Spec Tryz.prog (GV t u) 22 [.d (.agg p.cs)] [] (.ret (Tt t u (j9 n f p))) []:=xi t u (FG t u) n f p;have sg:=CZ (GV t u) n f p s _ e;have RO:wtPg p<=1000000000:=by omega
 have VY:=fun h=>M8 (s:=s) cd (by omega) (h1 h);obtain ⟨az,ah,procs,main⟩:=p
 have bad:∀(j:Nat) (c:Int),0<c->Spec Tryz.prog (GV t u) 34 [.d (.agg (Pg.cs ⟨az,ah,procs,main⟩))] [] (.ret (.d (.s (.iface (t j) (u j))))) []->Spec Tryz.prog (GV t u) 35 [.d (.agg (Pg.cs ⟨az,ah,procs,main⟩))] [] (.ret (.d (aD c))) []->Spec Tryz.prog (GV t u) 25 [.d (.s (.iface (t j) (u j))),.d (aD c)] [] (.ret (.d (.s (.bool true)))) []->
   Spec Tryz.prog (GV t u) 10 [.d (.agg (Pg.cs ⟨az,ah,procs,main⟩)),.d (.sl 1 (numsD inp)),.d (aD F)] [] (.ret (.d (.s (.bool true)))) []:=by
  intro j c hc a b sc;have XA:(c==0)=false:=beq_eq_false_iff_ne.2 (by omega);have w9:=so (GV t u) az ah procs main inp F (by omega) c b;rw [show zp c inp.length F=c by simp only [zp,XA],zq XA] at w9;exact uR _ RO inp F bZ c hc w9 j (Qf az ah procs main inp F j a) sc
 have VZ:Spec Tryz.prog (GV t u) 25 [.d (.s (.iface (t 0) (u 0))),.d (aD 2)] [] (.ret (.d (.s (.bool true)))) []:=rf hE 0 (by decide) 2;have XB:Spec Tryz.prog (GV t u) 25 [.d (.s (.iface (t 1) (u 1))),.d (aD 3)] [] (.ret (.d (.s (.bool true)))) []:=rf hE 1 (by decide) 3;cases b with
 |false=>
  rw [h2 rfl] at sw;exact bad 1 3 (by decide) (I0 az ah procs main (sw nofun)) (DU (GV t u) az ah procs main s sg) XB
 |true=>
  rw [h1 rfl] at sw;have a:=GE (t:=t) (u:=u) az ah procs main hw s (sw nofun);have b:=B0 (GV t u) az ah procs main hw s sg;rcases G5 (kl ah) (uh az ah procs) (ug (fq az ah procs++pcN procs)) (Dg az (arN ah) procs procs 0) ((flatB main).all (gu az (arN ah) procs)) (HF procs procs 0) ((flatB main).all (gv procs)) with q|q|q|q
  ·have q:gw az ah procs main=none:=q;rw [q] at a b;have b:Spec Tryz.prog (GV t u) 35 [.d (.agg (Pg.cs ⟨az,ah,procs,main⟩))] [] (.ret (.d (aD 0))) []:=b;have w9:=so (GV t u) az ah procs main inp F (by omega) 0 b;by_cases XC:inp.length<=40/\0<=F/\F<=20000
   ·obtain ⟨Tu,HD,S5⟩:=XC;have e0:zp 0 inp.length F=0:=by
     have d1:decide (((inp.length:Nat):Int)>40)=false:=decide_eq_false (by omega);have d2:decide (F<0)=false:=decide_eq_false (by omega);have d3:decide (F>20000)=false:=decide_eq_false (by omega);simp only [zp,d1,d2,d3];rfl
    rw [e0] at w9;by_cases Q5:∃n,n∈inp/\fP n=true
    ·rw [B2 Q5] at w9;exact uR _ RO inp F bZ 2 (by decide) w9 0 (Mu az ah procs main inp F a Tu HD S5 Q5) VZ
    have jz:∀n,n∈inp->fP n=false:=fun n hn=>by
     cases q:fP n with
     |false=>rfl
     |true=>exact absurd ⟨n,hn,q⟩ Q5
    rw [FF jz] at w9;obtain ⟨k,hp,_⟩:=VY rfl;have vD:=SU hp q;have Y6:=hw;simp only [wtPg] at Y6;have rZ:=kA procs;have s8:=ew az;obtain ⟨r1,r2,r3,r4,r5,r6⟩:=MD hp q (by omega);have go:∀F':Int,0<=F'->F'<=20000->∃kd S1,Spec Tryz.prog (GV t u) 30 [.d (.agg (Pg.cs ⟨az,ah,procs,main⟩)),.d (.sl 1 (numsD inp)),.d (aD F')] [] (.ret (.tup [.d (.agg (yO kd S1 az ah)),.d (.s .nilIface)])) []/\
      Spec Tryz.prog (GV t u) 42 [.d (.agg (Pg.cs ⟨az,ah,procs,main⟩)),.d (.sl 1 (numsD inp)),.d (aD F')] [] (.ret (.d (.agg (yO kd S1 az ah)))) []/\Fg S1.ar:=by
     intro F' h0 h1;obtain ⟨kd,S1,m1⟩:=Iu procs F' 60010 main ⟨[],vF ah,inp,0⟩ h0 (by show 3 * (F' - 0)+1<=_;omega);refine ⟨kd,S1,Ql az ah procs main inp F' a vD hw Tu h0 h1 jz 60010 kd S1 m1,DS (GV t u) az ah procs main inp F' r5 (by omega) r6 (by omega) r4 r3 vD.size (by omega) r1 r2 (by omega) (G6 jz h0) 60010 kd S1 m1,Jo Bu m1 fun q hq=>?_⟩;obtain ⟨a,ha,rfl⟩:=List.mem_map.1 hq;have:=vD.size a ha;show (List.replicate a.size.toNat (0:Int)).length<=16
     rw [List.length_replicate];omega
    by_cases i6:2000<F
    ·obtain ⟨k1,S1,g1,_,_⟩:=go F HD S5;obtain ⟨k2,S2,g2,g3,g4⟩:=go 2000 (by decide) (by decide);simp only [yO,JZ] at g1 g2 g3;exact J4 _ RO inp F bZ i6 w9 k1 k2 S1.steps S2.steps _ _ _ _ g1 g2 g3 (by rw [lM];omega) (by rw [lM];omega) fun x hx=>by
      obtain ⟨a,_,rfl⟩:=List.mem_map.1 hx;exact uy g4
    obtain ⟨k2,S2,g2,g3,g4⟩:=go F HD S5;simp only [yO,JZ] at g2 g3;exact DV _ RO inp F bZ (by omega) w9 k2 S2.steps _ _ g2 g3 (by rw [lM];omega) (by rw [lM];omega) fun x hx=>by
     obtain ⟨a,_,rfl⟩:=List.mem_map.1 hx;exact uy g4
   have e0:zp 0 inp.length F=2:=by
    have d:((decide (((inp.length:Nat):Int)>40)||decide (F<0))||decide (F>20000))=true:=by
     simp only [Bool.or_eq_true,dE];omega
    simp only [zp,d];rfl
   rw [e0,zq (by decide)] at w9;exact uR _ RO inp F bZ 2 (by decide) w9 0 (M6 az ah procs main inp F a XC) VZ
  ·have q:gw az ah procs main=some 0:=q;rw [q] at a b;exact bad 0 2 (by decide) a b VZ
  ·have q:gw az ah procs main=some 1:=q;rw [q] at a b;exact bad 1 3 (by decide) a b XB
  have q:gw az ah procs main=some 2:=q;rw [q] at a b;exact bad 2 5 (by decide) a b (rf hE 2 (by decide) 5)
end
end
end Go.Abs
end
