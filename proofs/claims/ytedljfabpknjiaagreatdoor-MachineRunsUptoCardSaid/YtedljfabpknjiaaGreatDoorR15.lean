/- Texts of this proof, joined and shortened. -/
import Derived.Test.YtedljfabpknjiaaGreatDoorR14
set_option maxHeartbeats 1000000
section
namespace Go.Abs
open Go Go.Proofs
theorem AV(n:Nat):decide ((n:Int)>0)=!((n:Int)==0):=by
 by_cases h:n=0
 ·subst h;rfl
 rw [dT (by omega)];have:((n:Int)==0)=false:=by rw [beq_eq_false_iff_ne];omega
 rw [this];rfl
theorem Pw(name proc:BA)(args:List Ex)(cond:List (List Ts))(ao aK:List Sm):(bJ true false true false false false (.mk (⟨#[115,101,116]⟩:BA) name proc args cond ao aK)&&aC name)=!((cO (⟨#[115,101,116]⟩:BA) name proc||bad2S (⟨#[115,101,116]⟩:BA) cond ao aK)||bad3S (⟨#[115,101,116]⟩:BA) args):=by
 have e1:ei (⟨#[115,101,116]⟩:BA)=true:=by kernel_rfl
 have e2:dw (⟨#[115,101,116]⟩:BA)=false:=by kernel_rfl
 have e3:cG (⟨#[115,101,116]⟩:BA)=false:=by kernel_rfl
 have e4:((⟨#[115,101,116]⟩:BA).toList==(⟨#[99,97,108,108]⟩:BA).toList)=false:=by kernel_rfl
 have e5:((⟨#[115,101,116]⟩:BA).toList==(⟨#[105,102]⟩:BA).toList)=false:=by kernel_rfl
 have e6:((⟨#[115,101,116]⟩:BA).toList==(⟨#[114,101,97,100]⟩:BA).toList)=false:=by kernel_rfl
 unfold cO bad2S bad3S bJ;simp only [e1,e2,e3,e4,e5,e6,eB,AV];have n1:=@nameG_emp name;have n2:=@nameG_emp proc;cases h1:aC name <;> cases h2:aC proc <;> cases h3:(name.toList==(⟨#[]⟩:BA).toList) <;> cases h4:(proc.toList==(⟨#[]⟩:BA).toList) <;> cases (((bR args).length:Int)==0) <;> cases (((eG cond).length:Int)==0) <;> cases (((bF ao).length:Int)==0) <;> cases (((bF aK).length:Int)==0) <;> first|rfl|(rw [h1,h3] at n1;exact absurd (n1 rfl) (by decide))|(rw [h2,h4] at n2;exact absurd (n2 rfl) (by decide))
theorem Px(name proc:BA)(args:List Ex)(cond:List (List Ts))(ao aK:List Sm):(bJ true false true false false false (.mk (⟨#[112,117,116]⟩:BA) name proc args cond ao aK)&&aC name)=!((cO (⟨#[112,117,116]⟩:BA) name proc||bad2S (⟨#[112,117,116]⟩:BA) cond ao aK)||bad3S (⟨#[112,117,116]⟩:BA) args):=by
 have e1:ei (⟨#[112,117,116]⟩:BA)=true:=by kernel_rfl
 have e2:dw (⟨#[112,117,116]⟩:BA)=false:=by kernel_rfl
 have e3:cG (⟨#[112,117,116]⟩:BA)=false:=by kernel_rfl
 have e4:((⟨#[112,117,116]⟩:BA).toList==(⟨#[99,97,108,108]⟩:BA).toList)=false:=by kernel_rfl
 have e5:((⟨#[112,117,116]⟩:BA).toList==(⟨#[105,102]⟩:BA).toList)=false:=by kernel_rfl
 have e6:((⟨#[112,117,116]⟩:BA).toList==(⟨#[114,101,97,100]⟩:BA).toList)=false:=by kernel_rfl
 unfold cO bad2S bad3S bJ;simp only [e1,e2,e3,e4,e5,e6,eB,AV];have n1:=@nameG_emp name;have n2:=@nameG_emp proc;cases h1:aC name <;> cases h2:aC proc <;> cases h3:(name.toList==(⟨#[]⟩:BA).toList) <;> cases h4:(proc.toList==(⟨#[]⟩:BA).toList) <;> cases (((bR args).length:Int)==0) <;> cases (((eG cond).length:Int)==0) <;> cases (((bF ao).length:Int)==0) <;> cases (((bF aK).length:Int)==0) <;> first|rfl|(rw [h1,h3] at n1;exact absurd (n1 rfl) (by decide))|(rw [h2,h4] at n2;exact absurd (n2 rfl) (by decide))
theorem L3(name proc:BA)(args:List Ex)(cond:List (List Ts))(ao aK:List Sm):((bJ true true true false false false (.mk (⟨#[99,97,108,108]⟩:BA) name proc args cond ao aK)&&aC name)&&aC proc)=!((cO (⟨#[99,97,108,108]⟩:BA) name proc||bad2S (⟨#[99,97,108,108]⟩:BA) cond ao aK)||bad3S (⟨#[99,97,108,108]⟩:BA) args):=by
 have e1:ei (⟨#[99,97,108,108]⟩:BA)=true:=by kernel_rfl
 have e2:dw (⟨#[99,97,108,108]⟩:BA)=false:=by kernel_rfl
 have e3:cG (⟨#[99,97,108,108]⟩:BA)=false:=by kernel_rfl
 have e4:((⟨#[99,97,108,108]⟩:BA).toList==(⟨#[99,97,108,108]⟩:BA).toList)=true:=by kernel_rfl
 have e5:((⟨#[99,97,108,108]⟩:BA).toList==(⟨#[105,102]⟩:BA).toList)=false:=by kernel_rfl
 have e6:((⟨#[99,97,108,108]⟩:BA).toList==(⟨#[114,101,97,100]⟩:BA).toList)=false:=by kernel_rfl
 unfold cO bad2S bad3S bJ;simp only [e1,e2,e3,e4,e5,e6,eB,AV];have n1:=@nameG_emp name;have n2:=@nameG_emp proc;cases h1:aC name <;> cases h2:aC proc <;> cases h3:(name.toList==(⟨#[]⟩:BA).toList) <;> cases h4:(proc.toList==(⟨#[]⟩:BA).toList) <;> cases (((bR args).length:Int)==0) <;> cases (((eG cond).length:Int)==0) <;> cases (((bF ao).length:Int)==0) <;> cases (((bF aK).length:Int)==0) <;> first|rfl|(rw [h1,h3] at n1;exact absurd (n1 rfl) (by decide))|(rw [h2,h4] at n2;exact absurd (n2 rfl) (by decide))
theorem SB(name proc:BA)(args:List Ex)(cond:List (List Ts))(ao aK:List Sm):bJ false false false true true true (.mk (⟨#[105,102]⟩:BA) name proc args cond ao aK)=!((cO (⟨#[105,102]⟩:BA) name proc||bad2S (⟨#[105,102]⟩:BA) cond ao aK)||bad3S (⟨#[105,102]⟩:BA) args):=by
 have e1:ei (⟨#[105,102]⟩:BA)=false:=by kernel_rfl
 have e2:dw (⟨#[105,102]⟩:BA)=true:=by kernel_rfl
 have e3:cG (⟨#[105,102]⟩:BA)=true:=by kernel_rfl
 have e4:((⟨#[105,102]⟩:BA).toList==(⟨#[99,97,108,108]⟩:BA).toList)=false:=by kernel_rfl
 have e5:((⟨#[105,102]⟩:BA).toList==(⟨#[105,102]⟩:BA).toList)=true:=by kernel_rfl
 have e6:((⟨#[105,102]⟩:BA).toList==(⟨#[114,101,97,100]⟩:BA).toList)=false:=by kernel_rfl
 unfold cO bad2S bad3S bJ;simp only [e1,e2,e3,e4,e5,e6,eB,AV];have n1:=@nameG_emp name;have n2:=@nameG_emp proc;cases h1:aC name <;> cases h2:aC proc <;> cases h3:(name.toList==(⟨#[]⟩:BA).toList) <;> cases h4:(proc.toList==(⟨#[]⟩:BA).toList) <;> cases (((bR args).length:Int)==0) <;> cases (((eG cond).length:Int)==0) <;> cases (((bF ao).length:Int)==0) <;> cases (((bF aK).length:Int)==0) <;> first|rfl|(rw [h1,h3] at n1;exact absurd (n1 rfl) (by decide))|(rw [h2,h4] at n2;exact absurd (n2 rfl) (by decide))
theorem ID(name proc:BA)(args:List Ex)(cond:List (List Ts))(ao aK:List Sm):bJ false false false true true false (.mk (⟨#[119,104,105,108,101]⟩:BA) name proc args cond ao aK)=!((cO (⟨#[119,104,105,108,101]⟩:BA) name proc||bad2S (⟨#[119,104,105,108,101]⟩:BA) cond ao aK)||bad3S (⟨#[119,104,105,108,101]⟩:BA) args):=by
 have e1:ei (⟨#[119,104,105,108,101]⟩:BA)=false:=by kernel_rfl
 have e2:dw (⟨#[119,104,105,108,101]⟩:BA)=true:=by kernel_rfl
 have e3:cG (⟨#[119,104,105,108,101]⟩:BA)=true:=by kernel_rfl
 have e4:((⟨#[119,104,105,108,101]⟩:BA).toList==(⟨#[99,97,108,108]⟩:BA).toList)=false:=by kernel_rfl
 have e5:((⟨#[119,104,105,108,101]⟩:BA).toList==(⟨#[105,102]⟩:BA).toList)=false:=by kernel_rfl
 have e6:((⟨#[119,104,105,108,101]⟩:BA).toList==(⟨#[114,101,97,100]⟩:BA).toList)=false:=by kernel_rfl
 unfold cO bad2S bad3S bJ;simp only [e1,e2,e3,e4,e5,e6,eB,AV];have n1:=@nameG_emp name;have n2:=@nameG_emp proc;cases h1:aC name <;> cases h2:aC proc <;> cases h3:(name.toList==(⟨#[]⟩:BA).toList) <;> cases h4:(proc.toList==(⟨#[]⟩:BA).toList) <;> cases (((bR args).length:Int)==0) <;> cases (((eG cond).length:Int)==0) <;> cases (((bF ao).length:Int)==0) <;> cases (((bF aK).length:Int)==0) <;> first|rfl|(rw [h1,h3] at n1;exact absurd (n1 rfl) (by decide))|(rw [h2,h4] at n2;exact absurd (n2 rfl) (by decide))
theorem Gp(name proc:BA)(args:List Ex)(cond:List (List Ts))(ao aK:List Sm):bJ false false false true false false (.mk (⟨#[97,115,115,101,114,116]⟩:BA) name proc args cond ao aK)=!((cO (⟨#[97,115,115,101,114,116]⟩:BA) name proc||bad2S (⟨#[97,115,115,101,114,116]⟩:BA) cond ao aK)||bad3S (⟨#[97,115,115,101,114,116]⟩:BA) args):=by
 have e1:ei (⟨#[97,115,115,101,114,116]⟩:BA)=false:=by kernel_rfl
 have e2:dw (⟨#[97,115,115,101,114,116]⟩:BA)=true:=by kernel_rfl
 have e3:cG (⟨#[97,115,115,101,114,116]⟩:BA)=false:=by kernel_rfl
 have e4:((⟨#[97,115,115,101,114,116]⟩:BA).toList==(⟨#[99,97,108,108]⟩:BA).toList)=false:=by kernel_rfl
 have e5:((⟨#[97,115,115,101,114,116]⟩:BA).toList==(⟨#[105,102]⟩:BA).toList)=false:=by kernel_rfl
 have e6:((⟨#[97,115,115,101,114,116]⟩:BA).toList==(⟨#[114,101,97,100]⟩:BA).toList)=false:=by kernel_rfl
 unfold cO bad2S bad3S bJ;simp only [e1,e2,e3,e4,e5,e6,eB,AV];have n1:=@nameG_emp name;have n2:=@nameG_emp proc;cases h1:aC name <;> cases h2:aC proc <;> cases h3:(name.toList==(⟨#[]⟩:BA).toList) <;> cases h4:(proc.toList==(⟨#[]⟩:BA).toList) <;> cases (((bR args).length:Int)==0) <;> cases (((eG cond).length:Int)==0) <;> cases (((bF ao).length:Int)==0) <;> cases (((bF aK).length:Int)==0) <;> first|rfl|(rw [h1,h3] at n1;exact absurd (n1 rfl) (by decide))|(rw [h2,h4] at n2;exact absurd (n2 rfl) (by decide))
theorem Gq(name proc:BA)(args:List Ex)(cond:List (List Ts))(ao aK:List Sm):bJ false false false true false false (.mk (⟨#[97,115,115,117,109,101]⟩:BA) name proc args cond ao aK)=!((cO (⟨#[97,115,115,117,109,101]⟩:BA) name proc||bad2S (⟨#[97,115,115,117,109,101]⟩:BA) cond ao aK)||bad3S (⟨#[97,115,115,117,109,101]⟩:BA) args):=by
 have e1:ei (⟨#[97,115,115,117,109,101]⟩:BA)=false:=by kernel_rfl
 have e2:dw (⟨#[97,115,115,117,109,101]⟩:BA)=true:=by kernel_rfl
 have e3:cG (⟨#[97,115,115,117,109,101]⟩:BA)=false:=by kernel_rfl
 have e4:((⟨#[97,115,115,117,109,101]⟩:BA).toList==(⟨#[99,97,108,108]⟩:BA).toList)=false:=by kernel_rfl
 have e5:((⟨#[97,115,115,117,109,101]⟩:BA).toList==(⟨#[105,102]⟩:BA).toList)=false:=by kernel_rfl
 have e6:((⟨#[97,115,115,117,109,101]⟩:BA).toList==(⟨#[114,101,97,100]⟩:BA).toList)=false:=by kernel_rfl
 unfold cO bad2S bad3S bJ;simp only [e1,e2,e3,e4,e5,e6,eB,AV];have n1:=@nameG_emp name;have n2:=@nameG_emp proc;cases h1:aC name <;> cases h2:aC proc <;> cases h3:(name.toList==(⟨#[]⟩:BA).toList) <;> cases h4:(proc.toList==(⟨#[]⟩:BA).toList) <;> cases (((bR args).length:Int)==0) <;> cases (((eG cond).length:Int)==0) <;> cases (((bF ao).length:Int)==0) <;> cases (((bF aK).length:Int)==0) <;> first|rfl|(rw [h1,h3] at n1;exact absurd (n1 rfl) (by decide))|(rw [h2,h4] at n2;exact absurd (n2 rfl) (by decide))
theorem L4(name proc:BA)(args:List Ex)(cond:List (List Ts))(ao aK:List Sm):(bJ true false false false false false (.mk (⟨#[114,101,97,100]⟩:BA) name proc args cond ao aK)&&aC name)=!((cO (⟨#[114,101,97,100]⟩:BA) name proc||bad2S (⟨#[114,101,97,100]⟩:BA) cond ao aK)||bad3S (⟨#[114,101,97,100]⟩:BA) args):=by
 have e1:ei (⟨#[114,101,97,100]⟩:BA)=true:=by kernel_rfl
 have e2:dw (⟨#[114,101,97,100]⟩:BA)=false:=by kernel_rfl
 have e3:cG (⟨#[114,101,97,100]⟩:BA)=false:=by kernel_rfl
 have e4:((⟨#[114,101,97,100]⟩:BA).toList==(⟨#[99,97,108,108]⟩:BA).toList)=false:=by kernel_rfl
 have e5:((⟨#[114,101,97,100]⟩:BA).toList==(⟨#[105,102]⟩:BA).toList)=false:=by kernel_rfl
 have e6:((⟨#[114,101,97,100]⟩:BA).toList==(⟨#[114,101,97,100]⟩:BA).toList)=true:=by kernel_rfl
 unfold cO bad2S bad3S bJ;simp only [e1,e2,e3,e4,e5,e6,eB,AV];have n1:=@nameG_emp name;have n2:=@nameG_emp proc;cases h1:aC name <;> cases h2:aC proc <;> cases h3:(name.toList==(⟨#[]⟩:BA).toList) <;> cases h4:(proc.toList==(⟨#[]⟩:BA).toList) <;> cases (((bR args).length:Int)==0) <;> cases (((eG cond).length:Int)==0) <;> cases (((bF ao).length:Int)==0) <;> cases (((bF aK).length:Int)==0) <;> first|rfl|(rw [h1,h3] at n1;exact absurd (n1 rfl) (by decide))|(rw [h2,h4] at n2;exact absurd (n2 rfl) (by decide))
theorem nw:(⟨#[105,102,32]⟩:BA)=(⟨#[105,102]⟩:BA)++(⟨#[32]⟩:BA):=by kernel_rfl
theorem ny:(⟨#[119,104,105,108,101,32]⟩:BA)=(⟨#[119,104,105,108,101]⟩:BA)++(⟨#[32]⟩:BA):=by kernel_rfl
theorem nB:(⟨#[32,123,10]⟩:BA)=(⟨#[32,123]⟩:BA)++(⟨#[10]⟩:BA):=by kernel_rfl
theorem nC:(⟨#[59,10]⟩:BA)=(⟨#[59]⟩:BA)++(⟨#[10]⟩:BA):=by kernel_rfl
theorem nD:(⟨#[125,10]⟩:BA)=(⟨#[125]⟩:BA)++(⟨#[10]⟩:BA):=by kernel_rfl
theorem nF:(⟨#[125,32,101,108,115,101,32,123,10]⟩:BA)=(⟨#[125,32,101,108,115,101,32,123]⟩:BA)++(⟨#[10]⟩:BA):=by kernel_rfl
theorem nG:(⟨#[41,59,10]⟩:BA)=(⟨#[41,59]⟩:BA)++(⟨#[10]⟩:BA):=by kernel_rfl
theorem nH:(⟨#[93,59,10]⟩:BA)=(⟨#[93,59]⟩:BA)++(⟨#[10]⟩:BA):=by kernel_rfl
theorem nI:(⟨#[41,32,123,10]⟩:BA)=(⟨#[41,32,123]⟩:BA)++(⟨#[10]⟩:BA):=by kernel_rfl
theorem nJ:(⟨#[109,97,105,110,32,123,10]⟩:BA)=(⟨#[109,97,105,110,32,123]⟩:BA)++(⟨#[10]⟩:BA):=by kernel_rfl
theorem iI:(⟨#[59,10,125,10]⟩:BA)=(⟨#[59,10]⟩:BA)++(⟨#[125,10]⟩:BA):=by kernel_rfl
theorem iJ:(⟨#[32,32,114,101,116,117,114,110,32]⟩:BA)=(⟨#[32,32]⟩:BA)++(⟨#[114,101,116,117,114,110,32]⟩:BA):=by kernel_rfl
def gt(n:Nat)(B:List Sm->Int->GT):Sm->Nat->GT
 |.mk ap name proc args cond ao aK,k=>match dw ap with
  |true=>match tP n cond with
   |none=>none
   |some (c,ok)=>match bj c with
    |false=>none
    |true=>match (!ok) with
     |true=>some (⟨#[]⟩,false)
     |false=>match (!cG ap) with
      |true=>ip ((((b9 k++ap)++(⟨#[32]⟩:BA))++c)++(⟨#[59,10]⟩:BA)) true
      |false=>match B ao ((k:Int)+1) with
       |none=>none
       |some (bt,Ss)=>match B aK ((k:Int)+1) with
        |none=>none
        |some (et,Ix)=>match bj bt&&bj et with
         |false=>none
         |true=>ip ((((((((b9 k++ap)++(⟨#[32]⟩:BA))++c)++(⟨#[32,123,10]⟩:BA))++bt)++gL aK (b9 k) et)++b9 k)++(⟨#[125,10]⟩:BA)) (Ss&&Ix)
  |false=>match cV args.length with
   |false=>none
   |true=>match jv n args 0 ⟨#[]⟩ with
    |none=>none
    |some (l,ok)=>match bj l with
     |false=>none
     |true=>match (ap.toList==(⟨#[114,101,97,100]⟩:BA).toList) with
      |true=>ip (((b9 k++(⟨#[114,101,97,100,32]⟩:BA))++name)++(⟨#[59,10]⟩:BA)) true
      |false=>match (ap.toList==(⟨#[99,97,108,108]⟩:BA).toList) with
       |true=>ip ((((((b9 k++name)++(⟨#[32,61,32,99,97,108,108,32]⟩:BA))++proc)++(⟨#[40]⟩:BA))++l)++(⟨#[41,59,10]⟩:BA)) ok
       |false=>match (ap.toList==(⟨#[115,101,116]⟩:BA).toList) with
        |true=>ip ((((b9 k++name)++(⟨#[32,61,32]⟩:BA))++l)++(⟨#[59,10]⟩:BA)) (ok&&(((bR args).length:Int)==1))
        |false=>match (ap.toList==(⟨#[112,117,116]⟩:BA).toList) with
         |true=>match ((!ok)||(((bR args).length:Int) != 2)) with
          |true=>some (⟨#[]⟩,false)
          |false=>match args with
           |[x,y]=>match db n x 1 1 with
            |none=>none
            |some (a,_)=>match db n y 1 1 with
             |none=>none
             |some (b,_)=>ip ((((((b9 k++name)++(⟨#[91]⟩:BA))++a)++(⟨#[93,32,61,32]⟩:BA))++b)++(⟨#[59,10]⟩:BA)) true
           |_=>none
         |false=>some (⟨#[]⟩,false)
def gE(ap name proc:BA)(args:List Ex)(cond:List (List Ts))(ao aK:List Sm):Bool:=(cO ap name proc||bad2S ap cond ao aK)||bad3S ap args
theorem C2(n:Nat)(B:List Sm->Int->GT)(ap name proc:BA)(args:List Ex)(cond:List (List Ts))(ao aK:List Sm)(k:Nat)(h1:name.size<=1073741824)(h2:proc.size<=1073741824)(h3:ap.size<=1073741824)(hk:(k:Int)<=12):
  tR n B (.mk ap name proc args cond ao aK) k=match gE ap name proc args cond ao aK with
   |true=>some (⟨#[]⟩,false)
   |false=>gt n B (.mk ap name proc args cond ao aK) k:=by
 have hc:((bj name&&bj proc)&&(bj ap&&decide (0<=(k:Int))))=true:=by
  rw [bv h1,bv h2,bv h3,dT (by omega)];rfl
 simp only [tR,hc,decide_eq_false (show ¬(k:Int)>12 by omega),Int.toNat_natCast,dl (x:=(k:Int)+1) (by omega) (by omega)];unfold gE;cases cO ap name proc with
 |true=>rfl
 |false=>cases bad2S ap cond ao aK with
  |true=>rfl
  |false=>cases bad3S ap args <;> rfl
def Lb(n F:Nat)(B:List Sm->Int->GT):Prop:=∀(l:List Sm) (k:Nat),lq l<=F->okB n l=true->dG l<=1000000000->GP (fQ (bI l k)) (dG l) (B l (k:Int))
def W8(n F:Nat)(S:Sm->Int->GT):Prop:=∀(s:Sm) (k:Nat),pz s<=F->tx n s=true->im s<=1000000000->GP (fun t=>(k:Int)<=12/\fQ (dr s k) t) (im s) (S s (k:Int))
theorem IE{n F:Nat}{S:Sm->Int->GT}(hS:W8 n F S):∀(l:List Sm) (k:Nat) (acc:BA),lq l<=F+2->okB n l=true->dG l+acc.size<=1000000000->GP (fun t=>∃u,fQ (bI l k) u/\t=acc++u) (dG l+acc.size) (ym S l (k:Int) acc)
 |[],k,acc,_,_,_=>by
  simp only [ym];refine ⟨⟨_,_,rfl,by omega,fun _=>⟨⟨#[]⟩,aQ.2 rfl,?_⟩,fun _ _ _=>rfl⟩⟩;apply ByteArray.ext;simp
 |s::r,k,acc,hf,cd,hw=>by
  simp only [lq] at hf;simp only [okB,bE] at cd;simp only [dG] at hw ⊢;obtain ⟨t,ok,e,h1,h2,h3⟩:=(hS s k (by omega) cd.1 (by omega)).ex;have hb:∀u,fQ (bI (s::r) k) u↔(k:Int)<=12/\∃a b,fQ (dr s k) a/\fQ (bI r k) b/\u=a++b:=by
   intro u;simp only [bI];cases hk:decide ((k:Int)<=12) with
   |false=>exact ⟨fun q=>absurd q lV,fun q=>absurd q.1 (oF hk)⟩
   |true=>
    have hk:=oT hk;simp only;rw [bl];constructor
    ·rintro ⟨_,_,h⟩;exact ⟨hk,ct.1 h⟩
    rintro ⟨_,h⟩;exact ⟨(),⟨1,rfl⟩,ct.2 h⟩
  simp only [ym,e,bv (show t.size<=1073741824 by omega)];cases hq:((!ok)||decide ((acc.size:Int)>4000)) with
  |true=>
   refine GP.no (fun x hx=>?_);obtain ⟨u,hu,rfl⟩:=hx;obtain ⟨hk,a,b,ha,gV,rfl⟩:=(hb u).1 hu;simp only [dX];simp only [Bool.or_eq_true,Bool.not_eq_true',dE] at hq;rcases hq with q|q
   ·rcases Nat.lt_or_ge 4000 a.size with w|w
    ·omega
    have:=h3 a ⟨hk,ha⟩ w;rw [q] at this;cases this
   omega
  |false=>
   simp only [Bool.or_eq_false_iff,Bool.not_eq_false'] at hq;obtain ⟨hk,N1⟩:=h2 hq.1;simp only [bv (show (acc++t).size<=1073741824 by rw [dX];omega)];refine (IE hS r k (acc++t) (by omega) cd.2 (by rw [dX];omega)).congr (by rw [dX];omega) (fun x=>?_);constructor
   ·rintro ⟨u,hu,rfl⟩;exact ⟨t++u,(hb _).2 ⟨hk,t,u,N1,hu,rfl⟩,by rw [ByteArray.append_assoc]⟩
   rintro ⟨u,hu,rfl⟩;obtain ⟨_,a,b,ha,gV,rfl⟩:=(hb u).1 hu;have:=kI ha N1;subst this;exact ⟨b,gV,by rw [ByteArray.append_assoc]⟩
theorem Py{n F:Nat}{B:List Sm->Int->GT}(hB:Lb n F B)(name proc:BA)(args:List Ex)(cond:List (List Ts))(ao aK:List Sm)(k:Nat)(hf:pz (.mk (⟨#[115,101,116]⟩:BA) name proc args cond ao aK)<=F+2)(cd:tx n (.mk (⟨#[115,101,116]⟩:BA) name proc args cond ao aK)=true)(hw:im (.mk (⟨#[115,101,116]⟩:BA) name proc args cond ao aK)<=1000000000)(hk:(k:Int)<=12):
  GP (fQ (dr (.mk (⟨#[115,101,116]⟩:BA) name proc args cond ao aK) k)) (im (.mk (⟨#[115,101,116]⟩:BA) name proc args cond ao aK)) (match gE (⟨#[115,101,116]⟩:BA) name proc args cond ao aK with
   |true=>some (⟨#[]⟩,false)
   |false=>gt n B (.mk (⟨#[115,101,116]⟩:BA) name proc args cond ao aK) k):=by
 have hi:=cY k;have a1:dw (⟨#[115,101,116]⟩:BA)=false:=by kernel_rfl
 have a2:cG (⟨#[115,101,116]⟩:BA)=false:=by kernel_rfl
 have fY:((⟨#[115,101,116]⟩:BA).toList==(⟨#[114,101,97,100]⟩:BA).toList)=false:=by kernel_rfl
 have fZ:((⟨#[115,101,116]⟩:BA).toList==(⟨#[99,97,108,108]⟩:BA).toList)=false:=by kernel_rfl
 have i7:((⟨#[115,101,116]⟩:BA).toList==(⟨#[115,101,116]⟩:BA).toList)=true:=by kernel_rfl
 have i8:((⟨#[115,101,116]⟩:BA).toList==(⟨#[112,117,116]⟩:BA).toList)=false:=by kernel_rfl
 have fk:((⟨#[115,101,116]⟩:BA).toList==(⟨#[115,101,116]⟩:BA).toList)=true:=by kernel_rfl
 have fm:((⟨#[115,101,116]⟩:BA).toList==(⟨#[112,117,116]⟩:BA).toList)=false:=by kernel_rfl
 have dQ:((⟨#[115,101,116]⟩:BA).toList==(⟨#[99,97,108,108]⟩:BA).toList)=false:=by kernel_rfl
 have i_:((⟨#[115,101,116]⟩:BA).toList==(⟨#[105,102]⟩:BA).toList)=false:=by kernel_rfl
 have de:((⟨#[115,101,116]⟩:BA).toList==(⟨#[119,104,105,108,101]⟩:BA).toList)=false:=by kernel_rfl
 have dR:((⟨#[115,101,116]⟩:BA).toList==(⟨#[114,101,97,100]⟩:BA).toList)=false:=by kernel_rfl
 have ja:(((⟨#[115,101,116]⟩:BA).toList==(⟨#[97,115,115,101,114,116]⟩:BA).toList)||((⟨#[115,101,116]⟩:BA).toList==(⟨#[97,115,115,117,109,101]⟩:BA).toList))=false:=by kernel_rfl
 have pq:(⟨#[105,102]⟩:BA).size=2:=rfl;have qT:(⟨#[119,104,105,108,101]⟩:BA).size=5:=rfl;have sJ:(⟨#[32]⟩:BA).size=1:=rfl;have sY:(⟨#[59,10]⟩:BA).size=2:=rfl;have Iz:(⟨#[32,123,10]⟩:BA).size=3:=rfl;have K8:(⟨#[125,10]⟩:BA).size=2:=rfl;have LQ:(⟨#[125,32,101,108,115,101,32,123,10]⟩:BA).size=9:=rfl;have LR:(⟨#[114,101,97,100,32]⟩:BA).size=5:=rfl;have LS:(⟨#[32,61,32,99,97,108,108,32]⟩:BA).size=8:=rfl;have LU:(⟨#[40]⟩:BA).size=1:=rfl;have yn:(⟨#[41,59,10]⟩:BA).size=3:=rfl;have yo:(⟨#[32,61,32]⟩:BA).size=3:=rfl;have AN:(⟨#[91]⟩:BA).size=1:=rfl;have C3:(⟨#[93,32,61,32]⟩:BA).size=4:=rfl;have C4:(⟨#[97,115,115,101,114,116]⟩:BA).size=6:=rfl;have C5:(⟨#[97,115,115,117,109,101]⟩:BA).size=6:=rfl;have C6:(⟨#[115,101,116]⟩:BA).size=3:=rfl;have C7:(⟨#[112,117,116]⟩:BA).size=3:=rfl;have C8:(⟨#[99,97,108,108]⟩:BA).size=4:=rfl;have C9:(⟨#[114,101,97,100]⟩:BA).size=4:=rfl;have b_:=Pw name proc args cond ao aK;rw [show ((cO (⟨#[115,101,116]⟩:BA) name proc||bad2S (⟨#[115,101,116]⟩:BA) cond ao aK)||bad3S (⟨#[115,101,116]⟩:BA) args)=gE (⟨#[115,101,116]⟩:BA) name proc args cond ao aK from rfl] at b_;have K3:=dD ao;have K4:=dD aK;have hl:=dU args;simp only [pz] at hf;simp only [tx,bE,dE] at cd;simp only [im] at hw ⊢;rw [dr.eq_def];dsimp only;cases hb:gE (⟨#[115,101,116]⟩:BA) name proc args cond ao aK with
 |true=>
  rw [hb] at b_;simp only [Bool.not_true] at b_;refine GP.no (fun t ht=>?_);simp only [fk] at ht;exfalso
  have g1:=dc.1 ht;have g2:=dc.1 g1.2;have g3:=g1.1;simp only [bE] at g3;rw [g3.1,g2.1] at b_;cases b_
 |false=>
  rw [hb] at b_;simp only [Bool.not_false] at b_;simp only [gt,a1,fY,fZ,i7];have iQ:cV args.length=true:=dT (by omega);obtain ⟨l,ok,e,h1,h2,h3⟩:=(lW n args cd.1.1.1.2 cd.1.1.1.1 (by omega)).ex;simp only [iQ,e,bv (show l.size<=1073741824 by omega)];simp only [bE] at b_;rw [b_.1,b_.2];simp only [TM.grd,Bool.true_and];refine GP.fit (by simp only [dX];omega) (by omega) (fun q=>?_) (fun t ht hs=>?_)
  ·simp only [bE] at q;rw [q.2];exact bl.2 ⟨l,h2 q.1,aQ.2 (by simp only [eF,nC,ByteArray.append_assoc])⟩
  cases hn:(((bR args).length:Int)==1) with
  |false=>rw [hn] at ht;exact absurd ht lV
  |true=>
   rw [hn] at ht;obtain ⟨a,ha,hb⟩:=bl.1 ht;have hb:=aQ.1 hb;subst hb;simp only [dv,dX] at hs;rw [h3 a ha (by omega)];rfl
theorem Pz{n F:Nat}{B:List Sm->Int->GT}(hB:Lb n F B)(name proc:BA)(args:List Ex)(cond:List (List Ts))(ao aK:List Sm)(k:Nat)(hf:pz (.mk (⟨#[112,117,116]⟩:BA) name proc args cond ao aK)<=F+2)(cd:tx n (.mk (⟨#[112,117,116]⟩:BA) name proc args cond ao aK)=true)(hw:im (.mk (⟨#[112,117,116]⟩:BA) name proc args cond ao aK)<=1000000000)(hk:(k:Int)<=12):
  GP (fQ (dr (.mk (⟨#[112,117,116]⟩:BA) name proc args cond ao aK) k)) (im (.mk (⟨#[112,117,116]⟩:BA) name proc args cond ao aK)) (match gE (⟨#[112,117,116]⟩:BA) name proc args cond ao aK with
   |true=>some (⟨#[]⟩,false)
   |false=>gt n B (.mk (⟨#[112,117,116]⟩:BA) name proc args cond ao aK) k):=by
 have hi:=cY k;have a1:dw (⟨#[112,117,116]⟩:BA)=false:=by kernel_rfl
 have a2:cG (⟨#[112,117,116]⟩:BA)=false:=by kernel_rfl
 have fY:((⟨#[112,117,116]⟩:BA).toList==(⟨#[114,101,97,100]⟩:BA).toList)=false:=by kernel_rfl
 have fZ:((⟨#[112,117,116]⟩:BA).toList==(⟨#[99,97,108,108]⟩:BA).toList)=false:=by kernel_rfl
 have i7:((⟨#[112,117,116]⟩:BA).toList==(⟨#[115,101,116]⟩:BA).toList)=false:=by kernel_rfl
 have i8:((⟨#[112,117,116]⟩:BA).toList==(⟨#[112,117,116]⟩:BA).toList)=true:=by kernel_rfl
 have fk:((⟨#[112,117,116]⟩:BA).toList==(⟨#[115,101,116]⟩:BA).toList)=false:=by kernel_rfl
 have fm:((⟨#[112,117,116]⟩:BA).toList==(⟨#[112,117,116]⟩:BA).toList)=true:=by kernel_rfl
 have dQ:((⟨#[112,117,116]⟩:BA).toList==(⟨#[99,97,108,108]⟩:BA).toList)=false:=by kernel_rfl
 have i_:((⟨#[112,117,116]⟩:BA).toList==(⟨#[105,102]⟩:BA).toList)=false:=by kernel_rfl
 have de:((⟨#[112,117,116]⟩:BA).toList==(⟨#[119,104,105,108,101]⟩:BA).toList)=false:=by kernel_rfl
 have dR:((⟨#[112,117,116]⟩:BA).toList==(⟨#[114,101,97,100]⟩:BA).toList)=false:=by kernel_rfl
 have ja:(((⟨#[112,117,116]⟩:BA).toList==(⟨#[97,115,115,101,114,116]⟩:BA).toList)||((⟨#[112,117,116]⟩:BA).toList==(⟨#[97,115,115,117,109,101]⟩:BA).toList))=false:=by kernel_rfl
 have pq:(⟨#[105,102]⟩:BA).size=2:=rfl;have qT:(⟨#[119,104,105,108,101]⟩:BA).size=5:=rfl;have sJ:(⟨#[32]⟩:BA).size=1:=rfl;have sY:(⟨#[59,10]⟩:BA).size=2:=rfl;have Iz:(⟨#[32,123,10]⟩:BA).size=3:=rfl;have K8:(⟨#[125,10]⟩:BA).size=2:=rfl;have LQ:(⟨#[125,32,101,108,115,101,32,123,10]⟩:BA).size=9:=rfl;have LR:(⟨#[114,101,97,100,32]⟩:BA).size=5:=rfl;have LS:(⟨#[32,61,32,99,97,108,108,32]⟩:BA).size=8:=rfl;have LU:(⟨#[40]⟩:BA).size=1:=rfl;have yn:(⟨#[41,59,10]⟩:BA).size=3:=rfl;have yo:(⟨#[32,61,32]⟩:BA).size=3:=rfl;have AN:(⟨#[91]⟩:BA).size=1:=rfl;have C3:(⟨#[93,32,61,32]⟩:BA).size=4:=rfl;have C4:(⟨#[97,115,115,101,114,116]⟩:BA).size=6:=rfl;have C5:(⟨#[97,115,115,117,109,101]⟩:BA).size=6:=rfl;have C6:(⟨#[115,101,116]⟩:BA).size=3:=rfl;have C7:(⟨#[112,117,116]⟩:BA).size=3:=rfl;have C8:(⟨#[99,97,108,108]⟩:BA).size=4:=rfl;have C9:(⟨#[114,101,97,100]⟩:BA).size=4:=rfl;have b_:=Px name proc args cond ao aK;rw [show ((cO (⟨#[112,117,116]⟩:BA) name proc||bad2S (⟨#[112,117,116]⟩:BA) cond ao aK)||bad3S (⟨#[112,117,116]⟩:BA) args)=gE (⟨#[112,117,116]⟩:BA) name proc args cond ao aK from rfl] at b_;have K3:=dD ao;have K4:=dD aK;have hl:=dU args;simp only [pz] at hf;simp only [tx,bE,dE] at cd;simp only [im] at hw ⊢;rw [dr.eq_def];dsimp only;cases hb:gE (⟨#[112,117,116]⟩:BA) name proc args cond ao aK with
 |true=>
  rw [hb] at b_;simp only [Bool.not_true] at b_;refine GP.no (fun t ht=>?_);simp only [fk,fm] at ht;exfalso
  have g1:=dc.1 ht;have g2:=dc.1 g1.2;have g3:=g1.1;simp only [bE] at g3;rw [g3.1,g2.1] at b_;cases b_
 |false=>
  rw [hb] at b_;simp only [Bool.not_false] at b_;simp only [gt,a1,fY,fZ,i7,i8];have iQ:cV args.length=true:=dT (by omega);obtain ⟨l,ok,e,h1,h2,h3⟩:=(lW n args cd.1.1.1.2 cd.1.1.1.1 (by omega)).ex;simp only [iQ,e,bv (show l.size<=1073741824 by omega)];simp only [bE] at b_;rw [b_.1,b_.2];simp only [TM.grd,Bool.true_and,bne_eq];cases hn:(((bR args).length:Int)==2) with
  |false=>
   simp only [Bool.not_false,Bool.or_true];exact GP.no (fun t ht=>absurd ht lV)
  |true=>
   obtain ⟨x,y,rfl⟩:=lx (c:=true) (by simpa using hn);simp only [Bool.not_true,Bool.or_false];simp only [vH,Bool.and_true,bE] at cd;have YB:=cd.1.1.1.2;simp only [tv] at YB;simp only [xO] at hw ⊢;obtain ⟨a,W9,ea,g1,g2,g3⟩:=(kf n x (by omega) cd.1.1.1.1.1 (by omega)).ex;obtain ⟨b,W_,eb,f1,f2,f3⟩:=(kf n y (by omega) cd.1.1.1.1.2 (by omega)).ex;have Vd:∀a b,fQ (exprI x 1 1) a->fQ (exprI y 1 1) b->fQ (ig [x,y]) (bP [a,b] ⟨#[44,32]⟩):=by
    intro a b ha hb;exact bl.2 ⟨[a,b],bl.2 ⟨a,ha,bl.2 ⟨[b],bl.2 ⟨b,hb,bl.2 ⟨[],aQ.2 rfl,aQ.2 rfl⟩⟩,aQ.2 rfl⟩⟩,aQ.2 rfl⟩
   have YC:∀t,fQ (ig [x,y]) t->∃a b,fQ (exprI x 1 1) a/\fQ (exprI y 1 1) b:=by
    intro t ht;obtain ⟨ss,h4,_⟩:=bl.1 ht;simp only [gH] at h4;obtain ⟨a,ha,h4⟩:=bl.1 h4;obtain ⟨_,h4,_⟩:=bl.1 h4;obtain ⟨b,hb,_⟩:=bl.1 h4;exact ⟨a,b,ha,hb⟩
   cases ok with
   |false=>
    simp only [Bool.not_false];refine GP.no (fun t ht=>?_);obtain ⟨a',ha,lr⟩:=bl.1 ht;obtain ⟨b',mQ,hc⟩:=bl.1 lr;have hc:=aQ.1 hc;subst hc;have hj:=Vd a' b' ha mQ;have AW:(bP [a',b'] (⟨#[44,32]⟩:BA)).size<=a'.size+b'.size+4:=by
     have:=dB [a',b'] ⟨#[44,32]⟩;have e2:(⟨#[44,32]⟩:BA).size=2:=rfl;rw [e2] at this;simp only [eS] at this;omega
    simp only [dv,dX];rcases Nat.lt_or_ge 4000 (bP [a',b'] (⟨#[44,32]⟩:BA)).size with w|w
    ·omega
    have:=h3 _ hj w;cases this
   |true=>
    simp only [Bool.not_true];have YD:W9=true:=by
     cases W9 with
     |true=>rfl
     |false=>simp only [jv,ea,Bool.not_false] at e;cases e
    subst YD;have PA:W_=true:=by
     cases W_ with
     |true=>rfl
     |false=>
      simp only [jv,ea,eb,Bool.not_false,Bool.not_true] at e;split at e
      ·cases e
      cases e
    subst PA;simp only [ea,eb];refine GP.fit (by simp only [dX];omega) (by omega) (fun q=>?_) (fun t ht hs=>rfl);exact bl.2 ⟨a,g2 rfl,bl.2 ⟨b,f2 rfl,aQ.2 (by simp only [eF,nC,ByteArray.append_assoc])⟩⟩
theorem L5{n F:Nat}{B:List Sm->Int->GT}(hB:Lb n F B)(name proc:BA)(args:List Ex)(cond:List (List Ts))(ao aK:List Sm)(k:Nat)(hf:pz (.mk (⟨#[99,97,108,108]⟩:BA) name proc args cond ao aK)<=F+2)(cd:tx n (.mk (⟨#[99,97,108,108]⟩:BA) name proc args cond ao aK)=true)(hw:im (.mk (⟨#[99,97,108,108]⟩:BA) name proc args cond ao aK)<=1000000000)(hk:(k:Int)<=12):
  GP (fQ (dr (.mk (⟨#[99,97,108,108]⟩:BA) name proc args cond ao aK) k)) (im (.mk (⟨#[99,97,108,108]⟩:BA) name proc args cond ao aK)) (match gE (⟨#[99,97,108,108]⟩:BA) name proc args cond ao aK with
   |true=>some (⟨#[]⟩,false)
   |false=>gt n B (.mk (⟨#[99,97,108,108]⟩:BA) name proc args cond ao aK) k):=by
 have hi:=cY k;have a1:dw (⟨#[99,97,108,108]⟩:BA)=false:=by kernel_rfl
 have a2:cG (⟨#[99,97,108,108]⟩:BA)=false:=by kernel_rfl
 have fY:((⟨#[99,97,108,108]⟩:BA).toList==(⟨#[114,101,97,100]⟩:BA).toList)=false:=by kernel_rfl
 have fZ:((⟨#[99,97,108,108]⟩:BA).toList==(⟨#[99,97,108,108]⟩:BA).toList)=true:=by kernel_rfl
 have i7:((⟨#[99,97,108,108]⟩:BA).toList==(⟨#[115,101,116]⟩:BA).toList)=false:=by kernel_rfl
 have i8:((⟨#[99,97,108,108]⟩:BA).toList==(⟨#[112,117,116]⟩:BA).toList)=false:=by kernel_rfl
 have fk:((⟨#[99,97,108,108]⟩:BA).toList==(⟨#[115,101,116]⟩:BA).toList)=false:=by kernel_rfl
 have fm:((⟨#[99,97,108,108]⟩:BA).toList==(⟨#[112,117,116]⟩:BA).toList)=false:=by kernel_rfl
 have dQ:((⟨#[99,97,108,108]⟩:BA).toList==(⟨#[99,97,108,108]⟩:BA).toList)=true:=by kernel_rfl
 have i_:((⟨#[99,97,108,108]⟩:BA).toList==(⟨#[105,102]⟩:BA).toList)=false:=by kernel_rfl
 have de:((⟨#[99,97,108,108]⟩:BA).toList==(⟨#[119,104,105,108,101]⟩:BA).toList)=false:=by kernel_rfl
 have dR:((⟨#[99,97,108,108]⟩:BA).toList==(⟨#[114,101,97,100]⟩:BA).toList)=false:=by kernel_rfl
 have ja:(((⟨#[99,97,108,108]⟩:BA).toList==(⟨#[97,115,115,101,114,116]⟩:BA).toList)||((⟨#[99,97,108,108]⟩:BA).toList==(⟨#[97,115,115,117,109,101]⟩:BA).toList))=false:=by kernel_rfl
 have pq:(⟨#[105,102]⟩:BA).size=2:=rfl;have qT:(⟨#[119,104,105,108,101]⟩:BA).size=5:=rfl;have sJ:(⟨#[32]⟩:BA).size=1:=rfl;have sY:(⟨#[59,10]⟩:BA).size=2:=rfl;have Iz:(⟨#[32,123,10]⟩:BA).size=3:=rfl;have K8:(⟨#[125,10]⟩:BA).size=2:=rfl;have LQ:(⟨#[125,32,101,108,115,101,32,123,10]⟩:BA).size=9:=rfl;have LR:(⟨#[114,101,97,100,32]⟩:BA).size=5:=rfl;have LS:(⟨#[32,61,32,99,97,108,108,32]⟩:BA).size=8:=rfl;have LU:(⟨#[40]⟩:BA).size=1:=rfl;have yn:(⟨#[41,59,10]⟩:BA).size=3:=rfl;have yo:(⟨#[32,61,32]⟩:BA).size=3:=rfl;have AN:(⟨#[91]⟩:BA).size=1:=rfl;have C3:(⟨#[93,32,61,32]⟩:BA).size=4:=rfl;have C4:(⟨#[97,115,115,101,114,116]⟩:BA).size=6:=rfl;have C5:(⟨#[97,115,115,117,109,101]⟩:BA).size=6:=rfl;have C6:(⟨#[115,101,116]⟩:BA).size=3:=rfl;have C7:(⟨#[112,117,116]⟩:BA).size=3:=rfl;have C8:(⟨#[99,97,108,108]⟩:BA).size=4:=rfl;have C9:(⟨#[114,101,97,100]⟩:BA).size=4:=rfl;have b_:=L3 name proc args cond ao aK;rw [show ((cO (⟨#[99,97,108,108]⟩:BA) name proc||bad2S (⟨#[99,97,108,108]⟩:BA) cond ao aK)||bad3S (⟨#[99,97,108,108]⟩:BA) args)=gE (⟨#[99,97,108,108]⟩:BA) name proc args cond ao aK from rfl] at b_;have K3:=dD ao;have K4:=dD aK;have hl:=dU args;simp only [pz] at hf;simp only [tx,bE,dE] at cd;simp only [im] at hw ⊢;rw [dr.eq_def];dsimp only;cases hb:gE (⟨#[99,97,108,108]⟩:BA) name proc args cond ao aK with
 |true=>
  rw [hb] at b_;simp only [Bool.not_true] at b_;refine GP.no (fun t ht=>?_);simp only [fk,fm,dQ] at ht;exfalso
  have g1:=dc.1 ht;have g2:=dc.1 g1.2;have g3:=dc.1 g2.2;rw [g1.1,g2.1,g3.1] at b_;cases b_
 |false=>
  rw [hb] at b_;simp only [Bool.not_false] at b_;simp only [gt,a1,fY,fZ,i7,i8];have iQ:cV args.length=true:=dT (by omega);obtain ⟨l,ok,e,h1,h2,h3⟩:=(lW n args cd.1.1.1.2 cd.1.1.1.1 (by omega)).ex;simp only [iQ,e,bv (show l.size<=1073741824 by omega)];simp only [bE] at b_;rw [b_.1.1,b_.1.2,b_.2];simp only [TM.grd];refine GP.fit (by simp only [dX];omega) (by omega) (fun q=>?_) (fun t ht hs=>?_)
  ·exact bl.2 ⟨l,h2 q,aQ.2 (by simp only [eF,nG,ByteArray.append_assoc])⟩
  obtain ⟨a,ha,hb⟩:=bl.1 ht;have hb:=aQ.1 hb;subst hb;simp only [dv,dX] at hs;exact h3 a ha (by omega)
theorem SC{n F:Nat}{B:List Sm->Int->GT}(hB:Lb n F B)(name proc:BA)(args:List Ex)(cond:List (List Ts))(ao aK:List Sm)(k:Nat)(hf:pz (.mk (⟨#[105,102]⟩:BA) name proc args cond ao aK)<=F+2)(cd:tx n (.mk (⟨#[105,102]⟩:BA) name proc args cond ao aK)=true)(hw:im (.mk (⟨#[105,102]⟩:BA) name proc args cond ao aK)<=1000000000)(hk:(k:Int)<=12):
  GP (fQ (dr (.mk (⟨#[105,102]⟩:BA) name proc args cond ao aK) k)) (im (.mk (⟨#[105,102]⟩:BA) name proc args cond ao aK)) (match gE (⟨#[105,102]⟩:BA) name proc args cond ao aK with
   |true=>some (⟨#[]⟩,false)
   |false=>gt n B (.mk (⟨#[105,102]⟩:BA) name proc args cond ao aK) k):=by
 have hi:=cY k;have a1:dw (⟨#[105,102]⟩:BA)=true:=by kernel_rfl
 have a2:cG (⟨#[105,102]⟩:BA)=true:=by kernel_rfl
 have fY:((⟨#[105,102]⟩:BA).toList==(⟨#[114,101,97,100]⟩:BA).toList)=false:=by kernel_rfl
 have fZ:((⟨#[105,102]⟩:BA).toList==(⟨#[99,97,108,108]⟩:BA).toList)=false:=by kernel_rfl
 have i7:((⟨#[105,102]⟩:BA).toList==(⟨#[115,101,116]⟩:BA).toList)=false:=by kernel_rfl
 have i8:((⟨#[105,102]⟩:BA).toList==(⟨#[112,117,116]⟩:BA).toList)=false:=by kernel_rfl
 have fk:((⟨#[105,102]⟩:BA).toList==(⟨#[115,101,116]⟩:BA).toList)=false:=by kernel_rfl
 have fm:((⟨#[105,102]⟩:BA).toList==(⟨#[112,117,116]⟩:BA).toList)=false:=by kernel_rfl
 have dQ:((⟨#[105,102]⟩:BA).toList==(⟨#[99,97,108,108]⟩:BA).toList)=false:=by kernel_rfl
 have i_:((⟨#[105,102]⟩:BA).toList==(⟨#[105,102]⟩:BA).toList)=true:=by kernel_rfl
 have de:((⟨#[105,102]⟩:BA).toList==(⟨#[119,104,105,108,101]⟩:BA).toList)=false:=by kernel_rfl
 have dR:((⟨#[105,102]⟩:BA).toList==(⟨#[114,101,97,100]⟩:BA).toList)=false:=by kernel_rfl
 have ja:(((⟨#[105,102]⟩:BA).toList==(⟨#[97,115,115,101,114,116]⟩:BA).toList)||((⟨#[105,102]⟩:BA).toList==(⟨#[97,115,115,117,109,101]⟩:BA).toList))=false:=by kernel_rfl
 have pq:(⟨#[105,102]⟩:BA).size=2:=rfl;have qT:(⟨#[119,104,105,108,101]⟩:BA).size=5:=rfl;have sJ:(⟨#[32]⟩:BA).size=1:=rfl;have sY:(⟨#[59,10]⟩:BA).size=2:=rfl;have Iz:(⟨#[32,123,10]⟩:BA).size=3:=rfl;have K8:(⟨#[125,10]⟩:BA).size=2:=rfl;have LQ:(⟨#[125,32,101,108,115,101,32,123,10]⟩:BA).size=9:=rfl;have LR:(⟨#[114,101,97,100,32]⟩:BA).size=5:=rfl;have LS:(⟨#[32,61,32,99,97,108,108,32]⟩:BA).size=8:=rfl;have LU:(⟨#[40]⟩:BA).size=1:=rfl;have yn:(⟨#[41,59,10]⟩:BA).size=3:=rfl;have yo:(⟨#[32,61,32]⟩:BA).size=3:=rfl;have AN:(⟨#[91]⟩:BA).size=1:=rfl;have C3:(⟨#[93,32,61,32]⟩:BA).size=4:=rfl;have C4:(⟨#[97,115,115,101,114,116]⟩:BA).size=6:=rfl;have C5:(⟨#[97,115,115,117,109,101]⟩:BA).size=6:=rfl;have C6:(⟨#[115,101,116]⟩:BA).size=3:=rfl;have C7:(⟨#[112,117,116]⟩:BA).size=3:=rfl;have C8:(⟨#[99,97,108,108]⟩:BA).size=4:=rfl;have C9:(⟨#[114,101,97,100]⟩:BA).size=4:=rfl;have b_:=SB name proc args cond ao aK;rw [show ((cO (⟨#[105,102]⟩:BA) name proc||bad2S (⟨#[105,102]⟩:BA) cond ao aK)||bad3S (⟨#[105,102]⟩:BA) args)=gE (⟨#[105,102]⟩:BA) name proc args cond ao aK from rfl] at b_;have K3:=dD ao;have K4:=dD aK;have hl:=dU args;simp only [pz] at hf;simp only [tx,bE,dE] at cd;simp only [im] at hw ⊢;rw [dr.eq_def];dsimp only;cases hb:gE (⟨#[105,102]⟩:BA) name proc args cond ao aK with
 |true=>
  rw [hb] at b_;simp only [Bool.not_true] at b_;refine GP.no (fun t ht=>?_);simp only [fk,fm,dQ,i_] at ht;exfalso
  have g1:=dc.1 ht;rw [g1.1] at b_;cases b_
 |false=>
  rw [hb] at b_;simp only [Bool.not_false] at b_;simp only [gt,a1,a2,fZ,i7,i8,i_];obtain ⟨c,ok,e,h1,h2,h3⟩:=(pP n cond cd.1.1.2.2 cd.1.1.2.1 (by omega)).ex;simp only [e,bv (show c.size<=1073741824 by omega)];rw [b_];simp only [TM.grd];cases ok with
  |false=>
   simp only [Bool.not_false];refine GP.no (fun t ht=>?_);obtain ⟨a,ha,hb⟩:=bl.1 ht;rcases Nat.lt_or_ge 4000 a.size with w|w
   ·obtain ⟨u,v,hu,_,rfl⟩:=ct.1 hb;have hu:=aQ.1 hu;subst hu;simp only [dv,dX];omega
   have:=h3 a ha w;cases this
  |true=>
   simp only [Bool.not_true];have hc:=h2 rfl;obtain ⟨bt,Ss,e1,g1,g2,g3⟩:=(hB ao (k+1) (by omega) cd.1.2 (by omega)).ex;obtain ⟨et,Ix,e2,f1,f2,f3⟩:=(hB aK (k+1) (by omega) cd.2 (by omega)).ex;rw [show (((k+1:Nat):Int))=(k:Int)+1 by omega] at e1 e2;simp only [e1,e2,bv (show bt.size<=1073741824 by omega),bv (show et.size<=1073741824 by omega),Bool.and_self];have W5:(gL aK (b9 k) et).size<=et.size+2 * k+9:=by
    unfold gL;split
    ·simp only [dX];omega
    omega
   have RL:∀t,fQ (match decide (((bF aK).length:Int)>0) with
     |true=>iE (TM.ret (eF k (⟨#[125,32,101,108,115,101,32,123]⟩:BA))) (iE (bI aK (k+1)) (TM.ret (eF k (⟨#[125]⟩:BA))))
     |false=>TM.ret (eF k (⟨#[125]⟩:BA))) t↔∃u,fQ (bI aK (k+1)) u/\t=gL aK (b9 k) u++eF k (⟨#[125]⟩:BA):=by
    intro t;unfold gL;cases hz:decide (((bF aK).length:Int)>0) with
    |true=>
     simp only;rw [ct];constructor
     ·rintro ⟨a,b,ha,hb,rfl⟩;obtain ⟨u,v,hu,hv,rfl⟩:=ct.1 hb;have ha:=aQ.1 ha;have hv:=aQ.1 hv;subst ha hv;exact ⟨u,hu,by simp only [eF,nF,ByteArray.append_assoc]⟩
     rintro ⟨u,hu,rfl⟩;exact ⟨_,_,aQ.2 rfl,ct.2 ⟨u,_,hu,aQ.2 rfl,rfl⟩,by simp only [eF,nF,ByteArray.append_assoc]⟩
    |false=>
     have hn:=oF hz;rw [aL] at hn;obtain rfl:aK=[]:=lE (by omega);simp only;have Lo:∀t,fQ (bI [] (k+1)) t↔t=⟨#[]⟩:=fun t=>by simp only [bI];exact aQ
     have em:∀a:BA,(⟨#[]⟩:BA)++a=a:=fun a=>by apply ByteArray.ext;simp
     constructor
     ·intro h;exact ⟨⟨#[]⟩,(Lo _).2 rfl,by rw [em];exact aQ.1 h⟩
     rintro ⟨u,hu,rfl⟩;have hu:=(Lo _).1 hu;subst hu;rw [em];exact aQ.2 rfl
   refine GP.fit (by simp only [dX];omega) (by omega) (fun q=>?_) (fun t ht hs=>?_)
   ·simp only [bE] at q;exact bl.2 ⟨c,hc,ct.2 ⟨_,_,aQ.2 rfl,ct.2 ⟨bt,_,g2 q.1,(RL _).2 ⟨et,f2 q.2,rfl⟩,rfl⟩,(by simp only [eF,nw,nB,nD,ByteArray.append_assoc])⟩⟩
   obtain ⟨a,ha,hb⟩:=bl.1 ht;obtain ⟨u,v,hu,hv,rfl⟩:=ct.1 hb;obtain ⟨w,z,PB,hz,rfl⟩:=ct.1 hv;obtain ⟨y,hy,rfl⟩:=(RL _).1 hz;have RM:y.size<=(gL aK (b9 k) y).size:=by
    unfold gL;split
    ·simp only [dX];omega
    omega
   simp only [dX] at hs;rw [g3 w PB (by omega),f3 y hy (by omega)];rfl
theorem IF{n F:Nat}{B:List Sm->Int->GT}(hB:Lb n F B)(name proc:BA)(args:List Ex)(cond:List (List Ts))(ao aK:List Sm)(k:Nat)(hf:pz (.mk (⟨#[119,104,105,108,101]⟩:BA) name proc args cond ao aK)<=F+2)(cd:tx n (.mk (⟨#[119,104,105,108,101]⟩:BA) name proc args cond ao aK)=true)(hw:im (.mk (⟨#[119,104,105,108,101]⟩:BA) name proc args cond ao aK)<=1000000000)(hk:(k:Int)<=12):
  GP (fQ (dr (.mk (⟨#[119,104,105,108,101]⟩:BA) name proc args cond ao aK) k)) (im (.mk (⟨#[119,104,105,108,101]⟩:BA) name proc args cond ao aK)) (match gE (⟨#[119,104,105,108,101]⟩:BA) name proc args cond ao aK with
   |true=>some (⟨#[]⟩,false)
   |false=>gt n B (.mk (⟨#[119,104,105,108,101]⟩:BA) name proc args cond ao aK) k):=by
 have hi:=cY k;have a1:dw (⟨#[119,104,105,108,101]⟩:BA)=true:=by kernel_rfl
 have a2:cG (⟨#[119,104,105,108,101]⟩:BA)=true:=by kernel_rfl
 have fY:((⟨#[119,104,105,108,101]⟩:BA).toList==(⟨#[114,101,97,100]⟩:BA).toList)=false:=by kernel_rfl
 have fZ:((⟨#[119,104,105,108,101]⟩:BA).toList==(⟨#[99,97,108,108]⟩:BA).toList)=false:=by kernel_rfl
 have i7:((⟨#[119,104,105,108,101]⟩:BA).toList==(⟨#[115,101,116]⟩:BA).toList)=false:=by kernel_rfl
 have i8:((⟨#[119,104,105,108,101]⟩:BA).toList==(⟨#[112,117,116]⟩:BA).toList)=false:=by kernel_rfl
 have fk:((⟨#[119,104,105,108,101]⟩:BA).toList==(⟨#[115,101,116]⟩:BA).toList)=false:=by kernel_rfl
 have fm:((⟨#[119,104,105,108,101]⟩:BA).toList==(⟨#[112,117,116]⟩:BA).toList)=false:=by kernel_rfl
 have dQ:((⟨#[119,104,105,108,101]⟩:BA).toList==(⟨#[99,97,108,108]⟩:BA).toList)=false:=by kernel_rfl
 have i_:((⟨#[119,104,105,108,101]⟩:BA).toList==(⟨#[105,102]⟩:BA).toList)=false:=by kernel_rfl
 have de:((⟨#[119,104,105,108,101]⟩:BA).toList==(⟨#[119,104,105,108,101]⟩:BA).toList)=true:=by kernel_rfl
 have dR:((⟨#[119,104,105,108,101]⟩:BA).toList==(⟨#[114,101,97,100]⟩:BA).toList)=false:=by kernel_rfl
 have ja:(((⟨#[119,104,105,108,101]⟩:BA).toList==(⟨#[97,115,115,101,114,116]⟩:BA).toList)||((⟨#[119,104,105,108,101]⟩:BA).toList==(⟨#[97,115,115,117,109,101]⟩:BA).toList))=false:=by kernel_rfl
 have pq:(⟨#[105,102]⟩:BA).size=2:=rfl;have qT:(⟨#[119,104,105,108,101]⟩:BA).size=5:=rfl;have sJ:(⟨#[32]⟩:BA).size=1:=rfl;have sY:(⟨#[59,10]⟩:BA).size=2:=rfl;have Iz:(⟨#[32,123,10]⟩:BA).size=3:=rfl;have K8:(⟨#[125,10]⟩:BA).size=2:=rfl;have LQ:(⟨#[125,32,101,108,115,101,32,123,10]⟩:BA).size=9:=rfl;have LR:(⟨#[114,101,97,100,32]⟩:BA).size=5:=rfl;have LS:(⟨#[32,61,32,99,97,108,108,32]⟩:BA).size=8:=rfl;have LU:(⟨#[40]⟩:BA).size=1:=rfl;have yn:(⟨#[41,59,10]⟩:BA).size=3:=rfl;have yo:(⟨#[32,61,32]⟩:BA).size=3:=rfl;have AN:(⟨#[91]⟩:BA).size=1:=rfl;have C3:(⟨#[93,32,61,32]⟩:BA).size=4:=rfl;have C4:(⟨#[97,115,115,101,114,116]⟩:BA).size=6:=rfl;have C5:(⟨#[97,115,115,117,109,101]⟩:BA).size=6:=rfl;have C6:(⟨#[115,101,116]⟩:BA).size=3:=rfl;have C7:(⟨#[112,117,116]⟩:BA).size=3:=rfl;have C8:(⟨#[99,97,108,108]⟩:BA).size=4:=rfl;have C9:(⟨#[114,101,97,100]⟩:BA).size=4:=rfl;have b_:=ID name proc args cond ao aK;rw [show ((cO (⟨#[119,104,105,108,101]⟩:BA) name proc||bad2S (⟨#[119,104,105,108,101]⟩:BA) cond ao aK)||bad3S (⟨#[119,104,105,108,101]⟩:BA) args)=gE (⟨#[119,104,105,108,101]⟩:BA) name proc args cond ao aK from rfl] at b_;have K3:=dD ao;have K4:=dD aK;have hl:=dU args;simp only [pz] at hf;simp only [tx,bE,dE] at cd;simp only [im] at hw ⊢;rw [dr.eq_def];dsimp only;cases hb:gE (⟨#[119,104,105,108,101]⟩:BA) name proc args cond ao aK with
 |true=>
  rw [hb] at b_;simp only [Bool.not_true] at b_;refine GP.no (fun t ht=>?_);simp only [fk,fm,dQ,i_,de] at ht;exfalso
  have g1:=dc.1 ht;rw [g1.1] at b_;cases b_
 |false=>
  rw [hb] at b_;simp only [Bool.not_false] at b_;simp only [gt,a1,a2,fZ,i7,i8,i_,de];obtain ⟨c,ok,e,h1,h2,h3⟩:=(pP n cond cd.1.1.2.2 cd.1.1.2.1 (by omega)).ex;simp only [e,bv (show c.size<=1073741824 by omega)];rw [b_];simp only [TM.grd];cases ok with
  |false=>
   simp only [Bool.not_false];refine GP.no (fun t ht=>?_);obtain ⟨a,ha,hb⟩:=bl.1 ht;rcases Nat.lt_or_ge 4000 a.size with w|w
   ·obtain ⟨u,v,hu,_,rfl⟩:=ct.1 hb;have hu:=aQ.1 hu;subst hu;simp only [dv,dX];omega
   have:=h3 a ha w;cases this
  |true=>
   simp only [Bool.not_true];have hc:=h2 rfl;obtain ⟨bt,Ss,e1,g1,g2,g3⟩:=(hB ao (k+1) (by omega) cd.1.2 (by omega)).ex;obtain ⟨et,Ix,e2,f1,f2,f3⟩:=(hB aK (k+1) (by omega) cd.2 (by omega)).ex;rw [show (((k+1:Nat):Int))=(k:Int)+1 by omega] at e1 e2;simp only [e1,e2,bv (show bt.size<=1073741824 by omega),bv (show et.size<=1073741824 by omega),Bool.and_self];have W5:(gL aK (b9 k) et).size<=et.size+2 * k+9:=by
    unfold gL;split
    ·simp only [dX];omega
    omega
   have Ve:aK=[]:=by
    have hh:=b_;unfold bJ at hh;simp only [bE,Bool.or_false,beq_iff_eq] at hh;have:=hh.2;rw [aL] at this;exact lE (by omega)
   subst Ve;have Lo:∀t,fQ (bI [] (k+1)) t↔t=⟨#[]⟩:=fun t=>by simp only [bI];exact aQ
   have Xa:Ix=true:=f3 ⟨#[]⟩ ((Lo _).2 rfl) (by decide);have YE:=(Lo _).1 (f2 Xa);subst Xa YE;have RL:gL [] (b9 k) ⟨#[]⟩=⟨#[]⟩:=rfl;rw [RL];simp only [Bool.and_true];have em:∀a:BA,a++(⟨#[]⟩:BA)=a:=fun a=>by apply ByteArray.ext;simp
   refine GP.fit (by simp only [dX];have:(⟨#[]⟩:BA).size=0:=rfl;omega) (by omega) (fun q=>?_) (fun t ht hs=>?_)
   ·rw [em];exact bl.2 ⟨c,hc,ct.2 ⟨_,_,aQ.2 rfl,ct.2 ⟨bt,_,g2 q,aQ.2 rfl,rfl⟩,(by simp only [eF,ny,nB,nD,ByteArray.append_assoc])⟩⟩
   obtain ⟨a,ha,hb⟩:=bl.1 ht;obtain ⟨u,v,hu,hv,rfl⟩:=ct.1 hb;obtain ⟨w,z,PB,hz,rfl⟩:=ct.1 hv;simp only [dX] at hs;exact g3 w PB (by omega)
theorem Gr{n F:Nat}{B:List Sm->Int->GT}(hB:Lb n F B)(name proc:BA)(args:List Ex)(cond:List (List Ts))(ao aK:List Sm)(k:Nat)(hf:pz (.mk (⟨#[97,115,115,101,114,116]⟩:BA) name proc args cond ao aK)<=F+2)(cd:tx n (.mk (⟨#[97,115,115,101,114,116]⟩:BA) name proc args cond ao aK)=true)(hw:im (.mk (⟨#[97,115,115,101,114,116]⟩:BA) name proc args cond ao aK)<=1000000000)(hk:(k:Int)<=12):
  GP (fQ (dr (.mk (⟨#[97,115,115,101,114,116]⟩:BA) name proc args cond ao aK) k)) (im (.mk (⟨#[97,115,115,101,114,116]⟩:BA) name proc args cond ao aK)) (match gE (⟨#[97,115,115,101,114,116]⟩:BA) name proc args cond ao aK with
   |true=>some (⟨#[]⟩,false)
   |false=>gt n B (.mk (⟨#[97,115,115,101,114,116]⟩:BA) name proc args cond ao aK) k):=by
 have hi:=cY k;have a1:dw (⟨#[97,115,115,101,114,116]⟩:BA)=true:=by kernel_rfl
 have a2:cG (⟨#[97,115,115,101,114,116]⟩:BA)=false:=by kernel_rfl
 have fY:((⟨#[97,115,115,101,114,116]⟩:BA).toList==(⟨#[114,101,97,100]⟩:BA).toList)=false:=by kernel_rfl
 have fZ:((⟨#[97,115,115,101,114,116]⟩:BA).toList==(⟨#[99,97,108,108]⟩:BA).toList)=false:=by kernel_rfl
 have i7:((⟨#[97,115,115,101,114,116]⟩:BA).toList==(⟨#[115,101,116]⟩:BA).toList)=false:=by kernel_rfl
 have i8:((⟨#[97,115,115,101,114,116]⟩:BA).toList==(⟨#[112,117,116]⟩:BA).toList)=false:=by kernel_rfl
 have fk:((⟨#[97,115,115,101,114,116]⟩:BA).toList==(⟨#[115,101,116]⟩:BA).toList)=false:=by kernel_rfl
 have fm:((⟨#[97,115,115,101,114,116]⟩:BA).toList==(⟨#[112,117,116]⟩:BA).toList)=false:=by kernel_rfl
 have dQ:((⟨#[97,115,115,101,114,116]⟩:BA).toList==(⟨#[99,97,108,108]⟩:BA).toList)=false:=by kernel_rfl
 have i_:((⟨#[97,115,115,101,114,116]⟩:BA).toList==(⟨#[105,102]⟩:BA).toList)=false:=by kernel_rfl
 have de:((⟨#[97,115,115,101,114,116]⟩:BA).toList==(⟨#[119,104,105,108,101]⟩:BA).toList)=false:=by kernel_rfl
 have dR:((⟨#[97,115,115,101,114,116]⟩:BA).toList==(⟨#[114,101,97,100]⟩:BA).toList)=false:=by kernel_rfl
 have ja:(((⟨#[97,115,115,101,114,116]⟩:BA).toList==(⟨#[97,115,115,101,114,116]⟩:BA).toList)||((⟨#[97,115,115,101,114,116]⟩:BA).toList==(⟨#[97,115,115,117,109,101]⟩:BA).toList))=true:=by kernel_rfl
 have pq:(⟨#[105,102]⟩:BA).size=2:=rfl;have qT:(⟨#[119,104,105,108,101]⟩:BA).size=5:=rfl;have sJ:(⟨#[32]⟩:BA).size=1:=rfl;have sY:(⟨#[59,10]⟩:BA).size=2:=rfl;have Iz:(⟨#[32,123,10]⟩:BA).size=3:=rfl;have K8:(⟨#[125,10]⟩:BA).size=2:=rfl;have LQ:(⟨#[125,32,101,108,115,101,32,123,10]⟩:BA).size=9:=rfl;have LR:(⟨#[114,101,97,100,32]⟩:BA).size=5:=rfl;have LS:(⟨#[32,61,32,99,97,108,108,32]⟩:BA).size=8:=rfl;have LU:(⟨#[40]⟩:BA).size=1:=rfl;have yn:(⟨#[41,59,10]⟩:BA).size=3:=rfl;have yo:(⟨#[32,61,32]⟩:BA).size=3:=rfl;have AN:(⟨#[91]⟩:BA).size=1:=rfl;have C3:(⟨#[93,32,61,32]⟩:BA).size=4:=rfl;have C4:(⟨#[97,115,115,101,114,116]⟩:BA).size=6:=rfl;have C5:(⟨#[97,115,115,117,109,101]⟩:BA).size=6:=rfl;have C6:(⟨#[115,101,116]⟩:BA).size=3:=rfl;have C7:(⟨#[112,117,116]⟩:BA).size=3:=rfl;have C8:(⟨#[99,97,108,108]⟩:BA).size=4:=rfl;have C9:(⟨#[114,101,97,100]⟩:BA).size=4:=rfl;have b_:=Gp name proc args cond ao aK;rw [show ((cO (⟨#[97,115,115,101,114,116]⟩:BA) name proc||bad2S (⟨#[97,115,115,101,114,116]⟩:BA) cond ao aK)||bad3S (⟨#[97,115,115,101,114,116]⟩:BA) args)=gE (⟨#[97,115,115,101,114,116]⟩:BA) name proc args cond ao aK from rfl] at b_;have K3:=dD ao;have K4:=dD aK;have hl:=dU args;simp only [pz] at hf;simp only [tx,bE,dE] at cd;simp only [im] at hw ⊢;rw [dr.eq_def];dsimp only;cases hb:gE (⟨#[97,115,115,101,114,116]⟩:BA) name proc args cond ao aK with
 |true=>
  rw [hb] at b_;simp only [Bool.not_true] at b_;refine GP.no (fun t ht=>?_);simp only [fk,fm,dQ,i_,de,ja] at ht;exfalso
  have g1:=dc.1 ht;rw [g1.1] at b_;cases b_
 |false=>
  rw [hb] at b_;simp only [Bool.not_false] at b_;simp only [gt,a1,a2,fZ,i7,i8,i_,de,ja];obtain ⟨c,ok,e,h1,h2,h3⟩:=(pP n cond cd.1.1.2.2 cd.1.1.2.1 (by omega)).ex;simp only [e,bv (show c.size<=1073741824 by omega)];rw [b_];simp only [TM.grd];cases ok with
  |false=>
   simp only [Bool.not_false];refine GP.no (fun t ht=>?_);obtain ⟨a,ha,hb⟩:=bl.1 ht;rcases Nat.lt_or_ge 4000 a.size with w|w
   ·have hb:=aQ.1 hb;subst hb;simp only [dv,dX];omega
   have:=h3 a ha w;cases this
  |true=>
   simp only [Bool.not_true,Bool.not_false];have hc:=h2 rfl;refine GP.fit (by simp only [dX];omega) (by omega) (fun q=>?_) (fun t ht hs=>rfl);exact bl.2 ⟨c,hc,aQ.2 (by simp only [eF,nC,ByteArray.append_assoc])⟩
theorem Gs{n F:Nat}{B:List Sm->Int->GT}(hB:Lb n F B)(name proc:BA)(args:List Ex)(cond:List (List Ts))(ao aK:List Sm)(k:Nat)(hf:pz (.mk (⟨#[97,115,115,117,109,101]⟩:BA) name proc args cond ao aK)<=F+2)(cd:tx n (.mk (⟨#[97,115,115,117,109,101]⟩:BA) name proc args cond ao aK)=true)(hw:im (.mk (⟨#[97,115,115,117,109,101]⟩:BA) name proc args cond ao aK)<=1000000000)(hk:(k:Int)<=12):
  GP (fQ (dr (.mk (⟨#[97,115,115,117,109,101]⟩:BA) name proc args cond ao aK) k)) (im (.mk (⟨#[97,115,115,117,109,101]⟩:BA) name proc args cond ao aK)) (match gE (⟨#[97,115,115,117,109,101]⟩:BA) name proc args cond ao aK with
   |true=>some (⟨#[]⟩,false)
   |false=>gt n B (.mk (⟨#[97,115,115,117,109,101]⟩:BA) name proc args cond ao aK) k):=by
 have hi:=cY k;have a1:dw (⟨#[97,115,115,117,109,101]⟩:BA)=true:=by kernel_rfl
 have a2:cG (⟨#[97,115,115,117,109,101]⟩:BA)=false:=by kernel_rfl
 have fY:((⟨#[97,115,115,117,109,101]⟩:BA).toList==(⟨#[114,101,97,100]⟩:BA).toList)=false:=by kernel_rfl
 have fZ:((⟨#[97,115,115,117,109,101]⟩:BA).toList==(⟨#[99,97,108,108]⟩:BA).toList)=false:=by kernel_rfl
 have i7:((⟨#[97,115,115,117,109,101]⟩:BA).toList==(⟨#[115,101,116]⟩:BA).toList)=false:=by kernel_rfl
 have i8:((⟨#[97,115,115,117,109,101]⟩:BA).toList==(⟨#[112,117,116]⟩:BA).toList)=false:=by kernel_rfl
 have fk:((⟨#[97,115,115,117,109,101]⟩:BA).toList==(⟨#[115,101,116]⟩:BA).toList)=false:=by kernel_rfl
 have fm:((⟨#[97,115,115,117,109,101]⟩:BA).toList==(⟨#[112,117,116]⟩:BA).toList)=false:=by kernel_rfl
 have dQ:((⟨#[97,115,115,117,109,101]⟩:BA).toList==(⟨#[99,97,108,108]⟩:BA).toList)=false:=by kernel_rfl
 have i_:((⟨#[97,115,115,117,109,101]⟩:BA).toList==(⟨#[105,102]⟩:BA).toList)=false:=by kernel_rfl
 have de:((⟨#[97,115,115,117,109,101]⟩:BA).toList==(⟨#[119,104,105,108,101]⟩:BA).toList)=false:=by kernel_rfl
 have dR:((⟨#[97,115,115,117,109,101]⟩:BA).toList==(⟨#[114,101,97,100]⟩:BA).toList)=false:=by kernel_rfl
 have ja:(((⟨#[97,115,115,117,109,101]⟩:BA).toList==(⟨#[97,115,115,101,114,116]⟩:BA).toList)||((⟨#[97,115,115,117,109,101]⟩:BA).toList==(⟨#[97,115,115,117,109,101]⟩:BA).toList))=true:=by kernel_rfl
 have pq:(⟨#[105,102]⟩:BA).size=2:=rfl;have qT:(⟨#[119,104,105,108,101]⟩:BA).size=5:=rfl;have sJ:(⟨#[32]⟩:BA).size=1:=rfl;have sY:(⟨#[59,10]⟩:BA).size=2:=rfl;have Iz:(⟨#[32,123,10]⟩:BA).size=3:=rfl;have K8:(⟨#[125,10]⟩:BA).size=2:=rfl;have LQ:(⟨#[125,32,101,108,115,101,32,123,10]⟩:BA).size=9:=rfl;have LR:(⟨#[114,101,97,100,32]⟩:BA).size=5:=rfl;have LS:(⟨#[32,61,32,99,97,108,108,32]⟩:BA).size=8:=rfl;have LU:(⟨#[40]⟩:BA).size=1:=rfl;have yn:(⟨#[41,59,10]⟩:BA).size=3:=rfl;have yo:(⟨#[32,61,32]⟩:BA).size=3:=rfl;have AN:(⟨#[91]⟩:BA).size=1:=rfl;have C3:(⟨#[93,32,61,32]⟩:BA).size=4:=rfl;have C4:(⟨#[97,115,115,101,114,116]⟩:BA).size=6:=rfl;have C5:(⟨#[97,115,115,117,109,101]⟩:BA).size=6:=rfl;have C6:(⟨#[115,101,116]⟩:BA).size=3:=rfl;have C7:(⟨#[112,117,116]⟩:BA).size=3:=rfl;have C8:(⟨#[99,97,108,108]⟩:BA).size=4:=rfl;have C9:(⟨#[114,101,97,100]⟩:BA).size=4:=rfl;have b_:=Gq name proc args cond ao aK;rw [show ((cO (⟨#[97,115,115,117,109,101]⟩:BA) name proc||bad2S (⟨#[97,115,115,117,109,101]⟩:BA) cond ao aK)||bad3S (⟨#[97,115,115,117,109,101]⟩:BA) args)=gE (⟨#[97,115,115,117,109,101]⟩:BA) name proc args cond ao aK from rfl] at b_;have K3:=dD ao;have K4:=dD aK;have hl:=dU args;simp only [pz] at hf;simp only [tx,bE,dE] at cd;simp only [im] at hw ⊢;rw [dr.eq_def];dsimp only;cases hb:gE (⟨#[97,115,115,117,109,101]⟩:BA) name proc args cond ao aK with
 |true=>
  rw [hb] at b_;simp only [Bool.not_true] at b_;refine GP.no (fun t ht=>?_);simp only [fk,fm,dQ,i_,de,ja] at ht;exfalso
  have g1:=dc.1 ht;rw [g1.1] at b_;cases b_
 |false=>
  rw [hb] at b_;simp only [Bool.not_false] at b_;simp only [gt,a1,a2,fZ,i7,i8,i_,de,ja];obtain ⟨c,ok,e,h1,h2,h3⟩:=(pP n cond cd.1.1.2.2 cd.1.1.2.1 (by omega)).ex;simp only [e,bv (show c.size<=1073741824 by omega)];rw [b_];simp only [TM.grd];cases ok with
  |false=>
   simp only [Bool.not_false];refine GP.no (fun t ht=>?_);obtain ⟨a,ha,hb⟩:=bl.1 ht;rcases Nat.lt_or_ge 4000 a.size with w|w
   ·have hb:=aQ.1 hb;subst hb;simp only [dv,dX];omega
   have:=h3 a ha w;cases this
  |true=>
   simp only [Bool.not_true,Bool.not_false];have hc:=h2 rfl;refine GP.fit (by simp only [dX];omega) (by omega) (fun q=>?_) (fun t ht hs=>rfl);exact bl.2 ⟨c,hc,aQ.2 (by simp only [eF,nC,ByteArray.append_assoc])⟩
theorem L6{n F:Nat}{B:List Sm->Int->GT}(hB:Lb n F B)(name proc:BA)(args:List Ex)(cond:List (List Ts))(ao aK:List Sm)(k:Nat)(hf:pz (.mk (⟨#[114,101,97,100]⟩:BA) name proc args cond ao aK)<=F+2)(cd:tx n (.mk (⟨#[114,101,97,100]⟩:BA) name proc args cond ao aK)=true)(hw:im (.mk (⟨#[114,101,97,100]⟩:BA) name proc args cond ao aK)<=1000000000)(hk:(k:Int)<=12):
  GP (fQ (dr (.mk (⟨#[114,101,97,100]⟩:BA) name proc args cond ao aK) k)) (im (.mk (⟨#[114,101,97,100]⟩:BA) name proc args cond ao aK)) (match gE (⟨#[114,101,97,100]⟩:BA) name proc args cond ao aK with
   |true=>some (⟨#[]⟩,false)
   |false=>gt n B (.mk (⟨#[114,101,97,100]⟩:BA) name proc args cond ao aK) k):=by
 have hi:=cY k;have a1:dw (⟨#[114,101,97,100]⟩:BA)=false:=by kernel_rfl
 have a2:cG (⟨#[114,101,97,100]⟩:BA)=false:=by kernel_rfl
 have fY:((⟨#[114,101,97,100]⟩:BA).toList==(⟨#[114,101,97,100]⟩:BA).toList)=true:=by kernel_rfl
 have fZ:((⟨#[114,101,97,100]⟩:BA).toList==(⟨#[99,97,108,108]⟩:BA).toList)=false:=by kernel_rfl
 have i7:((⟨#[114,101,97,100]⟩:BA).toList==(⟨#[115,101,116]⟩:BA).toList)=false:=by kernel_rfl
 have i8:((⟨#[114,101,97,100]⟩:BA).toList==(⟨#[112,117,116]⟩:BA).toList)=false:=by kernel_rfl
 have fk:((⟨#[114,101,97,100]⟩:BA).toList==(⟨#[115,101,116]⟩:BA).toList)=false:=by kernel_rfl
 have fm:((⟨#[114,101,97,100]⟩:BA).toList==(⟨#[112,117,116]⟩:BA).toList)=false:=by kernel_rfl
 have dQ:((⟨#[114,101,97,100]⟩:BA).toList==(⟨#[99,97,108,108]⟩:BA).toList)=false:=by kernel_rfl
 have i_:((⟨#[114,101,97,100]⟩:BA).toList==(⟨#[105,102]⟩:BA).toList)=false:=by kernel_rfl
 have de:((⟨#[114,101,97,100]⟩:BA).toList==(⟨#[119,104,105,108,101]⟩:BA).toList)=false:=by kernel_rfl
 have dR:((⟨#[114,101,97,100]⟩:BA).toList==(⟨#[114,101,97,100]⟩:BA).toList)=true:=by kernel_rfl
 have ja:(((⟨#[114,101,97,100]⟩:BA).toList==(⟨#[97,115,115,101,114,116]⟩:BA).toList)||((⟨#[114,101,97,100]⟩:BA).toList==(⟨#[97,115,115,117,109,101]⟩:BA).toList))=false:=by kernel_rfl
 have pq:(⟨#[105,102]⟩:BA).size=2:=rfl;have qT:(⟨#[119,104,105,108,101]⟩:BA).size=5:=rfl;have sJ:(⟨#[32]⟩:BA).size=1:=rfl;have sY:(⟨#[59,10]⟩:BA).size=2:=rfl;have Iz:(⟨#[32,123,10]⟩:BA).size=3:=rfl;have K8:(⟨#[125,10]⟩:BA).size=2:=rfl;have LQ:(⟨#[125,32,101,108,115,101,32,123,10]⟩:BA).size=9:=rfl;have LR:(⟨#[114,101,97,100,32]⟩:BA).size=5:=rfl;have LS:(⟨#[32,61,32,99,97,108,108,32]⟩:BA).size=8:=rfl;have LU:(⟨#[40]⟩:BA).size=1:=rfl;have yn:(⟨#[41,59,10]⟩:BA).size=3:=rfl;have yo:(⟨#[32,61,32]⟩:BA).size=3:=rfl;have AN:(⟨#[91]⟩:BA).size=1:=rfl;have C3:(⟨#[93,32,61,32]⟩:BA).size=4:=rfl;have C4:(⟨#[97,115,115,101,114,116]⟩:BA).size=6:=rfl;have C5:(⟨#[97,115,115,117,109,101]⟩:BA).size=6:=rfl;have C6:(⟨#[115,101,116]⟩:BA).size=3:=rfl;have C7:(⟨#[112,117,116]⟩:BA).size=3:=rfl;have C8:(⟨#[99,97,108,108]⟩:BA).size=4:=rfl;have C9:(⟨#[114,101,97,100]⟩:BA).size=4:=rfl;have b_:=L4 name proc args cond ao aK;rw [show ((cO (⟨#[114,101,97,100]⟩:BA) name proc||bad2S (⟨#[114,101,97,100]⟩:BA) cond ao aK)||bad3S (⟨#[114,101,97,100]⟩:BA) args)=gE (⟨#[114,101,97,100]⟩:BA) name proc args cond ao aK from rfl] at b_;have K3:=dD ao;have K4:=dD aK;have hl:=dU args;simp only [pz] at hf;simp only [tx,bE,dE] at cd;simp only [im] at hw ⊢;rw [dr.eq_def];dsimp only;cases hb:gE (⟨#[114,101,97,100]⟩:BA) name proc args cond ao aK with
 |true=>
  rw [hb] at b_;simp only [Bool.not_true] at b_;refine GP.no (fun t ht=>?_);simp only [fk,fm,dQ,i_,de,ja,dR] at ht;exfalso
  have g1:=dc.1 ht;have g2:=dc.1 g1.2;rw [g1.1,g2.1] at b_;cases b_
 |false=>
  rw [hb] at b_;simp only [Bool.not_false] at b_;simp only [gt,a1,fY,fZ,i7,i8,i_,de,ja];have iQ:cV args.length=true:=dT (by omega);obtain ⟨l,ok,e,h1,h2,h3⟩:=(lW n args cd.1.1.1.2 cd.1.1.1.1 (by omega)).ex;simp only [iQ,e,bv (show l.size<=1073741824 by omega)];simp only [bE] at b_;rw [b_.1,b_.2];simp only [TM.grd];refine GP.fit (by simp only [dX];omega) (by omega) (fun q=>?_) (fun t ht hs=>rfl);exact aQ.2 (by simp only [eF,nC,ByteArray.append_assoc])
theorem PC{n F:Nat}{B:List Sm->Int->GT}(hB:Lb n F B):W8 n (F+2) (tR n B):=by
 intro s k hf cd hw;obtain ⟨ap,name,proc,args,cond,ao,aK⟩:=s;have PB:=hw;simp only [im] at PB;by_cases hk:(k:Int)<=12
 ·rw [C2 n B ap name proc args cond ao aK k (by omega) (by omega) (by omega) hk]
  suffices h:GP (fQ (dr (.mk ap name proc args cond ao aK) k)) (im (.mk ap name proc args cond ao aK)) (match gE ap name proc args cond ao aK with
    |true=>some (⟨#[]⟩,false)
    |false=>gt n B (.mk ap name proc args cond ao aK) k) from h.congr (nR _) (fun t=>⟨fun q=>⟨hk,q⟩,fun q=>q.2⟩)
  cases wF:(ap.toList==(⟨#[115,101,116]⟩:BA).toList) with
  |true=>
   rw [cq] at wF;have wF:=oT wF;subst wF;exact Py hB name proc args cond ao aK k hf cd hw hk
  |false=>
  cases wG:(ap.toList==(⟨#[112,117,116]⟩:BA).toList) with
  |true=>
   rw [cq] at wG;have wG:=oT wG;subst wG;exact Pz hB name proc args cond ao aK k hf cd hw hk
  |false=>
  cases qX:(ap.toList==(⟨#[99,97,108,108]⟩:BA).toList) with
  |true=>
   rw [cq] at qX;have qX:=oT qX;subst qX;exact L5 hB name proc args cond ao aK k hf cd hw hk
  |false=>
  cases Gt:(ap.toList==(⟨#[105,102]⟩:BA).toList) with
  |true=>
   rw [cq] at Gt;have Gt:=oT Gt;subst Gt;exact SC hB name proc args cond ao aK k hf cd hw hk
  |false=>
  cases m_:(ap.toList==(⟨#[119,104,105,108,101]⟩:BA).toList) with
  |true=>
   rw [cq] at m_;have m_:=oT m_;subst m_;exact IF hB name proc args cond ao aK k hf cd hw hk
  |false=>
  cases kh:(ap.toList==(⟨#[97,115,115,101,114,116]⟩:BA).toList) with
  |true=>
   rw [cq] at kh;have kh:=oT kh;subst kh;exact Gr hB name proc args cond ao aK k hf cd hw hk
  |false=>
  cases ki:(ap.toList==(⟨#[97,115,115,117,109,101]⟩:BA).toList) with
  |true=>
   rw [cq] at ki;have ki:=oT ki;subst ki;exact Gs hB name proc args cond ao aK k hf cd hw hk
  |false=>
  cases qY:(ap.toList==(⟨#[114,101,97,100]⟩:BA).toList) with
  |true=>
   rw [cq] at qY;have qY:=oT qY;subst qY;exact L6 hB name proc args cond ao aK k hf cd hw hk
  |false=>
  simp only [tx,bE,dE] at cd;have hl:=dU args;have iQ:cV args.length=true:=dT (by omega);obtain ⟨l,ok,e,h1,_,_⟩:=(lW n args cd.1.1.1.2 cd.1.1.1.1 (by omega)).ex;have ha:dw ap=false:=by unfold dw;rw [Gt,m_,kh,ki];rfl
  rw [dr.eq_def];simp only [wF,wG,qX,Gt,m_,kh,ki,qY,Bool.or_self];cases gE ap name proc args cond ao aK with
  |true=>exact GP.no (fun t ht=>absurd ht lV)
  |false=>
   simp only [gt,ha,iQ,e,bv (show l.size<=1073741824 by omega),qY,qX,wF,wG];exact GP.no (fun t ht=>absurd ht lV)
 have hc:((bj name&&bj proc)&&(bj ap&&decide (0<=(k:Int))))=true:=by
  rw [bv (show name.size<=1073741824 by omega),bv (show proc.size<=1073741824 by omega),bv (show ap.size<=1073741824 by omega),dT (by omega)];rfl
 simp only [tR,hc,dT (show (k:Int)>12 by omega)];exact GP.no (fun t ht=>absurd ht.1 hk)
theorem qZ(n:Nat):∀f,Lb n f (di n f)
 |0=>fun l k h=>by have:=dD l;omega
 |f+1=>fun l k hf cd hw=>by
  have bZ:=kz l;have hc:cV l.length=true:=dT (by omega);simp only [di,hc];have e0:(⟨#[]⟩:BA).size=0:=rfl;have h:=IE (PC (qZ n f)) l k ⟨#[]⟩ (by omega) cd (by omega);refine h.congr (by omega) (fun t=>?_);have em:∀a:BA,(⟨#[]⟩:BA)++a=a:=fun a=>by apply ByteArray.ext;simp
  constructor
  ·rintro ⟨u,hu,rfl⟩;rw [em];exact hu
  intro h;exact ⟨t,h,(em t).symm⟩
structure GQ (p:BA->Prop) (r:GT):Prop where
 ex:∃s b,r=some (s,b)/\(b=true->p s/\s.size<=4000)/\(∀t,p t->t.size<=4000->b=true)
theorem GQ.no{p:BA->Prop}(h:∀t,p t->4000<t.size):GQ p (some (⟨#[]⟩,false)):=
 ⟨⟨_,_,rfl,fun q=>Bool.noConfusion q,fun t e q=>by have:=h t e;omega⟩⟩
theorem GQ.congr{p q:BA->Prop}{r:GT}(h:GQ p r)(hp:∀t,p t↔q t):GQ q r:=by
 obtain ⟨s,b,h1,h3,h4⟩:=h.ex;exact ⟨⟨s,b,h1,fun z=>⟨(hp s).1 (h3 z).1,(h3 z).2⟩,fun t z=>h4 t ((hp t).2 z)⟩⟩
def L7(x:TIs)(P:BA->Prop)(acc:BA):BA->Prop:=fun t=>∃v u,fQ x v/\P u/\t=acc++(v++u)
theorem yx(P:BA->Prop)(acc t:BA):L7 (TM.ret ⟨#[]⟩) P acc t↔∃u,P u/\t=acc++u:=by
 have em:∀a:BA,(⟨#[]⟩:BA)++a=a:=fun a=>by apply ByteArray.ext;simp
 constructor
 ·rintro ⟨v,u,hv,hu,rfl⟩;have hv:=aQ.1 hv;subst hv;exact ⟨u,hu,by rw [em]⟩
 rintro ⟨u,hu,rfl⟩;exact ⟨_,u,aQ.2 rfl,hu,by rw [em]⟩
theorem IG(x:BA)(y:TIs)(P:BA->Prop)(acc t:BA):L7 (iE (TM.ret x) y) P acc t↔L7 y P (acc++x) t:=by
 constructor
 ·rintro ⟨v,u,hv,hu,rfl⟩;obtain ⟨a,b,ha,hb,rfl⟩:=ct.1 hv;have ha:=aQ.1 ha;subst ha;exact ⟨b,u,hb,hu,by simp only [ByteArray.append_assoc]⟩
 rintro ⟨v,u,hv,hu,rfl⟩;exact ⟨_,u,ct.2 ⟨_,_,aQ.2 rfl,hv,rfl⟩,hu,by simp only [ByteArray.append_assoc]⟩
theorem N2(s:BA):eF 0 s=s++⟨#[10]⟩:=by
 have em:∀a:BA,(⟨#[]⟩:BA)++a=a:=fun a=>by apply ByteArray.ext;simp
 have e:b9 0=⟨#[]⟩:=rfl;unfold eF;rw [e,em]
theorem AX{K:BA->GT}{P:BA->Prop}{A:Nat}(hA:A<=1000000000)(hK:∀acc:BA,acc.size<=A->GQ (fun t=>∃u,P u/\t=acc++u) (K acc)):∀(l:List BA) (acc:BA),acc.size+nu l<=A->GQ (L7 (rQ l) P acc) (tS K l acc)
 |[],acc,h=>(hK acc (by omega)).congr (fun t=>(yx P acc t).symm)
 |v::r,acc,h=>by
  simp only [nu] at h;have pq:(⟨#[118,97,114,32]⟩:BA).size=4:=rfl;have qT:(⟨#[59,10]⟩:BA).size=2:=rfl;have hs:(((acc++(⟨#[118,97,114,32]⟩:BA))++v)++(⟨#[59,10]⟩:BA)).size<=acc.size+v.size+6:=by simp only [dX];omega
  simp only [tS,bv (show v.size<=1073741824 by omega),bv (show (((acc++(⟨#[118,97,114,32]⟩:BA))++v)++(⟨#[59,10]⟩:BA)).size<=1073741824 by omega),Bool.and_self,eB,rQ];cases hq:aC v with
  |false=>
   refine GQ.no (fun t ht=>?_);obtain ⟨_,_,hv,_⟩:=ht;exact absurd (dc.1 hv).1 (by decide)
  |true=>
   simp only [Bool.not_true,TM.grd];refine (AX hA hK r _ (by omega)).congr (fun t=>?_);rw [IG,N2];simp only [nC,ByteArray.append_assoc]
theorem AY{K:BA->GT}{P:BA->Prop}{A:Nat}(hA:A<=1000000000)(hK:∀acc:BA,acc.size<=A->GQ (fun t=>∃u,P u/\t=acc++u) (K acc)):∀(l:List Ar) (acc:BA),Lt l=true->acc.size+xW l<=A->GQ (L7 (nO l) P acc) (pK K l acc)
 |[],acc,_,h=>(hK acc (by omega)).congr (fun t=>(yx P acc t).symm)
 |⟨nm,sz⟩::r,acc,cd,h=>by
  simp only [xW] at h;simp only [Lt,bE] at cd;have hz:=gP cd.1;have pq:(⟨#[97,114,114,97,121,32]⟩:BA).size=6:=rfl;have qT:(⟨#[91]⟩:BA).size=1:=rfl;have sJ:(⟨#[93,59,10]⟩:BA).size=3:=rfl;have hs:(((((acc++(⟨#[97,114,114,97,121,32]⟩:BA))++nm)++(⟨#[91]⟩:BA))++dH sz)++(⟨#[93,59,10]⟩:BA)).size<=acc.size+nm.size+40:=by simp only [dX];omega
  simp only [pK,bv (show nm.size<=1073741824 by omega),cd.1,bv (show (((((acc++(⟨#[97,114,114,97,121,32]⟩:BA))++nm)++(⟨#[91]⟩:BA))++dH sz)++(⟨#[93,59,10]⟩:BA)).size<=1073741824 by omega),Bool.and_self,eB,nO];have hd:(decide (sz<0))=!(decide (sz≥0)):=by
   by_cases q:sz<0
   ·rw [dT q,decide_eq_false (by omega)];rfl
   rw [decide_eq_false q,dT (by omega)];rfl
  have IH:(decide (sz>1099511627776))=!(decide (sz<=1099511627776)):=by
   by_cases q:sz<=1099511627776
   ·rw [dT q,decide_eq_false (by omega)];rfl
   rw [decide_eq_false q,dT (by omega)];rfl
  rw [hd,IH];cases hq:aC nm with
  |false=>
   refine GQ.no (fun t ht=>?_);obtain ⟨_,_,hv,_⟩:=ht;exact absurd (dc.1 (dc.1 hv).2).1 (by decide)
  |true=>
   cases h1:decide (sz≥0) with
   |false=>
    refine GQ.no (fun t ht=>?_);obtain ⟨_,_,hv,_⟩:=ht;exact absurd (dc.1 hv).1 (by simp)
   |true=>
    cases h2:decide (sz<=1099511627776) with
    |false=>
     refine GQ.no (fun t ht=>?_);obtain ⟨_,_,hv,_⟩:=ht;exact absurd (dc.1 hv).1 (by simp)
    |true=>
     simp only [Bool.not_true,TM.grd,Bool.and_self,Bool.or_self];refine (AY hA hK r _ cd.2 (by omega)).congr (fun t=>?_);rw [IG,N2];simp only [nH,ByteArray.append_assoc]
theorem AZ{K:Bool->BA->GT}:∀(l pr:List BA) (ok:Bool),nu l+eS 2 pr<=1000000000->AK K l pr.length ok (bP pr (⟨#[44,32]⟩:BA))=K (ok&&Af l) (bP (pr++l) (⟨#[44,32]⟩:BA))
 |[],pr,ok,_=>by simp [AK,Af]
 |v::r,pr,ok,h=>by
  simp only [nu] at h;have hs:=dB (pr++[v]) (⟨#[44,32]⟩:BA);have e2:(⟨#[44,32]⟩:BA).size=2:=rfl;rw [e2] at hs;have hz:eS 2 (pr++[v])<=eS 2 pr+(v.size+2):=by rw [fX];simp only [eS];omega
  simp only [AK];rw [<- kJ];simp only [bv (show v.size<=1073741824 by omega),bv (show (bP (pr++[v]) (⟨#[44,32]⟩:BA)).size<=1073741824 by omega),Bool.and_self,eB];have ih:=AZ (K:=K) r (pr++[v]) (ok&&aC v) (by omega);rw [lA] at ih;rw [show pr.length+1=pr.length + [v].length from rfl,ih];simp [Af,Bool.and_assoc]
theorem wH{n f:Nat}{K:BA->GT}{P:BA->Prop}{A:Nat}(hA:A<=1000000000)(hK:∀acc:BA,acc.size<=A->GQ (fun t=>∃u,P u/\t=acc++u) (K acc)):∀(l:List Pc) (acc:BA),xX n f l=true->acc.size+lz l<=A->GQ (L7 (eW l) P acc) (gU n (di n f) K l acc)
 |[],acc,_,h=>(hK acc (by omega)).congr (fun t=>(yx P acc t).symm)
 |⟨nm,ps,bd,rt⟩::r,acc,cd,h=>by
  simp only [lz] at h;simp only [xX,bE,dE] at cd;have hl:=ew ps;have hj:=rR ps;have iQ:cV ps.length=true:=dT (by omega);have fo:=AZ (K:=AL n (di n f) nm bd rt acc (gU n (di n f) K r)) ps [] (dK nm) (by simp only [eS];omega);rw [m8] at fo;simp only [gU,bv (show nm.size<=1073741824 by omega),iQ,Bool.and_self];rw [show (0:Nat)=([]:List BA).length from rfl,fo];simp only [List.nil_append,AL];obtain ⟨bt,IA,e1,g1,g2,g3⟩:=(qZ n f bd 1 (by omega) cd.1.1.1 (by omega)).ex;obtain ⟨et,Ph,e2,f1,f2,f3⟩:=(kf n rt cd.1.2.2 cd.1.2.1 (by omega)).ex;rw [show (((1:Nat):Int))=1 from rfl] at e1;have pq:(⟨#[112,114,111,99,32]⟩:BA).size=5:=rfl;have qT:(⟨#[40]⟩:BA).size=1:=rfl;have sJ:(⟨#[41,32,123,10]⟩:BA).size=4:=rfl;have sY:(⟨#[32,32,114,101,116,117,114,110,32]⟩:BA).size=9:=rfl;have Iz:(⟨#[59,10,125,10]⟩:BA).size=4:=rfl;obtain ⟨l,du⟩:∃l,bP ps (⟨#[44,32]⟩:BA)=l:=⟨_,rfl⟩;rw [du] at hj ⊢;have hs:(((((((((acc++(⟨#[112,114,111,99,32]⟩:BA))++nm)++(⟨#[40]⟩:BA))++l)++(⟨#[41,32,123,10]⟩:BA))++bt)++(⟨#[32,32,114,101,116,117,114,110,32]⟩:BA))++et)++(⟨#[59,10,125,10]⟩:BA)).size<=acc.size+nm.size+nu ps+dG bd+wtE rt+40:=by simp only [dX];omega
  simp only [e1,e2,bv (show bt.size<=1073741824 by omega),bv (show et.size<=1073741824 by omega),bv (show (((((((((acc++(⟨#[112,114,111,99,32]⟩:BA))++nm)++(⟨#[40]⟩:BA))++l)++(⟨#[41,32,123,10]⟩:BA))++bt)++(⟨#[32,32,114,101,116,117,114,110,32]⟩:BA))++et)++(⟨#[59,10,125,10]⟩:BA)).size<=1073741824 by omega),Bool.and_self,eB];have NW:∀t,L7 (eW (⟨nm,ps,bd,rt⟩::r)) P acc t↔(Af ps=true/\aC nm=true)/\∃b' e',fQ (bI bd 1) b'/\fQ (exprI rt 1 1) e'/\L7 (eW r) P (((((((((acc++(⟨#[112,114,111,99,32]⟩:BA))++nm)++(⟨#[40]⟩:BA))++l)++(⟨#[41,32,123,10]⟩:BA))++b')++(⟨#[32,32,114,101,116,117,114,110,32]⟩:BA))++e')++(⟨#[59,10,125,10]⟩:BA)) t:=by
   intro t;unfold L7;simp only [eW];constructor
   ·rintro ⟨v,u,hv,hu,rfl⟩;obtain ⟨q1,hv⟩:=dc.1 hv;obtain ⟨q2,hv⟩:=dc.1 hv;obtain ⟨a1,b1,PD,lr,rfl⟩:=ct.1 hv;obtain ⟨a2,b2,Vf,mQ,rfl⟩:=ct.1 lr;obtain ⟨a3,b3,SD,WW,rfl⟩:=ct.1 mQ;obtain ⟨a4,b4,Vg,YF,rfl⟩:=ct.1 WW;obtain ⟨e',II,SD⟩:=bl.1 SD;have PD:=aQ.1 PD;have SD:=aQ.1 SD;have Vg:=aQ.1 Vg;subst PD SD Vg;refine ⟨⟨q1,q2⟩,a2,e',Vf,II,b4,u,YF,hu,?_⟩;rw [N2,N2,du];simp only [eF,show b9 1=(⟨#[32,32]⟩:BA) from rfl,nC,nD,nI,iI,iJ,ByteArray.append_assoc]
   rintro ⟨⟨q1,q2⟩,b',e',gV,II,v,u,hv,hu,rfl⟩;refine ⟨_,u,dc.2 ⟨q1,dc.2 ⟨q2,ct.2 ⟨_,_,aQ.2 rfl,ct.2 ⟨b',_,gV,ct.2 ⟨_,_,bl.2 ⟨e',II,aQ.2 rfl⟩,ct.2 ⟨_,v,aQ.2 rfl,hv,rfl⟩,rfl⟩,rfl⟩,rfl⟩⟩⟩,hu,?_⟩;rw [N2,N2,du];simp only [eF,show b9 1=(⟨#[32,32]⟩:BA) from rfl,nC,nD,nI,iI,iJ,ByteArray.append_assoc]
  cases hq:((((!(aC nm&&Af ps))||(!IA))||(!Ph))||decide ((acc.size:Int)>4000)) with
  |true=>
   refine GQ.no (fun t ht=>?_);obtain ⟨⟨q1,q2⟩,b',e',gV,II,v,u,hv,hu,rfl⟩:=(NW t).1 ht;simp only [dX];rw [q1,q2] at hq;simp only [Bool.and_self,Bool.not_true,Bool.false_or,Bool.or_eq_true,Bool.not_eq_true',dE] at hq;rcases hq with (q|q)|q
   ·rcases Nat.lt_or_ge 4000 b'.size with w|w
    ·omega
    have:=g3 b' gV w;rw [q] at this;cases this
   ·rcases Nat.lt_or_ge 4000 e'.size with w|w
    ·omega
    have:=f3 e' II w;rw [q] at this;cases this
   omega
  |false=>
   simp only [Bool.or_eq_false_iff,Bool.not_eq_false',bE] at hq;have Xb:=g2 hq.1.1.2;have Xc:=f2 hq.1.2;refine (wH hA hK r _ cd.2 (by omega)).congr (fun t=>?_);rw [NW];constructor
   ·intro h;exact ⟨⟨hq.1.1.1.2,hq.1.1.1.1⟩,bt,et,Xb,Xc,h⟩
   rintro ⟨_,b',e',gV,II,h⟩;have:=kI gV Xb;have:=kI II Xc
   subst_vars;exact h
theorem IJ{n f:Nat}(m:List Sm)(cd:okB n m=true)(hf:lq m<=f)(acc:BA)(h:acc.size+dG m<=900000000):GQ (fun t=>∃u,fQ (ly m) u/\t=acc++u) (lR (di n f) m acc):=by
 obtain ⟨mt,ok,e1,g1,g2,g3⟩:=(qZ n f m 1 hf cd (by omega)).ex;rw [show (((1:Nat):Int))=1 from rfl] at e1;have pq:(⟨#[109,97,105,110,32,123,10]⟩:BA).size=7:=rfl;have qT:(⟨#[125,10]⟩:BA).size=2:=rfl;have NW:∀t,(∃u,fQ (ly m) u/\t=acc++u)↔∃b',fQ (bI m 1) b'/\t=((acc++(⟨#[109,97,105,110,32,123,10]⟩:BA))++b')++(⟨#[125,10]⟩:BA):=by
  intro t;unfold ly;constructor
  ·rintro ⟨u,hu,rfl⟩;obtain ⟨a1,b1,PD,lr,rfl⟩:=ct.1 hu;obtain ⟨a2,b2,Vf,mQ,rfl⟩:=ct.1 lr;have PD:=aQ.1 PD;have mQ:=aQ.1 mQ;subst PD mQ;exact ⟨a2,Vf,by simp only [N2,nD,nJ,ByteArray.append_assoc]⟩
  rintro ⟨b',gV,rfl⟩;exact ⟨_,ct.2 ⟨_,_,aQ.2 rfl,ct.2 ⟨b',_,gV,aQ.2 rfl,rfl⟩,rfl⟩,by simp only [N2,nD,nJ,ByteArray.append_assoc]⟩
 have hs:(((acc++(⟨#[109,97,105,110,32,123,10]⟩:BA))++mt)++(⟨#[125,10]⟩:BA)).size<=acc.size+mt.size+9:=by simp only [dX];omega
 simp only [lR,e1,bv (show mt.size<=1073741824 by omega)];rw [oB (by omega)];refine GQ.congr (p:=fun t=>∃b',fQ (bI m 1) b'/\t=((acc++(⟨#[109,97,105,110,32,123,10]⟩:BA))++b')++(⟨#[125,10]⟩:BA)) ⟨⟨_,_,rfl,fun q=>?_,fun t ht hs=>?_⟩⟩ (fun t=>(NW t).symm)
 ·simp only [bE,dE] at q;exact ⟨⟨mt,g2 q.1,rfl⟩,by omega⟩
 obtain ⟨b',gV,rfl⟩:=ht;have cd:=g3 b' gV (by simp only [dX] at hs;omega);have:=kI gV (g2 cd);subst this;rw [cd,dT (by omega)];rfl
theorem IK(n f:Nat)(p:Pg)(cd:okPg n f p=true)(hw:wtPg p<=400000000):∃s b,AM n f p=some (s,b)/\(b=true->j9 n f p=.ok s)/\(b=false->j9 n f p=.bad):=by
 have SE:=cd;have RN:=hw;simp only [okPg,bE,dE] at cd;simp only [wtPg] at hw;have l1:=ew p.vars;have l2:=mP p.arrays;have l3:=kA p.procs;have c1:cV p.vars.length=true:=dT (by omega);have c2:cV p.arrays.length=true:=dT (by omega);have c3:cV p.procs.length=true:=dT (by omega);have e0:(⟨#[]⟩:BA).size=0:=rfl;have h1:∀acc:BA,acc.size<=nu p.vars+xW p.arrays+lz p.procs->GQ (fun t=>∃u,fQ (ly p.main) u/\t=acc++u) (lR (di n f) p.main acc):=fun acc ha=>IJ p.main cd.2.1 (by omega) acc (by omega)
 have h2:∀acc:BA,acc.size<=nu p.vars+xW p.arrays->GQ (fun t=>∃u,fQ (iE (eW p.procs) (ly p.main)) u/\t=acc++u) (gU n (di n f) (lR (di n f) p.main) p.procs acc):=fun acc ha=>(wH (by omega) h1 p.procs acc cd.1.2 (by omega)).congr (fun t=>by
  constructor
  ·rintro ⟨v,u,hv,hu,rfl⟩;exact ⟨_,ct.2 ⟨v,u,hv,hu,rfl⟩,rfl⟩
  rintro ⟨w,hw,rfl⟩;obtain ⟨v,u,hv,hu,rfl⟩:=ct.1 hw;exact ⟨v,u,hv,hu,rfl⟩)
 have h3:∀acc:BA,acc.size<=nu p.vars->GQ (fun t=>∃u,fQ (iE (nO p.arrays) (iE (eW p.procs) (ly p.main))) u/\t=acc++u) (pK (gU n (di n f) (lR (di n f) p.main) p.procs) p.arrays acc):=fun acc ha=>(AY (by omega) h2 p.arrays acc cd.1.1 (by omega)).congr (fun t=>by
  constructor
  ·rintro ⟨v,u,hv,hu,rfl⟩;exact ⟨_,ct.2 ⟨v,u,hv,hu,rfl⟩,rfl⟩
  rintro ⟨w,hw,rfl⟩;obtain ⟨v,u,hv,hu,rfl⟩:=ct.1 hw;exact ⟨v,u,hv,hu,rfl⟩)
 have h4:=AX (by omega) h3 p.vars ⟨#[]⟩ (by omega);have em:∀a:BA,(⟨#[]⟩:BA)++a=a:=fun a=>by apply ByteArray.ext;simp
 have h5:GQ (fQ (jq p)) (AM n f p):=by
  unfold AM;rw [c1,c2,c3];exact h4.congr (fun t=>by
   constructor
   ·rintro ⟨v,u,hv,hu,rfl⟩;rw [em];exact ct.2 ⟨v,u,hv,hu,rfl⟩
   intro h;obtain ⟨v,u,hv,hu,rfl⟩:=ct.1 h;exact ⟨v,u,hv,hu,by rw [em]⟩)
 obtain ⟨s,b,e,g1,g2⟩:=h5.ex;refine ⟨s,b,e,fun q=>?_,fun q=>?_⟩
 ·obtain ⟨⟨k,hk⟩,hs⟩:=g1 q;rw [oy n f p SE (by omega),hk];simp only [dT hs]
 rw [oy n f p SE (by omega)];cases hx:jq p with
 |none=>rfl
 |some y=>
  obtain ⟨t,k⟩:=y;simp only;rw [decide_eq_false];intro hs;have:=g2 t ⟨k,hx⟩ hs;rw [q] at this;cases this
section
def bs8(t:BA):List UInt8:=t.data.toList
theorem PE{a b:BA}(h:bs8 a=bs8 b):a=b:=by
 apply ByteArray.ext;exact Array.toList_inj.1 h
def Rem(s:BA)(p:PS s)(l:List UInt8):Prop:=∃j,j<=s.size/\(bs8 s).drop j=l/\p.i=ej s (s.size - j) j/\p.w=(s.extract p.i s.size).extract 0 (jx (s.extract p.i s.size))
section
variable {s:BA}{p:PS s}
end
def brk(l:List UInt8):Prop:=∀c,l.head? = some c->La c.toNat=false/\isD c.toNat=false
section
variable {s:BA}{p:PS s}
end
end
section
def Gets{s:BA}{α:Type}(r:R s α)(a:α)(l:List UInt8):Prop:=match r with
 |.ok b q=>b=a/\Rem s q l
 |.bad _ _=>False
 |.out=>True
section
variable {s:BA}
end
end
section
section
variable {s:BA}
def Via1(r:R s Ex)(d:Int)(e:Ex)(l:List UInt8):Prop:=r=.out\/∃n q,Rem s q l/\r=lg s n d e q
def Via2(r:R s Ex)(d:Int)(e:Ex)(l:List UInt8):Prop:=r=.out\/∃n q,Rem s q l/\r=jb s n d e q
def St3(s:BA)(l:List UInt8):Prop:=∀q:PS s,Rem s q l->eqW q.w ⟨#[91]⟩=false
def St2(s:BA)(l:List UInt8):Prop:=∀q:PS s,Rem s q l->eqW q.w ⟨#[91]⟩=false/\(eqW q.w ⟨#[42]⟩||eqW q.w ⟨#[47]⟩||eqW q.w ⟨#[37]⟩)=false
def St1(s:BA)(l:List UInt8):Prop:=∀q:PS s,Rem s q l->eqW q.w ⟨#[91]⟩=false/\(eqW q.w ⟨#[42]⟩||eqW q.w ⟨#[47]⟩||eqW q.w ⟨#[37]⟩)=false/\(eqW q.w ⟨#[43]⟩||eqW q.w ⟨#[45]⟩)=false
theorem St1.two{l:List UInt8}(h:St1 s l):St2 s l:=fun q hq=>⟨(h q hq).1,(h q hq).2.1⟩
theorem A0{r:Int}{b:Int->TIs}{bc d:Int}{t:BA}{k:Nat}(h:ez r b bc d=some (t,k)):d<=12/\((r<bc/\d+1<=12/\∃t' k',b (d+1)=some (t',k')/\t=(⟨#[40]⟩++t')++⟨#[41]⟩)\/(¬r<bc/\∃k',b d=some (t,k'))):=by
 unfold ez at h;cases hd:decide (d<=12) with
 |false=>rw [hd] at h;cases h
 |true=>
  rw [hd] at h;refine ⟨oT hd,?_⟩;cases hr:decide (r<bc) with
  |true=>
   rw [hr] at h;cases sE:decide (d+1<=12) with
   |false=>rw [sE] at h;cases h
   |true=>
    rw [sE] at h;cases hb:b (d+1) with
    |none=>rw [hb] at h;cases h
    |some y=>
     obtain ⟨t',k'⟩:=y;rw [hb] at h;simp only [Option.map_some,sI,Prod.mk.injEq] at h;exact .inl ⟨oT hr,oT sE,t',k',rfl,h.1.symm⟩
  |false=>
   rw [hr] at h;cases hb:b d with
   |none=>rw [hb] at h;cases h
   |some y=>
    obtain ⟨t',k'⟩:=y;rw [hb] at h;simp only [Option.map_some,sI,Prod.mk.injEq] at h;exact .inr ⟨oF hr,k',by rw [h.1]⟩
theorem wI{op:BA}{n:Int}{nm:BA}{l:List Ex}{d:Int}{t:BA}{k:Nat}(h:fE (.mk op n nm l) d=some (t,k)):
  (op=⟨#[110,117,109]⟩/\nm=⟨#[]⟩/\l=[]/\n≥0/\n<=1099511627776/\t=dH n)\/
  (op=⟨#[118,97,114]⟩/\n=0/\l=[]/\aC nm=true/\t=nm)\/
  (op=⟨#[97,116]⟩/\n=0/\aC nm=true/\∃x t' k',l=[x]/\exprI x 1 (d+1)=some (t',k')/\t=((nm++⟨#[91]⟩)++t')++⟨#[93]⟩)\/
  (op=⟨#[110,101,103]⟩/\n=0/\nm=⟨#[]⟩/\∃x t' k',l=[x]/\exprI x 3 (d+1)=some (t',k')/\t=⟨#[45]⟩++t')\/
  (fO op=true/\n=0/\nm=⟨#[]⟩/\∃x y t1 k1 t2 k2,l=[x,y]/\exprI x (aU op) d=some (t1,k1)/\exprI y (aU op+1) d=some (t2,k2)/\t=(((t1++⟨#[32]⟩)++op)++⟨#[32]⟩)++t2):=by
 have bZ:∀l:List Ex,∀m:Nat,(((bR l).length:Int)==(m:Int))=true->l.length=m:=by
  intro l m h;have:=eq_of_beq h;rw [ba] at this;omega
 unfold fE at h;split at h
 ·rename_i h1;split at h
  ·rename_i h2;simp only [bE,dE] at h2;simp only [sI,Prod.mk.injEq] at h;exact .inl ⟨dj h1,dj h2.1.2,lE (bZ l 0 h2.2),h2.1.1.1,h2.1.1.2,h.1.symm⟩
  cases h
 split at h
 ·rename_i h1;split at h
  ·rename_i h2;simp only [bE] at h2;simp only [sI,Prod.mk.injEq] at h;exact .inr (.inl ⟨dj h1,eq_of_beq h2.1.1,lE (bZ l 0 h2.1.2),h2.2,h.1.symm⟩)
  cases h
 split at h
 ·rename_i h1;split at h
  ·rename_i x h2;simp only [bE] at h2;cases hx:ez (aU x.op) (fE x) 1 (d+1) with
   |none=>rw [hx] at h;cases h
   |some y=>
    obtain ⟨t',k'⟩:=y;rw [hx] at h;simp only [Option.map_some,sI,Prod.mk.injEq] at h;exact .inr (.inr (.inl ⟨dj h1,eq_of_beq h2.1.1,h2.2,x,t',k',rfl,hx,h.1.symm⟩))
  cases h
 split at h
 ·rename_i h1;split at h
  ·rename_i x h2;simp only [bE] at h2;cases hx:ez (aU x.op) (fE x) 3 (d+1) with
   |none=>rw [hx] at h;cases h
   |some y=>
    obtain ⟨t',k'⟩:=y;rw [hx] at h;simp only [Option.map_some,sI,Prod.mk.injEq] at h;exact .inr (.inr (.inr (.inl ⟨dj h1,eq_of_beq h2.1.1,dj h2.1.2,x,t',k',rfl,hx,h.1.symm⟩)))
  cases h
 split at h
 ·rename_i x y h2;simp only [bE] at h2;cases hx:ez (aU x.op) (fE x) (aU op) d with
  |none=>rw [hx] at h;cases h
  |some u=>
   obtain ⟨t1,k1⟩:=u;rw [hx] at h;simp only [Option.bind_some] at h;cases hy:ez (aU y.op) (fE y) (aU op+1) d with
   |none=>rw [hy] at h;cases h
   |some v=>
    obtain ⟨t2,k2⟩:=v;rw [hy] at h;simp only [Option.map_some,sI,Prod.mk.injEq] at h;exact .inr (.inr (.inr (.inr ⟨h2.1,eq_of_beq h2.2.1.1,dj h2.2.1.2,x,y,t1,k1,t2,k2,rfl,hx,hy,h.1.symm⟩)))
 cases h
structure XOk (s:BA) (e:Ex):Prop where
 x3:∀(d:Int) (t:BA) (k n:Nat) (p:PS s) (l:List UInt8),0<=d->exprI e 3 d=some (t,k)->brk l->St3 s l->Rem s p (bs8 t++l)->Gets (factorF s n d p) e l
 x2:∀(d:Int) (t:BA) (k n:Nat) (p:PS s) (l:List UInt8),0<=d->exprI e 2 d=some (t,k)->brk l->St3 s l->Rem s p (bs8 t++l)->Via2 (productF s n d p) d e l
 x1:∀(d:Int) (t:BA) (k n:Nat) (p:PS s) (l:List UInt8),0<=d->exprI e 1 d=some (t,k)->brk l->St2 s l->Rem s p (bs8 t++l)->Via1 (termF s n d p) d e l
end
end
section
def SF(sep:List UInt8):List BA->List UInt8
 |[]=>[]
 |x::r=>sep++(bs8 x++SF sep r)
theorem A1(sep:List UInt8):∀r:List BA,Lib.joinTail sep (r.map (·.data.toList))=SF sep r
 |[]=>rfl
 |x::r=>by
  have:=A1 sep r;simp only [Lib.joinTail] at this;simp only [Lib.joinTail,List.map_cons,List.flatten_cons,SF,this,List.append_assoc];rfl
theorem join_cons(sep:BA)(x:BA)(r:List BA):bs8 (bP (x::r) sep)=bs8 x++SF (bs8 sep) r:=by
 show Lib.join (x.data.toList::r.map (·.data.toList)) sep.data.toList=_
 rw [Lib.join_cons,A1];rfl
section
variable {s:BA}
end
end
end Go.Abs
end
