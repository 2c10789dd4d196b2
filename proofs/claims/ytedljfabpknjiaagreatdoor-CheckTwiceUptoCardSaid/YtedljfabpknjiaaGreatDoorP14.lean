/- Texts of this proof, joined: AbsMX, AbsUG, AbsJB, AbsJC, AbsJD. -/
import Derived.Test.YtedljfabpknjiaaGreatDoorP6
import Derived.Test.YtedljfabpknjiaaGreatDoorP13
import Derived.Test.YtedljfabpknjiaaGreatDoorP12
section
namespace Go.Abs
open Go
/-- A state of a run: variables, arrays, what is still to be read, steps. -/
structure MS where
 vs:List (ByteArray×Int)
 ar:List (ByteArray×List Int)
 inp:List Int
 steps:Int
def getV:List (ByteArray×Int)→ByteArray→Int
 |[],_=>0
 | (k,p)::r,s=>match s==k with
  |true=>p
  |false=>getV r s
def putV:List (ByteArray×Int)→ByteArray→Int→List (ByteArray×Int)
 |[],s,p=>[(s,p)]
 | (k,q)::r,s,p=>match s==k with
  |true=>(k,p)::r
  |false=>(k,q)::putV r s p
def getA:List (ByteArray×List Int)→ByteArray→List Int
 |[],_=>[]
 | (k,p)::r,s=>match s==k with
  |true=>p
  |false=>getA r s
def setA:List (ByteArray×List Int)→ByteArray→Nat→Int→List (ByteArray×List Int)
 |[],_,_,_=>[]
 | (k,q)::r,s,i,p=>match s==k with
  |true=>(k,q.set i p)::r
  |false=>(k,q)::setA r s i p
def farM(n:Int):Bool:=decide (n>1099511627776)||decide (n < -1099511627776)
/-- A number that may be. -/
def smallM(n:Int):Option Int:=match farM n with
 |true=>none
 |false=>some n
/-- A product, where it is not too great to tell. -/
def prodM(a b:Int):Option Int:=match (a != 0)&&decide (maxI b (IntKind.i64.wrap (0 - b))>IntKind.i64.wrap (Int.tdiv 4611686018427387904 (maxI a (IntKind.i64.wrap (0 - a))))) with
 |true=>none
 |false=>some (IntKind.i64.wrap (a * b))
/-- What a term comes to: none where the run is wrong. -/
def evM(vs:List (ByteArray×Int))(ar:List (ByteArray×List Int)):Ex→Option Int
 |.mk op n nm l=>match op.toList==(⟨#[110,117,109]⟩:ByteArray).toList with
  |true=>smallM n
  |false=>match op.toList==(⟨#[118,97,114]⟩:ByteArray).toList with
   |true=>some (getV vs nm)
   |false=>match op.toList==(⟨#[97,116]⟩:ByteArray).toList with
    |true=>match l with
     |x::_=>match evM vs ar x with
      |none=>none
      |some i=>match decide (i<0)||decide (i≥((getA ar nm).length:Int)) with
       |true=>none
       |false=>(getA ar nm)[i.toNat]?
     |[]=>none
    |false=>match op.toList==(⟨#[110,101,103]⟩:ByteArray).toList with
     |true=>match l with
      |x::_=>match evM vs ar x with
       |none=>none
       |some i=>some (IntKind.i64.wrap (0 - i))
      |[]=>none
     |false=>match l with
      |x::y::_=>match evM vs ar x with
       |none=>none
       |some a=>match evM vs ar y with
        |none=>none
        |some b=>match op.toList==(⟨#[43]⟩:ByteArray).toList with
         |true=>smallM (IntKind.i64.wrap (a+b))
         |false=>match op.toList==(⟨#[45]⟩:ByteArray).toList with
          |true=>smallM (IntKind.i64.wrap (a - b))
          |false=>match op.toList==(⟨#[42]⟩:ByteArray).toList with
           |true=>match prodM a b with
            |none=>none
            |some c=>smallM c
           |false=>match b==0 with
            |true=>none
            |false=>match op.toList==(⟨#[47]⟩:ByteArray).toList with
             |true=>some (IntKind.i64.wrap (Int.tdiv a b))
             |false=>some (Int.tmod a b)
      |_=>none
def holdsM(a:Int)(rel:ByteArray)(b:Int):Bool:=match rel.toList==(⟨#[60]⟩:ByteArray).toList with
 |true=>decide (a<b)
 |false=>match rel.toList==(⟨#[60,61]⟩:ByteArray).toList with
  |true=>decide (a≤b)
  |false=>match rel.toList==(⟨#[61,61]⟩:ByteArray).toList with
   |true=>a==b
   |false=>match rel.toList==(⟨#[33,61]⟩:ByteArray).toList with
    |true=>a != b
    |false=>match rel.toList==(⟨#[62]⟩:ByteArray).toList with
     |true=>decide (a>b)
     |false=>decide (a≥b)
def rowM(vs:List (ByteArray×Int))(ar:List (ByteArray×List Int)):List Ts→Option Bool
 |[]=>some true
 |t::r=>match evM vs ar t.a with
  |none=>none
  |some a=>match evM vs ar t.b with
   |none=>none
   |some b=>match holdsM a t.rel b with
    |true=>rowM vs ar r
    |false=>some false
def condM(vs:List (ByteArray×Int))(ar:List (ByteArray×List Int)):List (List Ts)→Option Bool
 |[]=>some false
 |r::c=>match rowM vs ar r with
  |none=>none
  |some true=>some true
  |some false=>condM vs ar c
/-- What a part of a run comes to: on it goes; it has ended; not told within so many rounds. -/
inductive MO where
 |ok (S:MS)
 |stop (k:ByteArray) (S:MS)
 |out
def MO.bind:MO→(MS→MO)→MO
 |.ok S,f=>f S
 |.stop k S,_=>.stop k S
 |.out,_=>.out
def wTired:ByteArray:=⟨#[116,105,114,101,100]⟩
def wWrong:ByteArray:=⟨#[119,114,111,110,103]⟩
def wStuck:ByteArray:=⟨#[115,116,117,99,107]⟩
def wFailed:ByteArray:=⟨#[102,97,105,108,101,100]⟩
/-- One more step. -/
def stepM(F:Int)(S:MS):MO:=match S.steps==F with
 |true=>.stop wTired S
 |false=>.ok { S with steps:=S.steps+1 }
def evS(S:MS)(e:Ex)(f:Int→MO):MO:=match evM S.vs S.ar e with
 |none=>.stop wWrong S
 |some n=>f n
def cdS(S:MS)(c:List (List Ts))(f:Bool→MO):MO:=match condM S.vs S.ar c with
 |none=>.stop wWrong S
 |some b=>f b
/-- The values of a call, one by one. -/
def prmM:List ByteArray→List Ex→MS→MO
 |[],_,S=>.ok S
 |v::r,e::l,S=>evS S e fun n=>prmM r l { S with vs:=putV S.vs v n }
 |_::_,[],S=>.stop wWrong S
/-- The procedure of a name. -/
def findP(ps:List Pc)(v:ByteArray):Option Pc:=ps.find? fun f=>f.name.toList==v.toList
mutual
def blkM(ps:List Pc)(F:Int):Nat→List Sm→MS→MO
 |0,_,_=>.out
 |_+1,[],S=>.ok S
 |n+1,s::r,S=>((stepM F S).bind fun S=>stM ps F n s S).bind fun S=>blkM ps F n r S
def stM(ps:List Pc)(F:Int):Nat→Sm→MS→MO
 |0,_,_=>.out
 |n+1,.mk kind name proc args cond body els,S=>match kind.toList==(⟨#[115,101,116]⟩:ByteArray).toList with
  |true=>match args with
   |x::_=>evS S x fun a=>.ok { S with vs:=putV S.vs name a }
   |[]=>.stop wWrong S
  |false=>match kind.toList==(⟨#[112,117,116]⟩:ByteArray).toList with
   |true=>match args with
    |x::y::_=>evS S x fun i=>evS S y fun a=>match decide (i<0)||decide (i≥((getA S.ar name).length:Int)) with
     |true=>.stop wWrong S
     |false=>.ok { S with ar:=setA S.ar name i.toNat a }
    |_=>.stop wWrong S
   |false=>match kind.toList==(⟨#[114,101,97,100]⟩:ByteArray).toList with
    |true=>match S.inp with
     |[]=>.stop wWrong S
     |a::r=>.ok { S with vs:=putV S.vs name a,inp:=r }
    |false=>match kind.toList==(⟨#[99,97,108,108]⟩:ByteArray).toList with
     |true=>match findP ps proc with
      |some f=>((prmM f.params args S).bind fun S=>blkM ps F n f.body S).bind fun S=>evS S f.ret fun a=>.ok { S with vs:=putV S.vs name a }
      |none=>.stop wWrong S
     |false=>match kind.toList==(⟨#[105,102]⟩:ByteArray).toList with
      |true=>cdS S cond fun b=>match b with
       |true=>blkM ps F n body S
       |false=>blkM ps F n els S
      |false=>match kind.toList==(⟨#[119,104,105,108,101]⟩:ByteArray).toList with
       |true=>whM ps F n cond body S
       |false=>match kind.toList==(⟨#[97,115,115,117,109,101]⟩:ByteArray).toList with
        |true=>cdS S cond fun b=>match b with
         |true=>.ok S
         |false=>.stop wStuck S
        |false=>match kind.toList==(⟨#[97,115,115,101,114,116]⟩:ByteArray).toList with
         |true=>cdS S cond fun b=>match b with
          |true=>.ok S
          |false=>.stop wFailed S
         |false=>.ok S
def whM(ps:List Pc)(F:Int):Nat→List (List Ts)→List Sm→MS→MO
 |0,_,_,_=>.out
 |n+1,cond,body,S=>cdS S cond fun b=>match b with
  |true=>((blkM ps F n body S).bind fun S=>stepM F S).bind fun S=>whM ps F n cond body S
  |false=>.ok S
end
/-- What a run with more fuel comes to beside one with less: the same, or the one with less is tired, and then the other has done at least as many steps. -/
def Fuel(F:Int)(S:MS)(a b:MO):Prop:=match a with
 |.out=>True
 |.ok S1=>b=.ok S1∧S.steps≤S1.steps∧S1.steps≤F
 |.stop k S1=>S.steps≤S1.steps∧S1.steps≤F∧(b=.stop k S1∨(k=wTired∧S1.steps=F∧match b with
  |.out=>True
  |.ok S2=>F≤S2.steps
  |.stop _ S2=>F≤S2.steps))
/-- Steps grow. -/
def Grow(S:MS)(a:MO):Prop:=match a with
 |.out=>True
 |.ok S1=>S.steps≤S1.steps
 |.stop _ S1=>S.steps≤S1.steps
theorem grow_bind{S:MS}{a:MO}{f:MS→MO}(h:Grow S a)(k:∀S1,Grow S1 (f S1)):Grow S (a.bind f):=by
 cases a with
 |out=>trivial
 |stop k S1=>exact h
 |ok S1=>
  have h:S.steps≤S1.steps:=h;have:=k S1
  show Grow S (f S1)
  cases hf:f S1 with
  |out=>trivial
  |ok S2=>rw [hf] at this;exact Int.le_trans h this
  |stop k S2=>rw [hf] at this;exact Int.le_trans h this
theorem fuel_bind{F:Int}{S:MS}{a b:MO}{f g:MS→MO}(h:Fuel F S a b)(k:∀S1,S1.steps≤F→Fuel F S1 (f S1) (g S1))(kg:∀S1,Grow S1 (g S1)):Fuel F S (a.bind f) (b.bind g):=by
 cases a with
 |out=>trivial
 |ok S1=>
  obtain ⟨rfl,h1,h2⟩:=h;have:=k S1 h2
  show Fuel F S (f S1) (g S1)
  cases hf:f S1 with
  |out=>trivial
  |ok S2=>
   rw [hf] at this;exact ⟨this.1,Int.le_trans h1 this.2.1,this.2.2⟩
  |stop q S2=>
   rw [hf] at this;exact ⟨Int.le_trans h1 this.1,this.2⟩
 |stop q S1=>
  obtain ⟨h1,h2,h3⟩:=h;refine ⟨h1,h2,?_⟩
  rcases h3 with rfl|⟨e1,e2,e3⟩
  ·exact .inl rfl
  refine .inr ⟨e1,e2,?_⟩
  cases b with
  |out=>trivial
  |stop k S2=>exact e3
  |ok S2=>
   have e3:F≤S2.steps:=e3;have:=kg S2
   show match g S2 with
    |.out=>True
    |.ok S3=>F≤S3.steps
    |.stop _ S3=>F≤S3.steps
   cases hg:g S2 with
   |out=>trivial
   |ok S3=>rw [hg] at this;exact Int.le_trans e3 this
   |stop k S3=>rw [hg] at this;exact Int.le_trans e3 this
theorem grow_ev{S:MS}{e:Ex}{f:Int→MO}(h:∀n,Grow S (f n)):Grow S (evS S e f):=by
 unfold evS
 split
 ·exact Int.le_refl _
 exact h _
theorem grow_cd{S:MS}{e:List (List Ts)}{f:Bool→MO}(h:∀n,Grow S (f n)):Grow S (cdS S e f):=by
 unfold cdS
 split
 ·exact Int.le_refl _
 exact h _
theorem grow_step(F:Int)(S:MS):Grow S (stepM F S):=by
 unfold stepM
 split
 ·exact Int.le_refl _
 show S.steps≤S.steps+1
 omega
theorem grow_prm:∀(l:List ByteArray) (es:List Ex) (S:MS),Grow S (prmM l es S)
 |[],_,S=>Int.le_refl _
 |v::r,[],S=>Int.le_refl _
 |v::r,e::l,S=>by
  simp only [prmM];exact grow_ev fun n=>grow_prm r l { S with vs:=putV S.vs v n }
theorem grow_all(ps:List Pc)(F:Int):∀n,(∀l S,Grow S (blkM ps F n l S))∧(∀s S,Grow S (stM ps F n s S))∧(∀c l S,Grow S (whM ps F n c l S))
 |0=>⟨fun l S=>by simp only [blkM];trivial,fun s S=>by simp only [stM];trivial,fun c l S=>by simp only [whM];trivial⟩
 |n+1=>by
  obtain ⟨h1,h2,h3⟩:=grow_all ps F n;refine ⟨fun l S=>?_,fun s S=>?_,fun c l S=>?_⟩
  ·cases l with
   |nil=>simp only [blkM];exact Int.le_refl _
   |cons s r=>
    simp only [blkM];exact grow_bind (grow_bind (grow_step F S) fun S=>h2 s S) fun S=>h1 r S
  ·obtain ⟨kind,name,proc,args,cond,body,els⟩:=s
   simp only [stM]
   repeat' split
   all_goals first
    |exact Int.le_refl _
    |exact grow_ev fun n=>Int.le_refl _
    |exact grow_ev fun n=>grow_ev fun m=>by split <;> exact Int.le_refl _
    |exact grow_bind (grow_bind (grow_prm _ _ _) fun S=>h1 _ S) fun S=>grow_ev fun n=>Int.le_refl _
    |exact h3 _ _ _
    |exact grow_cd fun b=>by cases b <;> first|exact h1 _ _|exact Int.le_refl _
  simp only [whM]
  exact grow_cd fun b=>by
   cases b with
   |true=>exact grow_bind (grow_bind (h1 _ _) fun S=>grow_step F S) fun S=>h3 _ _ S
   |false=>exact Int.le_refl _
theorem fuel_self{F:Int}{S S1:MS}(h:S.steps≤F)(e:S1.steps=S.steps):Fuel F S (.ok S1) (.ok S1):=⟨rfl,Int.le_of_eq e.symm,by rw [e];exact h⟩
theorem fuel_stop{F:Int}{S:MS}{k:ByteArray}(h:S.steps≤F):Fuel F S (.stop k S) (.stop k S):=⟨Int.le_refl _,h,.inl rfl⟩
theorem fuel_ev{F:Int}{S:MS}{e:Ex}{f g:Int→MO}(h0:S.steps≤F)(h:∀n,Fuel F S (f n) (g n)):Fuel F S (evS S e f) (evS S e g):=by
 unfold evS
 split
 ·exact fuel_stop h0
 exact h _
theorem fuel_cd{F:Int}{S:MS}{e:List (List Ts)}{f g:Bool→MO}(h0:S.steps≤F)(h:∀n,Fuel F S (f n) (g n)):Fuel F S (cdS S e f) (cdS S e g):=by
 unfold cdS
 split
 ·exact fuel_stop h0
 exact h _
theorem fuel_step{F F':Int}(hF:F≤F'){S:MS}(h:S.steps≤F):Fuel F S (stepM F S) (stepM F' S):=by
 unfold stepM
 cases q:S.steps==F with
 |true=>
  have q:=eq_of_beq q;refine ⟨Int.le_refl _,h,.inr ⟨rfl,q,?_⟩⟩
  cases q2:S.steps==F' with
  |true=>exact Int.le_of_eq q.symm
  |false=>show F≤S.steps+1;omega
 |false=>
  have q:S.steps≠F:=fun e=>by rw [e] at q;simp at q
  have q2:(S.steps==F')=false:=beq_eq_false_iff_ne.2 (by omega);rw [q2];exact ⟨rfl,by show S.steps≤S.steps+1;omega,by show S.steps+1≤F;omega⟩
theorem fuel_prm{F:Int}:∀(l:List ByteArray) (es:List Ex) (S:MS),S.steps≤F→Fuel F S (prmM l es S) (prmM l es S)
 |[],_,S,h=>fuel_self h rfl
 |v::r,[],S,h=>fuel_stop h
 |v::r,e::l,S,h=>by
  simp only [prmM];exact fuel_ev h fun n=>fuel_prm r l { S with vs:=putV S.vs v n } h
theorem fuel_all(ps:List Pc){F F':Int}(hF:F≤F'):∀n,(∀l S,S.steps≤F→Fuel F S (blkM ps F n l S) (blkM ps F' n l S))∧(∀s S,S.steps≤F→Fuel F S (stM ps F n s S) (stM ps F' n s S))∧(∀c l S,S.steps≤F→Fuel F S (whM ps F n c l S) (whM ps F' n c l S))
 |0=>⟨fun l S _=>by simp only [blkM];trivial,fun s S _=>by simp only [stM];trivial,fun c l S _=>by simp only [whM];trivial⟩
 |n+1=>by
  obtain ⟨h1,h2,h3⟩:=fuel_all ps hF n;obtain ⟨g1,g2,g3⟩:=grow_all ps F' n;refine ⟨fun l S h=>?_,fun s S h=>?_,fun c l S h=>?_⟩
  ·cases l with
   |nil=>simp only [blkM];exact fuel_self h rfl
   |cons s r=>
    simp only [blkM];exact fuel_bind (fuel_bind (fuel_step hF h) (fun S h=>h2 s S h) fun S=>g2 s S) (fun S h=>h1 r S h) fun S=>g1 r S
  ·obtain ⟨kind,name,proc,args,cond,body,els⟩:=s
   simp only [stM]
   repeat' split
   all_goals first
    |exact fuel_stop h
    |exact fuel_self h rfl
    |exact fuel_ev h fun n=>fuel_self h rfl
    |exact fuel_ev h fun n=>fuel_ev h fun m=>by split <;> first|exact fuel_stop h|exact fuel_self h rfl
    |exact fuel_bind (fuel_bind (fuel_prm _ _ _ h) (fun S h=>h1 _ S h) fun S=>g1 _ S) (fun S h=>fuel_ev h fun n=>fuel_self h rfl) fun S=>grow_ev fun n=>Int.le_refl _
    |exact h3 _ _ _ h
    |exact fuel_cd h fun b=>by cases b <;> first|exact h1 _ _ h|exact fuel_stop h|exact fuel_self h rfl
  simp only [whM]
  exact fuel_cd h fun b=>by
   cases b with
   |true=>exact fuel_bind (fuel_bind (h1 _ _ h) (fun S h=>fuel_step hF h) fun S=>grow_step F' S) (fun S h=>h3 _ _ S h) fun S=>g3 _ _ S
   |false=>exact fuel_self h rfl
/-- All of main. -/
def allM(ps:List Pc)(F:Int)(n:Nat)(l:List Sm)(S:MS):Option (ByteArray×MS):=match blkM ps F n l S with
 |.ok S=>some (⟨#[100,111,110,101]⟩,S)
 |.stop k S=>some (k,S)
 |.out=>none
end Go.Abs
end
section
namespace Go.Abs
open Go Go.Proofs
/-- How many parts an operator wants. -/
def arOf(op:ByteArray):Nat:=match op.toList==(⟨#[110,117,109]⟩:ByteArray).toList with
 |true=>0
 |false=>match op.toList==(⟨#[118,97,114]⟩:ByteArray).toList with
  |true=>0
  |false=>match op.toList==(⟨#[97,116]⟩:ByteArray).toList with
   |true=>1
   |false=>match op.toList==(⟨#[110,101,103]⟩:ByteArray).toList with
    |true=>1
    |false=>2
theorem arOf_le(op:ByteArray):arOf op≤2:=by
 unfold arOf
 repeat' split
 all_goals omega
mutual
def shE:Ex→Bool
 |.mk op _ _ l=>Nat.ble (arOf op) l.length&&shL l
def shL:List Ex→Bool
 |[]=>true
 |e::r=>shE e&&shL r
end
def shT(t:Ts):Bool:=shE t.a&&shE t.b
def shR:List Ts→Bool
 |[]=>true
 |t::r=>shT t&&shR r
def shC:List (List Ts)→Bool
 |[]=>true
 |t::r=>shR t&&shC r
theorem expr_body{e:Ex}{least d:Int}{x:ByteArray×Nat}(h:exprI e least d=some x):∃d' t' k',bodyI e d'=some (t',k'):=by
 obtain ⟨t,k⟩:=x
 unfold exprI at h
 obtain ⟨_,⟨_,_,t',k',h1,_⟩|⟨_,k',h1⟩⟩:=closeI_some h
 ·exact ⟨_,t',k',h1⟩
 exact ⟨_,_,k',h1⟩
theorem ar0:arOf ⟨#[110,117,109]⟩=0:=by kernel_rfl
theorem ar1:arOf ⟨#[118,97,114]⟩=0:=by kernel_rfl
theorem ar2:arOf ⟨#[97,116]⟩=1:=by kernel_rfl
theorem ar3:arOf ⟨#[110,101,103]⟩=1:=by kernel_rfl
theorem shE_of:∀(e:Ex) (least d:Int) (x:ByteArray×Nat),exprI e least d=some x→shE e=true:=by
 refine Ex.rec (motive_1:=fun e=>∀(least d:Int) (x:ByteArray×Nat),exprI e least d=some x→shE e=true) (motive_2:=fun l=>∀x,x∈l→∀(least d:Int) (y:ByteArray×Nat),exprI x least d=some y→shE x=true) ?_ ?_ ?_
 ·intro op n nm l ih least d x h
  obtain ⟨d',t',k',h1⟩:=expr_body h
  rcases body_some h1 with ⟨rfl,_,rfl,_⟩|⟨rfl,_,rfl,_⟩|⟨rfl,_,_,x,t1,k1,rfl,h2,_⟩|⟨rfl,_,_,x,t1,k1,rfl,h2,_⟩|⟨_,_,_,x,y,t1,k1,t2,k2,rfl,h2,h3,_⟩
  ·simp only [shE,shL,ar0,Bool.and_true];rfl
  ·simp only [shE,shL,ar1,Bool.and_true];rfl
  ·have:=ih x (List.mem_cons_self ..) _ _ _ h2
   simp only [shE,shL,this,ar2,Bool.and_true];rfl
  ·have:=ih x (List.mem_cons_self ..) _ _ _ h2
   simp only [shE,shL,this,ar3,Bool.and_true];rfl
  have e1:=ih x (List.mem_cons_self ..) _ _ _ h2;have e2:=ih y (List.mem_cons_of_mem _ (List.mem_cons_self ..)) _ _ _ h3;simp only [shE,shL,e1,e2,Bool.and_true];exact Nat.ble_eq_true_of_le (arOf_le op)
 ·intro x hx
  cases hx
 intro e r he hr x hx
 rcases List.mem_cons.1 hx with hx|hx
 ·rw [hx];exact he
 exact hr x hx
theorem shL_list:∀(l:List Ex) (x:List ByteArray×Nat),listI l=some x→shL l=true
 |[],_,_=>rfl
 |e::r,(_,_),h=>by
  simp only [listI] at h;obtain ⟨s,k1,i1,h1,h2,_⟩:=bd_some h;obtain ⟨ss,k2,i2,h3,_,_⟩:=bd_some h2;simp only [shL,shE_of e _ _ _ h1,shL_list r _ h3,Bool.and_true]
theorem shR_and:∀(l:List Ts) (x:List ByteArray×Nat),andI l=some x→shR l=true
 |[],_,_=>rfl
 |e::r,(_,_),h=>by
  simp only [andI] at h;obtain ⟨s,k1,i1,h1,h2,_⟩:=bd_some h;obtain ⟨ss,k2,i2,h3,_,_⟩:=bd_some h2
  unfold testI at h1
  obtain ⟨_,h1⟩:=grd_some h1;obtain ⟨_,_,_,g1,h1,_⟩:=bd_some h1;obtain ⟨_,_,_,g2,_,_⟩:=bd_some h1;simp only [shR,shT,shE_of e.a _ _ _ g1,shE_of e.b _ _ _ g2,shR_and r _ h3,Bool.and_true]
theorem shC_or:∀(l:List (List Ts)) (x:List ByteArray×Nat),orI l=some x→shC l=true
 |[],_,_=>rfl
 |e::r,(_,_),h=>by
  simp only [orI] at h;obtain ⟨s,k1,i1,h1,h2,_⟩:=bd_some h;obtain ⟨ss,k2,i2,h3,_,_⟩:=bd_some h2
  unfold rowI at h1
  obtain ⟨_,_,_,g1,_,_⟩:=bd_some h1;simp only [shC,shR_and e _ g1,shC_or r _ h3,Bool.and_true]
theorem shC_cond{c:List (List Ts)}{t:ByteArray}{k:Nat}(h:condI c=some (t,k)):shC c=true:=by
 cases c with
 |nil=>rfl
 |cons r c=>
  simp only [condI] at h;obtain ⟨ss,k1,i1,h1,_,_⟩:=bd_some h;exact shC_or _ _ h1
theorem procJ_find(v:ByteArray):∀(l:List Pc) (i:Nat),procJ v l i≥0→∃(j:Nat) (f:Pc),l[j]? = some f∧procJ v l i=((i+j:Nat):Int)∧findP l v=some f
 |[],i,h=>absurd h (by simp [procJ])
 |f::r,i,h=>by
  simp only [procJ] at h ⊢
  cases hq:(f.name.toList==v.toList) with
  |true=>exact ⟨0,f,rfl,rfl,by simp only [findP,List.find?_cons,hq]⟩
  |false=>
   rw [hq] at h;obtain ⟨j,g,h1,h2,h3⟩:=procJ_find v r (i+1) h;exact ⟨j+1,g,h1,by simp only;rw [h2];omega,by simp only [findP,List.find?_cons,hq];exact h3⟩
theorem find_parms{l:List Pc}{v:ByteArray}(h:procJ v l 0≥0):∃f,findP l v=some f∧parms l v=f.params:=by
 obtain ⟨j,f,h1,h2,h3⟩:=procJ_find v l 0 h;refine ⟨f,h3,?_⟩
 have hj:(procJ v l 0).toNat=j:=by omega
 unfold parms
 rw [hj,h1]
theorem find_take{l:List Pc}{i:Nat}{v:ByteArray}{f:Pc}(h:findP (l.take i) v=some f):findP l v=some f:=by
 unfold findP at h ⊢
 rw [← List.take_append_drop i l,List.find?_append,h]
 rfl
/-- A statement that the machine can do: its own terms, its own call. -/
def shK(ps:List Pc):Sm→Bool
 |.mk kind _ proc args cond _ _=>(shL args&&shC cond)&&match kind.toList==(⟨#[115,101,116]⟩:ByteArray).toList with
  |true=>Nat.ble 1 args.length
  |false=>match kind.toList==(⟨#[112,117,116]⟩:ByteArray).toList with
   |true=>Nat.ble 2 args.length
   |false=>match kind.toList==(⟨#[99,97,108,108]⟩:ByteArray).toList with
    |true=>match findP ps proc with
     |some f=>Nat.ble f.params.length args.length
     |none=>false
    |false=>true
theorem kq_set_set:((⟨#[115,101,116]⟩:ByteArray).toList==(⟨#[115,101,116]⟩:ByteArray).toList)=true:=by kernel_rfl
theorem kq_set_put:((⟨#[115,101,116]⟩:ByteArray).toList==(⟨#[112,117,116]⟩:ByteArray).toList)=false:=by kernel_rfl
theorem kq_set_call:((⟨#[115,101,116]⟩:ByteArray).toList==(⟨#[99,97,108,108]⟩:ByteArray).toList)=false:=by kernel_rfl
theorem kq_put_set:((⟨#[112,117,116]⟩:ByteArray).toList==(⟨#[115,101,116]⟩:ByteArray).toList)=false:=by kernel_rfl
theorem kq_put_put:((⟨#[112,117,116]⟩:ByteArray).toList==(⟨#[112,117,116]⟩:ByteArray).toList)=true:=by kernel_rfl
theorem kq_put_call:((⟨#[112,117,116]⟩:ByteArray).toList==(⟨#[99,97,108,108]⟩:ByteArray).toList)=false:=by kernel_rfl
theorem kq_if_set:((⟨#[105,102]⟩:ByteArray).toList==(⟨#[115,101,116]⟩:ByteArray).toList)=false:=by kernel_rfl
theorem kq_if_put:((⟨#[105,102]⟩:ByteArray).toList==(⟨#[112,117,116]⟩:ByteArray).toList)=false:=by kernel_rfl
theorem kq_if_call:((⟨#[105,102]⟩:ByteArray).toList==(⟨#[99,97,108,108]⟩:ByteArray).toList)=false:=by kernel_rfl
theorem kq_while_set:((⟨#[119,104,105,108,101]⟩:ByteArray).toList==(⟨#[115,101,116]⟩:ByteArray).toList)=false:=by kernel_rfl
theorem kq_while_put:((⟨#[119,104,105,108,101]⟩:ByteArray).toList==(⟨#[112,117,116]⟩:ByteArray).toList)=false:=by kernel_rfl
theorem kq_while_call:((⟨#[119,104,105,108,101]⟩:ByteArray).toList==(⟨#[99,97,108,108]⟩:ByteArray).toList)=false:=by kernel_rfl
theorem kq_assert_set:((⟨#[97,115,115,101,114,116]⟩:ByteArray).toList==(⟨#[115,101,116]⟩:ByteArray).toList)=false:=by kernel_rfl
theorem kq_assert_put:((⟨#[97,115,115,101,114,116]⟩:ByteArray).toList==(⟨#[112,117,116]⟩:ByteArray).toList)=false:=by kernel_rfl
theorem kq_assert_call:((⟨#[97,115,115,101,114,116]⟩:ByteArray).toList==(⟨#[99,97,108,108]⟩:ByteArray).toList)=false:=by kernel_rfl
theorem kq_assume_set:((⟨#[97,115,115,117,109,101]⟩:ByteArray).toList==(⟨#[115,101,116]⟩:ByteArray).toList)=false:=by kernel_rfl
theorem kq_assume_put:((⟨#[97,115,115,117,109,101]⟩:ByteArray).toList==(⟨#[112,117,116]⟩:ByteArray).toList)=false:=by kernel_rfl
theorem kq_assume_call:((⟨#[97,115,115,117,109,101]⟩:ByteArray).toList==(⟨#[99,97,108,108]⟩:ByteArray).toList)=false:=by kernel_rfl
theorem kq_read_set:((⟨#[114,101,97,100]⟩:ByteArray).toList==(⟨#[115,101,116]⟩:ByteArray).toList)=false:=by kernel_rfl
theorem kq_read_put:((⟨#[114,101,97,100]⟩:ByteArray).toList==(⟨#[112,117,116]⟩:ByteArray).toList)=false:=by kernel_rfl
theorem kq_read_call:((⟨#[114,101,97,100]⟩:ByteArray).toList==(⟨#[99,97,108,108]⟩:ByteArray).toList)=false:=by kernel_rfl
theorem shK_of{vs ay:List ByteArray}{ps:List Pc}{i:Nat}{s:Sm}{k:Nat}{r:ByteArray×Nat}(h:stmtI s k=some r)(hn:seeN vs ay (ps.take i) s=true)(hc:seeC (ps.take i) s=true):shK ps s=true:=by
 have hN:=nm_of hn;obtain ⟨kind,name,proc,args,cond,body,els⟩:=s;obtain ⟨t,j⟩:=r
 have hcall:(kind.toList==(⟨#[99,97,108,108]⟩:ByteArray).toList)=true→(match findP ps proc with
   |some f=>Nat.ble f.params.length args.length
   |none=>false)=true:=by
  intro q;obtain ⟨f,h1,h2⟩:=find_parms (hN q);rw [find_take h1];simp only [seeC,q] at hc;have hc:=eq_of_beq hc;rw [h2,exs_length,strs_length] at hc;exact Nat.ble_eq_true_of_le (by omega)
 rcases stmt_some h with ⟨rfl,_,rfl,_,_,_,x,t1,k1,rfl,h1,_⟩|⟨rfl,_,rfl,_,_,_,x,y,t1,k1,t2,k2,rfl,h1,h2,_⟩|⟨rfl,rfl,_,_,_,_,t1,k1,h1,_⟩|⟨rfl,_,_,rfl,c,k1,b,k2,r,h1,_⟩|⟨rfl,_,_,rfl,_,c,k1,b,k2,h1,_⟩|⟨hk,_,_,rfl,_,_,c,k1,h1,_⟩|⟨rfl,_,rfl,rfl,_⟩
 ·simp only [shK,shL,shC,shE_of x _ _ _ h1,Bool.and_true,Bool.true_and,kq_set_set];rfl
 ·simp only [shK,shL,shC,shE_of x _ _ _ h1,shE_of y _ _ _ h2,Bool.and_true,Bool.true_and,kq_put_set,kq_put_put];rfl
 ·unfold listJ at h1
  obtain ⟨ss,k2,i2,h2,_,_⟩:=bd_some h1
  have e1:((⟨#[99,97,108,108]⟩:ByteArray).toList==(⟨#[115,101,116]⟩:ByteArray).toList)=false:=by kernel_rfl
  have e2:((⟨#[99,97,108,108]⟩:ByteArray).toList==(⟨#[112,117,116]⟩:ByteArray).toList)=false:=by kernel_rfl
  have e3:((⟨#[99,97,108,108]⟩:ByteArray).toList==(⟨#[99,97,108,108]⟩:ByteArray).toList)=true:=by kernel_rfl
  simp only [shK,shC,shL_list _ _ h2,Bool.and_true,Bool.true_and,e1,e2,e3];exact hcall e3
 ·simp only [shK,shL,shC_cond h1,Bool.and_true,kq_if_set,kq_if_put,kq_if_call]
 ·simp only [shK,shL,shC_cond h1,Bool.and_true,kq_while_set,kq_while_put,kq_while_call]
 ·rcases hk with rfl|rfl
  ·simp only [shK,shL,shC_cond h1,Bool.and_true,kq_assert_set,kq_assert_put,kq_assert_call]
  simp only [shK,shL,shC_cond h1,Bool.and_true,kq_assume_set,kq_assume_put,kq_assume_call]
 simp only [shK,shL,shC,Bool.and_true,kq_read_set,kq_read_put,kq_read_call]
def TxS(r:ByteArray×Nat)(l:List Sm):Prop:=∀x,x∈l→∃(k:Nat) (t:ByteArray) (j:Nat),stmtI x k=some (t,j)∧t.size≤r.1.size
theorem TxS.le{t u:ByteArray}{j i:Nat}{l:List Sm}(h:TxS (t,j) l)(hs:t.size≤u.size):TxS (u,i) l:=fun x hx=>by
 obtain ⟨k,t',j',h1,h2⟩:=h x hx;exact ⟨k,t',j',h1,Nat.le_trans h2 hs⟩
theorem TxS.nil{r:ByteArray×Nat}:TxS r []:=fun x hx=>by cases hx
theorem TxS.app{r:ByteArray×Nat}{a b:List Sm}(h:TxS r a)(k:TxS r b):TxS r (a++b):=fun x hx=>by
 rcases List.mem_append.1 hx with hx|hx
 ·exact h x hx
 exact k x hx
/-- Each statement of a text has a text, within it. -/
theorem flat_text:(∀(s:Sm) (k:Nat) (r:ByteArray×Nat),stmtI s k=some r→TxS r (flatS s))∧(∀(l:List Sm) (k:Nat) (r:ByteArray×Nat),blockI l k=some r→TxS r (flatB l)):=by
 have h0:∀(kind name proc:ByteArray) (args:List Ex) (cond:List (List Ts)) (body els:List Sm),(∀(k:Nat) (r:ByteArray×Nat),blockI body k=some r→TxS r (flatB body))→(∀(k:Nat) (r:ByteArray×Nat),blockI els k=some r→TxS r (flatB els))→
   ∀(k:Nat) (r:ByteArray×Nat),stmtI (.mk kind name proc args cond body els) k=some r→TxS r (flatS (.mk kind name proc args cond body els)):=by
  intro kind name proc args cond body els ib ie k r h x hx;obtain ⟨t,j⟩:=r;simp only [flatS] at hx
  rcases List.mem_cons.1 hx with rfl|hx
  ·exact ⟨k,t,j,h,Nat.le_refl _⟩
  refine (?_:TxS (t,j) (flatB body++flatB els)) x hx
  rcases stmt_some h with ⟨_,_,_,rfl,rfl,_⟩|⟨_,_,_,rfl,rfl,_⟩|⟨_,_,rfl,rfl,_⟩|⟨_,_,_,_,c,k1,b,k2,r,_,h2,rfl,⟨rfl,_⟩|⟨e,k3,h3,rfl⟩⟩|⟨_,_,_,_,rfl,c,k1,b,k2,_,h2,rfl⟩|⟨_,_,_,_,rfl,rfl,_⟩|⟨_,_,_,_,rfl,rfl,_⟩
  ·exact TxS.nil.app TxS.nil
  ·exact TxS.nil.app TxS.nil
  ·exact TxS.nil.app TxS.nil
  ·exact ((ib _ _ h2).le (by simp only [sz2];omega)).app TxS.nil
  ·exact ((ib _ _ h2).le (by simp only [sz2];omega)).app ((ie _ _ h3).le (by simp only [sz2];omega))
  ·exact ((ib _ _ h2).le (by simp only [sz2];omega)).app TxS.nil
  ·exact TxS.nil.app TxS.nil
  exact TxS.nil.app TxS.nil
 have h1:∀(k:Nat) (r:ByteArray×Nat),blockI [] k=some r→TxS r (flatB []):=fun _ _ _=>TxS.nil
 have h2:∀(s:Sm) (l:List Sm),(∀(k:Nat) (r:ByteArray×Nat),stmtI s k=some r→TxS r (flatS s))→(∀(k:Nat) (r:ByteArray×Nat),blockI l k=some r→TxS r (flatB l))→
   ∀(k:Nat) (r:ByteArray×Nat),blockI (s::l) k=some r→TxS r (flatB (s::l)):=by
  intro s l is il k r h;obtain ⟨t,j⟩:=r;simp only [blockI] at h;split at h
  ·obtain ⟨_,_,_,_,h1,_⟩:=bd_some h
   obtain ⟨a,b,k1,k2,h2,h3,rfl,_⟩:=sq_some h1;exact ((is k _ h2).le (by simp only [sz2];omega)).app ((il k _ h3).le (by simp only [sz2];omega))
  cases h
 have hS:=fun s=>Sm.rec (motive_1:=fun s=>∀(k:Nat) (r:ByteArray×Nat),stmtI s k=some r→TxS r (flatS s)) (motive_2:=fun l=>∀(k:Nat) (r:ByteArray×Nat),blockI l k=some r→TxS r (flatB l)) h0 h1 h2 s;refine ⟨hS,fun l=>?_⟩
 induction l with
 |nil=>exact h1
 |cons s l ih=>exact h2 s l (hS s) ih
/-- All statements, one by one. -/
def wfB(ps:List Pc)(l:List Sm):Bool:=(flatB l).all (shK ps)
theorem wfB_of{vs ay:List ByteArray}{ps:List Pc}{i:Nat}{l:List Sm}{k:Nat}{r:ByteArray×Nat}(h:blockI l k=some r)(hn:(flatB l).all (seeN vs ay (ps.take i))=true)(hc:(flatB l).all (seeC (ps.take i))=true):wfB ps l=true:=by
 refine List.all_eq_true.2 fun x hx=>?_;obtain ⟨k',t',j',h',_⟩:=flat_text.2 l k r h x hx;exact shK_of h' (List.all_eq_true.1 hn x hx) (List.all_eq_true.1 hc x hx)
theorem wfB_cons{ps:List Pc}{kind name proc:ByteArray}{args:List Ex}{cond:List (List Ts)}{body els r:List Sm}(h:wfB ps (.mk kind name proc args cond body els::r)=true):shK ps (.mk kind name proc args cond body els)=true∧wfB ps body=true∧wfB ps els=true∧wfB ps r=true:=by
 simp only [wfB,flatB,flatS,List.cons_append,List.all_cons,List.all_append,Bool.and_eq_true] at h ⊢;exact ⟨h.1,h.2.1.1,h.2.1.2,h.2.2⟩
theorem prC_at{procs:List Pc}:∀ {l:List Pc}{k:Nat},prC procs l k=true→∀(j:Nat) (f:Pc),l[j]? = some f→(flatB f.body).all (seeC (procs.take (k+j)))=true
 |[],k,_,j,f,hj=>by simp at hj
 |g::r,k,h,j,f,hj=>by
  simp only [prC] at h
  cases hq:(flatB g.body).all (seeC (procs.take k)) with
  |false=>rw [hq] at h;cases h
  |true=>
   rw [hq] at h
   cases j with
   |zero=>
    simp only [List.getElem?_cons_zero,Option.some.injEq] at hj;subst hj;exact hq
   |succ j=>
    have:=prC_at h j f (by simpa using hj)
    rwa [show k+1+j=k+(j+1) by omega] at this
theorem procs_text:∀(l:List Pc) (r:ByteArray×Nat),procsI l=some r→∀f,f∈l→(∃r,blockI f.body 1=some r)∧shE f.ret=true
 |[],_,_,f,hf=>by cases hf
 |⟨nm,ps,bd,rt⟩::l,(_,_),h,f,hf=>by
  simp only [procsI] at h;obtain ⟨_,h⟩:=grd_some h;obtain ⟨_,h⟩:=grd_some h;obtain ⟨_,_,_,_,_,h,_⟩:=sq_some h;obtain ⟨_,_,_,_,h1,h,_⟩:=sq_some h;obtain ⟨_,_,_,_,h2,h,_⟩:=sq_some h;obtain ⟨_,_,_,_,_,h,_⟩:=sq_some h;obtain ⟨_,_,_,h3,_⟩:=bd_some h2
  rcases List.mem_cons.1 hf with rfl|hf
  ·exact ⟨⟨_,h1⟩,shE_of _ _ _ _ h3⟩
  exact procs_text l _ h f hf
/-- What the machine needs of a program. -/
structure WfP (arrays:List Ar) (procs:List Pc) (main:List Sm):Prop where
 pc:∀f,f∈procs→wfB procs f.body=true∧shE f.ret=true
 mn:wfB procs main=true
 pn:(pcN procs).Nodup
 an:(arN arrays).Nodup
 size:∀a,a∈arrays→1≤a.size∧a.size≤16
theorem ckR_none{bA bL bD bN bM bC bK:Bool}(h:ckR bA bL bD bN bM bC bK=none):bA=false∧bL=false∧bD=false∧bN=true∧bM=true∧bC=true∧bK=true:=by
 cases bA <;> cases bL <;> cases bD <;> cases bN <;> cases bM <;> cases bC <;> cases bK <;> first|exact ⟨rfl,rfl,rfl,rfl,rfl,rfl,rfl⟩|cases h
theorem arBad_no:∀ {l:List Ar},arBad l=false→∀a,a∈l→1≤a.size∧a.size≤16
 |[],_,a,ha=>by cases ha
 |b::r,h,a,ha=>by
  simp only [arBad] at h
  cases hq:(decide (b.size<1)||decide (b.size>16)) with
  |true=>rw [hq] at h;cases h
  |false=>
   rw [hq] at h
   rcases List.mem_cons.1 ha with rfl|ha
   ·simp only [Bool.or_eq_false_iff,decide_eq_false_iff_not] at hq
    omega
   exact arBad_no h a ha
theorem wf_of{vars:List ByteArray}{arrays:List Ar}{procs:List Pc}{main:List Sm}{r:ByteArray×Nat}(h:progI ⟨vars,arrays,procs,main⟩=some r)(hc:checkF vars arrays procs main=none):WfP arrays procs main:=by
 obtain ⟨t,k⟩:=r
 unfold progI at h
 obtain ⟨_,_,_,_,_,h,_⟩:=sq_some h;obtain ⟨_,_,_,_,_,h,_⟩:=sq_some h;obtain ⟨_,_,_,_,hp,h,_⟩:=sq_some h
 unfold mainI at h
 obtain ⟨_,_,_,_,_,h,_⟩:=sq_some h;obtain ⟨_,_,_,_,hm,_⟩:=sq_some h
 unfold checkF at hc
 obtain ⟨cA,_,cD,cN,cM,cC,cK⟩:=ckR_none hc
 have hnd:((allN2 vars arrays procs++pcN procs).map (·.data.toList)).Nodup:=by
  simp only [dupB,Bool.not_eq_false',decide_eq_true_eq] at cD;exact cD
 have hnd:(allN2 vars arrays procs++pcN procs).Nodup:=by
  refine (List.pairwise_map.1 hnd).imp fun hab q=>hab (by rw [q])
 rw [List.nodup_append] at hnd;obtain ⟨h1,h2,_⟩:=hnd
 unfold allN2 at h1
 rw [List.nodup_append] at h1;obtain ⟨h1,_,_⟩:=h1;rw [List.nodup_append] at h1;refine ⟨fun f hf=>?_,?_,h2,h1.2.1,arBad_no cA⟩
 ·obtain ⟨⟨r,g1⟩,g2⟩:=procs_text procs _ hp f hf
  obtain ⟨j,hj,rfl⟩:=List.mem_iff_getElem.1 hf;have hj':procs[j]? = some procs[j]:=List.getElem?_eq_getElem hj;have a1:=prN_at cN j _ hj';have a2:=prC_at cC j _ hj';exact ⟨wfB_of g1 a1 a2,g2⟩
 have e:procs.take procs.length=procs:=List.take_length;exact wfB_of (vs:=vars) (ay:=arN arrays) (i:=procs.length) hm (by rw [e];exact cM) (by rw [e];exact cK)
end Go.Abs
end
section
namespace Go.Abs
open Go Go.Proofs
attribute [local irreducible] aCall AWp Sub Spec
/-- A list's last element told less sharply. -/
theorem awp_tell {P:Program}{G:Glob}{D:List Deferred}{N B:Nat}{X:St}{c0:Code}{Q:AExit→St→Prop}(id:Nat) (e:TypeId) (k:Nat) (xs:List (List Data)) (c c':List Data) (hr:X.rows[id]? = some (.acc e k (xs++[c]))) (hc:DWs c c') (hf:c'.all flatD=true)
  (h:AWp D P G N B c0 Q ⟨X.env,X.rows.set id (.acc e k (xs++[c']))⟩):AWp D P G N B c0 Q X:=by
 refine awp_sub ?_ h
 unfold Sub
 intro H lim a w hR;have hid:id<X.rows.length:=(List.getElem?_eq_some_iff.1 hr).1
 have hl:∀ {x y:List Data},DWs x y→y.length=x.length:=by
  intro x y h
  induction x generalizing y with
  |nil=>cases h;rfl
  |cons a r ih=>cases h with|cons h1 h2=>simp only [List.length_cons,ih h2]
 refine ⟨H,lim,⟨hR.env,⟨fun j q hj=>?_,hR.rows.apart,fun j hj=>hR.rows.dom j (by simpa using hj)⟩,hR.glob,hR.defers,hR.size⟩,Lk.refl⟩
 by_cases hjn:j=id
 ·subst hjn
  rw [List.getElem?_set_self hid] at hj;simp only [Option.some.injEq] at hj;subst hj;obtain ⟨hv,zs,h1,h2,h3,h4,h5,h6⟩:=hR.rows.row j _ hr;refine ⟨hv,zs,h1,?_,?_,fun x hx=>?_,h5,?_⟩
  ·simpa using h2
  ·have app:∀(a:List Data) {x y:List Data},DWs x y→DWs (a++x) (a++y):=by
    intro a x y h
    induction a with
    |nil=>exact h
    |cons b r ih=>exact .cons (.refl _) ih
   have:=(app xs.flatten hc).sound (by simpa using h3)
   simpa using this
  ·rcases List.mem_append.1 hx with hx|hx
   ·exact h4 x (List.mem_append_left _ hx)
   obtain rfl:=List.mem_singleton.1 hx;exact ⟨by rw [hl hc];exact (h4 c (by simp)).1,fun d hd=>List.all_eq_true.1 hf d hd⟩
  simpa using h6
 refine hR.rows.row j q ?_
 rwa [List.getElem?_set_ne (Ne.symm hjn)] at hj
/-- The statement that sets a name. -/
def setS(v:ByteArray)(e:Ex):Sm:=.mk ⟨#[115,101,116]⟩ v ⟨#[]⟩ [e] [] [] []
def setsF:List ByteArray→List Ex→List Sm
 |v::r,e::l=>setS v e::setsF r l
 |_,_=>[]
theorem sets_snoc:∀(d:List ByteArray) (v:ByteArray) (l:List Ex) (e:Ex),l[d.length]? = some e→setsF (d++[v]) l=setsF d l++[setS v e]
 |[],v,[],e,h=>by cases h
 |[],v,x::l,e,h=>by
  simp only [List.length_nil,List.getElem?_cons_zero,Option.some.injEq] at h;subst h
  simp [setsF]
 |y::d,v,[],e,h=>by cases h
 |y::d,v,x::l,e,h=>by simp only [List.cons_append,setsF,sets_snoc d v l e (by simpa using h)]
/-- Calls laid out: the statements, and how many were counted; past 400 no list is told. -/
def layF(ps:List Pc):Nat→List Sm→List Sm→Nat→Option (List Sm×Nat)
 |0,_,_,_=>none
 |_+1,[],out,m=>some (out,m)
 |n+1,.mk kind name proc args cond body els::r,out,m=>match decide ((m:Int)>400) with
  |true=>some ([],m)
  |false=>match kind.toList==(⟨#[99,97,108,108]⟩:ByteArray).toList with
   |false=>match layF ps n body [] (m+1) with
    |none=>none
    |some b=>match layF ps n els [] b.2 with
     |none=>none
     |some e=>layF ps n r (out++[.mk kind name proc args cond b.1 e.1]) e.2
   |true=>match findP ps proc with
    |none=>none
    |some f=>match layF ps n f.body [] (m+f.params.length) with
     |none=>none
     |some b=>layF ps n r (((out++setsF f.params args)++b.1)++[setS name f.ret]) (b.2+1)
theorem sets_le:∀(p:List ByteArray) (l:List Ex),(setsF p l).length≤p.length
 |[],_=>by simp [setsF]
 |v::p,[]=>by simp [setsF]
 |v::p,e::l=>by simp only [setsF,List.length_cons];have:=sets_le p l;omega
theorem lay_mono(ps:List Pc):∀(n:Nat) (l out:List Sm) (m:Nat) (R:List Sm) (M:Nat),layF ps n l out m=some (R,M)→m≤M∧R.length+m≤out.length+M
 |0,_,_,_,_,_,h=>by cases h
 |n+1,[],out,m,R,M,h=>by
  simp only [layF,Option.some.injEq,Prod.mk.injEq] at h;obtain ⟨rfl,rfl⟩:=h;omega
 |n+1,.mk kind name proc args cond body els::r,out,m,R,M,h=>by
  simp only [layF] at h;split at h
  ·simp only [Option.some.injEq,Prod.mk.injEq] at h
   obtain ⟨rfl,rfl⟩:=h
   simp
  split at h
  ·split at h
   ·cases h
   rename_i b hb;split at h
   ·cases h
   rename_i e he;obtain ⟨b,m1⟩:=b;obtain ⟨e,m2⟩:=e;have h1:=lay_mono ps n _ _ _ _ _ hb;have h2:=lay_mono ps n _ _ _ _ _ he;have h3:=lay_mono ps n _ _ _ _ _ h;simp only [List.length_append,List.length_cons,List.length_nil] at h1 h2 h3;omega
  split at h
  ·cases h
  rename_i f hf;split at h
  ·cases h
  rename_i b hb;obtain ⟨b,m1⟩:=b;have h1:=lay_mono ps n _ _ _ _ _ hb;have h3:=lay_mono ps n _ _ _ _ _ h;have h4:=sets_le f.params args;simp only [List.length_append,List.length_cons,List.length_nil] at h1 h3;omega
theorem find_procJ{v:ByteArray}{f:Pc}:∀ {l:List Pc}(i:Nat),findP l v=some f→∃d e,l=d++f::e∧procJ v l i=((i+d.length:Nat):Int)
 |[],i,h=>by cases h
 |g::r,i,h=>by
  simp only [findP,List.find?_cons] at h;simp only [procJ]
  cases hq:(g.name.toList==v.toList) with
  |true=>
   simp only [hq,Option.some.injEq] at h;subst h;exact ⟨[],r,rfl,rfl⟩
  |false=>
   simp only [hq] at h;obtain ⟨d,e,rfl,h2⟩:=find_procJ (i+1) h;exact ⟨g::d,e,rfl,by simp only [h2,List.length_cons];congr 1;omega⟩
section
variable (G:Glob)
theorem isProc2(f:Pc)(kind name v:ByteArray)(args:List Ex)(cond:List (List Ts))(body els:List Sm):Spec Tryz.prog G 172 [.d (.agg f.cs),.box 0 0] [.box 217 [.d (str kind),.d (str name),.d (str v),.d (.sl 4 (exs args)),.d (.sl 1 (cnd cond)),.d (.sl 7 (sms body)),.d (.sl 7 (sms els))]] (.ret (.d (.s (.bool (f.name.toList==v.toList))))) [.box 217 [.d (str kind),.d (str name),.d (str v),.d (.sl 4 (exs args)),.d (.sl 1 (cnd cond)),.d (.sl 7 (sms body)),.d (.sl 7 (sms els))]]:=by
 obtain ⟨nm,ps,bd,⟨o1,n1,m1,l1⟩⟩:=f;refine spec_of_awp2 TT_ok (N:=9) Tryz.func172 rfl (by rfl) (Nat.le_refl _) rfl ?_;refine rz [1,2] ?_;refine rz [3] ?_;refine awp_ret ?_;exact ⟨_,[0],_,[.d (.s (.bool _))],rfl,rfl,rfl,rfl,rfl,PWs.refl _,rfl⟩
theorem indexP2(l:List Pc)(hn:l.length≤1073741824)(kind name v:ByteArray)(args:List Ex)(cond:List (List Ts))(body els:List Sm):Spec Tryz.prog G 171 [.d (.sl 7 (pcs l)),.fn 172 [.box 0 0]] [.box 217 [.d (str kind),.d (str name),.d (str v),.d (.sl 4 (exs args)),.d (.sl 1 (cnd cond)),.d (.sl 7 (sms body)),.d (.sl 7 (sms els))]] (.ret (.d (num (procJ v l 0)))) [.box 217 [.d (str kind),.d (str name),.d (str v),.d (.sl 4 (exs args)),.d (.sl 1 (cnd cond)),.d (.sl 7 (sms body)),.d (.sl 7 (sms els))]]:=by
 obtain ⟨r,hG⟩:∃r,procJ v l 0=r:=⟨_,rfl⟩;rw [hG];refine spec_of_awp2 TT_ok (N:=19) Tryz.func171 rfl (by rfl) (Nat.le_refl _) rfl ?_;refine rz [0,1] ?_;refine awp_seq ?_;refine rz [0,1,7,8] ?_;refine awp_block ?_;refine awp_loop (fun k Y=>∃(d1 e1:List Pc) ,k=e1.length∧l=d1++e1∧procJ v e1 d1.length=r∧Y=⟨[(0,.d (.sl 7 (pcs l))),(1,.fn 172 [.box 0 0]),(7,.d (num (pcs l).length)),(8,.d (num d1.length))],[.box 217 [.d (str kind),.d (str name),.d (str v),.d (.sl 4 (exs args)),.d (.sl 1 (cnd cond)),.d (.sl 7 (sms body)),.d (.sl 7 (sms els))]]⟩) (l.length) (⟨[],l,rfl,rfl,hG,rfl⟩) ?_;clear hG;rintro k Y ⟨d1,e1,rfl,hl1,hG,rfl⟩
 have hll1:(pcs l).length=d1.length+e1.length:=by rw [pcs_length,hl1,List.length_append]
 have hdl1:d1.length+e1.length≤1073741824:=by rw [hl1,List.length_append] at hn;exact hn
 refine rz [0,1,7,8,9] ?_;refine awp_seq ?_;refine awp_cond2 rfl (onB_intro (fun h1=>?_) (fun h1=>?_))
 ·have h1':=of_decide_eq_true h1
  rw [hll1] at h1'
  cases e1 with
  |nil=>simp only [List.length_nil] at h1';omega
  |cons x e1b=>
  obtain ⟨nm,ps,bd,⟨o1,n1,m1,l1⟩⟩:=x;subst hl1;simp only [List.length_cons] at hdl1;simp only [procJ] at hG;refine awp_skip ?_;refine awp_seq ?_;refine awp_block ?_;refine rz [0,1,5,7,8] ?_;refine rgs fun E K J O=>?_;refine And.intro (by omega) (Exists.intro _ (And.intro (pcs_at rfl) ?_));refine aS [0] (isProc2 G ⟨nm,ps,bd,.mk o1 n1 m1 l1⟩ kind name v args cond body els) ?_;refine O _ (aN [0,1,5,7,8,16] rfl rfl ?_);clear O J K E;refine awp_cond2 rfl (onB_intro (fun h2=>?_) (fun h2=>?_))
  ·simp only [h2] at hG
   refine rz [4] ?_;refine awp_ret ?_;subst hG;exact ⟨_,[0],_,[.d (num _)],rfl,rfl,rfl,rfl,rfl,PWs.refl _,rfl⟩
  simp only [h2] at hG;refine awp_skip ?_;refine rgn fun E K J O=>?_;refine O _ ?_;clear O J K E;exact ⟨_,Nat.lt_succ_self _,_,sub_norm (slots:=[0,1,7,8]) rfl rfl,d1++[⟨nm,ps,bd,.mk o1 n1 m1 l1⟩],e1b,rfl,by simp,(by rw [List.length_append];exact hG),by rw [List.length_append,wrapId (by omega) (by omega)];rfl⟩
 have h1':=of_decide_eq_false h1;rw [hll1] at h1';obtain rfl:e1=[]:=List.eq_nil_of_length_eq_zero (by omega);simp only [procJ] at hG;refine awp_exit ?_;refine awp_norm [] rfl rfl ?_;refine rz [4] ?_;refine awp_ret ?_;subst hG;exact ⟨_,[0],_,[.d (num _)],rfl,rfl,rfl,rfl,rfl,PWs.refl _,rfl⟩
/-- What is asked of procedures here. -/
def LyP(ps:List Pc):Prop:=ps.length≤1073741824∧∀f,f∈ps→wfB ps f.body=true∧wtB f.body≤1000000000
def LyR(ps:List Pc)(m:Nat):List Row:=[.box 207 [.d (.sl 7 (pcs ps)),.d (num (m:Nat))]]
def LyOk(ps:List Pc)(n:Nat):Prop:=∀(k:Nat),k<n→∀(l:List Sm) (m:Nat) (R:List Sm) (M:Nat),layF ps k l [] m=some (R,M)→M≤1000000000→wfB ps l=true→wtB l≤1000000000→
 Spec Tryz.prog G 107 [.box 0 0,.d (.sl 7 (sms l))] (LyR ps m) (.ret (.d (.sl 7 (sms R)))) (LyR ps M)
theorem pc_get{ps:List Pc}{d e:List Pc}{f:Pc}(h:ps=d++f::e):(pcs ps)[((0+d.length:Nat):Int).toNat]? = some f.cs:=by
 rw [Nat.zero_add];exact pcs_at h
theorem ex_get:∀ {d:Nat}{l:List Ex}{e:Ex},l[d]? = some e→(exs l)[((d:Nat):Int).toNat]? = some e.cs
 |d,[],e,h=>by cases h
 |0,x::r,e,h=>by
  simp only [List.getElem?_cons_zero,Option.some.injEq] at h;subst h
  rfl
 |d+1,x::r,e,h=>by
  have:=ex_get (d:=d) (l:=r) (e:=e) (by simpa using h);rw [Int.toNat_natCast] at this ⊢
  simpa only [exs,List.getElem?_cons_succ] using this
theorem wfB_app{ps:List Pc}{d e:List Sm}(h:wfB ps (d++e)=true):wfB ps e=true:=by
 simp only [wfB,flatB_app,List.all_append,Bool.and_eq_true] at h ⊢;exact h.2
set_option maxHeartbeats 2000000
theorem dwS{v:ByteArray}{e:Ex}:DWs [str ⟨#[115,101,116]⟩,str v,str ⟨#[]⟩,.sl 4 [e.cs],.s (.slice none 0 0),.s (.slice none 0 0),.s (.slice none 0 0)] (setS v e).cs:=
 .cons (.refl _) (.cons (.refl _) (.cons (.refl _) (.cons (.refl _) (.cons (.nil _) (.cons (.nil _) (.cons (.nil _) .nil))))))
theorem shK_call{ps:List Pc}{kind name proc:ByteArray}{args:List Ex}{cond:List (List Ts)}{body els:List Sm}(h:shK ps (.mk kind name proc args cond body els)=true)(hk:(kind.toList==(⟨#[99,97,108,108]⟩:ByteArray).toList)=true):∃f,findP ps proc=some f∧f.params.length≤args.length:=by
 have k:=eq_of_beq hk
 have e1:(kind.toList==(⟨#[115,101,116]⟩:ByteArray).toList)=false:=by rw [k];kernel_rfl
 have e2:(kind.toList==(⟨#[112,117,116]⟩:ByteArray).toList)=false:=by rw [k];kernel_rfl
 simp only [shK,e1,e2,hk,Bool.and_eq_true] at h
 cases hf:findP ps proc with
 |none=>rw [hf] at h;cases h.2
 |some f=>rw [hf] at h;exact ⟨f,rfl,Nat.le_of_ble_eq_true h.2⟩
def p107_9:Plan:=(.take 0 (.take 1 (.load 2 (.take 4 (.take 5 (.load 6 (.one 3 (.take 8 (.one 7 (.one 9 (.take 10 (.one 11 .done))))))))))))
def p107_11:Plan:=(.take 0 (.take 1 (.take 2 (.load 3 (.take 4 (.take 5 (.take 6 (.load 7 (.alt 8 (.alt 9 (.take 10 (.alt 11 (.one 12 (.one 13 .done)) (.alt 12 (.one 11 (.one 13 .done)) .done))) (.alt 12 (.one 9 (.take 10 (.one 11 (.one 13 .done)))) .done)) (.alt 12 (.one 8 (.one 9 (.take 10 (.one 11 (.one 13 .done))))) .done))))))))))
theorem lay_step(ps:List Pc)(hP:LyP ps)(n:Nat)(ih:LyOk G ps n)(l:List Sm)(m0:Nat)(R:List Sm)(M:Nat)(hL0:layF ps n l [] m0=some (R,M))(hM:M≤1000000000)(hwf:wfB ps l=true)(hw:wtB l≤1000000000):Spec Tryz.prog G 107 [.box 0 0,.d (.sl 7 (sms l))] (LyR ps m0) (.ret (.d (.sl 7 (sms R)))) (LyR ps M):=by
 have hlen:=wtB_len l
 have hbig:l.length≤1073741824:=by omega
 have hn0:=hP.1;refine spec_of_awp2 TT_ok (N:=109) Tryz.func107 rfl (by rfl) (Nat.le_refl _) rfl ?_;refine rz [0,1] ?_;refine rz [0,1,5] ?_;refine awp_acc 5 217 7 rfl rfl rfl ?_;refine awp_norm [0,1,5] rfl rfl ?_;refine awp_seq ?_;refine rz [0,5,11,12,13] ?_;refine awp_block ?_;refine awp_loop (fun k Y=>∃(d1 e1 out:List Sm) (m n1:Nat),k=e1.length∧l=d1++e1∧layF ps n1 e1 out m=some (R,M)∧n1≤n∧out.length≤m∧Y=⟨[(0,.box 0 0),(5,.acc 1),(11,.d (.sl 7 (sms l))),(12,.d (num (sms l).length)),(13,.d (num d1.length))],[.box 207 [.d (.sl 7 (pcs ps)),.d (num (m:Nat))],.acc 217 7 (sms out)]⟩) (l.length) (⟨[],l,[],m0,n,rfl,rfl,hL0,Nat.le_refl _,Nat.zero_le _,rfl⟩) ?_;rintro k Y ⟨d1,e1,out,m,n1,rfl,hl1,hL,hn1,ho,rfl⟩
 have hll1:(sms l).length=d1.length+e1.length:=by rw [sms_len2,hl1,List.length_append]
 have hdl1:d1.length+e1.length≤1073741824:=by rw [hl1,List.length_append] at hbig;exact hbig
 have hmm:=lay_mono ps _ _ _ _ _ _ hL;refine rz [0,5,11,12,13,14] ?_;refine awp_seq ?_;refine awp_cond2 rfl (onB_intro (fun h1=>?_) (fun h1=>?_))
 ·have h1':=of_decide_eq_true h1
  rw [hll1] at h1'
  cases e1 with
  |nil=>simp only [List.length_nil] at h1';omega
  |cons x e1b=>
  obtain ⟨kind,name,proc,args,cond,body,els⟩:=x;subst hl1;simp only [List.length_cons] at hdl1;have hfx:=fuB_app d1 (.mk kind name proc args cond body els::e1b);have hwx:=wtB_app d1 (.mk kind name proc args cond body els::e1b);simp only [fuB,fuS,wtB,wtS] at hfx hwx;have hwf1:=wfB_app hwf
  obtain ⟨n2,rfl⟩:∃n2,n1=n2+1:=by cases n1 with|zero=>cases hL|succ n2=>exact ⟨n2,rfl⟩
  simp only [layF] at hL;refine awp_skip ?_;refine awp_seq ?_;refine awp_block ?_;refine rgs fun E K J O=>?_;refine And.intro (by omega) (Exists.intro _ (And.intro (sms_at2 rfl) ?_));refine O _ (aN [0,5,7,11,12,13] rfl rfl ?_);clear O J K E;refine awp_seq ?_;refine rz [0,5,7,11,12,13,21] ?_;refine awp_cond2 rfl (onB_intro (fun h2=>?_) (fun h2=>?_))
  ·simp only [h2] at hL
   simp only [Option.some.injEq,Prod.mk.injEq] at hL;obtain ⟨rfl,rfl⟩:=hL;refine rz [4] ?_;refine awp_ret ?_;exact ⟨_,[0],_,[.d (.sl 7 (sms []))],rfl,rfl,rfl,rfl,rfl,PWs.cons (PW.d (DW.nil 7)) PWs.nil,rfl⟩
  simp only [h2] at hL;refine awp_skip ?_;refine awp_seq ?_;refine rz [0,5,7,11,12,13,24] ?_;refine awp_cond2 rfl (onB_intro (fun h3=>?_) (fun h3=>?_))
  ·have hk:(kind.toList==(⟨#[99,97,108,108]⟩:ByteArray).toList)=false:=by simpa using h3
   simp only [hk] at hL
   obtain ⟨b,m1,hb⟩:∃b m1,layF ps n2 body [] (m+1)=some (b,m1):=by
    cases q:layF ps n2 body [] (m+1) with
    |none=>simp only [q] at hL;cases hL
    |some z=>exact ⟨z.1,z.2,rfl⟩
   simp only [hb] at hL
   obtain ⟨e,m2,he⟩:∃e m2,layF ps n2 els [] m1=some (e,m2):=by
    cases q:layF ps n2 els [] m1 with
    |none=>simp only [q] at hL;cases hL
    |some z=>exact ⟨z.1,z.2,rfl⟩
   simp only [he] at hL;have q1:=lay_mono ps _ _ _ _ _ _ hb;have q2:=lay_mono ps _ _ _ _ _ _ he;have q3:=lay_mono ps _ _ _ _ _ _ hL;obtain ⟨_,wb,we,_⟩:=wfB_cons hwf1;refine rz [0,5,7,11,12,13] ?_;rw [wrapId (by omega) (by omega)];refine awp_seq ?_;refine (awp_draw TT_ok mixed p107_9 [7,9,11] (fun i=>Nat.beq i 2) (by kernel_rfl) fun E K J O=>?_)
   show aCall _ _ _ _ _ _ _
   refine aR [0] rfl rfl rfl (ih n2 (by omega) body _ _ _ hb (by omega) wb (by omega)) rfl rfl rfl rfl ?_
   show aCall _ _ _ _ _ _ _
   refine aR [0] rfl rfl rfl (ih n2 (by omega) els _ _ _ he (by omega) we (by omega)) rfl rfl rfl rfl ?_;refine O _ (aN [0,5,7,11,12,13] rfl rfl ?_);clear O J K E;refine rgs fun E K J O=>?_;refine And.intro (And.intro ((by simp only [sms_len2,List.length_append,chunk_length,List.length_cons,List.length_nil] at *;omega)) ((by simp only [sms_len2,List.length_append,chunk_length,List.length_cons,List.length_nil,maxLen] at *;omega))) ?_;refine O _ (aN [0,5,11,12,13] rfl rfl ?_);clear O J K E;refine awp_exit ?_;refine awp_norm [0,5,11,12,13] rfl rfl ?_;refine rgn fun E K J O=>?_;refine O _ ?_;clear O J K E;exact ⟨_,Nat.lt_succ_self _,_,sub_pick (L:=[0,1]) (slots:=[0,5,11,12,13]) rfl rfl rfl rfl rfl,d1++[.mk kind name proc args cond body els],e1b,out++[.mk kind name proc args cond b e],m2,n2,rfl,by simp,hL,by omega,by simp only [List.length_append,List.length_cons,List.length_nil];omega,by rw [← sms_snoc2,List.length_append,wrapId (by omega) (by omega)];rfl⟩
  have hk:(kind.toList==(⟨#[99,97,108,108]⟩:ByteArray).toList)=true:=by simpa using h3
  simp only [hk] at hL;obtain ⟨wc,_,_,wr⟩:=wfB_cons hwf1;obtain ⟨f,hf,ha⟩:=shK_call wc hk;simp only [hf] at hL;obtain ⟨df,ef,hps,hj⟩:=find_procJ 0 hf
  have hfm:f∈ps:=by rw [hps];simp
  obtain ⟨wfb,wtb⟩:=hP.2 f hfm;obtain ⟨fn,fps,fbd,⟨o1,nn1,m1,l1⟩⟩:=f
  obtain ⟨b,mb,hb⟩:∃b mb,layF ps n2 fbd [] (m+fps.length)=some (b,mb):=by
   cases q:layF ps n2 fbd [] (m+fps.length) with
   |none=>simp only [q] at hL;cases hL
   |some z=>exact ⟨z.1,z.2,rfl⟩
  simp only [hb] at hL;have q1:=lay_mono ps _ _ _ _ _ _ hb;have q3:=lay_mono ps _ _ _ _ _ _ hL;refine awp_skip ?_;refine awp_cut (fun Z=>Z=⟨[(0,.box 0 0),(5,.acc 1),(7,.box 2 0),(8,.box 3 0),(11,.d (.sl 7 (sms (d1++.mk kind name proc args cond body els::e1b)))),(12,.d (num (sms (d1++.mk kind name proc args cond body els::e1b)).length)),(13,.d (num d1.length))],[.box 207 [.d (.sl 7 (pcs ps)),.d (num (m:Nat))],.acc 217 7 (sms out),.box 217 [.d (str kind),.d (str name),.d (str proc),.d (.sl 4 (exs args)),.d (.sl 1 (cnd cond)),.d (.sl 7 (sms body)),.d (.sl 7 (sms els))],.box 159 [.d (str fn),.d (.sl 1 (strs fps)),.d (.sl 7 (sms fbd)),.d (str o1),.d (num nn1),.d (str m1),.d (.sl 4 (exs l1))]]⟩) ?_ ?_
  ·refine (awp_draw TT_ok mixed p107_11 [13] (fun i=>Nat.beq i 0) (by kernel_rfl) fun E K J O=>?_)
   refine And.intro ?_ ?_
   ·refine And.intro ?_ ?_
    ·show aCall _ _ _ _ _ _ _
     refine aR [2] rfl rfl rfl (hj▸indexP2 G ps hP.1 kind name proc args cond body els) rfl rfl rfl rfl ?_;refine And.intro (by omega) (Exists.intro _ (And.intro (pc_get hps) ?_));refine And.intro ?_ ?_
     ·refine O _ ?_;clear O J K E
      exact ⟨_,sub_norm (slots:=[0,5,7,8,11,12,13]) rfl rfl,rfl⟩
     refine And.intro ?_ ?_
     ·refine O _ ?_;clear O J K E
      exact ⟨_,sub_norm (slots:=[0,5,7,8,11,12,13]) rfl rfl,rfl⟩
     trivial
    refine And.intro ?_ ?_
    ·show aCall _ _ _ _ _ _ _
     refine aR [2] rfl rfl rfl (hj▸indexP2 G ps hP.1 kind name proc args cond body els) rfl rfl rfl rfl ?_;refine And.intro (by omega) (Exists.intro _ (And.intro (pc_get hps) ?_));refine O _ ?_;clear O J K E;exact ⟨_,sub_norm (slots:=[0,5,7,8,11,12,13]) rfl rfl,rfl⟩
    trivial
   refine And.intro ?_ ?_
   ·show aCall _ _ _ _ _ _ _
    refine aR [2] rfl rfl rfl (hj▸indexP2 G ps hP.1 kind name proc args cond body els) rfl rfl rfl rfl ?_;refine And.intro (by omega) (Exists.intro _ (And.intro (pc_get hps) ?_));refine O _ ?_;clear O J K E;exact ⟨_,sub_norm (slots:=[0,5,7,8,11,12,13]) rfl rfl,rfl⟩
   trivial
  rintro Z rfl;refine awp_seq ?_;refine rz [0,5,7,8,11,12,13,59,60,61] ?_;refine awp_block ?_;refine awp_loop (fun k Y=>∃(d2 e2:List ByteArray),k=e2.length∧fps=d2++e2∧Y=⟨[(0,.box 0 0),(5,.acc 1),(7,.box 2 0),(8,.box 3 0),(11,.d (.sl 7 (sms (d1++.mk kind name proc args cond body els::e1b)))),(12,.d (num (sms (d1++.mk kind name proc args cond body els::e1b)).length)),(13,.d (num d1.length)),(59,.d (.sl 1 (strs fps))),(60,.d (num (strs fps).length)),(61,.d (num d2.length))],[.box 207 [.d (.sl 7 (pcs ps)),.d (num ((m+d2.length:Nat):Int))],.acc 217 7 (sms (out++setsF d2 args)),.box 217 [.d (str kind),.d (str name),.d (str proc),.d (.sl 4 (exs args)),.d (.sl 1 (cnd cond)),.d (.sl 7 (sms body)),.d (.sl 7 (sms els))],.box 159 [.d (str fn),.d (.sl 1 (strs fps)),.d (.sl 7 (sms fbd)),.d (str o1),.d (num nn1),.d (str m1),.d (.sl 4 (exs l1))]]⟩) (fps.length) (⟨[],fps,rfl,rfl,by rw [show out++setsF [] args=out from by rw [show setsF [] args=[] from by simp [setsF],List.append_nil]];rfl⟩) ?_;rintro k Y ⟨d2,e2,rfl,hl2,rfl⟩
  have hll2:(strs fps).length=d2.length+e2.length:=by rw [strs_length,hl2,List.length_append]
  have hdl2:d2.length+e2.length=fps.length:=by rw [hl2,List.length_append]
  have hsl:=sets_le d2 args;refine rz [0,5,7,8,11,12,13,59,60,61,62] ?_;refine awp_seq ?_;refine awp_cond2 rfl (onB_intro (fun h4=>?_) (fun h4=>?_))
  ·have h4':=of_decide_eq_true h4
   rw [hll2] at h4'
   cases e2 with
   |nil=>simp only [List.length_nil] at h4';omega
   |cons v e2b=>
   subst hl2
   obtain ⟨⟨ep,en,em,el⟩,hea⟩:∃ea,args[d2.length]? = some ea:=by
    rw [List.length_append,List.length_cons] at ha;exact ⟨_,List.getElem?_eq_getElem (by omega)⟩
   refine awp_skip ?_;refine awp_seq ?_;refine awp_block ?_;refine rgs fun E K J O=>?_;refine And.intro (by omega) (Exists.intro _ (And.intro (strs_at rfl) ?_));refine O _ (aN [0,5,7,8,9,10,11,12,13,59,60,61] rfl rfl ?_);clear O J K E;refine rz [0,5,7,8,9,10,11,12,13,59,60,61] ?_;refine rgn fun E K J O=>?_;refine And.intro (by omega) (Exists.intro _ (And.intro (ex_get hea) ?_));refine And.intro (And.intro ((by simp only [sms_len2,strs_length,List.length_append,chunk_length,List.length_cons,List.length_nil] at *;omega)) ((by simp only [sms_len2,strs_length,List.length_append,chunk_length,List.length_cons,List.length_nil,maxLen] at *;omega))) ?_;refine O _ (aN [0,5,7,8,11,12,13,59,60,61] rfl rfl ?_);clear O J K E;refine awp_tell 1 217 7 (sms (out++setsF d2 args)) [str ⟨#[115,101,116]⟩,str v,str ⟨#[]⟩,.sl 4 [(Ex.mk ep en em el).cs],.s (.slice none 0 0),.s (.slice none 0 0),.s (.slice none 0 0)] (setS v (.mk ep en em el)).cs rfl dwS rfl ?_;refine awp_norm [0,5,7,8,11,12,13,59,60,61] rfl rfl ?_;refine rgn fun E K J O=>?_;refine O _ ?_;clear O J K E;exact ⟨_,Nat.lt_succ_self _,_,sub_pick (L:=[0,1,2,3]) (slots:=[0,5,7,8,11,12,13,59,60,61]) rfl rfl rfl rfl rfl,d2++[v],e2b,rfl,by simp,by rw [sets_snoc d2 v args _ hea,← List.append_assoc,← sms_snoc2,List.length_append,wrapId (by omega) (by omega),wrapId (by omega) (by omega)];rfl⟩
  have h4':=of_decide_eq_false h4;rw [hll2] at h4';obtain rfl:e2=[]:=List.eq_nil_of_length_eq_zero (by omega);rw [List.append_nil] at hl2;subst hl2;refine awp_exit ?_;refine awp_norm [0,5,7,8,11,12,13] rfl rfl ?_;refine rgs fun E K J O=>?_;show aCall _ _ _ _ _ _ _;refine aR [0] rfl rfl rfl (ih n2 (by omega) fbd _ _ _ hb (by omega) wfb wtb) rfl rfl rfl rfl ?_;refine And.intro (And.intro ((by simp only [sms_len2,strs_length,List.length_append,List.length_cons,List.length_nil] at *;omega)) ((by simp only [sms_len2,strs_length,List.length_append,List.length_cons,List.length_nil,maxLen] at *;omega))) ?_;refine O _ (aN [0,5,7,8,11,12,13] rfl rfl ?_);clear O J K E;refine rz [0,5,7,8,11,12,13] ?_;refine rgn fun E K J O=>?_;refine And.intro (And.intro ((by simp only [sms_len2,strs_length,List.length_append,chunk_length,List.length_cons,List.length_nil] at *;omega)) ((by simp only [sms_len2,strs_length,List.length_append,chunk_length,List.length_cons,List.length_nil,maxLen] at *;omega))) ?_;refine O _ (aN [0,5,11,12,13] rfl rfl ?_);clear O J K E;refine awp_tell 1 217 7 (sms ((out++setsF fps args))++sms b) [str ⟨#[115,101,116]⟩,str name,str ⟨#[]⟩,.sl 4 [(Ex.mk o1 nn1 m1 l1).cs],.s (.slice none 0 0),.s (.slice none 0 0),.s (.slice none 0 0)] (setS name (.mk o1 nn1 m1 l1)).cs rfl dwS rfl ?_;refine awp_norm [0,5,11,12,13] rfl rfl ?_;refine rgn fun E K J O=>?_;refine O _ ?_;clear O J K E;exact ⟨_,Nat.lt_succ_self _,_,sub_pick (L:=[0,1]) (slots:=[0,5,11,12,13]) rfl rfl rfl rfl rfl,d1++[.mk kind name proc args cond body els],e1b,((out++setsF fps args)++b)++[setS name (.mk o1 nn1 m1 l1)],mb+1,n2,rfl,by simp,hL,by omega,by simp only [List.length_append,List.length_cons,List.length_nil] at q1 ⊢;have:=sets_le fps args;omega,by rw [← sms_snoc2,sms_app (out++setsF fps args) b,List.length_append,wrapId (by omega) (by omega),wrapId (by omega) (by omega)];rfl⟩
 have h1':=of_decide_eq_false h1;rw [hll1] at h1';obtain rfl:e1=[]:=List.eq_nil_of_length_eq_zero (by omega);rw [List.append_nil] at hl1;subst hl1
 obtain ⟨n2,rfl⟩:∃n2,n1=n2+1:=by cases n1 with|zero=>cases hL|succ n2=>exact ⟨n2,rfl⟩
 simp only [layF,Option.some.injEq,Prod.mk.injEq] at hL;obtain ⟨rfl,rfl⟩:=hL;refine awp_exit ?_;refine awp_norm [5] rfl rfl ?_;refine rz [4] ?_;refine awp_ret ?_;exact ⟨_,[0],_,[.d (.sl 7 (sms _))],rfl,rfl,rfl,rfl,rfl,PWs.refl _,rfl⟩
theorem lay_all(ps:List Pc)(hP:LyP ps):∀n,LyOk G ps n
 |0=>fun k hk=>absurd hk (by omega)
 |n+1=>fun k hk l m R M h hM hwf hw=>by
  rcases Nat.lt_or_ge k n with hlt|hge
  ·exact lay_all ps hP n k hlt l m R M h hM hwf hw
  obtain rfl:k=n:=by omega
  exact lay_step G ps hP k (lay_all ps hP k) l m R M h hM hwf hw
end
end Go.Abs
end
section
namespace Go.Abs
open Go Go.Proofs
attribute [local irreducible] aCall AWp Sub Spec
section
variable {t:Nat→TypeId}{u:Nat→Value}
theorem nil_ars{l:List Ar}(h:nilOf (.d (.sl 2 (ars l))) true):l=[]:=by
 cases l with
 |nil=>rfl
 |cons x r=>exact absurd h (by simp [nilOf,ars])
theorem cloneA_spec(G:Glob)(l:List Ar)(hn:l.length≤1000000000):Spec Tryz.prog G 106 [.d (.sl 2 (ars l))] [] (.ret (.acc 0)) [.acc 169 2 (ars l)]:=by
 refine spec_of_awp2 TT_ok (N:=8) Tryz.func106 rfl (by rfl) (Nat.zero_le _) rfl ?_;refine rz [0] ?_;refine awp_seq ?_;refine rgs fun E K J O=>?_;refine pNilS_sl (fun hb=>?_) ?_
 ·obtain rfl:=nil_ars hb
  refine O _ (aN [0,4] rfl rfl ?_);clear O J K E;refine awp_cond rfl ?_;refine rz [2] ?_;refine awp_acc 2 169 2 rfl rfl rfl ?_;refine awp_norm [2] rfl rfl ?_;refine awp_ret ?_;exact ⟨_,[0],_,[.acc 0],rfl,rfl,rfl,rfl,rfl,PWs.refl _,rfl⟩
 refine O _ (aN [0,4] rfl rfl ?_);clear O J K E;refine awp_cond rfl ?_;refine awp_skip ?_;refine rgs fun E K J O=>?_;refine Or.inr (Or.inr ?_);refine And.intro (And.intro ((by simp only [ars,List.length_map,List.length_nil] at *;omega)) ((by simp only [ars,List.length_map,List.length_nil,maxLen] at *;omega))) ?_;refine O _ (aN [2] rfl rfl ?_);clear O J K E;refine awp_ret ?_;exact ⟨_,[0],_,[.acc 0],rfl,rfl,rfl,rfl,rfl,PWs.refl _,rfl⟩
theorem inline_err(vars:List ByteArray)(arrays:List Ar)(procs:List Pc)(main:List Sm)(j:Nat)(hck:Spec Tryz.prog (GV t u) 34 [.d (.agg (Pg.cs (Pg.mk vars arrays procs main)))] [] (.ret (.d (.s (.iface (t j) (u j))))) []):Spec Tryz.prog (GV t u) 36 [.d (.agg (Pg.cs (Pg.mk vars arrays procs main)))] [] (.ret (.tup [.d (.agg (Pg.cs ⟨[],[],[],[]⟩)),.d (.s (.iface (t j) (u j)))])) []:=by
 refine spec_of_awp2 TT_ok (N:=59) Tryz.func36 rfl (by rfl) (Nat.le_refl _) rfl ?_;refine rz [1,2] ?_;refine awp_seq ?_;refine rgs fun E K J O=>?_;refine aS [] hck ?_;refine O _ (aN [1,2,4] rfl rfl ?_);clear O J K E;refine rz [1,2,4,12] ?_;refine awp_cond rfl ?_;refine rz [2,3] ?_;refine awp_ret ?_;exact ⟨_,[],_,[.d (.agg (Pg.cs ⟨[],[],[],[]⟩)),.d (.s (.iface (t j) (u j)))],rfl,rfl,rfl,rfl,rfl,.cons (.d (.agg (.cons (.nil _) (.cons (.nil _) (.cons (.nil _) (.cons (.nil _) .nil)))))) (.cons (.refl _) .nil),rfl⟩
def p36_5:Plan:=(.take 0 (.load 1 (.take 3 (.load 4 (.take 6 (.take 7 (.load 8 (.alt 2 (.alt 5 (.alt 9 (.alt 10 (.one 11 (.one 12 .done)) (.alt 11 (.one 10 (.one 12 .done)) .done)) (.alt 11 (.one 9 (.one 10 (.one 12 .done))) .done)) (.alt 11 (.one 5 (.one 9 (.one 10 (.one 12 .done)))) .done)) (.alt 11 (.one 2 (.one 5 (.one 9 (.one 10 (.one 12 .done))))) .done)))))))))
def p36_12:Plan:=(.load 1 (.one 0 (.one 2 (.take 3 .done))))
theorem inline_many(vars:List ByteArray)(arrays:List Ar)(procs:List Pc)(main:List Sm)(hck:Spec Tryz.prog (GV t u) 34 [.d (.agg (Pg.cs (Pg.mk vars arrays procs main)))] [] (.ret (.d (.s .nilIface))) [])(hP:LyP procs)(hw:wtPg (Pg.mk vars arrays procs main)≤400000000)(hwf:wfB procs main=true)(n:Nat)(R:List Sm)(M:Nat)(hL:layF procs n main [] 0=some (R,M))(hM:M≤1000000000)(hbig:400<M):Spec Tryz.prog (GV t u) 36 [.d (.agg (Pg.cs (Pg.mk vars arrays procs main)))] [] (.ret (.tup [.d (.agg (Pg.cs ⟨[],[],[],[]⟩)),.d (.s (.iface (t 0) (u 0)))])) []:=by
 simp only [wtPg] at hw;have h1:=wtV_len vars;have h2:=wtA_len arrays;have h3:=wtP_len procs;have h4:=prmF_len procs
 have hb1:procs.length≤1073741824:=by omega
 refine spec_of_awp2 TT_ok (N:=59) Tryz.func36 rfl (by rfl) (Nat.le_refl _) rfl ?_;refine rz [1,2] ?_;refine awp_seq ?_;refine rgs fun E K J O=>?_;refine aS [] hck ?_;refine O _ (aN [1,2,4] rfl rfl ?_);clear O J K E;refine rz [1,2,4,12] ?_;refine awp_cond rfl ?_;refine awp_skip ?_;refine rz [1,2,5] ?_;refine awp_cut (fun Z=>Z=⟨[(1,.box 0 0),(2,.box 1 0),(5,.box 2 0),(6,.box 5 0)],[.box 28 [.d (.sl 1 (strs vars)),.d (.sl 2 (ars arrays)),.d (.sl 7 (pcs procs)),.d (.sl 7 (sms main))],.box 28 [.d (.s (.slice none 0 0)),.d (.s (.slice none 0 0)),.d (.s (.slice none 0 0)),.d (.s (.slice none 0 0))],.box 207 [.d (.sl 7 (pcs procs)),.d (num (M:Nat))],.acc 9 1 (strs vars),.acc 169 2 (ars arrays),.box 28 [.acc 3,.acc 4,.d (.s (.slice none 0 0)),.d (.sl 7 (sms R))]]⟩) ?_ ?_
 ·refine (awp_draw TT_ok mixed p36_5 [9,12] (fun i=>Nat.beq i 0) (by kernel_rfl) fun E K J O=>?_)
  refine And.intro ?_ ?_
  ·refine aS [] (cloneS_spec (GV t u) vars (by omega)) ?_
   refine And.intro ?_ ?_
   ·refine aS [] (cloneA_spec (GV t u) arrays (by omega)) ?_
    refine And.intro ?_ ?_
    ·show aCall _ _ _ _ _ _ _
     refine aR [2] rfl rfl rfl (lay_all (GV t u) procs hP (n+1) n (Nat.lt_succ_self _) main 0 R M hL hM hwf (by omega)) rfl rfl rfl rfl ?_;refine And.intro ?_ ?_
     ·refine O _ ?_;clear O J K E
      first
       |exact ⟨_,sub_pick (L:=[0,1,2,3,4,5]) (slots:=[1,2,5,6]) rfl rfl rfl rfl rfl,rfl⟩
       |exact ⟨_,sub_pick (L:=[0,1,2,4,5,3]) (slots:=[1,2,5,6]) rfl rfl rfl rfl rfl,rfl⟩
       |exact ⟨_,sub_pick (L:=[0,1,2,3,5,4]) (slots:=[1,2,5,6]) rfl rfl rfl rfl rfl,rfl⟩
     refine And.intro ?_ ?_
     ·refine O _ ?_;clear O J K E
      first
       |exact ⟨_,sub_pick (L:=[0,1,2,3,4,5]) (slots:=[1,2,5,6]) rfl rfl rfl rfl rfl,rfl⟩
       |exact ⟨_,sub_pick (L:=[0,1,2,4,5,3]) (slots:=[1,2,5,6]) rfl rfl rfl rfl rfl,rfl⟩
       |exact ⟨_,sub_pick (L:=[0,1,2,3,5,4]) (slots:=[1,2,5,6]) rfl rfl rfl rfl rfl,rfl⟩
     trivial
    refine And.intro ?_ ?_
    ·show aCall _ _ _ _ _ _ _
     refine aR [2] rfl rfl rfl (lay_all (GV t u) procs hP (n+1) n (Nat.lt_succ_self _) main 0 R M hL hM hwf (by omega)) rfl rfl rfl rfl ?_;refine O _ ?_;clear O J K E
     first
      |exact ⟨_,sub_pick (L:=[0,1,2,3,4,5]) (slots:=[1,2,5,6]) rfl rfl rfl rfl rfl,rfl⟩
      |exact ⟨_,sub_pick (L:=[0,1,2,4,5,3]) (slots:=[1,2,5,6]) rfl rfl rfl rfl rfl,rfl⟩
      |exact ⟨_,sub_pick (L:=[0,1,2,3,5,4]) (slots:=[1,2,5,6]) rfl rfl rfl rfl rfl,rfl⟩
    trivial
   refine And.intro ?_ ?_
   ·refine aS [] (cloneA_spec (GV t u) arrays (by omega)) ?_
    show aCall _ _ _ _ _ _ _
    refine aR [2] rfl rfl rfl (lay_all (GV t u) procs hP (n+1) n (Nat.lt_succ_self _) main 0 R M hL hM hwf (by omega)) rfl rfl rfl rfl ?_;refine O _ ?_;clear O J K E
    first
     |exact ⟨_,sub_pick (L:=[0,1,2,3,4,5]) (slots:=[1,2,5,6]) rfl rfl rfl rfl rfl,rfl⟩
     |exact ⟨_,sub_pick (L:=[0,1,2,4,5,3]) (slots:=[1,2,5,6]) rfl rfl rfl rfl rfl,rfl⟩
     |exact ⟨_,sub_pick (L:=[0,1,2,3,5,4]) (slots:=[1,2,5,6]) rfl rfl rfl rfl rfl,rfl⟩
   trivial
  refine And.intro ?_ ?_
  ·refine aS [] (cloneS_spec (GV t u) vars (by omega)) ?_
   refine aS [] (cloneA_spec (GV t u) arrays (by omega)) ?_
   show aCall _ _ _ _ _ _ _
   refine aR [2] rfl rfl rfl (lay_all (GV t u) procs hP (n+1) n (Nat.lt_succ_self _) main 0 R M hL hM hwf (by omega)) rfl rfl rfl rfl ?_;refine O _ ?_;clear O J K E
   first
    |exact ⟨_,sub_pick (L:=[0,1,2,3,4,5]) (slots:=[1,2,5,6]) rfl rfl rfl rfl rfl,rfl⟩
    |exact ⟨_,sub_pick (L:=[0,1,2,4,5,3]) (slots:=[1,2,5,6]) rfl rfl rfl rfl rfl,rfl⟩
    |exact ⟨_,sub_pick (L:=[0,1,2,3,5,4]) (slots:=[1,2,5,6]) rfl rfl rfl rfl rfl,rfl⟩
  trivial
 rintro Z rfl;refine awp_seq ?_;refine rz [2,5,6,31,32,33] ?_;refine awp_block ?_;refine awp_loop (fun k Y=>∃(d1 e1:List Pc),k=e1.length∧procs=d1++e1∧Y=⟨[(2,.box 1 0),(5,.box 2 0),(6,.box 5 0),(31,.d (.sl 7 (pcs procs))),(32,.d (num (pcs procs).length)),(33,.d (num d1.length))],[.box 28 [.d (.sl 1 (strs vars)),.d (.sl 2 (ars arrays)),.d (.sl 7 (pcs procs)),.d (.sl 7 (sms main))],.box 28 [.d (.s (.slice none 0 0)),.d (.s (.slice none 0 0)),.d (.s (.slice none 0 0)),.d (.s (.slice none 0 0))],.box 207 [.d (.sl 7 (pcs procs)),.d (num (M:Nat))],.acc 9 1 (strs (vars++prmF d1)),.acc 169 2 (ars arrays),.box 28 [.acc 3,.acc 4,.d (.s (.slice none 0 0)),.d (.sl 7 (sms R))]]⟩) (procs.length) (⟨[],procs,rfl,rfl,by rw [show vars++prmF []=vars from List.append_nil _];rfl⟩) ?_;rintro k Y ⟨d1,e1,rfl,hl1,rfl⟩
 have hll1:(pcs procs).length=d1.length+e1.length:=by rw [pcs_length,hl1,List.length_append]
 have hdl1:d1.length+e1.length≤1073741824:=by rw [hl1,List.length_append] at hb1;exact hb1
 refine rz [2,5,6,31,32,33,34] ?_;refine awp_seq ?_;refine awp_cond2 rfl (onB_intro (fun h1=>?_) (fun h1=>?_))
 ·have h1':=of_decide_eq_true h1
  rw [hll1] at h1'
  cases e1 with
  |nil=>simp only [List.length_nil] at h1';omega
  |cons x e1b=>
  obtain ⟨fn,fps,fbd,⟨o1,n1,m1,l1⟩⟩:=x;subst hl1;simp only [List.length_cons] at hdl1;have hpl:=prmF_len (d1++⟨fn,fps,fbd,.mk o1 n1 m1 l1⟩::e1b);simp only [prmF_app,prmF,List.length_append] at hpl;refine awp_skip ?_;refine awp_seq ?_;refine awp_block ?_;refine rgs fun E K J O=>?_;refine And.intro (by omega) (Exists.intro _ (And.intro (pcs_at rfl) ?_));refine O _ (aN [2,5,6,8,31,32,33] rfl rfl ?_);clear O J K E;refine rgn fun E K J O=>?_;refine And.intro (And.intro ((by simp only [ars,strs_length,List.length_append,List.length_cons,List.length_nil] at *;omega)) ((by simp only [ars,strs_length,List.length_append,List.length_cons,List.length_nil,maxLen] at *;omega))) ?_;refine O _ (aN [2,5,6,31,32,33] rfl rfl ?_);clear O J K E;refine rgn fun E K J O=>?_;refine O _ ?_;clear O J K E;exact ⟨_,Nat.lt_succ_self _,_,sub_pick (L:=[0,1,2,3,4,5]) (slots:=[2,5,6,31,32,33]) rfl rfl rfl rfl rfl,d1++[⟨fn,fps,fbd,.mk o1 n1 m1 l1⟩],e1b,rfl,by simp,by rw [pm_snoc,List.length_append,wrapId (by omega) (by omega)];rfl⟩
 have h1':=of_decide_eq_false h1;rw [hll1] at h1';obtain rfl:e1=[]:=List.eq_nil_of_length_eq_zero (by omega);rw [List.append_nil] at hl1;subst hl1;refine awp_exit ?_;refine awp_norm [2,5,6] rfl rfl ?_;refine awp_seq ?_;refine rgs fun E K J O=>?_;refine onB_intro (fun h2=>?_) (fun h2=>?_)
 ·refine O _ (aN [2,6,54] rfl rfl ?_);clear O J K E;refine awp_cond rfl ?_;refine awp_seq ?_
  refine (awp_draw TT_ok mixed p36_12 [] (fun _=>false) (by kernel_rfl) fun E K J O=>?_);refine O _ (aN [2,3] rfl rfl ?_);clear O J K E;refine awp_ret ?_;exact ⟨_,[],_,[.d (.agg (Pg.cs ⟨[],[],[],[]⟩)),.d (.s (.iface (t 0) (u 0)))],rfl,rfl,rfl,rfl,rfl,.cons (.d (.agg (.cons (.nil _) (.cons (.nil _) (.cons (.nil _) (.cons (.nil _) .nil)))))) (.cons (.refl _) .nil),rfl⟩
 exact absurd hbig (by have:=of_decide_eq_false h2;omega)
theorem inline_deep(vars:List ByteArray)(arrays:List Ar)(procs:List Pc)(main:List Sm)(hck:Spec Tryz.prog (GV t u) 34 [.d (.agg (Pg.cs (Pg.mk vars arrays procs main)))] [] (.ret (.d (.s .nilIface))) [])(hP:LyP procs)(hw:wtPg (Pg.mk vars arrays procs main)≤400000000)(hwf:wfB procs main=true)(n:Nat)(R:List Sm)(M:Nat)(hL:layF procs n main [] 0=some (R,M))(hM:M≤1000000000)(hfew:M≤400)(hwR:wtB R≤1000000000)(hdeep:12<dpB R):Spec Tryz.prog (GV t u) 36 [.d (.agg (Pg.cs (Pg.mk vars arrays procs main)))] [] (.ret (.tup [.d (.agg (Pg.cs ⟨[],[],[],[]⟩)),.d (.s (.iface (t 0) (u 0)))])) []:=by
 simp only [wtPg] at hw;have h1:=wtV_len vars;have h2:=wtA_len arrays;have h3:=wtP_len procs;have h4:=prmF_len procs
 have hb1:procs.length≤1073741824:=by omega
 refine spec_of_awp2 TT_ok (N:=59) Tryz.func36 rfl (by rfl) (Nat.le_refl _) rfl ?_;refine rz [1,2] ?_;refine awp_seq ?_;refine rgs fun E K J O=>?_;refine aS [] hck ?_;refine O _ (aN [1,2,4] rfl rfl ?_);clear O J K E;refine rz [1,2,4,12] ?_;refine awp_cond rfl ?_;refine awp_skip ?_;refine rz [1,2,5] ?_;refine awp_cut (fun Z=>Z=⟨[(1,.box 0 0),(2,.box 1 0),(5,.box 2 0),(6,.box 5 0)],[.box 28 [.d (.sl 1 (strs vars)),.d (.sl 2 (ars arrays)),.d (.sl 7 (pcs procs)),.d (.sl 7 (sms main))],.box 28 [.d (.s (.slice none 0 0)),.d (.s (.slice none 0 0)),.d (.s (.slice none 0 0)),.d (.s (.slice none 0 0))],.box 207 [.d (.sl 7 (pcs procs)),.d (num (M:Nat))],.acc 9 1 (strs vars),.acc 169 2 (ars arrays),.box 28 [.acc 3,.acc 4,.d (.s (.slice none 0 0)),.d (.sl 7 (sms R))]]⟩) ?_ ?_
 ·refine (awp_draw TT_ok mixed p36_5 [9,12] (fun i=>Nat.beq i 0) (by kernel_rfl) fun E K J O=>?_)
  refine And.intro ?_ ?_
  ·refine aS [] (cloneS_spec (GV t u) vars (by omega)) ?_
   refine And.intro ?_ ?_
   ·refine aS [] (cloneA_spec (GV t u) arrays (by omega)) ?_
    refine And.intro ?_ ?_
    ·show aCall _ _ _ _ _ _ _
     refine aR [2] rfl rfl rfl (lay_all (GV t u) procs hP (n+1) n (Nat.lt_succ_self _) main 0 R M hL hM hwf (by omega)) rfl rfl rfl rfl ?_;refine And.intro ?_ ?_
     ·refine O _ ?_;clear O J K E
      first
       |exact ⟨_,sub_pick (L:=[0,1,2,3,4,5]) (slots:=[1,2,5,6]) rfl rfl rfl rfl rfl,rfl⟩
       |exact ⟨_,sub_pick (L:=[0,1,2,4,5,3]) (slots:=[1,2,5,6]) rfl rfl rfl rfl rfl,rfl⟩
       |exact ⟨_,sub_pick (L:=[0,1,2,3,5,4]) (slots:=[1,2,5,6]) rfl rfl rfl rfl rfl,rfl⟩
     refine And.intro ?_ ?_
     ·refine O _ ?_;clear O J K E
      first
       |exact ⟨_,sub_pick (L:=[0,1,2,3,4,5]) (slots:=[1,2,5,6]) rfl rfl rfl rfl rfl,rfl⟩
       |exact ⟨_,sub_pick (L:=[0,1,2,4,5,3]) (slots:=[1,2,5,6]) rfl rfl rfl rfl rfl,rfl⟩
       |exact ⟨_,sub_pick (L:=[0,1,2,3,5,4]) (slots:=[1,2,5,6]) rfl rfl rfl rfl rfl,rfl⟩
     trivial
    refine And.intro ?_ ?_
    ·show aCall _ _ _ _ _ _ _
     refine aR [2] rfl rfl rfl (lay_all (GV t u) procs hP (n+1) n (Nat.lt_succ_self _) main 0 R M hL hM hwf (by omega)) rfl rfl rfl rfl ?_;refine O _ ?_;clear O J K E
     first
      |exact ⟨_,sub_pick (L:=[0,1,2,3,4,5]) (slots:=[1,2,5,6]) rfl rfl rfl rfl rfl,rfl⟩
      |exact ⟨_,sub_pick (L:=[0,1,2,4,5,3]) (slots:=[1,2,5,6]) rfl rfl rfl rfl rfl,rfl⟩
      |exact ⟨_,sub_pick (L:=[0,1,2,3,5,4]) (slots:=[1,2,5,6]) rfl rfl rfl rfl rfl,rfl⟩
    trivial
   refine And.intro ?_ ?_
   ·refine aS [] (cloneA_spec (GV t u) arrays (by omega)) ?_
    show aCall _ _ _ _ _ _ _
    refine aR [2] rfl rfl rfl (lay_all (GV t u) procs hP (n+1) n (Nat.lt_succ_self _) main 0 R M hL hM hwf (by omega)) rfl rfl rfl rfl ?_;refine O _ ?_;clear O J K E
    first
     |exact ⟨_,sub_pick (L:=[0,1,2,3,4,5]) (slots:=[1,2,5,6]) rfl rfl rfl rfl rfl,rfl⟩
     |exact ⟨_,sub_pick (L:=[0,1,2,4,5,3]) (slots:=[1,2,5,6]) rfl rfl rfl rfl rfl,rfl⟩
     |exact ⟨_,sub_pick (L:=[0,1,2,3,5,4]) (slots:=[1,2,5,6]) rfl rfl rfl rfl rfl,rfl⟩
   trivial
  refine And.intro ?_ ?_
  ·refine aS [] (cloneS_spec (GV t u) vars (by omega)) ?_
   refine aS [] (cloneA_spec (GV t u) arrays (by omega)) ?_
   show aCall _ _ _ _ _ _ _
   refine aR [2] rfl rfl rfl (lay_all (GV t u) procs hP (n+1) n (Nat.lt_succ_self _) main 0 R M hL hM hwf (by omega)) rfl rfl rfl rfl ?_;refine O _ ?_;clear O J K E
   first
    |exact ⟨_,sub_pick (L:=[0,1,2,3,4,5]) (slots:=[1,2,5,6]) rfl rfl rfl rfl rfl,rfl⟩
    |exact ⟨_,sub_pick (L:=[0,1,2,4,5,3]) (slots:=[1,2,5,6]) rfl rfl rfl rfl rfl,rfl⟩
    |exact ⟨_,sub_pick (L:=[0,1,2,3,5,4]) (slots:=[1,2,5,6]) rfl rfl rfl rfl rfl,rfl⟩
  trivial
 rintro Z rfl;refine awp_seq ?_;refine rz [2,5,6,31,32,33] ?_;refine awp_block ?_;refine awp_loop (fun k Y=>∃(d1 e1:List Pc),k=e1.length∧procs=d1++e1∧Y=⟨[(2,.box 1 0),(5,.box 2 0),(6,.box 5 0),(31,.d (.sl 7 (pcs procs))),(32,.d (num (pcs procs).length)),(33,.d (num d1.length))],[.box 28 [.d (.sl 1 (strs vars)),.d (.sl 2 (ars arrays)),.d (.sl 7 (pcs procs)),.d (.sl 7 (sms main))],.box 28 [.d (.s (.slice none 0 0)),.d (.s (.slice none 0 0)),.d (.s (.slice none 0 0)),.d (.s (.slice none 0 0))],.box 207 [.d (.sl 7 (pcs procs)),.d (num (M:Nat))],.acc 9 1 (strs (vars++prmF d1)),.acc 169 2 (ars arrays),.box 28 [.acc 3,.acc 4,.d (.s (.slice none 0 0)),.d (.sl 7 (sms R))]]⟩) (procs.length) (⟨[],procs,rfl,rfl,by rw [show vars++prmF []=vars from List.append_nil _];rfl⟩) ?_;rintro k Y ⟨d1,e1,rfl,hl1,rfl⟩
 have hll1:(pcs procs).length=d1.length+e1.length:=by rw [pcs_length,hl1,List.length_append]
 have hdl1:d1.length+e1.length≤1073741824:=by rw [hl1,List.length_append] at hb1;exact hb1
 refine rz [2,5,6,31,32,33,34] ?_;refine awp_seq ?_;refine awp_cond2 rfl (onB_intro (fun h1=>?_) (fun h1=>?_))
 ·have h1':=of_decide_eq_true h1
  rw [hll1] at h1'
  cases e1 with
  |nil=>simp only [List.length_nil] at h1';omega
  |cons x e1b=>
  obtain ⟨fn,fps,fbd,⟨o1,n1,m1,l1⟩⟩:=x;subst hl1;simp only [List.length_cons] at hdl1;have hpl:=prmF_len (d1++⟨fn,fps,fbd,.mk o1 n1 m1 l1⟩::e1b);simp only [prmF_app,prmF,List.length_append] at hpl;refine awp_skip ?_;refine awp_seq ?_;refine awp_block ?_;refine rgs fun E K J O=>?_;refine And.intro (by omega) (Exists.intro _ (And.intro (pcs_at rfl) ?_));refine O _ (aN [2,5,6,8,31,32,33] rfl rfl ?_);clear O J K E;refine rgn fun E K J O=>?_;refine And.intro (And.intro ((by simp only [ars,strs_length,List.length_append,List.length_cons,List.length_nil] at *;omega)) ((by simp only [ars,strs_length,List.length_append,List.length_cons,List.length_nil,maxLen] at *;omega))) ?_;refine O _ (aN [2,5,6,31,32,33] rfl rfl ?_);clear O J K E;refine rgn fun E K J O=>?_;refine O _ ?_;clear O J K E;exact ⟨_,Nat.lt_succ_self _,_,sub_pick (L:=[0,1,2,3,4,5]) (slots:=[2,5,6,31,32,33]) rfl rfl rfl rfl rfl,d1++[⟨fn,fps,fbd,.mk o1 n1 m1 l1⟩],e1b,rfl,by simp,by rw [pm_snoc,List.length_append,wrapId (by omega) (by omega)];rfl⟩
 have h1':=of_decide_eq_false h1;rw [hll1] at h1';obtain rfl:e1=[]:=List.eq_nil_of_length_eq_zero (by omega);rw [List.append_nil] at hl1;subst hl1;refine awp_exit ?_;refine awp_norm [2,5,6] rfl rfl ?_;refine awp_seq ?_;refine rgs fun E K J O=>?_;refine onB_intro (fun h2=>?_) (fun h2=>?_)
 ·exact absurd hfew (by have:=of_decide_eq_true h2;omega)
 refine aS [] (deep_spec (GV t u) R hwR) ?_;refine O _ (aN [2,6,54] rfl rfl ?_);clear O J K E;refine awp_cond2 rfl (onB_intro (fun h3=>?_) (fun h3=>?_))
 ·refine awp_seq ?_
  refine (awp_draw TT_ok mixed p36_12 [] (fun _=>false) (by kernel_rfl) fun E K J O=>?_);refine O _ (aN [2,3] rfl rfl ?_);clear O J K E;refine awp_ret ?_;exact ⟨_,[],_,[.d (.agg (Pg.cs ⟨[],[],[],[]⟩)),.d (.s (.iface (t 0) (u 0)))],rfl,rfl,rfl,rfl,rfl,.cons (.d (.agg (.cons (.nil _) (.cons (.nil _) (.cons (.nil _) (.cons (.nil _) .nil)))))) (.cons (.refl _) .nil),rfl⟩
 exact absurd hdeep (by have:=of_decide_eq_false h3;omega)
theorem inline_ok(vars:List ByteArray)(arrays:List Ar)(procs:List Pc)(main:List Sm)(hck:Spec Tryz.prog (GV t u) 34 [.d (.agg (Pg.cs (Pg.mk vars arrays procs main)))] [] (.ret (.d (.s .nilIface))) [])(hP:LyP procs)(hw:wtPg (Pg.mk vars arrays procs main)≤400000000)(hwf:wfB procs main=true)(n:Nat)(R:List Sm)(M:Nat)(hL:layF procs n main [] 0=some (R,M))(hM:M≤1000000000)(hfew:M≤400)(hwR:wtB R≤1000000000)(hdeep:dpB R≤12):Spec Tryz.prog (GV t u) 36 [.d (.agg (Pg.cs (Pg.mk vars arrays procs main)))] [] (.ret (.tup [.d (.agg (Pg.cs ⟨vars++prmF procs,arrays,[],R⟩)),.d (.s .nilIface)])) []:=by
 simp only [wtPg] at hw;have h1:=wtV_len vars;have h2:=wtA_len arrays;have h3:=wtP_len procs;have h4:=prmF_len procs
 have hb1:procs.length≤1073741824:=by omega
 refine spec_of_awp2 TT_ok (N:=59) Tryz.func36 rfl (by rfl) (Nat.le_refl _) rfl ?_;refine rz [1,2] ?_;refine awp_seq ?_;refine rgs fun E K J O=>?_;refine aS [] hck ?_;refine O _ (aN [1,2,4] rfl rfl ?_);clear O J K E;refine rz [1,2,4,12] ?_;refine awp_cond rfl ?_;refine awp_skip ?_;refine rz [1,2,5] ?_;refine awp_cut (fun Z=>Z=⟨[(1,.box 0 0),(2,.box 1 0),(5,.box 2 0),(6,.box 5 0)],[.box 28 [.d (.sl 1 (strs vars)),.d (.sl 2 (ars arrays)),.d (.sl 7 (pcs procs)),.d (.sl 7 (sms main))],.box 28 [.d (.s (.slice none 0 0)),.d (.s (.slice none 0 0)),.d (.s (.slice none 0 0)),.d (.s (.slice none 0 0))],.box 207 [.d (.sl 7 (pcs procs)),.d (num (M:Nat))],.acc 9 1 (strs vars),.acc 169 2 (ars arrays),.box 28 [.acc 3,.acc 4,.d (.s (.slice none 0 0)),.d (.sl 7 (sms R))]]⟩) ?_ ?_
 ·refine (awp_draw TT_ok mixed p36_5 [9,12] (fun i=>Nat.beq i 0) (by kernel_rfl) fun E K J O=>?_)
  refine And.intro ?_ ?_
  ·refine aS [] (cloneS_spec (GV t u) vars (by omega)) ?_
   refine And.intro ?_ ?_
   ·refine aS [] (cloneA_spec (GV t u) arrays (by omega)) ?_
    refine And.intro ?_ ?_
    ·show aCall _ _ _ _ _ _ _
     refine aR [2] rfl rfl rfl (lay_all (GV t u) procs hP (n+1) n (Nat.lt_succ_self _) main 0 R M hL hM hwf (by omega)) rfl rfl rfl rfl ?_;refine And.intro ?_ ?_
     ·refine O _ ?_;clear O J K E
      first
       |exact ⟨_,sub_pick (L:=[0,1,2,3,4,5]) (slots:=[1,2,5,6]) rfl rfl rfl rfl rfl,rfl⟩
       |exact ⟨_,sub_pick (L:=[0,1,2,4,5,3]) (slots:=[1,2,5,6]) rfl rfl rfl rfl rfl,rfl⟩
       |exact ⟨_,sub_pick (L:=[0,1,2,3,5,4]) (slots:=[1,2,5,6]) rfl rfl rfl rfl rfl,rfl⟩
     refine And.intro ?_ ?_
     ·refine O _ ?_;clear O J K E
      first
       |exact ⟨_,sub_pick (L:=[0,1,2,3,4,5]) (slots:=[1,2,5,6]) rfl rfl rfl rfl rfl,rfl⟩
       |exact ⟨_,sub_pick (L:=[0,1,2,4,5,3]) (slots:=[1,2,5,6]) rfl rfl rfl rfl rfl,rfl⟩
       |exact ⟨_,sub_pick (L:=[0,1,2,3,5,4]) (slots:=[1,2,5,6]) rfl rfl rfl rfl rfl,rfl⟩
     trivial
    refine And.intro ?_ ?_
    ·show aCall _ _ _ _ _ _ _
     refine aR [2] rfl rfl rfl (lay_all (GV t u) procs hP (n+1) n (Nat.lt_succ_self _) main 0 R M hL hM hwf (by omega)) rfl rfl rfl rfl ?_;refine O _ ?_;clear O J K E
     first
      |exact ⟨_,sub_pick (L:=[0,1,2,3,4,5]) (slots:=[1,2,5,6]) rfl rfl rfl rfl rfl,rfl⟩
      |exact ⟨_,sub_pick (L:=[0,1,2,4,5,3]) (slots:=[1,2,5,6]) rfl rfl rfl rfl rfl,rfl⟩
      |exact ⟨_,sub_pick (L:=[0,1,2,3,5,4]) (slots:=[1,2,5,6]) rfl rfl rfl rfl rfl,rfl⟩
    trivial
   refine And.intro ?_ ?_
   ·refine aS [] (cloneA_spec (GV t u) arrays (by omega)) ?_
    show aCall _ _ _ _ _ _ _
    refine aR [2] rfl rfl rfl (lay_all (GV t u) procs hP (n+1) n (Nat.lt_succ_self _) main 0 R M hL hM hwf (by omega)) rfl rfl rfl rfl ?_;refine O _ ?_;clear O J K E
    first
     |exact ⟨_,sub_pick (L:=[0,1,2,3,4,5]) (slots:=[1,2,5,6]) rfl rfl rfl rfl rfl,rfl⟩
     |exact ⟨_,sub_pick (L:=[0,1,2,4,5,3]) (slots:=[1,2,5,6]) rfl rfl rfl rfl rfl,rfl⟩
     |exact ⟨_,sub_pick (L:=[0,1,2,3,5,4]) (slots:=[1,2,5,6]) rfl rfl rfl rfl rfl,rfl⟩
   trivial
  refine And.intro ?_ ?_
  ·refine aS [] (cloneS_spec (GV t u) vars (by omega)) ?_
   refine aS [] (cloneA_spec (GV t u) arrays (by omega)) ?_
   show aCall _ _ _ _ _ _ _
   refine aR [2] rfl rfl rfl (lay_all (GV t u) procs hP (n+1) n (Nat.lt_succ_self _) main 0 R M hL hM hwf (by omega)) rfl rfl rfl rfl ?_;refine O _ ?_;clear O J K E
   first
    |exact ⟨_,sub_pick (L:=[0,1,2,3,4,5]) (slots:=[1,2,5,6]) rfl rfl rfl rfl rfl,rfl⟩
    |exact ⟨_,sub_pick (L:=[0,1,2,4,5,3]) (slots:=[1,2,5,6]) rfl rfl rfl rfl rfl,rfl⟩
    |exact ⟨_,sub_pick (L:=[0,1,2,3,5,4]) (slots:=[1,2,5,6]) rfl rfl rfl rfl rfl,rfl⟩
  trivial
 rintro Z rfl;refine awp_seq ?_;refine rz [2,5,6,31,32,33] ?_;refine awp_block ?_;refine awp_loop (fun k Y=>∃(d1 e1:List Pc),k=e1.length∧procs=d1++e1∧Y=⟨[(2,.box 1 0),(5,.box 2 0),(6,.box 5 0),(31,.d (.sl 7 (pcs procs))),(32,.d (num (pcs procs).length)),(33,.d (num d1.length))],[.box 28 [.d (.sl 1 (strs vars)),.d (.sl 2 (ars arrays)),.d (.sl 7 (pcs procs)),.d (.sl 7 (sms main))],.box 28 [.d (.s (.slice none 0 0)),.d (.s (.slice none 0 0)),.d (.s (.slice none 0 0)),.d (.s (.slice none 0 0))],.box 207 [.d (.sl 7 (pcs procs)),.d (num (M:Nat))],.acc 9 1 (strs (vars++prmF d1)),.acc 169 2 (ars arrays),.box 28 [.acc 3,.acc 4,.d (.s (.slice none 0 0)),.d (.sl 7 (sms R))]]⟩) (procs.length) (⟨[],procs,rfl,rfl,by rw [show vars++prmF []=vars from List.append_nil _];rfl⟩) ?_;rintro k Y ⟨d1,e1,rfl,hl1,rfl⟩
 have hll1:(pcs procs).length=d1.length+e1.length:=by rw [pcs_length,hl1,List.length_append]
 have hdl1:d1.length+e1.length≤1073741824:=by rw [hl1,List.length_append] at hb1;exact hb1
 refine rz [2,5,6,31,32,33,34] ?_;refine awp_seq ?_;refine awp_cond2 rfl (onB_intro (fun h1=>?_) (fun h1=>?_))
 ·have h1':=of_decide_eq_true h1
  rw [hll1] at h1'
  cases e1 with
  |nil=>simp only [List.length_nil] at h1';omega
  |cons x e1b=>
  obtain ⟨fn,fps,fbd,⟨o1,n1,m1,l1⟩⟩:=x;subst hl1;simp only [List.length_cons] at hdl1;have hpl:=prmF_len (d1++⟨fn,fps,fbd,.mk o1 n1 m1 l1⟩::e1b);simp only [prmF_app,prmF,List.length_append] at hpl;refine awp_skip ?_;refine awp_seq ?_;refine awp_block ?_;refine rgs fun E K J O=>?_;refine And.intro (by omega) (Exists.intro _ (And.intro (pcs_at rfl) ?_));refine O _ (aN [2,5,6,8,31,32,33] rfl rfl ?_);clear O J K E;refine rgn fun E K J O=>?_;refine And.intro (And.intro ((by simp only [ars,strs_length,List.length_append,List.length_cons,List.length_nil] at *;omega)) ((by simp only [ars,strs_length,List.length_append,List.length_cons,List.length_nil,maxLen] at *;omega))) ?_;refine O _ (aN [2,5,6,31,32,33] rfl rfl ?_);clear O J K E;refine rgn fun E K J O=>?_;refine O _ ?_;clear O J K E;exact ⟨_,Nat.lt_succ_self _,_,sub_pick (L:=[0,1,2,3,4,5]) (slots:=[2,5,6,31,32,33]) rfl rfl rfl rfl rfl,d1++[⟨fn,fps,fbd,.mk o1 n1 m1 l1⟩],e1b,rfl,by simp,by rw [pm_snoc,List.length_append,wrapId (by omega) (by omega)];rfl⟩
 have h1':=of_decide_eq_false h1;rw [hll1] at h1';obtain rfl:e1=[]:=List.eq_nil_of_length_eq_zero (by omega);rw [List.append_nil] at hl1;subst hl1;refine awp_exit ?_;refine awp_norm [2,5,6] rfl rfl ?_;refine awp_seq ?_;refine rgs fun E K J O=>?_;refine onB_intro (fun h2=>?_) (fun h2=>?_)
 ·exact absurd hfew (by have:=of_decide_eq_true h2;omega)
 refine aS [] (deep_spec (GV t u) R hwR) ?_;refine O _ (aN [2,6,54] rfl rfl ?_);clear O J K E;refine awp_cond2 rfl (onB_intro (fun h3=>?_) (fun h3=>?_))
 ·exact absurd hdeep (by have:=of_decide_eq_true h3;omega)
 refine awp_skip ?_;refine rgs fun E K J O=>?_;refine aS [] (Spec.weak (copy_spec (GV t u) (vars++prmF procs) arrays [] R hwR) (.cons (.d (.agg (.cons (.refl _) (.cons (.refl _) (.cons (.nil _) (.cons (.refl _) .nil)))))) .nil) (.refl _)) ?_;refine O _ (aN [2,3] rfl rfl ?_);clear O J K E;refine awp_ret ?_;exact ⟨_,[],_,[.d (.agg (Pg.cs ⟨vars++prmF procs,arrays,[],R⟩)),.d (.s .nilIface)],rfl,rfl,rfl,rfl,rfl,PWs.refl _,rfl⟩
end
end Go.Abs
end
section
namespace Go.Abs
open Go Go.Proofs
theorem bin_pos{op:ByteArray}(h:binF op=true):1≤op.size:=by
 unfold binF at h
 simp only [Bool.or_eq_true] at h
 rcases h with (((h|h)|h)|h)|h <;> have:=eqW_eq h <;> subst this <;> decide
theorem tx_e:∀(m:Nat) (e:Ex),fuE e≤m→∀(least d:Int) (t:ByteArray) (k:Nat),exprI e least d=some (t,k)→nmE e=true∧fuE e+1≤2 * t.size∧wtE e+2≤80 * t.size
 |0,.mk _ _ _ _,h=>by simp only [fuE] at h;omega
 |m+1,.mk op n nm l,hm=>by
  intro least d t k h
  have key:∀d' t' k',bodyI (.mk op n nm l) d'=some (t',k')→nmE (.mk op n nm l)=true∧fuE (.mk op n nm l)+1≤2 * t'.size∧wtE (.mk op n nm l)+2≤80 * t'.size:=by
   intro d' t' k' hb;have s0:(⟨#[]⟩:ByteArray).size=0:=rfl;have s1:(⟨#[110,117,109]⟩:ByteArray).size=3:=rfl;have s2:(⟨#[118,97,114]⟩:ByteArray).size=3:=rfl;have s3:(⟨#[97,116]⟩:ByteArray).size=2:=rfl;have s4:(⟨#[110,101,103]⟩:ByteArray).size=3:=rfl;have s5:(⟨#[91]⟩:ByteArray).size=1:=rfl;have s6:(⟨#[93]⟩:ByteArray).size=1:=rfl;have s7:(⟨#[45]⟩:ByteArray).size=1:=rfl;have s8:(⟨#[32]⟩:ByteArray).size=1:=rfl
   rcases body_some hb with ⟨rfl,rfl,rfl,h1,h2,rfl⟩|⟨rfl,rfl,rfl,hn,rfl⟩|⟨rfl,rfl,hn,x,t1,k1,rfl,hx,rfl⟩|⟨rfl,rfl,rfl,x,t1,k1,rfl,hx,rfl⟩|⟨hop,rfl,rfl,x,y,t1,k1,t2,k2,rfl,hx,hy,rfl⟩
   ·have:=itoaB_pos n
    refine ⟨?_,?_,?_⟩
    ·simp only [nmE,nmL,chkN,Bool.and_true,Bool.and_eq_true,decide_eq_true_eq];omega
    ·simp only [fuE,fuL];omega
    simp only [wtE,wtL,s0,s1];omega
   ·have:=name_pos hn
    refine ⟨by simp only [nmE,nmL];rfl,?_,?_⟩
    ·simp only [fuE,fuL];omega
    simp only [wtE,wtL,s2];omega
   ·simp only [fuE,fuL] at hm
    obtain ⟨q1,q2,q3⟩:=tx_e m x (by omega) _ _ _ _ hx;have:=name_pos hn;refine ⟨by simp only [nmE,nmL,q1];rfl,?_,?_⟩
    ·simp only [fuE,fuL,sz2,s5,s6];omega
    simp only [wtE,wtL,sz2,s3,s5,s6];omega
   ·simp only [fuE,fuL] at hm
    obtain ⟨q1,q2,q3⟩:=tx_e m x (by omega) _ _ _ _ hx;refine ⟨by simp only [nmE,nmL,q1];rfl,?_,?_⟩
    ·simp only [fuE,fuL,sz2,s7];omega
    simp only [wtE,wtL,sz2,s0,s4,s7];omega
   simp only [fuE,fuL] at hm;obtain ⟨q1,q2,q3⟩:=tx_e m x (by omega) _ _ _ _ hx;obtain ⟨r1,r2,r3⟩:=tx_e m y (by omega) _ _ _ _ hy;have:=bin_pos hop;refine ⟨by simp only [nmE,nmL,q1,r1];rfl,?_,?_⟩
   ·simp only [fuE,fuL,sz2,s8];omega
   simp only [wtE,wtL,sz2,s0,s8];omega
  unfold exprI at h
  have a1:(⟨#[40]⟩:ByteArray).size=1:=rfl;have a2:(⟨#[41]⟩:ByteArray).size=1:=rfl;obtain ⟨_,⟨_,_,t',k',h1,rfl⟩|⟨_,k',h1⟩⟩:=closeI_some h
  ·obtain ⟨q1,q2,q3⟩:=key _ _ _ h1
   simp only [sz2,a1,a2];exact ⟨q1,by omega,by omega⟩
  exact key _ _ _ h1
theorem tx_ex{e:Ex}{least d:Int}{t:ByteArray}{k:Nat}(h:exprI e least d=some (t,k)):nmE e=true∧fuE e+1≤2 * t.size∧wtE e+2≤80 * t.size:=tx_e (fuE e) e (Nat.le_refl _) least d t k h
theorem tx_li:∀(l:List Ex) (ss:List ByteArray) (k:Nat),listI l=some (ss,k)→nmL l=true∧fuL l≤2 * ssz 0 ss∧wtL l≤80 * ssz 0 ss
 |[],ss,k,h=>⟨rfl,by simp [fuL],by simp [wtL]⟩
 |e::r,ss,k,h=>by
  obtain ⟨a,k1,i1,h1,h2,rfl⟩:=bd_some h;obtain ⟨b,k2,i2,h3,h4,rfl⟩:=bd_some h2;obtain ⟨rfl,rfl⟩:=ret_some h4;obtain ⟨q1,q2,q3⟩:=tx_ex h1;obtain ⟨r1,r2,r3⟩:=tx_li r b k2 h3;simp only [nmL,fuL,wtL,ssz,q1,r1];exact ⟨rfl,by omega,by omega⟩
theorem tx_lj{l:List Ex}{t:ByteArray}{k:Nat}(h:listJ l=some (t,k)):nmL l=true∧fuL l≤2 * t.size∧wtL l≤80 * t.size:=by
 obtain ⟨a,k1,i1,h1,h2,rfl⟩:=bd_some h;obtain ⟨rfl,rfl⟩:=ret_some h2;obtain ⟨q1,q2,q3⟩:=tx_li l a k1 h1;have:=joinB_ge a ⟨#[44,32]⟩;exact ⟨q1,by omega,by omega⟩
theorem tx_t{t:Ts}{s:ByteArray}{k:Nat}(h:testI t=some (s,k)):nmT t=true∧fuT t≤2 * s.size∧wtT t+5≤80 * s.size:=by
 obtain ⟨_,h⟩:=grd_some h;obtain ⟨a,k1,i1,h1,h2,rfl⟩:=bd_some h;obtain ⟨b,k2,i2,h3,h4,rfl⟩:=bd_some h2;obtain ⟨rfl,rfl⟩:=ret_some h4;obtain ⟨q1,q2,q3⟩:=tx_ex h1;obtain ⟨r1,r2,r3⟩:=tx_ex h3;have s8:(⟨#[32]⟩:ByteArray).size=1:=rfl;simp only [nmT,fuT,wtT,sz2,s8,q1,r1];exact ⟨rfl,by omega,by omega⟩
theorem tx_a:∀(l:List Ts) (ss:List ByteArray) (k:Nat),andI l=some (ss,k)→nmR l=true∧fuR l≤2 * ssz 0 ss∧wtR l≤80 * ssz 0 ss+10∧(ss=[]→l=[])
 |[],ss,k,h=>⟨rfl,by simp [fuR],by simp [wtR],fun _=>rfl⟩
 |e::r,ss,k,h=>by
  obtain ⟨a,k1,i1,h1,h2,rfl⟩:=bd_some h;obtain ⟨b,k2,i2,h3,h4,rfl⟩:=bd_some h2;obtain ⟨rfl,rfl⟩:=ret_some h4;obtain ⟨q1,q2,q3⟩:=tx_t h1;obtain ⟨r1,r2,r3,_⟩:=tx_a r b k2 h3;simp only [nmR,fuR,wtR,ssz,q1,r1];exact ⟨rfl,by omega,by omega,fun e=>nomatch e⟩
theorem tx_r{l:List Ts}{t:ByteArray}{k:Nat}(h:rowI l=some (t,k)):nmR l=true∧fuR l≤2 * t.size∧wtR l≤80 * t.size+10∧1≤t.size:=by
 obtain ⟨a,k1,i1,h1,h2,rfl⟩:=bd_some h;obtain ⟨rfl,rfl⟩:=ret_some h2;obtain ⟨q1,q2,q3,q4⟩:=tx_a l a k1 h1;have h4:=joinB_ge (nz a) ⟨#[32,97,110,100,32]⟩
 cases a with
 |nil=>
  obtain rfl:=q4 rfl
  have e:(joinB (nz []) ⟨#[32,97,110,100,32]⟩).size=4:=by kernel_rfl
  rw [e];exact ⟨rfl,by simp [fuR],by simp [wtR],by omega⟩
 |cons x a=>
  simp only [nz] at h4 ⊢;refine ⟨q1,by omega,by omega,?_⟩
  cases l with
  |nil=>obtain ⟨e,_⟩:=ret_some h1;cases e
  |cons y r=>
   obtain ⟨a1,k1,i1,g1,g2,rfl⟩:=bd_some h1;obtain ⟨b,k2,i2,g3,g4,rfl⟩:=bd_some g2;obtain ⟨e,rfl⟩:=ret_some g4;cases e;have:=(tx_t g1).2.2;simp only [ssz] at h4;omega
theorem tx_o:∀(l:List (List Ts)) (ss:List ByteArray) (k:Nat),orI l=some (ss,k)→nmC l=true∧fuC l≤2 * ssz 0 ss∧wtC l≤94 * ssz 0 ss+10
 |[],ss,k,h=>⟨rfl,by simp [fuC],by simp [wtC]⟩
 |e::r,ss,k,h=>by
  obtain ⟨a,k1,i1,h1,h2,rfl⟩:=bd_some h;obtain ⟨b,k2,i2,h3,h4,rfl⟩:=bd_some h2;obtain ⟨rfl,rfl⟩:=ret_some h4;obtain ⟨q1,q2,q3,q4⟩:=tx_r h1;obtain ⟨r1,r2,r3⟩:=tx_o r b k2 h3;simp only [nmC,fuC,wtC,ssz,q1,r1];exact ⟨rfl,by omega,by omega⟩
theorem tx_c{c:List (List Ts)}{t:ByteArray}{k:Nat}(h:condI c=some (t,k)):nmC c=true∧fuC c≤2 * t.size∧wtC c≤94 * t.size+10:=by
 cases c with
 |nil=>exact ⟨rfl,by simp [fuC],by simp [wtC]⟩
 |cons r c=>
  dsimp only [condI] at h
  obtain ⟨a,k1,i1,h1,h2,rfl⟩:=bd_some h;obtain ⟨rfl,rfl⟩:=ret_some h2;obtain ⟨q1,q2,q3⟩:=tx_o (r::c) a k1 h1;have:=joinB_ge a ⟨#[32,111,114,32]⟩;exact ⟨q1,by omega,by omega⟩
/-- A statement's own. -/
def ownOk(W:Nat):Sm→Prop
 |.mk kind name proc args cond _ _=>nmL args=true∧fuL args≤8000∧nmC cond=true∧fuC cond≤8000∧name.size≤4000∧kind.size+name.size+proc.size+wtL args+wtC cond≤W
theorem tx_s{s:Sm}{k:Nat}{t:ByteArray}{j:Nat}(h:stmtI s k=some (t,j))(ht:t.size≤4000):ownOk 390000 s:=by
 obtain ⟨kind,name,proc,args,cond,body,els⟩:=s;have z0:(⟨#[]⟩:ByteArray).size=0:=rfl;have z1:(⟨#[115,101,116]⟩:ByteArray).size=3:=rfl;have z2:(⟨#[112,117,116]⟩:ByteArray).size=3:=rfl;have z3:(⟨#[99,97,108,108]⟩:ByteArray).size=4:=rfl;have z4:(⟨#[105,102]⟩:ByteArray).size=2:=rfl;have z5:(⟨#[119,104,105,108,101]⟩:ByteArray).size=5:=rfl;have z6:(⟨#[97,115,115,101,114,116]⟩:ByteArray).size=6:=rfl;have z7:(⟨#[97,115,115,117,109,101]⟩:ByteArray).size=6:=rfl;have z8:(⟨#[114,101,97,100]⟩:ByteArray).size=4:=rfl;have zC:nmC []=true:=rfl
 have zD:fuC []=0:=by simp [fuC]
 have zE:wtC []=10:=by simp [wtC]
 have zA:nmL []=true:=by simp [nmL]
 have zB:fuL []=0:=by simp [fuL]
 have zF:wtL []=0:=by simp [wtL]
 rcases stmt_some h with ⟨rfl,rfl,rfl,_,_,hn,x,t1,k1,rfl,hx,rfl⟩|⟨rfl,rfl,rfl,_,_,hn,x,y,t1,k1,t2,k2,rfl,hx,hy,rfl⟩|⟨rfl,rfl,_,_,hn,hp,t1,k1,ha,rfl⟩|⟨rfl,rfl,rfl,rfl,c,k1,b,k2,r,hc,_,rfl,_⟩|⟨rfl,rfl,rfl,rfl,_,c,k1,b,k2,hc,_,rfl⟩|⟨hk,rfl,rfl,rfl,_,_,c,k1,hc,rfl⟩|⟨rfl,rfl,rfl,rfl,_,_,hn,rfl⟩
 ·obtain ⟨q1,q2,q3⟩:=tx_ex hx
  simp only [lnI_size,sz2] at ht;simp only [ownOk,nmL,fuL,wtL,q1,z0,z1,zD,zE,zC]
  refine ⟨?_,by omega,?_,by omega,by omega,by omega⟩ <;> first|rfl|trivial
 ·obtain ⟨q1,q2,q3⟩:=tx_ex hx
  obtain ⟨r1,r2,r3⟩:=tx_ex hy;simp only [lnI_size,sz2] at ht;simp only [ownOk,nmL,fuL,wtL,q1,r1,z0,z2,zD,zE,zC]
  refine ⟨?_,by omega,?_,by omega,by omega,by omega⟩ <;> first|rfl|trivial
 ·obtain ⟨q1,q2,q3⟩:=tx_lj ha
  simp only [lnI_size,sz2] at ht;simp only [ownOk,q1,z3,zD,zE,zC]
  refine ⟨?_,by omega,?_,by omega,by omega,by omega⟩ <;> first|rfl|trivial
 ·obtain ⟨q1,q2,q3⟩:=tx_c hc
  simp only [lnI_size,sz2] at ht;simp only [ownOk,q1,z0,z4,zA,zB,zF]
  refine ⟨?_,by omega,?_,by omega,by omega,by omega⟩ <;> first|rfl|trivial
 ·obtain ⟨q1,q2,q3⟩:=tx_c hc
  simp only [lnI_size,sz2] at ht;simp only [ownOk,q1,z0,z5,zA,zB,zF]
  refine ⟨?_,by omega,?_,by omega,by omega,by omega⟩ <;> first|rfl|trivial
 ·obtain ⟨q1,q2,q3⟩:=tx_c hc
  simp only [lnI_size,sz2] at ht
  have zk:kind.size=6:=by rcases hk with rfl|rfl <;> rfl
  simp only [ownOk,q1,z0,zk,zA,zB,zF]
  refine ⟨?_,by omega,?_,by omega,by omega,by omega⟩ <;> first|rfl|trivial
 simp only [lnI_size,sz2] at ht;simp only [ownOk,z0,z8,zA,zB,zF,zD,zE,zC]
 refine ⟨?_,by omega,?_,by omega,by omega,by omega⟩ <;> first|rfl|trivial
theorem name_le{s:ByteArray}(h:isNameF s=true):s.size≤8:=by
 unfold isNameF at h
 split at h
 ·simp only [Bool.and_eq_true,decide_eq_true_eq] at h
  omega
 cases h
/-- What has a text has small parts. -/
structure SmallP (procs:List Pc) (main:List Sm):Prop where
 mn:∀x,x∈flatB main→ownOk 390000 x
 pc:∀f,f∈procs→(∀x,x∈flatB f.body→ownOk 390000 x)∧nmE f.ret=true∧fuE f.ret≤7999∧wtE f.ret≤320000∧∀v,v∈f.params→v.size≤8
theorem small_b{l:List Sm}{k:Nat}{r:ByteArray×Nat}(h:blockI l k=some r)(hr:r.1.size≤4000):∀x,x∈flatB l→ownOk 390000 x:=fun x hx=>by
 obtain ⟨k',t',j',h1,h2⟩:=flat_text.2 l k r h x hx;exact tx_s h1 (by omega)
theorem small_p:∀(l:List Pc) (r:ByteArray×Nat),procsI l=some r→r.1.size≤4000→∀f,f∈l→(∀x,x∈flatB f.body→ownOk 390000 x)∧nmE f.ret=true∧fuE f.ret≤7999∧wtE f.ret≤320000∧∀v,v∈f.params→v.size≤8
 |[],r,h,hr,f,hf=>by cases hf
 |⟨nm,ps,bd,rt⟩::l,r,h,hr,f,hf=>by
  obtain ⟨t,k⟩:=r;obtain ⟨hps,h⟩:=grd_some h;obtain ⟨_,h⟩:=grd_some h;obtain ⟨a,b,k1,k2,h1,h2,rfl,rfl⟩:=sq_some h;obtain ⟨a2,b2,k3,k4,h3,h4,rfl,rfl⟩:=sq_some h2;obtain ⟨a3,b3,k5,k6,h5,h6,rfl,rfl⟩:=sq_some h4;obtain ⟨a4,b4,k7,k8,h7,h8,rfl,rfl⟩:=sq_some h6;obtain ⟨s,k9,k10,h9,h10,rfl⟩:=bd_some h5;obtain ⟨rfl,rfl⟩:=ret_some h10;simp only [sz2,lnI_size] at hr
  rcases List.mem_cons.1 hf with rfl|hf
  ·obtain ⟨q1,q2,q3⟩:=tx_ex h9
   exact ⟨small_b h3 (by simp only;omega),q1,by simp only;omega,by simp only;omega,fun v hv=>name_le (List.all_eq_true.1 hps v hv)⟩
  exact small_p l _ h8 (by simp only;omega) f hf
theorem small_of{vars:List ByteArray}{arrays:List Ar}{procs:List Pc}{main:List Sm}{t:ByteArray}{k:Nat}(h:progI ⟨vars,arrays,procs,main⟩=some (t,k))(ht:t.size≤4000):SmallP procs main:=by
 obtain ⟨a,b,k1,k2,h1,h2,rfl,rfl⟩:=sq_some h;obtain ⟨a2,b2,k3,k4,h3,h4,rfl,rfl⟩:=sq_some h2;obtain ⟨a3,b3,k5,k6,h5,h6,rfl,rfl⟩:=sq_some h4;obtain ⟨a4,b4,k7,k8,h7,h8,rfl,rfl⟩:=sq_some h6;obtain ⟨a5,b5,k9,k10,h9,h10,rfl,rfl⟩:=sq_some h8;simp only [sz2] at ht;exact ⟨small_b h9 (by simp only;omega),small_p procs _ h5 (by simp only;omega)⟩
end Go.Abs
end
