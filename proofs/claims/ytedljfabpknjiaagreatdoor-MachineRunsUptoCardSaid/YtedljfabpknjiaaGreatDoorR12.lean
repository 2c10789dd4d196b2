/- Texts of this proof, joined and shortened. -/
import Derived.Test.YtedljfabpknjiaaGreatDoorR6
import Derived.Test.YtedljfabpknjiaaGreatDoorR10
import Derived.Test.YtedljfabpknjiaaGreatDoorR11
set_option maxHeartbeats 1000000
section
namespace Go.Abs
open Go
structure MS where
 vs:List (BA×Int)
 ar:List (BA×List Int)
 inp:List Int
 steps:Int
def iM:List (BA×Int)->BA->Int
 |[],_=>0
 | (k,p)::r,s=>match s==k with
  |true=>p
  |false=>iM r s
def ff:List (BA×Int)->BA->Int->List (BA×Int)
 |[],s,p=>[(s,p)]
 | (k,q)::r,s,p=>match s==k with
  |true=>(k,p)::r
  |false=>(k,q)::ff r s p
def ef:List (BA×List Int)->BA->List Int
 |[],_=>[]
 | (k,p)::r,s=>match s==k with
  |true=>p
  |false=>ef r s
def jL:List (BA×List Int)->BA->Nat->Int->List (BA×List Int)
 |[],_,_,_=>[]
 | (k,q)::r,s,i,p=>match s==k with
  |true=>(k,q.set i p)::r
  |false=>(k,q)::jL r s i p
def fP(n:Int):Bool:=decide (n>1099511627776)||decide (n < -1099511627776)
def dP(n:Int):Option Int:=match fP n with
 |true=>none
 |false=>some n
def rW(a b:Int):Option Int:=match (a != 0)&&decide (tK b (IntKind.i64.wrap (0 - b))>IntKind.i64.wrap (Int.tdiv 4611686018427387904 (tK a (IntKind.i64.wrap (0 - a))))) with
 |true=>none
 |false=>some (IntKind.i64.wrap (a * b))
def fg(vs:List (BA×Int))(ar:List (BA×List Int)):Ex->Option Int
 |.mk op n nm l=>match op.toList==(⟨#[110,117,109]⟩:BA).toList with
  |true=>dP n
  |false=>match op.toList==(⟨#[118,97,114]⟩:BA).toList with
   |true=>some (iM vs nm)
   |false=>match op.toList==(⟨#[97,116]⟩:BA).toList with
    |true=>match l with
     |x::_=>match fg vs ar x with
      |none=>none
      |some i=>match decide (i<0)||decide (i≥((ef ar nm).length:Int)) with
       |true=>none
       |false=>(ef ar nm)[i.toNat]?
     |[]=>none
    |false=>match op.toList==(⟨#[110,101,103]⟩:BA).toList with
     |true=>match l with
      |x::_=>match fg vs ar x with
       |none=>none
       |some i=>some (IntKind.i64.wrap (0 - i))
      |[]=>none
     |false=>match l with
      |x::y::_=>match fg vs ar x with
       |none=>none
       |some a=>match fg vs ar y with
        |none=>none
        |some b=>match op.toList==(⟨#[43]⟩:BA).toList with
         |true=>dP (IntKind.i64.wrap (a+b))
         |false=>match op.toList==(⟨#[45]⟩:BA).toList with
          |true=>dP (IntKind.i64.wrap (a - b))
          |false=>match op.toList==(⟨#[42]⟩:BA).toList with
           |true=>match rW a b with
            |none=>none
            |some c=>dP c
           |false=>match b==0 with
            |true=>none
            |false=>match op.toList==(⟨#[47]⟩:BA).toList with
             |true=>some (IntKind.i64.wrap (Int.tdiv a b))
             |false=>some (Int.tmod a b)
      |_=>none
def jM(a:Int)(dZ:BA)(b:Int):Bool:=match dZ.toList==(⟨#[60]⟩:BA).toList with
 |true=>decide (a<b)
 |false=>match dZ.toList==(⟨#[60,61]⟩:BA).toList with
  |true=>decide (a<=b)
  |false=>match dZ.toList==(⟨#[61,61]⟩:BA).toList with
   |true=>a==b
   |false=>match dZ.toList==(⟨#[33,61]⟩:BA).toList with
    |true=>a != b
    |false=>match dZ.toList==(⟨#[62]⟩:BA).toList with
     |true=>decide (a>b)
     |false=>decide (a≥b)
def jN(vs:List (BA×Int))(ar:List (BA×List Int)):List Ts->Option Bool
 |[]=>some true
 |t::r=>match fg vs ar t.a with
  |none=>none
  |some a=>match fg vs ar t.b with
   |none=>none
   |some b=>match jM a t.rel b with
    |true=>jN vs ar r
    |false=>some false
def dz(vs:List (BA×Int))(ar:List (BA×List Int)):List (List Ts)->Option Bool
 |[]=>some false
 |r::c=>match jN vs ar r with
  |none=>none
  |some true=>some true
  |some false=>dz vs ar c
inductive MO where
 |ok (S:MS)
 |stop (k:BA) (S:MS)
 |out
def MO.bind:MO->(MS->MO)->MO
 |.ok S,f=>f S
 |.stop k S,_=>.stop k S
 |.out,_=>.out
def wTired:BA:=⟨#[116,105,114,101,100]⟩
def gq:BA:=⟨#[119,114,111,110,103]⟩
def yg:BA:=⟨#[115,116,117,99,107]⟩
def sX:BA:=⟨#[102,97,105,108,101,100]⟩
def er(F:Int)(S:MS):MO:=match S.steps==F with
 |true=>.stop wTired S
 |false=>.ok { S with steps:=S.steps+1 }
def dh(S:MS)(e:Ex)(f:Int->MO):MO:=match fg S.vs S.ar e with
 |none=>.stop gq S
 |some n=>f n
def dk(S:MS)(c:List (List Ts))(f:Bool->MO):MO:=match dz S.vs S.ar c with
 |none=>.stop gq S
 |some b=>f b
def jO:List BA->List Ex->MS->MO
 |[],_,S=>.ok S
 |v::r,e::l,S=>dh S e fun n=>jO r l { S with vs:=ff S.vs v n }
 |_::_,[],S=>.stop gq S
def findP(ps:List Pc)(v:BA):Option Pc:=ps.find? fun f=>f.name.toList==v.toList
mutual
def cF(ps:List Pc)(F:Int):Nat->List Sm->MS->MO
 |0,_,_=>.out
 |_+1,[],S=>.ok S
 |n+1,s::r,S=>((er F S).bind fun S=>stM ps F n s S).bind fun S=>cF ps F n r S
def stM(ps:List Pc)(F:Int):Nat->Sm->MS->MO
 |0,_,_=>.out
 |n+1,.mk ap name proc args cond ao aK,S=>match ap.toList==(⟨#[115,101,116]⟩:BA).toList with
  |true=>match args with
   |x::_=>dh S x fun a=>.ok { S with vs:=ff S.vs name a }
   |[]=>.stop gq S
  |false=>match ap.toList==(⟨#[112,117,116]⟩:BA).toList with
   |true=>match args with
    |x::y::_=>dh S x fun i=>dh S y fun a=>match decide (i<0)||decide (i≥((ef S.ar name).length:Int)) with
     |true=>.stop gq S
     |false=>.ok { S with ar:=jL S.ar name i.toNat a }
    |_=>.stop gq S
   |false=>match ap.toList==(⟨#[114,101,97,100]⟩:BA).toList with
    |true=>match S.inp with
     |[]=>.stop gq S
     |a::r=>.ok { S with vs:=ff S.vs name a,inp:=r }
    |false=>match ap.toList==(⟨#[99,97,108,108]⟩:BA).toList with
     |true=>match findP ps proc with
      |some f=>((jO f.params args S).bind fun S=>cF ps F n f.body S).bind fun S=>dh S f.ret fun a=>.ok { S with vs:=ff S.vs name a }
      |none=>.stop gq S
     |false=>match ap.toList==(⟨#[105,102]⟩:BA).toList with
      |true=>dk S cond fun b=>match b with
       |true=>cF ps F n ao S
       |false=>cF ps F n aK S
      |false=>match ap.toList==(⟨#[119,104,105,108,101]⟩:BA).toList with
       |true=>rX ps F n cond ao S
       |false=>match ap.toList==(⟨#[97,115,115,117,109,101]⟩:BA).toList with
        |true=>dk S cond fun b=>match b with
         |true=>.ok S
         |false=>.stop yg S
        |false=>match ap.toList==(⟨#[97,115,115,101,114,116]⟩:BA).toList with
         |true=>dk S cond fun b=>match b with
          |true=>.ok S
          |false=>.stop sX S
         |false=>.ok S
def rX(ps:List Pc)(F:Int):Nat->List (List Ts)->List Sm->MS->MO
 |0,_,_,_=>.out
 |n+1,cond,ao,S=>dk S cond fun b=>match b with
  |true=>((cF ps F n ao S).bind fun S=>er F S).bind fun S=>rX ps F n cond ao S
  |false=>.ok S
end
def nv(F:Int)(S:MS)(a b:MO):Prop:=match a with
 |.out=>True
 |.ok S1=>b=.ok S1/\S.steps<=S1.steps/\S1.steps<=F
 |.stop k S1=>S.steps<=S1.steps/\S1.steps<=F/\(b=.stop k S1\/(k=wTired/\S1.steps=F/\match b with
  |.out=>True
  |.ok S2=>F<=S2.steps
  |.stop _ S2=>F<=S2.steps))
def Grow(S:MS)(a:MO):Prop:=match a with
 |.out=>True
 |.ok S1=>S.steps<=S1.steps
 |.stop _ S1=>S.steps<=S1.steps
theorem iS{S:MS}{a:MO}{f:MS->MO}(h:Grow S a)(k:∀S1,Grow S1 (f S1)):Grow S (a.bind f):=by
 cases a with
 |out=>trivial
 |stop k S1=>exact h
 |ok S1=>
  have h:S.steps<=S1.steps:=h;have:=k S1;show Grow S (f S1)
  cases hf:f S1 with
  |out=>trivial
  |ok S2=>rw [hf] at this;exact Int.le_trans h this
  |stop k S2=>rw [hf] at this;exact Int.le_trans h this
theorem iT{F:Int}{S:MS}{a b:MO}{f g:MS->MO}(h:nv F S a b)(k:∀S1,S1.steps<=F->nv F S1 (f S1) (g S1))(kg:∀S1,Grow S1 (g S1)):nv F S (a.bind f) (b.bind g):=by
 cases a with
 |out=>trivial
 |ok S1=>
  obtain ⟨rfl,h1,h2⟩:=h;have:=k S1 h2;show nv F S (f S1) (g S1)
  cases hf:f S1 with
  |out=>trivial
  |ok S2=>
   rw [hf] at this;exact ⟨this.1,Int.le_trans h1 this.2.1,this.2.2⟩
  |stop q S2=>
   rw [hf] at this;exact ⟨Int.le_trans h1 this.1,this.2⟩
 |stop q S1=>
  obtain ⟨h1,h2,h3⟩:=h;refine ⟨h1,h2,?_⟩;rcases h3 with rfl|⟨e1,e2,e3⟩
  ·exact .inl rfl
  refine .inr ⟨e1,e2,?_⟩;cases b with
  |out=>trivial
  |stop k S2=>exact e3
  |ok S2=>
   have e3:F<=S2.steps:=e3;have:=kg S2;show match g S2 with
    |.out=>True
    |.ok S3=>F<=S3.steps
    |.stop _ S3=>F<=S3.steps
   cases hg:g S2 with
   |out=>trivial
   |ok S3=>rw [hg] at this;exact Int.le_trans e3 this
   |stop k S3=>rw [hg] at this;exact Int.le_trans e3 this
theorem mX{S:MS}{e:Ex}{f:Int->MO}(h:∀n,Grow S (f n)):Grow S (dh S e f):=by
 unfold dh;split
 ·exact Int.le_refl _
 exact h _
theorem EO{S:MS}{e:List (List Ts)}{f:Bool->MO}(h:∀n,Grow S (f n)):Grow S (dk S e f):=by
 unfold dk;split
 ·exact Int.le_refl _
 exact h _
theorem grow_step(F:Int)(S:MS):Grow S (er F S):=by
 unfold er;split
 ·exact Int.le_refl _
 show S.steps<=S.steps+1
 omega
theorem AB:∀(l:List BA) (es:List Ex) (S:MS),Grow S (jO l es S)
 |[],_,S=>Int.le_refl _
 |v::r,[],S=>Int.le_refl _
 |v::r,e::l,S=>by
  simp only [jO];exact mX fun n=>AB r l { S with vs:=ff S.vs v n }
theorem AC(ps:List Pc)(F:Int):∀n,(∀l S,Grow S (cF ps F n l S))/\(∀s S,Grow S (stM ps F n s S))/\(∀c l S,Grow S (rX ps F n c l S))
 |0=>⟨fun l S=>by simp only [cF];trivial,fun s S=>by simp only [stM];trivial,fun c l S=>by simp only [rX];trivial⟩
 |n+1=>by
  obtain ⟨h1,h2,h3⟩:=AC ps F n;refine ⟨fun l S=>?_,fun s S=>?_,fun c l S=>?_⟩
  ·cases l with
   |nil=>simp only [cF];exact Int.le_refl _
   |cons s r=>
    simp only [cF];exact iS (iS (grow_step F S) fun S=>h2 s S) fun S=>h1 r S
  ·obtain ⟨ap,name,proc,args,cond,ao,aK⟩:=s;simp only [stM]
   repeat' split
   all_goals first
    |exact Int.le_refl _
    |exact mX fun n=>Int.le_refl _
    |exact mX fun n=>mX fun m=>by split <;> exact Int.le_refl _
    |exact iS (iS (AB _ _ _) fun S=>h1 _ S) fun S=>mX fun n=>Int.le_refl _
    |exact h3 _ _ _
    |exact EO fun b=>by cases b <;> first|exact h1 _ _|exact Int.le_refl _
  simp only [rX];exact EO fun b=>by
   cases b with
   |true=>exact iS (iS (h1 _ _) fun S=>grow_step F S) fun S=>h3 _ _ S
   |false=>exact Int.le_refl _
theorem gd{F:Int}{S S1:MS}(h:S.steps<=F)(e:S1.steps=S.steps):nv F S (.ok S1) (.ok S1):=⟨rfl,Int.le_of_eq e.symm,by rw [e];exact h⟩
theorem iU{F:Int}{S:MS}{k:BA}(h:S.steps<=F):nv F S (.stop k S) (.stop k S):=⟨Int.le_refl _,h,.inl rfl⟩
theorem pJ{F:Int}{S:MS}{e:Ex}{f g:Int->MO}(h0:S.steps<=F)(h:∀n,nv F S (f n) (g n)):nv F S (dh S e f) (dh S e g):=by
 unfold dh;split
 ·exact iU h0
 exact h _
theorem EP{F:Int}{S:MS}{e:List (List Ts)}{f g:Bool->MO}(h0:S.steps<=F)(h:∀n,nv F S (f n) (g n)):nv F S (dk S e f) (dk S e g):=by
 unfold dk;split
 ·exact iU h0
 exact h _
theorem wA{F F':Int}(hF:F<=F'){S:MS}(h:S.steps<=F):nv F S (er F S) (er F' S):=by
 unfold er;cases q:S.steps==F with
 |true=>
  have q:=eq_of_beq q;refine ⟨Int.le_refl _,h,.inr ⟨rfl,q,?_⟩⟩;cases q2:S.steps==F' with
  |true=>exact Int.le_of_eq q.symm
  |false=>show F<=S.steps+1;omega
 |false=>
  have q:S.steps≠F:=fun e=>by rw [e] at q;simp at q
  have q2:(S.steps==F')=false:=beq_eq_false_iff_ne.2 (by omega);rw [q2];exact ⟨rfl,by show S.steps<=S.steps+1;omega,by show S.steps+1<=F;omega⟩
theorem tL{F:Int}:∀(l:List BA) (es:List Ex) (S:MS),S.steps<=F->nv F S (jO l es S) (jO l es S)
 |[],_,S,h=>gd h rfl
 |v::r,[],S,h=>iU h
 |v::r,e::l,S,h=>by
  simp only [jO];exact pJ h fun n=>tL r l { S with vs:=ff S.vs v n } h
theorem AD(ps:List Pc){F F':Int}(hF:F<=F'):∀n,(∀l S,S.steps<=F->nv F S (cF ps F n l S) (cF ps F' n l S))/\(∀s S,S.steps<=F->nv F S (stM ps F n s S) (stM ps F' n s S))/\(∀c l S,S.steps<=F->nv F S (rX ps F n c l S) (rX ps F' n c l S))
 |0=>⟨fun l S _=>by simp only [cF];trivial,fun s S _=>by simp only [stM];trivial,fun c l S _=>by simp only [rX];trivial⟩
 |n+1=>by
  obtain ⟨h1,h2,h3⟩:=AD ps hF n;obtain ⟨g1,g2,g3⟩:=AC ps F' n;refine ⟨fun l S h=>?_,fun s S h=>?_,fun c l S h=>?_⟩
  ·cases l with
   |nil=>simp only [cF];exact gd h rfl
   |cons s r=>
    simp only [cF];exact iT (iT (wA hF h) (fun S h=>h2 s S h) fun S=>g2 s S) (fun S h=>h1 r S h) fun S=>g1 r S
  ·obtain ⟨ap,name,proc,args,cond,ao,aK⟩:=s;simp only [stM]
   repeat' split
   all_goals first
    |exact iU h
    |exact gd h rfl
    |exact pJ h fun n=>gd h rfl
    |exact pJ h fun n=>pJ h fun m=>by split <;> first|exact iU h|exact gd h rfl
    |exact iT (iT (tL _ _ _ h) (fun S h=>h1 _ S h) fun S=>g1 _ S) (fun S h=>pJ h fun n=>gd h rfl) fun S=>mX fun n=>Int.le_refl _
    |exact h3 _ _ _ h
    |exact EP h fun b=>by cases b <;> first|exact h1 _ _ h|exact iU h|exact gd h rfl
  simp only [rX];exact EP h fun b=>by
   cases b with
   |true=>exact iT (iT (h1 _ _ h) (fun S h=>wA hF h) fun S=>grow_step F' S) (fun S h=>h3 _ _ S h) fun S=>g3 _ _ S
   |false=>exact gd h rfl
def vL(ps:List Pc)(F:Int)(n:Nat)(l:List Sm)(S:MS):Option (BA×MS):=match cF ps F n l S with
 |.ok S=>some (⟨#[100,111,110,101]⟩,S)
 |.stop k S=>some (k,S)
 |.out=>none
def lf:MO->Prop
 |.out=>False
 |_=>True
theorem gT{a:MO}{f:MS->MO}(h:lf a)(k:∀S1,a=.ok S1->lf (f S1)):lf (a.bind f):=by
 cases a with
 |out=>exact h.elim
 |stop q S=>trivial
 |ok S=>exact k S rfl
theorem lK{S:MS}{e:Ex}{f:Int->MO}(h:∀n,lf (f n)):lf (dh S e f):=by
 unfold dh;split
 ·trivial
 exact h _
theorem AF{S:MS}{c:List (List Ts)}{f:Bool->MO}(h:∀n,lf (f n)):lf (dk S c f):=by
 unfold dk;split
 ·trivial
 exact h _
theorem wB:∀(l:List BA) (es:List Ex) (S:MS),lf (jO l es S)
 |[],_,_=>trivial
 |_::_,[],_=>trivial
 |v::r,e::l,S=>by
  simp only [jO];exact lK fun n=>wB r l { S with vs:=ff S.vs v n }
theorem tM(F:Int)(S:MS):lf (er F S):=by
 unfold er;split <;> trivial
theorem step_ok{F:Int}{S S1:MS}(h0:S.steps<=F)(h:er F S=.ok S1):S1.steps=S.steps+1/\S1.steps<=F:=by
 unfold er at h;split at h
 ·cases h
 rename_i q;have q:S.steps≠F:=fun e=>by rw [e] at q;simp at q
 simp only [MO.ok.injEq] at h;subst h;exact ⟨rfl,by show S.steps+1<=F;omega⟩
theorem yh{F:Int}{S S1:MS}{a b:MO}(h:nv F S a b)(e:a=.ok S1):S.steps<=S1.steps/\S1.steps<=F:=by
 subst e;exact h.2
theorem EQ(ps:List Pc)(F:Int):∀n:Nat,(∀l S,S.steps<=F->3 * (F - S.steps)+1<=n->lf (cF ps F n l S))/\(∀s S,S.steps<=F->3 * (F - S.steps)+3<=n->lf (stM ps F n s S))/\(∀c l S,S.steps<=F->3 * (F - S.steps)+2<=n->lf (rX ps F n c l S))
 |0=>⟨fun l S h1 h2=>by omega,fun s S h1 h2=>by omega,fun c l S h1 h2=>by omega⟩
 |n+1=>by
  obtain ⟨h1,h2,h3⟩:=EQ ps F n;obtain ⟨f1,f2,f3⟩:=AD ps (Int.le_refl F) n;refine ⟨fun l S h0 hn=>?_,fun s S h0 hn=>?_,fun c l S h0 hn=>?_⟩
  ·cases l with
   |nil=>simp only [cF];trivial
   |cons s r=>
    simp only [cF];refine gT (gT (tM F S) fun S1 e1=>?_) fun S2 e2=>?_
    ·obtain ⟨q1,q2⟩:=step_ok h0 e1;exact h2 s S1 q2 (by omega)
    cases hs:er F S with
    |out=>rw [hs] at e2;cases e2
    |stop k S1=>rw [hs] at e2;cases e2
    |ok S1=>
     rw [hs] at e2;obtain ⟨q1,q2⟩:=step_ok h0 hs;obtain ⟨q3,q4⟩:=yh (f2 s S1 q2) e2;exact h1 r S2 q4 (by omega)
  ·obtain ⟨ap,name,proc,args,cond,ao,aK⟩:=s;simp only [stM]
   repeat' split
   all_goals first
    |trivial
    |exact lK fun n=>trivial
    |exact lK fun n=>lK fun m=>by split <;> trivial
    |exact h3 _ _ _ h0 (by omega)
    |exact AF fun b=>by cases b <;> first|exact h1 _ _ h0 (by omega)|trivial
    |exact gT (gT (wB _ _ _) fun S1 e1=>by
      obtain ⟨q1,q2⟩:=yh (tL _ _ S h0) e1;exact h1 _ S1 q2 (by omega)) fun S2 e2=>lK fun n=>trivial
  simp only [rX];refine AF fun b=>?_
  cases b with
  |false=>trivial
  |true=>
   refine gT (gT (h1 _ _ h0 (by omega)) fun S1 e1=>tM F S1) fun S2 e2=>?_
   cases hs:cF ps F n l S with
   |out=>rw [hs] at e2;cases e2
   |stop k S1=>rw [hs] at e2;cases e2
   |ok S1=>
    rw [hs] at e2;obtain ⟨q1,q2⟩:=yh (f1 l S h0) hs;obtain ⟨q3,q4⟩:=step_ok q2 e2;exact h3 c l S2 q4 (by omega)
theorem Iu(ps:List Pc)(F:Int)(n:Nat)(l:List Sm)(S:MS)(h0:S.steps<=F)(hn:3 * (F - S.steps)+1<=n):∃k S1,vL ps F n l S=some (k,S1):=by
 have h:=(EQ ps F n).1 l S h0 hn;unfold vL;cases hb:cF ps F n l S with
 |out=>rw [hb] at h;exact h.elim
 |ok S1=>exact ⟨_,S1,rfl⟩
 |stop k S1=>exact ⟨k,S1,rfl⟩
theorem ws:yg≠wTired:=by decide
theorem wf:sX≠wTired:=by decide
end Go.Abs
end
section
namespace Go.Abs
open Go Go.Proofs
attribute [local irreducible] c8 dJ Sub Spec
section
def sq:Nat->Nat
 |0=>3
 |1=>0
 |2=>1
 |3=>4
 |4=>2
 |5=>5
 |6=>6
 |_=>7
def kc:Nat->Nat
 |0=>1
 |1=>2
 |2=>4
 |3=>0
 |4=>3
 |5=>5
 |6=>6
 |_=>7
theorem So{k:Nat}(h:k<=7):k=0\/k=1\/k=2\/k=3\/k=4\/k=5\/k=6\/k=7:=by omega
theorem O6{n k:Nat}(hk:k<=7)(hn:n<=kc k)(h:sq n≠k):n+1<=kc k:=by
 have hp:kc k<=7:=by rcases So hk with rfl|rfl|rfl|rfl|rfl|rfl|rfl|rfl <;> decide
 have:sq (kc k)=k:=by rcases So hk with rfl|rfl|rfl|rfl|rfl|rfl|rfl|rfl <;> rfl
 rcases Nat.lt_or_ge n (kc k) with q|q
 ·exact q
 exact absurd (show sq n=k by rw [show n=kc k by omega,this]) h
theorem O7{n:Nat}(hn:n<=7):kc (sq n)=n:=by rcases So hn with rfl|rfl|rfl|rfl|rfl|rfl|rfl|rfl <;> rfl
theorem Sp(n:Nat):sq n<=7:=by
 unfold sq;split <;> decide
theorem O8{k:Nat}(hk:k<=7):kc k<=7:=by rcases So hk with rfl|rfl|rfl|rfl|rfl|rfl|rfl|rfl <;> decide
section
variable {t:Nat->TypeId}{u:Nat->Value}
def Sq(t:Nat->TypeId)(u:Nat->Value):List (List Data):=[[.s (.iface (t 3) (u 3))],[.s (.iface (t 0) (u 0))],[.s (.iface (t 1) (u 1))],[.s (.iface (t 4) (u 4))],[.s (.iface (t 2) (u 2))],[.s (.iface (t 5) (u 5))],[.s (.iface (t 6) (u 6))],[.s (.iface (t 7) (u 7))]]
theorem Iv{n:Nat}(hn:n<=7):(Sq t u)[((n:Nat):Int).toNat]? = some [.s (.iface (t (sq n)) (u (sq n)))]:=by
 rcases So hn with rfl|rfl|rfl|rfl|rfl|rfl|rfl|rfl <;> rfl
set_option maxHeartbeats 2000000
theorem Gj(hE:ErrsOk t u)(k:Nat)(hk:k<=7):Spec Tryz.prog (GO t u) 67 [.d (.s (.iface (t k) (u k)))] [] (.ret (.tup [.d (aD (kc k+1)),.d (aD (-1))])) []:=by
 refine sA (N:=39) Tryz.func67 ?_;refine rz [0] ?_;refine aa (rz [0,8] ?_);refine aj rfl (ac ?_);refine rz [0,3] ?_;refine rz [0,3,4] ?_;refine aa (rS fun J O=>aS [0] (xM hE k hk) ?_);refine O _ (aM [0,3,4,11] ?_);clear O J;refine aj rfl (ac ?_);refine aa (rz [0,3,24,25,26] ?_);refine af (aB (fun m Y=>∃n:Nat,m=8 - n/\n<=kc k/\Y=⟨[(0,.d (.s (.iface (t k) (u k)))),(3,.d (aD (-1))),(24,.d (.sl 1 (Sq t u))),(25,.d (aD 8)),(26,.d (aD n))],[.box 128 [.d (.s (.pointer none))]]⟩) (8) (⟨0,rfl,Nat.zero_le _,rfl⟩) ?_);rintro m Y ⟨n,rfl,hn,rfl⟩;have hn7:=Nat.le_trans hn (O8 hk);refine rz [0,3,24,25,26,27] ?_;refine aa (cQ rfl (fun h1=>?_) fun h1=>?_)
 ·refine ac (aa ?_);refine af (rS fun J O=>?_);refine oN (eI _ (aI (Iv (by omega)) ?_));refine O _ (aM [0,3,5,6,24,25,26] ?_);clear O J;refine rS fun J O=>sH ?_
  rcases Nat.decEq (sq n) k with hq|hq
  ·refine aS [] (vG hE k (sq n) hk (Sp n) (fun e=>hq e.symm)) ?_;refine O _ (aM [0,3,5,24,25,26,33] ?_);clear O J;refine aj rfl (ac ?_);refine rG fun J O=>O _ ?_;clear O J;refine ⟨8 - (n+1),by omega,_,ak (slots:=[0,3,24,25,26]) rfl rfl,n+1,rfl,O6 hk hn hq,?_⟩;rw [aH (by omega) (by omega)]
   rfl
  subst hq;refine aS [] (xL hE (sq n) hk) ?_;refine O _ (aM [0,3,5,24,25,26,33] ?_);clear O J;refine aj rfl (rz [2,3] ?_);refine ae ?_;rw [aH (by omega) (by omega)];have hp:=O7 (n:=n) (by omega);exact ⟨_,[],_,[.d (.s (.int .i64 _)),.d (.s (.int .i64 _))],rfl,rfl,rfl,rfl,rfl,by rw [hp];exact PWs.refl _,rfl⟩
 exact absurd (oF h1) (by omega)
theorem Iw(hE:ErrsOk t u)(k:Nat)(hk:k<=7):Spec Tryz.prog (GV t u) 67 [.d (.s (.iface (t k) (u k)))] [] (.ret (.tup [.d (aD (kc k+1)),.d (aD (-1))])) []:=by
 rw [Sr hE.on];exact Gj hE k hk
end
end
def hasF(s:BA):List BA->Bool
 |[]=>false
 |x::r=>match (x.toList==s.toList) with
  |true=>true
  |false=>hasF s r
theorem AG(G:Glob)(l:List BA)(s:BA)(hn:l.length<=1073741824):Spec Tryz.prog G 102 [.d (.sl 1 (strs l)),.d (aW s)] [] (.ret (.d (.s (.bool (hasF s l))))) []:=by
 obtain ⟨r,hG⟩:∃r,hasF s l=r:=⟨_,rfl⟩;rw [hG];refine sA (N:=18) Tryz.func102 ?_;refine rz [0,1] ?_;refine aa (rz [0,1,5] ?_);refine af (aB (fun k Y=>∃(d e:List BA),k=e.length/\l=d++e/\hasF s e=r/\Y=⟨[(0,.d (.sl 1 (strs l))),(1,.d (aW s)),(5,.d (aD d.length))],[]⟩) (l.length) (⟨[],l,rfl,rfl,hG,rfl⟩) ?_);clear hG;rintro k Y ⟨d,e,rfl,hl,hG,rfl⟩;have vC:(strs l).length=d.length+e.length:=by rw [ag,hl,lA]
 have Gk:d.length+e.length<=1073741824:=by rw [hl,lA] at hn;exact hn
 refine aa (rz [0,1,5,9] ?_);refine cQ rfl (fun h1=>?_) fun h1=>?_
 ·have bO:=oT h1;rw [vC] at bO;cases e with
  |nil=>simp only [lN] at bO;omega
  |cons x e2=>
  subst hl;simp only [lC] at Gk;simp only [hasF] at hG;refine ac (aa ?_);refine af (rS fun J O=>oN (eI _ (aI (kH rfl) ?_)));refine O _ (aM [0,1,5,17] ?_);clear O J;refine cQ rfl (fun h2=>?_) fun h2=>?_
  ·refine rz [4] ?_;refine ae ?_;simp only [h2] at hG;subst hG;exact lF [] [.d (.s (.bool _))]
  simp only [h2] at hG;refine ac (rG fun J O=>O _ ?_);clear O J;refine ⟨_,nS _,_,ak (slots:=[0,1,5]) rfl rfl,d++[x],e2,rfl,by simp,hG,?_⟩;rw [lA,aH (by omega) (by omega)];rfl
 have bO:=oF h1;rw [vC] at bO;obtain rfl:e=[]:=lE (by omega);simp only [hasF] at hG;refine aA ?_;refine aq [] rfl rfl ?_;refine rz [4] ?_;refine ae ?_;subst hG;exact lF [] [.d (.s (.bool _))]
def O9:List BA:=[⟨#[60]⟩,⟨#[60,61]⟩,⟨#[61,61]⟩,⟨#[33,61]⟩,⟨#[62]⟩,⟨#[62,61]⟩]
def yi(s:BA):Bool:=hasF s O9
def dK(s:BA):Bool:=match tN s s.size 0 with
 |true=>(decide ((s.size:Int)>0)&&decide ((s.size:Int)<=8))&&!hasF s resW
 |false=>false
theorem rY(G:Glob)(s:BA):Spec Tryz.prog G 247 [.d (aW s)] [] (.ret (.d (.s (.bool (yi s))))) []:=by
 refine sA (N:=6) Tryz.func247 ?_;refine rz [0] ?_;refine rS fun J O=>?_;refine aS [] (AG G O9 s (by decide)) ?_;refine O _ (aM [2] ?_);clear O J;refine ae ?_;exact lF [] [.d (.s (.bool _))]
theorem eK(G:Glob)(s:BA)(hs:s.size<4611686018427387904):Spec Tryz.prog G 85 [.d (aW s)] [] (.ret (.d (.s (.bool (dK s))))) []:=by
 obtain ⟨r,hr⟩:∃r,dK s=r:=⟨_,rfl⟩;rw [hr];refine sA (N:=36) Tryz.func85 ?_;refine rz [0] ?_;refine aa (rz [0,3] ?_);refine af (aB (fun n Y=>∃k:Nat,n=s.size - k/\k<=s.size/\tN s n k=tN s s.size 0/\Y=⟨[(0,.d (.s (.string s))),(3,.d (.s (.int .i64 k)))],[]⟩) (s.size) (⟨0,rfl,Nat.zero_le _,rfl,rfl⟩) ?_);rintro n Y ⟨k,hn,hk,mY,rfl⟩;refine aa (rz [0,3,8] ?_);refine cQ rfl (fun h1=>?_) fun h1=>?_
 ·have bO:=oT h1;obtain ⟨m,rfl⟩:∃m,n=m+1:=⟨n - 1,by omega⟩;simp only [tN,h1] at mY;refine ac (aa ?_);refine af (rS fun J O=>oN (oN ?_));refine ab (fun h2=>?_) (fun h2=>?_)
  ·try simp only [h2,Bool.true_or] at mY
   refine O _ (aM [0,3,20] ?_);clear O J;refine aj rfl (rz [2] ?_);refine ae ?_;simp only [dK,<- mY] at hr;subst hr;exact lF [] [.d (.s (.bool _))]
  refine oN (oN ?_);refine O _ (aM [0,3,20] ?_);clear O J;refine cQ rfl (fun h3=>?_) fun h3=>?_
  ·try simp only [h2,h3,Bool.false_or] at mY
   refine rz [2] ?_;refine ae ?_;simp only [dK,<- mY] at hr;subst hr;exact lF [] [.d (.s (.bool _))]
  try simp only [h2,h3,Bool.false_or] at mY
  refine ac (rG fun J O=>O _ ?_);clear O J;refine ⟨m,by omega,_,ak (slots:=[0,3]) rfl rfl,k+1,by omega,by omega,mY,?_⟩;rw [show IntKind.i64.wrap ((k:Int)+1)=((k+1:Nat):Int) from by rw [aH (by omega) (by omega)];omega]
 have bO:=oF h1;obtain rfl:n=0:=by omega
 simp only [tN] at mY;refine aA ?_;refine aq [0] rfl rfl ?_;refine rS fun J O=>?_;refine aS [] (AG G resW s (by decide)) ?_;refine O _ (aM [0,4] ?_);clear O J;refine rS fun J O=>?_;refine ab (fun h2=>?_) (fun h2=>?_)
 ·try simp only [h2,Bool.true_or] at mY
  refine ab (fun h3=>?_) (fun h3=>?_)
  ·try simp only [h2,h3,Bool.false_or] at mY
   refine O _ (aM [2] ?_);clear O J;refine ae ?_;simp only [dK,<- mY,h2,h3,bz] at hr;subst hr;exact lF [] [.d (.s (.bool _))]
  try simp only [h2,h3,Bool.false_or] at mY
  refine O _ (aM [2] ?_);clear O J;refine ae ?_;simp only [dK,<- mY,h2,h3,bz] at hr;subst hr;exact lF [] [.d (.s (.bool _))]
 refine O _ (aM [2] ?_);clear O J;refine ae ?_;simp only [dK,<- mY,h2,bz] at hr;subst hr;exact lF [] [.d (.s (.bool _))]
theorem O_{n:Int}(h0:n<=0):n.tdiv 10 = -((-n) / 10)/\n.tmod 10 = -((-n) % 10):=by
 have e:n = -(-n):=by omega
 constructor
 ·rw [e,Int.neg_tdiv,Int.tdiv_eq_ediv_of_nonneg (by omega)];simp
 rw [e,Int.neg_tmod,Int.tmod_eq_emod_of_nonneg (by omega)];simp
def lj(n:Int):BA:=⟨(Lib.decDigits n.natAbs).toArray⟩
theorem Gl{n:Int}(h0:n<=0)(h1:n > -10):iY [IntKind.u8.wrap (IntKind.i64.wrap (48 - n))]=lj n:=by
 have e1:IntKind.i64.wrap (48 - n)=48 - n:=dl (by omega) (by omega);have e2:IntKind.u8.wrap (48 - n)=48 - n:=by rw [IntKind.wrap_u8];omega
 have hd:Lib.decDigits n.natAbs=[UInt8.ofNat (48+n.natAbs)]:=Lib.decDigits_one (by omega);unfold iY lj;rw [e1,e2,hd];have:(48 - n).toNat=48+n.natAbs:=by omega
 simp [this]
theorem yj{n:Int}(h0:n<=0)(h1:¬n > -10)(hm : -9223372036854775808<=n):lj (IntKind.i64.wrap (n.tdiv 10))++iY [IntKind.u8.wrap (IntKind.i64.wrap (48 - n.tmod 10))]=lj n:=by
 have hq:n.tdiv 10 = -((n.natAbs / 10:Nat):Int):=by rw [(O_ h0).1];omega
 have hr:n.tmod 10 = -((n.natAbs % 10:Nat):Int):=by rw [(O_ h0).2];omega
 have e0:IntKind.i64.wrap (n.tdiv 10)=n.tdiv 10:=dl (by omega) (by omega);have e1:IntKind.i64.wrap (48 - n.tmod 10)=48 - n.tmod 10:=dl (by omega) (by omega);have e2:IntKind.u8.wrap (48 - n.tmod 10)=48 - n.tmod 10:=by rw [IntKind.wrap_u8];omega
 have hd:Lib.decDigits n.natAbs=Lib.decDigits (n.natAbs / 10)++[UInt8.ofNat (48+n.natAbs % 10)]:=by
  rw [Lib.decDigits,dif_neg (by omega)]
 rw [e0,e1,e2];unfold iY lj;rw [hd];have h3:(n.tdiv 10).natAbs=n.natAbs / 10:=by omega
 have h4:(48 - n.tmod 10).toNat=48+n.natAbs % 10:=by omega
 rw [h3];apply ByteArray.ext;rw [ByteArray.data_append];simp [h4]
theorem mZ{n:Int}(h0:n<=0)(hm : -9223372036854775808<=n):(lj n).size<=21:=by
 have:=Lib.itoa_length_le (-n.natAbs:Int) (by omega) (by omega);have e:(lj n).size=(Lib.decDigits n.natAbs).length:=by show (List.toArray _).size=_;simp
 rw [e];unfold Lib.itoa at this;split at this
 ·simp only [Int.natAbs_neg,Int.natAbs_natCast,lC] at this;omega
 have h2:(-(n.natAbs:Int)).toNat=n.natAbs:=by omega
 rw [h2] at this;omega
theorem lL(ns:List Int):(iY ns).size=ns.length:=by show (List.toArray _).size=_;simp
def O':Plan:=(.take 0 (.take 1 (.take 3 (.take 4 (.take 5 (.take 6 (.alt 2 (.one 7 (.one 8 (.take 9 (.take 10 .done)))) (.alt 7 (.alt 2 (.one 8 (.take 9 (.take 10 .done))) (.alt 8 (.one 2 (.take 9 (.take 10 .done))) .done)) .done))))))))
theorem CU(G:Glob)(m:Nat)(ih:∀n:Int,n.natAbs<m->n<=0->-9223372036854775808<=n->Spec Tryz.prog G 158 [.d (aD n)] [] (.ret (.d (aW (lj n)))) [])(n:Int)(hlt:n.natAbs<m+1)(h0:n<=0)(hm : -9223372036854775808<=n):Spec Tryz.prog G 158 [.d (aD n)] [] (.ret (.d (aW (lj n)))) []:=by
 refine sA (N:=20) Tryz.func158 ?_;refine rz [0] ?_;refine aa (rz [0,4] ?_);refine cQ rfl (fun h1=>?_) fun h1=>?_
 ·refine rS fun J O=>?_
  refine eI _ (aI rfl ?_);refine O _ (aM [2] ?_);clear O J;refine ae ?_;have bO:=oT h1;exact ⟨_,[],_,[encS (lj n)],rfl,rfl,rfl,rfl,rfl,by rw [<- Gl h0 bO];exact PWs.refl _,rfl⟩
 have bO:=oF h1;have hq:=(O_ h0).1;have e0:IntKind.i64.wrap (n.tdiv 10)=n.tdiv 10:=dl (by omega) (by omega);refine ac (aa ?_);refine (dW O' [] (fun _=>true) (by kernel_rfl) fun J O=>oN ?_);refine oN ?_;refine aI ?_ ?_
 ·refine aR [] rfl rfl rfl (ih (IntKind.i64.wrap (n.tdiv 10)) (by rw [e0];omega) (by rw [e0];omega) (by rw [e0];omega)) rfl rfl rfl rfl ?_;refine eI _ (aI rfl ?_);refine aI ((by have hz:=mZ (n:=IntKind.i64.wrap (n.tdiv 10)) (by rw [e0];omega) (by rw [e0];omega);rw [lL];show _+1<=_;omega)) ?_;refine O _ (aM [2] ?_);clear O J;refine ae ?_;exact ⟨_,[],_,[encS (lj n)],rfl,rfl,rfl,rfl,rfl,by rw [<- yj h0 bO hm];exact PWs.refl _,rfl⟩
 refine aI ?_ ?_
 ·refine aI ?_ ?_
  ·refine aR [] rfl rfl rfl (ih (IntKind.i64.wrap (n.tdiv 10)) (by rw [e0];omega) (by rw [e0];omega) (by rw [e0];omega)) rfl rfl rfl rfl ?_;refine eI _ (aI rfl ?_);refine aI ((by have hz:=mZ (n:=IntKind.i64.wrap (n.tdiv 10)) (by rw [e0];omega) (by rw [e0];omega);rw [lL];show _+1<=_;omega)) ?_;refine O _ (aM [2] ?_);clear O J;refine ae ?_;exact ⟨_,[],_,[encS (lj n)],rfl,rfl,rfl,rfl,rfl,by rw [<- yj h0 bO hm];exact PWs.refl _,rfl⟩
  refine aI ?_ ?_
  ·refine eI _ (aI rfl ?_);refine aR [] rfl rfl rfl (ih (IntKind.i64.wrap (n.tdiv 10)) (by rw [e0];omega) (by rw [e0];omega) (by rw [e0];omega)) rfl rfl rfl rfl ?_;refine aI ((by have hz:=mZ (n:=IntKind.i64.wrap (n.tdiv 10)) (by rw [e0];omega) (by rw [e0];omega);rw [lL];show _+1<=_;omega)) ?_;refine O _ (aM [2] ?_);clear O J;refine ae ?_;exact ⟨_,[],_,[encS (lj n)],rfl,rfl,rfl,rfl,rfl,by rw [<- yj h0 bO hm];exact PWs.refl _,rfl⟩
  trivial
 trivial
theorem oz(G:Glob):∀(m:Nat) (n:Int),n.natAbs<m->n<=0->-9223372036854775808<=n->Spec Tryz.prog G 158 [.d (aD n)] [] (.ret (.d (aW (lj n)))) []
 |0,n,h,_,_=>absurd h (by omega)
 |m+1,n,h,h0,hm=>CU G m (oz G m) n h h0 hm
theorem LL{n:Int}(h:n<0):(⟨#[45]⟩:BA)++lj n=dH n:=by
 unfold lj dH Lib.itoa;rw [if_pos h];apply ByteArray.ext;rw [ByteArray.data_append];simp
theorem LM{n:Int}(h:¬n<0)(hm:n<=9223372036854775807):lj (IntKind.i64.wrap (0 - n))=dH n:=by
 unfold lj dH Lib.itoa;rw [if_neg h,dl (x:=0 - n) (by omega) (by omega)];have:(0 - n).natAbs=n.toNat:=by omega
 rw [this]
theorem AH(G:Glob)(n:Int)(hn:jX n=true):Spec Tryz.prog G 86 [.d (aD n)] [] (.ret (.d (aW (dH n)))) []:=by
 simp only [jX,bE,dE] at hn;obtain ⟨hm,hx⟩:=hn;refine sA (N:=11) Tryz.func86 ?_;refine rz [0] ?_;refine aa (rz [0,4] ?_);refine cQ rfl (fun h1=>?_) fun h1=>?_
 ·refine rS fun J O=>sH ?_
  have hw:IntKind.i64.wrap (0 - n)=0 - n\/n<0:=by
   rcases Int.lt_or_le n 0 with q|q
   ·exact .inr q
   exact .inl (dl (by omega) (by omega))
  have bO:=oT h1;refine aS [] (oz G (n.natAbs+1) n (by omega) (by omega) (by omega)) ?_;refine aI ((by have hz:=mZ (n:=n) (by omega) (by omega);show 1+_<=_;omega)) ?_;refine O _ (aM [2] ?_);clear O J;refine ae ?_;have bO:=oT h1;exact ⟨_,[],_,[encS (dH n)],rfl,rfl,rfl,rfl,rfl,by rw [<- LL bO];exact PWs.refl _,rfl⟩
 refine ac (rS fun J O=>sH ?_);have hw:IntKind.i64.wrap (0 - n)=0 - n\/n<0:=by
  rcases Int.lt_or_le n 0 with q|q
  ·exact .inr q
  exact .inl (dl (by omega) (by omega))
 have bO:=oF h1;refine aS [] (oz G ((IntKind.i64.wrap (0 - n)).natAbs+1) (IntKind.i64.wrap (0 - n)) (by omega) (by omega) (by omega)) ?_;refine O _ (aM [2] ?_);clear O J;refine ae ?_;have bO:=oF h1;exact ⟨_,[],_,[encS (dH n)],rfl,rfl,rfl,rfl,rfl,by rw [<- LM bO (by omega)];exact PWs.refl _,rfl⟩
abbrev GT:=Option (BA×Bool)
def ip(a:BA)(b:Bool):GT:=match bj a with
 |true=>some (a,b)
 |false=>none
def lO(op:BA):Bool:=(op.toList==(⟨#[118,97,114]⟩:BA).toList)||(op.toList==(⟨#[97,116]⟩:BA).toList)
def oA(op:BA)(n:Int)(nm:BA):Bool:=((!(lO op==dK nm))||((!lO op)&&!(nm.toList==(⟨#[]⟩:BA).toList)))||((!(op.toList==(⟨#[110,117,109]⟩:BA).toList))&&(n != 0))
def db:Nat->Ex->Int->Int->GT
 |0,_,_,_=>none
 |f+1,.mk op n nm l,bc,d=>match decide (d>12) with
  |true=>some (⟨#[]⟩,false)
  |false=>match decide (aU op<bc) with
   |true=>match db f (.mk op n nm l) 1 (IntKind.i64.wrap (d+1)) with
    |some (s,ok)=>ip ((⟨#[40]⟩++s)++⟨#[41]⟩) ok
    |none=>none
   |false=>match bj nm&&bj op&&jX n with
    |false=>none
    |true=>match oA op n nm with
     |true=>some (⟨#[]⟩,false)
     |false=>match (op.toList==(⟨#[110,117,109]⟩:BA).toList) with
      |true=>ip (dH n) (((((bR l).length:Int)==0)&&decide (n≥0))&&decide (n<=1099511627776))
      |false=>match (op.toList==(⟨#[118,97,114]⟩:BA).toList) with
       |true=>ip nm ((((bR l).length:Int)==0))
       |false=>match ((op.toList==(⟨#[97,116]⟩:BA).toList)||(op.toList==(⟨#[110,101,103]⟩:BA).toList)) with
        |true=>match (((bR l).length:Int) != 1) with
         |true=>some (⟨#[]⟩,false)
         |false=>match l with
          |[x]=>match (op.toList==(⟨#[97,116]⟩:BA).toList) with
           |true=>match db f x 1 (IntKind.i64.wrap (d+1)) with
            |some (s,ok)=>ip ((nm++⟨#[91]⟩)++s++⟨#[93]⟩) ok
            |none=>none
           |false=>match db f x 3 (IntKind.i64.wrap (d+1)) with
            |some (s,ok)=>ip (⟨#[45]⟩++s) ok
            |none=>none
          |_=>none
        |false=>match ((aU op==3)||(((bR l).length:Int) != 2)) with
         |true=>some (⟨#[]⟩,false)
         |false=>match l with
          |[x,y]=>match db f x (aU op) d with
           |some (a,ok)=>match ((!ok)||decide ((a.size:Int)>4000)) with
            |true=>some (⟨#[]⟩,false)
            |false=>match db f y (IntKind.i64.wrap (aU op+1)) d with
             |some (b,Ix)=>ip ((((a++⟨#[32]⟩)++op)++⟨#[32]⟩)++b) Ix
             |none=>none
           |none=>none
          |_=>none
theorem cP{a:BA}{b:Bool}{r:BA×Bool}(h:ip a b=some r):a.size<=1073741824/\r=(a,b):=by
 unfold ip at h;split at h
 ·rename_i hc;simp only [sI] at h;exact ⟨oT hc,h.symm⟩
 cases h
theorem dm:∀(f:Nat) (e:Ex) (bc d:Int) (s:BA) (b:Bool),db f e bc d=some (s,b)->s.size<=1073741824
 |0,e,bc,d,s,b,h=>by simp only [db] at h;cases h
 |f+1,.mk op n nm l,bc,d,s,b,h=>by
  have he:(⟨#[]⟩:BA).size=0:=rfl;simp only [db] at h
  repeat' (split at h)
  all_goals first
   | (cases h;done)
   | (simp only [sI,Prod.mk.injEq] at h;rw [<- h.1,he];omega)
   | (obtain ⟨h1,h2⟩:=cP h;simp only [Prod.mk.injEq] at h2;rw [h2.1];exact h1)
theorem Pa{l:List Ex}(h:(((bR l).length:Int) != 1)=false):∃x,l=[x]:=ow (c:=true) (by simpa using h)
theorem Iy{l:List Ex}(h:(((bR l).length:Int) != 2)=false):∃x y,l=[x,y]:=lx (c:=true) (by simpa using h)
def yk(G:Glob)(f:Nat):Prop:=∀(e:Ex) (bc d:Int) (s:BA) (b:Bool),db f e bc d=some (s,b)->Spec Tryz.prog G 88 [.d (.agg e.cs),.d (aD bc),.d (aD d)] [] (.ret (.tup [.d (aW s),.d (.s (.bool b))])) []
def Pb:Plan:=(.take 0 (.load 1 (.take 3 (.load 4 (.take 5 (.take 6 (.one 2 (.take 7 (.take 8 (.one 9 (.take 10 (.take 11 (.take 12 (.take 13 (.take 17 (.one 14 (.take 15 (.take 16 (.take 18 .done)))))))))))))))))))
def Pd:Plan:=(.take 0 (.load 1 (.take 2 (.load 3 (.take 4 (.take 5 (.take 6 (.take 7 .done))))))))
theorem CV(G:Glob)(f:Nat)(ih:yk G f):yk G (f+1):=by
 intro e bc d s b hG;obtain ⟨op,n,nm,l⟩:=e;simp only [db] at hG;have pq:(⟨#[40]⟩:BA).size=1:=rfl;have qT:(⟨#[91]⟩:BA).size=1:=rfl;have sJ:(⟨#[45]⟩:BA).size=1:=rfl;have sY:(⟨#[93]⟩:BA).size=1:=rfl;have Iz:(⟨#[32]⟩:BA).size=1:=rfl;have K8:(⟨#[41]⟩:BA).size=1:=rfl;refine sA (N:=192) Tryz.func88 ?_;refine rz [1,2,3] ?_;refine rz [1,2,3,8] ?_;refine bQ (fun Z=>Z=⟨[(1,.d (aD bc)),(2,.d (aD d)),(3,.box 0 0),(8,.d (aD (aU op)))],[.box 143 [.d (aW op),.d (aD n),.d (aW nm),.d (.sl 4 (bR l))]]⟩) ?_ ?_
 ·refine rz [1,2,3,8,21] ?_;refine af (aa ?_);refine rz [1,2,3,8,21,22] ?_;refine cQ rfl (fun h1=>?_) fun h1=>?_
  ·refine ac (aj rfl ?_);refine rG fun J O=>O _ ?_;clear O J
   refine ⟨_,ak (slots:=[1,2,3,8]) rfl rfl,?_⟩;first
    |rfl
    | (simp only [aU,h1,bz];done)
    | (simp only [aU,h1,bz];rfl)
  refine rG fun J O=>O _ (aM [1,2,3,8,21,22] ?_);clear O J;refine cQ rfl (fun h2=>?_) fun h2=>?_
  ·refine rG fun J O=>O _ ?_;clear O J
   refine ⟨_,ak (slots:=[1,2,3,8]) rfl rfl,?_⟩;first
    |rfl
    | (simp only [aU,h1,h2,bz];done)
    | (simp only [aU,h1,h2,bz];rfl)
  refine aa (rz [1,2,3,8,21,25] ?_);refine cQ rfl (fun h3=>?_) fun h3=>?_
  ·refine ac (aj rfl ?_);refine rG fun J O=>O _ ?_;clear O J
   refine ⟨_,ak (slots:=[1,2,3,8]) rfl rfl,?_⟩;first
    |rfl
    | (simp only [aU,h1,h2,h3,bz];done)
    | (simp only [aU,h1,h2,h3,bz];rfl)
  refine rz [1,2,3,8,21,25] ?_;refine cQ rfl (fun h4=>?_) fun h4=>?_
  ·refine ac (aj rfl ?_);refine rG fun J O=>O _ ?_;clear O J
   refine ⟨_,ak (slots:=[1,2,3,8]) rfl rfl,?_⟩;first
    |rfl
    | (simp only [aU,h1,h2,h3,h4,bz];done)
    | (simp only [aU,h1,h2,h3,h4,bz];rfl)
  refine rG fun J O=>O _ (aM [1,2,3,8,25] ?_);clear O J;refine cQ rfl (fun h5=>?_) fun h5=>?_
  ·refine rG fun J O=>O _ ?_;clear O J
   refine ⟨_,ak (slots:=[1,2,3,8]) rfl rfl,?_⟩;first
    |rfl
    | (simp only [aU,h1,h2,h3,h4,h5,bz];done)
    | (simp only [aU,h1,h2,h3,h4,h5,bz];rfl)
  refine ac ?_;refine ⟨_,ak (slots:=[1,2,3,8]) rfl rfl,?_⟩;first
   |rfl
   | (simp only [aU,h1,h2,h3,h4,h5,bz];done)
   | (simp only [aU,h1,h2,h3,h4,h5,bz];rfl)
 rintro Z rfl;refine aa (rz [1,2,3,8,30] ?_);refine cQ rfl (fun h1=>?_) fun h1=>?_
 ·refine rz [6,7] ?_;refine ae ?_;simp only [h1] at hG;obtain ⟨rfl,rfl⟩:=Prod.mk.inj (Option.some.inj hG);exact lF [] [encS _,.d (.s (.bool _))]
 refine ac (aa ?_);refine rz [2,3,8,33] ?_;refine cQ rfl (fun h2=>?_) fun h2=>?_
 ·refine rS fun J O=>sH ?_
  cases aF:db f (.mk op n nm l) 1 (IntKind.i64.wrap (d+1)) with
  |none=>
   simp only [h1,h2,aF] at hG;cases hG
  |some v1=>
   obtain ⟨a1,o1⟩:=v1;have qU:=dm f _ _ _ _ _ aF;refine aS [] (ih (.mk op n nm l) 1 (IntKind.i64.wrap (d+1)) _ _ aF) ?_;refine O _ (aM [9,10] ?_);clear O J;refine rS fun J O=>oM ?_;refine oM ?_;refine O _ (aM [6,7] ?_);clear O J;refine ae ?_;simp only [h1,h2,aF] at hG;obtain ⟨hz,hr⟩:=cP hG;obtain ⟨rfl,rfl⟩:=Prod.mk.inj hr;exact lF [] [encS _,.d (.s (.bool _))]
 refine ac (bQ (fun Z=>Z=⟨[(2,.d (aD d)),(3,.box 0 0),(8,.d (aD (aU op))),(11,.d (.s (.bool (lO op))))],[.box 143 [.d (aW op),.d (aD n),.d (aW nm),.d (.sl 4 (bR l))]]⟩) ?_ ?_)
 ·refine rG fun J O=>?_
  refine ab (fun h3=>?_) (fun h3=>?_)
  ·refine O _ ?_;clear O J;refine ⟨_,ak (slots:=[2,3,8,11]) rfl rfl,?_⟩;first
    |rfl
    | (simp only [lO,h3,bz];done)
    | (simp only [lO,h3,bz];rfl)
  refine O _ ?_;clear O J;refine ⟨_,ak (slots:=[2,3,8,11]) rfl rfl,?_⟩;first
   |rfl
   | (simp only [lO,h3,bz];done)
   | (simp only [lO,h1,h2,h3,bz];rfl)
 rintro Z rfl;refine rS fun J O=>sH ?_
 cases hc:(bj nm&&bj op&&jX n) with
 |false=>
  simp only [h1,h2,hc] at hG;cases hG
 |true=>
  have tB:=hc;simp only [bE] at tB;have ga:nm.size<=1073741824:=oT tB.1.1;have lp:op.size<=1073741824:=oT tB.1.2;refine aS [] (eK G nm (by omega)) ?_;refine O _ (aM [2,3,8,11,12] ?_);clear O J;refine aa (bQ (fun Z=>Z=⟨[(2,.d (aD d)),(3,.box 0 0),(8,.d (aD (aU op))),(77,.d (.s (.bool (oA op n nm))))],[.box 143 [.d (aW op),.d (aD n),.d (aW nm),.d (.sl 4 (bR l))]]⟩) ?_ ?_)
  ·refine rG fun J O=>?_
   refine ab (fun h3=>?_) (fun h3=>?_)
   ·refine O _ ?_;clear O J;refine ⟨_,ak (slots:=[2,3,8,77]) rfl rfl,?_⟩;first
     |rfl
     | (simp only [oA,h3,bz];done)
     | (simp only [oA,h3,bz];rfl)
   refine ab (fun h4=>?_) (fun h4=>?_)
   ·refine ab (fun h5=>?_) (fun h5=>?_)
    ·refine O _ ?_;clear O J;refine ⟨_,ak (slots:=[2,3,8,77]) rfl rfl,?_⟩;first
      |rfl
      | (simp only [oA,h3,h4,h5,bz];done)
      | (simp only [oA,h3,h4,h5,bz];rfl)
    refine ab (fun h6=>?_) (fun h6=>?_)
    ·refine O _ ?_;clear O J;refine ⟨_,ak (slots:=[2,3,8,77]) rfl rfl,?_⟩;first
      |rfl
      | (simp only [oA,h3,h4,h5,h6,bz];done)
      | (simp only [oA,h1,h2,hc,h3,h4,h5,h6,bz];rfl)
    refine O _ ?_;clear O J;refine ⟨_,ak (slots:=[2,3,8,77]) rfl rfl,?_⟩;first
     |rfl
     | (simp only [oA,h3,h4,h5,h6,bz];done)
     | (simp only [oA,h3,h4,h5,h6,bz];rfl)
   refine ab (fun h5=>?_) (fun h5=>?_)
   ·refine O _ ?_;clear O J;refine ⟨_,ak (slots:=[2,3,8,77]) rfl rfl,?_⟩;first
     |rfl
     | (simp only [oA,h3,h4,h5,bz];done)
     | (simp only [oA,h1,h2,hc,h3,h4,h5,bz];rfl)
   refine O _ ?_;clear O J;refine ⟨_,ak (slots:=[2,3,8,77]) rfl rfl,?_⟩;first
    |rfl
    | (simp only [oA,h3,h4,h5,bz];done)
    | (simp only [oA,h3,h4,h5,bz];rfl)
  rintro Z rfl;refine cQ rfl (fun h3=>?_) fun h3=>?_
  ·refine rz [6,7] ?_;refine ae ?_;simp only [h1,h2,hc,h3] at hG;obtain ⟨rfl,rfl⟩:=Prod.mk.inj (Option.some.inj hG);exact lF [] [encS _,.d (.s (.bool _))]
  refine ac (aa ?_);refine rz [2,3,8,79] ?_;refine af (rz [2,3,8,79,80] ?_);refine cQ rfl (fun h4=>?_) fun h4=>?_
  ·refine aa ?_;refine (dW Pb [] (fun _=>true) (by kernel_rfl) fun J O=>aS [] (AH G n tB.2) ?_);refine ab (fun h5=>?_) (fun h5=>?_)
   ·refine ab (fun h6=>?_) (fun h6=>?_)
    ·refine O _ (aM [6,7] ?_);clear O J;refine ae ?_;simp only [h1,h2,hc,h3,h4,h5,h6] at hG;obtain ⟨hz,hr⟩:=cP hG;obtain ⟨rfl,rfl⟩:=Prod.mk.inj hr;exact ⟨_,[],_,[encS _,.d (.s (.bool _))],rfl,rfl,rfl,rfl,rfl,(by first|exact PWs.refl _|(simp only [h1,h2,hc,h3,h4,h5,h6,bz];exact PWs.refl _)),rfl⟩
    refine O _ (aM [6,7] ?_);clear O J;refine ae ?_;simp only [h1,h2,hc,h3,h4,h5,h6] at hG;obtain ⟨hz,hr⟩:=cP hG;obtain ⟨rfl,rfl⟩:=Prod.mk.inj hr;exact ⟨_,[],_,[encS _,.d (.s (.bool _))],rfl,rfl,rfl,rfl,rfl,(by first|exact PWs.refl _|(simp only [h1,h2,hc,h3,h4,h5,h6,bz];exact PWs.refl _)),rfl⟩
   refine O _ (aM [6,7] ?_);clear O J;refine ae ?_;simp only [h1,h2,hc,h3,h4,h5] at hG;obtain ⟨hz,hr⟩:=cP hG;obtain ⟨rfl,rfl⟩:=Prod.mk.inj hr;exact ⟨_,[],_,[encS _,.d (.s (.bool _))],rfl,rfl,rfl,rfl,rfl,(by first|exact PWs.refl _|(simp only [h1,h2,hc,h3,h4,h5,bz];exact PWs.refl _)),rfl⟩
  refine rz [2,3,8,79,99] ?_;refine cQ rfl (fun h5=>?_) fun h5=>?_
  ·refine aa ?_;refine (dW Pd [] (fun _=>true) (by kernel_rfl) fun J O=>O _ (aM [6,7] ?_));clear O J;refine ae ?_;simp only [h1,h2,hc,h3,h4,h5] at hG;obtain ⟨hz,hr⟩:=cP hG;obtain ⟨rfl,rfl⟩:=Prod.mk.inj hr;exact lF [] [encS _,.d (.s (.bool _))]
  refine bQ (fun Z=>Z=⟨[(2,.d (aD d)),(3,.box 0 0),(8,.d (aD (aU op))),(107,.d (.s (.bool ((op.toList==(⟨#[97,116]⟩:BA).toList)||(op.toList==(⟨#[110,101,103]⟩:BA).toList)))))],[.box 143 [.d (aW op),.d (aD n),.d (aW nm),.d (.sl 4 (bR l))]]⟩) ?_ ?_
  ·refine rz [2,3,8,79,107] ?_;refine cQ rfl (fun h6=>?_) fun h6=>?_
   ·refine ac ?_;refine ⟨_,ak (slots:=[2,3,8,107]) rfl rfl,?_⟩;first
     |rfl
     | (simp only [h6,bz];done)
     | (simp only [h1,h2,hc,h3,h4,h5,h6,bz];rfl)
   refine rG fun J O=>O _ ?_;clear O J;refine ⟨_,ak (slots:=[2,3,8,107]) rfl rfl,?_⟩
   first
    |rfl
    | (simp only [h6,bz];done)
    | (simp only [h1,h2,hc,h3,h4,h5,h6,bz];rfl)
  rintro Z rfl;refine cQ rfl (fun h6=>?_) fun h6=>?_
  ·refine aa (rz [2,3,113] ?_);refine cQ rfl (fun h7=>?_) fun h7=>?_
   ·refine rz [6,7] ?_;refine ae ?_;simp only [h1,h2,hc,h3,h4,h5,h6,h7] at hG;obtain ⟨rfl,rfl⟩:=Prod.mk.inj (Option.some.inj hG);exact lF [] [encS _,.d (.s (.bool _))]
   obtain ⟨x,rfl⟩:=Pa h7;obtain ⟨p1,n1,m1,l1⟩:=x;refine ac (aa ?_);refine rz [2,3,116] ?_;refine cQ rfl (fun h8=>?_) fun h8=>?_
   ·refine rS fun J O=>?_
    refine oN (eI _ (aI (rfl) ?_));refine sH ?_;cases aF:db f (.mk p1 n1 m1 l1) 1 (IntKind.i64.wrap (d+1)) with
    |none=>
     simp only [h1,h2,hc,h3,h4,h5,h7,h8,aF] at hG;cases hG
    |some v1=>
     obtain ⟨a1,o1⟩:=v1;have qU:=dm f _ _ _ _ _ aF;refine aS [] (ih (.mk p1 n1 m1 l1) 1 (IntKind.i64.wrap (d+1)) _ _ aF) ?_;refine O _ (aM [3,13,14] ?_);clear O J;refine rS fun J O=>oM ?_;refine oM ?_;refine oM ?_;refine O _ (aM [6,7] ?_);clear O J;refine ae ?_;simp only [h1,h2,hc,h3,h4,h5,h7,h8,aF] at hG;obtain ⟨hz,hr⟩:=cP hG;obtain ⟨rfl,rfl⟩:=Prod.mk.inj hr;exact lF [] [encS _,.d (.s (.bool _))]
   have W4:(op.toList==(⟨#[110,101,103]⟩:BA).toList)=true:=by
    rw [h8,Bool.false_or] at h6;exact h6
   refine ac (rS fun J O=>oN (eI _ (aI (rfl) ?_)));refine sH ?_;cases aF:db f (.mk p1 n1 m1 l1) 3 (IntKind.i64.wrap (d+1)) with
   |none=>
    simp only [h1,h2,hc,h3,h4,h5,h7,h8,W4,aF,bz] at hG;cases hG
   |some v1=>
    obtain ⟨a1,o1⟩:=v1;have qU:=dm f _ _ _ _ _ aF;refine aS [] (ih (.mk p1 n1 m1 l1) 3 (IntKind.i64.wrap (d+1)) _ _ aF) ?_;refine O _ (aM [15,16] ?_);clear O J;refine rS fun J O=>oM ?_;refine O _ (aM [6,7] ?_);clear O J;refine ae ?_;simp only [h1,h2,hc,h3,h4,h5,h7,h8,W4,aF,bz] at hG;obtain ⟨hz,hr⟩:=cP hG;obtain ⟨rfl,rfl⟩:=Prod.mk.inj hr;exact lF [] [encS _,.d (.s (.bool _))]
  refine ac (aa ?_);refine rS fun J O=>?_;refine ab (fun h7=>?_) (fun h7=>?_)
  ·refine O _ (aM [2,3,8,154] ?_);clear O J;refine aj rfl (rz [6,7] ?_);refine ae ?_;simp only [h1,h2,hc,h3,h4,h5,h6,h7] at hG;obtain ⟨rfl,rfl⟩:=Prod.mk.inj (Option.some.inj hG);exact lF [] [encS _,.d (.s (.bool _))]
  refine O _ (aM [2,3,8,154] ?_);clear O J;refine cQ rfl (fun h8=>?_) fun h8=>?_
  ·refine rz [6,7] ?_;refine ae ?_;simp only [h1,h2,hc,h3,h4,h5,h6,h7,h8] at hG;obtain ⟨rfl,rfl⟩:=Prod.mk.inj (Option.some.inj hG);exact lF [] [encS _,.d (.s (.bool _))]
  obtain ⟨x,y,rfl⟩:=Iy h8;obtain ⟨p1,n1,m1,l1⟩:=x;obtain ⟨p2,n2,m2,l2⟩:=y;refine ac (rS fun J O=>oN (eI _ (aI (rfl) ?_)));refine sH ?_;cases aF:db f (.mk p1 n1 m1 l1) (aU op) d with
  |none=>
   simp only [h1,h2,hc,h3,h4,h5,h6,h7,h8,aF] at hG;cases hG
  |some v1=>
   obtain ⟨a1,o1⟩:=v1;have qU:=dm f _ _ _ _ _ aF;refine aS [] (ih (.mk p1 n1 m1 l1) (aU op) d _ _ aF) ?_;refine O _ (aM [2,3,8,17,18] ?_);clear O J;refine aa (rS fun J O=>?_);refine ab (fun h9=>?_) (fun h9=>?_)
   ·refine O _ (aM [2,3,8,17,171] ?_);clear O J;refine aj rfl (rz [6,7] ?_);refine ae ?_;simp only [h1,h2,hc,h3,h4,h5,h6,h7,h8,aF,h9] at hG;obtain ⟨rfl,rfl⟩:=Prod.mk.inj (Option.some.inj hG);exact lF [] [encS _,.d (.s (.bool _))]
   refine O _ (aM [2,3,8,17,171] ?_);clear O J;refine cQ rfl (fun dO=>?_) fun dO=>?_
   ·refine rz [6,7] ?_;refine ae ?_;simp only [h1,h2,hc,h3,h4,h5,h6,h7,h8,aF,h9,dO] at hG;obtain ⟨rfl,rfl⟩:=Prod.mk.inj (Option.some.inj hG);exact lF [] [encS _,.d (.s (.bool _))]
   refine ac (rS fun J O=>oN (eI _ (aI (rfl) ?_)));refine sH ?_;cases aJ:db f (.mk p2 n2 m2 l2) (IntKind.i64.wrap (aU op+1)) d with
   |none=>
    simp only [h1,h2,hc,h3,h4,h5,h6,h7,h8,aF,h9,dO,aJ] at hG;cases hG
   |some v2=>
    obtain ⟨a2,o2⟩:=v2;have dX:=dm f _ _ _ _ _ aJ;refine aS [] (ih (.mk p2 n2 m2 l2) (IntKind.i64.wrap (aU op+1)) d _ _ aJ) ?_;refine O _ (aM [3,17,18,19] ?_);clear O J;refine rS fun J O=>oM ?_;refine oM ?_;refine oM ?_;refine oM ?_;refine O _ (aM [6,7] ?_);clear O J;refine ae ?_;simp only [h1,h2,hc,h3,h4,h5,h6,h7,h8,aF,h9,dO,aJ] at hG;obtain ⟨hz,hr⟩:=cP hG;obtain ⟨rfl,rfl⟩:=Prod.mk.inj hr;exact lF [] [encS _,.d (.s (.bool _))]
theorem eg(G:Glob):∀f,yk G f
 |0=>fun e bc d s b h=>by simp only [db] at h;cases h
 |f+1=>CV G f (eg G f)
def eA(i:Nat)(acc sep:BA):BA:=match decide ((i:Int)>0) with
  |true=>acc++sep
  |false=>acc
def jv(f:Nat):List Ex->Nat->BA->GT
  |[],_,acc=>some (acc,true)
  |e::r,i,acc=>match db f e 1 1 with
    |none=>none
    |some (s,ok)=>match (!ok) with
      |true=>some (⟨#[]⟩,false)
      |false=>match bj (eA i acc ⟨#[44,32]⟩++s) with
        |true=>jv f r (i+1) (eA i acc ⟨#[44,32]⟩++s)
        |false=>none
def yl(f:Nat):List Ts->Nat->BA->Option (Option BA)
  |[],_,acc=>some (some acc)
  |t::r,i,acc=>match db f t.a 1 1 with
    |none=>none
    |some (a,ok)=>match db f t.b 1 1 with
      |none=>none
      |some (b,IA)=>match (((!ok)||(!IA))||(!yi t.rel)) with
        |true=>some none
        |false=>match bj ((((eA i acc ⟨#[32,97,110,100,32]⟩++a)++⟨#[32]⟩)++t.rel++⟨#[32]⟩)++b) with
          |true=>yl f r (i+1) ((((eA i acc ⟨#[32,97,110,100,32]⟩++a)++⟨#[32]⟩)++t.rel++⟨#[32]⟩)++b)
          |false=>none
def jw(row:List Ts)(acc:BA):BA:=match (((kr row).length:Int)==0) with
  |true=>acc++⟨#[116,114,117,101]⟩
  |false=>acc
def LN(f:Nat):List (List Ts)->Nat->BA->GT
  |[],_,acc=>some (acc,true)
  |row::r,i,acc=>match cV row.length&&bj (jw row (eA i acc ⟨#[32,111,114,32]⟩)) with
    |false=>none
    |true=>match yl f row 0 (jw row (eA i acc ⟨#[32,111,114,32]⟩)) with
      |none=>none
      |some none=>some (⟨#[]⟩,false)
      |some (some Pe)=>LN f r (i+1) Pe
def tP(f:Nat)(c:List (List Ts)):GT:=match cV c.length with
  |false=>none
  |true=>match (((eG c).length:Int)==0) with
    |true=>some (⟨#[102,97,108,115,101]⟩,true)
    |false=>LN f c 0 ⟨#[]⟩
theorem tQ{i:Nat}{acc sep:BA}{m:Nat}(h:acc.size<=m):(eA i acc sep).size<=m+sep.size:=by
  unfold eA;split
  · rw [zA];omega
  omega
theorem cW{a:BA}(h:bj a=true):a.size<=1073741824:=oT h
theorem CW(G:Glob)(f:Nat)(l:List Ex)(hn:l.length<=1073741824)(s:BA)(b:Bool)(hG:jv f l 0 ⟨#[]⟩=some (s,b)):Spec Tryz.prog G 218 [.d (.sl 4 (bR l))] [] (.ret (.tup [.d (aW s),.d (.s (.bool b))])) []:=by
  refine sA (N:=32) Tryz.func218 ?_;refine rz [0] ?_;refine rz [0,4] ?_;refine aa (rz [0,4,5] ?_);refine af (aB (fun k Y=>∃(d1 e1:List Ex) (acc:BA),k=e1.length/\l=d1++e1/\jv f e1 d1.length acc=some (s,b)/\acc.size<=1073741824/\Y=⟨[(0,.d (.sl 4 (bR l))),(4,.d (aW acc)),(5,.d (aD d1.length))],[]⟩) (l.length) (⟨[],l,⟨#[]⟩,rfl,rfl,hG,Nat.zero_le _,rfl⟩) ?_);clear hG;rintro k Y ⟨d1,e1,acc,rfl,bV,hG,gK,rfl⟩;have bu:(bR l).length=d1.length+e1.length:=by rw [b7,bV,lA]
  have cn:d1.length+e1.length<=1073741824:=by rw [bV,lA] at hn;exact hn
  refine aa (rz [0,4,5,11] ?_);refine cQ rfl (fun h1=>?_) fun h1=>?_
  · have bO:=oT h1
    rw [bu] at bO;cases e1 with
    |nil=>simp only [lN] at bO;omega
    |cons x cw=>
    obtain ⟨p1,n1,m1,l1⟩:=x;subst bV;simp only [lC] at cn;simp only [jv] at hG;refine ac (aa ?_);refine af (aa ?_);refine rz [0,4,5,15] ?_;refine cQ rfl (fun h2=>?_) fun h2=>?_
    · refine rG fun J O=>?_
      refine aI ((by first|omega|(have pq:(⟨#[44,32]⟩:BA).size=2:=rfl;(try simp only [zA] at *);omega))) ?_;refine O _ (aM [0,4,5] ?_);clear O J;refine rS fun J O=>oN (eI _ (aI (iZ rfl) ?_))
      refine sH ?_;cases aF:db f (.mk p1 n1 m1 l1) 1 1 with
      |none=>
        simp only [aF] at hG;cases hG
      |some v1=>
        obtain ⟨a1,o1⟩:=v1;have qU:=dm f _ _ _ _ _ aF;refine aS [] (eg G f (.mk p1 n1 m1 l1) 1 1 _ _ aF) ?_;refine O _ (aM [0,4,5,6,7] ?_);clear O J;refine aa (rz [0,4,5,6,27] ?_);refine cQ rfl (fun h3=>?_) fun h3=>?_
        · refine rz [2,3] ?_;refine ae ?_
          simp only [aF,h3] at hG;obtain ⟨rfl,rfl⟩:=Prod.mk.inj (Option.some.inj hG);exact lF [] [encS _,.d (.s (.bool _))]
        cases hc:bj (eA d1.length acc ⟨#[44,32]⟩++a1) with
        |false=>simp only [aF,h3,hc] at hG;cases hG
        |true=>
        have hq:=cW hc;simp only [eA,h2] at hq hc;simp only [eA,h2,aF,h3,hc] at hG;refine ac (rG fun J O=>?_);refine aI ((by first|omega|(have pq:(⟨#[44,32]⟩:BA).size=2:=rfl;(try simp only [zA] at *);omega))) ?_;refine O _ (aM [0,4,5] ?_);clear O J;refine rG fun J O=>O _ ?_;clear O J;exact ⟨_,nS _,_,ak (slots:=[0,4,5]) rfl rfl,d1++[.mk p1 n1 m1 l1],cw,_,rfl,by simp,(by rw [lA];exact hG),hq,by rw [lA,aH (by omega) (by omega)];rfl⟩
    refine ac (rS fun J O=>oN (eI _ (aI (iZ rfl) ?_)));refine sH ?_;cases aF:db f (.mk p1 n1 m1 l1) 1 1 with
    |none=>
      simp only [aF] at hG;cases hG
    |some v1=>
      obtain ⟨a1,o1⟩:=v1;have qU:=dm f _ _ _ _ _ aF;refine aS [] (eg G f (.mk p1 n1 m1 l1) 1 1 _ _ aF) ?_;refine O _ (aM [0,4,5,6,7] ?_);clear O J;refine aa (rz [0,4,5,6,27] ?_);refine cQ rfl (fun h3=>?_) fun h3=>?_
      · refine rz [2,3] ?_;refine ae ?_
        simp only [aF,h3] at hG;obtain ⟨rfl,rfl⟩:=Prod.mk.inj (Option.some.inj hG);exact lF [] [encS _,.d (.s (.bool _))]
      cases hc:bj (eA d1.length acc ⟨#[44,32]⟩++a1) with
      |false=>simp only [aF,h3,hc] at hG;cases hG
      |true=>
      have hq:=cW hc;simp only [eA,h2] at hq hc;simp only [eA,h2,aF,h3,hc] at hG;refine ac (rG fun J O=>?_);refine aI ((by first|omega|(have pq:(⟨#[44,32]⟩:BA).size=2:=rfl;(try simp only [zA] at *);omega))) ?_;refine O _ (aM [0,4,5] ?_);clear O J;refine rG fun J O=>O _ ?_;clear O J;exact ⟨_,nS _,_,ak (slots:=[0,4,5]) rfl rfl,d1++[.mk p1 n1 m1 l1],cw,_,rfl,by simp,(by rw [lA];exact hG),hq,by rw [lA,aH (by omega) (by omega)];rfl⟩
  have bO:=oF h1;rw [bu] at bO;obtain rfl:e1=[]:=lE (by omega);simp only [jv] at hG;refine aA ?_;refine aq [4] rfl rfl ?_;refine rz [2,3] ?_;refine ae ?_;obtain ⟨rfl,rfl⟩:=Prod.mk.inj (Option.some.inj hG);exact lF [] [encS _,.d (.s (.bool _))]
theorem AI(k:Nat):b9 k++⟨#[32,32]⟩=b9 (k+1):=by
  apply ByteArray.ext;rw [ByteArray.data_append];apply Array.ext';rw [Array.toList_append];show Lib.repeatL _ k++_=Lib.repeatL _ (k+1)
  rw [Lib.repeatL_add,Lib.repeatL_one]
theorem AJ(G:Glob)(k:Nat)(hk:k<=1000000):Spec Tryz.prog G 216 [.d (aD k)] [] (.ret (.d (aW (b9 k)))) []:=by
  refine sA (N:=13) Tryz.func216 ?_;refine rz [0] ?_;refine rz [0,3] ?_;refine aa (rz [0,3,4] ?_);refine af (aB (fun m Y=>∃j:Nat,m=k - j/\j<=k/\Y=⟨[(0,.d (aD k)),(3,.d (aW (b9 j))),(4,.d (aD j))],[]⟩) (k) (⟨0,rfl,Nat.zero_le _,rfl⟩) ?_);rintro m Y ⟨j,rfl,hj,rfl⟩;refine aa (rz [0,3,4,7] ?_);refine cQ rfl (fun h1=>?_) fun h1=>?_
  · have bO:=oT h1
    refine ac (aa ?_);refine af (rG fun J O=>?_);refine aI ((by rw [cY];show _+2<=_;omega)) ?_;refine O _ (aM [0,3,4] ?_);clear O J;refine rG fun J O=>O _ ?_;clear O J;exact ⟨k - (j+1),by omega,_,ak (slots:=[0,3,4]) rfl rfl,j+1,rfl,by omega,by rw [AI,aH (by omega) (by omega)];rfl⟩
  have bO:=oF h1;obtain rfl:j=k:=by omega
  refine aA ?_;refine aq [3] rfl rfl ?_;refine rz [2] ?_;refine ae ?_;exact lF [] [encS _]
theorem CX(G:Glob)(f:Nat)(c:List (List Ts))(s:BA)(b:Bool)(hG:tP f c=some (s,b)):Spec Tryz.prog G 217 [.d (.sl 1 (eG c))] [] (.ret (.tup [.d (aW s),.d (.s (.bool b))])) []:=by
  unfold tP at hG;cases iQ:cV c.length with
  |false=>rw [iQ] at hG;cases hG
  |true=>
  rw [iQ] at hG;have hn:c.length<=1073741824:=oT iQ;simp only at hG;refine sA (N:=106) Tryz.func217 ?_;refine rz [0] ?_;refine aa (rz [0,14] ?_);refine cQ rfl (fun h1=>?_) fun h1=>?_
  · refine rz [2,3] ?_;refine ae ?_
    simp only [h1] at hG;obtain ⟨rfl,rfl⟩:=Prod.mk.inj (Option.some.inj hG);exact lF [] [encS _,.d (.s (.bool _))]
  refine ac (rz [0,4] ?_);refine aa (rz [0,4,5] ?_);refine af ?_;simp only [h1] at hG;refine aB (fun k Y=>∃(d1 e1:List (List Ts)) (acc:BA),k=e1.length/\c=d1++e1/\LN f e1 d1.length acc=some (s,b)/\acc.size<=1073741824/\Y=⟨[(0,.d (.sl 1 (eG c))),(4,.d (aW acc)),(5,.d (aD d1.length))],[]⟩) (c.length) (⟨[],c,⟨#[]⟩,rfl,rfl,hG,Nat.zero_le _,rfl⟩) ?_;clear hG;rintro k Y ⟨d1,e1,acc,rfl,bV,hG,gK,rfl⟩;have bu:(eG c).length=d1.length+e1.length:=by rw [eG,lM,bV,lA]
  have cn:d1.length+e1.length<=1073741824:=by rw [bV,lA] at hn;exact hn
  refine aa (rz [0,4,5,18] ?_);refine cQ rfl (fun h2=>?_) fun h2=>?_
  · have fe:=oT h2
    rw [bu] at fe;cases e1 with
    |nil=>simp only [lN] at fe;omega
    |cons x cw=>
    subst bV;simp only [lC] at cn;simp only [LN] at hG;cases LO:(cV x.length&&bj (jw x (eA d1.length acc ⟨#[32,111,114,32]⟩))) with
    |false=>simp only [LO] at hG;cases hG
    |true=>
    simp only [LO] at hG;simp only [bE] at LO;have hx:x.length<=1073741824:=oT LO.1;have hq:=cW LO.2;refine ac (aa ?_);refine af (bQ (fun Z=>Z=⟨[(0,.d (.sl 1 (eG (d1++x::cw)))),(4,.d (aW (eA d1.length acc ⟨#[32,111,114,32]⟩))),(5,.d (aD d1.length))],[]⟩) ?_ ?_)
    · refine rz [0,4,5,22] ?_
      refine cQ rfl (fun h3=>?_) fun h3=>?_
      · refine rG fun J O=>?_
        refine aI ((by first|omega|(have pq:(⟨#[32,111,114,32]⟩:BA).size=4:=rfl;have qT:(⟨#[116,114,117,101]⟩:BA).size=4:=rfl;have sJ:(⟨#[32,97,110,100,32]⟩:BA).size=5:=rfl;have sY:(⟨#[32]⟩:BA).size=1:=rfl;(try simp only [zA] at *);omega))) ?_;refine O _ ?_;clear O J;exact ⟨_,ak (slots:=[0,4,5]) rfl rfl,by first|(simp only [eA,h3];done)|(simp only [eA,h3];rfl)⟩
      refine ac ?_;exact ⟨_,ak (slots:=[0,4,5]) rfl rfl,by first|(simp only [eA,h3];done)|(simp only [eA,h2,h3];rfl)⟩
    rintro Z rfl;have hs:=tQ (i:=d1.length) (sep:=⟨#[32,111,114,32]⟩) gK;have hs2:(⟨#[32,111,114,32]⟩:BA).size=4:=rfl;refine bQ (fun Z=>Z=⟨[(0,.d (.sl 1 (eG (d1++x::cw)))),(4,.d (aW (jw x (eA d1.length acc ⟨#[32,111,114,32]⟩)))),(5,.d (aD d1.length))],[]⟩) ?_ ?_
    · refine rS fun J O=>?_
      refine oN (eI _ (aI (eh rfl) ?_));refine O _ (aM [0,4,5,30] ?_);clear O J;refine cQ rfl (fun h3=>?_) fun h3=>?_
      · refine rG fun J O=>?_
        refine aI ((by first|omega|(have pq:(⟨#[32,111,114,32]⟩:BA).size=4:=rfl;have qT:(⟨#[116,114,117,101]⟩:BA).size=4:=rfl;have sJ:(⟨#[32,97,110,100,32]⟩:BA).size=5:=rfl;have sY:(⟨#[32]⟩:BA).size=1:=rfl;(try simp only [zA] at *);omega))) ?_;refine O _ ?_;clear O J;exact ⟨_,ak (slots:=[0,4,5]) rfl rfl,by first|(simp only [jw,h3];done)|(simp only [jw,h3];rfl)⟩
      refine ac ?_;exact ⟨_,ak (slots:=[0,4,5]) rfl rfl,by first|(simp only [jw,h3];done)|(simp only [jw,h2,h3];rfl)⟩
    rintro Z rfl;refine rz [0,4,5,6] ?_;refine af ?_;refine aB (fun k Y=>∃(d2 e2:List Ts) (acc2:BA),k=e2.length/\x=d2++e2/\(match yl f e2 d2.length acc2 with
     |none=>none
     |some none=>some (⟨#[]⟩,false)
     |some (some Pe)=>LN f cw (d1.length+1) Pe)=some (s,b)/\acc2.size<=1073741824/\Y=⟨[(0,.d (.sl 1 (eG (d1++x::cw)))),(4,.d (aW acc2)),(5,.d (aD d1.length)),(6,.d (aD d2.length))],[]⟩) (x.length) (⟨[],x,_,rfl,rfl,hG,hq,rfl⟩) ?_
    clear hG;rintro k Y ⟨d2,e2,acc2,rfl,du,hG,ge,rfl⟩;have dI:(kr x).length=d2.length+e2.length:=by rw [kr,lM,du,lA]
    have fK:d2.length+e2.length<=1073741824:=by rw [du,lA] at hx;exact hx
    refine aa (rS fun J O=>oN (eI _ (aI (eh rfl) ?_)));refine O _ (aM [0,4,5,6,39] ?_);clear O J;refine cQ rfl (fun h3=>?_) fun h3=>?_
    · have K9:=oT h3
      rw [dI] at K9;cases e2 with
      |nil=>simp only [lN] at K9;omega
      |cons x ke=>
      obtain ⟨⟨p1,n1,m1,l1⟩,dZ,⟨p2,n2,m2,l2⟩⟩:=x;subst du;simp only [lC] at fK;simp only [yl] at hG;refine ac (aa ?_);refine af (aa ?_);refine rz [0,4,5,6,43] ?_;refine cQ rfl (fun h4=>?_) fun h4=>?_
      · refine rG fun J O=>?_
        refine aI ((by first|omega|(have pq:(⟨#[32,111,114,32]⟩:BA).size=4:=rfl;have qT:(⟨#[116,114,117,101]⟩:BA).size=4:=rfl;have sJ:(⟨#[32,97,110,100,32]⟩:BA).size=5:=rfl;have sY:(⟨#[32]⟩:BA).size=1:=rfl;(try simp only [zA] at *);omega))) ?_;refine O _ (aM [0,4,5,6] ?_);clear O J;refine rS fun J O=>oN (eI _ (aI (eh rfl) ?_));refine oN (eI _ (aI (eL rfl) ?_))
        refine sH ?_;cases aF:db f (.mk p1 n1 m1 l1) 1 1 with
        |none=>
          simp only [aF] at hG;cases hG
        |some v1=>
          obtain ⟨a1,o1⟩:=v1;have qU:=dm f _ _ _ _ _ aF;refine aS [] (eg G f (.mk p1 n1 m1 l1) 1 1 _ _ aF) ?_;refine O _ (aM [0,4,5,6,7,8] ?_);clear O J;refine rS fun J O=>oN (eI _ (aI (eh rfl) ?_));refine oN (eI _ (aI (eL rfl) ?_))
          refine sH ?_;cases aJ:db f (.mk p2 n2 m2 l2) 1 1 with
          |none=>
            simp only [aF,aJ] at hG;cases hG
          |some v2=>
            obtain ⟨a2,o2⟩:=v2;have dX:=dm f _ _ _ _ _ aJ;refine aS [] (eg G f (.mk p2 n2 m2 l2) 1 1 _ _ aJ) ?_;refine O _ (aM [0,4,5,6,7,8,9,10] ?_);clear O J;refine rS fun J O=>oN (eI _ (aI (eh rfl) ?_));refine oN (eI _ (aI (eL rfl) ?_));refine aS [] (rY G dZ) ?_;refine O _ (aM [0,4,5,6,7,8,9,10,11] ?_);clear O J;refine aa (rS fun J O=>?_);refine ab (fun h5=>?_) (fun h5=>?_)
            · refine O _ (aM [0,4,5,6,7,9,88] ?_);clear O J;refine aj rfl (rz [2,3] ?_);refine ae ?_
              simp only [bz,aF,aJ,h5] at hG;obtain ⟨rfl,rfl⟩:=Prod.mk.inj (Option.some.inj hG);exact lF [] [encS _,.d (.s (.bool _))]
            refine ab (fun h6=>?_) (fun h6=>?_)
            · refine O _ (aM [0,4,5,6,7,9,88] ?_);clear O J;refine aj rfl (rz [2,3] ?_);refine ae ?_
              simp only [bz,aF,aJ,h5,h6] at hG;obtain ⟨rfl,rfl⟩:=Prod.mk.inj (Option.some.inj hG);exact lF [] [encS _,.d (.s (.bool _))]
            refine O _ (aM [0,4,5,6,7,9,88] ?_);clear O J;refine cQ rfl (fun h7=>?_) fun h7=>?_
            · refine rz [2,3] ?_;refine ae ?_
              simp only [bz,aF,aJ,h5,h6,h7] at hG;obtain ⟨rfl,rfl⟩:=Prod.mk.inj (Option.some.inj hG);exact lF [] [encS _,.d (.s (.bool _))]
            cases hc:bj (((((eA d2.length acc2 ⟨#[32,97,110,100,32]⟩)++a1)++⟨#[32]⟩)++dZ++⟨#[32]⟩)++a2) with
            |false=>simp only [aF,aJ,h5,h6,h7,hc,bz] at hG;cases hG
            |true=>
            have hq:=cW hc;simp only [aF,aJ,h5,h6,h7,hc,bz] at hG;simp only [eA,h4] at hG hq;refine ac (rG fun J O=>?_);refine aI ((by first|omega|(have pq:(⟨#[32,111,114,32]⟩:BA).size=4:=rfl;have qT:(⟨#[116,114,117,101]⟩:BA).size=4:=rfl;have sJ:(⟨#[32,97,110,100,32]⟩:BA).size=5:=rfl;have sY:(⟨#[32]⟩:BA).size=1:=rfl;(try simp only [zA] at *);omega))) ?_;refine aI ((by first|omega|(have pq:(⟨#[32,111,114,32]⟩:BA).size=4:=rfl;have qT:(⟨#[116,114,117,101]⟩:BA).size=4:=rfl;have sJ:(⟨#[32,97,110,100,32]⟩:BA).size=5:=rfl;have sY:(⟨#[32]⟩:BA).size=1:=rfl;(try simp only [zA] at *);omega))) ?_;refine oN (eI _ (aI (eh rfl) ?_));refine oN (eI _ (aI (eL rfl) ?_));refine aI ((by first|omega|(have pq:(⟨#[32,111,114,32]⟩:BA).size=4:=rfl;have qT:(⟨#[116,114,117,101]⟩:BA).size=4:=rfl;have sJ:(⟨#[32,97,110,100,32]⟩:BA).size=5:=rfl;have sY:(⟨#[32]⟩:BA).size=1:=rfl;(try simp only [zA] at *);omega))) ?_;refine aI ((by first|omega|(have pq:(⟨#[32,111,114,32]⟩:BA).size=4:=rfl;have qT:(⟨#[116,114,117,101]⟩:BA).size=4:=rfl;have sJ:(⟨#[32,97,110,100,32]⟩:BA).size=5:=rfl;have sY:(⟨#[32]⟩:BA).size=1:=rfl;(try simp only [zA] at *);omega))) ?_;refine aI ((by first|omega|(have pq:(⟨#[32,111,114,32]⟩:BA).size=4:=rfl;have qT:(⟨#[116,114,117,101]⟩:BA).size=4:=rfl;have sJ:(⟨#[32,97,110,100,32]⟩:BA).size=5:=rfl;have sY:(⟨#[32]⟩:BA).size=1:=rfl;(try simp only [zA] at *);omega))) ?_;refine O _ (aM [0,4,5,6] ?_);clear O J;refine rG fun J O=>O _ ?_;clear O J;exact ⟨_,nS _,_,ak (slots:=[0,4,5,6]) rfl rfl,d2++[⟨.mk p1 n1 m1 l1,dZ,.mk p2 n2 m2 l2⟩],ke,_,rfl,by simp,(by rw [lA];exact hG),hq,by rw [lA,aH (by omega) (by omega)];rfl⟩
      refine ac (rS fun J O=>oN (eI _ (aI (eh rfl) ?_)));refine oN (eI _ (aI (eL rfl) ?_));refine sH ?_;cases aF:db f (.mk p1 n1 m1 l1) 1 1 with
      |none=>
        simp only [aF] at hG;cases hG
      |some v1=>
        obtain ⟨a1,o1⟩:=v1;have qU:=dm f _ _ _ _ _ aF;refine aS [] (eg G f (.mk p1 n1 m1 l1) 1 1 _ _ aF) ?_;refine O _ (aM [0,4,5,6,7,8] ?_);clear O J;refine rS fun J O=>oN (eI _ (aI (eh rfl) ?_));refine oN (eI _ (aI (eL rfl) ?_))
        refine sH ?_;cases aJ:db f (.mk p2 n2 m2 l2) 1 1 with
        |none=>
          simp only [aF,aJ] at hG;cases hG
        |some v2=>
          obtain ⟨a2,o2⟩:=v2;have dX:=dm f _ _ _ _ _ aJ;refine aS [] (eg G f (.mk p2 n2 m2 l2) 1 1 _ _ aJ) ?_;refine O _ (aM [0,4,5,6,7,8,9,10] ?_);clear O J;refine rS fun J O=>oN (eI _ (aI (eh rfl) ?_));refine oN (eI _ (aI (eL rfl) ?_));refine aS [] (rY G dZ) ?_;refine O _ (aM [0,4,5,6,7,8,9,10,11] ?_);clear O J;refine aa (rS fun J O=>?_);refine ab (fun h5=>?_) (fun h5=>?_)
          · refine O _ (aM [0,4,5,6,7,9,88] ?_);clear O J;refine aj rfl (rz [2,3] ?_);refine ae ?_
            simp only [bz,aF,aJ,h5] at hG;obtain ⟨rfl,rfl⟩:=Prod.mk.inj (Option.some.inj hG);exact lF [] [encS _,.d (.s (.bool _))]
          refine ab (fun h6=>?_) (fun h6=>?_)
          · refine O _ (aM [0,4,5,6,7,9,88] ?_);clear O J;refine aj rfl (rz [2,3] ?_);refine ae ?_
            simp only [bz,aF,aJ,h5,h6] at hG;obtain ⟨rfl,rfl⟩:=Prod.mk.inj (Option.some.inj hG);exact lF [] [encS _,.d (.s (.bool _))]
          refine O _ (aM [0,4,5,6,7,9,88] ?_);clear O J;refine cQ rfl (fun h7=>?_) fun h7=>?_
          · refine rz [2,3] ?_;refine ae ?_
            simp only [bz,aF,aJ,h5,h6,h7] at hG;obtain ⟨rfl,rfl⟩:=Prod.mk.inj (Option.some.inj hG);exact lF [] [encS _,.d (.s (.bool _))]
          cases hc:bj (((((eA d2.length acc2 ⟨#[32,97,110,100,32]⟩)++a1)++⟨#[32]⟩)++dZ++⟨#[32]⟩)++a2) with
          |false=>simp only [aF,aJ,h5,h6,h7,hc,bz] at hG;cases hG
          |true=>
          have hq:=cW hc;simp only [aF,aJ,h5,h6,h7,hc,bz] at hG;simp only [eA,h4] at hG hq;refine ac (rG fun J O=>?_);refine aI ((by first|omega|(have pq:(⟨#[32,111,114,32]⟩:BA).size=4:=rfl;have qT:(⟨#[116,114,117,101]⟩:BA).size=4:=rfl;have sJ:(⟨#[32,97,110,100,32]⟩:BA).size=5:=rfl;have sY:(⟨#[32]⟩:BA).size=1:=rfl;(try simp only [zA] at *);omega))) ?_;refine aI ((by first|omega|(have pq:(⟨#[32,111,114,32]⟩:BA).size=4:=rfl;have qT:(⟨#[116,114,117,101]⟩:BA).size=4:=rfl;have sJ:(⟨#[32,97,110,100,32]⟩:BA).size=5:=rfl;have sY:(⟨#[32]⟩:BA).size=1:=rfl;(try simp only [zA] at *);omega))) ?_;refine oN (eI _ (aI (eh rfl) ?_));refine oN (eI _ (aI (eL rfl) ?_));refine aI ((by first|omega|(have pq:(⟨#[32,111,114,32]⟩:BA).size=4:=rfl;have qT:(⟨#[116,114,117,101]⟩:BA).size=4:=rfl;have sJ:(⟨#[32,97,110,100,32]⟩:BA).size=5:=rfl;have sY:(⟨#[32]⟩:BA).size=1:=rfl;(try simp only [zA] at *);omega))) ?_;refine aI ((by first|omega|(have pq:(⟨#[32,111,114,32]⟩:BA).size=4:=rfl;have qT:(⟨#[116,114,117,101]⟩:BA).size=4:=rfl;have sJ:(⟨#[32,97,110,100,32]⟩:BA).size=5:=rfl;have sY:(⟨#[32]⟩:BA).size=1:=rfl;(try simp only [zA] at *);omega))) ?_;refine aI ((by first|omega|(have pq:(⟨#[32,111,114,32]⟩:BA).size=4:=rfl;have qT:(⟨#[116,114,117,101]⟩:BA).size=4:=rfl;have sJ:(⟨#[32,97,110,100,32]⟩:BA).size=5:=rfl;have sY:(⟨#[32]⟩:BA).size=1:=rfl;(try simp only [zA] at *);omega))) ?_;refine O _ (aM [0,4,5,6] ?_);clear O J;refine rG fun J O=>O _ ?_;clear O J;exact ⟨_,nS _,_,ak (slots:=[0,4,5,6]) rfl rfl,d2++[⟨.mk p1 n1 m1 l1,dZ,.mk p2 n2 m2 l2⟩],ke,_,rfl,by simp,(by rw [lA];exact hG),hq,by rw [lA,aH (by omega) (by omega)];rfl⟩
    have K9:=oF h3;rw [dI] at K9;obtain rfl:e2=[]:=lE (by omega);simp only [yl] at hG;refine aA ?_;refine aq [0,4,5] rfl rfl ?_;refine rG fun J O=>O _ ?_;clear O J;exact ⟨_,nS _,_,ak (slots:=[0,4,5]) rfl rfl,d1++[x],cw,_,rfl,by simp,(by rw [lA];exact hG),ge,by rw [lA,aH (by omega) (by omega)];rfl⟩
  have fe:=oF h2;rw [bu] at fe;obtain rfl:e1=[]:=lE (by omega);simp only [LN] at hG;refine aA ?_;refine aq [4] rfl rfl ?_;refine rz [2,3] ?_;refine ae ?_;obtain ⟨rfl,rfl⟩:=Prod.mk.inj (Option.some.inj hG);exact lF [] [encS _,.d (.s (.bool _))]
end Go.Abs
end
