/- Texts of this proof, joined and shortened. -/
import Derived.Test.YtedljfabpknjiaaGreatDoorR16
import Derived.Test.YtedljfabpknjiaaGreatDoorR14
import Derived.Test.YtedljfabpknjiaaGreatDoorR17
import Derived.Test.YtedljfabpknjiaaGreatDoorR12
import Derived.Test.YtedljfabpknjiaaGreatDoorR18
import Derived.Test.YtedljfabpknjiaaGreatDoorR11
set_option maxHeartbeats 1000000
section
namespace Go.Abs
open Go Go.Proofs
attribute [local irreducible] c8 dJ Sub Spec
section
section
variable (G:Glob)
set_option maxHeartbeats 1000000
end
end
section
def setS(v:BA)(e:Ex):Sm:=.mk ⟨#[115,101,116]⟩ v ⟨#[]⟩ [e] [] [] []
def setsF:List BA->List Ex->List Sm
 |v::r,e::l=>setS v e::setsF r l
 |_,_=>[]
section
variable (G:Glob)
set_option maxHeartbeats 2000000
end
end
end Go.Abs
end
section
namespace Go.Abs
open Go Go.Proofs
theorem My{op:BA}(h:fO op=true):1<=op.size:=by
 unfold fO at h;simp only [Bool.or_eq_true] at h;rcases h with (((h|h)|h)|h)|h <;> have:=dj h <;> subst this <;> decide
def ownOk(W:Nat):Sm->Prop
 |.mk ap name proc args cond _ _=>vH args=true/\la args<=8000/\Hw cond=true/\Ew cond<=8000/\name.size<=4000/\ap.size+name.size+proc.size+gD args+iD cond<=W
structure SmallP (procs:List Pc) (main:List Sm):Prop where
 mn:∀x,x∈flatB main->ownOk 390000 x
 pc:∀f,f∈procs->(∀x,x∈flatB f.body->ownOk 390000 x)/\nmE f.ret=true/\fuE f.ret<=7999/\wtE f.ret<=320000/\∀v,v∈f.params->v.size<=8
section
@[reducible] def isC (k:BA):Bool:=k.toList==(⟨#[99,97,108,108]⟩:BA).toList
inductive Inl (ps:List Pc):List Sm->List Sm->Prop
 |nil:Inl ps [] []
 |one {ap name proc:BA}{args:List Ex}{cond:List (List Ts)}{ao aK r b e r':List Sm}:isC ap=false->Inl ps ao b->Inl ps aK e->Inl ps r r'->Inl ps (.mk ap name proc args cond ao aK::r) (.mk ap name proc args cond b e::r')
 |call {ap name proc:BA}{args:List Ex}{cond:List (List Ts)}{ao aK r b r':List Sm}{f:Pc}:isC ap=true->findP ps proc=some f->Inl ps f.body b->Inl ps r r'->Inl ps (.mk ap name proc args cond ao aK::r) ((setsF f.params args++b)++(setS name f.ret::r'))
theorem uA(v:BA):∀l:List BA,eC l v=l.any fun y=>y.toList==v.toList
 |[]=>rfl
 |y::r=>by
  simp only [eC,List.any_cons,uA v r];cases y.toList==v.toList <;> rfl
theorem p9{a b:List BA}(h:∀v,v∈a->v∈b){v:BA}(hv:eC a v=true):eC b v=true:=by
 rw [uA,List.any_eq_true] at hv ⊢;obtain ⟨y,hy,e⟩:=hv;exact ⟨y,h y hy,e⟩
theorem Jt{l:List BA}{v:BA}(h:v∈l):eC l v=true:=by
 rw [uA,List.any_eq_true];exact ⟨v,h,BEq.refl _⟩
section
variable {a b ay:List BA}
mutual
theorem Ju(hs:∀v,v∈a->v∈b):∀e:Ex,tmN a ay e=true->tmN b ay e=true
 |.mk op n nm l,h=>by
  simp only [tmN,bE] at h ⊢;refine ⟨?_,yQ hs l h.2⟩;have h:=h.1;split at h
  ·exact p9 hs h
  exact h
theorem yQ(hs:∀v,v∈a->v∈b):∀l:List Ex,eO a ay l=true->eO b ay l=true
 |[],_=>rfl
 |e::r,h=>by
  simp only [eO,bE] at h ⊢;exact ⟨Ju hs e h.1,yQ hs r h.2⟩
end
end
structure RtP (vars:List BA) (arrays:List Ar) (procs:List Pc):Prop where
 nm:∀f,f∈procs->(∀v,v∈f.params->v∈vars++prmF procs)/\tmN (vars++prmF procs) (arN arrays) f.ret=true/\nmE f.ret=true/\fuE f.ret<=7999/\wtE f.ret<=320000/\∀v,v∈f.params->v.size<=8
theorem Fi:∀ {l:List Pc}{f:Pc}{v:BA},f∈l->v∈f.params->v∈prmF l
 |[],f,v,h,_=>by cases h
 |g::r,f,v,h,hv=>by
  simp only [prmF,List.mem_append];rcases List.mem_cons.1 h with rfl|h
  ·exact .inl hv
  exact .inr (Fi h hv)
end
theorem Fj{az an:List BA}{procs:List Pc}:∀ {l:List Pc}{k:Nat},Dg az an procs l k=true->∀f,f∈l->tmN (az++f.params) an f.ret=true
 |[],k,_,f,h=>by cases h
 |g::r,k,h,f,hf=>by
  simp only [Dg] at h;split at h
  ·rename_i hg;simp only [bE] at hg;rcases List.mem_cons.1 hf with rfl|hf
   ·exact hg.2
   exact Fj h f hf
  cases h
def Dr(v:BA):List BA->Nat->Nat
 |[],_=>0
 |x::r,i=>match x.toList==v.toList with
  |true=>i
  |false=>Dr v r (i+1)
theorem Bv{v:BA}:∀ {l:List BA}{i:Nat},eC l v=true->∃j,Dr v l i=i+j/\l[j]? = some v
 |[],_,h=>by cases h
 |x::r,i,h=>by
  simp only [eC,Dr] at h ⊢;cases q:(x.toList==v.toList) with
  |true=>
   rw [dj q];exact ⟨0,rfl,rfl⟩
  |false=>
   rw [q] at h;obtain ⟨j,h1,h2⟩:=Bv (i:=i+1) h;exact ⟨j+1,by show Dr v r (i+1)=_;rw [h1];omega,by simpa using h2⟩
theorem Bw:∀(vs:List (BA×Int)) (v w:BA) (n:Int),iM (ff vs v n) w=if w=v then n else iM vs w
 |[],v,w,n=>by
  simp only [ff,iM,cR];by_cases e:w=v
  ·simp only [e,if_true,decide_true]
  simp only [e,if_false,decide_false]
 | (k,q)::r,v,w,n=>by
  have ih:=Bw r v w n;simp only [ff];cases hb:(v==k) with
  |true=>
   rw [cR] at hb;have e0:=oT hb;subst e0;simp only [iM,cR];by_cases e:w=v
   ·simp only [e,if_true,decide_true]
   simp only [e,if_false,decide_false]
  |false=>
   rw [cR] at hb;have e0:=oF hb;simp only [iM,ih,cR];by_cases e1:w=k
   ·subst e1;simp only [decide_true,if_neg (Ne.symm e0)]
   simp only [e1,decide_false]
theorem uB:∀(ar:List (BA×List Int)) (v w:BA) (i:Nat) (n:Int),ef (jL ar v i n) w=if w=v then (ef ar v).set i n else ef ar w
 |[],v,w,i,n=>by
  simp only [jL,ef];split <;> simp
 | (k,q)::r,v,w,i,n=>by
  have ih:=uB r v w i n;simp only [jL];cases hb:(v==k) with
  |true=>
   rw [cR] at hb;have e0:=oT hb;subst e0;simp only [ef,cR,decide_true];by_cases e:w=v
   ·simp only [e,if_true,decide_true]
   simp only [e,if_false,decide_false]
  |false=>
   rw [cR] at hb;have e0:=oF hb;simp only [ef,ih,cR];by_cases e1:w=k
   ·subst e1;simp only [decide_true,if_neg (Ne.symm e0)]
   simp only [e1,decide_false];by_cases e2:w=v
   ·subst e2;simp only [if_true,e0,decide_false]
   simp only [if_neg e2]
def gF(nm:List BA)(vs:List (BA×Int)):List Int:=nm.map (iM vs)++[0]
def plL(ay:List Ar)(ar:List (BA×List Int)):List (List Int):=ay.map fun a=>ef ar a.name
theorem yR{α:Type}[DecidableEq α]{β:Type}(f:α->β)(v:α)(n:β):∀(l:List α) (j:Nat),l.Nodup->l[j]? = some v->(l.map f).set j n=l.map fun w=>if w=v then n else f w
 |[],_,_,h=>by cases h
 |x::r,0,hn,h=>by
  simp only [List.getElem?_cons_zero,sI] at h;subst h;rw [List.nodup_cons] at hn;simp only [List.map_cons,List.set_cons_zero,if_true,List.cons.injEq,true_and];refine List.map_congr_left fun w hw=>?_;rw [if_neg (show ¬w=x from fun e=>hn.1 (by rw [<- e];exact hw))]
 |x::r,j+1,hn,h=>by
  rw [List.nodup_cons] at hn;have h':r[j]? = some v:=by simpa using h
  have hx:x≠v:=fun e=>hn.1 (e▸List.mem_of_getElem? h');simp only [List.map_cons,List.set_cons_succ,if_neg hx,yR f v n r j hn.2 h']
theorem Ds{nm:List BA}{v:BA}(vs:List (BA×Int))(h:eC nm v=true):(gF nm vs)[Dr v nm 0]? = some (iM vs v)/\Dr v nm 0<nm.length:=by
 obtain ⟨j,h1,h2⟩:=Bv (i:=0) h;have hj:=(List.getElem?_eq_some_iff.1 h2).1;rw [h1,Nat.zero_add];refine ⟨?_,hj⟩;rw [gF,List.getElem?_append_left (by simpa using hj),List.getElem?_map,h2];rfl
theorem Fk{nm:List BA}{v:BA}(vs:List (BA×Int))(n:Int)(hn:nm.Nodup)(h:eC nm v=true):(gF nm vs).set (Dr v nm 0) n=gF nm (ff vs v n):=by
 obtain ⟨j,h1,h2⟩:=Bv (i:=0) h;have hj:=(List.getElem?_eq_some_iff.1 h2).1;rw [h1,Nat.zero_add,gF,List.set_append_left _ _ (by simpa using hj),yR (iM vs) v n nm j hn h2,gF]
 congr 1
 exact List.map_congr_left fun w _=>(Bw vs v w n).symm
theorem tc(nm:List BA)(vs:List (BA×Int)):(gF nm vs).length=nm.length+1:=by simp [gF]
theorem Bx{ay:List Ar}{v:BA}(ar:List (BA×List Int))(h:eC (arN ay) v=true):(plL ay ar)[Dr v (arN ay) 0]? = some (ef ar v):=by
 obtain ⟨j,h1,h2⟩:=Bv (i:=0) h;rw [h1,Nat.zero_add];simp only [arN,List.getElem?_map,Option.map_eq_some_iff] at h2;obtain ⟨a,ha,rfl⟩:=h2;simp [plL,ha]
theorem Qp{ay:List Ar}{v:BA}(ar:List (BA×List Int))(i:Nat)(n:Int)(hn:(arN ay).Nodup)(h:eC (arN ay) v=true):(plL ay ar).set (Dr v (arN ay) 0) ((ef ar v).set i n)=plL ay (jL ar v i n):=by
 obtain ⟨j,h1,h2⟩:=Bv (i:=0) h;have e:∀ar,plL ay ar=(arN ay).map (ef ar):=fun ar=>by simp [plL,arN]
 rw [h1,Nat.zero_add,e,e,yR (ef ar) v _ (arN ay) j hn h2];exact List.map_congr_left fun w _=>(uB ar v w i n).symm
def Lh(nm:List BA)(ay:List BA)(op:BA)(n:Int)(v:BA)(k:Nat):Bool:=match op.toList==(⟨#[110,117,109]⟩:BA).toList with
 |true=>(decide (k=0)&&decide (0<=n))&&decide (n<=1099511627776)
 |false=>match op.toList==(⟨#[118,97,114]⟩:BA).toList with
  |true=>decide (k=0)&&eC nm v
  |false=>match op.toList==(⟨#[97,116]⟩:BA).toList with
   |true=>decide (k=1)&&eC ay v
   |false=>match op.toList==(⟨#[110,101,103]⟩:BA).toList with
    |true=>decide (k=1)
    |false=>decide (k=2)&&fO op
mutual
def Dt(nm ay:List BA):Ex->Bool
 |.mk op n v l=>Lh nm ay op n v l.length&&td nm ay l
def td(nm ay:List BA):List Ex->Bool
 |[]=>true
 |e::r=>Dt nm ay e&&td nm ay r
end
def VF(nm ay:List BA)(t:Ts):Bool:=(Dt nm ay t.a&&Dt nm ay t.b)&&dC t.rel
def RR(nm ay:List BA):List Ts->Bool
 |[]=>true
 |t::r=>VF nm ay t&&RR nm ay r
def GM(nm ay:List BA):List (List Ts)->Bool
 |[]=>true
 |t::r=>RR nm ay t&&GM nm ay r
def HK(nm ay:List BA)(ps:List Pc):Sm->Bool
 |.mk ap name proc args cond _ _=>(td nm ay args&&GM nm ay cond)&&match ap.toList==(⟨#[115,101,116]⟩:BA).toList with
  |true=>decide (args.length=1)&&eC nm name
  |false=>match ap.toList==(⟨#[112,117,116]⟩:BA).toList with
   |true=>decide (args.length=2)&&eC ay name
   |false=>match ap.toList==(⟨#[114,101,97,100]⟩:BA).toList with
    |true=>eC nm name
    |false=>match ap.toList==(⟨#[99,97,108,108]⟩:BA).toList with
     |true=>eC nm name&&match findP ps proc with
      |some f=>decide (args.length=f.params.length)
      |none=>false
     |false=>((ap.toList==(⟨#[105,102]⟩:BA).toList)||(ap.toList==(⟨#[119,104,105,108,101]⟩:BA).toList))||((ap.toList==(⟨#[97,115,115,117,109,101]⟩:BA).toList)||(ap.toList==(⟨#[97,115,115,101,114,116]⟩:BA).toList))
def Jv(nm ay:List BA)(ps:List Pc)(l:List Sm):Bool:=(flatB l).all (HK nm ay ps)
theorem Jw{nm ay:List BA}{ps:List Pc}{ap name proc:BA}{args:List Ex}{cond:List (List Ts)}{ao aK r:List Sm}(h:Jv nm ay ps (.mk ap name proc args cond ao aK::r)=true):HK nm ay ps (.mk ap name proc args cond ao aK)=true/\Jv nm ay ps ao=true/\Jv nm ay ps aK=true/\Jv nm ay ps r=true:=by
 simp only [Jv,flatB,gM,List.cons_append,List.all_cons,List.all_append,bE] at h ⊢;exact ⟨h.1,h.2.1.1,h.2.1.2,h.2.2⟩
def Uw(nm ay:List BA)(ps:List Pc):Prop:=∀f,f∈ps->Jv nm ay ps f.body=true/\Dt nm ay f.ret=true/\dG f.body<=1000000000/\f.params.length<=1000000000/\∀v,v∈f.params->eC nm v=true
theorem Qq:((⟨#[110,117,109]⟩:BA).toList==(⟨#[110,117,109]⟩:BA).toList)=true:=by kernel_rfl
theorem Mz:((⟨#[118,97,114]⟩:BA).toList==(⟨#[110,117,109]⟩:BA).toList)=false:=by kernel_rfl
theorem Jx:((⟨#[118,97,114]⟩:BA).toList==(⟨#[118,97,114]⟩:BA).toList)=true:=by kernel_rfl
theorem Qr:((⟨#[97,116]⟩:BA).toList==(⟨#[110,117,109]⟩:BA).toList)=false:=by kernel_rfl
theorem Jy:((⟨#[97,116]⟩:BA).toList==(⟨#[118,97,114]⟩:BA).toList)=false:=by kernel_rfl
theorem Oj:((⟨#[97,116]⟩:BA).toList==(⟨#[97,116]⟩:BA).toList)=true:=by kernel_rfl
theorem MA:((⟨#[110,101,103]⟩:BA).toList==(⟨#[110,117,109]⟩:BA).toList)=false:=by kernel_rfl
theorem MB:((⟨#[110,101,103]⟩:BA).toList==(⟨#[118,97,114]⟩:BA).toList)=false:=by kernel_rfl
theorem MC:((⟨#[110,101,103]⟩:BA).toList==(⟨#[97,116]⟩:BA).toList)=false:=by kernel_rfl
theorem Qs:((⟨#[110,101,103]⟩:BA).toList==(⟨#[110,101,103]⟩:BA).toList)=true:=by kernel_rfl
theorem Fl{op:BA}(h:fO op=true):(op.toList==(⟨#[110,117,109]⟩:BA).toList)=false/\(op.toList==(⟨#[118,97,114]⟩:BA).toList)=false/\(op.toList==(⟨#[97,116]⟩:BA).toList)=false/\(op.toList==(⟨#[110,101,103]⟩:BA).toList)=false:=by
 simp only [fO,Bool.or_eq_true] at h;rcases h with (((h|h)|h)|h)|h <;> (rw [eq_of_beq h];exact ⟨by kernel_rfl,by kernel_rfl,by kernel_rfl,by kernel_rfl⟩)
theorem By{nm ay:List BA}:∀(m:Nat) (e:Ex),fuE e<=m->∀(bc d:Int) (x:BA×Nat),exprI e bc d=some x->tmN nm ay e=true->Dt nm ay e=true
 |0,⟨_,_,_,_⟩,h,_,_,_,_,_=>by simp only [fuE] at h;omega
 |m+1,⟨op,n,v,l⟩,hm,bc,d,x,h,ht=>by
  obtain ⟨d',t',k',h1⟩:=wM h;simp only [fuE] at hm;simp only [tmN,bE] at ht;obtain ⟨Ux,Qt⟩:=ht;rcases wI h1 with ⟨rfl,_,rfl,g1,g2,_⟩|⟨rfl,_,rfl,_⟩|⟨rfl,_,_,x,t1,k1,rfl,h2,_⟩|⟨rfl,_,_,x,t1,k1,rfl,h2,_⟩|⟨hb,_,_,x,y,t1,k1,t2,k2,rfl,h2,h3,_⟩
  ·simp only [Dt,Lh,td,Qq,lN,decide_true,Bool.true_and,Bool.and_true,bE,dE];exact ⟨g1,g2⟩
  ·simp only [Jx] at Ux;simp only [Dt,Lh,td,Mz,Jx,lN,decide_true,Bool.and_true,Ux]
  ·simp only [Jy,Oj] at Ux;simp only [eO,bE] at Qt;have:=By m x (by simp only [la] at hm;omega) _ _ _ h2 Qt.1;simp only [Dt,Lh,td,Qr,Jy,Oj,lC,lN,Nat.zero_add,decide_true,Bool.and_true,Ux,this]
  ·simp only [eO,bE] at Qt;have:=By m x (by simp only [la] at hm;omega) _ _ _ h2 Qt.1;simp only [Dt,Lh,td,MA,MB,MC,Qs,lC,lN,Nat.zero_add,decide_true,Bool.and_true,this]
  simp only [eO,bE] at Qt;obtain ⟨b1,b2,b3,b4⟩:=Fl hb;have e1:=By m x (by simp only [la] at hm;omega) _ _ _ h2 Qt.1;have e2:=By m y (by simp only [la] at hm;omega) _ _ _ h3 Qt.2.1;simp only [Dt,Lh,td,b1,b2,b3,b4,lC,lN,hb,e1,e2,Bool.and_true];rfl
theorem Du{nm ay:List BA}{e:Ex}{bc d:Int}{x:BA×Nat}(h:exprI e bc d=some x)(ht:tmN nm ay e=true):Dt nm ay e=true:=By (fuE e) e (nR _) bc d x h ht
theorem Bz{nm ay:List BA}:∀(l:List Ex) (x:List BA×Nat),gH l=some x->eO nm ay l=true->td nm ay l=true
 |[],_,_,_=>rfl
 |e::r,(_,_),h,ht=>by
  simp only [eO,bE] at ht;simp only [gH] at h;obtain ⟨s,k1,i1,h1,h2,_⟩:=aY h;obtain ⟨ss,k2,i2,h3,_,_⟩:=aY h2;simp only [td,Du h1 ht.1,Bz r _ h3 ht.2,Bool.and_true]
theorem yS{nm ay:List BA}:∀(a b:List Ex),eO nm ay (a++b)=(eO nm ay a&&eO nm ay b)
 |[],b=>by simp [eO]
 |e::a,b=>by simp only [List.cons_append,eO,yS a b,Bool.and_assoc]
theorem Fm{nm ay:List BA}:∀(l:List Ts) (x:List BA×Nat),jI l=some x->eO nm ay (tZ l)=true->RR nm ay l=true
 |[],_,_,_=>rfl
 |e::r,(_,_),h,ht=>by
  simp only [tZ,eO,bE] at ht;simp only [jI] at h;obtain ⟨s,k1,i1,h1,h2,_⟩:=aY h;obtain ⟨ss,k2,i2,h3,_,_⟩:=aY h2;unfold px at h1;obtain ⟨g0,h1⟩:=bp h1;obtain ⟨_,_,_,g1,h1,_⟩:=aY h1;obtain ⟨_,_,_,g2,_,_⟩:=aY h1;simp only [RR,VF,Du g1 ht.1,Du g2 ht.2.1,g0,Fm r _ h3 ht.2.2,Bool.and_true]
theorem Jz{nm ay:List BA}:∀(l:List (List Ts)) (x:List BA×Nat),Ab l=some x->eO nm ay (cI l)=true->GM nm ay l=true
 |[],_,_,_=>rfl
 |e::r,(_,_),h,ht=>by
  simp only [cI,yS,bE] at ht;simp only [Ab] at h;obtain ⟨s,k1,i1,h1,h2,_⟩:=aY h;obtain ⟨ss,k2,i2,h3,_,_⟩:=aY h2;unfold xP at h1;obtain ⟨_,_,_,g1,_,_⟩:=aY h1;simp only [GM,Fm e _ g1 ht.1,Jz r _ h3 ht.2,Bool.and_true]
theorem p_{nm ay:List BA}{c:List (List Ts)}{t:BA}{k:Nat}(h:gb c=some (t,k))(ht:eO nm ay (cI c)=true):GM nm ay c=true:=by
 cases c with
 |nil=>rfl
 |cons r c=>
  simp only [gb] at h;obtain ⟨ss,k1,i1,h1,_,_⟩:=aY h;exact Jz _ _ h1 ht
theorem sb:((⟨#[115,101,116]⟩:BA).toList==(⟨#[114,101,97,100]⟩:BA).toList)=false:=by kernel_rfl
theorem wY:((⟨#[115,101,116]⟩:BA).toList==(⟨#[105,102]⟩:BA).toList)=false:=by kernel_rfl
theorem qa:((⟨#[115,101,116]⟩:BA).toList==(⟨#[119,104,105,108,101]⟩:BA).toList)=false:=by kernel_rfl
theorem nY:((⟨#[115,101,116]⟩:BA).toList==(⟨#[97,115,115,117,109,101]⟩:BA).toList)=false:=by kernel_rfl
theorem nZ:((⟨#[115,101,116]⟩:BA).toList==(⟨#[97,115,115,101,114,116]⟩:BA).toList)=false:=by kernel_rfl
theorem sd:((⟨#[112,117,116]⟩:BA).toList==(⟨#[114,101,97,100]⟩:BA).toList)=false:=by kernel_rfl
theorem wZ:((⟨#[112,117,116]⟩:BA).toList==(⟨#[105,102]⟩:BA).toList)=false:=by kernel_rfl
theorem qb:((⟨#[112,117,116]⟩:BA).toList==(⟨#[119,104,105,108,101]⟩:BA).toList)=false:=by kernel_rfl
theorem n0:((⟨#[112,117,116]⟩:BA).toList==(⟨#[97,115,115,117,109,101]⟩:BA).toList)=false:=by kernel_rfl
theorem n_:((⟨#[112,117,116]⟩:BA).toList==(⟨#[97,115,115,101,114,116]⟩:BA).toList)=false:=by kernel_rfl
theorem qc:((⟨#[114,101,97,100]⟩:BA).toList==(⟨#[114,101,97,100]⟩:BA).toList)=true:=by kernel_rfl
theorem uC:((⟨#[114,101,97,100]⟩:BA).toList==(⟨#[105,102]⟩:BA).toList)=false:=by kernel_rfl
theorem oa:((⟨#[114,101,97,100]⟩:BA).toList==(⟨#[119,104,105,108,101]⟩:BA).toList)=false:=by kernel_rfl
theorem mi:((⟨#[114,101,97,100]⟩:BA).toList==(⟨#[97,115,115,117,109,101]⟩:BA).toList)=false:=by kernel_rfl
theorem mj:((⟨#[114,101,97,100]⟩:BA).toList==(⟨#[97,115,115,101,114,116]⟩:BA).toList)=false:=by kernel_rfl
theorem se:((⟨#[99,97,108,108]⟩:BA).toList==(⟨#[115,101,116]⟩:BA).toList)=false:=by kernel_rfl
theorem sh:((⟨#[99,97,108,108]⟩:BA).toList==(⟨#[112,117,116]⟩:BA).toList)=false:=by kernel_rfl
theorem qd:((⟨#[99,97,108,108]⟩:BA).toList==(⟨#[114,101,97,100]⟩:BA).toList)=false:=by kernel_rfl
theorem kR:((⟨#[99,97,108,108]⟩:BA).toList==(⟨#[99,97,108,108]⟩:BA).toList)=true:=by kernel_rfl
theorem uD:((⟨#[99,97,108,108]⟩:BA).toList==(⟨#[105,102]⟩:BA).toList)=false:=by kernel_rfl
theorem oc:((⟨#[99,97,108,108]⟩:BA).toList==(⟨#[119,104,105,108,101]⟩:BA).toList)=false:=by kernel_rfl
theorem ml:((⟨#[99,97,108,108]⟩:BA).toList==(⟨#[97,115,115,117,109,101]⟩:BA).toList)=false:=by kernel_rfl
theorem mm:((⟨#[99,97,108,108]⟩:BA).toList==(⟨#[97,115,115,101,114,116]⟩:BA).toList)=false:=by kernel_rfl
theorem Dv:((⟨#[105,102]⟩:BA).toList==(⟨#[114,101,97,100]⟩:BA).toList)=false:=by kernel_rfl
theorem JA:((⟨#[105,102]⟩:BA).toList==(⟨#[105,102]⟩:BA).toList)=true:=by kernel_rfl
theorem BB:((⟨#[105,102]⟩:BA).toList==(⟨#[119,104,105,108,101]⟩:BA).toList)=false:=by kernel_rfl
theorem yT:((⟨#[105,102]⟩:BA).toList==(⟨#[97,115,115,117,109,101]⟩:BA).toList)=false:=by kernel_rfl
theorem yU:((⟨#[105,102]⟩:BA).toList==(⟨#[97,115,115,101,114,116]⟩:BA).toList)=false:=by kernel_rfl
theorem vR:((⟨#[119,104,105,108,101]⟩:BA).toList==(⟨#[114,101,97,100]⟩:BA).toList)=false:=by kernel_rfl
theorem BC:((⟨#[119,104,105,108,101]⟩:BA).toList==(⟨#[105,102]⟩:BA).toList)=false:=by kernel_rfl
theorem uF:((⟨#[119,104,105,108,101]⟩:BA).toList==(⟨#[119,104,105,108,101]⟩:BA).toList)=true:=by kernel_rfl
theorem sL:((⟨#[119,104,105,108,101]⟩:BA).toList==(⟨#[97,115,115,117,109,101]⟩:BA).toList)=false:=by kernel_rfl
theorem sM:((⟨#[119,104,105,108,101]⟩:BA).toList==(⟨#[97,115,115,101,114,116]⟩:BA).toList)=false:=by kernel_rfl
theorem uG:((⟨#[97,115,115,117,109,101]⟩:BA).toList==(⟨#[114,101,97,100]⟩:BA).toList)=false:=by kernel_rfl
theorem yV:((⟨#[97,115,115,117,109,101]⟩:BA).toList==(⟨#[105,102]⟩:BA).toList)=false:=by kernel_rfl
theorem sN:((⟨#[97,115,115,117,109,101]⟩:BA).toList==(⟨#[119,104,105,108,101]⟩:BA).toList)=false:=by kernel_rfl
theorem ri:((⟨#[97,115,115,117,109,101]⟩:BA).toList==(⟨#[97,115,115,117,109,101]⟩:BA).toList)=true:=by kernel_rfl
theorem rj:((⟨#[97,115,115,117,109,101]⟩:BA).toList==(⟨#[97,115,115,101,114,116]⟩:BA).toList)=false:=by kernel_rfl
theorem uH:((⟨#[97,115,115,101,114,116]⟩:BA).toList==(⟨#[114,101,97,100]⟩:BA).toList)=false:=by kernel_rfl
theorem yW:((⟨#[97,115,115,101,114,116]⟩:BA).toList==(⟨#[105,102]⟩:BA).toList)=false:=by kernel_rfl
theorem sO:((⟨#[97,115,115,101,114,116]⟩:BA).toList==(⟨#[119,104,105,108,101]⟩:BA).toList)=false:=by kernel_rfl
theorem rk:((⟨#[97,115,115,101,114,116]⟩:BA).toList==(⟨#[97,115,115,117,109,101]⟩:BA).toList)=false:=by kernel_rfl
theorem rp:((⟨#[97,115,115,101,114,116]⟩:BA).toList==(⟨#[97,115,115,101,114,116]⟩:BA).toList)=true:=by kernel_rfl
theorem Qu{vs nm ay:List BA}{ps:List Pc}{i:Nat}{s:Sm}{k:Nat}{r:BA×Nat}(hs:∀v,v∈vs->v∈nm)(h:dr s k=some r)(hn:gu vs ay (ps.take i) s=true)(hc:gv (ps.take i) s=true):HK nm ay ps s=true:=by
 have hN:=IZ hn;obtain ⟨ap,name,proc,args,cond,ao,aK⟩:=s;obtain ⟨t,j⟩:=r;simp only [gu,bE] at hn;obtain ⟨nN,CD⟩:=hn;have PK:=yQ hs _ CD;clear CD;rw [yS,bE] at PK;obtain ⟨HJ,Uy⟩:=PK;have I2:(ap.toList==(⟨#[99,97,108,108]⟩:BA).toList)=true->(match findP ps proc with
   |some f=>decide (args.length=f.params.length)
   |none=>false)=true:=by
  intro q;obtain ⟨f,h1,h2⟩:=ul (hN q);rw [wN h1];simp only [gv,q] at hc;have hc:=eq_of_beq hc;rw [h2,ba,ag] at hc;exact dT (by omega)
 rcases q_ h with ⟨rfl,_,rfl,_,_,_,x,t1,k1,rfl,h1,_⟩|⟨rfl,_,rfl,_,_,_,x,y,t1,k1,t2,k2,rfl,h1,h2,_⟩|⟨rfl,rfl,_,_,_,_,t1,k1,h1,_⟩|⟨rfl,_,_,rfl,c,k1,b,k2,r,h1,_⟩|⟨rfl,_,_,rfl,_,c,k1,b,k2,h1,_⟩|⟨hk,_,_,rfl,_,_,c,k1,h1,_⟩|⟨rfl,_,rfl,rfl,_⟩
 ·simp only [pT,oE] at nN;simp only [eO,bE] at HJ;simp only [HK,td,GM,Du h1 HJ.1,oE,p9 hs nN,lC,lN,Bool.and_true,Bool.true_and];rfl
 ·simp only [pT,oH,oI,sd] at nN;simp only [eO,bE] at HJ;simp only [HK,td,GM,Du h1 HJ.1,Du h2 HJ.2.1,oH,oI,nN,lC,lN,Bool.and_true,Bool.true_and];rfl
 ·unfold ig at h1;obtain ⟨ss,k2,i2,h2,_,_⟩:=aY h1;simp only [pT,se,sh,qd,kR,bE] at nN;simp only [HK,GM,Bz _ _ h2 HJ,se,sh,qd,kR,p9 hs nN.1,Bool.and_true,Bool.true_and];exact I2 kR
 ·simp only [HK,td,p_ h1 Uy,wO,wP,Dv,um,JA,BB,yT,yU,Bool.and_true,Bool.true_and];rfl
 ·simp only [HK,td,p_ h1 Uy,pZ,p4,vR,nQ,BC,uF,sL,sM,Bool.and_true,Bool.true_and];rfl
 ·rcases hk with rfl|rfl
  ·simp only [HK,td,p_ h1 Uy,nT,nU,uH,me,yW,sO,rk,rp,Bool.and_true,Bool.true_and];rfl
  simp only [HK,td,p_ h1 Uy,nV,nW,uG,mf,yV,sN,ri,rj,Bool.and_true,Bool.true_and];rfl
 simp only [pT,mg,qc] at nN;simp only [HK,td,GM,mg,mh,qc,p9 hs nN,Bool.and_true]
theorem JB{vs nm ay:List BA}{ps:List Pc}{i:Nat}{l:List Sm}{k:Nat}{r:BA×Nat}(hs:∀v,v∈vs->v∈nm)(h:bI l k=some r)(hn:(flatB l).all (gu vs ay (ps.take i))=true)(hc:(flatB l).all (gv (ps.take i))=true):Jv nm ay ps l=true:=by
 refine List.all_eq_true.2 fun x hx=>?_;obtain ⟨k',t',j',h',_⟩:=wQ.2 l k r h x hx;exact Qu hs h' (List.all_eq_true.1 hn x hx) (List.all_eq_true.1 hc x hx)
theorem w8:∀(l:List Pc) (r:BA×Nat),eW l=some r->∀f,f∈l->(∃r,bI f.body 1=some r)/\∃(a b:Int) (x:BA×Nat),exprI f.ret a b=some x
 |[],_,_,f,hf=>by cases hf
 |⟨nm,ps,bd,rt⟩::l,(_,_),h,f,hf=>by
  simp only [eW] at h;obtain ⟨_,h⟩:=bp h;obtain ⟨_,h⟩:=bp h;obtain ⟨_,_,_,_,_,h,_⟩:=br h;obtain ⟨_,_,_,_,h1,h,_⟩:=br h;obtain ⟨_,_,_,_,h2,h,_⟩:=br h;obtain ⟨_,_,_,_,_,h,_⟩:=br h;obtain ⟨_,_,_,h3,_⟩:=aY h2;rcases List.mem_cons.1 hf with rfl|hf
  ·exact ⟨⟨_,h1⟩,_,_,_,h3⟩
  exact w8 l _ h f hf
theorem MD{az:List BA}{ah:List Ar}{procs:List Pc}{main:List Sm}{r:BA×Nat}(h:jq ⟨az,ah,procs,main⟩=some r)(hc:gw az ah procs main=none)(hw:lz procs<=1000000000):
  Uw (az++prmF procs) (arN ah) procs/\Jv (az++prmF procs) (arN ah) procs main=true/\(az++prmF procs).Nodup/\(arN ah).Nodup/\(az++prmF procs).length<=12/\ah.length<=12:=by
 obtain ⟨t,k⟩:=r;unfold jq at h;obtain ⟨_,_,_,_,_,h,_⟩:=br h;obtain ⟨_,_,_,_,_,h,_⟩:=br h;obtain ⟨_,_,_,_,hp,h,_⟩:=br h;unfold ly at h;obtain ⟨_,_,_,_,_,h,_⟩:=br h;obtain ⟨_,_,_,_,hm,_⟩:=br h;unfold gw at hc;obtain ⟨cA,cL,cD,cN,cM,cC,cK⟩:=Bi hc;have uo:((fq az ah procs++pcN procs).map (·.data.toList)).Nodup:=by
  simp only [ug,Bool.not_eq_false',dE] at cD;exact cD
 have uo:(fq az ah procs++pcN procs).Nodup:=by
  refine (List.pairwise_map.1 uo).imp fun HP q=>HP (by rw [q])
 rw [List.nodup_append] at uo;obtain ⟨h1,_,_⟩:=uo;unfold fq at h1;rw [List.nodup_append] at h1;obtain ⟨h1,h2,h3⟩:=h1;rw [List.nodup_append] at h1;obtain ⟨h4,h5,_⟩:=h1;have bZ:(az++prmF procs).length<=12/\ah.length<=12:=by
  simp only [uh,Bool.or_eq_false_iff,decide_eq_false_iff_not,fq,ag,lA,arN,lM] at cL;rw [lA];omega
 refine ⟨fun f hf=>?_,?_,List.nodup_append.2 ⟨h4,h2,fun a ha b hb=>h3 a (List.mem_append.2 (.inl ha)) b hb⟩,h5,bZ⟩
 ·obtain ⟨⟨r,g1⟩,a,b,x,g2⟩:=w8 procs _ hp f hf;have Qv:∀v,v∈az++f.params->v∈az++prmF procs:=fun v hv=>by
   rcases List.mem_append.1 hv with hv|hv
   ·exact List.mem_append.2 (.inl hv)
   exact List.mem_append.2 (.inr (Fi hf hv))
  have w1:=yM hf;have w2:=ew f.params;refine ⟨?_,Du g2 (Ju Qv _ (Fj cN f hf)),by omega,by omega,fun v hv=>Jt (Qv v (List.mem_append.2 (.inr hv)))⟩;obtain ⟨j,hj,rfl⟩:=List.mem_iff_getElem.1 hf;have L':procs[j]? = some procs[j]:=List.getElem?_eq_getElem hj;exact JB Qv g1 (rg cN j _ L') (Dj cC j _ L')
 have e:procs.take procs.length=procs:=List.take_length;exact JB (vs:=az) (i:=procs.length) (fun v hv=>List.mem_append.2 (.inl hv)) hm (by rw [e];exact cM) (by rw [e];exact cK)
end Go.Abs
end
section
namespace Go.Abs
open Go Go.Proofs
attribute [local irreducible] c8 dJ Sub Spec
section
def GN(v:BA):List BA->Nat->Int
 |[],_=>0
 |x::r,i=>match x.toList==v.toList with
  |true=>i
  |false=>GN v r (i+1)
theorem mp(v:BA):∀(l:List BA) (i:Nat),GN v l i=(Dr v l i:Nat)
 |[],_=>rfl
 |x::r,i=>by
  simp only [GN,Dr,mp v r (i+1)];cases x.toList==v.toList <;> rfl
theorem BD(a:Ar)(r:List Ar):arN (a::r)=a.name::arN r:=rfl
theorem Fo:arN []=[]:=rfl
def ni(ks:List (Nat×Nat)):List (List Data):=ks.map fun q=>[.s (kv q)]
section
variable (G:Glob)
theorem yX(nm:List BA)(q0:Nat×Nat)(ay:List Ar)(ks:List (Nat×Nat))(ps:List Pc)(inp:List Int)(F st:Int)(kd:BA)(v:BA)(hn:nm.length<=1073741824):Spec Tryz.prog G 182 [.eptr [.sl 1 (strs nm),.s (kv q0),.sl 2 (ey ay),.sl 1 (ni ks),.sl 7 (c_ ps),.sl 1 (numsD inp),aD F,aD st,aW kd],.d (aW v)] [] (.ret (.d (aD (GN v nm 0)))) []:=by
 obtain ⟨r,hG⟩:∃r,GN v nm 0=r:=⟨_,rfl⟩;rw [hG];refine sA (N:=25) Tryz.func182 ?_;refine rz [0,1] ?_;refine aa (rz [0,1,5] ?_);refine af (aB (fun k Y=>∃(d1 e1:List BA) ,k=e1.length/\nm=d1++e1/\GN v e1 d1.length=r/\Y=⟨[(0,.eptr [.sl 1 (strs nm),.s (kv q0),.sl 2 (ey ay),.sl 1 (ni ks),.sl 7 (c_ ps),.sl 1 (numsD inp),aD F,aD st,aW kd]),(1,.d (aW v)),(5,.d (aD d1.length))],[]⟩) (nm.length) (⟨[],nm,rfl,rfl,hG,rfl⟩) ?_);clear hG;rintro k Y ⟨d1,e1,rfl,bV,hG,rfl⟩;have bu:(strs nm).length=d1.length+e1.length:=by rw [ag,bV,lA]
 have cn:d1.length+e1.length<=1073741824:=by rw [bV,lA] at hn;exact hn
 refine aa (rz [0,1,5,12] ?_);refine cQ rfl (fun h1=>?_) fun h1=>?_
 ·have bO:=oT h1;rw [bu] at bO;cases e1 with
  |nil=>simp only [lN] at bO;omega
  |cons x cw=>
  subst bV;simp only [lC] at cn;simp only [GN] at hG;refine ac (aa ?_);refine af (rS fun J O=>oN (eI _ (aI (pQ rfl) ?_)));refine O _ (aM [0,1,5,23] ?_);clear O J;refine cQ rfl (fun h2=>?_) fun h2=>?_
  ·simp only [h2] at hG;refine rz [4] ?_;refine ae ?_;subst hG;exact lF [] [.d (aD _)]
  simp only [h2] at hG;refine ac (rG fun J O=>O _ ?_);clear O J;exact ⟨_,nS _,_,ak (slots:=[0,1,5]) rfl rfl,d1++[x],cw,rfl,by simp,(by rw [lA];exact hG),by rw [lA,aH (by omega) (by omega)];rfl⟩
 have bO:=oF h1;rw [bu] at bO;obtain rfl:e1=[]:=lE (by omega);simp only [GN] at hG;refine aA ?_;refine aq [] rfl rfl ?_;refine rz [4] ?_;refine ae ?_;subst hG;exact lF [] [.d (aD _)]
theorem kS(nm:List BA)(q0:Nat×Nat)(ay:List Ar)(ks:List (Nat×Nat))(ps:List Pc)(inp:List Int)(F st:Int)(kd:BA)(v:BA)(hn:ay.length<=1073741824):Spec Tryz.prog G 181 [.eptr [.sl 1 (strs nm),.s (kv q0),.sl 2 (ey ay),.sl 1 (ni ks),.sl 7 (c_ ps),.sl 1 (numsD inp),aD F,aD st,aW kd],.d (aW v)] [] (.ret (.d (aD (GN v (arN ay) 0)))) []:=by
 obtain ⟨r,hG⟩:∃r,GN v (arN ay) 0=r:=⟨_,rfl⟩;rw [hG];refine sA (N:=26) Tryz.func181 ?_;refine rz [0,1] ?_;refine aa (rz [0,1,5] ?_);refine af (aB (fun k Y=>∃(d1 e1:List Ar) ,k=e1.length/\ay=d1++e1/\GN v (arN e1) d1.length=r/\Y=⟨[(0,.eptr [.sl 1 (strs nm),.s (kv q0),.sl 2 (ey ay),.sl 1 (ni ks),.sl 7 (c_ ps),.sl 1 (numsD inp),aD F,aD st,aW kd]),(1,.d (aW v)),(5,.d (aD d1.length))],[]⟩) (ay.length) (⟨[],ay,rfl,rfl,hG,rfl⟩) ?_);clear hG;rintro k Y ⟨d1,e1,rfl,bV,hG,rfl⟩;have bu:(ey ay).length=d1.length+e1.length:=by rw [bS,bV,lA]
 have cn:d1.length+e1.length<=1073741824:=by rw [bV,lA] at hn;exact hn
 refine aa (rz [0,1,5,12] ?_);refine cQ rfl (fun h1=>?_) fun h1=>?_
 ·have bO:=oT h1;rw [bu] at bO;cases e1 with
  |nil=>simp only [lN] at bO;omega
  |cons x cw=>
  obtain ⟨an,YT⟩:=x;subst bV;simp only [lC] at cn;simp only [BD,GN] at hG;refine ac (aa ?_);refine af (rS fun J O=>oN (eI _ (aI (fL rfl) ?_)));refine O _ (aM [0,1,5,24] ?_);clear O J;refine cQ rfl (fun h2=>?_) fun h2=>?_
  ·simp only [h2] at hG;refine rz [4] ?_;refine ae ?_;subst hG;exact lF [] [.d (aD _)]
  simp only [h2] at hG;refine ac (rG fun J O=>O _ ?_);clear O J;exact ⟨_,nS _,_,ak (slots:=[0,1,5]) rfl rfl,d1++[⟨an,YT⟩],cw,rfl,by simp,(by rw [lA];exact hG),by rw [lA,aH (by omega) (by omega)];rfl⟩
 have bO:=oF h1;rw [bu] at bO;obtain rfl:e1=[]:=lE (by omega);simp only [Fo,GN] at hG;refine aA ?_;refine aq [] rfl rfl ?_;refine rz [4] ?_;refine ae ?_;subst hG;exact lF [] [.d (aD _)]
theorem GS(nm:List BA)(q0:Nat×Nat)(ay:List Ar)(ks:List (Nat×Nat))(ps:List Pc)(inp:List Int)(F st:Int)(kd:BA)(hk:(kd.toList==(⟨#[]⟩:BA).toList)=false):Spec Tryz.prog G 178 [.box 0 0] [.box 238 [.d (.sl 1 (strs nm)),.d (.s (kv q0)),.d (.sl 2 (ey ay)),.d (.sl 1 (ni ks)),.d (.sl 7 (c_ ps)),.d (.sl 1 (numsD inp)),.d (aD F),.d (aD st),.d (aW kd)]] (.ret (.d (.s (.bool false)))) [.box 238 [.d (.sl 1 (strs nm)),.d (.s (kv q0)),.d (.sl 2 (ey ay)),.d (.sl 1 (ni ks)),.d (.sl 7 (c_ ps)),.d (.sl 1 (numsD inp)),.d (aD F),.d (aD st),.d (aW kd)]]:=by
 refine sA (N:=27) Tryz.func178 ?_;refine rz [0] ?_;refine aa (rz [0,7] ?_);refine cQ rfl (fun h1=>?_) fun h1=>?_
 ·refine rz [2] ?_;refine ae ?_;exact lF [0] [.d (.s (.bool false))]
 rw [hk] at h1;cases h1
def JC:Plan:=(.take 0 (.take 1 (.take 2 (.load 3 (.take 4 (.take 5 (.take 6 (.load 7 (.take 8 .done)))))))))
theorem si(nm:List BA)(q0:Nat×Nat)(ay:List Ar)(ks:List (Nat×Nat))(ps:List Pc)(inp:List Int)(F st:Int)(iF:(st==F)=true):Spec Tryz.prog G 178 [.box 0 0] [.box 238 [.d (.sl 1 (strs nm)),.d (.s (kv q0)),.d (.sl 2 (ey ay)),.d (.sl 1 (ni ks)),.d (.sl 7 (c_ ps)),.d (.sl 1 (numsD inp)),.d (aD F),.d (aD st),.d (aW ⟨#[]⟩)]] (.ret (.d (.s (.bool false)))) [.box 238 [.d (.sl 1 (strs nm)),.d (.s (kv q0)),.d (.sl 2 (ey ay)),.d (.sl 1 (ni ks)),.d (.sl 7 (c_ ps)),.d (.sl 1 (numsD inp)),.d (aD F),.d (aD st),.d (aW wTired)]]:=by
 refine sA (N:=27) Tryz.func178 ?_;refine rz [0] ?_;refine aa (rz [0,7] ?_);refine cQ rfl (fun h1=>?_) fun h1=>?_
 ·simp at h1
 refine ac (aa ?_);refine aa ((dW JC [] (fun i=>Nat.beq i 0) (by kernel_rfl) fun J O=>O _ (aM [0,16] ?_)));clear O J;refine cQ rfl (fun h2=>?_) fun h2=>?_
 ·refine rz [] ?_;refine rz [2] ?_;refine ae ?_;exact lF [0] [.d (.s (.bool false))]
 rw [iF] at h2;cases h2
theorem BE(nm:List BA)(q0:Nat×Nat)(ay:List Ar)(ks:List (Nat×Nat))(ps:List Pc)(inp:List Int)(F st:Int)(iF:(st==F)=false)(h0:0<=st)(h1:st<=1000000000000):Spec Tryz.prog G 178 [.box 0 0] [.box 238 [.d (.sl 1 (strs nm)),.d (.s (kv q0)),.d (.sl 2 (ey ay)),.d (.sl 1 (ni ks)),.d (.sl 7 (c_ ps)),.d (.sl 1 (numsD inp)),.d (aD F),.d (aD st),.d (aW ⟨#[]⟩)]] (.ret (.d (.s (.bool true)))) [.box 238 [.d (.sl 1 (strs nm)),.d (.s (kv q0)),.d (.sl 2 (ey ay)),.d (.sl 1 (ni ks)),.d (.sl 7 (c_ ps)),.d (.sl 1 (numsD inp)),.d (aD F),.d (aD (st+1)),.d (aW ⟨#[]⟩)]]:=by
 refine sA (N:=27) Tryz.func178 ?_;refine rz [0] ?_;refine aa (rz [0,7] ?_);refine cQ rfl (fun h1=>?_) fun h1=>?_
 ·simp at h1
 refine ac (aa ?_);refine aa ((dW JC [] (fun i=>Nat.beq i 0) (by kernel_rfl) fun J O=>O _ (aM [0,16] ?_)));clear O J;refine cQ rfl (fun h2=>?_) fun h2=>?_
 ·rw [iF] at h2;cases h2
 refine ac (rz [] ?_);rw [aH (by omega) (by omega)];refine rz [2] ?_;refine ae ?_;exact lF [0] [.d (.s (.bool true))]
theorem VG(n m:Int):Spec Tryz.prog G 44 [.d (aD n),.d (aD m)] [] (.ret (.d (.s (.bool (decide (n>m)||decide (n<IntKind.i64.wrap (0 - m))))))) []:=by
 obtain ⟨b,hG⟩:∃b,(decide (n>m)||decide (n<IntKind.i64.wrap (0 - m)))=b:=⟨_,rfl⟩;rw [hG];refine sA (N:=14) Tryz.func44 ?_;refine rz [0,1] ?_;refine rS fun J O=>?_;refine ab (fun h1=>?_) (fun h1=>?_)
 ·refine O _ (aM [4] ?_);clear O J;refine ae ?_;try simp only [bn,h1] at hG
  subst hG;exact lF [] [.d (.s (.bool _))]
 refine O _ (aM [4] ?_);clear O J;refine ae ?_;try simp only [bn,h1] at hG
 subst hG;exact lF [] [.d (.s (.bool _))]
theorem Ol(n:Int):Spec Tryz.prog G 44 [.d (aD n),.d (aD 1099511627776)] [] (.ret (.d (.s (.bool (fP n))))) []:=by
 have h:=VG G n 1099511627776;rw [show IntKind.i64.wrap (0 - 1099511627776) = -1099511627776 from dl (by decide) (by decide)] at h;exact h
def rq(x y c:Int):Int×Bool:=match c==43 with
 |true=>(IntKind.i64.wrap (x+y),true)
 |false=>match c==45 with
  |true=>(IntKind.i64.wrap (x - y),true)
  |false=>match c==42 with
   |true=>(IntKind.i64.wrap (x * y),true)
   |false=>match y==0 with
    |true=>(0,false)
    |false=>match c==47 with
     |true=>(IntKind.i64.wrap (Int.tdiv x y),true)
     |false=>(Int.tmod x y,true)
theorem BF(x y c:Int):Spec Tryz.prog G 238 [.d (aD x),.d (aD y),.d (.s (.int .u8 c))] [] (.ret (.tup [.d (aD (rq x y c).1),.d (.s (.bool (rq x y c).2))])) []:=by
 obtain ⟨R,hG⟩:∃R,rq x y c=R:=⟨_,rfl⟩;rw [hG];simp only [rq] at hG;refine sA (N:=34) Tryz.func238 ?_;refine rz [0,1,2] ?_;refine aa (rz [0,1,2,8] ?_);refine af (rz [0,1,2,8,9] ?_);refine cQ rfl (fun h1=>?_) fun h1=>?_
 ·refine rz [6,7] ?_;refine ae ?_;try simp only [h1] at hG
  subst hG;exact lF [] [.d (aD _),.d (.s (.bool _))]
 refine rz [0,1,2,8,14] ?_;refine cQ rfl (fun h2=>?_) fun h2=>?_
 ·refine rz [6,7] ?_;refine ae ?_;try simp only [h1,h2] at hG
  subst hG;exact lF [] [.d (aD _),.d (.s (.bool _))]
 refine rz [0,1,2,19] ?_;refine cQ rfl (fun h3=>?_) fun h3=>?_
 ·refine rz [6,7] ?_;refine ae ?_;try simp only [h1,h2,h3] at hG
  subst hG;exact lF [] [.d (aD _),.d (.s (.bool _))]
 refine ac (aa ?_);refine rz [0,1,2,25] ?_;refine cQ rfl (fun h4=>?_) fun h4=>?_
 ·refine rz [6,7] ?_;refine ae ?_;try simp only [h1,h2,h3,h4] at hG
  subst hG;exact lF [] [.d (aD _),.d (.s (.bool _))]
 have P7:=SW h4;refine ac (aa ?_);refine rz [0,1,27] ?_;refine cQ rfl (fun h5=>?_) fun h5=>?_
 ·refine rS fun J O=>?_
  refine aI P7 ?_;refine O _ (aM [6,7] ?_);clear O J;refine ae ?_;try simp only [h1,h2,h3,h4,h5] at hG
  subst hG;exact lF [] [.d (aD _),.d (.s (.bool _))]
 refine ac (rS fun J O=>aI P7 ?_);refine O _ (aM [6,7] ?_);clear O J;refine ae ?_;try simp only [h1,h2,h3,h4,h5] at hG
 subst hG;exact lF [] [.d (aD _),.d (.s (.bool _))]
def JD(a:Int)(dZ:BA)(b:Int):Bool:=match dZ.toList==(⟨#[60]⟩:BA).toList with
 |true=>decide (a<b)
 |false=>match dZ.toList==(⟨#[60,61]⟩:BA).toList with
  |true=>decide (a<=b)
  |false=>match (dZ.toList==(⟨#[61]⟩:BA).toList)||(dZ.toList==(⟨#[61,61]⟩:BA).toList) with
   |true=>a==b
   |false=>match dZ.toList==(⟨#[33,61]⟩:BA).toList with
    |true=>a != b
    |false=>match dZ.toList==(⟨#[62]⟩:BA).toList with
     |true=>decide (a>b)
     |false=>decide (a≥b)
theorem GU{dZ:BA}(h:dC dZ=true)(a b:Int):JD a dZ b=jM a dZ b:=by
 have e:(dZ.toList==(⟨#[61]⟩:BA).toList)=false:=by
  simp only [dC,Bool.or_eq_true] at h;rcases h with ((((h|h)|h)|h)|h)|h <;> (rw [eq_of_beq h];kernel_rfl)
 simp only [JD,jM,e,Bool.false_or];rfl
theorem BG(a:Int)(dZ:BA)(b:Int):Spec Tryz.prog G 241 [.d (aD a),.d (aW dZ),.d (aD b)] [] (.ret (.d (.s (.bool (JD a dZ b))))) []:=by
 obtain ⟨R,hG⟩:∃R,JD a dZ b=R:=⟨_,rfl⟩;rw [hG];simp only [JD] at hG;refine sA (N:=37) Tryz.func241 ?_;refine rz [0,1,2] ?_;refine aa (rz [0,2,7] ?_);refine af (rz [0,2,7,8] ?_);refine cQ rfl (fun h1=>?_) fun h1=>?_
 ·refine rz [6] ?_;refine ae ?_;try simp only [h1] at hG
  subst hG;exact lF [] [.d (.s (.bool _))]
 refine rz [0,2,7,13] ?_;refine cQ rfl (fun h2=>?_) fun h2=>?_
 ·refine rz [6] ?_;refine ae ?_;try simp only [h1,h2] at hG
  subst hG;exact lF [] [.d (.s (.bool _))]
 refine aa (rz [0,2,7,18] ?_);refine cQ rfl (fun h3=>?_) fun h3=>?_
 ·refine ac (aj rfl ?_);refine rz [6] ?_;refine ae ?_;try simp only [bn,h1,h2,h3] at hG
  subst hG;exact lF [] [.d (.s (.bool _))]
 refine rG fun J O=>O _ (aM [0,2,7,18] ?_);clear O J;refine cQ rfl (fun h4=>?_) fun h4=>?_
 ·refine rz [6] ?_;refine ae ?_;try simp only [bn,h1,h2,h3,h4] at hG
  subst hG;exact lF [] [.d (.s (.bool _))]
 refine rz [0,2,7,24] ?_;refine cQ rfl (fun h5=>?_) fun h5=>?_
 ·refine rz [6] ?_;refine ae ?_;try simp only [bn,h1,h2,h3,h4,h5] at hG
  subst hG;exact lF [] [.d (.s (.bool _))]
 refine rz [0,2,29] ?_;refine cQ rfl (fun h6=>?_) fun h6=>?_
 ·refine rz [6] ?_;refine ae ?_;try simp only [bn,h1,h2,h3,h4,h5,h6] at hG
  subst hG;exact lF [] [.d (.s (.bool _))]
 refine ac (rz [6] ?_);refine ae ?_;try simp only [bn,h1,h2,h3,h4,h5,h6] at hG
 subst hG;exact lF [] [.d (.s (.bool _))]
end
end
section
def oO(vs:List (BA×Int))(ar:List (BA×List Int)):List Ex->Option (List Int)
 |[]=>some []
 |e::r=>match fg vs ar e with
  |none=>none
  |some n=>match oO vs ar r with
   |none=>none
   |some l=>some (n::l)
section
variable {vs:List (BA×Int)}{ar:List (BA×List Int)}
theorem BH{x:Ex}{a:Int}:∀ {l:List Ex}{rs:List Int},oO vs ar l=some rs->fg vs ar x=some a->oO vs ar (l++[x])=some (rs++[a])
 |[],rs,h,hx=>by
  simp only [oO,sI] at h;subst h;simp only [List.nil_append,oO,hx]
 |e::l,rs,h,hx=>by
  simp only [oO] at h;split at h
  ·cases h
  rename_i n hn;split at h
  ·cases h
  rename_i r hr;simp only [sI] at h;subst h;simp only [List.cons_append,oO,hn,BH hr hx]
theorem Fp:∀ {l:List Ex}{rs:List Int},oO vs ar l=some rs->rs.length=l.length
 |[],rs,h=>by simp only [oO,sI] at h;subst h;rfl
 |e::l,rs,h=>by
  simp only [oO] at h;split at h
  ·cases h
  split at h
  ·cases h
  rename_i r hr;simp only [sI] at h;subst h;simp [Fp hr]
theorem Fq{l:List Ex}{rs:List Int}(h:oO vs ar l=some rs)(hl:l.length=1):∃x a,l=[x]/\fg vs ar x=some a/\rs=[a]:=by
 match l,hl with
 |[x],_=>
  simp only [oO] at h;split at h
  ·cases h
  rename_i n hn;simp only [sI] at h;exact ⟨x,n,rfl,hn,h.symm⟩
theorem ME{l:List Ex}{rs:List Int}(h:oO vs ar l=some rs)(hl:l.length=2):∃x y a b,l=[x,y]/\fg vs ar x=some a/\fg vs ar y=some b/\rs=[a,b]:=by
 match l,hl with
 |[x,y],_=>
  simp only [oO] at h;split at h
  ·cases h
  rename_i n hn;cases hy:fg vs ar y with
  |none=>rw [hy] at h;cases h
  |some m=>
   rw [hy] at h;simp only [sI] at h;exact ⟨x,y,n,m,rfl,hn,hy,h.symm⟩
theorem MF{nm ay:List BA}{op v:BA}{n:Int}{l:List Ex}{x:Ex}(h:Lh nm ay op n v l.length=true)(hx:x∈l)(hn:fg vs ar x=none):fg vs ar (.mk op n v l)=none:=by
 unfold Lh at h;split at h
 ·simp only [bE,dE] at h;rw [lE h.1.1] at hx;cases hx
 rename_i h1;split at h
 ·simp only [bE,dE] at h;rw [lE h.1] at hx;cases hx
 rename_i h2;split at h
 ·rename_i h3;simp only [bE,dE] at h
  match l,h.1,hx with
  |[y],_,hx=>
   rw [List.mem_singleton.1 hx] at hn;simp only [fg,h1,h2,h3,hn]
 rename_i h3;split at h
 ·rename_i h4;simp only [dE] at h
  match l,h,hx with
  |[y],_,hx=>
   rw [List.mem_singleton.1 hx] at hn;simp only [fg,h1,h2,h3,h4,hn]
 rename_i h4;simp only [bE,dE] at h
 match l,h.1,hx with
 |[y,z],_,hx=>
  simp only [fg,h1,h2,h3,h4];rcases List.mem_cons.1 hx with rfl|hx
  ·rw [hn]
  rw [List.mem_singleton.1 hx] at hn;rw [hn];cases fg vs ar y <;> rfl
theorem uI{n:Int}(h:sml n):dP n=some n:=by
 unfold sml at h;have:fP n=false:=by
  simp only [fP,Bool.or_eq_false_iff,decide_eq_false_iff_not];omega
 simp only [dP,this]
def iu(a:Int)(k:Int->Option Int):Option Int:=match decide (a<0) with
 |true=>k (IntKind.i64.wrap (0 - a))
 |false=>k a
def iG(a b:Int):Option Int:=iu a fun x=>iu b fun y=>match decide (x>0) with
 |true=>match decide (y>IntKind.i64.wrap (Int.tdiv 1099511627776 x)) with
  |true=>none
  |false=>some (IntKind.i64.wrap (a * b))
 |false=>some (IntKind.i64.wrap (a * b))
def gG(op:BA)(a b:Int):Option Int:=match (rq a b (byteAt op 0)).2 with
 |true=>match fP (rq a b (byteAt op 0)).1 with
  |true=>none
  |false=>some (rq a b (byteAt op 0)).1
 |false=>none
theorem JE{a:Int}(h:sml a)(k:Int->Option Int):iu a k=k a.natAbs:=by
 unfold sml at h;unfold iu;by_cases q:a<0
 ·simp only [q,decide_true];rw [dl (by omega) (by omega)]
  congr 1
  omega
 simp only [q,decide_false]
 congr 1
 omega
theorem Fs{a:Int}(h:sml a):tK a (IntKind.i64.wrap (0 - a))=a.natAbs:=by
 unfold sml at h;rw [dl (by omega) (by omega)];unfold tK;split <;> omega
theorem Dw{a b:Nat}(ha:0<a)(hb:b<=1099511627776 / a):a * b<=1099511627776:=by
 have:=Nat.mul_le_mul_left a hb;exact Nat.le_trans this (Nat.mul_div_le _ _)
theorem Qw{a b:Int}(ha:sml a)(hb:sml b):(match rW a b with
  |none=>none
  |some c=>dP c)=iG a b:=by
 unfold iG;rw [JE ha,JE hb];unfold rW;rw [Fs ha,Fs hb];have JF:=ha;have gV:=hb;unfold sml at JF gV;by_cases h0:a=0
 ·subst h0;have e1:decide (((0:Int).natAbs:Int)>0)=false:=by decide
  simp only [bne_self_eq_false,Bool.false_and,e1,Int.zero_mul];rw [dl (by decide) (by decide)];exact uI P3
 have hp:0<a.natAbs:=by omega
 have e1:decide (((a.natAbs:Nat):Int)>0)=true:=dT (by omega);have e2:(a != 0)=true:=by simpa using h0
 have t1:Int.tdiv 1099511627776 (a.natAbs:Int)=((1099511627776 / a.natAbs:Nat):Int):=Int.ofNat_tdiv 1099511627776 a.natAbs |>.symm
 have t2:Int.tdiv 4611686018427387904 (a.natAbs:Int)=((4611686018427387904 / a.natAbs:Nat):Int):=Int.ofNat_tdiv 4611686018427387904 a.natAbs |>.symm
 have l1:1099511627776 / a.natAbs<=1099511627776:=Nat.div_le_self _ _;have l2:4611686018427387904 / a.natAbs<=4611686018427387904:=Nat.div_le_self _ _;have p1:(-9223372036854775808:Int)<=((1099511627776 / a.natAbs:Nat):Int):=Int.le_trans (by decide) (Int.natCast_nonneg _);have p2:(-9223372036854775808:Int)<=((4611686018427387904 / a.natAbs:Nat):Int):=Int.le_trans (by decide) (Int.natCast_nonneg _);rw [t1,t2,dl (x:=((1099511627776 / a.natAbs:Nat):Int)) p1 (by omega),dl (x:=((4611686018427387904 / a.natAbs:Nat):Int)) p2 (by omega)];simp only [e1,e2,Bool.true_and];have HP:(a * b).natAbs=a.natAbs * b.natAbs:=Int.natAbs_mul a b;by_cases i6:b.natAbs<=1099511627776 / a.natAbs
 ·have hm:=Dw hp i6;have l3:1099511627776 / a.natAbs<=4611686018427387904 / a.natAbs:=Nat.div_le_div_right (by decide);have d1:decide (((b.natAbs:Nat):Int)>((1099511627776 / a.natAbs:Nat):Int))=false:=decide_eq_false (by omega);have d2:decide (((b.natAbs:Nat):Int)>((4611686018427387904 / a.natAbs:Nat):Int))=false:=decide_eq_false (by omega);simp only [d1,d2];have hs:sml (a * b):=by unfold sml;omega
  rw [dl (by unfold sml at hs;omega) (by unfold sml at hs;omega)];exact uI hs
 have Xk:1099511627776<a.natAbs * b.natAbs:=by
  have:=Nat.lt_mul_div_succ 1099511627776 hp;have h2:1099511627776 / a.natAbs+1<=b.natAbs:=by omega
  exact Nat.lt_of_lt_of_le this (Nat.mul_le_mul_left _ h2)
 have d1:decide (((b.natAbs:Nat):Int)>((1099511627776 / a.natAbs:Nat):Int))=true:=dT (by omega);simp only [d1];cases d2:decide (((b.natAbs:Nat):Int)>((4611686018427387904 / a.natAbs:Nat):Int)) with
 |true=>rfl
 |false=>
  have d2:=oF d2;have h3:b.natAbs<=4611686018427387904 / a.natAbs:=by omega
  have h4:a.natAbs * b.natAbs<=4611686018427387904:=Nat.le_trans (Nat.mul_le_mul_left _ h3) (Nat.mul_div_le _ _);show dP (IntKind.i64.wrap (a * b))=none
  rw [dl (by omega) (by omega)];have:fP (a * b)=true:=by
   simp only [fP,Bool.or_eq_true,dE];omega
  simp only [dP,this]
theorem Qx{op:BA}{a b:Int}(hb:fO op=true)(h:(op.toList==(⟨#[42]⟩:BA).toList)=false)(ha:sml a)(mQ:sml b):(match op.toList==(⟨#[43]⟩:BA).toList with
  |true=>dP (IntKind.i64.wrap (a+b))
  |false=>match op.toList==(⟨#[45]⟩:BA).toList with
   |true=>dP (IntKind.i64.wrap (a - b))
   |false=>match b==0 with
    |true=>none
    |false=>match op.toList==(⟨#[47]⟩:BA).toList with
     |true=>some (IntKind.i64.wrap (Int.tdiv a b))
     |false=>some (Int.tmod a b))=gG op a b:=by
 have hs:∀n:Int,dP n=(match fP n with
   |true=>none
   |false=>some n):=fun n=>rfl
 have hf:∀n:Int,sml n->fP n=false:=fun n hn=>by
  unfold sml at hn;simp only [fP,Bool.or_eq_false_iff,decide_eq_false_iff_not];omega
 simp only [fO,Bool.or_eq_true] at hb;rcases hb with (((hb|hb)|hb)|hb)|hb
 ·have e:=dj hb;subst e;have e1:byteAt (⟨#[43]⟩:BA) 0=43:=by kernel_rfl
  simp only [hb,gG,e1,rq,hs];rfl
 ·have e:=dj hb;subst e;have e1:byteAt (⟨#[45]⟩:BA) 0=45:=by kernel_rfl
  have e2:((⟨#[45]⟩:BA).toList==(⟨#[43]⟩:BA).toList)=false:=by kernel_rfl
  simp only [hb,e2,gG,e1,rq,hs];rfl
 ·rw [hb] at h;cases h
 ·have e:=dj hb;subst e;have e1:byteAt (⟨#[47]⟩:BA) 0=47:=by kernel_rfl
  have e2:((⟨#[47]⟩:BA).toList==(⟨#[43]⟩:BA).toList)=false:=by kernel_rfl
  have e3:((⟨#[47]⟩:BA).toList==(⟨#[45]⟩:BA).toList)=false:=by kernel_rfl
  have c1:((47:Int)==43)=false:=by decide
  have c2:((47:Int)==45)=false:=by decide
  have c3:((47:Int)==42)=false:=by decide
  have c4:((47:Int)==47)=true:=by decide
  simp only [hb,e2,e3,gG,e1,rq,c1,c2,c3,c4];cases b==0
  ·simp only [hf _ (Bn ha)]
  rfl
 have e:=dj hb;subst e;have e1:byteAt (⟨#[37]⟩:BA) 0=37:=by kernel_rfl
 have e2:((⟨#[37]⟩:BA).toList==(⟨#[43]⟩:BA).toList)=false:=by kernel_rfl
 have e3:((⟨#[37]⟩:BA).toList==(⟨#[45]⟩:BA).toList)=false:=by kernel_rfl
 have e4:((⟨#[37]⟩:BA).toList==(⟨#[47]⟩:BA).toList)=false:=by kernel_rfl
 have c1:((37:Int)==43)=false:=by decide
 have c2:((37:Int)==45)=false:=by decide
 have c3:((37:Int)==42)=false:=by decide
 have c4:((37:Int)==47)=false:=by decide
 simp only [e2,e3,e4,gG,e1,rq,c1,c2,c3,c4];cases b==0
 ·simp only [hf _ (Bo ha)]
 rfl
theorem MG{op v:BA}{n:Int}{l:List Ex}(h1:(op.toList==(⟨#[110,117,109]⟩:BA).toList)=true)(g1:0<=n)(g2:n<=1099511627776):fg vs ar (.mk op n v l)=some n:=by
 unfold fg;simp only [h1];exact uI ⟨by omega,g2⟩
theorem MH{op v:BA}{n:Int}{l:List Ex}(h1:(op.toList==(⟨#[110,117,109]⟩:BA).toList)=false)(h2:(op.toList==(⟨#[118,97,114]⟩:BA).toList)=true):fg vs ar (.mk op n v l)=some (iM vs v):=by
 unfold fg;simp only [h1,h2]
theorem Qy{op v:BA}{n a:Int}{x:Ex}{m:Nat}(h1:(op.toList==(⟨#[110,117,109]⟩:BA).toList)=false)(h2:(op.toList==(⟨#[118,97,114]⟩:BA).toList)=false)(h3:(op.toList==(⟨#[97,116]⟩:BA).toList)=true)(hx:fg vs ar x=some a)(hm:(ef ar v).length=m):fg vs ar (.mk op n v [x])=(match decide (a<0)||decide (a≥(m:Int)) with
  |true=>none
  |false=>(ef ar v)[a.toNat]?):=by
 simp only [fg,h1,h2,h3,hx,hm];rfl
theorem MI{op v:BA}{n a:Int}{x:Ex}(h1:(op.toList==(⟨#[110,117,109]⟩:BA).toList)=false)(h2:(op.toList==(⟨#[118,97,114]⟩:BA).toList)=false)(h3:(op.toList==(⟨#[97,116]⟩:BA).toList)=false)(h4:(op.toList==(⟨#[110,101,103]⟩:BA).toList)=true)(hx:fg vs ar x=some a):fg vs ar (.mk op n v [x])=some (IntKind.i64.wrap (0 - a)):=by
 simp only [fg,h1,h2,h3,h4,hx]
theorem MJ{op v:BA}{n a b:Int}{x y:Ex}(h:(op.toList==(⟨#[42]⟩:BA).toList)=true)(hx:fg vs ar x=some a)(hy:fg vs ar y=some b)(ha:sml a)(hb:sml b):fg vs ar (.mk op n v [x,y])=iG a b:=by
 have e:=dj h;subst e;have e1:((⟨#[42]⟩:BA).toList==(⟨#[110,117,109]⟩:BA).toList)=false:=by kernel_rfl
 have e2:((⟨#[42]⟩:BA).toList==(⟨#[118,97,114]⟩:BA).toList)=false:=by kernel_rfl
 have e3:((⟨#[42]⟩:BA).toList==(⟨#[97,116]⟩:BA).toList)=false:=by kernel_rfl
 have e4:((⟨#[42]⟩:BA).toList==(⟨#[110,101,103]⟩:BA).toList)=false:=by kernel_rfl
 have e5:((⟨#[42]⟩:BA).toList==(⟨#[43]⟩:BA).toList)=false:=by kernel_rfl
 have e6:((⟨#[42]⟩:BA).toList==(⟨#[45]⟩:BA).toList)=false:=by kernel_rfl
 rw [<- Qw ha hb];simp only [fg,e1,e2,e3,e4,e5,e6,h,hx,hy];cases rW a b <;> rfl
theorem MK{op v:BA}{n a b:Int}{x y:Ex}(h0:fO op=true)(h:(op.toList==(⟨#[42]⟩:BA).toList)=false)(hx:fg vs ar x=some a)(hy:fg vs ar y=some b)(ha:sml a)(hb:sml b):fg vs ar (.mk op n v [x,y])=gG op a b:=by
 obtain ⟨b1,b2,b3,b4⟩:=Fl h0;rw [<- Qx h0 h ha hb];simp only [fg,b1,b2,b3,b4,h,hx,hy];cases op.toList==(⟨#[43]⟩:BA).toList <;> cases op.toList==(⟨#[45]⟩:BA).toList <;> rfl
end
theorem Dx(rs:List Int)(a:Int):numsD (rs++[a])=numsD rs++[[aD a]]:=by simp [numsD,aD]
structure KsOk (nm:List BA) (q0:Nat×Nat) (ay:List Ar) (ks:List (Nat×Nat)) (ar:List (BA×List Int)):Prop where
 v:q0.2=nm.length+1
 a:ks.map (·.2)=(plL ay ar).map List.length
theorem Ft{nm:List BA}{q0:Nat×Nat}{ay:List Ar}{ks:List (Nat×Nat)}{ar:List (BA×List Int)}(BI:KsOk nm q0 ay ks ar){v:BA}(hv:eC (arN ay) v=true):∃q,ks[Dr v (arN ay) 0]? = some q/\(ef ar v).length=q.2:=by
 have h1:=Bx ar hv;have h2:(ks.map (·.2))[Dr v (arN ay) 0]? = some (ef ar v).length:=by rw [BI.a,List.getElem?_map,h1];rfl
 rw [List.getElem?_map,Option.map_eq_some_iff] at h2;obtain ⟨q,h3,h4⟩:=h2;exact ⟨q,h3,h4.symm⟩
theorem yY{ks:List (Nat×Nat)}{j:Nat}{q:Nat×Nat}(h:ks[j]? = some q):(ni ks)[((j:Nat):Int).toNat]? = some [.s (kv q)]:=by
 rw [Int.toNat_natCast,ni,List.getElem?_map,h];rfl
def VH:Option Int->PV
 |some n=>.tup [.d (aD n),.d (.s (.bool true))]
 |none=>.tup [.any,.d (.s (.bool false))]
section
variable (G:Glob) (nm:List BA) (q0:Nat×Nat) (ay:List Ar) (ks:List (Nat×Nat)) (ps:List Pc)
def JG(m:Nat):Prop:=∀(vs:List (BA×Int)) (ar:List (BA×List Int)) (inp:List Int) (F st:Int) (kd:BA) (e:Ex),fuE e<=m->Dt nm (arN ay) e=true->VOk vs->AOk ar->KsOk nm q0 ay ks ar->Spec Tryz.prog G 180 [.box 0 0,.d (.agg e.cs)] [.box 238 [.d (.sl 1 (strs nm)),.d (.s (kv q0)),.d (.sl 2 (ey ay)),.d (.sl 1 (ni ks)),.d (.sl 7 (c_ ps)),.d (.sl 1 (numsD inp)),.d (aD F),.d (aD st),.d (aW kd)],.arrs false (q0::ks) (gF nm vs::plL ay ar)] (.ret (VH (fg vs ar e))) [.box 238 [.d (.sl 1 (strs nm)),.d (.s (kv q0)),.d (.sl 2 (ey ay)),.d (.sl 1 (ni ks)),.d (.sl 7 (c_ ps)),.d (.sl 1 (numsD inp)),.d (aD F),.d (aD st),.d (aW kd)],.arrs false (q0::ks) (gF nm vs::plL ay ar)]
def ML:Plan:=(.take 0 (.take 1 (.take 2 (.load 3 (.take 4 (.take 5 (.load 6 (.one 7 (.take 8 (.one 9 (.take 10 (.take 11 .done))))))))))))
def MM:Plan:=(.take 0 (.take 1 (.take 2 (.load 3 (.take 4 (.take 5 (.load 6 (.one 7 (.take 8 (.one 9 (.take 10 .done)))))))))))
def jA:Plan:=(.take 0 (.take 1 (.load 2 (.take 3 (.take 4 (.load 5 (.take 6 (.take 7 (.take 8 .done)))))))))
def MN:Plan:=(.take 0 (.take 1 (.load 2 (.take 3 (.take 4 (.load 5 (.take 6 (.load 7 (.take 8 (.one 9 (.take 10 (.take 11 (.take 12 (.take 13 (.take 14 .done)))))))))))))))
theorem JH(ga:nm.length<=12)(je:ay.length<=12)(m:Nat)(ih:JG G nm q0 ay ks ps m):JG G nm q0 ay ks ps (m+1):=by
 intro vs ar inp F st kd e hm K0 hV hA BI;obtain ⟨op,nn,v,l⟩:=e;simp only [Dt,bE] at K0;obtain ⟨lp,YU⟩:=K0;have du:l.length<=2:=by
  have h:=lp;unfold Lh at h
  repeat' split at h
  all_goals (simp only [bE,dE] at h;omega)
 obtain ⟨R,hG⟩:∃R,fg vs ar (.mk op nn v l)=R:=⟨_,rfl⟩;rw [hG];refine sA (N:=145) Tryz.func180 ?_;refine rz [0,3] ?_;refine rz [0,3,6] ?_;refine dV 6 3 1 rfl rfl rfl ?_;refine aq [0,3,6] rfl rfl ?_;refine aa (rz [0,3,6,7] ?_);refine af (aB (fun k Y=>∃(d1 e1:List Ex) (rs:List Int),k=e1.length/\l=d1++e1/\oO vs ar d1=some rs/\td nm (arN ay) e1=true/\Y=⟨[(0,.box 0 0),(3,.box 2 0),(6,.acc 3),(7,.d (aD d1.length))],[.box 238 [.d (.sl 1 (strs nm)),.d (.s (kv q0)),.d (.sl 2 (ey ay)),.d (.sl 1 (ni ks)),.d (.sl 7 (c_ ps)),.d (.sl 1 (numsD inp)),.d (aD F),.d (aD st),.d (aW kd)],.arrs false (q0::ks) (gF nm vs::plL ay ar),.box 143 [.d (aW op),.d (aD nn),.d (aW v),.d (.sl 4 (bR l))],.acc 3 1 (numsD rs)]⟩) (l.length) (⟨[],l,[],rfl,rfl,rfl,YU,rfl⟩) ?_);rintro k Y ⟨d1,e1,rs,rfl,bV,S7,w9,rfl⟩;have bu:(bR l).length=d1.length+e1.length:=by rw [b7,bV,lA]
 have cn:d1.length+e1.length<=2:=by rw [bV,lA] at du;exact du
 have YV:=Fp S7;refine aa (rz [0,3,6,7,20] ?_);refine cQ rfl (fun h1=>?_) fun h1=>?_
 ·have bO:=oT h1;rw [bu] at bO;cases e1 with
  |nil=>simp only [lN] at bO;omega
  |cons x cw=>
  obtain ⟨o1,n1,m1,l1⟩:=x;simp only [lC] at cn;simp only [td,bE] at w9;have Xo:=w9;have I8:fuE (.mk o1 n1 m1 l1)<=m:=by
   have:=s6 (l:=l) (x:=.mk o1 n1 m1 l1) (by rw [bV];simp);simp only [fuE] at hm this ⊢;omega
  refine ac (aa ?_);refine af (rS fun J O=>oN (eI _ (aI (iZ bV) ?_)));refine sH ?_;have bB:=ih vs ar inp F st kd (.mk o1 n1 m1 l1) I8 Xo.1 hV hA BI;cases aF:fg vs ar (.mk o1 n1 m1 l1) with
  |none=>
   rw [aF] at bB;refine aS [0,1] bB ?_;refine O _ (aM [0,3,6,7,8,9] ?_);clear O J;refine aa (rz [0,3,6,7,8,34] ?_);refine cQ rfl (fun h2=>?_) fun h2=>?_
   ·refine rz [4,5] ?_;refine ae ?_;rw [MF lp (by rw [bV];simp) aF] at hG;subst hG;exact lF [0,1] [.any,.d (.s (.bool _))] (h6:=PWs.cons (PW.any _) (PWs.cons (PW.refl _) PWs.nil))
   exact absurd h2 (by decide)
  |some a1=>
   rw [aF] at bB;refine aS [0,1] bB ?_;refine O _ (aM [0,3,6,7,8,9] ?_);clear O J;refine aa (rz [0,3,6,7,8,34] ?_);refine cQ rfl (fun h2=>?_) fun h2=>?_
   ·exact absurd h2 (by decide)
   refine ac (rG fun J O=>?_);refine aI (aI ((by simp only [cX,ai];omega)) ((by simp only [cX,ai,maxLen];omega))) ?_;refine O _ (aM [0,3,6,7] ?_);clear O J;refine rG fun J O=>O _ ?_;clear O J;exact ⟨_,nS _,_,aG (L:=[0,1,2,3]) (slots:=[0,3,6,7]) rfl rfl rfl rfl rfl,d1++[(.mk o1 n1 m1 l1)],cw,rs++[a1],rfl,by rw [bV];simp,BH S7 aF,Xo.2,by rw [lA,aH (by omega) (by omega),Dx];rfl⟩
 have bO:=oF h1;rw [bu] at bO;obtain rfl:e1=[]:=lE (by omega);rw [List.append_nil] at bV;subst bV;unfold Lh at lp;refine aA ?_;refine aq [0,3,6] rfl rfl ?_;refine aa (rz [0,3,6,40] ?_);refine af (rz [0,3,6,40,41] ?_);refine cQ rfl (fun h2=>?_) fun h2=>?_
 ·simp only [h2,bE,dE] at lp;rw [MG h2 lp.1.2 lp.2] at hG;refine rz [4,5] ?_;refine ae ?_;try simp only [bn,h1,h2,iG,iu,gG] at hG
  subst hG;first
   |exact lF [0,1] [.d (aD _),.d (.s (.bool _))] (h6:=PWs.cons (PW.refl _) (PWs.cons (PW.refl _) PWs.nil))
   |exact lF [0,1] [.any,.d (.s (.bool _))] (h6:=PWs.cons (PW.any _) (PWs.cons (PW.refl _) PWs.nil))
 simp only [h2] at lp;refine rz [0,3,6,40,45] ?_;refine cQ rfl (fun h3=>?_) fun h3=>?_
 ·simp only [h3,bE,dE] at lp;rw [MH h2 h3] at hG;obtain ⟨Gi,yf⟩:=Ds vs lp.2;have hq:=BI.v;refine aa ((dW ML [] (fun i=>Nat.beq i 0||Nat.beq i 2) (by kernel_rfl) fun J O=>?_));refine sH ?_;have a_:=yX G nm q0 ay ks ps inp F st kd v (by have:=ga;omega);rw [mp] at a_;refine jf 0 rfl a_ ?_;refine oN (oN ?_);refine aI rfl (eI 1 (eI false (eI _ (eI _ (eI 0 (eI q0.2 (eI _ (eI _ (aI rfl (aI rfl (aI (rfl) (aI (rfl) (aI (by rw [Int.toNat_natCast];exact Gi) ?_)))))))))))));refine O _ (aM [4,5] ?_);clear O J;refine ae ?_;try simp only [bn,h1,h2,h3,iG,iu,gG] at hG
  subst hG;first
   |exact lF [0,1] [.d (aD _),.d (.s (.bool _))] (h6:=PWs.cons (PW.refl _) (PWs.cons (PW.refl _) PWs.nil))
   |exact lF [0,1] [.any,.d (.s (.bool _))] (h6:=PWs.cons (PW.any _) (PWs.cons (PW.refl _) PWs.nil))
 simp only [h3] at lp;refine rz [0,3,6,40,57] ?_;refine cQ rfl (fun h4=>?_) fun h4=>?_
 ·simp only [h4,bE,dE] at lp;obtain ⟨x,a1,rfl,hx,rfl⟩:=Fq S7 lp.1;obtain ⟨q,MP,JI⟩:=Ft BI lp.2;have rZ:=Bx ar lp.2;rw [Qy h2 h3 h4 hx JI] at hG;have VI:=gN hV hA x a1 hx;refine aa ((dW MM [] (fun i=>Nat.beq i 0||Nat.beq i 2) (by kernel_rfl) fun J O=>?_));refine sH ?_;have a_:=kS G nm q0 ay ks ps inp F st kd v (by have:=je;omega);rw [mp] at a_;refine jf 0 rfl a_ ?_;refine oN (eI _ (aI (yY MP) ?_));refine O _ (aM [6,10] ?_);clear O J;refine aa (rS fun J O=>?_);refine aI (by decide) (eI _ (aI rfl ?_));refine ab (fun h5=>?_) (fun h5=>?_)
  ·refine O _ (aM [6,10,80] ?_);clear O J;refine aj rfl (rz [4,5] ?_);refine ae ?_;try simp only [bn,h5] at hG
   subst hG;first
    |exact lF [0,1] [.d (aD _),.d (.s (.bool _))] (h6:=PWs.cons (PW.refl _) (PWs.cons (PW.refl _) PWs.nil))
    |exact lF [0,1] [.any,.d (.s (.bool _))] (h6:=PWs.cons (PW.any _) (PWs.cons (PW.refl _) PWs.nil))
  have Lo:=oF h5;refine aI (by decide) (eI _ (aI rfl ?_));refine O _ (aM [6,10,80] ?_);clear O J;refine cQ rfl (fun h6=>?_) fun h6=>?_
  ·refine rz [4,5] ?_;refine ae ?_;try simp only [bn,h5,h6] at hG
   subst hG;first
    |exact lF [0,1] [.d (aD _),.d (.s (.bool _))] (h6:=PWs.cons (PW.refl _) (PWs.cons (PW.refl _) PWs.nil))
    |exact lF [0,1] [.any,.d (.s (.bool _))] (h6:=PWs.cons (PW.any _) (PWs.cons (PW.refl _) PWs.nil))
  have lr:=oF h6;refine ac (rS fun J O=>?_);refine aI (by decide) (eI _ (aI rfl ?_));refine oN (oN ?_);obtain ⟨w,hw⟩:∃w,(ef ar v)[a1.toNat]? = some w:=⟨_,List.getElem?_eq_getElem (by omega)⟩;refine aI rfl (eI 1 (eI false (eI _ (eI _ (eI (Dr v (arN ay) 0+1) (eI q.2 (eI _ (eI _ (aI rfl (aI rfl (aI (by rw [List.getElem?_cons_succ];exact MP) (aI (by rw [List.getElem?_cons_succ];exact rZ) (aI (hw) ?_)))))))))))));refine O _ (aM [4,5] ?_);clear O J;refine ae ?_;try simp only [bn,h5,h6,hw] at hG
  subst hG;first
   |exact lF [0,1] [.d (aD _),.d (.s (.bool _))] (h6:=PWs.cons (PW.refl _) (PWs.cons (PW.refl _) PWs.nil))
   |exact lF [0,1] [.any,.d (.s (.bool _))] (h6:=PWs.cons (PW.any _) (PWs.cons (PW.refl _) PWs.nil))
 simp only [h4] at lp;refine rz [3,6,40,87] ?_;refine cQ rfl (fun h5=>?_) fun h5=>?_
 ·simp only [h5,dE] at lp;obtain ⟨x,a1,rfl,hx,rfl⟩:=Fq S7 lp;rw [MI h2 h3 h4 h5 hx] at hG;refine rS fun J O=>?_;refine aI (by decide) (eI _ (aI rfl ?_));refine O _ (aM [4,5] ?_);clear O J;refine ae ?_
  try simp only [bn,h1,h2,h3,h4,h5,iG,iu,gG] at hG
  subst hG;first
   |exact lF [0,1] [.d (aD _),.d (.s (.bool _))] (h6:=PWs.cons (PW.refl _) (PWs.cons (PW.refl _) PWs.nil))
   |exact lF [0,1] [.any,.d (.s (.bool _))] (h6:=PWs.cons (PW.any _) (PWs.cons (PW.refl _) PWs.nil))
 simp only [h5,bE,dE] at lp;obtain ⟨x,y,a1,a2,rfl,hx,hy,rfl⟩:=ME S7 lp.1;have VI:=gN hV hA x a1 hx;have Xp:=gN hV hA y a2 hy;have hbp:=My lp.2;refine rz [3,6,93] ?_;refine cQ rfl (fun h6=>?_) fun h6=>?_
 ·rw [MJ h6 hx hy VI Xp] at hG;refine rS fun J O=>?_;refine aI (by decide) (eI _ (aI rfl ?_));refine O _ (aM [6,11] ?_);clear O J;refine rS fun J O=>?_;refine aI (by decide) (eI _ (aI rfl ?_));refine O _ (aM [6,11,12] ?_);clear O J;refine aa (rz [6,11,12,102] ?_);refine cQ rfl (fun h7=>?_) fun h7=>?_
  ·refine rG fun J O=>O _ (aM [6,11,12] ?_);clear O J;refine aa (rz [6,11,12,106] ?_)
   refine cQ rfl (fun h8=>?_) fun h8=>?_
   ·refine rG fun J O=>O _ (aM [6,11,12] ?_);clear O J;refine aa (rS fun J O=>?_)
    refine ab (fun h9=>?_) (fun h9=>?_)
    ·have sP:=oT h9;refine oN ?_;refine O _ (aM [6,116] ?_);clear O J;refine cQ rfl (fun dO=>?_) fun dO=>?_
     ·refine rz [4,5] ?_;refine ae ?_;try simp only [h7,h8,h9,dO,iG,iu] at hG
      subst hG;first
       |exact lF [0,1] [.d (aD _),.d (.s (.bool _))] (h6:=PWs.cons (PW.refl _) (PWs.cons (PW.refl _) PWs.nil))
       |exact lF [0,1] [.any,.d (.s (.bool _))] (h6:=PWs.cons (PW.any _) (PWs.cons (PW.refl _) PWs.nil))
     refine ac (aa ?_);refine (dW jA [] (fun _=>false) (by kernel_rfl) fun J O=>?_);refine aI (by decide) (eI _ (aI rfl ?_));refine aI (by decide) (eI _ (aI rfl ?_));refine O _ (aM [4,5] ?_);clear O J;refine ae ?_;try simp only [h7,h8,h9,dO,iG,iu] at hG
     subst hG;first
      |exact lF [0,1] [.d (aD _),.d (.s (.bool _))] (h6:=PWs.cons (PW.refl _) (PWs.cons (PW.refl _) PWs.nil))
      |exact lF [0,1] [.any,.d (.s (.bool _))] (h6:=PWs.cons (PW.any _) (PWs.cons (PW.refl _) PWs.nil))
    refine O _ (aM [6,116] ?_);clear O J;refine aj rfl (ac ?_);refine aa ((dW jA [] (fun _=>false) (by kernel_rfl) fun J O=>?_));refine aI (by decide) (eI _ (aI rfl ?_));refine aI (by decide) (eI _ (aI rfl ?_));refine O _ (aM [4,5] ?_);clear O J;refine ae ?_;try simp only [h7,h8,h9,iG,iu] at hG
    subst hG;first
     |exact lF [0,1] [.d (aD _),.d (.s (.bool _))] (h6:=PWs.cons (PW.refl _) (PWs.cons (PW.refl _) PWs.nil))
     |exact lF [0,1] [.any,.d (.s (.bool _))] (h6:=PWs.cons (PW.any _) (PWs.cons (PW.refl _) PWs.nil))
   refine ac (aa ?_);refine rS fun J O=>?_;refine ab (fun h9=>?_) (fun h9=>?_)
   ·have sP:=oT h9;refine oN ?_;refine O _ (aM [6,116] ?_);clear O J;refine cQ rfl (fun dO=>?_) fun dO=>?_
    ·refine rz [4,5] ?_;refine ae ?_;try simp only [h7,h8,h9,dO,iG,iu] at hG
     subst hG;first
      |exact lF [0,1] [.d (aD _),.d (.s (.bool _))] (h6:=PWs.cons (PW.refl _) (PWs.cons (PW.refl _) PWs.nil))
      |exact lF [0,1] [.any,.d (.s (.bool _))] (h6:=PWs.cons (PW.any _) (PWs.cons (PW.refl _) PWs.nil))
    refine ac (aa ?_);refine (dW jA [] (fun _=>false) (by kernel_rfl) fun J O=>?_);refine aI (by decide) (eI _ (aI rfl ?_));refine aI (by decide) (eI _ (aI rfl ?_));refine O _ (aM [4,5] ?_);clear O J;refine ae ?_;try simp only [h7,h8,h9,dO,iG,iu] at hG
    subst hG;first
     |exact lF [0,1] [.d (aD _),.d (.s (.bool _))] (h6:=PWs.cons (PW.refl _) (PWs.cons (PW.refl _) PWs.nil))
     |exact lF [0,1] [.any,.d (.s (.bool _))] (h6:=PWs.cons (PW.any _) (PWs.cons (PW.refl _) PWs.nil))
   refine O _ (aM [6,116] ?_);clear O J;refine aj rfl (ac ?_);refine aa ((dW jA [] (fun _=>false) (by kernel_rfl) fun J O=>?_));refine aI (by decide) (eI _ (aI rfl ?_));refine aI (by decide) (eI _ (aI rfl ?_));refine O _ (aM [4,5] ?_);clear O J;refine ae ?_;try simp only [h7,h8,h9,iG,iu] at hG
   subst hG;first
    |exact lF [0,1] [.d (aD _),.d (.s (.bool _))] (h6:=PWs.cons (PW.refl _) (PWs.cons (PW.refl _) PWs.nil))
    |exact lF [0,1] [.any,.d (.s (.bool _))] (h6:=PWs.cons (PW.any _) (PWs.cons (PW.refl _) PWs.nil))
  refine ac (aa ?_);refine rz [6,11,12,106] ?_;refine cQ rfl (fun h8=>?_) fun h8=>?_
  ·refine rG fun J O=>O _ (aM [6,11,12] ?_);clear O J;refine aa (rS fun J O=>?_)
   refine ab (fun h9=>?_) (fun h9=>?_)
   ·have sP:=oT h9;refine oN ?_;refine O _ (aM [6,116] ?_);clear O J;refine cQ rfl (fun dO=>?_) fun dO=>?_
    ·refine rz [4,5] ?_;refine ae ?_;try simp only [h7,h8,h9,dO,iG,iu] at hG
     subst hG;first
      |exact lF [0,1] [.d (aD _),.d (.s (.bool _))] (h6:=PWs.cons (PW.refl _) (PWs.cons (PW.refl _) PWs.nil))
      |exact lF [0,1] [.any,.d (.s (.bool _))] (h6:=PWs.cons (PW.any _) (PWs.cons (PW.refl _) PWs.nil))
    refine ac (aa ?_);refine (dW jA [] (fun _=>false) (by kernel_rfl) fun J O=>?_);refine aI (by decide) (eI _ (aI rfl ?_));refine aI (by decide) (eI _ (aI rfl ?_));refine O _ (aM [4,5] ?_);clear O J;refine ae ?_;try simp only [h7,h8,h9,dO,iG,iu] at hG
    subst hG;first
     |exact lF [0,1] [.d (aD _),.d (.s (.bool _))] (h6:=PWs.cons (PW.refl _) (PWs.cons (PW.refl _) PWs.nil))
     |exact lF [0,1] [.any,.d (.s (.bool _))] (h6:=PWs.cons (PW.any _) (PWs.cons (PW.refl _) PWs.nil))
   refine O _ (aM [6,116] ?_);clear O J;refine aj rfl (ac ?_);refine aa ((dW jA [] (fun _=>false) (by kernel_rfl) fun J O=>?_));refine aI (by decide) (eI _ (aI rfl ?_));refine aI (by decide) (eI _ (aI rfl ?_));refine O _ (aM [4,5] ?_);clear O J;refine ae ?_;try simp only [h7,h8,h9,iG,iu] at hG
   subst hG;first
    |exact lF [0,1] [.d (aD _),.d (.s (.bool _))] (h6:=PWs.cons (PW.refl _) (PWs.cons (PW.refl _) PWs.nil))
    |exact lF [0,1] [.any,.d (.s (.bool _))] (h6:=PWs.cons (PW.any _) (PWs.cons (PW.refl _) PWs.nil))
  refine ac (aa ?_);refine rS fun J O=>?_;refine ab (fun h9=>?_) (fun h9=>?_)
  ·have sP:=oT h9;refine oN ?_;refine O _ (aM [6,116] ?_);clear O J;refine cQ rfl (fun dO=>?_) fun dO=>?_
   ·refine rz [4,5] ?_;refine ae ?_;try simp only [h7,h8,h9,dO,iG,iu] at hG
    subst hG;first
     |exact lF [0,1] [.d (aD _),.d (.s (.bool _))] (h6:=PWs.cons (PW.refl _) (PWs.cons (PW.refl _) PWs.nil))
     |exact lF [0,1] [.any,.d (.s (.bool _))] (h6:=PWs.cons (PW.any _) (PWs.cons (PW.refl _) PWs.nil))
   refine ac (aa ?_);refine (dW jA [] (fun _=>false) (by kernel_rfl) fun J O=>?_);refine aI (by decide) (eI _ (aI rfl ?_));refine aI (by decide) (eI _ (aI rfl ?_));refine O _ (aM [4,5] ?_);clear O J;refine ae ?_;try simp only [h7,h8,h9,dO,iG,iu] at hG
   subst hG;first
    |exact lF [0,1] [.d (aD _),.d (.s (.bool _))] (h6:=PWs.cons (PW.refl _) (PWs.cons (PW.refl _) PWs.nil))
    |exact lF [0,1] [.any,.d (.s (.bool _))] (h6:=PWs.cons (PW.any _) (PWs.cons (PW.refl _) PWs.nil))
  refine O _ (aM [6,116] ?_);clear O J;refine aj rfl (ac ?_);refine aa ((dW jA [] (fun _=>false) (by kernel_rfl) fun J O=>?_));refine aI (by decide) (eI _ (aI rfl ?_));refine aI (by decide) (eI _ (aI rfl ?_));refine O _ (aM [4,5] ?_);clear O J;refine ae ?_;try simp only [h7,h8,h9,iG,iu] at hG
  subst hG;first
   |exact lF [0,1] [.d (aD _),.d (.s (.bool _))] (h6:=PWs.cons (PW.refl _) (PWs.cons (PW.refl _) PWs.nil))
   |exact lF [0,1] [.any,.d (.s (.bool _))] (h6:=PWs.cons (PW.any _) (PWs.cons (PW.refl _) PWs.nil))
 rw [MK lp.2 h6 hx hy VI Xp] at hG;refine ac (aa ?_);refine (dW MN [9] (fun i=>Nat.beq i 2) (by kernel_rfl) fun J O=>?_);refine aI (by decide) (eI _ (aI rfl ?_));refine aI (by decide) (eI _ (aI rfl ?_));refine oN (oN ?_);refine aS [] (BF G a1 a2 (byteAt op 0)) ?_;refine O _ (aM [13,14] ?_);clear O J;refine rS fun J O=>sH ?_;have cz:=Ol G (rq a1 a2 (byteAt op 0)).1
 cases hf:fP (rq a1 a2 (byteAt op 0)).1 with
 |true=>
  rw [hf] at cz;refine aS [] cz ?_;refine O _ (aM [13,14,15] ?_);clear O J;refine rS fun J O=>?_;refine ab (fun h7=>?_) (fun h7=>?_)
  ·refine O _ (aM [4,5] ?_);clear O J;refine ae ?_;try simp only [hf,h7,gG] at hG
   subst hG;first
    |exact lF [0,1] [.d (aD _),.d (.s (.bool _))] (h6:=PWs.cons (PW.refl _) (PWs.cons (PW.refl _) PWs.nil))
    |exact lF [0,1] [.any,.d (.s (.bool _))] (h6:=PWs.cons (PW.any _) (PWs.cons (PW.refl _) PWs.nil))
  refine O _ (aM [4,5] ?_);clear O J;refine ae ?_;try simp only [h7,gG] at hG
  subst hG;first
   |exact lF [0,1] [.d (aD _),.d (.s (.bool _))] (h6:=PWs.cons (PW.refl _) (PWs.cons (PW.refl _) PWs.nil))
   |exact lF [0,1] [.any,.d (.s (.bool _))] (h6:=PWs.cons (PW.any _) (PWs.cons (PW.refl _) PWs.nil))
 |false=>
  rw [hf] at cz;refine aS [] cz ?_;refine O _ (aM [13,14,15] ?_);clear O J;refine rS fun J O=>?_;refine ab (fun h7=>?_) (fun h7=>?_)
  ·refine O _ (aM [4,5] ?_);clear O J;refine ae ?_;try simp only [hf,h7,gG] at hG
   subst hG;first
    |exact lF [0,1] [.d (aD _),.d (.s (.bool _))] (h6:=PWs.cons (PW.refl _) (PWs.cons (PW.refl _) PWs.nil))
    |exact lF [0,1] [.any,.d (.s (.bool _))] (h6:=PWs.cons (PW.any _) (PWs.cons (PW.refl _) PWs.nil))
  refine O _ (aM [4,5] ?_);clear O J;refine ae ?_;try simp only [h7,gG] at hG
  subst hG;first
   |exact lF [0,1] [.d (aD _),.d (.s (.bool _))] (h6:=PWs.cons (PW.refl _) (PWs.cons (PW.refl _) PWs.nil))
   |exact lF [0,1] [.any,.d (.s (.bool _))] (h6:=PWs.cons (PW.any _) (PWs.cons (PW.refl _) PWs.nil))
theorem nj(ga:nm.length<=12)(je:ay.length<=12):∀m:Nat,JG G nm q0 ay ks ps m
 |0=>fun vs ar inp F st kd e hm=>by
  obtain ⟨op,n,v,l⟩:=e;simp only [fuE] at hm;omega
 |m+1=>JH G nm q0 ay ks ps ga je m (nj ga je m)
end
end
section
def Li(al:Bool)(r:Option Bool):Option Bool:=match al with
 |true=>r
 |false=>some false
def Dy(x y:Option Int)(dZ:BA)(r:Option Bool):Option Bool:=match x with
 |none=>none
 |some a=>match y with
  |none=>none
  |some b=>Li (jM a dZ b) r
theorem Dz(vs:List (BA×Int))(ar:List (BA×List Int))(t:Ts)(c:List Ts):jN vs ar (t::c)=Dy (fg vs ar t.a) (fg vs ar t.b) t.rel (jN vs ar c):=by
 simp only [jN,Dy,Li];rfl
def VJ:Option Bool->PV
 |some b=>.tup [.d (.s (.bool b)),.d (.s (.bool true))]
 |none=>.tup [.d (.s (.bool false)),.d (.s (.bool false))]
section
variable (G:Glob) (nm:List BA) (q0:Nat×Nat) (ay:List Ar) (ks:List (Nat×Nat)) (ps:List Pc) (ga:nm.length<=12) (je:ay.length<=12)
include ga je
theorem BJ(vs:List (BA×Int))(ar:List (BA×List Int))(inp:List Int)(F st:Int)(kd:BA)(c:List (List Ts))(K0:GM nm (arN ay) c=true)(hw:iD c<=1000000000)(hV:VOk vs)(hA:AOk ar)(BI:KsOk nm q0 ay ks ar):Spec Tryz.prog G 190 [.box 0 0,.d (.sl 1 (eG c))] [.box 238 [.d (.sl 1 (strs nm)),.d (.s (kv q0)),.d (.sl 2 (ey ay)),.d (.sl 1 (ni ks)),.d (.sl 7 (c_ ps)),.d (.sl 1 (numsD inp)),.d (aD F),.d (aD st),.d (aW kd)],.arrs false (q0::ks) (gF nm vs::plL ay ar)] (.ret (VJ (dz vs ar c))) [.box 238 [.d (.sl 1 (strs nm)),.d (.s (kv q0)),.d (.sl 2 (ey ay)),.d (.sl 1 (ni ks)),.d (.sl 7 (c_ ps)),.d (.sl 1 (numsD inp)),.d (aD F),.d (aD st),.d (aW kd)],.arrs false (q0::ks) (gF nm vs::plL ay ar)]:=by
 have hn:c.length<=1073741824:=by have:=ky c;omega
 obtain ⟨R,hG⟩:∃R,dz vs ar c=R:=⟨_,rfl⟩;rw [hG];refine sA (N:=72) Tryz.func190 ?_;refine rz [0,1] ?_;refine aa (rz [0,1,6] ?_);refine af (aB (fun k Y=>∃(d1 e1:List (List Ts)) ,k=e1.length/\c=d1++e1/\dz vs ar e1=R/\GM nm (arN ay) e1=true/\iD e1<=1000000000/\Y=⟨[(0,.box 0 0),(1,.d (.sl 1 (eG c))),(6,.d (aD d1.length))],[.box 238 [.d (.sl 1 (strs nm)),.d (.s (kv q0)),.d (.sl 2 (ey ay)),.d (.sl 1 (ni ks)),.d (.sl 7 (c_ ps)),.d (.sl 1 (numsD inp)),.d (aD F),.d (aD st),.d (aW kd)],.arrs false (q0::ks) (gF nm vs::plL ay ar)]⟩) (c.length) (⟨[],c,rfl,rfl,hG,K0,hw,rfl⟩) ?_);clear hG;rintro k Y ⟨d1,e1,rfl,bV,hG,gK,uw,rfl⟩;have bu:(eG c).length=d1.length+e1.length:=by rw [Ob,bV,lA]
 have cn:d1.length+e1.length<=1073741824:=by rw [bV,lA] at hn;exact hn
 refine aa (rz [0,1,6,15] ?_);refine cQ rfl (fun h1=>?_) fun h1=>?_
 ·have bO:=oT h1;rw [bu] at bO;cases e1 with
  |nil=>simp only [lN] at bO;omega
  |cons x cw=>
  subst bV;simp only [lC] at cn;simp only [uv] at hG;simp only [GM,bE] at gK;simp only [iD] at uw;have yu:=kx x;refine ac (aa ?_);refine af (rz [0,1,6,7] ?_);refine aa (rz [0,1,6,7,8] ?_);refine af ?_;have jK:x.length<=1073741824:=by omega
  refine aB (fun k Y=>∃(d2 e2:List Ts) (al:Bool),k=e2.length/\x=d2++e2/\oJ (Li al (jN vs ar e2)) (dz vs ar cw)=R/\RR nm (arN ay) e2=true/\Y=⟨[(0,.box 0 0),(1,.d (.sl 1 (eG (d1++x::cw)))),(6,.d (aD d1.length)),(7,.d (.s (.bool al))),(8,.d (aD d2.length))],[.box 238 [.d (.sl 1 (strs nm)),.d (.s (kv q0)),.d (.sl 2 (ey ay)),.d (.sl 1 (ni ks)),.d (.sl 7 (c_ ps)),.d (.sl 1 (numsD inp)),.d (aD F),.d (aD st),.d (aW kd)],.arrs false (q0::ks) (gF nm vs::plL ay ar)]⟩) (x.length) (⟨[],x,true,rfl,rfl,hG,gK.1,rfl⟩) ?_;clear hG;rintro k Y ⟨d2,e2,al,rfl,du,hG,aJ,rfl⟩;have dI:(kr x).length=d2.length+e2.length:=by rw [Oc,du,lA]
  have fK:d2.length+e2.length<=1073741824:=by rw [du,lA] at jK;exact jK
  refine aa (rS fun J O=>oN (eI _ (aI (eh rfl) ?_)));refine ab (fun h2=>?_) (fun h2=>?_)
  ·have fe:=oT h2;rw [dI] at fe;refine O _ (aM [0,1,6,7,8,27] ?_);clear O J;refine cQ rfl (fun h3=>?_) fun h3=>?_
   ·cases e2 with
    |nil=>simp only [lN] at fe;omega
    |cons y ke=>
    obtain ⟨⟨o1,n1,m1,l1⟩,dZ,⟨o2,n2,m2,l2⟩⟩:=y;simp only [lC] at fK;simp only [RR,bE] at aJ;obtain ⟨MQ,bh⟩:=aJ;simp only [VF,bE] at MQ;rw [Dz,h3] at hG;simp only [Li] at hG;refine ac (aa ?_);refine af (rS fun J O=>oN (eI _ (aI (eh rfl) ?_)));refine oN (eI _ (aI (eL du) ?_));refine sH ?_;have bB:=nj G nm q0 ay ks ps ga je _ vs ar inp F st kd (.mk o1 n1 m1 l1) (nR _) MQ.1.1 hV hA BI;cases aF:fg vs ar (.mk o1 n1 m1 l1) with
    |none=>
     rw [aF] at bB;refine aS [0,1] bB ?_;refine O _ (aM [0,1,6,8,9,10] ?_);clear O J;refine aa (rz [0,1,6,8,9,44] ?_);refine cQ rfl (fun h4=>?_) fun h4=>?_
     ·refine rz [4,5] ?_;refine ae ?_;try simp only [aF,oJ,Dy] at hG
      subst hG;exact lF [0,1] [.d (.s (.bool _)),.d (.s (.bool _))]
     exact absurd h4 (by decide)
    |some a1=>
     rw [aF] at bB;refine aS [0,1] bB ?_;refine O _ (aM [0,1,6,8,9,10] ?_);clear O J;refine aa (rz [0,1,6,8,9,44] ?_);refine cQ rfl (fun h4=>?_) fun h4=>?_
     ·exact absurd h4 (by decide)
     refine ac (rS fun J O=>oN (eI _ (aI (eh rfl) ?_)));refine oN (eI _ (aI (eL du) ?_));refine sH ?_;have a_:=nj G nm q0 ay ks ps ga je _ vs ar inp F st kd (.mk o2 n2 m2 l2) (nR _) MQ.1.2 hV hA BI;cases aJ:fg vs ar (.mk o2 n2 m2 l2) with
     |none=>
      rw [aJ] at a_;refine aS [0,1] a_ ?_;refine O _ (aM [0,1,6,8,9,10,11] ?_);clear O J;refine aa (rz [0,1,6,8,9,11,59] ?_);refine cQ rfl (fun h5=>?_) fun h5=>?_
      ·refine rz [4,5] ?_;refine ae ?_;try simp only [aF,aJ,oJ,Dy] at hG
       subst hG;exact lF [0,1] [.d (.s (.bool _)),.d (.s (.bool _))]
      exact absurd h5 (by decide)
     |some a2=>
      rw [aJ] at a_;refine aS [0,1] a_ ?_;refine O _ (aM [0,1,6,8,9,10,11] ?_);clear O J;refine aa (rz [0,1,6,8,9,11,59] ?_);refine cQ rfl (fun h5=>?_) fun h5=>?_
      ·exact absurd h5 (by decide)
      refine ac (rG fun J O=>oN (eI _ (aI (eh rfl) ?_)));refine oN (eI _ (aI (eL du) ?_));refine aS [] (BG G a1 dZ a2) ?_;refine O _ (aM [0,1,6,7,8] ?_);clear O J;refine rG fun J O=>O _ ?_;clear O J
      try simp only [aF,aJ,Dy] at hG
      rw [GU MQ.2];exact ⟨_,nS _,_,aG (L:=[0,1]) (slots:=[0,1,6,7,8]) rfl rfl rfl rfl rfl,d2++[⟨.mk o1 n1 m1 l1,dZ,.mk o2 n2 m2 l2⟩],ke,_,rfl,by rw [du];simp,hG,bh,by rw [lA,aH (by omega) (by omega)];rfl⟩
   refine aA ?_;refine aq [0,1,6,7] rfl rfl ?_;refine rz [0,1,6,71] ?_;refine cQ rfl (fun h4=>?_) fun h4=>?_
   ·rw [h3] at h4;cases h4
   refine ac (rG fun J O=>O _ ?_);clear O J;try simp only [h3,Li,oJ] at hG
   exact ⟨_,nS _,_,aG (L:=[0,1]) (slots:=[0,1,6]) rfl rfl rfl rfl rfl,d1++[x],cw,rfl,by simp,hG,gK.2,by omega,by rw [lA,aH (by omega) (by omega)];rfl⟩
  have fe:=oF h2;rw [dI] at fe;obtain rfl:e2=[]:=lE (by omega);simp only [jN] at hG;refine O _ (aM [0,1,6,7,8,27] ?_);clear O J;refine aj rfl (aA ?_);refine aq [0,1,6,7] rfl rfl ?_;refine rz [0,1,6,71] ?_;refine cQ rfl (fun h3=>?_) fun h3=>?_
  ·refine rz [4,5] ?_;refine ae ?_;try simp only [h3,oJ,Li] at hG
   subst hG;exact lF [0,1] [.d (.s (.bool _)),.d (.s (.bool _))]
  refine ac (rG fun J O=>O _ ?_);clear O J;try simp only [h3,Li,oJ] at hG
  exact ⟨_,nS _,_,aG (L:=[0,1]) (slots:=[0,1,6]) rfl rfl rfl rfl rfl,d1++[x],cw,rfl,by simp,hG,gK.2,by omega,by rw [lA,aH (by omega) (by omega)];rfl⟩
 have bO:=oF h1;rw [bu] at bO;obtain rfl:e1=[]:=lE (by omega);simp only [dz] at hG;refine aA ?_;refine aq [] rfl rfl ?_;refine rz [4,5] ?_;refine ae ?_;try simp only [bn,h1,oJ,Dy,Li,jN,dz] at hG
 subst hG;exact lF [0,1] [.d (.s (.bool _)),.d (.s (.bool _))]
def Lj(kd:BA):Option Bool->BA
 |none=>gq
 |some _=>kd
def vS:Option Bool->Bool
 |some true=>true
 |_=>false
theorem mq(vs:List (BA×Int))(ar:List (BA×List Int))(inp:List Int)(F st:Int)(kd:BA)(c:List (List Ts))(K0:GM nm (arN ay) c=true)(hw:iD c<=1000000000)(hV:VOk vs)(hA:AOk ar)(BI:KsOk nm q0 ay ks ar):Spec Tryz.prog G 183 [.box 0 0,.d (.sl 1 (eG c))] [.box 238 [.d (.sl 1 (strs nm)),.d (.s (kv q0)),.d (.sl 2 (ey ay)),.d (.sl 1 (ni ks)),.d (.sl 7 (c_ ps)),.d (.sl 1 (numsD inp)),.d (aD F),.d (aD st),.d (aW kd)],.arrs false (q0::ks) (gF nm vs::plL ay ar)] (.ret (.d (.s (.bool (vS (dz vs ar c)))))) [.box 238 [.d (.sl 1 (strs nm)),.d (.s (kv q0)),.d (.sl 2 (ey ay)),.d (.sl 1 (ni ks)),.d (.sl 7 (c_ ps)),.d (.sl 1 (numsD inp)),.d (aD F),.d (aD st),.d (aW (Lj kd (dz vs ar c)))],.arrs false (q0::ks) (gF nm vs::plL ay ar)]:=by
 obtain ⟨R,hR⟩:∃R,dz vs ar c=R:=⟨_,rfl⟩;rw [hR];refine sA (N:=22) Tryz.func183 ?_;refine rz [0,1] ?_;refine rS fun J O=>sH ?_;have bB:=BJ G nm q0 ay ks ps ga je vs ar inp F st kd c K0 hw hV hA BI
 cases aF:dz vs ar c with
 |none=>
  rw [aF] at bB;refine aS [0,1] bB ?_;refine O _ (aM [0,5,6] ?_);clear O J;refine aa (rz [0,5,6,14] ?_);refine aj rfl (rG fun J O=>O _ (aM [5,6] ?_));clear O J;refine rz [4] ?_;refine ae ?_;rw [aF] at hR;subst hR;exact lF [0,1] [.d (.s (.bool _))]
 |some b=>
  cases b with
  |true=>
   rw [aF] at bB;refine aS [0,1] bB ?_;refine O _ (aM [0,5,6] ?_);clear O J;refine aa (rz [0,5,6,14] ?_);refine aj rfl (ac ?_);refine rz [4] ?_;refine ae ?_;rw [aF] at hR;subst hR;exact lF [0,1] [.d (.s (.bool _))]
  |false=>
   rw [aF] at bB;refine aS [0,1] bB ?_;refine O _ (aM [0,5,6] ?_);clear O J;refine aa (rz [0,5,6,14] ?_);refine aj rfl (ac ?_);refine rz [4] ?_;refine ae ?_;rw [aF] at hR;subst hR;exact lF [0,1] [.d (.s (.bool _))]
def DA(vs:List (BA×Int))(v:BA):Option Int->List (BA×Int)
 |none=>vs
 |some n=>ff vs v n
def Qz(kd:BA):Option Int->BA
 |none=>gq
 |some _=>kd
def QB:Plan:=(.take 0 (.take 1 (.take 2 (.load 3 (.take 4 (.take 5 (.take 7 (.one 6 (.take 8 (.one 9 .done))))))))))
theorem uJ(vs:List (BA×Int))(ar:List (BA×List Int))(inp:List Int)(F st:Int)(kd:BA)(v:BA)(e:Ex)(uo:nm.Nodup)(hv:eC nm v=true)(K0:Dt nm (arN ay) e=true)(hV:VOk vs)(hA:AOk ar)(BI:KsOk nm q0 ay ks ar):Spec Tryz.prog G 179 [.box 0 0,.d (aW v),.d (.agg e.cs)] [.box 238 [.d (.sl 1 (strs nm)),.d (.s (kv q0)),.d (.sl 2 (ey ay)),.d (.sl 1 (ni ks)),.d (.sl 7 (c_ ps)),.d (.sl 1 (numsD inp)),.d (aD F),.d (aD st),.d (aW kd)],.arrs false (q0::ks) (gF nm vs::plL ay ar)] (.ret (.tup [])) [.box 238 [.d (.sl 1 (strs nm)),.d (.s (kv q0)),.d (.sl 2 (ey ay)),.d (.sl 1 (ni ks)),.d (.sl 7 (c_ ps)),.d (.sl 1 (numsD inp)),.d (aD F),.d (aD st),.d (aW (Qz kd (fg vs ar e)))],.arrs false (q0::ks) (gF nm (DA vs v (fg vs ar e))::plL ay ar)]:=by
 obtain ⟨op,nn,ev,l⟩:=e;obtain ⟨Gi,yf⟩:=Ds vs hv;have hq:=BI.v;obtain ⟨R,hR⟩:∃R,fg vs ar (.mk op nn ev l)=R:=⟨_,rfl⟩;rw [hR];refine sA (N:=28) Tryz.func179 ?_;refine rz [0,1,5] ?_;refine rS fun J O=>sH ?_;have bB:=nj G nm q0 ay ks ps ga je _ vs ar inp F st kd (.mk op nn ev l) (nR _) K0 hV hA BI
 cases aF:fg vs ar (.mk op nn ev l) with
 |none=>
  rw [aF] at bB;refine aS [0,1] bB ?_;refine O _ (aM [0,1,6,7] ?_);clear O J;refine aa (rz [0,1,6,15] ?_);refine aj rfl (rz [] ?_);refine ae ?_;rw [aF] at hR;subst hR;exact lF [0,1] [] (h6:=PWs.nil)
 |some a1=>
  rw [aF] at bB;refine aS [0,1] bB ?_;refine O _ (aM [0,1,6,7] ?_);clear O J;refine aa (rz [0,1,6,15] ?_);refine aj rfl (ac ?_);refine (dW QB [9] (fun i=>Nat.beq i 0) (by kernel_rfl) fun J O=>?_);refine sH ?_;have a_:=yX G nm q0 ay ks ps inp F st kd v (by omega);rw [mp] at a_;refine jf 0 rfl a_ ?_;refine oN (oN ?_);refine eI 1 (eI _ (eI _ (eI 0 (eI q0.2 (eI _ (aI rfl (aI (rfl) (aI (rfl) (aI (by rw [Int.toNat_natCast,tc];omega) ?_)))))))));refine O _ ?_;clear O J;rw [Int.toNat_natCast,List.set_cons_zero,Fk vs a1 uo hv];rw [aF] at hR;subst hR;exact lF [0,1] [] (h6:=PWs.nil)
end
end
end Go.Abs
end
