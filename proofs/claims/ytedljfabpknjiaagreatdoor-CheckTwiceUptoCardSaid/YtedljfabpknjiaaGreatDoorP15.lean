/- Texts of this proof, joined: AbsJE, AbsMY, AbsJF, AbsUA, AbsMZ, AbsUB, AbsUC. -/
import Derived.Test.YtedljfabpknjiaaGreatDoorP14
import Derived.Test.YtedljfabpknjiaaGreatDoorP7
import Derived.Scope
section
namespace Go.Abs
open Go Go.Proofs
@[reducible] def isC (k:ByteArray):Bool:=k.toList==(⟨#[99,97,108,108]⟩:ByteArray).toList
inductive Inl (ps:List Pc):List Sm→List Sm→Prop
 |nil:Inl ps [] []
 |one {kind name proc:ByteArray}{args:List Ex}{cond:List (List Ts)}{body els r b e r':List Sm}:isC kind=false→Inl ps body b→Inl ps els e→Inl ps r r'→Inl ps (.mk kind name proc args cond body els::r) (.mk kind name proc args cond b e::r')
 |call {kind name proc:ByteArray}{args:List Ex}{cond:List (List Ts)}{body els r b r':List Sm}{f:Pc}:isC kind=true→findP ps proc=some f→Inl ps f.body b→Inl ps r r'→Inl ps (.mk kind name proc args cond body els::r) ((setsF f.params args++b)++(setS name f.ret::r'))
theorem flat_sets:∀(p:List ByteArray) (l:List Ex),flatB (setsF p l)=setsF p l
 |[],_=>by simp [setsF,flatB]
 |v::p,[]=>by simp [setsF,flatB]
 |v::p,e::l=>by simp only [setsF,flatB,setS,flatS,flat_sets p l,List.append_nil,List.cons_append,List.nil_append]
theorem lay_inl(ps:List Pc):∀(n:Nat) (l out:List Sm) (m:Nat) (R:List Sm) (M:Nat),layF ps n l out m=some (R,M)→M≤400→∃r,Inl ps l r∧R=out++r∧m+(flatB r).length≤M
 |0,_,_,_,_,_,h,_=>by cases h
 |n+1,[],out,m,R,M,h,_=>by
  simp only [layF,Option.some.injEq,Prod.mk.injEq] at h;obtain ⟨rfl,rfl⟩:=h;exact ⟨[],.nil,by simp,by simp [flatB]⟩
 |n+1,.mk kind name proc args cond body els::r,out,m,R,M,h,hM=>by
  have hmm:=lay_mono ps _ _ _ _ _ _ h;simp only [layF] at h;split at h
  ·rename_i h1
   have:=of_decide_eq_true h1;omega
  split at h
  ·rename_i hk
   split at h
   ·cases h
   rename_i b hb;split at h
   ·cases h
   rename_i e he;obtain ⟨b,m1⟩:=b;obtain ⟨e,m2⟩:=e;have g2:=lay_mono ps n _ _ _ _ _ he;have g3:=lay_mono ps n _ _ _ _ _ h;simp only at g2 g3;obtain ⟨rb,i1,rfl,c1⟩:=lay_inl ps n _ _ _ _ _ hb (by omega);obtain ⟨re,i2,rfl,c2⟩:=lay_inl ps n _ _ _ _ _ he (by omega);obtain ⟨rr,i3,rfl,c3⟩:=lay_inl ps n _ _ _ _ _ h hM;refine ⟨_,.one hk i1 i2 i3,by simp,?_⟩;simp only [flatB,flatS,List.length_append,List.length_cons] at c1 c2 c3 ⊢;omega
  rename_i hk;split at h
  ·cases h
  rename_i f hf;split at h
  ·cases h
  rename_i b hb;obtain ⟨b,m1⟩:=b;have g3:=lay_mono ps n _ _ _ _ _ h;simp only at g3;obtain ⟨rb,i1,rfl,c1⟩:=lay_inl ps n _ _ _ _ _ hb (by omega);obtain ⟨rr,i3,rfl,c3⟩:=lay_inl ps n _ _ _ _ _ h hM;refine ⟨_,.call hk hf i1 i3,by simp,?_⟩;have:=sets_le f.params args;simp only [flatB_app,flat_sets,flatB,flatS,setS,List.length_append,List.length_cons,List.length_nil] at c1 c3 ⊢;omega
theorem lay_more(ps:List Pc):∀(n:Nat) (l out:List Sm) (m:Nat) (z:List Sm×Nat),layF ps n l out m=some z→layF ps (n+1) l out m=some z
 |0,_,_,_,_,h=>by cases h
 |n+1,[],out,m,z,h=>by simpa only [layF] using h
 |n+1,.mk kind name proc args cond body els::r,out,m,z,h=>by
  simp only [layF] at h ⊢;split at h
  ·rename_i h1;simpa only [h1] using h
  rename_i h1
  try simp only [h1]
  split at h
  ·rename_i hk
   try simp only [hk]
   split at h
   ·cases h
   rename_i b hb;split at h
   ·cases h
   rename_i e he;simp only [lay_more ps n _ _ _ _ hb,lay_more ps n _ _ _ _ he,lay_more ps n _ _ _ _ h]
  rename_i hk
  try simp only [hk]
  split at h
  ·cases h
  rename_i f hf;split at h
  ·cases h
  rename_i b hb;simp only [lay_more ps n _ _ _ _ hb,lay_more ps n _ _ _ _ h]
theorem lay_le{ps:List Pc}{n k:Nat}{l out:List Sm}{m:Nat}{z:List Sm×Nat}(h:layF ps n l out m=some z)(hk:n≤k):layF ps k l out m=some z:=by
 induction hk with
 |refl=>exact h
 |step _ ih=>exact lay_more ps _ _ _ _ _ ih
def fndS(ps:List Pc):Sm→Prop
 |.mk kind _ proc _ _ _ _=>isC kind=true→∃f,findP ps proc=some f
/-- Calls can be laid out where each finds a procedure before its own. -/
theorem lay_ex(ps:List Pc)(P:Nat)(hp:∀f,f∈ps→f.params.length≤P)(hb:∀j f,ps[j]? = some f→∀x,x∈flatB f.body→fndS (ps.take j) x)(i:Nat):
  ∀(w:Nat) (l:List Sm),fuB l≤w→(∀x,x∈flatB l→fndS (ps.take i) x)→∀out m,∃n R M,layF ps n l out m=some (R,M)∧(M≤m∨M≤401+P+i):=by
 induction i using Nat.strongRecOn with
 |_ i ihi=>
 intro w
 induction w with
 |zero=>intro l h;have:=fuB_ge l;omega
 |succ w ih=>
  intro l hw hl out m
  cases l with
  |nil=>exact ⟨1,out,m,rfl,.inl (Nat.le_refl _)⟩
  |cons s r=>
   obtain ⟨kind,name,proc,args,cond,body,els⟩:=s;simp only [fuB,fuS] at hw;have hfb:=fuB_ge body;have hfe:=fuB_ge els;have hfr:=fuB_ge r;simp only [flatB,flatS,List.cons_append,List.mem_cons,List.mem_append] at hl
   cases h1:decide ((m:Int)>400) with
   |true=>exact ⟨1,[],m,by simp only [layF,h1],.inl (Nat.le_refl _)⟩
   |false=>
    have h1':=of_decide_eq_false h1
    cases hk:isC kind with
    |false=>
     obtain ⟨n1,b,m1,e1,c1⟩:=ih body (by omega) (fun x hx=>hl x (.inr (.inl (.inl hx)))) [] (m+1);obtain ⟨n2,e,m2,e2,c2⟩:=ih els (by omega) (fun x hx=>hl x (.inr (.inl (.inr hx)))) [] m1;obtain ⟨n3,R,M,e3,c3⟩:=ih r (by omega) (fun x hx=>hl x (.inr (.inr hx))) (out++[.mk kind name proc args cond b e]) m2;refine ⟨n1+n2+n3+1,R,M,?_,by omega⟩;simp only [layF,h1,hk,lay_le e1 (show n1≤n1+n2+n3 by omega),lay_le e2 (show n2≤n1+n2+n3 by omega),lay_le e3 (show n3≤n1+n2+n3 by omega)]
    |true=>
     obtain ⟨f,hf⟩:=hl _ (.inl rfl) hk;have hf2:=find_take hf;obtain ⟨d,e,hd,_⟩:=find_procJ 0 hf;have hlen:=congrArg List.length hd;simp only [List.length_append,List.length_cons,List.length_take] at hlen
     have hj:ps[d.length]? = some f:=by
      have:(ps.take i)[d.length]? = some f:=by rw [hd];simp
      rw [List.getElem?_take] at this;split at this
      ·exact this
      cases this
     have hfm:f∈ps:=List.mem_of_getElem? hj;have hfp:=hp f hfm;obtain ⟨n1,b,m1,e1,c1⟩:=ihi d.length (by omega) (fuB f.body) f.body (Nat.le_refl _) (hb _ f hj) [] (m+f.params.length);obtain ⟨n3,R,M,e3,c3⟩:=ih r (by omega) (fun x hx=>hl x (.inr (.inr hx))) (((out++setsF f.params args)++b)++[setS name f.ret]) (m1+1);refine ⟨n1+n3+1,R,M,?_,by omega⟩;simp only [layF,h1,hk,hf2,lay_le e1 (show n1≤n1+n3 by omega),lay_le e3 (show n3≤n1+n3 by omega)]
def ownS:Sm→Sm
 |.mk kind name proc args cond _ _=>.mk kind name proc args cond [] []
def SrcS(ps:List Pc)(P:Sm→Prop):Sm→Prop
 |.mk kind name proc args cond _ _=>(isC kind=false→P (.mk kind name proc args cond [] []))∧(isC kind=true→∀f,findP ps proc=some f→(∀v a,v∈f.params→a∈args→P (setS v a))∧P (setS name f.ret))
theorem sets_mem{P:Sm→Prop}:∀(p:List ByteArray) (l:List Ex),(∀v a,v∈p→a∈l→P (setS v a))→∀y,y∈setsF p l→P (ownS y)
 |[],l,_,y,hy=>by simp [setsF] at hy
 |v::p,[],_,y,hy=>by simp [setsF] at hy
 |v::p,e::l,h,y,hy=>by
  simp only [setsF] at hy
  rcases List.mem_cons.1 hy with rfl|hy
  ·exact h v e (List.mem_cons_self ..) (List.mem_cons_self ..)
  exact sets_mem p l (fun v a hv ha=>h v a (List.mem_cons_of_mem _ hv) (List.mem_cons_of_mem _ ha)) y hy
theorem inl_all{ps:List Pc}{P:Sm→Prop}(hP:∀f,f∈ps→∀x,x∈flatB f.body→SrcS ps P x){l r:List Sm}(h:Inl ps l r):(∀x,x∈flatB l→SrcS ps P x)→∀y,y∈flatB r→P (ownS y):=by
 induction h with
 |nil=>intro _ y hy;simp [flatB] at hy
 |one hk _ _ _ i1 i2 i3=>
  intro hl y hy;simp only [flatB,flatS,List.cons_append,List.mem_cons,List.mem_append] at hl hy
  rcases hy with rfl|(hy|hy)|hy
  ·exact (hl _ (.inl rfl)).1 hk
  ·exact i1 (fun x hx=>hl x (.inr (.inl (.inl hx)))) y hy
  ·exact i2 (fun x hx=>hl x (.inr (.inl (.inr hx)))) y hy
  exact i3 (fun x hx=>hl x (.inr (.inr hx))) y hy
 |call hk hf _ _ i1 i3=>
  intro hl y hy;simp only [flatB,flatS,List.cons_append,List.mem_cons,List.mem_append] at hl;rw [flatB_app,flatB_app,flat_sets] at hy;simp only [flatB,flatS,setS,List.cons_append,List.nil_append,List.append_nil,List.mem_append,List.mem_cons] at hy;obtain ⟨q1,q2⟩:=(hl _ (.inl rfl)).2 hk _ hf
  rcases hy with (hy|hy)|rfl|hy
  ·exact sets_mem _ _ q1 y hy
  ·exact i1 (hP _ (List.mem_of_find?_eq_some hf)) y hy
  ·exact q2
  exact i3 (fun x hx=>hl x (.inr (.inr hx))) y hy
mutual
theorem ok_S:∀s:Sm,(∀y,y∈flatS s→ownOk 400000 (ownS y))→okS 9900 s=true∧wtS s+1≤400403 * (flatS s).length
 |.mk kind name proc args cond body els,h=>by
  simp only [flatS,List.mem_cons,List.mem_append] at h;obtain ⟨q1,q2⟩:=ok_B body fun y hy=>h y (.inr (.inl hy));obtain ⟨r1,r2⟩:=ok_B els fun y hy=>h y (.inr (.inr hy));have h0:=h _ (.inl rfl);simp only [ownS,ownOk] at h0;obtain ⟨a1,a2,a3,a4,_,a5⟩:=h0;refine ⟨?_,?_⟩
  ·simp only [okS,q1,r1,a1,a3,Bool.true_and,Bool.and_true,Bool.and_eq_true,decide_eq_true_eq]
   omega
  simp only [wtS,flatS,List.length_cons,List.length_append];omega
theorem ok_B:∀l:List Sm,(∀y,y∈flatB l→ownOk 400000 (ownS y))→okB 9900 l=true∧wtB l≤1+400403 * (flatB l).length
 |[],_=>⟨rfl,by simp [wtB]⟩
 |s::r,h=>by
  simp only [flatB,List.mem_append] at h;obtain ⟨q1,q2⟩:=ok_S s fun y hy=>h y (.inl hy);obtain ⟨r1,r2⟩:=ok_B r fun y hy=>h y (.inr hy);refine ⟨by simp only [okB,q1,r1];rfl,?_⟩;simp only [wtB,flatB,List.length_append];omega
end
theorem hasB_any(v:ByteArray):∀l:List ByteArray,hasB l v=l.any fun y=>y.toList==v.toList
 |[]=>rfl
 |y::r=>by
  simp only [hasB,List.any_cons,hasB_any v r]
  cases y.toList==v.toList <;> rfl
theorem hasB_sub{a b:List ByteArray}(h:∀v,v∈a→v∈b){v:ByteArray}(hv:hasB a v=true):hasB b v=true:=by
 rw [hasB_any,List.any_eq_true] at hv ⊢;obtain ⟨y,hy,e⟩:=hv;exact ⟨y,h y hy,e⟩
theorem hasB_mem{l:List ByteArray}{v:ByteArray}(h:v∈l):hasB l v=true:=by
 rw [hasB_any,List.any_eq_true];exact ⟨v,h,BEq.refl _⟩
section
variable {a b ay:List ByteArray}
mutual
theorem tm_sub(hs:∀v,v∈a→v∈b):∀e:Ex,tmN a ay e=true→tmN b ay e=true
 |.mk op n nm l,h=>by
  simp only [tmN,Bool.and_eq_true] at h ⊢;refine ⟨?_,tms_sub hs l h.2⟩;have h:=h.1;split at h
  ·exact hasB_sub hs h
  exact h
theorem tms_sub(hs:∀v,v∈a→v∈b):∀l:List Ex,tmsN a ay l=true→tmsN b ay l=true
 |[],_=>rfl
 |e::r,h=>by
  simp only [tmsN,Bool.and_eq_true] at h ⊢;exact ⟨tm_sub hs e h.1,tms_sub hs r h.2⟩
end
theorem see_sub(hs:∀v,v∈a→v∈b){ps:List Pc}{kind name proc:ByteArray}{args:List Ex}{cond:List (List Ts)}{body els:List Sm}(hk:isC kind=false)(h:seeN a ay ps (.mk kind name proc args cond body els)=true):seeN b ay [] (.mk kind name proc args cond [] [])=true:=by
 simp only [seeN,kindN,hk,Bool.and_eq_true] at h ⊢;refine ⟨?_,tms_sub hs _ h.2⟩;have h:=h.1;split at h
 ·exact hasB_sub hs h
 split at h
 ·exact hasB_sub hs h
 exact h
end
theorem tms_mem{vs ay:List ByteArray}:∀ {l:List Ex}{e:Ex},tmsN vs ay l=true→e∈l→tmN vs ay e=true
 |[],e,_,h=>by cases h
 |x::r,e,h,he=>by
  simp only [tmsN,Bool.and_eq_true] at h
  rcases List.mem_cons.1 he with rfl|he
  ·exact h.1
  exact tms_mem h.2 he
theorem see_set{vs ay:List ByteArray}{v:ByteArray}{e:Ex}(hv:hasB vs v=true)(he:tmN vs ay e=true):seeN vs ay [] (setS v e)=true:=by
 simp only [setS,seeN,kindN,kq_set_set,hv,condE,List.append_nil,tmsN,he]
 rfl
theorem own_set{v:ByteArray}{e:Ex}(hv:v.size≤8)(h1:nmE e=true)(h2:fuE e≤7999)(h3:wtE e≤390000):ownOk 400000 (setS v e):=by
 have z1:(⟨#[115,101,116]⟩:ByteArray).size=3:=rfl;have z0:(⟨#[]⟩:ByteArray).size=0:=rfl;simp only [setS,ownOk,nmL,fuL,nmC,fuC,wtL,wtC,h1,z1,z0]
 refine ⟨?_,by omega,?_,by omega,by omega,by omega⟩ <;> first|rfl|trivial
/-- What is asked of a laid statement. -/
def GoodS(vs ay:List ByteArray):Sm→Prop
 |.mk kind name proc args cond body els=>isC kind=false∧seeN vs ay [] (.mk kind name proc args cond body els)=true∧ownOk 400000 (.mk kind name proc args cond body els)
theorem good_set{vs ay:List ByteArray}{v:ByteArray}{e:Ex}(h1:seeN vs ay [] (setS v e)=true)(h2:ownOk 400000 (setS v e)):GoodS vs ay (setS v e):=⟨kq_set_call,h1,h2⟩
theorem nmL_mem:∀ {l:List Ex}{e:Ex},nmL l=true→e∈l→nmE e=true
 |[],e,_,h=>by cases h
 |x::r,e,h,he=>by
  simp only [nmL,Bool.and_eq_true] at h
  rcases List.mem_cons.1 he with rfl|he
  ·exact h.1
  exact nmL_mem h.2 he
theorem fuL_in:∀ {l:List Ex}{e:Ex},e∈l→fuE e+1≤fuL l∧wtE e+2≤wtL l
 |[],e,h=>by cases h
 |x::r,e,he=>by
  simp only [fuL,wtL]
  rcases List.mem_cons.1 he with rfl|he
  ·omega
  have:=fuL_in he;omega
/-- What is right of a program's procedures, as what is laid needs it. -/
structure RtP (vars:List ByteArray) (arrays:List Ar) (procs:List Pc):Prop where
 nm:∀f,f∈procs→(∀v,v∈f.params→v∈vars++prmF procs)∧tmN (vars++prmF procs) (arN arrays) f.ret=true∧nmE f.ret=true∧fuE f.ret≤7999∧wtE f.ret≤320000∧∀v,v∈f.params→v.size≤8
theorem prm_mem:∀ {l:List Pc}{f:Pc}{v:ByteArray},f∈l→v∈f.params→v∈prmF l
 |[],f,v,h,_=>by cases h
 |g::r,f,v,h,hv=>by
  simp only [prmF,List.mem_append]
  rcases List.mem_cons.1 h with rfl|h
  ·exact .inl hv
  exact .inr (prm_mem h hv)
theorem src_of{vars:List ByteArray}{arrays:List Ar}{procs:List Pc}(hR:RtP vars arrays procs){a:List ByteArray}{i:Nat}(hs:∀v,v∈a→v∈vars++prmF procs){x:Sm}(hn:seeN a (arN arrays) (procs.take i) x=true)(ho:ownOk 390000 x):SrcS procs (GoodS (vars++prmF procs) (arN arrays)) x:=by
 obtain ⟨kind,name,proc,args,cond,body,els⟩:=x;simp only [ownOk] at ho;obtain ⟨o1,o2,o3,o4,o6,o5⟩:=ho;refine ⟨fun hk=>⟨hk,see_sub hs hk hn,?_⟩,fun hk f hf=>?_⟩
 ·simp only [ownOk]
  exact ⟨o1,o2,o3,o4,o6,by omega⟩
 have hfm:=List.mem_of_find?_eq_some hf;obtain ⟨r1,r2,r3,r4,r5,r6⟩:=hR.nm f hfm;have k:=eq_of_beq hk
 have e1:(kind.toList==(⟨#[115,101,116]⟩:ByteArray).toList)=false:=by rw [k];kernel_rfl
 have e2:(kind.toList==(⟨#[114,101,97,100]⟩:ByteArray).toList)=false:=by rw [k];kernel_rfl
 have e3:(kind.toList==(⟨#[112,117,116]⟩:ByteArray).toList)=false:=by rw [k];kernel_rfl
 simp only [seeN,kindN,e1,e2,e3,show (kind.toList==(⟨#[99,97,108,108]⟩:ByteArray).toList)=true from hk,Bool.and_eq_true] at hn;have ht:=tms_sub hs _ hn.2;refine ⟨fun v e hv he=>?_,?_⟩
 ·have:=fuL_in he
  exact good_set (see_set (hasB_mem (r1 v hv)) (tms_mem ht (List.mem_append_left _ he))) (own_set (r6 v hv) (nmL_mem o1 he) (by omega) (by omega))
 refine good_set (see_set (hasB_sub hs hn.1.1) r2) ?_;have z1:(⟨#[115,101,116]⟩:ByteArray).size=3:=rfl;have z0:(⟨#[]⟩:ByteArray).size=0:=rfl;simp only [setS,ownOk,nmL,fuL,nmC,fuC,wtL,wtC,r3,z1,z0]
 refine ⟨?_,by omega,?_,by omega,by omega,by omega⟩ <;> first|rfl|trivial
end Go.Abs
end
section
namespace Go.Abs
open Go
def NoOut:MO→Prop
 |.out=>False
 |_=>True
theorem noout_bind{a:MO}{f:MS→MO}(h:NoOut a)(k:∀S1,a=.ok S1→NoOut (f S1)):NoOut (a.bind f):=by
 cases a with
 |out=>exact h.elim
 |stop q S=>trivial
 |ok S=>exact k S rfl
theorem noout_ev{S:MS}{e:Ex}{f:Int→MO}(h:∀n,NoOut (f n)):NoOut (evS S e f):=by
 unfold evS
 split
 ·trivial
 exact h _
theorem noout_cd{S:MS}{c:List (List Ts)}{f:Bool→MO}(h:∀n,NoOut (f n)):NoOut (cdS S c f):=by
 unfold cdS
 split
 ·trivial
 exact h _
theorem noout_prm:∀(l:List ByteArray) (es:List Ex) (S:MS),NoOut (prmM l es S)
 |[],_,_=>trivial
 |_::_,[],_=>trivial
 |v::r,e::l,S=>by
  simp only [prmM];exact noout_ev fun n=>noout_prm r l { S with vs:=putV S.vs v n }
theorem noout_step(F:Int)(S:MS):NoOut (stepM F S):=by
 unfold stepM
 split <;> trivial
theorem step_ok{F:Int}{S S1:MS}(h0:S.steps≤F)(h:stepM F S=.ok S1):S1.steps=S.steps+1∧S1.steps≤F:=by
 unfold stepM at h
 split at h
 ·cases h
 rename_i q
 have q:S.steps≠F:=fun e=>by rw [e] at q;simp at q
 simp only [MO.ok.injEq] at h;subst h;exact ⟨rfl,by show S.steps+1≤F;omega⟩
theorem fuel_ok{F:Int}{S S1:MS}{a b:MO}(h:Fuel F S a b)(e:a=.ok S1):S.steps≤S1.steps∧S1.steps≤F:=by
 subst e;exact h.2
/-- Three rounds for each step that may still be done are enough. -/
theorem tot_all(ps:List Pc)(F:Int):∀n:Nat,(∀l S,S.steps≤F→3 * (F - S.steps)+1≤n→NoOut (blkM ps F n l S))∧(∀s S,S.steps≤F→3 * (F - S.steps)+3≤n→NoOut (stM ps F n s S))∧(∀c l S,S.steps≤F→3 * (F - S.steps)+2≤n→NoOut (whM ps F n c l S))
 |0=>⟨fun l S h1 h2=>by omega,fun s S h1 h2=>by omega,fun c l S h1 h2=>by omega⟩
 |n+1=>by
  obtain ⟨h1,h2,h3⟩:=tot_all ps F n;obtain ⟨f1,f2,f3⟩:=fuel_all ps (Int.le_refl F) n;refine ⟨fun l S h0 hn=>?_,fun s S h0 hn=>?_,fun c l S h0 hn=>?_⟩
  ·cases l with
   |nil=>simp only [blkM];trivial
   |cons s r=>
    simp only [blkM];refine noout_bind (noout_bind (noout_step F S) fun S1 e1=>?_) fun S2 e2=>?_
    ·obtain ⟨q1,q2⟩:=step_ok h0 e1
     exact h2 s S1 q2 (by omega)
    cases hs:stepM F S with
    |out=>rw [hs] at e2;cases e2
    |stop k S1=>rw [hs] at e2;cases e2
    |ok S1=>
     rw [hs] at e2;obtain ⟨q1,q2⟩:=step_ok h0 hs;obtain ⟨q3,q4⟩:=fuel_ok (f2 s S1 q2) e2;exact h1 r S2 q4 (by omega)
  ·obtain ⟨kind,name,proc,args,cond,body,els⟩:=s
   simp only [stM]
   repeat' split
   all_goals first
    |trivial
    |exact noout_ev fun n=>trivial
    |exact noout_ev fun n=>noout_ev fun m=>by split <;> trivial
    |exact h3 _ _ _ h0 (by omega)
    |exact noout_cd fun b=>by cases b <;> first|exact h1 _ _ h0 (by omega)|trivial
    |exact noout_bind (noout_bind (noout_prm _ _ _) fun S1 e1=>by
      obtain ⟨q1,q2⟩:=fuel_ok (fuel_prm _ _ S h0) e1
      exact h1 _ S1 q2 (by omega)) fun S2 e2=>noout_ev fun n=>trivial
  simp only [whM];refine noout_cd fun b=>?_
  cases b with
  |false=>trivial
  |true=>
   refine noout_bind (noout_bind (h1 _ _ h0 (by omega)) fun S1 e1=>noout_step F S1) fun S2 e2=>?_
   cases hs:blkM ps F n l S with
   |out=>rw [hs] at e2;cases e2
   |stop k S1=>rw [hs] at e2;cases e2
   |ok S1=>
    rw [hs] at e2;obtain ⟨q1,q2⟩:=fuel_ok (f1 l S h0) hs;obtain ⟨q3,q4⟩:=step_ok q2 e2;exact h3 c l S2 q4 (by omega)
theorem all_some(ps:List Pc)(F:Int)(n:Nat)(l:List Sm)(S:MS)(h0:S.steps≤F)(hn:3 * (F - S.steps)+1≤n):∃k S1,allM ps F n l S=some (k,S1):=by
 have h:=(tot_all ps F n).1 l S h0 hn
 unfold allM
 cases hb:blkM ps F n l S with
 |out=>rw [hb] at h;exact h.elim
 |ok S1=>exact ⟨_,S1,rfl⟩
 |stop k S1=>exact ⟨k,S1,rfl⟩
theorem ws:wStuck≠wTired:=by decide
theorem wf:wFailed≠wTired:=by decide
end Go.Abs
end
section
namespace Go.Abs
open Go Go.Proofs
theorem prN_ret{vars an:List ByteArray}{procs:List Pc}:∀ {l:List Pc}{k:Nat},prN vars an procs l k=true→∀f,f∈l→tmN (vars++f.params) an f.ret=true
 |[],k,_,f,h=>by cases h
 |g::r,k,h,f,hf=>by
  simp only [prN] at h;split at h
  ·rename_i hg
   simp only [Bool.and_eq_true] at hg
   rcases List.mem_cons.1 hf with rfl|hf
   ·exact hg.2
   exact prN_ret h f hf
  cases h
theorem fnd_of{vs ay:List ByteArray}{ps:List Pc}{x:Sm}(h:seeN vs ay ps x=true):fndS ps x:=by
 have hn:=nm_of h;obtain ⟨kind,name,proc,args,cond,body,els⟩:=x;intro hk;obtain ⟨j,f,_,_,h3⟩:=procJ_find proc ps 0 (hn hk);exact ⟨f,h3⟩
/-- A right program's calls can be laid out. -/
theorem right_lay{vars:List ByteArray}{arrays:List Ar}{procs:List Pc}{main:List Sm}(hc:checkF vars arrays procs main=none)(P:Nat)(hp:∀f,f∈procs→f.params.length≤P):∃n R M,layF procs n main [] 0=some (R,M)∧M≤401+P+procs.length:=by
 unfold checkF at hc
 obtain ⟨_,_,_,cN,cM,_,_⟩:=ckR_none hc
 obtain ⟨n,R,M,h1,h2⟩:=lay_ex procs P hp (fun j f hj x hx=>by
  have:=List.all_eq_true.1 (by simpa using prN_at cN j f hj) x hx
  exact fnd_of this) procs.length (fuB main) main (Nat.le_refl _) (fun x hx=>by
  rw [List.take_length]
  exact fnd_of (List.all_eq_true.1 cM x hx)) [] 0
 exact ⟨n,R,M,h1,by omega⟩
theorem right_good{vars:List ByteArray}{arrays:List Ar}{procs:List Pc}{main:List Sm}{t:ByteArray}{k:Nat}(h:progI ⟨vars,arrays,procs,main⟩=some (t,k))(ht:t.size≤4000)(hc:checkF vars arrays procs main=none){R:List Sm}(hi:Inl procs main R):∀y,y∈flatB R→GoodS (vars++prmF procs) (arN arrays) (ownS y):=by
 have hs:=small_of h ht
 unfold checkF at hc
 obtain ⟨_,_,_,cN,cM,_,_⟩:=ckR_none hc
 have hv:∀f,f∈procs→∀v,v∈vars++f.params→v∈vars++prmF procs:=fun f hf v hv=>by
  rcases List.mem_append.1 hv with hv|hv
  ·exact List.mem_append_left _ hv
  exact List.mem_append_right _ (prm_mem hf hv)
 have hR:RtP vars arrays procs:=⟨fun f hf=>by
  obtain ⟨_,s2,s3,s4,s5⟩:=hs.pc f hf
  exact ⟨fun v hv=>List.mem_append_right _ (prm_mem hf hv),tm_sub (hv f hf) _ (prN_ret cN f hf),s2,s3,s4,s5⟩⟩
 refine inl_all (fun f hf x hx=>?_) hi fun x hx=>?_
 ·obtain ⟨j,hj⟩:=List.getElem?_of_mem hf
  have hn:=List.all_eq_true.1 (by simpa using prN_at cN j f hj) x hx;exact src_of hR (hv f hf) hn ((hs.pc f hf).1 x hx)
 refine src_of (i:=procs.length) hR (fun v hv=>List.mem_append_left _ hv) ?_ (hs.mn x hx);rw [List.take_length];exact List.all_eq_true.1 cM x hx
def shC1:Sm→Bool
 |.mk kind ..=>isC kind
theorem good_see{vs ay:List ByteArray}{y:Sm}(h:GoodS vs ay (ownS y)):seeN vs ay [] y=true∧seeC [] y=true∧ownOk 400000 (ownS y)∧shC1 y=false:=by
 obtain ⟨kind,name,proc,args,cond,body,els⟩:=y;obtain ⟨h1,h2,h3⟩:=h;refine ⟨h2,?_,h3,h1⟩;simp only [seeC,show (kind.toList==(⟨#[99,97,108,108]⟩:ByteArray).toList)=false from h1]
/-- What is laid is right. -/
theorem inl_check{vars:List ByteArray}{arrays:List Ar}{procs:List Pc}{main:List Sm}(hc:checkF vars arrays procs main=none){R:List Sm}(hg:∀y,y∈flatB R→GoodS (vars++prmF procs) (arN arrays) (ownS y)):checkF (vars++prmF procs) arrays [] R=none:=by
 unfold checkF at hc ⊢
 obtain ⟨cA,cL,cD,_,_,_,_⟩:=ckR_none hc
 have h1:bLong (vars++prmF procs) arrays []=false:=by
  simp only [bLong,allN2,strs_length,List.length_append,prmF,pcN,List.length_nil,List.map_nil,List.length_map,Bool.or_eq_false_iff,decide_eq_false_iff_not] at cL ⊢;omega
 have h2:dupB (allN2 (vars++prmF procs) arrays []++pcN [])=false:=by
  simp only [dupB,Bool.not_eq_false',decide_eq_true_eq] at cD ⊢
  have e:allN2 (vars++prmF procs) arrays []++pcN []=(vars++prmF procs)++arN arrays:=by simp [allN2,prmF,pcN]
  rw [e];rw [List.map_append] at cD;have cD:=(List.nodup_append.1 cD).1
  have hp:(allN2 vars arrays procs).Perm ((vars++prmF procs)++arN arrays):=by
   unfold allN2
   rw [List.append_assoc,List.append_assoc];exact List.Perm.append_left _ List.perm_append_comm
  exact (hp.map _).nodup_iff.1 cD
 have h3:(flatB R).all (seeN (vars++prmF procs) (arN arrays) [])=true:=List.all_eq_true.2 fun y hy=>(good_see (hg y hy)).1;have h4:(flatB R).all (seeC [])=true:=List.all_eq_true.2 fun y hy=>(good_see (hg y hy)).2.1;rw [cA,h1,h2,h3,h4]
 rfl
/-- Statements without calls are laid as they are. -/
theorem lay_free(ps:List Pc):∀(n:Nat) (l out:List Sm) (m:Nat) (R:List Sm) (M:Nat),(∀y,y∈flatB l→shC1 y=false)→m+(flatB l).length≤400→layF ps n l out m=some (R,M)→R=out++l∧M=m+(flatB l).length
 |0,_,_,_,_,_,_,_,h=>by cases h
 |n+1,[],out,m,R,M,_,_,h=>by
  simp only [layF,Option.some.injEq,Prod.mk.injEq] at h;obtain ⟨rfl,rfl⟩:=h
  simp [flatB]
 |n+1,.mk kind name proc args cond body els::r,out,m,R,M,hf,hm,h=>by
  simp only [flatB,flatS,List.cons_append,List.length_cons,List.length_append,List.mem_cons,List.mem_append] at hf hm;have hk:(kind.toList==(⟨#[99,97,108,108]⟩:ByteArray).toList)=false:=hf _ (.inl rfl);have h1:decide ((m:Int)>400)=false:=decide_eq_false (by omega);simp only [layF,h1,hk] at h;split at h
  ·cases h
  rename_i b hb;split at h
  ·cases h
  rename_i e he;obtain ⟨b,m1⟩:=b;obtain ⟨e,m2⟩:=e;obtain ⟨q1,q2⟩:=lay_free ps n _ _ _ _ _ (fun y hy=>hf y (.inr (.inl (.inl hy)))) (by omega) hb;simp only [List.nil_append] at q1;subst q1 q2;obtain ⟨q1,q2⟩:=lay_free ps n _ _ _ _ _ (fun y hy=>hf y (.inr (.inl (.inr hy)))) (by omega) he;simp only [List.nil_append] at q1;subst q1 q2;obtain ⟨q1,q2⟩:=lay_free ps n _ _ _ _ _ (fun y hy=>hf y (.inr (.inr hy))) (by omega) h;refine ⟨by rw [q1];simp,by rw [q2];simp only [flatB,flatS,List.length_append,List.length_cons];omega⟩
def Eqv2(S U:MS):Prop:=S.vs=U.vs∧S.ar=U.ar∧S.inp=U.inp
def Sml2(a b:MO):Prop:=a=.out∨b=.out∨(∃S,a=.stop wTired S)∨(∃S,b=.stop wTired S)∨(∃S U,a=.ok S∧b=.ok U∧Eqv2 S U)∨∃k S U,a=.stop k S∧b=.stop k U∧Eqv2 S U
theorem sml2_ok{S U:MS}(h:Eqv2 S U):Sml2 (.ok S) (.ok U):=.inr (.inr (.inr (.inr (.inl ⟨S,U,rfl,rfl,h⟩))))
theorem sml2_stop{k:ByteArray}{S U:MS}(h:Eqv2 S U):Sml2 (.stop k S) (.stop k U):=.inr (.inr (.inr (.inr (.inr ⟨k,S,U,rfl,rfl,h⟩))))
theorem sml2_outl{b:MO}:Sml2 .out b:=.inl rfl
theorem sml2_outr{a:MO}:Sml2 a .out:=.inr (.inl rfl)
theorem sml2_bind{a b:MO}{f g:MS→MO}(h:Sml2 a b)(k:∀S U,Eqv2 S U→Sml2 (f S) (g U)):Sml2 (a.bind f) (b.bind g):=by
 rcases h with rfl|rfl|⟨S,rfl⟩|⟨S,rfl⟩|⟨S,U,rfl,rfl,h⟩|⟨q,S,U,rfl,rfl,h⟩
 ·exact sml2_outl
 ·exact sml2_outr
 ·exact .inr (.inr (.inl ⟨S,rfl⟩))
 ·exact .inr (.inr (.inr (.inl ⟨S,rfl⟩)))
 ·exact k S U h
 exact sml2_stop h
theorem bind_assoc(a:MO)(f g:MS→MO):(a.bind f).bind g=a.bind fun S=>(f S).bind g:=by
 cases a <;> rfl
theorem sml2_step{F F':Int}{S U:MS}(h:Eqv2 S U):Sml2 (stepM F S) (stepM F' U):=by
 unfold stepM
 split
 ·exact .inr (.inr (.inl ⟨S,rfl⟩))
 split
 ·exact .inr (.inr (.inr (.inl ⟨U,rfl⟩)))
 exact sml2_ok h
theorem sml2_stepr{F':Int}{a:MO}{U:MS}{g:MS→MO}(h:∀U1,(U1.vs=U.vs∧U1.ar=U.ar∧U1.inp=U.inp)→Sml2 a (g U1)):Sml2 a ((stepM F' U).bind g):=by
 unfold stepM
 split
 ·exact .inr (.inr (.inr (.inl ⟨U,rfl⟩)))
 exact h _ ⟨rfl,rfl,rfl⟩
theorem sml2_stepl{F:Int}{b:MO}{S:MS}{g:MS→MO}(h:∀S1,(S1.vs=S.vs∧S1.ar=S.ar∧S1.inp=S.inp)→Sml2 (g S1) b):Sml2 ((stepM F S).bind g) b:=by
 unfold stepM
 split
 ·exact .inr (.inr (.inl ⟨S,rfl⟩))
 exact h _ ⟨rfl,rfl,rfl⟩
theorem sml2_ev{S U:MS}{e:Ex}{f g:Int→MO}(h:Eqv2 S U)(k:∀n,Sml2 (f n) (g n)):Sml2 (evS S e f) (evS U e g):=by
 unfold evS
 rw [h.1,h.2.1]
 split
 ·exact sml2_stop h
 exact k _
theorem sml2_cd{S U:MS}{c:List (List Ts)}{f g:Bool→MO}(h:Eqv2 S U)(k:∀n,Sml2 (f n) (g n)):Sml2 (cdS S c f) (cdS U c g):=by
 unfold cdS
 rw [h.1,h.2.1]
 split
 ·exact sml2_stop h
 exact k _
theorem eqv_put{S U:MS}{v:ByteArray}{n:Int}(h:Eqv2 S U):Eqv2 { S with vs:=putV S.vs v n } { U with vs:=putV U.vs v n }:=⟨by rw [h.1],h.2.1,h.2.2⟩
theorem st_set(ps:List Pc)(F:Int)(n:Nat)(v:ByteArray)(e:Ex)(S:MS):stM ps F (n+1) (setS v e) S=evS S e fun a=>.ok { S with vs:=putV S.vs v a }:=by
 simp only [setS,stM,kq_set_set]
theorem blk_app(ps:List Pc)(F:Int):∀(a b:List Sm) (n:Nat) (S:MS),blkM ps F n (a++b) S=(blkM ps F n a S).bind (blkM ps F (n - a.length) b)
 |[],b,0,S=>by simp only [blkM];rfl
 |[],b,n+1,S=>by simp only [List.nil_append,List.length_nil,blkM];rfl
 |s::a,b,0,S=>by simp only [blkM];rfl
 |s::a,b,n+1,S=>by
  simp only [List.cons_append,blkM,List.length_cons,Nat.add_sub_add_right]
  conv=>rhs;rw [bind_assoc]
  congr 1
  funext S1
  exact blk_app ps F a b n S1
theorem sml2_prm(F':Int):∀(p:List ByteArray) (l:List Ex) (S U:MS) (n:Nat),p.length≤l.length→Eqv2 S U→Sml2 (prmM p l S) (blkM [] F' n (setsF p l) U)
 |p,l,S,U,0,_,_=>by simp only [blkM];exact sml2_outr
 |[],l,S,U,n+1,_,h=>by simp only [prmM,setsF,blkM];exact sml2_ok h
 |v::p,[],S,U,n+1,hl,h=>by simp at hl
 |v::p,e::l,S,U,n+1,hl,h=>by
  simp only [prmM,setsF,blkM];rw [bind_assoc];refine sml2_stepr fun U1 hU=>?_
  cases n with
  |zero=>simp only [stM];exact sml2_outr
  |succ n=>
   rw [st_set];have h1:Eqv2 S U1:=⟨h.1.trans hU.1.symm,h.2.1.trans hU.2.1.symm,h.2.2.trans hU.2.2.symm⟩
   have:(evS U1 e fun a=>MO.ok { U1 with vs:=putV U1.vs v a }).bind (blkM [] F' (n+1) (setsF p l))=evS U1 e fun a=>blkM [] F' (n+1) (setsF p l) { U1 with vs:=putV U1.vs v a }:=by
    unfold evS
    split <;> rfl
   rw [this];exact sml2_ev h1 fun a=>sml2_prm F' p l _ _ (n+1) (by simpa using hl) (eqv_put h1)
/-- Each call hands over what is wanted. -/
def WfI(ps:List Pc):Prop:=∀f,f∈ps→wfB ps f.body=true
theorem sml2_all(ps:List Pc)(hps:WfI ps)(F F':Int)(n:Nat):(∀l r,Inl ps l r→wfB ps l=true→∀n' S U,Eqv2 S U→Sml2 (blkM ps F n l S) (blkM [] F' n' r U))∧
  (∀kind name proc args cond body els b e,isC kind=false→Inl ps body b→Inl ps els e→wfB ps body=true→wfB ps els=true→∀n' S U,Eqv2 S U→Sml2 (stM ps F n (.mk kind name proc args cond body els) S) (stM [] F' n' (.mk kind name proc args cond b e) U))∧
  (∀c l r,Inl ps l r→wfB ps l=true→∀n' S U,Eqv2 S U→Sml2 (whM ps F n c l S) (whM [] F' n' c r U)):=by
 induction n using Nat.strongRecOn with
 |_ n ih=>
 cases n with
 |zero=>exact ⟨fun l r _ _ n' S U _=>by simp only [blkM];exact sml2_outl,fun _ _ _ _ _ _ _ _ _ _ _ _ _ _ n' S U _=>by simp only [stM];exact sml2_outl,fun _ l r _ _ n' S U _=>by simp only [whM];exact sml2_outl⟩
 |succ n=>
  obtain ⟨ib,is,iw⟩:=ih n (Nat.lt_succ_self n);refine ⟨fun l r hi hw n' S U h=>?_,fun kind name proc args cond body els b e hk h1 h2 w1 w2 n' S U h=>?_,fun c l r hi hw n' S U h=>?_⟩
  ·cases n' with
   |zero=>simp only [blkM];exact sml2_outr
   |succ n'=>
    cases hi with
    |nil=>simp only [blkM];exact sml2_ok h
    |one hk h1 h2 h3=>
     obtain ⟨_,w1,w2,w3⟩:=wfB_cons hw;simp only [blkM];exact sml2_bind (sml2_bind (sml2_step h) fun S1 U1 q=>is _ _ _ _ _ _ _ _ _ hk h1 h2 w1 w2 n' S1 U1 q) fun S2 U2 q=>ib _ _ h3 w3 n' S2 U2 q
    |@call kind name proc args cond body els r b r' f hk hf h1 h3=>
     obtain ⟨wc,_,_,w3⟩:=wfB_cons hw;obtain ⟨f',hf',hl⟩:=shK_call wc hk;rw [hf] at hf';obtain rfl:=Option.some.inj hf';rw [blk_app,blk_app];simp only [blkM];rw [bind_assoc];refine sml2_stepl fun S1 hS=>?_;have h0:Eqv2 S1 U:=⟨hS.1.trans h.1,hS.2.1.trans h.2.1,hS.2.2.trans h.2.2⟩
     cases n with
     |zero=>simp only [stM];exact sml2_outl
     |succ n=>
      have k:=eq_of_beq hk
      have e1:(kind.toList==(⟨#[115,101,116]⟩:ByteArray).toList)=false:=by rw [k];kernel_rfl
      have e2:(kind.toList==(⟨#[114,101,97,100]⟩:ByteArray).toList)=false:=by rw [k];kernel_rfl
      have e3:(kind.toList==(⟨#[112,117,116]⟩:ByteArray).toList)=false:=by rw [k];kernel_rfl
      simp only [stM,e1,e2,e3,show (kind.toList==(⟨#[99,97,108,108]⟩:ByteArray).toList)=true from hk,hf];rw [bind_assoc];refine sml2_bind (sml2_bind (sml2_prm F' _ _ S1 U _ hl h0) fun S2 U2 q=>(ih n (by omega)).1 _ _ h1 (hps f (List.mem_of_find?_eq_some hf)) _ S2 U2 q) fun S3 U3 q=>?_;generalize n'+1 - (setsF f.params args++b).length=m
      cases m with
      |zero=>simp only [blkM];exact sml2_outr
      |succ m=>
       simp only [blkM];rw [bind_assoc];refine sml2_stepr fun U4 hU=>?_;have h4:Eqv2 S3 U4:=⟨q.1.trans hU.1.symm,q.2.1.trans hU.2.1.symm,q.2.2.trans hU.2.2.symm⟩
       cases m with
       |zero=>simp only [stM];exact sml2_outr
       |succ m=>
        rw [st_set];refine sml2_bind (sml2_ev h4 fun a=>sml2_ok (eqv_put h4)) fun S5 U5 q5=>ib _ _ h3 w3 _ S5 U5 q5
  ·cases n' with
   |zero=>simp only [stM];exact sml2_outr
   |succ n'=>
    simp only [stM,show (kind.toList==(⟨#[99,97,108,108]⟩:ByteArray).toList)=false from hk]
    cases (kind.toList==(⟨#[115,101,116]⟩:ByteArray).toList) with
    |true=>
     cases args with
     |nil=>exact sml2_stop h
     |cons x l=>exact sml2_ev h fun a=>sml2_ok (eqv_put h)
    |false=>
    cases (kind.toList==(⟨#[112,117,116]⟩:ByteArray).toList) with
    |true=>
     cases args with
     |nil=>exact sml2_stop h
     |cons x l=>cases l with
      |nil=>exact sml2_stop h
      |cons y l=>
       refine sml2_ev h fun i=>sml2_ev h fun a=>?_;rw [h.2.1]
       cases (decide (i<0)||decide (i≥((getA U.ar name).length:Int))) with
       |true=>exact sml2_stop h
       |false=>exact sml2_ok ⟨h.1,by simp only,h.2.2⟩
    |false=>
    cases (kind.toList==(⟨#[114,101,97,100]⟩:ByteArray).toList) with
    |true=>
     rw [h.2.2]
     cases hq:U.inp with
     |nil=>exact sml2_stop h
     |cons a r=>exact sml2_ok ⟨by simp only [h.1],h.2.1,rfl⟩
    |false=>
    cases (kind.toList==(⟨#[105,102]⟩:ByteArray).toList) with
    |true=>exact sml2_cd h fun q=>by cases q <;> first|exact ib _ _ h1 w1 n' S U h|exact ib _ _ h2 w2 n' S U h
    |false=>
    cases (kind.toList==(⟨#[119,104,105,108,101]⟩:ByteArray).toList) with
    |true=>exact iw cond _ _ h1 w1 n' S U h
    |false=>
    cases (kind.toList==(⟨#[97,115,115,117,109,101]⟩:ByteArray).toList) with
    |true=>exact sml2_cd h fun q=>by cases q <;> first|exact sml2_ok h|exact sml2_stop h
    |false=>
    cases (kind.toList==(⟨#[97,115,115,101,114,116]⟩:ByteArray).toList) with
    |true=>exact sml2_cd h fun q=>by cases q <;> first|exact sml2_ok h|exact sml2_stop h
    |false=>exact sml2_ok h
  cases n' with
  |zero=>simp only [whM];exact sml2_outr
  |succ n'=>
   simp only [whM];refine sml2_cd h fun q=>?_
   cases q with
   |false=>exact sml2_ok h
   |true=>exact sml2_bind (sml2_bind (ib _ _ hi hw n' S U h) fun S1 U1 q=>sml2_step q) fun S2 U2 q=>iw c _ _ hi hw n' S2 U2 q
theorem sml2_law{ps:List Pc}(hps:WfI ps){F F':Int}{n n':Nat}{l r:List Sm}(hi:Inl ps l r)(hw:wfB ps l=true){S S1 S2:MS}{k k':ByteArray}(h1:allM ps F n l S=some (k,S1))(h2:allM [] F' n' r S=some (k',S2)):k=wTired∨k'=wTired∨(k=k'∧S1.vs=S2.vs∧S1.ar=S2.ar):=by
 have h:=(sml2_all ps hps F F' n).1 l r hi hw n' S S ⟨rfl,rfl,rfl⟩
 unfold allM at h1 h2
 rcases h with h|h|⟨T,h⟩|⟨T,h⟩|⟨T,U,g1,g2,h⟩|⟨q,T,U,g1,g2,h⟩
 ·rw [h] at h1;cases h1
 ·rw [h] at h2;cases h2
 ·rw [h] at h1;simp only [Option.some.injEq,Prod.mk.injEq] at h1;exact .inl h1.1.symm
 ·rw [h] at h2;simp only [Option.some.injEq,Prod.mk.injEq] at h2;exact .inr (.inl h2.1.symm)
 ·rw [g1] at h1;rw [g2] at h2
  simp only [Option.some.injEq,Prod.mk.injEq] at h1 h2;obtain ⟨rfl,rfl⟩:=h1;obtain ⟨rfl,rfl⟩:=h2;exact .inr (.inr ⟨rfl,h.1,h.2.1⟩)
 rw [g1] at h1;rw [g2] at h2;simp only [Option.some.injEq,Prod.mk.injEq] at h1 h2;obtain ⟨rfl,rfl⟩:=h1;obtain ⟨rfl,rfl⟩:=h2;exact .inr (.inr ⟨rfl,h.1,h.2.1⟩)
end Go.Abs
end
section
namespace Go.Abs
open Go
mutual
/-- A value that names neither the owner as a whole nor the box. -/
def okI(id n:Nat):PV→Bool
 |.d _=>true
 |.acc i=>!(i==id)&&!(i==n)
 |.agg cs=>okIs id n cs
 |.tup cs=>okIs id n cs
 |.box i _=>!(i==n)
 |.eptr _=>true
 |.fn _ cs=>okIs id n cs
 |.ifc _ x=>okI id n x
 |.arr i _ _=>!(i==n)
 |.am i _=>!(i==n)
 |.amc i _ _=>!(i==n)
 |.any=>true
def okIs(id n:Nat):List PV→Bool
 |[]=>true
 |c::cs=>okI id n c&&okIs id n cs
end
def okRow(id n:Nat):Row→Bool
 |.box _ cells=>okIs id n cells
 |_=>true
section
variable {P:Program}{T:Tab}{G:Glob}{D:List Deferred}{N B:Nat}{X X':St}{H H' H0:Nat→Option Value}{lim lim' lim0:Nat→Nat}{a:Act}{w w' w0:World}{Wr:Nat→Prop}{id n:Nat}{vs:List Value}{x:Value}
mutual
theorem V.more(h:Fr Wr lim w lim' w')(hH:∀i v,i≠id→i≠n→H i=some v→H' i=some v)(h1:H id=some (hdr vs))(h2:H' id=some (hdr (vs++[x]))):∀(p:PV) (v:Value),okI id n p=true→V H lim w p v→V H' lim' w' p v
 |.d y,v,_,hv=>by
  simp only [V] at hv ⊢
  exact VD.mono h y v hv
 |.acc i,v,ho,hv=>by
  simp only [okI,Bool.and_eq_true,Bool.not_eq_true',beq_eq_false_iff_ne] at ho
  simp only [V] at hv ⊢
  exact hH i v ho.1 ho.2 hv
 |.agg cs,v,ho,hv=>by
  simp only [okI] at ho
  simp only [V] at hv ⊢
  obtain ⟨us,rfl,hc⟩:=hv
  exact ⟨us,rfl,Vs.more h hH h1 h2 cs us ho hc⟩
 |.tup cs,v,ho,hv=>by
  simp only [okI] at ho
  simp only [V] at hv ⊢
  obtain ⟨us,rfl,hc⟩:=hv
  exact ⟨us,rfl,Vs.more h hH h1 h2 cs us ho hc⟩
 |.box i off,v,ho,hv=>by
  simp only [okI,Bool.not_eq_true',beq_eq_false_iff_ne] at ho
  simp only [V] at hv ⊢
  obtain ⟨b,q1,q2⟩:=hv
  exact ⟨b,hH i _ (fun e=>by rw [e,h1] at q1;cases q1) ho q1,q2⟩
 |.eptr cs,v,_,hv=>by
  simp only [V] at hv ⊢
  obtain ⟨b,o,rfl,hc⟩:=hv
  exact ⟨b,o,rfl,VCells.mono h b cs o hc⟩
 |.fn f cs,v,ho,hv=>by
  simp only [okI] at ho
  simp only [V] at hv ⊢
  obtain ⟨us,rfl,hc⟩:=hv
  exact ⟨us,rfl,Vs.more h hH h1 h2 cs us ho hc⟩
 |.ifc t y,v,ho,hv=>by
  simp only [okI] at ho
  simp only [V] at hv ⊢
  obtain ⟨u,rfl,hx⟩:=hv
  exact ⟨u,rfl,V.more h hH h1 h2 y u ho hx⟩
 |.arr i off len,v,ho,hv=>by
  simp only [okI,Bool.not_eq_true',beq_eq_false_iff_ne] at ho
  simp only [V] at hv ⊢
  obtain ⟨b,cap,q1,q2⟩:=hv
  exact ⟨b,cap,hH i _ (fun e=>by rw [e,h1] at q1;cases q1) ho q1,q2⟩
 |.am i j,v,ho,hv=>by
  simp only [okI,Bool.not_eq_true',beq_eq_false_iff_ne] at ho
  simp only [V] at hv ⊢
  obtain ⟨us,q1,q2⟩:=hv
  by_cases hi:i=id
  ·rw [hi] at q1 ⊢
   rw [h1] at q1
   have e:=hdr_inj (Option.some.inj q1)
   rw [← e] at q2
   exact ⟨vs++[x],h2,by rw [List.getElem?_append_left (List.getElem?_eq_some_iff.1 q2).1];exact q2⟩
  exact ⟨us,hH i _ hi ho q1,q2⟩
 |.amc i j off,v,ho,hv=>by
  simp only [okI,Bool.not_eq_true',beq_eq_false_iff_ne] at ho
  simp only [V] at hv ⊢
  obtain ⟨us,b,m,c,q1,q2,q3⟩:=hv
  by_cases hi:i=id
  ·rw [hi] at q1 ⊢
   rw [h1] at q1
   have e:=hdr_inj (Option.some.inj q1)
   rw [← e] at q2
   exact ⟨vs++[x],b,m,c,h2,by rw [List.getElem?_append_left (List.getElem?_eq_some_iff.1 q2).1];exact q2,q3⟩
  exact ⟨us,b,m,c,hH i _ hi ho q1,q2,q3⟩
 |.any,_,_,_=>by simp only [V]
theorem Vs.more(h:Fr Wr lim w lim' w')(hH:∀i v,i≠id→i≠n→H i=some v→H' i=some v)(h1:H id=some (hdr vs))(h2:H' id=some (hdr (vs++[x]))):∀(cs:List PV) (us:List Value),okIs id n cs=true→Vs H lim w cs us→Vs H' lim' w' cs us
 |[],us,_,hv=>by simpa only [Vs] using hv
 |c::cs,us,ho,hv=>by
  simp only [okIs,Bool.and_eq_true] at ho
  simp only [Vs] at hv ⊢
  obtain ⟨u,us,rfl,q1,q2⟩:=hv
  exact ⟨u,us,rfl,V.more h hH h1 h2 c u ho.1 q1,Vs.more h hH h1 h2 cs us ho.2 q2⟩
end
theorem okIs_vec:∀xs:List Value,okIs id n (vecP xs)=true
 |[]=>rfl
 |x::r=>by
  have:=okIs_vec r
  simp only [vecP] at this
  simp only [vecP,List.map_cons,okIs,okI,this,Bool.and_true]
/-- A row beside them. -/
theorem row_more(hF:Fr Wr lim w lim' w')(hH:∀i v,i≠id→i≠n→H i=some v→H' i=some v)(h1:H id=some (hdr vs))(h2:H' id=some (hdr (vs++[x]))){i:Nat}{r:Row}(hi:i≠id)(hn:i≠n)(ho:okRow id n r=true)(hb:∀b,Ow H i b→¬Wr b)(h:RowOk H lim w i r):RowOk H' lim' w' i r:=by
 have hlt:=fun b (q:Ow H i b)=>row_block h q
 cases r with
 |box ty cells=>
  obtain ⟨b,cs,g1,g2,g3,g4⟩:=h
  have hbl:Ow H i b:=(ow_of g1).2 rfl
  obtain ⟨e1,e2⟩:=hF.same b (hlt b hbl) (hb b hbl)
  exact ⟨b,cs,hH i _ hi hn g1,e1.trans g2,Vs.more hF hH h1 h2 cells cs ho g3,e2.trans g4⟩
 |acc e k xs=>
  obtain ⟨u,zs,g1,⟨hl,hq⟩,g2,g3,g4,g5⟩:=h
  refine ⟨u,zs,hH i _ hi hn g1,⟨hl,?_⟩,VDs.mono hF _ _ g2,g3,g4,fun b q=>?_⟩
  ·rcases hq with hq|⟨g,cap,cur,hv,hg,hh,r⟩
   ·exact .inl hq
   have hbl:Ow H i g:=(ow_of g1).2 (by rw [hv];rfl)
   exact .inr ⟨g,cap,cur,hv,hg,((hF.same g (hlt g hbl) (hb g hbl)).1).trans hh,r⟩
  have hbl:Ow H i b:=(ow_of g1).2 (own_blk q)
  rw [(hF.same b (hlt b hbl) (hb b hbl)).2]
  exact g5 b q
 |map t es=>
  obtain ⟨b,ms,g1,g2,g3,g4⟩:=h
  have hbl:Ow H i b:=(ow_of g1).2 rfl
  obtain ⟨e1,e2⟩:=hF.same b (hlt b hbl) (hb b hbl)
  exact ⟨b,ms,hH i _ hi hn g1,e1.trans g2,VE.mono hF es 0 _ g3,e2.trans g4⟩
 |vec ty xs=>
  obtain ⟨b,cs,g1,g2,g3,g4⟩:=h
  have hbl:Ow H i b:=(ow_of g1).2 rfl
  obtain ⟨e1,e2⟩:=hF.same b (hlt b hbl) (hb b hbl)
  exact ⟨b,cs,hH i _ hi hn g1,e1.trans g2,Vs.more hF hH h1 h2 _ cs (okIs_vec xs) g3,e2.trans g4⟩
 |amap t fz es=>
  obtain ⟨b,ms,hs,g1,g2,g3,g4,g5⟩:=h
  have hbl:Ow H i b:=(ow_of g1).2 ⟨.map (some b),by simp,rfl⟩
  obtain ⟨e1,e2⟩:=hF.same b (hlt b hbl) (hb b hbl)
  exact ⟨b,ms,hs,hH i _ hi hn g1,e1.trans g2,ae_mono hF (fun v c hv hc=>hb c ((ow_of g1).2 ⟨v,by simp [hv],hc⟩)) g3,e2.trans g4,g5⟩
theorem ae_snoc{fz:Bool}{s:ByteArray}{l:List Int}{e:MapEntry}{c cap:Nat}{ty:TypeId}(e1:e.key=.string s)(e3:e.val=.slice (some ⟨c,0,none⟩) l.length cap)(e4:l.length≤cap∧cap≤maxLen)(e5:w.heap[c]? = some (.cells (l.map (Value.int .i64)).toArray ty (0,0)))(e6:lim c=(match fz with|true=>l.length|false=>0)):
  ∀ {es:List (ByteArray×List Int)}{i:Nat}{ms:List MapEntry}{hs:List Value},AE lim w fz i es ms hs→e.born=i+es.length→AE lim w fz i (es++[(s,l)]) (ms++[e]) (hs++[e.val])
 |[],i,ms,hs,h,e2=>by
  obtain ⟨rfl,rfl⟩:=h
  exact ⟨e,[],c,ty,[],cap,rfl,rfl,e1,e2,e3,e4,e5,e6,rfl,rfl⟩
 | (k,l')::r,i,ms,hs,h,e2=>by
  obtain ⟨e',ms',c',ty',hs',cap',rfl,rfl,h1,h2,h3,h4,h5,h6,h7⟩:=h
  exact ⟨e',_,c',ty',_,cap',rfl,rfl,h1,h2,h3,h4,h5,h6,ae_snoc e1 e3 e4 e5 e6 h7 (by simp only [List.length_cons] at e2;omega)⟩
theorem Vs_rep{v:Value}:∀ {k:Nat}{us:List Value},Vs H lim w (List.replicate k (.d (.s v))) us→us=List.replicate k v
 |0,us,h=>by simpa [Vs] using h
 |k+1,us,h=>by
  simp only [List.replicate_succ,Vs,V,VD.eq_1] at h
  obtain ⟨u,us,rfl,rfl,h⟩:=h
  rw [Vs_rep h,List.replicate_succ]
/-- The entry is made: the box becomes the owner's. -/
theorem ins_sound (hT:TabOk P T) (hR:Rep D G N H lim X a w) {t kt e:TypeId}{ti:TI}{m y z:Operand}{id n len:Nat}{s:ByteArray}{t' ty:TypeId}{es:List (ByteArray×List Int)}{env':List (Nat×PV)}
  (ht:T t=some ti) (htd:ti.desc=.map kt e) (hs:isStrT T kt=true) (hm:ev G X m=some (.am id 0)) (hy:ev G X y=some (.d (.s (.string s)))) (hz:ev G X z=some (.arr n 0 len))
  (hr:X.rows[id]? = some (.amap t' false es)) (hn:X.rows[n]? = some (.box ty (List.replicate len (.d (.s (.int .i64 0)))))) (hl:X.rows.length=n+1) (hid:id<n) (hBi:B≤id) (hget:amGet es s 0=none)
  (henv:∀j p,look env' j=some p→look X.env j=some p∧okI id n p=true) (hrows:∀(j:Nat) (r:Row),(X.rows.take n)[j]? = some r→okRow id n r=true) :
  ∃H' w',(Instr.mapUpdate t (a.eval m) (a.eval y) (a.eval z)).run P w=.ok () w'∧Rep D G N H' lim ⟨env',(X.rows.take n).set id (.amap t' false (es++[(s,List.replicate len 0)]))⟩ a w'∧Lk B H lim w H' lim w':=by
 obtain ⟨b,ms,hs0,hv,hH,h2,h3,h4,h5⟩:=am_map hR.rows hr (ev_sound hR hm)
 have vy:=ev_sound hR hy
 have vz:=ev_sound hR hz
 simp only [V,VD.eq_1] at vy vz
 obtain ⟨c,cap,hHn,hvz,hc1,hc2⟩:=vz
 obtain ⟨c',cs,g1,g2,g3,g4⟩:=hR.rows.row n _ hn
 rw [hHn] at g1
 simp only [Option.some.injEq,Value.pointer.injEq,Addr.mk.injEq,and_true] at g1
 subst g1
 have hcs:=Vs_rep g3
 subst hcs
 obtain ⟨d,hd,hu⟩:=run_under hT ht
 rw [htd] at hd
 simp only [TKOk] at hd
 subst hd
 have hck:=check_str hT hs false s w
 have hfk:∀r,Instr.findNow .string (.string s) ms.toList 0=some r→(Instr.findKey kt (.string s) ms.toList).run P w=.ok r w:=fun r hr'=>by simp [Instr.findKey,isStrT_run hT hs,hr']
 have hfn:Instr.findNow .string (.string s) ms.toList 0=some none:=by
  rcases find_arr (s:=s) (j:=0) h3 with ⟨_,g⟩|⟨q,l,v,g,_⟩
  ·exact g
  rw [hget] at g;cases g
 have owb:Ow H id b:=(ow_of hH).2 (own_tuple (j:=0) rfl rfl)
 have own_n:Ow H n c:=(ow_of hHn).2 rfl
 have hne:c≠b:=fun q=>hR.rows.apart n id c (by omega) own_n (q▸owb)
 have hF:=setObj_Fr (lim:=lim) (ob':=.map (ms.push ⟨.string s,a.eval z,es.length⟩) (es.length+1)) h2 h4
 have hBlW:∀k,k=b→Bl H k:=fun k q=>⟨id,q▸owb⟩
 refine ⟨fun i=>if i=n then none else if i=id then some (hdr ((Value.map (some b)::hs0)++[a.eval z])) else H i,_,by simp [hv,vy,Instr.mapUpdate,hu,MapKept.run_getObj_map h2,hck,hfk _ hfn,MapKept.run_setObj_map _ h2];rfl,?_⟩
 have hH':∀i v,i≠id→i≠n→H i=some v→(fun i=>if i=n then none else if i=id then some (hdr ((Value.map (some b)::hs0)++[a.eval z])) else H i) i=some v:=fun i v q1 q2 q=>by simp only [if_neg q1,if_neg q2];exact q
 have hid':(fun i=>if i=n then none else if i=id then some (hdr ((Value.map (some b)::hs0)++[a.eval z])) else H i) id=some (hdr ((Value.map (some b)::hs0)++[a.eval z])):=by simp only [if_neg (show id≠n by omega),if_true]
 have hO:∀i k,Ow (fun i=>if i=n then none else if i=id then some (hdr ((Value.map (some b)::hs0)++[a.eval z])) else H i) i k→i≠n∧(Ow H i k∨(i=id∧k=c)):=by
  intro i k ⟨v,q1,q2⟩
  by_cases e1:i=n
  ·simp only [if_pos e1] at q1
   cases q1
  refine ⟨e1,?_⟩
  by_cases e2:i=id
  ·simp only [if_neg e1,if_pos e2,Option.some.injEq] at q1
   subst q1
   obtain ⟨v,m1,m2⟩:=q2
   rcases List.mem_append.1 (show v∈(Value.map (some b)::hs0)++[a.eval z] by simpa using m1) with m1|m1
   ·exact .inl ⟨hdr (Value.map (some b)::hs0),by rw [e2];exact hH,v,by simpa using m1,m2⟩
   rw [List.mem_singleton] at m1
   rw [m1,hvz] at m2
   exact .inr ⟨e2,(Option.some.inj m2).symm⟩
  simp only [if_neg e1,if_neg e2] at q1
  exact .inl ⟨v,q1,q2⟩
 have hBl:∀k,Bl (fun i=>if i=n then none else if i=id then some (hdr ((Value.map (some b)::hs0)++[a.eval z])) else H i) k→Bl H k:=by
  intro k ⟨i,q⟩
  rcases (hO i k q).2 with q|⟨_,q⟩
  ·exact ⟨i,q⟩
  exact ⟨n,q▸own_n⟩
 refine ⟨⟨fun j p hj=>?_,⟨fun j q hj=>?_,fun i j k hij hi hj=>?_,fun j hj=>?_⟩,hR.glob.mono hF hBlW (fun k q=>.inl (hBl k q)),hR.defers,hR.size⟩,hF.weaken hBlW,fun i v hi _ _=>?_,fun k q=>.inl (hBl k q)⟩
 ·obtain ⟨q1,q2⟩:=henv j p hj
  obtain ⟨r1,r2⟩:=hR.env j p q1
  exact ⟨r1,V.more hF hH' hH hid' p _ q2 r2⟩
 ·rcases getElem?_set_some hj with ⟨rfl,rfl⟩|⟨e1,hj⟩
  ·have hnb:∀v k,v∈hs0→blk v=some k→¬k=b:=by
    intro v k m1 m2 q
    rw [List.nodup_cons] at h5
    exact h5.1 (List.mem_filterMap.2 ⟨v,m1,q▸m2⟩)
   have hcn:c∉hs0.filterMap blk:=by
    intro q
    obtain ⟨v,m1,m2⟩:=List.mem_filterMap.1 q
    exact hR.rows.apart n j c (by omega) own_n ((ow_of hH).2 ⟨v,by simp [m1],m2⟩)
   have hae:=ae_snoc (fz:=false) (lim:=lim) (s:=s) (l:=List.replicate len 0) (e:=⟨.string s,a.eval z,es.length⟩) (c:=c) (cap:=cap) (ty:=ty) rfl (by rw [List.length_replicate];exact hvz) (by rw [List.length_replicate];exact ⟨hc1,hc2⟩) (by rw [(hF.same c (lt_heap g2) hne).1,g2,List.map_replicate]) g4 (ae_mono hF hnb h3) (by simp)
   refine ⟨b,ms.push ⟨.string s,a.eval z,es.length⟩,hs0++[a.eval z],hid',?_,?_,h4,?_⟩
   ·simp [lt_heap h2]
   ·simpa using hae
   rw [List.filterMap_append,show List.filterMap blk [a.eval z]=[c] by simp [hvz,blk]]
   rw [List.nodup_cons] at h5
   refine List.nodup_cons.2 ⟨fun q=>?_,List.nodup_append.2 ⟨h5.2,by simp,fun u hu v hv=>?_⟩⟩
   ·rcases List.mem_append.1 q with q|q
    ·exact h5.1 q
    exact hne (List.mem_singleton.1 q).symm
   rw [List.mem_singleton] at hv
   rw [hv]
   exact fun q=>hcn (q▸hu)
  have hjn:j<n:=by
   have:=(List.getElem?_eq_some_iff.1 hj).1
   rw [List.length_take] at this
   omega
  have hq:=hrows j q hj
  rw [List.getElem?_take,if_pos hjn] at hj
  exact row_more hF hH' hH hid' e1 (by omega) hq (fun k q1 q2=>hR.rows.apart j id k e1 q1 (q2▸owb)) (hR.rows.row j q hj)
 ·obtain ⟨i1,i2⟩:=hO i k hi
  obtain ⟨j1,j2⟩:=hO j k hj
  rcases i2 with i2|⟨i2,i3⟩ <;> rcases j2 with j2|⟨j2,j3⟩
  ·exact hR.rows.apart i j k hij i2 j2
  ·exact hR.rows.apart i n k i1 i2 (j3▸own_n)
  ·exact hR.rows.apart j n k j1 j2 (i3▸own_n)
  exact hij (i2.trans j2.symm)
 ·rw [List.length_set,List.length_take] at hj
  by_cases e1:j=n
  ·simp only [if_pos e1]
  simp only [if_neg e1,if_neg (show j≠id by omega)]
  exact hR.rows.dom j (by omega)
 simp only [if_neg (show i≠n by omega),if_neg (show i≠id by omega)]
/-- The operations of a region, and those that come behind. -/
theorem aops_run2 (hT:TabOk P T) {ops:Array Oper}{Q:Exit→Act→World→Prop}{K:St→Prop}{pan:PV→St→Prop}{l2:List Nat}
  (hn:∀X H lim a w,K X→Rep D G N H lim X a w→Lk B H0 lim0 w0 H lim w→wpOps P ops Q l2 a w)
  (hp:∀p X H lim a w v,pan p X→Rep D G N H lim X a w→Lk B H0 lim0 w0 H lim w→V H lim w p v→Q (.panic [{ v,recovered:=false }]) a w) :
  ∀(l:List Nat) (X:St) (H:Nat→Option Value) (lim:Nat→Nat) (a:Act) (w:World),aops P T G N ops pan l K X→Rep D G N H lim X a w→Lk B H0 lim0 w0 H lim w→wpOps P ops Q (l++l2) a w
 |[],X,H,lim,a,w,h,hR,lk=>hn X H lim a w h hR lk
 |i::l,X,H,lim,a,w,h,hR,lk=>by
  simp only [aops] at h
  simp only [List.cons_append,wpOps]
  split at h
  ·rename_i o ho
   rw [nth_ops] at ho
   rw [ho]
   split at h
   ·rename_i hd
    simp only
    rcases guarded_sound hR h with ⟨hw,X1,hR1,_,h⟩|⟨hw,X1,hR1,_,h⟩
    ·rw [if_pos hw]
     refine .inl (act_sound hT hR1 h ?_ ?_)
     ·intro p X' F H' lim' w' v hk hnx hv
      exact aops_run2 hT hn hp l _ H' lim' _ w' hk (rep_put hnx.rep hd hv) (lk.trans hnx.lk)
     intro p X' H' lim' w' v hpp hR' lk' hv
     exact hp p X' H' lim' a w' v hpp hR' (lk.trans (lk' B)) hv
    rw [if_neg (by simp [hw])]
    exact aops_run2 hT hn hp l _ H lim _ w h (rep_put hR1 hd (V_s _)) lk
   exact h.elim
  exact h.elim
/-- What is asked where an array comes into the map of arrays. -/
def InsOk(T:Tab)(G:Glob)(B:Nat)(t:TypeId)(m y z:Operand)(slots:List Nat)(K:St→Prop)(Z:St):Prop:=
 ∃(ti:TI) (kt e:TypeId) (id n len:Nat) (s:ByteArray) (t' ty:TypeId) (es:List (ByteArray×List Int)) (env':List (Nat×PV)),T t=some ti∧ti.desc=.map kt e∧isStrT T kt=true∧ev G Z m=some (.am id 0)∧ev G Z y=some (.d (.s (.string s)))∧ev G Z z=some (.arr n 0 len)∧
  Z.rows[id]? = some (.amap t' false es)∧Z.rows[n]? = some (.box ty (List.replicate len (.d (.s (.int .i64 0)))))∧Z.rows.length=n+1∧id<n∧B≤id∧amGet es s 0=none∧
  pickEnv Z.env slots=some env'∧allB (fun q=>okI id n q.2) env'=true∧allB (okRow id n) (Z.rows.take n)=true∧K ⟨env',(Z.rows.take n).set id (.amap t' false (es++[(s,List.replicate len 0)]))⟩
theorem look_mem{env:List (Nat×PV)}{j:Nat}{p:PV}(h:look env j=some p):(j,p)∈env:=by
 induction env with
 |nil=>cases h
 |cons q r ih=>
  obtain ⟨i,q⟩:=q
  simp only [look] at h
  split at h
  ·rename_i e
   cases h
   rw [e]
   exact List.mem_cons_self ..
  exact List.mem_cons_of_mem _ (ih h)
theorem awp_ins (hT:TabOk P T) {rid:Nat}{ops:Array Oper}{l:List Nat}{j:Nat}{o:Oper}{t:TypeId}{m y z:Operand}{Q:AExit→St→Prop}(slots:List Nat) (hops:List.range ops.size=l++[j]) (hj:nth ops.toList j=some o) (ho:o.op=.mapUpdate t m y z) (hg:o.guard=none) (hd:o.dst=none)
  (h:∀(pan:PV→St→Prop) (K:St→Prop),(∀p Z,Q (.pan p) Z→pan p Z)→(∀Z,InsOk T G B t m y z slots (fun Z=>Q .normal Z) Z→K Z)→aops P T G N ops pan l K X):AWp D P G N B (.region rid ops false) Q X:=by
 intro H lim a w hR
 refine wp_region ?_
 rw [hops]
 refine aops_run2 (B:=B) hT ?_ ?_ l X H lim a w (h (fun p Z=>Q (.pan p) Z) (InsOk T G B t m y z slots fun Z=>Q .normal Z) (fun _ _ q=>q) fun _ q=>q) hR Lk.refl
 ·intro Z H1 lim1 a1 w1 hZ hR1 lk
  obtain ⟨ti,kt,e,id,n,len,s,t',ty,es,env',q1,q2,q3,q4,q5,q6,q7,q8,q9,q10,q11,q12,q13,q14,q15,q16⟩:=hZ
  obtain ⟨H',w',r1,r2,r3⟩:=ins_sound (B:=B) hT hR1 q1 q2 q3 q4 q5 q6 q7 q8 q9 q10 q11 q12 (fun j p hj=>⟨pickEnv_look q13 hj,allB_mem q14 _ (look_mem hj)⟩) (fun j r hj=>allB_mem q15 _ (List.mem_of_getElem? hj))
  rw [nth_ops] at hj
  unfold wpOps
  rw [hj]
  simp only [Region.wanted,hg,if_true]
  refine .inl ?_
  unfold Oper.wp
  have e1:(execOp a1.eval o).run P w1=.ok .skip w':=by simp [execOp,ho,r1]
  rw [e1]
  simp only [Oper.upon,hd,Act.put,wpOps]
  exact ⟨_,H',lim1,r2,lk.trans r3,q16⟩
 intro p Z H1 lim1 a1 w1 v hp hR1 lk hv
 exact ⟨Z,H1,lim1,v,p,rfl,hR1.rows,hv,hR1.defers,lk,hp⟩
def planOk2(ops:Array Oper)(ds:List Nat)(j:Nat):Array Bool→Bool→Plan→Bool
 |listed,_,.done=>(Region.ready .any ops listed==[j])&&(Region.ready .any ops (listed.setIfInBounds j true)==[])&&ds.contains j
 |listed,fresh,.take i r=>takeB ops listed i&&planOk2 ops ds j (listed.setIfInBounds i true) fresh r
 |listed,fresh,.load i r=>fresh&&takeB ops listed i&&PrintLast.Region.closedB .any ops listed&&PrintLast.Region.lastB .any ops listed ds i&&planOk2 ops ds j (listed.setIfInBounds i true) fresh r
 |listed,_,.one i r=>(Region.ready .any ops listed==[i])&&planOk2 ops ds j (listed.setIfInBounds i true) false r
 |_,_,.alt ..=>false
theorem plan_sound2 (hT:TabOk P T) {ops:Array Oper}{KB:Nat→Bool}{ds:List Nat}{Q:AExit→St→Prop}{H00:Nat→Option Value}{lim00:Nat→Nat}{w00:World}{j:Nat}{o:Oper}{t:TypeId}{m y z:Operand}{slots:List Nat}(hs:Region.noSelect ops=true) (h00:Lk B H00 lim00 w00 H0 lim0 w0)
  (hj:nth ops.toList j=some o) (ho:o.op=.mapUpdate t m y z) (hg:o.guard=none) (hd:o.dst=none):∀(p:Plan) (fuel:Nat) (listed:Array Bool) (X:St) (H:Nat→Option Value) (lim:Nat→Nat) (a:Act) (w:World) (fresh:Bool),
  p.depth+1≤fuel→Rep D G N H lim X a w→(∀B',Lk B' H0 lim0 w0 H lim w)→(fresh=true→H=H0∧lim=lim0∧w=w0)→
  planOk2 ops ds j listed fresh p=true→aplan P T G N ops KB ds (fun p X=>Q (.pan p) X) (InsOk T G B t m y z slots fun Z=>Q .normal Z) false p X→PrintLast.wpAnyLast P .any ops (Post D G N B Q H00 lim00 w00) (Agr (some KB) H0 lim0 w0) ds fuel listed a w
 |.done,fuel,listed,X,H,lim,a,w,fresh,hf,hR,hlk,hfr,hok,h=>by
  simp only [planOk2,Bool.and_eq_true,beq_iff_eq] at hok
  simp only [aplan] at h
  simp only [Plan.depth] at hf
  obtain ⟨n,rfl⟩:∃n,fuel=n+1:=⟨fuel - 1,by omega⟩
  refine PrintLast.wpAnyLast_all hok.1.1 (by simp) fun i hi=>?_
  rw [List.mem_singleton.1 hi]
  obtain ⟨ti,kt,e,id,n',len,s,t',ty,es,env',q1,q2,q3,q4,q5,q6,q7,q8,q9,q10,q11,q12,q13,q14,q15,q16⟩:=h
  obtain ⟨H',w',r1,r2,r3⟩:=ins_sound (B:=B) hT hR q1 q2 q3 q4 q5 q6 q7 q8 q9 q10 q11 q12 (fun j p hj=>⟨pickEnv_look q13 hj,allB_mem q14 _ (look_mem hj)⟩) (fun j r hj=>allB_mem q15 _ (List.mem_of_getElem? hj))
  have hjo:=hj
  rw [nth_ops] at hjo
  unfold wpOp
  rw [hjo]
  simp only [Region.wanted,hg,if_true]
  refine .inl ?_
  unfold Oper.wp
  have e1:(execOp a.eval o).run P w=.ok .skip w':=by simp [execOp,ho,r1]
  rw [e1]
  simp only [Oper.upon,hd,Act.put]
  exact ⟨fun hn=>absurd (by simpa using hok.2) hn,PrintLast.wpAnyLast_done hok.1.2 ⟨_,H',lim,r2,(h00.trans (hlk B)).trans r3,q16⟩ n⟩
 |.take i r,fuel,listed,X,H,lim,a,w,fresh,hf,hR,hlk,hfr,hok,h=>by
  simp only [planOk2,takeB,Bool.and_eq_true] at hok
  simp only [aplan] at h
  obtain ⟨o,v,X',h1,h2,h3,h4⟩:=take_sound hT hR h
  simp only [Plan.depth] at hf
  obtain ⟨n,rfl⟩:∃n,fuel=n+1:=⟨fuel - 1,by omega⟩
  have hrec:=plan_sound2 hT hs h00 hj ho hg hd r n (listed.setIfInBounds i true) X' H lim _ w fresh (by omega) h3 hlk hfr hok.2 h4
  exact PrintLast.wpAnyLast_any h1 (Region.noSelect_spec hs) (fun c a w q=>post_put q) n listed a w (Region.free_spec h1 hok.1.2) (by simpa using hok.1.1) (h2.imp (fun ⟨q1,q2⟩=>⟨q1,fun w1=>q2 w1 trivial⟩) id) hrec
 |.load i r,fuel,listed,X,H,lim,a,w,fresh,hf,hR,hlk,hfr,hok,h=>by
  simp only [planOk2,takeB,Bool.and_eq_true] at hok
  simp only [aplan] at h
  obtain ⟨⟨⟨⟨o1,o2,o3⟩,o4⟩,o5⟩,o6⟩:=hok
  obtain ⟨e1,e2,e3⟩:=hfr o1
  obtain ⟨o,v,X',h1,h2,h3,h4⟩:=take_sound hT hR h
  simp only [Plan.depth] at hf
  obtain ⟨n,rfl⟩:∃n,fuel=n+1:=⟨fuel - 1,by omega⟩
  have hrec:=plan_sound2 hT hs h00 hj ho hg hd r n (listed.setIfInBounds i true) X' H lim _ w fresh (by omega) h3 hlk hfr o6 h4
  exact PrintLast.wpAnyLast_take h1 hs o3 o2 o4 o5 (fun c a w q=>post_put q) (by rw [← e1,← e2,← e3];exact h2) (by rw [← e1,← e2,← e3];exact Agr.refl _ _ _ _) hrec
 |.one i r,fuel,listed,X,H,lim,a,w,fresh,hf,hR,hlk,hfr,hok,h=>by
  simp only [planOk2,Bool.and_eq_true,beq_iff_eq] at hok
  simp only [aplan] at h
  simp only [Plan.depth] at hf
  obtain ⟨n,rfl⟩:∃n,fuel=n+1:=⟨fuel - 1,by omega⟩
  refine PrintLast.wpAnyLast_all hok.1 (by simp) fun k hk=>?_
  rw [List.mem_singleton.1 hk]
  exact alt_sound hT hR hlk h00 h fun X' H' lim' a' w' q1 q2 q3=>plan_sound2 hT hs h00 hj ho hg hd r n (listed.setIfInBounds i true) X' H' lim' a' w' false (by omega) q2 q3 (fun e=>by cases e) hok.2 q1
 |.alt i p o,fuel,listed,X,H,lim,a,w,fresh,hf,hR,hlk,hfr,hok,h=>by
  simp [planOk2] at hok
def planAll2(ops:Array Oper)(ds:List Nat)(j:Nat)(p:Plan):Bool:=Region.noSelect ops&&planOk2 ops ds j (Array.replicate ops.size false) true p&&Nat.ble (p.depth+1) ops.size
/-- The same where the region draws its order. -/
theorem awp_insD (hT:TabOk P T) (hm:P.follows .mixedOrders=true) {rid:Nat}{ops:Array Oper}{o:Oper}{t:TypeId}{m y z:Operand}{Q:AExit→St→Prop}(p:Plan) (ds:List Nat) (KB:Nat→Bool) (j:Nat) (slots:List Nat) (hp:planAll2 ops ds j p=true) (hj:nth ops.toList j=some o) (ho:o.op=.mapUpdate t m y z) (hg:o.guard=none) (hd:o.dst=none)
  (h:∀(pan:PV→St→Prop) (K:St→Prop),(∀p Z,Q (.pan p) Z→pan p Z)→(∀Z,InsOk T G B t m y z slots (fun Z=>Q .normal Z) Z→K Z)→aplan P T G N ops KB ds pan K false p X):AWp D P G N B (.region rid ops true) Q X:=by
 intro H lim a w hR
 simp only [planAll2,Bool.and_eq_true] at hp
 obtain ⟨⟨h1,h2⟩,h3⟩:=hp
 have hw:Rep D G N H lim X a { w with drawn:=w.drawn+1 }:=by
  have hF:Fr (fun _=>False) lim w lim { w with drawn:=w.drawn+1 }:=⟨rfl,rfl,rfl,Nat.le_refl _,fun _ _=>⟨Nat.le_refl _,fun _ _=>rfl⟩,fun _ _ _=>⟨rfl,rfl⟩⟩
  exact ⟨env_mono hF (fun _ _ q=>q) hR.env,⟨fun id r hr=>row_mono hF (fun _ _ q=>q) (fun _ _ q=>q) (hR.rows.row id r hr),hR.rows.apart,hR.rows.dom⟩,hR.glob.mono hF (fun _ q=>q.elim) (fun _ q=>.inl q),hR.defers,hR.size⟩
 have hl:Lk B H lim w H lim { w with drawn:=w.drawn+1 }:=⟨⟨rfl,rfl,rfl,Nat.le_refl _,fun _ _=>⟨Nat.le_refl _,fun _ _=>rfl⟩,fun _ _ _=>⟨rfl,rfl⟩⟩,fun _ _ _ _ _=>rfl,fun _ q=>.inl q⟩
 exact PrintLast.wp_region_last hm (plan_sound2 hT h1 hl hj ho hg hd p ops.size _ X H lim a _ true (Nat.le_of_ble_eq_true h3) hw (fun _=>Lk.refl) (fun _=>⟨rfl,rfl,rfl⟩) h2 (h _ _ (fun _ _ q=>q) fun _ q=>q))
/-- How much of a block is not written any more, once the arrays are read alone. -/
def limF:List Value→List (ByteArray×List Int)→(Nat→Nat)→Nat→Nat
 |v::hs,(_,l)::es,lim,c=>if blk v=some c then l.length else limF hs es lim c
 |_,_,lim,c=>lim c
theorem limF_not{c:Nat}:∀ {hs:List Value}{es:List (ByteArray×List Int)},c∉hs.filterMap blk→limF hs es lim c=lim c
 |[],_,_=>by simp only [limF]
 |_::_,[],_=>by simp only [limF]
 |v::hs,(k,l)::es,h=>by
  have hv:blk v≠some c:=fun e=>h (List.mem_filterMap.2 ⟨v,List.mem_cons_self ..,e⟩)
  simp only [limF,if_neg hv]
  exact limF_not fun q=>by
   obtain ⟨u,q1,q2⟩:=List.mem_filterMap.1 q
   exact h (List.mem_filterMap.2 ⟨u,List.mem_cons_of_mem _ q1,q2⟩)
theorem ae_fz:∀ {es:List (ByteArray×List Int)}{i:Nat}{ms:List MapEntry}{hs:List Value},AE lim w false i es ms hs→(hs.filterMap blk).Nodup→(∀c,c∈hs.filterMap blk→lim' c=limF hs es lim c)→AE lim' w true i es ms hs
 |[],_,_,_,h,_,_=>h
 | (k,l)::r,i,ms,hs,h,hn,hc=>by
  obtain ⟨e,ms',c,ty,hs',cap,rfl,rfl,h1,h2,h3,h4,h5,h6,h7⟩:=h
  have e1:blk e.val=some c:=by rw [h3];rfl
  rw [List.filterMap_cons_some e1,List.nodup_cons] at hn
  rw [List.filterMap_cons_some e1] at hc
  refine ⟨e,ms',c,ty,hs',cap,rfl,rfl,h1,h2,h3,h4,h5,?_,ae_fz h7 hn.2 fun d hd=>?_⟩
  ·rw [hc c (List.mem_cons_self ..)]
   simp only [limF,if_pos e1]
  rw [hc d (List.mem_cons_of_mem _ hd)]
  have:blk e.val≠some d:=fun q=>hn.1 (by rw [e1] at q;rw [Option.some.inj q];exact hd)
  simp only [limF,if_neg this]
theorem ae_le{c:Nat}:∀ {es:List (ByteArray×List Int)}{i:Nat}{ms:List MapEntry}{hs:List Value},AE lim w false i es ms hs→lim c≤limF hs es lim c
 |[],_,_,_,⟨_,h⟩=>by subst h;simp only [limF];exact Nat.le_refl _
 | (k,l)::r,i,ms,hs,h=>by
  obtain ⟨e,ms',c',ty,hs',cap,rfl,rfl,h1,h2,h3,h4,h5,h6,h7⟩:=h
  have e1:blk e.val=some c':=by rw [h3];rfl
  by_cases q:c'=c
  ·subst q
   simp only at h6
   rw [h6]
   exact Nat.zero_le _
  simp only [limF,if_neg (show blk e.val≠some c from fun z=>q (by rw [e1] at z;exact Option.some.inj z))]
  exact ae_le h7
/-- Arrays that are written no more are read as data. -/
theorem sub_fz(id:Nat){t:TypeId}{es:List (ByteArray×List Int)}(hr:X.rows[id]? = some (.amap t false es)):Sub D G N B X ⟨X.env,X.rows.set id (.amap t true es)⟩:=by
 intro H lim a w hR
 obtain ⟨b,ms,hs,hH,h2,h3,h4,h5⟩:=hR.rows.row id _ hr
 have h5':=h5
 rw [List.nodup_cons] at h5'
 have hO:∀c,c∈hs.filterMap blk→Ow H id c:=fun c q=>by
  obtain ⟨v,q1,q2⟩:=List.mem_filterMap.1 q
  exact (ow_of hH).2 ⟨v,by simp [q1],q2⟩
 have hF:Fr (fun b=>Ow H id b) lim w (limF hs es lim) w:=⟨rfl,rfl,rfl,Nat.le_refl _,fun c _=>⟨ae_le h3,fun _ _=>rfl⟩,fun c _ hn=>⟨rfl,limF_not fun q=>hn (hO c q)⟩⟩
 refine ⟨H,limF hs es lim,⟨env_mono hF (fun _ _ q=>q) hR.env,⟨fun j q hj=>?_,hR.rows.apart,fun j hj=>hR.rows.dom j (by simpa using hj)⟩,hR.glob.mono hF (fun c q=>⟨id,q⟩) (fun _ q=>.inl q),hR.defers,hR.size⟩,hF.weaken fun c q=>⟨id,q⟩,fun _ _ _ _ _=>rfl,fun _ q=>.inl q⟩
 rcases getElem?_set_some hj with ⟨rfl,rfl⟩|⟨hne,hj⟩
 ·exact ⟨b,ms,hs,hH,h2,ae_fz h3 h5'.2 fun _ _=>rfl,by rw [limF_not h5'.1];exact h4,h5⟩
 exact row_mono hF (fun _ _ q=>q) (fun c hc q=>hR.rows.apart j id c hne hc q) (hR.rows.row j q hj)
theorem awp_fz(id:Nat){t:TypeId}{es:List (ByteArray×List Int)}{c:Code}{Q:AExit→St→Prop}(hr:X.rows[id]? = some (.amap t false es))(h:AWp D P G N B c Q ⟨X.env,X.rows.set id (.amap t true es)⟩):AWp D P G N B c Q X:=awp_sub (sub_fz id hr) h
/-- A scope through which the code goes without a goto; a label. -/
theorem awp_scope{c:Code}{Q:AExit→St→Prop}(h:AWp D P G N B c Q X):AWp D P G N B (.scope c) Q X:=by
 intro H lim a w hR
 refine wp_scope_straight (wp_mono (h H lim a w hR) ?_)
 intro e a' w' hp
 cases e <;> first|exact hp|exact hp.elim
theorem awp_label{l:Nat}{Q:AExit→St→Prop}(h:Q .normal X):AWp D P G N B (.label l) Q X:=fun H lim _ _ hR=>wp_label ⟨X,H,lim,hR,Lk.refl,h⟩
end
end Go.Abs
end
section
namespace Go.Abs
open Go Go.Proofs
/-- Variables, as the entries of a map. -/
def vsL(vs:List (ByteArray×Int)):List (ByteArray×Data):=vs.map fun q=>(q.1,num q.2)
theorem vsL_put:∀(vs:List (ByteArray×Int)) (s:ByteArray) (n:Int),mapPut (vsL vs) s (num n)=vsL (putV vs s n)
 |[],_,_=>rfl
 | (k,q)::r,s,n=>by
  have ih:=vsL_put r s n;simp only [vsL] at ih;simp only [vsL,List.map_cons,mapPut,putV]
  cases (s==k)
  ·simp only [List.map_cons,ih]
  rfl
theorem vsL_get:∀(vs:List (ByteArray×Int)) (s:ByteArray),mapGet (vsL vs) s=some (num (getV vs s))∨(mapGet (vsL vs) s=none∧getV vs s=0)
 |[],_=>.inr ⟨rfl,rfl⟩
 | (k,q)::r,s=>by
  have ih:=vsL_get r s;simp only [vsL] at ih;simp only [vsL,List.map_cons,mapGet,getV]
  cases (s==k)
  ·exact ih
  exact .inl rfl
theorem vsL_ent(vs:List (ByteArray×Int))(s:ByteArray)(n:Int):(mapEnt (vsL vs) s (num 0)).2.1<(mapEnt (vsL vs) s (num 0)).2.2.length∧(mapEnt (vsL vs) s (num 0)).2.2.modify (mapEnt (vsL vs) s (num 0)).2.1 (fun e=>(e.1,num n))=vsL (putV vs s n):=by
 have h:=ent_put (vsL vs) s (num 0) (num n);rw [vsL_put] at h;exact h
theorem ar_get:∀(ar:List (ByteArray×List Int)) (s:ByteArray) (i:Nat),(amGet ar s i=none∧getA ar s=[])∨∃j,amGet ar s i=some (i+j,getA ar s)∧ar[j]? = some (s,getA ar s)∧∀k n,setA ar s k n=ar.set j (s,(getA ar s).set k n)
 |[],_,_=>.inl ⟨rfl,rfl⟩
 | (k,l)::r,s,i=>by
  simp only [amGet,getA,setA]
  cases hb:(s==k)
  ·rcases ar_get r s (i+1) with ⟨h1,h2⟩|⟨j,h1,h2,h3⟩
   ·exact .inl ⟨h1,h2⟩
   exact .inr ⟨j+1,by rw [h1,show i+1+j=i+(j+1) by omega],by simpa using h2,fun k n=>by simp only [h3 k n,List.set_cons_succ]⟩
  have hs:s=k:=(MapKept.bytes_beq _ _).1 hb;subst hs;exact .inr ⟨0,rfl,rfl,fun k n=>rfl⟩
theorem lk_vs{T:Tab}{e:TypeId}{vs:List (ByteArray×Int)}{s:ByteArray}{k:PV→Prop}(hz:zeroP T e=some (.d (num 0)))(h:k (.d (num (getV vs s)))):∃o,mapGet (vsL vs) s=o∧match o with
  |some p=>okK false (.d p) true k
  |none=>match zeroP T e with
   |some z=>okK false z false k
   |none=>False:=by
 refine ⟨_,rfl,?_⟩
 rcases vsL_get vs s with h1|⟨h1,h2⟩
 ·rw [h1]
  exact h
 rw [h1,hz];rw [h2] at h;exact h
theorem lk_ar {T:Tab}{e:TypeId}{fz:Bool}{id:Nat}{ar:List (ByteArray×List Int)}{s:ByteArray}{k:PV→Prop}(hz:zeroP T e=some (.d (.s (.slice none 0 0))))
  (h1:∀j,amGet ar s 0=some (j,getA ar s)→ar[j]? = some (s,getA ar s)→(∀k n,setA ar s k n=ar.set j (s,(getA ar s).set k n))→k (amPV fz id j (getA ar s))) (h2:getA ar s=[]→k (.d (.s (.slice none 0 0)))):∃o,amGet ar s 0=o∧match o with
  |some (j,l)=>okK false (amPV fz id j l) true k
  |none=>match zeroP T e with
   |some z=>okK false z false k
   |none=>False:=by
 refine ⟨_,rfl,?_⟩
 rcases ar_get ar s 0 with ⟨q1,q2⟩|⟨j,q1,q2,q3⟩
 ·rw [q1,hz]
  exact h2 q2
 rw [Nat.zero_add] at q1;rw [q1];exact h1 j q1 q2 q3
/-- Procedures, as the entries of a map. -/
def prL(ps:List Pc):List (ByteArray×Data):=ps.map fun f=>(f.name,.agg f.cs)
theorem prL_get:∀(ps:List Pc) (s:ByteArray),mapGet (prL ps) s=(findP ps s).map fun f=>.agg f.cs
 |[],_=>rfl
 |f::r,s=>by
  have ih:=prL_get r s;simp only [prL,findP] at ih
  have e:(s==f.name)=(f.name.toList==s.toList):=by
   rw [beq_bytes]
   cases q:(f.name.toList==s.toList) with
   |true=>exact decide_eq_true (eqW_eq q).symm
   |false=>
    refine decide_eq_false fun h=>?_;rw [h] at q
    simp at q
  simp only [prL,findP,List.map_cons,mapGet,List.find?_cons,e]
  cases (f.name.toList==s.toList)
  ·exact ih
  rfl
theorem mapPut_new:∀ {m:List (ByteArray×Data)}{s:ByteArray}{p:Data},s∉m.map (·.1)→mapPut m s p=m++[(s,p)]
 |[],_,_,_=>rfl
 | (k,q)::r,s,p,h=>by
  simp only [List.map_cons,List.mem_cons,not_or] at h
  have e:(s==k)=false:=by rw [beq_bytes];exact decide_eq_false h.1
  simp only [mapPut,e,mapPut_new h.2,List.cons_append]
theorem amGet_new:∀ {m:List (ByteArray×List Int)}{s:ByteArray}{i:Nat},s∉m.map (·.1)→amGet m s i=none
 |[],_,_,_=>rfl
 | (k,q)::r,s,i,h=>by
  simp only [List.map_cons,List.mem_cons,not_or] at h
  have e:(s==k)=false:=by rw [beq_bytes];exact decide_eq_false h.1
  simp only [amGet,e,amGet_new h.2]
end Go.Abs
end
section
namespace Go.Abs
open Go Go.Proofs
attribute [local irreducible] aCall AWp Sub Spec
/-- A number that the machine may have. -/
def sml(n:Int):Prop:=-1099511627776≤n∧n≤1099511627776
def VOk(vs:List (ByteArray×Int)):Prop:=∀q,q∈vs→sml q.2
def AOk(ar:List (ByteArray×List Int)):Prop:=∀q,q∈ar→∀n,n∈q.2→sml n
theorem sml0:sml 0:=⟨by decide,by decide⟩
theorem getV_sml:∀ {vs:List (ByteArray×Int)}{s:ByteArray},VOk vs→sml (getV vs s)
  |[],_,_=>sml0
  | (k,p)::r,s,h=>by
    simp only [getV]
    cases (s==k)
    · exact getV_sml fun q hq=>h q (List.mem_cons_of_mem _ hq)
    exact h _ (List.mem_cons_self ..)
theorem putV_sml:∀ {vs:List (ByteArray×Int)}{s:ByteArray}{n:Int},VOk vs→sml n→VOk (putV vs s n)
  |[],s,n,_,hn=>fun q hq=>by
    rw [List.mem_singleton.1 hq];exact hn
  | (k,p)::r,s,n,h,hn=>by
    have h1:=putV_sml (s:=s) (fun q hq=>h q (List.mem_cons_of_mem _ hq)) hn;simp only [putV]
    cases (s==k)
    · intro q hq
      rcases List.mem_cons.1 hq with rfl|hq
      · exact h _ (List.mem_cons_self ..)
      exact h1 q hq
    intro q hq
    rcases List.mem_cons.1 hq with rfl|hq
    · exact hn
    exact h q (List.mem_cons_of_mem _ hq)
theorem getA_sml:∀ {ar:List (ByteArray×List Int)}{s:ByteArray}{n:Int},AOk ar→n∈getA ar s→sml n
  |[],_,_,_,hn=>by cases hn
  | (k,p)::r,s,n,h,hn=>by
    simp only [getA] at hn
    cases hb:(s==k) with
    |false=>rw [hb] at hn;exact getA_sml (fun q hq=>h q (List.mem_cons_of_mem _ hq)) hn
    |true=>rw [hb] at hn;exact h _ (List.mem_cons_self ..) n hn
theorem setA_sml:∀ {ar:List (ByteArray×List Int)}{s:ByteArray}{i:Nat}{n:Int},AOk ar→sml n→AOk (setA ar s i n)
  |[],_,_,_,h,_=>h
  | (k,p)::r,s,i,n,h,hn=>by
    have h1:=setA_sml (s:=s) (i:=i) (fun q hq=>h q (List.mem_cons_of_mem _ hq)) hn;simp only [setA]
    cases (s==k)
    · intro q hq
      rcases List.mem_cons.1 hq with rfl|hq
      · exact h _ (List.mem_cons_self ..)
      exact h1 q hq
    intro q hq
    rcases List.mem_cons.1 hq with rfl|hq
    · intro m hm
      rcases List.mem_or_eq_of_mem_set hm with hm|rfl
      · exact h _ (List.mem_cons_self ..) m hm
      exact hn
    exact h q (List.mem_cons_of_mem _ hq)
theorem smallM_sml{n c:Int}(h:smallM n=some c):c=n∧sml n:=by
  unfold smallM at h
  split at h
  · cases h
  rename_i hf;simp only [farM,Bool.or_eq_false_iff,decide_eq_false_iff_not] at hf;simp only [Option.some.injEq] at h;exact ⟨h.symm,by unfold sml;omega⟩
theorem tdiv_sml{a b:Int}(h:sml a):sml (IntKind.i64.wrap (Int.tdiv a b)):=by
  have h1:(Int.tdiv a b).natAbs=a.natAbs / b.natAbs:=Int.natAbs_tdiv a b;have h2:=Nat.div_le_self a.natAbs b.natAbs
  unfold sml at h ⊢
  rw [i64_id (by omega) (by omega)];omega
theorem tmod_sml{a b:Int}(h:sml a):sml (Int.tmod a b):=by
  have h1:(Int.tmod a b).natAbs=a.natAbs % b.natAbs:=Int.natAbs_tmod a b;have h2:=Nat.mod_le a.natAbs b.natAbs
  unfold sml at h ⊢
  omega
theorem ev_ar{vs:List (ByteArray×Int)}{ar:List (ByteArray×List Int)}(hV:VOk vs)(hA:AOk ar):(∀(e:Ex) (n:Int),evM vs ar e=some n→sml n):=by
  refine Ex.rec (motive_1:=fun e=>∀n,evM vs ar e=some n→sml n) (motive_2:=fun l=>∀e,e∈l→∀n,evM vs ar e=some n→sml n) ?_ ?_ ?_
  · intro op k nm l ih n h
    unfold evM at h
    repeat' split at h
    all_goals first
      |cases h;done
      |exact (smallM_sml h).1▸(smallM_sml h).2
      | (simp only [Option.some.injEq] at h;subst h;first
          |exact getV_sml hV
          |exact tdiv_sml (ih _ (List.mem_cons_self ..) _ (by assumption))
          |exact tmod_sml (ih _ (List.mem_cons_self ..) _ (by assumption))
          | (have:=ih _ (List.mem_cons_self ..) _ (by assumption)
             unfold sml at this ⊢
             rw [i64_id (by omega) (by omega)]
             omega))
      |exact getA_sml hA (List.mem_of_getElem? h)
  · intro e he
    cases he
  intro x l hx hl e he
  rcases List.mem_cons.1 he with rfl|he
  · exact hx
  exact hl e he
/-- The state's terms and cells, as a function of State's has them. -/
def stR(vs:List (ByteArray×Int))(ar:List (ByteArray×List Int)):List Row:=[.map 185 (vsL vs),.amap 186 false ar]
def StP:PV:=.agg [.acc 0,.am 1 0]
def wrongP:PV:=.d (.ifc 273 (str wWrong))
def outN:Option Int→Out
  |some n=>.ret (.d (num n))
  |none=>.pan wrongP
theorem sh1{l:List Ex}(h:(Nat.ble 1 l.length&&shL l)=true):∃x r,l=x::r∧shE x=true:=by
  cases l with
  |nil=>cases h
  |cons x r=>
    simp only [shL,Bool.and_eq_true] at h;exact ⟨x,r,rfl,h.2.1⟩
theorem sh2{l:List Ex}(h:(Nat.ble 2 l.length&&shL l)=true):∃x y r,l=x::y::r∧shE x=true∧shE y=true:=by
  match l,h with
  |[],h=>cases h
  |[x],h=>cases h
  |x::y::r,h=>
    simp only [shL,Bool.and_eq_true] at h;exact ⟨x,y,r,rfl,h.2.1,h.2.2.1⟩
theorem exs_0(x:Ex)(r:List Ex):(exs (x::r))[(0:Int).toNat]? = some x.cs:=rfl
theorem exs_1(x y:Ex)(r:List Ex):(exs (x::y::r))[(1:Int).toNat]? = some y.cs:=rfl
theorem neq0{b:Int}(h:(b==0)=false):b≠0:=fun q=>by rw [q] at h;cases h
theorem maxI_pos{a:Int}(h:sml a)(h0:(a != 0)=true):maxI a (IntKind.i64.wrap (0 - a))≠0:=by
  have h1:a≠0:=by simpa using h0
  unfold sml at h
  rw [i64_id (by omega) (by omega)]
  unfold maxI
  split <;> omega
section
variable (G:Glob)
theorem far_spec(n:Int):Spec Tryz.prog G 93 [.d (num n)] [] (.ret (.d (.s (.bool (farM n))))) []:=by
  obtain ⟨b,hG⟩:∃b,farM n=b:=⟨_,rfl⟩;rw [hG];simp only [farM] at hG;refine spec_of_awp2 TT_ok (N:=9) Tryz.func93 rfl (by rfl) (Nat.le_refl _) rfl ?_;refine rz [0] ?_;refine rgs fun E K J O=>?_;refine onB_intro (fun h1=>?_) (fun h1=>?_)
  · refine O _ (aN [2] rfl rfl ?_);clear O J K E;refine awp_ret ?_
    try simp only [bn,h1] at hG
    subst hG;exact ⟨_,[],_,[.d (.s (.bool _))],rfl,rfl,rfl,rfl,rfl,PWs.refl _,rfl⟩
  refine O _ (aN [2] rfl rfl ?_);clear O J K E;refine awp_ret ?_
  try simp only [bn,h1] at hG
  subst hG;exact ⟨_,[],_,[.d (.s (.bool _))],rfl,rfl,rfl,rfl,rfl,PWs.refl _,rfl⟩
theorem small_yes(n:Int):Spec Tryz.prog G 261 [.d (num n),.d (.s (.bool true))] [] (outN (smallM n)) []:=by
  obtain ⟨b,hG⟩:∃b,smallM n=b:=⟨_,rfl⟩;rw [hG];simp only [smallM] at hG;refine spec_of_awp2 TT_ok (N:=13) Tryz.func261 rfl (by rfl) (Nat.le_refl _) rfl ?_;refine rz [0,1] ?_;refine awp_seq ?_;refine rgs fun E K J O=>?_;refine aS [] (far_spec G n) ?_;refine O _ (aN [0,10] rfl rfl ?_);clear O J K E;refine awp_cond2 rfl (onB_intro (fun h1=>?_) (fun h1=>?_))
  · refine rgn fun E K J O=>?_;refine J _ _ ?_
    try simp only [h1] at hG
    subst hG;exact ⟨[],_,rfl,rfl,rfl,rfl,rfl⟩
  refine awp_skip ?_;refine rz [4] ?_;refine awp_ret ?_
  try simp only [h1] at hG
  subst hG;exact ⟨_,[],_,[.d (num _)],rfl,rfl,rfl,rfl,rfl,PWs.refl _,rfl⟩
theorem small_no(n:Int):Spec Tryz.prog G 261 [.d (num n),.d (.s (.bool false))] [] (.pan wrongP) []:=by
  refine spec_of_awp2 TT_ok (N:=13) Tryz.func261 rfl (by rfl) (Nat.le_refl _) rfl ?_;refine rz [0,1] ?_;refine awp_seq ?_;refine rz [0,10] ?_;refine awp_cond rfl ?_;refine rgn fun E K J O=>?_;refine J _ _ ?_;exact ⟨[],_,rfl,rfl,rfl,rfl,rfl⟩
def outPr:Option Int→PV
  |some n=>.tup [.d (num n),.d (.s (.bool true))]
  |none=>.tup [.d (num 0),.d (.s (.bool false))]
theorem product_spec(a b:Int)(ha:sml a):Spec Tryz.prog G 262 [.d (num a),.d (num b)] [] (.ret (outPr (prodM a b))) []:=by
  obtain ⟨R,hG⟩:∃R,prodM a b=R:=⟨_,rfl⟩;rw [hG];simp only [prodM] at hG;refine spec_of_awp2 TT_ok (N:=23) Tryz.func262 rfl (by rfl) (Nat.le_refl _) rfl ?_;refine rz [0,1] ?_;refine awp_seq ?_;refine rgs fun E K J O=>?_;refine onB_intro (fun h1=>?_) (fun h1=>?_)
  · refine And.intro (maxI_pos ha h1) ?_
    refine O _ (aN [0,1,19] rfl rfl ?_);clear O J K E;refine awp_cond2 rfl (onB_intro (fun h2=>?_) (fun h2=>?_))
    · refine rz [4,5] ?_;refine awp_ret ?_
      try simp only [bn,h1,h2] at hG
      subst hG;exact ⟨_,[],_,[.d (num _),.d (.s (.bool _))],rfl,rfl,rfl,rfl,rfl,PWs.refl _,rfl⟩
    refine awp_skip ?_;refine rz [4,5] ?_;refine awp_ret ?_
    try simp only [bn,h1,h2] at hG
    subst hG;exact ⟨_,[],_,[.d (num _),.d (.s (.bool _))],rfl,rfl,rfl,rfl,rfl,PWs.refl _,rfl⟩
  refine O _ (aN [0,1,19] rfl rfl ?_);clear O J K E;refine awp_cond rfl ?_;refine awp_skip ?_;refine rz [4,5] ?_;refine awp_ret ?_
  try simp only [bn,h1] at hG
  subst hG;exact ⟨_,[],_,[.d (num _),.d (.s (.bool _))],rfl,rfl,rfl,rfl,rfl,PWs.refl _,rfl⟩
theorem holds_spec(a:Int)(rel:ByteArray)(b:Int):Spec Tryz.prog G 189 [.d (num a),.d (str rel),.d (num b)] [] (.ret (.d (.s (.bool (holdsM a rel b))))) []:=by
  obtain ⟨R,hG⟩:∃R,holdsM a rel b=R:=⟨_,rfl⟩;rw [hG];simp only [holdsM] at hG;refine spec_of_awp2 TT_ok (N:=36) Tryz.func189 rfl (by rfl) (Nat.le_refl _) rfl ?_;refine rz [0,1,2] ?_;refine awp_seq ?_;refine rz [0,2,7] ?_;refine awp_block ?_;refine rz [0,2,7,8] ?_;refine awp_cond2 rfl (onB_intro (fun h1=>?_) (fun h1=>?_))
  · refine rz [6] ?_;refine awp_ret ?_
    try simp only [h1] at hG
    subst hG;exact ⟨_,[],_,[.d (.s (.bool _))],rfl,rfl,rfl,rfl,rfl,PWs.refl _,rfl⟩
  refine rz [0,2,7,13] ?_;refine awp_cond2 rfl (onB_intro (fun h2=>?_) (fun h2=>?_))
  · refine rz [6] ?_;refine awp_ret ?_
    try simp only [h1,h2] at hG
    subst hG;exact ⟨_,[],_,[.d (.s (.bool _))],rfl,rfl,rfl,rfl,rfl,PWs.refl _,rfl⟩
  refine rz [0,2,7,18] ?_;refine awp_cond2 rfl (onB_intro (fun h3=>?_) (fun h3=>?_))
  · refine rz [6] ?_;refine awp_ret ?_
    try simp only [h1,h2,h3] at hG
    subst hG;exact ⟨_,[],_,[.d (.s (.bool _))],rfl,rfl,rfl,rfl,rfl,PWs.refl _,rfl⟩
  refine rz [0,2,7,23] ?_;refine awp_cond2 rfl (onB_intro (fun h4=>?_) (fun h4=>?_))
  · refine rz [6] ?_;refine awp_ret ?_
    try simp only [h1,h2,h3,h4] at hG
    subst hG;exact ⟨_,[],_,[.d (.s (.bool _))],rfl,rfl,rfl,rfl,rfl,PWs.refl _,rfl⟩
  refine rz [0,2,28] ?_;refine awp_cond2 rfl (onB_intro (fun h5=>?_) (fun h5=>?_))
  · refine rz [6] ?_;refine awp_ret ?_
    try simp only [h1,h2,h3,h4,h5] at hG
    subst hG;exact ⟨_,[],_,[.d (.s (.bool _))],rfl,rfl,rfl,rfl,rfl,PWs.refl _,rfl⟩
  refine awp_skip ?_;refine rz [6] ?_;refine awp_ret ?_
  try simp only [h1,h2,h3,h4,h5] at hG
  subst hG;exact ⟨_,[],_,[.d (.s (.bool _))],rfl,rfl,rfl,rfl,rfl,PWs.refl _,rfl⟩
def EvOk(m:Nat):Prop:=∀(vs:List (ByteArray×Int)) (ar:List (ByteArray×List Int)) (e:Ex),fuE e≤m→shE e=true→VOk vs→AOk ar→Spec Tryz.prog G 220 [StP,.d (.agg e.cs)] (stR vs ar) (outN (evM vs ar e)) (stR vs ar)
def p220_7:Plan:=(.load 0 (.take 1 (.load 2 (.take 3 (.load 4 (.one 5 (.take 6 .done)))))))
def p220_13:Plan:=(.load 0 (.take 1 (.load 2 (.take 3 (.load 4 (.one 5 (.take 6 (.take 7 .done))))))))
def p220_14:Plan:=(.load 0 (.take 1 (.load 2 (.take 3 (.load 4 (.one 5 (.take 6 (.take 7 .done))))))))
def p220_15:Plan:=(.load 0 (.take 1 (.load 2 (.take 3 (.load 4 (.one 5 (.take 6 .done)))))))
theorem eval_step(m:Nat)(ih:EvOk G m):EvOk G (m+1):=by
  intro vs ar e hm hsh hV hA;obtain ⟨op,n,nm,l⟩:=e;obtain ⟨R,hG⟩:∃R,evM vs ar (.mk op n nm l)=R:=⟨_,rfl⟩;rw [hG]
  unfold evM at hG
  simp only [shE] at hsh;refine spec_of_awp2 TT_ok (N:=104) Tryz.func220 rfl (by rfl) (Nat.le_refl _) rfl ?_;refine rz [2,3] ?_;refine awp_seq ?_;refine rz [2,3,10] ?_;refine awp_block ?_;refine rz [2,3,10,11] ?_;refine awp_cond2 rfl (onB_intro (fun h1=>?_) (fun h1=>?_))
  · refine rgs fun E K J O=>?_;show aCall _ _ _ _ _ _ _
    have sp1:=small_yes G n
    cases hr1:smallM n with
    |none=>
      rw [hr1] at sp1;refine aP [] rfl rfl rfl sp1 rfl rfl rfl rfl ?_;refine J _ _ ?_
      try simp only [h1,hr1] at hG
      subst hG;exact ⟨[0,1],_,rfl,rfl,rfl,rfl,rfl⟩
    |some a1=>
      rw [hr1] at sp1;refine aS [] sp1 ?_;refine O _ (aN [4] rfl rfl ?_);clear O J K E;refine awp_ret ?_
      try simp only [h1,hr1] at hG
      subst hG;exact ⟨_,[0,1],_,[.d (num _)],rfl,rfl,rfl,rfl,rfl,PWs.refl _,rfl⟩
  refine rz [2,3,10,16] ?_;refine awp_cond2 rfl (onB_intro (fun h2=>?_) (fun h2=>?_))
  · refine rgs fun E K J O=>?_
    refine lk_vs (T:=TT) (e:=3) rfl ?_;refine O _ (aN [4] rfl rfl ?_);clear O J K E;refine awp_ret ?_
    try simp only [h1,h2] at hG
    subst hG;exact ⟨_,[0,1],_,[.d (num _)],rfl,rfl,rfl,rfl,rfl,PWs.refl _,rfl⟩
  refine rz [2,3,10,23] ?_;refine awp_cond2 rfl (onB_intro (fun h3=>?_) (fun h3=>?_))
  · simp only [arOf,h1,h2,h3] at hsh
    obtain ⟨⟨o1,n1,m1,l1⟩,r,rfl,hsx⟩:=sh1 hsh
    have hmx:fuE (.mk o1 n1 m1 l1)≤m:=by simp only [fuE,fuL] at hm ⊢;omega
    refine awp_seq ?_;refine (awp_draw TT_ok mixed p220_7 [5] (fun i=>Nat.beq i 2||Nat.beq i 3) (by kernel_rfl) fun E K J O=>?_);refine And.intro (by omega) (Exists.intro _ (And.intro (exs_0 _ _) ?_))
    show aCall _ _ _ _ _ _ _
    have sp1:=ih vs ar (.mk o1 n1 m1 l1) hmx hsx hV hA
    cases hr1:evM vs ar (.mk o1 n1 m1 l1) with
    |none=>
      rw [hr1] at sp1;refine aP [0,1] rfl rfl rfl sp1 rfl rfl rfl rfl ?_;refine J _ _ ?_
      try simp only [h1,h2,h3,hr1] at hG
      subst hG;exact ⟨[0,1],_,rfl,rfl,rfl,rfl,rfl⟩
    |some a1=>
      rw [hr1] at sp1;have hn1:=ev_ar hV hA (.mk o1 n1 m1 l1) a1 hr1;refine aS [0,1] sp1 ?_;refine O _ (aN [2,3,5] rfl rfl ?_);clear O J K E;refine rgs fun E K J O=>?_;refine lk_ar (T:=TT) (e:=56) rfl (fun j hj1 hj2 hj3=>?_) (fun ha=>?_)
      · refine O _ (aN [5,6] rfl rfl ?_);clear O J K E;refine awp_seq ?_;refine rgs fun E K J O=>?_
        refine onB_intro (fun h4=>?_) (fun h4=>?_)
        · refine O _ (aN [5,6,43] rfl rfl ?_);clear O J K E;refine awp_cond rfl ?_;refine rgn fun E K J O=>?_;refine J _ _ ?_
          try simp only [bn,h1,h2,h3,hr1,h4] at hG
          subst hG;exact ⟨[0,1],_,rfl,rfl,rfl,rfl,rfl⟩
        have hb1:=of_decide_eq_false h4;refine Exists.intro _ (Exists.intro _ (And.intro hj2 ?_));refine O _ (aN [5,6,43] rfl rfl ?_);clear O J K E;refine awp_cond2 rfl (onB_intro (fun h5=>?_) (fun h5=>?_))
        · refine rgn fun E K J O=>?_;refine J _ _ ?_
          try simp only [bn,h1,h2,h3,hr1,h4,h5] at hG
          subst hG;exact ⟨[0,1],_,rfl,rfl,rfl,rfl,rfl⟩
        have hb2:=of_decide_eq_false h5;refine awp_skip ?_;refine rgs fun E K J O=>?_;refine And.intro (by omega) (Exists.intro _ (Exists.intro _ (And.intro hj2 (And.intro (by omega) ?_))));obtain ⟨v,hv⟩:∃v,(getA ar nm)[a1.toNat]? = some v:=⟨_,List.getElem?_eq_getElem (by omega)⟩;refine Exists.intro _ (Exists.intro _ (Exists.intro _ (And.intro hj2 (And.intro hv ?_))));refine O _ (aN [4] rfl rfl ?_);clear O J K E;refine awp_ret ?_
        try simp only [bn,h1,h2,h3,hr1,h4,h5,hv] at hG
        subst hG;exact ⟨_,[0,1],_,[.d (num _)],rfl,rfl,rfl,rfl,rfl,PWs.refl _,rfl⟩
      rw [ha] at hG;refine O _ (aN [5,6] rfl rfl ?_);clear O J K E;refine awp_seq ?_;refine rgs fun E K J O=>?_;refine onB_intro (fun h4=>?_) (fun h4=>?_)
      · refine O _ (aN [5,6,43] rfl rfl ?_);clear O J K E;refine awp_cond rfl ?_;refine rgn fun E K J O=>?_;refine J _ _ ?_
        try simp only [bn,h1,h2,h3,hr1,h4] at hG
        subst hG;exact ⟨[0,1],_,rfl,rfl,rfl,rfl,rfl⟩
      have hb1:=of_decide_eq_false h4;refine O _ (aN [5,6,43] rfl rfl ?_);clear O J K E;refine awp_cond2 rfl (onB_intro (fun h5=>?_) (fun h5=>?_))
      · have hzh5:decide (a1≥((([]:List Int).length:Nat):Int))=true:=h5
        refine rgn fun E K J O=>?_;refine J _ _ ?_
        try simp only [bn,h1,h2,h3,hr1,h4,hzh5] at hG
        subst hG;exact ⟨[0,1],_,rfl,rfl,rfl,rfl,rfl⟩
      exact absurd (of_decide_eq_false h5) (by omega)
  refine rz [2,3,49] ?_;refine awp_cond2 rfl (onB_intro (fun h4=>?_) (fun h4=>?_))
  · simp only [arOf,h1,h2,h3,h4] at hsh
    obtain ⟨⟨o1,n1,m1,l1⟩,r,rfl,hsx⟩:=sh1 hsh
    have hmx:fuE (.mk o1 n1 m1 l1)≤m:=by simp only [fuE,fuL] at hm ⊢;omega
    refine awp_seq ?_;refine (awp_draw TT_ok mixed p220_13 [5] (fun i=>Nat.beq i 2||Nat.beq i 3) (by kernel_rfl) fun E K J O=>?_);refine And.intro (by omega) (Exists.intro _ (And.intro (exs_0 _ _) ?_))
    show aCall _ _ _ _ _ _ _
    have sp1:=ih vs ar (.mk o1 n1 m1 l1) hmx hsx hV hA
    cases hr1:evM vs ar (.mk o1 n1 m1 l1) with
    |none=>
      rw [hr1] at sp1;refine aP [0,1] rfl rfl rfl sp1 rfl rfl rfl rfl ?_;refine J _ _ ?_
      try simp only [h1,h2,h3,h4,hr1] at hG
      subst hG;exact ⟨[0,1],_,rfl,rfl,rfl,rfl,rfl⟩
    |some a1=>
      rw [hr1] at sp1;have hn1:=ev_ar hV hA (.mk o1 n1 m1 l1) a1 hr1;refine aS [0,1] sp1 ?_;refine O _ (aN [4] rfl rfl ?_);clear O J K E;refine awp_ret ?_
      try simp only [h1,h2,h3,h4,hr1] at hG
      subst hG;exact ⟨_,[0,1],_,[.d (num _)],rfl,rfl,rfl,rfl,rfl,PWs.refl _,rfl⟩
  simp only [arOf,h1,h2,h3,h4] at hsh;obtain ⟨⟨o1,n1,m1,l1⟩,⟨o2,n2,m2,l2⟩,r,rfl,hsx,hsy⟩:=sh2 hsh
  have hmx:fuE (.mk o1 n1 m1 l1)≤m:=by simp only [fuE,fuL] at hm ⊢;omega
  have hmy:fuE (.mk o2 n2 m2 l2)≤m:=by simp only [fuE,fuL] at hm ⊢;omega
  refine awp_skip ?_;refine awp_seq ?_;refine (awp_draw TT_ok mixed p220_14 [5] (fun i=>Nat.beq i 2||Nat.beq i 3) (by kernel_rfl) fun E K J O=>?_);refine And.intro (by omega) (Exists.intro _ (And.intro (exs_0 _ _) ?_))
  show aCall _ _ _ _ _ _ _
  have sp1:=ih vs ar (.mk o1 n1 m1 l1) hmx hsx hV hA
  cases hr1:evM vs ar (.mk o1 n1 m1 l1) with
  |none=>
    rw [hr1] at sp1;refine aP [0,1] rfl rfl rfl sp1 rfl rfl rfl rfl ?_;refine J _ _ ?_
    try simp only [h1,h2,h3,h4,hr1] at hG
    subst hG;exact ⟨[0,1],_,rfl,rfl,rfl,rfl,rfl⟩
  |some a1=>
    rw [hr1] at sp1;have hn1:=ev_ar hV hA (.mk o1 n1 m1 l1) a1 hr1;refine aS [0,1] sp1 ?_;refine O _ (aN [2,3,7] rfl rfl ?_);clear O J K E;refine awp_seq ?_;refine (awp_draw TT_ok mixed p220_15 [5] (fun i=>Nat.beq i 2||Nat.beq i 3) (by kernel_rfl) fun E K J O=>?_);refine And.intro (by omega) (Exists.intro _ (And.intro (exs_1 _ _ _) ?_))
    show aCall _ _ _ _ _ _ _
    have sp2:=ih vs ar (.mk o2 n2 m2 l2) hmy hsy hV hA
    cases hr2:evM vs ar (.mk o2 n2 m2 l2) with
    |none=>
      rw [hr2] at sp2;refine aP [0,1] rfl rfl rfl sp2 rfl rfl rfl rfl ?_;refine J _ _ ?_
      try simp only [h1,h2,h3,h4,hr1,hr2] at hG
      subst hG;exact ⟨[0,1],_,rfl,rfl,rfl,rfl,rfl⟩
    |some a2=>
      rw [hr2] at sp2;have hn2:=ev_ar hV hA (.mk o2 n2 m2 l2) a2 hr2;refine aS [0,1] sp2 ?_;refine O _ (aN [3,7,8] rfl rfl ?_);clear O J K E;refine awp_seq ?_;refine rz [3,7,8,71] ?_;refine awp_block ?_;refine rz [3,7,8,71,72] ?_;refine awp_cond2 rfl (onB_intro (fun h5=>?_) (fun h5=>?_))
      · refine rgs fun E K J O=>?_;show aCall _ _ _ _ _ _ _
        have sp3:=small_yes G (IntKind.i64.wrap (a1+a2))
        cases hr3:smallM (IntKind.i64.wrap (a1+a2)) with
        |none=>
          rw [hr3] at sp3;refine aP [] rfl rfl rfl sp3 rfl rfl rfl rfl ?_;refine J _ _ ?_
          try simp only [h1,h2,h3,h4,hr1,hr2,h5,hr3] at hG
          subst hG;exact ⟨[0,1],_,rfl,rfl,rfl,rfl,rfl⟩
        |some a3=>
          rw [hr3] at sp3;refine aS [] sp3 ?_;refine O _ (aN [4] rfl rfl ?_);clear O J K E;refine awp_ret ?_
          try simp only [h1,h2,h3,h4,hr1,hr2,h5,hr3] at hG
          subst hG;exact ⟨_,[0,1],_,[.d (num _)],rfl,rfl,rfl,rfl,rfl,PWs.refl _,rfl⟩
      refine rz [3,7,8,71,78] ?_;refine awp_cond2 rfl (onB_intro (fun h6=>?_) (fun h6=>?_))
      · refine rgs fun E K J O=>?_;show aCall _ _ _ _ _ _ _
        have sp3:=small_yes G (IntKind.i64.wrap (a1 - a2))
        cases hr3:smallM (IntKind.i64.wrap (a1 - a2)) with
        |none=>
          rw [hr3] at sp3;refine aP [] rfl rfl rfl sp3 rfl rfl rfl rfl ?_;refine J _ _ ?_
          try simp only [h1,h2,h3,h4,hr1,hr2,h5,h6,hr3] at hG
          subst hG;exact ⟨[0,1],_,rfl,rfl,rfl,rfl,rfl⟩
        |some a3=>
          rw [hr3] at sp3;refine aS [] sp3 ?_;refine O _ (aN [4] rfl rfl ?_);clear O J K E;refine awp_ret ?_
          try simp only [h1,h2,h3,h4,hr1,hr2,h5,h6,hr3] at hG
          subst hG;exact ⟨_,[0,1],_,[.d (num _)],rfl,rfl,rfl,rfl,rfl,PWs.refl _,rfl⟩
      refine rz [3,7,8,84] ?_;refine awp_cond2 rfl (onB_intro (fun h7=>?_) (fun h7=>?_))
      · refine rgs fun E K J O=>?_;show aCall _ _ _ _ _ _ _
        have spp:=product_spec G a1 a2 hn1
        cases hrp:prodM a1 a2 with
        |none=>
          rw [hrp] at spp;refine aS [] spp ?_
          show aCall _ _ _ _ _ _ _
          refine aP [] rfl rfl rfl (small_no G 0) rfl rfl rfl rfl ?_;refine J _ _ ?_
          try simp only [h1,h2,h3,h4,hr1,hr2,h5,h6,h7,hrp] at hG
          subst hG;exact ⟨[0,1],_,rfl,rfl,rfl,rfl,rfl⟩
        |some cc=>
          rw [hrp] at spp;refine aS [] spp ?_
          show aCall _ _ _ _ _ _ _
          have sp3:=small_yes G cc
          cases hr3:smallM cc with
          |none=>
            rw [hr3] at sp3;refine aP [] rfl rfl rfl sp3 rfl rfl rfl rfl ?_;refine J _ _ ?_
            try simp only [h1,h2,h3,h4,hr1,hr2,h5,h6,h7,hrp,hr3] at hG
            subst hG;exact ⟨[0,1],_,rfl,rfl,rfl,rfl,rfl⟩
          |some a3=>
            rw [hr3] at sp3;refine aS [] sp3 ?_;refine O _ (aN [4] rfl rfl ?_);clear O J K E;refine awp_ret ?_
            try simp only [h1,h2,h3,h4,hr1,hr2,h5,h6,h7,hrp,hr3] at hG
            subst hG;exact ⟨_,[0,1],_,[.d (num _)],rfl,rfl,rfl,rfl,rfl,PWs.refl _,rfl⟩
      refine awp_skip ?_;refine awp_seq ?_;refine rz [3,7,8,93] ?_;refine awp_cond2 rfl (onB_intro (fun h8=>?_) (fun h8=>?_))
      · refine rgn fun E K J O=>?_;refine J _ _ ?_
        try simp only [h1,h2,h3,h4,hr1,hr2,h5,h6,h7,h8] at hG
        subst hG;exact ⟨[0,1],_,rfl,rfl,rfl,rfl,rfl⟩
      have hnz:=neq0 h8;refine awp_skip ?_;refine awp_seq ?_;refine rz [7,8,97] ?_;refine awp_cond2 rfl (onB_intro (fun h9=>?_) (fun h9=>?_))
      · refine rgs fun E K J O=>?_
        refine And.intro hnz ?_;refine O _ (aN [4] rfl rfl ?_);clear O J K E;refine awp_ret ?_
        try simp only [h1,h2,h3,h4,hr1,hr2,h5,h6,h7,h8,h9] at hG
        subst hG;exact ⟨_,[0,1],_,[.d (num _)],rfl,rfl,rfl,rfl,rfl,PWs.refl _,rfl⟩
      refine awp_skip ?_;refine rgs fun E K J O=>?_;refine And.intro hnz ?_;refine O _ (aN [4] rfl rfl ?_);clear O J K E;refine awp_ret ?_
      try simp only [h1,h2,h3,h4,hr1,hr2,h5,h6,h7,h8,h9] at hG
      subst hG;exact ⟨_,[0,1],_,[.d (num _)],rfl,rfl,rfl,rfl,rfl,PWs.refl _,rfl⟩
theorem eval_spec:∀m:Nat,EvOk G m
  |0=>fun vs ar e hm=>by
    obtain ⟨op,n,nm,l⟩:=e;simp only [fuE] at hm;omega
  |m+1=>eval_step G m (eval_spec m)
end
end Go.Abs
end
section
namespace Go.Abs
open Go Go.Proofs
attribute [local irreducible] aCall AWp Sub Spec
def outB:Option Bool→Out
 |some n=>.ret (.d (.s (.bool n)))
 |none=>.pan wrongP
def cRow(o:Option Bool)(r:Option Bool):Option Bool:=match o with
 |none=>none
 |some true=>some true
 |some false=>r
theorem condM_cons(vs:List (ByteArray×Int))(ar:List (ByteArray×List Int))(r:List Ts)(c:List (List Ts)):condM vs ar (r::c)=cRow (rowM vs ar r) (condM vs ar c):=by
 simp only [condM,cRow]
 rfl
def cTs(x y:Option Int)(rel:ByteArray)(r:Option Bool):Option Bool:=match x with
 |none=>none
 |some a=>match y with
  |none=>none
  |some b=>match holdsM a rel b with
   |true=>r
   |false=>some false
theorem rowM_cons(vs:List (ByteArray×Int))(ar:List (ByteArray×List Int))(t:Ts)(c:List Ts):rowM vs ar (t::c)=cTs (evM vs ar t.a) (evM vs ar t.b) t.rel (rowM vs ar c):=by
 simp only [rowM,cTs]
 rfl
theorem cnd_l(l:List (List Ts)):(cnd l).length=l.length:=by simp [cnd]
theorem tss_l(l:List Ts):(tss l).length=l.length:=by simp [tss]
section
variable (G:Glob)
def p221_8:Plan:=(.take 0 (.take 1 (.load 2 (.load 3 (.take 4 (.load 5 (.one 6 (.one 7 (.take 8 .done)))))))))
theorem cond_spec(vs:List (ByteArray×Int))(ar:List (ByteArray×List Int))(c:List (List Ts))(hsh:shC c=true)(hw:wtC c≤1000000000)(hV:VOk vs)(hA:AOk ar):Spec Tryz.prog G 221 [StP,.d (.sl 1 (cnd c))] (stR vs ar) (outB (condM vs ar c)) (stR vs ar):=by
 have hn:c.length≤1073741824:=by have:=wtC_len c;omega
 obtain ⟨R,hG⟩:∃R,condM vs ar c=R:=⟨_,rfl⟩;rw [hG];refine spec_of_awp2 TT_ok (N:=37) Tryz.func221 rfl (by rfl) (Nat.le_refl _) rfl ?_;refine rz [1,2] ?_;refine awp_scope ?_;refine awp_seq ?_;refine awp_label ?_;refine awp_seq ?_;refine rz [2,10,11,12] ?_;refine awp_block ?_;refine awp_loop (fun k Y=>∃(d1 e1:List (List Ts)) ,k=e1.length∧c=d1++e1∧condM vs ar e1=R∧shC e1=true∧wtC e1≤1000000000∧Y=⟨[(2,.box 2 0),(10,.d (.sl 1 (cnd c))),(11,.d (num (cnd c).length)),(12,.d (num d1.length))],[.map 185 (vsL vs),.amap 186 false ar,.box 188 [.acc 0,.am 1 0]]⟩) (c.length) (⟨[],c,rfl,rfl,hG,hsh,hw,rfl⟩) ?_;clear hG;rintro k Y ⟨d1,e1,rfl,hl1,hG,hz1_0,hz1_1,rfl⟩
 have hll1:(cnd c).length=d1.length+e1.length:=by rw [cnd_l,hl1,List.length_append]
 have hdl1:d1.length+e1.length≤1073741824:=by rw [hl1,List.length_append] at hn;exact hn
 refine rz [2,10,11,12,13] ?_;refine awp_seq ?_;refine awp_cond2 rfl (onB_intro (fun h1=>?_) (fun h1=>?_))
 ·have h1':=of_decide_eq_true h1
  rw [hll1] at h1'
  cases e1 with
  |nil=>simp only [List.length_nil] at h1';omega
  |cons x e1b=>
  subst hl1;simp only [List.length_cons] at hdl1;simp only [condM_cons] at hG;simp only [shC,Bool.and_eq_true] at hz1_0;simp only [wtC] at hz1_1;have hwx:=wtR_len x;refine awp_skip ?_;refine awp_seq ?_;refine awp_block ?_;refine rgs fun E K J O=>?_;refine And.intro (by omega) (Exists.intro _ (And.intro (cnd_at rfl) ?_));refine O _ (aN [2,6,10,11,12] rfl rfl ?_);clear O J K E;refine awp_seq ?_;refine rz [2,10,11,12,16,17,18] ?_;refine awp_block ?_
  have hnx:x.length≤1073741824:=by omega
  refine awp_loop (fun k Y=>∃(d2 e2:List Ts) ,k=e2.length∧x=d2++e2∧cRow (rowM vs ar e2) (condM vs ar e1b)=R∧shR e2=true∧wtR e2≤1000000000∧Y=⟨[(2,.box 2 0),(10,.d (.sl 1 (cnd (d1++x::e1b)))),(11,.d (num (cnd (d1++x::e1b)).length)),(12,.d (num d1.length)),(16,.d (.sl 9 (tss x))),(17,.d (num (tss x).length)),(18,.d (num d2.length))],[.map 185 (vsL vs),.amap 186 false ar,.box 188 [.acc 0,.am 1 0]]⟩) (x.length) (⟨[],x,rfl,rfl,hG,hz1_0.1,(by omega),rfl⟩) ?_;clear hG;rintro k Y ⟨d2,e2,rfl,hl2,hG,hz2_0,hz2_1,rfl⟩
  have hll2:(tss x).length=d2.length+e2.length:=by rw [tss_l,hl2,List.length_append]
  have hdl2:d2.length+e2.length≤1073741824:=by rw [hl2,List.length_append] at hnx;exact hnx
  refine rz [2,10,11,12,16,17,18,19] ?_;refine awp_seq ?_;refine awp_cond2 rfl (onB_intro (fun h2=>?_) (fun h2=>?_))
  ·have h2':=of_decide_eq_true h2
   rw [hll2] at h2'
   cases e2 with
   |nil=>simp only [List.length_nil] at h2';omega
   |cons y e2b=>
   obtain ⟨⟨o1,n1,m1,l1⟩,rel,⟨o2,n2,m2,l2⟩⟩:=y;subst hl2;simp only [List.length_cons] at hdl2;simp only [rowM_cons] at hG;simp only [shR,shT,Bool.and_eq_true] at hz2_0;simp only [wtR] at hz2_1;refine awp_skip ?_;refine awp_seq ?_;refine awp_block ?_;refine rgs fun E K J O=>?_;refine And.intro (by omega) (Exists.intro _ (And.intro (tss_at rfl) ?_));refine O _ (aN [2,8,10,11,12,16,17,18] rfl rfl ?_);clear O J K E;refine rgs fun E K J O=>?_;show aCall _ _ _ _ _ _ _;have sp1:=eval_spec G _ vs ar (.mk o1 n1 m1 l1) (Nat.le_refl _) hz2_0.1.1 hV hA
   cases hr1:evM vs ar (.mk o1 n1 m1 l1) with
   |none=>
    rw [hr1] at sp1;refine aP [0,1] rfl rfl rfl sp1 rfl rfl rfl rfl ?_;refine J _ _ ?_
    try simp only [hr1,cRow,cTs] at hG
    subst hG;exact ⟨[0,1],_,rfl,rfl,rfl,rfl,rfl⟩
   |some a1=>
    rw [hr1] at sp1;refine aS [0,1] sp1 ?_;refine O _ (aN [2,8,9,10,11,12,16,17,18] rfl rfl ?_);clear O J K E;refine awp_seq ?_;refine (awp_draw TT_ok mixed p221_8 [7] (fun i=>Nat.beq i 2||Nat.beq i 3) (by kernel_rfl) fun E K J O=>?_)
    show aCall _ _ _ _ _ _ _
    have sp2:=eval_spec G _ vs ar (.mk o2 n2 m2 l2) (Nat.le_refl _) hz2_0.1.2 hV hA
    cases hr2:evM vs ar (.mk o2 n2 m2 l2) with
    |none=>
     rw [hr2] at sp2;refine aP [0,1] rfl rfl rfl sp2 rfl rfl rfl rfl ?_;refine J _ _ ?_
     try simp only [hr1,hr2,cRow,cTs] at hG
     subst hG;exact ⟨[0,1],_,rfl,rfl,rfl,rfl,rfl⟩
    |some a2=>
     rw [hr2] at sp2;refine aS [0,1] sp2 ?_;refine aS [] (holds_spec G a1 rel a2) ?_;refine O _ (aN [2,10,11,12,16,17,18,34] rfl rfl ?_);clear O J K E;refine awp_cond2 rfl (onB_intro (fun h3=>?_) (fun h3=>?_))
     ·have hhh3:holdsM a1 rel a2=false:=by simpa using h3
      refine awp_exit ?_;refine awp_norm [2,10,11,12] rfl rfl ?_;refine rgn fun E K J O=>?_;refine O _ ?_;clear O J K E
      try simp only [hr1,hr2,hhh3,cRow,cTs] at hG
      exact ⟨_,Nat.lt_succ_self _,_,sub_pick (L:=[0,1,2]) (slots:=[2,10,11,12]) rfl rfl rfl rfl rfl,d1++[d2++⟨.mk o1 n1 m1 l1,rel,.mk o2 n2 m2 l2⟩::e2b],e1b,rfl,by simp,hG,hz1_0.2,by omega,by rw [List.length_append,wrapId (by omega) (by omega)];rfl⟩
     have hhh3:holdsM a1 rel a2=true:=by simpa using h3
     refine awp_skip ?_;refine rgn fun E K J O=>?_;refine O _ ?_;clear O J K E
     try simp only [hr1,hr2,hhh3,cTs] at hG
     exact ⟨_,Nat.lt_succ_self _,_,sub_pick (L:=[0,1,2]) (slots:=[2,10,11,12,16,17,18]) rfl rfl rfl rfl rfl,d2++[⟨.mk o1 n1 m1 l1,rel,.mk o2 n2 m2 l2⟩],e2b,rfl,by simp,hG,hz2_0.2,by omega,by rw [List.length_append,wrapId (by omega) (by omega)];rfl⟩
  have h2':=of_decide_eq_false h2;rw [hll2] at h2';obtain rfl:e2=[]:=List.eq_nil_of_length_eq_zero (by omega);simp only [rowM] at hG;refine awp_exit ?_;refine awp_norm [] rfl rfl ?_;refine rz [4] ?_;refine awp_ret ?_
  try simp only [cRow] at hG
  subst hG;exact ⟨_,[0,1],_,[.d (.s (.bool _))],rfl,rfl,rfl,rfl,rfl,PWs.refl _,rfl⟩
 have h1':=of_decide_eq_false h1;rw [hll1] at h1';obtain rfl:e1=[]:=List.eq_nil_of_length_eq_zero (by omega);simp only [condM] at hG;refine awp_exit ?_;refine awp_norm [] rfl rfl ?_;refine rz [4] ?_;refine awp_ret ?_
 try simp only [bn,h1,cRow,cTs,rowM,condM] at hG
 subst hG;exact ⟨_,[0,1],_,[.d (.s (.bool _))],rfl,rfl,rfl,rfl,rfl,PWs.refl _,rfl⟩
end
end Go.Abs
end
