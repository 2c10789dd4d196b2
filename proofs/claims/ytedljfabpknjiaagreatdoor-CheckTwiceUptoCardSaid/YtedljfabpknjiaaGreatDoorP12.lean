/- Texts of this proof, joined: AbsKD, AbsMI, AbsJA, AbsLF, AbsMA, AbsMB, AbsMC, AbsND, AbsNE, AbsMD, AbsNF, AbsME, AbsMF, AbsMG, AbsMH, AbsNG, AbsNH, AbsNI, AbsMJ, AbsMK, AbsNJ, AbsNC, AbsNK, AbsNL. -/
import Derived.Test.YtedljfabpknjiaaGreatDoorP11
import Derived.Lib.AtoiAllCases
import Derived.Test.YtedljfabpknjiaaGreatDoorP7
import Derived.Laws.StructEq
import Derived.Test.YtedljfabpknjiaaGreatDoorP9
section
namespace Go.Abs
open Go Go.Proofs
attribute [local irreducible] aCall AWp Sub Spec
def tsE:List Ts→List Ex
 |[]=>[]
 |t::r=>t.a::t.b::tsE r
def condE:List (List Ts)→List Ex
 |[]=>[]
 |r::c=>tsE r++condE c
/-- The terms of a statement, its own. -/
def Sm.terms:Sm→List Ex
 |.mk _ _ _ args cond _ _=>args++condE cond
theorem tsE_app:∀a b:List Ts,tsE (a++b)=tsE a++tsE b
 |[],_=>rfl
 |t::a,b=>by simp only [List.cons_append,tsE,tsE_app a b]
theorem condE_app:∀a b:List (List Ts),condE (a++b)=condE a++condE b
 |[],_=>rfl
 |t::a,b=>by simp only [List.cons_append,condE,condE_app a b,List.append_assoc]
theorem condE_snoc(d:List (List Ts))(x:List Ts):condE (d++[x])=condE d++tsE x:=by rw [condE_app];simp [condE]
theorem exs_app:∀a b:List Ex,exs (a++b)=exs a++exs b
 |[],_=>rfl
 |t::a,b=>by simp only [List.cons_append,exs,exs_app a b]
theorem tsx(A:List Ex)(d:List Ts)(t:Ts):exs (A++tsE (d++[t]))=exs (A++tsE d)++[t.a.cs,t.b.cs]:=by rw [tsE_app,← List.append_assoc,exs_app _ (tsE [t])];rfl
theorem tsE_len:∀r:List Ts,(tsE r).length≤wtR r
 |[]=>Nat.zero_le _
 |t::r=>by have:=tsE_len r;simp only [tsE,wtR,wtT,List.length_cons];omega
theorem condE_len:∀c:List (List Ts),(condE c).length≤wtC c
 |[]=>Nat.zero_le _
 |r::c=>by have:=condE_len c;have:=tsE_len r;simp only [condE,wtC,List.length_append];omega
theorem nil_exs{l:List Ex}(h:nilOf (.d (.sl 4 (exs l))) true):l=[]:=by
 have:=eq_of_beq (nil_len h);rw [ex_len] at this;exact List.eq_nil_of_length_eq_zero (by omega)
section
variable (G:Glob)
theorem cloneE_spec(l:List Ex)(hn:l.length≤1073741824):Spec Tryz.prog G 174 [.d (.sl 4 (exs l))] [] (.ret (.acc 0)) [.acc 157 4 (exs l)]:=by
 refine spec_of_awp2 TT_ok (N:=8) Tryz.func174 rfl (by rfl) (Nat.zero_le _) rfl ?_;refine rz [0] ?_;refine awp_seq ?_;refine rgs fun E K J O=>?_;refine pNilS_sl (fun hb=>?_) ?_
 ·obtain rfl:=nil_exs hb
  refine O _ (aN [0,4] rfl rfl ?_);clear O J K E;refine awp_cond rfl ?_;refine rz [2] ?_;refine awp_acc 2 157 4 rfl rfl rfl ?_;refine awp_norm [2] rfl rfl ?_;refine awp_ret ?_;exact ⟨_,[0],_,[.acc 0],rfl,rfl,rfl,rfl,rfl,PWs.refl _,rfl⟩
 refine O _ (aN [0,4] rfl rfl ?_);clear O J K E;refine awp_cond rfl ?_;refine awp_skip ?_;refine rgs fun E K J O=>?_;refine Or.inr (Or.inr ?_);refine And.intro (And.intro ((by simp only [ex_len,List.length_nil] at *;omega)) ((by simp only [ex_len,List.length_nil,maxLen] at *;omega))) ?_;refine O _ (aN [2] rfl rfl ?_);clear O J K E;refine awp_ret ?_;exact ⟨_,[0],_,[.acc 0],rfl,rfl,rfl,rfl,rfl,PWs.refl _,rfl⟩
theorem terms_spec(kind name proc:ByteArray)(args:List Ex)(cond:List (List Ts))(body els:List Sm)(hsz:args.length+(condE cond).length≤1073741000)(hc:wtC cond≤1000000000):Spec Tryz.prog G 112 [.d (.agg (Sm.mk kind name proc args cond body els).cs)] [] (.ret (.d (.sl 4 (exs (args++condE cond))))) []:=by
 have hcl:=wtC_len cond
 have hb:cond.length≤1073741824:=by omega
 refine spec_of_awp2 TT_ok (N:=34) Tryz.func112 rfl (by rfl) (Nat.le_refl _) rfl ?_;refine rz [1] ?_;refine rgs fun E K J O=>?_;refine aS [] (cloneE_spec G args (by omega)) ?_;refine O _ (aN [1,3] rfl rfl ?_);clear O J K E;refine awp_seq ?_;refine rz [3,12,13,14] ?_;refine awp_block ?_;refine awp_loop (fun k Y=>∃(d1 e1:List (List Ts)),k=e1.length∧cond=d1++e1∧Y=⟨[(3,.acc 1),(12,.d (.sl 1 (cnd cond))),(13,.d (num (cnd cond).length)),(14,.d (num d1.length))],[.box 217 [.d (str kind),.d (str name),.d (str proc),.d (.sl 4 (exs args)),.d (.sl 1 (cnd cond)),.d (.sl 7 (sms body)),.d (.sl 7 (sms els))],.acc 157 4 (exs (args++condE d1))]⟩) (cond.length) (⟨[],cond,rfl,rfl,by rw [show condE ([]:List (List Ts))=[] from rfl,List.append_nil];rfl⟩) ?_;rintro k Y ⟨d1,e1,rfl,hl1,rfl⟩
 have hll1:(cnd cond).length=d1.length+e1.length:=by rw [cnd_len3,hl1,List.length_append]
 have hdl1:d1.length+e1.length≤1073741824:=by rw [hl1,List.length_append] at hb;exact hb
 refine rz [3,12,13,14,15] ?_;refine awp_seq ?_;refine awp_cond2 rfl (onB_intro (fun h1=>?_) (fun h1=>?_))
 ·have h1':=of_decide_eq_true h1
  rw [hll1] at h1'
  cases e1 with
  |nil=>simp only [List.length_nil] at h1';omega
  |cons x e1b=>
  subst hl1;simp only [List.length_cons] at hdl1;have hcx:=hsz;simp only [condE_app,condE,List.length_append] at hcx;have hxl:=wtC_app d1 (x::e1b);simp only [wtC] at hxl;have hxl2:=wtR_len x
  have hb2:x.length≤1073741824:=by omega
  refine awp_skip ?_;refine awp_seq ?_;refine awp_block ?_;refine rgs fun E K J O=>?_;refine And.intro (by omega) (Exists.intro _ (And.intro (cnd_at rfl) ?_));refine O _ (aN [3,5,12,13,14] rfl rfl ?_);clear O J K E;refine rz [3,12,13,14,18,19,20] ?_;refine awp_block ?_;refine awp_loop (fun k Y=>∃(d2 e2:List Ts),k=e2.length∧x=d2++e2∧Y=⟨[(3,.acc 1),(12,.d (.sl 1 (cnd (d1++x::e1b)))),(13,.d (num (cnd (d1++x::e1b)).length)),(14,.d (num d1.length)),(18,.d (.sl 9 (tss x))),(19,.d (num (tss x).length)),(20,.d (num d2.length))],[.box 217 [.d (str kind),.d (str name),.d (str proc),.d (.sl 4 (exs args)),.d (.sl 1 (cnd (d1++x::e1b))),.d (.sl 7 (sms body)),.d (.sl 7 (sms els))],.acc 157 4 (exs ((args++condE d1)++tsE d2))]⟩) (x.length) (⟨[],x,rfl,rfl,by rw [show tsE ([]:List Ts)=[] from rfl,List.append_nil];rfl⟩) ?_;rintro k Y ⟨d2,e2,rfl,hl2,rfl⟩
  have hll2:(tss x).length=d2.length+e2.length:=by rw [tss_len3,hl2,List.length_append]
  have hdl2:d2.length+e2.length≤1073741824:=by rw [hl2,List.length_append] at hb2;exact hb2
  refine rz [3,12,13,14,18,19,20,21] ?_;refine awp_seq ?_;refine awp_cond2 rfl (onB_intro (fun h2=>?_) (fun h2=>?_))
  ·have h2':=of_decide_eq_true h2
   rw [hll2] at h2'
   cases e2 with
   |nil=>simp only [List.length_nil] at h2';omega
   |cons x e2b=>
   obtain ⟨⟨p1,n1,m1,l1⟩,rel,⟨p2,n2,m2,l2⟩⟩:=x;subst hl2;simp only [List.length_cons] at hdl2;simp only [tsE_app,tsE,List.length_append,List.length_cons] at hcx;refine awp_skip ?_;refine awp_seq ?_;refine awp_block ?_;refine rgs fun E K J O=>?_;refine And.intro (by omega) (Exists.intro _ (And.intro (tss_at rfl) ?_));refine O _ (aN [3,7,12,13,14,18,19,20] rfl rfl ?_);clear O J K E;refine rgn fun E K J O=>?_;refine And.intro (And.intro ((by simp only [ex_len,tss_len3,cnd_len3,List.length_append,chunk_length,List.length_cons,List.length_nil] at *;omega)) ((by simp only [ex_len,tss_len3,cnd_len3,List.length_append,chunk_length,List.length_cons,List.length_nil,maxLen] at *;omega))) ?_;refine O _ (aN [3,12,13,14,18,19,20] rfl rfl ?_);clear O J K E;refine rgn fun E K J O=>?_;refine O _ ?_;clear O J K E;exact ⟨_,Nat.lt_succ_self _,_,sub_pick (L:=[0,1]) (slots:=[3,12,13,14,18,19,20]) rfl rfl rfl rfl rfl,d2++[⟨.mk p1 n1 m1 l1,rel,.mk p2 n2 m2 l2⟩],e2b,rfl,by simp,by rw [tsx,List.length_append,wrapId (by omega) (by omega)];rfl⟩
  have h2':=of_decide_eq_false h2;rw [hll2] at h2';obtain rfl:e2=[]:=List.eq_nil_of_length_eq_zero (by omega);rw [List.append_nil] at hl2;subst hl2;refine awp_exit ?_;refine awp_norm [3,12,13,14] rfl rfl ?_;refine rgn fun E K J O=>?_;refine O _ ?_;clear O J K E;exact ⟨_,Nat.lt_succ_self _,_,sub_pick (L:=[0,1]) (slots:=[3,12,13,14]) rfl rfl rfl rfl rfl,d1++[x],e1b,rfl,by simp,by rw [condE_snoc,← List.append_assoc,List.length_append,wrapId (by omega) (by omega)];rfl⟩
 have h1':=of_decide_eq_false h1;rw [hll1] at h1';obtain rfl:e1=[]:=List.eq_nil_of_length_eq_zero (by omega);rw [List.append_nil] at hl1;subst hl1;refine awp_exit ?_;refine awp_norm [3] rfl rfl ?_;refine rz [2] ?_;refine awp_ret ?_;exact ⟨_,[],_,[.d (.sl 4 (exs (args++condE cond)))],rfl,rfl,rfl,rfl,rfl,PWs.refl _,rfl⟩
end
mutual
/-- A statement and all that stand in it, in the order of the text. -/
def flatS:Sm→List Sm
 |.mk kind name proc args cond body els=>.mk kind name proc args cond body els::(flatB body++flatB els)
def flatB:List Sm→List Sm
 |[]=>[]
 |s::r=>flatS s++flatB r
end
theorem flatB_app:∀a b:List Sm,flatB (a++b)=flatB a++flatB b
 |[],_=>by simp [flatB]
 |t::a,b=>by simp only [List.cons_append,flatB,flatB_app a b,List.append_assoc]
theorem sms_app:∀a b:List Sm,sms (a++b)=sms a++sms b
 |[],_=>by simp [sms]
 |t::a,b=>by simp only [List.cons_append,sms,sms_app a b]
section
variable (G:Glob)
/-- A closure's two boxes: is all right so far; the place. -/
def WkR(vs ay:List ByteArray)(ps:List Pc)(ok:Bool):List Row:=[.box 4 [.d (.s (.bool ok))],.box 196 [.d (.sl 1 (strs vs)),.d (.sl 1 (strs ay)),.d (.sl 7 (pcs ps))]]
theorem walk_snoc(g:Sm→Bool)(ok:Bool)(d:List Sm)(kind name proc:ByteArray)(args:List Ex)(cond:List (List Ts))(body els:List Sm):((((ok&&(flatB d).all g)&&g (.mk kind name proc args cond body els))&&(flatB body).all g)&&(flatB els).all g)=(ok&&(flatB (d++[.mk kind name proc args cond body els])).all g):=by
 rw [flatB_app];simp only [flatB,flatS,List.append_nil,List.all_append,List.all_cons,Bool.and_assoc]
def WkOk(vs ay:List ByteArray)(ps:List Pc)(c:FuncId)(g:Sm→Bool)(m:Nat):Prop:=∀(l:List Sm) (ok:Bool),fuB l<m→wtB l≤1000000000→(∀x,x∈flatB l→∀ok,Spec Tryz.prog G c [.d (.agg x.cs),.box 0 0,.box 1 0] (WkR vs ay ps ok) (.ret (.tup [])) (WkR vs ay ps (ok&&g x)))→
 Spec Tryz.prog G 113 [.d (.sl 7 (sms l)),.fn c [.box 0 0,.box 1 0]] (WkR vs ay ps ok) (.ret (.tup [])) (WkR vs ay ps (ok&&(flatB l).all g))
theorem walk_step(vs ay:List ByteArray)(ps:List Pc)(c:FuncId)(g:Sm→Bool)(m:Nat)(ih:WkOk G vs ay ps c g m):WkOk G vs ay ps c g (m+1):=by
 intro l ok hf hw hc;have hlen:=wtB_len l
 have hbig:l.length≤1073741824:=by omega
 refine spec_of_awp2 TT_ok (N:=24) Tryz.func113 rfl (by rfl) (Nat.le_refl _) rfl ?_;refine rz [1,6,7,8] ?_;refine awp_block ?_;refine awp_loop (fun k Y=>∃(d1 e1:List Sm),k=e1.length∧l=d1++e1∧Y=⟨[(1,.fn c [.box 0 0,.box 1 0]),(6,.d (.sl 7 (sms l))),(7,.d (num (sms l).length)),(8,.d (num d1.length))],(WkR vs ay ps (ok&&(flatB d1).all g))⟩) (l.length) (⟨[],l,rfl,rfl,by rw [show (flatB ([]:List Sm)).all g=true from rfl,Bool.and_true];rfl⟩) ?_;rintro k Y ⟨d1,e1,rfl,hl1,rfl⟩
 have hll1:(sms l).length=d1.length+e1.length:=by rw [sms_len2,hl1,List.length_append]
 have hdl1:d1.length+e1.length≤1073741824:=by rw [hl1,List.length_append] at hbig;exact hbig
 refine rz [1,6,7,8,9] ?_;refine awp_seq ?_;refine awp_cond2 rfl (onB_intro (fun h1=>?_) (fun h1=>?_))
 ·have h1':=of_decide_eq_true h1
  rw [hll1] at h1'
  cases e1 with
  |nil=>simp only [List.length_nil] at h1';omega
  |cons x e1b=>
  obtain ⟨kind,name,proc,args,cond,body,els⟩:=x;subst hl1;simp only [List.length_cons] at hdl1;have hfx:=fuB_app d1 (.mk kind name proc args cond body els::e1b);have hwx:=wtB_app d1 (.mk kind name proc args cond body els::e1b);simp only [fuB,fuS,wtB,wtS] at hfx hwx
  have hm0 : .mk kind name proc args cond body els∈flatB (d1++.mk kind name proc args cond body els::e1b):=by rw [flatB_app];simp [flatB,flatS]
  have hmb:∀y,y∈flatB body→y∈flatB (d1++.mk kind name proc args cond body els::e1b):=fun y hy=>by rw [flatB_app];simp [flatB,flatS,hy]
  have hme:∀y,y∈flatB els→y∈flatB (d1++.mk kind name proc args cond body els::e1b):=fun y hy=>by rw [flatB_app];simp [flatB,flatS,hy]
  refine awp_skip ?_;refine awp_seq ?_;refine awp_block ?_;refine rgs fun E K J O=>?_;refine And.intro (by omega) (Exists.intro _ (And.intro (sms_at2 rfl) ?_));refine O _ (aN [1,5,6,7,8] rfl rfl ?_);clear O J K E;refine rgs fun E K J O=>?_;refine aS [0,1] (hc _ hm0 _) ?_;refine O _ (aN [1,5,6,7,8] rfl rfl ?_);clear O J K E;refine rgs fun E K J O=>?_;show aCall _ _ _ _ _ _ _;refine aR [0,1] rfl rfl rfl (ih body _ (by omega) (by omega) (fun y hy=>hc y (hmb y hy))) rfl rfl rfl rfl ?_;refine O _ (aN [1,5,6,7,8] rfl rfl ?_);clear O J K E;refine rgn fun E K J O=>?_;show aCall _ _ _ _ _ _ _;refine aR [0,1] rfl rfl rfl (ih els _ (by omega) (by omega) (fun y hy=>hc y (hme y hy))) rfl rfl rfl rfl ?_;refine O _ (aN [1,6,7,8] rfl rfl ?_);clear O J K E;refine rgn fun E K J O=>?_;refine O _ ?_;clear O J K E;exact ⟨_,Nat.lt_succ_self _,_,sub_pick (L:=[0,1]) (slots:=[1,6,7,8]) rfl rfl rfl rfl rfl,d1++[.mk kind name proc args cond body els],e1b,rfl,by simp,by rw [← walk_snoc,List.length_append,wrapId (by omega) (by omega)];rfl⟩
 have h1':=of_decide_eq_false h1;rw [hll1] at h1';obtain rfl:e1=[]:=List.eq_nil_of_length_eq_zero (by omega);rw [List.append_nil] at hl1;subst hl1;refine awp_exit ?_;exact ⟨_,[0,1],_,[],rfl,rfl,rfl,rfl,rfl,PWs.nil,rfl⟩
theorem walk_all(vs ay:List ByteArray)(ps:List Pc)(c:FuncId)(g:Sm→Bool):∀m,WkOk G vs ay ps c g m
 |0=>fun l ok h=>absurd h (by omega)
 |m+1=>walk_step G vs ay ps c g m (walk_all vs ay ps c g m)
end
end Go.Abs
end
section
namespace Go.Abs
open Go Go.Proofs
attribute [local irreducible] aCall AWp Sub Spec
def BkE(G:Glob)(m:Nat):Prop:=∀(l:List Ex) (d:Int),fuL l<m→0≤d→(fuL l:Int)+2 * d<10000→wtL l≤1000000000→Spec Tryz.prog G 130 [.d (.sl 4 (exs l)),.d (num d)] [] (.ret (.d (.sl 4 (exs l)))) []
def p130_5:Plan:=(.take 0 (.take 1 (.take 2 (.take 3 (.take 4 (.load 5 (.take 6 (.take 7 (.take 8 (.take 9 (.load 10 (.take 11 (.take 12 (.take 13 (.take 14 (.load 15 (.take 16 (.take 17 (.take 18 (.take 19 (.load 20 (.take 21 (.take 22 (.one 23 (.one 24 (.one 25 (.one 26 (.take 27 .done))))))))))))))))))))))))))))
theorem exprsBack_step(G:Glob)(m:Nat)(ih:BkE G m):BkE G (m+1):=by
 intro l d hf hd0 hd5 hw;have hlen:=wtL_len l
 have hbig:l.length≤1073741824:=by omega
 refine spec_of_awp2 TT_ok (N:=45) Tryz.func130 rfl (by rfl) (Nat.le_refl _) rfl ?_;refine rz [0,1] ?_;refine rz [0,1,5] ?_;refine awp_seq ?_;refine rz [0,1,5,6] ?_;refine awp_acc 5 143 4 rfl rfl rfl ?_;refine awp_norm [0,1,5,6] rfl rfl ?_;refine awp_block ?_;refine awp_loop (fun k Y=>∃(d1 e1:List Ex),k=e1.length∧l=d1++e1∧Y=⟨[(0,.d (.sl 4 (exs l))),(1,.d (num d)),(5,.acc 0),(6,.d (num d1.length))],[.acc 143 4 (exs d1)]⟩) (l.length) (⟨[],l,rfl,rfl,rfl⟩) ?_;rintro k Y ⟨d1,e1,rfl,hl1,rfl⟩
 have hll1:(exs l).length=d1.length+e1.length:=by rw [ex_len,hl1,List.length_append]
 have hdl1:d1.length+e1.length≤1073741824:=by rw [hl1,List.length_append] at hbig;exact hbig
 refine awp_seq ?_;refine rgs fun E K J O=>?_;refine onB_intro (fun h1=>?_) (fun h1=>?_)
 ·have h1':=of_decide_eq_true h1
  rw [hll1] at h1'
  cases e1 with
  |nil=>simp only [List.length_nil] at h1';omega
  |cons x e1b=>
  obtain ⟨p1,n1,m1,l1⟩:=x;subst hl1;simp only [List.length_cons] at hdl1
  have hfx:fuL l1+2≤m∧(fuL l1:Int)+2 * (d+1)<10000:=by rw [fuL_app] at hf hd5;simp only [fuL,fuE] at hf hd5;omega
  have hwx:wtL l1≤1000000000:=by rw [wtL_app] at hw;simp only [wtL,wtE] at hw;omega
  refine O _ (aN [0,1,5,6,14] rfl rfl ?_);clear O J K E;refine awp_cond2 rfl (onB_intro (fun h2=>?_) (fun h2=>?_))
  ·refine awp_skip ?_;refine awp_seq ?_;refine awp_block ?_
   refine (awp_draw TT_ok mixed p130_5 [26] (fun _=>false) (by kernel_rfl) fun E K J O=>?_);refine And.intro ((by omega)) (Exists.intro _ (And.intro (exs_at rfl) ?_));refine And.intro ((by omega)) (Exists.intro _ (And.intro (exs_at rfl) ?_));refine And.intro ((by omega)) (Exists.intro _ (And.intro (exs_at rfl) ?_));refine And.intro ((by omega)) (Exists.intro _ (And.intro (exs_at rfl) ?_))
   show aCall _ _ _ _ _ _ _
   have ih1:=ih l1 (IntKind.i64.wrap (d+1)) (by omega) (by rw [wrapId (by omega) (by omega)];omega) (by rw [wrapId (by omega) (by omega)];omega) hwx;refine aS [] ih1 ?_;refine And.intro (And.intro ((by simp only [ex_len,chunk_length];omega)) ((by simp only [ex_len,chunk_length,maxLen];omega))) ?_;refine O _ (aN [0,1,5,6] rfl rfl ?_);clear O J K E;refine rgn fun E K J O=>?_;refine O _ ?_;clear O J K E;exact ⟨_,Nat.lt_succ_self _,_,sub_pick (L:=[0]) (slots:=[0,1,5,6]) rfl rfl rfl rfl rfl,d1++[.mk p1 n1 m1 l1],e1b,rfl,by simp,by rw [← exs_snoc,List.length_append,wrapId (by omega) (by omega)];rfl⟩
  have:=of_decide_eq_false h2;rw [fuL_app] at hd5;omega
 have h1':=of_decide_eq_false h1;rw [hll1] at h1';obtain rfl:e1=[]:=List.eq_nil_of_length_eq_zero (by omega);rw [List.append_nil] at hl1;subst hl1;refine O _ (aN [0,1,5,6,14] rfl rfl ?_);clear O J K E;refine awp_cond rfl ?_;refine awp_exit ?_;refine awp_norm [5] rfl rfl ?_;refine rz [4] ?_;refine awp_ret ?_;exact ⟨_,[],_,[.d (.sl 4 (exs l))],rfl,rfl,rfl,rfl,rfl,PWs.refl _,rfl⟩
theorem exprsBack_spec(G:Glob):∀m,BkE G m
 |0=>fun l d h=>absurd h (by omega)
 |m+1=>exprsBack_step G m (exprsBack_spec G m)
theorem exprsBack_all(G:Glob)(l:List Ex)(hf:fuL l≤9900)(hw:wtL l≤1000000000):Spec Tryz.prog G 130 [.d (.sl 4 (exs l)),.d (num 0)] [] (.ret (.d (.sl 4 (exs l)))) []:=exprsBack_spec G (fuL l+1) l 0 (Nat.lt_succ_self _) (Int.le_refl _) (by omega) hw
def p73_1:Plan:=(.take 0 (.load 1 (.take 2 (.load 3 (.take 4 (.load 5 (.take 6 (.load 7 (.one 8 (.one 9 (.one 10 .done)))))))))))
theorem exprBack_spec(G:Glob)(e:Ex)(hf:fuE e≤9900)(hw:wtE e≤1000000000):Spec Tryz.prog G 73 [.d (.agg e.cs)] [] (.ret (.d (.agg e.cs))) []:=by
 obtain ⟨op,n,nm,l⟩:=e;refine spec_of_awp2 TT_ok (N:=13) Tryz.func73 rfl (by rfl) (Nat.le_refl _) rfl ?_;refine rz [1,2] ?_;refine awp_seq ?_;refine (awp_draw TT_ok mixed p73_1 [10] (fun i=>Nat.beq i 0) (by kernel_rfl) fun E K J O=>?_)
 show aCall _ _ _ _ _ _ _
 refine aR [] rfl rfl rfl (exprsBack_all G l (by simp only [fuE] at hf;omega) (by simp only [wtE] at hw;omega)) rfl rfl rfl rfl ?_;refine O _ (aN [2] rfl rfl ?_);clear O J K E;refine awp_ret ?_;exact ⟨_,[],_,[encE (.mk op n nm l)],rfl,rfl,rfl,rfl,rfl,PWs.refl _,rfl⟩
theorem fuR_app:∀(a b:List Ts),fuR b≤fuR (a++b)
 |[],b=>Nat.le_refl _
 |x::a,b=>by have:=fuR_app a b;simp only [List.cons_append,fuR];omega
def p131_5:Plan:=(.take 0 (.take 1 (.take 2 (.take 3 (.take 4 (.load 5 (.take 7 (.take 8 (.take 9 (.take 10 (.load 11 (.take 12 (.take 13 (.take 14 (.take 15 (.load 16 (.one 6 (.one 17 (.one 18 (.one 19 (.one 20 (.take 21 .done))))))))))))))))))))))
theorem testsBack_spec(G:Glob)(l:List Ts)(hf:fuR l≤9900)(hw:wtR l≤1000000000):Spec Tryz.prog G 131 [.d (.sl 9 (tss l))] [] (.ret (.d (.sl 9 (tss l)))) []:=by
 have hlen:=wtR_len l
 have hbig:l.length≤1073741824:=by omega
 refine spec_of_awp2 TT_ok (N:=33) Tryz.func131 rfl (by rfl) (Nat.le_refl _) rfl ?_;refine rz [0] ?_;refine rz [0,3] ?_;refine awp_seq ?_;refine rz [0,3,4] ?_;refine awp_acc 3 288 9 rfl rfl rfl ?_;refine awp_norm [0,3,4] rfl rfl ?_;refine awp_block ?_;refine awp_loop (fun k Y=>∃(d1 e1:List Ts),k=e1.length∧l=d1++e1∧Y=⟨[(0,.d (.sl 9 (tss l))),(3,.acc 0),(4,.d (num d1.length))],[.acc 288 9 (tss d1)]⟩) (l.length) (⟨[],l,rfl,rfl,rfl⟩) ?_;rintro k Y ⟨d1,e1,rfl,hl1,rfl⟩
 have hll1:(tss l).length=d1.length+e1.length:=by rw [tss_len3,hl1,List.length_append]
 have hdl1:d1.length+e1.length≤1073741824:=by rw [hl1,List.length_append] at hbig;exact hbig
 refine awp_seq ?_;refine rz [0,3,4,8] ?_;refine awp_cond2 rfl (onB_intro (fun h1=>?_) (fun h1=>?_))
 ·have h1':=of_decide_eq_true h1
  rw [hll1] at h1'
  cases e1 with
  |nil=>simp only [List.length_nil] at h1';omega
  |cons x e1b=>
  obtain ⟨⟨p1,n1,m1,l1⟩,rel,⟨p2,n2,m2,l2⟩⟩:=x;subst hl1;simp only [List.length_cons] at hdl1;have hx:=wtR_app d1 (⟨.mk p1 n1 m1 l1,rel,.mk p2 n2 m2 l2⟩::e1b);rw [wtR,wtT] at hx;simp only at hx;have hy:=fuR_app d1 (⟨.mk p1 n1 m1 l1,rel,.mk p2 n2 m2 l2⟩::e1b);rw [fuR,fuT] at hy;simp only at hy;refine awp_skip ?_;refine awp_seq ?_;refine awp_block ?_;refine (awp_draw TT_ok mixed p131_5 [20] (fun _=>false) (by kernel_rfl) fun E K J O=>?_);refine And.intro ((by omega)) (Exists.intro _ (And.intro (tss_at rfl) ?_));refine And.intro ((by omega)) (Exists.intro _ (And.intro (tss_at rfl) ?_));refine And.intro ((by omega)) (Exists.intro _ (And.intro (tss_at rfl) ?_));refine aS [] (exprBack_spec G (.mk p1 n1 m1 l1) (by omega) (by omega)) ?_;refine aS [] (exprBack_spec G (.mk p2 n2 m2 l2) (by omega) (by omega)) ?_;refine And.intro (And.intro ((by simp only [tss_len3,chunk_length];omega)) ((by simp only [tss_len3,chunk_length,maxLen];omega))) ?_;refine O _ (aN [0,3,4] rfl rfl ?_);clear O J K E;refine rgn fun E K J O=>?_;refine O _ ?_;clear O J K E;exact ⟨_,Nat.lt_succ_self _,_,sub_pick (L:=[0]) (slots:=[0,3,4]) rfl rfl rfl rfl rfl,d1++[⟨.mk p1 n1 m1 l1,rel,.mk p2 n2 m2 l2⟩],e1b,rfl,by simp,by rw [← tss_snoc,List.length_append,wrapId (by omega) (by omega)];rfl⟩
 have h1':=of_decide_eq_false h1;rw [hll1] at h1';obtain rfl:e1=[]:=List.eq_nil_of_length_eq_zero (by omega);rw [List.append_nil] at hl1;subst hl1;refine awp_exit ?_;refine awp_norm [3] rfl rfl ?_;refine rz [2] ?_;refine awp_ret ?_;exact ⟨_,[],_,[.d (.sl 9 (tss l))],rfl,rfl,rfl,rfl,rfl,PWs.refl _,rfl⟩
def p71_5:Plan:=(.take 0 (.take 1 (.take 2 (.take 3 (.take 4 (.load 5 (.take 6 (.take 7 (.take 8 (.take 9 (.load 10 (.one 11 (.one 12 (.one 13 (.take 14 .done)))))))))))))))
theorem arraysBack_spec(G:Glob)(l:List Ar)(hbig:l.length≤1073741824):Spec Tryz.prog G 71 [.d (.sl 2 (ars l))] [] (.ret (.d (.sl 2 (ars l)))) []:=by
 refine spec_of_awp2 TT_ok (N:=26) Tryz.func71 rfl (by rfl) (Nat.le_refl _) rfl ?_;refine rz [0] ?_;refine rz [0,3] ?_;refine awp_seq ?_;refine rz [0,3,4] ?_;refine awp_acc 3 99 2 rfl rfl rfl ?_;refine awp_norm [0,3,4] rfl rfl ?_;refine awp_block ?_;refine awp_loop (fun k Y=>∃(d1 e1:List Ar),k=e1.length∧l=d1++e1∧Y=⟨[(0,.d (.sl 2 (ars l))),(3,.acc 0),(4,.d (num d1.length))],[.acc 99 2 (ars d1)]⟩) (l.length) (⟨[],l,rfl,rfl,rfl⟩) ?_;rintro k Y ⟨d1,e1,rfl,hl1,rfl⟩
 have hll1:(ars l).length=d1.length+e1.length:=by rw [ars,List.length_map,hl1,List.length_append]
 have hdl1:d1.length+e1.length≤1073741824:=by rw [hl1,List.length_append] at hbig;exact hbig
 refine awp_seq ?_;refine rz [0,3,4,8] ?_;refine awp_cond2 rfl (onB_intro (fun h1=>?_) (fun h1=>?_))
 ·have h1':=of_decide_eq_true h1
  rw [hll1] at h1'
  cases e1 with
  |nil=>simp only [List.length_nil] at h1';omega
  |cons x e1b=>
  obtain ⟨nm,sz⟩:=x;subst hl1;simp only [List.length_cons] at hdl1;refine awp_skip ?_;refine awp_seq ?_;refine awp_block ?_;refine (awp_draw TT_ok mixed p71_5 [13] (fun _=>false) (by kernel_rfl) fun E K J O=>?_);refine And.intro ((by omega)) (Exists.intro _ (And.intro (ars_at rfl) ?_));refine And.intro ((by omega)) (Exists.intro _ (And.intro (ars_at rfl) ?_));refine And.intro (And.intro ((by simp only [ars,List.length_map,chunk_length];omega)) ((by simp only [ars,List.length_map,chunk_length,maxLen];omega))) ?_;refine O _ (aN [0,3,4] rfl rfl ?_);clear O J K E;refine rgn fun E K J O=>?_;refine O _ ?_;clear O J K E;exact ⟨_,Nat.lt_succ_self _,_,sub_pick (L:=[0]) (slots:=[0,3,4]) rfl rfl rfl rfl rfl,d1++[⟨nm,sz⟩],e1b,rfl,by simp,by rw [← ars_snoc,List.length_append,wrapId (by omega) (by omega)];rfl⟩
 have h1':=of_decide_eq_false h1;rw [hll1] at h1';obtain rfl:e1=[]:=List.eq_nil_of_length_eq_zero (by omega);rw [List.append_nil] at hl1;subst hl1;refine awp_exit ?_;refine awp_norm [3] rfl rfl ?_;refine rz [2] ?_;refine awp_ret ?_;exact ⟨_,[],_,[.d (.sl 2 (ars l))],rfl,rfl,rfl,rfl,rfl,PWs.refl _,rfl⟩
theorem fuC_app:∀(a b:List (List Ts)),fuC b≤fuC (a++b)
 |[],b=>Nat.le_refl _
 |x::a,b=>by have:=fuC_app a b;simp only [List.cons_append,fuC];omega
theorem dpB_app:∀(a b:List Sm),dpB b≤dpB (a++b)
 |[],b=>Int.le_refl _
 |x::a,b=>by have:=dpB_app a b;simp only [List.cons_append,dpB];omega
theorem dpB_nn:∀l:List Sm,0≤dpB l
 |[]=>by simp [dpB]
 |x::l=>by have:=dpB_nn l;simp only [dpB];omega
def BkS(G:Glob)(m:Nat):Prop:=∀(l:List Sm) (d:Int),fuB l<m→0≤d→dpB l+d<50→okB 9900 l=true→wtB l≤1000000000→Spec Tryz.prog G 72 [.d (.sl 7 (sms l)),.d (num d)] [] (.ret (.d (.sl 7 (sms l)))) []
theorem okB_app(n:Nat):∀(a b:List Sm),okB n (a++b)=true→okB n b=true
 |[],b,h=>h
 |x::a,b,h=>by
  simp only [List.cons_append,okB,Bool.and_eq_true] at h;exact okB_app n a b h.2
set_option maxHeartbeats 1000000
def p72_5:Plan:=(.take 0 (.take 1 (.take 2 (.take 3 (.load 4 (.take 5 (.take 6 (.take 7 (.take 8 (.load 9 (.take 10 (.take 11 (.take 12 (.take 13 (.load 14 (.take 15 (.take 16 (.take 17 (.take 18 (.load 19 (.take 21 (.take 22 (.take 23 (.take 24 (.load 25 (.take 26 (.take 27 (.take 29 (.take 30 (.take 31 (.take 32 (.load 33 (.take 34 (.take 35 (.alt 20 (.alt 28 (.alt 36 (.alt 37 (.one 38 (.one 39 .done)) (.alt 38 (.one 37 (.one 39 .done)) .done)) (.alt 38 (.one 36 (.one 37 (.one 39 .done))) .done)) (.alt 38 (.one 28 (.one 36 (.one 37 (.one 39 .done)))) .done)) (.alt 38 (.one 20 (.one 28 (.one 36 (.one 37 (.one 39 .done))))) .done))))))))))))))))))))))))))))))))))))
def p72_9:Plan:=(.take 0 (.load 1 (.take 2 (.take 3 (.take 4 (.take 5 (.load 6 (.take 7 (.take 8 (.load 9 (.one 10 (.one 11 (.one 12 (.take 13 (.one 14 .done)))))))))))))))
theorem stmtsBack_step(G:Glob)(m:Nat)(ih:BkS G m):BkS G (m+1):=by
 intro l d hf hd0 hdp hok hw;have hlen:=wtB_len l
 have hbig:l.length≤1073741824:=by omega
 refine spec_of_awp2 TT_ok (N:=86) Tryz.func72 rfl (by rfl) (Nat.le_refl _) rfl ?_;refine rz [0,1] ?_;refine rz [0,1,5] ?_;refine awp_seq ?_;refine rz [0,1,5,6] ?_;refine awp_acc 5 228 7 rfl rfl rfl ?_;refine awp_norm [0,1,5,6] rfl rfl ?_;refine awp_block ?_;refine awp_loop (fun k Y=>∃(d1 e1:List Sm),k=e1.length∧l=d1++e1∧Y=⟨[(0,.d (.sl 7 (sms l))),(1,.d (num d)),(5,.acc 0),(6,.d (num d1.length))],[.acc 228 7 (sms d1)]⟩) (l.length) (⟨[],l,rfl,rfl,rfl⟩) ?_;rintro k Y ⟨d1,e1,rfl,hl1,rfl⟩
 have hll1:(sms l).length=d1.length+e1.length:=by rw [sms_len2,hl1,List.length_append]
 have hdl1:d1.length+e1.length≤1073741824:=by rw [hl1,List.length_append] at hbig;exact hbig
 refine awp_seq ?_;refine rgs fun E K J O=>?_;refine onB_intro (fun h1=>?_) (fun h1=>?_)
 ·have h1':=of_decide_eq_true h1
  rw [hll1] at h1'
  cases e1 with
  |nil=>simp only [List.length_nil] at h1';omega
  |cons x e1b=>
  obtain ⟨kind,name,proc,args,cond,body,els⟩:=x;subst hl1;simp only [List.length_cons] at hdl1;have hfx:=fuB_app d1 (.mk kind name proc args cond body els::e1b);have hwx:=wtB_app d1 (.mk kind name proc args cond body els::e1b);have hdx:=dpB_app d1 (.mk kind name proc args cond body els::e1b);have hok1:=okB_app 9900 d1 _ hok;simp only [fuB,fuS,wtB,wtS,dpB,dpS] at hfx hwx hdx;simp only [okB,okS,Bool.and_eq_true,decide_eq_true_eq] at hok1;obtain ⟨⟨⟨⟨⟨_,hfa⟩,_,hfc⟩,hob⟩,hoe⟩,_⟩:=hok1;have hnb:=dpB_nn body;have hne:=dpB_nn els;have hfb:=fuB_ge body;have hfe:=fuB_ge els;have hcl:=wtC_len cond
  have hbig2:cond.length≤1073741824:=by omega
  refine O _ (aN [0,1,5,6,16] rfl rfl ?_);clear O J K E;refine awp_cond2 rfl (onB_intro (fun h2=>?_) (fun h2=>?_))
  ·refine awp_skip ?_;refine awp_seq ?_;refine awp_block ?_
   refine awp_cut (fun Z=>Z=⟨[(0,.d (.sl 7 (sms (d1++.mk kind name proc args cond body els::e1b)))),(1,.d (num d)),(5,.acc 0),(6,.d (num d1.length)),(7,.box 1 0)],[.acc 228 7 (sms d1),.box 228 [.d (str kind),.d (str name),.d (str proc),.d (.sl 4 (exs args)),.d (.s (.slice none 0 0)),.d (.sl 7 (sms body)),.d (.sl 7 (sms els))]]⟩) ?_ ?_
   ·refine (awp_draw TT_ok mixed p72_5 [39] (fun _=>false) (by kernel_rfl) fun E K J O=>?_)
    refine And.intro ((by omega)) (Exists.intro _ (And.intro (sms_at2 rfl) ?_));refine And.intro ((by omega)) (Exists.intro _ (And.intro (sms_at2 rfl) ?_));refine And.intro ((by omega)) (Exists.intro _ (And.intro (sms_at2 rfl) ?_));refine And.intro ((by omega)) (Exists.intro _ (And.intro (sms_at2 rfl) ?_));refine And.intro ((by omega)) (Exists.intro _ (And.intro (sms_at2 rfl) ?_));refine And.intro ((by omega)) (Exists.intro _ (And.intro (sms_at2 rfl) ?_));refine And.intro ?_ ?_
    ·refine aS [] (exprsBack_all G args (by omega) (by omega)) ?_
     refine And.intro ?_ ?_
     ·show aCall _ _ _ _ _ _ _
      refine aR [] rfl rfl rfl (ih body (IntKind.i64.wrap (d+1)) (by omega) (by rw [wrapId (by omega) (by omega)];omega) (by rw [wrapId (by omega) (by omega)];omega) hob (by omega)) rfl rfl rfl rfl ?_;refine And.intro ?_ ?_
      ·show aCall _ _ _ _ _ _ _
       refine aR [] rfl rfl rfl (ih els (IntKind.i64.wrap (d+1)) (by omega) (by rw [wrapId (by omega) (by omega)];omega) (by rw [wrapId (by omega) (by omega)];omega) hoe (by omega)) rfl rfl rfl rfl ?_;refine And.intro ?_ ?_
       ·refine O _ ?_;clear O J K E
        exact ⟨_,sub_norm (slots:=[0,1,5,6,7]) rfl rfl,rfl⟩
       refine And.intro ?_ ?_
       ·refine O _ ?_;clear O J K E
        exact ⟨_,sub_norm (slots:=[0,1,5,6,7]) rfl rfl,rfl⟩
       trivial
      refine And.intro ?_ ?_
      ·show aCall _ _ _ _ _ _ _
       refine aR [] rfl rfl rfl (ih els (IntKind.i64.wrap (d+1)) (by omega) (by rw [wrapId (by omega) (by omega)];omega) (by rw [wrapId (by omega) (by omega)];omega) hoe (by omega)) rfl rfl rfl rfl ?_;refine O _ ?_;clear O J K E;exact ⟨_,sub_norm (slots:=[0,1,5,6,7]) rfl rfl,rfl⟩
      trivial
     refine And.intro ?_ ?_
     ·show aCall _ _ _ _ _ _ _
      refine aR [] rfl rfl rfl (ih body (IntKind.i64.wrap (d+1)) (by omega) (by rw [wrapId (by omega) (by omega)];omega) (by rw [wrapId (by omega) (by omega)];omega) hob (by omega)) rfl rfl rfl rfl ?_
      show aCall _ _ _ _ _ _ _
      refine aR [] rfl rfl rfl (ih els (IntKind.i64.wrap (d+1)) (by omega) (by rw [wrapId (by omega) (by omega)];omega) (by rw [wrapId (by omega) (by omega)];omega) hoe (by omega)) rfl rfl rfl rfl ?_;refine O _ ?_;clear O J K E;exact ⟨_,sub_norm (slots:=[0,1,5,6,7]) rfl rfl,rfl⟩
     trivial
    refine And.intro ?_ ?_
    ·refine aS [] (exprsBack_all G args (by omega) (by omega)) ?_
     show aCall _ _ _ _ _ _ _
     refine aR [] rfl rfl rfl (ih body (IntKind.i64.wrap (d+1)) (by omega) (by rw [wrapId (by omega) (by omega)];omega) (by rw [wrapId (by omega) (by omega)];omega) hob (by omega)) rfl rfl rfl rfl ?_
     show aCall _ _ _ _ _ _ _
     refine aR [] rfl rfl rfl (ih els (IntKind.i64.wrap (d+1)) (by omega) (by rw [wrapId (by omega) (by omega)];omega) (by rw [wrapId (by omega) (by omega)];omega) hoe (by omega)) rfl rfl rfl rfl ?_;refine O _ ?_;clear O J K E;exact ⟨_,sub_norm (slots:=[0,1,5,6,7]) rfl rfl,rfl⟩
    trivial
   rintro Z rfl;refine awp_accCell 1 4 60 1 rfl rfl rfl rfl ?_;refine awp_norm [0,1,5,6,7] rfl rfl ?_;refine awp_seq ?_;refine rz [0,1,5,6,7,8] ?_;refine awp_block ?_;refine awp_loop (fun k Y=>∃(d2 e2:List (List Ts)),k=e2.length∧cond=d2++e2∧Y=⟨[(0,.d (.sl 7 (sms (d1++.mk kind name proc args cond body els::e1b)))),(1,.d (num d)),(5,.acc 0),(6,.d (num d1.length)),(7,.box 1 0),(8,.d (num d2.length))],[.acc 228 7 (sms d1),.box 228 [.d (str kind),.d (str name),.d (str proc),.d (.sl 4 (exs args)),.acc 2,.d (.sl 7 (sms body)),.d (.sl 7 (sms els))],.acc 60 1 (cnd d2)]⟩) (cond.length) (⟨[],cond,rfl,rfl,rfl⟩) ?_;rintro k Y ⟨d2,e2,rfl,hl2,rfl⟩
   have hll2:(cnd cond).length=d2.length+e2.length:=by rw [cnd_len3,hl2,List.length_append]
   have hdl2:d2.length+e2.length≤1073741824:=by rw [hl2,List.length_append] at hbig2;exact hbig2
   refine awp_seq ?_;refine rgs fun E K J O=>?_;refine And.intro ((by omega)) (Exists.intro _ (And.intro (sms_at2 rfl) ?_));refine O _ (aN [0,1,5,6,7,8,64] rfl rfl ?_);clear O J K E;refine awp_cond2 rfl (onB_intro (fun h3=>?_) (fun h3=>?_))
   ·have h3':=of_decide_eq_true h3
    rw [hll2] at h3'
    cases e2 with
    |nil=>simp only [List.length_nil] at h3';omega
    |cons x e2b=>
    subst hl2;simp only [List.length_cons] at hdl2;have hcx:=wtC_app d2 (x::e2b);simp only [wtC] at hcx;have hcy:=fuC_app d2 (x::e2b);simp only [fuC] at hcy;refine awp_skip ?_;refine awp_seq ?_;refine awp_block ?_;refine (awp_draw TT_ok mixed p72_9 [12,14] (fun i=>Nat.beq i 1) (by kernel_rfl) fun E K J O=>?_);refine And.intro ((by omega)) (Exists.intro _ (And.intro (sms_at2 rfl) ?_));refine And.intro (by omega) (Exists.intro _ (And.intro (cnd_at rfl) ?_));refine aS [] (testsBack_spec G x (by omega) (by omega)) ?_;refine And.intro (And.intro ((by simp only [cnd_len3,chunk_length];omega)) ((by simp only [cnd_len3,chunk_length,maxLen];omega))) ?_;refine O _ (aN [0,1,5,6,7,8] rfl rfl ?_);clear O J K E;refine rgn fun E K J O=>?_;refine O _ ?_;clear O J K E;exact ⟨_,Nat.lt_succ_self _,_,sub_pick (L:=[0,1,2]) (slots:=[0,1,5,6,7,8]) rfl rfl rfl rfl rfl,d2++[x],e2b,rfl,by simp,by rw [← cnd_snoc,List.length_append,wrapId (by omega) (by omega)];rfl⟩
   have h3':=of_decide_eq_false h3;rw [hll2] at h3';obtain rfl:e2=[]:=List.eq_nil_of_length_eq_zero (by omega);rw [List.append_nil] at hl2;subst hl2;refine awp_exit ?_;refine awp_norm [0,1,5,6,7] rfl rfl ?_;refine rgn fun E K J O=>?_;refine And.intro (And.intro ((by simp only [sms_len2,chunk_length];omega)) ((by simp only [sms_len2,chunk_length,maxLen];omega))) ?_;refine O _ (aN [0,1,5,6] rfl rfl ?_);clear O J K E;refine rgn fun E K J O=>?_;refine O _ ?_;clear O J K E;exact ⟨_,Nat.lt_succ_self _,_,sub_pick (L:=[0]) (slots:=[0,1,5,6]) rfl rfl rfl rfl rfl,d1++[.mk kind name proc args cond body els],e1b,rfl,by simp,by rw [← sms_snoc2,List.length_append,wrapId (by omega) (by omega)];rfl⟩
  have:=of_decide_eq_false h2;omega
 have h1':=of_decide_eq_false h1;rw [hll1] at h1';obtain rfl:e1=[]:=List.eq_nil_of_length_eq_zero (by omega);rw [List.append_nil] at hl1;subst hl1;refine O _ (aN [0,1,5,6,16] rfl rfl ?_);clear O J K E;refine awp_cond rfl ?_;refine awp_exit ?_;refine awp_norm [5] rfl rfl ?_;refine rz [4] ?_;refine awp_ret ?_;exact ⟨_,[],_,[.d (.sl 7 (sms l))],rfl,rfl,rfl,rfl,rfl,PWs.refl _,rfl⟩
theorem stmtsBack_spec(G:Glob):∀m,BkS G m
 |0=>fun l d h=>absurd h (by omega)
 |m+1=>stmtsBack_step G m (stmtsBack_spec G m)
theorem stmtsBack_all(G:Glob)(l:List Sm)(hd:dpB l<50)(hok:okB 9900 l=true)(hw:wtB l≤1000000000):Spec Tryz.prog G 72 [.d (.sl 7 (sms l)),.d (num 0)] [] (.ret (.d (.sl 7 (sms l)))) []:=stmtsBack_spec G (fuB l+1) l 0 (Nat.lt_succ_self _) (Int.le_refl _) (by omega) hok hw
end Go.Abs
end
section
namespace Go.Abs
open Go Go.Proofs
attribute [local irreducible] aCall AWp Sub Spec
section
variable (G:Glob)
def CyE(m:Nat):Prop:=∀l:List Ex,fuL l<m→wtL l≤1000000000→Spec Tryz.prog G 225 [.d (.sl 4 (exs l))] [] (.ret (.d (.sl 4 (exs l)))) []
theorem copyE_step(m:Nat)(ih:CyE G m):CyE G (m+1):=by
 intro l hf hw;have hlen:=wtL_len l
 have hbig:l.length≤1073741824:=by omega
 refine spec_of_awp2 TT_ok (N:=22) Tryz.func225 rfl (by rfl) (Nat.le_refl _) rfl ?_;refine rz [0] ?_;refine rz [0,3] ?_;refine awp_acc 3 157 4 rfl rfl rfl ?_;refine awp_norm [0,3] rfl rfl ?_;refine awp_seq ?_;refine rz [3,6,7,8] ?_;refine awp_block ?_;refine awp_loop (fun k Y=>∃(d1 e1:List Ex),k=e1.length∧l=d1++e1∧Y=⟨[(3,.acc 0),(6,.d (.sl 4 (exs l))),(7,.d (num (exs l).length)),(8,.d (num d1.length))],[.acc 157 4 (exs d1)]⟩) (l.length) (⟨[],l,rfl,rfl,rfl⟩) ?_;rintro k Y ⟨d1,e1,rfl,hl1,rfl⟩
 have hll1:(exs l).length=d1.length+e1.length:=by rw [ex_len,hl1,List.length_append]
 have hdl1:d1.length+e1.length≤1073741824:=by rw [hl1,List.length_append] at hbig;exact hbig
 refine rz [3,6,7,8,9] ?_;refine awp_seq ?_;refine awp_cond2 rfl (onB_intro (fun h1=>?_) (fun h1=>?_))
 ·have h1':=of_decide_eq_true h1
  rw [hll1] at h1'
  cases e1 with
  |nil=>simp only [List.length_nil] at h1';omega
  |cons x e1b=>
  obtain ⟨p1,n1,m1,l1⟩:=x;subst hl1;simp only [List.length_cons] at hdl1
  have hfx:fuL l1<m:=by rw [fuL_app] at hf;simp only [fuL,fuE] at hf;omega
  have hwx:wtL l1≤1000000000:=by rw [wtL_app] at hw;simp only [wtL,wtE] at hw;omega
  refine awp_skip ?_;refine awp_seq ?_;refine awp_block ?_;refine rgs fun E K J O=>?_;refine And.intro ((by omega)) (Exists.intro _ (And.intro (exs_at rfl) ?_));refine O _ (aN [3,5,6,7,8] rfl rfl ?_);clear O J K E;refine rgs fun E K J O=>?_;refine aS [] (ih l1 hfx hwx) ?_;refine O _ (aN [3,5,6,7,8] rfl rfl ?_);clear O J K E;refine rgn fun E K J O=>?_;refine And.intro (And.intro ((by simp only [ex_len,chunk_length];omega)) ((by simp only [ex_len,chunk_length,maxLen];omega))) ?_;refine O _ (aN [3,6,7,8] rfl rfl ?_);clear O J K E;refine rgn fun E K J O=>?_;refine O _ ?_;clear O J K E;exact ⟨_,Nat.lt_succ_self _,_,sub_pick (L:=[0]) (slots:=[3,6,7,8]) rfl rfl rfl rfl rfl,d1++[.mk p1 n1 m1 l1],e1b,rfl,by simp,by rw [← exs_snoc,List.length_append,wrapId (by omega) (by omega)];rfl⟩
 have h1':=of_decide_eq_false h1;rw [hll1] at h1';obtain rfl:e1=[]:=List.eq_nil_of_length_eq_zero (by omega);rw [List.append_nil] at hl1;subst hl1;refine awp_exit ?_;refine awp_norm [3] rfl rfl ?_;refine rz [2] ?_;refine awp_ret ?_;exact ⟨_,[],_,[.d (.sl 4 (exs l))],rfl,rfl,rfl,rfl,rfl,PWs.refl _,rfl⟩
theorem copyE_spec:∀m,CyE G m
 |0=>fun l h=>absurd h (by omega)
 |m+1=>copyE_step G m (copyE_spec m)
theorem copyE_all(l:List Ex)(hw:wtL l≤1000000000):Spec Tryz.prog G 225 [.d (.sl 4 (exs l))] [] (.ret (.d (.sl 4 (exs l)))) []:=copyE_spec G (fuL l+1) l (Nat.lt_succ_self _) hw
def p226_6:Plan:=(.take 0 (.take 1 (.take 2 (.load 3 (.take 4 (.load 5 (.take 6 (.take 7 (.load 8 (.one 9 (.one 10 (.one 11 (.take 12 .done)))))))))))))
theorem copyT_spec(l:List Ts)(hw:wtR l≤1000000000):Spec Tryz.prog G 226 [.d (.sl 9 (tss l))] [] (.ret (.d (.sl 9 (tss l)))) []:=by
 have hlen:=wtR_len l
 have hbig:l.length≤1073741824:=by omega
 refine spec_of_awp2 TT_ok (N:=33) Tryz.func226 rfl (by rfl) (Nat.le_refl _) rfl ?_;refine rz [0] ?_;refine rz [0,3] ?_;refine awp_acc 3 282 9 rfl rfl rfl ?_;refine awp_norm [0,3] rfl rfl ?_;refine awp_seq ?_;refine rz [3,7,8,9] ?_;refine awp_block ?_;refine awp_loop (fun k Y=>∃(d1 e1:List Ts),k=e1.length∧l=d1++e1∧Y=⟨[(3,.acc 0),(7,.d (.sl 9 (tss l))),(8,.d (num (tss l).length)),(9,.d (num d1.length))],[.acc 282 9 (tss d1)]⟩) (l.length) (⟨[],l,rfl,rfl,rfl⟩) ?_;rintro k Y ⟨d1,e1,rfl,hl1,rfl⟩
 have hll1:(tss l).length=d1.length+e1.length:=by rw [tss_len3,hl1,List.length_append]
 have hdl1:d1.length+e1.length≤1073741824:=by rw [hl1,List.length_append] at hbig;exact hbig
 refine rz [3,7,8,9,10] ?_;refine awp_seq ?_;refine awp_cond2 rfl (onB_intro (fun h1=>?_) (fun h1=>?_))
 ·have h1':=of_decide_eq_true h1
  rw [hll1] at h1'
  cases e1 with
  |nil=>simp only [List.length_nil] at h1';omega
  |cons x e1b=>
  obtain ⟨⟨p1,n1,m1,l1⟩,rel,⟨p2,n2,m2,l2⟩⟩:=x;subst hl1;simp only [List.length_cons] at hdl1;have hx:=wtR_app d1 (⟨.mk p1 n1 m1 l1,rel,.mk p2 n2 m2 l2⟩::e1b);rw [wtR,wtT] at hx;simp only [wtE] at hx
  have hwx:wtL [.mk p1 n1 m1 l1,.mk p2 n2 m2 l2]≤1000000000:=by simp only [wtL,wtE];omega
  refine awp_skip ?_;refine awp_seq ?_;refine awp_block ?_;refine rgs fun E K J O=>?_;refine And.intro ((by omega)) (Exists.intro _ (And.intro (tss_at rfl) ?_));refine O _ (aN [3,5,7,8,9] rfl rfl ?_);clear O J K E;refine rgs fun E K J O=>?_;refine aS [] (copyE_all G [.mk p1 n1 m1 l1,.mk p2 n2 m2 l2] hwx) ?_;refine O _ (aN [3,5,6,7,8,9] rfl rfl ?_);clear O J K E;refine (awp_draw TT_ok mixed p226_6 [11] (fun i=>Nat.beq i 1) (by kernel_rfl) fun E K J O=>?_);refine And.intro (Int.le_refl _) (Exists.intro (Ex.mk p1 n1 m1 l1).cs (And.intro rfl ?_));refine And.intro (Int.zero_le_ofNat 1) (Exists.intro (Ex.mk p2 n2 m2 l2).cs (And.intro rfl ?_));refine And.intro (And.intro ((by simp only [tss_len3,chunk_length];omega)) ((by simp only [tss_len3,chunk_length,maxLen];omega))) ?_;refine O _ (aN [3,7,8,9] rfl rfl ?_);clear O J K E;refine rgn fun E K J O=>?_;refine O _ ?_;clear O J K E;exact ⟨_,Nat.lt_succ_self _,_,sub_pick (L:=[0]) (slots:=[3,7,8,9]) rfl rfl rfl rfl rfl,d1++[⟨.mk p1 n1 m1 l1,rel,.mk p2 n2 m2 l2⟩],e1b,rfl,by simp,by rw [← tss_snoc,List.length_append,wrapId (by omega) (by omega)];rfl⟩
 have h1':=of_decide_eq_false h1;rw [hll1] at h1';obtain rfl:e1=[]:=List.eq_nil_of_length_eq_zero (by omega);rw [List.append_nil] at hl1;subst hl1;refine awp_exit ?_;refine awp_norm [3] rfl rfl ?_;refine rz [2] ?_;refine awp_ret ?_;exact ⟨_,[],_,[.d (.sl 9 (tss l))],rfl,rfl,rfl,rfl,rfl,PWs.refl _,rfl⟩
def CyS(m:Nat):Prop:=∀l:List Sm,fuB l<m→wtB l≤1000000000→Spec Tryz.prog G 173 [.d (.sl 7 (sms l))] [] (.ret (.d (.sl 7 (sms l)))) []
set_option maxHeartbeats 1000000
def p173_12:Plan:=(.take 0 (.take 1 (.load 2 (.take 4 (.load 5 (.take 7 (.one 3 (.one 6 (.one 8 (.take 9 (.one 10 (.take 11 (.one 12 .done)))))))))))))
theorem copyS_step(m:Nat)(ih:CyS G m):CyS G (m+1):=by
 intro l hf hw;have hlen:=wtB_len l
 have hbig:l.length≤1073741824:=by omega
 refine spec_of_awp2 TT_ok (N:=48) Tryz.func173 rfl (by rfl) (Nat.le_refl _) rfl ?_;refine rz [0] ?_;refine rz [0,3] ?_;refine awp_acc 3 217 7 rfl rfl rfl ?_;refine awp_norm [0,3] rfl rfl ?_;refine awp_seq ?_;refine rz [3,9,10,11] ?_;refine awp_block ?_;refine awp_loop (fun k Y=>∃(d1 e1:List Sm),k=e1.length∧l=d1++e1∧Y=⟨[(3,.acc 0),(9,.d (.sl 7 (sms l))),(10,.d (num (sms l).length)),(11,.d (num d1.length))],[.acc 217 7 (sms d1)]⟩) (l.length) (⟨[],l,rfl,rfl,rfl⟩) ?_;rintro k Y ⟨d1,e1,rfl,hl1,rfl⟩
 have hll1:(sms l).length=d1.length+e1.length:=by rw [sms_len2,hl1,List.length_append]
 have hdl1:d1.length+e1.length≤1073741824:=by rw [hl1,List.length_append] at hbig;exact hbig
 refine rz [3,9,10,11,12] ?_;refine awp_seq ?_;refine awp_cond2 rfl (onB_intro (fun h1=>?_) (fun h1=>?_))
 ·have h1':=of_decide_eq_true h1
  rw [hll1] at h1'
  cases e1 with
  |nil=>simp only [List.length_nil] at h1';omega
  |cons x e1b=>
  obtain ⟨kind,name,proc,args,cond,body,els⟩:=x;subst hl1;simp only [List.length_cons] at hdl1;have hfx:=fuB_app d1 (.mk kind name proc args cond body els::e1b);have hwx:=wtB_app d1 (.mk kind name proc args cond body els::e1b);simp only [fuB,fuS,wtB,wtS] at hfx hwx;have hfb:=fuB_ge body;have hfe:=fuB_ge els;have hcl:=wtC_len cond
  have hbig2:cond.length≤1073741824:=by omega
  refine awp_skip ?_;refine awp_seq ?_;refine awp_block ?_;refine rgs fun E K J O=>?_;refine And.intro ((by omega)) (Exists.intro _ (And.intro (sms_at2 rfl) ?_));refine O _ (aN [3,5,9,10,11] rfl rfl ?_);clear O J K E;refine rgs fun E K J O=>?_;refine aS [] (copyE_all G args (by omega)) ?_;refine O _ (aN [3,5,9,10,11] rfl rfl ?_);clear O J K E;refine rz [3,5,6,9,10,11] ?_;refine awp_acc 6 123 1 rfl rfl rfl ?_;refine awp_norm [3,5,6,9,10,11] rfl rfl ?_;refine awp_seq ?_;refine rz [3,5,6,9,10,11,20,21,22] ?_;refine awp_block ?_;refine awp_loop (fun k Y=>∃(d2 e2:List (List Ts)),k=e2.length∧cond=d2++e2∧Y=⟨[(3,.acc 0),(5,.box 1 0),(6,.acc 2),(9,.d (.sl 7 (sms (d1++.mk kind name proc args cond body els::e1b)))),(10,.d (num (sms (d1++.mk kind name proc args cond body els::e1b)).length)),(11,.d (num d1.length)),(20,.d (.sl 1 (cnd cond))),(21,.d (num (cnd cond).length)),(22,.d (num d2.length))],[.acc 217 7 (sms d1),.box 217 [.d (str kind),.d (str name),.d (str proc),.d (.sl 4 (exs args)),.d (.sl 1 (cnd cond)),.d (.sl 7 (sms body)),.d (.sl 7 (sms els))],.acc 123 1 (cnd d2)]⟩) (cond.length) (⟨[],cond,rfl,rfl,rfl⟩) ?_;rintro k Y ⟨d2,e2,rfl,hl2,rfl⟩
  have hll2:(cnd cond).length=d2.length+e2.length:=by rw [cnd_len3,hl2,List.length_append]
  have hdl2:d2.length+e2.length≤1073741824:=by rw [hl2,List.length_append] at hbig2;exact hbig2
  refine rz [3,5,6,9,10,11,20,21,22,23] ?_;refine awp_seq ?_;refine awp_cond2 rfl (onB_intro (fun h2=>?_) (fun h2=>?_))
  ·have h2':=of_decide_eq_true h2
   rw [hll2] at h2'
   cases e2 with
   |nil=>simp only [List.length_nil] at h2';omega
   |cons x e2b=>
   subst hl2;simp only [List.length_cons] at hdl2;have hcx:=wtC_app d2 (x::e2b);simp only [wtC] at hcx;refine awp_skip ?_;refine awp_seq ?_;refine awp_block ?_;refine rgs fun E K J O=>?_;refine And.intro (by omega) (Exists.intro _ (And.intro (cnd_at rfl) ?_));refine O _ (aN [3,5,6,8,9,10,11,20,21,22] rfl rfl ?_);clear O J K E;refine rgn fun E K J O=>?_;refine aS [] (copyT_spec G x (by omega)) ?_;refine And.intro (And.intro ((by simp only [cnd_len3,chunk_length];omega)) ((by simp only [cnd_len3,chunk_length,maxLen];omega))) ?_;refine O _ (aN [3,5,6,9,10,11,20,21,22] rfl rfl ?_);clear O J K E;refine rgn fun E K J O=>?_;refine O _ ?_;clear O J K E;exact ⟨_,Nat.lt_succ_self _,_,sub_pick (L:=[0,1,2]) (slots:=[3,5,6,9,10,11,20,21,22]) rfl rfl rfl rfl rfl,d2++[x],e2b,rfl,by simp,by rw [← cnd_snoc,List.length_append,wrapId (by omega) (by omega)];rfl⟩
  have h2':=of_decide_eq_false h2;rw [hll2] at h2';obtain rfl:e2=[]:=List.eq_nil_of_length_eq_zero (by omega);rw [List.append_nil] at hl2;subst hl2;refine awp_exit ?_;refine awp_norm [3,5,6,9,10,11] rfl rfl ?_;refine awp_seq ?_;refine (awp_draw TT_ok mixed p173_12 [6,8,10,12] (fun i=>Nat.beq i 1||Nat.beq i 2) (by kernel_rfl) fun E K J O=>?_);refine aS [] (ih body (by omega) (by omega)) ?_;refine aS [] (ih els (by omega) (by omega)) ?_;refine O _ (aN [3,5,9,10,11] rfl rfl ?_);clear O J K E;refine rgn fun E K J O=>?_;refine And.intro (And.intro ((by simp only [sms_len2,chunk_length];omega)) ((by simp only [sms_len2,chunk_length,maxLen];omega))) ?_;refine O _ (aN [3,9,10,11] rfl rfl ?_);clear O J K E;refine rgn fun E K J O=>?_;refine O _ ?_;clear O J K E;exact ⟨_,Nat.lt_succ_self _,_,sub_pick (L:=[0]) (slots:=[3,9,10,11]) rfl rfl rfl rfl rfl,d1++[.mk kind name proc args cond body els],e1b,rfl,by simp,by rw [← sms_snoc2,List.length_append,wrapId (by omega) (by omega)];rfl⟩
 have h1':=of_decide_eq_false h1;rw [hll1] at h1';obtain rfl:e1=[]:=List.eq_nil_of_length_eq_zero (by omega);rw [List.append_nil] at hl1;subst hl1;refine awp_exit ?_;refine awp_norm [3] rfl rfl ?_;refine rz [2] ?_;refine awp_ret ?_;exact ⟨_,[],_,[.d (.sl 7 (sms l))],rfl,rfl,rfl,rfl,rfl,PWs.refl _,rfl⟩
theorem copyS_spec:∀m,CyS G m
 |0=>fun l h=>absurd h (by omega)
 |m+1=>copyS_step G m (copyS_spec m)
theorem copyS_all(l:List Sm)(hw:wtB l≤1000000000):Spec Tryz.prog G 173 [.d (.sl 7 (sms l))] [] (.ret (.d (.sl 7 (sms l)))) []:=copyS_spec G (fuB l+1) l (Nat.lt_succ_self _) hw
theorem copy_spec(vars:List ByteArray)(arrays:List Ar)(procs:List Pc)(main:List Sm)(hw:wtB main≤1000000000):Spec Tryz.prog G 109 [.d (.agg (Pg.mk vars arrays procs main).cs)] [] (.ret (.d (.agg (Pg.mk vars arrays procs main).cs))) []:=by
 refine spec_of_awp2 TT_ok (N:=8) Tryz.func109 rfl (by rfl) (Nat.le_refl _) rfl ?_;refine rz [1,2] ?_;refine rgs fun E K J O=>?_;refine aS [] (copyS_all G main hw) ?_;refine O _ (aN [1,2] rfl rfl ?_);clear O J K E;refine rz [2] ?_;refine awp_ret ?_;exact ⟨_,[],_,[encP ⟨vars,arrays,procs,main⟩],rfl,rfl,rfl,rfl,rfl,PWs.refl _,rfl⟩
mutual
theorem dpS_wt:∀s:Sm,dpS s≤wtS s
 |.mk kind name proc args cond body els=>by
  have:=dpB_wt body;have:=dpB_wt els;simp only [dpS,wtS];omega
theorem dpB_wt:∀l:List Sm,dpB l≤wtB l
 |[]=>by simp [dpB]
 |s::r=>by
  have:=dpS_wt s;have:=dpB_wt r;simp only [dpB,wtB];omega
end
def DeOk(m:Nat):Prop:=∀l:List Sm,fuB l<m→wtB l≤1000000000→Spec Tryz.prog G 108 [.d (.sl 7 (sms l))] [] (.ret (.d (num (dpB l)))) []
theorem deep_max(d:List Sm)(kind name proc:ByteArray)(args:List Ex)(cond:List (List Ts))(body els:List Sm):maxI (maxI (dpB d) (1+dpB body)) (1+dpB els)=dpB (d++[.mk kind name proc args cond body els]):=by
 have:=dpB_nn body;have:=dpB_nn els;rw [dpB_snoc];simp only [dpS,maxI]
 repeat' split
 all_goals omega
def p108_5:Plan:=(.take 0 (.take 1 (.load 2 (.take 5 (.load 6 (.one 3 (.take 4 (.one 7 (.take 8 (.take 9 (.take 10 .done)))))))))))
theorem deep_step(m:Nat)(ih:DeOk G m):DeOk G (m+1):=by
 intro l hf hw;have hlen:=wtB_len l
 have hbig:l.length≤1073741824:=by omega
 refine spec_of_awp2 TT_ok (N:=24) Tryz.func108 rfl (by rfl) (Nat.le_refl _) rfl ?_;refine rz [0] ?_;refine rz [0,3] ?_;refine awp_seq ?_;refine rz [3,6,7,8] ?_;refine awp_block ?_;refine awp_loop (fun k Y=>∃(d1 e1:List Sm),k=e1.length∧l=d1++e1∧Y=⟨[(3,.d (num (dpB d1))),(6,.d (.sl 7 (sms l))),(7,.d (num (sms l).length)),(8,.d (num d1.length))],[]⟩) (l.length) (⟨[],l,rfl,rfl,rfl⟩) ?_;rintro k Y ⟨d1,e1,rfl,hl1,rfl⟩
 have hll1:(sms l).length=d1.length+e1.length:=by rw [sms_len2,hl1,List.length_append]
 have hdl1:d1.length+e1.length≤1073741824:=by rw [hl1,List.length_append] at hbig;exact hbig
 refine rz [3,6,7,8,9] ?_;refine awp_seq ?_;refine awp_cond2 rfl (onB_intro (fun h1=>?_) (fun h1=>?_))
 ·have h1':=of_decide_eq_true h1
  rw [hll1] at h1'
  cases e1 with
  |nil=>simp only [List.length_nil] at h1';omega
  |cons x e1b=>
  obtain ⟨kind,name,proc,args,cond,body,els⟩:=x;subst hl1;simp only [List.length_cons] at hdl1;have hfx:=fuB_app d1 (.mk kind name proc args cond body els::e1b);have hwx:=wtB_app d1 (.mk kind name proc args cond body els::e1b);simp only [fuB,fuS,wtB,wtS] at hfx hwx;have q1:=dpB_wt body;have q2:=dpB_wt els;have q3:=dpB_nn body;have q4:=dpB_nn els;refine awp_skip ?_;refine awp_seq ?_;refine awp_block ?_;refine rgs fun E K J O=>?_;refine And.intro ((by omega)) (Exists.intro _ (And.intro (sms_at2 rfl) ?_));refine O _ (aN [3,5,6,7,8] rfl rfl ?_);clear O J K E;refine (awp_draw TT_ok mixed p108_5 [7] (fun i=>Nat.beq i 0) (by kernel_rfl) fun E K J O=>?_);refine aS [] (ih body (by omega) (by omega)) ?_;refine aS [] (ih els (by omega) (by omega)) ?_;refine O _ (aN [3,6,7,8] rfl rfl ?_);clear O J K E;refine rgn fun E K J O=>?_;refine O _ ?_;clear O J K E;exact ⟨_,Nat.lt_succ_self _,_,sub_pick (L:=[]) (slots:=[3,6,7,8]) rfl rfl rfl rfl rfl,d1++[.mk kind name proc args cond body els],e1b,rfl,by simp,by rw [List.length_append,← deep_max,wrapId (by omega) (by omega),wrapId (by omega) (by omega),wrapId (by omega) (by omega)];rfl⟩
 have h1':=of_decide_eq_false h1;rw [hll1] at h1';obtain rfl:e1=[]:=List.eq_nil_of_length_eq_zero (by omega);rw [List.append_nil] at hl1;subst hl1;refine awp_exit ?_;refine awp_norm [3] rfl rfl ?_;refine rz [2] ?_;refine awp_ret ?_;exact ⟨_,[],_,[.d (num (dpB l))],rfl,rfl,rfl,rfl,rfl,PWs.refl _,rfl⟩
theorem deep_all:∀m,DeOk G m
 |0=>fun l h=>absurd h (by omega)
 |m+1=>deep_step G m (deep_all m)
theorem deep_spec(l:List Sm)(hw:wtB l≤1000000000):Spec Tryz.prog G 108 [.d (.sl 7 (sms l))] [] (.ret (.d (num (dpB l)))) []:=deep_all G (fuB l+1) l (Nat.lt_succ_self _) hw
end
end Go.Abs
end
section
namespace Go.Abs
open Go Go.Proofs
theorem beq_bytes(a b:ByteArray):(a==b)=decide (a=b):=by
 obtain ⟨a⟩:=a;obtain ⟨b⟩:=b
 show (a==b)=_
 by_cases h:a=b
 ·subst h;simp
 have h2:¬(⟨a⟩:ByteArray)=⟨b⟩:=fun q=>h (by injection q);rw [decide_eq_false h2,beq_eq_false_iff_ne];exact h
/-- What the reference comes to at a text. -/
structure GR (x:TIs) (m:Nat) (r:GT):Prop where
 ex:∃s b,r=some (s,b)∧s.size≤m∧(b=true→∃k,x=some (s,k))∧(∀t k,x=some (t,k)→t.size≤4000→b=true)
theorem fitG_small{a:ByteArray}{b:Bool}(h:a.size≤1073741824):fitG a b=some (a,b):=by
 unfold fitG chkS
 rw [decide_eq_true h]
theorem GR.no{x:TIs}{m:Nat}(h:∀t k,x=some (t,k)→4000<t.size):GR x m (some (⟨#[]⟩,false)):=
 ⟨⟨_,_,rfl,Nat.zero_le _,fun q=>Bool.noConfusion q,fun t k e q=>by have:=h t k e;omega⟩⟩
theorem GR.nil{m:Nat}:GR Option.none m (some (⟨#[]⟩,false)):=GR.no (fun t k e=>by cases e)
theorem GR.fit{x:TIs}{m:Nat}{s:ByteArray}{b:Bool}(hs:s.size≤m)(hm:m≤1073741824)(h1:b=true→∃k,x=some (s,k))(h2:∀t k,x=some (t,k)→t.size≤4000→b=true):GR x m (fitG s b):=
 ⟨⟨s,b,fitG_small (by omega),hs,h1,h2⟩⟩
def bdG(g:ByteArray→ByteArray)(r:GT):GT:=match r with
 |some (s,ok)=>fitG (g s) ok
 |none=>none
theorem GR.wrap{x:TIs}{m m' j:Nat}{r:GT}(g:ByteArray→ByteArray)(c:Nat)(h:GR x m r)(hg:∀s,s.size≤(g s).size∧(g s).size≤s.size+c)(hm:m+c≤m')(hm':m'≤1073741824):GR (x.map fun y=>(g y.1,y.2+j)) m' (bdG g r):=by
 obtain ⟨s,b,rfl,h1,h2,h3⟩:=h.ex;have:=hg s;refine GR.fit (by omega) hm' (fun q=>?_) (fun t k e ht=>?_)
 ·obtain ⟨k,rfl⟩:=h2 q
  exact ⟨k+j,rfl⟩
 obtain ⟨y,hy,e⟩:=Option.map_eq_some_iff.1 e;have e1:g y.1=t:=congrArg Prod.fst e;subst e1;have:=hg y.1;exact h3 y.1 y.2 hy (by omega)
end Go.Abs
end
section
namespace Go.Abs
open Go Go.Proofs
attribute [local irreducible] aCall AWp Sub Spec
/-- Words and where they begin; where the reference's reader stands, and its fault. -/
abbrev Wd:=ByteArray×Int
structure RSt where
 k:Nat
 c:Int
 a:Int
def wat(W:List Wd)(k:Nat):Wd:=W.getD k (⟨#[]⟩,0)
structure WOk (W:List Wd):Prop where
 len:W.length≤100000
 size:∀k,(wat W k).1.size≤1000000
section
variable {G:Glob}{W:List Wd}
end
end Go.Abs
end
section
namespace Go.Abs
open Go Go.Proofs
attribute [local irreducible] aCall AWp Sub Spec
def kindR(c:Int):Int:=match isL c with
 |true=>1
 |false=>match isD c with
  |true=>2
  |false=>match isSp c with
   |true=>3
   |false=>4
section
variable {G:Glob}{W:List Wd}
end
end Go.Abs
end
section
namespace Go.Abs
open Go Go.Proofs
attribute [local irreducible] aCall AWp Sub Spec
def sameR(s:ByteArray)(k:Int):Nat→Nat→Nat→Nat
 |0,_,n=>n
 |f+1,i,n=>match decide (k<3) with
  |false=>n
  |true=>match decide (((i+n:Nat):Int)<(s.size:Int)) with
   |false=>n
   |true=>match kindR (byteAt s ((i+n:Nat):Int))==k with
    |true=>sameR s k f i (n+1)
    |false=>n
def eqR(s:ByteArray)(i:Nat):Bool:=decide (((i+1:Nat):Int)<(s.size:Int))&&(byteAt s ((i+1:Nat):Int)==61)
def twoR(s:ByteArray)(i:Nat):Bool:=eqR s i&&((((byteAt s i==60)||(byteAt s i==62))||(byteAt s i==61))||(byteAt s i==33))
def wlenR(s:ByteArray)(i:Nat):Nat:=match twoR s i with
 |true=>2
 |false=>sameR s (kindR (byteAt s i)) s.size i 1
end Go.Abs
end
section
namespace Go.Abs
open Go Go.Proofs
def allDg(l:List UInt8):Prop:=∀c,c∈l→48≤c.toNat∧c.toNat≤57
/-- The words from a place on. -/
def Ch(s:ByteArray):Nat→List Wd→Prop
 |_,[]=>False
 |i,x::r=>match r with
  |[]=>spaceF s (s.size - i) i=s.size∧x=(⟨#[]⟩,(s.size:Int))
  |_::_=>spaceF s (s.size - i) i<s.size∧x=(s.extract (spaceF s (s.size - i) i) (spaceF s (s.size - i) i+wlenR s (spaceF s (s.size - i) i)),(spaceF s (s.size - i) i:Int))∧Ch s (spaceF s (s.size - i) i+wlenR s (spaceF s (s.size - i) i)) r
/-- The reader stands at word k. -/
structure At (s:ByteArray) (W:List Wd) (k:Nat) (p:PS s):Prop where
 lt:k<W.length
 word:wat W k=(p.w,(p.i:Int))
 dg:isD (byteAt p.w 0)=true→allDg p.w.data.toList
 rest:(W.drop (k+1)=[]∧p.w=⟨#[]⟩∧p.i=s.size)∨Ch s (p.i+p.w.size) (W.drop (k+1))
end Go.Abs
end
section
namespace Go.Abs
open Go Go.Proofs
end Go.Abs
end
section
namespace Go.Abs
open Go Go.Proofs
attribute [local irreducible] aCall AWp Sub Spec
/-- Where it stands then is in range. -/
def KP{α:Type}(W:List Wd)(o:Option (α×RSt)):Prop:=∀r,o=some r→r.2.k<W.length
theorem KP.bind{α β:Type}{W:List Wd}{o:Option (α×RSt)}{f:α×RSt→Option (β×RSt)}(h:KP W o)(k:∀r,r.2.k<W.length→KP W (f r)):KP W (o.bind f):=by
 cases o with
 |none=>intro r hr;cases hr
 |some x=>exact k x (h x rfl)
theorem KP.some{α:Type}{W:List Wd}{a:α}{Y:RSt}(h:Y.k<W.length):KP W (some (a,Y)):=by
 intro r hr;cases hr;exact h
section
variable {G:Glob}{W:List Wd}
end
end Go.Abs
end
section
namespace Go.Abs
open Go Go.Proofs
abbrev okX(k:Nat):RSt:=⟨k,0,0⟩
/-- The reader's answer and the reference's. -/
def Sim{s:ByteArray}{α:Type}(W:List Wd)(r:R s α)(o:Option (α×RSt)):Prop:=match r with
 |.ok a q=>∃k,At s W k q∧o=some (a,okX k)
 |.bad q c=>∃a X,o=some (a,X)∧X.c=posOf c+1∧X.a=q.i∧c≤3
 |.out=>True
section
variable {s:ByteArray}{W:List Wd}
end
end Go.Abs
end
section
namespace Go.Abs
open Go Go.Proofs
attribute [local irreducible] aCall AWp Sub Spec
section
variable {G:Glob}{W:List Wd}
end
end Go.Abs
end
section
namespace Go.Abs
open Go Go.Proofs
attribute [local irreducible] aCall AWp Sub Spec
section
variable {G:Glob}{W:List Wd}
end
end Go.Abs
end
section
namespace Go.Abs
open Go Go.Proofs
attribute [local irreducible] aCall AWp Sub Spec
section
variable {G:Glob}{W:List Wd}
end
end Go.Abs
end
section
namespace Go.Abs
open Go Go.Proofs
attribute [local irreducible] aCall AWp Sub Spec
section
variable {G:Glob}{W:List Wd}
end
end Go.Abs
end
section
namespace Go.Abs
open Go Go.Proofs
section
variable {s:ByteArray}{W:List Wd}
theorem R.bind_assoc{α β γ:Type}(r:R s α)(f:α→PS s→R s β)(g:β→PS s→R s γ):(r.bind f).bind g=r.bind fun a q=>(f a q).bind g:=by
 cases r <;> rfl
end
end Go.Abs
end
section
namespace Go.Abs
open Go Go.Proofs
section
variable {s:ByteArray}{W:List Wd}
end
end Go.Abs
end
section
namespace Go.Abs
open Go Go.Proofs
section
variable {s:ByteArray}{W:List Wd}
end
end Go.Abs
end
section
namespace Go.Abs
open Go Go.Proofs
attribute [local irreducible] aCall AWp Sub Spec
/-- Small enough for Back. -/
structure BkOk (p:Pg):Prop where
 wt:wtPg p≤1000000000
 md:dpB p.main<50
 mo:okB 9900 p.main=true
 pc:∀f,f∈p.procs→dpB f.body<50∧okB 9900 f.body=true∧fuE f.ret≤9900
set_option maxHeartbeats 1000000
def p21_1:Plan:=(.take 0 (.load 1 (.take 3 (.load 4 (.alt 2 (.alt 5 (.alt 6 (.one 7 (.one 8 .done)) (.alt 7 (.one 6 (.one 8 .done)) .done)) (.alt 7 (.one 5 (.one 6 (.one 8 .done))) .done)) (.alt 7 (.one 2 (.one 5 (.one 6 (.one 8 .done)))) .done))))))
def p21_6:Plan:=(.take 0 (.load 1 (.take 2 (.take 3 (.take 4 (.load 5 (.take 6 (.load 7 (.take 8 (.take 9 (.take 10 (.load 11 (.take 13 (.load 14 (.take 15 (.take 16 (.take 17 (.load 18 (.alt 12 (.alt 19 (.alt 20 (.one 21 (.one 22 .done)) (.alt 21 (.one 20 (.one 22 .done)) .done)) (.alt 21 (.one 19 (.one 20 (.one 22 .done))) .done)) (.alt 21 (.one 12 (.one 19 (.one 20 (.one 22 .done)))) .done))))))))))))))))))))
def p21_7:Plan:=(.take 0 (.load 1 (.take 2 (.load 3 (.take 4 (.take 5 (.take 6 (.load 7 (.one 8 (.take 9 (.one 10 .done)))))))))))
theorem back_spec(G:Glob)(p:Pg)(h:BkOk p):Spec Tryz.prog G 21 [.d (.agg p.cs)] [] (.ret (.d (.agg p.cs))) []:=by
 obtain ⟨vars,arrays,procs,main⟩:=p;obtain ⟨hw,hmd,hmo,hpc⟩:=h;simp only at hmd hmo hpc;simp only [wtPg] at hw;have h1:=wtV_len vars;have h2:=wtA_len arrays;have h3:=wtP_len procs
 have hb1:arrays.length≤1073741824:=by omega
 have hb2:procs.length≤1073741824:=by omega
 refine spec_of_awp2 TT_ok (N:=64) Tryz.func21 rfl (by rfl) (Nat.le_refl _) rfl ?_;refine rz [1,2] ?_;refine awp_cut (fun Z=>Z=⟨[(1,.box 0 0),(2,.box 1 0),(3,.box 2 0)],[.box 28 [.d (.sl 1 (strs vars)),.d (.sl 2 (ars arrays)),.d (.sl 7 (pcs procs)),.d (.sl 7 (sms main))],.box 37 [.d (.s (.slice none 0 0)),.d (.s (.slice none 0 0)),.d (.s (.slice none 0 0)),.d (.s (.slice none 0 0))],.box 37 [.d (.s (.slice none 0 0)),.d (.sl 2 (ars arrays)),.d (.s (.slice none 0 0)),.d (.sl 7 (sms main))]]⟩) ?_ ?_
 ·refine (awp_draw TT_ok mixed p21_1 [5,8] (fun i=>Nat.beq i 0) (by kernel_rfl) fun E K J O=>?_)
  refine And.intro ?_ ?_
  ·refine aS [] (arraysBack_spec G arrays hb1) ?_
   refine And.intro ?_ ?_
   ·refine aS [] (stmtsBack_all G main hmd hmo (by omega)) ?_
    refine And.intro ?_ ?_
    ·refine O _ ?_;clear O J K E
     exact ⟨_,sub_norm (slots:=[1,2,3]) rfl rfl,rfl⟩
    refine And.intro ?_ ?_
    ·refine O _ ?_;clear O J K E
     exact ⟨_,sub_norm (slots:=[1,2,3]) rfl rfl,rfl⟩
    trivial
   refine And.intro ?_ ?_
   ·refine aS [] (stmtsBack_all G main hmd hmo (by omega)) ?_
    refine O _ ?_;clear O J K E;exact ⟨_,sub_norm (slots:=[1,2,3]) rfl rfl,rfl⟩
   trivial
  refine And.intro ?_ ?_
  ·refine aS [] (arraysBack_spec G arrays hb1) ?_
   refine aS [] (stmtsBack_all G main hmd hmo (by omega)) ?_;refine O _ ?_;clear O J K E;exact ⟨_,sub_norm (slots:=[1,2,3]) rfl rfl,rfl⟩
  trivial
 rintro Z rfl;refine awp_accCell 2 0 9 1 rfl rfl rfl rfl ?_;refine awp_accCell 2 2 145 7 rfl rfl rfl rfl ?_;refine awp_norm [1,2,3] rfl rfl ?_;refine rgs fun E K J O=>?_;refine And.intro (And.intro ((by simp only [strs_length,List.length_nil];omega)) ((by simp only [strs_length,List.length_nil,maxLen];omega))) ?_;refine O _ (aN [1,2,3] rfl rfl ?_);clear O J K E;refine awp_seq ?_;refine rz [1,2,3,4] ?_;refine awp_block ?_;refine awp_loop (fun k Y=>∃(d1 e1:List Pc),k=e1.length∧procs=d1++e1∧Y=⟨[(1,.box 0 0),(2,.box 1 0),(3,.box 2 0),(4,.d (num d1.length))],[.box 28 [.d (.sl 1 (strs vars)),.d (.sl 2 (ars arrays)),.d (.sl 7 (pcs procs)),.d (.sl 7 (sms main))],.box 37 [.d (.s (.slice none 0 0)),.d (.s (.slice none 0 0)),.d (.s (.slice none 0 0)),.d (.s (.slice none 0 0))],.box 37 [.acc 3,.d (.sl 2 (ars arrays)),.acc 4,.d (.sl 7 (sms main))],.acc 9 1 (strs vars),.acc 145 7 (pcs d1)]⟩) (procs.length) (⟨[],procs,rfl,rfl,rfl⟩) ?_;rintro k Y ⟨d1,e1,rfl,hl1,rfl⟩
 have hll1:(pcs procs).length=d1.length+e1.length:=by rw [pcs,List.length_map,hl1,List.length_append]
 have hdl1:d1.length+e1.length≤1073741824:=by rw [hl1,List.length_append] at hb2;exact hb2
 refine awp_seq ?_;refine rz [1,2,3,4,23] ?_;refine awp_cond2 rfl (onB_intro (fun h1=>?_) (fun h1=>?_))
 ·have h1':=of_decide_eq_true h1
  rw [hll1] at h1'
  cases e1 with
  |nil=>simp only [List.length_nil] at h1';omega
  |cons x e1b=>
  obtain ⟨nm,ps,bd,rt⟩:=x;obtain ⟨p1,n1,m1,l1⟩:=rt;subst hl1;simp only [List.length_cons] at hdl1;have hpx:=wtP_app d1 (⟨nm,ps,bd,.mk p1 n1 m1 l1⟩::e1b);simp only [wtP] at hpx;have hpl:=wtV_len ps;obtain ⟨q1,q2,q3⟩:=hpc ⟨nm,ps,bd,.mk p1 n1 m1 l1⟩ (by simp);simp only at q1 q2 q3;refine awp_skip ?_;refine awp_seq ?_;refine awp_block ?_;refine awp_cut (fun Z=>Z=⟨[(1,.box 0 0),(2,.box 1 0),(3,.box 2 0),(4,.d (num d1.length)),(5,.box 5 0)],[.box 28 [.d (.sl 1 (strs vars)),.d (.sl 2 (ars arrays)),.d (.sl 7 (pcs (d1++⟨nm,ps,bd,.mk p1 n1 m1 l1⟩::e1b))),.d (.sl 7 (sms main))],.box 37 [.d (.s (.slice none 0 0)),.d (.s (.slice none 0 0)),.d (.s (.slice none 0 0)),.d (.s (.slice none 0 0))],.box 37 [.acc 3,.d (.sl 2 (ars arrays)),.acc 4,.d (.sl 7 (sms main))],.acc 9 1 (strs vars),.acc 145 7 (pcs d1),.box 145 [.d (str nm),.d (.s (.slice none 0 0)),.d (.sl 7 (sms bd)),.d (str p1),.d (num n1),.d (str m1),.d (.sl 4 (exs l1))]]⟩) ?_ ?_
  ·refine (awp_draw TT_ok mixed p21_6 [22] (fun i=>Nat.beq i 0) (by kernel_rfl) fun E K J O=>?_)
   refine And.intro (by omega) (Exists.intro _ (And.intro (pcs_at rfl) ?_));refine And.intro (by omega) (Exists.intro _ (And.intro (pcs_at rfl) ?_));refine And.intro (by omega) (Exists.intro _ (And.intro (pcs_at rfl) ?_));refine And.intro ?_ ?_
   ·refine aS [] (stmtsBack_all G bd q1 q2 (by omega)) ?_
    refine And.intro ?_ ?_
    ·refine aS [] (exprBack_spec G (.mk p1 n1 m1 l1) q3 (by omega)) ?_
     refine And.intro ?_ ?_
     ·refine O _ ?_;clear O J K E
      exact ⟨_,sub_norm (slots:=[1,2,3,4,5]) rfl rfl,rfl⟩
     refine And.intro ?_ ?_
     ·refine O _ ?_;clear O J K E
      exact ⟨_,sub_norm (slots:=[1,2,3,4,5]) rfl rfl,rfl⟩
     trivial
    refine And.intro ?_ ?_
    ·refine aS [] (exprBack_spec G (.mk p1 n1 m1 l1) q3 (by omega)) ?_
     refine O _ ?_;clear O J K E;exact ⟨_,sub_norm (slots:=[1,2,3,4,5]) rfl rfl,rfl⟩
    trivial
   refine And.intro ?_ ?_
   ·refine aS [] (stmtsBack_all G bd q1 q2 (by omega)) ?_
    refine aS [] (exprBack_spec G (.mk p1 n1 m1 l1) q3 (by omega)) ?_;refine O _ ?_;clear O J K E;exact ⟨_,sub_norm (slots:=[1,2,3,4,5]) rfl rfl,rfl⟩
   trivial
  rintro Z rfl;refine awp_accCell 5 1 9 1 rfl rfl rfl rfl ?_;refine awp_norm [1,2,3,4,5] rfl rfl ?_;refine awp_seq ?_;refine (awp_draw TT_ok mixed p21_7 [8,10] (fun _=>true) (by kernel_rfl) fun E K J O=>?_);refine And.intro (by omega) (Exists.intro _ (And.intro (pcs_at rfl) ?_));refine And.intro (And.intro ((by simp only [strs_length,List.length_nil];omega)) ((by simp only [strs_length,List.length_nil,maxLen];omega))) ?_;refine O _ (aN [1,2,3,4,5] rfl rfl ?_);clear O J K E;refine rgn fun E K J O=>?_;refine And.intro (And.intro ((by simp only [pcs,List.length_map,chunk_length];omega)) ((by simp only [pcs,List.length_map,chunk_length,maxLen];omega))) ?_;refine O _ (aN [1,2,3,4] rfl rfl ?_);clear O J K E;refine rgn fun E K J O=>?_;refine O _ ?_;clear O J K E;exact ⟨_,Nat.lt_succ_self _,_,sub_pick (L:=[0,1,2,3,4]) (slots:=[1,2,3,4]) rfl rfl rfl rfl rfl,d1++[⟨nm,ps,bd,.mk p1 n1 m1 l1⟩],e1b,rfl,by simp,by rw [← pcs_snoc,List.length_append,wrapId (by omega) (by omega)];rfl⟩
 have h1':=of_decide_eq_false h1;rw [hll1] at h1';obtain rfl:e1=[]:=List.eq_nil_of_length_eq_zero (by omega);rw [List.append_nil] at hl1;subst hl1;refine awp_exit ?_;refine awp_norm [2,3] rfl rfl ?_;refine rz [2] ?_;refine awp_ret ?_;exact ⟨_,[],_,[encP ⟨vars,arrays,procs,main⟩],rfl,rfl,rfl,rfl,rfl,PWs.refl _,rfl⟩
section
variable {t:Nat→TypeId}{u:Nat→Value}
end
end Go.Abs
end
section
namespace Go.Abs
open Go Go.Proofs
attribute [local irreducible] aCall AWp Sub Spec
def p38_6:Plan:=(.take 0 (.take 1 (.take 2 (.load 3 (.take 4 (.take 5 (.take 6 (.load 7 (.take 8 .done)))))))))
theorem sameStrs_spec(G:Glob)(l:List ByteArray)(hb:l.length≤1073741824):Spec Tryz.prog G 38 [.d (.sl 1 (strs l)),.d (.sl 1 (strs l))] [] (.ret (.d (.s (.bool true)))) []:=by
 refine spec_of_awp2 TT_ok (N:=26) Tryz.func38 rfl (by rfl) (Nat.le_refl _) rfl ?_;refine rz [0,1] ?_;refine awp_seq ?_;refine rz [0,1,10] ?_;refine awp_cond2 rfl (onB_intro (fun h1=>?_) (fun h1=>?_))
 ·simp at h1
 refine awp_skip ?_;refine awp_seq ?_;refine rz [0,1,5] ?_;refine awp_block ?_;refine awp_loop (fun k Y=>∃(d1 e1:List ByteArray),k=e1.length∧l=d1++e1∧Y=⟨[(0,.d (.sl 1 (strs l))),(1,.d (.sl 1 (strs l))),(5,.d (num d1.length))],[]⟩) (l.length) (⟨[],l,rfl,rfl,rfl⟩) ?_;rintro k Y ⟨d1,e1,rfl,hl1,rfl⟩
 have hll1:(strs l).length=d1.length+e1.length:=by rw [strs_length,hl1,List.length_append]
 have hdl1:d1.length+e1.length≤1073741824:=by rw [hl1,List.length_append] at hb;exact hb
 refine awp_seq ?_;refine rz [0,1,5,14] ?_;refine awp_cond2 rfl (onB_intro (fun h2=>?_) (fun h2=>?_))
 ·have h2':=of_decide_eq_true h2
  rw [hll1] at h2'
  cases e1 with
  |nil=>simp only [List.length_nil] at h2';omega
  |cons x e1b=>
  subst hl1;simp only [List.length_cons] at hdl1;refine awp_skip ?_;refine awp_seq ?_;refine awp_block ?_;refine awp_seq ?_;refine (awp_draw TT_ok mixed p38_6 [] (fun _=>true) (by kernel_rfl) fun E K J O=>?_);refine And.intro (by omega) (Exists.intro _ (And.intro (str_at rfl) ?_));refine And.intro (by omega) (Exists.intro _ (And.intro (str_at rfl) ?_));refine O _ (aN [0,1,5,25] rfl rfl ?_);clear O J K E;refine awp_cond2 rfl (onB_intro (fun h3=>?_) (fun h3=>?_))
  ·simp at h3
  refine awp_skip ?_;refine rgn fun E K J O=>?_;refine O _ ?_;clear O J K E;exact ⟨_,Nat.lt_succ_self _,_,sub_norm (slots:=[0,1,5]) rfl rfl,d1++[x],e1b,rfl,by simp,by rw [List.length_append,wrapId (by omega) (by omega)];rfl⟩
 have h2':=of_decide_eq_false h2;rw [hll1] at h2';obtain rfl:e1=[]:=List.eq_nil_of_length_eq_zero (by omega);rw [List.append_nil] at hl1;subst hl1;refine awp_exit ?_;refine awp_norm [] rfl rfl ?_;refine rz [4] ?_;refine awp_ret ?_;exact ⟨_,[],_,[.d (.s (.bool true))],rfl,rfl,rfl,rfl,rfl,PWs.refl _,rfl⟩
def SaE(G:Glob)(m:Nat):Prop:=∀l:List Ex,fuL l<m→wtL l≤1000000000→Spec Tryz.prog G 70 [.d (.sl 4 (exs l)),.d (.sl 4 (exs l))] [] (.ret (.d (.s (.bool true)))) []
def p70_6:Plan:=(.take 0 (.take 1 (.take 2 (.take 3 (.load 4 (.take 5 (.take 6 (.take 7 (.take 8 (.load 9 (.one 10 (.take 11 .done))))))))))))
def p70_7:Plan:=(.take 0 (.take 1 (.take 2 (.take 3 (.take 4 (.take 5 (.take 6 (.load 7 (.take 8 (.take 9 (.take 10 (.take 11 (.load 12 (.take 13 (.take 14 (.take 15 (.take 16 (.take 17 (.take 18 (.take 19 (.load 20 (.take 21 (.take 22 (.take 23 (.take 24 (.load 25 (.take 26 (.take 27 (.take 28 (.take 29 (.take 30 (.take 31 (.take 32 (.load 33 (.take 34 (.take 35 (.take 36 (.take 37 (.load 38 (.take 39 (.take 40 .done)))))))))))))))))))))))))))))))))))))))))
theorem sameExprs_step(G:Glob)(m:Nat)(ih:SaE G m):SaE G (m+1):=by
 intro l hf hw;have hlen:=wtL_len l
 have hb:l.length≤1073741824:=by omega
 refine spec_of_awp2 TT_ok (N:=70) Tryz.func70 rfl (by rfl) (Nat.le_refl _) rfl ?_;refine rz [0,1] ?_;refine awp_seq ?_;refine rz [0,1,11] ?_;refine awp_cond2 rfl (onB_intro (fun h1=>?_) (fun h1=>?_))
 ·simp at h1
 refine awp_skip ?_;refine awp_seq ?_;refine rz [0,1,5] ?_;refine awp_block ?_;refine awp_loop (fun k Y=>∃(d1 e1:List Ex),k=e1.length∧l=d1++e1∧Y=⟨[(0,.d (.sl 4 (exs l))),(1,.d (.sl 4 (exs l))),(5,.d (num d1.length))],[]⟩) (l.length) (⟨[],l,rfl,rfl,rfl⟩) ?_;rintro k Y ⟨d1,e1,rfl,hl1,rfl⟩
 have hll1:(exs l).length=d1.length+e1.length:=by rw [ex_len,hl1,List.length_append]
 have hdl1:d1.length+e1.length≤1073741824:=by rw [hl1,List.length_append] at hb;exact hb
 refine awp_seq ?_;refine rz [0,1,5,15] ?_;refine awp_cond2 rfl (onB_intro (fun h2=>?_) (fun h2=>?_))
 ·have h2':=of_decide_eq_true h2
  rw [hll1] at h2'
  cases e1 with
  |nil=>simp only [List.length_nil] at h2';omega
  |cons x e1b=>
  obtain ⟨p1,n1,m1,l1⟩:=x;subst hl1;simp only [List.length_cons] at hdl1
  have hfx:fuL l1<m:=by rw [fuL_app] at hf;simp only [fuL,fuE] at hf;omega
  have hwx:wtL l1≤1000000000:=by rw [wtL_app] at hw;simp only [wtL,wtE] at hw;omega
  refine awp_skip ?_;refine awp_seq ?_;refine awp_block ?_;refine awp_seq ?_;refine (awp_draw TT_ok mixed p70_6 [10] (fun _=>true) (by kernel_rfl) fun E K J O=>?_);refine And.intro (by omega) (Exists.intro _ (And.intro (exs_at rfl) ?_));refine And.intro (by omega) (Exists.intro _ (And.intro (exs_at rfl) ?_));refine aS [] (ih l1 hfx hwx) ?_;refine O _ (aN [0,1,5,6] rfl rfl ?_);clear O J K E;refine awp_seq ?_;refine (awp_draw TT_ok mixed p70_7 [] (fun _=>true) (by kernel_rfl) fun E K J O=>?_);refine And.intro (by omega) (Exists.intro _ (And.intro (exs_at rfl) ?_));refine And.intro (by omega) (Exists.intro _ (And.intro (exs_at rfl) ?_));refine onB_intro (fun h3=>?_) (fun h3=>?_)
  ·simp at h3
  refine And.intro (by omega) (Exists.intro _ (And.intro (exs_at rfl) ?_));refine And.intro (by omega) (Exists.intro _ (And.intro (exs_at rfl) ?_));refine onB_intro (fun h4=>?_) (fun h4=>?_)
  ·simp at h4
  refine And.intro (by omega) (Exists.intro _ (And.intro (exs_at rfl) ?_));refine And.intro (by omega) (Exists.intro _ (And.intro (exs_at rfl) ?_));refine O _ (aN [0,1,5,69] rfl rfl ?_);clear O J K E;refine awp_cond2 rfl (onB_intro (fun h5=>?_) (fun h5=>?_))
  ·simp at h5
  refine awp_skip ?_;refine rgn fun E K J O=>?_;refine O _ ?_;clear O J K E;exact ⟨_,Nat.lt_succ_self _,_,sub_norm (slots:=[0,1,5]) rfl rfl,d1++[.mk p1 n1 m1 l1],e1b,rfl,by simp,by rw [List.length_append,wrapId (by omega) (by omega)];rfl⟩
 have h2':=of_decide_eq_false h2;rw [hll1] at h2';obtain rfl:e1=[]:=List.eq_nil_of_length_eq_zero (by omega);rw [List.append_nil] at hl1;subst hl1;refine awp_exit ?_;refine awp_norm [] rfl rfl ?_;refine rz [4] ?_;refine awp_ret ?_;exact ⟨_,[],_,[.d (.s (.bool true))],rfl,rfl,rfl,rfl,rfl,PWs.refl _,rfl⟩
theorem sameExprs_spec(G:Glob):∀m,SaE G m
 |0=>fun l h=>absurd h (by omega)
 |m+1=>sameExprs_step G m (sameExprs_spec G m)
theorem sameExprs_all(G:Glob)(l:List Ex)(hw:wtL l≤1000000000):Spec Tryz.prog G 70 [.d (.sl 4 (exs l)),.d (.sl 4 (exs l))] [] (.ret (.d (.s (.bool true)))) []:=sameExprs_spec G (fuL l+1) l (Nat.lt_succ_self _) hw
def p129_6:Plan:=(.take 0 (.take 1 (.take 2 (.take 3 (.load 4 (.take 5 (.take 6 (.take 7 (.take 8 (.load 9 (.take 11 (.take 12 (.take 13 (.take 14 (.load 15 (.take 16 (.take 17 (.take 18 (.take 19 (.load 20 (.alt 10 (.one 21 (.one 22 (.take 23 .done))) (.alt 21 (.one 10 (.one 22 (.take 23 .done))) .done))))))))))))))))))))))
def p129_7:Plan:=(.take 0 (.take 1 (.take 2 (.take 3 (.take 4 (.take 5 (.take 6 (.load 7 (.take 8 (.take 9 (.take 10 (.take 11 (.load 12 (.take 13 (.take 14 .done)))))))))))))))
theorem sameTests_spec(G:Glob)(l:List Ts)(hw:wtR l≤900000000):Spec Tryz.prog G 129 [.d (.sl 9 (tss l)),.d (.sl 9 (tss l))] [] (.ret (.d (.s (.bool true)))) []:=by
 have hlen:=wtR_len l
 have hb:l.length≤1073741824:=by omega
 refine spec_of_awp2 TT_ok (N:=56) Tryz.func129 rfl (by rfl) (Nat.le_refl _) rfl ?_;refine rz [0,1] ?_;refine awp_seq ?_;refine rz [0,1,11] ?_;refine awp_cond2 rfl (onB_intro (fun h1=>?_) (fun h1=>?_))
 ·simp at h1
 refine awp_skip ?_;refine awp_seq ?_;refine rz [0,1,5] ?_;refine awp_block ?_;refine awp_loop (fun k Y=>∃(d1 e1:List Ts),k=e1.length∧l=d1++e1∧Y=⟨[(0,.d (.sl 9 (tss l))),(1,.d (.sl 9 (tss l))),(5,.d (num d1.length))],[]⟩) (l.length) (⟨[],l,rfl,rfl,rfl⟩) ?_;rintro k Y ⟨d1,e1,rfl,hl1,rfl⟩
 have hll1:(tss l).length=d1.length+e1.length:=by rw [tss_len3,hl1,List.length_append]
 have hdl1:d1.length+e1.length≤1073741824:=by rw [hl1,List.length_append] at hb;exact hb
 refine awp_seq ?_;refine rz [0,1,5,15] ?_;refine awp_cond2 rfl (onB_intro (fun h2=>?_) (fun h2=>?_))
 ·have h2':=of_decide_eq_true h2
  rw [hll1] at h2'
  cases e1 with
  |nil=>simp only [List.length_nil] at h2';omega
  |cons x e1b=>
  obtain ⟨⟨p1,n1,m1,l1⟩,rel,⟨p2,n2,m2,l2⟩⟩:=x;subst hl1;simp only [List.length_cons] at hdl1;have hx:=wtR_app d1 (⟨.mk p1 n1 m1 l1,rel,.mk p2 n2 m2 l2⟩::e1b);rw [wtR,wtT] at hx;simp only [wtE] at hx;refine awp_skip ?_;refine awp_seq ?_;refine awp_block ?_;refine awp_seq ?_;refine (awp_draw TT_ok mixed p129_6 [22] (fun _=>true) (by kernel_rfl) fun E K J O=>?_);refine And.intro (by omega) (Exists.intro _ (And.intro (tss_at rfl) ?_));refine And.intro (by omega) (Exists.intro _ (And.intro (tss_at rfl) ?_));refine And.intro (by omega) (Exists.intro _ (And.intro (tss_at rfl) ?_));refine And.intro (by omega) (Exists.intro _ (And.intro (tss_at rfl) ?_));refine And.intro ?_ ?_
  ·show aCall _ _ _ _ _ _ _
   refine aR [] rfl rfl rfl (sameExprs_all G [.mk p1 n1 m1 l1,.mk p2 n2 m2 l2] (by simp only [wtL,wtE];omega)) rfl rfl rfl rfl ?_;refine O _ (aN [0,1,5,6] rfl rfl ?_);clear O J K E;refine awp_seq ?_;refine (awp_draw TT_ok mixed p129_7 [] (fun _=>true) (by kernel_rfl) fun E K J O=>?_);refine And.intro (by omega) (Exists.intro _ (And.intro (tss_at rfl) ?_));refine And.intro (by omega) (Exists.intro _ (And.intro (tss_at rfl) ?_));refine O _ (aN [0,1,5,55] rfl rfl ?_);clear O J K E;refine awp_cond2 rfl (onB_intro (fun h3=>?_) (fun h3=>?_))
   ·simp at h3
   refine awp_skip ?_;refine rgn fun E K J O=>?_;refine O _ ?_;clear O J K E;exact ⟨_,Nat.lt_succ_self _,_,sub_norm (slots:=[0,1,5]) rfl rfl,d1++[⟨.mk p1 n1 m1 l1,rel,.mk p2 n2 m2 l2⟩],e1b,rfl,by simp,by rw [List.length_append,wrapId (by omega) (by omega)];rfl⟩
  refine And.intro ?_ ?_
  ·show aCall _ _ _ _ _ _ _
   refine aR [] rfl rfl rfl (sameExprs_all G [.mk p1 n1 m1 l1,.mk p2 n2 m2 l2] (by simp only [wtL,wtE];omega)) rfl rfl rfl rfl ?_;refine O _ (aN [0,1,5,6] rfl rfl ?_);clear O J K E;refine awp_seq ?_;refine (awp_draw TT_ok mixed p129_7 [] (fun _=>true) (by kernel_rfl) fun E K J O=>?_);refine And.intro (by omega) (Exists.intro _ (And.intro (tss_at rfl) ?_));refine And.intro (by omega) (Exists.intro _ (And.intro (tss_at rfl) ?_));refine O _ (aN [0,1,5,55] rfl rfl ?_);clear O J K E;refine awp_cond2 rfl (onB_intro (fun h3=>?_) (fun h3=>?_))
   ·simp at h3
   refine awp_skip ?_;refine rgn fun E K J O=>?_;refine O _ ?_;clear O J K E;exact ⟨_,Nat.lt_succ_self _,_,sub_norm (slots:=[0,1,5]) rfl rfl,d1++[⟨.mk p1 n1 m1 l1,rel,.mk p2 n2 m2 l2⟩],e1b,rfl,by simp,by rw [List.length_append,wrapId (by omega) (by omega)];rfl⟩
  trivial
 have h2':=of_decide_eq_false h2;rw [hll1] at h2';obtain rfl:e1=[]:=List.eq_nil_of_length_eq_zero (by omega);rw [List.append_nil] at hl1;subst hl1;refine awp_exit ?_;refine awp_norm [] rfl rfl ?_;refine rz [4] ?_;refine awp_ret ?_;exact ⟨_,[],_,[.d (.s (.bool true))],rfl,rfl,rfl,rfl,rfl,PWs.refl _,rfl⟩
def SaS(G:Glob)(m:Nat):Prop:=∀l:List Sm,fuB l<m→wtB l≤900000000→Spec Tryz.prog G 69 [.d (.sl 7 (sms l)),.d (.sl 7 (sms l))] [] (.ret (.d (.s (.bool true)))) []
set_option maxHeartbeats 1000000
def p69_13:Plan:=(.take 0 (.load 1 (.take 2 (.take 3 (.load 4 (.take 5 (.load 6 (.take 7 (.take 8 (.load 9 (.one 10 (.take 11 .done))))))))))))
theorem sameStmts_step(G:Glob)(m:Nat)(ih:SaS G m):SaS G (m+1):=by
 intro l hf hw;have hlen:=wtB_len l
 have hb:l.length≤1073741824:=by omega
 refine spec_of_awp2 TT_ok (N:=105) Tryz.func69 rfl (by rfl) (Nat.le_refl _) rfl ?_;refine rz [0,1] ?_;refine awp_seq ?_;refine rz [0,1,17] ?_;refine awp_cond2 rfl (onB_intro (fun h1=>?_) (fun h1=>?_))
 ·simp at h1
 refine awp_skip ?_;refine awp_seq ?_;refine rz [0,1,5] ?_;refine awp_block ?_;refine awp_loop (fun k Y=>∃(d1 e1:List Sm),k=e1.length∧l=d1++e1∧Y=⟨[(0,.d (.sl 7 (sms l))),(1,.d (.sl 7 (sms l))),(5,.d (num d1.length))],[]⟩) (l.length) (⟨[],l,rfl,rfl,rfl⟩) ?_;rintro k Y ⟨d1,e1,rfl,hl1,rfl⟩
 have hll1:(sms l).length=d1.length+e1.length:=by rw [sms_len2,hl1,List.length_append]
 have hdl1:d1.length+e1.length≤1073741824:=by rw [hl1,List.length_append] at hb;exact hb
 refine awp_seq ?_;refine rz [0,1,5,21] ?_;refine awp_cond2 rfl (onB_intro (fun h2=>?_) (fun h2=>?_))
 ·have h2':=of_decide_eq_true h2
  rw [hll1] at h2'
  cases e1 with
  |nil=>simp only [List.length_nil] at h2';omega
  |cons x e1b=>
  obtain ⟨kind,name,proc,args,cond,body,els⟩:=x;subst hl1;simp only [List.length_cons] at hdl1;have hfx:=fuB_app d1 (.mk kind name proc args cond body els::e1b);have hwx:=wtB_app d1 (.mk kind name proc args cond body els::e1b);simp only [fuB,fuS,wtB,wtS] at hfx hwx;have hfb:=fuB_ge body;have hfe:=fuB_ge els;have hcl:=wtC_len cond
  have hb2:cond.length≤1073741824:=by omega
  refine awp_skip ?_;refine awp_seq ?_;refine awp_block ?_;refine rgs fun E K J O=>?_;refine And.intro (by omega) (Exists.intro _ (And.intro (sms_at2 rfl) ?_));refine O _ (aN [0,1,5,6] rfl rfl ?_);clear O J K E;refine rgs fun E K J O=>?_;refine And.intro (by omega) (Exists.intro _ (And.intro (sms_at2 rfl) ?_));refine O _ (aN [0,1,5,6,7] rfl rfl ?_);clear O J K E;refine awp_seq ?_;refine rgs fun E K J O=>?_;refine onB_intro (fun h3=>?_) (fun h3=>?_)
  ·simp at h3
  refine onB_intro (fun h4=>?_) (fun h4=>?_)
  ·simp at h4
  refine onB_intro (fun h5=>?_) (fun h5=>?_)
  ·simp at h5
  refine O _ (aN [0,1,5,6,7,59] rfl rfl ?_);clear O J K E;refine awp_cond2 rfl (onB_intro (fun h6=>?_) (fun h6=>?_))
  ·simp at h6
  refine awp_skip ?_;refine awp_seq ?_;refine rz [0,1,5,6,7,8] ?_;refine awp_block ?_;refine awp_loop (fun k Y=>∃(d2 e2:List (List Ts)),k=e2.length∧cond=d2++e2∧Y=⟨[(0,.d (.sl 7 (sms (d1++.mk kind name proc args cond body els::e1b)))),(1,.d (.sl 7 (sms (d1++.mk kind name proc args cond body els::e1b)))),(5,.d (num d1.length)),(6,.box 0 0),(7,.box 1 0),(8,.d (num d2.length))],[.box 228 [.d (str kind),.d (str name),.d (str proc),.d (.sl 4 (exs args)),.d (.sl 1 (cnd cond)),.d (.sl 7 (sms body)),.d (.sl 7 (sms els))],.box 228 [.d (str kind),.d (str name),.d (str proc),.d (.sl 4 (exs args)),.d (.sl 1 (cnd cond)),.d (.sl 7 (sms body)),.d (.sl 7 (sms els))]]⟩) (cond.length) (⟨[],cond,rfl,rfl,rfl⟩) ?_;rintro k Y ⟨d2,e2,rfl,hl2,rfl⟩
  have hll2:(cnd cond).length=d2.length+e2.length:=by rw [cnd_len3,hl2,List.length_append]
  have hdl2:d2.length+e2.length≤1073741824:=by rw [hl2,List.length_append] at hb2;exact hb2
  refine awp_seq ?_;refine rz [0,1,5,6,7,8,64] ?_;refine awp_cond2 rfl (onB_intro (fun h7=>?_) (fun h7=>?_))
  ·have h7':=of_decide_eq_true h7
   rw [hll2] at h7'
   cases e2 with
   |nil=>simp only [List.length_nil] at h7';omega
   |cons x e2b=>
   subst hl2;simp only [List.length_cons] at hdl2;have hcx:=wtC_app d2 (x::e2b);simp only [wtC] at hcx;refine awp_skip ?_;refine awp_seq ?_;refine awp_block ?_;refine awp_seq ?_;refine (awp_draw TT_ok mixed p69_13 [10] (fun i=>Nat.beq i 0||Nat.beq i 1) (by kernel_rfl) fun E K J O=>?_);refine And.intro (by omega) (Exists.intro _ (And.intro (cnd_at rfl) ?_));refine And.intro (by omega) (Exists.intro _ (And.intro (cnd_at rfl) ?_));refine aS [] (sameTests_spec G x (by omega)) ?_;refine O _ (aN [0,1,5,6,7,8,9] rfl rfl ?_);clear O J K E;refine rz [0,1,5,6,7,8,79] ?_;refine awp_cond rfl ?_;refine awp_skip ?_;refine rgn fun E K J O=>?_;refine O _ ?_;clear O J K E;exact ⟨_,Nat.lt_succ_self _,_,sub_pick (L:=[0,1]) (slots:=[0,1,5,6,7,8]) rfl rfl rfl rfl rfl,d2++[x],e2b,rfl,by simp,by rw [List.length_append,wrapId (by omega) (by omega)];rfl⟩
  have h7':=of_decide_eq_false h7;rw [hll2] at h7';obtain rfl:e2=[]:=List.eq_nil_of_length_eq_zero (by omega);rw [List.append_nil] at hl2;subst hl2;refine awp_exit ?_;refine awp_norm [0,1,5,6,7] rfl rfl ?_;refine rgs fun E K J O=>?_;refine aS [] (sameExprs_all G args (by omega)) ?_;refine O _ (aN [0,1,5,6,7,10] rfl rfl ?_);clear O J K E;refine rgs fun E K J O=>?_;refine aS [] (ih body (by omega) (by omega)) ?_;refine O _ (aN [0,1,5,6,7,10,11] rfl rfl ?_);clear O J K E;refine rgs fun E K J O=>?_;refine aS [] (ih els (by omega) (by omega)) ?_;refine O _ (aN [0,1,5,10,11,12] rfl rfl ?_);clear O J K E;refine rz [0,1,5,104] ?_;refine awp_cond rfl ?_;refine awp_skip ?_;refine rgn fun E K J O=>?_;refine O _ ?_;clear O J K E;exact ⟨_,Nat.lt_succ_self _,_,sub_pick (L:=[]) (slots:=[0,1,5]) rfl rfl rfl rfl rfl,d1++[.mk kind name proc args cond body els],e1b,rfl,by simp,by rw [List.length_append,wrapId (by omega) (by omega)];rfl⟩
 have h2':=of_decide_eq_false h2;rw [hll1] at h2';obtain rfl:e1=[]:=List.eq_nil_of_length_eq_zero (by omega);rw [List.append_nil] at hl1;subst hl1;refine awp_exit ?_;refine awp_norm [] rfl rfl ?_;refine rz [4] ?_;refine awp_ret ?_;exact ⟨_,[],_,[.d (.s (.bool true))],rfl,rfl,rfl,rfl,rfl,PWs.refl _,rfl⟩
theorem sameStmts_spec(G:Glob):∀m,SaS G m
 |0=>fun l h=>absurd h (by omega)
 |m+1=>sameStmts_step G m (sameStmts_spec G m)
theorem sameStmts_all(G:Glob)(l:List Sm)(hw:wtB l≤900000000):Spec Tryz.prog G 69 [.d (.sl 7 (sms l)),.d (.sl 7 (sms l))] [] (.ret (.d (.s (.bool true)))) []:=sameStmts_spec G (fuB l+1) l (Nat.lt_succ_self _) hw
theorem sameProg_spec(G:Glob)(hA:∀l:List Ar,l.length≤1073741824→Spec Tryz.prog G 68 [.d (.sl 2 (ars l)),.d (.sl 2 (ars l))] [] (.ret (.d (.s (.bool true)))) [])(p:Pg)(hw:wtPg p≤900000000):Spec Tryz.prog G 20 [.d (.agg p.cs),.d (.agg p.cs)] [] (.ret (.d (.s (.bool true)))) []:=by
 obtain ⟨vars,arrays,procs,main⟩:=p;simp only [wtPg] at hw;have h1:=wtV_len vars;have h2:=wtA_len arrays;have h3:=wtP_len procs
 have hb1:arrays.length≤1073741824:=by omega
 have hb2:procs.length≤1073741824:=by omega
 refine spec_of_awp2 TT_ok (N:=94) Tryz.func20 rfl (by rfl) (Nat.le_refl _) rfl ?_;refine rz [2,3] ?_;refine rgs fun E K J O=>?_;refine aS [] (sameStrs_spec G vars (by omega)) ?_;refine O _ (aN [2,3,5] rfl rfl ?_);clear O J K E;refine rgs fun E K J O=>?_;refine aS [] (hA arrays (by omega)) ?_;refine O _ (aN [2,3,5,6] rfl rfl ?_);clear O J K E;refine awp_seq ?_;refine rz [2,3,37] ?_;refine awp_cond2 rfl (onB_intro (fun h1=>?_) (fun h1=>?_))
 ·simp at h1
 refine awp_skip ?_;refine awp_seq ?_;refine rz [2,3,7] ?_;refine awp_block ?_;refine awp_loop (fun k Y=>∃(d1 e1:List Pc),k=e1.length∧procs=d1++e1∧Y=⟨[(2,.box 0 0),(3,.box 1 0),(7,.d (num d1.length))],[.box 37 [.d (.sl 1 (strs vars)),.d (.sl 2 (ars arrays)),.d (.sl 7 (pcs procs)),.d (.sl 7 (sms main))],.box 37 [.d (.sl 1 (strs vars)),.d (.sl 2 (ars arrays)),.d (.sl 7 (pcs procs)),.d (.sl 7 (sms main))]]⟩) (procs.length) (⟨[],procs,rfl,rfl,rfl⟩) ?_;rintro k Y ⟨d1,e1,rfl,hl1,rfl⟩
 have hll1:(pcs procs).length=d1.length+e1.length:=by rw [pcs,List.length_map,hl1,List.length_append]
 have hdl1:d1.length+e1.length≤1073741824:=by rw [hl1,List.length_append] at hb2;exact hb2
 refine awp_seq ?_;refine rz [2,3,7,42] ?_;refine awp_cond2 rfl (onB_intro (fun h2=>?_) (fun h2=>?_))
 ·have h2':=of_decide_eq_true h2
  rw [hll1] at h2'
  cases e1 with
  |nil=>simp only [List.length_nil] at h2';omega
  |cons x e1b=>
  obtain ⟨nm,ps,bd,rt⟩:=x;obtain ⟨p1,n1,m1,l1⟩:=rt;subst hl1;simp only [List.length_cons] at hdl1;have hpx:=wtP_app d1 (⟨nm,ps,bd,.mk p1 n1 m1 l1⟩::e1b);simp only [wtP,wtE] at hpx;have hpl:=wtV_len ps;refine awp_skip ?_;refine awp_seq ?_;refine awp_block ?_;refine rgs fun E K J O=>?_;refine And.intro (by omega) (Exists.intro _ (And.intro (pcs_at rfl) ?_));refine O _ (aN [2,3,7,8] rfl rfl ?_);clear O J K E;refine rgs fun E K J O=>?_;refine And.intro (by omega) (Exists.intro _ (And.intro (pcs_at rfl) ?_));refine O _ (aN [2,3,7,8,9] rfl rfl ?_);clear O J K E;refine rgs fun E K J O=>?_;refine aS [] (sameStrs_spec G ps (by omega)) ?_;refine O _ (aN [2,3,7,8,9,10] rfl rfl ?_);clear O J K E;refine rgs fun E K J O=>?_;refine aS [] (sameStmts_all G bd (by omega)) ?_;refine O _ (aN [2,3,7,8,9,10,11] rfl rfl ?_);clear O J K E;refine rgs fun E K J O=>?_;show aCall _ _ _ _ _ _ _;refine aR [] rfl rfl rfl (sameExprs_all G [.mk p1 n1 m1 l1] (by simp only [wtL,wtE];omega)) rfl rfl rfl rfl ?_;refine O _ (aN [2,3,7,8,9,10,11,12] rfl rfl ?_);clear O J K E;refine rgs fun E K J O=>?_;refine onB_intro (fun h3=>?_) (fun h3=>?_)
  ·simp at h3
  refine O _ (aN [2,3,7,88] rfl rfl ?_);clear O J K E;refine awp_cond rfl ?_;refine awp_skip ?_;refine rgn fun E K J O=>?_;refine O _ ?_;clear O J K E;exact ⟨_,Nat.lt_succ_self _,_,sub_pick (L:=[0,1]) (slots:=[2,3,7]) rfl rfl rfl rfl rfl,d1++[⟨nm,ps,bd,.mk p1 n1 m1 l1⟩],e1b,rfl,by simp,by rw [List.length_append,wrapId (by omega) (by omega)];rfl⟩
 have h2':=of_decide_eq_false h2;rw [hll1] at h2';obtain rfl:e1=[]:=List.eq_nil_of_length_eq_zero (by omega);rw [List.append_nil] at hl1;subst hl1;refine awp_exit ?_;refine awp_norm [2,3] rfl rfl ?_;refine rgs fun E K J O=>?_;refine aS [] (sameStmts_all G main (by omega)) ?_;refine O _ (aN [4] rfl rfl ?_);clear O J K E;refine awp_ret ?_;exact ⟨_,[],_,[.d (.s (.bool true))],rfl,rfl,rfl,rfl,rfl,PWs.refl _,rfl⟩
end Go.Abs
end
section
namespace Go.Abs
open Go Go.Proofs Go.Abs.PrintLast
def lin(T:Tab)(G:Glob)(N:Nat)(ops:Array Oper):List (Bool×Nat)→(St→Prop)→St→Prop
 |[],k,X=>k X
 | (true,i)::r,k,X=>takeStep T G N ops (some fun _=>true) i (lin T G N ops r k) X
 | (false,i)::r,k,X=>takeStep T G N ops none i (lin T G N ops r k) X
def linOk(ops:Array Oper)(j:Nat):Array Bool→List (Bool×Nat)→Bool
 |listed,[]=>(Region.ready .any ops listed==[j])&&(Region.ready .any ops (listed.setIfInBounds j true)==[])
 |listed,(true,i)::r=>takeB ops listed i&&PrintLast.Region.closedB .any ops listed&&PrintLast.Region.lastB .any ops listed [] i&&linOk ops j (listed.setIfInBounds i true) r
 |listed,(false,i)::r=>takeB ops listed i&&linOk ops j (listed.setIfInBounds i true) r
def linEnd(P:Program)(G:Glob)(N:Nat)(ops:Array Oper)(j:Nat)(K:St→Prop)(X:St):Prop:=∃o p,nth ops.toList j=some o∧dstOk N o.dst=true∧guarded ops o X (fun X1=>X1=X) (fun _=>False)∧(∀D H lim a w,Rep D G N H lim X a w→Does P none a w H lim o p)∧K (setE o.dst p X)
section
variable {P:Program}{T:Tab}{G:Glob}{D:List Deferred}{N B:Nat}{H H00:Nat→Option Value}{lim lim00:Nat→Nat}{w w00:World}{ops:Array Oper}{Q:AExit→St→Prop}
theorem lin_sound(hT:TabOk P T)(hs:Region.noSelect ops=true)(hlk:Lk B H00 lim00 w00 H lim w)(j:Nat):∀(l:List (Bool×Nat)) (fuel:Nat) (listed:Array Bool) (X:St) (a:Act),l.length+1≤fuel→Rep D G N H lim X a w→linOk ops j listed l=true→lin T G N ops l (linEnd P G N ops j (fun X=>Q .normal X)) X→
  wpAnyLast P .any ops (Post D G N B Q H00 lim00 w00) (Agr (some fun _=>true) H lim w) [] fuel listed a w
 |[],fuel,listed,X,a,hf,hR,ho,h=>by
  obtain ⟨n,rfl⟩:∃n,fuel=n+1:=⟨fuel - 1,by omega⟩;simp only [linOk,Bool.and_eq_true,beq_iff_eq] at ho;obtain ⟨o,p,h1,h2,h3,h4,h5⟩:=h;rw [nth_ops] at h1;refine wpAnyLast_all ho.1 (by simp) fun i hi=>?_;rw [List.mem_singleton.1 hi]
  unfold wpOp
  rw [h1]
  rcases guarded_sound hR h3 with ⟨hw,X1,hR1,_,rfl⟩|⟨_,_,_,_,q⟩
  ·simp only [hw,if_true]
   obtain ⟨v,e1,e2⟩:=h4 D H lim a w hR1
   left
   unfold Oper.wp
   rw [e1 w trivial];exact ⟨fun _ q=>q,wpAnyLast_done ho.2 ⟨_,H,lim,rep_put hR1 h2 e2,hlk,h5⟩ n⟩
  exact q.elim
 | (false,i)::r,fuel,listed,X,a,hf,hR,ho,h=>by
  obtain ⟨n,rfl⟩:∃n,fuel=n+1:=⟨fuel - 1,by omega⟩;simp only [linOk,takeB,Bool.and_eq_true] at ho;simp only [lin] at h;obtain ⟨o,v,X',h1,h2,h3,h4⟩:=take_sound hT hR h;simp only [List.length_cons] at hf;have hrec:=lin_sound hT hs hlk j r n (listed.setIfInBounds i true) X' _ (by omega) h3 ho.2 h4;exact wpAnyLast_any h1 (Region.noSelect_spec hs) (fun c a w q=>post_put q) n listed a w (Region.free_spec h1 ho.1.2) (by simpa using ho.1.1) (h2.imp (fun ⟨q1,q2⟩=>⟨q1,fun w1=>q2 w1 trivial⟩) id) hrec
 | (true,i)::r,fuel,listed,X,a,hf,hR,ho,h=>by
  obtain ⟨n,rfl⟩:∃n,fuel=n+1:=⟨fuel - 1,by omega⟩;simp only [linOk,takeB,Bool.and_eq_true] at ho;obtain ⟨⟨⟨⟨o2,o3⟩,o4⟩,o5⟩,o6⟩:=ho;simp only [lin] at h;obtain ⟨o,v,X',h1,h2,h3,h4⟩:=take_sound hT hR h;simp only [List.length_cons] at hf;have hrec:=lin_sound hT hs hlk j r n (listed.setIfInBounds i true) X' _ (by omega) h3 o6 h4;exact wpAnyLast_take h1 hs o3 o2 o4 o5 (fun c a w q=>post_put q) h2 (Agr.refl _ _ _ _) hrec
theorem awp_draw_lin (hT:TabOk P T) (hm:P.follows .mixedOrders=true) {id:Nat}{X:St}(j:Nat) (l:List (Bool×Nat)) (hp:(Region.noSelect ops&&linOk ops j (Array.replicate ops.size false) l&&Nat.ble (l.length+1) ops.size)=true)
  (h:∀(K:St→Prop),(∀X,Q .normal X→K X)→lin T G N ops l (linEnd P G N ops j K) X):AWp D P G N B (.region id ops true) Q X:=by
 intro H lim a w hR;simp only [Bool.and_eq_true] at hp;obtain ⟨⟨h1,h2⟩,h3⟩:=hp
 have hw:Rep D G N H lim X a { w with drawn:=w.drawn+1 }:=by
  have hF:Fr (fun _=>False) lim w lim { w with drawn:=w.drawn+1 }:=⟨rfl,rfl,rfl,Nat.le_refl _,fun _ _=>⟨Nat.le_refl _,fun _ _=>rfl⟩,fun _ _ _=>⟨rfl,rfl⟩⟩;exact ⟨env_mono hF (fun _ _ q=>q) hR.env,⟨fun id r hr=>row_mono hF (fun _ _ q=>q) (fun _ _ q=>q) (hR.rows.row id r hr),hR.rows.apart,hR.rows.dom⟩,hR.glob.mono hF (fun _ q=>q.elim) (fun _ q=>.inl q),hR.defers,hR.size⟩
 have hl:Lk B H lim w H lim { w with drawn:=w.drawn+1 }:=⟨⟨rfl,rfl,rfl,Nat.le_refl _,fun _ _=>⟨Nat.le_refl _,fun _ _=>rfl⟩,fun _ _ _=>⟨rfl,rfl⟩⟩,fun _ _ _ _ _=>rfl,fun _ q=>.inl q⟩;exact wp_region_last hm (lin_sound hT h1 hl j l ops.size _ X a (Nat.le_of_ble_eq_true h3) hw h2 (h _ fun _ q=>q))
end
noncomputable def two99:Bool:=match (Tryz.prog.fieldsOf 99).toList with
 |[f,g]=>f.name != "_"&&g.name != "_"&&f.type==9&&g.type==3&&f.offset==0&&g.offset==1
 |_=>false
theorem two99_ok:two99=true:=by kernel_rfl
theorem part_at{t:TypeId}{ti:TI}(h:TT t=some ti)(hg:ti.desc.agg=false)(xs:Array Value)(i:Nat)(v:Value)(hv:xs[i]? = some v)(w:World):(part t xs i).run Tryz.prog w=.ok v w:=by
 have h1:=run_isAgg TT_ok h w;rw [hg] at h1;simp only [part,Sem.run_bind,h1,Result.andThen,Bool.false_eq_true,if_false,hv,Sem.run_pure]
theorem neq99(m:ByteArray)(n:Int)(x y:Operand)(xs ys:Array Value)(hx:xs.toList=[.string m,.int .i64 n])(hy:ys.toList=[.string m,.int .i64 n])(w:World):
  (eqGuard .neq 99 x y (.agg xs) (.agg ys)).run Tryz.prog w=.ok () w∧(binOp .neq 99 (.agg xs) (.agg ys)).run Tryz.prog w=.ok (.bool false) w:=by
 have hm:Tryz.prog.eqGuardType Tryz.prog.depth 99=false:=by kernel_rfl
 have hu:Tryz.prog.underlying 99=some (.struct (Tryz.prog.fieldsOf 99)):=by kernel_rfl
 have hp:Tryz.prog.stoodInHeld 99=false:=by kernel_rfl
 have h9:Tryz.prog.underlying 9=some .string:=by kernel_rfl
 have h3:Tryz.prog.underlying 3=some (.int .i64):=by kernel_rfl
 have ho:=two99_ok
 unfold two99 at ho
 split at ho
 ·rename_i f g hf
  simp only [Bool.and_eq_true,bne_iff_ne,beq_iff_eq] at ho;obtain ⟨⟨⟨⟨⟨o1,o2⟩,o3⟩,o4⟩,o5⟩,o6⟩:=ho
  have x0:xs[0]? = some (.string m):=by rw [← Array.getElem?_toList,hx];rfl
  have x1:xs[1]? = some (.int .i64 n):=by rw [← Array.getElem?_toList,hx];rfl
  have y0:ys[0]? = some (.string m):=by rw [← Array.getElem?_toList,hy];rfl
  have y1:ys[1]? = some (.int .i64 n):=by rw [← Array.getElem?_toList,hy];rfl
  have t9:∃ti,TT 9=some ti∧ti.desc.agg=false:=⟨_,rfl,rfl⟩;have t3:∃ti,TT 3=some ti∧ti.desc.agg=false:=⟨_,rfl,rfl⟩;obtain ⟨_,t9,g9⟩:=t9;obtain ⟨_,t3,g3⟩:=t3
  have e:∀w,(Op.equalIn 10000 99 (.agg xs) (.agg ys)).run Tryz.prog w=.ok true w:=by
   intro w;rw [run_equalIn_struct w 9999 99 xs ys hu hp,hf];simp only [Op.eqFields,o3,o4,o5,o6];rw [if_pos o1];simp only [Sem.run_bind,part_at t9 g9 xs 0 _ x0,part_at t9 g9 ys 0 _ y0,Result.andThen,run_equalIn_string _ 9998 9 m m h9,beq_self_eq_true,Bool.not_true,Bool.false_eq_true,if_false];rw [if_pos o2];simp only [Sem.run_bind,part_at t3 g3 xs 1 _ x1,part_at t3 g3 ys 1 _ y1,Result.andThen,run_equalIn_int _ 9998 3 .i64 .i64 n n h3,beq_self_eq_true,Bool.not_true,Bool.false_eq_true,if_false,Sem.run_pure]
  exact ⟨run_eqGuard_agg w .neq 99 x y xs ys hm,by simp only [Result.andThen,run_neq_struct w 99 xs ys,e,Bool.not_true]⟩
 cases ho
theorem ar_V{H:Nat→Option Value}{lim:Nat→Nat}{w:World}{m:ByteArray}{n:Int}{v:Value}(h:V H lim w (.d (.agg [str m,num n])) v):∃xs:Array Value,v=.agg xs∧xs.toList=[.string m,.int .i64 n]:=by
 simp only [V,VD,VDs,str,num] at h;obtain ⟨xs,rfl,h⟩:=h;obtain ⟨_,_,e,rfl,_,_,rfl,rfl,rfl⟩:=h;exact ⟨⟨xs⟩,rfl,e⟩
theorem does_neq99{G:Glob}{D:List Deferred}{N:Nat}{H:Nat→Option Value}{lim:Nat→Nat}{X:St}{a:Act}{w:World}(hR:Rep D G N H lim X a w){m:ByteArray}{n:Int}{o:Oper}{x y:Operand}{yt:TypeId}(ho:o.op=.binOp .neq 99 x y yt)(hx:ev G X x=some (.d (.agg [str m,num n])))(hy:ev G X y=some (.d (.agg [str m,num n]))):
  Does Tryz.prog none a w H lim o (.d (.s (.bool false))):=by
 obtain ⟨xs,h1,h2⟩:=ar_V (ev_sound hR hx);obtain ⟨ys,h3,h4⟩:=ar_V (ev_sound hR hy);refine ⟨.bool false,fun w1 _=>?_,V_s _⟩;obtain ⟨e1,e2⟩:=neq99 m n x y xs ys h2 h4 w1
 simp [execOp,ho,h1,h3,e1,e2]
attribute [local irreducible] aCall AWp Sub Spec
theorem sameArrays_spec(G:Glob)(l:List Ar)(hb:l.length≤1073741824):Spec Tryz.prog G 68 [.d (.sl 2 (ars l)),.d (.sl 2 (ars l))] [] (.ret (.d (.s (.bool true)))) []:=by
 refine spec_of_awp2 TT_ok (N:=26) Tryz.func68 rfl (by rfl) (Nat.le_refl _) rfl ?_;refine rz [0,1] ?_;refine awp_seq ?_;refine rz [0,1,10] ?_;refine awp_cond2 rfl (onB_intro (fun h1=>?_) (fun h1=>?_))
 ·simp at h1
 refine awp_skip ?_;refine awp_seq ?_;refine rz [0,1,5] ?_;refine awp_block ?_;refine awp_loop (fun k Y=>∃(d1 e1:List Ar),k=e1.length∧l=d1++e1∧Y=⟨[(0,.d (.sl 2 (ars l))),(1,.d (.sl 2 (ars l))),(5,.d (num d1.length))],[]⟩) (l.length) (⟨[],l,rfl,rfl,rfl⟩) ?_;rintro k Y ⟨d1,e1,rfl,hl1,rfl⟩
 have hll1:(ars l).length=d1.length+e1.length:=by rw [ars_length,hl1,List.length_append]
 have hdl1:d1.length+e1.length≤1073741824:=by rw [hl1,List.length_append] at hb;exact hb
 refine awp_seq ?_;refine rz [0,1,5,14] ?_;refine awp_cond2 rfl (onB_intro (fun h2=>?_) (fun h2=>?_))
 ·have h2':=of_decide_eq_true h2
  rw [hll1] at h2'
  cases e1 with
  |nil=>simp only [List.length_nil] at h2';omega
  |cons x e1b=>
  subst hl1;simp only [List.length_cons] at hdl1;refine awp_skip ?_;refine awp_seq ?_;refine awp_block ?_;refine awp_seq ?_;refine (awp_draw_lin TT_ok mixed 8 [(false,0),(false,1),(false,2),(true,3),(false,4),(false,5),(false,6),(true,7)] (by kernel_rfl) fun K hK=>?_);refine And.intro (by omega) (Exists.intro _ (And.intro (ars_at rfl) ?_));refine And.intro (by omega) (Exists.intro _ (And.intro (ars_at rfl) ?_));refine ⟨_,.d (.s (.bool false)),rfl,rfl,rfl,fun D H lim a w hR=>does_neq99 (m:=x.name) (n:=x.size) hR rfl rfl rfl,?_⟩;refine hK _ ?_;clear hK K;refine awp_norm [0,1,5,25] rfl rfl ?_;refine awp_cond2 rfl (onB_intro (fun h3=>?_) (fun h3=>?_))
  ·simp at h3
  refine awp_skip ?_;refine rgn fun pan K hp hK=>?_;refine hK _ ?_;clear hK hp K pan;exact ⟨_,Nat.lt_succ_self _,_,sub_norm (slots:=[0,1,5]) rfl rfl,d1++[x],e1b,rfl,by simp,by rw [List.length_append,wrapId (by omega) (by omega)];rfl⟩
 have h2':=of_decide_eq_false h2;rw [hll1] at h2';obtain rfl:e1=[]:=List.eq_nil_of_length_eq_zero (by omega);rw [List.append_nil] at hl1;subst hl1;refine awp_exit ?_;refine awp_norm [] rfl rfl ?_;refine rz [4] ?_;refine awp_ret ?_;exact ⟨_,[],_,[.d (.s (.bool true))],rfl,rfl,rfl,rfl,rfl,PWs.refl _,rfl⟩
end Go.Abs
end
section
namespace Go.Abs
open Go Go.Proofs
def dpP(l:List Pc):Prop:=∀f,f∈l→dpB f.body≤12
/-- What is read is no greater than so. -/
structure PgG (N:Nat) (g:Pg):Prop where
 wt:wtPg g≤1000000
 ok:okPg N 16003 g=true
 main:dpB g.main≤12
 procs:dpP g.procs
end Go.Abs
end
section
namespace Go.Abs
open Go Go.Proofs
attribute [local irreducible] aCall AWp Sub Spec
section
variable {t:Nat→TypeId}{u:Nat→Value}
end
end Go.Abs
end
section
namespace Go.Abs
open Go Go.Proofs
section
variable {t:Nat→TypeId}{u:Nat→Value}
end
end Go.Abs
end
