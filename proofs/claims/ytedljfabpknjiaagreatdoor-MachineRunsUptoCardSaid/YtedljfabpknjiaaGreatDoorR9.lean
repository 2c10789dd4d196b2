/- Texts of this proof, joined and shortened. -/
import Derived.Test.YtedljfabpknjiaaGreatDoorR8
import Derived.Lib.ItoaLen
import Derived.WalkKit
import Derived.LaidEql
import Derived.Stop.Asserts
import Derived.RowKitTokens
set_option maxHeartbeats 1000000
section
namespace Go.Abs
open Go Go.Proofs
attribute [local irreducible] c8 dJ Sub Spec
theorem fU{args:List Ex}(h:ua (.d (.sl 4 (bR args))) true):(((bR args).length:Int)==0)=true:=by
 cases args with
 |nil=>rfl
 |cons a q=>exact absurd (h (by cases a;simp only [bR];exact fun e=>nomatch e)) (by decide)
theorem Cz:¬(!((⟨#[120]⟩:BA).toList==(⟨#[]⟩:BA).toList))=false:=by simp only [ByteArray.toList_eq];decide
theorem ov:¬(!((⟨#[]⟩:BA).toList==(⟨#[]⟩:BA).toList))=true:=by simp only [ByteArray.toList_eq];decide
theorem eD{xs:List (List Data)}{n:Nat}{k:PV->Prop}(h1:ua (.d (.sl n xs)) true->k (.d (.s (.bool true))))(h2:k (.d (.s (.bool false)))):Fw .eql (.d (.sl n xs)) k:=fun b hb=>match b,hb with
 |true,hb=>h1 hb
 |false,_=>h2
theorem ax{k:PV->Prop}(h:k (.d (.s (.bool false)))):Fw .neq (.d (.s (.slice none 0 0))) k:=fun b (hb:b=true)=>by subst hb;exact h
theorem bG{i j l:Nat}{k:PV->Prop}(h:k (.d (.s (.bool true)))):Fw .neq (.arr i j l) k:=fun b (hb:b=false)=>by subst hb;exact h
def bJ(wn wp wa wc wb we:Bool)(s:Sm):Bool:=match s with
 |.mk _ name proc args cond ao aK=>(((((((name.toList==(⟨#[]⟩:BA).toList)||wn)&&((proc.toList==(⟨#[]⟩:BA).toList)||wp))&&((((bR args).length:Int)==0)||wa))&&((((eG cond).length:Int)==0)||wc))&&((((bF ao).length:Int)==0)||wb))&&((((bF aK).length:Int)==0)||we))
theorem F1(G:Glob)(s:Sm):Spec Tryz.prog G 213 [.d (.agg s.cs),.agg [.d (aW ⟨#[]⟩),.d (aW ⟨#[120]⟩),.d (aW ⟨#[]⟩),.arr 0 0 0,.d (.s (.slice none 0 0)),.d (.s (.slice none 0 0)),.d (.s (.slice none 0 0))]] [.box 157 []] (.ret (.d (.s (.bool (bJ true false true false false false s))))) [.box 157 []]:=by
 obtain ⟨ap,name,proc,args,cond,ao,aK⟩:=s;obtain ⟨r,hG⟩:∃r,bJ true false true false false false (.mk ap name proc args cond ao aK)=r:=⟨_,rfl⟩;rw [hG];refine sA (N:=72) Tryz.func213 ?_;refine aa (rG fun J O=>O _ (aM [2,3] ?_));clear O J;refine aa (rG fun J O=>?_);refine ab (fun h=>?_) (fun h=>?_);refine ab (fun h=>?_) (fun h=>?_);refine eD (fun hb=>?_) ?_;have hz:=fU hb;refine ab (fun h=>?_) (fun h=>?_);refine ab (fun h=>?_) (fun h=>?_);refine ab (fun h=>?_) (fun h=>?_);rotate_left;refine ax ?_;rotate_left;refine ax ?_;rotate_left;refine ax ?_;rotate_left;refine ab (fun h=>?_) (fun h=>?_);refine ab (fun h=>?_) (fun h=>?_);refine ab (fun h=>?_) (fun h=>?_);refine ab (fun h=>?_) (fun h=>?_);rotate_left;refine ax ?_;rotate_left;refine ax ?_;rotate_left;refine ax ?_;rotate_left;refine bG ?_;refine ab (fun h=>?_) (fun h=>?_);refine ab (fun h=>?_) (fun h=>?_);refine ab (fun h=>?_) (fun h=>?_);rotate_left;refine ax ?_;rotate_left;refine ax ?_;rotate_left;refine ax ?_;rotate_left;refine ab (fun h=>?_) (fun h=>?_);exact absurd h ov;rotate_left;refine ab (fun h=>?_) (fun h=>?_);refine ab (fun h=>?_) (fun h=>?_);refine eD (fun hb=>?_) ?_;have hz:=fU hb;refine ab (fun h=>?_) (fun h=>?_);refine ab (fun h=>?_) (fun h=>?_);refine ab (fun h=>?_) (fun h=>?_);rotate_left;refine ax ?_;rotate_left;refine ax ?_;rotate_left;refine ax ?_;rotate_left;refine ab (fun h=>?_) (fun h=>?_);refine ab (fun h=>?_) (fun h=>?_);refine ab (fun h=>?_) (fun h=>?_);refine ab (fun h=>?_) (fun h=>?_);rotate_left;refine ax ?_;rotate_left;refine ax ?_;rotate_left;refine ax ?_;rotate_left;refine bG ?_;refine ab (fun h=>?_) (fun h=>?_);refine ab (fun h=>?_) (fun h=>?_);refine ab (fun h=>?_) (fun h=>?_);rotate_left;refine ax ?_;rotate_left;refine ax ?_;rotate_left;refine ax ?_;rotate_left;refine ab (fun h=>?_) (fun h=>?_);exact absurd h ov;rotate_left;exact absurd h Cz
 all_goals
  refine O _ (aM [4] ?_);clear O J;refine ae ?_;simp only [bJ, *,bz] at hG;subst hG;exact lF [0] [.d (.s (.bool _))]
theorem KN(G:Glob)(s:Sm):Spec Tryz.prog G 213 [.d (.agg s.cs),.agg [.d (aW ⟨#[]⟩),.d (aW ⟨#[120]⟩),.d (aW ⟨#[120]⟩),.arr 0 0 0,.d (.s (.slice none 0 0)),.d (.s (.slice none 0 0)),.d (.s (.slice none 0 0))]] [.box 157 []] (.ret (.d (.s (.bool (bJ true true true false false false s))))) [.box 157 []]:=by
 obtain ⟨ap,name,proc,args,cond,ao,aK⟩:=s;obtain ⟨r,hG⟩:∃r,bJ true true true false false false (.mk ap name proc args cond ao aK)=r:=⟨_,rfl⟩;rw [hG];refine sA (N:=72) Tryz.func213 ?_;refine aa (rG fun J O=>O _ (aM [2,3] ?_));clear O J;refine aa (rG fun J O=>?_);refine ab (fun h=>?_) (fun h=>?_);refine ab (fun h=>?_) (fun h=>?_);refine eD (fun hb=>?_) ?_;have hz:=fU hb;refine ab (fun h=>?_) (fun h=>?_);refine ab (fun h=>?_) (fun h=>?_);refine ab (fun h=>?_) (fun h=>?_);rotate_left;refine ax ?_;rotate_left;refine ax ?_;rotate_left;refine ax ?_;rotate_left;refine ab (fun h=>?_) (fun h=>?_);refine ab (fun h=>?_) (fun h=>?_);refine ab (fun h=>?_) (fun h=>?_);refine ab (fun h=>?_) (fun h=>?_);rotate_left;refine ax ?_;rotate_left;refine ax ?_;rotate_left;refine ax ?_;rotate_left;refine bG ?_;refine ab (fun h=>?_) (fun h=>?_);refine ab (fun h=>?_) (fun h=>?_);refine ab (fun h=>?_) (fun h=>?_);rotate_left;refine ax ?_;rotate_left;refine ax ?_;rotate_left;refine ax ?_;rotate_left;refine ab (fun h=>?_) (fun h=>?_);refine eD (fun hb=>?_) ?_;have hz:=fU hb;refine ab (fun h=>?_) (fun h=>?_);refine ab (fun h=>?_) (fun h=>?_);refine ab (fun h=>?_) (fun h=>?_);rotate_left;refine ax ?_;rotate_left;refine ax ?_;rotate_left;refine ax ?_;rotate_left;refine ab (fun h=>?_) (fun h=>?_);refine ab (fun h=>?_) (fun h=>?_);refine ab (fun h=>?_) (fun h=>?_);refine ab (fun h=>?_) (fun h=>?_);rotate_left;refine ax ?_;rotate_left;refine ax ?_;rotate_left;refine ax ?_;rotate_left;refine bG ?_;refine ab (fun h=>?_) (fun h=>?_);refine ab (fun h=>?_) (fun h=>?_);refine ab (fun h=>?_) (fun h=>?_);rotate_left;refine ax ?_;rotate_left;refine ax ?_;rotate_left;refine ax ?_;rotate_left;exact absurd h Cz;refine ab (fun h=>?_) (fun h=>?_);refine ab (fun h=>?_) (fun h=>?_);refine eD (fun hb=>?_) ?_;have hz:=fU hb;refine ab (fun h=>?_) (fun h=>?_);refine ab (fun h=>?_) (fun h=>?_);refine ab (fun h=>?_) (fun h=>?_);rotate_left;refine ax ?_;rotate_left;refine ax ?_;rotate_left;refine ax ?_;rotate_left;refine ab (fun h=>?_) (fun h=>?_);refine ab (fun h=>?_) (fun h=>?_);refine ab (fun h=>?_) (fun h=>?_);refine ab (fun h=>?_) (fun h=>?_);rotate_left;refine ax ?_;rotate_left;refine ax ?_;rotate_left;refine ax ?_;rotate_left;refine bG ?_;refine ab (fun h=>?_) (fun h=>?_);refine ab (fun h=>?_) (fun h=>?_);refine ab (fun h=>?_) (fun h=>?_);rotate_left;refine ax ?_;rotate_left;refine ax ?_;rotate_left;refine ax ?_;rotate_left;refine ab (fun h=>?_) (fun h=>?_);refine eD (fun hb=>?_) ?_;have hz:=fU hb;refine ab (fun h=>?_) (fun h=>?_);refine ab (fun h=>?_) (fun h=>?_);refine ab (fun h=>?_) (fun h=>?_);rotate_left;refine ax ?_;rotate_left;refine ax ?_;rotate_left;refine ax ?_;rotate_left;refine ab (fun h=>?_) (fun h=>?_);refine ab (fun h=>?_) (fun h=>?_);refine ab (fun h=>?_) (fun h=>?_);refine ab (fun h=>?_) (fun h=>?_);rotate_left;refine ax ?_;rotate_left;refine ax ?_;rotate_left;refine ax ?_;rotate_left;refine bG ?_;refine ab (fun h=>?_) (fun h=>?_);refine ab (fun h=>?_) (fun h=>?_);refine ab (fun h=>?_) (fun h=>?_);rotate_left;refine ax ?_;rotate_left;refine ax ?_;rotate_left;refine ax ?_;rotate_left;exact absurd h Cz;exact absurd h Cz
 all_goals
  refine O _ (aM [4] ?_);clear O J;refine ae ?_;simp only [bJ, *,bz] at hG;subst hG;exact lF [0] [.d (.s (.bool _))]
theorem KO(G:Glob)(s:Sm):Spec Tryz.prog G 213 [.d (.agg s.cs),.agg [.d (aW ⟨#[]⟩),.d (aW ⟨#[]⟩),.d (aW ⟨#[]⟩),.d (.s (.slice none 0 0)),.arr 0 0 0,.arr 1 0 0,.arr 1 0 0]] [.box 123 [],.box 217 []] (.ret (.d (.s (.bool (bJ false false false true true true s))))) [.box 123 [],.box 217 []]:=by
 obtain ⟨ap,name,proc,args,cond,ao,aK⟩:=s;obtain ⟨r,hG⟩:∃r,bJ false false false true true true (.mk ap name proc args cond ao aK)=r:=⟨_,rfl⟩;rw [hG];refine sA (N:=72) Tryz.func213 ?_;refine aa (rG fun J O=>O _ (aM [2,3] ?_));clear O J;refine aa (rG fun J O=>?_);refine ab (fun h=>?_) (fun h=>?_);refine ab (fun h=>?_) (fun h=>?_);refine eD (fun hb=>?_) ?_;have hz:=fU hb;refine ab (fun h=>?_) (fun h=>?_);refine ab (fun h=>?_) (fun h=>?_);refine ab (fun h=>?_) (fun h=>?_);rotate_left;refine bG ?_;rotate_left;refine bG ?_;refine ab (fun h=>?_) (fun h=>?_);rotate_left;refine bG ?_;rotate_left;refine bG ?_;refine ab (fun h=>?_) (fun h=>?_);refine ab (fun h=>?_) (fun h=>?_);rotate_left;refine bG ?_;rotate_left;refine bG ?_;refine ab (fun h=>?_) (fun h=>?_);rotate_left;refine bG ?_;rotate_left;refine ab (fun h=>?_) (fun h=>?_);refine ab (fun h=>?_) (fun h=>?_);refine ab (fun h=>?_) (fun h=>?_);refine ab (fun h=>?_) (fun h=>?_);rotate_left;refine bG ?_;rotate_left;refine bG ?_;refine ab (fun h=>?_) (fun h=>?_);rotate_left;refine bG ?_;rotate_left;refine bG ?_;refine ab (fun h=>?_) (fun h=>?_);refine ab (fun h=>?_) (fun h=>?_);rotate_left;refine bG ?_;rotate_left;refine bG ?_;refine ab (fun h=>?_) (fun h=>?_);rotate_left;refine bG ?_;rotate_left;refine ax ?_;rotate_left;refine ab (fun h=>?_) (fun h=>?_);exact absurd h ov;rotate_left;refine ab (fun h=>?_) (fun h=>?_);exact absurd h ov;rotate_left
 all_goals
  refine O _ (aM [4] ?_);clear O J;refine ae ?_;simp only [bJ, *,bz] at hG;subst hG;exact lF [0,1] [.d (.s (.bool _))]
theorem Nw(G:Glob)(s:Sm):Spec Tryz.prog G 213 [.d (.agg s.cs),.agg [.d (aW ⟨#[]⟩),.d (aW ⟨#[]⟩),.d (aW ⟨#[]⟩),.d (.s (.slice none 0 0)),.arr 0 0 0,.arr 1 0 0,.d (.s (.slice none 0 0))]] [.box 123 [],.box 217 []] (.ret (.d (.s (.bool (bJ false false false true true false s))))) [.box 123 [],.box 217 []]:=by
 obtain ⟨ap,name,proc,args,cond,ao,aK⟩:=s;obtain ⟨r,hG⟩:∃r,bJ false false false true true false (.mk ap name proc args cond ao aK)=r:=⟨_,rfl⟩;rw [hG];refine sA (N:=72) Tryz.func213 ?_;refine aa (rG fun J O=>O _ (aM [2,3] ?_));clear O J;refine aa (rG fun J O=>?_);refine ab (fun h=>?_) (fun h=>?_);refine ab (fun h=>?_) (fun h=>?_);refine eD (fun hb=>?_) ?_;have hz:=fU hb;refine ab (fun h=>?_) (fun h=>?_);refine ab (fun h=>?_) (fun h=>?_);refine ab (fun h=>?_) (fun h=>?_);rotate_left;refine ax ?_;rotate_left;refine bG ?_;refine ab (fun h=>?_) (fun h=>?_);rotate_left;refine ax ?_;rotate_left;refine bG ?_;refine ab (fun h=>?_) (fun h=>?_);refine ab (fun h=>?_) (fun h=>?_);rotate_left;refine ax ?_;rotate_left;refine bG ?_;refine ab (fun h=>?_) (fun h=>?_);rotate_left;refine ax ?_;rotate_left;refine ab (fun h=>?_) (fun h=>?_);refine ab (fun h=>?_) (fun h=>?_);refine ab (fun h=>?_) (fun h=>?_);refine ab (fun h=>?_) (fun h=>?_);rotate_left;refine ax ?_;rotate_left;refine bG ?_;refine ab (fun h=>?_) (fun h=>?_);rotate_left;refine ax ?_;rotate_left;refine bG ?_;refine ab (fun h=>?_) (fun h=>?_);refine ab (fun h=>?_) (fun h=>?_);rotate_left;refine ax ?_;rotate_left;refine bG ?_;refine ab (fun h=>?_) (fun h=>?_);rotate_left;refine ax ?_;rotate_left;refine ax ?_;rotate_left;refine ab (fun h=>?_) (fun h=>?_);exact absurd h ov;rotate_left;refine ab (fun h=>?_) (fun h=>?_);exact absurd h ov;rotate_left
 all_goals
  refine O _ (aM [4] ?_);clear O J;refine ae ?_;simp only [bJ, *,bz] at hG;subst hG;exact lF [0,1] [.d (.s (.bool _))]
theorem KQ(G:Glob)(s:Sm):Spec Tryz.prog G 213 [.d (.agg s.cs),.agg [.d (aW ⟨#[]⟩),.d (aW ⟨#[]⟩),.d (aW ⟨#[]⟩),.d (.s (.slice none 0 0)),.arr 0 0 0,.d (.s (.slice none 0 0)),.d (.s (.slice none 0 0))]] [.box 123 []] (.ret (.d (.s (.bool (bJ false false false true false false s))))) [.box 123 []]:=by
 obtain ⟨ap,name,proc,args,cond,ao,aK⟩:=s;obtain ⟨r,hG⟩:∃r,bJ false false false true false false (.mk ap name proc args cond ao aK)=r:=⟨_,rfl⟩;rw [hG];refine sA (N:=72) Tryz.func213 ?_;refine aa (rG fun J O=>O _ (aM [2,3] ?_));clear O J;refine aa (rG fun J O=>?_);refine ab (fun h=>?_) (fun h=>?_);refine ab (fun h=>?_) (fun h=>?_);refine eD (fun hb=>?_) ?_;have hz:=fU hb;refine ab (fun h=>?_) (fun h=>?_);refine ab (fun h=>?_) (fun h=>?_);refine ab (fun h=>?_) (fun h=>?_);rotate_left;refine ax ?_;rotate_left;refine ax ?_;rotate_left;refine bG ?_;refine ab (fun h=>?_) (fun h=>?_);refine ab (fun h=>?_) (fun h=>?_);rotate_left;refine ax ?_;rotate_left;refine ax ?_;rotate_left;refine ab (fun h=>?_) (fun h=>?_);refine ab (fun h=>?_) (fun h=>?_);refine ab (fun h=>?_) (fun h=>?_);refine ab (fun h=>?_) (fun h=>?_);rotate_left;refine ax ?_;rotate_left;refine ax ?_;rotate_left;refine bG ?_;refine ab (fun h=>?_) (fun h=>?_);refine ab (fun h=>?_) (fun h=>?_);rotate_left;refine ax ?_;rotate_left;refine ax ?_;rotate_left;refine ax ?_;rotate_left;refine ab (fun h=>?_) (fun h=>?_);exact absurd h ov;rotate_left;refine ab (fun h=>?_) (fun h=>?_);exact absurd h ov;rotate_left
 all_goals
  refine O _ (aM [4] ?_);clear O J;refine ae ?_;simp only [bJ, *,bz] at hG;subst hG;exact lF [0] [.d (.s (.bool _))]
theorem RB(G:Glob)(s:Sm):Spec Tryz.prog G 213 [.d (.agg s.cs),.d (.agg [aW ⟨#[]⟩,aW ⟨#[120]⟩,aW ⟨#[]⟩,.s (.slice none 0 0),.s (.slice none 0 0),.s (.slice none 0 0),.s (.slice none 0 0)])] [] (.ret (.d (.s (.bool (bJ true false false false false false s))))) []:=by
 obtain ⟨ap,name,proc,args,cond,ao,aK⟩:=s;obtain ⟨r,hG⟩:∃r,bJ true false false false false false (.mk ap name proc args cond ao aK)=r:=⟨_,rfl⟩;rw [hG];refine sA (N:=72) Tryz.func213 ?_;refine aa (rG fun J O=>O _ (aM [2,3] ?_));clear O J;refine aa (rG fun J O=>?_);refine ab (fun h=>?_) (fun h=>?_);refine ab (fun h=>?_) (fun h=>?_);refine eD (fun hb=>?_) ?_;have hz:=fU hb;refine ab (fun h=>?_) (fun h=>?_);refine ab (fun h=>?_) (fun h=>?_);refine ab (fun h=>?_) (fun h=>?_);rotate_left;refine ax ?_;rotate_left;refine ax ?_;rotate_left;refine ax ?_;rotate_left;refine ab (fun h=>?_) (fun h=>?_);refine ab (fun h=>?_) (fun h=>?_);refine ab (fun h=>?_) (fun h=>?_);refine ab (fun h=>?_) (fun h=>?_);rotate_left;refine ax ?_;rotate_left;refine ax ?_;rotate_left;refine ax ?_;rotate_left;refine ax ?_;rotate_left;refine ab (fun h=>?_) (fun h=>?_);exact absurd h ov;rotate_left;refine ab (fun h=>?_) (fun h=>?_);refine ab (fun h=>?_) (fun h=>?_);refine eD (fun hb=>?_) ?_;have hz:=fU hb;refine ab (fun h=>?_) (fun h=>?_);refine ab (fun h=>?_) (fun h=>?_);refine ab (fun h=>?_) (fun h=>?_);rotate_left;refine ax ?_;rotate_left;refine ax ?_;rotate_left;refine ax ?_;rotate_left;refine ab (fun h=>?_) (fun h=>?_);refine ab (fun h=>?_) (fun h=>?_);refine ab (fun h=>?_) (fun h=>?_);refine ab (fun h=>?_) (fun h=>?_);rotate_left;refine ax ?_;rotate_left;refine ax ?_;rotate_left;refine ax ?_;rotate_left;refine ax ?_;rotate_left;refine ab (fun h=>?_) (fun h=>?_);exact absurd h ov;rotate_left;exact absurd h Cz
 all_goals
  refine O _ (aM [4] ?_);clear O J;refine ae ?_;simp only [bJ, *,bz] at hG;subst hG;exact lF [] [.d (.s (.bool _))]
section
def CM(s:BA)(W:WS):Bool:=(decide (W.inn<=1073741824)&&decide (s.size<=1073741824))&&decide (W.b.size<=70368744177664)
def bi(s:BA)(W:WS):Q Unit:=match CM s W with
 |true=>.ok () (wq W s)
 |false=>.out
theorem bT(G:Glob)(s:BA)(W:WS):xI G 74 [.box 0 0,.d (aW s)] W KA (bi s W):=by
 intro aO
 unfold bi at aO ⊢
 cases h:CM s W with
 |false=>rw [h] at aO;exact absurd rfl aO
 |true=>
  simp only [CM,bE,dE] at h;exact Hq G W s h.1.1 h.1.2 h.2
theorem iB(G:Glob)(s:BA)(W:WS):bi s W≠.out->Spec Tryz.prog G 74 [.box 0 0,.d (aW s)] (KL W) (T_ KA (bi s W)) (vv (bi s W)):=by
 intro aO
 unfold bi at aO ⊢
 cases h:CM s W with
 |false=>rw [h] at aO;exact absurd rfl aO
 |true=>
  simp only [CM,bE,dE] at h;exact En G W s h.1.1 h.1.2 h.2
def ox(n:Nat):Bool:=decide (1<=n)&&decide (n<=1073741824)
theorem pm{f:Nat}{l:List Ex}{W:WS}{a:BA}{V:WS}(h:ij f l W=.ok a V):a.size<=1073741824:=by
 unfold ij at h
 split at h
 ·exact ko (fun _ _ q=>iA q) h
 cases h
theorem k_{f:Nat}{c:List (List Ts)}{W:WS}{a:BA}{V:WS}(h:gI f c W=.ok a V):a.size<=1073741824:=by
 unfold gI at h
 split at h
 ·split at h
  ·exact iA h
  exact ko (fun _ _ q=>iA q) h
 cases h
theorem s_:∀l:List Sm,(bF l).length=l.length
 |[]=>rfl
 |e::r=>by simp only [bF,lC,s_ r]
theorem Do{l d e:List Sm}{x:Sm}(h:l=d++x::e):(bF l)[((d.length:Nat):Int).toNat]? = some x.cs:=by
 subst h;rw [Int.toNat_natCast]
 induction d with
 |nil=>rfl
 |cons y d ih=>simpa only [List.cons_append,bF,lC,List.getElem?_cons_succ] using ih
mutual
def dY(n:Nat):Nat->List Sm->Int->WS->Q Unit
 |0,_,_,_=>.out
 |f+1,l,d,W=>match cV W.inn&&cV l.length with
  |true=>(jp n f l d ⟨W.b,W.inn+1,W.ok,W.n⟩).bind fun _ V=>match ox V.inn with
   |true=>.ok () ⟨V.b,V.inn - 1,V.ok,V.n⟩
   |false=>.out
  |false=>.out
def jp(n:Nat):Nat->List Sm->Int->WS->Q Unit
 |0,_,_,_=>.out
 |f+1,l,d,W=>match l with
  |[]=>.ok () W
  |s::r=>match (cU W d).ok with
   |true=>(pA n f s d (cU W d)).bind fun _ V=>jp n f r d V
   |false=>jp n f r d (cU W d)
def pA(n:Nat):Nat->Sm->Int->WS->Q Unit
 |0,_,_,_=>.out
 |f+1,.mk ap name proc args cond ao aK,d,W=>match (ap.toList==(⟨#[115,101,116]⟩:BA).toList) with
  |true=>match bj name with
   |true=>(ij n args (aT (aT W ((bJ true false true false false false (.mk ap name proc args cond ao aK))&&(((bR args).length:Int)==1))) (aC name))).bind fun t V=>bi (((name++(⟨#[32,61,32]⟩:BA))++t)++(⟨#[59]⟩:BA)) V
   |false=>.out
  |false=>match (ap.toList==(⟨#[112,117,116]⟩:BA).toList) with
   |true=>match (aT W ((bJ true false true false false false (.mk ap name proc args cond ao aK))&&(((bR args).length:Int)==2))).ok with
    |true=>match bj name with
     |true=>match args with
      |[x,y]=>(cp n x 1 1 (aT (aT W ((bJ true false true false false false (.mk ap name proc args cond ao aK))&&(((bR args).length:Int)==2))) (aC name))).bind fun s V=>(cp n y 1 1 V).bind fun u V=>bi (((((name++(⟨#[91]⟩:BA))++s)++(⟨#[93,32,61,32]⟩:BA))++u)++(⟨#[59]⟩:BA)) V
      |_=>.out
     |false=>.out
    |false=>.ok () (aT W ((bJ true false true false false false (.mk ap name proc args cond ao aK))&&(((bR args).length:Int)==2)))
   |false=>match (ap.toList==(⟨#[99,97,108,108]⟩:BA).toList) with
    |true=>match bj name&&bj proc with
     |true=>(ij n args (aT (aT (aT W (bJ true true true false false false (.mk ap name proc args cond ao aK))) (aC name)) (aC proc))).bind fun t V=>bi (((((name++(⟨#[32,61,32,99,97,108,108,32]⟩:BA))++proc)++(⟨#[40]⟩:BA))++t)++(⟨#[41,59]⟩:BA)) V
     |false=>.out
    |false=>match (ap.toList==(⟨#[105,102]⟩:BA).toList) with
     |true=>(gI n cond (aT W (bJ false false false true true true (.mk ap name proc args cond ao aK)))).bind fun c V=>(bi (((⟨#[105,102,32]⟩:BA)++c)++(⟨#[32,123]⟩:BA)) V).bind fun _ V=>(dY n f ao (IntKind.i64.wrap (d+1)) V).bind fun _ V=>match decide (((bF aK).length:Int)>0) with
      |true=>(bi (⟨#[125,32,101,108,115,101,32,123]⟩:BA) V).bind fun _ V=>(dY n f aK (IntKind.i64.wrap (d+1)) V).bind fun _ V=>bi (⟨#[125]⟩:BA) V
      |false=>bi (⟨#[125]⟩:BA) V
     |false=>match (ap.toList==(⟨#[119,104,105,108,101]⟩:BA).toList) with
      |true=>(gI n cond (aT W (bJ false false false true true false (.mk ap name proc args cond ao aK)))).bind fun c V=>(bi (((⟨#[119,104,105,108,101,32]⟩:BA)++c)++(⟨#[32,123]⟩:BA)) V).bind fun _ V=>(dY n f ao (IntKind.i64.wrap (d+1)) V).bind fun _ V=>bi (⟨#[125]⟩:BA) V
      |false=>match ((ap.toList==(⟨#[97,115,115,101,114,116]⟩:BA).toList)||(ap.toList==(⟨#[97,115,115,117,109,101]⟩:BA).toList)) with
       |true=>match bj ap with
        |true=>(gI n cond (aT W (bJ false false false true false false (.mk ap name proc args cond ao aK)))).bind fun c V=>bi (((ap++(⟨#[32]⟩:BA))++c)++(⟨#[59]⟩:BA)) V
        |false=>.out
       |false=>match (ap.toList==(⟨#[114,101,97,100]⟩:BA).toList) with
        |true=>match bj name with
         |true=>bi (((⟨#[114,101,97,100,32]⟩:BA)++name)++(⟨#[59]⟩:BA)) (aT (aT W (bJ true false false false false false (.mk ap name proc args cond ao aK))) (aC name))
         |false=>.out
        |false=>.ok () (aT W false)
end
section
variable (G:Glob) (n:Nat)
def vA(f:Nat):Prop:=∀(l:List Sm) (d:Int) (W:WS),xI G 79 [.box 0 0,.d (.sl 7 (bF l)),.d (aD d)] W KA (dY n f l d W)
def zT(f:Nat):Prop:=∀(s:Sm) (d:Int) (W:WS),xI G 154 [.box 0 0,.d (.agg s.cs),.d (aD d)] W KA (pA n f s d W)
def KS:Plan:=(.take 0 (.take 1 (.take 2 (.load 3 (.take 6 (.take 7 (.load 8 (.one 4 (.take 5 (.one 9 (.take 10 (.take 11 (.one 12 .done)))))))))))))
def F2:Plan:=(.take 0 (.take 1 (.take 2 (.load 3 (.take 6 (.take 7 (.load 8 (.take 9 (.load 10 (.take 14 (.take 15 (.load 16 (.take 17 (.load 18 (.one 4 (.take 5 (.one 11 (.take 12 (.take 13 (.one 19 (.take 20 (.take 21 (.one 22 .done)))))))))))))))))))))))
def Ny:Plan:=(.take 0 (.take 1 (.take 2 (.load 3 (.take 6 (.take 7 (.load 8 (.take 12 (.take 13 (.load 14 (.one 4 (.take 5 (.one 9 (.take 10 (.take 11 (.one 15 (.take 16 (.take 17 (.one 18 .done)))))))))))))))))))
def F3:Plan:=(.take 0 (.take 1 (.load 2 (.take 3 (.take 4 (.take 5 (.load 6 (.one 7 (.take 8 (.take 9 (.one 10 .done)))))))))))
theorem Ep(hI:kY G)(f:Nat)(ih:∀m,m<=f->vA G n m):zT G n (f+1):=by
 intro s d W aO;obtain ⟨r,hG⟩:∃r,pA n (f+1) s d W=r:=⟨_,rfl⟩;rw [hG] at aO ⊢;obtain ⟨ap,name,proc,args,cond,ao,aK⟩:=s;simp only [pA] at hG
 refine aZ b8 (N:=209) Tryz.func154 rfl (by rfl) ((by cases r <;> simp [vv,wr] at aO ⊢)) rfl ?_
 refine rz [0,2,4] ?_;refine rS fun J O=>?_;refine Or.inr (Or.inl ?_);refine Or.inr (Or.inl ?_);refine Or.inr (Or.inl ?_);refine O _ (aM [0,2,4,6,7,8] ?_);clear O J;refine rz [0,2,4,6,7,8,13] ?_;refine af (rz [0,2,4,6,7,8,13,16] ?_);refine cQ rfl (fun h1=>?_) fun h1=>?_
 ·refine rS fun J O=>?_
  refine aS [3] (F1 G (.mk ap name proc args cond ao aK)) ?_;refine ab (fun h2=>?_) (fun h2=>?_)
  ·refine sH ?_
   obtain ⟨X1,gj⟩:∃Z0,aT W ((bJ true false true false false false (.mk ap name proc args cond ao aK))&&(((bR args).length:Int)==1))=Z0:=⟨_,rfl⟩;rw [gj] at hG;refine aR [0,1] rfl rfl rfl (bm G (by simp only [h2,bz]) gj) rfl rfl rfl rfl ?_;refine O _ (aM [0,4] ?_);clear O J;refine (dW KS [9,12] (fun i=>Nat.beq i 2) (by kernel_rfl) fun J O=>?_)
   refine sH ?_
   cases hn:bj name with
   |false=>
    simp only [h1,hn] at hG;cases aO hG.symm
   |true=>
    have hz:=oT hn;obtain ⟨X2,sU⟩:∃Z0,aT X1 (aC name)=Z0:=⟨_,rfl⟩;rw [sU] at hG;refine aS [0,1] (df G hz sU) ?_;refine sZ ?_
    refine sH ?_
    have bB:=pl G hI n args X2
    cases aF:ij n args X2 with
    |out=>
     simp only [Q.bind,h1,hn,aF] at hG;cases aO hG.symm
    |ok a1 U1=>
     rw [aF] at bB;have qU:=pm aF;refine aS [0,1] (bB nofun) ?_;refine sZ ?_;refine sZ ?_
     refine sH ?_
     have a_:=bT G (((name++(⟨#[32,61,32]⟩:BA))++a1)++(⟨#[59]⟩:BA)) U1
     cases aJ:bi (((name++(⟨#[32,61,32]⟩:BA))++a1)++(⟨#[59]⟩:BA)) U1 with
     |out=>
      simp only [Q.bind,h1,hn,aF,aJ] at hG;cases aO hG.symm
     |ok a2 U2=>
      rw [aJ] at a_;refine aS [0,1] (a_ nofun) ?_;refine O _ ?_;clear O J;simp only [Q.bind,h1,hn,aF,aJ] at hG;subst hG;exact lF [0,1] []
  refine sH ?_
  obtain ⟨X1,gj⟩:∃Z0,aT W ((bJ true false true false false false (.mk ap name proc args cond ao aK))&&(((bR args).length:Int)==1))=Z0:=⟨_,rfl⟩;rw [gj] at hG;refine aR [0,1] rfl rfl rfl (bm G (by simp only [h2,bz]) gj) rfl rfl rfl rfl ?_;refine O _ (aM [0,4] ?_);clear O J;refine (dW KS [9,12] (fun i=>Nat.beq i 2) (by kernel_rfl) fun J O=>?_)
  refine sH ?_
  cases hn:bj name with
  |false=>
   simp only [h1,hn] at hG;cases aO hG.symm
  |true=>
   have hz:=oT hn;obtain ⟨X2,sU⟩:∃Z0,aT X1 (aC name)=Z0:=⟨_,rfl⟩;rw [sU] at hG;refine aS [0,1] (df G hz sU) ?_;refine sZ ?_
   refine sH ?_
   have bB:=pl G hI n args X2
   cases aF:ij n args X2 with
   |out=>
    simp only [Q.bind,h1,hn,aF] at hG;cases aO hG.symm
   |ok a1 U1=>
    rw [aF] at bB;have qU:=pm aF;refine aS [0,1] (bB nofun) ?_;refine sZ ?_;refine sZ ?_
    refine sH ?_
    have a_:=bT G (((name++(⟨#[32,61,32]⟩:BA))++a1)++(⟨#[59]⟩:BA)) U1
    cases aJ:bi (((name++(⟨#[32,61,32]⟩:BA))++a1)++(⟨#[59]⟩:BA)) U1 with
    |out=>
     simp only [Q.bind,h1,hn,aF,aJ] at hG;cases aO hG.symm
    |ok a2 U2=>
     rw [aJ] at a_;refine aS [0,1] (a_ nofun) ?_;refine O _ ?_;clear O J;simp only [Q.bind,h1,hn,aF,aJ] at hG;subst hG;exact lF [0,1] []
 refine rz [0,2,4,6,7,8,13,43] ?_;refine cQ rfl (fun h2=>?_) fun h2=>?_
 ·refine rS fun J O=>?_
  refine aS [3] (F1 G (.mk ap name proc args cond ao aK)) ?_;refine ab (fun h3=>?_) (fun h3=>?_)
  ·refine sH ?_
   obtain ⟨X1,gj⟩:∃Z0,aT W ((bJ true false true false false false (.mk ap name proc args cond ao aK))&&(((bR args).length:Int)==2))=Z0:=⟨_,rfl⟩;rw [gj] at hG;refine aR [0,1] rfl rfl rfl (bm G (by simp only [h3,bz]) gj) rfl rfl rfl rfl ?_;refine O _ (aM [0,4] ?_);clear O J;refine rz [0,4,60] ?_;refine cQ rfl (fun h4=>?_) fun h4=>?_
   ·obtain ⟨x,y,rfl⟩:=lx (kq gj h4)
    obtain ⟨o1,n1,m1,l1⟩:=x;obtain ⟨o2,n2,m2,l2⟩:=y;refine (dW F2 [19,22] (fun i=>Nat.beq i 2) (by kernel_rfl) fun J O=>?_);refine aI ((by first|omega|(simp only [bR,lC,lN];omega))) (eI _ (aI (rfl) ?_));refine aI ((by first|omega|(simp only [bR,lC,lN];omega))) (eI _ (aI (rfl) ?_))
    refine sH ?_
    cases hn:bj name with
    |false=>
     simp only [h1,h2,h4,hn] at hG;cases aO hG.symm
    |true=>
     have hz:=oT hn;obtain ⟨X2,sU⟩:∃Z0,aT X1 (aC name)=Z0:=⟨_,rfl⟩;rw [sU] at hG;refine aS [0,1] (df G hz sU) ?_;refine sZ ?_
     refine sH ?_
     have bB:=eR G hI n (.mk o1 n1 m1 l1) 1 1 X2
     cases aF:cp n (.mk o1 n1 m1 l1) 1 1 X2 with
     |out=>
      simp only [Q.bind,h1,h2,h4,hn,aF] at hG;cases aO hG.symm
     |ok a1 U1=>
      rw [aF] at bB;have qU:=dq aF;refine aS [0,1] (bB nofun) ?_;refine sZ ?_;refine sZ ?_
      refine sH ?_
      have a_:=eR G hI n (.mk o2 n2 m2 l2) 1 1 U1
      cases aJ:cp n (.mk o2 n2 m2 l2) 1 1 U1 with
      |out=>
       simp only [Q.bind,h1,h2,h4,hn,aF,aJ] at hG;cases aO hG.symm
      |ok a2 U2=>
       rw [aJ] at a_;have dX:=dq aJ;refine aS [0,1] (a_ nofun) ?_;refine sZ ?_;refine sZ ?_
       refine sH ?_
       have cz:=bT G (((((name++(⟨#[91]⟩:BA))++a1)++(⟨#[93,32,61,32]⟩:BA))++a2)++(⟨#[59]⟩:BA)) U2
       cases bh:bi (((((name++(⟨#[91]⟩:BA))++a1)++(⟨#[93,32,61,32]⟩:BA))++a2)++(⟨#[59]⟩:BA)) U2 with
       |out=>
        simp only [Q.bind,h1,h2,h4,hn,aF,aJ,bh] at hG;cases aO hG.symm
       |ok a3 U3=>
        rw [bh] at cz;refine aS [0,1] (cz nofun) ?_;refine O _ ?_;clear O J;simp only [Q.bind,h1,h2,h4,hn,aF,aJ,bh] at hG;subst hG;exact lF [0,1] []
   refine ac ?_;simp only [h1,h2,h4] at hG;subst hG;exact lF [0,1] []
  refine sH ?_
  obtain ⟨X1,gj⟩:∃Z0,aT W ((bJ true false true false false false (.mk ap name proc args cond ao aK))&&(((bR args).length:Int)==2))=Z0:=⟨_,rfl⟩;rw [gj] at hG;refine aR [0,1] rfl rfl rfl (bm G (by simp only [h3,bz]) gj) rfl rfl rfl rfl ?_;refine O _ (aM [0,4] ?_);clear O J;refine rz [0,4,60] ?_;refine cQ rfl (fun h4=>?_) fun h4=>?_
  ·obtain ⟨x,y,rfl⟩:=lx (kq gj h4)
   obtain ⟨o1,n1,m1,l1⟩:=x;obtain ⟨o2,n2,m2,l2⟩:=y;refine (dW F2 [19,22] (fun i=>Nat.beq i 2) (by kernel_rfl) fun J O=>?_);refine aI ((by first|omega|(simp only [bR,lC,lN];omega))) (eI _ (aI (rfl) ?_));refine aI ((by first|omega|(simp only [bR,lC,lN];omega))) (eI _ (aI (rfl) ?_))
   refine sH ?_
   cases hn:bj name with
   |false=>
    simp only [h1,h2,h4,hn] at hG;cases aO hG.symm
   |true=>
    have hz:=oT hn;obtain ⟨X2,sU⟩:∃Z0,aT X1 (aC name)=Z0:=⟨_,rfl⟩;rw [sU] at hG;refine aS [0,1] (df G hz sU) ?_;refine sZ ?_
    refine sH ?_
    have bB:=eR G hI n (.mk o1 n1 m1 l1) 1 1 X2
    cases aF:cp n (.mk o1 n1 m1 l1) 1 1 X2 with
    |out=>
     simp only [Q.bind,h1,h2,h4,hn,aF] at hG;cases aO hG.symm
    |ok a1 U1=>
     rw [aF] at bB;have qU:=dq aF;refine aS [0,1] (bB nofun) ?_;refine sZ ?_;refine sZ ?_
     refine sH ?_
     have a_:=eR G hI n (.mk o2 n2 m2 l2) 1 1 U1
     cases aJ:cp n (.mk o2 n2 m2 l2) 1 1 U1 with
     |out=>
      simp only [Q.bind,h1,h2,h4,hn,aF,aJ] at hG;cases aO hG.symm
     |ok a2 U2=>
      rw [aJ] at a_;have dX:=dq aJ;refine aS [0,1] (a_ nofun) ?_;refine sZ ?_;refine sZ ?_
      refine sH ?_
      have cz:=bT G (((((name++(⟨#[91]⟩:BA))++a1)++(⟨#[93,32,61,32]⟩:BA))++a2)++(⟨#[59]⟩:BA)) U2
      cases bh:bi (((((name++(⟨#[91]⟩:BA))++a1)++(⟨#[93,32,61,32]⟩:BA))++a2)++(⟨#[59]⟩:BA)) U2 with
      |out=>
       simp only [Q.bind,h1,h2,h4,hn,aF,aJ,bh] at hG;cases aO hG.symm
      |ok a3 U3=>
       rw [bh] at cz;refine aS [0,1] (cz nofun) ?_;refine O _ ?_;clear O J;simp only [Q.bind,h1,h2,h4,hn,aF,aJ,bh] at hG;subst hG;exact lF [0,1] []
  refine ac ?_;simp only [h1,h2,h4] at hG;subst hG;exact lF [0,1] []
 refine rz [0,2,4,6,7,8,13,84] ?_;refine cQ rfl (fun h3=>?_) fun h3=>?_
 ·refine rS fun J O=>?_
  refine aS [3] (KN G (.mk ap name proc args cond ao aK)) ?_
  refine sH ?_
  obtain ⟨X1,gj⟩:∃Z0,aT W (bJ true true true false false false (.mk ap name proc args cond ao aK))=Z0:=⟨_,rfl⟩;rw [gj] at hG;refine aS [0,1] (bm G rfl gj) ?_;refine O _ (aM [0,4] ?_);clear O J;refine (dW Ny [15,18] (fun i=>Nat.beq i 2) (by kernel_rfl) fun J O=>?_)
  refine sH ?_
  cases hn:bj name&&bj proc with
  |false=>
   simp only [h1,h2,h3,hn] at hG;cases aO hG.symm
  |true=>
   have CB:=hn;simp only [bE] at CB;have hz:=oT CB.1;have ZS:=oT CB.2;obtain ⟨X2,sU⟩:∃Z0,aT X1 (aC name)=Z0:=⟨_,rfl⟩;rw [sU] at hG;refine aS [0,1] (df G hz sU) ?_;refine sZ ?_
   refine sH ?_
   obtain ⟨X3,XX⟩:∃Z0,aT X2 (aC proc)=Z0:=⟨_,rfl⟩;rw [XX] at hG;refine aS [0,1] (df G ZS XX) ?_;refine sZ ?_;refine sZ ?_
   refine sH ?_
   have bB:=pl G hI n args X3
   cases aF:ij n args X3 with
   |out=>
    simp only [Q.bind,h1,h2,h3,hn,aF] at hG;cases aO hG.symm
   |ok a1 U1=>
    rw [aF] at bB;have qU:=pm aF;refine aS [0,1] (bB nofun) ?_;refine sZ ?_;refine sZ ?_
    refine sH ?_
    have a_:=bT G (((((name++(⟨#[32,61,32,99,97,108,108,32]⟩:BA))++proc)++(⟨#[40]⟩:BA))++a1)++(⟨#[41,59]⟩:BA)) U1
    cases aJ:bi (((((name++(⟨#[32,61,32,99,97,108,108,32]⟩:BA))++proc)++(⟨#[40]⟩:BA))++a1)++(⟨#[41,59]⟩:BA)) U1 with
    |out=>
     simp only [Q.bind,h1,h2,h3,hn,aF,aJ] at hG;cases aO hG.symm
    |ok a2 U2=>
     rw [aJ] at a_;refine aS [0,1] (a_ nofun) ?_;refine O _ ?_;clear O J;simp only [Q.bind,h1,h2,h3,hn,aF,aJ] at hG;subst hG;exact lF [0,1] []
 refine rz [0,2,4,7,8,13,111] ?_;refine cQ rfl (fun h4=>?_) fun h4=>?_
 ·refine rS fun J O=>?_
  refine aS [4,5] (KO G (.mk ap name proc args cond ao aK)) ?_
  refine sH ?_
  obtain ⟨X1,gj⟩:∃Z0,aT W (bJ false false false true true true (.mk ap name proc args cond ao aK))=Z0:=⟨_,rfl⟩;rw [gj] at hG;refine aS [0,1] (bm G rfl gj) ?_;refine O _ (aM [0,2,4] ?_);clear O J;refine rS fun J O=>sH ?_;have bB:=k0 G hI n cond X1
  cases aF:gI n cond X1 with
  |out=>
   simp only [Q.bind,h1,h2,h3,h4,aF] at hG;cases aO hG.symm
  |ok a1 U1=>
   rw [aF] at bB;have qU:=k_ aF;refine aS [0,1] (bB nofun) ?_;refine sZ ?_;refine sZ ?_
   refine sH ?_
   have a_:=bT G (((⟨#[105,102,32]⟩:BA)++a1)++(⟨#[32,123]⟩:BA)) U1
   cases aJ:bi (((⟨#[105,102,32]⟩:BA)++a1)++(⟨#[32,123]⟩:BA)) U1 with
   |out=>
    simp only [Q.bind,h1,h2,h3,h4,aF,aJ] at hG;cases aO hG.symm
   |ok a2 U2=>
    rw [aJ] at a_;refine aS [0,1] (a_ nofun) ?_;refine O _ (aM [0,2,4] ?_);clear O J;refine rS fun J O=>sH ?_;have cz:=ih f (nR _) ao (IntKind.i64.wrap (d+1)) U2
    cases bh:dY n f ao (IntKind.i64.wrap (d+1)) U2 with
    |out=>
     simp only [Q.bind,h1,h2,h3,h4,aF,aJ,bh] at hG;cases aO hG.symm
    |ok a3 U3=>
     rw [bh] at cz;refine aS [0,1] (cz nofun) ?_;refine O _ (aM [0,2,4] ?_);clear O J;refine aa (rz [0,2,4,138] ?_);refine cQ rfl (fun h5=>?_) fun h5=>?_
     ·refine rS fun J O=>sH ?_
      have lw:=bT G (⟨#[125,32,101,108,115,101,32,123]⟩:BA) U3
      cases fC:bi (⟨#[125,32,101,108,115,101,32,123]⟩:BA) U3 with
      |out=>
       simp only [Q.bind,h1,h2,h3,h4,aF,aJ,bh,h5,fC] at hG;cases aO hG.symm
      |ok a4 U4=>
       rw [fC] at lw;refine aS [0,1] (lw nofun) ?_;refine O _ (aM [0,2,4] ?_);clear O J;refine rG fun J O=>sH ?_;have xE:=ih f (nR _) aK (IntKind.i64.wrap (d+1)) U4
       cases mH:dY n f aK (IntKind.i64.wrap (d+1)) U4 with
       |out=>
        simp only [Q.bind,h1,h2,h3,h4,aF,aJ,bh,h5,fC,mH] at hG;cases aO hG.symm
       |ok a5 U5=>
        rw [mH] at xE;refine aS [0,1] (xE nofun) ?_;refine O _ (aM [0] ?_);clear O J;refine rG fun J O=>sH ?_;have Cs:=bT G (⟨#[125]⟩:BA) U5
        cases ot:bi (⟨#[125]⟩:BA) U5 with
        |out=>
         simp only [Q.bind,h1,h2,h3,h4,aF,aJ,bh,h5,fC,mH,ot] at hG;cases aO hG.symm
        |ok a6 U6=>
         rw [ot] at Cs;refine aS [0,1] (Cs nofun) ?_;refine O _ ?_;clear O J;simp only [Q.bind,h1,h2,h3,h4,aF,aJ,bh,h5,fC,mH,ot] at hG;subst hG;exact lF [0,1] []
     refine ac (rG fun J O=>sH ?_);have lw:=bT G (⟨#[125]⟩:BA) U3
     cases fC:bi (⟨#[125]⟩:BA) U3 with
     |out=>
      simp only [Q.bind,h1,h2,h3,h4,aF,aJ,bh,h5,fC] at hG;cases aO hG.symm
     |ok a4 U4=>
      rw [fC] at lw;refine aS [0,1] (lw nofun) ?_;refine O _ ?_;clear O J;simp only [Q.bind,h1,h2,h3,h4,aF,aJ,bh,h5,fC] at hG;subst hG;exact lF [0,1] []
 refine rz [0,2,4,7,8,13,149] ?_;refine cQ rfl (fun h5=>?_) fun h5=>?_
 ·refine rS fun J O=>?_
  refine aS [4,5] (Nw G (.mk ap name proc args cond ao aK)) ?_
  refine sH ?_
  obtain ⟨X1,gj⟩:∃Z0,aT W (bJ false false false true true false (.mk ap name proc args cond ao aK))=Z0:=⟨_,rfl⟩;rw [gj] at hG;refine aS [0,1] (bm G rfl gj) ?_;refine O _ (aM [0,2,4] ?_);clear O J;refine rS fun J O=>sH ?_;have bB:=k0 G hI n cond X1
  cases aF:gI n cond X1 with
  |out=>
   simp only [Q.bind,h1,h2,h3,h4,h5,aF] at hG;cases aO hG.symm
  |ok a1 U1=>
   rw [aF] at bB;have qU:=k_ aF;refine aS [0,1] (bB nofun) ?_;refine sZ ?_;refine sZ ?_
   refine sH ?_
   have a_:=bT G (((⟨#[119,104,105,108,101,32]⟩:BA)++a1)++(⟨#[32,123]⟩:BA)) U1
   cases aJ:bi (((⟨#[119,104,105,108,101,32]⟩:BA)++a1)++(⟨#[32,123]⟩:BA)) U1 with
   |out=>
    simp only [Q.bind,h1,h2,h3,h4,h5,aF,aJ] at hG;cases aO hG.symm
   |ok a2 U2=>
    rw [aJ] at a_;refine aS [0,1] (a_ nofun) ?_;refine O _ (aM [0,2,4] ?_);clear O J;refine rS fun J O=>sH ?_;have cz:=ih f (nR _) ao (IntKind.i64.wrap (d+1)) U2
    cases bh:dY n f ao (IntKind.i64.wrap (d+1)) U2 with
    |out=>
     simp only [Q.bind,h1,h2,h3,h4,h5,aF,aJ,bh] at hG;cases aO hG.symm
    |ok a3 U3=>
     rw [bh] at cz;refine aS [0,1] (cz nofun) ?_;refine O _ (aM [0] ?_);clear O J;refine rG fun J O=>sH ?_;have lw:=bT G (⟨#[125]⟩:BA) U3
     cases fC:bi (⟨#[125]⟩:BA) U3 with
     |out=>
      simp only [Q.bind,h1,h2,h3,h4,h5,aF,aJ,bh,fC] at hG;cases aO hG.symm
     |ok a4 U4=>
      rw [fC] at lw;refine aS [0,1] (lw nofun) ?_;refine O _ ?_;clear O J;simp only [Q.bind,h1,h2,h3,h4,h5,aF,aJ,bh,fC] at hG;subst hG;exact lF [0,1] []
 refine aa (rz [0,4,7,13,174] ?_);refine cQ rfl (fun h6=>?_) fun h6=>?_
 ·cases hn:bj ap with
  |false=>simp only [h1,h2,h3,h4,h5,h6,hn,bz] at hG;cases aO hG.symm
  |true=>
  have hz:=oT hn;simp only [hn] at hG;refine ac (aj rfl ?_);refine rS fun J O=>aS [4] (KQ G (.mk ap name proc args cond ao aK)) ?_
  refine sH ?_
  obtain ⟨X1,gj⟩:∃Z0,aT W (bJ false false false true false false (.mk ap name proc args cond ao aK))=Z0:=⟨_,rfl⟩;rw [gj] at hG;refine aS [0,1] (bm G rfl gj) ?_;refine O _ (aM [0,4] ?_);clear O J;refine (dW F3 [10] (fun i=>Nat.beq i 2) (by kernel_rfl) fun J O=>sZ ?_)
  refine sH ?_
  have bB:=k0 G hI n cond X1
  cases aF:gI n cond X1 with
  |out=>
   simp only [Q.bind,h1,h2,h3,h4,h5,h6,aF] at hG;cases aO hG.symm
  |ok a1 U1=>
   rw [aF] at bB;have qU:=k_ aF;refine aS [0,1] (bB nofun) ?_;refine sZ ?_;refine sZ ?_
   refine sH ?_
   have a_:=bT G (((ap++(⟨#[32]⟩:BA))++a1)++(⟨#[59]⟩:BA)) U1
   cases aJ:bi (((ap++(⟨#[32]⟩:BA))++a1)++(⟨#[59]⟩:BA)) U1 with
   |out=>
    simp only [Q.bind,h1,h2,h3,h4,h5,h6,aF,aJ] at hG;cases aO hG.symm
   |ok a2 U2=>
    rw [aJ] at a_;refine aS [0,1] (a_ nofun) ?_;refine O _ ?_;clear O J;simp only [Q.bind,h1,h2,h3,h4,h5,h6,aF,aJ,bz] at hG;subst hG;exact lF [0,1] []
 refine rG fun J O=>O _ (aM [0,4,7,13,174] ?_);clear O J;refine cQ rfl (fun h7=>?_) fun h7=>?_
 ·cases hn:bj ap with
  |false=>simp only [h1,h2,h3,h4,h5,h6,h7,hn,bz] at hG;cases aO hG.symm
  |true=>
  have hz:=oT hn;simp only [hn] at hG;refine rS fun J O=>aS [4] (KQ G (.mk ap name proc args cond ao aK)) ?_
  refine sH ?_
  obtain ⟨X1,gj⟩:∃Z0,aT W (bJ false false false true false false (.mk ap name proc args cond ao aK))=Z0:=⟨_,rfl⟩;rw [gj] at hG;refine aS [0,1] (bm G rfl gj) ?_;refine O _ (aM [0,4] ?_);clear O J;refine (dW F3 [10] (fun i=>Nat.beq i 2) (by kernel_rfl) fun J O=>sZ ?_)
  refine sH ?_
  have bB:=k0 G hI n cond X1
  cases aF:gI n cond X1 with
  |out=>
   simp only [Q.bind,h1,h2,h3,h4,h5,h6,h7,aF] at hG;cases aO hG.symm
  |ok a1 U1=>
   rw [aF] at bB;have qU:=k_ aF;refine aS [0,1] (bB nofun) ?_;refine sZ ?_;refine sZ ?_
   refine sH ?_
   have a_:=bT G (((ap++(⟨#[32]⟩:BA))++a1)++(⟨#[59]⟩:BA)) U1
   cases aJ:bi (((ap++(⟨#[32]⟩:BA))++a1)++(⟨#[59]⟩:BA)) U1 with
   |out=>
    simp only [Q.bind,h1,h2,h3,h4,h5,h6,h7,aF,aJ] at hG;cases aO hG.symm
   |ok a2 U2=>
    rw [aJ] at a_;refine aS [0,1] (a_ nofun) ?_;refine O _ ?_;clear O J;simp only [Q.bind,h1,h2,h3,h4,h5,h6,h7,aF,aJ,bz] at hG;subst hG;exact lF [0,1] []
 refine rz [0,4,194] ?_;refine cQ rfl (fun h8=>?_) fun h8=>?_
 ·refine rS fun J O=>?_
  refine aS [] (RB G (.mk ap name proc args cond ao aK)) ?_
  refine sH ?_
  obtain ⟨X1,gj⟩:∃Z0,aT W (bJ true false false false false false (.mk ap name proc args cond ao aK))=Z0:=⟨_,rfl⟩;rw [gj] at hG;refine aS [0,1] (bm G rfl gj) ?_;refine O _ (aM [0,4] ?_);clear O J;refine rG fun J O=>sH ?_
  cases hn:bj name with
  |false=>
   simp only [Q.bind,h1,h2,h3,h4,h5,h6,h7,h8,hn] at hG;cases aO hG.symm
  |true=>
   have hz:=oT hn;obtain ⟨X2,sU⟩:∃Z0,aT X1 (aC name)=Z0:=⟨_,rfl⟩;rw [sU] at hG;refine aS [0,1] (df G hz sU) ?_;refine sZ ?_;refine sZ ?_
   refine sH ?_
   have bB:=bT G (((⟨#[114,101,97,100,32]⟩:BA)++name)++(⟨#[59]⟩:BA)) X2
   cases aF:bi (((⟨#[114,101,97,100,32]⟩:BA)++name)++(⟨#[59]⟩:BA)) X2 with
   |out=>
    simp only [Q.bind,h1,h2,h3,h4,h5,h6,h7,h8,hn,aF] at hG;cases aO hG.symm
   |ok a1 U1=>
    rw [aF] at bB;refine aS [0,1] (bB nofun) ?_;refine O _ ?_;clear O J;simp only [h1,h2,h3,h4,h5,h6,h7,h8,hn,aF,bz] at hG;subst hG;exact lF [0,1] []
 refine rG fun J O=>sH ?_;obtain ⟨X1,gj⟩:∃Z0,aT W false=Z0:=⟨_,rfl⟩;rw [gj] at hG;refine aS [0,1] (bm G rfl gj) ?_;refine O _ ?_;clear O J;simp only [h1,h2,h3,h4,h5,h6,h7,h8,bz] at hG;subst hG;exact lF [0,1] []
theorem CA(f:Nat)(ih:∀m,m<=f->zT G n m):vA G n (f+1):=by
 intro l d W aO;obtain ⟨r,hG⟩:∃r,dY n (f+1) l d W=r:=⟨_,rfl⟩;rw [hG] at aO ⊢;simp only [dY] at hG
 cases hc:(cV W.inn&&cV l.length) with
 |false=>simp only [hc] at hG;cases aO hG.symm
 |true=>
 simp only [hc] at hG;simp only [cV,bE,dE] at hc;obtain ⟨OJ,iQ⟩:=hc
 have sG:IntKind.i64.wrap ((W.inn:Int)+1)=((W.inn+1:Nat):Int):=by rw [aH (by omega) (by omega)];omega
 refine aZ b8 (N:=36) Tryz.func79 rfl (by rfl) ((by cases r <;> simp [vv,wr] at aO ⊢)) rfl ?_
 refine rz [0,1,2] ?_;rw [sG];refine aa (rz [0,2,15,16,17] ?_);refine af ?_
 refine aB (fun k Y=>∃(dn e:List Sm) (V:WS),l=dn++e/\k<=f/\((jp n k e d V).bind fun _ V=>match ox V.inn with
    |true=>.ok () ⟨V.b,V.inn - 1,V.ok,V.n⟩
    |false=>.out)=r/\Y=⟨[(0,.box 0 0),(2,.d (aD d)),(15,.d (.sl 7 (bF l))),(16,.d (aD (bF l).length)),(17,.d (aD dn.length))],[.box 167 [.box 0 0,.acc 1,.d (aD V.inn),.d (.s (.bool V.ok)),.d (aD V.n)],.acc 5 1 (jn V.b)]⟩) (f) (⟨[],l,_,rfl,nR _,hG,rfl⟩) ?_
 clear hG;rintro k Y ⟨dn,e,V,hl,hk,hG,rfl⟩
 have vC:(bF l).length=dn.length+e.length:=by rw [s_,hl,lA]
 have Gk:dn.length+e.length<=1073741824:=by rw [hl,lA] at iQ;exact iQ
 refine rz [0,2,15,16,17,18] ?_;refine aa (cQ rfl (fun h1=>?_) fun h1=>?_)
 ·have h':=oT h1
  rw [vC] at h'
  cases e with
  |nil=>simp only [lN] at h';omega
  |cons x e2=>
  obtain ⟨ap,name,proc,args,cond,ao,aK⟩:=x
  cases k with
  |zero=>simp only [jp,Q.bind] at hG;cases aO hG.symm
  |succ m=>
  subst hl;simp only [lC] at Gk;simp only [jp] at hG;refine ac (aa ?_);refine af (rS fun J O=>oN (eI _ (aI (Do rfl) ?_)));refine O _ (aM [0,2,7,15,16,17] ?_);clear O J;refine rS fun J O=>sH ?_;obtain ⟨X1,gj⟩:∃Z0,cU V d=Z0:=⟨_,rfl⟩;rw [gj] at hG;refine aS [0,1] (vw G gj) ?_;refine O _ (aM [0,2,7,15,16,17,23] ?_);clear O J;refine cQ rfl (fun h2=>?_) fun h2=>?_
  ·refine rG fun J O=>sH ?_
   have bB:=ih m (by omega) (.mk ap name proc args cond ao aK) d X1
   cases aF:pA n m (.mk ap name proc args cond ao aK) d X1 with
   |out=>
    simp only [Q.bind,h2,aF] at hG;cases aO hG.symm
   |ok a1 U1=>
    rw [aF] at bB;refine aS [0,1] (bB nofun) ?_;refine O _ (aM [0,2,15,16,17] ?_);clear O J;refine rG fun J O=>O _ ?_;clear O J;simp only [Q.bind,h2,aF] at hG;exact ⟨m,nS m,_,aG (L:=[0,1]) (slots:=[0,2,15,16,17]) rfl rfl rfl rfl rfl,dn++[.mk ap name proc args cond ao aK],e2,_,by simp,by omega,hG,by rw [lA,aH (by omega) (by omega)];rfl⟩
  refine ac (rG fun J O=>O _ ?_);clear O J;simp only [Q.bind,h2] at hG;exact ⟨m,nS m,_,aG (L:=[0,1]) (slots:=[0,2,15,16,17]) rfl rfl rfl rfl rfl,dn++[.mk ap name proc args cond ao aK],e2,_,by simp,by omega,hG,by rw [lA,aH (by omega) (by omega)];rfl⟩
 have h':=oF h1;rw [vC] at h';obtain rfl:e=[]:=lE (by omega)
 cases k with
 |zero=>simp only [jp,Q.bind] at hG;cases aO hG.symm
 |succ m=>
 simp only [jp,Q.bind] at hG
 cases OJ:ox V.inn with
 |false=>simp only [OJ] at hG;cases aO hG.symm
 |true=>
 simp only [OJ] at hG;simp only [ox,bE,dE] at OJ;refine aA ?_;refine aq [0] rfl rfl ?_;refine rG fun J O=>O _ ?_;clear O J;rw [show IntKind.i64.wrap ((V.inn:Int) - 1)=((V.inn - 1:Nat):Int) from by rw [aH (by omega) (by omega)];omega];subst hG;exact lF [0,1] []
theorem xK(hI:kY G):∀f,vA G n f/\zT G n f:=by
 intro f
 induction f using Nat.strongRecOn with
 |_ f ih=>
  cases f with
  |zero=>exact ⟨fun l d W h=>absurd (by simp only [dY]) h,fun s d W h=>absurd (by simp only [pA]) h⟩
  |succ f=>exact ⟨CA G n f fun m hm=>(ih m (by omega)).2,Ep G n hI f fun m hm=>(ih m (by omega)).1⟩
end
end
inductive TR where
 |ok (s:BA)
 |bad
 |out
def pB:List BA->WS->Q Unit
 |[],W=>.ok () W
 |v::r,W=>match bj v with
  |true=>(bi (((⟨#[118,97,114,32]⟩:BA)++v)++(⟨#[59]⟩:BA)) (aT W (aC v))).bind fun _ V=>pB r V
  |false=>.out
def lb:List Ar->WS->Q Unit
 |[],W=>.ok () W
 |⟨nm,sz⟩::r,W=>match bj nm&&jX sz with
  |true=>(bi (((((⟨#[97,114,114,97,121,32]⟩:BA)++nm)++(⟨#[91]⟩:BA))++dH sz)++(⟨#[93,59]⟩:BA)) (aT (aT W (decide (sz≥0)&&decide (sz<=1099511627776))) (aC nm))).bind fun _ V=>lb r V
  |false=>.out
def tz:List BA->WS->Q Unit
 |[],W=>.ok () W
 |v::r,W=>match bj v with
  |true=>tz r (aT W (aC v))
  |false=>.out
def fJ(n f:Nat):List Pc->WS->Q Unit
 |[],W=>.ok () W
 |⟨nm,ps,bd,rt⟩::r,W=>match cV ps.length with
  |true=>(tz ps W).bind fun _ V=>match bj nm&&bj (bP ps (⟨#[44,32]⟩:BA)) with
   |true=>(bi (((((⟨#[112,114,111,99,32]⟩:BA)++nm)++(⟨#[40]⟩:BA))++bP ps (⟨#[44,32]⟩:BA))++(⟨#[41,32,123]⟩:BA)) (aT V (aC nm))).bind fun _ V=>(dY n f bd 1 V).bind fun _ V=>match cV V.inn with
    |true=>(cp n rt 1 1 ⟨V.b,V.inn+1,V.ok,V.n⟩).bind fun s V=>(bi (((⟨#[114,101,116,117,114,110,32]⟩:BA)++s)++(⟨#[59]⟩:BA)) V).bind fun _ V=>match ox V.inn with
     |true=>(bi (⟨#[125]⟩:BA) ⟨V.b,V.inn - 1,V.ok,V.n⟩).bind fun _ V=>fJ n f r V
     |false=>.out
    |false=>.out
   |false=>.out
  |false=>.out
def lc(n f:Nat)(m:List Sm)(W:WS):Q Unit:=(bi (⟨#[109,97,105,110,32,123]⟩:BA) W).bind fun _ V=>(dY n f m 1 V).bind fun _ V=>bi (⟨#[125]⟩:BA) V
def gi:Q Unit->TR
 |.out=>.out
 |.ok _ V=>match V.ok with
  |true=>match decide (((jn V.b).length:Int)>4000) with
   |true=>.bad
   |false=>.ok V.b
  |false=>.bad
def W00:WS:=⟨⟨#[]⟩,0,true,0⟩
def j9(n f:Nat)(p:Pg):TR:=match (cV p.vars.length&&cV p.arrays.length)&&cV p.procs.length with
 |true=>gi ((pB p.vars W00).bind fun _ V=>(lb p.arrays V).bind fun _ V=>(fJ n f p.procs V).bind fun _ V=>lc n f p.main V)
 |false=>.out
def Er(fr:Bool)(i j:Nat)(W:WS):Row:=.box 167 [match fr with
 |true=>.box i 0
 |false=>.d (.s (.pointer none)),.acc j,.d (aD W.inn),.d (.s (.bool W.ok)),.d (aD W.n)]
theorem sD(G:Glob){W V:WS}{c c':Bool}(h:c'=c)(hW:aT W c=V):Spec Tryz.prog G 76 [.box 0 0,.d (.s (.bool c'))] (KL W) (.ret (.tup [])) (KL V):=by
 subst h hW;exact vu G W c'
theorem iC(G:Glob){W V:WS}{s:BA}(hs:s.size<=1073741824)(hW:aT W (aC s)=V):Spec Tryz.prog G 75 [.box 0 0,.d (aW s)] (KL W) (.ret (.d (aW s))) (KL V):=by
 subst hW;exact Em G W s (by omega)
theorem KT{s:BA}{W V:WS}{a:Unit}(h:bi s W=.ok a V):V.b.data.toList≠[]:=by
 unfold bi at h
 split at h
 ·simp only [Q.ok.injEq,true_and] at h
  rw [<- h]
  simp [wq,CN]
 cases h
theorem gP{n:Int}(h:jX n=true):(dH n).size<=21:=by
 simp only [jX,bE,dE] at h;have:=Lib.itoa_length_le n h.1 h.2
 show (List.toArray _).size<=21
 simpa using this
theorem fL{l d e:List Ar}{x:Ar}(h:l=d++x::e):(l.map Ar.cs)[((d.length:Nat):Int).toNat]? = some x.cs:=by
 subst h;rw [Int.toNat_natCast];simp
theorem eM{l d e:List Pc}{x:Pc}(h:l=d++x::e):(l.map Pc.cs)[((d.length:Nat):Int).toNat]? = some x.cs:=by
 subst h;rw [Int.toNat_natCast];simp
theorem kH{l d e:List BA}{x:BA}(h:l=d++x::e):(strs l)[((d.length:Nat):Int).toNat]? = some [aW x]:=by
 subst h;rw [Int.toNat_natCast];simp [strs]
theorem KU(G:Glob)(W:WS):Spec Tryz.prog G 81 [.box 0 0] (wr W) (.ret (.d (aD (jn W.b).length))) (wr W):=by
 refine sA (N:=8) Tryz.func81 ?_;refine aa (rG fun J O=>O _ ?_);clear O J;refine aa (rG fun J O=>O _ (aM [2] ?_));clear O J;refine ae ?_;exact lI [0,1] _
def Tt(t:Nat->TypeId)(u:Nat->Value):TR->PV
 |.ok s=>.tup [.d (aW s),.d (.s .nilIface)]
 |.bad=>.tup [.d (aW ⟨#[]⟩),.d (.s (.iface (t 1) (u 1)))]
 |.out=>.tup []
def KV:Plan:=(.take 0 (.take 1 (.take 2 (.load 3 (.take 7 (.load 8 (.one 4 (.take 5 (.take 6 (.one 9 (.take 10 (.take 11 (.one 12 .done)))))))))))))
def RC:Plan:=(.take 0 (.take 1 (.take 2 (.load 3 (.take 7 (.load 8 (.one 4 (.take 5 (.take 6 (.one 9 (.take 10 (.take 11 (.one 12 .done)))))))))))))
def KW:Plan:=(.load 0 (.take 1 (.take 2 .done)))
theorem xi(t:Nat->TypeId)(u:Nat->Value)(hI:kY (GV t u))(n f:Nat)(p:Pg):j9 n f p≠.out->Spec Tryz.prog (GV t u) 22 [.d (.agg p.cs)] [] (.ret (Tt t u (j9 n f p))) []:=by
 intro aO;obtain ⟨r,hG⟩:∃r,j9 n f p=r:=⟨_,rfl⟩;rw [hG] at aO ⊢;obtain ⟨az,ah,procs,main⟩:=p
 unfold j9 at hG
 cases hc:((cV az.length&&cV ah.length)&&cV procs.length) with
 |false=>simp only [hc] at hG;cases aO hG.symm
 |true=>
 simp only [hc] at hG;simp only [cV,bE,dE] at hc;obtain ⟨⟨Hx,HX⟩,K1⟩:=hc;refine sA (N:=146) Tryz.func22 ?_;refine rz [1] ?_;refine rz [1,4] ?_;refine cr 1 1 5 1 rfl rfl rfl rfl ?_;refine aq [1,4] rfl rfl ?_;refine bQ (fun Z=>∃(fr:Bool) (V:WS),gi ((lb ah V).bind fun _ V=>(fJ n f procs V).bind fun _ V=>lc n f main V)=r/\Z=⟨[(1,.box 0 0),(4,.box 1 0)],[.box 28 [.d (.sl 1 (strs az)),.d (.sl 2 (ah.map Ar.cs)),.d (.sl 7 (procs.map Pc.cs)),.d (.sl 7 (bF main))],Er fr 1 2 V,.acc 5 1 (jn V.b)]⟩) ?_ ?_
 ·refine rz [1,4,16,17,18] ?_;refine af ?_
  refine aB (fun k Y=>∃(d e:List BA) (fr:Bool) (V:WS),k=e.length/\az=d++e/\gi ((pB e V).bind fun _ V=>(lb ah V).bind fun _ V=>(fJ n f procs V).bind fun _ V=>lc n f main V)=r/\Y=⟨[(1,.box 0 0),(4,.box 1 0),(16,.d (.sl 1 (strs az))),(17,.d (aD ((strs az)).length)),(18,.d (aD d.length))],[.box 28 [.d (.sl 1 (strs az)),.d (.sl 2 (ah.map Ar.cs)),.d (.sl 7 (procs.map Pc.cs)),.d (.sl 7 (bF main))],Er fr 1 2 V,.acc 5 1 (jn V.b)]⟩) (az.length) (⟨[],az,false,W00,rfl,rfl,hG,rfl⟩) ?_;clear hG;rintro k Y ⟨d,e,fr,V,rfl,hl,hG,rfl⟩
  have vC:(strs az).length=d.length+e.length:=by rw [ag,hl,lA]
  have Gk:d.length+e.length<=1073741824:=by rw [hl,lA] at Hx;exact Hx
  cases fr
  all_goals
   refine rz [1,4,16,17,18,19] ?_;refine aa (cQ rfl (fun h1=>?_) fun h1=>?_)
   ·have h':=oT h1
    rw [vC] at h'
    cases e with
    |nil=>simp only [lN] at h';omega
    |cons nm e3=>
    simp only [lC] at Gk;simp only [pB] at hG
    cases eV:bj nm with
    |false=>simp only [eV,Q.bind,gi] at hG;cases aO hG.symm
    |true=>
    simp only [eV] at hG;have hz:=oT eV;refine ac (aa ?_);refine af (rS fun J O=>oN (eI _ (aI (kH hl) ?_)));refine O _ (aM [1,4,6,16,17,18] ?_);clear O J;refine rG fun J O=>sH ?_;obtain ⟨X1,gj⟩:∃Z0,aT V (aC nm)=Z0:=⟨_,rfl⟩;rw [gj] at hG
    first
     |refine aS [1,2] (df (GV t u) hz gj) ?_
     |refine aS [1,2] (iC (GV t u) hz gj) ?_
    refine sZ ?_;refine sZ ?_
    refine sH ?_
    cases aF:bi (((⟨#[118,97,114,32]⟩:BA)++nm)++(⟨#[59]⟩:BA)) X1 with
    |out=>
     simp only [Q.bind,gi,aF] at hG;cases aO hG.symm
    |ok a1 U1=>
     have bB:=bT (GV t u) (((⟨#[118,97,114,32]⟩:BA)++nm)++(⟨#[59]⟩:BA)) X1;rw [aF] at bB;have F4:=iB (GV t u) (((⟨#[118,97,114,32]⟩:BA)++nm)++(⟨#[59]⟩:BA)) X1;rw [aF] at F4
     first
      |refine aS [1,2] (bB nofun) ?_
      |refine aS [1,2] (F4 nofun) ?_
     simp only [aF,Q.bind] at hG;refine O _ (aM [1,4,16,17,18] ?_);clear O J;refine rG fun J O=>O _ ?_;clear O J;exact ⟨_,nS _,_,aG (L:=[0,1,2]) (slots:=[1,4,16,17,18]) rfl rfl rfl rfl rfl,d++[nm],e3,true,_,rfl,by rw [hl];simp,hG,by rw [lA,aH (by omega) (by omega)];rfl⟩
   have h':=oF h1;rw [vC] at h';obtain rfl:e=[]:=lE (by omega);simp only [pB,Q.bind] at hG;refine aA ?_
   first
    |exact ⟨_,ak (slots:=[1,4]) rfl rfl,true,_,hG,rfl⟩
    |exact ⟨_,ak (slots:=[1,4]) rfl rfl,false,_,hG,rfl⟩
 clear hG;rintro Z ⟨fr,V,hG,rfl⟩;refine bQ (fun Z=>∃(fr:Bool) (V:WS),gi ((fJ n f procs V).bind fun _ V=>lc n f main V)=r/\Z=⟨[(1,.box 0 0),(4,.box 1 0)],[.box 28 [.d (.sl 1 (strs az)),.d (.sl 2 (ah.map Ar.cs)),.d (.sl 7 (procs.map Pc.cs)),.d (.sl 7 (bF main))],Er fr 1 2 V,.acc 5 1 (jn V.b)]⟩) ?_ ?_
 ·refine rz [1,4,31,32,33] ?_;refine af ?_
  refine aB (fun k Y=>∃(d e:List Ar) (fr:Bool) (V:WS),k=e.length/\ah=d++e/\gi ((lb e V).bind fun _ V=>(fJ n f procs V).bind fun _ V=>lc n f main V)=r/\Y=⟨[(1,.box 0 0),(4,.box 1 0),(31,.d (.sl 2 (ah.map Ar.cs))),(32,.d (aD ((ah.map Ar.cs)).length)),(33,.d (aD d.length))],[.box 28 [.d (.sl 1 (strs az)),.d (.sl 2 (ah.map Ar.cs)),.d (.sl 7 (procs.map Pc.cs)),.d (.sl 7 (bF main))],Er fr 1 2 V,.acc 5 1 (jn V.b)]⟩) (ah.length) (⟨[],ah,fr,V,rfl,rfl,hG,rfl⟩) ?_;clear hG;rintro k Y ⟨d,e,fr,V,rfl,hl,hG,rfl⟩
  have vC:(ah.map Ar.cs).length=d.length+e.length:=by rw [lM,hl,lA]
  have Gk:d.length+e.length<=1073741824:=by rw [hl,lA] at HX;exact HX
  cases fr
  all_goals
   refine rz [1,4,31,32,33,34] ?_;refine aa (cQ rfl (fun h1=>?_) fun h1=>?_)
   ·have h':=oT h1
    rw [vC] at h'
    cases e with
    |nil=>simp only [lN] at h';omega
    |cons x e3=>
    obtain ⟨nm,sz⟩:=x;simp only [lC] at Gk;simp only [lb] at hG
    cases eV:(bj nm&&jX sz) with
    |false=>simp only [eV,Q.bind,gi] at hG;cases aO hG.symm
    |true=>
    simp only [eV] at hG;simp only [bE] at eV;have hz:=oT eV.1;have Ul:=eV.2;have hzt:=gP Ul;refine ac (aa ?_);refine af (rS fun J O=>oN (eI _ (aI (fL hl) ?_)));refine O _ (aM [1,4,8,31,32,33] ?_);clear O J;refine rS fun J O=>?_;refine ab (fun h2=>?_) (fun h2=>?_)
    ·refine sH ?_
     obtain ⟨X1,gj⟩:∃Z0,aT V (decide (sz≥0)&&decide (sz<=1099511627776))=Z0:=⟨_,rfl⟩;rw [gj] at hG
     first
      |refine aR [1,2] rfl rfl rfl (bm (GV t u) (by simp only [h2,bz]) gj) rfl rfl rfl rfl ?_
      |refine aR [1,2] rfl rfl rfl (sD (GV t u) (by simp only [h2,bz]) gj) rfl rfl rfl rfl ?_
     refine O _ (aM [1,4,8,31,32,33] ?_);clear O J;refine (dW KV [9,12] (fun i=>Nat.beq i 3) (by kernel_rfl) fun J O=>?_)
     refine sH ?_
     obtain ⟨X2,sU⟩:∃Z0,aT X1 (aC nm)=Z0:=⟨_,rfl⟩;rw [sU] at hG
     first
      |refine aS [1,2] (df (GV t u) hz sU) ?_
      |refine aS [1,2] (iC (GV t u) hz sU) ?_
     refine sZ ?_;refine sZ ?_;refine aS [] (hI sz Ul) ?_;refine sZ ?_;refine sZ ?_
     refine sH ?_
     cases aF:bi (((((⟨#[97,114,114,97,121,32]⟩:BA)++nm)++(⟨#[91]⟩:BA))++dH sz)++(⟨#[93,59]⟩:BA)) X2 with
     |out=>
      simp only [Q.bind,gi,aF] at hG;cases aO hG.symm
     |ok a1 U1=>
      have bB:=bT (GV t u) (((((⟨#[97,114,114,97,121,32]⟩:BA)++nm)++(⟨#[91]⟩:BA))++dH sz)++(⟨#[93,59]⟩:BA)) X2;rw [aF] at bB;have F4:=iB (GV t u) (((((⟨#[97,114,114,97,121,32]⟩:BA)++nm)++(⟨#[91]⟩:BA))++dH sz)++(⟨#[93,59]⟩:BA)) X2;rw [aF] at F4
      first
       |refine aS [1,2] (bB nofun) ?_
       |refine aS [1,2] (F4 nofun) ?_
      simp only [aF,Q.bind] at hG;refine O _ (aM [1,4,31,32,33] ?_);clear O J;refine rG fun J O=>O _ ?_;clear O J;exact ⟨_,nS _,_,aG (L:=[0,1,2]) (slots:=[1,4,31,32,33]) rfl rfl rfl rfl rfl,d++[⟨nm,sz⟩],e3,true,_,rfl,by rw [hl];simp,hG,by rw [lA,aH (by omega) (by omega)];rfl⟩
    refine sH ?_
    obtain ⟨X1,gj⟩:∃Z0,aT V (decide (sz≥0)&&decide (sz<=1099511627776))=Z0:=⟨_,rfl⟩;rw [gj] at hG
    first
     |refine aR [1,2] rfl rfl rfl (bm (GV t u) (by simp only [h2,bz]) gj) rfl rfl rfl rfl ?_
     |refine aR [1,2] rfl rfl rfl (sD (GV t u) (by simp only [h2,bz]) gj) rfl rfl rfl rfl ?_
    refine O _ (aM [1,4,8,31,32,33] ?_);clear O J;refine (dW KV [9,12] (fun i=>Nat.beq i 3) (by kernel_rfl) fun J O=>?_)
    refine sH ?_
    obtain ⟨X2,sU⟩:∃Z0,aT X1 (aC nm)=Z0:=⟨_,rfl⟩;rw [sU] at hG
    first
     |refine aS [1,2] (df (GV t u) hz sU) ?_
     |refine aS [1,2] (iC (GV t u) hz sU) ?_
    refine sZ ?_;refine sZ ?_;refine aS [] (hI sz Ul) ?_;refine sZ ?_;refine sZ ?_
    refine sH ?_
    cases aF:bi (((((⟨#[97,114,114,97,121,32]⟩:BA)++nm)++(⟨#[91]⟩:BA))++dH sz)++(⟨#[93,59]⟩:BA)) X2 with
    |out=>
     simp only [Q.bind,gi,aF] at hG;cases aO hG.symm
    |ok a1 U1=>
     have bB:=bT (GV t u) (((((⟨#[97,114,114,97,121,32]⟩:BA)++nm)++(⟨#[91]⟩:BA))++dH sz)++(⟨#[93,59]⟩:BA)) X2;rw [aF] at bB;have F4:=iB (GV t u) (((((⟨#[97,114,114,97,121,32]⟩:BA)++nm)++(⟨#[91]⟩:BA))++dH sz)++(⟨#[93,59]⟩:BA)) X2;rw [aF] at F4
     first
      |refine aS [1,2] (bB nofun) ?_
      |refine aS [1,2] (F4 nofun) ?_
     simp only [aF,Q.bind] at hG;refine O _ (aM [1,4,31,32,33] ?_);clear O J;refine rG fun J O=>O _ ?_;clear O J;exact ⟨_,nS _,_,aG (L:=[0,1,2]) (slots:=[1,4,31,32,33]) rfl rfl rfl rfl rfl,d++[⟨nm,sz⟩],e3,true,_,rfl,by rw [hl];simp,hG,by rw [lA,aH (by omega) (by omega)];rfl⟩
   have h':=oF h1;rw [vC] at h';obtain rfl:e=[]:=lE (by omega);simp only [lb,Q.bind] at hG;refine aA ?_
   first
    |exact ⟨_,ak (slots:=[1,4]) rfl rfl,true,_,hG,rfl⟩
    |exact ⟨_,ak (slots:=[1,4]) rfl rfl,false,_,hG,rfl⟩
 clear hG;rintro Z ⟨fr,V,hG,rfl⟩;refine bQ (fun Z=>∃(fr:Bool) (V:WS),gi (lc n f main V)=r/\Z=⟨[(1,.box 0 0),(4,.box 1 0)],[.box 28 [.d (.sl 1 (strs az)),.d (.sl 2 (ah.map Ar.cs)),.d (.sl 7 (procs.map Pc.cs)),.d (.sl 7 (bF main))],Er fr 1 2 V,.acc 5 1 (jn V.b)]⟩) ?_ ?_
 ·refine rz [1,4,62,63,64] ?_;refine af ?_
  refine aB (fun k Y=>∃(d e:List Pc) (fr:Bool) (V:WS),k=e.length/\procs=d++e/\gi ((fJ n f e V).bind fun _ V=>lc n f main V)=r/\Y=⟨[(1,.box 0 0),(4,.box 1 0),(62,.d (.sl 7 (procs.map Pc.cs))),(63,.d (aD ((procs.map Pc.cs)).length)),(64,.d (aD d.length))],[.box 28 [.d (.sl 1 (strs az)),.d (.sl 2 (ah.map Ar.cs)),.d (.sl 7 (procs.map Pc.cs)),.d (.sl 7 (bF main))],Er fr 1 2 V,.acc 5 1 (jn V.b)]⟩) (procs.length) (⟨[],procs,fr,V,rfl,rfl,hG,rfl⟩) ?_;clear hG;rintro k Y ⟨d,e,fr,V,rfl,hl,hG,rfl⟩
  have vC:(procs.map Pc.cs).length=d.length+e.length:=by rw [lM,hl,lA]
  have Gk:d.length+e.length<=1073741824:=by rw [hl,lA] at K1;exact K1
  cases fr
  all_goals
   refine rz [1,4,62,63,64,65] ?_;refine aa (cQ rfl (fun h1=>?_) fun h1=>?_)
   ·have h':=oT h1
    rw [vC] at h'
    cases e with
    |nil=>simp only [lN] at h';omega
    |cons x e3=>
    obtain ⟨nm,ps,bd,⟨o1,n1,m1,l1⟩⟩:=x;simp only [lC] at Gk;simp only [fJ] at hG
    cases NF:cV ps.length with
    |false=>simp only [NF,Q.bind,gi] at hG;cases aO hG.symm
    |true=>
    simp only [NF] at hG;have NF:=oT NF;refine ac (aa ?_);refine af (rS fun J O=>oN (eI _ (aI (eM hl) ?_)));refine O _ (aM [1,4,10,62,63,64] ?_);clear O J;refine aa (rz [1,4,10,62,63,64,69,70,71] ?_);refine af ?_
    refine aB (fun k Y=>∃(d2 e2:List BA) (fr:Bool) (V2:WS),k=e2.length/\ps=d2++e2/\gi (((tz e2 V2).bind fun _ V=>match bj nm&&bj (bP ps (⟨#[44,32]⟩:BA)) with
       |true=>(bi (((((⟨#[112,114,111,99,32]⟩:BA)++nm)++(⟨#[40]⟩:BA))++bP ps (⟨#[44,32]⟩:BA))++(⟨#[41,32,123]⟩:BA)) (aT V (aC nm))).bind fun _ V=>(dY n f bd 1 V).bind fun _ V=>match cV V.inn with
        |true=>(cp n (.mk o1 n1 m1 l1) 1 1 ⟨V.b,V.inn+1,V.ok,V.n⟩).bind fun s V=>(bi (((⟨#[114,101,116,117,114,110,32]⟩:BA)++s)++(⟨#[59]⟩:BA)) V).bind fun _ V=>match ox V.inn with
         |true=>(bi (⟨#[125]⟩:BA) ⟨V.b,V.inn - 1,V.ok,V.n⟩).bind fun _ V=>fJ n f e3 V
         |false=>.out
        |false=>.out
       |false=>.out).bind fun _ V=>lc n f main V)=r/\Y=⟨[(1,.box 0 0),(4,.box 1 0),(10,.box 3 0),(62,.d (.sl 7 (procs.map Pc.cs))),(63,.d (aD (procs.map Pc.cs).length)),(64,.d (aD d.length)),(69,.d (.sl 1 (strs ps))),(70,.d (aD ((strs ps)).length)),(71,.d (aD d2.length))],[.box 28 [.d (.sl 1 (strs az)),.d (.sl 2 (ah.map Ar.cs)),.d (.sl 7 (procs.map Pc.cs)),.d (.sl 7 (bF main))],Er fr 1 2 V2,.acc 5 1 (jn V2.b),.box 159 [.d (aW nm),.d (.sl 1 (strs ps)),.d (.sl 7 (bF bd)),.d (aW o1),.d (aD n1),.d (aW m1),.d (.sl 4 (bR l1))]]⟩) (ps.length) ((by first|exact ⟨[],ps,true,V,rfl,rfl,hG,rfl⟩|exact ⟨[],ps,false,V,rfl,rfl,hG,rfl⟩)) ?_
    clear hG;rintro k Y ⟨d2,e2,fr,V2,rfl,du,hG,rfl⟩
    have dI:(strs ps).length=d2.length+e2.length:=by rw [ag,du,lA]
    have fK:d2.length+e2.length<=1073741824:=by rw [du,lA] at NF;exact NF
    cases fr
    all_goals
     refine rz [1,4,10,62,63,64,69,70,71,72] ?_;refine aa (cQ rfl (fun h2=>?_) fun h2=>?_)
     ·have h':=oT h2
      rw [dI] at h'
      cases e2 with
      |nil=>simp only [lN] at h';omega
      |cons x e4=>
      simp only [lC] at fK;simp only [tz] at hG
      cases eV:bj x with
      |false=>simp only [eV,Q.bind,gi] at hG;cases aO hG.symm
      |true=>
      simp only [eV] at hG;have hz:=oT eV;refine ac (aa ?_);refine af (rS fun J O=>oN (eI _ (aI (kH du) ?_)));refine O _ (aM [1,4,10,12,62,63,64,69,70,71] ?_);clear O J;refine rG fun J O=>sH ?_;obtain ⟨X1,gj⟩:∃Z0,aT V2 (aC x)=Z0:=⟨_,rfl⟩;rw [gj] at hG
      first
       |refine aS [1,2] (df (GV t u) hz gj) ?_
       |refine aS [1,2] (iC (GV t u) hz gj) ?_
      refine O _ (aM [1,4,10,62,63,64,69,70,71] ?_);clear O J;refine rG fun J O=>O _ ?_;clear O J
      first
       |exact ⟨_,nS _,_,aG (L:=[0,1,2,3]) (slots:=[1,4,10,62,63,64,69,70,71]) rfl rfl rfl rfl rfl,d2++[x],e4,true,_,rfl,by rw [du];simp,hG,by rw [lA,aH (by omega) (by omega)];rfl⟩
       |exact ⟨_,nS _,_,aG (L:=[0,1,2,3]) (slots:=[1,4,10,62,63,64,69,70,71]) rfl rfl rfl rfl rfl,d2++[x],e4,false,_,rfl,by rw [du];simp,hG,by rw [lA,aH (by omega) (by omega)];rfl⟩
     have h':=oF h2;rw [dI] at h';obtain rfl:e2=[]:=lE (by omega);simp only [tz,Q.bind] at hG
     cases eV:(bj nm&&bj (bP ps (⟨#[44,32]⟩:BA))) with
     |false=>simp only [eV,gi] at hG;cases aO hG.symm
     |true=>
     simp only [eV] at hG;simp only [bE] at eV;have hz:=oT eV.1;have ZT:=oT eV.2;refine aA ?_;refine aq [1,4,10,62,63,64] rfl rfl ?_;refine aa ((dW RC [9,12] (fun i=>Nat.beq i 3) (by kernel_rfl) fun J O=>?_))
     refine sH ?_
     obtain ⟨X1,gj⟩:∃Z0,aT V2 (aC nm)=Z0:=⟨_,rfl⟩;rw [gj] at hG
     first
      |refine aS [1,2] (df (GV t u) hz gj) ?_
      |refine aS [1,2] (iC (GV t u) hz gj) ?_
     refine sZ ?_;refine sZ ?_
     refine aR [] rfl rfl rfl (jm (GV t u) ps _ ZT (by omega)) rfl rfl rfl rfl ?_;refine sZ ?_;refine sZ ?_
     refine sH ?_
     cases aF:bi (((((⟨#[112,114,111,99,32]⟩:BA)++nm)++(⟨#[40]⟩:BA))++bP ps (⟨#[44,32]⟩:BA))++(⟨#[41,32,123]⟩:BA)) X1 with
     |out=>
      simp only [gi,aF] at hG;cases aO hG.symm
     |ok a1 U1=>
      have bB:=bT (GV t u) (((((⟨#[112,114,111,99,32]⟩:BA)++nm)++(⟨#[40]⟩:BA))++bP ps (⟨#[44,32]⟩:BA))++(⟨#[41,32,123]⟩:BA)) X1;rw [aF] at bB;have F4:=iB (GV t u) (((((⟨#[112,114,111,99,32]⟩:BA)++nm)++(⟨#[40]⟩:BA))++bP ps (⟨#[44,32]⟩:BA))++(⟨#[41,32,123]⟩:BA)) X1;rw [aF] at F4
      first
       |refine aS [1,2] (bB nofun) ?_
       |refine aS [1,2] (F4 nofun) ?_
      simp only [aF] at hG;refine O _ (aM [1,4,10,62,63,64] ?_);clear O J;refine rS fun J O=>sH ?_;have a_:=(xK (GV t u) n hI f).1 bd 1 U1
      cases aJ:dY n f bd 1 U1 with
      |out=>
       simp only [gi,aJ] at hG;cases aO hG.symm
      |ok a2 U2=>
       rw [aJ] at a_;refine aS [1,2] (a_ nofun) ?_;simp only [aJ] at hG;refine O _ (aM [1,4,10,62,63,64] ?_);clear O J;refine rz [1,4,10,62,63,64] ?_
       cases OJ:cV U2.inn with
       |false=>simp only [OJ,gi] at hG;cases aO hG.symm
       |true=>
       simp only [OJ] at hG;have ZU:=oT OJ;rw [show IntKind.i64.wrap ((U2.inn:Int)+1)=((U2.inn+1:Nat):Int) from by rw [aH (by omega) (by omega)];omega];refine rS fun J O=>sH ?_;have cz:=eR (GV t u) hI n (.mk o1 n1 m1 l1) 1 1 (⟨U2.b,U2.inn+1,U2.ok,U2.n⟩:WS)
       cases bh:cp n (.mk o1 n1 m1 l1) 1 1 (⟨U2.b,U2.inn+1,U2.ok,U2.n⟩:WS) with
       |out=>
        simp only [gi,bh] at hG;cases aO hG.symm
       |ok a3 U3=>
        rw [bh] at cz;have UJ:=dq bh;refine aS [1,2] (cz nofun) ?_;simp only [bh] at hG;refine sZ ?_;refine sZ ?_
        refine sH ?_
        cases fC:bi (((⟨#[114,101,116,117,114,110,32]⟩:BA)++a3)++(⟨#[59]⟩:BA)) U3 with
        |out=>
         simp only [gi,fC] at hG;cases aO hG.symm
        |ok a4 U4=>
         have lw:=bT (GV t u) (((⟨#[114,101,116,117,114,110,32]⟩:BA)++a3)++(⟨#[59]⟩:BA)) U3;rw [fC] at lw;refine aS [1,2] (lw nofun) ?_;simp only [fC] at hG;refine O _ (aM [1,4,62,63,64] ?_);clear O J;refine rz [1,4,62,63,64] ?_
         cases R5:ox U4.inn with
         |false=>simp only [R5,gi] at hG;cases aO hG.symm
         |true=>
         simp only [R5] at hG;simp only [ox,bE,dE] at R5;rw [show IntKind.i64.wrap ((U4.inn:Int) - 1)=((U4.inn - 1:Nat):Int) from by rw [aH (by omega) (by omega)];omega];refine rG fun J O=>sH ?_
         cases mH:bi (⟨#[125]⟩:BA) (⟨U4.b,U4.inn - 1,U4.ok,U4.n⟩:WS) with
         |out=>
          simp only [gi,mH] at hG;cases aO hG.symm
         |ok a5 U5=>
          have xE:=bT (GV t u) (⟨#[125]⟩:BA) (⟨U4.b,U4.inn - 1,U4.ok,U4.n⟩:WS);rw [mH] at xE;refine aS [1,2] (xE nofun) ?_;simp only [mH] at hG;refine O _ (aM [1,4,62,63,64] ?_);clear O J;refine rG fun J O=>O _ ?_;clear O J;exact ⟨_,nS _,_,aG (L:=[0,1,2]) (slots:=[1,4,62,63,64]) rfl rfl rfl rfl rfl,d++[⟨nm,ps,bd,.mk o1 n1 m1 l1⟩],e3,true,_,rfl,by rw [hl];simp,hG,by rw [lA,aH (by omega) (by omega)];rfl⟩
   have h':=oF h1;rw [vC] at h';obtain rfl:e=[]:=lE (by omega);simp only [fJ,Q.bind] at hG;refine aA ?_
   first
    |exact ⟨_,ak (slots:=[1,4]) rfl rfl,true,_,hG,rfl⟩
    |exact ⟨_,ak (slots:=[1,4]) rfl rfl,false,_,hG,rfl⟩
 clear hG;rintro Z ⟨fr,V,hG,rfl⟩;simp only [lc] at hG;cases fr
 all_goals
  refine rS fun J O=>sH ?_
  cases aF:bi (⟨#[109,97,105,110,32,123]⟩:BA) V with
  |out=>
   simp only [Q.bind,gi,aF] at hG;cases aO hG.symm
  |ok a1 U1=>
   have bB:=bT (GV t u) (⟨#[109,97,105,110,32,123]⟩:BA) V;rw [aF] at bB;have F4:=iB (GV t u) (⟨#[109,97,105,110,32,123]⟩:BA) V;rw [aF] at F4
   first
    |refine aS [1,2] (bB nofun) ?_
    |refine aS [1,2] (F4 nofun) ?_
   simp only [aF,Q.bind] at hG;refine O _ (aM [1,4] ?_);clear O J;refine rS fun J O=>sH ?_;have a_:=(xK (GV t u) n hI f).1 main 1 U1
   cases aJ:dY n f main 1 U1 with
   |out=>
    simp only [gi,aJ] at hG;cases aO hG.symm
   |ok a2 U2=>
    rw [aJ] at a_;refine aS [1,2] (a_ nofun) ?_;simp only [aJ] at hG;refine O _ (aM [4] ?_);clear O J;refine rS fun J O=>sH ?_
    cases bh:bi (⟨#[125]⟩:BA) U2 with
    |out=>
     simp only [gi,bh] at hG;cases aO hG.symm
    |ok a3 U3=>
     have cz:=bT (GV t u) (⟨#[125]⟩:BA) U2;rw [bh] at cz;refine aS [1,2] (cz nofun) ?_;simp only [bh] at hG;refine O _ (aM [4] ?_);clear O J;refine aa (rS fun J O=>?_);refine ab (fun h1=>?_) (fun h1=>?_)
     ·simp only [Bool.not_eq_true'] at h1
      refine O _ (aM [4,140] ?_);clear O J;refine aj rfl (aa ?_);refine (dW KW [] (fun _=>true) (by kernel_rfl) fun J O=>O _ (aM [2,3] ?_));clear O J;refine ae ?_;simp only [gi,h1] at hG;subst hG;exact lF [] [.d (aW ⟨#[]⟩),.d (.s (.iface (t 1) (u 1)))]
     simp only [Bool.not_eq_false'] at h1;refine aS [1,2] (KU (GV t u) U3) ?_;refine O _ (aM [4,140] ?_);clear O J;refine cQ rfl (fun h2=>?_) fun h2=>?_
     ·refine aa ?_
      refine (dW KW [] (fun _=>true) (by kernel_rfl) fun J O=>O _ (aM [2,3] ?_));clear O J;refine ae ?_;simp only [gi,h1,h2] at hG;subst hG;exact lF [] [.d (aW ⟨#[]⟩),.d (.s (.iface (t 1) (u 1)))]
     refine ac (rS fun J O=>aS [1,2] (Cy (GV t u) _ _ _ U3.b (KT bh)) ?_);refine O _ (aM [2,3] ?_);clear O J;refine ae ?_;simp only [gi,h1,h2] at hG;subst hG;exact lF [] [.d (aW _),.d (.s .nilIface)]
end Go.Abs
end
section
namespace Go.Abs
open Go Go.Proofs
set_option maxRecDepth 100000
def WM{s:BA}:R s Pg->Option Pg
 |.ok g _=>some g
 |_=>none
theorem RD{s:BA}{r:R s Pg}{g:Pg}(h:WM r=some g):∃q,r=.ok g q:=by
 cases r with
 |ok a q=>simp only [WM,sI] at h;exact ⟨q,by rw [h]⟩
 |bad q c=>cases h
 |out=>cases h
def RE:TR->Option BA
 |.ok s=>some s
 |_=>none
theorem Nz{r:TR}{s:BA}(h:RE r=some s):r=.ok s:=by
 cases r <;> simp_all [RE]
def NA:BA:=⟨#[118,97,114,32,120,59,32,109,97,105,110,32,123,32,120,32,61,32,49,32,43,32,50,59,32,125]⟩
def oneT:BA:=⟨#[118,97,114,32,120,59,10,109,97,105,110,32,123,10,32,32,120,32,61,32,49,32,43,32,50,59,10,125,10]⟩
def oneP:Pg:=⟨[⟨#[120]⟩],[],[],[.mk ⟨#[115,101,116]⟩ ⟨#[120]⟩ ⟨#[]⟩ [.mk ⟨#[43]⟩ 0 ⟨#[]⟩ [.mk ⟨#[110,117,109]⟩ 1 ⟨#[]⟩ [],.mk ⟨#[110,117,109]⟩ 2 ⟨#[]⟩ []]] [] [] []]⟩
theorem KX:WM (Cx NA 60 (nx NA (p0 NA)))=some oneP:=by kernel_rfl
theorem KY:RE (j9 20 20 oneP)=some oneT:=by kernel_rfl
end Go.Abs
end
section
namespace Go.Abs
open Go Go.Proofs
attribute [local irreducible] c8 dJ Sub Spec
theorem KZ(t:Nat->TypeId)(u:Nat->Value)(hI:kY (GV t u)):Spec Tryz.prog (GV t u) 15 [] [] (.ret (.d (.s (.bool true)))) []:=by
 obtain ⟨q,hq⟩:=RD KX;have ht:=Nz KY;have st:=xi t u hI 20 20 oneP (by rw [ht];exact fun e=>nomatch e);rw [ht] at st
 have e:(oneT.toList==(⟨#[118,97,114,32,120,59,10,109,97,105,110,32,123,10,32,32,120,32,61,32,49,32,43,32,50,59,10,125,10]⟩:BA).toList)=true:=by show (oneT.toList==oneT.toList)=true;simp
 refine sA (N:=21) Tryz.func15 ?_;refine rz [] ?_;refine rS fun J O=>?_;refine aS [] (Nu t u NA (by decide) 60 (by decide) oneP q hq) ?_;refine O _ (aM [1,2] ?_);clear O J;refine aa (rz [1,9] ?_);refine aj rfl (ac ?_);refine rS fun J O=>aS [] st ?_;refine O _ (aM [2,3] ?_);clear O J;refine rz [0] ?_;rw [e];refine ae ?_;exact lF [] [.d (.s (.bool _))]
end Go.Abs
end
section
namespace Go.Abs
open Go Go.Proofs
theorem Es(w:World)(k:Nat)(os:Array Obj):RowKit.Below w.heap.size w (Go.Sort.grow (w.drewN k) os):=
 ⟨rfl,rfl,rfl,by simp [Go.Sort.grow,World.drewN],fun j hj=>by
  show (w.heap++os)[j]? = _
  rw [Array.getElem?_append_left hj]⟩
theorem FG(t:Nat->TypeId)(u:Nat->Value):kY (GV t u):=by
 intro n hn;simp only [jX,bE,dE] at hn;refine ia Tryz.func77 rfl (by rfl) ?_;intro H lim W vs Uo eT eq;simp only [Vs,V,aD,VD] at eq;obtain ⟨_,_,rfl,rfl,rfl⟩:=eq;obtain ⟨_,ty,fr,hc⟩:=eT.holds 9 _ rfl rfl
 have hg:Tryz.prog.globalNamed "internal/strconv.uint64pow10" = some 9:=by kernel_rfl
 have Rs:Lib.TabIs Tryz.prog W "internal/strconv.uint64pow10" .u64 Lib.pow10Tab:=by
  unfold Lib.TabIs World.var?
  rw [hg];simp only [Option.bind_some,hc]
  kernel_rfl
 refine (Tryz.strconv_Itoa n hn.1 hn.2 W Rs).mono ?_;rintro e w' ⟨rfl,k,os,rfl⟩;exact ⟨⟨_,rfl,fun lim' _=>by simp only [V,dH,aW,VD]⟩,Es W k os⟩
theorem qk(t:Nat->TypeId)(u:Nat->Value):Spec Tryz.prog (GV t u) 15 [] [] (.ret (.d (.s (.bool true)))) []:=KZ t u (FG t u)
end Go.Abs
end
section
namespace Go.Proofs
open Go Go.RowKit Go.Extern.Stop Go.Stop Go.Extern
/-! ### CLOSED FACTS: what 'reflectlite.TypeOf(target).Comparable()' gives at such a target -/
theorem Tryz.isTypeOf(v:Value)(w:World):(Extern.ReflectliteType.typeOf #[.iface 409 v]).run Tryz.prog w=.ok (.iface 353 (.agg #[.pointer (some ⟨15,409,none⟩)])) w:=by kernel_rfl
theorem Tryz.isComparable(w:World):((Extern.ReflectliteType.method fun t=>do Go.Extern.Rtype.noPackHeld "Comparable" t;(fun a=>Value.bool a.comparable) <$> typeInfo t) #[.agg #[.pointer (some ⟨15,409,none⟩)]]).run Tryz.prog w=.ok (.bool true) w:=by kernel_rfl
theorem Tryz.isMethodComparable(v:Value)(w:World):(Go.method 540 353 v "Comparable").run Tryz.prog w=.ok (315,v) w:=by kernel_rfl
theorem Tryz.isComp:(Tryz.prog.info? 409).map (·.comparable)=some true:=by kernel_rfl
theorem Tryz.isSize:(Tryz.prog.info? 411).map (·.size)=some 1:=by kernel_rfl

/-! ### CLOSED FACTS ON THE METHOD SETS: what errors.is's assertions find -/
theorem Tryz.noIsE(v:Value)(xT:TypeId)(w:World):(Instr.typeAssert (.iface 409 v) xT 364 true).run Tryz.prog w=.ok (.tuple #[.nilIface,.bool false]) w:=run_typeAssert_lacksB Tryz.underlying364 (by kernel_rfl) (by kernel_rfl) v xT w
theorem Tryz.noUnwrapE(v:Value)(xT:TypeId)(w:World):(Instr.typeAssert (.iface 409 v) xT 360 true).run Tryz.prog w=.ok (.tuple #[.nilIface,.bool false]) w:=run_typeAssert_lacksB Tryz.underlying360 (by kernel_rfl) (by kernel_rfl) v xT w
theorem Tryz.noUnwrapsE(v:Value)(xT:TypeId)(w:World):(Instr.typeAssert (.iface 409 v) xT 362 true).run Tryz.prog w=.ok (.tuple #[.nilIface,.bool false]) w:=run_typeAssert_lacksB Tryz.underlying362 (by kernel_rfl) (by kernel_rfl) v xT w

set_option maxHeartbeats 2000000 in
set_option maxRecDepth 100000 in
theorem Tryz.is_same(a:Addr)(w:World):
  Calls Tryz.prog 147 #[.iface 409 (.pointer (some a)),.iface 409 (.pointer (some a))] w fun e w'=>e=.returned (.bool true)/\w'=w:=by
 obtain ⟨i,hi,RF⟩:=Option.map_eq_some_iff.1 Tryz.isComp;obtain ⟨j,hj,AW⟩:=Option.map_eq_some_iff.1 Tryz.isSize;have h8:=@run_callFunc_extern Tryz.prog 205 _ Extern.ReflectliteType.typeOf Tryz.func205 (by kernel_rfl) (by kernel_rfl) (by kernel_rfl) (by kernel_rfl);have ZV:=@run_callFunc_extern Tryz.prog 315 _ (Extern.ReflectliteType.method fun t=>do Go.Extern.Rtype.noPackHeld "Comparable" t;pure (.bool (<- typeInfo t).comparable)) Tryz.func315 (by kernel_rfl) (by kernel_rfl) (by kernel_rfl) (by kernel_rfl);have tT:=Tryz.isTypeOf;have cT:=Tryz.isComparable;have mR:=Tryz.isMethodComparable;have heq:=run_eql_iface_ptr_same (P:=Tryz.prog) w a Tryz.underlying30 Tryz.underlying409 hi RF hj
 go_enter Tryz.func147,Tryz.ntmps147
 go_wp2
 refine wp_loop_rounds 1 ?_;rw [rounds_succ]
 go_wp2
 go_ret
 exact ⟨rfl,rfl⟩

set_option maxHeartbeats 2000000 in
set_option maxRecDepth 100000 in
theorem Tryz.is_other(a b:Addr)(ca cb:Array Value)(ta tb:TypeId)(w:World)(aO:a≠b)(ha:w.heap[a.block]? = some (.cells ca ta (0,0)))(hb:w.heap[b.block]? = some (.cells cb tb (0,0))):
  Calls Tryz.prog 147 #[.iface 409 (.pointer (some a)),.iface 409 (.pointer (some b))] w fun e w'=>e=.returned (.bool false)/\w'=w:=by
 obtain ⟨i,hi,RF⟩:=Option.map_eq_some_iff.1 Tryz.isComp;obtain ⟨j,hj,AW⟩:=Option.map_eq_some_iff.1 Tryz.isSize;have h8:=@run_callFunc_extern Tryz.prog 205 _ Extern.ReflectliteType.typeOf Tryz.func205 (by kernel_rfl) (by kernel_rfl) (by kernel_rfl) (by kernel_rfl);have ZV:=@run_callFunc_extern Tryz.prog 315 _ (Extern.ReflectliteType.method fun t=>do Go.Extern.Rtype.noPackHeld "Comparable" t;pure (.bool (<- typeInfo t).comparable)) Tryz.func315 (by kernel_rfl) (by kernel_rfl) (by kernel_rfl) (by kernel_rfl);have tT:=Tryz.isTypeOf;have cT:=Tryz.isComparable;have mR:=Tryz.isMethodComparable;have nE:=Tryz.noIsE;have uE:=Tryz.noUnwrapE;have vE:=Tryz.noUnwrapsE;have heq:=run_eql_iface_ptr_other (P:=Tryz.prog) w Tryz.underlying30 Tryz.underlying409 hi RF hj (by rw [AW];decide) aO ha hb
 go_enter Tryz.func147,Tryz.ntmps147
 go_wp2
 refine wp_loop_rounds 1 ?_;rw [rounds_succ]
 go_wp2
 go_ret
 exact ⟨rfl,rfl⟩


end Go.Proofs
end
section
namespace Go.Proofs
open Go Go.RowKit Go.Extern.Stop Go.Stop Go.Extern
set_option maxRecDepth 100000
theorem Tryz.asAssignF(w:World):(ReflectliteType.relation "AssignableTo" ReflectliteType.assignableTo #[.agg #[.pointer (some ⟨15,409,none⟩)],.iface 353 (.agg #[.pointer (some ⟨15,128,none⟩)])]).run Tryz.prog w=.ok (.bool false) w:=by kernel_rfl
theorem Tryz.as_valueOf27(t:Addr)(w:World):(ReflectliteValue.unpack (.iface 259 (.pointer (some t)))).run Tryz.prog w
  = .ok (.agg #[.pointer (some ⟨15,259,none⟩),.pointer (some ⟨w.heap.size,0,none⟩),.int .u64 150]) (w.alloc (.cells #[.pointer (some t)] 259)):=by kernel_rfl
theorem Tryz.as_type27(a:Addr)(w:World):(ReflectliteValue.methodAny (ReflectliteValue.valueError "reflectlite.Value.Type" 0) (fun t _ _ _=>ReflectliteType.toType t) #[.agg #[.pointer (some ⟨15,259,none⟩),.pointer (some a),.int .u64 150]]).run Tryz.prog w
  = .ok (.iface 353 (.agg #[.pointer (some ⟨15,259,none⟩)])) w:=by kernel_rfl
theorem Tryz.as_methodKind(h:Value)(w:World):(Go.method 540 353 (.agg #[h]) "Kind").run Tryz.prog w=.ok (304,h) w:=by kernel_rfl
theorem Tryz.as_kind27(w:World):((ReflectliteType.abiMethod fun t=>(fun a:Nat=>Value.int IntKind.u8 (a:Int)) <$> Rtype.kind t) #[.pointer (some ⟨15,259,none⟩)]).run Tryz.prog w=.ok (.int .u8 22) w:=by kernel_rfl
theorem Tryz.as_kind25(w:World):((ReflectliteType.abiMethod fun t=>(fun a:Nat=>Value.int IntKind.u8 (a:Int)) <$> Rtype.kind t) #[.pointer (some ⟨15,128,none⟩)]).run Tryz.prog w=.ok (.int .u8 22) w:=by kernel_rfl

/-! ### THE ENTRIES THAT READ OR WRITE MEMORY: laws with a premise on the cell (after Derived/Lib/ReflectliteSlice.lean's manner: each unfolding a lemma of its own, by rfl) -/
theorem Tryz.rlm(z:Sem Value)(f:TypeId->Addr->Nat->Nat->Sem Value)(v:Value):
  ReflectliteValue.method z f #[v]=(do match <- ReflectliteValue.parts v with|none=>z|some (t,a,fl)=>f t a fl (fl % 32)):=rfl
theorem Tryz.as_parts27(a:Addr)(w:World):(ReflectliteValue.parts (.agg #[.pointer (some ⟨15,259,none⟩),.pointer (some a),.int .u64 150])).run Tryz.prog w=.ok (some (259,a,150)) w:=by kernel_rfl
theorem Tryz.as_isNil27(a p:Addr)(W:World)(ha:W.cell? a=some (.pointer (some p))):
  (ReflectliteValue.method (ReflectliteValue.valueError "reflectlite.Value.IsNil" 0) ReflectliteValue.isNil #[.agg #[.pointer (some ⟨15,259,none⟩),.pointer (some a),.int .u64 150]]).run Tryz.prog W=.ok (.bool false) W:=by
 rw [Tryz.rlm];simp only [Sem.run_bind,Tryz.as_parts27,Result.andThen]
 simp [ReflectliteValue.isNil,loadVar,isAgg,underlying,Tryz.underlying259,ha,Result.andThen]

theorem Tryz.as_methodElem(h:Value)(w:World):(Go.method 540 353 (.agg #[h]) "Elem").run Tryz.prog w=.ok (316,.agg #[h]) w:=by kernel_rfl
theorem Tryz.as_methodImplements(h:Value)(w:World):(Go.method 540 353 (.agg #[h]) "Implements").run Tryz.prog w=.ok (317,.agg #[h]) w:=by kernel_rfl
theorem Tryz.as_methodAssignableTo(h:Value)(w:World):(Go.method 540 353 (.agg #[h]) "AssignableTo").run Tryz.prog w=.ok (314,.agg #[h]) w:=by kernel_rfl
theorem Tryz.as_elem27(w:World):(ReflectliteType.method ReflectliteType.elem #[.agg #[.pointer (some ⟨15,259,none⟩)]]).run Tryz.prog w=.ok (.iface 353 (.agg #[.pointer (some ⟨15,128,none⟩)])) w:=by kernel_rfl
theorem Tryz.as_implements25(w:World):(ReflectliteType.relation "Implements" ReflectliteType.implements_ #[.agg #[.pointer (some ⟨15,128,none⟩)],.iface 353 (.agg #[.pointer (some ⟨15,30,none⟩)])]).run Tryz.prog w=.ok (.bool true) w:=by kernel_rfl
end Go.Proofs
end
