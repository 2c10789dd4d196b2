/- Texts of this proof, joined and shortened. -/
import Derived.Test.YtedljfabpknjiaaGreatDoorR19
import Derived.Test.YtedljfabpknjiaaGreatDoorR18
import Derived.Test.YtedljfabpknjiaaGreatDoorR14
import Derived.Test.YtedljfabpknjiaaGreatDoorR9
import Derived.Test.YtedljfabpknjiaaGreatDoorR17
set_option maxHeartbeats 1000000
section
namespace Go.Abs
open Go Go.Proofs
attribute [local irreducible] c8 dJ Sub Spec
section
def Kn(a:MO):Prop:=∀k S,a=.stop k S->(k.toList==(⟨#[]⟩:BA).toList)=false
theorem nL:(gq.toList==(⟨#[]⟩:BA).toList)=false:=by kernel_rfl
theorem VQ:(wTired.toList==(⟨#[]⟩:BA).toList)=false:=by kernel_rfl
theorem QJ:(yg.toList==(⟨#[]⟩:BA).toList)=false:=by kernel_rfl
theorem Ta:(sX.toList==(⟨#[]⟩:BA).toList)=false:=by kernel_rfl
theorem qi{S:MS}:Kn (.ok S):=fun _ _ e=>nomatch e
theorem zk:Kn .out:=fun _ _ e=>nomatch e
theorem jB{k:BA}{S:MS}(h:(k.toList==(⟨#[]⟩:BA).toList)=false):Kn (.stop k S):=fun _ _ e=>by rw [<- (MO.stop.inj e).1];exact h
theorem np{a:MO}{f:MS->MO}(h:Kn a)(k:∀S1,Kn (f S1)):Kn (a.bind f):=by
 cases a with
 |out=>exact zk
 |stop q S=>exact h
 |ok S=>exact k S
theorem BV{S:MS}{e:Ex}{f:Int->MO}(h:∀n,Kn (f n)):Kn (dh S e f):=by
 unfold dh;split
 ·exact jB nL
 exact h _
theorem On{S:MS}{c:List (List Ts)}{f:Bool->MO}(h:∀n,Kn (f n)):Kn (dk S c f):=by
 unfold dk;split
 ·exact jB nL
 exact h _
theorem JS:∀(l:List BA) (es:List Ex) (S:MS),Kn (jO l es S)
 |[],_,_=>qi
 |_::_,[],_=>jB nL
 |v::r,e::l,S=>by
  simp only [jO];exact BV fun n=>JS r l { S with vs:=ff S.vs v n }
theorem Fz(F:Int)(S:MS):Kn (er F S):=by
 unfold er;split
 ·exact jB VQ
 exact qi
theorem rx(ps:List Pc)(F:Int):∀n:Nat,(∀l S,Kn (cF ps F n l S))/\(∀s S,Kn (stM ps F n s S))/\(∀c l S,Kn (rX ps F n c l S))
 |0=>⟨fun l S=>by simp only [cF];exact zk,fun s S=>by simp only [stM];exact zk,fun c l S=>by simp only [rX];exact zk⟩
 |n+1=>by
  obtain ⟨h1,h2,h3⟩:=rx ps F n;refine ⟨fun l S=>?_,fun s S=>?_,fun c l S=>?_⟩
  ·cases l with
   |nil=>simp only [cF];exact qi
   |cons s r=>
    simp only [cF];exact np (np (Fz F S) fun S1=>h2 s S1) fun S2=>h1 r S2
  ·obtain ⟨ap,name,proc,args,cond,ao,aK⟩:=s;simp only [stM]
   repeat' split
   all_goals first
    |exact qi
    |exact jB nL
    |exact BV fun n=>qi
    |exact BV fun n=>BV fun m=>by split <;> first|exact qi|exact jB nL
    |exact h3 _ _ _
    |exact On fun b=>by cases b <;> first|exact h1 _ _|exact qi|exact jB QJ|exact jB Ta
    |exact np (np (JS _ _ _) fun S1=>h1 _ S1) fun S2=>BV fun n=>qi
  simp only [rX];refine On fun b=>?_
  cases b with
  |false=>exact qi
  |true=>exact np (np (h1 _ _) fun S1=>Fz F S1) fun S2=>h3 c l S2
theorem uP{nm:List BA}{q0:Nat×Nat}{ay:List Ar}{ks:List (Nat×Nat)}(ar:List (BA×List Int))(s:BA)(i:Nat)(n:Int)(h:KsOk nm q0 ay ks ar):KsOk nm q0 ay ks (jL ar s i n):=by
 refine ⟨h.v,h.a.trans ?_⟩;simp only [plL,List.map_map];refine List.map_congr_left fun a _=>?_
 show (ef ar a.name).length=(ef (jL ar s i n) a.name).length
 rw [uB];split
 ·rename_i e;rw [List.length_set,e]
 rfl
theorem FA{P:List (BA×List Int)->Prop}{a:MO}{S:MS}(h:Ky P a)(e:a=.ok S):P S.ar:=by
 subst e;exact h
theorem xg{v:BA}{f:Pc}:∀ {l:List Pc}{i:Nat},findP l v=some f->∃j:Nat,cu v l i=((i+j:Nat):Int)/\l[j]? = some f
 |[],_,h=>by cases h
 |g::r,i,h=>by
  simp only [findP,List.find?_cons] at h;simp only [cu];cases q:(g.name.toList==v.toList) with
  |true=>
   rw [q] at h;simp only [sI] at h;exact ⟨0,rfl,by rw [<- h];rfl⟩
  |false=>
   rw [q] at h;obtain ⟨j,h1,h2⟩:=xg (i:=i+1) h;exact ⟨j+1,by rw [show i+(j+1)=i+1+j by omega];exact h1,by simpa using h2⟩
theorem FB{l:List Pc}{j:Nat}{f:Pc}(h:l[j]? = some f):(c_ l)[((j:Nat):Int).toNat]? = some f.cs:=by
 rw [Int.toNat_natCast];simp [c_,h]
theorem FC{nm ay:List BA}:∀ {l:List Ex}{i:Nat}{y:Ex},td nm ay l=true->l[i]? = some y->Dt nm ay y=true
 |[],i,y,_,h=>by cases h
 |x::r,0,y,hs,h=>by
  simp only [List.getElem?_cons_zero,sI] at h;subst h;simp only [td,bE] at hs;exact hs.1
 |x::r,i+1,y,hs,h=>by
  simp only [td,bE] at hs;exact FC (i:=i) hs.2 (by simpa using h)
theorem QK{l:List Ex}(h:l.length=1):∃x,l=[x]:=by
 match l,h with
 |[x],_=>exact ⟨x,rfl⟩
theorem QL{l:List Ex}(h:l.length=2):∃x y,l=[x,y]:=by
 match l,h with
 |[x,y],_=>exact ⟨x,y,rfl⟩
def Tb(w:Bool):BA:=match w with
 |true=>gq
 |false=>⟨#[]⟩
theorem Oo{w:Bool}(h:((Tb w).toList==(⟨#[]⟩:BA).toList)=true):w=false:=by
 cases w with
 |false=>rfl
 |true=>exact absurd (nL.symm.trans h) (by decide)
theorem Oq{w:Bool}(h:((Tb w).toList==(⟨#[]⟩:BA).toList)=false):w=true:=by
 cases w with
 |true=>rfl
 |false=>simp [Tb] at h
theorem lh{x:BA}(h:(x.toList==(⟨#[]⟩:BA).toList)=false)(g:(!(x.toList==(⟨#[]⟩:BA).toList))=false):False:=by rw [h] at g;cases g
theorem mw{x:BA}(h:(x.toList==(⟨#[]⟩:BA).toList)=false)(g:(x.toList==(⟨#[]⟩:BA).toList)=true):False:=by rw [h] at g;cases g
def QN(ap:BA):BA:=match ap.toList==(⟨#[97,115,115,117,109,101]⟩:BA).toList with
 |true=>yg
 |false=>sX
theorem BW:((Tb true).toList==(⟨#[]⟩:BA).toList)=false:=nL
def Tc(w:Bool)(S:MS)(a:MO):MO:=match w with
 |true=>.stop gq S
 |false=>a
section
variable (G:Glob) (nm:List BA) (q0:Nat×Nat) (ay:List Ar) (ks:List (Nat×Nat)) (ps:List Pc) (F:Int)
def RS(S:MS)(kd:BA):List Row:=[.box 238 [.d (.sl 1 (strs nm)),.d (.s (kv q0)),.d (.sl 2 (ey ay)),.d (.sl 1 (ni ks)),.d (.sl 7 (c_ ps)),.d (.sl 1 (numsD S.inp)),.d (aD F),.d (aD S.steps),.d (aW kd)],.arrs false (q0::ks) (gF nm S.vs::plL ay S.ar)]
def Xt:MO->List Row
 |.ok S=>RS nm q0 ay ks ps F S ⟨#[]⟩
 |.stop k S=>RS nm q0 ay ks ps F S k
 |.out=>[]
def QO(n:Nat):Prop:=∀(l:List Sm) (S:MS),Jv nm (arN ay) ps l=true->dG l<=1000000000->SOk F S->KsOk nm q0 ay ks S.ar->cF ps F n l S≠.out->Spec Tryz.prog G 123 [.box 0 0,.d (.sl 7 (bF l))] (RS nm q0 ay ks ps F S ⟨#[]⟩) (.ret (.tup [])) (Xt nm q0 ay ks ps F (cF ps F n l S))
def MW:Plan:=(.take 0 (.take 1 (.load 2 (.take 3 (.load 4 (.take 5 (.load 6 (.one 7 .done))))))))
def zm:Plan:=(.take 0 (.take 1 (.take 2 (.load 3 (.take 4 (.take 5 (.load 6 (.one 7 (.take 8 (.one 9 (.take 10 .done)))))))))))
def MX:Plan:=(.take 0 (.take 1 (.take 2 (.load 3 (.take 4 (.take 5 (.load 6 (.take 8 (.take 9 (.take 10 (.load 11 (.take 12 (.load 13 (.one 7 (.take 14 (.one 15 .done))))))))))))))))
def MY:Plan:=(.take 0 (.take 1 (.take 2 (.load 3 (.take 4 (.take 5 (.take 6 (.load 7 (.take 8 (.load 9 (.alt 10 (.take 11 (.alt 12 (.one 13 (.one 14 .done)) (.alt 13 (.one 12 (.one 14 .done)) .done))) (.alt 13 (.one 10 (.take 11 (.one 12 (.one 14 .done)))) .done))))))))))))
def MZ:Plan:=(.take 0 (.take 1 (.load 2 (.take 3 (.take 4 (.load 5 (.take 6 (.load 7 (.take 8 (.take 9 (.load 10 (.one 11 .done))))))))))))
theorem M0(ga:nm.length<=12)(je:ay.length<=12)(zU:ps.length<=1073741824)(uo:nm.Nodup)(Dq:(arN ay).Nodup)(hF:F<=1000000000000)(hP:Uw nm (arN ay) ps)(n:Nat)(ih:∀m,m<=n->QO G nm q0 ay ks ps F m):QO G nm q0 ay ks ps F (n+1):=by
 intro l S vD HI hS BI aO;obtain ⟨vs,ar,inp,st⟩:=S;have hn:l.length<=1073741824:=by have:=kz l;omega
 obtain ⟨R,hG⟩:∃R,cF ps F (n+1) l ⟨vs,ar,inp,st⟩=R:=⟨_,rfl⟩;rw [hG] at aO ⊢;refine aZ b8 (N:=274) Tryz.func123 rfl (by rfl) ((by cases R <;> simp [Xt,RS] at aO ⊢)) rfl ?_;refine rz [0,1,4] ?_;refine af (aB (fun k Y=>∃(d1 e1:List Sm) (vs:List (BA×Int)) (ar:List (BA×List Int)) (inp:List Int) (st:Int) (m:Nat),k=e1.length/\l=d1++e1/\cF ps F m e1 ⟨vs,ar,inp,st⟩=R/\Jv nm (arN ay) ps e1=true/\dG e1<=1000000000/\SOk F ⟨vs,ar,inp,st⟩/\KsOk nm q0 ay ks ar/\m<=n+1/\Y=⟨[(0,.box 0 0),(1,.d (.sl 7 (bF l))),(4,.d (aD d1.length))],[.box 238 [.d (.sl 1 (strs nm)),.d (.s (kv q0)),.d (.sl 2 (ey ay)),.d (.sl 1 (ni ks)),.d (.sl 7 (c_ ps)),.d (.sl 1 (numsD inp)),.d (aD F),.d (aD st),.d (aW ⟨#[]⟩)],.arrs false (q0::ks) (gF nm vs::plL ay ar)]⟩) (l.length) (⟨[],l,vs,ar,inp,st,n+1,rfl,rfl,hG,vD,HI,hS,BI,nR _,rfl⟩) ?_);clear hG;rintro k Y ⟨d1,e1,vs,ar,inp,st,m,rfl,bV,hG,gK,uw,wU,fH,Xu,rfl⟩;have bu:(bF l).length=d1.length+e1.length:=by rw [s_,bV,lA]
 have cn:d1.length+e1.length<=1073741824:=by rw [bV,lA] at hn;exact hn
 refine aa (rz [0,1,4,19] ?_);refine cQ rfl (fun h1=>?_) fun h1=>?_
 ·have bO:=oT h1;rw [bu] at bO;cases e1 with
  |nil=>simp only [lN] at bO;omega
  |cons x cw=>
  obtain ⟨ap,name,proc,args,cond,ao,aK⟩:=x;subst bV;simp only [lC] at cn;obtain ⟨hk,hb,he,hr⟩:=Jw gK;simp only [dG,im] at uw;simp only [HK,bE] at hk;obtain ⟨⟨RT,Og⟩,hk⟩:=hk;cases m with
  |zero=>simp only [cF] at hG;cases aO hG.symm
  |succ m=>
  simp only [cF] at hG;refine ac (aa ?_);refine af (rS fun J O=>oN (eI _ (aI (Do rfl) ?_)));refine O _ (aM [0,1,4,5] ?_);clear O J;refine rS fun J O=>sH ?_
  cases GZ:(st==F) with
  |true=>
   refine aS [0] (si G nm q0 ay ks ps inp F st GZ) ?_;try simp only [MO.bind,GZ,er] at hG
   refine O _ (aM [0,1,4,5,6] ?_);clear O J;refine aa (rz [0,1,4,5,29] ?_);refine cQ rfl (fun h2=>?_) fun h2=>?_
   ·refine ae ?_;try simp only [bn,MO.bind,dh,dk,GZ,h2] at hG
    subst hG;exact lF [0,1] [] (h6:=PWs.nil)
   exact absurd h2 (by decide)
  |false=>
   have Td:=wU.s0;have VR:=wU.sF;have dy:SOk F ⟨vs,ar,inp,st+1⟩:=nf wU _ (by simp only [er,GZ]);simp only at Td VR;refine aS [0] (BE G nm q0 ay ks ps inp F st GZ Td (by omega)) ?_;try simp only [MO.bind,GZ,er] at hG
   cases m with
   |zero=>simp only [stM] at hG;cases aO hG.symm
   |succ m=>
   simp only [stM] at hG;refine O _ (aM [0,1,4,5,6] ?_);clear O J;refine aa (rz [0,1,4,5,29] ?_);refine cQ rfl (fun h2=>?_) fun h2=>?_
   ·exact absurd h2 (by decide)
   refine ac (aa ?_);refine rz [0,1,4,5,31] ?_;refine af (rz [0,1,4,5,31,65] ?_);refine cQ rfl (fun h3=>?_) fun h3=>?_
   ·simp only [h3] at hG hk;simp only [bE,dE] at hk;obtain ⟨QQ,Fh⟩:=hk;obtain ⟨⟨o1,n1,m1,l1⟩,rfl⟩:=QK QQ;simp only [td,bE] at RT;try simp only at hG
    refine (dW MW [7] (fun i=>Nat.beq i 2) (by kernel_rfl) fun J O=>oN (eI _ (aI (ur _ _) ?_)));refine sH ?_;have a_:=uJ G nm q0 ay ks ps ga je vs ar inp F (st+1) ⟨#[]⟩ name (.mk o1 n1 m1 l1) uo Fh RT.1 dy.v dy.a fH;cases aJ:fg vs ar (.mk o1 n1 m1 l1) with
    |none=>
     rw [aJ] at a_;simp only [Qz,DA] at a_;refine aS [0,1] a_ ?_;refine O _ (aM [0,1,4] ?_);clear O J;refine rz [0,1,4,273] ?_;refine cQ rfl (fun h4=>?_) fun h4=>?_
     ·refine ae ?_;try simp only [dh,aJ] at hG
      subst hG;exact lF [0,1] [] (h6:=PWs.nil)
     exact (lh nL h4).elim
    |some a2=>
     rw [aJ] at a_;simp only [Qz,DA] at a_;have CD:=gN dy.v dy.a (.mk o1 n1 m1 l1) a2 aJ;refine aS [0,1] a_ ?_;refine O _ (aM [0,1,4] ?_);clear O J;refine rz [0,1,4,273] ?_;refine cQ rfl (fun h4=>?_) fun h4=>?_
     ·simp at h4
     refine ac (rG fun J O=>O _ ?_);clear O J;try simp only [dh,aJ] at hG
     exact ⟨_,nS _,_,aG (L:=[0,1]) (slots:=[0,1,4]) rfl rfl rfl rfl rfl,d1++[(Sm.mk ap name proc [.mk o1 n1 m1 l1] cond ao aK)],cw,(ff vs name a2),ar,inp,(st+1),m+1,rfl,by simp,hG,hr,by omega,⟨dx dy.v CD,dy.a,dy.i,dy.s0,dy.sF⟩,fH,by omega,by rw [lA,aH (by omega) (by omega)];rfl⟩
   simp only [h3] at hG hk;refine rz [0,1,4,5,31,75] ?_;refine cQ rfl (fun h4=>?_) fun h4=>?_
   ·simp only [h4] at hG hk;simp only [bE,dE] at hk;obtain ⟨QQ,Fh⟩:=hk;obtain ⟨⟨o1,n1,m1,l1⟩,⟨o2,n2,m2,l2⟩,rfl⟩:=QL QQ;simp only [td,bE] at RT;try simp only at hG
    refine rS fun J O=>oN (eI _ (aI (ur _ _) ?_))
    refine sH ?_;have a_:=nj G nm q0 ay ks ps ga je _ vs ar inp F (st+1) ⟨#[]⟩ (.mk o1 n1 m1 l1) (nR _) RT.1 dy.v dy.a fH;cases aJ:fg vs ar (.mk o1 n1 m1 l1) with
    |none=>
     rw [aJ] at a_;refine aS [0,1] a_ ?_;refine O _ (aM [0,1,4,5,7,8] ?_);clear O J;refine rz [0,1,4,5,7,8,9,10] ?_;refine aa (rz [0,1,4,5,7,8,9,10,86] ?_);refine aj rfl (ac ?_);refine aa ((dW zm [] (fun i=>Nat.beq i 0||Nat.beq i 2) (by kernel_rfl) fun J O=>?_));refine sH ?_;have JT:=kS G nm q0 ay ks ps inp F (st+1) ⟨#[]⟩ name (by omega);rw [mp] at JT;obtain ⟨q,MP,JI⟩:=Ft fH Fh;have rZ:=Bx ar Fh;try simp only [dh,aJ] at hG
     try rw [JI] at hG
     refine jf 0 rfl JT ?_;refine oN (eI _ (aI (yY MP) ?_));refine O _ (aM [0,1,4,7,8,9,10,11] ?_);clear O J;refine aa (rz [0,1,4,7,9,11,121] ?_);refine aj rfl (rz [] ?_);refine ae ?_;try simp only [bn,MO.bind,dh,dk,h2,h3,h4,aJ] at hG
     subst hG;exact lF [0,1] [] (h6:=PWs.nil)
    |some a2=>
     rw [aJ] at a_;have CD:=gN dy.v dy.a (.mk o1 n1 m1 l1) a2 aJ;refine aS [0,1] a_ ?_;refine O _ (aM [0,1,4,5,7,8] ?_);clear O J;refine rz [0,1,4,5,7,8,9,10] ?_;refine aa (rz [0,1,4,5,7,8,9,10,86] ?_);refine aj rfl (rG fun J O=>oN (eI _ (aI (I5 _ _ _) ?_)));refine sH ?_;have cz:=nj G nm q0 ay ks ps ga je _ vs ar inp F (st+1) ⟨#[]⟩ (.mk o2 n2 m2 l2) (nR _) RT.2.1 dy.v dy.a fH;cases bh:fg vs ar (.mk o2 n2 m2 l2) with
     |none=>
      rw [bh] at cz;refine aS [0,1] cz ?_;refine O _ (aM [0,1,4,5,7,8,9,10] ?_);clear O J;refine aa ((dW zm [] (fun i=>Nat.beq i 0||Nat.beq i 2) (by kernel_rfl) fun J O=>?_));refine sH ?_;have JT:=kS G nm q0 ay ks ps inp F (st+1) ⟨#[]⟩ name (by omega);rw [mp] at JT;obtain ⟨q,MP,JI⟩:=Ft fH Fh;have rZ:=Bx ar Fh;try simp only [dh,aJ,bh] at hG
      try rw [JI] at hG
      refine jf 0 rfl JT ?_;refine oN (eI _ (aI (yY MP) ?_));refine O _ (aM [0,1,4,7,8,9,10,11] ?_);clear O J;refine aa (rz [0,1,4,7,9,11,121] ?_);refine aj rfl (rz [] ?_);refine ae ?_;try simp only [bn,MO.bind,dh,dk,h2,h3,h4,aJ,bh] at hG
      subst hG;exact lF [0,1] [] (h6:=PWs.nil)
     |some a3=>
      rw [bh] at cz;have K_:=gN dy.v dy.a (.mk o2 n2 m2 l2) a3 bh;refine aS [0,1] cz ?_;refine O _ (aM [0,1,4,5,7,8,9,10] ?_);clear O J;refine aa ((dW zm [] (fun i=>Nat.beq i 0||Nat.beq i 2) (by kernel_rfl) fun J O=>?_));refine sH ?_;have JT:=kS G nm q0 ay ks ps inp F (st+1) ⟨#[]⟩ name (by omega);rw [mp] at JT;obtain ⟨q,MP,JI⟩:=Ft fH Fh;have rZ:=Bx ar Fh;try simp only [dh,aJ,bh] at hG
      try rw [JI] at hG
      refine jf 0 rfl JT ?_;refine oN (eI _ (aI (yY MP) ?_));refine O _ (aM [0,1,4,7,8,9,10,11] ?_);clear O J;refine aa (rS fun J O=>?_);refine ab (fun h5=>?_) (fun h5=>?_)
      ·refine O _ (aM [0,1,4,7,9,11,121] ?_);clear O J;refine aj rfl (rz [] ?_);refine ae ?_;try simp only [bn,h5] at hG
       subst hG;exact lF [0,1] [] (h6:=PWs.nil)
      have Lo:=oF h5;refine O _ (aM [0,1,4,7,9,11,121] ?_);clear O J;refine cQ rfl (fun h6=>?_) fun h6=>?_
      ·refine rz [] ?_;refine ae ?_;try simp only [bn,h5,h6] at hG
       subst hG;exact lF [0,1] [] (h6:=PWs.nil)
      have lr:=oF h6;refine ac (rG fun J O=>oN (oN ?_));refine eI 1 (eI _ (eI _ (eI (Dr name (arN ay) 0+1) (eI q.2 (eI _ (aI rfl (aI (by rw [List.getElem?_cons_succ];exact MP) (aI (by rw [List.getElem?_cons_succ];exact rZ) (oN ?_)))))))));refine O _ (aM [0,1,4] ?_);clear O J;rw [List.set_cons_succ,Qp _ a2.toNat a3 Dq Fh];refine rz [0,1,4,273] ?_;refine cQ rfl (fun h7=>?_) fun h7=>?_
      ·simp at h7
      refine ac (rG fun J O=>O _ ?_);clear O J;try simp only [bn,h5,h6] at hG
      exact ⟨_,nS _,_,aG (L:=[0,1]) (slots:=[0,1,4]) rfl rfl rfl rfl rfl,d1++[(Sm.mk ap name proc [.mk o1 n1 m1 l1,.mk o2 n2 m2 l2] cond ao aK)],cw,vs,(jL ar name a2.toNat a3),inp,(st+1),m+1,rfl,by simp,hG,hr,by omega,⟨dy.v,p6 dy.a K_,dy.i,dy.s0,dy.sF⟩,(uP ar name a2.toNat a3 fH),by omega,by rw [lA,aH (by omega) (by omega)];rfl⟩
   simp only [h4] at hG hk;refine rz [0,1,4,5,31,129] ?_;refine cQ rfl (fun h5=>?_) fun h5=>?_
   ·simp only [h5] at hG hk;obtain ⟨Gi,yf⟩:=Ds vs hk;have hq:=fH.v;refine aa (rz [0,1,4,5,136] ?_);refine cQ rfl (fun h6=>?_) fun h6=>?_
    ·obtain rfl:=Bq h6;refine rz [] ?_;refine ae ?_;try simp only [bn] at hG
     subst hG;exact lF [0,1] [] (h6:=PWs.nil)
    obtain ⟨q,iq,rfl⟩:=wS h6;refine ac (aa ?_);refine (dW MX [15] (fun i=>Nat.beq i 0||Nat.beq i 2) (by kernel_rfl) fun J O=>?_);refine aI (by decide) (eI _ (aI rfl ?_));refine sH ?_;have JT:=yX G nm q0 ay ks ps (q::iq) F (st+1) ⟨#[]⟩ name (by omega);rw [mp] at JT;refine jf 0 rfl JT ?_;refine oN (oN ?_);refine eI 1 (eI _ (eI _ (eI 0 (eI q0.2 (eI _ (aI rfl (aI (rfl) (aI (rfl) (aI (by rw [Int.toNat_natCast,tc];omega) ?_)))))))));refine O _ (aM [0,1,4] ?_);clear O J;rw [Int.toNat_natCast,List.set_cons_zero,Fk vs q uo hk];refine rG fun J O=>?_;refine eI 1 (aI rfl (aI (by simp [numsD]) ?_));refine O _ (aM [0,1,4] ?_);clear O J;refine rz [0,1,4,273] ?_;refine cQ rfl (fun h7=>?_) fun h7=>?_
    ·simp at h7
    refine ac (rG fun J O=>O _ ?_);clear O J;try simp only [bn] at hG
    exact ⟨_,nS _,_,aG (L:=[0,1]) (slots:=[0,1,4]) rfl rfl rfl rfl rfl,d1++[(Sm.mk ap name proc args cond ao aK)],cw,(ff vs name q),ar,iq,(st+1),m+1,rfl,by simp,hG,hr,by omega,⟨(show SOk F ⟨ff vs name q,ar,q::iq,(st+1)⟩ from ⟨dx dy.v (dy.i _ (List.mem_cons_self ..)),dy.a,dy.i,dy.s0,dy.sF⟩).v,(show SOk F ⟨ff vs name q,ar,q::iq,(st+1)⟩ from ⟨dx dy.v (dy.i _ (List.mem_cons_self ..)),dy.a,dy.i,dy.s0,dy.sF⟩).a,fun n hn=>(show SOk F ⟨ff vs name q,ar,q::iq,(st+1)⟩ from ⟨dx dy.v (dy.i _ (List.mem_cons_self ..)),dy.a,dy.i,dy.s0,dy.sF⟩).i n (List.mem_cons_of_mem _ hn),(show SOk F ⟨ff vs name q,ar,q::iq,(st+1)⟩ from ⟨dx dy.v (dy.i _ (List.mem_cons_self ..)),dy.a,dy.i,dy.s0,dy.sF⟩).s0,(show SOk F ⟨ff vs name q,ar,q::iq,(st+1)⟩ from ⟨dx dy.v (dy.i _ (List.mem_cons_self ..)),dy.a,dy.i,dy.s0,dy.sF⟩).sF⟩,fH,by omega,by rw [lA,aH (by omega) (by omega)];rfl⟩
   simp only [h5] at hG hk;refine rz [0,1,4,5,31,163] ?_;refine cQ rfl (fun h6=>?_) fun h6=>?_
   ·simp only [h6] at hG hk;simp only [bE] at hk;obtain ⟨Fh,hk⟩:=hk;cases p8:findP ps proc with
    |none=>rw [p8] at hk;cases hk
    |some f=>
    rw [p8] at hk hG;have hf:=hP f (List.mem_of_find?_eq_some p8);obtain ⟨j,HE,I9⟩:=xg (i:=0) p8;rw [Nat.zero_add] at HE;have hjl:=(List.getElem?_eq_some_iff.1 I9).1;obtain ⟨Mr,fp,fb,⟨ro,rn,rm,rl⟩⟩:=f;have Hu:args.length=fp.length:=oT hk;have Fc:fp.length<=1073741824:=Nat.le_trans hf.2.2.2.1 (by decide);simp only at hG;refine bQ (fun Z=>Z=⟨[(0,.box 0 0),(1,.d (.sl 7 (bF (d1++(Sm.mk ap name proc args cond ao aK)::cw)))),(4,.d (aD d1.length)),(5,.box 2 0),(12,.box 3 0)],[.box 238 [.d (.sl 1 (strs nm)),.d (.s (kv q0)),.d (.sl 2 (ey ay)),.d (.sl 1 (ni ks)),.d (.sl 7 (c_ ps)),.d (.sl 1 (numsD inp)),.d (aD F),.d (aD (st+1)),.d (aW ⟨#[]⟩)],.arrs false (q0::ks) (gF nm vs::plL ay ar),.box 228 ((Sm.mk ap name proc args cond ao aK).cs.map PV.d),.box 145 ((Pc.mk Mr fp fb (.mk ro rn rm rl)).cs.map PV.d)]⟩) ?_ ?_
    ·refine (dW MY [14] (fun i=>Nat.beq i 0||Nat.beq i 2) (by kernel_rfl) fun J O=>?_);refine aI ?_ ?_
     ·refine sH ?_;have Lg:=jy G ps proc (by omega);rw [HE] at Lg;refine aS [] Lg ?_;refine oN (eI _ (aI (FB I9) ?_));refine aI ?_ ?_
      ·refine O _ ?_;clear O J;exact ⟨_,ak (slots:=[0,1,4,5,12]) rfl rfl,rfl⟩
      refine aI ?_ ?_
      ·refine O _ ?_;clear O J;exact ⟨_,ak (slots:=[0,1,4,5,12]) rfl rfl,rfl⟩
      trivial
     refine aI ?_ ?_
     ·refine sH ?_;have Lg:=jy G ps proc (by omega);rw [HE] at Lg;refine aS [] Lg ?_;refine oN (eI _ (aI (FB I9) ?_));refine O _ ?_;clear O J;exact ⟨_,ak (slots:=[0,1,4,5,12]) rfl rfl,rfl⟩
     trivial
    rintro Z rfl;refine aa (rz [0,1,4,5,12,13] ?_);refine af (aB (fun k Y=>∃(d2 e2:List BA) (sa:List (BA×Int)) (w:Bool),k=e2.length/\fp=d2++e2/\Tc w ⟨sa,ar,inp,(st+1)⟩ ((((jO e2 (args.drop d2.length) ⟨sa,ar,inp,(st+1)⟩).bind fun S=>cF ps F m fb S).bind fun S=>dh S (.mk ro rn rm rl) fun a=>.ok { S with vs:=ff S.vs name a }).bind fun S=>cF ps F (m+1) cw S)=R/\(w=true\/SOk F ⟨sa,ar,inp,(st+1)⟩)/\(∀v,v∈e2->eC nm v=true)/\Y=⟨[(0,.box 0 0),(1,.d (.sl 7 (bF (d1++(Sm.mk ap name proc args cond ao aK)::cw)))),(4,.d (aD d1.length)),(5,.box 2 0),(12,.box 3 0),(13,.d (aD d2.length))],[.box 238 [.d (.sl 1 (strs nm)),.d (.s (kv q0)),.d (.sl 2 (ey ay)),.d (.sl 1 (ni ks)),.d (.sl 7 (c_ ps)),.d (.sl 1 (numsD inp)),.d (aD F),.d (aD (st+1)),.d (aW (Tb w))],.arrs false (q0::ks) (gF nm sa::plL ay ar),.box 228 ((Sm.mk ap name proc args cond ao aK).cs.map PV.d),.box 145 ((Pc.mk Mr fp fb (.mk ro rn rm rl)).cs.map PV.d)]⟩) (fp.length) (⟨[],fp,vs,false,rfl,rfl,hG,.inr dy,hf.2.2.2.2,rfl⟩) ?_);clear hG;rintro k Y ⟨d2,e2,sa,w,rfl,du,hG,Xv,Xw,rfl⟩;have dI:(strs fp).length=d2.length+e2.length:=by rw [ag,du,lA]
    have fK:d2.length+e2.length<=1073741824:=by rw [du,lA] at Fc;exact Fc
    refine aa (rS fun J O=>?_);refine ab (fun h7=>?_) (fun h7=>?_)
    ·have Mv:=oT h7;rw [dI] at Mv;refine O _ (aM [0,1,4,5,12,13,189] ?_);clear O J;refine cQ rfl (fun h8=>?_) fun h8=>?_
     ·obtain rfl:=Oo h8;have HM:SOk F ⟨sa,ar,inp,(st+1)⟩:=by
       rcases Xv with h|h
       ·cases h
       exact h
      cases e2 with
      |nil=>simp only [lN] at Mv;omega
      |cons v ke=>
      simp only [lC] at fK;have Ut:=Xw v (List.mem_cons_self ..);have Te:=fun z hz=>Xw z (List.mem_cons_of_mem _ hz)
      have Ld:fp.length=d2.length+(ke.length+1):=by rw [du,lA,lC]
      obtain ⟨⟨o2,n2,m2,l2⟩,hy⟩:∃y,args[d2.length]? = some y:=⟨_,List.getElem?_eq_getElem (by omega)⟩;have YZ:=FC RT hy;simp only [Tc] at hG;rw [Fb hy] at hG;simp only [jO] at hG;refine ac (aa ?_);refine af ((dW MZ [11] (fun i=>Nat.beq i 2||Nat.beq i 3) (by kernel_rfl) fun J O=>oN (eI _ (aI (pQ du) ?_))));refine oN (eI _ (aI (yL hy) ?_));refine sH ?_;have a_:=uJ G nm q0 ay ks ps ga je sa ar inp F (st+1) ⟨#[]⟩ v (.mk o2 n2 m2 l2) uo Ut YZ HM.v HM.a fH;cases aJ:fg sa ar (.mk o2 n2 m2 l2) with
      |none=>
       rw [aJ] at a_;simp only [Qz,DA] at a_;refine aS [0,1] a_ ?_;refine O _ (aM [0,1,4,5,12,13] ?_);clear O J;refine rG fun J O=>O _ ?_;clear O J
       try simp only [MO.bind,dh,aJ] at hG
       exact ⟨_,nS _,_,aG (L:=[0,1,2,3]) (slots:=[0,1,4,5,12,13]) rfl rfl rfl rfl rfl,d2++[v],ke,sa,true,rfl,by rw [du];simp,hG,.inl rfl,Te,by rw [lA,aH (by omega) (by omega)];rfl⟩
      |some a2=>
       rw [aJ] at a_;simp only [Qz,DA] at a_;have CD:=gN HM.v HM.a (.mk o2 n2 m2 l2) a2 aJ;refine aS [0,1] a_ ?_;refine O _ (aM [0,1,4,5,12,13] ?_);clear O J;refine rG fun J O=>O _ ?_;clear O J
       try simp only [dh,aJ] at hG
       exact ⟨_,nS _,_,aG (L:=[0,1,2,3]) (slots:=[0,1,4,5,12,13]) rfl rfl rfl rfl rfl,d2++[v],ke,(ff sa v a2),false,rfl,by rw [du];simp,(by rw [lA];exact hG),.inr ⟨dx HM.v CD,HM.a,HM.i,HM.s0,HM.sF⟩,Te,by rw [lA,aH (by omega) (by omega)];rfl⟩
     obtain rfl:=Oq h8;simp only [Tc] at hG;refine aA ?_;refine aq [0,1,4,5,12] rfl rfl ?_;refine aa (rz [0,1,4,5,12,208] ?_);refine cQ rfl (fun h9=>?_) fun h9=>?_
     ·exact (mw BW h9).elim
     refine ac (rz [0,1,4,5,12,217] ?_);refine cQ rfl (fun dO=>?_) fun dO=>?_
     ·exact (mw BW dO).elim
     refine ac (rz [0,1,4,273] ?_);refine cQ rfl (fun qV=>?_) fun qV=>?_
     ·refine ae ?_;try simp only [bn,MO.bind,dh,dk,h9,dO,qV] at hG
      subst hG;exact lF [0,1] [] (h6:=PWs.nil)
     exact (lh BW qV).elim
    have Mv:=oF h7;rw [dI] at Mv;obtain rfl:e2=[]:=lE (by omega);refine O _ (aM [0,1,4,5,12,13,189] ?_);clear O J;refine aj rfl (aA ?_);refine aq [0,1,4,5,12] rfl rfl ?_;refine aa (rz [0,1,4,5,12,208] ?_);refine cQ rfl (fun h8=>?_) fun h8=>?_
    ·obtain rfl:=Oo h8;have HM:SOk F ⟨sa,ar,inp,(st+1)⟩:=by
      rcases Xv with h|h
      ·cases h
      exact h
     simp only [Tc,jO,MO.bind] at hG;refine rG fun J O=>sH ?_;have a_:=ih m (by omega) fb ⟨sa,ar,inp,(st+1)⟩ hf.1 hf.2.2.1 HM fH
     cases aJ:cF ps F m fb ⟨sa,ar,inp,(st+1)⟩ with
     |out=>
      try simp only [dh,aJ] at hG
      cases aO hG.symm
     |stop k2 T2=>
      rw [aJ] at a_;have Tf:=(rx ps F m).1 fb ⟨sa,ar,inp,(st+1)⟩ k2 T2 aJ;obtain ⟨Oh,Lf,Jb,Jc⟩:=T2;refine aS [0,1] (a_ nofun) ?_;try simp only [dh,aJ] at hG
      refine O _ (aM [0,1,4,5,12] ?_);clear O J;refine rz [0,1,4,5,12,217] ?_;refine cQ rfl (fun h9=>?_) fun h9=>?_
      ·exact (mw Tf h9).elim
      refine ac (rz [0,1,4,273] ?_);refine cQ rfl (fun dO=>?_) fun dO=>?_
      ·refine ae ?_;try simp only [bn,MO.bind,dh,dk,h9,dO] at hG
       subst hG;exact lF [0,1] [] (h6:=PWs.nil)
      exact (lh Tf dO).elim
     |ok T2=>
      rw [aJ] at a_;have oK:=(kN ps F m).1 fb ⟨sa,ar,inp,(st+1)⟩ HM _ aJ;have Tg:=FA ((rh (P:=fun ar=>KsOk nm q0 ay ks ar) (fun ar s i n q=>uP ar s i n q) ps F m).1 fb ⟨sa,ar,inp,(st+1)⟩ fH) aJ;obtain ⟨Oh,Lf,Jb,Jc⟩:=T2;refine aS [0,1] (a_ nofun) ?_;try simp only [dh,aJ] at hG
      refine O _ (aM [0,1,4,5,12] ?_);clear O J;refine rz [0,1,4,5,12,217] ?_;refine cQ rfl (fun h9=>?_) fun h9=>?_
      ·refine rG fun J O=>sH ?_
       have cz:=uJ G nm q0 ay ks ps ga je Oh Lf Jb F Jc ⟨#[]⟩ name (.mk ro rn rm rl) uo Fh hf.2.1 oK.v oK.a Tg;cases bh:fg Oh Lf (.mk ro rn rm rl) with
       |none=>
        rw [bh] at cz;simp only [Qz,DA] at cz;refine aS [0,1] cz ?_;refine O _ (aM [0,1,4] ?_);clear O J;refine rz [0,1,4,273] ?_;refine cQ rfl (fun dO=>?_) fun dO=>?_
        ·refine ae ?_;try simp only [bh] at hG
         subst hG;exact lF [0,1] [] (h6:=PWs.nil)
        exact (lh nL dO).elim
       |some a3=>
        rw [bh] at cz;simp only [Qz,DA] at cz;have K_:=gN oK.v oK.a (.mk ro rn rm rl) a3 bh;refine aS [0,1] cz ?_;refine O _ (aM [0,1,4] ?_);clear O J;refine rz [0,1,4,273] ?_;refine cQ rfl (fun dO=>?_) fun dO=>?_
        ·simp at dO
        refine ac (rG fun J O=>O _ ?_);clear O J;try simp only [bh] at hG
        exact ⟨_,nS _,_,aG (L:=[0,1]) (slots:=[0,1,4]) rfl rfl rfl rfl rfl,d1++[(Sm.mk ap name proc args cond ao aK)],cw,(ff Oh name a3),Lf,Jb,Jc,m+1,rfl,by simp,hG,hr,by omega,⟨dx oK.v K_,oK.a,oK.i,oK.s0,oK.sF⟩,Tg,by omega,by rw [lA,aH (by omega) (by omega)];rfl⟩
      simp at h9
    obtain rfl:=Oq h8;simp only [Tc] at hG;refine ac (rz [0,1,4,5,12,217] ?_);refine cQ rfl (fun h9=>?_) fun h9=>?_
    ·exact (mw BW h9).elim
    refine ac (rz [0,1,4,273] ?_);refine cQ rfl (fun dO=>?_) fun dO=>?_
    ·refine ae ?_;try simp only [bn,MO.bind,dh,dk,h9,dO] at hG
     subst hG;exact lF [0,1] [] (h6:=PWs.nil)
    exact (lh BW dO).elim
   simp only [h6] at hG hk;refine rz [0,1,4,5,31,224] ?_;refine cQ rfl (fun h7=>?_) fun h7=>?_
   ·simp only [h7] at hG hk;refine rS fun J O=>sH ?_;have a_:=mq G nm q0 ay ks ps ga je vs ar inp F (st+1) ⟨#[]⟩ cond Og (by omega) dy.v dy.a fH
    cases aJ:dz vs ar cond with
    |none=>
     rw [aJ] at a_;simp only [Lj,vS] at a_;refine aS [0,1] a_ ?_;refine O _ (aM [0,1,4,5,14] ?_);clear O J;refine aa (rS fun J O=>?_);refine ab (fun h8=>?_) (fun h8=>?_)
     ·exact (mw nL h8).elim
     refine O _ (aM [0,1,4,5,14,237] ?_);clear O J;refine aj rfl (ac ?_);refine rS fun J O=>?_;refine ab (fun h9=>?_) (fun h9=>?_)
     ·exact (mw nL h9).elim
     refine O _ (aM [0,1,4,5,250] ?_);clear O J;refine aj rfl (ac ?_);refine rz [0,1,4,273] ?_;refine cQ rfl (fun dO=>?_) fun dO=>?_
     ·refine ae ?_;try simp only [dk,aJ] at hG
      subst hG;exact lF [0,1] [] (h6:=PWs.nil)
     exact (lh nL dO).elim
    |some b2=>
     cases b2 with
     |true=>
      rw [aJ] at a_;simp only [Lj,vS] at a_;refine aS [0,1] a_ ?_;refine O _ (aM [0,1,4,5,14] ?_);clear O J;refine aa (rS fun J O=>?_);refine ab (fun h8=>?_) (fun h8=>?_)
      ·refine O _ (aM [0,1,4,5,14,237] ?_);clear O J;refine aj rfl (rG fun J O=>sH ?_);have cz:=ih m (by omega) ao ⟨vs,ar,inp,(st+1)⟩ hb (by omega) dy fH;cases bh:cF ps F m ao ⟨vs,ar,inp,(st+1)⟩ with
       |out=>
        try simp only [dk,aJ,bh] at hG
        cases aO hG.symm
       |stop k3 T3=>
        rw [bh] at cz;have G0:=(rx ps F m).1 ao ⟨vs,ar,inp,(st+1)⟩ k3 T3 bh;obtain ⟨CE,zV,kO,wV⟩:=T3;refine aS [0,1] (cz nofun) ?_;try simp only [dk,aJ,bh] at hG
        refine O _ (aM [0,1,4,5,14] ?_);clear O J;refine rS fun J O=>?_;refine ab (fun h9=>?_) (fun h9=>?_)
        ·exact (mw G0 h9).elim
        refine O _ (aM [0,1,4,5,250] ?_);clear O J;refine aj rfl (ac ?_);refine rz [0,1,4,273] ?_;refine cQ rfl (fun dO=>?_) fun dO=>?_
        ·refine ae ?_;try simp only [bn,MO.bind,dh,dk,h2,h3,h4,h5,h6,h7,aJ,h9,dO] at hG
         subst hG;exact lF [0,1] [] (h6:=PWs.nil)
        exact (lh G0 dO).elim
       |ok T3=>
        rw [bh] at cz;have Fe:=(kN ps F m).1 ao ⟨vs,ar,inp,(st+1)⟩ dy _ bh;have JU:=FA ((rh (P:=fun ar=>KsOk nm q0 ay ks ar) (fun ar s i n q=>uP ar s i n q) ps F m).1 ao ⟨vs,ar,inp,(st+1)⟩ fH) bh;obtain ⟨CE,zV,kO,wV⟩:=T3;refine aS [0,1] (cz nofun) ?_;try simp only [dk,aJ,bh] at hG
        refine O _ (aM [0,1,4,5,14] ?_);clear O J;refine rS fun J O=>?_;refine ab (fun h9=>?_) (fun h9=>?_)
        ·refine O _ (aM [0,1,4,5,250] ?_);clear O J;refine aj rfl (ac ?_);refine rz [0,1,4,273] ?_;refine cQ rfl (fun dO=>?_) fun dO=>?_
         ·simp at dO
         refine ac (rG fun J O=>O _ ?_);clear O J;try simp only [bn,MO.bind,dh,dk,h2,h3,h4,h5,h6,h7,aJ,dO] at hG
         exact ⟨_,nS _,_,aG (L:=[0,1]) (slots:=[0,1,4]) rfl rfl rfl rfl rfl,d1++[(Sm.mk ap name proc args cond ao aK)],cw,CE,zV,kO,wV,m+1,rfl,by simp,hG,hr,by omega,Fe,JU,by omega,by rw [lA,aH (by omega) (by omega)];rfl⟩
        simp at h9
      simp at h8
     |false=>
      rw [aJ] at a_;simp only [Lj,vS] at a_;refine aS [0,1] a_ ?_;refine O _ (aM [0,1,4,5,14] ?_);clear O J;refine aa (rS fun J O=>?_);refine ab (fun h8=>?_) (fun h8=>?_)
      ·refine O _ (aM [0,1,4,5,14,237] ?_);clear O J;refine aj rfl (ac ?_);refine rS fun J O=>?_
       refine ab (fun h9=>?_) (fun h9=>?_)
       ·refine O _ (aM [0,1,4,5,250] ?_);clear O J;refine aj rfl (rG fun J O=>sH ?_);have cz:=ih m (by omega) aK ⟨vs,ar,inp,(st+1)⟩ he (by omega) dy fH;cases bh:cF ps F m aK ⟨vs,ar,inp,(st+1)⟩ with
        |out=>
         try simp only [dk,aJ,bh] at hG
         cases aO hG.symm
        |stop k3 T3=>
         rw [bh] at cz;have G0:=(rx ps F m).1 aK ⟨vs,ar,inp,(st+1)⟩ k3 T3 bh;obtain ⟨CE,zV,kO,wV⟩:=T3;refine aS [0,1] (cz nofun) ?_;try simp only [dk,aJ,bh] at hG
         refine O _ (aM [0,1,4] ?_);clear O J;refine rz [0,1,4,273] ?_;refine cQ rfl (fun dO=>?_) fun dO=>?_
         ·refine ae ?_;try simp only [bn,MO.bind,dh,dk,h2,h3,h4,h5,h6,h7,aJ,dO] at hG
          subst hG;exact lF [0,1] [] (h6:=PWs.nil)
         exact (lh G0 dO).elim
        |ok T3=>
         rw [bh] at cz;have Fe:=(kN ps F m).1 aK ⟨vs,ar,inp,(st+1)⟩ dy _ bh;have JU:=FA ((rh (P:=fun ar=>KsOk nm q0 ay ks ar) (fun ar s i n q=>uP ar s i n q) ps F m).1 aK ⟨vs,ar,inp,(st+1)⟩ fH) bh;obtain ⟨CE,zV,kO,wV⟩:=T3;refine aS [0,1] (cz nofun) ?_;try simp only [dk,aJ,bh] at hG
         refine O _ (aM [0,1,4] ?_);clear O J;refine rz [0,1,4,273] ?_;refine cQ rfl (fun dO=>?_) fun dO=>?_
         ·simp at dO
         refine ac (rG fun J O=>O _ ?_);clear O J;try simp only [bn,MO.bind,dh,dk,h2,h3,h4,h5,h6,h7,aJ,dO] at hG
         exact ⟨_,nS _,_,aG (L:=[0,1]) (slots:=[0,1,4]) rfl rfl rfl rfl rfl,d1++[(Sm.mk ap name proc args cond ao aK)],cw,CE,zV,kO,wV,m+1,rfl,by simp,hG,hr,by omega,Fe,JU,by omega,by rw [lA,aH (by omega) (by omega)];rfl⟩
       simp at h9
      simp at h8
   simp only [h7] at hG hk;refine rz [0,1,4,5,255] ?_;refine cQ rfl (fun h8=>?_) fun h8=>?_
   ·simp only [h8] at hG hk;refine af (aq [0,1,4,5] rfl rfl ?_);refine aB (fun k Y=>∃(wv:List (BA×Int)) (wa:List (BA×List Int)) (wi:List Int) (ws:Int) (m2:Nat),k=m2/\((rX ps F m2 cond ao ⟨wv,wa,wi,ws⟩).bind fun S=>cF ps F (m+1) cw S)=R/\m2<=m/\SOk F ⟨wv,wa,wi,ws⟩/\KsOk nm q0 ay ks wa/\Y=⟨[(0,.box 0 0),(1,.d (.sl 7 (bF (d1++(Sm.mk ap name proc args cond ao aK)::cw)))),(4,.d (aD d1.length)),(5,.box 2 0)],[.box 238 [.d (.sl 1 (strs nm)),.d (.s (kv q0)),.d (.sl 2 (ey ay)),.d (.sl 1 (ni ks)),.d (.sl 7 (c_ ps)),.d (.sl 1 (numsD wi)),.d (aD F),.d (aD ws),.d (aW ⟨#[]⟩)],.arrs false (q0::ks) (gF nm wv::plL ay wa),.box 228 ((Sm.mk ap name proc args cond ao aK).cs.map PV.d)]⟩) (m) (⟨vs,ar,inp,(st+1),m,rfl,hG,nR _,dy,fH,rfl⟩) ?_;clear hG;rintro k Y ⟨wv,wa,wi,ws,m2,rfl,hG,HJ,oK,UA,rfl⟩;cases k with
    |zero=>simp only [rX,MO.bind] at hG;cases aO hG.symm
    |succ m2=>
    simp only [rX] at hG;refine aa (rS fun J O=>sH ?_);have a_:=mq G nm q0 ay ks ps ga je wv wa wi F ws ⟨#[]⟩ cond Og (by omega) oK.v oK.a UA;cases aJ:dz wv wa cond with
    |none=>
     rw [aJ] at a_;simp only [Lj,vS] at a_;refine aS [0,1] a_ ?_;refine O _ (aM [0,1,4,5,260] ?_);clear O J;refine aj rfl (aA ?_);refine aq [0,1,4] rfl rfl ?_;refine rz [0,1,4,273] ?_;refine cQ rfl (fun h9=>?_) fun h9=>?_
     ·refine ae ?_;try simp only [MO.bind,dk,aJ] at hG
      subst hG;exact lF [0,1] [] (h6:=PWs.nil)
     exact (lh nL h9).elim
    |some b2=>
     cases b2 with
     |true=>
      rw [aJ] at a_;simp only [Lj,vS] at a_;refine aS [0,1] a_ ?_;refine O _ (aM [0,1,4,5,260] ?_);clear O J;refine aj rfl (ac ?_);refine af (rS fun J O=>sH ?_);have cz:=ih m2 (by omega) ao ⟨wv,wa,wi,ws⟩ hb (by omega) oK UA;cases bh:cF ps F m2 ao ⟨wv,wa,wi,ws⟩ with
      |out=>
       try simp only [MO.bind,dk,aJ,bh] at hG
       cases aO hG.symm
      |stop k3 T3=>
       rw [bh] at cz;have G0:=(rx ps F m2).1 ao ⟨wv,wa,wi,ws⟩ k3 T3 bh;obtain ⟨CE,zV,kO,wV⟩:=T3;refine aS [0,1] (cz nofun) ?_;try simp only [MO.bind,dk,aJ,bh] at hG
       refine O _ (aM [0,1,4,5] ?_);clear O J;refine rS fun J O=>aS [0] (GS G nm q0 ay ks ps kO F wV _ G0) ?_;refine O _ (aM [0,1,4,5,6] ?_);clear O J;refine rz [0,1,4,5,268] ?_;refine cQ rfl (fun h9=>?_) fun h9=>?_
       ·refine ae ?_;try simp only [bn,MO.bind,dh,dk,h2,h3,h4,h5,h6,h7,h8,aJ,h9] at hG
        subst hG;exact lF [0,1] [] (h6:=PWs.nil)
       exact absurd h9 (by decide)
      |ok T3=>
       rw [bh] at cz;have Fe:=(kN ps F m2).1 ao ⟨wv,wa,wi,ws⟩ oK _ bh;have JU:=FA ((rh (P:=fun ar=>KsOk nm q0 ay ks ar) (fun ar s i n q=>uP ar s i n q) ps F m2).1 ao ⟨wv,wa,wi,ws⟩ UA) bh;obtain ⟨CE,zV,kO,wV⟩:=T3;refine aS [0,1] (cz nofun) ?_;try simp only [MO.bind,dk,aJ,bh] at hG
       refine O _ (aM [0,1,4,5] ?_);clear O J;refine rS fun J O=>sH ?_
       cases G1:(wV==F) with
       |true=>
        refine aS [0] (si G nm q0 ay ks ps kO F wV G1) ?_;try simp only [G1,er] at hG
        refine O _ (aM [0,1,4,5,6] ?_);clear O J;refine rz [0,1,4,5,268] ?_;refine cQ rfl (fun h9=>?_) fun h9=>?_
        ·refine ae ?_;try simp only [bn,MO.bind,dh,dk,h2,h3,h4,h5,h6,h7,h8,aJ,G1,h9] at hG
         subst hG;exact lF [0,1] [] (h6:=PWs.nil)
        exact absurd h9 (by decide)
       |false=>
        have Th:=Fe.s0;have VS:=Fe.sF;have VA:SOk F ⟨CE,zV,kO,wV+1⟩:=nf Fe _ (by simp only [er,G1]);simp only at Th VS;refine aS [0] (BE G nm q0 ay ks ps kO F wV G1 Th (by omega)) ?_;try simp only [G1,er] at hG
        refine O _ (aM [0,1,4,5,6] ?_);clear O J;refine rz [0,1,4,5,268] ?_;refine cQ rfl (fun h9=>?_) fun h9=>?_
        ·exact absurd h9 (by decide)
        refine ac ?_;try simp only [bn,MO.bind,dh,dk,h2,h3,h4,h5,h6,h7,h8,aJ,h9] at hG
        exact ⟨m2,nS _,_,aG (L:=[0,1,2]) (slots:=[0,1,4,5]) rfl rfl rfl rfl rfl,CE,zV,kO,(wV+1),m2,rfl,hG,by omega,VA,JU,rfl⟩
     |false=>
      rw [aJ] at a_;simp only [Lj,vS] at a_;refine aS [0,1] a_ ?_;refine O _ (aM [0,1,4,5,260] ?_);clear O J;refine aj rfl (aA ?_);refine aq [0,1,4] rfl rfl ?_;refine rz [0,1,4,273] ?_;refine cQ rfl (fun h9=>?_) fun h9=>?_
      ·simp at h9
      refine ac (rG fun J O=>O _ ?_);clear O J;try simp only [MO.bind,dk,aJ] at hG
      exact ⟨_,nS _,_,aG (L:=[0,1]) (slots:=[0,1,4]) rfl rfl rfl rfl rfl,d1++[(Sm.mk ap name proc args cond ao aK)],cw,wv,wa,wi,ws,m+1,rfl,by simp,hG,hr,by omega,oK,UA,by omega,by rw [lA,aH (by omega) (by omega)];rfl⟩
   simp only [h8] at hG hk;simp only [Bool.false_or,Bool.or_eq_true] at hk;have Xx:((dk ⟨vs,ar,inp,(st+1)⟩ cond fun b=>match b with
     |true=>.ok ⟨vs,ar,inp,(st+1)⟩
     |false=>.stop (QN ap) ⟨vs,ar,inp,(st+1)⟩).bind fun S=>cF ps F (m+1) cw S)=R:=by
    rw [<- hG];rcases hk with hk|hk
    ·simp only [QN,hk];rfl
    cases hq:(ap.toList==(⟨#[97,115,115,117,109,101]⟩:BA).toList);all_goals
     simp only [QN,hk,hq];rfl
   clear hG;have hG:=Xx;clear Xx;refine rS fun J O=>sH ?_;have a_:=mq G nm q0 ay ks ps ga je vs ar inp F (st+1) ⟨#[]⟩ cond Og (by omega) dy.v dy.a fH
   cases aJ:dz vs ar cond with
   |none=>
    rw [aJ] at a_;simp only [Lj,vS] at a_;refine aS [0,1] a_ ?_;refine O _ (aM [0,1,4,5,15] ?_);clear O J;refine aa (rS fun J O=>?_);refine ab (fun h9=>?_) (fun h9=>?_)
    ·exact (mw nL h9).elim
    refine O _ (aM [0,1,4,15,49] ?_);clear O J;refine aj rfl (ac ?_);refine rS fun J O=>?_;refine ab (fun dO=>?_) (fun dO=>?_)
    ·exact (mw nL dO).elim
    refine O _ (aM [0,1,4,61] ?_);clear O J;refine aj rfl (ac ?_);refine rz [0,1,4,273] ?_;refine cQ rfl (fun qV=>?_) fun qV=>?_
    ·refine ae ?_;try simp only [MO.bind,dk,aJ] at hG
     subst hG;exact lF [0,1] [] (h6:=PWs.nil)
    exact (lh nL qV).elim
   |some b2=>
    cases b2 with
    |true=>
     rw [aJ] at a_;simp only [Lj,vS] at a_;refine aS [0,1] a_ ?_;refine O _ (aM [0,1,4,5,15] ?_);clear O J;refine aa (rS fun J O=>?_);refine ab (fun h9=>?_) (fun h9=>?_)
     ·refine O _ (aM [0,1,4,15,49] ?_);clear O J;refine aj rfl (ac ?_);refine rS fun J O=>?_
      refine ab (fun dO=>?_) (fun dO=>?_)
      ·refine O _ (aM [0,1,4,61] ?_);clear O J;refine aj rfl (ac ?_);refine rz [0,1,4,273] ?_;refine cQ rfl (fun qV=>?_) fun qV=>?_
       ·simp at qV
       refine ac (rG fun J O=>O _ ?_);clear O J;try simp only [MO.bind,dk,aJ] at hG
       exact ⟨_,nS _,_,aG (L:=[0,1]) (slots:=[0,1,4]) rfl rfl rfl rfl rfl,d1++[(Sm.mk ap name proc args cond ao aK)],cw,vs,ar,inp,(st+1),m+1,rfl,by simp,hG,hr,by omega,dy,fH,by omega,by rw [lA,aH (by omega) (by omega)];rfl⟩
      simp at dO
     simp at h9
    |false=>
     rw [aJ] at a_;simp only [Lj,vS] at a_;refine aS [0,1] a_ ?_;refine O _ (aM [0,1,4,5,15] ?_);clear O J;refine aa (rS fun J O=>?_);refine ab (fun h9=>?_) (fun h9=>?_)
     ·refine O _ (aM [0,1,4,15,49] ?_);clear O J;refine cQ rfl (fun dO=>?_) fun dO=>?_
      ·refine rG fun J O=>O _ (aM [0,1,4,15] ?_);clear O J;refine rS fun J O=>?_
       refine ab (fun qV=>?_) (fun qV=>?_)
       ·exact (mw QJ qV).elim
       refine O _ (aM [0,1,4,61] ?_);clear O J;refine aj rfl (ac ?_);refine rz [0,1,4,273] ?_;refine cQ rfl (fun QU=>?_) fun QU=>?_
       ·refine ae ?_;try simp only [MO.bind,dk,QN,aJ,dO] at hG
        subst hG;exact lF [0,1] [] (h6:=PWs.nil)
       exact (lh QJ QU).elim
      refine ac (rS fun J O=>?_);refine ab (fun qV=>?_) (fun qV=>?_)
      ·refine O _ (aM [0,1,4,61] ?_);clear O J;refine aj rfl (rG fun J O=>O _ (aM [0,1,4] ?_));clear O J;refine rz [0,1,4,273] ?_;refine cQ rfl (fun QU=>?_) fun QU=>?_
       ·refine ae ?_;try simp only [MO.bind,dk,QN,aJ,dO] at hG
        subst hG;exact lF [0,1] [] (h6:=PWs.nil)
       exact (lh Ta QU).elim
      simp at qV
     simp at h9
 have bO:=oF h1;rw [bu] at bO;obtain rfl:e1=[]:=lE (by omega);cases m with
 |zero=>simp only [cF] at hG;cases aO hG.symm
 |succ m=>
 simp only [cF] at hG;refine aA ?_;try simp only [bn,MO.bind,dh,dk] at hG
 subst hG;exact lF [0,1] [] (h6:=PWs.nil)
theorem zn(ga:nm.length<=12)(je:ay.length<=12)(zU:ps.length<=1073741824)(uo:nm.Nodup)(Dq:(arN ay).Nodup)(hF:F<=1000000000000)(hP:Uw nm (arN ay) ps):∀n m:Nat,m<=n->QO G nm q0 ay ks ps F m
 |0,m,h=>fun l S _ _ _ _ aO=>by
  obtain rfl:m=0:=by omega
  simp only [cF] at aO;exact absurd rfl aO
 |n+1,m,h=>by
  rcases Nat.lt_or_ge m (n+1) with q|q
  ·exact zn ga je zU uo Dq hF hP n m (by omega)
  obtain rfl:m=n+1:=by omega
  exact M0 G nm q0 ay ks ps F ga je zU uo Dq hF hP n (zn ga je zU uo Dq hF hP n)
end
end
section
theorem sn(ks:List (Nat×Nat)):(ni ks).length=ks.length:=by simp [ni]
theorem JV(nm:List BA):gF nm []=List.replicate (nm.length+1) 0:=by
 unfold gF;rw [List.replicate_succ']
 congr 1
 induction nm with
 |nil=>rfl
 |cons x r ih=>rw [List.map_cons,ih,lC,List.replicate_succ];rfl
theorem xh:∀ {l:List Ar}{a:Ar},(arN l).Nodup->a∈l->ef (vF l) a.name=List.replicate a.size.toNat 0
 |[],a,_,h=>by cases h
 |b::r,a,hn,h=>by
  simp only [arN,List.map_cons,List.nodup_cons] at hn;simp only [vF,List.map_cons,ef,cR];rcases List.mem_cons.1 h with rfl|h
  ·simp only [decide_true]
  have e:a.name≠b.name:=fun e=>hn.1 (e▸List.mem_map.2 ⟨a,h,rfl⟩);simp only [e,decide_false];exact xh hn.2 h
theorem FD{l:List Ar}(hn:(arN l).Nodup):plL l (vF l)=l.map fun a=>List.replicate a.size.toNat 0:=List.map_congr_left fun _ ha=>xh hn ha
theorem M1(ks:List (Nat×Nat))(q:Nat×Nat):ni ks++[[.s (kv q)]]=ni (ks++[q]):=by simp [ni]
theorem JW(d:List Ar)(a:Ar):(d.map fun a=>List.replicate a.size.toNat (0:Int))++[List.replicate a.size.toNat 0]=(d++[a]).map fun a=>List.replicate a.size.toNat (0:Int):=by simp
theorem BX(az pr:List BA)(vs:List (BA×Int)):(numsD (gF (az++pr) vs)).take (strs az).length=numsD (az.map (iM vs)):=by
 rw [ag];unfold numsD gF;rw [<- List.map_take,List.map_append,List.append_assoc,List.take_append_of_le_length (by simp)]
 congr 1
 exact List.take_of_length_le (by simp)
theorem JX(ay:List Ar)(ar:List (BA×List Int)):((plL ay ar).map fun l=>[Data.sl 1 (numsD l)])=uz ar ay:=by simp [plL,uz]
section
variable (G:Glob) (az:List BA) (ah:List Ar) (procs:List Pc) (main:List Sm) (inp:List Int) (F:Int)
def QW:Plan:=(.take 0 (.take 1 (.take 2 (.take 3 (.load 4 (.take 5 (.load 6 (.one 7 (.take 8 (.take 9 (.one 10 .done)))))))))))
def QX:Plan:=(.take 0 (.take 1 (.take 2 (.take 3 (.load 4 (.take 5 (.load 6 (.take 7 (.take 8 (.take 9 (.load 10 (.one 11 (.take 12 (.take 13 (.one 14 .done)))))))))))))))
def M2:Plan:=(.take 0 (.take 1 (.take 2 (.take 3 (.load 4 (.take 5 (.load 6 (.take 7 (.take 8 (.take 9 (.load 10 (.one 11 (.one 12 (.one 13 (.take 14 (.take 15 (.one 16 .done)))))))))))))))))
theorem DR(rZ:(az++prmF procs).length<=12)(Fc:procs.length<=1073741824)(Dq:ah.length<=12)(UB:inp.length<=1000)(Qm:(arN ah).Nodup)(Jr:∀a,a∈ah->1<=a.size/\a.size<=16):AA Tryz.prog G 122 [.d (.agg (Pg.cs ⟨az,ah,procs,main⟩)),.d (.sl 1 (numsD inp)),.d (aD F)] [] fun o r=>∃(q0:Nat×Nat) (ks:List (Nat×Nat)),KsOk (az++prmF procs) q0 ah ks (vF ah)/\o=.ret (.box 0 0)/\r=RS (az++prmF procs) q0 ah ks procs F ⟨[],vF ah,inp,0⟩ ⟨#[]⟩:=by
 have s8:az.length<=12:=by rw [lA] at rZ;omega
 have Y0:(prmF procs).length<=12:=by rw [lA] at rZ;omega
 refine od b8 (N:=91) Tryz.func122 rfl (by rfl) (fun _ _ ⟨_,_,_,_,e⟩=>by rw [e];exact Nat.zero_le _) rfl ?_;refine rz [1,2,3] ?_;refine rz [1,3,7] ?_;refine rS fun J O=>?_;refine aI (aI ((by simp only [cX];omega)) ((by simp only [cX,maxLen];omega))) ?_;refine O _ (aM [3,7] ?_);clear O J;refine aa ((dW QW [7,10] (fun i=>Nat.beq i 0||Nat.beq i 1) (by kernel_rfl) fun J O=>?_));refine aI (aI ((by simp only [ag];omega)) ((by simp only [ag,maxLen];omega))) ?_;refine O _ (aM [3,7] ?_);clear O J;refine aa (rz [3,7,8] ?_);refine af (aB (fun k Y=>∃(d1 e1:List Pc),k=e1.length/\procs=d1++e1/\Y=⟨[(3,.box 0 0),(7,.box 1 0),(8,.d (aD d1.length))],[.box 37 [.d (.sl 1 (strs az)),.d (.sl 2 (ey ah)),.d (.sl 7 (c_ procs)),.d (.sl 7 (bF main))],.box 238 [.acc 3,.d (.s (.slice none 0 0)),.d (.sl 2 (ey ah)),.d (.s (.slice none 0 0)),.d (.sl 7 (c_ procs)),.acc 2,.d (aD F),.d (aD 0),.d (aW ⟨#[]⟩)],.acc 3 1 (numsD inp),.acc 9 1 (strs (az++prmF d1))]⟩) (procs.length) (⟨[],procs,rfl,rfl,by rw [prmF,List.append_nil];rfl⟩) ?_);rintro k Y ⟨d1,e1,rfl,bV,rfl⟩
 have bu:(c_ procs).length=d1.length+e1.length:=by rw [aE,bV,lA]
 have cn:d1.length+e1.length<=1073741824:=by rw [bV,lA] at Fc;exact Fc
 refine aa (rz [3,7,8,40] ?_);refine cQ rfl (fun h1=>?_) fun h1=>?_
 ·have bO:=oT h1;rw [bu] at bO;cases e1 with
  |nil=>simp only [lN] at bO;omega
  |cons x cw=>
  obtain ⟨Mr,fp,fb,⟨ro,rn,rm,rl⟩⟩:=x;subst bV;simp only [lC] at cn;have Xy:=rZ;rw [l_,lA] at Xy;simp only [prmF,lA] at Xy;refine ac (aa ?_);refine af ((dW QX [11,14] (fun i=>Nat.beq i 0||Nat.beq i 1) (by kernel_rfl) fun J O=>oN (eI _ (aI (eM rfl) ?_))));refine aI (aI ((by simp only [ag,lA];omega)) ((by simp only [ag,lA,maxLen];omega))) ?_;refine O _ (aM [3,7,8] ?_);clear O J;refine rG fun J O=>O _ ?_;clear O J;exact ⟨_,nS _,_,aG (L:=[0,1,2,3]) (slots:=[3,7,8]) rfl rfl rfl rfl rfl,d1++[⟨Mr,fp,fb,.mk ro rn rm rl⟩],cw,rfl,by simp,by rw [<- yH,lA,aH (by omega) (by omega)];rfl⟩
 have bO:=oF h1;rw [bu] at bO;obtain rfl:e1=[]:=lE (by omega);rw [List.append_nil] at bV;subst bV;refine aA ?_;refine aq [3,7] rfl rfl ?_;refine rS fun J O=>?_;refine aI rfl (eI ((az++prmF procs).length+1) (aI (by rw [ag,aH (by omega) (by omega)];rfl) (aI (by show 8 * ((az++prmF procs).length+1)<=_;omega) (aI (by show (az++prmF procs).length+1<=9223372036854775807;omega) (Or.inr (aI rfl (fun b0=>?_)))))));refine O _ (aM [3,7] ?_);clear O J;refine cr 1 3 56 1 rfl rfl rfl rfl ?_;refine aq [3,7] rfl rfl ?_;refine aa (rz [3,7,9] ?_);refine af (aB (fun k Y=>∃(d2 e2:List Ar) (ks:List (Nat×Nat)),k=e2.length/\ah=d2++e2/\ks.map (·.2)=d2.map (fun a=>a.size.toNat)/\Y=⟨[(3,.box 0 0),(7,.box 1 0),(9,.d (aD d2.length))],[.box 37 [.d (.sl 1 (strs az)),.d (.sl 2 (ey ah)),.d (.sl 7 (c_ procs)),.d (.sl 7 (bF main))],.box 238 [.acc 3,.d (.s (kv (b0,((az++prmF procs).length+1)))),.d (.sl 2 (ey ah)),.acc 5,.d (.sl 7 (c_ procs)),.acc 2,.d (aD F),.d (aD 0),.d (aW ⟨#[]⟩)],.acc 3 1 (numsD inp),.acc 9 1 (strs (az++prmF procs)),.arrs false ((b0,((az++prmF procs).length+1))::ks) ((List.replicate ((az++prmF procs).length+1) 0)::d2.map fun a=>List.replicate a.size.toNat 0),.acc 56 1 (ni ks)]⟩) (ah.length) (⟨[],ah,[],rfl,rfl,rfl,rfl⟩) ?_);rintro k Y ⟨d2,e2,ks,rfl,du,VT,rfl⟩
 have dI:(ey ah).length=d2.length+e2.length:=by rw [bS,du,lA]
 have fK:d2.length+e2.length<=1073741824:=by rw [du,lA] at Dq;omega
 have Y1:ks.length=d2.length:=by have:=congrArg List.length VT;simpa using this
 refine aa (rz [3,7,9,71] ?_);refine cQ rfl (fun h2=>?_) fun h2=>?_
 ·have fe:=oT h2;rw [dI] at fe;cases e2 with
  |nil=>simp only [lN] at fe;omega
  |cons x ke=>
  obtain ⟨nm,sz⟩:=x;simp only [lC] at fK;have lB:=Jr ⟨nm,sz⟩ (by rw [du];simp);simp only at lB;refine ac (aa ?_);refine af ((dW M2 [13,16] (fun i=>Nat.beq i 0||Nat.beq i 1) (by kernel_rfl) fun J O=>oN (eI _ (aI (fL du) ?_))));refine aI rfl (eI sz.toNat (aI (Int.toNat_of_nonneg (show (0:Int)<=sz by omega)).symm (aI (by show 8 * sz.toNat<=_;omega) (aI (by show sz.toNat<=9223372036854775807;omega) (Or.inr (aI rfl (fun b=>?_)))))));refine aI (aI ((by simp only [sn,ai];omega)) ((by simp only [sn,ai,maxLen];omega))) ?_;refine O _ (aM [3,7,9] ?_);clear O J;refine Iq 4 6 rfl rfl rfl (by decide) (Nat.zero_le _) rfl rfl ?_;refine aq [3,7,9] rfl rfl ?_;refine rG fun J O=>O _ ?_;clear O J;exact ⟨_,nS _,_,aG (L:=[0,1,2,3,4,5]) (slots:=[3,7,9]) rfl rfl rfl rfl rfl,d2++[⟨nm,sz⟩],ke,ks++[(b,sz.toNat)],rfl,by rw [du];simp,by simp [VT],by rw [<- M1,@List.length_append _ d2,aH (by omega) (by omega),<- JW];rfl⟩
 have fe:=oF h2;rw [dI] at fe;obtain rfl:e2=[]:=lE (by omega);rw [List.append_nil] at du;subst du;refine aA ?_;refine aq [7] rfl rfl ?_;refine rz [6] ?_;refine ae ?_;refine ⟨_,[1,4],_,_,_,rfl,rfl,rfl,rfl,rfl,PWs.refl _,(b0,((az++prmF procs).length+1)),ks,⟨rfl,?_⟩,rfl,?_⟩
 ·rw [FD Qm,VT,List.map_map];exact List.map_congr_left fun a _=>by simp
 simp only [RS,JV,FD Qm]
def Ot:Plan:=(.take 0 (.take 1 (.take 2 (.load 3 (.take 4 (.take 5 (.take 6 (.load 7 (.take 8 (.take 9 (.take 10 (.load 11 (.take 12 (.load 13 (.take 14 (.take 15 (.take 16 (.take 17 (.take 18 (.load 19 (.one 20 (.one 21 .done))))))))))))))))))))))
theorem DS(rZ:(az++prmF procs).length<=12)(Fc:procs.length<=1073741824)(Dq:ah.length<=12)(UB:inp.length<=1000)(Qm:(arN ah).Nodup)(uo:(az++prmF procs).Nodup)(Jr:∀a,a∈ah->1<=a.size/\a.size<=16)(hF:F<=1000000000000)(hP:Uw (az++prmF procs) (arN ah) procs)(vD:Jv (az++prmF procs) (arN ah) procs main=true)(HI:dG main<=1000000000)(VC:SOk F ⟨[],vF ah,inp,0⟩)(n:Nat)(kd:BA)(S1:MS)(hm:vL procs F n main ⟨[],vF ah,inp,0⟩=some (kd,S1)):Spec Tryz.prog G 42 [.d (.agg (Pg.cs ⟨az,ah,procs,main⟩)),.d (.sl 1 (numsD inp)),.d (aD F)] [] (.ret (.d (.agg (yO kd S1 az ah)))) []:=by
 refine sA (N:=45) Tryz.func42 ?_;refine rz [1,2,3,6] ?_;refine rS fun J O=>sH ?_;refine LK (L:=[]) rfl rfl rfl (DR G az ah procs main inp F rZ Fc Dq UB Qm Jr) ?_;rintro out rowsL ⟨q0,ks,BI,rfl,rfl⟩;refine ⟨_,_,_,rfl,rfl,rfl,_,rfl,?_⟩;refine O _ (aM [3,6,7] ?_);clear O J;refine rS fun J O=>sH ?_;have UC:=zn G (az++prmF procs) q0 ah ks procs F rZ Dq Fc uo Qm hF hP n n (nR _) main ⟨[],vF ah,inp,0⟩ vD HI VC BI
 unfold vL at hm;cases hb:cF procs F n main ⟨[],vF ah,inp,0⟩ with
 |out=>rw [hb] at hm;cases hm
 |stop k T=>
  rw [hb] at UC hm;have Y2:=(rx procs F n).1 main ⟨[],vF ah,inp,0⟩ k T hb;obtain ⟨rfl,rfl⟩:=Prod.mk.inj (Option.some.inj hm);obtain ⟨lv,km,jd,qF⟩:=T;refine aS [2,3] (UC nofun) ?_;refine O _ (aM [3,6,7] ?_);clear O J;refine aa (rz [3,6,7,20] ?_);refine cQ rfl (fun h1=>?_) fun h1=>?_
  ·exact (mw Y2 h1).elim
  refine ac (aa ?_);refine EN 3 rfl ?_;refine aq [3,6,7] rfl rfl ?_;refine pI 2 1 3 rfl rfl rfl (FzD.one (i:=0) rfl rfl) ?_;refine aq [3,6,7] rfl rfl ?_;refine pI 2 3 3 rfl rfl rfl (FzD.all 1) ?_;refine aq [3,6,7] rfl rfl ?_;refine (dW Ot [21] (fun i=>Nat.beq i 0||Nat.beq i 2) (by kernel_rfl) fun J O=>?_);refine eI _ (aI rfl (aI (by show (strs az).length<=_;rw [cX,tc,ag,lA];omega) ?_));refine O _ (aM [6] ?_);clear O J;simp only [List.drop_succ_cons,List.drop_zero,JX,BX];refine ae ?_;exact lF [] [.d (.agg (yO k ⟨lv,km,jd,qF⟩ az ah))]
 |ok T=>
  rw [hb] at UC hm;obtain ⟨rfl,rfl⟩:=Prod.mk.inj (Option.some.inj hm);obtain ⟨lv,km,jd,qF⟩:=T;refine aS [2,3] (UC nofun) ?_;refine O _ (aM [3,6,7] ?_);clear O J;refine aa (rz [3,6,7,20] ?_);refine cQ rfl (fun h1=>?_) fun h1=>?_
  ·refine rG fun J O=>O _ (aM [3,6,7] ?_);clear O J;refine aa ?_
   refine EN 3 rfl ?_;refine aq [3,6,7] rfl rfl ?_;refine pI 2 1 3 rfl rfl rfl (FzD.one (i:=0) rfl rfl) ?_;refine aq [3,6,7] rfl rfl ?_;refine pI 2 3 3 rfl rfl rfl (FzD.all 1) ?_;refine aq [3,6,7] rfl rfl ?_;refine (dW Ot [21] (fun i=>Nat.beq i 0||Nat.beq i 2) (by kernel_rfl) fun J O=>?_);refine eI _ (aI rfl (aI (by show (strs az).length<=_;rw [cX,tc,ag,lA];omega) ?_));refine O _ (aM [6] ?_);clear O J;simp only [List.drop_succ_cons,List.drop_zero,JX,BX];refine ae ?_;exact lF [] [.d (.agg (yO _ ⟨lv,km,jd,qF⟩ az ah))]
  simp at h1
end
end
section
def zX(ls:List (List Int)):List (List Data):=ls.map fun l=>[.sl 1 (numsD l)]
theorem Ti(ls:List (List Int)):(zX ls).length=ls.length:=by simp [zX]
theorem JY{l d e:List (List Int)}{x:List Int}(h:l=d++x::e):(zX l)[((d.length:Nat):Int).toNat]? = some [.sl 1 (numsD x)]:=by
 subst h;rw [Int.toNat_natCast];simp [zX]
theorem JZ(ar:List (BA×List Int))(l:List Ar):uz ar l=zX (l.map fun a=>ef ar a.name):=by simp [uz,zX]
section
variable (G:Glob)
def Tj:Plan:=(.take 0 (.take 1 (.take 2 (.load 3 (.take 4 (.take 5 (.take 6 (.load 7 (.take 8 .done)))))))))
theorem Ou(l:List Int)(hb:l.length<=1073741824):Spec Tryz.prog G 28 [.d (.sl 1 (numsD l)),.d (.sl 1 (numsD l))] [] (.ret (.d (.s (.bool true)))) []:=by
 refine sA (N:=26) Tryz.func28 ?_;refine rz [0,1] ?_;refine aa (rz [0,1,10] ?_);refine cQ rfl (fun h1=>?_) fun h1=>?_
 ·simp at h1
 refine ac (aa ?_);refine rz [0,1,5] ?_;refine af (aB (fun k Y=>∃(d1 e1:List Int),k=e1.length/\l=d1++e1/\Y=⟨[(0,.d (.sl 1 (numsD l))),(1,.d (.sl 1 (numsD l))),(5,.d (aD d1.length))],[]⟩) (l.length) (⟨[],l,rfl,rfl,rfl⟩) ?_);rintro k Y ⟨d1,e1,rfl,bV,rfl⟩;have bu:(numsD l).length=d1.length+e1.length:=by rw [cX,bV,lA]
 have cn:d1.length+e1.length<=1073741824:=by rw [bV,lA] at hb;exact hb
 refine aa (rz [0,1,5,14] ?_);refine cQ rfl (fun h2=>?_) fun h2=>?_
 ·have fe:=oT h2;rw [bu] at fe;cases e1 with
  |nil=>simp only [lN] at fe;omega
  |cons x cw=>
  subst bV;simp only [lC] at cn;refine ac (aa ?_);refine af (aa ?_);refine (dW Tj [] (fun _=>true) (by kernel_rfl) fun J O=>oN (eI _ (aI (ints_at rfl) ?_)));refine oN (eI _ (aI (ints_at rfl) ?_));refine O _ (aM [0,1,5,25] ?_);clear O J;refine cQ rfl (fun h3=>?_) fun h3=>?_
  ·simp at h3
  refine ac (rG fun J O=>O _ ?_);clear O J;exact ⟨_,nS _,_,ak (slots:=[0,1,5]) rfl rfl,d1++[x],cw,rfl,by simp,by rw [lA,aH (by omega) (by omega)];rfl⟩
 have fe:=oF h2;rw [bu] at fe;obtain rfl:e1=[]:=lE (by omega);rw [List.append_nil] at bV;subst bV;refine aA ?_;refine aq [] rfl rfl ?_;refine rz [4] ?_;refine ae ?_;exact lF [] [.d (.s (.bool true))]
def Tk:Plan:=(.take 0 (.take 1 (.take 2 (.load 3 (.take 4 (.take 5 (.take 6 (.load 7 (.one 8 (.take 9 .done))))))))))
theorem Tl(l:List (List Int))(hb:l.length<=1073741824)(DT:∀x,x∈l->x.length<=16):Spec Tryz.prog G 48 [.d (.sl 1 (zX l)),.d (.sl 1 (zX l))] [] (.ret (.d (.s (.bool true)))) []:=by
 refine sA (N:=29) Tryz.func48 ?_;refine rz [0,1] ?_;refine aa (rz [0,1,11] ?_);refine cQ rfl (fun h1=>?_) fun h1=>?_
 ·simp at h1
 refine ac (aa ?_);refine rz [0,1,5] ?_;refine af (aB (fun k Y=>∃(d1 e1:List (List Int)),k=e1.length/\l=d1++e1/\Y=⟨[(0,.d (.sl 1 (zX l))),(1,.d (.sl 1 (zX l))),(5,.d (aD d1.length))],[]⟩) (l.length) (⟨[],l,rfl,rfl,rfl⟩) ?_);rintro k Y ⟨d1,e1,rfl,bV,rfl⟩;have bu:(zX l).length=d1.length+e1.length:=by rw [Ti,bV,lA]
 have cn:d1.length+e1.length<=1073741824:=by rw [bV,lA] at hb;exact hb
 refine aa (rz [0,1,5,15] ?_);refine cQ rfl (fun h2=>?_) fun h2=>?_
 ·have fe:=oT h2;rw [bu] at fe;cases e1 with
  |nil=>simp only [lN] at fe;omega
  |cons x cw=>
  subst bV;simp only [lC] at cn;have hx:=DT x (by simp);refine ac (aa ?_);refine af (aa ?_);refine (dW Tk [8] (fun _=>true) (by kernel_rfl) fun J O=>oN (eI _ (aI (JY rfl) ?_)));refine oN (eI _ (aI (JY rfl) ?_));refine aS [] (Ou G x (by omega)) ?_;refine O _ (aM [0,1,5,6] ?_);clear O J;refine rz [0,1,5,28] ?_;refine aj rfl (ac ?_);refine rG fun J O=>O _ ?_;clear O J;exact ⟨_,nS _,_,ak (slots:=[0,1,5]) rfl rfl,d1++[x],cw,rfl,by simp,by rw [lA,aH (by omega) (by omega)];rfl⟩
 have fe:=oF h2;rw [bu] at fe;obtain rfl:e1=[]:=lE (by omega);rw [List.append_nil] at bV;subst bV;refine aA ?_;refine aq [] rfl rfl ?_;refine rz [4] ?_;refine ae ?_;exact lF [] [.d (.s (.bool true))]
theorem FE(l:List Int)(hl:l.length<=1000000000):Spec Tryz.prog G 31 [.d (.sl 1 (numsD l))] [] (.ret (.d (.sl 1 (numsD l)))) []:=by
 refine sA (N:=7) Tryz.func31 ?_;refine rz [0] ?_;refine rz [0,3] ?_;refine rS fun J O=>?_;refine aI (aI ((by simp only [cX];omega)) ((by simp only [cX,maxLen];omega))) ?_;refine O _ (aM [2] ?_);clear O J;refine ae ?_;exact lF [] [.d (.sl 1 (numsD l))]
theorem M3:Spec Tryz.prog G 32 [.d (.agg Jq)] [] (.ret (.d (.s (.bool true)))) []:=by
 refine sA (N:=23) Tryz.func32 ?_;refine rz [1] ?_;refine rS fun J O=>?_;refine ab (fun h1=>?_) (fun h1=>?_)
 ·refine O _ (aM [2] ?_);clear O J;refine ae ?_;exact lF [] [.d (.s (.bool true))]
 simp at h1
theorem uQ(kd:BA)(st:Int)(vl:List Int)(ls:List (List Int))(s8:vl.length<=1073741824)(Tm:ls.length<=1073741824)(DT:∀x,x∈ls->x.length<=16):Spec Tryz.prog G 33 [.d (.agg [aW kd,aD st,.sl 1 (numsD vl),.sl 1 (zX ls)]),.d (.agg [aW kd,aD st,.sl 1 (numsD vl),.sl 1 (zX ls)])] [] (.ret (.d (.s (.bool true)))) []:=by
 refine sA (N:=31) Tryz.func33 ?_;refine rz [2,3] ?_;refine rS fun J O=>?_;refine ab (fun h1=>?_) (fun h1=>?_)
 ·refine ab (fun h2=>?_) (fun h2=>?_)
  ·refine aS [] (Ou G vl s8) ?_;refine aS [] (Tl G ls Tm DT) ?_;refine O _ (aM [4] ?_);clear O J;refine ae ?_;exact lF [] [.d (.s (.bool true))]
  simp at h2
 simp at h1
end
section
variable {t:Nat->TypeId}{u:Nat->Value}
end
end
section
def zo(l:List BA):List BA->Nat->Bool
 |[],_=>false
 |x::r,i=>match eC (l.take i) x with
  |true=>true
  |false=>zo l r (i+1)
def QY(procs:List Pc):List Pc->Bool
 |[]=>true
 |f::r=>(flatB f.body).all (gv procs)&&QY procs r
def Tn:Option Nat->Int
 |some 0=>2
 |some 1=>3
 |some 2=>5
 |_=>0
theorem G2(l:List BA)(i:Nat):strs (l.take i)=(strs l).take i:=by simp [strs]
theorem oZ(v:BA):∀(l:List Pc) (i k:Nat),cu v (l.take k) i≥0->cu v l i=cu v (l.take k) i
 |[],i,k,h=>by simp at h ⊢
 |f::r,i,0,h=>absurd h (by simp [cu])
 |f::r,i,k+1,h=>by
  simp only [List.take_succ_cons,cu] at h ⊢;cases hq:(f.name.toList==v.toList) with
  |true=>rfl
  |false=>
   rw [hq] at h;exact oZ v r (i+1) k h
theorem M4{ps:List Pc}{i:Nat}{s:Sm}(h:rb (ps.take i) s):rb ps s:=by
 obtain ⟨ap,name,proc,args,cond,ao,aK⟩:=s;intro hk;have:=h hk;rw [oZ proc ps 0 i this];exact this
theorem G3{ps:List Pc}{i:Nat}{s:Sm}(h:rb (ps.take i) s):gv (ps.take i) s=gv ps s:=by
 obtain ⟨ap,name,proc,args,cond,ao,aK⟩:=s;simp only [gv];cases hk:(ap.toList==(⟨#[99,97,108,108]⟩:BA).toList) with
 |false=>rfl
 |true=>
  have hj:=h hk;have e:=oZ proc ps 0 i hj;obtain ⟨j,f,h1,h2⟩:=ue proc (ps.take i) 0 hj;have hp:r9 (ps.take i) proc=r9 ps proc:=by
   unfold r9;rw [e];have NQ:(cu proc (ps.take i) 0).toNat=j:=by omega
   rw [NQ,h1];rw [List.getElem?_take] at h1;split at h1
   ·rw [h1]
   cases h1
  simp only [hp]
theorem BY{ps:List Pc}{i:Nat}:∀ {l:List Sm},(∀x,x∈l->rb (ps.take i) x)->l.all (gv (ps.take i))=l.all (gv ps)
 |[],_=>rfl
 |x::r,h=>by
  simp only [List.all_cons];rw [G3 (h x (List.mem_cons_self)),BY fun y hy=>h y (List.mem_cons_of_mem _ hy)]
theorem J0{procs:List Pc}:∀ {l:List Pc}{k:Nat},(∀(j:Nat) (f:Pc),l[j]? = some f->∀x,x∈flatB f.body->rb (procs.take (k+j)) x)->HF procs l k=QY procs l
 |[],_,_=>rfl
 |f::r,k,h=>by
  simp only [HF,QY];have h0:∀x,x∈flatB f.body->rb (procs.take k) x:=h 0 f rfl;rw [BY h0];have hr:=J0 (procs:=procs) (l:=r) (k:=k+1) fun j g hj x hx=>by
   have:=h (j+1) g (by simpa using hj) x hx
   rwa [show k+(j+1)=k+1+j by omega] at this
  cases (flatB f.body).all (gv procs) with
  |true=>rw [Bool.true_and];exact hr
  |false=>rfl
theorem BZ(l:List BA)(x:BA):eC l x=true↔x∈l:=by
 induction l with
 |nil=>simp [eC]
 |cons y r ih=>
  simp only [eC,List.mem_cons];cases hq:(y.toList==x.toList) with
  |true=>
   have:=dj hq;simp [this]
  |false=>
   simp only [ih];constructor
   ·exact .inr
   rintro (rfl|h)
   ·have:(x.toList==x.toList)=true:=by simp
    rw [this] at hq;cases hq
   exact h
theorem M5(l:List BA):zo l l 0=ug l:=by
 have key:∀(e:List BA) (d:List BA),l=d++e->d.Nodup->zo l e d.length=!decide l.Nodup:=by
  intro e;induction e with
  |nil=>
   intro d h hd;rw [List.append_nil] at h;subst h;simp [zo,hd]
  |cons x r ih=>
   intro d h hd;simp only [zo];have ht:l.take d.length=d:=by rw [h,List.take_left]
   rw [ht];cases hq:eC d x with
   |true=>
    have hm:=(BZ d x).1 hq;have:¬l.Nodup:=by
     rw [h,List.nodup_append];rintro ⟨_,_,q⟩;exact q x hm x (List.mem_cons_self) rfl
    simp [this]
   |false=>
    have hm:x∉d:=fun q=>by rw [(BZ d x).2 q] at hq;cases hq
    have:=ih (d++[x]) (by rw [h];simp) (by
     rw [List.nodup_append];exact ⟨hd,by simp,fun a ha b hb=>by rw [List.mem_singleton.1 hb];exact fun e=>hm (e▸ha)⟩)
    rw [lA] at this;exact this
 rw [show (0:Nat)=([]:List BA).length from rfl,key l [] rfl List.nodup_nil];unfold ug
 congr 1
 have cS:∀l:List BA,(l.map (·.data.toList)).Nodup↔l.Nodup:=fun l=>by
  constructor
  ·exact fun h=>List.Pairwise.of_map _ (fun a b HP e=>HP (congrArg (fun x:BA=>x.data.toList) e)) h
  intro h;exact List.Pairwise.map _ (fun a b HP e=>HP (ByteArray.ext (Array.toList_inj.1 e))) h
 simp only [cS l]
section
variable (G:Glob)
theorem DU(az:List BA)(ah:List Ar)(procs:List Pc)(main:List Sm)(s:BA)(w0:Spec Tryz.prog G 24 [.d (.agg (Pg.cs ⟨az,ah,procs,main⟩))] [] (.ret (.tup [.d (aW s),.d (.s (.bool false))])) []):Spec Tryz.prog G 35 [.d (.agg (Pg.cs ⟨az,ah,procs,main⟩))] [] (.ret (.d (aD 3))) []:=by
 refine sA (N:=203) Tryz.func35 ?_;refine rz [1] ?_;refine rS fun J O=>aS [] w0 ?_;refine O _ (aM [1,4] ?_);clear O J;refine aa (rz [1,22] ?_);refine aj rfl (rz [2] ?_);refine ae ?_;exact lF [] [.d (aD 3)]
theorem G4(A:List BA)(d:List Pc)(f:Pc):strs (A++pcN (d++[f]))=strs (A++pcN d)++[[aW f.name]]:=by simp [strs,pcN]
set_option maxHeartbeats 2000000 in
def QZ:Plan:=(.take 0 (.take 1 (.take 2 (.take 3 (.take 4 (.take 5 (.load 6 (.one 7 (.take 8 .done)))))))))
def Q0:Plan:=(.take 0 (.load 1 (.take 2 (.take 3 (.take 4 (.load 5 (.take 6 (.take 7 (.take 8 (.load 9 (.take 10 (.take 11 (.one 12 (.take 13 .done))))))))))))))
def Q1:Plan:=(.take 0 (.take 1 (.take 2 (.load 3 (.take 4 (.take 5 (.take 6 (.load 7 (.take 8 (.load 9 (.one 10 (.take 11 (.take 12 .done)))))))))))))
theorem B0(az:List BA)(ah:List Ar)(procs:List Pc)(main:List Sm)(RN:wtPg ⟨az,ah,procs,main⟩<=400000000)(s:BA)(w1:Spec Tryz.prog G 24 [.d (.agg (Pg.cs ⟨az,ah,procs,main⟩))] [] (.ret (.tup [.d (aW s),.d (.s (.bool true))])) []):Spec Tryz.prog G 35 [.d (.agg (Pg.cs ⟨az,ah,procs,main⟩))] [] (.ret (.d (aD (Tn (gw az ah procs main))))) []:=by
 have hw:=RN;simp only [wtPg] at hw;have Vo:=ew az;have Vp:=mP ah;have Vq:=kA procs;have Vr:=ma procs;have SO:ah.length<=1073741824:=by omega
 have Dh:procs.length<=1073741824:=by omega
 have Vt:(arN ah).length=ah.length:=by simp [arN]
 have PT:(arN ah).length<=1073741824:=by omega
 have PU:(pcN procs).length=procs.length:=by simp [pcN]
 obtain ⟨R,hR⟩:∃R,gw az ah procs main=R:=⟨_,rfl⟩;rw [hR];unfold gw at hR;rw [<- M5] at hR;obtain ⟨bA,hA⟩:∃b,kl ah=b:=⟨_,rfl⟩;obtain ⟨bL,hL⟩:∃b,uh az ah procs=b:=⟨_,rfl⟩;obtain ⟨bD,hD⟩:∃b,zo (fq az ah procs++pcN procs) (fq az ah procs++pcN procs) 0=b:=⟨_,rfl⟩;obtain ⟨bN,hN⟩:∃b,Dg az (arN ah) procs procs 0=b:=⟨_,rfl⟩;obtain ⟨bM,hM⟩:∃b,(flatB main).all (gu az (arN ah) procs)=b:=⟨_,rfl⟩;obtain ⟨bC,To⟩:∃b,HF procs procs 0=b:=⟨_,rfl⟩;obtain ⟨bK,SP⟩:∃b,(flatB main).all (gv procs)=b:=⟨_,rfl⟩;rw [hA,hL,hD,hN,hM,To,SP] at hR;have SQ:=hL;have hL:(decide (((strs ((az++arN ah)++prmF procs)).length:Int)>12)||decide (((strs (pcN procs)).length:Int)>6))=bL:=SQ;have RP:=lY G az (arN ah) procs (by omega) PT (by omega) main (by omega);rw [hM] at RP;have Us:=hN;refine sA (N:=203) Tryz.func35 ?_;refine rz [1] ?_;refine rS fun J O=>aS [] w1 ?_;refine O _ (aM [1,4] ?_);clear O J;refine aa (rz [1,22] ?_);refine aj rfl (ac ?_);refine rz [1,5] ?_;refine dV 5 9 1 rfl rfl rfl ?_;refine aq [1,5] rfl rfl ?_;refine rS fun J O=>?_;refine aI (aI ((by simp only [ag,lA,lN] at *;omega)) ((by simp only [ag,lA,lN,maxLen] at *;omega))) ?_;refine O _ (aM [1,5] ?_);clear O J;refine rz [1,5,6] ?_;refine dV 6 9 1 rfl rfl rfl ?_;refine aq [1,5,6] rfl rfl ?_;refine aa (rz [1,5,6,7] ?_);refine af (aB (fun k Y=>∃(d1 e1:List Ar) ,k=e1.length/\ah=d1++e1/\kl e1=bA/\Y=⟨[(1,.box 0 0),(5,.acc 1),(6,.acc 2),(7,.d (aD d1.length))],[.box 37 [.d (.sl 1 (strs az)),.d (.sl 2 (ey ah)),.d (.sl 7 (c_ procs)),.d (.sl 7 (bF main))],.acc 9 1 (strs az),.acc 9 1 (strs (arN d1))]⟩) (ah.length) (⟨[],ah,rfl,rfl,hA,rfl⟩) ?_);clear hA;rintro k Y ⟨d1,e1,rfl,bV,hA,rfl⟩
 have bu:(ey ah).length=d1.length+e1.length:=by rw [ey,lM,bV,lA]
 have cn:d1.length+e1.length<=1073741824:=by rw [bV,lA] at SO;exact SO
 refine aa (rz [1,5,6,7,31] ?_);refine cQ rfl (fun h1=>?_) fun h1=>?_
 ·have bO:=oT h1;rw [bu] at bO;cases e1 with
  |nil=>simp only [lN] at bO;omega
  |cons x cw=>
  obtain ⟨nm,sz⟩:=x;subst bV;simp only [lC] at cn;simp only [kl] at hA;have Vu:(arN d1).length=d1.length:=by simp [arN]
  refine ac (aa ?_);refine af (rS fun J O=>oN (eI _ (aI (fL rfl) ?_)));refine aI (aI ((by simp only [ag,lA,ai,lC,lN] at *;omega)) ((by simp only [ag,lA,ai,lC,lN,maxLen] at *;omega))) ?_;refine O _ (aM [1,5,6,7] ?_);clear O J;refine rS fun J O=>oN (eI _ (aI (fL rfl) ?_));refine ab (fun h2=>?_) (fun h2=>?_)
  ·simp only [h2,bn] at hA;refine O _ (aM [1,5,6,7,58] ?_);clear O J;refine aj rfl (rz [2] ?_);refine ae ?_;subst hA;simp only [oC] at hR;subst hR;exact lF [] [.d (aD 2)]
  simp only [h2,bn] at hA;refine oN (eI _ (aI (fL rfl) ?_));refine O _ (aM [1,5,6,7,58] ?_);clear O J;refine cQ rfl (fun h3=>?_) fun h3=>?_
  ·simp only [h3] at hA;refine rz [2] ?_;refine ae ?_;subst hA;simp only [oC] at hR;subst hR;exact lF [] [.d (aD 2)]
  simp only [h3] at hA;refine ac (rG fun J O=>O _ ?_);clear O J;exact ⟨_,nS _,_,aG (L:=[0,1,2]) (slots:=[1,5,6,7]) rfl rfl rfl rfl rfl,d1++[⟨nm,sz⟩],cw,rfl,by simp,hA,by rw [<- Bf,lA,aH (by omega) (by omega)];rfl⟩
 have bO:=oF h1;rw [bu] at bO;obtain rfl:e1=[]:=lE (by omega);simp only [kl] at hA;subst hA;rw [List.append_nil] at bV;subst bV;refine aA ?_;refine aq [1,5,6] rfl rfl ?_;refine rS fun J O=>?_;refine aI (aI ((by simp only [ag,lA,lN] at *;omega)) ((by simp only [ag,lA,lN,maxLen] at *;omega))) ?_;refine O _ (aM [1,5,6] ?_);clear O J;refine aa (rz [1,5,6,8] ?_);refine af (aB (fun k Y=>∃(d2 e2:List Pc),k=e2.length/\procs=d2++e2/\Y=⟨[(1,.box 0 0),(5,.acc 1),(6,.acc 2),(8,.d (aD d2.length))],[.box 37 [.d (.sl 1 (strs az)),.d (.sl 2 (ey ah)),.d (.sl 7 (c_ procs)),.d (.sl 7 (bF main))],.acc 9 1 (strs (((az++arN ah)++prmF d2))),.acc 9 1 (strs (arN ah))]⟩) (procs.length) (⟨[],procs,rfl,rfl,by rw [show prmF []=[] from rfl,List.append_nil,l8];rfl⟩) ?_);rintro k Y ⟨d2,e2,rfl,du,rfl⟩
 have dI:(c_ procs).length=d2.length+e2.length:=by rw [aE,du,lA]
 have fK:d2.length+e2.length<=1073741824:=by rw [du,lA] at Dh;exact Dh
 refine aa (rz [1,5,6,8,66] ?_);refine cQ rfl (fun h2=>?_) fun h2=>?_
 ·have fe:=oT h2;rw [dI] at fe;cases e2 with
  |nil=>simp only [lN] at fe;omega
  |cons x ke=>
  obtain ⟨nm,pr,bd,⟨o1,n1,m1,l1⟩⟩:=x;subst du;simp only [lC] at fK;have rZ:=ma (d2++⟨nm,pr,bd,.mk o1 n1 m1 l1⟩::ke);simp only [l_,prmF,lA] at rZ;have YK:(arN ah).length=ah.length:=by simp [arN]
  refine ac (aa ?_);refine af (rG fun J O=>oN (eI _ (aI (eM rfl) ?_)));refine aI (aI ((by simp only [ag,aE,lA,lC,lN] at *;omega)) ((by simp only [ag,aE,lA,lC,lN,maxLen] at *;omega))) ?_;refine O _ (aM [1,5,6,8] ?_);clear O J;refine rG fun J O=>O _ ?_;clear O J;exact ⟨_,nS _,_,aG (L:=[0,1,2]) (slots:=[1,5,6,8]) rfl rfl rfl rfl rfl,d2++[⟨nm,pr,bd,.mk o1 n1 m1 l1⟩],ke,rfl,by simp,by rw [yH,lA,aH (by omega) (by omega)];rfl⟩
 have fe:=oF h2;rw [dI] at fe;obtain rfl:e2=[]:=lE (by omega);rw [List.append_nil] at du;subst du;refine aA ?_;refine aq [1,5,6] rfl rfl ?_;refine aa (rS fun J O=>?_);refine ab (fun h3=>?_) (fun h3=>?_)
 ·have Q2:decide (((strs ((az++arN ah)++prmF procs)).length:Int)>12)=true:=h3;simp only [Q2,bn] at hL;refine O _ (aM [1,5,6,85] ?_);clear O J;refine aj rfl (rz [2] ?_);refine ae ?_;subst hL;simp only [oC] at hR;subst hR;exact lF [] [.d (aD 2)]
 have Q2:decide (((strs ((az++arN ah)++prmF procs)).length:Int)>12)=false:=h3;simp only [Q2,bn] at hL;refine O _ (aM [1,5,6,85] ?_);clear O J;refine cQ rfl (fun h4=>?_) fun h4=>?_
 ·have Q3:decide (((strs (pcN procs)).length:Int)>6)=true:=(by rw [ag,PU,<- aE];exact h4);simp only [Q3] at hL;refine rz [2] ?_;refine ae ?_;subst hL;simp only [oC] at hR;subst hR;exact lF [] [.d (aD 2)]
 have Q3:decide (((strs (pcN procs)).length:Int)>6)=false:=(by rw [ag,PU,<- aE];exact h4);simp only [Q3] at hL;subst hL;refine ac (bQ (fun Z=>Z=⟨[(1,.box 0 0),(5,.d (.sl 1 (strs (fq az ah procs++pcN procs)))),(6,.d (.sl 1 (strs (arN ah))))],[.box 37 [.d (.sl 1 (strs az)),.d (.sl 2 (ey ah)),.d (.sl 7 (c_ procs)),.d (.sl 7 (bF main))]]⟩) ?_ ?_)
 ·refine rz [1,5,6,9] ?_;refine af ?_;refine aB (fun k Y=>∃(d3 e3:List Pc),k=e3.length/\procs=d3++e3/\Y=⟨[(1,.box 0 0),(5,.acc 1),(6,.acc 2),(9,.d (aD d3.length))],[.box 37 [.d (.sl 1 (strs az)),.d (.sl 2 (ey ah)),.d (.sl 7 (c_ procs)),.d (.sl 7 (bF main))],.acc 9 1 (strs (fq az ah procs++pcN d3)),.acc 9 1 (strs (arN ah))]⟩) (procs.length) (⟨[],procs,rfl,rfl,by rw [show pcN []=[] from rfl,List.append_nil];rfl⟩) ?_;rintro k Y ⟨d3,e3,rfl,yp,rfl⟩;have tU:(c_ procs).length=d3.length+e3.length:=by rw [aE,yp,lA]
  have C0:d3.length+e3.length<=1073741824:=by rw [yp,lA] at Dh;exact Dh
  refine aa (rz [1,5,6,9,90] ?_);refine cQ rfl (fun h5=>?_) fun h5=>?_
  ·have rT:=oT h5;rw [tU] at rT;cases e3 with
   |nil=>simp only [lN] at rT;omega
   |cons x vM=>
   obtain ⟨nm,pr,bd,⟨o1,n1,m1,l1⟩⟩:=x;subst yp;simp only [lC] at C0;have Vu:(pcN d3).length=d3.length:=by simp [pcN]
   have JI:(fq az ah (d3++⟨nm,pr,bd,.mk o1 n1 m1 l1⟩::vM)).length=az.length+(arN ah).length+(prmF (d3++⟨nm,pr,bd,.mk o1 n1 m1 l1⟩::vM)).length:=by simp only [fq,lA]
   refine ac (aa ?_);refine af (rG fun J O=>oN (eI _ (aI (eM rfl) ?_)));refine aI (aI ((by simp only [ag,aE,lA,ai,lC,lN] at *;omega)) ((by simp only [ag,aE,lA,ai,lC,lN,maxLen] at *;omega))) ?_;refine O _ (aM [1,5,6,9] ?_);clear O J;refine rG fun J O=>O _ ?_;clear O J;exact ⟨_,nS _,_,aG (L:=[0,1,2]) (slots:=[1,5,6,9]) rfl rfl rfl rfl rfl,d3++[⟨nm,pr,bd,.mk o1 n1 m1 l1⟩],vM,rfl,by simp,by rw [G4,lA,aH (by omega) (by omega)];rfl⟩
  have rT:=oF h5;rw [tU] at rT;obtain rfl:e3=[]:=lE (by omega);rw [List.append_nil] at yp;subst yp;refine aA ?_;exact ⟨_,aG (L:=[0]) (slots:=[1,5,6]) rfl rfl rfl rfl rfl,rfl⟩
 rintro Z rfl;have UD:(fq az ah procs++pcN procs).length<=1073741824:=by simp only [fq,lA];omega
 revert hD UD
 generalize fq az ah procs++pcN procs=Q;intro hD UD;refine aa (rz [1,5,6,10] ?_);refine af (aB (fun k Y=>∃(d4 e4:List BA) ,k=e4.length/\Q=d4++e4/\zo Q e4 d4.length=bD/\Y=⟨[(1,.box 0 0),(5,.d (.sl 1 (strs Q))),(6,.d (.sl 1 (strs (arN ah)))),(10,.d (aD d4.length))],[.box 37 [.d (.sl 1 (strs az)),.d (.sl 2 (ey ah)),.d (.sl 7 (c_ procs)),.d (.sl 7 (bF main))]]⟩) (Q.length) (⟨[],Q,rfl,rfl,hD,rfl⟩) ?_);clear hD;rintro k Y ⟨d4,e4,rfl,AO,hD,rfl⟩;have tV:(strs Q).length=d4.length+e4.length:=by rw [ag,AO,lA]
 have C1:d4.length+e4.length<=1073741824:=by rw [AO,lA] at UD;exact UD
 refine aa (rz [1,5,6,10,105] ?_);refine cQ rfl (fun h5=>?_) fun h5=>?_
 ·have rT:=oT h5;rw [tV] at rT;cases e4 with
  |nil=>simp only [lN] at rT;omega
  |cons x yq=>
  subst AO;simp only [lC] at C1;simp only [zo] at hD;have WP:((d4++x::yq).take d4.length).length<=1073741824:=by rw [List.length_take];omega
  have Xz:=fB G ((d4++x::yq).take d4.length) x WP;rw [G2] at Xz;refine ac (aa ?_);refine af (aa ?_);refine (dW QZ [7] (fun _=>true) (by kernel_rfl) fun J O=>?_);refine eI d4.length (aI rfl (aI (by rw [ag,lA];omega) ?_));refine oN (eI _ (aI (pQ rfl) ?_));refine aS [] Xz ?_;refine O _ (aM [1,5,6,10,11] ?_);clear O J;refine rz [1,5,6,10,116] ?_;refine cQ rfl (fun h6=>?_) fun h6=>?_
  ·simp only [h6] at hD;refine rz [2] ?_;refine ae ?_;subst hD;simp only [oC] at hR;subst hR;exact lF [] [.d (aD 5)]
  simp only [h6] at hD;refine ac (rG fun J O=>O _ ?_);clear O J;exact ⟨_,nS _,_,ak (slots:=[1,5,6,10]) rfl rfl,d4++[x],yq,rfl,by simp,(by rw [lA];exact hD),by rw [lA,aH (by omega) (by omega)];rfl⟩
 have rT:=oF h5;rw [tV] at rT;obtain rfl:e4=[]:=lE (by omega);simp only [zo] at hD;subst hD;refine aA ?_;refine aq [1,6] rfl rfl ?_;refine aa (rz [1,6,12] ?_);refine af (aB (fun k Y=>∃(d5 e5:List Pc) ,k=e5.length/\procs=d5++e5/\Dg az (arN ah) procs e5 d5.length=bN/\Y=⟨[(1,.box 0 0),(6,.d (.sl 1 (strs (arN ah)))),(12,.d (aD d5.length))],[.box 37 [.d (.sl 1 (strs az)),.d (.sl 2 (ey ah)),.d (.sl 7 (c_ procs)),.d (.sl 7 (bF main))]]⟩) (procs.length) (⟨[],procs,rfl,rfl,hN,rfl⟩) ?_);clear hN;rintro k Y ⟨d5,e5,rfl,Mw,hN,rfl⟩;have Js:(c_ procs).length=d5.length+e5.length:=by rw [aE,Mw,lA]
 have Qn:d5.length+e5.length<=1073741824:=by rw [Mw,lA] at Dh;exact Dh
 refine aa (rz [1,6,12,121] ?_);refine cQ rfl (fun h6=>?_) fun h6=>?_
 ·have yI:=oT h6;rw [Js] at yI;cases e5 with
  |nil=>simp only [lN] at yI;omega
  |cons x Qo=>
  obtain ⟨nm,pr,bd,⟨o1,n1,m1,l1⟩⟩:=x;subst Mw;simp only [lC] at Qn;simp only [Dg] at hN;have hf:(d5++⟨nm,pr,bd,.mk o1 n1 m1 l1⟩::Qo)[d5.length]? = some ⟨nm,pr,bd,.mk o1 n1 m1 l1⟩:=by simp
  have yu:=m4 d5 (⟨nm,pr,bd,.mk o1 n1 m1 l1⟩::Qo);simp only [lz] at yu;have Ut:=ew pr;have P0:((d5++⟨nm,pr,bd,.mk o1 n1 m1 l1⟩::Qo).take d5.length).length<=1073741824:=by rw [List.length_take];omega
  have s8:(az++pr).length<=1073741824:=by rw [lA];omega
  have iF:=lY G (az++pr) (arN ah) ((d5++⟨nm,pr,bd,.mk o1 n1 m1 l1⟩::Qo).take d5.length) s8 PT P0 bd (by omega);have SR:=ra G (az++pr) (arN ah) s8 PT _ (.mk o1 n1 m1 l1) (nR _) (by omega);rw [l8] at iF SR;rw [<- Bb] at iF;refine ac (aa ?_);refine af (rz [1,6,12,13] ?_);refine dV 13 9 1 rfl rfl rfl ?_;refine aq [1,6,12,13] rfl rfl ?_;refine rS fun J O=>?_;refine aI (aI ((by simp only [ag,aE,lA,lC,lN] at *;omega)) ((by simp only [ag,aE,lA,lC,lN,maxLen] at *;omega))) ?_;refine O _ (aM [1,6,12,13] ?_);clear O J;refine rS fun J O=>oN (eI _ (aI (eM rfl) ?_));refine aI (aI ((by simp only [ag,aE,lA,lC,lN] at *;omega)) ((by simp only [ag,aE,lA,lC,lN,maxLen] at *;omega))) ?_;refine O _ (aM [1,6,12,13] ?_);clear O J;refine aa ((dW Q0 [12] (fun _=>true) (by kernel_rfl) fun J O=>oN (eI _ (aI (eM rfl) ?_))));refine eI d5.length (aI rfl (aI (by rw [aE,lA];omega) ?_));refine aS [] iF ?_;refine O _ (aM [1,4,6,12,13] ?_);clear O J;refine rS fun J O=>oN (eI _ (aI (eM rfl) ?_));refine aS [] SR ?_;refine O _ (aM [1,4,6,12,14] ?_);clear O J;refine rS fun J O=>?_;refine ab (fun h7=>?_) (fun h7=>?_)
  ·try simp only [Bool.not_eq_true'] at h7
   simp only [h7,bn] at hN;refine O _ (aM [1,6,12,163] ?_);clear O J;refine aj rfl (rz [2] ?_);refine ae ?_;subst hN;simp only [oC] at hR;subst hR;exact lF [] [.d (aD 5)]
  try simp only [Bool.not_eq_false'] at h7
  simp only [h7,bn] at hN;refine O _ (aM [1,6,12,163] ?_);clear O J;refine cQ rfl (fun h8=>?_) fun h8=>?_
  ·try simp only [Bool.not_eq_true'] at h8
   simp only [h8] at hN;refine rz [2] ?_;refine ae ?_;subst hN;simp only [oC] at hR;subst hR;exact lF [] [.d (aD 5)]
  try simp only [Bool.not_eq_false'] at h8
  simp only [h8] at hN;refine ac (rG fun J O=>O _ ?_);clear O J;exact ⟨_,nS _,_,aG (L:=[0]) (slots:=[1,6,12]) rfl rfl rfl rfl rfl,d5++[⟨nm,pr,bd,.mk o1 n1 m1 l1⟩],Qo,rfl,by simp,by rw [lA];exact hN,by rw [lA,aH (by omega) (by omega)];rfl⟩
 have yI:=oF h6;rw [Js] at yI;obtain rfl:e5=[]:=lE (by omega);simp only [Dg] at hN;subst hN;refine aA ?_;refine aq [1,6] rfl rfl ?_;refine rS fun J O=>aS [] RP ?_;refine O _ (aM [1,4] ?_);clear O J;refine aa (rz [1,4,173] ?_);refine cQ rfl (fun h7=>?_) fun h7=>?_
 ·have SS:bM=false:=by simpa using h7
  subst SS;refine rz [2] ?_;refine ae ?_;simp only [oC] at hR;subst hR;exact lF [] [.d (aD 5)]
 have SS:bM=true:=by simpa using h7
 subst SS;refine ac (aa ?_);refine rz [1,4,15] ?_;have uj:QY procs procs=bC:=by
  rw [<- J0 (k:=0) (fun j f hj=>ui (rg Us j f hj))];exact To
 refine af (aB (fun k Y=>∃(d6 e6:List Pc) (ok:Bool),k=e6.length/\procs=d6++e6/\(ok&&QY procs e6)=bC/\Y=⟨[(1,.box 0 0),(4,.d (.s (.bool ok))),(15,.d (aD d6.length))],[.box 37 [.d (.sl 1 (strs az)),.d (.sl 2 (ey ah)),.d (.sl 7 (c_ procs)),.d (.sl 7 (bF main))]]⟩) (procs.length) (⟨[],procs,true,rfl,rfl,by rw [Bool.true_and];exact uj,rfl⟩) ?_);clear uj;rintro k Y ⟨d6,e6,ok,rfl,VU,uj,rfl⟩;have Tp:(c_ procs).length=d6.length+e6.length:=by rw [aE,VU,lA]
 have VV:d6.length+e6.length<=1073741824:=by rw [VU,lA] at Dh;exact Dh
 refine aa (rz [1,4,15,178] ?_);refine cQ rfl (fun h8=>?_) fun h8=>?_
 ·have Mx:=oT h8;rw [Tp] at Mx;cases e6 with
  |nil=>simp only [lN] at Mx;omega
  |cons x Tq=>
  obtain ⟨nm,pr,bd,⟨o1,n1,m1,l1⟩⟩:=x;subst VU;simp only [lC] at VV;simp only [QY] at uj;have hf:(d6++⟨nm,pr,bd,.mk o1 n1 m1 l1⟩::Tq)[d6.length]? = some ⟨nm,pr,bd,.mk o1 n1 m1 l1⟩:=by simp
  have yu:=m4 d6 (⟨nm,pr,bd,.mk o1 n1 m1 l1⟩::Tq);simp only [lz] at yu;have ga:=ui (rg Us _ _ hf);rw [Nat.zero_add] at ga;have Vv:=lZ G (d6++⟨nm,pr,bd,.mk o1 n1 m1 l1⟩::Tq) (by omega) bd (by omega) (fun x hx=>M4 (ga x hx));refine ac (aa ?_);refine af ((dW Q1 [10] (fun _=>true) (by kernel_rfl) fun J O=>?_));refine ab (fun h9=>?_) (fun h9=>?_)
  ·simp only [h9,bn] at uj;refine oN (eI _ (aI (eM rfl) ?_));refine aS [] Vv ?_;refine O _ (aM [1,4,15] ?_);clear O J;refine rG fun J O=>O _ ?_;clear O J;exact ⟨_,nS _,_,ak (slots:=[1,4,15]) rfl rfl,d6++[⟨nm,pr,bd,.mk o1 n1 m1 l1⟩],Tq,_,rfl,by simp,uj,by rw [lA,aH (by omega) (by omega)];rfl⟩
  simp only [h9,bn] at uj;refine O _ (aM [1,4,15] ?_);clear O J;refine rG fun J O=>O _ ?_;clear O J;exact ⟨_,nS _,_,ak (slots:=[1,4,15]) rfl rfl,d6++[⟨nm,pr,bd,.mk o1 n1 m1 l1⟩],Tq,false,rfl,by simp,(by rw [Bool.false_and];exact uj),by rw [lA,aH (by omega) (by omega)];rfl⟩
 have Mx:=oF h8;rw [Tp] at Mx;obtain rfl:e6=[]:=lE (by omega);simp only [QY] at uj;simp only [Bool.and_true] at uj;subst uj;refine aA ?_;refine aq [1,4] rfl rfl ?_;refine aa (rS fun J O=>?_);refine ab (fun h9=>?_) (fun h9=>?_)
 ·have cd:ok=false:=by simpa using h9
  subst cd;refine O _ (aM [202] ?_);clear O J;refine aj rfl (rz [2] ?_);refine ae ?_;simp only [oC] at hR;subst hR;exact lF [] [.d (aD 3)]
 have cd:ok=true:=by simpa using h9
 subst cd;refine sH ?_;have P1:=lZ G procs (by omega) main (by omega) (ui hM);rw [SP] at P1;cases bK with
 |true=>
  refine aS [] P1 ?_;refine O _ (aM [202] ?_);clear O J;refine aj rfl (ac ?_);refine rz [2] ?_;refine ae ?_;simp only [oC] at hR;subst hR;exact lF [] [.d (aD 0)]
 |false=>
  refine aS [] P1 ?_;refine O _ (aM [202] ?_);clear O J;refine aj rfl (rz [2] ?_);refine ae ?_;simp only [oC] at hR;subst hR;exact lF [] [.d (aD 3)]
end
end
section
section
variable {t:Nat->TypeId}{u:Nat->Value}
theorem G5(a b c d e f g:Bool):oC a b c d e f g=none\/oC a b c d e f g=some 0\/oC a b c d e f g=some 1\/oC a b c d e f g=some 2:=by
 cases a <;> cases b <;> cases c <;> cases d <;> cases e <;> cases f <;> cases g <;> simp [oC]
end
end
end Go.Abs
end
