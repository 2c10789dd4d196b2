/- Texts of this proof, joined and shortened. -/
import Derived.Test.YtedljfabpknjiaaGreatDoorR6
import Derived.Recover
section
namespace Go.Abs
open Go Go.Proofs
attribute [local irreducible] c8 dJ Sub Spec
section
def li(s:BA)(n:Nat)(p:PS s):R s Ts:=(termF s n 1 p).bind fun a q=>match dC q.w with
 |true=>(termF s n 1 (nx s q)).bind fun b q2=>.ok ⟨a,q.w,b⟩ q2
 |false=>.bad q 3
def rJ(s:BA):Nat->List Ts->PS s->R s (List Ts)
 |0,_,_=>.out
 |n+1,row,p=>match eqW p.w ⟨#[97,110,100]⟩ with
  |true=>(li s n (nx s p)).bind fun t q=>rJ s n (row++[t]) q
  |false=>.ok row p
def wh(s:BA)(n:Nat)(p:PS s):R s (List Ts):=match eqW p.w ⟨#[116,114,117,101]⟩ with
 |true=>.ok [] (nx s p)
 |false=>(li s n p).bind fun t q=>rJ s n [t] q
def jG(s:BA):Nat->List (List Ts)->PS s->R s (List (List Ts))
 |0,_,_=>.out
 |n+1,acc,p=>(wh s n p).bind fun row q=>match eqW q.w ⟨#[111,114]⟩ with
  |true=>jG s n (acc++[row]) (nx s q)
  |false=>.ok (acc++[row]) q
def oq(s:BA)(n:Nat)(p:PS s):R s (List (List Ts)):=match eqW p.w ⟨#[102,97,108,115,101]⟩ with
 |true=>.ok [] (nx s p)
 |false=>jG s n [] p
def TX:Ts->PV:=fun t=>.d (.agg t.cs)
def Hj:List (List Ts)->PV:=fun c=>.d (.sl 1 (eG c))
theorem AR(l:List Ts)(t:Ts):kr l++[t.cs]=kr (l++[t]):=by simp [kr]
theorem lT(l:List (List Ts))(t:List Ts):eG l++[[.sl 9 (kr t)]]=eG (l++[t]):=by simp [eG]
theorem fy(l:List Ts):(kr l).length=l.length:=by simp [kr]
theorem eN(l:List (List Ts)):(eG l).length=l.length:=by simp [eG]
theorem bq:maxLen=9223372036854775807:=rfl
section
variable (t:Nat->TypeId) (u:Nat->Value)
def Rt:Plan:=(.load 0 (.take 1 (.take 2 (.one 3 (.one 4 (.one 5 .done))))))
theorem vk(s:BA)(jW:s.size<=4000)(n:Nat)(p:PS s):jl t u 276 [.box 0 0] s p TX (li s n p):=by
 intro aO;obtain ⟨r,hG⟩:∃r,li s n p=r:=⟨_,rfl⟩;rw [hG] at aO ⊢
 have hs:s.size<4611686018427387904:=by omega
 refine aZ b8 (N:=24) Tryz.func276 rfl (by rfl) ((by cases r <;> simp [jF] at aO ⊢)) rfl ?_
 refine rz [0,2] ?_;refine rS fun J O=>sH ?_;have bB:=fx t u s jW n 1 p
 cases aF:termF s n 1 p with
 |out=>
  simp only [li,R.bind,aF] at hG;cases aO hG.symm
 |bad q1 c1=>
  rw [aF] at bB;refine pS [0] (bB nofun) ?_;refine J _ _ ?_;simp only [li,R.bind,aF] at hG;subst hG;exact lP [0,2]
 |ok a1 q1=>
  obtain ⟨o1,n1,m1,l1⟩:=a1;rw [aF] at bB;refine aS [0] (bB nofun) ?_;refine O _ (aM [0,2,3] ?_);clear O J;refine rz [0,2,3,4] ?_;refine aa (rS fun J O=>aS [] (vj _ _) ?_);refine O _ (aM [0,2,3,4,13] ?_);clear O J;refine cQ rfl (fun h1=>?_) fun h1=>?_
  ·have h1:=Bool.not_eq_true' _▸h1
   refine rG fun J O=>pS [0] (ci (GV t u) 132 s _ _ (t 3) (u 3)) ?_;refine J _ _ ?_;simp only [li,R.bind,aF,h1] at hG;subst hG;exact lP [0,3]
  have h1:=Bool.not_eq_false' _▸h1;refine ac (rS fun J O=>aS [0] (bX _ s q1 hs) ?_);refine O _ (aM [0,2,3,4] ?_);clear O J;refine aa ((dW Rt [5] (fun i=>Nat.beq i 2) (by kernel_rfl) fun J O=>?_))
  refine sH ?_
  have a_:=fx t u s jW n 1 (nx s q1)
  cases aJ:termF s n 1 (nx s q1) with
  |out=>
   simp only [li,R.bind,aF,h1,aJ] at hG;cases aO hG.symm
  |bad q2 c2=>
   rw [aJ] at a_;refine pS [0] (a_ nofun) ?_;refine J _ _ ?_;simp only [li,R.bind,aF,h1,aJ] at hG;subst hG;exact lP [0,3]
  |ok a2 q2=>
   obtain ⟨o2,n2,m2,l2⟩:=a2;rw [aJ] at a_;refine aS [0] (a_ nofun) ?_;refine O _ (aM [2] ?_);clear O J;refine ae ?_;simp only [li,R.bind,aF,h1,aJ] at hG;subst hG;exact lG [0] [TX _]
theorem kW(s:BA)(jW:s.size<=4000)(n:Nat)(hn:n<=1000000)(p:PS s):jl t u 245 [.box 0 0] s p Hj (oq s n p):=by
 intro aO;obtain ⟨r,hG⟩:∃r,oq s n p=r:=⟨_,rfl⟩;rw [hG] at aO ⊢
 have hs:s.size<4611686018427387904:=by omega
 refine aZ b8 (N:=30) Tryz.func245 rfl (by rfl) ((by cases r <;> simp [jF] at aO ⊢)) rfl ?_
 refine rz [0] ?_;refine aa (rS fun J O=>sH ?_)
 cases aF:(p.w.toList==(⟨#[102,97,108,115,101]⟩:BA).toList) with
 |true=>
  refine aS [0] (fw (GV t u) s _ p hs aF) ?_;refine O _ (aM [0,6] ?_);clear O J;refine aj rfl (rz [2] ?_);refine ae ?_;simp only [oq,eqW,aF] at hG;subst hG;exact lG [0] [Hj _]
 |false=>
  refine aS [0] (gC (GV t u) s _ p aF) ?_;refine O _ (aM [0,6] ?_);clear O J;refine aj rfl (ac ?_);refine rz [0,3] ?_;simp only [oq,eqW,aF] at hG;refine dV 3 123 1 rfl rfl rfl ?_;refine aq [0,3] rfl rfl ?_;refine af (aB (fun k Y=>∃acc q,acc.length+k<=n/\jG s k acc q=r/\Y=⟨[(0,.box 0 0),(3,.acc 1)],[rd s q,.acc 123 1 (eG acc)]⟩) (n) (⟨[],p,by simp,hG,rfl⟩) ?_);clear hG;rintro k Y ⟨acc,q,hk,hG,rfl⟩
  cases k with
  |zero=>simp only [jG] at hG;cases aO hG.symm
  |succ m=>
   refine af (rz [0,3,4] ?_);refine dV 4 282 9 rfl rfl rfl ?_;refine aq [0,3,4] rfl rfl ?_;refine aa (rS fun J O=>sH ?_)
   cases aJ:(q.w.toList==(⟨#[116,114,117,101]⟩:BA).toList) with
   |true=>
    refine aS [0] (fw (GV t u) s _ q hs aJ) ?_;refine O _ (aM [0,3,4,9] ?_);clear O J;refine aj rfl (ac ?_);refine rS fun J O=>?_;refine aI (aI (by simp only [ai,eN];omega) (by simp only [ai,eN,bq];omega)) ?_;refine O _ (aM [0,3] ?_);clear O J;refine rS fun J O=>sH ?_
    cases bh:((nx s q).w.toList==(⟨#[111,114]⟩:BA).toList) with
    |true=>
     refine aS [0] (fw (GV t u) s _ (nx s q) hs bh) ?_;refine O _ (aM [0,3,28] ?_);clear O J;refine aj rfl (ac ?_);simp only [jG,wh,eqW,R.bind,aJ,bh] at hG;exact ⟨m,nS m,_,aG (L:=[0,1]) (slots:=[0,3]) rfl rfl rfl rfl rfl,_,_,by simp only [lA,lC,lN];omega,hG,by first|rfl|(rw [<- lT];rfl)⟩
    |false=>
     refine aS [0] (gC (GV t u) s _ (nx s q) bh) ?_;refine O _ (aM [0,3,28] ?_);clear O J;refine aj rfl (rz [2] ?_);refine ae ?_;simp only [jG,wh,eqW,R.bind,aJ,bh] at hG;subst hG;exact ⟨_,[0],_,[Hj _],rfl,rfl,rfl,rfl,rfl,by first|exact PWs.refl _|(simp only [Hj,<- lT];exact PWs.refl _),rfl⟩
   |false=>
    refine aS [0] (gC (GV t u) s _ q aJ) ?_;refine O _ (aM [0,3,4,9] ?_);clear O J;refine aj rfl (rS fun J O=>sH ?_);have cz:=vk t u s jW m q
    cases bh:li s m q with
    |out=>
     simp only [jG,wh,eqW,R.bind,aJ,bh] at hG;cases aO hG.symm
    |bad q3 c3=>
     rw [bh] at cz;refine pS [0] (cz nofun) ?_;refine J _ _ ?_;simp only [jG,wh,eqW,R.bind,aJ,bh] at hG;subst hG;exact lP [0,3]
    |ok a3 q3=>
     obtain ⟨⟨o3,n3,m3,l3⟩,w3,⟨o3b,n3b,m3b,l3b⟩⟩:=a3;rw [bh] at cz;refine aS [0] (cz nofun) ?_;refine aI (aI (by simp only [ai,lN];omega) (by simp only [ai,lN,bq];omega)) ?_;refine O _ (aM [0,3,4] ?_);clear O J;refine af ?_;simp only [jG,wh,eqW,aJ,bh,R.bind] at hG;clear bh cz;refine aB (fun k Y=>∃row q,row.length+k<=m+1/\((rJ s k row q).bind fun row q=>match eqW q.w ⟨#[111,114]⟩ with|true=>jG s m (acc++[row]) (nx s q)|false=>.ok (acc++[row]) q)=r/\Y=⟨[(0,.box 0 0),(3,.acc 1),(4,.acc 2)],[rd s q,.acc 123 1 (eG acc),.acc 282 9 (kr row)]⟩) (m) (⟨[_],q3,by simp only [lC,lN];omega,hG,rfl⟩) ?_;clear hG;rintro k Y ⟨row,q5,Zr,hG,rfl⟩
     cases k with
     |zero=>simp only [rJ,R.bind] at hG;cases aO hG.symm
     |succ m2=>
      refine aa (rS fun J O=>sH ?_)
      cases ot:(q5.w.toList==(⟨#[97,110,100]⟩:BA).toList) with
      |true=>
       refine aS [0] (fw (GV t u) s _ q5 hs ot) ?_;refine O _ (aM [0,3,4,16] ?_);clear O J;refine aj rfl (ac ?_);refine af (rG fun J O=>sH ?_);have Nl:=vk t u s jW m2 (nx s q5)
       cases CG:li s m2 (nx s q5) with
       |out=>
        simp only [rJ,eqW,R.bind,ot,CG] at hG;cases aO hG.symm
       |bad q7 c7=>
        rw [CG] at Nl;refine pS [0] (Nl nofun) ?_;refine J _ _ ?_;simp only [rJ,eqW,R.bind,ot,CG] at hG;subst hG;exact lP [0,3]
       |ok a7 q7=>
        obtain ⟨⟨o7,n7,m7,l7⟩,w7,⟨o7b,n7b,m7b,l7b⟩⟩:=a7;rw [CG] at Nl;refine aS [0] (Nl nofun) ?_;refine aI (aI (by simp only [ai,fy];omega) (by simp only [ai,fy,bq];omega)) ?_;refine O _ ?_;clear O J;simp only [rJ,eqW,R.bind,ot,CG] at hG;exact ⟨m2,nS m2,_,ak (slots:=[0,3,4]) rfl rfl,_,_,by simp only [lA,lC,lN];omega,hG,by rw [<- AR];rfl⟩
      |false=>
       refine aS [0] (gC (GV t u) s _ q5 ot) ?_;refine O _ (aM [0,3,4,16] ?_);clear O J;refine aj rfl (aA ?_);refine rS fun J O=>?_;refine aI (aI (by simp only [ai,eN];omega) (by simp only [ai,eN,bq];omega)) ?_;refine O _ (aM [0,3] ?_);clear O J;refine rS fun J O=>sH ?_
       cases CG:(q5.w.toList==(⟨#[111,114]⟩:BA).toList) with
       |true=>
        refine aS [0] (fw (GV t u) s _ q5 hs CG) ?_;refine O _ (aM [0,3,28] ?_);clear O J;refine aj rfl (ac ?_);simp only [rJ,eqW,R.bind,ot,CG] at hG;exact ⟨m,nS m,_,aG (L:=[0,1]) (slots:=[0,3]) rfl rfl rfl rfl rfl,_,_,by simp only [lA,lC,lN];omega,hG,by first|rfl|(rw [<- lT];rfl)⟩
       |false=>
        refine aS [0] (gC (GV t u) s _ q5 CG) ?_;refine O _ (aM [0,3,28] ?_);clear O J;refine aj rfl (rz [2] ?_);refine ae ?_;simp only [rJ,eqW,R.bind,ot,CG] at hG;subst hG;exact ⟨_,[0],_,[Hj _],rfl,rfl,rfl,rfl,rfl,by first|exact PWs.refl _|(simp only [Hj,<- lT];exact PWs.refl _),rfl⟩
end
end
section
mutual
def ck(s:BA):Nat->Int->List Sm->PS s->R s (List Sm)
 |0,_,_,_=>.out
 |n+1,d,acc,p=>match (!eqW p.w ⟨#[125]⟩&&!eqW p.w ⟨#[114,101,116,117,114,110]⟩) with
  |true=>match decide (d>12) with
   |true=>.bad p 0
   |false=>(bW s n d p).bind fun st q=>ck s n d (acc++[st]) q
  |false=>.ok acc p
def dp(s:BA):Nat->Int->PS s->R s (List Sm)
 |0,_,_=>.out
 |n+1,d,p=>(bx s ⟨#[123]⟩ p).bind fun _ q=>(ck s n d [] q).bind fun l q=>(bx s ⟨#[125]⟩ q).bind fun _ q=>.ok l q
def bW(s:BA):Nat->Int->PS s->R s Sm
 |0,_,_=>.out
 |n+1,d,p=>match (eqW p.w ⟨#[105,102]⟩||eqW p.w ⟨#[119,104,105,108,101]⟩) with
  |true=>(oq s n (nx s p)).bind fun c q=>(dp s n (IntKind.i64.wrap (d+1)) q).bind fun b q=>match (eqW p.w ⟨#[105,102]⟩&&eqW q.w ⟨#[101,108,115,101]⟩) with
   |true=>(dp s n (IntKind.i64.wrap (d+1)) (nx s q)).bind fun e q=>.ok (.mk p.w ⟨#[]⟩ ⟨#[]⟩ [] c b e) q
   |false=>.ok (.mk p.w ⟨#[]⟩ ⟨#[]⟩ [] c b []) q
  |false=>match (eqW p.w ⟨#[97,115,115,101,114,116]⟩||eqW p.w ⟨#[97,115,115,117,109,101]⟩) with
   |true=>(oq s n (nx s p)).bind fun c q=>(bx s ⟨#[59]⟩ q).bind fun _ q=>.ok (.mk p.w ⟨#[]⟩ ⟨#[]⟩ [] c [] []) q
   |false=>match eqW p.w ⟨#[114,101,97,100]⟩ with
    |true=>(fv s (nx s p)).bind fun m q=>(bx s ⟨#[59]⟩ q).bind fun _ q=>.ok (.mk p.w m ⟨#[]⟩ [] [] [] []) q
    |false=>(fv s p).bind fun m q=>match eqW q.w ⟨#[91]⟩ with
     |true=>(termF s n 1 (nx s q)).bind fun i q=>(bx s ⟨#[93]⟩ q).bind fun _ q=>(bx s ⟨#[61]⟩ q).bind fun _ q=>(termF s n 1 q).bind fun e q=>(bx s ⟨#[59]⟩ q).bind fun _ q=>.ok (.mk ⟨#[112,117,116]⟩ m ⟨#[]⟩ [i,e] [] [] []) q
     |false=>(bx s ⟨#[61]⟩ q).bind fun _ q=>match eqW q.w ⟨#[99,97,108,108]⟩ with
      |true=>(fv s (nx s q)).bind fun f q=>(bx s ⟨#[40]⟩ q).bind fun _ q=>(iK s n [] q).bind fun l q=>(bx s ⟨#[59]⟩ q).bind fun _ q=>.ok (.mk ⟨#[99,97,108,108]⟩ m f l [] [] []) q
      |false=>(termF s n 1 q).bind fun e q=>(bx s ⟨#[59]⟩ q).bind fun _ q=>.ok (.mk ⟨#[115,101,116]⟩ m ⟨#[]⟩ [e] [] [] []) q
def iK(s:BA):Nat->List Ex->PS s->R s (List Ex)
 |0,_,_=>.out
 |n+1,acc,p=>match (!eqW p.w ⟨#[41]⟩) with
  |true=>match decide ((acc.length:Int)>0) with
   |true=>(bx s ⟨#[44]⟩ p).bind fun _ q=>(termF s n 1 q).bind fun e q=>iK s n (acc++[e]) q
   |false=>(termF s n 1 p).bind fun e q=>iK s n (acc++[e]) q
  |false=>.ok acc (nx s p)
end
def Hk:List Sm->PV:=fun l=>.d (.sl 7 (bF l))
def wj:Sm->PV:=fun st=>.d (.agg st.cs)
theorem vn:∀(l:List Sm) (t:Sm),bF l++[t.cs]=bF (l++[t])
 |[],t=>by simp [bF]
 |x::r,t=>by simp only [bF,List.cons_append,vn r t]
theorem cj:∀(l:List Sm),(bF l).length=l.length
 |[]=>rfl
 |x::r=>by simp [bF,cj r]
theorem pL:∀(l:List Ex) (t:Ex),bR l++[t.cs]=bR (l++[t])
 |[],t=>by simp [bR]
 |x::r,t=>by simp only [bR,List.cons_append,pL r t]
theorem ba:∀(l:List Ex),(bR l).length=l.length
 |[]=>rfl
 |x::r=>by simp [bR,ba r]
def qA:PV:=.d (.s (.slice none 0 0))
def zS:List PV:=[.d (aW ⟨#[]⟩),.d (aW ⟨#[]⟩),.d (aW ⟨#[]⟩),qA,qA,qA,qA]
section
variable (t:Nat->TypeId) (u:Nat->Value)
def zJ(s:BA)(n:Nat):Prop:=∀(d:Int) (p:PS s),jl t u 197 [.box 0 0,.d (aD d)] s p wj (bW s n d p)
def tn(s:BA)(n:Nat):Prop:=∀(d:Int) (p:PS s),jl t u 138 [.box 0 0,.d (aD d),.fn 141 []] s p Hk (dp s n d p)
theorem qB(G:Glob):Spec Tryz.prog G 141 [] [] (.ret (.tup [])) []:=by
 refine sA (N:=0) Tryz.func141 ?_;refine ac ?_;exact lI [] _
theorem Ee(s:BA)(jW:s.size<=4000)(n:Nat)(hn:n<=1000000)(ih:∀m,m<=n->zJ t u s m):tn t u s (n+1):=by
 intro d p aO;obtain ⟨r,hG⟩:∃r,dp s (n+1) d p=r:=⟨_,rfl⟩;rw [hG] at aO ⊢
 have hs:s.size<4611686018427387904:=by omega
 refine aZ b8 (N:=38) Tryz.func138 rfl (by rfl) ((by cases r <;> simp [jF] at aO ⊢)) rfl ?_
 refine rz [0,1,2] ?_;refine rS fun J O=>sH ?_;have bB:=bf t u s ⟨#[123]⟩ p hs
 cases aF:bx s ⟨#[123]⟩ p with
 |out=>
  simp only [dp,R.bind,aF] at hG;cases aO hG.symm
 |bad q1 c1=>
  rw [aF] at bB;refine pS [0] (bB nofun) ?_;refine J _ _ ?_;simp only [dp,R.bind,aF] at hG;subst hG;exact lP [0,1]
 |ok a1 q1=>
  rw [aF] at bB;refine aS [0] (bB nofun) ?_;refine O _ (aM [0,1,2] ?_);clear O J;refine rz [0,1,2,7] ?_;refine dV 7 217 7 rfl rfl rfl ?_;refine aq [0,1,2,7] rfl rfl ?_;refine aa (af ?_);simp only [dp,R.bind,aF] at hG;clear aF bB;refine aB (fun k Y=>∃acc q,acc.length+k<=n/\((ck s k d acc q).bind fun l q=>(bx s ⟨#[125]⟩ q).bind fun _ q=>.ok l q)=r/\Y=⟨[(0,.box 0 0),(1,.d (aD d)),(2,.fn 141 []),(7,.acc 1)],[rd s q,.acc 217 7 (bF acc)]⟩) (n) (⟨[],_,by simp,hG,rfl⟩) ?_;clear hG;rintro k Y ⟨acc,q,hk,hG,rfl⟩
  cases k with
  |zero=>simp only [ck,R.bind] at hG;cases aO hG.symm
  |succ m=>
   refine aa (rS fun J O=>?_);refine ab (fun h1=>?_) (fun h1=>?_)
   ·refine O _ (aM [0,1,2,7,21] ?_);clear O J
    refine cQ rfl (fun h2=>?_) fun h2=>?_
    ·refine ac (af ?_);refine aa (rz [0,1,2,7,23] ?_)
     refine cQ rfl (fun h3=>?_) fun h3=>?_
     ·refine rG fun J O=>pS [0] (ci (GV t u) 132 s _ _ (t 0) (u 0)) ?_;refine J _ _ ?_;simp only [ck,eqW,bz,R.bind,h1,h2,h3] at hG;subst hG;exact lP [0,2]
     refine ac (rG fun J O=>sH ?_);have a_:=ih m (by omega) d q
     cases aJ:bW s m d q with
     |out=>
      simp only [ck,eqW,bz,R.bind,h1,h2,h3,aJ] at hG;cases aO hG.symm
     |bad q2 c2=>
      rw [aJ] at a_;refine pS [0] (a_ nofun) ?_;refine J _ _ ?_;simp only [ck,eqW,bz,R.bind,h1,h2,h3,aJ] at hG;subst hG;exact lP [0,2]
     |ok a2 q2=>
      obtain ⟨x2,y2,z2,l2,c2,b2,e2⟩:=a2;rw [aJ] at a_;refine aS [0] (a_ nofun) ?_;refine aI (aI (by simp only [ai,cj];omega) (by simp only [ai,cj,bq];omega)) ?_;refine O _ ?_;clear O J;simp only [ck,eqW,bz,R.bind,h1,h2,h3,aJ] at hG;exact ⟨m,nS m,_,ak (slots:=[0,1,2,7]) rfl rfl,_,_,by simp only [lA,lC,lN];omega,hG,by rw [<- vn];rfl⟩
    refine aA ?_;refine rS fun J O=>aS [] (qB _) ?_;refine O _ (aM [0,7] ?_);clear O J;refine rS fun J O=>sH ?_;have a_:=bf t u s ⟨#[125]⟩ q hs
    cases aJ:bx s ⟨#[125]⟩ q with
    |out=>
     simp only [ck,eqW,bz,R.bind,h1,h2,aJ] at hG;cases aO hG.symm
    |bad q2 c2=>
     rw [aJ] at a_;refine pS [0] (a_ nofun) ?_;refine J _ _ ?_;simp only [ck,eqW,bz,R.bind,h1,h2,aJ] at hG;subst hG;exact lP [0,2]
    |ok a2 q2=>
     rw [aJ] at a_;refine aS [0] (a_ nofun) ?_;refine O _ (aM [7] ?_);clear O J;refine rz [6] ?_;refine ae ?_;simp only [ck,eqW,bz,R.bind,h1,h2,aJ] at hG;subst hG;exact lF [0] [Hk _]
   refine O _ (aM [0,1,2,7,21] ?_);clear O J;refine aj rfl (aA ?_);refine rS fun J O=>aS [] (qB _) ?_;refine O _ (aM [0,7] ?_);clear O J;refine rS fun J O=>sH ?_;have a_:=bf t u s ⟨#[125]⟩ q hs
   cases aJ:bx s ⟨#[125]⟩ q with
   |out=>
    simp only [ck,eqW,bz,R.bind,h1,aJ] at hG;cases aO hG.symm
   |bad q2 c2=>
    rw [aJ] at a_;refine pS [0] (a_ nofun) ?_;refine J _ _ ?_;simp only [ck,eqW,bz,R.bind,h1,aJ] at hG;subst hG;exact lP [0,2]
   |ok a2 q2=>
    rw [aJ] at a_;refine aS [0] (a_ nofun) ?_;refine O _ (aM [7] ?_);clear O J;refine rz [6] ?_;refine ae ?_;simp only [ck,eqW,bz,R.bind,h1,aJ] at hG;subst hG;exact lF [0] [Hk _]
def Nm:Plan:=(.take 0 (.load 1 (.take 2 (.one 3 (.one 4 (.one 5 (.take 6 (.one 7 .done))))))))
def FX:Plan:=(.take 0 (.load 1 (.take 2 (.one 3 (.one 4 (.one 5 (.take 6 (.one 7 .done))))))))
def FY:Plan:=(.take 0 (.load 1 (.take 2 (.one 3 (.one 4 (.one 5 (.take 6 (.one 7 .done))))))))
theorem Hl(s:BA)(jW:s.size<=4000)(n:Nat)(hn:n<=1000000)(Wy:∀m,m<=n->tn t u s m):zJ t u s (n+1):=by
 intro d p aO;obtain ⟨r,hG⟩:∃r,bW s (n+1) d p=r:=⟨_,rfl⟩;rw [hG] at aO ⊢
 have hs:s.size<4611686018427387904:=by omega
 refine aZ b8 (N:=124) Tryz.func197 rfl (by rfl) ((by cases r <;> simp [jF] at aO ⊢)) rfl ?_
 refine rz [0,1,4] ?_;refine aa (rz [0,1,4,5] ?_);refine rz [0,1,4,5,14] ?_;refine af (aa ?_);refine rz [0,1,4,5,14,15] ?_;refine cQ rfl (fun h1=>?_) fun h1=>?_
 ·refine ac (aj rfl ?_);refine rS fun J O=>?_
  refine aS [0] (bX _ s p hs) ?_;refine O _ (aM [0,1,4,5] ?_);clear O J;refine rS fun J O=>sH ?_;have bB:=kW t u s jW n hn (nx s p)
  cases aF:oq s n (nx s p) with
  |out=>
   simp only [bW,eqW,bz,R.bind,h1,aF] at hG;cases aO hG.symm
  |bad q1 c1=>
   rw [aF] at bB;refine pS [0] (bB nofun) ?_;refine J _ _ ?_;simp only [bW,eqW,bz,R.bind,h1,aF] at hG;subst hG;exact lP [0,2]
  |ok a1 q1=>
   rw [aF] at bB;refine aS [0] (bB nofun) ?_;refine O _ (aM [0,1,4,5,6] ?_);clear O J;refine rS fun J O=>sH ?_;have a_:=Wy n (by omega) (IntKind.i64.wrap (d+1)) q1
   cases aJ:dp s n (IntKind.i64.wrap (d+1)) q1 with
   |out=>
    simp only [bW,eqW,bz,R.bind,h1,aF,aJ] at hG;cases aO hG.symm
   |bad q2 c2=>
    rw [aJ] at a_;refine pS [0] (a_ nofun) ?_;refine J _ _ ?_;simp only [bW,eqW,bz,R.bind,h1,aF,aJ] at hG;subst hG;exact lP [0,3]
   |ok a2 q2=>
    rw [aJ] at a_;refine aS [0] (a_ nofun) ?_;refine O _ (aM [0,1,4,5,6] ?_);clear O J;refine aa (rS fun J O=>?_);refine ab (fun h2=>?_) (fun h2=>?_)
    ·refine sH ?_
     cases bh:(q2.w.toList==(⟨#[101,108,115,101]⟩:BA).toList) with
     |true=>
      refine aS [0] (fw (GV t u) s _ q2 hs bh) ?_;refine O _ (aM [0,1,4,6,34] ?_);clear O J;refine aj rfl (rG fun J O=>sH ?_);have lw:=Wy n (by omega) (IntKind.i64.wrap (d+1)) (nx s q2)
      cases fC:dp s n (IntKind.i64.wrap (d+1)) (nx s q2) with
      |out=>
       simp only [bW,eqW,bz,R.bind,h1,aF,aJ,bh,fC] at hG;cases aO hG.symm
      |bad q4 c4=>
       rw [fC] at lw;refine pS [0] (lw nofun) ?_;refine J _ _ ?_;simp only [bW,eqW,bz,R.bind,h1,aF,aJ,bh,fC] at hG;subst hG;exact lP [0,3]
      |ok a4 q4=>
       rw [fC] at lw;refine aS [0] (lw nofun) ?_;refine O _ (aM [4,6] ?_);clear O J;refine rz [4] ?_;refine ae ?_;simp only [bW,eqW,bz,R.bind,h1,aF,aJ,bh,fC] at hG;subst hG;exact lG [0] [wj _]
     |false=>
      refine aS [0] (gC (GV t u) s _ q2 bh) ?_;refine O _ (aM [0,1,4,6,34] ?_);clear O J;refine aj rfl (ac ?_);refine rz [4] ?_;refine ae ?_;simp only [bW,eqW,bz,R.bind,h1,aF,aJ,bh] at hG;subst hG;exact lG [0] [wj _]
    exact absurd (h1.symm.trans h2) (by decide)
 refine rG fun J O=>O _ (aM [0,1,4,5,14,15] ?_);clear O J;refine cQ rfl (fun h2=>?_) fun h2=>?_
 ·refine rS fun J O=>?_
  refine aS [0] (bX _ s p hs) ?_;refine O _ (aM [0,1,4,5] ?_);clear O J;refine rS fun J O=>sH ?_;have bB:=kW t u s jW n hn (nx s p)
  cases aF:oq s n (nx s p) with
  |out=>
   simp only [bW,eqW,bz,R.bind,h1,h2,aF] at hG;cases aO hG.symm
  |bad q1 c1=>
   rw [aF] at bB;refine pS [0] (bB nofun) ?_;refine J _ _ ?_;simp only [bW,eqW,bz,R.bind,h1,h2,aF] at hG;subst hG;exact lP [0,2]
  |ok a1 q1=>
   rw [aF] at bB;refine aS [0] (bB nofun) ?_;refine O _ (aM [0,1,4,5,6] ?_);clear O J;refine rS fun J O=>sH ?_;have a_:=Wy n (by omega) (IntKind.i64.wrap (d+1)) q1
   cases aJ:dp s n (IntKind.i64.wrap (d+1)) q1 with
   |out=>
    simp only [bW,eqW,bz,R.bind,h1,h2,aF,aJ] at hG;cases aO hG.symm
   |bad q2 c2=>
    rw [aJ] at a_;refine pS [0] (a_ nofun) ?_;refine J _ _ ?_;simp only [bW,eqW,bz,R.bind,h1,h2,aF,aJ] at hG;subst hG;exact lP [0,3]
   |ok a2 q2=>
    rw [aJ] at a_;refine aS [0] (a_ nofun) ?_;refine O _ (aM [0,1,4,5,6] ?_);clear O J;refine aa (rS fun J O=>?_);refine ab (fun h3=>?_) (fun h3=>?_)
    ·exact absurd (h1.symm.trans h3) (by decide)
    refine O _ (aM [0,1,4,6,34] ?_);clear O J;refine aj rfl (ac ?_);refine rz [4] ?_;refine ae ?_;simp only [bW,eqW,bz,R.bind,h1,h2,aF,aJ] at hG;subst hG;exact lG [0] [wj _]
 refine aa (rz [0,4,5,14,41] ?_);refine cQ rfl (fun h3=>?_) fun h3=>?_
 ·refine ac (aj rfl ?_);refine rS fun J O=>?_
  refine aS [0] (bX _ s p hs) ?_;refine O _ (aM [0,4,5] ?_);clear O J;refine rS fun J O=>sH ?_;have bB:=kW t u s jW n hn (nx s p)
  cases aF:oq s n (nx s p) with
  |out=>
   simp only [bW,eqW,bz,R.bind,h1,h2,h3,aF] at hG;cases aO hG.symm
  |bad q1 c1=>
   rw [aF] at bB;refine pS [0] (bB nofun) ?_;refine J _ _ ?_;simp only [bW,eqW,bz,R.bind,h1,h2,h3,aF] at hG;subst hG;exact lP [0,2]
  |ok a1 q1=>
   rw [aF] at bB;refine aS [0] (bB nofun) ?_;refine O _ (aM [0,4,7] ?_);clear O J;refine rS fun J O=>sH ?_;have a_:=bf t u s ⟨#[59]⟩ q1 hs
   cases aJ:bx s ⟨#[59]⟩ q1 with
   |out=>
    simp only [bW,eqW,bz,R.bind,h1,h2,h3,aF,aJ] at hG;cases aO hG.symm
   |bad q2 c2=>
    rw [aJ] at a_;refine pS [0] (a_ nofun) ?_;refine J _ _ ?_;simp only [bW,eqW,bz,R.bind,h1,h2,h3,aF,aJ] at hG;subst hG;exact lP [0,3]
   |ok a2 q2=>
    rw [aJ] at a_;refine aS [0] (a_ nofun) ?_;refine O _ (aM [4,7] ?_);clear O J;refine rz [4] ?_;refine ae ?_;simp only [bW,eqW,bz,R.bind,h1,h2,h3,aF,aJ] at hG;subst hG;exact lG [0] [wj _]
 refine rG fun J O=>O _ (aM [0,4,5,14,41] ?_);clear O J;refine cQ rfl (fun h4=>?_) fun h4=>?_
 ·refine rS fun J O=>?_
  refine aS [0] (bX _ s p hs) ?_;refine O _ (aM [0,4,5] ?_);clear O J;refine rS fun J O=>sH ?_;have bB:=kW t u s jW n hn (nx s p)
  cases aF:oq s n (nx s p) with
  |out=>
   simp only [bW,eqW,bz,R.bind,h1,h2,h3,h4,aF] at hG;cases aO hG.symm
  |bad q1 c1=>
   rw [aF] at bB;refine pS [0] (bB nofun) ?_;refine J _ _ ?_;simp only [bW,eqW,bz,R.bind,h1,h2,h3,h4,aF] at hG;subst hG;exact lP [0,2]
  |ok a1 q1=>
   rw [aF] at bB;refine aS [0] (bB nofun) ?_;refine O _ (aM [0,4,7] ?_);clear O J;refine rS fun J O=>sH ?_;have a_:=bf t u s ⟨#[59]⟩ q1 hs
   cases aJ:bx s ⟨#[59]⟩ q1 with
   |out=>
    simp only [bW,eqW,bz,R.bind,h1,h2,h3,h4,aF,aJ] at hG;cases aO hG.symm
   |bad q2 c2=>
    rw [aJ] at a_;refine pS [0] (a_ nofun) ?_;refine J _ _ ?_;simp only [bW,eqW,bz,R.bind,h1,h2,h3,h4,aF,aJ] at hG;subst hG;exact lP [0,3]
   |ok a2 q2=>
    rw [aJ] at a_;refine aS [0] (a_ nofun) ?_;refine O _ (aM [4,7] ?_);clear O J;refine rz [4] ?_;refine ae ?_;simp only [bW,eqW,bz,R.bind,h1,h2,h3,h4,aF,aJ] at hG;subst hG;exact lG [0] [wj _]
 refine rz [0,4,5,53] ?_;refine cQ rfl (fun h5=>?_) fun h5=>?_
 ·refine rS fun J O=>?_
  refine aS [0] (bX _ s p hs) ?_;refine O _ (aM [0,4,5] ?_);clear O J;refine rS fun J O=>sH ?_;have bB:=ep t u s (nx s p) hs
  cases aF:fv s (nx s p) with
  |out=>
   simp only [bW,eqW,bz,R.bind,h1,h2,h3,h4,h5,aF] at hG;cases aO hG.symm
  |bad q1 c1=>
   rw [aF] at bB;refine pS [0] (bB nofun) ?_;refine J _ _ ?_;simp only [bW,eqW,bz,R.bind,h1,h2,h3,h4,h5,aF] at hG;subst hG;exact lP [0,2]
  |ok a1 q1=>
   rw [aF] at bB;refine aS [0] (bB nofun) ?_;refine O _ (aM [0,4,8] ?_);clear O J;refine rS fun J O=>sH ?_;have a_:=bf t u s ⟨#[59]⟩ q1 hs
   cases aJ:bx s ⟨#[59]⟩ q1 with
   |out=>
    simp only [bW,eqW,bz,R.bind,h1,h2,h3,h4,h5,aF,aJ] at hG;cases aO hG.symm
   |bad q2 c2=>
    rw [aJ] at a_;refine pS [0] (a_ nofun) ?_;refine J _ _ ?_;simp only [bW,eqW,bz,R.bind,h1,h2,h3,h4,h5,aF,aJ] at hG;subst hG;exact lP [0,3]
   |ok a2 q2=>
    rw [aJ] at a_;refine aS [0] (a_ nofun) ?_;refine O _ (aM [4,8] ?_);clear O J;refine rz [4] ?_;refine ae ?_;simp only [bW,eqW,bz,R.bind,h1,h2,h3,h4,h5,aF,aJ] at hG;subst hG;exact lG [0] [wj _]
 refine ac (rS fun J O=>sH ?_);have bB:=ep t u s p hs
 cases aF:fv s p with
 |out=>
  simp only [bW,eqW,bz,R.bind,h1,h2,h3,h4,h5,aF] at hG;cases aO hG.symm
 |bad q1 c1=>
  rw [aF] at bB;refine pS [0] (bB nofun) ?_;refine J _ _ ?_;simp only [bW,eqW,bz,R.bind,h1,h2,h3,h4,h5,aF] at hG;subst hG;exact lP [0,2]
 |ok a1 q1=>
  rw [aF] at bB;refine aS [0] (bB nofun) ?_;refine O _ (aM [0,4,9] ?_);clear O J;refine cr 2 3 157 4 rfl rfl rfl rfl ?_;refine aq [0,4,9] rfl rfl ?_;refine aa (rS fun J O=>sH ?_)
  cases aJ:(q1.w.toList==(⟨#[91]⟩:BA).toList) with
  |true=>
   refine aS [0] (fw (GV t u) s _ q1 hs aJ) ?_;refine O _ (aM [0,4,9,68] ?_);clear O J;refine aj rfl (rz [0,4,9] ?_);refine aa ((dW Nm [7] (fun i=>Nat.beq i 2) (by kernel_rfl) fun J O=>?_))
   refine sH ?_
   have cz:=fx t u s jW n 1 (nx s q1)
   cases bh:termF s n 1 (nx s q1) with
   |out=>
    simp only [bW,eqW,bz,R.bind,h1,h2,h3,h4,h5,aF,aJ,bh] at hG;cases aO hG.symm
   |bad q3 c3=>
    rw [bh] at cz;refine pS [0] (cz nofun) ?_;refine J _ _ ?_;simp only [bW,eqW,bz,R.bind,h1,h2,h3,h4,h5,aF,aJ,bh] at hG;subst hG;exact lP [0,4]
   |ok a3 q3=>
    obtain ⟨o3,n3,m3,l3⟩:=a3;rw [bh] at cz;refine aS [0] (cz nofun) ?_;refine aI (aI (by simp only [ai,lN];omega) (by simp only [ai,lN,bq];omega)) ?_;refine O _ (aM [0,4,9] ?_);clear O J;refine rG fun J O=>sH ?_;have lw:=bf t u s ⟨#[93]⟩ q3 hs
    cases fC:bx s ⟨#[93]⟩ q3 with
    |out=>
     simp only [bW,eqW,bz,R.bind,h1,h2,h3,h4,h5,aF,aJ,bh,fC] at hG;cases aO hG.symm
    |bad q4 c4=>
     rw [fC] at lw;refine pS [0] (lw nofun) ?_;refine J _ _ ?_;simp only [bW,eqW,bz,R.bind,h1,h2,h3,h4,h5,aF,aJ,bh,fC] at hG;subst hG;exact lP [0,4]
    |ok a4 q4=>
     rw [fC] at lw;refine aS [0] (lw nofun) ?_;refine O _ (aM [0,4,9] ?_);clear O J;refine rS fun J O=>sH ?_;have xE:=bf t u s ⟨#[61]⟩ q4 hs
     cases mH:bx s ⟨#[61]⟩ q4 with
     |out=>
      simp only [bW,eqW,bz,R.bind,h1,h2,h3,h4,h5,aF,aJ,bh,fC,mH] at hG;cases aO hG.symm
     |bad q5 c5=>
      rw [mH] at xE;refine pS [0] (xE nofun) ?_;refine J _ _ ?_;simp only [bW,eqW,bz,R.bind,h1,h2,h3,h4,h5,aF,aJ,bh,fC,mH] at hG;subst hG;exact lP [0,4]
     |ok a5 q5=>
      rw [mH] at xE;refine aS [0] (xE nofun) ?_;refine O _ (aM [0,4,9] ?_);clear O J;refine aa (rS fun J O=>?_);refine ab (fun h6=>?_) (fun h6=>?_)
      ·exact absurd h6 (by simp only [ByteArray.toList_eq];decide)
      refine O _ (aM [0,4,9,87] ?_);clear O J;refine aj rfl ((dW FX [7] (fun i=>Nat.beq i 2) (by kernel_rfl) fun J O=>?_))
      refine sH ?_
      have Cs:=fx t u s jW n 1 q5
      cases ot:termF s n 1 q5 with
      |out=>
       simp only [bW,eqW,bz,R.bind,h1,h2,h3,h4,h5,aF,aJ,bh,fC,mH,ot] at hG;cases aO hG.symm
      |bad q6 c6=>
       rw [ot] at Cs;refine pS [0] (Cs nofun) ?_;refine J _ _ ?_;simp only [bW,eqW,bz,R.bind,h1,h2,h3,h4,h5,aF,aJ,bh,fC,mH,ot] at hG;subst hG;exact lP [0,4]
      |ok a6 q6=>
       obtain ⟨o6,n6,m6,l6⟩:=a6;rw [ot] at Cs;refine aS [0] (Cs nofun) ?_;refine aI (aI (by simp only [ai,lA,lN];omega) (by simp only [ai,lA,lN,bq];omega)) ?_;refine O _ (aM [0,4,9] ?_);clear O J;refine rS fun J O=>sH ?_;have Nl:=bf t u s ⟨#[59]⟩ q6 hs
       cases CG:bx s ⟨#[59]⟩ q6 with
       |out=>
        simp only [bW,eqW,bz,R.bind,h1,h2,h3,h4,h5,aF,aJ,bh,fC,mH,ot,CG] at hG;cases aO hG.symm
       |bad q7 c7=>
        rw [CG] at Nl;refine pS [0] (Nl nofun) ?_;refine J _ _ ?_;simp only [bW,eqW,bz,R.bind,h1,h2,h3,h4,h5,aF,aJ,bh,fC,mH,ot,CG] at hG;subst hG;exact lP [0,4]
       |ok a7 q7=>
        rw [CG] at Nl;refine aS [0] (Nl nofun) ?_;refine O _ (aM [4,9] ?_);clear O J;refine rz [4] ?_;refine ae ?_;simp only [bW,eqW,bz,R.bind,h1,h2,h3,h4,h5,aF,aJ,bh,fC,mH,ot,CG] at hG;subst hG;exact lG [0] [wj _]
  |false=>
   refine aS [0] (gC (GV t u) s _ q1 aJ) ?_;refine O _ (aM [0,4,9,68] ?_);clear O J;refine aj rfl (ac ?_);refine rS fun J O=>sH ?_;have cz:=bf t u s ⟨#[61]⟩ q1 hs
   cases bh:bx s ⟨#[61]⟩ q1 with
   |out=>
    simp only [bW,eqW,bz,R.bind,h1,h2,h3,h4,h5,aF,aJ,bh] at hG;cases aO hG.symm
   |bad q3 c3=>
    rw [bh] at cz;refine pS [0] (cz nofun) ?_;refine J _ _ ?_;simp only [bW,eqW,bz,R.bind,h1,h2,h3,h4,h5,aF,aJ,bh] at hG;subst hG;exact lP [0,4]
   |ok a3 q3=>
    rw [bh] at cz;refine aS [0] (cz nofun) ?_;refine O _ (aM [0,4,9] ?_);clear O J;refine aa (rS fun J O=>?_);refine ab (fun h6=>?_) (fun h6=>?_)
    ·refine sH ?_
     cases fC:(q3.w.toList==(⟨#[99,97,108,108]⟩:BA).toList) with
     |true=>
      refine aS [0] (fw (GV t u) s _ q3 hs fC) ?_;refine O _ (aM [0,4,9,87] ?_);clear O J;refine aj rfl (rS fun J O=>sH ?_);have xE:=ep t u s (nx s q3) hs
      cases mH:fv s (nx s q3) with
      |out=>
       simp only [bW,eqW,bz,R.bind,h1,h2,h3,h4,h5,aF,aJ,bh,fC,mH] at hG;cases aO hG.symm
      |bad q5 c5=>
       rw [mH] at xE;refine pS [0] (xE nofun) ?_;refine J _ _ ?_;simp only [bW,eqW,bz,R.bind,h1,h2,h3,h4,h5,aF,aJ,bh,fC,mH] at hG;subst hG;exact lP [0,4]
      |ok a5 q5=>
       rw [mH] at xE;refine aS [0] (xE nofun) ?_;refine O _ (aM [0,4,9] ?_);clear O J;refine rS fun J O=>sH ?_;have Cs:=bf t u s ⟨#[40]⟩ q5 hs
       cases ot:bx s ⟨#[40]⟩ q5 with
       |out=>
        simp only [bW,eqW,bz,R.bind,h1,h2,h3,h4,h5,aF,aJ,bh,fC,mH,ot] at hG;cases aO hG.symm
       |bad q6 c6=>
        rw [ot] at Cs;refine pS [0] (Cs nofun) ?_;refine J _ _ ?_;simp only [bW,eqW,bz,R.bind,h1,h2,h3,h4,h5,aF,aJ,bh,fC,mH,ot] at hG;subst hG;exact lP [0,4]
       |ok a6 q6=>
        rw [ot] at Cs;refine aS [0] (Cs nofun) ?_;refine O _ (aM [0,4,9] ?_);clear O J;refine aa (af ?_);simp only [bW,eqW,bz,R.bind,h1,h2,h3,h4,h5,aF,aJ,bh,fC,mH,ot] at hG;clear aF aJ bh fC mH ot;refine aB (fun k Y=>∃acc q,acc.length+k<=n/\((iK s k acc q).bind fun l q=>(bx s ⟨#[59]⟩ q).bind fun _ q=>.ok (.mk ⟨#[99,97,108,108]⟩ a1 a5 l [] [] []) q)=r/\Y=⟨[(0,.box 0 0),(4,.box 1 0),(9,.box 2 0)],[rd s q,.box 217 zS,.box 217 [.d (aW ⟨#[99,97,108,108]⟩),.d (aW a1),.d (aW a5),.acc 3,qA,qA,qA],.acc 157 4 (bR acc)]⟩) (n) (⟨[],_,by simp,hG,rfl⟩) ?_;clear hG;rintro k Y ⟨acc,q,hk,hG,rfl⟩
        cases k with
        |zero=>simp only [iK,R.bind] at hG;cases aO hG.symm
        |succ m=>
         refine aa (rz [0,4,9,98] ?_);refine cQ rfl (fun h7=>?_) fun h7=>?_
         ·refine ac (af ?_);refine aa (rz [0,4,9,102] ?_)
          refine cQ rfl (fun h8=>?_) fun h8=>?_
          ·rw [ba] at h8
           refine rG fun J O=>sH ?_;have qC:=bf t u s ⟨#[44]⟩ q hs
           cases fD:bx s ⟨#[44]⟩ q with
           |out=>
            simp only [iK,eqW,R.bind,h7,h8,fD] at hG;cases aO hG.symm
           |bad Ik XP=>
            rw [fD] at qC;refine pS [0] (qC nofun) ?_;refine J _ _ ?_;simp only [iK,eqW,R.bind,h7,h8,fD] at hG;subst hG;exact lP [0,4]
           |ok Wz Ik=>
            rw [fD] at qC;refine aS [0] (qC nofun) ?_;refine O _ (aM [0,4,9] ?_);clear O J;refine (dW FY [7] (fun i=>Nat.beq i 2) (by kernel_rfl) fun J O=>?_)
            refine sH ?_
            have zK:=fx t u s jW m 1 Ik
            cases kX:termF s m 1 Ik with
            |out=>
             simp only [iK,eqW,R.bind,h7,h8,fD,kX] at hG;cases aO hG.symm
            |bad LI Zs=>
             rw [kX] at zK;refine pS [0] (zK nofun) ?_;refine J _ _ ?_;simp only [iK,eqW,R.bind,h7,h8,fD,kX] at hG;subst hG;exact lP [0,4]
            |ok XQ LI=>
             obtain ⟨o12,n12,m12,l12⟩:=XQ;rw [kX] at zK;refine aS [0] (zK nofun) ?_;refine aI (aI (by simp only [ai,ba];omega) (by simp only [ai,ba,bq];omega)) ?_;refine O _ ?_;clear O J;simp only [iK,eqW,R.bind,h7,h8,fD,kX] at hG;exact ⟨m,nS m,_,ak (slots:=[0,4,9]) rfl rfl,_,_,by simp only [lA,lC,lN];omega,hG,by rw [<- pL];rfl⟩
          rw [ba] at h8;refine ac ((dW FY [7] (fun i=>Nat.beq i 2) (by kernel_rfl) fun J O=>?_))
          refine sH ?_
          have qC:=fx t u s jW m 1 q
          cases fD:termF s m 1 q with
          |out=>
           simp only [iK,eqW,R.bind,h7,h8,fD] at hG;cases aO hG.symm
          |bad Ik XP=>
           rw [fD] at qC;refine pS [0] (qC nofun) ?_;refine J _ _ ?_;simp only [iK,eqW,R.bind,h7,h8,fD] at hG;subst hG;exact lP [0,4]
          |ok Wz Ik=>
           obtain ⟨o11,n11,m11,l11⟩:=Wz;rw [fD] at qC;refine aS [0] (qC nofun) ?_;refine aI (aI (by simp only [ai,ba];omega) (by simp only [ai,ba,bq];omega)) ?_;refine O _ ?_;clear O J;simp only [iK,eqW,R.bind,h7,h8,fD] at hG;exact ⟨m,nS m,_,ak (slots:=[0,4,9]) rfl rfl,_,_,by simp only [lA,lC,lN];omega,hG,by rw [<- pL];rfl⟩
         refine aA ?_;refine rG fun J O=>aS [0] (bX _ s q hs) ?_;refine O _ (aM [0,4,9] ?_);clear O J;refine rS fun J O=>sH ?_;have qC:=bf t u s ⟨#[59]⟩ (nx s q) hs
         cases fD:bx s ⟨#[59]⟩ (nx s q) with
         |out=>
          simp only [iK,eqW,R.bind,h7,fD] at hG;cases aO hG.symm
         |bad Ik XP=>
          rw [fD] at qC;refine pS [0] (qC nofun) ?_;refine J _ _ ?_;simp only [iK,eqW,R.bind,h7,fD] at hG;subst hG;exact lP [0,4]
         |ok Wz Ik=>
          rw [fD] at qC;refine aS [0] (qC nofun) ?_;refine O _ (aM [4,9] ?_);clear O J;refine rz [4] ?_;refine ae ?_;simp only [iK,eqW,R.bind,h7,fD] at hG;subst hG;exact lG [0] [wj _]
     |false=>
      refine aS [0] (gC (GV t u) s _ q3 fC) ?_;refine O _ (aM [0,4,9,87] ?_);clear O J;refine aj rfl ((dW FX [7] (fun i=>Nat.beq i 2) (by kernel_rfl) fun J O=>?_))
      refine sH ?_
      have xE:=fx t u s jW n 1 q3
      cases mH:termF s n 1 q3 with
      |out=>
       simp only [bW,eqW,bz,R.bind,h1,h2,h3,h4,h5,aF,aJ,bh,fC,mH] at hG;cases aO hG.symm
      |bad q5 c5=>
       rw [mH] at xE;refine pS [0] (xE nofun) ?_;refine J _ _ ?_;simp only [bW,eqW,bz,R.bind,h1,h2,h3,h4,h5,aF,aJ,bh,fC,mH] at hG;subst hG;exact lP [0,4]
      |ok a5 q5=>
       obtain ⟨o5,n5,m5,l5⟩:=a5;rw [mH] at xE;refine aS [0] (xE nofun) ?_;refine aI (aI (by simp only [ai,lN];omega) (by simp only [ai,lN,bq];omega)) ?_;refine O _ (aM [0,4,9] ?_);clear O J;refine rS fun J O=>sH ?_;have Cs:=bf t u s ⟨#[59]⟩ q5 hs
       cases ot:bx s ⟨#[59]⟩ q5 with
       |out=>
        simp only [bW,eqW,bz,R.bind,h1,h2,h3,h4,h5,aF,aJ,bh,fC,mH,ot] at hG;cases aO hG.symm
       |bad q6 c6=>
        rw [ot] at Cs;refine pS [0] (Cs nofun) ?_;refine J _ _ ?_;simp only [bW,eqW,bz,R.bind,h1,h2,h3,h4,h5,aF,aJ,bh,fC,mH,ot] at hG;subst hG;exact lP [0,4]
       |ok a6 q6=>
        rw [ot] at Cs;refine aS [0] (Cs nofun) ?_;refine O _ (aM [4,9] ?_);clear O J;refine rz [4] ?_;refine ae ?_;simp only [bW,eqW,bz,R.bind,h1,h2,h3,h4,h5,aF,aJ,bh,fC,mH,ot] at hG;subst hG;exact lG [0] [wj _]
    exact absurd h6 (by simp only [ByteArray.toList_eq];decide)
theorem Ct(s:BA)(jW:s.size<=4000):∀n,n<=1000000->zJ t u s n/\tn t u s n:=by
 intro n
 induction n using Nat.strongRecOn with
 |_ n ih=>
  intro hn
  cases n with
  |zero=>exact ⟨fun d p h=>absurd (by simp only [bW]) h,fun d p h=>absurd (by simp only [dp]) h⟩
  |succ n=>exact ⟨Hl t u s jW n (by omega) fun m hm=>(ih m (by omega) (by omega)).2,Ee t u s jW n (by omega) fun m hm=>(ih m (by omega) (by omega)).1⟩
theorem Ef(s:BA)(jW:s.size<=4000)(n:Nat)(hn:n<=1000000):zJ t u s n:=(Ct t u s jW n hn).1
theorem Cu(s:BA)(jW:s.size<=4000)(n:Nat)(hn:n<=1000000):tn t u s n:=(Ct t u s jW n hn).2
end
end
section
inductive R2 (s:BA) where
 |ok (e:Ex) (p:PS s)
 |bad (oe:Option Ex) (p:PS s) (c:Nat)
 |out
def ph(s:BA)(n:Nat)(p:PS s):R2 s:=match bx s ⟨#[114,101,116,117,114,110]⟩ p with
 |.bad q c=>.bad none q c
 |.out=>.out
 |.ok _ q=>match termF s n 1 q with
  |.bad q c=>.bad none q c
  |.out=>.out
  |.ok e q=>match bx s ⟨#[59]⟩ q with
   |.bad q c=>.bad (some e) q c
   |.out=>.out
   |.ok _ q=>.ok e q
def WA:Option Ex->List PV
 |none=>zE
 |some (.mk o n m l)=>cE o n m l
inductive R3 (s:BA) where
 |ok (l:List Sm) (e:Ex) (p:PS s)
 |bad (oe:Option Ex) (p:PS s) (c:Nat)
 |out
def jU(s:BA)(n:Nat)(d:Int)(p:PS s):R3 s:=match bx s ⟨#[123]⟩ p with
 |.bad q c=>.bad none q c
 |.out=>.out
 |.ok _ q=>match ck s n d [] q with
  |.bad q c=>.bad none q c
  |.out=>.out
  |.ok l q=>match ph s n q with
   |.bad oe q c=>.bad oe q c
   |.out=>.out
   |.ok e q=>match bx s ⟨#[125]⟩ q with
    |.bad q c=>.bad (some e) q c
    |.out=>.out
    |.ok _ q=>.ok l e q
section
variable (t:Nat->TypeId) (u:Nat->Value)
def Eg(nm:BA)(x:Data)(oe:Option Ex):Row:=.box 159 (.d (aW nm)::.d x::qA::WA oe)
def WB{s:BA}:R2 s->Out
 |.ok _ _=>.ret (.tup [])
 |_=>.pan (.ifc 128 (.box 3 0))
def rows2{s:BA}(nm:BA)(x:Data):R2 s->List Row
 |.ok e q=>[rd s q,.box 130 [.box 0 0],Eg nm x (some e)]
 |.bad oe q c=>[rd s q,.box 130 [.box 0 0],Eg nm x oe,TV q.i (t c) (u c)]
 |.out=>[]
def WC{s:BA}:R3 s->Out
 |.ok l _ _=>.ret (Hk l)
 |_=>.pan (.ifc 128 (.box 3 0))
def OG{s:BA}(nm:BA)(x:Data):R3 s->List Row
 |.ok _ e q=>[rd s q,.box 130 [.box 0 0],Eg nm x (some e)]
 |.bad oe q c=>[rd s q,.box 130 [.box 0 0],Eg nm x oe,TV q.i (t c) (u c)]
 |.out=>[]
theorem Cv(s:BA)(jW:s.size<=4000)(n:Nat)(p:PS s)(nm:BA)(x:Data)(aO:ph s n p≠.out):Spec Tryz.prog (GV t u) 139 [.box 1 0,.box 2 0] [rd s p,.box 130 [.box 0 0],Eg nm x none] (WB (ph s n p)) (rows2 t u nm x (ph s n p)):=by
 obtain ⟨r,hG⟩:∃r,ph s n p=r:=⟨_,rfl⟩;rw [hG] at aO ⊢
 have hs:s.size<4611686018427387904:=by omega
 refine aZ b8 (N:=9) Tryz.func139 rfl (by rfl) ((by cases r <;> simp [rows2] at aO ⊢)) rfl ?_
 refine rS fun J O=>sH ?_;have bB:=bf t u s ⟨#[114,101,116,117,114,110]⟩ p hs
 cases aF:bx s ⟨#[114,101,116,117,114,110]⟩ p with
 |out=>
  simp only [ph,aF] at hG;cases aO hG.symm
 |bad q1 c1=>
  rw [aF] at bB;refine pS [0] (bB nofun) ?_;refine J _ _ ?_;simp only [ph,aF] at hG;subst hG;exact lP [0,1,2,3]
 |ok a1 q1=>
  rw [aF] at bB;refine aS [0] (bB nofun) ?_;refine O _ (aM [0,1] ?_);clear O J;refine rS fun J O=>sH ?_;have a_:=fx t u s jW n 1 q1
  cases aJ:termF s n 1 q1 with
  |out=>
   simp only [ph,aF,aJ] at hG;cases aO hG.symm
  |bad q2 c2=>
   rw [aJ] at a_;refine pS [0] (a_ nofun) ?_;refine J _ _ ?_;simp only [ph,aF,aJ] at hG;subst hG;exact lP [0,1,2,3]
  |ok a2 q2=>
   obtain ⟨o2,n2,m2,l2⟩:=a2;rw [aJ] at a_;refine aS [0] (a_ nofun) ?_;refine O _ (aM [0] ?_);clear O J;refine rG fun J O=>sH ?_;have cz:=bf t u s ⟨#[59]⟩ q2 hs
   cases bh:bx s ⟨#[59]⟩ q2 with
   |out=>
    simp only [ph,aF,aJ,bh] at hG;cases aO hG.symm
   |bad q3 c3=>
    rw [bh] at cz;refine pS [0] (cz nofun) ?_;refine J _ _ ?_;simp only [ph,aF,aJ,bh] at hG;subst hG;exact lP [0,1,2,3]
   |ok a3 q3=>
    rw [bh] at cz;refine aS [0] (cz nofun) ?_;refine O _ ?_;clear O J;simp only [ph,aF,aJ,bh] at hG;subst hG;exact lF [0,1,2] []
theorem Cw(s:BA)(jW:s.size<=4000)(n:Nat)(hn:n<=1000000)(d:Int)(p:PS s)(nm:BA)(x:Data)(aO:jU s n d p≠.out):Spec Tryz.prog (GV t u) 138 [.box 0 0,.d (aD d),.fn 139 [.box 1 0,.box 2 0]] [rd s p,.box 130 [.box 0 0],Eg nm x none] (WC (jU s n d p)) (OG t u nm x (jU s n d p)):=by
 obtain ⟨r,hG⟩:∃r,jU s n d p=r:=⟨_,rfl⟩;rw [hG] at aO ⊢
 have hs:s.size<4611686018427387904:=by omega
 refine aZ b8 (N:=38) Tryz.func138 rfl (by rfl) ((by cases r <;> simp [OG] at aO ⊢)) rfl ?_
 refine rz [0,1,2] ?_;refine rS fun J O=>sH ?_;have bB:=bf t u s ⟨#[123]⟩ p hs
 cases aF:bx s ⟨#[123]⟩ p with
 |out=>
  simp only [jU,aF] at hG;cases aO hG.symm
 |bad q1 c1=>
  rw [aF] at bB;refine pS [0] (bB nofun) ?_;refine J _ _ ?_;simp only [jU,aF] at hG;subst hG;exact lP [0,1,2,3]
 |ok a1 q1=>
  rw [aF] at bB;refine aS [0] (bB nofun) ?_;refine O _ (aM [0,1,2] ?_);clear O J;refine rz [0,1,2,7] ?_;refine dV 7 217 7 rfl rfl rfl ?_;refine aq [0,1,2,7] rfl rfl ?_;refine aa (af ?_);simp only [jU,aF] at hG;clear aF bB;refine aB (fun k Y=>∃acc q,acc.length+k<=n/\(match ck s k d acc q with | .bad q c=>.bad none q c | .out=>.out | .ok l q=>match ph s n q with | .bad oe q c=>.bad oe q c | .out=>.out | .ok e q=>match bx s ⟨#[125]⟩ q with | .bad q c=>.bad (some e) q c | .out=>.out | .ok _ q=>.ok l e q:R3 s)=r/\Y=⟨[(0,.box 0 0),(1,.d (aD d)),(2,.fn 139 [.box 1 0,.box 2 0]),(7,.acc 3)],[rd s q,.box 130 [.box 0 0],Eg nm x none,.acc 217 7 (bF acc)]⟩) (n) (⟨[],_,by simp,hG,rfl⟩) ?_;clear hG;rintro k Y ⟨acc,q,hk,hG,rfl⟩
  cases k with
  |zero=>simp only [ck] at hG;cases aO hG.symm
  |succ m=>
   refine aa (rS fun J O=>?_);refine ab (fun h1=>?_) (fun h1=>?_)
   ·refine O _ (aM [0,1,2,7,21] ?_);clear O J
    refine cQ rfl (fun h2=>?_) fun h2=>?_
    ·refine ac (af ?_);refine aa (rz [0,1,2,7,23] ?_)
     refine cQ rfl (fun h3=>?_) fun h3=>?_
     ·refine rG fun J O=>pS [0] (ci (GV t u) 132 s _ _ (t 0) (u 0)) ?_;refine J _ _ ?_;simp only [ck,eqW,bz,h1,h2,h3] at hG;subst hG;exact lP [0,1,2,4]
     refine ac (rG fun J O=>sH ?_);have a_:=Ef t u s jW m (by omega) d q
     cases aJ:bW s m d q with
     |out=>
      simp only [ck,eqW,bz,R.bind,h1,h2,h3,aJ] at hG;cases aO hG.symm
     |bad q2 c2=>
      rw [aJ] at a_;refine pS [0] (a_ nofun) ?_;refine J _ _ ?_;simp only [ck,eqW,bz,R.bind,h1,h2,h3,aJ] at hG;subst hG;exact lP [0,1,2,4]
     |ok a2 q2=>
      obtain ⟨x2,y2,z2,l2,c2,b2,e2⟩:=a2;rw [aJ] at a_;refine aS [0] (a_ nofun) ?_;refine aI (aI (by simp only [ai,cj];omega) (by simp only [ai,cj,bq];omega)) ?_;refine O _ ?_;clear O J;simp only [ck,eqW,bz,R.bind,h1,h2,h3,aJ] at hG;exact ⟨m,nS m,_,ak (slots:=[0,1,2,7]) rfl rfl,_,_,by simp only [lA,lC,lN];omega,hG,by rw [<- vn];rfl⟩
    refine aA ?_;refine rS fun J O=>sH ?_;have a_:=Cv t u s jW n q nm x
    cases aJ:ph s n q with
    |out=>
     simp only [ck,eqW,bz,h1,h2,aJ] at hG;cases aO hG.symm
    |bad oe q2 c2=>
     rw [aJ] at a_
     cases oe with
     |none=>
      refine pS [0,1,2] (a_ nofun) ?_;refine J _ _ ?_;simp only [ck,eqW,bz,h1,h2,aJ] at hG;subst hG;exact lP [0,1,2,4]
     |some ex=>
      obtain ⟨o9,n9,m9,l9⟩:=ex;refine pS [0,1,2] (a_ nofun) ?_;refine J _ _ ?_;simp only [ck,eqW,bz,h1,h2,aJ] at hG;subst hG;exact lP [0,1,2,4]
    |ok a2 q2=>
     obtain ⟨o9,n9,m9,l9⟩:=a2;rw [aJ] at a_;refine aS [0,1,2] (a_ nofun) ?_;refine O _ (aM [0,7] ?_);clear O J;refine rS fun J O=>sH ?_;have cz:=bf t u s ⟨#[125]⟩ q2 hs
     cases bh:bx s ⟨#[125]⟩ q2 with
     |out=>
      simp only [ck,eqW,bz,h1,h2,aJ,bh] at hG;cases aO hG.symm
     |bad q3 c3=>
      rw [bh] at cz;refine pS [0] (cz nofun) ?_;refine J _ _ ?_;simp only [ck,eqW,bz,h1,h2,aJ,bh] at hG;subst hG;exact lP [0,1,2,4]
     |ok a3 q3=>
      rw [bh] at cz;refine aS [0] (cz nofun) ?_;refine O _ (aM [7] ?_);clear O J;refine rz [6] ?_;refine ae ?_;simp only [ck,eqW,bz,h1,h2,aJ,bh] at hG;subst hG;exact lF [0,1,2] [Hk _]
   refine O _ (aM [0,1,2,7,21] ?_);clear O J;refine aj rfl (aA ?_);refine rS fun J O=>sH ?_;have a_:=Cv t u s jW n q nm x
   cases aJ:ph s n q with
   |out=>
    simp only [ck,eqW,bz,h1,aJ] at hG;cases aO hG.symm
   |bad oe q2 c2=>
    rw [aJ] at a_
    cases oe with
    |none=>
     refine pS [0,1,2] (a_ nofun) ?_;refine J _ _ ?_;simp only [ck,eqW,bz,h1,aJ] at hG;subst hG;exact lP [0,1,2,4]
    |some ex=>
     obtain ⟨o9,n9,m9,l9⟩:=ex;refine pS [0,1,2] (a_ nofun) ?_;refine J _ _ ?_;simp only [ck,eqW,bz,h1,aJ] at hG;subst hG;exact lP [0,1,2,4]
   |ok a2 q2=>
    obtain ⟨o9,n9,m9,l9⟩:=a2;rw [aJ] at a_;refine aS [0,1,2] (a_ nofun) ?_;refine O _ (aM [0,7] ?_);clear O J;refine rS fun J O=>sH ?_;have cz:=bf t u s ⟨#[125]⟩ q2 hs
    cases bh:bx s ⟨#[125]⟩ q2 with
    |out=>
     simp only [ck,eqW,bz,h1,aJ,bh] at hG;cases aO hG.symm
    |bad q3 c3=>
     rw [bh] at cz;refine pS [0] (cz nofun) ?_;refine J _ _ ?_;simp only [ck,eqW,bz,h1,aJ,bh] at hG;subst hG;exact lP [0,1,2,4]
    |ok a3 q3=>
     rw [bh] at cz;refine aS [0] (cz nofun) ?_;refine O _ (aM [7] ?_);clear O J;refine rz [6] ?_;refine ae ?_;simp only [ck,eqW,bz,h1,aJ,bh] at hG;subst hG;exact lF [0,1,2] [Hk _]
end
end
section
def ou(s:BA):Nat->List BA->PS s->R s (List BA)
 |0,_,_=>.out
 |n+1,acc,p=>match eqW p.w ⟨#[118,97,114]⟩ with
  |true=>(fv s (nx s p)).bind fun m q=>(bx s ⟨#[59]⟩ q).bind fun _ q=>ou s n (acc++[m]) q
  |false=>.ok acc p
def iz(s:BA):Nat->List Ar->PS s->R s (List Ar)
 |0,_,_=>.out
 |n+1,acc,p=>match eqW p.w ⟨#[97,114,114,97,121]⟩ with
  |true=>(fv s (nx s p)).bind fun m q=>(bx s ⟨#[91]⟩ q).bind fun _ q=>(co s q).bind fun k q=>(bx s ⟨#[93]⟩ q).bind fun _ q=>(bx s ⟨#[59]⟩ q).bind fun _ q=>iz s n (acc++[⟨m,k⟩]) q
  |false=>.ok acc p
def mJ(s:BA):Nat->List BA->PS s->R s (List BA)
 |0,_,_=>.out
 |n+1,acc,p=>match (!eqW p.w ⟨#[41]⟩) with
  |true=>match decide ((acc.length:Int)>0) with
   |true=>(bx s ⟨#[44]⟩ p).bind fun _ q=>(fv s q).bind fun m q=>mJ s n (acc++[m]) q
   |false=>(fv s p).bind fun m q=>mJ s n (acc++[m]) q
  |false=>.ok acc (nx s p)
def eQ(s:BA):Nat->List Pc->PS s->R s (List Pc)
 |0,_,_=>.out
 |n+1,acc,p=>match eqW p.w ⟨#[112,114,111,99]⟩ with
  |true=>(fv s (nx s p)).bind fun m q=>(bx s ⟨#[40]⟩ q).bind fun _ q=>(mJ s n [] q).bind fun l q=>match jU s n 1 q with
   |.bad _ q c=>.bad q c
   |.out=>.out
   |.ok b e q=>eQ s n (acc++[⟨m,l,b,e⟩]) q
  |false=>.ok acc p
def Cx(s:BA)(n:Nat)(p:PS s):R s Pg:=(ou s n [] p).bind fun v q=>(iz s n [] q).bind fun a q=>(eQ s n [] q).bind fun f q=>(bx s ⟨#[109,97,105,110]⟩ q).bind fun _ q=>(dp s n 1 q).bind fun b q=>(bx s ⟨#[]⟩ q).bind fun _ q=>.ok ⟨v,a,f,b⟩ q
def LZ:Pg->PV:=fun p=>.d (.agg p.cs)
def ey(l:List Ar):List (List Data):=l.map Ar.cs
def c_(l:List Pc):List (List Data):=l.map Pc.cs
theorem rK(l:List BA)(x:BA):strs l++[[aW x]]=strs (l++[x]):=by simp [strs]
theorem AS(l:List Ar)(x:Ar):ey l++[x.cs]=ey (l++[x]):=by simp [ey]
theorem AT(l:List Pc)(x:Pc):c_ l++[x.cs]=c_ (l++[x]):=by simp [c_]
theorem bS(l:List Ar):(ey l).length=l.length:=by simp [ey]
theorem aE(l:List Pc):(c_ l).length=l.length:=by simp [c_]
def zP:List PV:=[qA,qA,qA,qA]
def Nn(s:BA)(q:PS s)(v:List BA)(a:List Ar)(f:List Pc):List Row:=[rd s q,.box 130 [.box 0 0],.box 28 zP,.box 28 [.acc 4,.acc 5,.acc 6,qA],.acc 9 1 (strs v),.acc 169 2 (ey a),.acc 159 7 (c_ f)]
section
variable (t:Nat->TypeId) (u:Nat->Value)
def TY:Plan:=(.take 0 (.load 1 (.load 2 (.one 3 (.one 4 (.one 5 (.take 6 (.one 7 .done))))))))
def KF:Plan:=(.take 0 (.load 1 (.load 2 (.one 3 (.one 4 (.one 5 (.take 6 (.one 7 .done))))))))
theorem Eh(s:BA)(jW:s.size<=4000)(n:Nat)(hn:n<=1000000)(p:PS s):jl t u 56 [.box 0 0] s p LZ (Cx s n p):=by
 intro aO;obtain ⟨r,hG⟩:∃r,Cx s n p=r:=⟨_,rfl⟩;rw [hG] at aO ⊢
 have hs:s.size<4611686018427387904:=by omega
 refine aZ b8 (N:=82) Tryz.func56 rfl (by rfl) ((by cases r <;> simp [jF] at aO ⊢)) rfl ?_
 refine rz [1,2] ?_;refine rz [1,2,3] ?_;refine cr 3 0 9 1 rfl rfl rfl rfl ?_;refine cr 3 1 169 2 rfl rfl rfl rfl ?_;refine cr 3 2 159 7 rfl rfl rfl rfl ?_;refine aq [1,2,3] rfl rfl ?_;refine aa (af ?_);simp only [Cx] at hG;refine aB (fun k Y=>∃v q,v.length+k<=n/\((ou s k v q).bind fun v q=>((iz s n [] q).bind fun a q=>(eQ s n [] q).bind fun f q=>(bx s ⟨#[109,97,105,110]⟩ q).bind fun _ q=>(dp s n 1 q).bind fun b q=>(bx s ⟨#[]⟩ q).bind fun _ q=>.ok ⟨v,a,f,b⟩ q))=r/\Y=⟨[(1,.box 1 0),(2,.box 2 0),(3,.box 3 0)],Nn s q v [] []⟩) (n) (⟨[],p,by simp,hG,rfl⟩) ?_;clear hG;rintro k Y ⟨v,q,hk,hG,rfl⟩
 cases k with
 |zero=>simp only [ou,R.bind] at hG;cases aO hG.symm
 |succ m=>
  refine aa (rS fun J O=>sH ?_)
  cases aF:(q.w.toList==(⟨#[118,97,114]⟩:BA).toList) with
  |true=>
   refine aS [0] (fw (GV t u) s _ q hs aF) ?_;refine O _ (aM [1,2,3,7] ?_);clear O J;refine aj rfl (ac ?_);refine af (aa ?_);refine (dW TY [7] (fun i=>Nat.beq i 1||Nat.beq i 3) (by kernel_rfl) fun J O=>?_)
   refine sH ?_
   have a_:=ep t u s (nx s q) hs
   cases aJ:fv s (nx s q) with
   |out=>
    simp only [ou,eqW,R.bind,aF,aJ] at hG;cases aO hG.symm
   |bad q2 c2=>
    rw [aJ] at a_;refine pS [0] (a_ nofun) ?_;refine J _ _ ?_;simp only [ou,eqW,R.bind,aF,aJ] at hG;subst hG;exact lP [0,7]
   |ok a2 q2=>
    rw [aJ] at a_;refine aS [0] (a_ nofun) ?_;refine aI (aI (by simp only [ai,ag];omega) (by simp only [ai,ag,bq];omega)) ?_;refine O _ (aM [1,2,3] ?_);clear O J;refine rG fun J O=>sH ?_;have cz:=bf t u s ⟨#[59]⟩ q2 hs
    cases bh:bx s ⟨#[59]⟩ q2 with
    |out=>
     simp only [ou,eqW,R.bind,aF,aJ,bh] at hG;cases aO hG.symm
    |bad q3 c3=>
     rw [bh] at cz;refine pS [0] (cz nofun) ?_;refine J _ _ ?_;simp only [ou,eqW,R.bind,aF,aJ,bh] at hG;subst hG;exact lP [0,7]
    |ok a3 q3=>
     rw [bh] at cz;refine aS [0] (cz nofun) ?_;refine O _ ?_;clear O J;simp only [ou,eqW,R.bind,aF,aJ,bh] at hG;exact ⟨m,nS m,_,aG (L:=[0,1,2,3,4,5,6]) (slots:=[1,2,3]) rfl rfl rfl rfl rfl,_,_,by simp only [lA,lC,lN];omega,hG,by unfold Nn;rw [<- rK];rfl⟩
  |false=>
   refine aS [0] (gC (GV t u) s _ q aF) ?_;refine O _ (aM [1,2,3,7] ?_);clear O J;refine aj rfl (aA ?_);refine aq [1,2,3] rfl rfl ?_;refine aa (af ?_);simp only [ou,eqW,R.bind,aF] at hG;refine aB (fun k Y=>∃a q,a.length+k<=n/\((iz s k a q).bind fun a q=>((eQ s n [] q).bind fun f q=>(bx s ⟨#[109,97,105,110]⟩ q).bind fun _ q=>(dp s n 1 q).bind fun b q=>(bx s ⟨#[]⟩ q).bind fun _ q=>.ok ⟨v,a,f,b⟩ q))=r/\Y=⟨[(1,.box 1 0),(2,.box 2 0),(3,.box 3 0)],Nn s q v a []⟩) (n) (⟨[],q,by simp,hG,rfl⟩) ?_;clear hG;rintro k Y ⟨a,qq,Zr,hG,rfl⟩
   cases k with
   |zero=>simp only [iz,R.bind] at hG;cases aO hG.symm
   |succ m=>
    refine aa (rS fun J O=>sH ?_)
    cases fD:(qq.w.toList==(⟨#[97,114,114,97,121]⟩:BA).toList) with
    |true=>
     refine aS [0] (fw (GV t u) s _ qq hs fD) ?_;refine O _ (aM [1,2,3,18] ?_);clear O J;refine aj rfl (ac ?_);refine af (rS fun J O=>sH ?_);have zK:=ep t u s (nx s qq) hs
     cases kX:fv s (nx s qq) with
     |out=>
      simp only [iz,eqW,R.bind,fD,kX] at hG;cases aO hG.symm
     |bad LI Zs=>
      rw [kX] at zK;refine pS [0] (zK nofun) ?_;refine J _ _ ?_;simp only [iz,eqW,R.bind,fD,kX] at hG;subst hG;exact lP [0,7]
     |ok XQ LI=>
      rw [kX] at zK;refine aS [0] (zK nofun) ?_;refine O _ (aM [1,2,3,4] ?_);clear O J;refine rS fun J O=>sH ?_;have No:=bf t u s ⟨#[91]⟩ LI hs
      cases vo:bx s ⟨#[91]⟩ LI with
      |out=>
       simp only [iz,eqW,R.bind,fD,kX,vo] at hG;cases aO hG.symm
      |bad O1 c13=>
       rw [vo] at No;refine pS [0] (No nofun) ?_;refine J _ _ ?_;simp only [iz,eqW,R.bind,fD,kX,vo] at hG;subst hG;exact lP [0,8]
      |ok a13 O1=>
       rw [vo] at No;refine aS [0] (No nofun) ?_;refine O _ (aM [1,2,3,4] ?_);clear O J;refine rS fun J O=>sH ?_;have Np:=qz t u s O1 jW
       cases zL:co s O1 with
       |out=>
        simp only [iz,eqW,R.bind,fD,kX,vo,zL] at hG;cases aO hG.symm
       |bad O2 c14=>
        rw [zL] at Np;refine pS [0] (Np nofun) ?_;refine J _ _ ?_;simp only [iz,eqW,R.bind,fD,kX,vo,zL] at hG;subst hG;exact lP [0,8]
       |ok a14 O2=>
        rw [zL] at Np;refine aS [0] (Np nofun) ?_;refine O _ (aM [1,2,3,4] ?_);clear O J;refine rS fun J O=>sH ?_;have Nq:=bf t u s ⟨#[93]⟩ O2 hs
        cases Ei:bx s ⟨#[93]⟩ O2 with
        |out=>
         simp only [iz,eqW,R.bind,fD,kX,vo,zL,Ei] at hG;cases aO hG.symm
        |bad O3 c15=>
         rw [Ei] at Nq;refine pS [0] (Nq nofun) ?_;refine J _ _ ?_;simp only [iz,eqW,R.bind,fD,kX,vo,zL,Ei] at hG;subst hG;exact lP [0,8]
        |ok a15 O3=>
         rw [Ei] at Nq;refine aS [0] (Nq nofun) ?_;refine O _ (aM [1,2,3,4] ?_);clear O J;refine rS fun J O=>sH ?_;have Nr:=bf t u s ⟨#[59]⟩ O3 hs
         cases KG:bx s ⟨#[59]⟩ O3 with
         |out=>
          simp only [iz,eqW,R.bind,fD,kX,vo,zL,Ei,KG] at hG;cases aO hG.symm
         |bad Sl c16=>
          rw [KG] at Nr;refine pS [0] (Nr nofun) ?_;refine J _ _ ?_;simp only [iz,eqW,R.bind,fD,kX,vo,zL,Ei,KG] at hG;subst hG;exact lP [0,8]
         |ok a16 Sl=>
          rw [KG] at Nr;refine aS [0] (Nr nofun) ?_;refine O _ (aM [1,2,3,4] ?_);clear O J;refine rG fun J O=>?_;refine aI (aI (by simp only [ai,bS];omega) (by simp only [ai,bS,bq];omega)) ?_;refine O _ ?_;clear O J;simp only [iz,eqW,R.bind,fD,kX,vo,zL,Ei,KG] at hG;exact ⟨m,nS m,_,aG (L:=[0,1,2,3,4,5,6]) (slots:=[1,2,3]) rfl rfl rfl rfl rfl,_,_,by simp only [lA,lC,lN];omega,hG,by unfold Nn;rw [<- AS];rfl⟩
    |false=>
     refine aS [0] (gC (GV t u) s _ qq fD) ?_;refine O _ (aM [1,2,3,18] ?_);clear O J;refine aj rfl (aA ?_);refine aq [1,2,3] rfl rfl ?_;refine aa (af ?_);simp only [iz,eqW,R.bind,fD] at hG;refine aB (fun k Y=>∃f q,f.length+k<=n/\((eQ s k f q).bind fun f q=>((bx s ⟨#[109,97,105,110]⟩ q).bind fun _ q=>(dp s n 1 q).bind fun b q=>(bx s ⟨#[]⟩ q).bind fun _ q=>.ok ⟨v,a,f,b⟩ q))=r/\Y=⟨[(1,.box 1 0),(2,.box 2 0),(3,.box 3 0)],Nn s q v a f⟩) (n) (⟨[],qq,by simp,hG,rfl⟩) ?_;clear hG;rintro k Y ⟨f,qr,hk3,hG,rfl⟩
     cases k with
     |zero=>simp only [eQ,R.bind] at hG;cases aO hG.symm
     |succ m=>
      refine aa (rS fun J O=>sH ?_)
      cases qD:(qr.w.toList==(⟨#[112,114,111,99]⟩:BA).toList) with
      |true=>
       refine aS [0] (fw (GV t u) s _ qr hs qD) ?_;refine O _ (aM [1,2,3,38] ?_);clear O J;refine aj rfl (ac ?_);refine af (rS fun J O=>sH ?_);have zM:=ep t u s (nx s qr) hs
       cases mL:fv s (nx s qr) with
       |out=>
        simp only [eQ,eqW,R.bind,qD,mL] at hG;cases aO hG.symm
       |bad Ru Zt=>
        rw [mL] at zM;refine pS [0] (zM nofun) ?_;refine J _ _ ?_;simp only [eQ,eqW,R.bind,qD,mL] at hG;subst hG;exact lP [0,7]
       |ok UI Ru=>
        rw [mL] at zM;refine aS [0] (zM nofun) ?_;refine O _ (aM [1,2,3,5] ?_);clear O J;refine cr 7 1 9 1 rfl rfl rfl rfl ?_;refine aq [1,2,3,5] rfl rfl ?_;refine rS fun J O=>sH ?_;have zN:=bf t u s ⟨#[40]⟩ Ru hs
        cases rL:bx s ⟨#[40]⟩ Ru with
        |out=>
         simp only [eQ,eqW,R.bind,qD,mL,rL] at hG;cases aO hG.symm
        |bad TZ Ug=>
         rw [rL] at zN;refine pS [0] (zN nofun) ?_;refine J _ _ ?_;simp only [eQ,eqW,R.bind,qD,mL,rL] at hG;subst hG;exact lP [0,9]
        |ok Zu TZ=>
         rw [rL] at zN;refine aS [0] (zN nofun) ?_;refine O _ (aM [1,2,3,5] ?_);clear O J;refine aa (af ?_);simp only [eQ,eqW,R.bind,qD,mL,rL] at hG;refine aB (fun k Y=>∃acc2 q,acc2.length+k<=m/\(((mJ s k acc2 q).bind fun l q=>match jU s m 1 q with | .bad _ q c=>.bad q c | .out=>.out | .ok b e q=>eQ s m (f++[⟨UI,l,b,e⟩]) q).bind fun f q=>((bx s ⟨#[109,97,105,110]⟩ q).bind fun _ q=>(dp s n 1 q).bind fun b q=>(bx s ⟨#[]⟩ q).bind fun _ q=>.ok ⟨v,a,f,b⟩ q))=r/\Y=⟨[(1,.box 1 0),(2,.box 2 0),(3,.box 3 0),(5,.box 7 0)],Nn s q v a f++[.box 159 (.d (aW UI)::.acc 8::qA::zE),.acc 9 1 (strs acc2)]⟩) (m) (⟨[],_,by simp,hG,rfl⟩) ?_;clear hG;rintro k Y ⟨acc2,qs,hk4,hG,rfl⟩
         cases k with
         |zero=>simp only [mJ,R.bind] at hG;cases aO hG.symm
         |succ m2=>
          refine aa (rz [1,2,3,5,48] ?_);refine cQ rfl (fun h1=>?_) fun h1=>?_
          ·refine ac (af ?_);refine aa (rz [1,2,3,5,52] ?_)
           refine cQ rfl (fun h2=>?_) fun h2=>?_
           ·rw [ag] at h2
            refine rG fun J O=>sH ?_;have pj:=bf t u s ⟨#[44]⟩ qs hs
            cases kn:bx s ⟨#[44]⟩ qs with
            |out=>
             simp only [mJ,eqW,R.bind,h1,h2,kn] at hG;cases aO hG.symm
            |bad Rv XR=>
             rw [kn] at pj;refine pS [0] (pj nofun) ?_;refine J _ _ ?_;simp only [mJ,eqW,R.bind,h1,h2,kn] at hG;subst hG;exact lP [0,9]
            |ok a31 Rv=>
             rw [kn] at pj;refine aS [0] (pj nofun) ?_;refine O _ (aM [1,2,3,5] ?_);clear O J;refine (dW KF [7] (fun i=>Nat.beq i 1||Nat.beq i 7) (by kernel_rfl) fun J O=>?_)
             refine sH ?_
             have Ns:=ep t u s Rv hs
             cases KH:fv s Rv with
             |out=>
              simp only [mJ,eqW,R.bind,h1,h2,kn,KH] at hG;cases aO hG.symm
             |bad Zv c32=>
              rw [KH] at Ns;refine pS [0] (Ns nofun) ?_;refine J _ _ ?_;simp only [mJ,eqW,R.bind,h1,h2,kn,KH] at hG;subst hG;exact lP [0,9]
             |ok a32 Zv=>
              rw [KH] at Ns;refine aS [0] (Ns nofun) ?_;refine aI (aI (by simp only [ai,ag];omega) (by simp only [ai,ag,bq];omega)) ?_;refine O _ ?_;clear O J;simp only [mJ,eqW,R.bind,h1,h2,kn,KH] at hG;exact ⟨m2,nS m2,_,ak (slots:=[1,2,3,5]) rfl rfl,_,_,by simp only [lA,lC,lN];omega,hG,by unfold Nn;rw [<- rK];rfl⟩
           rw [ag] at h2;refine ac ((dW KF [7] (fun i=>Nat.beq i 1||Nat.beq i 7) (by kernel_rfl) fun J O=>?_))
           refine sH ?_
           have pj:=ep t u s qs hs
           cases kn:fv s qs with
           |out=>
            simp only [mJ,eqW,R.bind,h1,h2,kn] at hG;cases aO hG.symm
           |bad Rv XR=>
            rw [kn] at pj;refine pS [0] (pj nofun) ?_;refine J _ _ ?_;simp only [mJ,eqW,R.bind,h1,h2,kn] at hG;subst hG;exact lP [0,9]
           |ok a31 Rv=>
            rw [kn] at pj;refine aS [0] (pj nofun) ?_;refine aI (aI (by simp only [ai,ag];omega) (by simp only [ai,ag,bq];omega)) ?_;refine O _ ?_;clear O J;simp only [mJ,eqW,R.bind,h1,h2,kn] at hG;exact ⟨m2,nS m2,_,ak (slots:=[1,2,3,5]) rfl rfl,_,_,by simp only [lA,lC,lN];omega,hG,by unfold Nn;rw [<- rK];rfl⟩
          refine aA ?_;refine aq [1,2,3,5] rfl rfl ?_;refine rS fun J O=>aS [0] (bX _ s qs hs) ?_;refine O _ (aM [1,2,3,5] ?_);clear O J;refine rS fun J O=>sH ?_;have pj:=Cw t u s jW m (by omega) 1 (nx s qs) UI (.sl 1 (strs acc2))
          cases kn:jU s m 1 (nx s qs) with
          |out=>
           simp only [mJ,eqW,R.bind,h1,kn] at hG;cases aO hG.symm
          |bad oe Rv XR=>
           rw [kn] at pj
           cases oe with
           |none=>
            refine pS [0,1,7] (pj nofun) ?_;refine J _ _ ?_;simp only [mJ,eqW,R.bind,h1,kn] at hG;subst hG;exact lP [0,9]
           |some ex=>
            obtain ⟨o9,n9,m9,l9⟩:=ex;refine pS [0,1,7] (pj nofun) ?_;refine J _ _ ?_;simp only [mJ,eqW,R.bind,h1,kn] at hG;subst hG;exact lP [0,9]
          |ok b31 Zw Rv=>
           obtain ⟨o9,n9,m9,l9⟩:=Zw;rw [kn] at pj;refine aS [0,1,7] (pj nofun) ?_;refine O _ (aM [1,2,3,5] ?_);clear O J;refine rG fun J O=>?_;refine aI (aI (by simp only [ai,aE];omega) (by simp only [ai,aE,bq];omega)) ?_;refine O _ ?_;clear O J;simp only [mJ,eqW,R.bind,h1,kn] at hG;exact ⟨m,nS m,_,aG (L:=[0,1,2,3,4,5,6]) (slots:=[1,2,3]) rfl rfl rfl rfl rfl,_,_,by simp only [lA,lC,lN];omega,hG,by unfold Nn;rw [<- AT];rfl⟩
      |false=>
       refine aS [0] (gC (GV t u) s _ qr qD) ?_;refine O _ (aM [1,2,3,38] ?_);clear O J;refine aj rfl (aA ?_);refine aq [1,2,3] rfl rfl ?_;refine rS fun J O=>sH ?_;have zM:=bf t u s ⟨#[109,97,105,110]⟩ qr hs
       cases mL:bx s ⟨#[109,97,105,110]⟩ qr with
       |out=>
        simp only [eQ,eqW,R.bind,qD,mL] at hG;cases aO hG.symm
       |bad Ru Zt=>
        rw [mL] at zM;refine pS [0] (zM nofun) ?_;refine J _ _ ?_;simp only [eQ,eqW,R.bind,qD,mL] at hG;subst hG;exact lP [0,7]
       |ok UI Ru=>
        rw [mL] at zM;refine aS [0] (zM nofun) ?_;refine O _ (aM [1,2,3] ?_);clear O J;refine rS fun J O=>sH ?_;have zN:=Cu t u s jW n hn 1 Ru
        cases rL:dp s n 1 Ru with
        |out=>
         simp only [eQ,eqW,R.bind,qD,mL,rL] at hG;cases aO hG.symm
        |bad TZ Ug=>
         rw [rL] at zN;refine pS [0] (zN nofun) ?_;refine J _ _ ?_;simp only [eQ,eqW,R.bind,qD,mL,rL] at hG;subst hG;exact lP [0,7]
        |ok Zu TZ=>
         rw [rL] at zN;refine aS [0] (zN nofun) ?_;refine O _ (aM [1,2,3] ?_);clear O J;refine rS fun J O=>sH ?_;have Nt:=bf t u s ⟨#[]⟩ TZ hs
         cases KI:bx s ⟨#[]⟩ TZ with
         |out=>
          simp only [eQ,eqW,R.bind,qD,mL,rL,KI] at hG;cases aO hG.symm
         |bad Zx c24=>
          rw [KI] at Nt;refine pS [0] (Nt nofun) ?_;refine J _ _ ?_;simp only [eQ,eqW,R.bind,qD,mL,rL,KI] at hG;subst hG;exact lP [0,7]
         |ok a24 Zx=>
          rw [KI] at Nt;refine aS [0] (Nt nofun) ?_;refine O _ (aM [2,3] ?_);clear O J;refine rz [2] ?_;refine ae ?_;simp only [eQ,eqW,R.bind,qD,mL,rL,KI] at hG;subst hG;exact lF [0] [LZ _]
end
end
end Go.Abs
end
section
namespace Go.Abs
open Go
section
section
variable {P:Program}{T:Tab}{G:Glob}{D D':List Deferred}{N B:Nat}{X X':St}{H H' H0:Nat->Option Value}{lim lim' lim0:Nat->Nat}{a:Act}{w w' w0:World}{L:List Nat}

theorem vq (hT:bH P T) {be:Array Oper}{Q:Exit->Act->World->Prop}{K:St->Prop}{pan:PV->St->Prop}
  (hn:∀X H lim a w,K X->Rep D G N H lim X a w->Lk B H0 lim0 w0 H lim w->Q .normal a w)
  (hp:∀p X H lim a w v,pan p X->Rep D G N H lim X a w->Lk B H0 lim0 w0 H lim w->V H lim w p v->Q (.panic [{ v,recovered:=false }]) a w) :
  ∀(l:List Nat) (X:St) (H:Nat->Option Value) (lim:Nat->Nat) (a:Act) (w:World),ka P T G N be pan l K X->Rep D G N H lim X a w->Lk B H0 lim0 w0 H lim w->wpOps P be Q l a w
 |[],X,H,lim,a,w,h,hR,lk=>hn X H lim a w h hR lk
 |i::l,X,H,lim,a,w,h,hR,lk=>by
  simp only [ka] at h
  simp only [wpOps]
  split at h
  ·rename_i o ho
   rw [iL] at ho
   rw [ho]
   split at h
   ·rename_i hd
    simp only
    rcases eU hR h with ⟨hw,X1,kE,_,h⟩|⟨hw,X1,kE,_,h⟩
    ·rw [if_pos hw]
     refine .inl (kb hT kE h ?_ ?_)
     ·intro p X' F H' lim' w' v hk jK hv
      exact vq hT hn hp l _ H' lim' _ w' hk (e_ jK.rep hd hv) (lk.trans jK.lk)
     intro p X' H' lim' w' v Sk Ij LH hv
     exact hp p X' H' lim' a w' v Sk Ij (lk.trans (LH B)) hv
    rw [if_neg (by simp [hw])]
    exact vq hT hn hp l _ H lim _ w h (e_ kE hd (mW _)) lk
   exact h.elim
  exact h.elim
theorem rM (hT:bH P T) {be:Array Oper}{Q:Exit->Act->List Frame->World->Prop}{cs:List Frame}{K:St->Prop}{pan:PV->St->Prop}
  (hn:∀X H lim a w,K X->Rep D G N H lim X a w->Lk B H0 lim0 w0 H lim w->Q .normal a cs w)
  (hp:∀p X H lim a w v,pan p X->Rep D G N H lim X a w->Lk B H0 lim0 w0 H lim w->V H lim w p v->Q (.panic [{ v,recovered:=false }]) a cs w) :
  ∀(l:List Nat) (X:St) (H:Nat->Option Value) (lim:Nat->Nat) (a:Act) (w:World),ka P T G N be pan l K X->Rep D G N H lim X a w->Lk B H0 lim0 w0 H lim w->wpOpsS P be Q l a cs w
 |[],X,H,lim,a,w,h,hR,lk=>hn X H lim a w h hR lk
 |i::l,X,H,lim,a,w,h,hR,lk=>by
  simp only [ka] at h
  simp only [wpOpsS]
  split at h
  ·rename_i o ho
   rw [iL] at ho
   rw [ho]
   split at h
   ·rename_i hd
    simp only
    rcases eU hR h with ⟨hw,X1,kE,_,h⟩|⟨hw,X1,kE,_,h⟩
    ·rw [if_pos hw]
     have key:o.wp P a w (fun a' w'=>wpOpsS P be Q l a' cs w') (fun e a' w'=>Q e a' cs w'):=by
      refine kb hT kE h ?_ ?_
      ·intro p X' F H' lim' w' v hk jK hv
       exact rM hT hn hp l _ H' lim' _ w' hk (e_ jK.rep hd hv) (lk.trans jK.lk)
      intro p X' H' lim' w' v Sk Ij LH hv
      exact hp p X' H' lim' a w' v Sk Ij (lk.trans (LH B)) hv
     unfold Oper.wp at key
     split
     ·rename_i w' hr
      rw [hr] at key
      exact key.elim
     exact key
    rw [if_neg (by simp [hw])]
    exact rM hT hn hp l _ H lim _ w h (e_ kE hd (mW _)) lk
   exact h.elim
  exact h.elim

def KJ(H:Nat->Option Value)(lim:Nat->Nat)(w:World)(r:PV)(u:FrameMode):Prop:=
 (r=.d (.s .nilIface)/\u=.returning)\/∃v,u=.panicking [{ v,recovered:=false }]/\V H lim w r v
def ux(P:Program)(G:Glob)(g:FuncId)(args:List PV)(rows:List Row)(r:PV)(rows':List Row):Prop:=
 (∀(av:Array Value) (w:World),(callFunc g av).run P w=.ok (.enter g av) w)/\rows.length<=rows'.length/\
 ∀(H:Nat->Option Value) (lim:Nat->Nat) (w:World) (vs:List Value) (u:FrameMode),RowsOk H lim w rows->GlobOk G H lim w->Vs H lim w args vs->KJ H lim w r u->
  CallsD P g vs.toArray u w fun e u' w'=>(∃v,e=.returned v)/\settle u'=.returning/\∃(H':Nat->Option Value) (lim':Nat->Nat),RowsOk H' lim' w' rows'/\Fr (Bl H) lim w lim' w'/\
   (∀id v,stay v=true->H id=some v->H' id=H id)/\(∀b,Bl H' b->Bl H b\/w.heap.size<=b)

theorem kP (hT:bH P T) {g:FuncId}{fn:Func}{id d0:Nat}{be:Array Oper}{o0:Oper}{y:Code}{args:List PV}{rows rows':List Row}{r:PV}{l:List Nat}{WD:Array TypeId}
  (hf:P.funcs[g]? = some fn) (hb:fn.body=some (.seq (.region id be false) y)) (ic:(fn.name== "runtime.NumGoroutine")=false) (Ap:fn.results.toList=[])
  (bZ:rows.length<=rows'.length) (hN:N=args.length+(fn.ntmps - args.length)) (hl:List.range be.size=0::l) (h0:be[0]? = some o0) (lp:o0.op=.call { callee:=.builtin .recover,args:=#[],argTypes:=WD }) (WE:o0.guard=none) (Lp:o0.dst=some d0) (XS:Nat.blt d0 N=true)
  (h:∀(pan:PV->St->Prop) (K:St->Prop),(∀Z,dJ [] P G N rows.length y (fun e Z=>match e with
    |.normal=>∃L,L.take rows.length=List.range rows.length/\cl L=true/\bs (gc L Z.rows) Z.rows L=some rows'
    |.ret=>∃L,L.take rows.length=List.range rows.length/\cl L=true/\bs (gc L Z.rows) Z.rows L=some rows'
    |_=>False) Z->K Z)->ka P T G N be pan l K ⟨(d0,r)::jT 0 args,rows⟩):ux P G g args rows r rows':=by
 refine ⟨fun av w=>?_,bZ,fun H lim w vs u bw eT eq KK=>?_⟩
 ·have aO:¬fn.name = "runtime.NumGoroutine":=by simpa using ic
  simp [callFunc,hf,aO,hb,program,Sem.run]
 have s8:vs.length=args.length:=dA eq
 have Zy:d0<N:=by simpa [Nat.blt_eq] using XS
 have T0:Rep [] G N H lim ⟨jT 0 args,rows⟩ { tmps:=vs.toArray++Array.replicate (fn.ntmps - vs.toArray.size) undef,defers:=[] } w:=by
  refine ⟨fun j p hj=>?_,bw,eT,rfl,by simp [hN,s8]⟩
  obtain ⟨_,hj⟩:=jE hj
  obtain ⟨v,h1,h2⟩:=kG eq hj
  simp only [Nat.sub_zero] at h1
  have hlt:=(List.getElem?_eq_some_iff.1 h1).1
  refine ⟨by omega,?_⟩
  have:((vs.toArray++Array.replicate (fn.ntmps - vs.toArray.size) undef).getD j undef)=v:=by
   rw [Array.getD_eq_getD_getElem?,Array.getElem?_append_left (by simpa using hlt)]
   simp [h1]
  rw [this]
  exact h2
 refine callsD_of_wpS hf hb fun c₀ cs hu=>?_
 have Cj:∀ {H':Nat->Option Value}{lim':Nat->Nat}{w':World},Lk rows.length H lim w H' lim' w'->∀id v,stay v=true->H id=some v->H' id=H id:=fun lk id q iF hq=>by
  rcases Nat.lt_or_ge id rows.length with hlt|hlt
  ·exact lk.ptr id q hlt iF hq
  rw [bw.dom id hlt] at hq;cases hq
 have go:∀(v:Value) (u':FrameMode),V H lim w r v->settle u'=.returning->
   wpOpsS P be (Exit.thenS (y.wpS P (bodyPostS P fn c₀ cs fun e u' w'=>(∃v,e=.returned v)/\settle u'=.returning/\∃(H':Nat->Option Value) (lim':Nat->Nat),RowsOk H' lim' w' rows'/\Fr (Bl H) lim w lim' w'/\
    (∀id v,stay v=true->H id=some v->H' id=H id)/\(∀b,Bl H' b->Bl H b\/w.heap.size<=b))) (bodyPostS P fn c₀ cs fun e u' w'=>(∃v,e=.returned v)/\settle u'=.returning/\∃(H':Nat->Option Value) (lim':Nat->Nat),RowsOk H' lim' w' rows'/\Fr (Bl H) lim w lim' w'/\
    (∀id v,stay v=true->H id=some v->H' id=H id)/\(∀b,Bl H' b->Bl H b\/w.heap.size<=b))) l
    (Act.put { tmps:=vs.toArray++Array.replicate (fn.ntmps - vs.toArray.size) undef,defers:=[] } (some d0) v) ({ c₀ with mode:=u' }::cs) w:=by
  intro v u' hv Ke
  have T5:=e_ (d:=some d0) T0 (by simp only [vd];exact XS) hv
  refine rM (D:=[]) (B:=rows.length) (H0:=H) (lim0:=lim) (w0:=w) hT (K:=_) (pan:=fun _ _=>False) ?_ (fun p X H lim a w v q=>q.elim) l _ H lim _ w (h _ _ fun Z q=>q) T5 Lk.refl
  intro Z H1 eu a1 w1 hz kE Jg
  refine wpS_of_wp (wp_mono (hz H1 eu a1 w1 kE) ?_)
  intro e a2 w2 hp
  have N9:∀X2 H2 iP,Rep [] G N H2 iP X2 a2 w2->Lk rows.length H1 eu w1 H2 iP w2->(∃L,L.take rows.length=List.range rows.length/\cl L=true/\bs (gc L X2.rows) X2.rows L=some rows')->
    a2.defers=[]/\∃XT,({ c₀ with mode:=u' }::cs:List Frame)={ c₀ with mode:=XT }::cs/\∃v,(results fn a2.tmps).run P w2=.ok v w2/\((∃v',Ending.returned v=.returned v')/\settle XT=.returning/\∃(H':Nat->Option Value) (lim':Nat->Nat),RowsOk H' lim' w2 rows'/\Fr (Bl H) lim w lim' w2/\
     (∀id v,stay v=true->H id=some v->H' id=H id)/\(∀b,Bl H' b->Bl H b\/w.heap.size<=b)):=by
   intro X2 H2 iP OH Kx ⟨L,q1,q2,q3⟩
   have Rw:=(Jg.trans Kx).trans (tm (H:=H2) (lim:=iP) (w:=w2) q1)
   obtain ⟨us,r1,_⟩:=mD (P:=P) (fn:=fn) hT OH (by rw [Ap];rfl)
   exact ⟨OH.defers,u',rfl,_,r1,⟨_,rfl⟩,Ke,HL L H2,iP,g9 OH.rows q2 q3,Rw.fr,Cj Rw,Rw.blocks⟩
  cases e <;> simp only [Post,bodyPostS] at hp ⊢
  ·obtain ⟨X2,H2,iP,g1,g2,g3⟩:=hp
   exact N9 X2 H2 iP g1 g2 g3
  ·obtain ⟨_,_,_,_,_,hf⟩:=hp
   exact hf
  ·obtain ⟨X2,H2,iP,g1,g2,g3⟩:=hp
   exact N9 X2 H2 iP g1 g2 g3
  obtain ⟨_,_,_,_,_,_,_,_,_,_,hf⟩:=hp
  exact hf.elim
 refine wpS_seq (wpS_region ?_)
 rw [hl]
 simp only [wpOpsS,h0,Region.wanted,WE,if_true]
 have ye:(execOp ({ tmps:=vs.toArray++Array.replicate (fn.ntmps - vs.toArray.size) undef,defers:=[] }:Act).eval o0).run P w=.ok .recover w:=by
  simp [execOp,lp,resolve,invoke,builtin]
 rw [ye]
 simp only [Lp]
 rcases KK with ⟨hr,Ke⟩|⟨v,Ke,hv⟩
 ·have:recoverD (c₀::cs)=none:=by simp [recoverD,hu,Ke]
  rw [this]
  simp only
  have hc:c₀={ c₀ with mode:=FrameMode.returning }:=by rw [<- Ke,<- hu]
  have:=go .nilIface .returning (by rw [hr];simp only [V,VD]) rfl
  rw [<- hc] at this
  exact this
 have:recoverD (c₀::cs)=some (v,{ c₀ with mode:=.panicking [{ v,recovered:=true }] }::cs):=by simp [recoverD,hu,Ke]
 rw [this]
 exact go v _ hv rfl
end
end
end Go.Abs
end
