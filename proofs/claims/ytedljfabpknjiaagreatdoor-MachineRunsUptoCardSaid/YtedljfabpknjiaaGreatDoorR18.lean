/- Texts of this proof, joined and shortened. -/
import Derived.Test.YtedljfabpknjiaaGreatDoorR17
set_option maxHeartbeats 1000000
section
namespace Go.Abs
open Go Go.Proofs
attribute [local irreducible] c8 dJ Sub Spec
section
def sml(n:Int):Prop:=-1099511627776<=n/\n<=1099511627776
def VOk(vs:List (BA×Int)):Prop:=∀q,q∈vs->sml q.2
def AOk(ar:List (BA×List Int)):Prop:=∀q,q∈ar->∀n,n∈q.2->sml n
theorem P3:sml 0:=⟨by decide,by decide⟩
theorem Bk:∀ {vs:List (BA×Int)}{s:BA},VOk vs->sml (iM vs s)
  |[],_,_=>P3
  | (k,p)::r,s,h=>by
    simp only [iM];cases (s==k)
    · exact Bk fun q hq=>h q (List.mem_cons_of_mem _ hq)
    exact h _ (List.mem_cons_self ..)
theorem dx:∀ {vs:List (BA×Int)}{s:BA}{n:Int},VOk vs->sml n->VOk (ff vs s n)
  |[],s,n,_,hn=>fun q hq=>by
    rw [List.mem_singleton.1 hq];exact hn
  | (k,p)::r,s,n,h,hn=>by
    have h1:=dx (s:=s) (fun q hq=>h q (List.mem_cons_of_mem _ hq)) hn;simp only [ff];cases (s==k)
    · intro q hq
      rcases List.mem_cons.1 hq with rfl|hq
      · exact h _ (List.mem_cons_self ..)
      exact h1 q hq
    intro q hq;rcases List.mem_cons.1 hq with rfl|hq
    · exact hn
    exact h q (List.mem_cons_of_mem _ hq)
theorem Bm:∀ {ar:List (BA×List Int)}{s:BA}{n:Int},AOk ar->n∈ef ar s->sml n
  |[],_,_,_,hn=>by cases hn
  | (k,p)::r,s,n,h,hn=>by
    simp only [ef] at hn;cases hb:(s==k) with
    |false=>rw [hb] at hn;exact Bm (fun q hq=>h q (List.mem_cons_of_mem _ hq)) hn
    |true=>rw [hb] at hn;exact h _ (List.mem_cons_self ..) n hn
theorem p6:∀ {ar:List (BA×List Int)}{s:BA}{i:Nat}{n:Int},AOk ar->sml n->AOk (jL ar s i n)
  |[],_,_,_,h,_=>h
  | (k,p)::r,s,i,n,h,hn=>by
    have h1:=p6 (s:=s) (i:=i) (fun q hq=>h q (List.mem_cons_of_mem _ hq)) hn;simp only [jL];cases (s==k)
    · intro q hq
      rcases List.mem_cons.1 hq with rfl|hq
      · exact h _ (List.mem_cons_self ..)
      exact h1 q hq
    intro q hq;rcases List.mem_cons.1 hq with rfl|hq
    · intro m hm
      rcases List.mem_or_eq_of_mem_set hm with hm|rfl
      · exact h _ (List.mem_cons_self ..) m hm
      exact hn
    exact h q (List.mem_cons_of_mem _ hq)
theorem uq{n c:Int}(h:dP n=some c):c=n/\sml n:=by
  unfold dP at h;split at h
  · cases h
  rename_i hf;simp only [fP,Bool.or_eq_false_iff,decide_eq_false_iff_not] at hf;simp only [sI] at h;exact ⟨h.symm,by unfold sml;omega⟩
theorem Bn{a b:Int}(h:sml a):sml (IntKind.i64.wrap (Int.tdiv a b)):=by
  have h1:(Int.tdiv a b).natAbs=a.natAbs / b.natAbs:=Int.natAbs_tdiv a b;have h2:=Nat.div_le_self a.natAbs b.natAbs;unfold sml at h ⊢;rw [dl (by omega) (by omega)];omega
theorem Bo{a b:Int}(h:sml a):sml (Int.tmod a b):=by
  have h1:(Int.tmod a b).natAbs=a.natAbs % b.natAbs:=Int.natAbs_tmod a b;have h2:=Nat.mod_le a.natAbs b.natAbs;unfold sml at h ⊢;omega
theorem gN{vs:List (BA×Int)}{ar:List (BA×List Int)}(hV:VOk vs)(hA:AOk ar):(∀(e:Ex) (n:Int),fg vs ar e=some n->sml n):=by
  refine Ex.rec (motive_1:=fun e=>∀n,fg vs ar e=some n->sml n) (motive_2:=fun l=>∀e,e∈l->∀n,fg vs ar e=some n->sml n) ?_ ?_ ?_
  · intro op k nm l ih n h
    unfold fg at h
    repeat' split at h
    all_goals first
      |cases h;done
      |exact (uq h).1▸(uq h).2
      | (simp only [sI] at h;subst h;first
          |exact Bk hV
          |exact Bn (ih _ (List.mem_cons_self ..) _ (by assumption))
          |exact Bo (ih _ (List.mem_cons_self ..) _ (by assumption))
          | (have:=ih _ (List.mem_cons_self ..) _ (by assumption)
             unfold sml at this ⊢;rw [dl (by omega) (by omega)];omega))
      |exact Bm hA (List.mem_of_getElem? h)
  · intro e he
    cases he
  intro x l hx hl e he;rcases List.mem_cons.1 he with rfl|he
  · exact hx
  exact hl e he
def Uu(vs:List (BA×Int))(ar:List (BA×List Int)):List Row:=[.map 185 (r_ vs),.amap 186 false ar]
def Xl:PV:=.agg [.acc 0,.am 1 0]
def Dm:PV:=.d (.ifc 273 (aW gq))
def SV:Option Int->Out
  |some n=>.ret (.d (aD n))
  |none=>.pan Dm
theorem Vx{l:List Ex}(h:(Nat.ble 1 l.length&&s9 l)=true):∃x r,l=x::r/\shE x=true:=by
  cases l with
  |nil=>cases h
  |cons x r=>
    simp only [s9,bE] at h;exact ⟨x,r,rfl,h.2.1⟩
theorem Xm{l:List Ex}(h:(Nat.ble 2 l.length&&s9 l)=true):∃x y r,l=x::y::r/\shE x=true/\shE y=true:=by
  match l,h with
  |[],h=>cases h
  |[x],h=>cases h
  |x::y::r,h=>
    simp only [s9,bE] at h;exact ⟨x,y,r,rfl,h.2.1,h.2.2.1⟩
theorem ur(x:Ex)(r:List Ex):(bR (x::r))[(0:Int).toNat]? = some x.cs:=rfl
theorem I5(x y:Ex)(r:List Ex):(bR (x::y::r))[(1:Int).toNat]? = some y.cs:=rfl
theorem SW{b:Int}(h:(b==0)=false):b≠0:=fun q=>by rw [q] at h;cases h
theorem I6{a:Int}(h:sml a)(h0:(a != 0)=true):tK a (IntKind.i64.wrap (0 - a))≠0:=by
  have h1:a≠0:=by simpa using h0
  unfold sml at h;rw [dl (by omega) (by omega)];unfold tK;split <;> omega
section
variable (G:Glob)
theorem ut(n:Int):Spec Tryz.prog G 93 [.d (aD n)] [] (.ret (.d (.s (.bool (fP n))))) []:=by
  obtain ⟨b,hG⟩:∃b,fP n=b:=⟨_,rfl⟩;rw [hG];simp only [fP] at hG;refine sA (N:=9) Tryz.func93 ?_;refine rz [0] ?_;refine rS fun J O=>?_;refine ab (fun h1=>?_) (fun h1=>?_)
  · refine O _ (aM [2] ?_);clear O J;refine ae ?_
    try simp only [bn,h1] at hG
    subst hG;exact lF [] [.d (.s (.bool _))]
  refine O _ (aM [2] ?_);clear O J;refine ae ?_;try simp only [bn,h1] at hG
  subst hG;exact lF [] [.d (.s (.bool _))]
theorem nc(n:Int):Spec Tryz.prog G 261 [.d (aD n),.d (.s (.bool true))] [] (SV (dP n)) []:=by
  obtain ⟨b,hG⟩:∃b,dP n=b:=⟨_,rfl⟩;rw [hG];simp only [dP] at hG;refine sA (N:=13) Tryz.func261 ?_;refine rz [0,1] ?_;refine aa (rS fun J O=>aS [] (ut G n) ?_);refine O _ (aM [0,10] ?_);clear O J;refine cQ rfl (fun h1=>?_) fun h1=>?_
  · refine rG fun J O=>J _ _ ?_
    try simp only [h1] at hG
    subst hG;exact lP []
  refine ac (rz [4] ?_);refine ae ?_;try simp only [h1] at hG
  subst hG;exact lF [] [.d (aD _)]
theorem I7(n:Int):Spec Tryz.prog G 261 [.d (aD n),.d (.s (.bool false))] [] (.pan Dm) []:=by
  refine sA (N:=13) Tryz.func261 ?_;refine rz [0,1] ?_;refine aa (rz [0,10] ?_);refine aj rfl (rG fun J O=>J _ _ ?_);exact lP []
def SX:Option Int->PV
  |some n=>.tup [.d (aD n),.d (.s (.bool true))]
  |none=>.tup [.d (aD 0),.d (.s (.bool false))]
theorem yJ(a b:Int)(ha:sml a):Spec Tryz.prog G 262 [.d (aD a),.d (aD b)] [] (.ret (SX (rW a b))) []:=by
  obtain ⟨R,hG⟩:∃R,rW a b=R:=⟨_,rfl⟩;rw [hG];simp only [rW] at hG;refine sA (N:=23) Tryz.func262 ?_;refine rz [0,1] ?_;refine aa (rS fun J O=>?_);refine ab (fun h1=>?_) (fun h1=>?_)
  · refine aI (I6 ha h1) ?_
    refine O _ (aM [0,1,19] ?_);clear O J;refine cQ rfl (fun h2=>?_) fun h2=>?_
    · refine rz [4,5] ?_;refine ae ?_
      try simp only [bn,h1,h2] at hG
      subst hG;exact lF [] [.d (aD _),.d (.s (.bool _))]
    refine ac (rz [4,5] ?_);refine ae ?_;try simp only [bn,h1,h2] at hG
    subst hG;exact lF [] [.d (aD _),.d (.s (.bool _))]
  refine O _ (aM [0,1,19] ?_);clear O J;refine aj rfl (ac ?_);refine rz [4,5] ?_;refine ae ?_;try simp only [bn,h1] at hG
  subst hG;exact lF [] [.d (aD _),.d (.s (.bool _))]
theorem Dn(a:Int)(dZ:BA)(b:Int):Spec Tryz.prog G 189 [.d (aD a),.d (aW dZ),.d (aD b)] [] (.ret (.d (.s (.bool (jM a dZ b))))) []:=by
  obtain ⟨R,hG⟩:∃R,jM a dZ b=R:=⟨_,rfl⟩;rw [hG];simp only [jM] at hG;refine sA (N:=36) Tryz.func189 ?_;refine rz [0,1,2] ?_;refine aa (rz [0,2,7] ?_);refine af (rz [0,2,7,8] ?_);refine cQ rfl (fun h1=>?_) fun h1=>?_
  · refine rz [6] ?_;refine ae ?_
    try simp only [h1] at hG
    subst hG;exact lF [] [.d (.s (.bool _))]
  refine rz [0,2,7,13] ?_;refine cQ rfl (fun h2=>?_) fun h2=>?_
  · refine rz [6] ?_;refine ae ?_
    try simp only [h1,h2] at hG
    subst hG;exact lF [] [.d (.s (.bool _))]
  refine rz [0,2,7,18] ?_;refine cQ rfl (fun h3=>?_) fun h3=>?_
  · refine rz [6] ?_;refine ae ?_
    try simp only [h1,h2,h3] at hG
    subst hG;exact lF [] [.d (.s (.bool _))]
  refine rz [0,2,7,23] ?_;refine cQ rfl (fun h4=>?_) fun h4=>?_
  · refine rz [6] ?_;refine ae ?_
    try simp only [h1,h2,h3,h4] at hG
    subst hG;exact lF [] [.d (.s (.bool _))]
  refine rz [0,2,28] ?_;refine cQ rfl (fun h5=>?_) fun h5=>?_
  · refine rz [6] ?_;refine ae ?_
    try simp only [h1,h2,h3,h4,h5] at hG
    subst hG;exact lF [] [.d (.s (.bool _))]
  refine ac (rz [6] ?_);refine ae ?_;try simp only [h1,h2,h3,h4,h5] at hG
  subst hG;exact lF [] [.d (.s (.bool _))]
def P4(m:Nat):Prop:=∀(vs:List (BA×Int)) (ar:List (BA×List Int)) (e:Ex),fuE e<=m->shE e=true->VOk vs->AOk ar->Spec Tryz.prog G 220 [Xl,.d (.agg e.cs)] (Uu vs ar) (SV (fg vs ar e)) (Uu vs ar)
def P5:Plan:=(.load 0 (.take 1 (.load 2 (.take 3 (.load 4 (.one 5 (.take 6 .done)))))))
def Mc:Plan:=(.load 0 (.take 1 (.load 2 (.take 3 (.load 4 (.one 5 (.take 6 (.take 7 .done))))))))
def Md:Plan:=(.load 0 (.take 1 (.load 2 (.take 3 (.load 4 (.one 5 (.take 6 (.take 7 .done))))))))
def Me:Plan:=(.load 0 (.take 1 (.load 2 (.take 3 (.load 4 (.one 5 (.take 6 .done)))))))
theorem GG(m:Nat)(ih:P4 G m):P4 G (m+1):=by
  intro vs ar e hm HG hV hA;obtain ⟨op,n,nm,l⟩:=e;obtain ⟨R,hG⟩:∃R,fg vs ar (.mk op n nm l)=R:=⟨_,rfl⟩;rw [hG];unfold fg at hG;simp only [shE] at HG;refine sA (N:=104) Tryz.func220 ?_;refine rz [2,3] ?_;refine aa (rz [2,3,10] ?_);refine af (rz [2,3,10,11] ?_);refine cQ rfl (fun h1=>?_) fun h1=>?_
  · refine rS fun J O=>sH ?_
    have bB:=nc G n;cases aF:dP n with
    |none=>
      rw [aF] at bB;refine pS [] bB ?_;refine J _ _ ?_;try simp only [h1,aF] at hG
      subst hG;exact lP [0,1]
    |some a1=>
      rw [aF] at bB;refine aS [] bB ?_;refine O _ (aM [4] ?_);clear O J;refine ae ?_;try simp only [h1,aF] at hG
      subst hG;exact lF [0,1] [.d (aD _)]
  refine rz [2,3,10,16] ?_;refine cQ rfl (fun h2=>?_) fun h2=>?_
  · refine rS fun J O=>?_
    refine N_ (T:=TT) (e:=3) rfl ?_;refine O _ (aM [4] ?_);clear O J;refine ae ?_;try simp only [h1,h2] at hG
    subst hG;exact lF [0,1] [.d (aD _)]
  refine rz [2,3,10,23] ?_;refine cQ rfl (fun h3=>?_) fun h3=>?_
  · simp only [vQ,h1,h2,h3] at HG
    obtain ⟨⟨o1,n1,m1,l1⟩,r,rfl,Mf⟩:=Vx HG;have I8:fuE (.mk o1 n1 m1 l1)<=m:=by simp only [fuE,la] at hm ⊢;omega
    refine aa ((dW P5 [5] (fun i=>Nat.beq i 2||Nat.beq i 3) (by kernel_rfl) fun J O=>oN (eI _ (aI (ur _ _) ?_))));refine sH ?_;have bB:=ih vs ar (.mk o1 n1 m1 l1) I8 Mf hV hA;cases aF:fg vs ar (.mk o1 n1 m1 l1) with
    |none=>
      rw [aF] at bB;refine pS [0,1] bB ?_;refine J _ _ ?_;try simp only [h1,h2,h3,aF] at hG
      subst hG;exact lP [0,1]
    |some a1=>
      rw [aF] at bB;have nN:=gN hV hA (.mk o1 n1 m1 l1) a1 aF;refine aS [0,1] bB ?_;refine O _ (aM [2,3,5] ?_);clear O J;refine rS fun J O=>?_;refine N' (T:=TT) (e:=56) rfl (fun j HE I9 Xn=>?_) (fun ha=>?_)
      · refine O _ (aM [5,6] ?_);clear O J;refine aa (rS fun J O=>?_)
        refine ab (fun h4=>?_) (fun h4=>?_)
        · refine O _ (aM [5,6,43] ?_);clear O J;refine aj rfl (rG fun J O=>J _ _ ?_)
          try simp only [bn,h1,h2,h3,aF,h4] at hG
          subst hG;exact lP [0,1]
        have lr:=oF h4;refine eI _ (eI _ (aI I9 ?_));refine O _ (aM [5,6,43] ?_);clear O J;refine cQ rfl (fun h5=>?_) fun h5=>?_
        · refine rG fun J O=>J _ _ ?_
          try simp only [bn,h1,h2,h3,aF,h4,h5] at hG
          subst hG;exact lP [0,1]
        have mQ:=oF h5;refine ac (rS fun J O=>oN (eI _ (eI _ (aI I9 (oN ?_)))));obtain ⟨v,hv⟩:∃v,(ef ar nm)[a1.toNat]? = some v:=⟨_,List.getElem?_eq_getElem (by omega)⟩;refine eI _ (eI _ (eI _ (aI I9 (aI hv ?_))));refine O _ (aM [4] ?_);clear O J;refine ae ?_;try simp only [bn,h1,h2,h3,aF,h4,h5,hv] at hG
        subst hG;exact lF [0,1] [.d (aD _)]
      rw [ha] at hG;refine O _ (aM [5,6] ?_);clear O J;refine aa (rS fun J O=>?_);refine ab (fun h4=>?_) (fun h4=>?_)
      · refine O _ (aM [5,6,43] ?_);clear O J;refine aj rfl (rG fun J O=>J _ _ ?_)
        try simp only [bn,h1,h2,h3,aF,h4] at hG
        subst hG;exact lP [0,1]
      have lr:=oF h4;refine O _ (aM [5,6,43] ?_);clear O J;refine cQ rfl (fun h5=>?_) fun h5=>?_
      · have P6:decide (a1≥((([]:List Int).length:Nat):Int))=true:=h5
        refine rG fun J O=>J _ _ ?_
        try simp only [bn,h1,h2,h3,aF,h4,P6] at hG
        subst hG;exact lP [0,1]
      exact absurd (oF h5) (by omega)
  refine rz [2,3,49] ?_;refine cQ rfl (fun h4=>?_) fun h4=>?_
  · simp only [vQ,h1,h2,h3,h4] at HG
    obtain ⟨⟨o1,n1,m1,l1⟩,r,rfl,Mf⟩:=Vx HG;have I8:fuE (.mk o1 n1 m1 l1)<=m:=by simp only [fuE,la] at hm ⊢;omega
    refine aa ((dW Mc [5] (fun i=>Nat.beq i 2||Nat.beq i 3) (by kernel_rfl) fun J O=>oN (eI _ (aI (ur _ _) ?_))));refine sH ?_;have bB:=ih vs ar (.mk o1 n1 m1 l1) I8 Mf hV hA;cases aF:fg vs ar (.mk o1 n1 m1 l1) with
    |none=>
      rw [aF] at bB;refine pS [0,1] bB ?_;refine J _ _ ?_;try simp only [h1,h2,h3,h4,aF] at hG
      subst hG;exact lP [0,1]
    |some a1=>
      rw [aF] at bB;have nN:=gN hV hA (.mk o1 n1 m1 l1) a1 aF;refine aS [0,1] bB ?_;refine O _ (aM [4] ?_);clear O J;refine ae ?_;try simp only [h1,h2,h3,h4,aF] at hG
      subst hG;exact lF [0,1] [.d (aD _)]
  simp only [vQ,h1,h2,h3,h4] at HG;obtain ⟨⟨o1,n1,m1,l1⟩,⟨o2,n2,m2,l2⟩,r,rfl,Mf,SY⟩:=Xm HG;have I8:fuE (.mk o1 n1 m1 l1)<=m:=by simp only [fuE,la] at hm ⊢;omega
  have YM:fuE (.mk o2 n2 m2 l2)<=m:=by simp only [fuE,la] at hm ⊢;omega
  refine ac (aa ?_);refine (dW Md [5] (fun i=>Nat.beq i 2||Nat.beq i 3) (by kernel_rfl) fun J O=>oN (eI _ (aI (ur _ _) ?_)));refine sH ?_;have bB:=ih vs ar (.mk o1 n1 m1 l1) I8 Mf hV hA;cases aF:fg vs ar (.mk o1 n1 m1 l1) with
  |none=>
    rw [aF] at bB;refine pS [0,1] bB ?_;refine J _ _ ?_;try simp only [h1,h2,h3,h4,aF] at hG
    subst hG;exact lP [0,1]
  |some a1=>
    rw [aF] at bB;have nN:=gN hV hA (.mk o1 n1 m1 l1) a1 aF;refine aS [0,1] bB ?_;refine O _ (aM [2,3,7] ?_);clear O J;refine aa ((dW Me [5] (fun i=>Nat.beq i 2||Nat.beq i 3) (by kernel_rfl) fun J O=>oN (eI _ (aI (I5 _ _ _) ?_))));refine sH ?_;have a_:=ih vs ar (.mk o2 n2 m2 l2) YM SY hV hA;cases aJ:fg vs ar (.mk o2 n2 m2 l2) with
    |none=>
      rw [aJ] at a_;refine pS [0,1] a_ ?_;refine J _ _ ?_;try simp only [h1,h2,h3,h4,aF,aJ] at hG
      subst hG;exact lP [0,1]
    |some a2=>
      rw [aJ] at a_;have CD:=gN hV hA (.mk o2 n2 m2 l2) a2 aJ;refine aS [0,1] a_ ?_;refine O _ (aM [3,7,8] ?_);clear O J;refine aa (rz [3,7,8,71] ?_);refine af (rz [3,7,8,71,72] ?_);refine cQ rfl (fun h5=>?_) fun h5=>?_
      · refine rS fun J O=>sH ?_
        have cz:=nc G (IntKind.i64.wrap (a1+a2));cases bh:dP (IntKind.i64.wrap (a1+a2)) with
        |none=>
          rw [bh] at cz;refine pS [] cz ?_;refine J _ _ ?_;try simp only [h1,h2,h3,h4,aF,aJ,h5,bh] at hG
          subst hG;exact lP [0,1]
        |some a3=>
          rw [bh] at cz;refine aS [] cz ?_;refine O _ (aM [4] ?_);clear O J;refine ae ?_;try simp only [h1,h2,h3,h4,aF,aJ,h5,bh] at hG
          subst hG;exact lF [0,1] [.d (aD _)]
      refine rz [3,7,8,71,78] ?_;refine cQ rfl (fun h6=>?_) fun h6=>?_
      · refine rS fun J O=>sH ?_
        have cz:=nc G (IntKind.i64.wrap (a1 - a2));cases bh:dP (IntKind.i64.wrap (a1 - a2)) with
        |none=>
          rw [bh] at cz;refine pS [] cz ?_;refine J _ _ ?_;try simp only [h1,h2,h3,h4,aF,aJ,h5,h6,bh] at hG
          subst hG;exact lP [0,1]
        |some a3=>
          rw [bh] at cz;refine aS [] cz ?_;refine O _ (aM [4] ?_);clear O J;refine ae ?_;try simp only [h1,h2,h3,h4,aF,aJ,h5,h6,bh] at hG
          subst hG;exact lF [0,1] [.d (aD _)]
      refine rz [3,7,8,84] ?_;refine cQ rfl (fun h7=>?_) fun h7=>?_
      · refine rS fun J O=>sH ?_
        have Lg:=yJ G a1 a2 nN;cases SZ:rW a1 a2 with
        |none=>
          rw [SZ] at Lg;refine aS [] Lg ?_;refine pS [] (I7 G 0) ?_;refine J _ _ ?_;try simp only [h1,h2,h3,h4,aF,aJ,h5,h6,h7,SZ] at hG
          subst hG;exact lP [0,1]
        |some cc=>
          rw [SZ] at Lg;refine aS [] Lg ?_;refine sH ?_;have cz:=nc G cc;cases bh:dP cc with
          |none=>
            rw [bh] at cz;refine pS [] cz ?_;refine J _ _ ?_;try simp only [h1,h2,h3,h4,aF,aJ,h5,h6,h7,SZ,bh] at hG
            subst hG;exact lP [0,1]
          |some a3=>
            rw [bh] at cz;refine aS [] cz ?_;refine O _ (aM [4] ?_);clear O J;refine ae ?_;try simp only [h1,h2,h3,h4,aF,aJ,h5,h6,h7,SZ,bh] at hG
            subst hG;exact lF [0,1] [.d (aD _)]
      refine ac (aa ?_);refine rz [3,7,8,93] ?_;refine cQ rfl (fun h8=>?_) fun h8=>?_
      · refine rG fun J O=>J _ _ ?_
        try simp only [h1,h2,h3,h4,aF,aJ,h5,h6,h7,h8] at hG
        subst hG;exact lP [0,1]
      have P7:=SW h8;refine ac (aa ?_);refine rz [7,8,97] ?_;refine cQ rfl (fun h9=>?_) fun h9=>?_
      · refine rS fun J O=>?_
        refine aI P7 ?_;refine O _ (aM [4] ?_);clear O J;refine ae ?_;try simp only [h1,h2,h3,h4,aF,aJ,h5,h6,h7,h8,h9] at hG
        subst hG;exact lF [0,1] [.d (aD _)]
      refine ac (rS fun J O=>aI P7 ?_);refine O _ (aM [4] ?_);clear O J;refine ae ?_;try simp only [h1,h2,h3,h4,aF,aJ,h5,h6,h7,h8,h9] at hG
      subst hG;exact lF [0,1] [.d (aD _)]
theorem gf:∀m:Nat,P4 G m
  |0=>fun vs ar e hm=>by
    obtain ⟨op,n,nm,l⟩:=e;simp only [fuE] at hm;omega
  |m+1=>GG G m (gf m)
end
end
section
def Vy:Option Bool->Out
 |some n=>.ret (.d (.s (.bool n)))
 |none=>.pan Dm
def oJ(o:Option Bool)(r:Option Bool):Option Bool:=match o with
 |none=>none
 |some true=>some true
 |some false=>r
theorem uv(vs:List (BA×Int))(ar:List (BA×List Int))(r:List Ts)(c:List (List Ts)):dz vs ar (r::c)=oJ (jN vs ar r) (dz vs ar c):=by
 simp only [dz,oJ];rfl
def Oa(x y:Option Int)(dZ:BA)(r:Option Bool):Option Bool:=match x with
 |none=>none
 |some a=>match y with
  |none=>none
  |some b=>match jM a dZ b with
   |true=>r
   |false=>some false
theorem GH(vs:List (BA×Int))(ar:List (BA×List Int))(t:Ts)(c:List Ts):jN vs ar (t::c)=Oa (fg vs ar t.a) (fg vs ar t.b) t.rel (jN vs ar c):=by
 simp only [jN,Oa];rfl
theorem Ob(l:List (List Ts)):(eG l).length=l.length:=by simp [eG]
theorem Oc(l:List Ts):(kr l).length=l.length:=by simp [kr]
section
variable (G:Glob)
def P8:Plan:=(.take 0 (.take 1 (.load 2 (.load 3 (.take 4 (.load 5 (.one 6 (.one 7 (.take 8 .done)))))))))
theorem nd(vs:List (BA×Int))(ar:List (BA×List Int))(c:List (List Ts))(HG:GF c=true)(hw:iD c<=1000000000)(hV:VOk vs)(hA:AOk ar):Spec Tryz.prog G 221 [Xl,.d (.sl 1 (eG c))] (Uu vs ar) (Vy (dz vs ar c)) (Uu vs ar):=by
 have hn:c.length<=1073741824:=by have:=ky c;omega
 obtain ⟨R,hG⟩:∃R,dz vs ar c=R:=⟨_,rfl⟩;rw [hG];refine sA (N:=37) Tryz.func221 ?_;refine rz [1,2] ?_;refine Gg ?_;refine aa (Gh ?_);refine aa (rz [2,10,11,12] ?_);refine af (aB (fun k Y=>∃(d1 e1:List (List Ts)) ,k=e1.length/\c=d1++e1/\dz vs ar e1=R/\GF e1=true/\iD e1<=1000000000/\Y=⟨[(2,.box 2 0),(10,.d (.sl 1 (eG c))),(11,.d (aD (eG c).length)),(12,.d (aD d1.length))],[.map 185 (r_ vs),.amap 186 false ar,.box 188 [.acc 0,.am 1 0]]⟩) (c.length) (⟨[],c,rfl,rfl,hG,HG,hw,rfl⟩) ?_);clear hG;rintro k Y ⟨d1,e1,rfl,bV,hG,gK,uw,rfl⟩;have bu:(eG c).length=d1.length+e1.length:=by rw [Ob,bV,lA]
 have cn:d1.length+e1.length<=1073741824:=by rw [bV,lA] at hn;exact hn
 refine rz [2,10,11,12,13] ?_;refine aa (cQ rfl (fun h1=>?_) fun h1=>?_)
 ·have bO:=oT h1;rw [bu] at bO;cases e1 with
  |nil=>simp only [lN] at bO;omega
  |cons x cw=>
  subst bV;simp only [lC] at cn;simp only [uv] at hG;simp only [GF,bE] at gK;simp only [iD] at uw;have yu:=kx x;refine ac (aa ?_);refine af (rS fun J O=>oN (eI _ (aI (eh rfl) ?_)));refine O _ (aM [2,6,10,11,12] ?_);clear O J;refine aa (rz [2,10,11,12,16,17,18] ?_);refine af ?_;have jK:x.length<=1073741824:=by omega
  refine aB (fun k Y=>∃(d2 e2:List Ts) ,k=e2.length/\x=d2++e2/\oJ (jN vs ar e2) (dz vs ar cw)=R/\RQ e2=true/\mO e2<=1000000000/\Y=⟨[(2,.box 2 0),(10,.d (.sl 1 (eG (d1++x::cw)))),(11,.d (aD (eG (d1++x::cw)).length)),(12,.d (aD d1.length)),(16,.d (.sl 9 (kr x))),(17,.d (aD (kr x).length)),(18,.d (aD d2.length))],[.map 185 (r_ vs),.amap 186 false ar,.box 188 [.acc 0,.am 1 0]]⟩) (x.length) (⟨[],x,rfl,rfl,hG,gK.1,(by omega),rfl⟩) ?_;clear hG;rintro k Y ⟨d2,e2,rfl,du,hG,ge,S0,rfl⟩;have dI:(kr x).length=d2.length+e2.length:=by rw [Oc,du,lA]
  have fK:d2.length+e2.length<=1073741824:=by rw [du,lA] at jK;exact jK
  refine rz [2,10,11,12,16,17,18,19] ?_;refine aa (cQ rfl (fun h2=>?_) fun h2=>?_)
  ·have fe:=oT h2;rw [dI] at fe;cases e2 with
   |nil=>simp only [lN] at fe;omega
   |cons y ke=>
   obtain ⟨⟨o1,n1,m1,l1⟩,dZ,⟨o2,n2,m2,l2⟩⟩:=y;subst du;simp only [lC] at fK;simp only [GH] at hG;simp only [RQ,Vw,bE] at ge;simp only [mO] at S0;refine ac (aa ?_);refine af (rS fun J O=>oN (eI _ (aI (eL rfl) ?_)));refine O _ (aM [2,8,10,11,12,16,17,18] ?_);clear O J;refine rS fun J O=>sH ?_;have bB:=gf G _ vs ar (.mk o1 n1 m1 l1) (nR _) ge.1.1 hV hA
   cases aF:fg vs ar (.mk o1 n1 m1 l1) with
   |none=>
    rw [aF] at bB;refine pS [0,1] bB ?_;refine J _ _ ?_;try simp only [aF,oJ,Oa] at hG
    subst hG;exact lP [0,1]
   |some a1=>
    rw [aF] at bB;refine aS [0,1] bB ?_;refine O _ (aM [2,8,9,10,11,12,16,17,18] ?_);clear O J;refine aa ((dW P8 [7] (fun i=>Nat.beq i 2||Nat.beq i 3) (by kernel_rfl) fun J O=>?_));refine sH ?_;have a_:=gf G _ vs ar (.mk o2 n2 m2 l2) (nR _) ge.1.2 hV hA;cases aJ:fg vs ar (.mk o2 n2 m2 l2) with
    |none=>
     rw [aJ] at a_;refine pS [0,1] a_ ?_;refine J _ _ ?_;try simp only [aF,aJ,oJ,Oa] at hG
     subst hG;exact lP [0,1]
    |some a2=>
     rw [aJ] at a_;refine aS [0,1] a_ ?_;refine aS [] (Dn G a1 dZ a2) ?_;refine O _ (aM [2,10,11,12,16,17,18,34] ?_);clear O J;refine cQ rfl (fun h3=>?_) fun h3=>?_
     ·have P9:jM a1 dZ a2=false:=by simpa using h3
      refine aA ?_;refine aq [2,10,11,12] rfl rfl ?_;refine rG fun J O=>O _ ?_;clear O J
      try simp only [aF,aJ,P9,oJ,Oa] at hG
      exact ⟨_,nS _,_,aG (L:=[0,1,2]) (slots:=[2,10,11,12]) rfl rfl rfl rfl rfl,d1++[d2++⟨.mk o1 n1 m1 l1,dZ,.mk o2 n2 m2 l2⟩::ke],cw,rfl,by simp,hG,gK.2,by omega,by rw [lA,aH (by omega) (by omega)];rfl⟩
     have P9:jM a1 dZ a2=true:=by simpa using h3
     refine ac (rG fun J O=>O _ ?_);clear O J;try simp only [aF,aJ,P9,Oa] at hG
     exact ⟨_,nS _,_,aG (L:=[0,1,2]) (slots:=[2,10,11,12,16,17,18]) rfl rfl rfl rfl rfl,d2++[⟨.mk o1 n1 m1 l1,dZ,.mk o2 n2 m2 l2⟩],ke,rfl,by simp,hG,ge.2,by omega,by rw [lA,aH (by omega) (by omega)];rfl⟩
  have fe:=oF h2;rw [dI] at fe;obtain rfl:e2=[]:=lE (by omega);simp only [jN] at hG;refine aA ?_;refine aq [] rfl rfl ?_;refine rz [4] ?_;refine ae ?_;try simp only [oJ] at hG
  subst hG;exact lF [0,1] [.d (.s (.bool _))]
 have bO:=oF h1;rw [bu] at bO;obtain rfl:e1=[]:=lE (by omega);simp only [dz] at hG;refine aA ?_;refine aq [] rfl rfl ?_;refine rz [4] ?_;refine ae ?_;try simp only [bn,h1,oJ,Oa,jN,dz] at hG
 subst hG;exact lF [0,1] [.d (.s (.bool _))]
end
end
section
structure SOk (F:Int) (S:MS):Prop where
  v:VOk S.vs
  a:AOk S.ar
  i:∀n,n∈S.inp->sml n
  s0:0<=S.steps
  sF:S.steps<=F
def Pr(F:Int)(a:MO):Prop:=∀S,a=.ok S->SOk F S
theorem p7{F:Int}{S:MS}(h:SOk F S):Pr F (.ok S):=fun S1 e=>by cases e;exact h
theorem kM{F:Int}{k:BA}{S:MS}:Pr F (.stop k S):=fun _ e=>nomatch e
theorem yK{F:Int}:Pr F .out:=fun _ e=>nomatch e
theorem ne{F:Int}{a:MO}{f:MS->MO}(h:Pr F a)(k:∀S1,SOk F S1->Pr F (f S1)):Pr F (a.bind f):=by
  cases a with
  |out=>exact yK
  |stop q S=>exact kM
  |ok S=>exact k S (h S rfl)
theorem Bp{F:Int}{S:MS}{e:Ex}{f:Int->MO}(hS:SOk F S)(h:∀n,sml n->Pr F (f n)):Pr F (dh S e f):=by
  unfold dh;split
  · exact kM
  rename_i n hn;exact h n (gN hS.v hS.a e n hn)
theorem Od{F:Int}{S:MS}{c:List (List Ts)}{f:Bool->MO}(h:∀n,Pr F (f n)):Pr F (dk S c f):=by
  unfold dk;split
  · exact kM
  exact h _
theorem I_{F:Int}:∀(l:List BA) (es:List Ex) (S:MS),SOk F S->Pr F (jO l es S)
  |[],_,_,hS=>p7 hS
  |_::_,[],_,_=>kM
  |v::r,e::l,S,hS=>by
    simp only [jO];exact Bp hS fun n hn=>I_ r l { S with vs:=ff S.vs v n } ⟨dx hS.v hn,hS.a,hS.i,hS.s0,hS.sF⟩
theorem nf{F:Int}{S:MS}(hS:SOk F S):Pr F (er F S):=by
  intro S1 h;obtain ⟨q1,q2⟩:=step_ok hS.sF h;unfold er at h;split at h
  · cases h
  simp only [MO.ok.injEq] at h;subst h;exact ⟨hS.v,hS.a,hS.i,by have:=hS.s0;show 0<=S.steps+1;omega,q2⟩
theorem kN(ps:List Pc)(F:Int):∀n:Nat,(∀l S,SOk F S->Pr F (cF ps F n l S))/\(∀s S,SOk F S->Pr F (stM ps F n s S))/\(∀c l S,SOk F S->Pr F (rX ps F n c l S))
  |0=>⟨fun l S _=>by simp only [cF];exact yK,fun s S _=>by simp only [stM];exact yK,fun c l S _=>by simp only [rX];exact yK⟩
  |n+1=>by
    obtain ⟨h1,h2,h3⟩:=kN ps F n;refine ⟨fun l S hS=>?_,fun s S hS=>?_,fun c l S hS=>?_⟩
    · cases l with
      |nil=>simp only [cF];exact p7 hS
      |cons s r=>
        simp only [cF];exact ne (ne (nf hS) fun S1 q=>h2 s S1 q) fun S2 q=>h1 r S2 q
    · obtain ⟨ap,name,proc,args,cond,ao,aK⟩:=s
      simp only [stM]
      repeat' split
      all_goals first
        |exact p7 hS
        |exact kM
        |exact Bp hS fun n hn=>p7 ⟨dx hS.v hn,hS.a,hS.i,hS.s0,hS.sF⟩
        |exact Bp hS fun n hn=>Bp hS fun m hm=>by split <;> first|exact p7 ⟨hS.v,p6 hS.a hm,hS.i,hS.s0,hS.sF⟩|exact kM
        |exact h3 _ _ _ hS
        |exact Od fun b=>by cases b <;> first|exact h1 _ _ hS|exact p7 hS|exact kM
        |exact ne (ne (I_ _ _ _ hS) fun S1 q=>h1 _ S1 q) fun S2 q=>Bp q fun n hn=>p7 ⟨dx q.v hn,q.a,q.i,q.s0,q.sF⟩
        | (rename_i hi
           have hi:=hS.i
           simp_all only [List.mem_cons]
           exact p7 ⟨dx hS.v (hi _ (.inl rfl)),hS.a,fun n hn=>hi n (.inr hn),hS.s0,hS.sF⟩)
    simp only [rX];refine Od fun b=>?_
    cases b with
    |false=>exact p7 hS
    |true=>exact ne (ne (h1 _ _ hS) fun S1 q=>nf q) fun S2 q=>h3 c l S2 q
def HH(ps:List Pc)(F:Int)(S:MS):List Row:=[.box 191 [.acc 1,.am 2 0,.acc 3,.d (.sl 1 (numsD S.inp)),.d (aD F),.d (aD S.steps)],.map 185 (r_ S.vs),.amap 186 false S.ar,.map 189 (zW ps)]
def P_(k:BA):PV:=.d (.ifc 273 (aW k))
def Vz:MO->Out
  |.stop k _=>.pan (P_ k)
  |_=>.ret (.tup [])
def Oe(ps:List Pc)(F:Int):MO->List Row
  |.ok S=>HH ps F S
  |.stop _ S=>HH ps F S
  |.out=>[]
def Of(G:Glob)(f:FuncId)(args:List PV)(ps:List Pc)(F:Int)(S:MS)(a:MO):Prop:=a≠.out->Spec Tryz.prog G f args (HH ps F S) (Vz a) (Oe ps F a)
theorem yL:∀ {l:List Ex}{i:Nat}{y:Ex},l[i]? = some y->(bR l)[((i:Nat):Int).toNat]? = some y.cs
  |[],i,y,h=>by cases h
  |x::r,0,y,h=>by
    simp only [List.getElem?_cons_zero,sI] at h;subst h;rfl
  |x::r,i+1,y,h=>by
    have:=yL (l:=r) (i:=i) (y:=y) (by simpa using h);rw [Int.toNat_natCast] at this ⊢
    simpa only [bR,List.getElem?_cons_succ] using this
theorem Fa:∀ {l:List Ex}{i:Nat}{y:Ex},s9 l=true->l[i]? = some y->shE y=true
  |[],i,y,_,h=>by cases h
  |x::r,0,y,hs,h=>by
    simp only [List.getElem?_cons_zero,sI] at h;subst h;simp only [s9,bE] at hs;exact hs.1
  |x::r,i+1,y,hs,h=>by
    simp only [s9,bE] at hs;exact Fa (i:=i) hs.2 (by simpa using h)
theorem Fb{l:List Ex}{i:Nat}{y:Ex}(h:l[i]? = some y):l.drop i=y::l.drop (i+1):=by
  obtain ⟨h1,h2⟩:=List.getElem?_eq_some_iff.1 h;rw [List.drop_eq_getElem_cons h1,h2]
theorem cX(l:List Int):(numsD l).length=l.length:=by simp [numsD]
theorem Bq{l:List Int}(h:(((numsD l).length:Int)==0)=true):l=[]:=by
  have:=eq_of_beq h;rw [cX] at this;exact lE (by omega)
theorem wS{l:List Int}(h:(((numsD l).length:Int)==0)=false):∃q iq,l=q::iq:=by
  cases l with
  |nil=>cases h
  |cons q iq=>exact ⟨q,iq,rfl⟩
def GI(ps:List Pc):Prop:=∀f,f∈ps->wfB ps f.body=true/\shE f.ret=true/\dG f.body<=1000000000/\f.params.length<=1000000000
section
variable (G:Glob) (ps:List Pc) (F:Int)
def I':Plan:=(.take 0 (.take 1 (.take 2 (.load 3 (.take 4 (.take 5 (.take 6 (.load 7 (.take 8 .done)))))))))
theorem Ja(vs:List (BA×Int))(ar:List (BA×List Int))(inp:List Int)(st:Int)(iF:(st==F)=true):Spec Tryz.prog G 219 [.box 0 0] (HH ps F ⟨vs,ar,inp,st⟩) (.pan (P_ wTired)) (HH ps F ⟨vs,ar,inp,st⟩):=by
  refine sA (N:=19) Tryz.func219 ?_;refine aa (aa ?_);refine (dW I' [] (fun i=>Nat.beq i 0) (by kernel_rfl) fun J O=>O _ (aM [0,10] ?_));clear O J;refine cQ rfl (fun h1=>?_) fun h1=>?_
  · refine rG fun J O=>J _ _ ?_
    exact lP [0,1,2,3]
  rw [iF] at h1;cases h1
theorem Mg(vs:List (BA×Int))(ar:List (BA×List Int))(inp:List Int)(st:Int)(iF:(st==F)=false)(h0:0<=st)(h1:st<=1000000000000):Spec Tryz.prog G 219 [.box 0 0] [.box 191 [.acc 1,.am 2 0,.acc 3,.d (.sl 1 (numsD inp)),.d (aD F),.d (aD st)],.map 185 (r_ vs),.amap 186 false ar,.map 189 (zW ps)] (.ret (.tup [])) [.box 191 [.acc 1,.am 2 0,.acc 3,.d (.sl 1 (numsD inp)),.d (aD F),.d (aD (st+1))],.map 185 (r_ vs),.amap 186 false ar,.map 189 (zW ps)]:=by
  refine sA (N:=19) Tryz.func219 ?_;refine aa (aa ?_);refine (dW I' [] (fun i=>Nat.beq i 0) (by kernel_rfl) fun J O=>O _ (aM [0,10] ?_));clear O J;refine cQ rfl (fun h1=>?_) fun h1=>?_
  · rw [iF] at h1
    cases h1
  refine ac (rG fun J O=>O _ ?_);clear O J;rw [aH (by omega) (by omega)];exact lF [0,1,2,3] [] (h6:=PWs.nil)
theorem wT(S:MS)(hS:SOk F S)(hF:F<=1000000000000):Of G 219 [.box 0 0] ps F S (er F S):=by
  intro _;obtain ⟨vs,ar,inp,st⟩:=S;have h0:0<=st:=hS.s0;have h1:st<=F:=hS.sF;unfold er;cases iF:(st==F) with
  |true=>exact Ja G ps F vs ar inp st iF
  |false=>exact Mg G ps F vs ar inp st iF h0 (by omega)
def P'(n:Nat):Prop:=∀(l:List Sm) (S:MS),wfB ps l=true->dG l<=1000000000->SOk F S->Of G 161 [.box 0 0,.d (.sl 7 (bF l))] ps F S (cF ps F n l S)
def Qa:Plan:=(.take 0 (.take 1 (.take 2 (.take 3 (.load 4 (.take 5 (.load 6 (.take 7 (.take 8 (.take 9 (.load 10 (.take 11 (.load 12 (.take 13 (.load 14 (.one 15 (.one 16 .done)))))))))))))))))
def Qb:Plan:=(.take 0 (.take 1 (.take 2 (.load 3 (.take 4 (.load 5 (.take 6 (.load 7 (.one 8 (.take 9 .done))))))))))
def Qc:Plan:=(.take 0 (.take 1 (.take 2 (.load 3 (.take 4 (.load 5 (.take 6 (.load 7 (.one 8 (.take 9 .done))))))))))
def Mh:Plan:=(.take 0 (.take 1 (.take 2 (.take 3 (.take 4 (.take 5 (.take 6 (.take 7 (.load 8 (.take 9 (.load 10 (.load 11 (.take 12 (.take 13 (.take 14 .done)))))))))))))))
def Mi:Plan:=(.take 0 (.take 1 (.take 2 (.take 3 (.load 4 (.take 5 (.load 6 (.load 7 (.take 8 (.take 9 (.take 10 (.one 11 .done))))))))))))
def Mj:Plan:=(.take 0 (.take 1 (.take 2 (.take 3 (.load 4 (.take 5 (.load 6 (.take 7 (.take 8 (.take 9 (.take 10 (.load 11 (.take 12 (.load 13 (.take 14 (.take 15 (.take 16 (.load 17 (.take 18 (.one 19 (.take 20 (.one 21 (.take 22 (.take 23 (.one 24 .done)))))))))))))))))))))))))
def Mk:Plan:=(.take 0 (.take 1 (.take 2 (.load 3 (.take 4 (.load 5 (.load 6 (.one 7 (.one 8 .done)))))))))
def Ml:Plan:=(.take 0 (.take 1 (.take 2 (.take 3 (.load 4 (.take 5 (.take 6 (.take 7 (.take 8 (.load 9 (.take 10 (.load 11 (.take 12 (.take 13 (.load 14 (.one 15 (.one 16 .done)))))))))))))))))
def Mm:Plan:=(.take 0 (.take 1 (.take 2 (.take 3 (.load 4 (.take 5 (.load 6 (.take 7 (.take 8 (.take 9 (.load 10 (.take 11 (.load 12 (.one 13 (.one 14 .done)))))))))))))))
def Mn:Plan:=(.take 0 (.take 1 (.take 2 (.load 3 (.take 4 (.load 5 (.one 6 .done)))))))
def Mo:Plan:=(.take 0 (.take 1 (.take 2 (.load 3 (.take 4 (.load 5 (.one 6 .done)))))))
def Mp:Plan:=(.take 0 (.take 1 (.take 2 (.load 3 (.take 4 (.load 5 (.one 6 (.take 7 .done))))))))
def Mq:Plan:=(.take 0 (.take 1 (.take 2 (.load 3 (.take 4 (.load 5 (.one 6 (.take 7 .done))))))))
theorem GJ(hF:F<=1000000000000)(hP:GI ps)(n:Nat)(ih:∀m,m<=n->P' G ps F m):P' G ps F (n+1):=by
  intro l S vD HI hS aO;obtain ⟨vs,ar,inp,st⟩:=S;have hn:l.length<=1073741824:=by have:=kz l;omega
  obtain ⟨R,hG⟩:∃R,cF ps F (n+1) l ⟨vs,ar,inp,st⟩=R:=⟨_,rfl⟩;rw [hG] at aO ⊢;refine aZ b8 (N:=225) Tryz.func161 rfl (by rfl) ((by cases R <;> simp [Oe,HH] at aO ⊢)) rfl ?_;refine rz [0,11,12,13] ?_;refine af (aB (fun k Y=>∃(d1 e1:List Sm) (vs:List (BA×Int)) (ar:List (BA×List Int)) (inp:List Int) (st:Int) (m:Nat),k=e1.length/\l=d1++e1/\cF ps F m e1 ⟨vs,ar,inp,st⟩=R/\wfB ps e1=true/\dG e1<=1000000000/\SOk F ⟨vs,ar,inp,st⟩/\m<=n+1/\Y=⟨[(0,.box 0 0),(11,.d (.sl 7 (bF l))),(12,.d (aD (bF l).length)),(13,.d (aD d1.length))],[.box 191 [.acc 1,.am 2 0,.acc 3,.d (.sl 1 (numsD inp)),.d (aD F),.d (aD st)],.map 185 (r_ vs),.amap 186 false ar,.map 189 (zW ps)]⟩) (l.length) (⟨[],l,vs,ar,inp,st,n+1,rfl,rfl,hG,vD,HI,hS,nR _,rfl⟩) ?_);clear hG;rintro k Y ⟨d1,e1,vs,ar,inp,st,m,rfl,bV,hG,gK,uw,wU,fH,rfl⟩;have bu:(bF l).length=d1.length+e1.length:=by rw [s_,bV,lA]
  have cn:d1.length+e1.length<=1073741824:=by rw [bV,lA] at hn;exact hn
  refine rz [0,11,12,13,14] ?_;refine aa (cQ rfl (fun h1=>?_) fun h1=>?_)
  · have bO:=oT h1
    rw [bu] at bO;cases e1 with
    |nil=>simp only [lN] at bO;omega
    |cons x cw=>
    obtain ⟨ap,name,proc,args,cond,ao,aK⟩:=x;subst bV;simp only [lC] at cn;obtain ⟨hk,hb,he,hr⟩:=I4 gK;simp only [dG,im] at uw;have Og:GF cond=true:=by simp only [Di,bE] at hk;exact hk.1.2
    cases m with
    |zero=>simp only [cF] at hG;cases aO hG.symm
    |succ m=>
    simp only [cF] at hG;refine ac (aa ?_);refine af (rS fun J O=>oN (eI _ (aI (Do rfl) ?_)));refine O _ (aM [0,5,11,12,13] ?_);clear O J;refine rS fun J O=>sH ?_;have bB:=wT G ps F ⟨vs,ar,inp,st⟩ wU hF
    cases aF:er F ⟨vs,ar,inp,st⟩ with
    |out=>
      try simp only [MO.bind,aF] at hG
      cases aO hG.symm
    |stop k1 T1=>
      rw [aF] at bB;refine pS [0,1,2,3] (bB nofun) ?_;refine J _ _ ?_;try simp only [MO.bind,aF] at hG
      subst hG;exact lP [0,1,2,3]
    |ok T1=>
      rw [aF] at bB;have dy:=nf wU _ aF;obtain ⟨lv,km,jd,qF⟩:=T1;refine aS [0,1,2,3] (bB nofun) ?_;try simp only [MO.bind,aF] at hG
      cases m with
      |zero=>simp only [stM] at hG;cases aO hG.symm
      |succ m=>
      simp only [stM] at hG;refine O _ (aM [0,5,11,12,13] ?_);clear O J;refine rz [0,5,11,12,13,20] ?_;refine af (rz [0,5,11,12,13,20,21] ?_);refine cQ rfl (fun h2=>?_) fun h2=>?_
      · simp only [Di,h2,bE] at hk
        obtain ⟨⟨o1,n1,m1,l1⟩,r,rfl,Mf⟩:=Vx (by rw [hk.2,hk.1.1];rfl);simp only [h2] at hG;refine (dW Qa [16] (fun i=>Nat.beq i 0||Nat.beq i 4) (by kernel_rfl) fun J O=>oN (eI _ (aI (ur _ _) ?_)));refine sH ?_;have a_:=gf G _ lv km (.mk o1 n1 m1 l1) (nR _) Mf dy.v dy.a;cases aJ:fg lv km (.mk o1 n1 m1 l1) with
        |none=>
          rw [aJ] at a_;refine pS [1,2] a_ ?_;refine J _ _ ?_;try simp only [dh,aJ] at hG
          subst hG;exact lP [0,1,2,3]
        |some a2=>
          rw [aJ] at a_;have CD:=gN dy.v dy.a (.mk o1 n1 m1 l1) a2 aJ;refine aS [1,2] a_ ?_;refine eI _ (aI (p5 _ _ _) ?_);refine O _ (aM [0,11,12,13] ?_);clear O J;refine rG fun J O=>O _ ?_;clear O J
          try simp only [dh,aJ] at hG
          exact ⟨_,nS _,_,aG (L:=[0,1,2,3]) (slots:=[0,11,12,13]) rfl rfl rfl rfl rfl,d1++[(Sm.mk ap name proc (.mk o1 n1 m1 l1::r) cond ao aK)],cw,(ff lv name a2),km,jd,qF,m+1,rfl,by simp,hG,hr,by omega,⟨dx dy.v CD,dy.a,dy.i,dy.s0,dy.sF⟩,by omega,by rw [lA,aH (by omega) (by omega)];rfl⟩
      simp only [h2] at hG;refine rz [0,5,11,12,13,20,39] ?_;refine cQ rfl (fun h3=>?_) fun h3=>?_
      · simp only [Di,h2,h3,bE] at hk
        obtain ⟨⟨o1,n1,m1,l1⟩,⟨o2,n2,m2,l2⟩,r,rfl,Mf,SY⟩:=Xm (by rw [hk.2,hk.1.1];rfl);simp only [h3] at hG;refine aa ((dW Qb [8] (fun i=>Nat.beq i 0||Nat.beq i 4) (by kernel_rfl) fun J O=>oN (eI _ (aI (ur _ _) ?_))));refine sH ?_;have a_:=gf G _ lv km (.mk o1 n1 m1 l1) (nR _) Mf dy.v dy.a;cases aJ:fg lv km (.mk o1 n1 m1 l1) with
        |none=>
          rw [aJ] at a_;refine pS [1,2] a_ ?_;refine J _ _ ?_;try simp only [dh,aJ] at hG
          subst hG;exact lP [0,1,2,3]
        |some a2=>
          rw [aJ] at a_;have CD:=gN dy.v dy.a (.mk o1 n1 m1 l1) a2 aJ;refine aS [1,2] a_ ?_;refine O _ (aM [0,5,6,11,12,13] ?_);clear O J;refine aa ((dW Qc [8] (fun i=>Nat.beq i 0||Nat.beq i 4) (by kernel_rfl) fun J O=>oN (eI _ (aI (I5 _ _ _) ?_))));refine sH ?_;have cz:=gf G _ lv km (.mk o2 n2 m2 l2) (nR _) SY dy.v dy.a;cases bh:fg lv km (.mk o2 n2 m2 l2) with
          |none=>
            rw [bh] at cz;refine pS [1,2] cz ?_;refine J _ _ ?_;try simp only [dh,aJ,bh] at hG
            subst hG;exact lP [0,1,2,3]
          |some a3=>
            rw [bh] at cz;have K_:=gN dy.v dy.a (.mk o2 n2 m2 l2) a3 bh;refine aS [1,2] cz ?_;refine O _ (aM [0,5,6,7,11,12,13] ?_);clear O J;refine aa (aa ?_);refine (dW Mh [] (fun i=>Nat.beq i 0||Nat.beq i 2||Nat.beq i 4) (by kernel_rfl) fun J O=>?_);refine ab (fun h4=>?_) (fun h4=>?_)
            · refine O _ (aM [0,5,6,7,11,12,13,73] ?_);clear O J;refine aj rfl (rG fun J O=>J _ _ ?_)
              try simp only [bn,dh,aJ,bh,h4] at hG
              subst hG;exact lP [0,1,2,3]
            have lr:=oF h4;refine N' (T:=TT) (e:=56) rfl (fun j HE I9 Xn=>?_) (fun ha=>?_)
            · refine eI _ (eI _ (aI I9 ?_))
              refine O _ (aM [0,5,6,7,11,12,13,73] ?_);clear O J;refine cQ rfl (fun h5=>?_) fun h5=>?_
              · refine rG fun J O=>J _ _ ?_
                try simp only [bn,dh,aJ,bh,h4,h5] at hG
                subst hG;exact lP [0,1,2,3]
              have mQ:=oF h5;refine ac ((dW Mi [11] (fun i=>Nat.beq i 0||Nat.beq i 2||Nat.beq i 4) (by kernel_rfl) fun J O=>?_));refine eI _ (aI HE ?_);refine oN (eI _ (eI _ (aI I9 (oN ?_))));refine eI _ (eI _ (aI I9 (oN ?_)));refine O _ (aM [0,11,12,13] ?_);clear O J;rw [<- Xn];refine rG fun J O=>O _ ?_;clear O J
              try simp only [bn,dh,aJ,bh,h4,h5] at hG
              exact ⟨_,nS _,_,aG (L:=[0,1,2,3]) (slots:=[0,11,12,13]) rfl rfl rfl rfl rfl,d1++[(Sm.mk ap name proc (.mk o1 n1 m1 l1::.mk o2 n2 m2 l2::r) cond ao aK)],cw,lv,(jL km name a2.toNat a3),jd,qF,m+1,rfl,by simp,hG,hr,by omega,⟨dy.v,p6 dy.a K_,dy.i,dy.s0,dy.sF⟩,by omega,by rw [lA,aH (by omega) (by omega)];rfl⟩
            simp only [dh,aJ,bh,h4,ha] at hG;refine O _ (aM [0,5,6,7,11,12,13,73] ?_);clear O J;refine cQ rfl (fun h5=>?_) fun h5=>?_
            · have P6:decide (a2≥((([]:List Int).length:Nat):Int))=true:=h5
              refine rG fun J O=>J _ _ ?_
              try simp only [bn,P6] at hG
              subst hG;exact lP [0,1,2,3]
            exact absurd (oF h5) (by omega)
      simp only [h3] at hG;refine rz [0,5,11,12,13,20,86] ?_;refine cQ rfl (fun h4=>?_) fun h4=>?_
      · simp only [h4] at hG
        refine aa (rz [0,5,11,12,13,93] ?_);refine cQ rfl (fun h5=>?_) fun h5=>?_
        · obtain rfl:=Bq h5
          refine rG fun J O=>J _ _ ?_
          try simp only [bn] at hG
          subst hG;exact lP [0,1,2,3]
        obtain ⟨q,iq,rfl⟩:=wS h5;refine ac ((dW Mj [21,24] (fun i=>Nat.beq i 0||Nat.beq i 4) (by kernel_rfl) fun J O=>oN (eI _ (aI rfl ?_))));refine eI 1 (aI rfl (aI (by simp [numsD]) ?_));refine eI _ (aI rfl ?_);refine eI _ (eI _ (aI rfl (aI (E8 lv name q).1 (aI (E8 lv name q).2 ?_))));refine O _ (aM [0,11,12,13] ?_);clear O J;refine rG fun J O=>O _ ?_;clear O J
        try simp only [bn] at hG
        exact ⟨_,nS _,_,aG (L:=[0,1,2,3]) (slots:=[0,11,12,13]) rfl rfl rfl rfl rfl,d1++[(Sm.mk ap name proc args cond ao aK)],cw,(ff lv name q),km,iq,qF,m+1,rfl,by simp,hG,hr,by omega,⟨dx dy.v (dy.i _ (List.mem_cons_self ..)),dy.a,fun n hn=>dy.i n (List.mem_cons_of_mem _ hn),dy.s0,dy.sF⟩,by omega,by rw [lA,aH (by omega) (by omega)];rfl⟩
      simp only [h4] at hG;refine rz [0,5,11,12,13,20,118] ?_;refine cQ rfl (fun h5=>?_) fun h5=>?_
      · simp only [Di,h2,h3,h5,bE] at hk
        simp only [h5] at hG;obtain ⟨⟨YN,_⟩,hk⟩:=hk;cases p8:findP ps proc with
        |none=>rw [p8] at hk;cases hk
        |some f=>
        rw [p8] at hk hG;have hf:=hP f (List.mem_of_find?_eq_some p8);obtain ⟨Mr,fp,fb,⟨ro,rn,rm,rl⟩⟩:=f;have Hu:fp.length<=args.length:=Nat.le_of_ble_eq_true hk;have Fc:fp.length<=1073741824:=Nat.le_trans hf.2.2.2 (by decide);have CQ:dF (zW ps) proc=some (.agg (Pc.mk Mr fp fb (.mk ro rn rm rl)).cs):=by rw [E',p8];rfl
        simp only at hG;refine aa ((dW Mk [8] (fun i=>Nat.beq i 0||Nat.beq i 3||Nat.beq i 4) (by kernel_rfl) fun J O=>?_));refine eI _ (aI CQ ?_);refine O _ (aM [0,5,8,11,12,13] ?_);clear O J;refine aa (rz [0,5,8,11,12,13,128,129,130] ?_);refine af (aB (fun k Y=>∃(d2 e2:List BA) (sa:List (BA×Int)),k=e2.length/\fp=d2++e2/\((((jO e2 (args.drop d2.length) ⟨sa,km,jd,qF⟩).bind fun S=>cF ps F m fb S).bind fun S=>dh S (.mk ro rn rm rl) fun a=>.ok { S with vs:=ff S.vs name a }).bind fun S=>cF ps F (m+1) cw S)=R/\SOk F ⟨sa,km,jd,qF⟩/\Y=⟨[(0,.box 0 0),(5,.box 4 0),(8,.box 5 0),(11,.d (.sl 7 (bF (d1++(Sm.mk ap name proc args cond ao aK)::cw)))),(12,.d (aD (bF (d1++(Sm.mk ap name proc args cond ao aK)::cw)).length)),(13,.d (aD d1.length)),(128,.d (.sl 1 (strs fp))),(129,.d (aD (strs fp).length)),(130,.d (aD d2.length))],[.box 191 [.acc 1,.am 2 0,.acc 3,.d (.sl 1 (numsD jd)),.d (aD F),.d (aD qF)],.map 185 (r_ sa),.amap 186 false km,.map 189 (zW ps),.box 217 ((Sm.mk ap name proc args cond ao aK).cs.map PV.d),.box 159 ((Pc.mk Mr fp fb (.mk ro rn rm rl)).cs.map PV.d)]⟩) (fp.length) (⟨[],fp,lv,rfl,rfl,hG,dy,rfl⟩) ?_);clear hG;rintro k Y ⟨d2,e2,sa,rfl,du,hG,ge,rfl⟩;have dI:(strs fp).length=d2.length+e2.length:=by rw [ag,du,lA]
        have fK:d2.length+e2.length<=1073741824:=by rw [du,lA] at Fc;exact Fc
        refine rz [0,5,8,11,12,13,128,129,130,131] ?_;refine aa (cQ rfl (fun h6=>?_) fun h6=>?_)
        · have yI:=oT h6
          rw [dI] at yI;cases e2 with
          |nil=>simp only [lN] at yI;omega
          |cons v ke=>
          subst du;simp only [lC,lA] at fK Hu;obtain ⟨⟨o2,n2,m2,l2⟩,hy⟩:∃y,args[d2.length]? = some y:=⟨_,List.getElem?_eq_getElem (by omega)⟩;have SY:=Fa YN hy;rw [Fb hy] at hG;simp only [jO] at hG;refine ac (aa ?_);refine af (rS fun J O=>oN (eI _ (aI (kH rfl) ?_)));refine O _ (aM [0,5,8,9,10,11,12,13,128,129,130] ?_);clear O J;refine (dW Ml [16] (fun i=>Nat.beq i 0||Nat.beq i 4||Nat.beq i 5) (by kernel_rfl) fun J O=>oN (eI _ (aI (yL hy) ?_)));refine sH ?_;have a_:=gf G _ sa km (.mk o2 n2 m2 l2) (nR _) SY ge.v ge.a;cases aJ:fg sa km (.mk o2 n2 m2 l2) with
          |none=>
            rw [aJ] at a_;refine pS [1,2] a_ ?_;refine J _ _ ?_;try simp only [MO.bind,dh,aJ] at hG
            subst hG;exact lP [0,1,2,3]
          |some a2=>
            rw [aJ] at a_;have CD:=gN ge.v ge.a (.mk o2 n2 m2 l2) a2 aJ;refine aS [1,2] a_ ?_;refine eI _ (aI (p5 _ _ _) ?_);refine O _ (aM [0,5,8,11,12,13,128,129,130] ?_);clear O J;refine rG fun J O=>O _ ?_;clear O J
            try simp only [MO.bind,dh,aJ] at hG
            exact ⟨_,nS _,_,aG (L:=[0,1,2,3,4,5]) (slots:=[0,5,8,11,12,13,128,129,130]) rfl rfl rfl rfl rfl,d2++[v],ke,ff sa v a2,rfl,by simp,(by rw [lA];exact hG),⟨dx ge.v CD,ge.a,ge.i,ge.s0,ge.sF⟩,by rw [lA,aH (by omega) (by omega)];rfl⟩
        have yI:=oF h6;rw [dI] at yI;obtain rfl:e2=[]:=lE (by omega);simp only [jO] at hG;refine aA ?_;refine aq [0,5,8,11,12,13] rfl rfl ?_;refine rS fun J O=>sH ?_;have a_:=ih m (by omega) fb ⟨sa,km,jd,qF⟩ hf.1 hf.2.2.1 ge
        cases aJ:cF ps F m fb ⟨sa,km,jd,qF⟩ with
        |out=>
          try simp only [MO.bind,dh,aJ] at hG
          cases aO hG.symm
        |stop k2 T2=>
          rw [aJ] at a_;refine pS [0,1,2,3] (a_ nofun) ?_;refine J _ _ ?_;try simp only [MO.bind,dh,aJ] at hG
          subst hG;exact lP [0,1,2,3]
        |ok T2=>
          rw [aJ] at a_;have oK:=(kN ps F m).1 fb _ ge _ aJ;obtain ⟨Oh,Lf,Jb,Jc⟩:=T2;refine aS [0,1,2,3] (a_ nofun) ?_;try simp only [MO.bind,dh,aJ] at hG
          refine O _ (aM [0,5,8,11,12,13] ?_);clear O J;refine (dW Mm [14] (fun i=>Nat.beq i 0||Nat.beq i 4||Nat.beq i 5) (by kernel_rfl) fun J O=>?_);refine sH ?_;have cz:=gf G _ Oh Lf (.mk ro rn rm rl) (nR _) hf.2.1 oK.v oK.a;cases bh:fg Oh Lf (.mk ro rn rm rl) with
          |none=>
            rw [bh] at cz;refine pS [1,2] cz ?_;refine J _ _ ?_;try simp only [bh] at hG
            subst hG;exact lP [0,1,2,3]
          |some a3=>
            rw [bh] at cz;have K_:=gN oK.v oK.a (.mk ro rn rm rl) a3 bh;refine aS [1,2] cz ?_;refine eI _ (aI (p5 _ _ _) ?_);refine O _ (aM [0,11,12,13] ?_);clear O J;refine rG fun J O=>O _ ?_;clear O J
            try simp only [bh] at hG
            exact ⟨_,nS _,_,aG (L:=[0,1,2,3]) (slots:=[0,11,12,13]) rfl rfl rfl rfl rfl,d1++[(Sm.mk ap name proc args cond ao aK)],cw,(ff Oh name a3),Lf,Jb,Jc,m+1,rfl,by simp,hG,hr,by omega,⟨dx oK.v K_,oK.a,oK.i,oK.s0,oK.sF⟩,by omega,by rw [lA,aH (by omega) (by omega)];rfl⟩
      simp only [h5] at hG;refine rz [0,5,11,12,13,20,170] ?_;refine cQ rfl (fun h6=>?_) fun h6=>?_
      · simp only [h6] at hG
        refine aa ((dW Mn [6] (fun i=>Nat.beq i 0||Nat.beq i 4) (by kernel_rfl) fun J O=>?_));refine sH ?_;have a_:=nd G lv km cond Og (by omega) dy.v dy.a;cases aJ:dz lv km cond with
        |none=>
          rw [aJ] at a_;refine pS [1,2] a_ ?_;refine J _ _ ?_;try simp only [dk,aJ] at hG
          subst hG;exact lP [0,1,2,3]
        |some b2=>
          rw [aJ] at a_;refine aS [1,2] a_ ?_;refine O _ (aM [0,5,11,12,13,178] ?_);clear O J;refine cQ rfl (fun h7=>?_) fun h7=>?_
          · refine rG fun J O=>sH ?_
            have cz:=ih m (by omega) ao ⟨lv,km,jd,qF⟩ hb (by omega) dy;cases bh:cF ps F m ao ⟨lv,km,jd,qF⟩ with
            |out=>
              try simp only [dk,aJ,h7,bh] at hG
              cases aO hG.symm
            |stop k3 T3=>
              rw [bh] at cz;refine pS [0,1,2,3] (cz nofun) ?_;refine J _ _ ?_;try simp only [dk,aJ,h7,bh] at hG
              subst hG;exact lP [0,1,2,3]
            |ok T3=>
              rw [bh] at cz;have Fe:=(kN ps F m).1 ao _ dy _ bh;obtain ⟨CE,zV,kO,wV⟩:=T3;refine aS [0,1,2,3] (cz nofun) ?_;try simp only [dk,aJ,h7,bh] at hG
              refine O _ (aM [0,11,12,13] ?_);clear O J;refine rG fun J O=>O _ ?_;clear O J
              try simp only [bn,MO.bind,dh,dk,h2,h3,h4,h5,h6,aJ,h7] at hG
              exact ⟨_,nS _,_,aG (L:=[0,1,2,3]) (slots:=[0,11,12,13]) rfl rfl rfl rfl rfl,d1++[(Sm.mk ap name proc args cond ao aK)],cw,CE,zV,kO,wV,m+1,rfl,by simp,hG,hr,by omega,Fe,by omega,by rw [lA,aH (by omega) (by omega)];rfl⟩
          refine rG fun J O=>sH ?_;have cz:=ih m (by omega) aK ⟨lv,km,jd,qF⟩ he (by omega) dy
          cases bh:cF ps F m aK ⟨lv,km,jd,qF⟩ with
          |out=>
            try simp only [dk,aJ,h7,bh] at hG
            cases aO hG.symm
          |stop k3 T3=>
            rw [bh] at cz;refine pS [0,1,2,3] (cz nofun) ?_;refine J _ _ ?_;try simp only [dk,aJ,h7,bh] at hG
            subst hG;exact lP [0,1,2,3]
          |ok T3=>
            rw [bh] at cz;have Fe:=(kN ps F m).1 aK _ dy _ bh;obtain ⟨CE,zV,kO,wV⟩:=T3;refine aS [0,1,2,3] (cz nofun) ?_;try simp only [dk,aJ,h7,bh] at hG
            refine O _ (aM [0,11,12,13] ?_);clear O J;refine rG fun J O=>O _ ?_;clear O J
            try simp only [bn,MO.bind,dh,dk,h2,h3,h4,h5,h6,aJ,h7] at hG
            exact ⟨_,nS _,_,aG (L:=[0,1,2,3]) (slots:=[0,11,12,13]) rfl rfl rfl rfl rfl,d1++[(Sm.mk ap name proc args cond ao aK)],cw,CE,zV,kO,wV,m+1,rfl,by simp,hG,hr,by omega,Fe,by omega,by rw [lA,aH (by omega) (by omega)];rfl⟩
      simp only [h6] at hG;refine rz [0,5,11,12,13,20,187] ?_;refine cQ rfl (fun h7=>?_) fun h7=>?_
      · simp only [h7] at hG
        refine af (aq [0,5,11,12,13] rfl rfl ?_);refine aB (fun k Y=>∃(wv:List (BA×Int)) (wa:List (BA×List Int)) (wi:List Int) (ws:Int) (m2:Nat),k=m2/\((rX ps F m2 cond ao ⟨wv,wa,wi,ws⟩).bind fun S=>cF ps F (m+1) cw S)=R/\m2<=m/\SOk F ⟨wv,wa,wi,ws⟩/\Y=⟨[(0,.box 0 0),(5,.box 4 0),(11,.d (.sl 7 (bF (d1++(Sm.mk ap name proc args cond ao aK)::cw)))),(12,.d (aD (bF (d1++(Sm.mk ap name proc args cond ao aK)::cw)).length)),(13,.d (aD d1.length))],[.box 191 [.acc 1,.am 2 0,.acc 3,.d (.sl 1 (numsD wi)),.d (aD F),.d (aD ws)],.map 185 (r_ wv),.amap 186 false wa,.map 189 (zW ps),.box 217 ((Sm.mk ap name proc args cond ao aK).cs.map PV.d)]⟩) (m) (⟨lv,km,jd,qF,m,rfl,hG,nR _,dy,rfl⟩) ?_;clear hG;rintro k Y ⟨wv,wa,wi,ws,m2,rfl,hG,HJ,oK,rfl⟩;cases k with
        |zero=>simp only [rX,MO.bind] at hG;cases aO hG.symm
        |succ m2=>
        simp only [rX] at hG;refine aa (aa ?_);refine (dW Mo [6] (fun i=>Nat.beq i 0||Nat.beq i 4) (by kernel_rfl) fun J O=>?_);refine sH ?_;have a_:=nd G wv wa cond Og (by omega) oK.v oK.a;cases aJ:dz wv wa cond with
        |none=>
          rw [aJ] at a_;refine pS [1,2] a_ ?_;refine J _ _ ?_;try simp only [MO.bind,dk,aJ] at hG
          subst hG;exact lP [0,1,2,3]
        |some b2=>
          rw [aJ] at a_;refine aS [1,2] a_ ?_;refine O _ (aM [0,5,11,12,13,195] ?_);clear O J;refine cQ rfl (fun h8=>?_) fun h8=>?_
          · refine ac (af ?_);refine rS fun J O=>sH ?_
            have cz:=ih m2 (by omega) ao ⟨wv,wa,wi,ws⟩ hb (by omega) oK;cases bh:cF ps F m2 ao ⟨wv,wa,wi,ws⟩ with
            |out=>
              try simp only [MO.bind,dk,aJ,h8,bh] at hG
              cases aO hG.symm
            |stop k3 T3=>
              rw [bh] at cz;refine pS [0,1,2,3] (cz nofun) ?_;refine J _ _ ?_;try simp only [MO.bind,dk,aJ,h8,bh] at hG
              subst hG;exact lP [0,1,2,3]
            |ok T3=>
              rw [bh] at cz;have Fe:=(kN ps F m2).1 ao _ oK _ bh;obtain ⟨CE,zV,kO,wV⟩:=T3;refine aS [0,1,2,3] (cz nofun) ?_;try simp only [MO.bind,dk,aJ,h8,bh] at hG
              refine O _ (aM [0,5,11,12,13] ?_);clear O J;refine rG fun J O=>sH ?_;have lw:=wT G ps F ⟨CE,zV,kO,wV⟩ Fe hF
              cases fC:er F ⟨CE,zV,kO,wV⟩ with
              |out=>
                try simp only [fC] at hG
                cases aO hG.symm
              |stop k4 T4=>
                rw [fC] at lw;refine pS [0,1,2,3] (lw nofun) ?_;refine J _ _ ?_;try simp only [fC] at hG
                subst hG;exact lP [0,1,2,3]
              |ok T4=>
                rw [fC] at lw;have VA:=nf Fe _ fC;obtain ⟨YO,YP,VB,YQ⟩:=T4;refine aS [0,1,2,3] (lw nofun) ?_;try simp only [fC] at hG
                refine O _ ?_;clear O J;try simp only [bn,MO.bind,dh,dk,h2,h3,h4,h5,h6,h7,aJ,h8] at hG
                exact ⟨m2,nS _,_,aG (L:=[0,1,2,3,4]) (slots:=[0,5,11,12,13]) rfl rfl rfl rfl rfl,YO,YP,VB,YQ,m2,rfl,hG,by omega,VA,rfl⟩
          refine aA ?_;refine aq [0,11,12,13] rfl rfl ?_;refine rG fun J O=>O _ ?_;clear O J
          try simp only [MO.bind,dk,aJ,h8] at hG
          exact ⟨_,nS _,_,aG (L:=[0,1,2,3]) (slots:=[0,11,12,13]) rfl rfl rfl rfl rfl,d1++[(Sm.mk ap name proc args cond ao aK)],cw,wv,wa,wi,ws,m+1,rfl,by simp,hG,hr,by omega,oK,by omega,by rw [lA,aH (by omega) (by omega)];rfl⟩
      simp only [h7] at hG;refine rz [0,5,11,12,13,20,202] ?_;refine cQ rfl (fun h8=>?_) fun h8=>?_
      · simp only [h8] at hG
        refine aa ((dW Mp [6] (fun i=>Nat.beq i 0||Nat.beq i 4) (by kernel_rfl) fun J O=>?_));refine sH ?_;have a_:=nd G lv km cond Og (by omega) dy.v dy.a;cases aJ:dz lv km cond with
        |none=>
          rw [aJ] at a_;refine pS [1,2] a_ ?_;refine J _ _ ?_;try simp only [dk,aJ] at hG
          subst hG;exact lP [0,1,2,3]
        |some b2=>
          rw [aJ] at a_;refine aS [1,2] a_ ?_;refine O _ (aM [0,11,12,13,211] ?_);clear O J;refine cQ rfl (fun h9=>?_) fun h9=>?_
          · have Qd:b2=false:=by simpa using h9
            refine rG fun J O=>J _ _ ?_
            try simp only [dk,aJ,Qd] at hG
            subst hG;exact lP [0,1,2,3]
          have Qd:b2=true:=by simpa using h9
          refine ac (rG fun J O=>O _ ?_);clear O J;try simp only [dk,aJ,Qd] at hG
          exact ⟨_,nS _,_,aG (L:=[0,1,2,3]) (slots:=[0,11,12,13]) rfl rfl rfl rfl rfl,d1++[(Sm.mk ap name proc args cond ao aK)],cw,lv,km,jd,qF,m+1,rfl,by simp,hG,hr,by omega,dy,by omega,by rw [lA,aH (by omega) (by omega)];rfl⟩
      simp only [h8] at hG;refine rz [0,5,11,12,13,213] ?_;refine cQ rfl (fun h9=>?_) fun h9=>?_
      · simp only [h9] at hG
        refine aa ((dW Mq [6] (fun i=>Nat.beq i 0||Nat.beq i 4) (by kernel_rfl) fun J O=>?_));refine sH ?_;have a_:=nd G lv km cond Og (by omega) dy.v dy.a;cases aJ:dz lv km cond with
        |none=>
          rw [aJ] at a_;refine pS [1,2] a_ ?_;refine J _ _ ?_;try simp only [dk,aJ] at hG
          subst hG;exact lP [0,1,2,3]
        |some b2=>
          rw [aJ] at a_;refine aS [1,2] a_ ?_;refine O _ (aM [0,11,12,13,222] ?_);clear O J;refine cQ rfl (fun dO=>?_) fun dO=>?_
          · have Jd:b2=false:=by simpa using dO
            refine rG fun J O=>J _ _ ?_
            try simp only [dk,aJ,Jd] at hG
            subst hG;exact lP [0,1,2,3]
          have Jd:b2=true:=by simpa using dO
          refine ac (rG fun J O=>O _ ?_);clear O J;try simp only [dk,aJ,Jd] at hG
          exact ⟨_,nS _,_,aG (L:=[0,1,2,3]) (slots:=[0,11,12,13]) rfl rfl rfl rfl rfl,d1++[(Sm.mk ap name proc args cond ao aK)],cw,lv,km,jd,qF,m+1,rfl,by simp,hG,hr,by omega,dy,by omega,by rw [lA,aH (by omega) (by omega)];rfl⟩
      simp only [h9] at hG;refine ac (rG fun J O=>O _ ?_);clear O J;try simp only [bn,MO.bind,dh,dk,h2,h3,h4,h5,h6,h7,h8,h9] at hG
      exact ⟨_,nS _,_,aG (L:=[0,1,2,3]) (slots:=[0,11,12,13]) rfl rfl rfl rfl rfl,d1++[(Sm.mk ap name proc args cond ao aK)],cw,lv,km,jd,qF,m+1,rfl,by simp,hG,hr,by omega,dy,by omega,by rw [lA,aH (by omega) (by omega)];rfl⟩
  have bO:=oF h1;rw [bu] at bO;obtain rfl:e1=[]:=lE (by omega);cases m with
  |zero=>simp only [cF] at hG;cases aO hG.symm
  |succ m=>
  simp only [cF] at hG;refine aA ?_;try simp only [bn,MO.bind,dh,dk] at hG
  subst hG;exact lF [0,1,2,3] [] (h6:=PWs.nil)
theorem ng(hF:F<=1000000000000)(hP:GI ps):∀n m:Nat,m<=n->P' G ps F m
  |0,m,h=>fun l S _ _ _ aO=>by
    obtain rfl:m=0:=by omega
    simp only [cF] at aO;exact absurd rfl aO
  |n+1,m,h=>by
    rcases Nat.lt_or_ge m (n+1) with q|q
    · exact ng hF hP n m (by omega)
    obtain rfl:m=n+1:=by omega
    exact GJ G ps F hF hP n (ng hF hP n)
end
end
end Go.Abs
end
section
namespace Go.Abs
open Go Go.Proofs
attribute [local irreducible] c8 dJ Sub Spec GW ux Br Bs
section
theorem Je(G:Glob)(e:Data):ux Tryz.prog G 160 [.box 0 0] [.box 9 [.d e]] (.d (.s .nilIface)) [.box 9 [.d e]]:=by
 refine kP b8 (N:=11) (fn:=Tryz.f160) (d0:=4) Tryz.func160 rfl (by rfl) rfl (nR _) rfl rfl rfl rfl rfl rfl rfl ?_;intro pan K hK;refine hK _ ?_;clear hK K pan;refine aq [0,4] rfl rfl ?_;refine af (rz [0,4,6] ?_);refine aj rfl (Uv fun pan K hp hK=>?_);refine hK _ ?_;exact ⟨[0],rfl,rfl,rfl⟩
theorem Jf(G:Glob)(e:Data)(k:BA):ux Tryz.prog G 160 [.box 0 0] [.box 9 [.d e]] (P_ k) [.box 9 [.d (aW k)]]:=by
 refine kP b8 (N:=11) (fn:=Tryz.f160) (d0:=4) Tryz.func160 rfl (by rfl) rfl (nR _) rfl rfl rfl rfl rfl rfl rfl ?_;intro pan K hK;refine hK _ ?_;clear hK K pan;refine aq [0,4] rfl rfl ?_;refine af (rz [0,4,6] ?_);refine aj rfl (rz [0,4,8,9] ?_);refine aj rfl (rz [0,2] ?_);refine Uv fun pan K hp hK=>?_;refine hK _ ?_;exact ⟨[0],rfl,rfl,rfl⟩
section
variable (G:Glob) (ps:List Pc) (F:Int)
theorem Qe(hF:F<=1000000000000)(hP:GI ps)(n:Nat)(l:List Sm)(S S1:MS)(vD:wfB ps l=true)(HI:dG l<=1000000000)(hS:SOk F S)(h:cF ps F n l S=.ok S1):Spec Tryz.prog G 94 [.box 0 0,.d (.sl 7 (bF l))] (HH ps F S) (.ret (.d (aW ⟨#[100,111,110,101]⟩))) (HH ps F S1):=by
 have sp:=ng G ps F hF hP n n (nR _) l S vD HI hS;rw [h] at sp;refine oL (N:=9) Tryz.func94 rfl (by rfl) (nR _) rfl ?_;intro H0 lim0 w0 hn;refine dt b8 fun pan K hp hK=>?_;refine hK _ ?_;clear hK hp K pan;refine fV [0,1,4] rfl rfl ?_;refine kQ rfl rfl rfl rfl rfl rfl rfl rfl rfl fun H1 eu w1 vs Jg eV=>?_;refine fV [0,1,4] rfl rfl ?_;refine dt b8 fun pan K hp hK=>?_;refine aS [0,1,2,3] (sp nofun) ?_;refine hK _ ?_;clear hK hp K pan;refine fV [4] rfl rfl ?_;refine dt b8 fun pan K hp hK=>?_;refine hK _ ?_;clear hK hp K pan;refine fV [4] rfl rfl ?_;refine Jh (wW b8 hn (Nat.le_succ _) Jg eV rfl ?_);exact ⟨[4],_,_,_,_,_,_,_,rfl,rfl,rfl,rfl,Je _ _,rfl,rfl,rfl,_,[0,1,2,3],_,[_],rfl,rfl,rfl,rfl,rfl,PWs.refl _,rfl⟩
theorem Ji(hF:F<=1000000000000)(hP:GI ps)(n:Nat)(l:List Sm)(S S1:MS)(k:BA)(vD:wfB ps l=true)(HI:dG l<=1000000000)(hS:SOk F S)(h:cF ps F n l S=.stop k S1):Spec Tryz.prog G 94 [.box 0 0,.d (.sl 7 (bF l))] (HH ps F S) (.ret (.d (aW k))) (HH ps F S1):=by
 have sp:=ng G ps F hF hP n n (nR _) l S vD HI hS;rw [h] at sp;refine oL (N:=9) Tryz.func94 rfl (by rfl) (nR _) rfl ?_;intro H0 lim0 w0 hn;refine dt b8 fun pan K hp hK=>?_;refine hK _ ?_;clear hK hp K pan;refine fV [0,1,4] rfl rfl ?_;refine kQ rfl rfl rfl rfl rfl rfl rfl rfl rfl fun H1 eu w1 vs Jg eV=>?_;refine fV [0,1,4] rfl rfl ?_;refine dt b8 fun pan K hp hK=>?_
 refine pS [0,1,2,3] (sp nofun) ?_;refine hp _ _ ?_;refine GK b8 hn (Nat.le_succ _) Jg eV rfl ?_;exact ⟨[4],_,_,_,_,_,_,_,rfl,rfl,rfl,rfl,Jf _ _ _,rfl,rfl,rfl,_,[0,1,2,3],_,[_],rfl,rfl,rfl,rfl,rfl,PWs.refl _,rfl⟩
theorem Jj(hF:F<=1000000000000)(hP:GI ps)(n:Nat)(l:List Sm)(S S1:MS)(k:BA)(vD:wfB ps l=true)(HI:dG l<=1000000000)(hS:SOk F S)(h:vL ps F n l S=some (k,S1)):Spec Tryz.prog G 94 [.box 0 0,.d (.sl 7 (bF l))] (HH ps F S) (.ret (.d (aW k))) (HH ps F S1):=by
 unfold vL at h;cases hb:cF ps F n l S with
 |out=>rw [hb] at h;cases h
 |ok A=>
  rw [hb] at h;obtain ⟨rfl,rfl⟩:=Prod.mk.inj (Option.some.inj h);exact Qe G ps F hF hP n l S A vD HI hS hb
 |stop q A=>
  rw [hb] at h;obtain ⟨rfl,rfl⟩:=Prod.mk.inj (Option.some.inj h);exact Ji G ps F hF hP n l S A q vD HI hS hb
end
end
end Go.Abs
end
section
namespace Go.Abs
open Go Go.Proofs
attribute [local irreducible] c8 dJ Sub Spec
section
theorem yM:∀ {l:List Pc}{f:Pc},f∈l->dG f.body+nu f.params<=lz l
 |[],_,h=>by cases h
 |g::r,f,h=>by
  simp only [lz];rcases List.mem_cons.1 h with rfl|h
  ·omega
  have:=yM h;omega
theorem S4{ah:List Ar}{procs:List Pc}{main:List Sm}(h:WfP ah procs main)(hw:lz procs<=1000000000):GI procs:=fun f hf=>by
 have h1:=yM hf;have h2:=ew f.params;exact ⟨(h.pc f hf).1,(h.pc f hf).2,by omega,by omega⟩
def vF(l:List Ar):List (BA×List Int):=l.map fun a=>(a.name,List.replicate a.size.toNat 0)
theorem Jk(d:List Ar)(nm:BA)(sz:Int):vF d++[(nm,List.replicate sz.toNat 0)]=vF (d++[⟨nm,sz⟩]):=by simp [vF]
theorem Jl(l:List Ar):AOk (vF l):=by
 intro q hq n hn;obtain ⟨a,_,rfl⟩:=List.mem_map.1 hq;rw [List.eq_of_mem_replicate hn];exact P3
theorem Ms{d e:List Ar}{nm:BA}{sz:Int}(h:(arN (d++⟨nm,sz⟩::e)).Nodup):gJ (vF d) nm 0=none:=by
 refine wR fun hm=>?_;simp only [arN,List.map_append,List.map_cons,List.nodup_append] at h;simp only [vF,List.map_map,List.mem_map] at hm;obtain ⟨a,ha,hn⟩:=hm;exact h.2.2 a.name (List.mem_map.2 ⟨a,ha,rfl⟩) nm (List.mem_cons_self ..) hn
theorem Jm{d e:List Pc}{f:Pc}(h:(pcN (d++f::e)).Nodup):cZ (zW d) f.name (.agg f.cs)=zW (d++[f]):=by
 rw [up fun hm=>?_]
 ·simp [zW]
 simp only [pcN,List.map_append,List.map_cons,List.nodup_append] at h;simp only [zW,List.map_map,List.mem_map] at hm;obtain ⟨a,ha,hn⟩:=hm;exact h.2.2 a.name (List.mem_map.2 ⟨a,ha,rfl⟩) f.name (List.mem_cons_self ..) hn
def Ky(P:List (BA×List Int)->Prop):MO->Prop
 |.out=>True
 |.ok S=>P S.ar
 |.stop _ S=>P S.ar
section
variable {P:List (BA×List Int)->Prop}
theorem nh{a:MO}{f:MS->MO}(h:Ky P a)(k:∀S1,P S1.ar->Ky P (f S1)):Ky P (a.bind f):=by
 cases a with
 |out=>trivial
 |stop q S=>exact h
 |ok S=>exact k S h
theorem Bt{S:MS}{e:Ex}{f:Int->MO}(hS:P S.ar)(h:∀n,Ky P (f n)):Ky P (dh S e f):=by
 unfold dh;split
 ·exact hS
 exact h _
theorem Oi{S:MS}{c:List (List Ts)}{f:Bool->MO}(hS:P S.ar)(h:∀n,Ky P (f n)):Ky P (dk S c f):=by
 unfold dk;split
 ·exact hS
 exact h _
theorem Jn:∀(l:List BA) (es:List Ex) (S:MS),P S.ar->Ky P (jO l es S)
 |[],_,_,h=>h
 |_::_,[],_,h=>h
 |v::r,e::l,S,h=>by
  simp only [jO];exact Bt h fun n=>Jn r l { S with vs:=ff S.vs v n } h
theorem Ff(F:Int)(S:MS)(h:P S.ar):Ky P (er F S):=by
 unfold er;split <;> exact h
theorem rh(hP:∀ar s i n,P ar->P (jL ar s i n))(ps:List Pc)(F:Int):∀n:Nat,(∀l S,P S.ar->Ky P (cF ps F n l S))/\(∀s S,P S.ar->Ky P (stM ps F n s S))/\(∀c l S,P S.ar->Ky P (rX ps F n c l S))
 |0=>⟨fun l S _=>by simp only [cF];trivial,fun s S _=>by simp only [stM];trivial,fun c l S _=>by simp only [rX];trivial⟩
 |n+1=>by
  obtain ⟨h1,h2,h3⟩:=rh hP ps F n;refine ⟨fun l S hS=>?_,fun s S hS=>?_,fun c l S hS=>?_⟩
  ·cases l with
   |nil=>simp only [cF];exact hS
   |cons s r=>
    simp only [cF];exact nh (nh (Ff F S hS) fun S1 q=>h2 s S1 q) fun S2 q=>h1 r S2 q
  ·obtain ⟨ap,name,proc,args,cond,ao,aK⟩:=s;simp only [stM]
   repeat' split
   all_goals first
    |exact hS
    |exact Bt hS fun n=>hS
    |exact Bt hS fun n=>Bt hS fun m=>by split <;> first|exact hS|exact hP _ _ _ _ hS
    |exact h3 _ _ _ hS
    |exact Oi hS fun b=>by cases b <;> first|exact h1 _ _ hS|exact hS
    |exact nh (nh (Jn _ _ _ hS) fun S1 q=>h1 _ S1 q) fun S2 q=>Bt q fun n=>q
  simp only [rX];refine Oi hS fun b=>?_
  cases b with
  |false=>exact hS
  |true=>exact nh (nh (h1 _ _ hS) fun S1 q=>Ff F S1 q) fun S2 q=>h3 c l S2 q
theorem Jo(hP:∀ar s i n,P ar->P (jL ar s i n)){ps:List Pc}{F:Int}{n:Nat}{l:List Sm}{S S1:MS}{k:BA}(h:vL ps F n l S=some (k,S1))(hS:P S.ar):P S1.ar:=by
 have hk:=(rh hP ps F n).1 l S hS;unfold vL at h;cases hb:cF ps F n l S with
 |out=>rw [hb] at h;cases h
 |ok A=>
  rw [hb] at h hk;rw [<- (Prod.mk.inj (Option.some.inj h)).2];exact hk
 |stop q A=>
  rw [hb] at h hk;rw [<- (Prod.mk.inj (Option.some.inj h)).2];exact hk
end
theorem wX:∀(ar:List (BA×List Int)) (s:BA) (i:Nat) (n:Int),(jL ar s i n).map (·.1)=ar.map (·.1)
 |[],_,_,_=>rfl
 | (k,q)::r,s,i,n=>by
  have:=wX r s i n;simp only [jL];cases (s==k)
  ·simp only [List.map_cons,this]
  rfl
theorem Jp{ps:List Pc}{F:Int}{n:Nat}{l:List Sm}{S S1:MS}{k:BA}(h:vL ps F n l S=some (k,S1)):S1.ar.map (·.1)=S.ar.map (·.1):=
 Jo (P:=fun ar=>ar.map (·.1)=S.ar.map (·.1)) (fun ar s i n q=>(wX ar s i n).trans q) h rfl
def Fg(ar:List (BA×List Int)):Prop:=∀q,q∈ar->q.2.length<=16
theorem Bu:∀(ar:List (BA×List Int)) (s:BA) (i:Nat) (n:Int),Fg ar->Fg (jL ar s i n)
 |[],_,_,_,h=>h
 | (k,q)::r,s,i,n,h=>by
  have h1:=Bu r s i n fun q hq=>h q (List.mem_cons_of_mem _ hq);have h0:=h _ (List.mem_cons_self ..);simp only [jL]
  cases (s==k)
  ·intro x hx;rcases List.mem_cons.1 hx with rfl|hx
   ·exact h0
   exact h1 x hx
  intro x hx;rcases List.mem_cons.1 hx with rfl|hx
  ·rw [List.length_set];exact h0
  exact h x (List.mem_cons_of_mem _ hx)
theorem uy:∀ {ar:List (BA×List Int)}{s:BA},Fg ar->(ef ar s).length<=16
 |[],_,_=>Nat.zero_le _
 | (k,p)::r,s,h=>by
  simp only [ef];cases (s==k)
  ·exact uy fun q hq=>h q (List.mem_cons_of_mem _ hq)
  exact h _ (List.mem_cons_self ..)
theorem Mt{ar:List (BA×List Int)}{s:BA}(h:s∈ar.map (·.1)):∃j,gJ ar s 0=some (j,ef ar s):=by
 have h0:∀(ar:List (BA×List Int)) (i:Nat),s∈ar.map (·.1)->gJ ar s i≠none:=by
  intro ar;induction ar with
  |nil=>intro i h;cases h
  |cons x r ih=>
   obtain ⟨k,l⟩:=x;intro i h;simp only [gJ];cases hb:(s==k) with
   |true=>exact fun e=>nomatch e
   |false=>
    rcases List.mem_cons.1 (show s∈k::r.map (·.1) from h) with e|h
    ·exact absurd e (by rw [cR] at hb;exact oF hb)
    exact ih (i+1) h
 rcases Dk ar s 0 with ⟨q,_⟩|⟨j,q,_⟩
 ·exact absurd q (h0 ar 0 h)
 exact ⟨j,by rw [q,Nat.zero_add]⟩
def uz(ar:List (BA×List Int))(l:List Ar):List (List Data):=l.map fun a=>[.sl 1 (numsD (ef ar a.name))]
theorem GL(ar:List (BA×List Int))(d:List Ar)(nm:BA)(sz:Int):uz ar d++[[.sl 1 (numsD (ef ar nm))]]=uz ar (d++[⟨nm,sz⟩]):=by simp [uz]
theorem yN(ar:List (BA×List Int))(d:List Ar):(uz ar d).length=d.length:=by simp [uz]
theorem Dp(vs:List (BA×Int))(d:List BA)(v:BA):numsD (d.map (iM vs))++[[aD (iM vs v)]]=numsD ((d++[v]).map (iM vs)):=by simp [numsD,aD]
def yO(k:BA)(S:MS)(az:List BA)(ah:List Ar):List Data:=[aW k,aD S.steps,.sl 1 (numsD (az.map (iM S.vs))),.sl 1 (uz S.ar ah)]
def Jq:List Data:=[aW ⟨#[]⟩,aD 0,.s (.slice none 0 0),.s (.slice none 0 0)]
theorem ints_at{l d e:List Int}{x:Int}(h:l=d++x::e):(numsD l)[((d.length:Nat):Int).toNat]? = some [aD x]:=by
 subst h;rw [Int.toNat_natCast];simp [numsD,aD]
section
variable {t:Nat->TypeId}{u:Nat->Value}
theorem Qf(az:List BA)(ah:List Ar)(procs:List Pc)(main:List Sm)(inp:List Int)(F:Int)(j:Nat)(xR:Spec Tryz.prog (GV t u) 34 [.d (.agg (Pg.cs ⟨az,ah,procs,main⟩))] [] (.ret (.d (.s (.iface (t j) (u j))))) []):Spec Tryz.prog (GV t u) 30 [.d (.agg (Pg.cs ⟨az,ah,procs,main⟩)),.d (.sl 1 (numsD inp)),.d (aD F)] [] (.ret (.tup [.d (.agg Jq),.d (.s (.iface (t j) (u j)))])) []:=by
 refine sA (N:=145) Tryz.func30 ?_;refine rz [1,2,3,6] ?_;refine aa (rS fun J O=>aS [] xR ?_);refine O _ (aM [1,2,3,6,8] ?_);clear O J;refine rz [1,2,3,6,8,25] ?_;refine aj rfl (rz [6,7] ?_);refine ae ?_;exact lF [] [.d (.agg _),.d (.s _)]
def Qg:Plan:=(.load 1 (.one 0 (.one 2 (.take 3 .done))))
theorem Mu(az:List BA)(ah:List Ar)(procs:List Pc)(main:List Sm)(inp:List Int)(F:Int)(xR:Spec Tryz.prog (GV t u) 34 [.d (.agg (Pg.cs ⟨az,ah,procs,main⟩))] [] (.ret (.d (.s .nilIface))) [])(bZ:inp.length<=40)(HD:0<=F)(S5:F<=20000)(jz:∃n,n∈inp/\fP n=true):Spec Tryz.prog (GV t u) 30 [.d (.agg (Pg.cs ⟨az,ah,procs,main⟩)),.d (.sl 1 (numsD inp)),.d (aD F)] [] (.ret (.tup [.d (.agg Jq),.d (.s (.iface (t 0) (u 0)))])) []:=by
 refine sA (N:=145) Tryz.func30 ?_;refine rz [1,2,3,6] ?_;refine aa (rS fun J O=>aS [] xR ?_);refine O _ (aM [1,2,3,6,8] ?_);clear O J;refine rz [1,2,3,6,8,25] ?_;refine aj rfl (ac ?_);refine aa (rS fun J O=>?_);refine ab (fun h1=>?_) (fun h1=>?_)
 ·exact absurd (oT h1) (by rw [cX];omega)
 refine ab (fun h2=>?_) (fun h2=>?_)
 ·exact absurd (oT h2) (by omega)
 refine O _ (aM [1,2,3,6,38] ?_);clear O J;refine cQ rfl (fun h3=>?_) fun h3=>?_
 ·exact absurd (oT h3) (by omega)
 refine ac (aa ?_);refine rz [1,2,3,6,41,42,43] ?_;refine af (aB (fun k Y=>∃(d1 e1:List Int),k=e1.length/\inp=d1++e1/\(∃n,n∈e1/\fP n=true)/\Y=⟨[(1,.d (.sl 1 (numsD inp))),(2,.d (aD F)),(3,.box 0 0),(6,.box 1 0),(41,.d (.sl 1 (numsD inp))),(42,.d (aD (numsD inp).length)),(43,.d (aD d1.length))],[.box 28 [.d (.sl 1 (strs az)),.d (.sl 2 (ey ah)),.d (.sl 7 (c_ procs)),.d (.sl 7 (bF main))],.box 76 [.d (aW ⟨#[]⟩),.d (aD 0),.d (.s (.slice none 0 0)),.d (.s (.slice none 0 0))]]⟩) (inp.length) (⟨[],inp,rfl,rfl,jz,rfl⟩) ?_);rintro k Y ⟨d1,e1,rfl,bV,Hx,rfl⟩;have bu:(numsD inp).length=d1.length+e1.length:=by rw [cX,bV,lA]
 have cn:d1.length+e1.length<=1073741824:=by rw [bV,lA] at bZ;omega
 refine rz [1,2,3,6,41,42,43,44] ?_;refine aa (cQ rfl (fun h4=>?_) fun h4=>?_)
 ·have ES:=oT h4;rw [bu] at ES;cases e1 with
  |nil=>simp only [lN] at ES;omega
  |cons x cw=>
  subst bV;simp only [lC] at cn;refine ac (aa ?_);refine af (rS fun J O=>oN (eI _ (aI (ints_at rfl) ?_)));refine O _ (aM [1,2,3,6,10,41,42,43] ?_);clear O J;refine rS fun J O=>aS [] (ut _ x) ?_;refine O _ (aM [1,2,3,6,41,42,43,48] ?_);clear O J;refine cQ rfl (fun h5=>?_) fun h5=>?_
  ·refine aa ?_;refine (dW Qg [] (fun _=>false) (by kernel_rfl) fun J O=>O _ (aM [6,7] ?_));clear O J;refine ae ?_;exact lF [] [.d (.agg _),.d (.s _)]
  have HX:∃n,n∈cw/\fP n=true:=by
   obtain ⟨n,hn,hf⟩:=Hx;rcases List.mem_cons.1 hn with rfl|hn
   ·rw [hf] at h5;cases h5
   exact ⟨n,hn,hf⟩
  refine ac (rG fun J O=>O _ ?_);clear O J;exact ⟨_,nS _,_,aG (L:=[0,1]) (slots:=[1,2,3,6,41,42,43]) rfl rfl rfl rfl rfl,d1++[x],cw,rfl,by simp,HX,by rw [lA,aH (by omega) (by omega)];rfl⟩
 have ES:=oF h4;rw [bu] at ES;obtain rfl:e1=[]:=lE (by omega);obtain ⟨n,hn,_⟩:=Hx;cases hn
def Qh:Plan:=(.take 0 (.take 1 (.take 2 (.load 3 (.take 4 (.load 5 (.load 6 (.one 7 .done))))))))
def Qi:Plan:=(.take 0 (.take 1 (.take 2 (.take 3 (.load 4 (.take 5 (.load 6 (.take 7 (.load 8 (.one 9 .done))))))))))
def Qj:Plan:=(.take 0 (.load 1 (.take 2 (.take 3 (.take 4 (.take 5 (.load 6 (.take 7 (.load 8 (.one 9 (.one 10 (.take 11 (.one 12 .done)))))))))))))
def Qk:Plan:=(.take 0 (.load 1 (.take 2 (.take 3 (.take 4 (.take 5 (.load 6 (.take 7 (.load 8 (.load 9 (.one 10 (.one 11 (.take 12 (.one 13 .done))))))))))))))
theorem Ql(az:List BA)(ah:List Ar)(procs:List Pc)(main:List Sm)(inp:List Int)(F:Int)(xR:Spec Tryz.prog (GV t u) 34 [.d (.agg (Pg.cs ⟨az,ah,procs,main⟩))] [] (.ret (.d (.s .nilIface))) [])(vD:WfP ah procs main)(RN:wtPg ⟨az,ah,procs,main⟩<=400000000)(bZ:inp.length<=40)(HD:0<=F)(S5:F<=20000)(jz:∀n,n∈inp->fP n=false)(n:Nat)(kd:BA)(S1:MS)(hm:vL procs F n main ⟨[],vF ah,inp,0⟩=some (kd,S1)):Spec Tryz.prog (GV t u) 30 [.d (.agg (Pg.cs ⟨az,ah,procs,main⟩)),.d (.sl 1 (numsD inp)),.d (aD F)] [] (.ret (.tup [.d (.agg (yO kd S1 az ah)),.d (.s .nilIface)])) []:=by
 have hw:=RN;simp only [wtPg] at hw;have s8:=ew az;have vB:=mP ah;have rZ:=kA procs;have Fc:procs.length<=1073741824:=by omega
 have Dq:ah.length<=1073741824:=by omega
 have Fh:az.length<=1073741824:=by omega
 have VC:SOk F ⟨[],vF ah,inp,0⟩:=by
  refine ⟨fun q hq=>(List.not_mem_nil hq).elim,Jl ah,fun n hn=>?_,Int.le_refl _,HD⟩;have h:=jz n hn;simp only [fP,Bool.or_eq_false_iff,decide_eq_false_iff_not] at h;exact ⟨by omega,by omega⟩
 have yP:=Jj (GV t u) procs F (by omega) (S4 vD (by omega)) n main _ S1 kd vD.mn (by omega) VC hm;have S6:∀nm,nm∈arN ah->nm∈S1.ar.map (·.1):=by
  intro nm ga;rw [Jp hm];simp only [vF,List.map_map];exact ga
 have YR:=vD.pn;have Qm:=vD.an;have Jr:=vD.size;obtain ⟨lv,km,jd,qF⟩:=S1;refine sA (N:=145) Tryz.func30 ?_;refine rz [1,2,3,6] ?_;refine aa (rS fun J O=>aS [] xR ?_);refine O _ (aM [1,2,3,6,8] ?_);clear O J;refine rz [1,2,3,6,8,25] ?_;refine aj rfl (ac ?_);refine aa (rS fun J O=>?_);refine ab (fun h1=>?_) (fun h1=>?_)
 ·exact absurd (oT h1) (by rw [cX];omega)
 refine ab (fun h2=>?_) (fun h2=>?_)
 ·exact absurd (oT h2) (by omega)
 refine O _ (aM [1,2,3,6,38] ?_);clear O J;refine cQ rfl (fun h3=>?_) fun h3=>?_
 ·exact absurd (oT h3) (by omega)
 refine ac (aa ?_);refine rz [1,2,3,6,41,42,43] ?_;refine af (aB (fun k Y=>∃(d1 e1:List Int),k=e1.length/\inp=d1++e1/\(∀n,n∈e1->fP n=false)/\Y=⟨[(1,.d (.sl 1 (numsD inp))),(2,.d (aD F)),(3,.box 0 0),(6,.box 1 0),(41,.d (.sl 1 (numsD inp))),(42,.d (aD (numsD inp).length)),(43,.d (aD d1.length))],[.box 28 [.d (.sl 1 (strs az)),.d (.sl 2 (ey ah)),.d (.sl 7 (c_ procs)),.d (.sl 7 (bF main))],.box 76 [.d (aW ⟨#[]⟩),.d (aD 0),.d (.s (.slice none 0 0)),.d (.s (.slice none 0 0))]]⟩) (inp.length) (⟨[],inp,rfl,rfl,jz,rfl⟩) ?_);rintro k Y ⟨d1,e1,rfl,bV,Hx,rfl⟩;have bu:(numsD inp).length=d1.length+e1.length:=by rw [cX,bV,lA]
 have cn:d1.length+e1.length<=1073741824:=by rw [bV,lA] at bZ;omega
 refine rz [1,2,3,6,41,42,43,44] ?_;refine aa (cQ rfl (fun h4=>?_) fun h4=>?_)
 ·have ES:=oT h4;rw [bu] at ES;cases e1 with
  |nil=>simp only [lN] at ES;omega
  |cons x cw=>
  subst bV;simp only [lC] at cn;refine ac (aa ?_);refine af (rS fun J O=>oN (eI _ (aI (ints_at rfl) ?_)));refine O _ (aM [1,2,3,6,10,41,42,43] ?_);clear O J;refine rS fun J O=>aS [] (ut _ x) ?_;refine O _ (aM [1,2,3,6,41,42,43,48] ?_);clear O J;refine cQ rfl (fun h5=>?_) fun h5=>?_
  ·rw [Hx x (List.mem_cons_self ..)] at h5;cases h5
  have HX:∀n,n∈cw->fP n=false:=fun n hn=>Hx n (List.mem_cons_of_mem _ hn);refine ac (rG fun J O=>O _ ?_);clear O J;exact ⟨_,nS _,_,aG (L:=[0,1]) (slots:=[1,2,3,6,41,42,43]) rfl rfl rfl rfl rfl,d1++[x],cw,rfl,by simp,HX,by rw [lA,aH (by omega) (by omega)];rfl⟩
 have ES:=oF h4;rw [bu] at ES;obtain rfl:e1=[]:=lE (by omega);refine aA ?_;refine aq [1,2,3,6] rfl rfl ?_;refine rz [3,6,11] ?_;refine aa (rz [3,6,11,61,62,63] ?_);refine af (aB (fun k Y=>∃(d2 e2:List Pc),k=e2.length/\procs=d2++e2/\Y=⟨[(3,.box 0 0),(6,.box 1 0),(11,.box 5 0),(61,.d (.sl 7 (c_ procs))),(62,.d (aD (c_ procs).length)),(63,.d (aD d2.length))],[.box 28 [.d (.sl 1 (strs az)),.d (.sl 2 (ey ah)),.d (.sl 7 (c_ procs)),.d (.sl 7 (bF main))],.box 76 [.d (aW ⟨#[]⟩),.d (aD 0),.d (.s (.slice none 0 0)),.d (.s (.slice none 0 0))],.map 185 [],.amap 186 false [],.map 189 (zW d2),.box 191 [.acc 2,.am 3 0,.acc 4,.d (.sl 1 (numsD inp)),.d (aD F),.d (aD 0)]]⟩) (procs.length) (⟨[],procs,rfl,rfl,rfl⟩) ?_);rintro k Y ⟨d2,e2,rfl,du,rfl⟩;have dI:(c_ procs).length=d2.length+e2.length:=by rw [aE,du,lA]
 have fK:d2.length+e2.length<=1073741824:=by rw [du,lA] at Fc;exact Fc
 refine rz [3,6,11,61,62,63,64] ?_;refine aa (cQ rfl (fun h5=>?_) fun h5=>?_)
 ·have rT:=oT h5;rw [dI] at rT;cases e2 with
  |nil=>simp only [lN] at rT;omega
  |cons x ke=>
  obtain ⟨Mr,fp,fb,⟨ro,rn,rm,rl⟩⟩:=x;subst du;simp only [lC] at fK;refine ac (aa ?_);refine af (rS fun J O=>oN (eI _ (aI (eM rfl) ?_)));refine O _ (aM [3,6,11,13,61,62,63] ?_);clear O J;refine (dW Qh [7] (fun i=>Nat.beq i 5||Nat.beq i 6) (by kernel_rfl) fun J O=>?_);refine eI _ (aI (Jm YR) ?_);refine O _ (aM [3,6,11,61,62,63] ?_);clear O J;refine rG fun J O=>O _ ?_;clear O J;exact ⟨_,nS _,_,aG (L:=[0,1,2,3,4,5]) (slots:=[3,6,11,61,62,63]) rfl rfl rfl rfl rfl,d2++[⟨Mr,fp,fb,.mk ro rn rm rl⟩],ke,rfl,by simp,by rw [lA,aH (by omega) (by omega)];rfl⟩
 have rT:=oF h5;rw [dI] at rT;obtain rfl:e2=[]:=lE (by omega);rw [List.append_nil] at du;subst du;refine aA ?_;refine aq [3,6,11] rfl rfl ?_;refine aa (rz [3,6,11,76,77,78] ?_);refine af (aB (fun k Y=>∃(d3 e3:List Ar),k=e3.length/\ah=d3++e3/\Y=⟨[(3,.box 0 0),(6,.box 1 0),(11,.box 5 0),(76,.d (.sl 2 (ey ah))),(77,.d (aD (ey ah).length)),(78,.d (aD d3.length))],[.box 28 [.d (.sl 1 (strs az)),.d (.sl 2 (ey ah)),.d (.sl 7 (c_ procs)),.d (.sl 7 (bF main))],.box 76 [.d (aW ⟨#[]⟩),.d (aD 0),.d (.s (.slice none 0 0)),.d (.s (.slice none 0 0))],.map 185 [],.amap 186 false (vF d3),.map 189 (zW procs),.box 191 [.acc 2,.am 3 0,.acc 4,.d (.sl 1 (numsD inp)),.d (aD F),.d (aD 0)]]⟩) (ah.length) (⟨[],ah,rfl,rfl,rfl⟩) ?_);rintro k Y ⟨d3,e3,rfl,yp,rfl⟩;have tU:(ey ah).length=d3.length+e3.length:=by rw [bS,yp,lA]
 have C0:d3.length+e3.length<=1073741824:=by rw [yp,lA] at Dq;exact Dq
 refine rz [3,6,11,76,77,78,79] ?_;refine aa (cQ rfl (fun h6=>?_) fun h6=>?_)
 ·have yI:=oT h6;rw [tU] at yI;cases e3 with
  |nil=>simp only [lN] at yI;omega
  |cons x vM=>
  obtain ⟨nm,sz⟩:=x;subst yp;simp only [lC] at C0;have lB:=Jr _ (List.mem_append_right _ (List.mem_cons_self ..));simp only at lB;refine ac (aa ?_);refine af (rS fun J O=>oN (eI _ (aI (fL rfl) ?_)));refine O _ (aM [3,6,11,15,76,77,78] ?_);clear O J;refine Il b8 mixed Qi [10] (fun i=>Nat.beq i 5||Nat.beq i 6) 10 [3,6,11,76,77,78] (by kernel_rfl) rfl rfl rfl rfl fun E K J O=>?_;refine aI rfl (eI sz.toNat (aI (Int.toNat_of_nonneg (show (0:Int)<=sz by omega)).symm (aI (by show 8 * sz.toNat<=_;omega) (aI (by show sz.toNat<=9223372036854775807;omega) (Or.inl ?_)))));refine O _ ⟨_,_,_,3,7,_,_,_,_,_,_,rfl,rfl,rfl,rfl,rfl,rfl,rfl,rfl,rfl,by decide,Nat.zero_le _,Ms Qm,rfl,rfl,rfl,?_⟩;clear O J;refine aq [3,6,11,76,77,78] rfl rfl ?_;refine rG fun J O=>O _ ?_;clear O J;exact ⟨_,nS _,_,aG (L:=[0,1,2,3,4,5]) (slots:=[3,6,11,76,77,78]) rfl rfl rfl rfl rfl,d3++[⟨nm,sz⟩],vM,rfl,by simp,by rw [<- Jk,lA,aH (by omega) (by omega)];rfl⟩
 have yI:=oF h6;rw [tU] at yI;obtain rfl:e3=[]:=lE (by omega);rw [List.append_nil] at yp;subst yp;refine aA ?_;refine aq [3,6,11] rfl rfl ?_;refine rS fun J O=>aS [5,2,3,4] yP ?_;refine O _ (aM [3,6,11,16] ?_);clear O J;refine rz [3,6,11,17] ?_;refine O5 3 rfl ?_;refine cr 6 2 3 1 rfl rfl rfl rfl ?_;refine cr 6 3 56 1 rfl rfl rfl rfl ?_;refine aq [3,6,11,17] rfl rfl ?_;refine aa (rz [3,6,11,17,104,105,106] ?_);refine af (aB (fun k Y=>∃(d4 e4:List BA),k=e4.length/\az=d4++e4/\Y=⟨[(3,.box 0 0),(6,.box 1 0),(11,.box 5 0),(17,.box 6 0),(104,.d (.sl 1 (strs az))),(105,.d (aD (strs az).length)),(106,.d (aD d4.length))],[.box 28 [.d (.sl 1 (strs az)),.d (.sl 2 (ey ah)),.d (.sl 7 (c_ procs)),.d (.sl 7 (bF main))],.box 76 [.d (aW ⟨#[]⟩),.d (aD 0),.d (.s (.slice none 0 0)),.d (.s (.slice none 0 0))],.map 185 (r_ lv),.amap 186 true km,.map 189 (zW procs),.box 191 [.acc 2,.am 3 0,.acc 4,.d (.sl 1 (numsD jd)),.d (aD F),.d (aD qF)],.box 76 [.d (aW kd),.d (aD qF),.acc 7,.acc 8],.acc 3 1 (numsD (d4.map (iM lv))),.acc 56 1 []]⟩) (az.length) (⟨[],az,rfl,rfl,rfl⟩) ?_);rintro k Y ⟨d4,e4,rfl,AO,rfl⟩
 have tV:(strs az).length=d4.length+e4.length:=by rw [ag,AO,lA]
 have C1:d4.length+e4.length<=1073741824:=by rw [AO,lA] at Fh;exact Fh
 refine rz [3,6,11,17,104,105,106,107] ?_;refine aa (cQ rfl (fun h7=>?_) fun h7=>?_)
 ·have Mv:=oT h7;rw [tV] at Mv;cases e4 with
  |nil=>simp only [lN] at Mv;omega
  |cons v yq=>
  subst AO;simp only [lC] at C1;refine ac (aa ?_);refine af (rS fun J O=>oN (eI _ (aI (kH rfl) ?_)));refine O _ (aM [3,6,11,17,19,104,105,106] ?_);clear O J;refine (dW Qj [10,12] (fun i=>Nat.beq i 2||Nat.beq i 5||Nat.beq i 6) (by kernel_rfl) fun J O=>?_);refine N_ (T:=TT) (e:=3) rfl ?_;refine aI (aI ((by simp only [cX,ai,lM];omega)) ((by simp only [cX,ai,lM,maxLen];omega))) ?_;refine O _ (aM [3,6,11,17,104,105,106] ?_);clear O J;refine rG fun J O=>O _ ?_;clear O J;exact ⟨_,nS _,_,aG (L:=[0,1,2,3,4,5,6,7,8]) (slots:=[3,6,11,17,104,105,106]) rfl rfl rfl rfl rfl,d4++[v],yq,rfl,by simp,by rw [<- Dp,lA,aH (by omega) (by omega)];rfl⟩
 have Mv:=oF h7;rw [tV] at Mv;obtain rfl:e4=[]:=lE (by omega);rw [List.append_nil] at AO;subst AO;refine aA ?_;refine aq [3,6,11,17] rfl rfl ?_;refine aa (rz [6,11,17,124,125,126] ?_);refine af (aB (fun k Y=>∃(d5 e5:List Ar),k=e5.length/\ah=d5++e5/\Y=⟨[(6,.box 1 0),(11,.box 5 0),(17,.box 6 0),(124,.d (.sl 2 (ey ah))),(125,.d (aD (ey ah).length)),(126,.d (aD d5.length))],[.box 28 [.d (.sl 1 (strs az)),.d (.sl 2 (ey ah)),.d (.sl 7 (c_ procs)),.d (.sl 7 (bF main))],.box 76 [.d (aW ⟨#[]⟩),.d (aD 0),.d (.s (.slice none 0 0)),.d (.s (.slice none 0 0))],.map 185 (r_ lv),.amap 186 true km,.map 189 (zW procs),.box 191 [.acc 2,.am 3 0,.acc 4,.d (.sl 1 (numsD jd)),.d (aD F),.d (aD qF)],.box 76 [.d (aW kd),.d (aD qF),.acc 7,.acc 8],.acc 3 1 (numsD (az.map (iM lv))),.acc 56 1 (uz km d5)]⟩) (ah.length) (⟨[],ah,rfl,rfl,rfl⟩) ?_);rintro k Y ⟨d5,e5,rfl,Mw,rfl⟩;have Js:(ey ah).length=d5.length+e5.length:=by rw [bS,Mw,lA]
 have Qn:d5.length+e5.length<=1073741824:=by rw [Mw,lA] at Dq;exact Dq
 refine rz [6,11,17,124,125,126,127] ?_;refine aa (cQ rfl (fun h8=>?_) fun h8=>?_)
 ·have Mx:=oT h8;rw [Js] at Mx;cases e5 with
  |nil=>simp only [lN] at Mx;omega
  |cons x Qo=>
  obtain ⟨nm,sz⟩:=x;subst Mw;simp only [lC] at Qn;obtain ⟨j,YS⟩:=Mt (S6 nm (by simp [arN]));refine ac (aa ?_);refine af (rS fun J O=>oN (eI _ (aI (fL rfl) ?_)));refine O _ (aM [6,11,17,21,124,125,126] ?_);clear O J;refine (dW Qk [11,13] (fun i=>Nat.beq i 3||Nat.beq i 5||Nat.beq i 6||Nat.beq i 9) (by kernel_rfl) fun J O=>?_);refine eI _ (aI YS ?_);refine aI (aI ((by simp only [yN,ai];omega)) ((by simp only [yN,ai,maxLen];omega))) ?_;refine O _ (aM [6,11,17,124,125,126] ?_);clear O J;refine rG fun J O=>O _ ?_;clear O J;exact ⟨_,nS _,_,aG (L:=[0,1,2,3,4,5,6,7,8]) (slots:=[6,11,17,124,125,126]) rfl rfl rfl rfl rfl,d5++[⟨nm,sz⟩],Qo,rfl,by simp,by rw [<- GL,lA,aH (by omega) (by omega)];rfl⟩
 have Mx:=oF h8;rw [Js] at Mx;obtain rfl:e5=[]:=lE (by omega);rw [List.append_nil] at Mw;subst Mw;refine aA ?_;refine aq [6,17] rfl rfl ?_;refine rz [6,7] ?_;refine ae ?_;exact lF [] [.d (.agg (yO kd ⟨lv,km,jd,qF⟩ az ah)),.d (.s .nilIface)]
end
end
end Go.Abs
end
