/- Texts of this proof, joined: AbsUD, AbsUE, AbsUF, AbsUH, AbsJG. -/
import Derived.Test.YtedljfabpknjiaaGreatDoorP15
import Derived.Test.YtedljfabpknjiaaGreatDoorP11
import Derived.Test.YtedljfabpknjiaaGreatDoorP9
import Derived.Test.YtedljfabpknjiaaGreatDoorP14
import Derived.Test.YtedljfabpknjiaaGreatDoorP12
section
namespace Go.Abs
open Go Go.Proofs
attribute [local irreducible] aCall AWp Sub Spec
/-- A state of a run that may be. -/
structure SOk (F:Int) (S:MS):Prop where
  v:VOk S.vs
  a:AOk S.ar
  i:∀n,n∈S.inp→sml n
  s0:0≤S.steps
  sF:S.steps≤F
def Pr(F:Int)(a:MO):Prop:=∀S,a=.ok S→SOk F S
theorem pr_ok{F:Int}{S:MS}(h:SOk F S):Pr F (.ok S):=fun S1 e=>by cases e;exact h
theorem pr_stop{F:Int}{k:ByteArray}{S:MS}:Pr F (.stop k S):=fun _ e=>nomatch e
theorem pr_out{F:Int}:Pr F .out:=fun _ e=>nomatch e
theorem pr_bind{F:Int}{a:MO}{f:MS→MO}(h:Pr F a)(k:∀S1,SOk F S1→Pr F (f S1)):Pr F (a.bind f):=by
  cases a with
  |out=>exact pr_out
  |stop q S=>exact pr_stop
  |ok S=>exact k S (h S rfl)
theorem pr_ev{F:Int}{S:MS}{e:Ex}{f:Int→MO}(hS:SOk F S)(h:∀n,sml n→Pr F (f n)):Pr F (evS S e f):=by
  unfold evS
  split
  · exact pr_stop
  rename_i n hn;exact h n (ev_ar hS.v hS.a e n hn)
theorem pr_cd{F:Int}{S:MS}{c:List (List Ts)}{f:Bool→MO}(h:∀n,Pr F (f n)):Pr F (cdS S c f):=by
  unfold cdS
  split
  · exact pr_stop
  exact h _
theorem pr_prm{F:Int}:∀(l:List ByteArray) (es:List Ex) (S:MS),SOk F S→Pr F (prmM l es S)
  |[],_,_,hS=>pr_ok hS
  |_::_,[],_,_=>pr_stop
  |v::r,e::l,S,hS=>by
    simp only [prmM];exact pr_ev hS fun n hn=>pr_prm r l { S with vs:=putV S.vs v n } ⟨putV_sml hS.v hn,hS.a,hS.i,hS.s0,hS.sF⟩
theorem pr_step{F:Int}{S:MS}(hS:SOk F S):Pr F (stepM F S):=by
  intro S1 h;obtain ⟨q1,q2⟩:=step_ok hS.sF h
  unfold stepM at h
  split at h
  · cases h
  simp only [MO.ok.injEq] at h;subst h;exact ⟨hS.v,hS.a,hS.i,by have:=hS.s0;show 0≤S.steps+1;omega,q2⟩
theorem pr_all(ps:List Pc)(F:Int):∀n:Nat,(∀l S,SOk F S→Pr F (blkM ps F n l S))∧(∀s S,SOk F S→Pr F (stM ps F n s S))∧(∀c l S,SOk F S→Pr F (whM ps F n c l S))
  |0=>⟨fun l S _=>by simp only [blkM];exact pr_out,fun s S _=>by simp only [stM];exact pr_out,fun c l S _=>by simp only [whM];exact pr_out⟩
  |n+1=>by
    obtain ⟨h1,h2,h3⟩:=pr_all ps F n;refine ⟨fun l S hS=>?_,fun s S hS=>?_,fun c l S hS=>?_⟩
    · cases l with
      |nil=>simp only [blkM];exact pr_ok hS
      |cons s r=>
        simp only [blkM];exact pr_bind (pr_bind (pr_step hS) fun S1 q=>h2 s S1 q) fun S2 q=>h1 r S2 q
    · obtain ⟨kind,name,proc,args,cond,body,els⟩:=s
      simp only [stM]
      repeat' split
      all_goals first
        |exact pr_ok hS
        |exact pr_stop
        |exact pr_ev hS fun n hn=>pr_ok ⟨putV_sml hS.v hn,hS.a,hS.i,hS.s0,hS.sF⟩
        |exact pr_ev hS fun n hn=>pr_ev hS fun m hm=>by split <;> first|exact pr_ok ⟨hS.v,setA_sml hS.a hm,hS.i,hS.s0,hS.sF⟩|exact pr_stop
        |exact h3 _ _ _ hS
        |exact pr_cd fun b=>by cases b <;> first|exact h1 _ _ hS|exact pr_ok hS|exact pr_stop
        |exact pr_bind (pr_bind (pr_prm _ _ _ hS) fun S1 q=>h1 _ S1 q) fun S2 q=>pr_ev q fun n hn=>pr_ok ⟨putV_sml q.v hn,q.a,q.i,q.s0,q.sF⟩
        | (rename_i hi
           have hi:=hS.i
           simp_all only [List.mem_cons]
           exact pr_ok ⟨putV_sml hS.v (hi _ (.inl rfl)),hS.a,fun n hn=>hi n (.inr hn),hS.s0,hS.sF⟩)
    simp only [whM];refine pr_cd fun b=>?_
    cases b with
    |false=>exact pr_ok hS
    |true=>exact pr_bind (pr_bind (h1 _ _ hS) fun S1 q=>pr_step q) fun S2 q=>h3 c l S2 q
def rnR(ps:List Pc)(F:Int)(S:MS):List Row:=[.box 191 [.acc 1,.am 2 0,.acc 3,.d (.sl 1 (numsD S.inp)),.d (num F),.d (num S.steps)],.map 185 (vsL S.vs),.amap 186 false S.ar,.map 189 (prL ps)]
def endP(k:ByteArray):PV:=.d (.ifc 273 (str k))
def outM:MO→Out
  |.stop k _=>.pan (endP k)
  |_=>.ret (.tup [])
def rowsM(ps:List Pc)(F:Int):MO→List Row
  |.ok S=>rnR ps F S
  |.stop _ S=>rnR ps F S
  |.out=>[]
def MSpec(G:Glob)(f:FuncId)(args:List PV)(ps:List Pc)(F:Int)(S:MS)(a:MO):Prop:=a≠.out→Spec Tryz.prog G f args (rnR ps F S) (outM a) (rowsM ps F a)
theorem exs_get:∀ {l:List Ex}{i:Nat}{y:Ex},l[i]? = some y→(exs l)[((i:Nat):Int).toNat]? = some y.cs
  |[],i,y,h=>by cases h
  |x::r,0,y,h=>by
    simp only [List.getElem?_cons_zero,Option.some.injEq] at h;subst h
    rfl
  |x::r,i+1,y,h=>by
    have:=exs_get (l:=r) (i:=i) (y:=y) (by simpa using h);rw [Int.toNat_natCast] at this ⊢
    simpa only [exs,List.getElem?_cons_succ] using this
theorem shL_get:∀ {l:List Ex}{i:Nat}{y:Ex},shL l=true→l[i]? = some y→shE y=true
  |[],i,y,_,h=>by cases h
  |x::r,0,y,hs,h=>by
    simp only [List.getElem?_cons_zero,Option.some.injEq] at h;subst h;simp only [shL,Bool.and_eq_true] at hs;exact hs.1
  |x::r,i+1,y,hs,h=>by
    simp only [shL,Bool.and_eq_true] at hs;exact shL_get (i:=i) hs.2 (by simpa using h)
theorem drop_at{l:List Ex}{i:Nat}{y:Ex}(h:l[i]? = some y):l.drop i=y::l.drop (i+1):=by
  obtain ⟨h1,h2⟩:=List.getElem?_eq_some_iff.1 h;rw [List.drop_eq_getElem_cons h1,h2]
theorem nums_l(l:List Int):(numsD l).length=l.length:=by simp [numsD]
theorem nums_nil{l:List Int}(h:(((numsD l).length:Int)==0)=true):l=[]:=by
  have:=eq_of_beq h;rw [nums_l] at this;exact List.eq_nil_of_length_eq_zero (by omega)
theorem nums_cons{l:List Int}(h:(((numsD l).length:Int)==0)=false):∃q iq,l=q::iq:=by
  cases l with
  |nil=>cases h
  |cons q iq=>exact ⟨q,iq,rfl⟩
/-- What is asked of procedures. -/
def PcOk(ps:List Pc):Prop:=∀f,f∈ps→wfB ps f.body=true∧shE f.ret=true∧wtB f.body≤1000000000∧f.params.length≤1000000000
section
variable (G:Glob) (ps:List Pc) (F:Int)
def p219_0:Plan:=(.take 0 (.take 1 (.take 2 (.load 3 (.take 4 (.take 5 (.take 6 (.load 7 (.take 8 .done)))))))))
theorem step_yes(vs:List (ByteArray×Int))(ar:List (ByteArray×List Int))(inp:List Int)(st:Int)(hst:(st==F)=true):Spec Tryz.prog G 219 [.box 0 0] (rnR ps F ⟨vs,ar,inp,st⟩) (.pan (endP wTired)) (rnR ps F ⟨vs,ar,inp,st⟩):=by
  refine spec_of_awp2 TT_ok (N:=19) Tryz.func219 rfl (by rfl) (Nat.le_refl _) rfl ?_;refine awp_seq ?_;refine awp_seq ?_;refine (awp_draw TT_ok mixed p219_0 [] (fun i=>Nat.beq i 0) (by kernel_rfl) fun E K J O=>?_);refine O _ (aN [0,10] rfl rfl ?_);clear O J K E;refine awp_cond2 rfl (onB_intro (fun h1=>?_) (fun h1=>?_))
  · refine rgn fun E K J O=>?_;refine J _ _ ?_
    exact ⟨[0,1,2,3],_,rfl,rfl,rfl,rfl,rfl⟩
  rw [hst] at h1;cases h1
theorem step_no(vs:List (ByteArray×Int))(ar:List (ByteArray×List Int))(inp:List Int)(st:Int)(hst:(st==F)=false)(h0:0≤st)(h1:st≤1000000000000):Spec Tryz.prog G 219 [.box 0 0] [.box 191 [.acc 1,.am 2 0,.acc 3,.d (.sl 1 (numsD inp)),.d (num F),.d (num st)],.map 185 (vsL vs),.amap 186 false ar,.map 189 (prL ps)] (.ret (.tup [])) [.box 191 [.acc 1,.am 2 0,.acc 3,.d (.sl 1 (numsD inp)),.d (num F),.d (num (st+1))],.map 185 (vsL vs),.amap 186 false ar,.map 189 (prL ps)]:=by
  refine spec_of_awp2 TT_ok (N:=19) Tryz.func219 rfl (by rfl) (Nat.le_refl _) rfl ?_;refine awp_seq ?_;refine awp_seq ?_;refine (awp_draw TT_ok mixed p219_0 [] (fun i=>Nat.beq i 0) (by kernel_rfl) fun E K J O=>?_);refine O _ (aN [0,10] rfl rfl ?_);clear O J K E;refine awp_cond2 rfl (onB_intro (fun h1=>?_) (fun h1=>?_))
  · rw [hst] at h1
    cases h1
  refine awp_skip ?_;refine rgn fun E K J O=>?_;refine O _ ?_;clear O J K E;rw [wrapId (by omega) (by omega)];exact ⟨_,[0,1,2,3],_,[],rfl,rfl,rfl,rfl,rfl,PWs.nil,rfl⟩
theorem step_spec(S:MS)(hS:SOk F S)(hF:F≤1000000000000):MSpec G 219 [.box 0 0] ps F S (stepM F S):=by
  intro _;obtain ⟨vs,ar,inp,st⟩:=S;have h0:0≤st:=hS.s0;have h1:st≤F:=hS.sF
  unfold stepM
  cases hst:(st==F) with
  |true=>exact step_yes G ps F vs ar inp st hst
  |false=>exact step_no G ps F vs ar inp st hst h0 (by omega)
def MBlk(n:Nat):Prop:=∀(l:List Sm) (S:MS),wfB ps l=true→wtB l≤1000000000→SOk F S→MSpec G 161 [.box 0 0,.d (.sl 7 (sms l))] ps F S (blkM ps F n l S)
def p161_6:Plan:=(.take 0 (.take 1 (.take 2 (.take 3 (.load 4 (.take 5 (.load 6 (.take 7 (.take 8 (.take 9 (.load 10 (.take 11 (.load 12 (.take 13 (.load 14 (.one 15 (.one 16 .done)))))))))))))))))
def p161_8:Plan:=(.take 0 (.take 1 (.take 2 (.load 3 (.take 4 (.load 5 (.take 6 (.load 7 (.one 8 (.take 9 .done))))))))))
def p161_9:Plan:=(.take 0 (.take 1 (.take 2 (.load 3 (.take 4 (.load 5 (.take 6 (.load 7 (.one 8 (.take 9 .done))))))))))
def p161_10:Plan:=(.take 0 (.take 1 (.take 2 (.take 3 (.take 4 (.take 5 (.take 6 (.take 7 (.load 8 (.take 9 (.load 10 (.load 11 (.take 12 (.take 13 (.take 14 .done)))))))))))))))
def p161_12:Plan:=(.take 0 (.take 1 (.take 2 (.take 3 (.load 4 (.take 5 (.load 6 (.load 7 (.take 8 (.take 9 (.take 10 (.one 11 .done))))))))))))
def p161_16:Plan:=(.take 0 (.take 1 (.take 2 (.take 3 (.load 4 (.take 5 (.load 6 (.take 7 (.take 8 (.take 9 (.take 10 (.load 11 (.take 12 (.load 13 (.take 14 (.take 15 (.take 16 (.load 17 (.take 18 (.one 19 (.take 20 (.one 21 (.take 22 (.take 23 (.one 24 .done)))))))))))))))))))))))))
def p161_18:Plan:=(.take 0 (.take 1 (.take 2 (.load 3 (.take 4 (.load 5 (.load 6 (.one 7 (.one 8 .done)))))))))
def p161_22:Plan:=(.take 0 (.take 1 (.take 2 (.take 3 (.load 4 (.take 5 (.take 6 (.take 7 (.take 8 (.load 9 (.take 10 (.load 11 (.take 12 (.take 13 (.load 14 (.one 15 (.one 16 .done)))))))))))))))))
def p161_25:Plan:=(.take 0 (.take 1 (.take 2 (.take 3 (.load 4 (.take 5 (.load 6 (.take 7 (.take 8 (.take 9 (.load 10 (.take 11 (.load 12 (.one 13 (.one 14 .done)))))))))))))))
def p161_27:Plan:=(.take 0 (.take 1 (.take 2 (.load 3 (.take 4 (.load 5 (.one 6 .done)))))))
def p161_31:Plan:=(.take 0 (.take 1 (.take 2 (.load 3 (.take 4 (.load 5 (.one 6 .done)))))))
def p161_35:Plan:=(.take 0 (.take 1 (.take 2 (.load 3 (.take 4 (.load 5 (.one 6 (.take 7 .done))))))))
def p161_38:Plan:=(.take 0 (.take 1 (.take 2 (.load 3 (.take 4 (.load 5 (.one 6 (.take 7 .done))))))))
theorem mblk_step(hF:F≤1000000000000)(hP:PcOk ps)(n:Nat)(ih:∀m,m≤n→MBlk G ps F m):MBlk G ps F (n+1):=by
  intro l S hwf hwt hS hne;obtain ⟨vs,ar,inp,st⟩:=S
  have hn:l.length≤1073741824:=by have:=wtB_len l;omega
  obtain ⟨R,hG⟩:∃R,blkM ps F (n+1) l ⟨vs,ar,inp,st⟩=R:=⟨_,rfl⟩;rw [hG] at hne ⊢
  refine spec_of_awp2 TT_ok (N:=225) Tryz.func161 rfl (by rfl) ((by cases R <;> simp [rowsM,rnR] at hne ⊢)) rfl ?_
  refine rz [0,11,12,13] ?_;refine awp_block ?_;refine awp_loop (fun k Y=>∃(d1 e1:List Sm) (vs:List (ByteArray×Int)) (ar:List (ByteArray×List Int)) (inp:List Int) (st:Int) (m:Nat),k=e1.length∧l=d1++e1∧blkM ps F m e1 ⟨vs,ar,inp,st⟩=R∧wfB ps e1=true∧wtB e1≤1000000000∧SOk F ⟨vs,ar,inp,st⟩∧m≤n+1∧Y=⟨[(0,.box 0 0),(11,.d (.sl 7 (sms l))),(12,.d (num (sms l).length)),(13,.d (num d1.length))],[.box 191 [.acc 1,.am 2 0,.acc 3,.d (.sl 1 (numsD inp)),.d (num F),.d (num st)],.map 185 (vsL vs),.amap 186 false ar,.map 189 (prL ps)]⟩) (l.length) (⟨[],l,vs,ar,inp,st,n+1,rfl,rfl,hG,hwf,hwt,hS,Nat.le_refl _,rfl⟩) ?_;clear hG;rintro k Y ⟨d1,e1,vs,ar,inp,st,m,rfl,hl1,hG,hz1_0,hz1_1,hz1_2,hz1_3,rfl⟩
  have hll1:(sms l).length=d1.length+e1.length:=by rw [sms_len,hl1,List.length_append]
  have hdl1:d1.length+e1.length≤1073741824:=by rw [hl1,List.length_append] at hn;exact hn
  refine rz [0,11,12,13,14] ?_;refine awp_seq ?_;refine awp_cond2 rfl (onB_intro (fun h1=>?_) (fun h1=>?_))
  · have h1':=of_decide_eq_true h1
    rw [hll1] at h1'
    cases e1 with
    |nil=>simp only [List.length_nil] at h1';omega
    |cons x e1b=>
    obtain ⟨kind,name,proc,args,cond,body,els⟩:=x;subst hl1;simp only [List.length_cons] at hdl1;obtain ⟨hk,hb,he,hr⟩:=wfB_cons hz1_0;simp only [wtB,wtS] at hz1_1
    have hkc:shC cond=true:=by simp only [shK,Bool.and_eq_true] at hk;exact hk.1.2
    cases m with
    |zero=>simp only [blkM] at hG;exact absurd hG.symm hne
    |succ m=>
    simp only [blkM] at hG;refine awp_skip ?_;refine awp_seq ?_;refine awp_block ?_;refine rgs fun E K J O=>?_;refine And.intro (by omega) (Exists.intro _ (And.intro (sms_at rfl) ?_));refine O _ (aN [0,5,11,12,13] rfl rfl ?_);clear O J K E;refine rgs fun E K J O=>?_;show aCall _ _ _ _ _ _ _;have sp1:=step_spec G ps F ⟨vs,ar,inp,st⟩ hz1_2 hF
    cases hr1:stepM F ⟨vs,ar,inp,st⟩ with
    |out=>
      try simp only [MO.bind,hr1] at hG
      exact absurd hG.symm hne
    |stop k1 T1=>
      rw [hr1] at sp1;refine aP [0,1,2,3] rfl rfl rfl (sp1 nofun) rfl rfl rfl rfl ?_;refine J _ _ ?_
      try simp only [MO.bind,hr1] at hG
      subst hG;exact ⟨[0,1,2,3],_,rfl,rfl,rfl,rfl,rfl⟩
    |ok T1=>
      rw [hr1] at sp1;have hS1:=pr_step hz1_2 _ hr1;obtain ⟨vs1,ar1,inp1,st1⟩:=T1;refine aS [0,1,2,3] (sp1 nofun) ?_
      try simp only [MO.bind,hr1] at hG
      cases m with
      |zero=>simp only [stM] at hG;exact absurd hG.symm hne
      |succ m=>
      simp only [stM] at hG;refine O _ (aN [0,5,11,12,13] rfl rfl ?_);clear O J K E;refine rz [0,5,11,12,13,20] ?_;refine awp_block ?_;refine rz [0,5,11,12,13,20,21] ?_;refine awp_cond2 rfl (onB_intro (fun h2=>?_) (fun h2=>?_))
      · simp only [shK,h2,Bool.and_eq_true] at hk
        obtain ⟨⟨o1,n1,m1,l1⟩,r,rfl,hsx⟩:=sh1 (by rw [hk.2,hk.1.1];rfl);simp only [h2] at hG;refine (awp_draw TT_ok mixed p161_6 [16] (fun i=>Nat.beq i 0||Nat.beq i 4) (by kernel_rfl) fun E K J O=>?_);refine And.intro (by omega) (Exists.intro _ (And.intro (exs_0 _ _) ?_))
        show aCall _ _ _ _ _ _ _
        have sp2:=eval_spec G _ vs1 ar1 (.mk o1 n1 m1 l1) (Nat.le_refl _) hsx hS1.v hS1.a
        cases hr2:evM vs1 ar1 (.mk o1 n1 m1 l1) with
        |none=>
          rw [hr2] at sp2;refine aP [1,2] rfl rfl rfl sp2 rfl rfl rfl rfl ?_;refine J _ _ ?_
          try simp only [evS,hr2] at hG
          subst hG;exact ⟨[0,1,2,3],_,rfl,rfl,rfl,rfl,rfl⟩
        |some a2=>
          rw [hr2] at sp2;have hn2:=ev_ar hS1.v hS1.a (.mk o1 n1 m1 l1) a2 hr2;refine aS [1,2] sp2 ?_;refine Exists.intro _ (And.intro (vsL_put _ _ _) ?_);refine O _ (aN [0,11,12,13] rfl rfl ?_);clear O J K E;refine rgn fun E K J O=>?_;refine O _ ?_;clear O J K E
          try simp only [evS,hr2] at hG
          exact ⟨_,Nat.lt_succ_self _,_,sub_pick (L:=[0,1,2,3]) (slots:=[0,11,12,13]) rfl rfl rfl rfl rfl,d1++[(Sm.mk kind name proc (.mk o1 n1 m1 l1::r) cond body els)],e1b,(putV vs1 name a2),ar1,inp1,st1,m+1,rfl,by simp,hG,hr,by omega,⟨putV_sml hS1.v hn2,hS1.a,hS1.i,hS1.s0,hS1.sF⟩,by omega,by rw [List.length_append,wrapId (by omega) (by omega)];rfl⟩
      simp only [h2] at hG;refine rz [0,5,11,12,13,20,39] ?_;refine awp_cond2 rfl (onB_intro (fun h3=>?_) (fun h3=>?_))
      · simp only [shK,h2,h3,Bool.and_eq_true] at hk
        obtain ⟨⟨o1,n1,m1,l1⟩,⟨o2,n2,m2,l2⟩,r,rfl,hsx,hsy⟩:=sh2 (by rw [hk.2,hk.1.1];rfl);simp only [h3] at hG;refine awp_seq ?_;refine (awp_draw TT_ok mixed p161_8 [8] (fun i=>Nat.beq i 0||Nat.beq i 4) (by kernel_rfl) fun E K J O=>?_);refine And.intro (by omega) (Exists.intro _ (And.intro (exs_0 _ _) ?_))
        show aCall _ _ _ _ _ _ _
        have sp2:=eval_spec G _ vs1 ar1 (.mk o1 n1 m1 l1) (Nat.le_refl _) hsx hS1.v hS1.a
        cases hr2:evM vs1 ar1 (.mk o1 n1 m1 l1) with
        |none=>
          rw [hr2] at sp2;refine aP [1,2] rfl rfl rfl sp2 rfl rfl rfl rfl ?_;refine J _ _ ?_
          try simp only [evS,hr2] at hG
          subst hG;exact ⟨[0,1,2,3],_,rfl,rfl,rfl,rfl,rfl⟩
        |some a2=>
          rw [hr2] at sp2;have hn2:=ev_ar hS1.v hS1.a (.mk o1 n1 m1 l1) a2 hr2;refine aS [1,2] sp2 ?_;refine O _ (aN [0,5,6,11,12,13] rfl rfl ?_);clear O J K E;refine awp_seq ?_;refine (awp_draw TT_ok mixed p161_9 [8] (fun i=>Nat.beq i 0||Nat.beq i 4) (by kernel_rfl) fun E K J O=>?_);refine And.intro (by omega) (Exists.intro _ (And.intro (exs_1 _ _ _) ?_))
          show aCall _ _ _ _ _ _ _
          have sp3:=eval_spec G _ vs1 ar1 (.mk o2 n2 m2 l2) (Nat.le_refl _) hsy hS1.v hS1.a
          cases hr3:evM vs1 ar1 (.mk o2 n2 m2 l2) with
          |none=>
            rw [hr3] at sp3;refine aP [1,2] rfl rfl rfl sp3 rfl rfl rfl rfl ?_;refine J _ _ ?_
            try simp only [evS,hr2,hr3] at hG
            subst hG;exact ⟨[0,1,2,3],_,rfl,rfl,rfl,rfl,rfl⟩
          |some a3=>
            rw [hr3] at sp3;have hn3:=ev_ar hS1.v hS1.a (.mk o2 n2 m2 l2) a3 hr3;refine aS [1,2] sp3 ?_;refine O _ (aN [0,5,6,7,11,12,13] rfl rfl ?_);clear O J K E;refine awp_seq ?_;refine awp_seq ?_;refine (awp_draw TT_ok mixed p161_10 [] (fun i=>Nat.beq i 0||Nat.beq i 2||Nat.beq i 4) (by kernel_rfl) fun E K J O=>?_);refine onB_intro (fun h4=>?_) (fun h4=>?_)
            · refine O _ (aN [0,5,6,7,11,12,13,73] rfl rfl ?_);clear O J K E;refine awp_cond rfl ?_;refine rgn fun E K J O=>?_;refine J _ _ ?_
              try simp only [bn,evS,hr2,hr3,h4] at hG
              subst hG;exact ⟨[0,1,2,3],_,rfl,rfl,rfl,rfl,rfl⟩
            have hb1:=of_decide_eq_false h4;refine lk_ar (T:=TT) (e:=56) rfl (fun j hj1 hj2 hj3=>?_) (fun ha=>?_)
            · refine Exists.intro _ (Exists.intro _ (And.intro hj2 ?_))
              refine O _ (aN [0,5,6,7,11,12,13,73] rfl rfl ?_);clear O J K E;refine awp_cond2 rfl (onB_intro (fun h5=>?_) (fun h5=>?_))
              · refine rgn fun E K J O=>?_;refine J _ _ ?_
                try simp only [bn,evS,hr2,hr3,h4,h5] at hG
                subst hG;exact ⟨[0,1,2,3],_,rfl,rfl,rfl,rfl,rfl⟩
              have hb2:=of_decide_eq_false h5;refine awp_skip ?_;refine (awp_draw TT_ok mixed p161_12 [11] (fun i=>Nat.beq i 0||Nat.beq i 2||Nat.beq i 4) (by kernel_rfl) fun E K J O=>?_);refine Exists.intro _ (And.intro hj1 ?_);refine And.intro (by omega) (Exists.intro _ (Exists.intro _ (And.intro hj2 (And.intro (by omega) ?_))));refine Exists.intro _ (Exists.intro _ (And.intro hj2 (And.intro (by omega) ?_)));refine O _ (aN [0,11,12,13] rfl rfl ?_);clear O J K E;rw [← hj3];refine rgn fun E K J O=>?_;refine O _ ?_;clear O J K E
              try simp only [bn,evS,hr2,hr3,h4,h5] at hG
              exact ⟨_,Nat.lt_succ_self _,_,sub_pick (L:=[0,1,2,3]) (slots:=[0,11,12,13]) rfl rfl rfl rfl rfl,d1++[(Sm.mk kind name proc (.mk o1 n1 m1 l1::.mk o2 n2 m2 l2::r) cond body els)],e1b,vs1,(setA ar1 name a2.toNat a3),inp1,st1,m+1,rfl,by simp,hG,hr,by omega,⟨hS1.v,setA_sml hS1.a hn3,hS1.i,hS1.s0,hS1.sF⟩,by omega,by rw [List.length_append,wrapId (by omega) (by omega)];rfl⟩
            simp only [evS,hr2,hr3,h4,ha] at hG;refine O _ (aN [0,5,6,7,11,12,13,73] rfl rfl ?_);clear O J K E;refine awp_cond2 rfl (onB_intro (fun h5=>?_) (fun h5=>?_))
            · have hzh5:decide (a2≥((([]:List Int).length:Nat):Int))=true:=h5
              refine rgn fun E K J O=>?_;refine J _ _ ?_
              try simp only [bn,hzh5] at hG
              subst hG;exact ⟨[0,1,2,3],_,rfl,rfl,rfl,rfl,rfl⟩
            exact absurd (of_decide_eq_false h5) (by omega)
      simp only [h3] at hG;refine rz [0,5,11,12,13,20,86] ?_;refine awp_cond2 rfl (onB_intro (fun h4=>?_) (fun h4=>?_))
      · simp only [h4] at hG
        refine awp_seq ?_;refine rz [0,5,11,12,13,93] ?_;refine awp_cond2 rfl (onB_intro (fun h5=>?_) (fun h5=>?_))
        · obtain rfl:=nums_nil h5
          refine rgn fun E K J O=>?_;refine J _ _ ?_
          try simp only [bn] at hG
          subst hG;exact ⟨[0,1,2,3],_,rfl,rfl,rfl,rfl,rfl⟩
        obtain ⟨q,iq,rfl⟩:=nums_cons h5;refine awp_skip ?_;refine (awp_draw TT_ok mixed p161_16 [21,24] (fun i=>Nat.beq i 0||Nat.beq i 4) (by kernel_rfl) fun E K J O=>?_);refine And.intro (by omega) (Exists.intro _ (And.intro rfl ?_));refine Exists.intro 1 (And.intro rfl (And.intro (by simp [numsD]) ?_));refine Exists.intro _ (And.intro rfl ?_);refine Exists.intro _ (Exists.intro _ (And.intro rfl (And.intro (vsL_ent vs1 name q).1 (And.intro (vsL_ent vs1 name q).2 ?_))));refine O _ (aN [0,11,12,13] rfl rfl ?_);clear O J K E;refine rgn fun E K J O=>?_;refine O _ ?_;clear O J K E
        try simp only [bn] at hG
        exact ⟨_,Nat.lt_succ_self _,_,sub_pick (L:=[0,1,2,3]) (slots:=[0,11,12,13]) rfl rfl rfl rfl rfl,d1++[(Sm.mk kind name proc args cond body els)],e1b,(putV vs1 name q),ar1,iq,st1,m+1,rfl,by simp,hG,hr,by omega,⟨putV_sml hS1.v (hS1.i _ (List.mem_cons_self ..)),hS1.a,fun n hn=>hS1.i n (List.mem_cons_of_mem _ hn),hS1.s0,hS1.sF⟩,by omega,by rw [List.length_append,wrapId (by omega) (by omega)];rfl⟩
      simp only [h4] at hG;refine rz [0,5,11,12,13,20,118] ?_;refine awp_cond2 rfl (onB_intro (fun h5=>?_) (fun h5=>?_))
      · simp only [shK,h2,h3,h5,Bool.and_eq_true] at hk
        simp only [h5] at hG;obtain ⟨⟨hka,_⟩,hk⟩:=hk
        cases hfind:findP ps proc with
        |none=>rw [hfind] at hk;cases hk
        |some f=>
        rw [hfind] at hk hG;have hf:=hP f (List.mem_of_find?_eq_some hfind);obtain ⟨fnm,fp,fb,⟨ro,rn,rm,rl⟩⟩:=f;have hle:fp.length≤args.length:=Nat.le_of_ble_eq_true hk;have hnp:fp.length≤1073741824:=Nat.le_trans hf.2.2.2 (by decide)
        have hget:mapGet (prL ps) proc=some (.agg (Pc.mk fnm fp fb (.mk ro rn rm rl)).cs):=by rw [prL_get,hfind];rfl
        simp only at hG;refine awp_seq ?_;refine (awp_draw TT_ok mixed p161_18 [8] (fun i=>Nat.beq i 0||Nat.beq i 3||Nat.beq i 4) (by kernel_rfl) fun E K J O=>?_);refine Exists.intro _ (And.intro hget ?_);refine O _ (aN [0,5,8,11,12,13] rfl rfl ?_);clear O J K E;refine awp_seq ?_;refine rz [0,5,8,11,12,13,128,129,130] ?_;refine awp_block ?_;refine awp_loop (fun k Y=>∃(d2 e2:List ByteArray) (vsp:List (ByteArray×Int)),k=e2.length∧fp=d2++e2∧((((prmM e2 (args.drop d2.length) ⟨vsp,ar1,inp1,st1⟩).bind fun S=>blkM ps F m fb S).bind fun S=>evS S (.mk ro rn rm rl) fun a=>.ok { S with vs:=putV S.vs name a }).bind fun S=>blkM ps F (m+1) e1b S)=R∧SOk F ⟨vsp,ar1,inp1,st1⟩∧Y=⟨[(0,.box 0 0),(5,.box 4 0),(8,.box 5 0),(11,.d (.sl 7 (sms (d1++(Sm.mk kind name proc args cond body els)::e1b)))),(12,.d (num (sms (d1++(Sm.mk kind name proc args cond body els)::e1b)).length)),(13,.d (num d1.length)),(128,.d (.sl 1 (strs fp))),(129,.d (num (strs fp).length)),(130,.d (num d2.length))],[.box 191 [.acc 1,.am 2 0,.acc 3,.d (.sl 1 (numsD inp1)),.d (num F),.d (num st1)],.map 185 (vsL vsp),.amap 186 false ar1,.map 189 (prL ps),.box 217 ((Sm.mk kind name proc args cond body els).cs.map PV.d),.box 159 ((Pc.mk fnm fp fb (.mk ro rn rm rl)).cs.map PV.d)]⟩) (fp.length) (⟨[],fp,vs1,rfl,rfl,hG,hS1,rfl⟩) ?_;clear hG;rintro k Y ⟨d2,e2,vsp,rfl,hl2,hG,hz2_0,rfl⟩
        have hll2:(strs fp).length=d2.length+e2.length:=by rw [strs_length,hl2,List.length_append]
        have hdl2:d2.length+e2.length≤1073741824:=by rw [hl2,List.length_append] at hnp;exact hnp
        refine rz [0,5,8,11,12,13,128,129,130,131] ?_;refine awp_seq ?_;refine awp_cond2 rfl (onB_intro (fun h6=>?_) (fun h6=>?_))
        · have h6':=of_decide_eq_true h6
          rw [hll2] at h6'
          cases e2 with
          |nil=>simp only [List.length_nil] at h6';omega
          |cons v e2b=>
          subst hl2;simp only [List.length_cons,List.length_append] at hdl2 hle;obtain ⟨⟨o2,n2,m2,l2⟩,hy⟩:∃y,args[d2.length]? = some y:=⟨_,List.getElem?_eq_getElem (by omega)⟩;have hsy:=shL_get hka hy;rw [drop_at hy] at hG;simp only [prmM] at hG;refine awp_skip ?_;refine awp_seq ?_;refine awp_block ?_;refine rgs fun E K J O=>?_;refine And.intro (by omega) (Exists.intro _ (And.intro (str_at rfl) ?_));refine O _ (aN [0,5,8,9,10,11,12,13,128,129,130] rfl rfl ?_);clear O J K E;refine (awp_draw TT_ok mixed p161_22 [16] (fun i=>Nat.beq i 0||Nat.beq i 4||Nat.beq i 5) (by kernel_rfl) fun E K J O=>?_);refine And.intro (by omega) (Exists.intro _ (And.intro (exs_get hy) ?_))
          show aCall _ _ _ _ _ _ _
          have sp2:=eval_spec G _ vsp ar1 (.mk o2 n2 m2 l2) (Nat.le_refl _) hsy hz2_0.v hz2_0.a
          cases hr2:evM vsp ar1 (.mk o2 n2 m2 l2) with
          |none=>
            rw [hr2] at sp2;refine aP [1,2] rfl rfl rfl sp2 rfl rfl rfl rfl ?_;refine J _ _ ?_
            try simp only [MO.bind,evS,hr2] at hG
            subst hG;exact ⟨[0,1,2,3],_,rfl,rfl,rfl,rfl,rfl⟩
          |some a2=>
            rw [hr2] at sp2;have hn2:=ev_ar hz2_0.v hz2_0.a (.mk o2 n2 m2 l2) a2 hr2;refine aS [1,2] sp2 ?_;refine Exists.intro _ (And.intro (vsL_put _ _ _) ?_);refine O _ (aN [0,5,8,11,12,13,128,129,130] rfl rfl ?_);clear O J K E;refine rgn fun E K J O=>?_;refine O _ ?_;clear O J K E
            try simp only [MO.bind,evS,hr2] at hG
            exact ⟨_,Nat.lt_succ_self _,_,sub_pick (L:=[0,1,2,3,4,5]) (slots:=[0,5,8,11,12,13,128,129,130]) rfl rfl rfl rfl rfl,d2++[v],e2b,putV vsp v a2,rfl,by simp,(by rw [List.length_append];exact hG),⟨putV_sml hz2_0.v hn2,hz2_0.a,hz2_0.i,hz2_0.s0,hz2_0.sF⟩,by rw [List.length_append,wrapId (by omega) (by omega)];rfl⟩
        have h6':=of_decide_eq_false h6;rw [hll2] at h6';obtain rfl:e2=[]:=List.eq_nil_of_length_eq_zero (by omega);simp only [prmM] at hG;refine awp_exit ?_;refine awp_norm [0,5,8,11,12,13] rfl rfl ?_;refine rgs fun E K J O=>?_;show aCall _ _ _ _ _ _ _;have sp2:=ih m (by omega) fb ⟨vsp,ar1,inp1,st1⟩ hf.1 hf.2.2.1 hz2_0
        cases hr2:blkM ps F m fb ⟨vsp,ar1,inp1,st1⟩ with
        |out=>
          try simp only [MO.bind,evS,hr2] at hG
          exact absurd hG.symm hne
        |stop k2 T2=>
          rw [hr2] at sp2;refine aP [0,1,2,3] rfl rfl rfl (sp2 nofun) rfl rfl rfl rfl ?_;refine J _ _ ?_
          try simp only [MO.bind,evS,hr2] at hG
          subst hG;exact ⟨[0,1,2,3],_,rfl,rfl,rfl,rfl,rfl⟩
        |ok T2=>
          rw [hr2] at sp2;have hS2:=(pr_all ps F m).1 fb _ hz2_0 _ hr2;obtain ⟨vs2,ar2,inp2,st2⟩:=T2;refine aS [0,1,2,3] (sp2 nofun) ?_
          try simp only [MO.bind,evS,hr2] at hG
          refine O _ (aN [0,5,8,11,12,13] rfl rfl ?_);clear O J K E;refine (awp_draw TT_ok mixed p161_25 [14] (fun i=>Nat.beq i 0||Nat.beq i 4||Nat.beq i 5) (by kernel_rfl) fun E K J O=>?_)
          show aCall _ _ _ _ _ _ _
          have sp3:=eval_spec G _ vs2 ar2 (.mk ro rn rm rl) (Nat.le_refl _) hf.2.1 hS2.v hS2.a
          cases hr3:evM vs2 ar2 (.mk ro rn rm rl) with
          |none=>
            rw [hr3] at sp3;refine aP [1,2] rfl rfl rfl sp3 rfl rfl rfl rfl ?_;refine J _ _ ?_
            try simp only [hr3] at hG
            subst hG;exact ⟨[0,1,2,3],_,rfl,rfl,rfl,rfl,rfl⟩
          |some a3=>
            rw [hr3] at sp3;have hn3:=ev_ar hS2.v hS2.a (.mk ro rn rm rl) a3 hr3;refine aS [1,2] sp3 ?_;refine Exists.intro _ (And.intro (vsL_put _ _ _) ?_);refine O _ (aN [0,11,12,13] rfl rfl ?_);clear O J K E;refine rgn fun E K J O=>?_;refine O _ ?_;clear O J K E
            try simp only [hr3] at hG
            exact ⟨_,Nat.lt_succ_self _,_,sub_pick (L:=[0,1,2,3]) (slots:=[0,11,12,13]) rfl rfl rfl rfl rfl,d1++[(Sm.mk kind name proc args cond body els)],e1b,(putV vs2 name a3),ar2,inp2,st2,m+1,rfl,by simp,hG,hr,by omega,⟨putV_sml hS2.v hn3,hS2.a,hS2.i,hS2.s0,hS2.sF⟩,by omega,by rw [List.length_append,wrapId (by omega) (by omega)];rfl⟩
      simp only [h5] at hG;refine rz [0,5,11,12,13,20,170] ?_;refine awp_cond2 rfl (onB_intro (fun h6=>?_) (fun h6=>?_))
      · simp only [h6] at hG
        refine awp_seq ?_;refine (awp_draw TT_ok mixed p161_27 [6] (fun i=>Nat.beq i 0||Nat.beq i 4) (by kernel_rfl) fun E K J O=>?_)
        show aCall _ _ _ _ _ _ _
        have sp2:=cond_spec G vs1 ar1 cond hkc (by omega) hS1.v hS1.a
        cases hr2:condM vs1 ar1 cond with
        |none=>
          rw [hr2] at sp2;refine aP [1,2] rfl rfl rfl sp2 rfl rfl rfl rfl ?_;refine J _ _ ?_
          try simp only [cdS,hr2] at hG
          subst hG;exact ⟨[0,1,2,3],_,rfl,rfl,rfl,rfl,rfl⟩
        |some b2=>
          rw [hr2] at sp2;refine aS [1,2] sp2 ?_;refine O _ (aN [0,5,11,12,13,178] rfl rfl ?_);clear O J K E;refine awp_cond2 rfl (onB_intro (fun h7=>?_) (fun h7=>?_))
          · refine rgn fun E K J O=>?_;show aCall _ _ _ _ _ _ _
            have sp3:=ih m (by omega) body ⟨vs1,ar1,inp1,st1⟩ hb (by omega) hS1
            cases hr3:blkM ps F m body ⟨vs1,ar1,inp1,st1⟩ with
            |out=>
              try simp only [cdS,hr2,h7,hr3] at hG
              exact absurd hG.symm hne
            |stop k3 T3=>
              rw [hr3] at sp3;refine aP [0,1,2,3] rfl rfl rfl (sp3 nofun) rfl rfl rfl rfl ?_;refine J _ _ ?_
              try simp only [cdS,hr2,h7,hr3] at hG
              subst hG;exact ⟨[0,1,2,3],_,rfl,rfl,rfl,rfl,rfl⟩
            |ok T3=>
              rw [hr3] at sp3;have hS3:=(pr_all ps F m).1 body _ hS1 _ hr3;obtain ⟨vs3,ar3,inp3,st3⟩:=T3;refine aS [0,1,2,3] (sp3 nofun) ?_
              try simp only [cdS,hr2,h7,hr3] at hG
              refine O _ (aN [0,11,12,13] rfl rfl ?_);clear O J K E;refine rgn fun E K J O=>?_;refine O _ ?_;clear O J K E
              try simp only [bn,MO.bind,evS,cdS,h2,h3,h4,h5,h6,hr2,h7] at hG
              exact ⟨_,Nat.lt_succ_self _,_,sub_pick (L:=[0,1,2,3]) (slots:=[0,11,12,13]) rfl rfl rfl rfl rfl,d1++[(Sm.mk kind name proc args cond body els)],e1b,vs3,ar3,inp3,st3,m+1,rfl,by simp,hG,hr,by omega,hS3,by omega,by rw [List.length_append,wrapId (by omega) (by omega)];rfl⟩
          refine rgn fun E K J O=>?_;show aCall _ _ _ _ _ _ _;have sp3:=ih m (by omega) els ⟨vs1,ar1,inp1,st1⟩ he (by omega) hS1
          cases hr3:blkM ps F m els ⟨vs1,ar1,inp1,st1⟩ with
          |out=>
            try simp only [cdS,hr2,h7,hr3] at hG
            exact absurd hG.symm hne
          |stop k3 T3=>
            rw [hr3] at sp3;refine aP [0,1,2,3] rfl rfl rfl (sp3 nofun) rfl rfl rfl rfl ?_;refine J _ _ ?_
            try simp only [cdS,hr2,h7,hr3] at hG
            subst hG;exact ⟨[0,1,2,3],_,rfl,rfl,rfl,rfl,rfl⟩
          |ok T3=>
            rw [hr3] at sp3;have hS3:=(pr_all ps F m).1 els _ hS1 _ hr3;obtain ⟨vs3,ar3,inp3,st3⟩:=T3;refine aS [0,1,2,3] (sp3 nofun) ?_
            try simp only [cdS,hr2,h7,hr3] at hG
            refine O _ (aN [0,11,12,13] rfl rfl ?_);clear O J K E;refine rgn fun E K J O=>?_;refine O _ ?_;clear O J K E
            try simp only [bn,MO.bind,evS,cdS,h2,h3,h4,h5,h6,hr2,h7] at hG
            exact ⟨_,Nat.lt_succ_self _,_,sub_pick (L:=[0,1,2,3]) (slots:=[0,11,12,13]) rfl rfl rfl rfl rfl,d1++[(Sm.mk kind name proc args cond body els)],e1b,vs3,ar3,inp3,st3,m+1,rfl,by simp,hG,hr,by omega,hS3,by omega,by rw [List.length_append,wrapId (by omega) (by omega)];rfl⟩
      simp only [h6] at hG;refine rz [0,5,11,12,13,20,187] ?_;refine awp_cond2 rfl (onB_intro (fun h7=>?_) (fun h7=>?_))
      · simp only [h7] at hG
        refine awp_block ?_;refine awp_norm [0,5,11,12,13] rfl rfl ?_;refine awp_loop (fun k Y=>∃(wv:List (ByteArray×Int)) (wa:List (ByteArray×List Int)) (wi:List Int) (ws:Int) (m2:Nat),k=m2∧((whM ps F m2 cond body ⟨wv,wa,wi,ws⟩).bind fun S=>blkM ps F (m+1) e1b S)=R∧m2≤m∧SOk F ⟨wv,wa,wi,ws⟩∧Y=⟨[(0,.box 0 0),(5,.box 4 0),(11,.d (.sl 7 (sms (d1++(Sm.mk kind name proc args cond body els)::e1b)))),(12,.d (num (sms (d1++(Sm.mk kind name proc args cond body els)::e1b)).length)),(13,.d (num d1.length))],[.box 191 [.acc 1,.am 2 0,.acc 3,.d (.sl 1 (numsD wi)),.d (num F),.d (num ws)],.map 185 (vsL wv),.amap 186 false wa,.map 189 (prL ps),.box 217 ((Sm.mk kind name proc args cond body els).cs.map PV.d)]⟩) (m) (⟨vs1,ar1,inp1,st1,m,rfl,hG,Nat.le_refl _,hS1,rfl⟩) ?_;clear hG;rintro k Y ⟨wv,wa,wi,ws,m2,rfl,hG,hm2,hS2,rfl⟩
        cases k with
        |zero=>simp only [whM,MO.bind] at hG;exact absurd hG.symm hne
        |succ m2=>
        simp only [whM] at hG;refine awp_seq ?_;refine awp_seq ?_;refine (awp_draw TT_ok mixed p161_31 [6] (fun i=>Nat.beq i 0||Nat.beq i 4) (by kernel_rfl) fun E K J O=>?_)
        show aCall _ _ _ _ _ _ _
        have sp2:=cond_spec G wv wa cond hkc (by omega) hS2.v hS2.a
        cases hr2:condM wv wa cond with
        |none=>
          rw [hr2] at sp2;refine aP [1,2] rfl rfl rfl sp2 rfl rfl rfl rfl ?_;refine J _ _ ?_
          try simp only [MO.bind,cdS,hr2] at hG
          subst hG;exact ⟨[0,1,2,3],_,rfl,rfl,rfl,rfl,rfl⟩
        |some b2=>
          rw [hr2] at sp2;refine aS [1,2] sp2 ?_;refine O _ (aN [0,5,11,12,13,195] rfl rfl ?_);clear O J K E;refine awp_cond2 rfl (onB_intro (fun h8=>?_) (fun h8=>?_))
          · refine awp_skip ?_;refine awp_block ?_;refine rgs fun E K J O=>?_;show aCall _ _ _ _ _ _ _
            have sp3:=ih m2 (by omega) body ⟨wv,wa,wi,ws⟩ hb (by omega) hS2
            cases hr3:blkM ps F m2 body ⟨wv,wa,wi,ws⟩ with
            |out=>
              try simp only [MO.bind,cdS,hr2,h8,hr3] at hG
              exact absurd hG.symm hne
            |stop k3 T3=>
              rw [hr3] at sp3;refine aP [0,1,2,3] rfl rfl rfl (sp3 nofun) rfl rfl rfl rfl ?_;refine J _ _ ?_
              try simp only [MO.bind,cdS,hr2,h8,hr3] at hG
              subst hG;exact ⟨[0,1,2,3],_,rfl,rfl,rfl,rfl,rfl⟩
            |ok T3=>
              rw [hr3] at sp3;have hS3:=(pr_all ps F m2).1 body _ hS2 _ hr3;obtain ⟨vs3,ar3,inp3,st3⟩:=T3;refine aS [0,1,2,3] (sp3 nofun) ?_
              try simp only [MO.bind,cdS,hr2,h8,hr3] at hG
              refine O _ (aN [0,5,11,12,13] rfl rfl ?_);clear O J K E;refine rgn fun E K J O=>?_;show aCall _ _ _ _ _ _ _;have sp4:=step_spec G ps F ⟨vs3,ar3,inp3,st3⟩ hS3 hF
              cases hr4:stepM F ⟨vs3,ar3,inp3,st3⟩ with
              |out=>
                try simp only [hr4] at hG
                exact absurd hG.symm hne
              |stop k4 T4=>
                rw [hr4] at sp4;refine aP [0,1,2,3] rfl rfl rfl (sp4 nofun) rfl rfl rfl rfl ?_;refine J _ _ ?_
                try simp only [hr4] at hG
                subst hG;exact ⟨[0,1,2,3],_,rfl,rfl,rfl,rfl,rfl⟩
              |ok T4=>
                rw [hr4] at sp4;have hS4:=pr_step hS3 _ hr4;obtain ⟨vs4,ar4,inp4,st4⟩:=T4;refine aS [0,1,2,3] (sp4 nofun) ?_
                try simp only [hr4] at hG
                refine O _ ?_;clear O J K E
                try simp only [bn,MO.bind,evS,cdS,h2,h3,h4,h5,h6,h7,hr2,h8] at hG
                exact ⟨m2,Nat.lt_succ_self _,_,sub_pick (L:=[0,1,2,3,4]) (slots:=[0,5,11,12,13]) rfl rfl rfl rfl rfl,vs4,ar4,inp4,st4,m2,rfl,hG,by omega,hS4,rfl⟩
          refine awp_exit ?_;refine awp_norm [0,11,12,13] rfl rfl ?_;refine rgn fun E K J O=>?_;refine O _ ?_;clear O J K E
          try simp only [MO.bind,cdS,hr2,h8] at hG
          exact ⟨_,Nat.lt_succ_self _,_,sub_pick (L:=[0,1,2,3]) (slots:=[0,11,12,13]) rfl rfl rfl rfl rfl,d1++[(Sm.mk kind name proc args cond body els)],e1b,wv,wa,wi,ws,m+1,rfl,by simp,hG,hr,by omega,hS2,by omega,by rw [List.length_append,wrapId (by omega) (by omega)];rfl⟩
      simp only [h7] at hG;refine rz [0,5,11,12,13,20,202] ?_;refine awp_cond2 rfl (onB_intro (fun h8=>?_) (fun h8=>?_))
      · simp only [h8] at hG
        refine awp_seq ?_;refine (awp_draw TT_ok mixed p161_35 [6] (fun i=>Nat.beq i 0||Nat.beq i 4) (by kernel_rfl) fun E K J O=>?_)
        show aCall _ _ _ _ _ _ _
        have sp2:=cond_spec G vs1 ar1 cond hkc (by omega) hS1.v hS1.a
        cases hr2:condM vs1 ar1 cond with
        |none=>
          rw [hr2] at sp2;refine aP [1,2] rfl rfl rfl sp2 rfl rfl rfl rfl ?_;refine J _ _ ?_
          try simp only [cdS,hr2] at hG
          subst hG;exact ⟨[0,1,2,3],_,rfl,rfl,rfl,rfl,rfl⟩
        |some b2=>
          rw [hr2] at sp2;refine aS [1,2] sp2 ?_;refine O _ (aN [0,11,12,13,211] rfl rfl ?_);clear O J K E;refine awp_cond2 rfl (onB_intro (fun h9=>?_) (fun h9=>?_))
          · have hhh9:b2=false:=by simpa using h9
            refine rgn fun E K J O=>?_;refine J _ _ ?_
            try simp only [cdS,hr2,hhh9] at hG
            subst hG;exact ⟨[0,1,2,3],_,rfl,rfl,rfl,rfl,rfl⟩
          have hhh9:b2=true:=by simpa using h9
          refine awp_skip ?_;refine rgn fun E K J O=>?_;refine O _ ?_;clear O J K E
          try simp only [cdS,hr2,hhh9] at hG
          exact ⟨_,Nat.lt_succ_self _,_,sub_pick (L:=[0,1,2,3]) (slots:=[0,11,12,13]) rfl rfl rfl rfl rfl,d1++[(Sm.mk kind name proc args cond body els)],e1b,vs1,ar1,inp1,st1,m+1,rfl,by simp,hG,hr,by omega,hS1,by omega,by rw [List.length_append,wrapId (by omega) (by omega)];rfl⟩
      simp only [h8] at hG;refine rz [0,5,11,12,13,213] ?_;refine awp_cond2 rfl (onB_intro (fun h9=>?_) (fun h9=>?_))
      · simp only [h9] at hG
        refine awp_seq ?_;refine (awp_draw TT_ok mixed p161_38 [6] (fun i=>Nat.beq i 0||Nat.beq i 4) (by kernel_rfl) fun E K J O=>?_)
        show aCall _ _ _ _ _ _ _
        have sp2:=cond_spec G vs1 ar1 cond hkc (by omega) hS1.v hS1.a
        cases hr2:condM vs1 ar1 cond with
        |none=>
          rw [hr2] at sp2;refine aP [1,2] rfl rfl rfl sp2 rfl rfl rfl rfl ?_;refine J _ _ ?_
          try simp only [cdS,hr2] at hG
          subst hG;exact ⟨[0,1,2,3],_,rfl,rfl,rfl,rfl,rfl⟩
        |some b2=>
          rw [hr2] at sp2;refine aS [1,2] sp2 ?_;refine O _ (aN [0,11,12,13,222] rfl rfl ?_);clear O J K E;refine awp_cond2 rfl (onB_intro (fun h10=>?_) (fun h10=>?_))
          · have hhh10:b2=false:=by simpa using h10
            refine rgn fun E K J O=>?_;refine J _ _ ?_
            try simp only [cdS,hr2,hhh10] at hG
            subst hG;exact ⟨[0,1,2,3],_,rfl,rfl,rfl,rfl,rfl⟩
          have hhh10:b2=true:=by simpa using h10
          refine awp_skip ?_;refine rgn fun E K J O=>?_;refine O _ ?_;clear O J K E
          try simp only [cdS,hr2,hhh10] at hG
          exact ⟨_,Nat.lt_succ_self _,_,sub_pick (L:=[0,1,2,3]) (slots:=[0,11,12,13]) rfl rfl rfl rfl rfl,d1++[(Sm.mk kind name proc args cond body els)],e1b,vs1,ar1,inp1,st1,m+1,rfl,by simp,hG,hr,by omega,hS1,by omega,by rw [List.length_append,wrapId (by omega) (by omega)];rfl⟩
      simp only [h9] at hG;refine awp_skip ?_;refine rgn fun E K J O=>?_;refine O _ ?_;clear O J K E
      try simp only [bn,MO.bind,evS,cdS,h2,h3,h4,h5,h6,h7,h8,h9] at hG
      exact ⟨_,Nat.lt_succ_self _,_,sub_pick (L:=[0,1,2,3]) (slots:=[0,11,12,13]) rfl rfl rfl rfl rfl,d1++[(Sm.mk kind name proc args cond body els)],e1b,vs1,ar1,inp1,st1,m+1,rfl,by simp,hG,hr,by omega,hS1,by omega,by rw [List.length_append,wrapId (by omega) (by omega)];rfl⟩
  have h1':=of_decide_eq_false h1;rw [hll1] at h1';obtain rfl:e1=[]:=List.eq_nil_of_length_eq_zero (by omega)
  cases m with
  |zero=>simp only [blkM] at hG;exact absurd hG.symm hne
  |succ m=>
  simp only [blkM] at hG;refine awp_exit ?_
  try simp only [bn,MO.bind,evS,cdS] at hG
  subst hG;exact ⟨_,[0,1,2,3],_,[],rfl,rfl,rfl,rfl,rfl,PWs.nil,rfl⟩
theorem mblk_spec(hF:F≤1000000000000)(hP:PcOk ps):∀n m:Nat,m≤n→MBlk G ps F m
  |0,m,h=>fun l S _ _ _ hne=>by
    obtain rfl:m=0:=by omega
    simp only [blkM] at hne;exact absurd rfl hne
  |n+1,m,h=>by
    rcases Nat.lt_or_ge m (n+1) with q|q
    · exact mblk_spec hF hP n m (by omega)
    obtain rfl:m=n+1:=by omega
    exact mblk_step G ps F hF hP n (mblk_spec hF hP n)
end
end Go.Abs
end
section
namespace Go.Abs
open Go Go.Proofs
attribute [local irreducible] aCall AWp Sub Spec GW DSpec EndOk PanOk
theorem all1_nil(G:Glob)(e:Data):DSpec Tryz.prog G 160 [.box 0 0] [.box 9 [.d e]] (.d (.s .nilIface)) [.box 9 [.d e]]:=by
 refine dspec_of_awp TT_ok (N:=11) (fn:=Tryz.f160) (d0:=4) Tryz.func160 rfl (by rfl) rfl (Nat.le_refl _) rfl rfl rfl rfl rfl rfl rfl ?_;intro pan K hK;refine hK _ ?_;clear hK K pan;refine awp_norm [0,4] rfl rfl ?_;refine awp_block ?_;refine rz [0,4,6] ?_;refine awp_cond rfl ?_;refine rgn fun pan K hp hK=>?_;refine hK _ ?_;exact ⟨[0],rfl,rfl,rfl⟩
theorem all1_bad(G:Glob)(e:Data)(k:ByteArray):DSpec Tryz.prog G 160 [.box 0 0] [.box 9 [.d e]] (endP k) [.box 9 [.d (str k)]]:=by
 refine dspec_of_awp TT_ok (N:=11) (fn:=Tryz.f160) (d0:=4) Tryz.func160 rfl (by rfl) rfl (Nat.le_refl _) rfl rfl rfl rfl rfl rfl rfl ?_;intro pan K hK;refine hK _ ?_;clear hK K pan;refine awp_norm [0,4] rfl rfl ?_;refine awp_block ?_;refine rz [0,4,6] ?_;refine awp_cond rfl ?_;refine rz [0,4,8,9] ?_;refine awp_cond rfl ?_;refine rz [0,2] ?_;refine rgn fun pan K hp hK=>?_;refine hK _ ?_;exact ⟨[0],rfl,rfl,rfl⟩
section
variable (G:Glob) (ps:List Pc) (F:Int)
theorem all_ok(hF:F≤1000000000000)(hP:PcOk ps)(n:Nat)(l:List Sm)(S S1:MS)(hwf:wfB ps l=true)(hwt:wtB l≤1000000000)(hS:SOk F S)(h:blkM ps F n l S=.ok S1):Spec Tryz.prog G 94 [.box 0 0,.d (.sl 7 (sms l))] (rnR ps F S) (.ret (.d (str ⟨#[100,111,110,101]⟩))) (rnR ps F S1):=by
 have sp:=mblk_spec G ps F hF hP n n (Nat.le_refl _) l S hwf hwt hS;rw [h] at sp;refine spec_of_gw (N:=9) Tryz.func94 rfl (by rfl) (Nat.le_refl _) rfl ?_;intro H0 lim0 w0 hn;refine gw_seq_region TT_ok fun pan K hp hK=>?_;refine hK _ ?_;clear hK hp K pan;refine gw_norm [0,1,4] rfl rfl ?_;refine gw_seq_defer rfl rfl rfl rfl rfl rfl rfl rfl rfl fun H1 lim1 w1 vs lk1 hcs=>?_;refine gw_norm [0,1,4] rfl rfl ?_;refine gw_seq_region TT_ok fun pan K hp hK=>?_;refine aS [0,1,2,3] (sp nofun) ?_;refine hK _ ?_;clear hK hp K pan;refine gw_norm [4] rfl rfl ?_;refine gw_seq_region TT_ok fun pan K hp hK=>?_;refine hK _ ?_;clear hK hp K pan;refine gw_norm [4] rfl rfl ?_;refine gw_ret (end_defer TT_ok hn (Nat.le_succ _) lk1 hcs rfl ?_);exact ⟨[4],_,_,_,_,_,_,_,rfl,rfl,rfl,rfl,all1_nil _ _,rfl,rfl,rfl,_,[0,1,2,3],_,[_],rfl,rfl,rfl,rfl,rfl,PWs.refl _,rfl⟩
theorem all_stop(hF:F≤1000000000000)(hP:PcOk ps)(n:Nat)(l:List Sm)(S S1:MS)(k:ByteArray)(hwf:wfB ps l=true)(hwt:wtB l≤1000000000)(hS:SOk F S)(h:blkM ps F n l S=.stop k S1):Spec Tryz.prog G 94 [.box 0 0,.d (.sl 7 (sms l))] (rnR ps F S) (.ret (.d (str k))) (rnR ps F S1):=by
 have sp:=mblk_spec G ps F hF hP n n (Nat.le_refl _) l S hwf hwt hS;rw [h] at sp;refine spec_of_gw (N:=9) Tryz.func94 rfl (by rfl) (Nat.le_refl _) rfl ?_;intro H0 lim0 w0 hn;refine gw_seq_region TT_ok fun pan K hp hK=>?_;refine hK _ ?_;clear hK hp K pan;refine gw_norm [0,1,4] rfl rfl ?_;refine gw_seq_defer rfl rfl rfl rfl rfl rfl rfl rfl rfl fun H1 lim1 w1 vs lk1 hcs=>?_;refine gw_norm [0,1,4] rfl rfl ?_;refine gw_seq_region TT_ok fun pan K hp hK=>?_
 show aCall _ _ _ _ _ _ _
 refine aP [0,1,2,3] rfl rfl rfl (sp nofun) rfl rfl rfl rfl ?_;refine hp _ _ ?_;refine pan_defer TT_ok hn (Nat.le_succ _) lk1 hcs rfl ?_;exact ⟨[4],_,_,_,_,_,_,_,rfl,rfl,rfl,rfl,all1_bad _ _ _,rfl,rfl,rfl,_,[0,1,2,3],_,[_],rfl,rfl,rfl,rfl,rfl,PWs.refl _,rfl⟩
theorem all_spec(hF:F≤1000000000000)(hP:PcOk ps)(n:Nat)(l:List Sm)(S S1:MS)(k:ByteArray)(hwf:wfB ps l=true)(hwt:wtB l≤1000000000)(hS:SOk F S)(h:allM ps F n l S=some (k,S1)):Spec Tryz.prog G 94 [.box 0 0,.d (.sl 7 (sms l))] (rnR ps F S) (.ret (.d (str k))) (rnR ps F S1):=by
 unfold allM at h
 cases hb:blkM ps F n l S with
 |out=>rw [hb] at h;cases h
 |ok A=>
  rw [hb] at h;obtain ⟨rfl,rfl⟩:=Prod.mk.inj (Option.some.inj h);exact all_ok G ps F hF hP n l S A hwf hwt hS hb
 |stop q A=>
  rw [hb] at h;obtain ⟨rfl,rfl⟩:=Prod.mk.inj (Option.some.inj h);exact all_stop G ps F hF hP n l S A q hwf hwt hS hb
end
end Go.Abs
end
section
namespace Go.Abs
open Go Go.Proofs
attribute [local irreducible] aCall AWp Sub Spec
theorem wtP_mem:∀ {l:List Pc}{f:Pc},f∈l→wtB f.body+wtV f.params≤wtP l
 |[],_,h=>by cases h
 |g::r,f,h=>by
  simp only [wtP]
  rcases List.mem_cons.1 h with rfl|h
  ·omega
  have:=wtP_mem h;omega
theorem pc_ok{arrays:List Ar}{procs:List Pc}{main:List Sm}(h:WfP arrays procs main)(hw:wtP procs≤1000000000):PcOk procs:=fun f hf=>by
 have h1:=wtP_mem hf;have h2:=wtV_len f.params;exact ⟨(h.pc f hf).1,(h.pc f hf).2,by omega,by omega⟩
def arZ(l:List Ar):List (ByteArray×List Int):=l.map fun a=>(a.name,List.replicate a.size.toNat 0)
theorem arZ_snoc(d:List Ar)(nm:ByteArray)(sz:Int):arZ d++[(nm,List.replicate sz.toNat 0)]=arZ (d++[⟨nm,sz⟩]):=by simp [arZ]
theorem arZ_ok(l:List Ar):AOk (arZ l):=by
 intro q hq n hn;obtain ⟨a,_,rfl⟩:=List.mem_map.1 hq;rw [List.eq_of_mem_replicate hn];exact sml0
theorem arZ_new{d e:List Ar}{nm:ByteArray}{sz:Int}(h:(arN (d++⟨nm,sz⟩::e)).Nodup):amGet (arZ d) nm 0=none:=by
 refine amGet_new fun hm=>?_;simp only [arN,List.map_append,List.map_cons,List.nodup_append] at h;simp only [arZ,List.map_map,List.mem_map] at hm;obtain ⟨a,ha,hn⟩:=hm;exact h.2.2 a.name (List.mem_map.2 ⟨a,ha,rfl⟩) nm (List.mem_cons_self ..) hn
theorem prL_snoc{d e:List Pc}{f:Pc}(h:(pcN (d++f::e)).Nodup):mapPut (prL d) f.name (.agg f.cs)=prL (d++[f]):=by
 rw [mapPut_new fun hm=>?_]
 ·simp [prL]
 simp only [pcN,List.map_append,List.map_cons,List.nodup_append] at h;simp only [prL,List.map_map,List.mem_map] at hm;obtain ⟨a,ha,hn⟩:=hm;exact h.2.2 a.name (List.mem_map.2 ⟨a,ha,rfl⟩) f.name (List.mem_cons_self ..) hn
/-- What holds of arrays, whatever is put into them. -/
def Ky(P:List (ByteArray×List Int)→Prop):MO→Prop
 |.out=>True
 |.ok S=>P S.ar
 |.stop _ S=>P S.ar
section
variable {P:List (ByteArray×List Int)→Prop}
theorem ky_bind{a:MO}{f:MS→MO}(h:Ky P a)(k:∀S1,P S1.ar→Ky P (f S1)):Ky P (a.bind f):=by
 cases a with
 |out=>trivial
 |stop q S=>exact h
 |ok S=>exact k S h
theorem ky_ev{S:MS}{e:Ex}{f:Int→MO}(hS:P S.ar)(h:∀n,Ky P (f n)):Ky P (evS S e f):=by
 unfold evS
 split
 ·exact hS
 exact h _
theorem ky_cd{S:MS}{c:List (List Ts)}{f:Bool→MO}(hS:P S.ar)(h:∀n,Ky P (f n)):Ky P (cdS S c f):=by
 unfold cdS
 split
 ·exact hS
 exact h _
theorem ky_prm:∀(l:List ByteArray) (es:List Ex) (S:MS),P S.ar→Ky P (prmM l es S)
 |[],_,_,h=>h
 |_::_,[],_,h=>h
 |v::r,e::l,S,h=>by
  simp only [prmM];exact ky_ev h fun n=>ky_prm r l { S with vs:=putV S.vs v n } h
theorem ky_step(F:Int)(S:MS)(h:P S.ar):Ky P (stepM F S):=by
 unfold stepM
 split <;> exact h
theorem ky_all(hP:∀ar s i n,P ar→P (setA ar s i n))(ps:List Pc)(F:Int):∀n:Nat,(∀l S,P S.ar→Ky P (blkM ps F n l S))∧(∀s S,P S.ar→Ky P (stM ps F n s S))∧(∀c l S,P S.ar→Ky P (whM ps F n c l S))
 |0=>⟨fun l S _=>by simp only [blkM];trivial,fun s S _=>by simp only [stM];trivial,fun c l S _=>by simp only [whM];trivial⟩
 |n+1=>by
  obtain ⟨h1,h2,h3⟩:=ky_all hP ps F n;refine ⟨fun l S hS=>?_,fun s S hS=>?_,fun c l S hS=>?_⟩
  ·cases l with
   |nil=>simp only [blkM];exact hS
   |cons s r=>
    simp only [blkM];exact ky_bind (ky_bind (ky_step F S hS) fun S1 q=>h2 s S1 q) fun S2 q=>h1 r S2 q
  ·obtain ⟨kind,name,proc,args,cond,body,els⟩:=s
   simp only [stM]
   repeat' split
   all_goals first
    |exact hS
    |exact ky_ev hS fun n=>hS
    |exact ky_ev hS fun n=>ky_ev hS fun m=>by split <;> first|exact hS|exact hP _ _ _ _ hS
    |exact h3 _ _ _ hS
    |exact ky_cd hS fun b=>by cases b <;> first|exact h1 _ _ hS|exact hS
    |exact ky_bind (ky_bind (ky_prm _ _ _ hS) fun S1 q=>h1 _ S1 q) fun S2 q=>ky_ev q fun n=>q
  simp only [whM];refine ky_cd hS fun b=>?_
  cases b with
  |false=>exact hS
  |true=>exact ky_bind (ky_bind (h1 _ _ hS) fun S1 q=>ky_step F S1 q) fun S2 q=>h3 c l S2 q
theorem all_ky(hP:∀ar s i n,P ar→P (setA ar s i n)){ps:List Pc}{F:Int}{n:Nat}{l:List Sm}{S S1:MS}{k:ByteArray}(h:allM ps F n l S=some (k,S1))(hS:P S.ar):P S1.ar:=by
 have hk:=(ky_all hP ps F n).1 l S hS
 unfold allM at h
 cases hb:blkM ps F n l S with
 |out=>rw [hb] at h;cases h
 |ok A=>
  rw [hb] at h hk;rw [← (Prod.mk.inj (Option.some.inj h)).2];exact hk
 |stop q A=>
  rw [hb] at h hk;rw [← (Prod.mk.inj (Option.some.inj h)).2];exact hk
end
theorem setA_keys:∀(ar:List (ByteArray×List Int)) (s:ByteArray) (i:Nat) (n:Int),(setA ar s i n).map (·.1)=ar.map (·.1)
 |[],_,_,_=>rfl
 | (k,q)::r,s,i,n=>by
  have:=setA_keys r s i n;simp only [setA]
  cases (s==k)
  ·simp only [List.map_cons,this]
  rfl
theorem all_keys{ps:List Pc}{F:Int}{n:Nat}{l:List Sm}{S S1:MS}{k:ByteArray}(h:allM ps F n l S=some (k,S1)):S1.ar.map (·.1)=S.ar.map (·.1):=
 all_ky (P:=fun ar=>ar.map (·.1)=S.ar.map (·.1)) (fun ar s i n q=>(setA_keys ar s i n).trans q) h rfl
def LenOk(ar:List (ByteArray×List Int)):Prop:=∀q,q∈ar→q.2.length≤16
theorem setA_len:∀(ar:List (ByteArray×List Int)) (s:ByteArray) (i:Nat) (n:Int),LenOk ar→LenOk (setA ar s i n)
 |[],_,_,_,h=>h
 | (k,q)::r,s,i,n,h=>by
  have h1:=setA_len r s i n fun q hq=>h q (List.mem_cons_of_mem _ hq);have h0:=h _ (List.mem_cons_self ..);simp only [setA]
  cases (s==k)
  ·intro x hx
   rcases List.mem_cons.1 hx with rfl|hx
   ·exact h0
   exact h1 x hx
  intro x hx
  rcases List.mem_cons.1 hx with rfl|hx
  ·rw [List.length_set]
   exact h0
  exact h x (List.mem_cons_of_mem _ hx)
theorem getA_len:∀ {ar:List (ByteArray×List Int)}{s:ByteArray},LenOk ar→(getA ar s).length≤16
 |[],_,_=>Nat.zero_le _
 | (k,p)::r,s,h=>by
  simp only [getA]
  cases (s==k)
  ·exact getA_len fun q hq=>h q (List.mem_cons_of_mem _ hq)
  exact h _ (List.mem_cons_self ..)
theorem key_get{ar:List (ByteArray×List Int)}{s:ByteArray}(h:s∈ar.map (·.1)):∃j,amGet ar s 0=some (j,getA ar s):=by
 have h0:∀(ar:List (ByteArray×List Int)) (i:Nat),s∈ar.map (·.1)→amGet ar s i≠none:=by
  intro ar
  induction ar with
  |nil=>intro i h;cases h
  |cons x r ih=>
   obtain ⟨k,l⟩:=x;intro i h;simp only [amGet]
   cases hb:(s==k) with
   |true=>exact fun e=>nomatch e
   |false=>
    rcases List.mem_cons.1 (show s∈k::r.map (·.1) from h) with e|h
    ·exact absurd e (by rw [beq_bytes] at hb;exact of_decide_eq_false hb)
    exact ih (i+1) h
 rcases ar_get ar s 0 with ⟨q,_⟩|⟨j,q,_⟩
 ·exact absurd q (h0 ar 0 h)
 exact ⟨j,by rw [q,Nat.zero_add]⟩
def arrL(ar:List (ByteArray×List Int))(l:List Ar):List (List Data):=l.map fun a=>[.sl 1 (numsD (getA ar a.name))]
theorem arrL_snoc(ar:List (ByteArray×List Int))(d:List Ar)(nm:ByteArray)(sz:Int):arrL ar d++[[.sl 1 (numsD (getA ar nm))]]=arrL ar (d++[⟨nm,sz⟩]):=by simp [arrL]
theorem arrL_l(ar:List (ByteArray×List Int))(d:List Ar):(arrL ar d).length=d.length:=by simp [arrL]
theorem numsM_snoc(vs:List (ByteArray×Int))(d:List ByteArray)(v:ByteArray):numsD (d.map (getV vs))++[[num (getV vs v)]]=numsD ((d++[v]).map (getV vs)):=by simp [numsD,num]
/-- What a run ended with. -/
def endD(k:ByteArray)(S:MS)(vars:List ByteArray)(arrays:List Ar):List Data:=[str k,num S.steps,.sl 1 (numsD (vars.map (getV S.vs))),.sl 1 (arrL S.ar arrays)]
def zEnd:List Data:=[str ⟨#[]⟩,num 0,.s (.slice none 0 0),.s (.slice none 0 0)]
theorem ints_at{l d e:List Int}{x:Int}(h:l=d++x::e):(numsD l)[((d.length:Nat):Int).toNat]? = some [num x]:=by
 subst h;rw [Int.toNat_natCast]
 simp [numsD,num]
section
variable {t:Nat→TypeId}{u:Nat→Value}
def p30_10:Plan:=(.load 1 (.one 0 (.one 2 (.take 3 .done))))
theorem run_far(vars:List ByteArray)(arrays:List Ar)(procs:List Pc)(main:List Sm)(inp:List Int)(F:Int)(hck:Spec Tryz.prog (GV t u) 34 [.d (.agg (Pg.cs ⟨vars,arrays,procs,main⟩))] [] (.ret (.d (.s .nilIface))) [])(hlen:inp.length≤40)(hF0:0≤F)(hF1:F≤20000)(hcond:∃n,n∈inp∧farM n=true):Spec Tryz.prog (GV t u) 30 [.d (.agg (Pg.cs ⟨vars,arrays,procs,main⟩)),.d (.sl 1 (numsD inp)),.d (num F)] [] (.ret (.tup [.d (.agg zEnd),.d (.s (.iface (t 0) (u 0)))])) []:=by
 refine spec_of_awp2 TT_ok (N:=145) Tryz.func30 rfl (by rfl) (Nat.le_refl _) rfl ?_;refine rz [1,2,3,6] ?_;refine awp_seq ?_;refine rgs fun E K J O=>?_;refine aS [] hck ?_;refine O _ (aN [1,2,3,6,8] rfl rfl ?_);clear O J K E;refine rz [1,2,3,6,8,25] ?_;refine awp_cond rfl ?_;refine awp_skip ?_;refine awp_seq ?_;refine rgs fun E K J O=>?_;refine onB_intro (fun h1=>?_) (fun h1=>?_)
 ·exact absurd (of_decide_eq_true h1) (by rw [nums_l];omega)
 refine onB_intro (fun h2=>?_) (fun h2=>?_)
 ·exact absurd (of_decide_eq_true h2) (by omega)
 refine O _ (aN [1,2,3,6,38] rfl rfl ?_);clear O J K E;refine awp_cond2 rfl (onB_intro (fun h3=>?_) (fun h3=>?_))
 ·exact absurd (of_decide_eq_true h3) (by omega)
 refine awp_skip ?_;refine awp_seq ?_;refine rz [1,2,3,6,41,42,43] ?_;refine awp_block ?_;refine awp_loop (fun k Y=>∃(d1 e1:List Int),k=e1.length∧inp=d1++e1∧(∃n,n∈e1∧farM n=true)∧Y=⟨[(1,.d (.sl 1 (numsD inp))),(2,.d (num F)),(3,.box 0 0),(6,.box 1 0),(41,.d (.sl 1 (numsD inp))),(42,.d (num (numsD inp).length)),(43,.d (num d1.length))],[.box 28 [.d (.sl 1 (strs vars)),.d (.sl 2 (ars arrays)),.d (.sl 7 (pcs procs)),.d (.sl 7 (sms main))],.box 76 [.d (str ⟨#[]⟩),.d (num 0),.d (.s (.slice none 0 0)),.d (.s (.slice none 0 0))]]⟩) (inp.length) (⟨[],inp,rfl,rfl,hcond,rfl⟩) ?_;rintro k Y ⟨d1,e1,rfl,hl1,hc1,rfl⟩
 have hll1:(numsD inp).length=d1.length+e1.length:=by rw [nums_l,hl1,List.length_append]
 have hdl1:d1.length+e1.length≤1073741824:=by rw [hl1,List.length_append] at hlen;omega
 refine rz [1,2,3,6,41,42,43,44] ?_;refine awp_seq ?_;refine awp_cond2 rfl (onB_intro (fun h4=>?_) (fun h4=>?_))
 ·have h4':=of_decide_eq_true h4
  rw [hll1] at h4'
  cases e1 with
  |nil=>simp only [List.length_nil] at h4';omega
  |cons x e1b=>
  subst hl1;simp only [List.length_cons] at hdl1;refine awp_skip ?_;refine awp_seq ?_;refine awp_block ?_;refine rgs fun E K J O=>?_;refine And.intro (by omega) (Exists.intro _ (And.intro (ints_at rfl) ?_));refine O _ (aN [1,2,3,6,10,41,42,43] rfl rfl ?_);clear O J K E;refine rgs fun E K J O=>?_;refine aS [] (far_spec _ x) ?_;refine O _ (aN [1,2,3,6,41,42,43,48] rfl rfl ?_);clear O J K E;refine awp_cond2 rfl (onB_intro (fun h5=>?_) (fun h5=>?_))
  ·refine awp_seq ?_
   refine (awp_draw TT_ok mixed p30_10 [] (fun _=>false) (by kernel_rfl) fun E K J O=>?_);refine O _ (aN [6,7] rfl rfl ?_);clear O J K E;refine awp_ret ?_;exact ⟨_,[],_,[.d (.agg _),.d (.s _)],rfl,rfl,rfl,rfl,rfl,PWs.refl _,rfl⟩
  have hc2:∃n,n∈e1b∧farM n=true:=by
   obtain ⟨n,hn,hf⟩:=hc1
   rcases List.mem_cons.1 hn with rfl|hn
   ·rw [hf] at h5;cases h5
   exact ⟨n,hn,hf⟩
  refine awp_skip ?_;refine rgn fun E K J O=>?_;refine O _ ?_;clear O J K E;exact ⟨_,Nat.lt_succ_self _,_,sub_pick (L:=[0,1]) (slots:=[1,2,3,6,41,42,43]) rfl rfl rfl rfl rfl,d1++[x],e1b,rfl,by simp,hc2,by rw [List.length_append,wrapId (by omega) (by omega)];rfl⟩
 have h4':=of_decide_eq_false h4;rw [hll1] at h4';obtain rfl:e1=[]:=List.eq_nil_of_length_eq_zero (by omega);obtain ⟨n,hn,_⟩:=hc1;cases hn
def p30_16:Plan:=(.take 0 (.take 1 (.take 2 (.load 3 (.take 4 (.load 5 (.load 6 (.one 7 .done))))))))
def p30_21:Plan:=(.take 0 (.take 1 (.take 2 (.take 3 (.load 4 (.take 5 (.load 6 (.take 7 (.load 8 (.one 9 .done))))))))))
def p30_28:Plan:=(.take 0 (.load 1 (.take 2 (.take 3 (.take 4 (.take 5 (.load 6 (.take 7 (.load 8 (.one 9 (.one 10 (.take 11 (.one 12 .done)))))))))))))
def p30_33:Plan:=(.take 0 (.load 1 (.take 2 (.take 3 (.take 4 (.take 5 (.load 6 (.take 7 (.load 8 (.load 9 (.one 10 (.one 11 (.take 12 (.one 13 .done))))))))))))))
theorem run_ok(vars:List ByteArray)(arrays:List Ar)(procs:List Pc)(main:List Sm)(inp:List Int)(F:Int)(hck:Spec Tryz.prog (GV t u) 34 [.d (.agg (Pg.cs ⟨vars,arrays,procs,main⟩))] [] (.ret (.d (.s .nilIface))) [])(hwf:WfP arrays procs main)(hw0:wtPg ⟨vars,arrays,procs,main⟩≤400000000)(hlen:inp.length≤40)(hF0:0≤F)(hF1:F≤20000)(hcond:∀n,n∈inp→farM n=false)(n:Nat)(kd:ByteArray)(S1:MS)(hm:allM procs F n main ⟨[],arZ arrays,inp,0⟩=some (kd,S1)):Spec Tryz.prog (GV t u) 30 [.d (.agg (Pg.cs ⟨vars,arrays,procs,main⟩)),.d (.sl 1 (numsD inp)),.d (num F)] [] (.ret (.tup [.d (.agg (endD kd S1 vars arrays)),.d (.s .nilIface)])) []:=by
 have hw:=hw0;simp only [wtPg] at hw;have hvl:=wtV_len vars;have hal:=wtA_len arrays;have hpl:=wtP_len procs
 have hnp:procs.length≤1073741824:=by omega
 have hna:arrays.length≤1073741824:=by omega
 have hnv:vars.length≤1073741824:=by omega
 have hS0:SOk F ⟨[],arZ arrays,inp,0⟩:=by
  refine ⟨fun q hq=>(List.not_mem_nil hq).elim,arZ_ok arrays,fun n hn=>?_,Int.le_refl _,hF0⟩;have h:=hcond n hn;simp only [farM,Bool.or_eq_false_iff,decide_eq_false_iff_not] at h;exact ⟨by omega,by omega⟩
 have hall:=all_spec (GV t u) procs F (by omega) (pc_ok hwf (by omega)) n main _ S1 kd hwf.mn (by omega) hS0 hm
 have hkeys:∀nm,nm∈arN arrays→nm∈S1.ar.map (·.1):=by
  intro nm hnm;rw [all_keys hm];simp only [arZ,List.map_map];exact hnm
 have hnP:=hwf.pn;have hnA:=hwf.an;have hsz0:=hwf.size;obtain ⟨vs1,ar1,inp1,st1⟩:=S1;refine spec_of_awp2 TT_ok (N:=145) Tryz.func30 rfl (by rfl) (Nat.le_refl _) rfl ?_;refine rz [1,2,3,6] ?_;refine awp_seq ?_;refine rgs fun E K J O=>?_;refine aS [] hck ?_;refine O _ (aN [1,2,3,6,8] rfl rfl ?_);clear O J K E;refine rz [1,2,3,6,8,25] ?_;refine awp_cond rfl ?_;refine awp_skip ?_;refine awp_seq ?_;refine rgs fun E K J O=>?_;refine onB_intro (fun h1=>?_) (fun h1=>?_)
 ·exact absurd (of_decide_eq_true h1) (by rw [nums_l];omega)
 refine onB_intro (fun h2=>?_) (fun h2=>?_)
 ·exact absurd (of_decide_eq_true h2) (by omega)
 refine O _ (aN [1,2,3,6,38] rfl rfl ?_);clear O J K E;refine awp_cond2 rfl (onB_intro (fun h3=>?_) (fun h3=>?_))
 ·exact absurd (of_decide_eq_true h3) (by omega)
 refine awp_skip ?_;refine awp_seq ?_;refine rz [1,2,3,6,41,42,43] ?_;refine awp_block ?_;refine awp_loop (fun k Y=>∃(d1 e1:List Int),k=e1.length∧inp=d1++e1∧(∀n,n∈e1→farM n=false)∧Y=⟨[(1,.d (.sl 1 (numsD inp))),(2,.d (num F)),(3,.box 0 0),(6,.box 1 0),(41,.d (.sl 1 (numsD inp))),(42,.d (num (numsD inp).length)),(43,.d (num d1.length))],[.box 28 [.d (.sl 1 (strs vars)),.d (.sl 2 (ars arrays)),.d (.sl 7 (pcs procs)),.d (.sl 7 (sms main))],.box 76 [.d (str ⟨#[]⟩),.d (num 0),.d (.s (.slice none 0 0)),.d (.s (.slice none 0 0))]]⟩) (inp.length) (⟨[],inp,rfl,rfl,hcond,rfl⟩) ?_;rintro k Y ⟨d1,e1,rfl,hl1,hc1,rfl⟩
 have hll1:(numsD inp).length=d1.length+e1.length:=by rw [nums_l,hl1,List.length_append]
 have hdl1:d1.length+e1.length≤1073741824:=by rw [hl1,List.length_append] at hlen;omega
 refine rz [1,2,3,6,41,42,43,44] ?_;refine awp_seq ?_;refine awp_cond2 rfl (onB_intro (fun h4=>?_) (fun h4=>?_))
 ·have h4':=of_decide_eq_true h4
  rw [hll1] at h4'
  cases e1 with
  |nil=>simp only [List.length_nil] at h4';omega
  |cons x e1b=>
  subst hl1;simp only [List.length_cons] at hdl1;refine awp_skip ?_;refine awp_seq ?_;refine awp_block ?_;refine rgs fun E K J O=>?_;refine And.intro (by omega) (Exists.intro _ (And.intro (ints_at rfl) ?_));refine O _ (aN [1,2,3,6,10,41,42,43] rfl rfl ?_);clear O J K E;refine rgs fun E K J O=>?_;refine aS [] (far_spec _ x) ?_;refine O _ (aN [1,2,3,6,41,42,43,48] rfl rfl ?_);clear O J K E;refine awp_cond2 rfl (onB_intro (fun h5=>?_) (fun h5=>?_))
  ·rw [hc1 x (List.mem_cons_self ..)] at h5
   cases h5
  have hc2:∀n,n∈e1b→farM n=false:=fun n hn=>hc1 n (List.mem_cons_of_mem _ hn);refine awp_skip ?_;refine rgn fun E K J O=>?_;refine O _ ?_;clear O J K E;exact ⟨_,Nat.lt_succ_self _,_,sub_pick (L:=[0,1]) (slots:=[1,2,3,6,41,42,43]) rfl rfl rfl rfl rfl,d1++[x],e1b,rfl,by simp,hc2,by rw [List.length_append,wrapId (by omega) (by omega)];rfl⟩
 have h4':=of_decide_eq_false h4;rw [hll1] at h4';obtain rfl:e1=[]:=List.eq_nil_of_length_eq_zero (by omega);refine awp_exit ?_;refine awp_norm [1,2,3,6] rfl rfl ?_;refine rz [3,6,11] ?_;refine awp_seq ?_;refine rz [3,6,11,61,62,63] ?_;refine awp_block ?_;refine awp_loop (fun k Y=>∃(d2 e2:List Pc),k=e2.length∧procs=d2++e2∧Y=⟨[(3,.box 0 0),(6,.box 1 0),(11,.box 5 0),(61,.d (.sl 7 (pcs procs))),(62,.d (num (pcs procs).length)),(63,.d (num d2.length))],[.box 28 [.d (.sl 1 (strs vars)),.d (.sl 2 (ars arrays)),.d (.sl 7 (pcs procs)),.d (.sl 7 (sms main))],.box 76 [.d (str ⟨#[]⟩),.d (num 0),.d (.s (.slice none 0 0)),.d (.s (.slice none 0 0))],.map 185 [],.amap 186 false [],.map 189 (prL d2),.box 191 [.acc 2,.am 3 0,.acc 4,.d (.sl 1 (numsD inp)),.d (num F),.d (num 0)]]⟩) (procs.length) (⟨[],procs,rfl,rfl,rfl⟩) ?_;rintro k Y ⟨d2,e2,rfl,hl2,rfl⟩
 have hll2:(pcs procs).length=d2.length+e2.length:=by rw [pcs_length,hl2,List.length_append]
 have hdl2:d2.length+e2.length≤1073741824:=by rw [hl2,List.length_append] at hnp;exact hnp
 refine rz [3,6,11,61,62,63,64] ?_;refine awp_seq ?_;refine awp_cond2 rfl (onB_intro (fun h5=>?_) (fun h5=>?_))
 ·have h5':=of_decide_eq_true h5
  rw [hll2] at h5'
  cases e2 with
  |nil=>simp only [List.length_nil] at h5';omega
  |cons x e2b=>
  obtain ⟨fnm,fp,fb,⟨ro,rn,rm,rl⟩⟩:=x;subst hl2;simp only [List.length_cons] at hdl2;refine awp_skip ?_;refine awp_seq ?_;refine awp_block ?_;refine rgs fun E K J O=>?_;refine And.intro (by omega) (Exists.intro _ (And.intro (pcs_at rfl) ?_));refine O _ (aN [3,6,11,13,61,62,63] rfl rfl ?_);clear O J K E;refine (awp_draw TT_ok mixed p30_16 [7] (fun i=>Nat.beq i 5||Nat.beq i 6) (by kernel_rfl) fun E K J O=>?_);refine Exists.intro _ (And.intro (prL_snoc hnP) ?_);refine O _ (aN [3,6,11,61,62,63] rfl rfl ?_);clear O J K E;refine rgn fun E K J O=>?_;refine O _ ?_;clear O J K E;exact ⟨_,Nat.lt_succ_self _,_,sub_pick (L:=[0,1,2,3,4,5]) (slots:=[3,6,11,61,62,63]) rfl rfl rfl rfl rfl,d2++[⟨fnm,fp,fb,.mk ro rn rm rl⟩],e2b,rfl,by simp,by rw [List.length_append,wrapId (by omega) (by omega)];rfl⟩
 have h5':=of_decide_eq_false h5;rw [hll2] at h5';obtain rfl:e2=[]:=List.eq_nil_of_length_eq_zero (by omega);rw [List.append_nil] at hl2;subst hl2;refine awp_exit ?_;refine awp_norm [3,6,11] rfl rfl ?_;refine awp_seq ?_;refine rz [3,6,11,76,77,78] ?_;refine awp_block ?_;refine awp_loop (fun k Y=>∃(d3 e3:List Ar),k=e3.length∧arrays=d3++e3∧Y=⟨[(3,.box 0 0),(6,.box 1 0),(11,.box 5 0),(76,.d (.sl 2 (ars arrays))),(77,.d (num (ars arrays).length)),(78,.d (num d3.length))],[.box 28 [.d (.sl 1 (strs vars)),.d (.sl 2 (ars arrays)),.d (.sl 7 (pcs procs)),.d (.sl 7 (sms main))],.box 76 [.d (str ⟨#[]⟩),.d (num 0),.d (.s (.slice none 0 0)),.d (.s (.slice none 0 0))],.map 185 [],.amap 186 false (arZ d3),.map 189 (prL procs),.box 191 [.acc 2,.am 3 0,.acc 4,.d (.sl 1 (numsD inp)),.d (num F),.d (num 0)]]⟩) (arrays.length) (⟨[],arrays,rfl,rfl,rfl⟩) ?_;rintro k Y ⟨d3,e3,rfl,hl3,rfl⟩
 have hll3:(ars arrays).length=d3.length+e3.length:=by rw [ars_length,hl3,List.length_append]
 have hdl3:d3.length+e3.length≤1073741824:=by rw [hl3,List.length_append] at hna;exact hna
 refine rz [3,6,11,76,77,78,79] ?_;refine awp_seq ?_;refine awp_cond2 rfl (onB_intro (fun h6=>?_) (fun h6=>?_))
 ·have h6':=of_decide_eq_true h6
  rw [hll3] at h6'
  cases e3 with
  |nil=>simp only [List.length_nil] at h6';omega
  |cons x e3b=>
  obtain ⟨nm,sz⟩:=x;subst hl3;simp only [List.length_cons] at hdl3;have hsz:=hsz0 _ (List.mem_append_right _ (List.mem_cons_self ..));simp only at hsz;refine awp_skip ?_;refine awp_seq ?_;refine awp_block ?_;refine rgs fun E K J O=>?_;refine And.intro (by omega) (Exists.intro _ (And.intro (ars_at rfl) ?_));refine O _ (aN [3,6,11,15,76,77,78] rfl rfl ?_);clear O J K E;refine awp_insD TT_ok mixed p30_21 [10] (fun i=>Nat.beq i 5||Nat.beq i 6) 10 [3,6,11,76,77,78] (by kernel_rfl) rfl rfl rfl rfl fun E K J O=>?_;refine And.intro rfl (Exists.intro sz.toNat (And.intro (Int.toNat_of_nonneg (show (0:Int)≤sz by omega)).symm (And.intro (by show 8 * sz.toNat≤_;omega) (And.intro (by show sz.toNat≤9223372036854775807;omega) ?_))));refine O _ ⟨_,_,_,3,7,_,_,_,_,_,_,rfl,rfl,rfl,rfl,rfl,rfl,rfl,rfl,rfl,by decide,Nat.zero_le _,arZ_new hnA,rfl,rfl,rfl,?_⟩;clear O J K E;refine awp_norm [3,6,11,76,77,78] rfl rfl ?_;refine rgn fun E K J O=>?_;refine O _ ?_;clear O J K E;exact ⟨_,Nat.lt_succ_self _,_,sub_pick (L:=[0,1,2,3,4,5]) (slots:=[3,6,11,76,77,78]) rfl rfl rfl rfl rfl,d3++[⟨nm,sz⟩],e3b,rfl,by simp,by rw [← arZ_snoc,List.length_append,wrapId (by omega) (by omega)];rfl⟩
 have h6':=of_decide_eq_false h6;rw [hll3] at h6';obtain rfl:e3=[]:=List.eq_nil_of_length_eq_zero (by omega);rw [List.append_nil] at hl3;subst hl3;refine awp_exit ?_;refine awp_norm [3,6,11] rfl rfl ?_;refine rgs fun E K J O=>?_;refine aS [5,2,3,4] hall ?_;refine O _ (aN [3,6,11,16] rfl rfl ?_);clear O J K E;refine rz [3,6,11,17] ?_;refine awp_fz 3 rfl ?_;refine awp_accCell 6 2 3 1 rfl rfl rfl rfl ?_;refine awp_accCell 6 3 56 1 rfl rfl rfl rfl ?_;refine awp_norm [3,6,11,17] rfl rfl ?_;refine awp_seq ?_;refine rz [3,6,11,17,104,105,106] ?_;refine awp_block ?_;refine awp_loop (fun k Y=>∃(d4 e4:List ByteArray),k=e4.length∧vars=d4++e4∧Y=⟨[(3,.box 0 0),(6,.box 1 0),(11,.box 5 0),(17,.box 6 0),(104,.d (.sl 1 (strs vars))),(105,.d (num (strs vars).length)),(106,.d (num d4.length))],[.box 28 [.d (.sl 1 (strs vars)),.d (.sl 2 (ars arrays)),.d (.sl 7 (pcs procs)),.d (.sl 7 (sms main))],.box 76 [.d (str ⟨#[]⟩),.d (num 0),.d (.s (.slice none 0 0)),.d (.s (.slice none 0 0))],.map 185 (vsL vs1),.amap 186 true ar1,.map 189 (prL procs),.box 191 [.acc 2,.am 3 0,.acc 4,.d (.sl 1 (numsD inp1)),.d (num F),.d (num st1)],.box 76 [.d (str kd),.d (num st1),.acc 7,.acc 8],.acc 3 1 (numsD (d4.map (getV vs1))),.acc 56 1 []]⟩) (vars.length) (⟨[],vars,rfl,rfl,rfl⟩) ?_;rintro k Y ⟨d4,e4,rfl,hl4,rfl⟩
 have hll4:(strs vars).length=d4.length+e4.length:=by rw [strs_length,hl4,List.length_append]
 have hdl4:d4.length+e4.length≤1073741824:=by rw [hl4,List.length_append] at hnv;exact hnv
 refine rz [3,6,11,17,104,105,106,107] ?_;refine awp_seq ?_;refine awp_cond2 rfl (onB_intro (fun h7=>?_) (fun h7=>?_))
 ·have h7':=of_decide_eq_true h7
  rw [hll4] at h7'
  cases e4 with
  |nil=>simp only [List.length_nil] at h7';omega
  |cons v e4b=>
  subst hl4;simp only [List.length_cons] at hdl4;refine awp_skip ?_;refine awp_seq ?_;refine awp_block ?_;refine rgs fun E K J O=>?_;refine And.intro (by omega) (Exists.intro _ (And.intro (str_at rfl) ?_));refine O _ (aN [3,6,11,17,19,104,105,106] rfl rfl ?_);clear O J K E;refine (awp_draw TT_ok mixed p30_28 [10,12] (fun i=>Nat.beq i 2||Nat.beq i 5||Nat.beq i 6) (by kernel_rfl) fun E K J O=>?_);refine lk_vs (T:=TT) (e:=3) rfl ?_;refine And.intro (And.intro ((by simp only [nums_l,chunk_length,List.length_map];omega)) ((by simp only [nums_l,chunk_length,List.length_map,maxLen];omega))) ?_;refine O _ (aN [3,6,11,17,104,105,106] rfl rfl ?_);clear O J K E;refine rgn fun E K J O=>?_;refine O _ ?_;clear O J K E;exact ⟨_,Nat.lt_succ_self _,_,sub_pick (L:=[0,1,2,3,4,5,6,7,8]) (slots:=[3,6,11,17,104,105,106]) rfl rfl rfl rfl rfl,d4++[v],e4b,rfl,by simp,by rw [← numsM_snoc,List.length_append,wrapId (by omega) (by omega)];rfl⟩
 have h7':=of_decide_eq_false h7;rw [hll4] at h7';obtain rfl:e4=[]:=List.eq_nil_of_length_eq_zero (by omega);rw [List.append_nil] at hl4;subst hl4;refine awp_exit ?_;refine awp_norm [3,6,11,17] rfl rfl ?_;refine awp_seq ?_;refine rz [6,11,17,124,125,126] ?_;refine awp_block ?_;refine awp_loop (fun k Y=>∃(d5 e5:List Ar),k=e5.length∧arrays=d5++e5∧Y=⟨[(6,.box 1 0),(11,.box 5 0),(17,.box 6 0),(124,.d (.sl 2 (ars arrays))),(125,.d (num (ars arrays).length)),(126,.d (num d5.length))],[.box 28 [.d (.sl 1 (strs vars)),.d (.sl 2 (ars arrays)),.d (.sl 7 (pcs procs)),.d (.sl 7 (sms main))],.box 76 [.d (str ⟨#[]⟩),.d (num 0),.d (.s (.slice none 0 0)),.d (.s (.slice none 0 0))],.map 185 (vsL vs1),.amap 186 true ar1,.map 189 (prL procs),.box 191 [.acc 2,.am 3 0,.acc 4,.d (.sl 1 (numsD inp1)),.d (num F),.d (num st1)],.box 76 [.d (str kd),.d (num st1),.acc 7,.acc 8],.acc 3 1 (numsD (vars.map (getV vs1))),.acc 56 1 (arrL ar1 d5)]⟩) (arrays.length) (⟨[],arrays,rfl,rfl,rfl⟩) ?_;rintro k Y ⟨d5,e5,rfl,hl5,rfl⟩
 have hll5:(ars arrays).length=d5.length+e5.length:=by rw [ars_length,hl5,List.length_append]
 have hdl5:d5.length+e5.length≤1073741824:=by rw [hl5,List.length_append] at hna;exact hna
 refine rz [6,11,17,124,125,126,127] ?_;refine awp_seq ?_;refine awp_cond2 rfl (onB_intro (fun h8=>?_) (fun h8=>?_))
 ·have h8':=of_decide_eq_true h8
  rw [hll5] at h8'
  cases e5 with
  |nil=>simp only [List.length_nil] at h8';omega
  |cons x e5b=>
  obtain ⟨nm,sz⟩:=x;subst hl5;simp only [List.length_cons] at hdl5;obtain ⟨j,hgj⟩:=key_get (hkeys nm (by simp [arN]));refine awp_skip ?_;refine awp_seq ?_;refine awp_block ?_;refine rgs fun E K J O=>?_;refine And.intro (by omega) (Exists.intro _ (And.intro (ars_at rfl) ?_));refine O _ (aN [6,11,17,21,124,125,126] rfl rfl ?_);clear O J K E;refine (awp_draw TT_ok mixed p30_33 [11,13] (fun i=>Nat.beq i 3||Nat.beq i 5||Nat.beq i 6||Nat.beq i 9) (by kernel_rfl) fun E K J O=>?_);refine Exists.intro _ (And.intro hgj ?_);refine And.intro (And.intro ((by simp only [arrL_l,chunk_length];omega)) ((by simp only [arrL_l,chunk_length,maxLen];omega))) ?_;refine O _ (aN [6,11,17,124,125,126] rfl rfl ?_);clear O J K E;refine rgn fun E K J O=>?_;refine O _ ?_;clear O J K E;exact ⟨_,Nat.lt_succ_self _,_,sub_pick (L:=[0,1,2,3,4,5,6,7,8]) (slots:=[6,11,17,124,125,126]) rfl rfl rfl rfl rfl,d5++[⟨nm,sz⟩],e5b,rfl,by simp,by rw [← arrL_snoc,List.length_append,wrapId (by omega) (by omega)];rfl⟩
 have h8':=of_decide_eq_false h8;rw [hll5] at h8';obtain rfl:e5=[]:=List.eq_nil_of_length_eq_zero (by omega);rw [List.append_nil] at hl5;subst hl5;refine awp_exit ?_;refine awp_norm [6,17] rfl rfl ?_;refine rz [6,7] ?_;refine awp_ret ?_;exact ⟨_,[],_,[.d (.agg (endD kd ⟨vs1,ar1,inp1,st1⟩ vars arrays)),.d (.s .nilIface)],rfl,rfl,rfl,rfl,rfl,PWs.refl _,rfl⟩
end
end Go.Abs
end
section
namespace Go.Abs
open Go Go.Proofs
attribute [local irreducible] aCall AWp Sub Spec
/-- Lists of numbers. -/
def lsD(ls:List (List Int)):List (List Data):=ls.map fun l=>[.sl 1 (numsD l)]
theorem lsD_l(ls:List (List Int)):(lsD ls).length=ls.length:=by simp [lsD]
theorem lsD_at{l d e:List (List Int)}{x:List Int}(h:l=d++x::e):(lsD l)[((d.length:Nat):Int).toNat]? = some [.sl 1 (numsD x)]:=by
 subst h;rw [Int.toNat_natCast]
 simp [lsD]
theorem arr_ls(ar:List (ByteArray×List Int))(l:List Ar):arrL ar l=lsD (l.map fun a=>getA ar a.name):=by simp [arrL,lsD]
section
variable (G:Glob)
def p28_6:Plan:=(.take 0 (.take 1 (.take 2 (.load 3 (.take 4 (.take 5 (.take 6 (.load 7 (.take 8 .done)))))))))
theorem sameI(l:List Int)(hb:l.length≤1073741824):Spec Tryz.prog G 28 [.d (.sl 1 (numsD l)),.d (.sl 1 (numsD l))] [] (.ret (.d (.s (.bool true)))) []:=by
 refine spec_of_awp2 TT_ok (N:=26) Tryz.func28 rfl (by rfl) (Nat.le_refl _) rfl ?_;refine rz [0,1] ?_;refine awp_seq ?_;refine rz [0,1,10] ?_;refine awp_cond2 rfl (onB_intro (fun h1=>?_) (fun h1=>?_))
 ·simp at h1
 refine awp_skip ?_;refine awp_seq ?_;refine rz [0,1,5] ?_;refine awp_block ?_;refine awp_loop (fun k Y=>∃(d1 e1:List Int),k=e1.length∧l=d1++e1∧Y=⟨[(0,.d (.sl 1 (numsD l))),(1,.d (.sl 1 (numsD l))),(5,.d (num d1.length))],[]⟩) (l.length) (⟨[],l,rfl,rfl,rfl⟩) ?_;rintro k Y ⟨d1,e1,rfl,hl1,rfl⟩
 have hll1:(numsD l).length=d1.length+e1.length:=by rw [nums_l,hl1,List.length_append]
 have hdl1:d1.length+e1.length≤1073741824:=by rw [hl1,List.length_append] at hb;exact hb
 refine awp_seq ?_;refine rz [0,1,5,14] ?_;refine awp_cond2 rfl (onB_intro (fun h2=>?_) (fun h2=>?_))
 ·have h2':=of_decide_eq_true h2
  rw [hll1] at h2'
  cases e1 with
  |nil=>simp only [List.length_nil] at h2';omega
  |cons x e1b=>
  subst hl1;simp only [List.length_cons] at hdl1;refine awp_skip ?_;refine awp_seq ?_;refine awp_block ?_;refine awp_seq ?_;refine (awp_draw TT_ok mixed p28_6 [] (fun _=>true) (by kernel_rfl) fun E K J O=>?_);refine And.intro (by omega) (Exists.intro _ (And.intro (ints_at rfl) ?_));refine And.intro (by omega) (Exists.intro _ (And.intro (ints_at rfl) ?_));refine O _ (aN [0,1,5,25] rfl rfl ?_);clear O J K E;refine awp_cond2 rfl (onB_intro (fun h3=>?_) (fun h3=>?_))
  ·simp at h3
  refine awp_skip ?_;refine rgn fun E K J O=>?_;refine O _ ?_;clear O J K E;exact ⟨_,Nat.lt_succ_self _,_,sub_norm (slots:=[0,1,5]) rfl rfl,d1++[x],e1b,rfl,by simp,by rw [List.length_append,wrapId (by omega) (by omega)];rfl⟩
 have h2':=of_decide_eq_false h2;rw [hll1] at h2';obtain rfl:e1=[]:=List.eq_nil_of_length_eq_zero (by omega);rw [List.append_nil] at hl1;subst hl1;refine awp_exit ?_;refine awp_norm [] rfl rfl ?_;refine rz [4] ?_;refine awp_ret ?_;exact ⟨_,[],_,[.d (.s (.bool true))],rfl,rfl,rfl,rfl,rfl,PWs.refl _,rfl⟩
def p48_6:Plan:=(.take 0 (.take 1 (.take 2 (.load 3 (.take 4 (.take 5 (.take 6 (.load 7 (.one 8 (.take 9 .done))))))))))
theorem sameL(l:List (List Int))(hb:l.length≤1073741824)(hl16:∀x,x∈l→x.length≤16):Spec Tryz.prog G 48 [.d (.sl 1 (lsD l)),.d (.sl 1 (lsD l))] [] (.ret (.d (.s (.bool true)))) []:=by
 refine spec_of_awp2 TT_ok (N:=29) Tryz.func48 rfl (by rfl) (Nat.le_refl _) rfl ?_;refine rz [0,1] ?_;refine awp_seq ?_;refine rz [0,1,11] ?_;refine awp_cond2 rfl (onB_intro (fun h1=>?_) (fun h1=>?_))
 ·simp at h1
 refine awp_skip ?_;refine awp_seq ?_;refine rz [0,1,5] ?_;refine awp_block ?_;refine awp_loop (fun k Y=>∃(d1 e1:List (List Int)),k=e1.length∧l=d1++e1∧Y=⟨[(0,.d (.sl 1 (lsD l))),(1,.d (.sl 1 (lsD l))),(5,.d (num d1.length))],[]⟩) (l.length) (⟨[],l,rfl,rfl,rfl⟩) ?_;rintro k Y ⟨d1,e1,rfl,hl1,rfl⟩
 have hll1:(lsD l).length=d1.length+e1.length:=by rw [lsD_l,hl1,List.length_append]
 have hdl1:d1.length+e1.length≤1073741824:=by rw [hl1,List.length_append] at hb;exact hb
 refine awp_seq ?_;refine rz [0,1,5,15] ?_;refine awp_cond2 rfl (onB_intro (fun h2=>?_) (fun h2=>?_))
 ·have h2':=of_decide_eq_true h2
  rw [hll1] at h2'
  cases e1 with
  |nil=>simp only [List.length_nil] at h2';omega
  |cons x e1b=>
  subst hl1;simp only [List.length_cons] at hdl1;have hx:=hl16 x (by simp);refine awp_skip ?_;refine awp_seq ?_;refine awp_block ?_;refine awp_seq ?_;refine (awp_draw TT_ok mixed p48_6 [8] (fun _=>true) (by kernel_rfl) fun E K J O=>?_);refine And.intro (by omega) (Exists.intro _ (And.intro (lsD_at rfl) ?_));refine And.intro (by omega) (Exists.intro _ (And.intro (lsD_at rfl) ?_));refine aS [] (sameI G x (by omega)) ?_;refine O _ (aN [0,1,5,6] rfl rfl ?_);clear O J K E;refine rz [0,1,5,28] ?_;refine awp_cond rfl ?_;refine awp_skip ?_;refine rgn fun E K J O=>?_;refine O _ ?_;clear O J K E;exact ⟨_,Nat.lt_succ_self _,_,sub_norm (slots:=[0,1,5]) rfl rfl,d1++[x],e1b,rfl,by simp,by rw [List.length_append,wrapId (by omega) (by omega)];rfl⟩
 have h2':=of_decide_eq_false h2;rw [hll1] at h2';obtain rfl:e1=[]:=List.eq_nil_of_length_eq_zero (by omega);rw [List.append_nil] at hl1;subst hl1;refine awp_exit ?_;refine awp_norm [] rfl rfl ?_;refine rz [4] ?_;refine awp_ret ?_;exact ⟨_,[],_,[.d (.s (.bool true))],rfl,rfl,rfl,rfl,rfl,PWs.refl _,rfl⟩
theorem intsM(l:List Int)(hl:l.length≤1000000000):Spec Tryz.prog G 31 [.d (.sl 1 (numsD l))] [] (.ret (.d (.sl 1 (numsD l)))) []:=by
 refine spec_of_awp2 TT_ok (N:=7) Tryz.func31 rfl (by rfl) (Nat.le_refl _) rfl ?_;refine rz [0] ?_;refine rz [0,3] ?_;refine rgs fun E K J O=>?_;refine And.intro (And.intro ((by simp only [nums_l];omega)) ((by simp only [nums_l,maxLen];omega))) ?_;refine O _ (aN [2] rfl rfl ?_);clear O J K E;refine awp_ret ?_;exact ⟨_,[],_,[.d (.sl 1 (numsD l))],rfl,rfl,rfl,rfl,rfl,PWs.refl _,rfl⟩
end
section
variable {t:Nat→TypeId}{u:Nat→Value}
end
end Go.Abs
end
section
namespace Go.Abs
open Go Go.Proofs
attribute [local irreducible] aCall AWp Sub Spec
section
variable {t:Nat→TypeId}{u:Nat→Value}
theorem two_out(p:Pg)(inp:List Int)(hlen:40<inp.length):Spec Tryz.prog (GV t u) 13 [.d (.agg p.cs),.d (.sl 1 (numsD inp))] [] (.ret (.d (.s (.bool true)))) []:=by
 refine spec_of_awp2 TT_ok (N:=115) Tryz.func13 rfl (by rfl) (Nat.le_refl _) rfl ?_;refine rz [1,2] ?_;refine rgs fun E K J O=>?_;refine aS [] (one_true t u) ?_;refine O _ (aN [1,2,5] rfl rfl ?_);clear O J K E;refine awp_seq ?_;refine rz [1,2,5,20] ?_;refine awp_cond2 rfl (onB_intro (fun h1=>?_) (fun h1=>?_))
 ·refine rz [4] ?_;refine awp_ret ?_
  exact ⟨_,[],_,[.d (.s (.bool true))],rfl,rfl,rfl,rfl,rfl,PWs.refl _,rfl⟩
 exact absurd (of_decide_eq_false h1) (by rw [nums_l];omega)
theorem two_err(p:Pg)(hw:wtPg p≤1000000000)(inp:List Int)(hlen:inp.length≤40)(j:Nat)(s1:Spec Tryz.prog (GV t u) 36 [.d (.agg p.cs)] [] (.ret (.tup [.d (.agg (Pg.cs ⟨[],[],[],[]⟩)),.d (.s (.iface (t j) (u j)))])) []):Spec Tryz.prog (GV t u) 13 [.d (.agg p.cs),.d (.sl 1 (numsD inp))] [] (.ret (.d (.s (.bool true)))) []:=by
 refine spec_of_awp2 TT_ok (N:=115) Tryz.func13 rfl (by rfl) (Nat.le_refl _) rfl ?_;refine rz [1,2] ?_;refine rgs fun E K J O=>?_;refine aS [] (one_true t u) ?_;refine O _ (aN [1,2,5] rfl rfl ?_);clear O J K E;refine awp_seq ?_;refine rz [1,2,5,20] ?_;refine awp_cond2 rfl (onB_intro (fun h1=>?_) (fun h1=>?_))
 ·exact absurd (of_decide_eq_true h1) (by rw [nums_l];omega)
 refine awp_skip ?_;refine rgs fun E K J O=>?_;refine aS [] (programOf_spec _ p hw) ?_;refine aS [] s1 ?_;refine O _ (aN [1,2,6,7] rfl rfl ?_);clear O J K E;refine awp_seq ?_;refine rz [1,2,6,29] ?_;refine awp_cond rfl ?_;refine rz [4] ?_;refine awp_ret ?_;exact ⟨_,[],_,[.d (.s (.bool true))],rfl,rfl,rfl,rfl,rfl,PWs.refl _,rfl⟩
theorem two_shape(p:Pg)(hw:wtPg p≤1000000000)(inp:List Int)(hlen:inp.length≤40)(qv:List ByteArray)(qa:List Ar)(qm:List Sm)(s1:Spec Tryz.prog (GV t u) 36 [.d (.agg p.cs)] [] (.ret (.tup [.d (.agg (Pg.cs ⟨qv,qa,[],qm⟩)),.d (.s .nilIface)])) [])(s2:Spec Tryz.prog (GV t u) 36 [.d (.agg (Pg.mk qv qa [] qm).cs)] [] (.ret (.tup [.d (.agg (Pg.cs ⟨[],[],[],[]⟩)),.d (.s (.iface (t 1) (u 1)))])) [])(sc:Spec Tryz.prog (GV t u) 25 [.d (.s (.iface (t 1) (u 1))),.d (num 3)] [] (.ret (.d (.s (.bool true)))) []):Spec Tryz.prog (GV t u) 13 [.d (.agg p.cs),.d (.sl 1 (numsD inp))] [] (.ret (.d (.s (.bool true)))) []:=by
 refine spec_of_awp2 TT_ok (N:=115) Tryz.func13 rfl (by rfl) (Nat.le_refl _) rfl ?_;refine rz [1,2] ?_;refine rgs fun E K J O=>?_;refine aS [] (one_true t u) ?_;refine O _ (aN [1,2,5] rfl rfl ?_);clear O J K E;refine awp_seq ?_;refine rz [1,2,5,20] ?_;refine awp_cond2 rfl (onB_intro (fun h1=>?_) (fun h1=>?_))
 ·exact absurd (of_decide_eq_true h1) (by rw [nums_l];omega)
 refine awp_skip ?_;refine rgs fun E K J O=>?_;refine aS [] (programOf_spec _ p hw) ?_;refine aS [] s1 ?_;refine O _ (aN [1,2,6,7] rfl rfl ?_);clear O J K E;refine awp_seq ?_;refine rz [1,2,6,29] ?_;refine awp_cond rfl ?_;refine awp_skip ?_;refine awp_seq ?_;refine rz [1,2,6,33] ?_;refine awp_cond rfl ?_;refine awp_skip ?_;refine rgs fun E K J O=>?_;refine aS [] s2 ?_;refine O _ (aN [1,2,6,7,8] rfl rfl ?_);clear O J K E;refine awp_seq ?_;refine rz [1,2,6,7,8,40] ?_;refine awp_cond rfl ?_;refine rgs fun E K J O=>?_;refine aS [] sc ?_;refine O _ (aN [4] rfl rfl ?_);clear O J K E;refine awp_ret ?_;exact ⟨_,[],_,[.d (.s (.bool true))],rfl,rfl,rfl,rfl,rfl,PWs.refl _,rfl⟩
def p13_12:Plan:=(.load 0 (.load 2 (.one 1 (.one 3 (.one 4 (.take 5 .done))))))
def p13_15:Plan:=(.load 0 (.take 1 (.alt 2 (.alt 3 (.take 4 (.take 5 (.take 6 (.one 7 (.one 8 (.take 9 .done)))))) (.alt 7 (.one 3 (.take 4 (.take 5 (.take 6 (.one 8 (.take 9 .done)))))) .done)) (.alt 7 (.one 2 (.one 3 (.take 4 (.take 5 (.take 6 (.one 8 (.take 9 .done))))))) .done))))
def p13_17:Plan:=(.take 0 (.take 1 (.take 2 (.take 3 (.take 4 (.take 5 .done))))))
theorem two_far(p:Pg)(hw:wtPg p≤1000000000)(inp:List Int)(hlen:inp.length≤40)(qv:List ByteArray)(qa:List Ar)(qm:List Sm)(s1:Spec Tryz.prog (GV t u) 36 [.d (.agg p.cs)] [] (.ret (.tup [.d (.agg (Pg.cs ⟨qv,qa,[],qm⟩)),.d (.s .nilIface)])) [])(s2:Spec Tryz.prog (GV t u) 36 [.d (.agg (Pg.mk qv qa [] qm).cs)] [] (.ret (.tup [.d (.agg (Pg.cs ⟨qv,qa,[],qm⟩)),.d (.s .nilIface)])) [])(sb:Spec Tryz.prog (GV t u) 21 [.d (.agg (Pg.cs ⟨qv,qa,[],qm⟩))] [] (.ret (.d (.agg (Pg.cs ⟨qv,qa,[],qm⟩)))) [])(ss:Spec Tryz.prog (GV t u) 20 [.d (.agg (Pg.cs ⟨qv,qa,[],qm⟩)),.d (.agg (Pg.cs ⟨qv,qa,[],qm⟩))] [] (.ret (.d (.s (.bool true)))) [])(j i:Nat)(r1:Spec Tryz.prog (GV t u) 30 [.d (.agg p.cs),.d (.sl 1 (numsD inp)),.d (num 2000)] [] (.ret (.tup [.d (.agg zEnd),.d (.s (.iface (t j) (u j)))])) [])(r2:Spec Tryz.prog (GV t u) 30 [.d (.agg (Pg.cs ⟨qv,qa,[],qm⟩)),.d (.sl 1 (numsD inp)),.d (num 4000)] [] (.ret (.tup [.d (.agg zEnd),.d (.s (.iface (t i) (u i)))])) []):Spec Tryz.prog (GV t u) 13 [.d (.agg p.cs),.d (.sl 1 (numsD inp))] [] (.ret (.d (.s (.bool true)))) []:=by
 refine spec_of_awp2 TT_ok (N:=115) Tryz.func13 rfl (by rfl) (Nat.le_refl _) rfl ?_;refine rz [1,2] ?_;refine rgs fun E K J O=>?_;refine aS [] (one_true t u) ?_;refine O _ (aN [1,2,5] rfl rfl ?_);clear O J K E;refine awp_seq ?_;refine rz [1,2,5,20] ?_;refine awp_cond2 rfl (onB_intro (fun h1=>?_) (fun h1=>?_))
 ·exact absurd (of_decide_eq_true h1) (by rw [nums_l];omega)
 refine awp_skip ?_;refine rgs fun E K J O=>?_;refine aS [] (programOf_spec _ p hw) ?_;refine aS [] s1 ?_;refine O _ (aN [1,2,6,7] rfl rfl ?_);clear O J K E;refine awp_seq ?_;refine rz [1,2,6,29] ?_;refine awp_cond rfl ?_;refine awp_skip ?_;refine awp_seq ?_;refine rz [1,2,6,33] ?_;refine awp_cond rfl ?_;refine awp_skip ?_;refine rgs fun E K J O=>?_;refine aS [] s2 ?_;refine O _ (aN [1,2,6,7,8] rfl rfl ?_);clear O J K E;refine awp_seq ?_;refine rz [1,2,6,7,8,40] ?_;refine awp_cond rfl ?_;refine awp_skip ?_;refine awp_seq ?_;refine awp_seq ?_;refine (awp_draw TT_ok mixed p13_12 [3,4] (fun i=>Nat.beq i 1||Nat.beq i 2) (by kernel_rfl) fun E K J O=>?_);refine aS [] sb ?_;refine aS [] sb ?_;refine aS [] ss ?_;refine O _ (aN [1,2,6,48] rfl rfl ?_);clear O J K E;refine awp_cond rfl ?_;refine awp_skip ?_;refine rgs fun E K J O=>?_;refine aS [] (programOf_spec _ p hw) ?_
 show aCall _ _ _ _ _ _ _
 refine aR [] rfl rfl rfl (intsM _ inp (by omega)) rfl rfl rfl rfl ?_;refine aS [] r1 ?_;refine O _ (aN [1,6,9,10] rfl rfl ?_);clear O J K E;refine awp_seq ?_;refine (awp_draw TT_ok mixed p13_15 [3,8] (fun i=>Nat.beq i 1) (by kernel_rfl) fun E K J O=>?_);refine And.intro ?_ ?_
 ·show aCall _ _ _ _ _ _ _
  refine aR [] rfl rfl rfl (intsM _ inp (by omega)) rfl rfl rfl rfl ?_;refine And.intro ?_ ?_
  ·refine aS [] r2 ?_
   refine O _ (aN [9,10,11,12] rfl rfl ?_);clear O J K E;refine awp_seq ?_;refine rz [9,10,11,12,79] ?_;refine awp_cond rfl ?_;refine awp_seq ?_;refine (awp_draw TT_ok mixed p13_17 [] (fun _=>true) (by kernel_rfl) fun E K J O=>?_);refine O _ (aN [4] rfl rfl ?_);clear O J K E;refine awp_ret ?_;exact ⟨_,[],_,[.d (.s (.bool true))],rfl,rfl,rfl,rfl,rfl,PWs.refl _,rfl⟩
  refine And.intro ?_ ?_
  ·refine aS [] r2 ?_
   refine O _ (aN [9,10,11,12] rfl rfl ?_);clear O J K E;refine awp_seq ?_;refine rz [9,10,11,12,79] ?_;refine awp_cond rfl ?_;refine awp_seq ?_;refine (awp_draw TT_ok mixed p13_17 [] (fun _=>true) (by kernel_rfl) fun E K J O=>?_);refine O _ (aN [4] rfl rfl ?_);clear O J K E;refine awp_ret ?_;exact ⟨_,[],_,[.d (.s (.bool true))],rfl,rfl,rfl,rfl,rfl,PWs.refl _,rfl⟩
  trivial
 refine And.intro ?_ ?_
 ·show aCall _ _ _ _ _ _ _
  refine aR [] rfl rfl rfl (intsM _ inp (by omega)) rfl rfl rfl rfl ?_;refine aS [] r2 ?_;refine O _ (aN [9,10,11,12] rfl rfl ?_);clear O J K E;refine awp_seq ?_;refine rz [9,10,11,12,79] ?_;refine awp_cond rfl ?_;refine awp_seq ?_;refine (awp_draw TT_ok mixed p13_17 [] (fun _=>true) (by kernel_rfl) fun E K J O=>?_);refine O _ (aN [4] rfl rfl ?_);clear O J K E;refine awp_ret ?_;exact ⟨_,[],_,[.d (.s (.bool true))],rfl,rfl,rfl,rfl,rfl,PWs.refl _,rfl⟩
 trivial
def p13_20:Plan:=(.take 0 (.load 1 (.take 2 (.load 3 (.take 4 (.load 5 (.take 6 (.take 7 (.one 8 (.take 9 (.take 10 (.take 12 (.alt 11 (.one 13 (.one 14 (.take 15 (.take 16 .done)))) (.alt 13 (.one 11 (.one 14 (.take 15 (.take 16 .done)))) .done))))))))))))))
theorem two_run(p:Pg)(hw:wtPg p≤1000000000)(inp:List Int)(hlen:inp.length≤40)(qv:List ByteArray)(qa:List Ar)(qm:List Sm)(s1:Spec Tryz.prog (GV t u) 36 [.d (.agg p.cs)] [] (.ret (.tup [.d (.agg (Pg.cs ⟨qv,qa,[],qm⟩)),.d (.s .nilIface)])) [])(s2:Spec Tryz.prog (GV t u) 36 [.d (.agg (Pg.mk qv qa [] qm).cs)] [] (.ret (.tup [.d (.agg (Pg.cs ⟨qv,qa,[],qm⟩)),.d (.s .nilIface)])) [])(sb:Spec Tryz.prog (GV t u) 21 [.d (.agg (Pg.cs ⟨qv,qa,[],qm⟩))] [] (.ret (.d (.agg (Pg.cs ⟨qv,qa,[],qm⟩)))) [])(ss:Spec Tryz.prog (GV t u) 20 [.d (.agg (Pg.cs ⟨qv,qa,[],qm⟩)),.d (.agg (Pg.cs ⟨qv,qa,[],qm⟩))] [] (.ret (.d (.s (.bool true)))) [])(k1 k2:ByteArray)(st1 st2:Int)(vl1 vl2:List Int)(ls1 ls2:List (List Int))(r1:Spec Tryz.prog (GV t u) 30 [.d (.agg p.cs),.d (.sl 1 (numsD inp)),.d (num 2000)] [] (.ret (.tup [.d (.agg [str k1,num st1,.sl 1 (numsD vl1),.sl 1 (lsD ls1)]),.d (.s .nilIface)])) [])(r2:Spec Tryz.prog (GV t u) 30 [.d (.agg (Pg.cs ⟨qv,qa,[],qm⟩)),.d (.sl 1 (numsD inp)),.d (num 4000)] [] (.ret (.tup [.d (.agg [str k2,num st2,.sl 1 (numsD vl2),.sl 1 (lsD ls2)]),.d (.s .nilIface)])) [])(zz:(k1.toList==(⟨#[116,105,114,101,100]⟩:ByteArray).toList)=false→(k2.toList==(⟨#[116,105,114,101,100]⟩:ByteArray).toList)=false→∃ve,k2=k1∧vl2=vl1++ve∧ls2=ls1)(hvl:vl1.length≤1073741824)(hls:ls1.length≤1073741824)(hl16:∀x,x∈ls1→x.length≤16):Spec Tryz.prog (GV t u) 13 [.d (.agg p.cs),.d (.sl 1 (numsD inp))] [] (.ret (.d (.s (.bool true)))) []:=by
 refine spec_of_awp2 TT_ok (N:=115) Tryz.func13 rfl (by rfl) (Nat.le_refl _) rfl ?_;refine rz [1,2] ?_;refine rgs fun E K J O=>?_;refine aS [] (one_true t u) ?_;refine O _ (aN [1,2,5] rfl rfl ?_);clear O J K E;refine awp_seq ?_;refine rz [1,2,5,20] ?_;refine awp_cond2 rfl (onB_intro (fun h1=>?_) (fun h1=>?_))
 ·exact absurd (of_decide_eq_true h1) (by rw [nums_l];omega)
 refine awp_skip ?_;refine rgs fun E K J O=>?_;refine aS [] (programOf_spec _ p hw) ?_;refine aS [] s1 ?_;refine O _ (aN [1,2,6,7] rfl rfl ?_);clear O J K E;refine awp_seq ?_;refine rz [1,2,6,29] ?_;refine awp_cond rfl ?_;refine awp_skip ?_;refine awp_seq ?_;refine rz [1,2,6,33] ?_;refine awp_cond rfl ?_;refine awp_skip ?_;refine rgs fun E K J O=>?_;refine aS [] s2 ?_;refine O _ (aN [1,2,6,7,8] rfl rfl ?_);clear O J K E;refine awp_seq ?_;refine rz [1,2,6,7,8,40] ?_;refine awp_cond rfl ?_;refine awp_skip ?_;refine awp_seq ?_;refine awp_seq ?_;refine (awp_draw TT_ok mixed p13_12 [3,4] (fun i=>Nat.beq i 1||Nat.beq i 2) (by kernel_rfl) fun E K J O=>?_);refine aS [] sb ?_;refine aS [] sb ?_;refine aS [] ss ?_;refine O _ (aN [1,2,6,48] rfl rfl ?_);clear O J K E;refine awp_cond rfl ?_;refine awp_skip ?_;refine rgs fun E K J O=>?_;refine aS [] (programOf_spec _ p hw) ?_
 show aCall _ _ _ _ _ _ _
 refine aR [] rfl rfl rfl (intsM _ inp (by omega)) rfl rfl rfl rfl ?_;refine aS [] r1 ?_;refine O _ (aN [1,6,9,10] rfl rfl ?_);clear O J K E;refine awp_seq ?_;refine (awp_draw TT_ok mixed p13_15 [3,8] (fun i=>Nat.beq i 1) (by kernel_rfl) fun E K J O=>?_);refine And.intro ?_ ?_
 ·show aCall _ _ _ _ _ _ _
  refine aR [] rfl rfl rfl (intsM _ inp (by omega)) rfl rfl rfl rfl ?_;refine And.intro ?_ ?_
  ·refine aS [] r2 ?_
   refine O _ (aN [9,10,11,12] rfl rfl ?_);clear O J K E;refine awp_seq ?_;refine rgs fun E K J O=>?_;refine onB_intro (fun h2=>?_) (fun h2=>?_)
   ·refine O _ (aN [9,10,11,12,79] rfl rfl ?_);clear O J K E;refine awp_cond rfl ?_;refine awp_seq ?_
    refine (awp_draw TT_ok mixed p13_17 [] (fun _=>true) (by kernel_rfl) fun E K J O=>?_);refine O _ (aN [4] rfl rfl ?_);clear O J K E;refine awp_ret ?_;exact ⟨_,[],_,[.d (.s (.bool true))],rfl,rfl,rfl,rfl,rfl,PWs.refl _,rfl⟩
   refine O _ (aN [9,10,11,12,79] rfl rfl ?_);clear O J K E;refine awp_cond2 rfl (onB_intro (fun h3=>?_) (fun h3=>?_))
   ·refine awp_seq ?_
    refine (awp_draw TT_ok mixed p13_17 [] (fun _=>true) (by kernel_rfl) fun E K J O=>?_);refine O _ (aN [4] rfl rfl ?_);clear O J K E;refine awp_ret ?_;exact ⟨_,[],_,[.d (.s (.bool true))],rfl,rfl,rfl,rfl,rfl,PWs.refl _,rfl⟩
   obtain ⟨ve,rfl,rfl,rfl⟩:=zz h2 h3
   have hcut:(numsD (vl1++ve)).take (numsD vl1).length=numsD vl1:=by simp [numsD]
   refine awp_skip ?_;refine awp_seq ?_;refine rgs fun E K J O=>?_;refine onB_intro (fun h4=>?_) (fun h4=>?_)
   ·simp at h4
   refine O _ (aN [9,11,98] rfl rfl ?_);clear O J K E;refine awp_cond2 rfl (onB_intro (fun h5=>?_) (fun h5=>?_))
   ·exact absurd (of_decide_eq_true h5) (by rw [nums_l,nums_l,List.length_append];omega)
   refine awp_skip ?_;refine awp_seq ?_;refine (awp_draw TT_ok mixed p13_20 [8,14] (fun i=>Nat.beq i 3||Nat.beq i 4) (by kernel_rfl) fun E K J O=>?_);refine Exists.intro (numsD vl1).length (And.intro rfl (And.intro (by rw [nums_l,nums_l,List.length_append];omega) ?_))
   show aCall _ _ _ _ _ _ _
   refine aR [] rfl rfl rfl (by rw [hcut];exact sameI _ vl1 hvl) rfl rfl rfl rfl ?_;refine And.intro ?_ ?_
   ·refine aS [] (sameL _ _ hls hl16) ?_
    refine O _ (aN [4] rfl rfl ?_);clear O J K E;refine awp_ret ?_;exact ⟨_,[],_,[.d (.s (.bool true))],rfl,rfl,rfl,rfl,rfl,PWs.refl _,rfl⟩
   refine And.intro ?_ ?_
   ·refine aS [] (sameL _ _ hls hl16) ?_
    refine O _ (aN [4] rfl rfl ?_);clear O J K E;refine awp_ret ?_;exact ⟨_,[],_,[.d (.s (.bool true))],rfl,rfl,rfl,rfl,rfl,PWs.refl _,rfl⟩
   trivial
  refine And.intro ?_ ?_
  ·refine aS [] r2 ?_
   refine O _ (aN [9,10,11,12] rfl rfl ?_);clear O J K E;refine awp_seq ?_;refine rgs fun E K J O=>?_;refine onB_intro (fun h2=>?_) (fun h2=>?_)
   ·refine O _ (aN [9,10,11,12,79] rfl rfl ?_);clear O J K E;refine awp_cond rfl ?_;refine awp_seq ?_
    refine (awp_draw TT_ok mixed p13_17 [] (fun _=>true) (by kernel_rfl) fun E K J O=>?_);refine O _ (aN [4] rfl rfl ?_);clear O J K E;refine awp_ret ?_;exact ⟨_,[],_,[.d (.s (.bool true))],rfl,rfl,rfl,rfl,rfl,PWs.refl _,rfl⟩
   refine O _ (aN [9,10,11,12,79] rfl rfl ?_);clear O J K E;refine awp_cond2 rfl (onB_intro (fun h3=>?_) (fun h3=>?_))
   ·refine awp_seq ?_
    refine (awp_draw TT_ok mixed p13_17 [] (fun _=>true) (by kernel_rfl) fun E K J O=>?_);refine O _ (aN [4] rfl rfl ?_);clear O J K E;refine awp_ret ?_;exact ⟨_,[],_,[.d (.s (.bool true))],rfl,rfl,rfl,rfl,rfl,PWs.refl _,rfl⟩
   obtain ⟨ve,rfl,rfl,rfl⟩:=zz h2 h3
   have hcut:(numsD (vl1++ve)).take (numsD vl1).length=numsD vl1:=by simp [numsD]
   refine awp_skip ?_;refine awp_seq ?_;refine rgs fun E K J O=>?_;refine onB_intro (fun h4=>?_) (fun h4=>?_)
   ·simp at h4
   refine O _ (aN [9,11,98] rfl rfl ?_);clear O J K E;refine awp_cond2 rfl (onB_intro (fun h5=>?_) (fun h5=>?_))
   ·exact absurd (of_decide_eq_true h5) (by rw [nums_l,nums_l,List.length_append];omega)
   refine awp_skip ?_;refine awp_seq ?_;refine (awp_draw TT_ok mixed p13_20 [8,14] (fun i=>Nat.beq i 3||Nat.beq i 4) (by kernel_rfl) fun E K J O=>?_);refine Exists.intro (numsD vl1).length (And.intro rfl (And.intro (by rw [nums_l,nums_l,List.length_append];omega) ?_))
   show aCall _ _ _ _ _ _ _
   refine aR [] rfl rfl rfl (by rw [hcut];exact sameI _ vl1 hvl) rfl rfl rfl rfl ?_;refine And.intro ?_ ?_
   ·refine aS [] (sameL _ _ hls hl16) ?_
    refine O _ (aN [4] rfl rfl ?_);clear O J K E;refine awp_ret ?_;exact ⟨_,[],_,[.d (.s (.bool true))],rfl,rfl,rfl,rfl,rfl,PWs.refl _,rfl⟩
   refine And.intro ?_ ?_
   ·refine aS [] (sameL _ _ hls hl16) ?_
    refine O _ (aN [4] rfl rfl ?_);clear O J K E;refine awp_ret ?_;exact ⟨_,[],_,[.d (.s (.bool true))],rfl,rfl,rfl,rfl,rfl,PWs.refl _,rfl⟩
   trivial
  trivial
 refine And.intro ?_ ?_
 ·show aCall _ _ _ _ _ _ _
  refine aR [] rfl rfl rfl (intsM _ inp (by omega)) rfl rfl rfl rfl ?_;refine aS [] r2 ?_;refine O _ (aN [9,10,11,12] rfl rfl ?_);clear O J K E;refine awp_seq ?_;refine rgs fun E K J O=>?_;refine onB_intro (fun h2=>?_) (fun h2=>?_)
  ·refine O _ (aN [9,10,11,12,79] rfl rfl ?_);clear O J K E;refine awp_cond rfl ?_;refine awp_seq ?_
   refine (awp_draw TT_ok mixed p13_17 [] (fun _=>true) (by kernel_rfl) fun E K J O=>?_);refine O _ (aN [4] rfl rfl ?_);clear O J K E;refine awp_ret ?_;exact ⟨_,[],_,[.d (.s (.bool true))],rfl,rfl,rfl,rfl,rfl,PWs.refl _,rfl⟩
  refine O _ (aN [9,10,11,12,79] rfl rfl ?_);clear O J K E;refine awp_cond2 rfl (onB_intro (fun h3=>?_) (fun h3=>?_))
  ·refine awp_seq ?_
   refine (awp_draw TT_ok mixed p13_17 [] (fun _=>true) (by kernel_rfl) fun E K J O=>?_);refine O _ (aN [4] rfl rfl ?_);clear O J K E;refine awp_ret ?_;exact ⟨_,[],_,[.d (.s (.bool true))],rfl,rfl,rfl,rfl,rfl,PWs.refl _,rfl⟩
  obtain ⟨ve,rfl,rfl,rfl⟩:=zz h2 h3
  have hcut:(numsD (vl1++ve)).take (numsD vl1).length=numsD vl1:=by simp [numsD]
  refine awp_skip ?_;refine awp_seq ?_;refine rgs fun E K J O=>?_;refine onB_intro (fun h4=>?_) (fun h4=>?_)
  ·simp at h4
  refine O _ (aN [9,11,98] rfl rfl ?_);clear O J K E;refine awp_cond2 rfl (onB_intro (fun h5=>?_) (fun h5=>?_))
  ·exact absurd (of_decide_eq_true h5) (by rw [nums_l,nums_l,List.length_append];omega)
  refine awp_skip ?_;refine awp_seq ?_;refine (awp_draw TT_ok mixed p13_20 [8,14] (fun i=>Nat.beq i 3||Nat.beq i 4) (by kernel_rfl) fun E K J O=>?_);refine Exists.intro (numsD vl1).length (And.intro rfl (And.intro (by rw [nums_l,nums_l,List.length_append];omega) ?_))
  show aCall _ _ _ _ _ _ _
  refine aR [] rfl rfl rfl (by rw [hcut];exact sameI _ vl1 hvl) rfl rfl rfl rfl ?_;refine And.intro ?_ ?_
  ·refine aS [] (sameL _ _ hls hl16) ?_
   refine O _ (aN [4] rfl rfl ?_);clear O J K E;refine awp_ret ?_;exact ⟨_,[],_,[.d (.s (.bool true))],rfl,rfl,rfl,rfl,rfl,PWs.refl _,rfl⟩
  refine And.intro ?_ ?_
  ·refine aS [] (sameL _ _ hls hl16) ?_
   refine O _ (aN [4] rfl rfl ?_);clear O J K E;refine awp_ret ?_;exact ⟨_,[],_,[.d (.s (.bool true))],rfl,rfl,rfl,rfl,rfl,PWs.refl _,rfl⟩
  trivial
 trivial
end
end Go.Abs
end
