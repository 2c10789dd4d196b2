/- Texts of this proof, joined: AbsPE, AbsPF, AbsPG, AbsSB, AbsSC, AbsPH, AbsWA. -/
import Derived.Test.YtedljfabpknjiaaGreatDoorP6
import Derived.Test.YtedljfabpknjiaaGreatDoorP5
import Derived.Recover
import Derived.Lib.Builder
import Derived.Lib.Walk
import Derived.Laws.Externs
section
namespace Go.Abs
open Go Go.Proofs
attribute [local irreducible] aCall AWp Sub Spec
mutual
def stmtsL(s:ByteArray):Nat→Int→List Sm→PS s→R s (List Sm)
 |0,_,_,_=>.out
 |n+1,d,acc,p=>match (!eqW p.w ⟨#[125]⟩&&!eqW p.w ⟨#[114,101,116,117,114,110]⟩) with
  |true=>match decide (d>12) with
   |true=>.bad p 0
   |false=>(stmtF s n d p).bind fun st q=>stmtsL s n d (acc++[st]) q
  |false=>.ok acc p
def blockF(s:ByteArray):Nat→Int→PS s→R s (List Sm)
 |0,_,_=>.out
 |n+1,d,p=>(takeF s ⟨#[123]⟩ p).bind fun _ q=>(stmtsL s n d [] q).bind fun l q=>(takeF s ⟨#[125]⟩ q).bind fun _ q=>.ok l q
def stmtF(s:ByteArray):Nat→Int→PS s→R s Sm
 |0,_,_=>.out
 |n+1,d,p=>match (eqW p.w ⟨#[105,102]⟩||eqW p.w ⟨#[119,104,105,108,101]⟩) with
  |true=>(condF s n (nx s p)).bind fun c q=>(blockF s n (IntKind.i64.wrap (d+1)) q).bind fun b q=>match (eqW p.w ⟨#[105,102]⟩&&eqW q.w ⟨#[101,108,115,101]⟩) with
   |true=>(blockF s n (IntKind.i64.wrap (d+1)) (nx s q)).bind fun e q=>.ok (.mk p.w ⟨#[]⟩ ⟨#[]⟩ [] c b e) q
   |false=>.ok (.mk p.w ⟨#[]⟩ ⟨#[]⟩ [] c b []) q
  |false=>match (eqW p.w ⟨#[97,115,115,101,114,116]⟩||eqW p.w ⟨#[97,115,115,117,109,101]⟩) with
   |true=>(condF s n (nx s p)).bind fun c q=>(takeF s ⟨#[59]⟩ q).bind fun _ q=>.ok (.mk p.w ⟨#[]⟩ ⟨#[]⟩ [] c [] []) q
   |false=>match eqW p.w ⟨#[114,101,97,100]⟩ with
    |true=>(nameF s (nx s p)).bind fun m q=>(takeF s ⟨#[59]⟩ q).bind fun _ q=>.ok (.mk p.w m ⟨#[]⟩ [] [] [] []) q
    |false=>(nameF s p).bind fun m q=>match eqW q.w ⟨#[91]⟩ with
     |true=>(termF s n 1 (nx s q)).bind fun i q=>(takeF s ⟨#[93]⟩ q).bind fun _ q=>(takeF s ⟨#[61]⟩ q).bind fun _ q=>(termF s n 1 q).bind fun e q=>(takeF s ⟨#[59]⟩ q).bind fun _ q=>.ok (.mk ⟨#[112,117,116]⟩ m ⟨#[]⟩ [i,e] [] [] []) q
     |false=>(takeF s ⟨#[61]⟩ q).bind fun _ q=>match eqW q.w ⟨#[99,97,108,108]⟩ with
      |true=>(nameF s (nx s q)).bind fun f q=>(takeF s ⟨#[40]⟩ q).bind fun _ q=>(argsL s n [] q).bind fun l q=>(takeF s ⟨#[59]⟩ q).bind fun _ q=>.ok (.mk ⟨#[99,97,108,108]⟩ m f l [] [] []) q
      |false=>(termF s n 1 q).bind fun e q=>(takeF s ⟨#[59]⟩ q).bind fun _ q=>.ok (.mk ⟨#[115,101,116]⟩ m ⟨#[]⟩ [e] [] [] []) q
def argsL(s:ByteArray):Nat→List Ex→PS s→R s (List Ex)
 |0,_,_=>.out
 |n+1,acc,p=>match (!eqW p.w ⟨#[41]⟩) with
  |true=>match decide ((acc.length:Int)>0) with
   |true=>(takeF s ⟨#[44]⟩ p).bind fun _ q=>(termF s n 1 q).bind fun e q=>argsL s n (acc++[e]) q
   |false=>(termF s n 1 p).bind fun e q=>argsL s n (acc++[e]) q
  |false=>.ok acc (nx s p)
end
def encL:List Sm→PV:=fun l=>.d (.sl 7 (sms l))
def encM:Sm→PV:=fun st=>.d (.agg st.cs)
theorem sms_snoc:∀(l:List Sm) (t:Sm),sms l++[t.cs]=sms (l++[t])
 |[],t=>by simp [sms]
 |x::r,t=>by simp only [sms,List.cons_append,sms_snoc r t]
theorem sms_length:∀(l:List Sm),(sms l).length=l.length
 |[]=>rfl
 |x::r=>by simp [sms,sms_length r]
theorem exs_snoc:∀(l:List Ex) (t:Ex),exs l++[t.cs]=exs (l++[t])
 |[],t=>by simp [exs]
 |x::r,t=>by simp only [exs,List.cons_append,exs_snoc r t]
theorem exs_length:∀(l:List Ex),(exs l).length=l.length
 |[]=>rfl
 |x::r=>by simp [exs,exs_length r]
def nilC:PV:=.d (.s (.slice none 0 0))
def zS:List PV:=[.d (str ⟨#[]⟩),.d (str ⟨#[]⟩),.d (str ⟨#[]⟩),nilC,nilC,nilC,nilC]
section
variable (t:Nat→TypeId) (u:Nat→Value)
def StmtOk(s:ByteArray)(n:Nat):Prop:=∀(d:Int) (p:PS s),PSpec t u 197 [.box 0 0,.d (num d)] s p encM (stmtF s n d p)
def BlockOk(s:ByteArray)(n:Nat):Prop:=∀(d:Int) (p:PS s),PSpec t u 138 [.box 0 0,.d (num d),.fn 141 []] s p encL (blockF s n d p)
theorem nothing_spec(G:Glob):Spec Tryz.prog G 141 [] [] (.ret (.tup [])) []:=by
 refine spec_of_awp2 TT_ok (N:=0) Tryz.func141 rfl (by rfl) (Nat.le_refl _) rfl ?_;refine awp_skip ?_;exact ⟨_,[],_,_,rfl,rfl,rfl,rfl,rfl,PWs.refl _,rfl⟩
theorem block_step(s:ByteArray)(hs4:s.size≤4000)(n:Nat)(hn:n≤1000000)(ih:∀m,m≤n→StmtOk t u s m):BlockOk t u s (n+1):=by
 intro d p hne;obtain ⟨r,hG⟩:∃r,blockF s (n+1) d p=r:=⟨_,rfl⟩;rw [hG] at hne ⊢
 have hs:s.size<4611686018427387904:=by omega
 refine spec_of_awp2 TT_ok (N:=38) Tryz.func138 rfl (by rfl) ((by cases r <;> simp [rowsR] at hne ⊢)) rfl ?_
 refine rz [0,1,2] ?_;refine rgs fun E K J O=>?_;show aCall _ _ _ _ _ _ _;have sp1:=takeP_spec t u s ⟨#[123]⟩ p hs
 cases hr1:takeF s ⟨#[123]⟩ p with
 |out=>
  simp only [blockF,R.bind,hr1] at hG;exact absurd hG.symm hne
 |bad q1 c1=>
  rw [hr1] at sp1;refine aP [0] rfl rfl rfl (sp1 nofun) rfl rfl rfl rfl ?_;refine J _ _ ?_;simp only [blockF,R.bind,hr1] at hG;subst hG;exact ⟨[0,1],_,rfl,rfl,rfl,rfl,rfl⟩
 |ok a1 q1=>
  rw [hr1] at sp1;refine aS [0] (sp1 nofun) ?_;refine O _ (aN [0,1,2] rfl rfl ?_);clear O J K E;refine rz [0,1,2,7] ?_;refine awp_acc 7 217 7 rfl rfl rfl ?_;refine awp_norm [0,1,2,7] rfl rfl ?_;refine awp_seq ?_;refine awp_block ?_;simp only [blockF,R.bind,hr1] at hG;clear hr1 sp1;refine awp_loop (fun k Y=>∃acc q,acc.length+k≤n∧((stmtsL s k d acc q).bind fun l q=>(takeF s ⟨#[125]⟩ q).bind fun _ q=>.ok l q)=r∧Y=⟨[(0,.box 0 0),(1,.d (num d)),(2,.fn 141 []),(7,.acc 1)],[rd s q,.acc 217 7 (sms acc)]⟩) (n) (⟨[],_,by simp,hG,rfl⟩) ?_;clear hG;rintro k Y ⟨acc,q,hk,hG,rfl⟩
  cases k with
  |zero=>simp only [stmtsL,R.bind] at hG;exact absurd hG.symm hne
  |succ m=>
   refine awp_seq ?_;refine rgs fun E K J O=>?_;refine onB_intro (fun h1=>?_) (fun h1=>?_)
   ·refine O _ (aN [0,1,2,7,21] rfl rfl ?_);clear O J K E
    refine awp_cond2 rfl (onB_intro (fun h2=>?_) (fun h2=>?_))
    ·refine awp_skip ?_;refine awp_block ?_;refine awp_seq ?_;refine rz [0,1,2,7,23] ?_
     refine awp_cond2 rfl (onB_intro (fun h3=>?_) (fun h3=>?_))
     ·refine rgn fun E K J O=>?_;show aCall _ _ _ _ _ _ _
      refine aP [0] rfl rfl rfl (fail_spec (GV t u) 132 s _ _ (t 0) (u 0)) rfl rfl rfl rfl ?_;refine J _ _ ?_;simp only [stmtsL,eqW,bz,R.bind,h1,h2,h3] at hG;subst hG;exact ⟨[0,2],_,rfl,rfl,rfl,rfl,rfl⟩
     refine awp_skip ?_;refine rgn fun E K J O=>?_;show aCall _ _ _ _ _ _ _;have sp2:=ih m (by omega) d q
     cases hr2:stmtF s m d q with
     |out=>
      simp only [stmtsL,eqW,bz,R.bind,h1,h2,h3,hr2] at hG;exact absurd hG.symm hne
     |bad q2 c2=>
      rw [hr2] at sp2;refine aP [0] rfl rfl rfl (sp2 nofun) rfl rfl rfl rfl ?_;refine J _ _ ?_;simp only [stmtsL,eqW,bz,R.bind,h1,h2,h3,hr2] at hG;subst hG;exact ⟨[0,2],_,rfl,rfl,rfl,rfl,rfl⟩
     |ok a2 q2=>
      obtain ⟨x2,y2,z2,l2,c2,b2,e2⟩:=a2;rw [hr2] at sp2;refine aS [0] (sp2 nofun) ?_;refine And.intro (And.intro (by simp only [chunk_length,sms_length];omega) (by simp only [chunk_length,sms_length,maxLen_eq];omega)) ?_;refine O _ ?_;clear O J K E;simp only [stmtsL,eqW,bz,R.bind,h1,h2,h3,hr2] at hG;exact ⟨m,Nat.lt_succ_self m,_,sub_norm (slots:=[0,1,2,7]) rfl rfl,_,_,by simp only [List.length_append,List.length_cons,List.length_nil];omega,hG,by rw [← sms_snoc];rfl⟩
    refine awp_exit ?_;refine rgs fun E K J O=>?_;refine aS [] (nothing_spec _) ?_;refine O _ (aN [0,7] rfl rfl ?_);clear O J K E;refine rgs fun E K J O=>?_;show aCall _ _ _ _ _ _ _;have sp2:=takeP_spec t u s ⟨#[125]⟩ q hs
    cases hr2:takeF s ⟨#[125]⟩ q with
    |out=>
     simp only [stmtsL,eqW,bz,R.bind,h1,h2,hr2] at hG;exact absurd hG.symm hne
    |bad q2 c2=>
     rw [hr2] at sp2;refine aP [0] rfl rfl rfl (sp2 nofun) rfl rfl rfl rfl ?_;refine J _ _ ?_;simp only [stmtsL,eqW,bz,R.bind,h1,h2,hr2] at hG;subst hG;exact ⟨[0,2],_,rfl,rfl,rfl,rfl,rfl⟩
    |ok a2 q2=>
     rw [hr2] at sp2;refine aS [0] (sp2 nofun) ?_;refine O _ (aN [7] rfl rfl ?_);clear O J K E;refine rz [6] ?_;refine awp_ret ?_;simp only [stmtsL,eqW,bz,R.bind,h1,h2,hr2] at hG;subst hG;exact ⟨_,[0],_,[encL _],rfl,rfl,rfl,rfl,rfl,PWs.refl _,rfl⟩
   refine O _ (aN [0,1,2,7,21] rfl rfl ?_);clear O J K E;refine awp_cond rfl ?_;refine awp_exit ?_;refine rgs fun E K J O=>?_;refine aS [] (nothing_spec _) ?_;refine O _ (aN [0,7] rfl rfl ?_);clear O J K E;refine rgs fun E K J O=>?_;show aCall _ _ _ _ _ _ _;have sp2:=takeP_spec t u s ⟨#[125]⟩ q hs
   cases hr2:takeF s ⟨#[125]⟩ q with
   |out=>
    simp only [stmtsL,eqW,bz,R.bind,h1,hr2] at hG;exact absurd hG.symm hne
   |bad q2 c2=>
    rw [hr2] at sp2;refine aP [0] rfl rfl rfl (sp2 nofun) rfl rfl rfl rfl ?_;refine J _ _ ?_;simp only [stmtsL,eqW,bz,R.bind,h1,hr2] at hG;subst hG;exact ⟨[0,2],_,rfl,rfl,rfl,rfl,rfl⟩
   |ok a2 q2=>
    rw [hr2] at sp2;refine aS [0] (sp2 nofun) ?_;refine O _ (aN [7] rfl rfl ?_);clear O J K E;refine rz [6] ?_;refine awp_ret ?_;simp only [stmtsL,eqW,bz,R.bind,h1,hr2] at hG;subst hG;exact ⟨_,[0],_,[encL _],rfl,rfl,rfl,rfl,rfl,PWs.refl _,rfl⟩
def p197_25:Plan:=(.take 0 (.load 1 (.take 2 (.one 3 (.one 4 (.one 5 (.take 6 (.one 7 .done))))))))
def p197_36:Plan:=(.take 0 (.load 1 (.take 2 (.one 3 (.one 4 (.one 5 (.take 6 (.one 7 .done))))))))
def p197_34:Plan:=(.take 0 (.load 1 (.take 2 (.one 3 (.one 4 (.one 5 (.take 6 (.one 7 .done))))))))
theorem stmt_step(s:ByteArray)(hs4:s.size≤4000)(n:Nat)(hn:n≤1000000)(ihB:∀m,m≤n→BlockOk t u s m):StmtOk t u s (n+1):=by
 intro d p hne;obtain ⟨r,hG⟩:∃r,stmtF s (n+1) d p=r:=⟨_,rfl⟩;rw [hG] at hne ⊢
 have hs:s.size<4611686018427387904:=by omega
 refine spec_of_awp2 TT_ok (N:=124) Tryz.func197 rfl (by rfl) ((by cases r <;> simp [rowsR] at hne ⊢)) rfl ?_
 refine rz [0,1,4] ?_;refine awp_seq ?_;refine rz [0,1,4,5] ?_;refine rz [0,1,4,5,14] ?_;refine awp_block ?_;refine awp_seq ?_;refine rz [0,1,4,5,14,15] ?_;refine awp_cond2 rfl (onB_intro (fun h1=>?_) (fun h1=>?_))
 ·refine awp_skip ?_;refine awp_cond rfl ?_;refine rgs fun E K J O=>?_
  refine aS [0] (nextP_spec _ s p hs) ?_;refine O _ (aN [0,1,4,5] rfl rfl ?_);clear O J K E;refine rgs fun E K J O=>?_;show aCall _ _ _ _ _ _ _;have sp1:=condP_spec t u s hs4 n hn (nx s p)
  cases hr1:condF s n (nx s p) with
  |out=>
   simp only [stmtF,eqW,bz,R.bind,h1,hr1] at hG;exact absurd hG.symm hne
  |bad q1 c1=>
   rw [hr1] at sp1;refine aP [0] rfl rfl rfl (sp1 nofun) rfl rfl rfl rfl ?_;refine J _ _ ?_;simp only [stmtF,eqW,bz,R.bind,h1,hr1] at hG;subst hG;exact ⟨[0,2],_,rfl,rfl,rfl,rfl,rfl⟩
  |ok a1 q1=>
   rw [hr1] at sp1;refine aS [0] (sp1 nofun) ?_;refine O _ (aN [0,1,4,5,6] rfl rfl ?_);clear O J K E;refine rgs fun E K J O=>?_;show aCall _ _ _ _ _ _ _;have sp2:=ihB n (by omega) (IntKind.i64.wrap (d+1)) q1
   cases hr2:blockF s n (IntKind.i64.wrap (d+1)) q1 with
   |out=>
    simp only [stmtF,eqW,bz,R.bind,h1,hr1,hr2] at hG;exact absurd hG.symm hne
   |bad q2 c2=>
    rw [hr2] at sp2;refine aP [0] rfl rfl rfl (sp2 nofun) rfl rfl rfl rfl ?_;refine J _ _ ?_;simp only [stmtF,eqW,bz,R.bind,h1,hr1,hr2] at hG;subst hG;exact ⟨[0,3],_,rfl,rfl,rfl,rfl,rfl⟩
   |ok a2 q2=>
    rw [hr2] at sp2;refine aS [0] (sp2 nofun) ?_;refine O _ (aN [0,1,4,5,6] rfl rfl ?_);clear O J K E;refine awp_seq ?_;refine rgs fun E K J O=>?_;refine onB_intro (fun h2=>?_) (fun h2=>?_)
    ·show aCall _ _ _ _ _ _ _
     cases hr3:(q2.w.toList==(⟨#[101,108,115,101]⟩:ByteArray).toList) with
     |true=>
      refine aS [0] (hasP_yes (GV t u) s _ q2 hs hr3) ?_;refine O _ (aN [0,1,4,6,34] rfl rfl ?_);clear O J K E;refine awp_cond rfl ?_;refine rgn fun E K J O=>?_;show aCall _ _ _ _ _ _ _;have sp4:=ihB n (by omega) (IntKind.i64.wrap (d+1)) (nx s q2)
      cases hr4:blockF s n (IntKind.i64.wrap (d+1)) (nx s q2) with
      |out=>
       simp only [stmtF,eqW,bz,R.bind,h1,hr1,hr2,hr3,hr4] at hG;exact absurd hG.symm hne
      |bad q4 c4=>
       rw [hr4] at sp4;refine aP [0] rfl rfl rfl (sp4 nofun) rfl rfl rfl rfl ?_;refine J _ _ ?_;simp only [stmtF,eqW,bz,R.bind,h1,hr1,hr2,hr3,hr4] at hG;subst hG;exact ⟨[0,3],_,rfl,rfl,rfl,rfl,rfl⟩
      |ok a4 q4=>
       rw [hr4] at sp4;refine aS [0] (sp4 nofun) ?_;refine O _ (aN [4,6] rfl rfl ?_);clear O J K E;refine rz [4] ?_;refine awp_ret ?_;simp only [stmtF,eqW,bz,R.bind,h1,hr1,hr2,hr3,hr4] at hG;subst hG;exact ⟨_,[0],_,[encM _],rfl,rfl,rfl,rfl,rfl,(by first|exact PWs.refl _|(refine PWs.cons (PW.d ?_) PWs.nil;repeat (first|exact DW.refl _|refine DW.agg ?_|refine DWs.cons ?_ ?_|exact DWs.nil|exact DW.nil _))),rfl⟩
     |false=>
      refine aS [0] (hasP_no (GV t u) s _ q2 hr3) ?_;refine O _ (aN [0,1,4,6,34] rfl rfl ?_);clear O J K E;refine awp_cond rfl ?_;refine awp_skip ?_;refine rz [4] ?_;refine awp_ret ?_;simp only [stmtF,eqW,bz,R.bind,h1,hr1,hr2,hr3] at hG;subst hG;exact ⟨_,[0],_,[encM _],rfl,rfl,rfl,rfl,rfl,(by first|exact PWs.refl _|(refine PWs.cons (PW.d ?_) PWs.nil;repeat (first|exact DW.refl _|refine DW.agg ?_|refine DWs.cons ?_ ?_|exact DWs.nil|exact DW.nil _))),rfl⟩
    exact absurd (h1.symm.trans h2) (by decide)
 refine rgn fun E K J O=>?_;refine O _ (aN [0,1,4,5,14,15] rfl rfl ?_);clear O J K E;refine awp_cond2 rfl (onB_intro (fun h2=>?_) (fun h2=>?_))
 ·refine rgs fun E K J O=>?_
  refine aS [0] (nextP_spec _ s p hs) ?_;refine O _ (aN [0,1,4,5] rfl rfl ?_);clear O J K E;refine rgs fun E K J O=>?_;show aCall _ _ _ _ _ _ _;have sp1:=condP_spec t u s hs4 n hn (nx s p)
  cases hr1:condF s n (nx s p) with
  |out=>
   simp only [stmtF,eqW,bz,R.bind,h1,h2,hr1] at hG;exact absurd hG.symm hne
  |bad q1 c1=>
   rw [hr1] at sp1;refine aP [0] rfl rfl rfl (sp1 nofun) rfl rfl rfl rfl ?_;refine J _ _ ?_;simp only [stmtF,eqW,bz,R.bind,h1,h2,hr1] at hG;subst hG;exact ⟨[0,2],_,rfl,rfl,rfl,rfl,rfl⟩
  |ok a1 q1=>
   rw [hr1] at sp1;refine aS [0] (sp1 nofun) ?_;refine O _ (aN [0,1,4,5,6] rfl rfl ?_);clear O J K E;refine rgs fun E K J O=>?_;show aCall _ _ _ _ _ _ _;have sp2:=ihB n (by omega) (IntKind.i64.wrap (d+1)) q1
   cases hr2:blockF s n (IntKind.i64.wrap (d+1)) q1 with
   |out=>
    simp only [stmtF,eqW,bz,R.bind,h1,h2,hr1,hr2] at hG;exact absurd hG.symm hne
   |bad q2 c2=>
    rw [hr2] at sp2;refine aP [0] rfl rfl rfl (sp2 nofun) rfl rfl rfl rfl ?_;refine J _ _ ?_;simp only [stmtF,eqW,bz,R.bind,h1,h2,hr1,hr2] at hG;subst hG;exact ⟨[0,3],_,rfl,rfl,rfl,rfl,rfl⟩
   |ok a2 q2=>
    rw [hr2] at sp2;refine aS [0] (sp2 nofun) ?_;refine O _ (aN [0,1,4,5,6] rfl rfl ?_);clear O J K E;refine awp_seq ?_;refine rgs fun E K J O=>?_;refine onB_intro (fun h3=>?_) (fun h3=>?_)
    ·exact absurd (h1.symm.trans h3) (by decide)
    refine O _ (aN [0,1,4,6,34] rfl rfl ?_);clear O J K E;refine awp_cond rfl ?_;refine awp_skip ?_;refine rz [4] ?_;refine awp_ret ?_;simp only [stmtF,eqW,bz,R.bind,h1,h2,hr1,hr2] at hG;subst hG;exact ⟨_,[0],_,[encM _],rfl,rfl,rfl,rfl,rfl,(by first|exact PWs.refl _|(refine PWs.cons (PW.d ?_) PWs.nil;repeat (first|exact DW.refl _|refine DW.agg ?_|refine DWs.cons ?_ ?_|exact DWs.nil|exact DW.nil _))),rfl⟩
 refine awp_seq ?_;refine rz [0,4,5,14,41] ?_;refine awp_cond2 rfl (onB_intro (fun h3=>?_) (fun h3=>?_))
 ·refine awp_skip ?_;refine awp_cond rfl ?_;refine rgs fun E K J O=>?_
  refine aS [0] (nextP_spec _ s p hs) ?_;refine O _ (aN [0,4,5] rfl rfl ?_);clear O J K E;refine rgs fun E K J O=>?_;show aCall _ _ _ _ _ _ _;have sp1:=condP_spec t u s hs4 n hn (nx s p)
  cases hr1:condF s n (nx s p) with
  |out=>
   simp only [stmtF,eqW,bz,R.bind,h1,h2,h3,hr1] at hG;exact absurd hG.symm hne
  |bad q1 c1=>
   rw [hr1] at sp1;refine aP [0] rfl rfl rfl (sp1 nofun) rfl rfl rfl rfl ?_;refine J _ _ ?_;simp only [stmtF,eqW,bz,R.bind,h1,h2,h3,hr1] at hG;subst hG;exact ⟨[0,2],_,rfl,rfl,rfl,rfl,rfl⟩
  |ok a1 q1=>
   rw [hr1] at sp1;refine aS [0] (sp1 nofun) ?_;refine O _ (aN [0,4,7] rfl rfl ?_);clear O J K E;refine rgs fun E K J O=>?_;show aCall _ _ _ _ _ _ _;have sp2:=takeP_spec t u s ⟨#[59]⟩ q1 hs
   cases hr2:takeF s ⟨#[59]⟩ q1 with
   |out=>
    simp only [stmtF,eqW,bz,R.bind,h1,h2,h3,hr1,hr2] at hG;exact absurd hG.symm hne
   |bad q2 c2=>
    rw [hr2] at sp2;refine aP [0] rfl rfl rfl (sp2 nofun) rfl rfl rfl rfl ?_;refine J _ _ ?_;simp only [stmtF,eqW,bz,R.bind,h1,h2,h3,hr1,hr2] at hG;subst hG;exact ⟨[0,3],_,rfl,rfl,rfl,rfl,rfl⟩
   |ok a2 q2=>
    rw [hr2] at sp2;refine aS [0] (sp2 nofun) ?_;refine O _ (aN [4,7] rfl rfl ?_);clear O J K E;refine rz [4] ?_;refine awp_ret ?_;simp only [stmtF,eqW,bz,R.bind,h1,h2,h3,hr1,hr2] at hG;subst hG;exact ⟨_,[0],_,[encM _],rfl,rfl,rfl,rfl,rfl,(by first|exact PWs.refl _|(refine PWs.cons (PW.d ?_) PWs.nil;repeat (first|exact DW.refl _|refine DW.agg ?_|refine DWs.cons ?_ ?_|exact DWs.nil|exact DW.nil _))),rfl⟩
 refine rgn fun E K J O=>?_;refine O _ (aN [0,4,5,14,41] rfl rfl ?_);clear O J K E;refine awp_cond2 rfl (onB_intro (fun h4=>?_) (fun h4=>?_))
 ·refine rgs fun E K J O=>?_
  refine aS [0] (nextP_spec _ s p hs) ?_;refine O _ (aN [0,4,5] rfl rfl ?_);clear O J K E;refine rgs fun E K J O=>?_;show aCall _ _ _ _ _ _ _;have sp1:=condP_spec t u s hs4 n hn (nx s p)
  cases hr1:condF s n (nx s p) with
  |out=>
   simp only [stmtF,eqW,bz,R.bind,h1,h2,h3,h4,hr1] at hG;exact absurd hG.symm hne
  |bad q1 c1=>
   rw [hr1] at sp1;refine aP [0] rfl rfl rfl (sp1 nofun) rfl rfl rfl rfl ?_;refine J _ _ ?_;simp only [stmtF,eqW,bz,R.bind,h1,h2,h3,h4,hr1] at hG;subst hG;exact ⟨[0,2],_,rfl,rfl,rfl,rfl,rfl⟩
  |ok a1 q1=>
   rw [hr1] at sp1;refine aS [0] (sp1 nofun) ?_;refine O _ (aN [0,4,7] rfl rfl ?_);clear O J K E;refine rgs fun E K J O=>?_;show aCall _ _ _ _ _ _ _;have sp2:=takeP_spec t u s ⟨#[59]⟩ q1 hs
   cases hr2:takeF s ⟨#[59]⟩ q1 with
   |out=>
    simp only [stmtF,eqW,bz,R.bind,h1,h2,h3,h4,hr1,hr2] at hG;exact absurd hG.symm hne
   |bad q2 c2=>
    rw [hr2] at sp2;refine aP [0] rfl rfl rfl (sp2 nofun) rfl rfl rfl rfl ?_;refine J _ _ ?_;simp only [stmtF,eqW,bz,R.bind,h1,h2,h3,h4,hr1,hr2] at hG;subst hG;exact ⟨[0,3],_,rfl,rfl,rfl,rfl,rfl⟩
   |ok a2 q2=>
    rw [hr2] at sp2;refine aS [0] (sp2 nofun) ?_;refine O _ (aN [4,7] rfl rfl ?_);clear O J K E;refine rz [4] ?_;refine awp_ret ?_;simp only [stmtF,eqW,bz,R.bind,h1,h2,h3,h4,hr1,hr2] at hG;subst hG;exact ⟨_,[0],_,[encM _],rfl,rfl,rfl,rfl,rfl,(by first|exact PWs.refl _|(refine PWs.cons (PW.d ?_) PWs.nil;repeat (first|exact DW.refl _|refine DW.agg ?_|refine DWs.cons ?_ ?_|exact DWs.nil|exact DW.nil _))),rfl⟩
 refine rz [0,4,5,53] ?_;refine awp_cond2 rfl (onB_intro (fun h5=>?_) (fun h5=>?_))
 ·refine rgs fun E K J O=>?_
  refine aS [0] (nextP_spec _ s p hs) ?_;refine O _ (aN [0,4,5] rfl rfl ?_);clear O J K E;refine rgs fun E K J O=>?_;show aCall _ _ _ _ _ _ _;have sp1:=nameP_spec t u s (nx s p) hs
  cases hr1:nameF s (nx s p) with
  |out=>
   simp only [stmtF,eqW,bz,R.bind,h1,h2,h3,h4,h5,hr1] at hG;exact absurd hG.symm hne
  |bad q1 c1=>
   rw [hr1] at sp1;refine aP [0] rfl rfl rfl (sp1 nofun) rfl rfl rfl rfl ?_;refine J _ _ ?_;simp only [stmtF,eqW,bz,R.bind,h1,h2,h3,h4,h5,hr1] at hG;subst hG;exact ⟨[0,2],_,rfl,rfl,rfl,rfl,rfl⟩
  |ok a1 q1=>
   rw [hr1] at sp1;refine aS [0] (sp1 nofun) ?_;refine O _ (aN [0,4,8] rfl rfl ?_);clear O J K E;refine rgs fun E K J O=>?_;show aCall _ _ _ _ _ _ _;have sp2:=takeP_spec t u s ⟨#[59]⟩ q1 hs
   cases hr2:takeF s ⟨#[59]⟩ q1 with
   |out=>
    simp only [stmtF,eqW,bz,R.bind,h1,h2,h3,h4,h5,hr1,hr2] at hG;exact absurd hG.symm hne
   |bad q2 c2=>
    rw [hr2] at sp2;refine aP [0] rfl rfl rfl (sp2 nofun) rfl rfl rfl rfl ?_;refine J _ _ ?_;simp only [stmtF,eqW,bz,R.bind,h1,h2,h3,h4,h5,hr1,hr2] at hG;subst hG;exact ⟨[0,3],_,rfl,rfl,rfl,rfl,rfl⟩
   |ok a2 q2=>
    rw [hr2] at sp2;refine aS [0] (sp2 nofun) ?_;refine O _ (aN [4,8] rfl rfl ?_);clear O J K E;refine rz [4] ?_;refine awp_ret ?_;simp only [stmtF,eqW,bz,R.bind,h1,h2,h3,h4,h5,hr1,hr2] at hG;subst hG;exact ⟨_,[0],_,[encM _],rfl,rfl,rfl,rfl,rfl,(by first|exact PWs.refl _|(refine PWs.cons (PW.d ?_) PWs.nil;repeat (first|exact DW.refl _|refine DW.agg ?_|refine DWs.cons ?_ ?_|exact DWs.nil|exact DW.nil _))),rfl⟩
 refine awp_skip ?_;refine rgs fun E K J O=>?_;show aCall _ _ _ _ _ _ _;have sp1:=nameP_spec t u s p hs
 cases hr1:nameF s p with
 |out=>
  simp only [stmtF,eqW,bz,R.bind,h1,h2,h3,h4,h5,hr1] at hG;exact absurd hG.symm hne
 |bad q1 c1=>
  rw [hr1] at sp1;refine aP [0] rfl rfl rfl (sp1 nofun) rfl rfl rfl rfl ?_;refine J _ _ ?_;simp only [stmtF,eqW,bz,R.bind,h1,h2,h3,h4,h5,hr1] at hG;subst hG;exact ⟨[0,2],_,rfl,rfl,rfl,rfl,rfl⟩
 |ok a1 q1=>
  rw [hr1] at sp1;refine aS [0] (sp1 nofun) ?_;refine O _ (aN [0,4,9] rfl rfl ?_);clear O J K E;refine awp_accCell 2 3 157 4 rfl rfl rfl rfl ?_;refine awp_norm [0,4,9] rfl rfl ?_;refine awp_seq ?_;refine rgs fun E K J O=>?_;show aCall _ _ _ _ _ _ _
  cases hr2:(q1.w.toList==(⟨#[91]⟩:ByteArray).toList) with
  |true=>
   refine aS [0] (hasP_yes (GV t u) s _ q1 hs hr2) ?_;refine O _ (aN [0,4,9,68] rfl rfl ?_);clear O J K E;refine awp_cond rfl ?_;refine rz [0,4,9] ?_;refine awp_seq ?_;refine (awp_draw TT_ok mixed p197_25 [7] (fun i=>Nat.beq i 2) (by kernel_rfl) fun E K J O=>?_)
   show aCall _ _ _ _ _ _ _
   have sp3:=termP_spec t u s hs4 n 1 (nx s q1)
   cases hr3:termF s n 1 (nx s q1) with
   |out=>
    simp only [stmtF,eqW,bz,R.bind,h1,h2,h3,h4,h5,hr1,hr2,hr3] at hG;exact absurd hG.symm hne
   |bad q3 c3=>
    rw [hr3] at sp3;refine aP [0] rfl rfl rfl (sp3 nofun) rfl rfl rfl rfl ?_;refine J _ _ ?_;simp only [stmtF,eqW,bz,R.bind,h1,h2,h3,h4,h5,hr1,hr2,hr3] at hG;subst hG;exact ⟨[0,4],_,rfl,rfl,rfl,rfl,rfl⟩
   |ok a3 q3=>
    obtain ⟨o3,n3,m3,l3⟩:=a3;rw [hr3] at sp3;refine aS [0] (sp3 nofun) ?_;refine And.intro (And.intro (by simp only [chunk_length,List.length_nil];omega) (by simp only [chunk_length,List.length_nil,maxLen_eq];omega)) ?_;refine O _ (aN [0,4,9] rfl rfl ?_);clear O J K E;refine rgn fun E K J O=>?_;show aCall _ _ _ _ _ _ _;have sp4:=takeP_spec t u s ⟨#[93]⟩ q3 hs
    cases hr4:takeF s ⟨#[93]⟩ q3 with
    |out=>
     simp only [stmtF,eqW,bz,R.bind,h1,h2,h3,h4,h5,hr1,hr2,hr3,hr4] at hG;exact absurd hG.symm hne
    |bad q4 c4=>
     rw [hr4] at sp4;refine aP [0] rfl rfl rfl (sp4 nofun) rfl rfl rfl rfl ?_;refine J _ _ ?_;simp only [stmtF,eqW,bz,R.bind,h1,h2,h3,h4,h5,hr1,hr2,hr3,hr4] at hG;subst hG;exact ⟨[0,4],_,rfl,rfl,rfl,rfl,rfl⟩
    |ok a4 q4=>
     rw [hr4] at sp4;refine aS [0] (sp4 nofun) ?_;refine O _ (aN [0,4,9] rfl rfl ?_);clear O J K E;refine rgs fun E K J O=>?_;show aCall _ _ _ _ _ _ _;have sp5:=takeP_spec t u s ⟨#[61]⟩ q4 hs
     cases hr5:takeF s ⟨#[61]⟩ q4 with
     |out=>
      simp only [stmtF,eqW,bz,R.bind,h1,h2,h3,h4,h5,hr1,hr2,hr3,hr4,hr5] at hG;exact absurd hG.symm hne
     |bad q5 c5=>
      rw [hr5] at sp5;refine aP [0] rfl rfl rfl (sp5 nofun) rfl rfl rfl rfl ?_;refine J _ _ ?_;simp only [stmtF,eqW,bz,R.bind,h1,h2,h3,h4,h5,hr1,hr2,hr3,hr4,hr5] at hG;subst hG;exact ⟨[0,4],_,rfl,rfl,rfl,rfl,rfl⟩
     |ok a5 q5=>
      rw [hr5] at sp5;refine aS [0] (sp5 nofun) ?_;refine O _ (aN [0,4,9] rfl rfl ?_);clear O J K E;refine awp_seq ?_;refine rgs fun E K J O=>?_;refine onB_intro (fun h6=>?_) (fun h6=>?_)
      ·exact absurd h6 (by simp only [ByteArray.toList_eq];decide)
      refine O _ (aN [0,4,9,87] rfl rfl ?_);clear O J K E;refine awp_cond rfl ?_;refine (awp_draw TT_ok mixed p197_36 [7] (fun i=>Nat.beq i 2) (by kernel_rfl) fun E K J O=>?_)
      show aCall _ _ _ _ _ _ _
      have sp6:=termP_spec t u s hs4 n 1 q5
      cases hr6:termF s n 1 q5 with
      |out=>
       simp only [stmtF,eqW,bz,R.bind,h1,h2,h3,h4,h5,hr1,hr2,hr3,hr4,hr5,hr6] at hG;exact absurd hG.symm hne
      |bad q6 c6=>
       rw [hr6] at sp6;refine aP [0] rfl rfl rfl (sp6 nofun) rfl rfl rfl rfl ?_;refine J _ _ ?_;simp only [stmtF,eqW,bz,R.bind,h1,h2,h3,h4,h5,hr1,hr2,hr3,hr4,hr5,hr6] at hG;subst hG;exact ⟨[0,4],_,rfl,rfl,rfl,rfl,rfl⟩
      |ok a6 q6=>
       obtain ⟨o6,n6,m6,l6⟩:=a6;rw [hr6] at sp6;refine aS [0] (sp6 nofun) ?_;refine And.intro (And.intro (by simp only [chunk_length,List.length_append,List.length_nil];omega) (by simp only [chunk_length,List.length_append,List.length_nil,maxLen_eq];omega)) ?_;refine O _ (aN [0,4,9] rfl rfl ?_);clear O J K E;refine rgs fun E K J O=>?_;show aCall _ _ _ _ _ _ _;have sp7:=takeP_spec t u s ⟨#[59]⟩ q6 hs
       cases hr7:takeF s ⟨#[59]⟩ q6 with
       |out=>
        simp only [stmtF,eqW,bz,R.bind,h1,h2,h3,h4,h5,hr1,hr2,hr3,hr4,hr5,hr6,hr7] at hG;exact absurd hG.symm hne
       |bad q7 c7=>
        rw [hr7] at sp7;refine aP [0] rfl rfl rfl (sp7 nofun) rfl rfl rfl rfl ?_;refine J _ _ ?_;simp only [stmtF,eqW,bz,R.bind,h1,h2,h3,h4,h5,hr1,hr2,hr3,hr4,hr5,hr6,hr7] at hG;subst hG;exact ⟨[0,4],_,rfl,rfl,rfl,rfl,rfl⟩
       |ok a7 q7=>
        rw [hr7] at sp7;refine aS [0] (sp7 nofun) ?_;refine O _ (aN [4,9] rfl rfl ?_);clear O J K E;refine rz [4] ?_;refine awp_ret ?_;simp only [stmtF,eqW,bz,R.bind,h1,h2,h3,h4,h5,hr1,hr2,hr3,hr4,hr5,hr6,hr7] at hG;subst hG;exact ⟨_,[0],_,[encM _],rfl,rfl,rfl,rfl,rfl,(by first|exact PWs.refl _|(refine PWs.cons (PW.d ?_) PWs.nil;repeat (first|exact DW.refl _|refine DW.agg ?_|refine DWs.cons ?_ ?_|exact DWs.nil|exact DW.nil _))),rfl⟩
  |false=>
   refine aS [0] (hasP_no (GV t u) s _ q1 hr2) ?_;refine O _ (aN [0,4,9,68] rfl rfl ?_);clear O J K E;refine awp_cond rfl ?_;refine awp_skip ?_;refine rgs fun E K J O=>?_;show aCall _ _ _ _ _ _ _;have sp3:=takeP_spec t u s ⟨#[61]⟩ q1 hs
   cases hr3:takeF s ⟨#[61]⟩ q1 with
   |out=>
    simp only [stmtF,eqW,bz,R.bind,h1,h2,h3,h4,h5,hr1,hr2,hr3] at hG;exact absurd hG.symm hne
   |bad q3 c3=>
    rw [hr3] at sp3;refine aP [0] rfl rfl rfl (sp3 nofun) rfl rfl rfl rfl ?_;refine J _ _ ?_;simp only [stmtF,eqW,bz,R.bind,h1,h2,h3,h4,h5,hr1,hr2,hr3] at hG;subst hG;exact ⟨[0,4],_,rfl,rfl,rfl,rfl,rfl⟩
   |ok a3 q3=>
    rw [hr3] at sp3;refine aS [0] (sp3 nofun) ?_;refine O _ (aN [0,4,9] rfl rfl ?_);clear O J K E;refine awp_seq ?_;refine rgs fun E K J O=>?_;refine onB_intro (fun h6=>?_) (fun h6=>?_)
    ·show aCall _ _ _ _ _ _ _
     cases hr4:(q3.w.toList==(⟨#[99,97,108,108]⟩:ByteArray).toList) with
     |true=>
      refine aS [0] (hasP_yes (GV t u) s _ q3 hs hr4) ?_;refine O _ (aN [0,4,9,87] rfl rfl ?_);clear O J K E;refine awp_cond rfl ?_;refine rgs fun E K J O=>?_;show aCall _ _ _ _ _ _ _;have sp5:=nameP_spec t u s (nx s q3) hs
      cases hr5:nameF s (nx s q3) with
      |out=>
       simp only [stmtF,eqW,bz,R.bind,h1,h2,h3,h4,h5,hr1,hr2,hr3,hr4,hr5] at hG;exact absurd hG.symm hne
      |bad q5 c5=>
       rw [hr5] at sp5;refine aP [0] rfl rfl rfl (sp5 nofun) rfl rfl rfl rfl ?_;refine J _ _ ?_;simp only [stmtF,eqW,bz,R.bind,h1,h2,h3,h4,h5,hr1,hr2,hr3,hr4,hr5] at hG;subst hG;exact ⟨[0,4],_,rfl,rfl,rfl,rfl,rfl⟩
      |ok a5 q5=>
       rw [hr5] at sp5;refine aS [0] (sp5 nofun) ?_;refine O _ (aN [0,4,9] rfl rfl ?_);clear O J K E;refine rgs fun E K J O=>?_;show aCall _ _ _ _ _ _ _;have sp6:=takeP_spec t u s ⟨#[40]⟩ q5 hs
       cases hr6:takeF s ⟨#[40]⟩ q5 with
       |out=>
        simp only [stmtF,eqW,bz,R.bind,h1,h2,h3,h4,h5,hr1,hr2,hr3,hr4,hr5,hr6] at hG;exact absurd hG.symm hne
       |bad q6 c6=>
        rw [hr6] at sp6;refine aP [0] rfl rfl rfl (sp6 nofun) rfl rfl rfl rfl ?_;refine J _ _ ?_;simp only [stmtF,eqW,bz,R.bind,h1,h2,h3,h4,h5,hr1,hr2,hr3,hr4,hr5,hr6] at hG;subst hG;exact ⟨[0,4],_,rfl,rfl,rfl,rfl,rfl⟩
       |ok a6 q6=>
        rw [hr6] at sp6;refine aS [0] (sp6 nofun) ?_;refine O _ (aN [0,4,9] rfl rfl ?_);clear O J K E;refine awp_seq ?_;refine awp_block ?_;simp only [stmtF,eqW,bz,R.bind,h1,h2,h3,h4,h5,hr1,hr2,hr3,hr4,hr5,hr6] at hG;clear hr1 hr2 hr3 hr4 hr5 hr6;refine awp_loop (fun k Y=>∃acc q,acc.length+k≤n∧((argsL s k acc q).bind fun l q=>(takeF s ⟨#[59]⟩ q).bind fun _ q=>.ok (.mk ⟨#[99,97,108,108]⟩ a1 a5 l [] [] []) q)=r∧Y=⟨[(0,.box 0 0),(4,.box 1 0),(9,.box 2 0)],[rd s q,.box 217 zS,.box 217 [.d (str ⟨#[99,97,108,108]⟩),.d (str a1),.d (str a5),.acc 3,nilC,nilC,nilC],.acc 157 4 (exs acc)]⟩) (n) (⟨[],_,by simp,hG,rfl⟩) ?_;clear hG;rintro k Y ⟨acc,q,hk,hG,rfl⟩
        cases k with
        |zero=>simp only [argsL,R.bind] at hG;exact absurd hG.symm hne
        |succ m=>
         refine awp_seq ?_;refine rz [0,4,9,98] ?_;refine awp_cond2 rfl (onB_intro (fun h7=>?_) (fun h7=>?_))
         ·refine awp_skip ?_;refine awp_block ?_;refine awp_seq ?_;refine rz [0,4,9,102] ?_
          refine awp_cond2 rfl (onB_intro (fun h8=>?_) (fun h8=>?_))
          ·rw [exs_length] at h8
           refine rgn fun E K J O=>?_;show aCall _ _ _ _ _ _ _;have sp11:=takeP_spec t u s ⟨#[44]⟩ q hs
           cases hr11:takeF s ⟨#[44]⟩ q with
           |out=>
            simp only [argsL,eqW,R.bind,h7,h8,hr11] at hG;exact absurd hG.symm hne
           |bad q11 c11=>
            rw [hr11] at sp11;refine aP [0] rfl rfl rfl (sp11 nofun) rfl rfl rfl rfl ?_;refine J _ _ ?_;simp only [argsL,eqW,R.bind,h7,h8,hr11] at hG;subst hG;exact ⟨[0,4],_,rfl,rfl,rfl,rfl,rfl⟩
           |ok a11 q11=>
            rw [hr11] at sp11;refine aS [0] (sp11 nofun) ?_;refine O _ (aN [0,4,9] rfl rfl ?_);clear O J K E;refine (awp_draw TT_ok mixed p197_34 [7] (fun i=>Nat.beq i 2) (by kernel_rfl) fun E K J O=>?_)
            show aCall _ _ _ _ _ _ _
            have sp12:=termP_spec t u s hs4 m 1 q11
            cases hr12:termF s m 1 q11 with
            |out=>
             simp only [argsL,eqW,R.bind,h7,h8,hr11,hr12] at hG;exact absurd hG.symm hne
            |bad q12 c12=>
             rw [hr12] at sp12;refine aP [0] rfl rfl rfl (sp12 nofun) rfl rfl rfl rfl ?_;refine J _ _ ?_;simp only [argsL,eqW,R.bind,h7,h8,hr11,hr12] at hG;subst hG;exact ⟨[0,4],_,rfl,rfl,rfl,rfl,rfl⟩
            |ok a12 q12=>
             obtain ⟨o12,n12,m12,l12⟩:=a12;rw [hr12] at sp12;refine aS [0] (sp12 nofun) ?_;refine And.intro (And.intro (by simp only [chunk_length,exs_length];omega) (by simp only [chunk_length,exs_length,maxLen_eq];omega)) ?_;refine O _ ?_;clear O J K E;simp only [argsL,eqW,R.bind,h7,h8,hr11,hr12] at hG;exact ⟨m,Nat.lt_succ_self m,_,sub_norm (slots:=[0,4,9]) rfl rfl,_,_,by simp only [List.length_append,List.length_cons,List.length_nil];omega,hG,by rw [← exs_snoc];rfl⟩
          rw [exs_length] at h8;refine awp_skip ?_;refine (awp_draw TT_ok mixed p197_34 [7] (fun i=>Nat.beq i 2) (by kernel_rfl) fun E K J O=>?_)
          show aCall _ _ _ _ _ _ _
          have sp11:=termP_spec t u s hs4 m 1 q
          cases hr11:termF s m 1 q with
          |out=>
           simp only [argsL,eqW,R.bind,h7,h8,hr11] at hG;exact absurd hG.symm hne
          |bad q11 c11=>
           rw [hr11] at sp11;refine aP [0] rfl rfl rfl (sp11 nofun) rfl rfl rfl rfl ?_;refine J _ _ ?_;simp only [argsL,eqW,R.bind,h7,h8,hr11] at hG;subst hG;exact ⟨[0,4],_,rfl,rfl,rfl,rfl,rfl⟩
          |ok a11 q11=>
           obtain ⟨o11,n11,m11,l11⟩:=a11;rw [hr11] at sp11;refine aS [0] (sp11 nofun) ?_;refine And.intro (And.intro (by simp only [chunk_length,exs_length];omega) (by simp only [chunk_length,exs_length,maxLen_eq];omega)) ?_;refine O _ ?_;clear O J K E;simp only [argsL,eqW,R.bind,h7,h8,hr11] at hG;exact ⟨m,Nat.lt_succ_self m,_,sub_norm (slots:=[0,4,9]) rfl rfl,_,_,by simp only [List.length_append,List.length_cons,List.length_nil];omega,hG,by rw [← exs_snoc];rfl⟩
         refine awp_exit ?_;refine rgn fun E K J O=>?_;refine aS [0] (nextP_spec _ s q hs) ?_;refine O _ (aN [0,4,9] rfl rfl ?_);clear O J K E;refine rgs fun E K J O=>?_;show aCall _ _ _ _ _ _ _;have sp11:=takeP_spec t u s ⟨#[59]⟩ (nx s q) hs
         cases hr11:takeF s ⟨#[59]⟩ (nx s q) with
         |out=>
          simp only [argsL,eqW,R.bind,h7,hr11] at hG;exact absurd hG.symm hne
         |bad q11 c11=>
          rw [hr11] at sp11;refine aP [0] rfl rfl rfl (sp11 nofun) rfl rfl rfl rfl ?_;refine J _ _ ?_;simp only [argsL,eqW,R.bind,h7,hr11] at hG;subst hG;exact ⟨[0,4],_,rfl,rfl,rfl,rfl,rfl⟩
         |ok a11 q11=>
          rw [hr11] at sp11;refine aS [0] (sp11 nofun) ?_;refine O _ (aN [4,9] rfl rfl ?_);clear O J K E;refine rz [4] ?_;refine awp_ret ?_;simp only [argsL,eqW,R.bind,h7,hr11] at hG;subst hG;exact ⟨_,[0],_,[encM _],rfl,rfl,rfl,rfl,rfl,(by first|exact PWs.refl _|(refine PWs.cons (PW.d ?_) PWs.nil;repeat (first|exact DW.refl _|refine DW.agg ?_|refine DWs.cons ?_ ?_|exact DWs.nil|exact DW.nil _))),rfl⟩
     |false=>
      refine aS [0] (hasP_no (GV t u) s _ q3 hr4) ?_;refine O _ (aN [0,4,9,87] rfl rfl ?_);clear O J K E;refine awp_cond rfl ?_;refine (awp_draw TT_ok mixed p197_36 [7] (fun i=>Nat.beq i 2) (by kernel_rfl) fun E K J O=>?_)
      show aCall _ _ _ _ _ _ _
      have sp5:=termP_spec t u s hs4 n 1 q3
      cases hr5:termF s n 1 q3 with
      |out=>
       simp only [stmtF,eqW,bz,R.bind,h1,h2,h3,h4,h5,hr1,hr2,hr3,hr4,hr5] at hG;exact absurd hG.symm hne
      |bad q5 c5=>
       rw [hr5] at sp5;refine aP [0] rfl rfl rfl (sp5 nofun) rfl rfl rfl rfl ?_;refine J _ _ ?_;simp only [stmtF,eqW,bz,R.bind,h1,h2,h3,h4,h5,hr1,hr2,hr3,hr4,hr5] at hG;subst hG;exact ⟨[0,4],_,rfl,rfl,rfl,rfl,rfl⟩
      |ok a5 q5=>
       obtain ⟨o5,n5,m5,l5⟩:=a5;rw [hr5] at sp5;refine aS [0] (sp5 nofun) ?_;refine And.intro (And.intro (by simp only [chunk_length,List.length_nil];omega) (by simp only [chunk_length,List.length_nil,maxLen_eq];omega)) ?_;refine O _ (aN [0,4,9] rfl rfl ?_);clear O J K E;refine rgs fun E K J O=>?_;show aCall _ _ _ _ _ _ _;have sp6:=takeP_spec t u s ⟨#[59]⟩ q5 hs
       cases hr6:takeF s ⟨#[59]⟩ q5 with
       |out=>
        simp only [stmtF,eqW,bz,R.bind,h1,h2,h3,h4,h5,hr1,hr2,hr3,hr4,hr5,hr6] at hG;exact absurd hG.symm hne
       |bad q6 c6=>
        rw [hr6] at sp6;refine aP [0] rfl rfl rfl (sp6 nofun) rfl rfl rfl rfl ?_;refine J _ _ ?_;simp only [stmtF,eqW,bz,R.bind,h1,h2,h3,h4,h5,hr1,hr2,hr3,hr4,hr5,hr6] at hG;subst hG;exact ⟨[0,4],_,rfl,rfl,rfl,rfl,rfl⟩
       |ok a6 q6=>
        rw [hr6] at sp6;refine aS [0] (sp6 nofun) ?_;refine O _ (aN [4,9] rfl rfl ?_);clear O J K E;refine rz [4] ?_;refine awp_ret ?_;simp only [stmtF,eqW,bz,R.bind,h1,h2,h3,h4,h5,hr1,hr2,hr3,hr4,hr5,hr6] at hG;subst hG;exact ⟨_,[0],_,[encM _],rfl,rfl,rfl,rfl,rfl,(by first|exact PWs.refl _|(refine PWs.cons (PW.d ?_) PWs.nil;repeat (first|exact DW.refl _|refine DW.agg ?_|refine DWs.cons ?_ ?_|exact DWs.nil|exact DW.nil _))),rfl⟩
    exact absurd h6 (by simp only [ByteArray.toList_eq];decide)
theorem stmts_ok(s:ByteArray)(hs4:s.size≤4000):∀n,n≤1000000→StmtOk t u s n∧BlockOk t u s n:=by
 intro n
 induction n using Nat.strongRecOn with
 |_ n ih=>
  intro hn
  cases n with
  |zero=>exact ⟨fun d p h=>absurd (by simp only [stmtF]) h,fun d p h=>absurd (by simp only [blockF]) h⟩
  |succ n=>exact ⟨stmt_step t u s hs4 n (by omega) fun m hm=>(ih m (by omega) (by omega)).2,block_step t u s hs4 n (by omega) fun m hm=>(ih m (by omega) (by omega)).1⟩
theorem stmtP_spec(s:ByteArray)(hs4:s.size≤4000)(n:Nat)(hn:n≤1000000):StmtOk t u s n:=(stmts_ok t u s hs4 n hn).1
theorem blockP_spec(s:ByteArray)(hs4:s.size≤4000)(n:Nat)(hn:n≤1000000):BlockOk t u s n:=(stmts_ok t u s hs4 n hn).2
end
end Go.Abs
end
section
namespace Go.Abs
open Go Go.Proofs
attribute [local irreducible] aCall AWp Sub Spec
inductive R2 (s:ByteArray) where
 |ok (e:Ex) (p:PS s)
 |bad (oe:Option Ex) (p:PS s) (c:Nat)
 |out
def retF(s:ByteArray)(n:Nat)(p:PS s):R2 s:=match takeF s ⟨#[114,101,116,117,114,110]⟩ p with
 |.bad q c=>.bad none q c
 |.out=>.out
 |.ok _ q=>match termF s n 1 q with
  |.bad q c=>.bad none q c
  |.out=>.out
  |.ok e q=>match takeF s ⟨#[59]⟩ q with
   |.bad q c=>.bad (some e) q c
   |.out=>.out
   |.ok _ q=>.ok e q
def retC:Option Ex→List PV
 |none=>zE
 |some (.mk o n m l)=>cE o n m l
inductive R3 (s:ByteArray) where
 |ok (l:List Sm) (e:Ex) (p:PS s)
 |bad (oe:Option Ex) (p:PS s) (c:Nat)
 |out
def blockQ(s:ByteArray)(n:Nat)(d:Int)(p:PS s):R3 s:=match takeF s ⟨#[123]⟩ p with
 |.bad q c=>.bad none q c
 |.out=>.out
 |.ok _ q=>match stmtsL s n d [] q with
  |.bad q c=>.bad none q c
  |.out=>.out
  |.ok l q=>match retF s n q with
   |.bad oe q c=>.bad oe q c
   |.out=>.out
   |.ok e q=>match takeF s ⟨#[125]⟩ q with
    |.bad q c=>.bad (some e) q c
    |.out=>.out
    |.ok _ q=>.ok l e q
section
variable (t:Nat→TypeId) (u:Nat→Value)
def boxP(nm:ByteArray)(x:Data)(oe:Option Ex):Row:=.box 159 (.d (str nm)::.d x::nilC::retC oe)
def out2{s:ByteArray}:R2 s→Out
 |.ok _ _=>.ret (.tup [])
 |_=>.pan (.ifc 128 (.box 3 0))
def rows2{s:ByteArray}(nm:ByteArray)(x:Data):R2 s→List Row
 |.ok e q=>[rd s q,.box 130 [.box 0 0],boxP nm x (some e)]
 |.bad oe q c=>[rd s q,.box 130 [.box 0 0],boxP nm x oe,flt q.i (t c) (u c)]
 |.out=>[]
def out3{s:ByteArray}:R3 s→Out
 |.ok l _ _=>.ret (encL l)
 |_=>.pan (.ifc 128 (.box 3 0))
def rows3{s:ByteArray}(nm:ByteArray)(x:Data):R3 s→List Row
 |.ok _ e q=>[rd s q,.box 130 [.box 0 0],boxP nm x (some e)]
 |.bad oe q c=>[rd s q,.box 130 [.box 0 0],boxP nm x oe,flt q.i (t c) (u c)]
 |.out=>[]
theorem ret_spec(s:ByteArray)(hs4:s.size≤4000)(n:Nat)(p:PS s)(nm:ByteArray)(x:Data)(hne:retF s n p≠.out):Spec Tryz.prog (GV t u) 139 [.box 1 0,.box 2 0] [rd s p,.box 130 [.box 0 0],boxP nm x none] (out2 (retF s n p)) (rows2 t u nm x (retF s n p)):=by
 obtain ⟨r,hG⟩:∃r,retF s n p=r:=⟨_,rfl⟩;rw [hG] at hne ⊢
 have hs:s.size<4611686018427387904:=by omega
 refine spec_of_awp2 TT_ok (N:=9) Tryz.func139 rfl (by rfl) ((by cases r <;> simp [rows2] at hne ⊢)) rfl ?_
 refine rgs fun E K J O=>?_;show aCall _ _ _ _ _ _ _;have sp1:=takeP_spec t u s ⟨#[114,101,116,117,114,110]⟩ p hs
 cases hr1:takeF s ⟨#[114,101,116,117,114,110]⟩ p with
 |out=>
  simp only [retF,hr1] at hG;exact absurd hG.symm hne
 |bad q1 c1=>
  rw [hr1] at sp1;refine aP [0] rfl rfl rfl (sp1 nofun) rfl rfl rfl rfl ?_;refine J _ _ ?_;simp only [retF,hr1] at hG;subst hG;exact ⟨[0,1,2,3],_,rfl,rfl,rfl,rfl,rfl⟩
 |ok a1 q1=>
  rw [hr1] at sp1;refine aS [0] (sp1 nofun) ?_;refine O _ (aN [0,1] rfl rfl ?_);clear O J K E;refine rgs fun E K J O=>?_;show aCall _ _ _ _ _ _ _;have sp2:=termP_spec t u s hs4 n 1 q1
  cases hr2:termF s n 1 q1 with
  |out=>
   simp only [retF,hr1,hr2] at hG;exact absurd hG.symm hne
  |bad q2 c2=>
   rw [hr2] at sp2;refine aP [0] rfl rfl rfl (sp2 nofun) rfl rfl rfl rfl ?_;refine J _ _ ?_;simp only [retF,hr1,hr2] at hG;subst hG;exact ⟨[0,1,2,3],_,rfl,rfl,rfl,rfl,rfl⟩
  |ok a2 q2=>
   obtain ⟨o2,n2,m2,l2⟩:=a2;rw [hr2] at sp2;refine aS [0] (sp2 nofun) ?_;refine O _ (aN [0] rfl rfl ?_);clear O J K E;refine rgn fun E K J O=>?_;show aCall _ _ _ _ _ _ _;have sp3:=takeP_spec t u s ⟨#[59]⟩ q2 hs
   cases hr3:takeF s ⟨#[59]⟩ q2 with
   |out=>
    simp only [retF,hr1,hr2,hr3] at hG;exact absurd hG.symm hne
   |bad q3 c3=>
    rw [hr3] at sp3;refine aP [0] rfl rfl rfl (sp3 nofun) rfl rfl rfl rfl ?_;refine J _ _ ?_;simp only [retF,hr1,hr2,hr3] at hG;subst hG;exact ⟨[0,1,2,3],_,rfl,rfl,rfl,rfl,rfl⟩
   |ok a3 q3=>
    rw [hr3] at sp3;refine aS [0] (sp3 nofun) ?_;refine O _ ?_;clear O J K E;simp only [retF,hr1,hr2,hr3] at hG;subst hG;exact ⟨_,[0,1,2],_,[],rfl,rfl,rfl,rfl,rfl,PWs.refl _,rfl⟩
theorem blockQ_spec(s:ByteArray)(hs4:s.size≤4000)(n:Nat)(hn:n≤1000000)(d:Int)(p:PS s)(nm:ByteArray)(x:Data)(hne:blockQ s n d p≠.out):Spec Tryz.prog (GV t u) 138 [.box 0 0,.d (num d),.fn 139 [.box 1 0,.box 2 0]] [rd s p,.box 130 [.box 0 0],boxP nm x none] (out3 (blockQ s n d p)) (rows3 t u nm x (blockQ s n d p)):=by
 obtain ⟨r,hG⟩:∃r,blockQ s n d p=r:=⟨_,rfl⟩;rw [hG] at hne ⊢
 have hs:s.size<4611686018427387904:=by omega
 refine spec_of_awp2 TT_ok (N:=38) Tryz.func138 rfl (by rfl) ((by cases r <;> simp [rows3] at hne ⊢)) rfl ?_
 refine rz [0,1,2] ?_;refine rgs fun E K J O=>?_;show aCall _ _ _ _ _ _ _;have sp1:=takeP_spec t u s ⟨#[123]⟩ p hs
 cases hr1:takeF s ⟨#[123]⟩ p with
 |out=>
  simp only [blockQ,hr1] at hG;exact absurd hG.symm hne
 |bad q1 c1=>
  rw [hr1] at sp1;refine aP [0] rfl rfl rfl (sp1 nofun) rfl rfl rfl rfl ?_;refine J _ _ ?_;simp only [blockQ,hr1] at hG;subst hG;exact ⟨[0,1,2,3],_,rfl,rfl,rfl,rfl,rfl⟩
 |ok a1 q1=>
  rw [hr1] at sp1;refine aS [0] (sp1 nofun) ?_;refine O _ (aN [0,1,2] rfl rfl ?_);clear O J K E;refine rz [0,1,2,7] ?_;refine awp_acc 7 217 7 rfl rfl rfl ?_;refine awp_norm [0,1,2,7] rfl rfl ?_;refine awp_seq ?_;refine awp_block ?_;simp only [blockQ,hr1] at hG;clear hr1 sp1;refine awp_loop (fun k Y=>∃acc q,acc.length+k≤n∧(match stmtsL s k d acc q with | .bad q c=>.bad none q c | .out=>.out | .ok l q=>match retF s n q with | .bad oe q c=>.bad oe q c | .out=>.out | .ok e q=>match takeF s ⟨#[125]⟩ q with | .bad q c=>.bad (some e) q c | .out=>.out | .ok _ q=>.ok l e q:R3 s)=r∧Y=⟨[(0,.box 0 0),(1,.d (num d)),(2,.fn 139 [.box 1 0,.box 2 0]),(7,.acc 3)],[rd s q,.box 130 [.box 0 0],boxP nm x none,.acc 217 7 (sms acc)]⟩) (n) (⟨[],_,by simp,hG,rfl⟩) ?_;clear hG;rintro k Y ⟨acc,q,hk,hG,rfl⟩
  cases k with
  |zero=>simp only [stmtsL] at hG;exact absurd hG.symm hne
  |succ m=>
   refine awp_seq ?_;refine rgs fun E K J O=>?_;refine onB_intro (fun h1=>?_) (fun h1=>?_)
   ·refine O _ (aN [0,1,2,7,21] rfl rfl ?_);clear O J K E
    refine awp_cond2 rfl (onB_intro (fun h2=>?_) (fun h2=>?_))
    ·refine awp_skip ?_;refine awp_block ?_;refine awp_seq ?_;refine rz [0,1,2,7,23] ?_
     refine awp_cond2 rfl (onB_intro (fun h3=>?_) (fun h3=>?_))
     ·refine rgn fun E K J O=>?_;show aCall _ _ _ _ _ _ _
      refine aP [0] rfl rfl rfl (fail_spec (GV t u) 132 s _ _ (t 0) (u 0)) rfl rfl rfl rfl ?_;refine J _ _ ?_;simp only [stmtsL,eqW,bz,h1,h2,h3] at hG;subst hG;exact ⟨[0,1,2,4],_,rfl,rfl,rfl,rfl,rfl⟩
     refine awp_skip ?_;refine rgn fun E K J O=>?_;show aCall _ _ _ _ _ _ _;have sp2:=stmtP_spec t u s hs4 m (by omega) d q
     cases hr2:stmtF s m d q with
     |out=>
      simp only [stmtsL,eqW,bz,R.bind,h1,h2,h3,hr2] at hG;exact absurd hG.symm hne
     |bad q2 c2=>
      rw [hr2] at sp2;refine aP [0] rfl rfl rfl (sp2 nofun) rfl rfl rfl rfl ?_;refine J _ _ ?_;simp only [stmtsL,eqW,bz,R.bind,h1,h2,h3,hr2] at hG;subst hG;exact ⟨[0,1,2,4],_,rfl,rfl,rfl,rfl,rfl⟩
     |ok a2 q2=>
      obtain ⟨x2,y2,z2,l2,c2,b2,e2⟩:=a2;rw [hr2] at sp2;refine aS [0] (sp2 nofun) ?_;refine And.intro (And.intro (by simp only [chunk_length,sms_length];omega) (by simp only [chunk_length,sms_length,maxLen_eq];omega)) ?_;refine O _ ?_;clear O J K E;simp only [stmtsL,eqW,bz,R.bind,h1,h2,h3,hr2] at hG;exact ⟨m,Nat.lt_succ_self m,_,sub_norm (slots:=[0,1,2,7]) rfl rfl,_,_,by simp only [List.length_append,List.length_cons,List.length_nil];omega,hG,by rw [← sms_snoc];rfl⟩
    refine awp_exit ?_;refine rgs fun E K J O=>?_;show aCall _ _ _ _ _ _ _;have sp2:=ret_spec t u s hs4 n q nm x
    cases hr2:retF s n q with
    |out=>
     simp only [stmtsL,eqW,bz,h1,h2,hr2] at hG;exact absurd hG.symm hne
    |bad oe q2 c2=>
     rw [hr2] at sp2
     cases oe with
     |none=>
      refine aP [0,1,2] rfl rfl rfl (sp2 nofun) rfl rfl rfl rfl ?_;refine J _ _ ?_;simp only [stmtsL,eqW,bz,h1,h2,hr2] at hG;subst hG;exact ⟨[0,1,2,4],_,rfl,rfl,rfl,rfl,rfl⟩
     |some ex=>
      obtain ⟨o9,n9,m9,l9⟩:=ex;refine aP [0,1,2] rfl rfl rfl (sp2 nofun) rfl rfl rfl rfl ?_;refine J _ _ ?_;simp only [stmtsL,eqW,bz,h1,h2,hr2] at hG;subst hG;exact ⟨[0,1,2,4],_,rfl,rfl,rfl,rfl,rfl⟩
    |ok a2 q2=>
     obtain ⟨o9,n9,m9,l9⟩:=a2;rw [hr2] at sp2;refine aS [0,1,2] (sp2 nofun) ?_;refine O _ (aN [0,7] rfl rfl ?_);clear O J K E;refine rgs fun E K J O=>?_;show aCall _ _ _ _ _ _ _;have sp3:=takeP_spec t u s ⟨#[125]⟩ q2 hs
     cases hr3:takeF s ⟨#[125]⟩ q2 with
     |out=>
      simp only [stmtsL,eqW,bz,h1,h2,hr2,hr3] at hG;exact absurd hG.symm hne
     |bad q3 c3=>
      rw [hr3] at sp3;refine aP [0] rfl rfl rfl (sp3 nofun) rfl rfl rfl rfl ?_;refine J _ _ ?_;simp only [stmtsL,eqW,bz,h1,h2,hr2,hr3] at hG;subst hG;exact ⟨[0,1,2,4],_,rfl,rfl,rfl,rfl,rfl⟩
     |ok a3 q3=>
      rw [hr3] at sp3;refine aS [0] (sp3 nofun) ?_;refine O _ (aN [7] rfl rfl ?_);clear O J K E;refine rz [6] ?_;refine awp_ret ?_;simp only [stmtsL,eqW,bz,h1,h2,hr2,hr3] at hG;subst hG;exact ⟨_,[0,1,2],_,[encL _],rfl,rfl,rfl,rfl,rfl,PWs.refl _,rfl⟩
   refine O _ (aN [0,1,2,7,21] rfl rfl ?_);clear O J K E;refine awp_cond rfl ?_;refine awp_exit ?_;refine rgs fun E K J O=>?_;show aCall _ _ _ _ _ _ _;have sp2:=ret_spec t u s hs4 n q nm x
   cases hr2:retF s n q with
   |out=>
    simp only [stmtsL,eqW,bz,h1,hr2] at hG;exact absurd hG.symm hne
   |bad oe q2 c2=>
    rw [hr2] at sp2
    cases oe with
    |none=>
     refine aP [0,1,2] rfl rfl rfl (sp2 nofun) rfl rfl rfl rfl ?_;refine J _ _ ?_;simp only [stmtsL,eqW,bz,h1,hr2] at hG;subst hG;exact ⟨[0,1,2,4],_,rfl,rfl,rfl,rfl,rfl⟩
    |some ex=>
     obtain ⟨o9,n9,m9,l9⟩:=ex;refine aP [0,1,2] rfl rfl rfl (sp2 nofun) rfl rfl rfl rfl ?_;refine J _ _ ?_;simp only [stmtsL,eqW,bz,h1,hr2] at hG;subst hG;exact ⟨[0,1,2,4],_,rfl,rfl,rfl,rfl,rfl⟩
   |ok a2 q2=>
    obtain ⟨o9,n9,m9,l9⟩:=a2;rw [hr2] at sp2;refine aS [0,1,2] (sp2 nofun) ?_;refine O _ (aN [0,7] rfl rfl ?_);clear O J K E;refine rgs fun E K J O=>?_;show aCall _ _ _ _ _ _ _;have sp3:=takeP_spec t u s ⟨#[125]⟩ q2 hs
    cases hr3:takeF s ⟨#[125]⟩ q2 with
    |out=>
     simp only [stmtsL,eqW,bz,h1,hr2,hr3] at hG;exact absurd hG.symm hne
    |bad q3 c3=>
     rw [hr3] at sp3;refine aP [0] rfl rfl rfl (sp3 nofun) rfl rfl rfl rfl ?_;refine J _ _ ?_;simp only [stmtsL,eqW,bz,h1,hr2,hr3] at hG;subst hG;exact ⟨[0,1,2,4],_,rfl,rfl,rfl,rfl,rfl⟩
    |ok a3 q3=>
     rw [hr3] at sp3;refine aS [0] (sp3 nofun) ?_;refine O _ (aN [7] rfl rfl ?_);clear O J K E;refine rz [6] ?_;refine awp_ret ?_;simp only [stmtsL,eqW,bz,h1,hr2,hr3] at hG;subst hG;exact ⟨_,[0,1,2],_,[encL _],rfl,rfl,rfl,rfl,rfl,PWs.refl _,rfl⟩
end
end Go.Abs
end
section
namespace Go.Abs
open Go Go.Proofs
attribute [local irreducible] aCall AWp Sub Spec
def varsL(s:ByteArray):Nat→List ByteArray→PS s→R s (List ByteArray)
 |0,_,_=>.out
 |n+1,acc,p=>match eqW p.w ⟨#[118,97,114]⟩ with
  |true=>(nameF s (nx s p)).bind fun m q=>(takeF s ⟨#[59]⟩ q).bind fun _ q=>varsL s n (acc++[m]) q
  |false=>.ok acc p
def arrsL(s:ByteArray):Nat→List Ar→PS s→R s (List Ar)
 |0,_,_=>.out
 |n+1,acc,p=>match eqW p.w ⟨#[97,114,114,97,121]⟩ with
  |true=>(nameF s (nx s p)).bind fun m q=>(takeF s ⟨#[91]⟩ q).bind fun _ q=>(numberF s q).bind fun k q=>(takeF s ⟨#[93]⟩ q).bind fun _ q=>(takeF s ⟨#[59]⟩ q).bind fun _ q=>arrsL s n (acc++[⟨m,k⟩]) q
  |false=>.ok acc p
def prmL(s:ByteArray):Nat→List ByteArray→PS s→R s (List ByteArray)
 |0,_,_=>.out
 |n+1,acc,p=>match (!eqW p.w ⟨#[41]⟩) with
  |true=>match decide ((acc.length:Int)>0) with
   |true=>(takeF s ⟨#[44]⟩ p).bind fun _ q=>(nameF s q).bind fun m q=>prmL s n (acc++[m]) q
   |false=>(nameF s p).bind fun m q=>prmL s n (acc++[m]) q
  |false=>.ok acc (nx s p)
def procsL(s:ByteArray):Nat→List Pc→PS s→R s (List Pc)
 |0,_,_=>.out
 |n+1,acc,p=>match eqW p.w ⟨#[112,114,111,99]⟩ with
  |true=>(nameF s (nx s p)).bind fun m q=>(takeF s ⟨#[40]⟩ q).bind fun _ q=>(prmL s n [] q).bind fun l q=>match blockQ s n 1 q with
   |.bad _ q c=>.bad q c
   |.out=>.out
   |.ok b e q=>procsL s n (acc++[⟨m,l,b,e⟩]) q
  |false=>.ok acc p
def progF(s:ByteArray)(n:Nat)(p:PS s):R s Pg:=(varsL s n [] p).bind fun v q=>(arrsL s n [] q).bind fun a q=>(procsL s n [] q).bind fun f q=>(takeF s ⟨#[109,97,105,110]⟩ q).bind fun _ q=>(blockF s n 1 q).bind fun b q=>(takeF s ⟨#[]⟩ q).bind fun _ q=>.ok ⟨v,a,f,b⟩ q
def encP:Pg→PV:=fun p=>.d (.agg p.cs)
def ars(l:List Ar):List (List Data):=l.map Ar.cs
def pcs(l:List Pc):List (List Data):=l.map Pc.cs
theorem strs_snoc(l:List ByteArray)(x:ByteArray):strs l++[[str x]]=strs (l++[x]):=by simp [strs]
theorem ars_snoc(l:List Ar)(x:Ar):ars l++[x.cs]=ars (l++[x]):=by simp [ars]
theorem pcs_snoc(l:List Pc)(x:Pc):pcs l++[x.cs]=pcs (l++[x]):=by simp [pcs]
theorem ars_length(l:List Ar):(ars l).length=l.length:=by simp [ars]
theorem pcs_length(l:List Pc):(pcs l).length=l.length:=by simp [pcs]
def zP:List PV:=[nilC,nilC,nilC,nilC]
def PgS(s:ByteArray)(q:PS s)(v:List ByteArray)(a:List Ar)(f:List Pc):List Row:=[rd s q,.box 130 [.box 0 0],.box 28 zP,.box 28 [.acc 4,.acc 5,.acc 6,nilC],.acc 9 1 (strs v),.acc 169 2 (ars a),.acc 159 7 (pcs f)]
section
variable (t:Nat→TypeId) (u:Nat→Value)
def p56_3:Plan:=(.take 0 (.load 1 (.load 2 (.one 3 (.one 4 (.one 5 (.take 6 (.one 7 .done))))))))
def p56_18:Plan:=(.take 0 (.load 1 (.load 2 (.one 3 (.one 4 (.one 5 (.take 6 (.one 7 .done))))))))
theorem progP_spec(s:ByteArray)(hs4:s.size≤4000)(n:Nat)(hn:n≤1000000)(p:PS s):PSpec t u 56 [.box 0 0] s p encP (progF s n p):=by
 intro hne;obtain ⟨r,hG⟩:∃r,progF s n p=r:=⟨_,rfl⟩;rw [hG] at hne ⊢
 have hs:s.size<4611686018427387904:=by omega
 refine spec_of_awp2 TT_ok (N:=82) Tryz.func56 rfl (by rfl) ((by cases r <;> simp [rowsR] at hne ⊢)) rfl ?_
 refine rz [1,2] ?_;refine rz [1,2,3] ?_;refine awp_accCell 3 0 9 1 rfl rfl rfl rfl ?_;refine awp_accCell 3 1 169 2 rfl rfl rfl rfl ?_;refine awp_accCell 3 2 159 7 rfl rfl rfl rfl ?_;refine awp_norm [1,2,3] rfl rfl ?_;refine awp_seq ?_;refine awp_block ?_;simp only [progF] at hG;refine awp_loop (fun k Y=>∃v q,v.length+k≤n∧((varsL s k v q).bind fun v q=>((arrsL s n [] q).bind fun a q=>(procsL s n [] q).bind fun f q=>(takeF s ⟨#[109,97,105,110]⟩ q).bind fun _ q=>(blockF s n 1 q).bind fun b q=>(takeF s ⟨#[]⟩ q).bind fun _ q=>.ok ⟨v,a,f,b⟩ q))=r∧Y=⟨[(1,.box 1 0),(2,.box 2 0),(3,.box 3 0)],PgS s q v [] []⟩) (n) (⟨[],p,by simp,hG,rfl⟩) ?_;clear hG;rintro k Y ⟨v,q,hk,hG,rfl⟩
 cases k with
 |zero=>simp only [varsL,R.bind] at hG;exact absurd hG.symm hne
 |succ m=>
  refine awp_seq ?_;refine rgs fun E K J O=>?_;show aCall _ _ _ _ _ _ _
  cases hr1:(q.w.toList==(⟨#[118,97,114]⟩:ByteArray).toList) with
  |true=>
   refine aS [0] (hasP_yes (GV t u) s _ q hs hr1) ?_;refine O _ (aN [1,2,3,7] rfl rfl ?_);clear O J K E;refine awp_cond rfl ?_;refine awp_skip ?_;refine awp_block ?_;refine awp_seq ?_;refine (awp_draw TT_ok mixed p56_3 [7] (fun i=>Nat.beq i 1||Nat.beq i 3) (by kernel_rfl) fun E K J O=>?_)
   show aCall _ _ _ _ _ _ _
   have sp2:=nameP_spec t u s (nx s q) hs
   cases hr2:nameF s (nx s q) with
   |out=>
    simp only [varsL,eqW,R.bind,hr1,hr2] at hG;exact absurd hG.symm hne
   |bad q2 c2=>
    rw [hr2] at sp2;refine aP [0] rfl rfl rfl (sp2 nofun) rfl rfl rfl rfl ?_;refine J _ _ ?_;simp only [varsL,eqW,R.bind,hr1,hr2] at hG;subst hG;exact ⟨[0,7],_,rfl,rfl,rfl,rfl,rfl⟩
   |ok a2 q2=>
    rw [hr2] at sp2;refine aS [0] (sp2 nofun) ?_;refine And.intro (And.intro (by simp only [chunk_length,strs_length];omega) (by simp only [chunk_length,strs_length,maxLen_eq];omega)) ?_;refine O _ (aN [1,2,3] rfl rfl ?_);clear O J K E;refine rgn fun E K J O=>?_;show aCall _ _ _ _ _ _ _;have sp3:=takeP_spec t u s ⟨#[59]⟩ q2 hs
    cases hr3:takeF s ⟨#[59]⟩ q2 with
    |out=>
     simp only [varsL,eqW,R.bind,hr1,hr2,hr3] at hG;exact absurd hG.symm hne
    |bad q3 c3=>
     rw [hr3] at sp3;refine aP [0] rfl rfl rfl (sp3 nofun) rfl rfl rfl rfl ?_;refine J _ _ ?_;simp only [varsL,eqW,R.bind,hr1,hr2,hr3] at hG;subst hG;exact ⟨[0,7],_,rfl,rfl,rfl,rfl,rfl⟩
    |ok a3 q3=>
     rw [hr3] at sp3;refine aS [0] (sp3 nofun) ?_;refine O _ ?_;clear O J K E;simp only [varsL,eqW,R.bind,hr1,hr2,hr3] at hG;exact ⟨m,Nat.lt_succ_self m,_,sub_pick (L:=[0,1,2,3,4,5,6]) (slots:=[1,2,3]) rfl rfl rfl rfl rfl,_,_,by simp only [List.length_append,List.length_cons,List.length_nil];omega,hG,by unfold PgS;rw [← strs_snoc];rfl⟩
  |false=>
   refine aS [0] (hasP_no (GV t u) s _ q hr1) ?_;refine O _ (aN [1,2,3,7] rfl rfl ?_);clear O J K E;refine awp_cond rfl ?_;refine awp_exit ?_;refine awp_norm [1,2,3] rfl rfl ?_;refine awp_seq ?_;refine awp_block ?_;simp only [varsL,eqW,R.bind,hr1] at hG;refine awp_loop (fun k Y=>∃a q,a.length+k≤n∧((arrsL s k a q).bind fun a q=>((procsL s n [] q).bind fun f q=>(takeF s ⟨#[109,97,105,110]⟩ q).bind fun _ q=>(blockF s n 1 q).bind fun b q=>(takeF s ⟨#[]⟩ q).bind fun _ q=>.ok ⟨v,a,f,b⟩ q))=r∧Y=⟨[(1,.box 1 0),(2,.box 2 0),(3,.box 3 0)],PgS s q v a []⟩) (n) (⟨[],q,by simp,hG,rfl⟩) ?_;clear hG;rintro k Y ⟨a,qq,hk2,hG,rfl⟩
   cases k with
   |zero=>simp only [arrsL,R.bind] at hG;exact absurd hG.symm hne
   |succ m=>
    refine awp_seq ?_;refine rgs fun E K J O=>?_;show aCall _ _ _ _ _ _ _
    cases hr11:(qq.w.toList==(⟨#[97,114,114,97,121]⟩:ByteArray).toList) with
    |true=>
     refine aS [0] (hasP_yes (GV t u) s _ qq hs hr11) ?_;refine O _ (aN [1,2,3,18] rfl rfl ?_);clear O J K E;refine awp_cond rfl ?_;refine awp_skip ?_;refine awp_block ?_;refine rgs fun E K J O=>?_;show aCall _ _ _ _ _ _ _;have sp12:=nameP_spec t u s (nx s qq) hs
     cases hr12:nameF s (nx s qq) with
     |out=>
      simp only [arrsL,eqW,R.bind,hr11,hr12] at hG;exact absurd hG.symm hne
     |bad q12 c12=>
      rw [hr12] at sp12;refine aP [0] rfl rfl rfl (sp12 nofun) rfl rfl rfl rfl ?_;refine J _ _ ?_;simp only [arrsL,eqW,R.bind,hr11,hr12] at hG;subst hG;exact ⟨[0,7],_,rfl,rfl,rfl,rfl,rfl⟩
     |ok a12 q12=>
      rw [hr12] at sp12;refine aS [0] (sp12 nofun) ?_;refine O _ (aN [1,2,3,4] rfl rfl ?_);clear O J K E;refine rgs fun E K J O=>?_;show aCall _ _ _ _ _ _ _;have sp13:=takeP_spec t u s ⟨#[91]⟩ q12 hs
      cases hr13:takeF s ⟨#[91]⟩ q12 with
      |out=>
       simp only [arrsL,eqW,R.bind,hr11,hr12,hr13] at hG;exact absurd hG.symm hne
      |bad q13 c13=>
       rw [hr13] at sp13;refine aP [0] rfl rfl rfl (sp13 nofun) rfl rfl rfl rfl ?_;refine J _ _ ?_;simp only [arrsL,eqW,R.bind,hr11,hr12,hr13] at hG;subst hG;exact ⟨[0,8],_,rfl,rfl,rfl,rfl,rfl⟩
      |ok a13 q13=>
       rw [hr13] at sp13;refine aS [0] (sp13 nofun) ?_;refine O _ (aN [1,2,3,4] rfl rfl ?_);clear O J K E;refine rgs fun E K J O=>?_;show aCall _ _ _ _ _ _ _;have sp14:=numberP_spec t u s q13 hs4
       cases hr14:numberF s q13 with
       |out=>
        simp only [arrsL,eqW,R.bind,hr11,hr12,hr13,hr14] at hG;exact absurd hG.symm hne
       |bad q14 c14=>
        rw [hr14] at sp14;refine aP [0] rfl rfl rfl (sp14 nofun) rfl rfl rfl rfl ?_;refine J _ _ ?_;simp only [arrsL,eqW,R.bind,hr11,hr12,hr13,hr14] at hG;subst hG;exact ⟨[0,8],_,rfl,rfl,rfl,rfl,rfl⟩
       |ok a14 q14=>
        rw [hr14] at sp14;refine aS [0] (sp14 nofun) ?_;refine O _ (aN [1,2,3,4] rfl rfl ?_);clear O J K E;refine rgs fun E K J O=>?_;show aCall _ _ _ _ _ _ _;have sp15:=takeP_spec t u s ⟨#[93]⟩ q14 hs
        cases hr15:takeF s ⟨#[93]⟩ q14 with
        |out=>
         simp only [arrsL,eqW,R.bind,hr11,hr12,hr13,hr14,hr15] at hG;exact absurd hG.symm hne
        |bad q15 c15=>
         rw [hr15] at sp15;refine aP [0] rfl rfl rfl (sp15 nofun) rfl rfl rfl rfl ?_;refine J _ _ ?_;simp only [arrsL,eqW,R.bind,hr11,hr12,hr13,hr14,hr15] at hG;subst hG;exact ⟨[0,8],_,rfl,rfl,rfl,rfl,rfl⟩
        |ok a15 q15=>
         rw [hr15] at sp15;refine aS [0] (sp15 nofun) ?_;refine O _ (aN [1,2,3,4] rfl rfl ?_);clear O J K E;refine rgs fun E K J O=>?_;show aCall _ _ _ _ _ _ _;have sp16:=takeP_spec t u s ⟨#[59]⟩ q15 hs
         cases hr16:takeF s ⟨#[59]⟩ q15 with
         |out=>
          simp only [arrsL,eqW,R.bind,hr11,hr12,hr13,hr14,hr15,hr16] at hG;exact absurd hG.symm hne
         |bad q16 c16=>
          rw [hr16] at sp16;refine aP [0] rfl rfl rfl (sp16 nofun) rfl rfl rfl rfl ?_;refine J _ _ ?_;simp only [arrsL,eqW,R.bind,hr11,hr12,hr13,hr14,hr15,hr16] at hG;subst hG;exact ⟨[0,8],_,rfl,rfl,rfl,rfl,rfl⟩
         |ok a16 q16=>
          rw [hr16] at sp16;refine aS [0] (sp16 nofun) ?_;refine O _ (aN [1,2,3,4] rfl rfl ?_);clear O J K E;refine rgn fun E K J O=>?_;refine And.intro (And.intro (by simp only [chunk_length,ars_length];omega) (by simp only [chunk_length,ars_length,maxLen_eq];omega)) ?_;refine O _ ?_;clear O J K E;simp only [arrsL,eqW,R.bind,hr11,hr12,hr13,hr14,hr15,hr16] at hG;exact ⟨m,Nat.lt_succ_self m,_,sub_pick (L:=[0,1,2,3,4,5,6]) (slots:=[1,2,3]) rfl rfl rfl rfl rfl,_,_,by simp only [List.length_append,List.length_cons,List.length_nil];omega,hG,by unfold PgS;rw [← ars_snoc];rfl⟩
    |false=>
     refine aS [0] (hasP_no (GV t u) s _ qq hr11) ?_;refine O _ (aN [1,2,3,18] rfl rfl ?_);clear O J K E;refine awp_cond rfl ?_;refine awp_exit ?_;refine awp_norm [1,2,3] rfl rfl ?_;refine awp_seq ?_;refine awp_block ?_;simp only [arrsL,eqW,R.bind,hr11] at hG;refine awp_loop (fun k Y=>∃f q,f.length+k≤n∧((procsL s k f q).bind fun f q=>((takeF s ⟨#[109,97,105,110]⟩ q).bind fun _ q=>(blockF s n 1 q).bind fun b q=>(takeF s ⟨#[]⟩ q).bind fun _ q=>.ok ⟨v,a,f,b⟩ q))=r∧Y=⟨[(1,.box 1 0),(2,.box 2 0),(3,.box 3 0)],PgS s q v a f⟩) (n) (⟨[],qq,by simp,hG,rfl⟩) ?_;clear hG;rintro k Y ⟨f,qr,hk3,hG,rfl⟩
     cases k with
     |zero=>simp only [procsL,R.bind] at hG;exact absurd hG.symm hne
     |succ m=>
      refine awp_seq ?_;refine rgs fun E K J O=>?_;show aCall _ _ _ _ _ _ _
      cases hr21:(qr.w.toList==(⟨#[112,114,111,99]⟩:ByteArray).toList) with
      |true=>
       refine aS [0] (hasP_yes (GV t u) s _ qr hs hr21) ?_;refine O _ (aN [1,2,3,38] rfl rfl ?_);clear O J K E;refine awp_cond rfl ?_;refine awp_skip ?_;refine awp_block ?_;refine rgs fun E K J O=>?_;show aCall _ _ _ _ _ _ _;have sp22:=nameP_spec t u s (nx s qr) hs
       cases hr22:nameF s (nx s qr) with
       |out=>
        simp only [procsL,eqW,R.bind,hr21,hr22] at hG;exact absurd hG.symm hne
       |bad q22 c22=>
        rw [hr22] at sp22;refine aP [0] rfl rfl rfl (sp22 nofun) rfl rfl rfl rfl ?_;refine J _ _ ?_;simp only [procsL,eqW,R.bind,hr21,hr22] at hG;subst hG;exact ⟨[0,7],_,rfl,rfl,rfl,rfl,rfl⟩
       |ok a22 q22=>
        rw [hr22] at sp22;refine aS [0] (sp22 nofun) ?_;refine O _ (aN [1,2,3,5] rfl rfl ?_);clear O J K E;refine awp_accCell 7 1 9 1 rfl rfl rfl rfl ?_;refine awp_norm [1,2,3,5] rfl rfl ?_;refine rgs fun E K J O=>?_;show aCall _ _ _ _ _ _ _;have sp23:=takeP_spec t u s ⟨#[40]⟩ q22 hs
        cases hr23:takeF s ⟨#[40]⟩ q22 with
        |out=>
         simp only [procsL,eqW,R.bind,hr21,hr22,hr23] at hG;exact absurd hG.symm hne
        |bad q23 c23=>
         rw [hr23] at sp23;refine aP [0] rfl rfl rfl (sp23 nofun) rfl rfl rfl rfl ?_;refine J _ _ ?_;simp only [procsL,eqW,R.bind,hr21,hr22,hr23] at hG;subst hG;exact ⟨[0,9],_,rfl,rfl,rfl,rfl,rfl⟩
        |ok a23 q23=>
         rw [hr23] at sp23;refine aS [0] (sp23 nofun) ?_;refine O _ (aN [1,2,3,5] rfl rfl ?_);clear O J K E;refine awp_seq ?_;refine awp_block ?_;simp only [procsL,eqW,R.bind,hr21,hr22,hr23] at hG;refine awp_loop (fun k Y=>∃acc2 q,acc2.length+k≤m∧(((prmL s k acc2 q).bind fun l q=>match blockQ s m 1 q with | .bad _ q c=>.bad q c | .out=>.out | .ok b e q=>procsL s m (f++[⟨a22,l,b,e⟩]) q).bind fun f q=>((takeF s ⟨#[109,97,105,110]⟩ q).bind fun _ q=>(blockF s n 1 q).bind fun b q=>(takeF s ⟨#[]⟩ q).bind fun _ q=>.ok ⟨v,a,f,b⟩ q))=r∧Y=⟨[(1,.box 1 0),(2,.box 2 0),(3,.box 3 0),(5,.box 7 0)],PgS s q v a f++[.box 159 (.d (str a22)::.acc 8::nilC::zE),.acc 9 1 (strs acc2)]⟩) (m) (⟨[],_,by simp,hG,rfl⟩) ?_;clear hG;rintro k Y ⟨acc2,qs,hk4,hG,rfl⟩
         cases k with
         |zero=>simp only [prmL,R.bind] at hG;exact absurd hG.symm hne
         |succ m2=>
          refine awp_seq ?_;refine rz [1,2,3,5,48] ?_;refine awp_cond2 rfl (onB_intro (fun h1=>?_) (fun h1=>?_))
          ·refine awp_skip ?_;refine awp_block ?_;refine awp_seq ?_;refine rz [1,2,3,5,52] ?_
           refine awp_cond2 rfl (onB_intro (fun h2=>?_) (fun h2=>?_))
           ·rw [strs_length] at h2
            refine rgn fun E K J O=>?_;show aCall _ _ _ _ _ _ _;have sp31:=takeP_spec t u s ⟨#[44]⟩ qs hs
            cases hr31:takeF s ⟨#[44]⟩ qs with
            |out=>
             simp only [prmL,eqW,R.bind,h1,h2,hr31] at hG;exact absurd hG.symm hne
            |bad q31 c31=>
             rw [hr31] at sp31;refine aP [0] rfl rfl rfl (sp31 nofun) rfl rfl rfl rfl ?_;refine J _ _ ?_;simp only [prmL,eqW,R.bind,h1,h2,hr31] at hG;subst hG;exact ⟨[0,9],_,rfl,rfl,rfl,rfl,rfl⟩
            |ok a31 q31=>
             rw [hr31] at sp31;refine aS [0] (sp31 nofun) ?_;refine O _ (aN [1,2,3,5] rfl rfl ?_);clear O J K E;refine (awp_draw TT_ok mixed p56_18 [7] (fun i=>Nat.beq i 1||Nat.beq i 7) (by kernel_rfl) fun E K J O=>?_)
             show aCall _ _ _ _ _ _ _
             have sp32:=nameP_spec t u s q31 hs
             cases hr32:nameF s q31 with
             |out=>
              simp only [prmL,eqW,R.bind,h1,h2,hr31,hr32] at hG;exact absurd hG.symm hne
             |bad q32 c32=>
              rw [hr32] at sp32;refine aP [0] rfl rfl rfl (sp32 nofun) rfl rfl rfl rfl ?_;refine J _ _ ?_;simp only [prmL,eqW,R.bind,h1,h2,hr31,hr32] at hG;subst hG;exact ⟨[0,9],_,rfl,rfl,rfl,rfl,rfl⟩
             |ok a32 q32=>
              rw [hr32] at sp32;refine aS [0] (sp32 nofun) ?_;refine And.intro (And.intro (by simp only [chunk_length,strs_length];omega) (by simp only [chunk_length,strs_length,maxLen_eq];omega)) ?_;refine O _ ?_;clear O J K E;simp only [prmL,eqW,R.bind,h1,h2,hr31,hr32] at hG;exact ⟨m2,Nat.lt_succ_self m2,_,sub_norm (slots:=[1,2,3,5]) rfl rfl,_,_,by simp only [List.length_append,List.length_cons,List.length_nil];omega,hG,by unfold PgS;rw [← strs_snoc];rfl⟩
           rw [strs_length] at h2;refine awp_skip ?_;refine (awp_draw TT_ok mixed p56_18 [7] (fun i=>Nat.beq i 1||Nat.beq i 7) (by kernel_rfl) fun E K J O=>?_)
           show aCall _ _ _ _ _ _ _
           have sp31:=nameP_spec t u s qs hs
           cases hr31:nameF s qs with
           |out=>
            simp only [prmL,eqW,R.bind,h1,h2,hr31] at hG;exact absurd hG.symm hne
           |bad q31 c31=>
            rw [hr31] at sp31;refine aP [0] rfl rfl rfl (sp31 nofun) rfl rfl rfl rfl ?_;refine J _ _ ?_;simp only [prmL,eqW,R.bind,h1,h2,hr31] at hG;subst hG;exact ⟨[0,9],_,rfl,rfl,rfl,rfl,rfl⟩
           |ok a31 q31=>
            rw [hr31] at sp31;refine aS [0] (sp31 nofun) ?_;refine And.intro (And.intro (by simp only [chunk_length,strs_length];omega) (by simp only [chunk_length,strs_length,maxLen_eq];omega)) ?_;refine O _ ?_;clear O J K E;simp only [prmL,eqW,R.bind,h1,h2,hr31] at hG;exact ⟨m2,Nat.lt_succ_self m2,_,sub_norm (slots:=[1,2,3,5]) rfl rfl,_,_,by simp only [List.length_append,List.length_cons,List.length_nil];omega,hG,by unfold PgS;rw [← strs_snoc];rfl⟩
          refine awp_exit ?_;refine awp_norm [1,2,3,5] rfl rfl ?_;refine rgs fun E K J O=>?_;refine aS [0] (nextP_spec _ s qs hs) ?_;refine O _ (aN [1,2,3,5] rfl rfl ?_);clear O J K E;refine rgs fun E K J O=>?_;show aCall _ _ _ _ _ _ _;have sp31:=blockQ_spec t u s hs4 m (by omega) 1 (nx s qs) a22 (.sl 1 (strs acc2))
          cases hr31:blockQ s m 1 (nx s qs) with
          |out=>
           simp only [prmL,eqW,R.bind,h1,hr31] at hG;exact absurd hG.symm hne
          |bad oe q31 c31=>
           rw [hr31] at sp31
           cases oe with
           |none=>
            refine aP [0,1,7] rfl rfl rfl (sp31 nofun) rfl rfl rfl rfl ?_;refine J _ _ ?_;simp only [prmL,eqW,R.bind,h1,hr31] at hG;subst hG;exact ⟨[0,9],_,rfl,rfl,rfl,rfl,rfl⟩
           |some ex=>
            obtain ⟨o9,n9,m9,l9⟩:=ex;refine aP [0,1,7] rfl rfl rfl (sp31 nofun) rfl rfl rfl rfl ?_;refine J _ _ ?_;simp only [prmL,eqW,R.bind,h1,hr31] at hG;subst hG;exact ⟨[0,9],_,rfl,rfl,rfl,rfl,rfl⟩
          |ok b31 e31 q31=>
           obtain ⟨o9,n9,m9,l9⟩:=e31;rw [hr31] at sp31;refine aS [0,1,7] (sp31 nofun) ?_;refine O _ (aN [1,2,3,5] rfl rfl ?_);clear O J K E;refine rgn fun E K J O=>?_;refine And.intro (And.intro (by simp only [chunk_length,pcs_length];omega) (by simp only [chunk_length,pcs_length,maxLen_eq];omega)) ?_;refine O _ ?_;clear O J K E;simp only [prmL,eqW,R.bind,h1,hr31] at hG;exact ⟨m,Nat.lt_succ_self m,_,sub_pick (L:=[0,1,2,3,4,5,6]) (slots:=[1,2,3]) rfl rfl rfl rfl rfl,_,_,by simp only [List.length_append,List.length_cons,List.length_nil];omega,hG,by unfold PgS;rw [← pcs_snoc];rfl⟩
      |false=>
       refine aS [0] (hasP_no (GV t u) s _ qr hr21) ?_;refine O _ (aN [1,2,3,38] rfl rfl ?_);clear O J K E;refine awp_cond rfl ?_;refine awp_exit ?_;refine awp_norm [1,2,3] rfl rfl ?_;refine rgs fun E K J O=>?_;show aCall _ _ _ _ _ _ _;have sp22:=takeP_spec t u s ⟨#[109,97,105,110]⟩ qr hs
       cases hr22:takeF s ⟨#[109,97,105,110]⟩ qr with
       |out=>
        simp only [procsL,eqW,R.bind,hr21,hr22] at hG;exact absurd hG.symm hne
       |bad q22 c22=>
        rw [hr22] at sp22;refine aP [0] rfl rfl rfl (sp22 nofun) rfl rfl rfl rfl ?_;refine J _ _ ?_;simp only [procsL,eqW,R.bind,hr21,hr22] at hG;subst hG;exact ⟨[0,7],_,rfl,rfl,rfl,rfl,rfl⟩
       |ok a22 q22=>
        rw [hr22] at sp22;refine aS [0] (sp22 nofun) ?_;refine O _ (aN [1,2,3] rfl rfl ?_);clear O J K E;refine rgs fun E K J O=>?_;show aCall _ _ _ _ _ _ _;have sp23:=blockP_spec t u s hs4 n hn 1 q22
        cases hr23:blockF s n 1 q22 with
        |out=>
         simp only [procsL,eqW,R.bind,hr21,hr22,hr23] at hG;exact absurd hG.symm hne
        |bad q23 c23=>
         rw [hr23] at sp23;refine aP [0] rfl rfl rfl (sp23 nofun) rfl rfl rfl rfl ?_;refine J _ _ ?_;simp only [procsL,eqW,R.bind,hr21,hr22,hr23] at hG;subst hG;exact ⟨[0,7],_,rfl,rfl,rfl,rfl,rfl⟩
        |ok a23 q23=>
         rw [hr23] at sp23;refine aS [0] (sp23 nofun) ?_;refine O _ (aN [1,2,3] rfl rfl ?_);clear O J K E;refine rgs fun E K J O=>?_;show aCall _ _ _ _ _ _ _;have sp24:=takeP_spec t u s ⟨#[]⟩ q23 hs
         cases hr24:takeF s ⟨#[]⟩ q23 with
         |out=>
          simp only [procsL,eqW,R.bind,hr21,hr22,hr23,hr24] at hG;exact absurd hG.symm hne
         |bad q24 c24=>
          rw [hr24] at sp24;refine aP [0] rfl rfl rfl (sp24 nofun) rfl rfl rfl rfl ?_;refine J _ _ ?_;simp only [procsL,eqW,R.bind,hr21,hr22,hr23,hr24] at hG;subst hG;exact ⟨[0,7],_,rfl,rfl,rfl,rfl,rfl⟩
         |ok a24 q24=>
          rw [hr24] at sp24;refine aS [0] (sp24 nofun) ?_;refine O _ (aN [2,3] rfl rfl ?_);clear O J K E;refine rz [2] ?_;refine awp_ret ?_;simp only [procsL,eqW,R.bind,hr21,hr22,hr23,hr24] at hG;subst hG;exact ⟨_,[0],_,[encP _],rfl,rfl,rfl,rfl,rfl,PWs.refl _,rfl⟩
end
end Go.Abs
end
section
namespace Go.Abs
open Go
section
variable {P:Program}{T:Tab}{G:Glob}{D D':List Deferred}{N B:Nat}{X X':St}{H H' H0:Nat→Option Value}{lim lim' lim0:Nat→Nat}{a:Act}{w w' w0:World}{L:List Nat}

/-- The operations of a region, whatever is to hold behind them. -/
theorem aops_run (hT:TabOk P T) {ops:Array Oper}{Q:Exit→Act→World→Prop}{K:St→Prop}{pan:PV→St→Prop}
  (hn:∀X H lim a w,K X→Rep D G N H lim X a w→Lk B H0 lim0 w0 H lim w→Q .normal a w)
  (hp:∀p X H lim a w v,pan p X→Rep D G N H lim X a w→Lk B H0 lim0 w0 H lim w→V H lim w p v→Q (.panic [{ v,recovered:=false }]) a w) :
  ∀(l:List Nat) (X:St) (H:Nat→Option Value) (lim:Nat→Nat) (a:Act) (w:World),aops P T G N ops pan l K X→Rep D G N H lim X a w→Lk B H0 lim0 w0 H lim w→wpOps P ops Q l a w
 |[],X,H,lim,a,w,h,hR,lk=>hn X H lim a w h hR lk
 |i::l,X,H,lim,a,w,h,hR,lk=>by
  simp only [aops] at h
  simp only [wpOps]
  split at h
  ·rename_i o ho
   rw [nth_ops] at ho
   rw [ho]
   split at h
   ·rename_i hd
    simp only
    rcases guarded_sound hR h with ⟨hw,X1,hR1,_,h⟩|⟨hw,X1,hR1,_,h⟩
    ·rw [if_pos hw]
     refine .inl (act_sound hT hR1 h ?_ ?_)
     ·intro p X' F H' lim' w' v hk hnx hv
      exact aops_run hT hn hp l _ H' lim' _ w' hk (rep_put hnx.rep hd hv) (lk.trans hnx.lk)
     intro p X' H' lim' w' v hpp hR' lk' hv
     exact hp p X' H' lim' a w' v hpp hR' (lk.trans (lk' B)) hv
    rw [if_neg (by simp [hw])]
    exact aops_run hT hn hp l _ H lim _ w h (rep_put hR1 hd (V_s _)) lk
   exact h.elim
  exact h.elim
/-- The same in a deferred call. -/
theorem aops_runS (hT:TabOk P T) {ops:Array Oper}{Q:Exit→Act→List Frame→World→Prop}{cs:List Frame}{K:St→Prop}{pan:PV→St→Prop}
  (hn:∀X H lim a w,K X→Rep D G N H lim X a w→Lk B H0 lim0 w0 H lim w→Q .normal a cs w)
  (hp:∀p X H lim a w v,pan p X→Rep D G N H lim X a w→Lk B H0 lim0 w0 H lim w→V H lim w p v→Q (.panic [{ v,recovered:=false }]) a cs w) :
  ∀(l:List Nat) (X:St) (H:Nat→Option Value) (lim:Nat→Nat) (a:Act) (w:World),aops P T G N ops pan l K X→Rep D G N H lim X a w→Lk B H0 lim0 w0 H lim w→wpOpsS P ops Q l a cs w
 |[],X,H,lim,a,w,h,hR,lk=>hn X H lim a w h hR lk
 |i::l,X,H,lim,a,w,h,hR,lk=>by
  simp only [aops] at h
  simp only [wpOpsS]
  split at h
  ·rename_i o ho
   rw [nth_ops] at ho
   rw [ho]
   split at h
   ·rename_i hd
    simp only
    rcases guarded_sound hR h with ⟨hw,X1,hR1,_,h⟩|⟨hw,X1,hR1,_,h⟩
    ·rw [if_pos hw]
     have key:o.wp P a w (fun a' w'=>wpOpsS P ops Q l a' cs w') (fun e a' w'=>Q e a' cs w'):=by
      refine act_sound hT hR1 h ?_ ?_
      ·intro p X' F H' lim' w' v hk hnx hv
       exact aops_runS hT hn hp l _ H' lim' _ w' hk (rep_put hnx.rep hd hv) (lk.trans hnx.lk)
      intro p X' H' lim' w' v hpp hR' lk' hv
      exact hp p X' H' lim' a w' v hpp hR' (lk.trans (lk' B)) hv
     unfold Oper.wp at key
     split
     ·rename_i w' hr
      rw [hr] at key
      exact key.elim
     exact key
    rw [if_neg (by simp [hw])]
    exact aops_runS hT hn hp l _ H lim _ w h (rep_put hR1 hd (V_s _)) lk
   exact h.elim
  exact h.elim

/-- In which mode a deferred call finds its caller, and what recover gives it. -/
def ModeOk(H:Nat→Option Value)(lim:Nat→Nat)(w:World)(r:PV)(u:FrameMode):Prop:=
 (r=.d (.s .nilIface)∧u=.returning)∨∃v,u=.panicking [{ v,recovered:=false }]∧V H lim w r v
/-- A deferred closure's contract: what recover gives it, it recovers. -/
def DSpec(P:Program)(G:Glob)(g:FuncId)(args:List PV)(rows:List Row)(r:PV)(rows':List Row):Prop:=
 (∀(av:Array Value) (w:World),(callFunc g av).run P w=.ok (.enter g av) w)∧rows.length≤rows'.length∧
 ∀(H:Nat→Option Value) (lim:Nat→Nat) (w:World) (vs:List Value) (u:FrameMode),RowsOk H lim w rows→GlobOk G H lim w→Vs H lim w args vs→ModeOk H lim w r u→
  CallsD P g vs.toArray u w fun e u' w'=>(∃v,e=.returned v)∧settle u'=.returning∧∃(H':Nat→Option Value) (lim':Nat→Nat),RowsOk H' lim' w' rows'∧Fr (Bl H) lim w lim' w'∧
   (∀id v,stay v=true→H id=some v→H' id=H id)∧(∀b,Bl H' b→Bl H b∨w.heap.size≤b)

/-- A closure's contract from its body: a region that recovers first, then the rest. -/
theorem dspec_of_awp (hT:TabOk P T) {g:FuncId}{fn:Func}{id d0:Nat}{ops:Array Oper}{o0:Oper}{y:Code}{args:List PV}{rows rows':List Row}{r:PV}{l:List Nat}{tys:Array TypeId}
  (hf:P.funcs[g]? = some fn) (hb:fn.body=some (.seq (.region id ops false) y)) (hname:(fn.name== "runtime.NumGoroutine")=false) (hres:fn.results.toList=[])
  (hlen:rows.length≤rows'.length) (hN:N=args.length+(fn.ntmps - args.length)) (hl:List.range ops.size=0::l) (h0:ops[0]? = some o0) (hop:o0.op=.call { callee:=.builtin .recover,args:=#[],argTypes:=tys }) (hg0:o0.guard=none) (hd0:o0.dst=some d0) (hdN:Nat.blt d0 N=true)
  (h:∀(pan:PV→St→Prop) (K:St→Prop),(∀Z,AWp [] P G N rows.length y (fun e Z=>match e with
    |.normal=>∃L,L.take rows.length=List.range rows.length∧nodupB L=true∧pickRows (sIn L Z.rows) Z.rows L=some rows'
    |.ret=>∃L,L.take rows.length=List.range rows.length∧nodupB L=true∧pickRows (sIn L Z.rows) Z.rows L=some rows'
    |_=>False) Z→K Z)→aops P T G N ops pan l K ⟨(d0,r)::argEnv 0 args,rows⟩):DSpec P G g args rows r rows':=by
 refine ⟨fun av w=>?_,hlen,fun H lim w vs u hrows hglob hvs hmode=>?_⟩
 ·have hne:¬fn.name = "runtime.NumGoroutine":=by simpa using hname
  simp [callFunc,hf,hne,hb,program,Sem.run]
 have hvl:vs.length=args.length:=Vs_length hvs
 have hlt0:d0<N:=by simpa [Nat.blt_eq] using hdN
 have hrep0:Rep [] G N H lim ⟨argEnv 0 args,rows⟩ { tmps:=vs.toArray++Array.replicate (fn.ntmps - vs.toArray.size) undef,defers:=[] } w:=by
  refine ⟨fun j p hj=>?_,hrows,hglob,rfl,by simp [hN,hvl]⟩
  obtain ⟨_,hj⟩:=argEnv_look hj
  obtain ⟨v,h1,h2⟩:=Vs_get hvs hj
  simp only [Nat.sub_zero] at h1
  have hlt:=(List.getElem?_eq_some_iff.1 h1).1
  refine ⟨by omega,?_⟩
  have:((vs.toArray++Array.replicate (fn.ntmps - vs.toArray.size) undef).getD j undef)=v:=by
   rw [Array.getD_eq_getD_getElem?,Array.getElem?_append_left (by simpa using hlt)]
   simp [h1]
  rw [this]
  exact h2
 refine callsD_of_wpS hf hb fun c₀ cs hu=>?_
 have hptr:∀ {H':Nat→Option Value}{lim':Nat→Nat}{w':World},Lk rows.length H lim w H' lim' w'→∀id v,stay v=true→H id=some v→H' id=H id:=fun lk id q hst hq=>by
  rcases Nat.lt_or_ge id rows.length with hlt|hlt
  ·exact lk.ptr id q hlt hst hq
  rw [hrows.dom id hlt] at hq;cases hq
 have go:∀(v:Value) (u':FrameMode),V H lim w r v→settle u'=.returning→
   wpOpsS P ops (Exit.thenS (y.wpS P (bodyPostS P fn c₀ cs fun e u' w'=>(∃v,e=.returned v)∧settle u'=.returning∧∃(H':Nat→Option Value) (lim':Nat→Nat),RowsOk H' lim' w' rows'∧Fr (Bl H) lim w lim' w'∧
    (∀id v,stay v=true→H id=some v→H' id=H id)∧(∀b,Bl H' b→Bl H b∨w.heap.size≤b))) (bodyPostS P fn c₀ cs fun e u' w'=>(∃v,e=.returned v)∧settle u'=.returning∧∃(H':Nat→Option Value) (lim':Nat→Nat),RowsOk H' lim' w' rows'∧Fr (Bl H) lim w lim' w'∧
    (∀id v,stay v=true→H id=some v→H' id=H id)∧(∀b,Bl H' b→Bl H b∨w.heap.size≤b))) l
    (Act.put { tmps:=vs.toArray++Array.replicate (fn.ntmps - vs.toArray.size) undef,defers:=[] } (some d0) v) ({ c₀ with mode:=u' }::cs) w:=by
  intro v u' hv hu'
  have hrep1:=rep_put (d:=some d0) hrep0 (by simp only [dstOk];exact hdN) hv
  refine aops_runS (D:=[]) (B:=rows.length) (H0:=H) (lim0:=lim) (w0:=w) hT (K:=_) (pan:=fun _ _=>False) ?_ (fun p X H lim a w v q=>q.elim) l _ H lim _ w (h _ _ fun Z q=>q) hrep1 Lk.refl
  intro Z H1 lim1 a1 w1 hz hR1 lk1
  refine wpS_of_wp (wp_mono (hz H1 lim1 a1 w1 hR1) ?_)
  intro e a2 w2 hp
  have fin:∀X2 H2 lim2,Rep [] G N H2 lim2 X2 a2 w2→Lk rows.length H1 lim1 w1 H2 lim2 w2→(∃L,L.take rows.length=List.range rows.length∧nodupB L=true∧pickRows (sIn L X2.rows) X2.rows L=some rows')→
    a2.defers=[]∧∃u'',({ c₀ with mode:=u' }::cs:List Frame)={ c₀ with mode:=u'' }::cs∧∃v,(results fn a2.tmps).run P w2=.ok v w2∧((∃v',Ending.returned v=.returned v')∧settle u''=.returning∧∃(H':Nat→Option Value) (lim':Nat→Nat),RowsOk H' lim' w2 rows'∧Fr (Bl H) lim w lim' w2∧
     (∀id v,stay v=true→H id=some v→H' id=H id)∧(∀b,Bl H' b→Bl H b∨w.heap.size≤b)):=by
   intro X2 H2 lim2 hR2 lk2 ⟨L,q1,q2,q3⟩
   have lk3:=(lk1.trans lk2).trans (pick_lk (H:=H2) (lim:=lim2) (w:=w2) q1)
   obtain ⟨us,r1,_⟩:=results_run (P:=P) (fn:=fn) hT hR2 (by rw [hres];rfl)
   exact ⟨hR2.defers,u',rfl,_,r1,⟨_,rfl⟩,hu',HL L H2,lim2,rows_pick hR2.rows q2 q3,lk3.fr,hptr lk3,lk3.blocks⟩
  cases e <;> simp only [Post,bodyPostS] at hp ⊢
  ·obtain ⟨X2,H2,lim2,g1,g2,g3⟩:=hp
   exact fin X2 H2 lim2 g1 g2 g3
  ·obtain ⟨_,_,_,_,_,hf⟩:=hp
   exact hf
  ·obtain ⟨X2,H2,lim2,g1,g2,g3⟩:=hp
   exact fin X2 H2 lim2 g1 g2 g3
  obtain ⟨_,_,_,_,_,_,_,_,_,_,hf⟩:=hp
  exact hf.elim
 refine wpS_seq (wpS_region ?_)
 rw [hl]
 simp only [wpOpsS,h0,Region.wanted,hg0,if_true]
 have hrec:(execOp ({ tmps:=vs.toArray++Array.replicate (fn.ntmps - vs.toArray.size) undef,defers:=[] }:Act).eval o0).run P w=.ok .recover w:=by
  simp [execOp,hop,resolve,invoke,builtin]
 rw [hrec]
 simp only [hd0]
 rcases hmode with ⟨hr,hu'⟩|⟨v,hu',hv⟩
 ·have:recoverD (c₀::cs)=none:=by simp [recoverD,hu,hu']
  rw [this]
  simp only
  have hc:c₀={ c₀ with mode:=FrameMode.returning }:=by rw [← hu',← hu]
  have:=go .nilIface .returning (by rw [hr];simp only [V,VD]) rfl
  rw [← hc] at this
  exact this
 have:recoverD (c₀::cs)=some (v,{ c₀ with mode:=.panicking [{ v,recovered:=true }] }::cs):=by simp [recoverD,hu,hu']
 rw [this]
 exact go v _ hv rfl
end
end Go.Abs
end
section
namespace Go.Abs
open Go
/-- From here on the code comes to such an end. -/
def GW(D:List Deferred)(P:Program)(G:Glob)(N B:Nat)(H0:Nat→Option Value)(lim0:Nat→Nat)(w0:World)(c:Code)(Q:Exit→Act→World→Prop)(X:St):Prop:=
 ∀(H:Nat→Option Value) (lim:Nat→Nat) (a:Act) (w:World),Rep D G N H lim X a w→Lk B H0 lim0 w0 H lim w→c.wp P Q a w
/-- An end at which a state is told. -/
def EndOk(D:List Deferred)(G:Glob)(N B:Nat)(H0:Nat→Option Value)(lim0:Nat→Nat)(w0:World)(Q:Exit→Act→World→Prop)(X:St):Prop:=
 ∀(H:Nat→Option Value) (lim:Nat→Nat) (a:Act) (w:World),Rep D G N H lim X a w→Lk B H0 lim0 w0 H lim w→Q .ret a w
def PanOk(D:List Deferred)(G:Glob)(N B:Nat)(H0:Nat→Option Value)(lim0:Nat→Nat)(w0:World)(Q:Exit→Act→World→Prop)(p:PV)(X:St):Prop:=
 ∀(H:Nat→Option Value) (lim:Nat→Nat) (a:Act) (w:World) (v:Value),Rep D G N H lim X a w→Lk B H0 lim0 w0 H lim w→V H lim w p v→Q (.panic [{ v,recovered:=false }]) a w
/-- What a contract says of the end. -/
def SpecR(H:Nat→Option Value)(lim:Nat→Nat)(w:World)(out:Out)(rows':List Row)(e:Ending)(w':World):Prop:=
 ∃(H':Nat→Option Value) (lim':Nat→Nat),RowsOk H' lim' w' rows'∧Fr (Bl H) lim w lim' w'∧(∀id v,stay v=true→H id=some v→H' id=H id)∧(∀b,Bl H' b→Bl H b∨w.heap.size≤b)∧OutOk H' lim' w' out e
/-- The results, told over few rows. -/
def ResOk(T:Tab)(fn:Func)(B:Nat)(out:Out)(rows':List Row)(X:St):Prop:=
 ∃ps L ps' ps'',aResults T X fn.results.toList=some ps∧L.take B=List.range B∧nodupB L=true∧PV.subs (sIn L X.rows) ps=some ps'∧pickRows (sIn L X.rows) X.rows L=some rows'∧PWs ps' ps''∧out=.ret (resOf ps'')
section
variable {P:Program}{T:Tab}{G:Glob}{D D':List Deferred}{N B B1:Nat}{X X':St}{H H' H0 H1:Nat→Option Value}{lim lim' lim0 lim1:Nat→Nat}{a:Act}{w w' w0 w1:World}{L:List Nat}{Q:Exit→Act→World→Prop}{x y:Code}

theorem gw_seq_region(hT:TabOk P T){id:Nat}{ops:Array Oper}(h:∀(pan:PV→St→Prop) (K:St→Prop),(∀p Z,PanOk D G N B H0 lim0 w0 Q p Z→pan p Z)→(∀Z,GW D P G N B H0 lim0 w0 y Q Z→K Z)→aops P T G N ops pan (List.range ops.size) K X):
  GW D P G N B H0 lim0 w0 (.seq (.region id ops false) y) Q X:=by
 intro H lim a w hR lk
 refine wp_seq (wp_region (aops_run (D:=D) (B:=B) (H0:=H0) (lim0:=lim0) (w0:=w0) hT (K:=fun Z=>GW D P G N B H0 lim0 w0 y Q Z) (pan:=fun p Z=>PanOk D G N B H0 lim0 w0 Q p Z) ?_ ?_ _ X H lim a w (h _ _ (fun _ _ q=>q) fun _ q=>q) hR lk))
 ·intro Z H lim a w hz hR lk
  exact hz H lim a w hR lk
 intro p Z H lim a w v hz hR lk hv
 exact hz H lim a w v hR lk hv
theorem gw_sub(hs:Sub D G N B X X')(h:GW D P G N B H0 lim0 w0 x Q X'):GW D P G N B H0 lim0 w0 x Q X:=by
 intro H lim a w hR lk
 obtain ⟨H',lim',r1,r2⟩:=hs H lim a w hR
 exact h H' lim' a w r1 (lk.trans r2)
theorem gw_norm(slots:List Nat){env':List (Nat×PV)}{rows':List Row}(h1:pickEnv X.env slots=some env')(h2:forceRows X.rows=some rows')(h:GW D P G N B H0 lim0 w0 x Q ⟨env',rows'⟩):GW D P G N B H0 lim0 w0 x Q X:=
 gw_sub (sub_norm h1 h2) h
theorem gw_ret(h:EndOk D G N B H0 lim0 w0 Q X):GW D P G N B H0 lim0 w0 .ret Q X:=fun H lim a w hR lk=>wp_ret (h H lim a w hR lk)
/-- A part that ends normally, or returns. -/
theorem gw_seq_awp (h:AWp D P G N B x (fun e Z=>match e with
  |.normal=>GW D P G N B H0 lim0 w0 y Q Z
  |.ret=>EndOk D G N B H0 lim0 w0 Q Z
  |_=>False) X):GW D P G N B H0 lim0 w0 (.seq x y) Q X:=by
 intro H lim a w hR lk
 refine wp_seq (wp_mono (h H lim a w hR) ?_)
 intro e a' w' hp
 cases e <;> simp only [Post,Exit.then] at hp ⊢
 ·obtain ⟨X',H',lim',h1,h2,h3⟩:=hp
  exact h3 H' lim' a' w' h1 (lk.trans h2)
 ·obtain ⟨_,_,_,_,_,hf⟩:=hp
  exact hf.elim
 ·obtain ⟨X',H',lim',h1,h2,h3⟩:=hp
  exact h3 H' lim' a' w' h1 (lk.trans h2)
 obtain ⟨_,_,_,_,_,_,_,_,_,_,hf⟩:=hp
 exact hf.elim

/-- The region that defers a closure. -/
theorem gw_seq_defer {id t g:Nat}{caps:Array Operand}{tys:Array TypeId}{cs:List PV}{o0 o1:Oper}{ops:Array Oper}(hops:ops = #[o0,o1]) (h0:o0.op=.makeFunc (.func g) #[] caps) (hd0:o0.dst=some t) (hg0:o0.guard=none)
  (h1:o1.op=.defer { callee:=.value (.tmp t),args:=#[],argTypes:=tys }) (hd1:o1.dst=none) (hg1:o1.guard=none) (ht:Nat.blt t N=true) (hcs:evs G X caps.toList=some cs)
  (h:∀(H1:Nat→Option Value) (lim1:Nat→Nat) (w1:World) (vs:List Value),Lk B H0 lim0 w0 H1 lim1 w1→Vs H1 lim1 w1 cs vs→
   GW [{ target:=.fn (.func g) vs.toArray,args:=#[] }] P G N X.rows.length H1 lim1 w1 y Q ⟨(t,.fn g cs)::X.env,X.rows⟩) :
  GW [] P G N B H0 lim0 w0 (.seq (.region id ops false) y) Q X:=by
 intro H lim a w hR lk
 have hvs:=evs_sound hR _ _ hcs
 have hlt:t<N:=by simpa [Nat.blt_eq] using ht
 refine wp_seq (wp_region ?_)
 subst hops
 have hr:List.range (#[o0,o1]:Array Oper).size=[0,1]:=rfl
 rw [hr]
 have hfn:V H lim w (.fn g cs) (.func (.func g) #[] (caps.map a.eval)):=by
  simp only [V]
  exact ⟨caps.toList.map a.eval,by congr 1;apply Array.ext';simp,hvs⟩
 have hR1:=rep_put (d:=some t) hR (by simp only [dstOk];exact ht) hfn
 have hget:(a.put (some t) (.func (.func g) #[] (caps.map a.eval))).tmps.getD t undef=.func (.func g) #[] (caps.map a.eval):=by
  simp [Act.put,hR.size,hlt]
 have e0:(execOp a.eval o0).run P w=.ok (.value (.func (.func g) #[] (caps.map a.eval))) w:=by
  simp [execOp,h0,Instr.makeFunc]
 have e1:(execOp (a.put (some t) (.func (.func g) #[] (caps.map a.eval))).eval o1).run P w=.ok (.defer { target:=.fn (.func g) (caps.map a.eval),args:=#[] }) w:=by
  simp [execOp,h1,resolve,Act.eval,hget,Deferred.ofValue]
 have i0:(#[o0,o1]:Array Oper)[0]? = some o0:=rfl
 have i1:(#[o0,o1]:Array Oper)[1]? = some o1:=rfl
 have g0:∀f,Region.wanted o0 f=true:=fun f=>by simp [Region.wanted,hg0]
 have g1:∀f,Region.wanted o1 f=true:=fun f=>by simp [Region.wanted,hg1]
 unfold wpOps
 rw [i0]
 simp only
 rw [if_pos (g0 _)]
 refine .inl ?_
 unfold Oper.wp
 rw [e0,Oper.upon_value,hd0]
 unfold wpOps
 rw [i1]
 simp only
 rw [if_pos (g1 _)]
 refine .inl ?_
 unfold Oper.wp
 rw [e1,Oper.upon_defer,hd1]
 unfold wpOps
 simp only [Exit.then,Act.put]
 have hd:a.defers=[]:=hR.defers
 have hdd:caps.map a.eval=(caps.toList.map a.eval).toArray:=by apply Array.ext';simp
 refine h H lim w (caps.toList.map a.eval) lk hvs H lim _ w ⟨hR1.env,hR1.rows,hR1.glob,?_,hR1.size⟩ Lk.refl
 simp only [hd,hdd]

/-- What the deferred closure makes of the last state; then the results. -/
def DeferOk(P:Program)(T:Tab)(G:Glob)(g:FuncId)(cs:List PV)(fn:Func)(B:Nat)(out:Out)(rows':List Row)(r:PV)(X:St):Prop:=
 ∃(L:List Nat) (args':List PV) (r':PV) (rowsL rowsL' rows1 rows2:List Row) (env':List (Nat×PV)),
  nodupB L=true∧PV.subs (sIn L X.rows) cs=some args'∧PV.sub (sIn L X.rows) r=some r'∧pickRows (sIn L X.rows) X.rows L=some rowsL∧DSpec P G g args' rowsL r' rowsL'∧
  demRows (sOut L X.rows.length) rowsL'=some rows2∧demEnv (sKeep L X.rows) X.env=some env'∧demRows (sKeep L X.rows) X.rows=some rows1∧ResOk T fn B out rows' ⟨env',place L rows1 rows2⟩
theorem leaves_of (hT:TabOk P T) {g:FuncId}{cs:List PV}{vs:List Value}{fn:Func}{out:Out}{rows':List Row}{r:PV}{u:FrameMode}(hn:∀i,B≤i→H0 i=none) (hR:Rep D G N H lim X a w) (lk:Lk B H0 lim0 w0 H lim w)
  (hcs:Vs H lim w cs vs) (hu:(r=.d (.s .nilIface)∧u=.returning)∨∃v,u=.panicking [{ v,recovered:=false }]∧V H lim w r v) (h:DeferOk P T G g cs fn B out rows' r X) :
  Leaves P fn a.tmps (SpecR H0 lim0 w0 out rows') [{ target:=.fn (.func g) vs.toArray,args:=#[] }] u w:=by
 obtain ⟨L,args',r',rowsL,rowsL',rows1,rows2,env',hL,hin,hr',hrows,⟨hen,hlen,hsp⟩,hout,henv,hk1,hres⟩:=h
 have hvs:Vs (HL L H) lim w args' vs:=Vs.sub (Fr.refl (fun _=>False) lim w) (sIn_ok hR.rows).1 (sIn_ok hR.rows).2 _ _ _ hin hcs
 have hmode:ModeOk (HL L H) lim w r' u:=by
  rcases hu with ⟨rfl,hu⟩|⟨v,hu,hv⟩
  ·simp only [PV.sub,Option.some.injEq] at hr'
   exact .inl ⟨hr'.symm,hu⟩
  exact .inr ⟨v,hu,V.sub (Fr.refl (fun _=>False) lim w) (sIn_ok hR.rows).1 (sIn_ok hR.rows).2 _ _ _ hr' hv⟩
 have hcalls:=hsp (HL L H) lim w vs u (rows_pick hR.rows hL hrows) (hR.glob.sub Bl_HL) hvs hmode
 refine leaves_cons (f:=g) (args:=vs.toArray) ?_ ?_ (hcalls.mono ?_)
 ·rcases hu with ⟨_,rfl⟩|⟨v,rfl,_⟩ <;> simp
 ·have:=hen vs.toArray w
  simpa [invoke] using this
 intro e u' w' ⟨⟨v,he⟩,hset,H1,lim1,c1,c2,c3,c4⟩
 subst he
 simp only
 rw [hset]
 obtain ⟨hnx,_⟩:=call_back (p:=.tup []) (p':=.tup []) hR hL hrows hlen henv hk1 hout c1 c2 c3 c4
 have hR2:=hnx.rep
 have lk2:=lk.trans hnx.lk
 obtain ⟨ps,L2,ps',ps'',q1,q2,q3,q4,q5,q6,q7⟩:=hres
 obtain ⟨us,r1,r2⟩:=results_run (P:=P) hT hR2 q1
 have lk3:=lk2.trans (pick_lk (H:=HB L X.rows.length H H1) (lim:=lim1) (w:=w') q2)
 have r3:=Vs.sub (Fr.refl (fun _=>False) lim1 w') (sIn_ok hR2.rows).1 (sIn_ok hR2.rows).2 _ _ _ q4 r2
 have hptr:∀id v,stay v=true→H0 id=some v→HL L2 (HB L X.rows.length H H1) id=H0 id:=fun id v hst hq=>by
  rcases Nat.lt_or_ge id B with hlt|hlt
  ·exact lk3.ptr id v hlt hst hq
  rw [hn id hlt] at hq;cases hq
 simp only [Leaves]
 exact ⟨_,r1,_,lim1,rows_pick hR2.rows q3 q5,lk3.fr,hptr,lk3.blocks,by subst q7;exact ⟨_,rfl,resOf_V (q6.sound r3)⟩⟩

/-- Boxes stay where they are. -/
def boxesB(B:Nat):List PV→Bool
 |[]=>true
 |.box i _::r=>match Nat.blt i B with
  |true=>boxesB B r
  |false=>false
 |_::_=>false
theorem boxes_stay(lk:Lk B H0 lim0 w0 H lim w):∀ {cs:List PV}{vs:List Value},boxesB B cs=true→Vs H0 lim0 w0 cs vs→Vs H lim w cs vs
 |[],_,_,hv=>hv
 |.box i o::r,vs,hb,hv=>by
  simp only [boxesB] at hb
  split at hb
  ·rename_i hi
   have hlt:i<B:=by simpa [Nat.blt_eq] using hi
   simp only [Vs,V] at hv ⊢
   obtain ⟨_,us,rfl,⟨b,h1,rfl⟩,h2⟩:=hv
   exact ⟨_,us,rfl,⟨b,(lk.ptr i _ hlt rfl h1).trans h1,rfl⟩,boxes_stay lk hb h2⟩
  cases hb
theorem Lk.narrow{B':Nat}(h:Lk B H lim w H' lim' w')(hB:B'≤B):Lk B' H lim w H' lim' w':=⟨h.fr,fun id v hid=>h.ptr id v (Nat.lt_of_lt_of_le hid hB),h.blocks⟩

/-- The ends of a body that has deferred a closure. -/
theorem end_defer (hT:TabOk P T) {g:FuncId}{cs:List PV}{vs:List Value}{fn:Func}{out:Out}{rows':List Row}(hn:∀i,B≤i→H0 i=none) (hBB:B≤B1) (lk1:Lk B H0 lim0 w0 H1 lim1 w1) (hcs:Vs H1 lim1 w1 cs vs) (hb:boxesB B1 cs=true)
  (h:DeferOk P T G g cs fn B out rows' (.d (.s .nilIface)) X):EndOk [{ target:=.fn (.func g) vs.toArray,args:=#[] }] G N B1 H1 lim1 w1 (bodyPostD P fn (SpecR H0 lim0 w0 out rows')) X:=by
 intro H lim a w hR lk
 simp only [bodyPostD]
 rw [hR.defers]
 exact leaves_of hT hn hR (lk1.trans (lk.narrow hBB)) (boxes_stay lk hb hcs) (.inl ⟨rfl,rfl⟩) h
theorem pan_defer (hT:TabOk P T) {g:FuncId}{cs:List PV}{vs:List Value}{fn:Func}{out:Out}{rows':List Row}{p:PV}(hn:∀i,B≤i→H0 i=none) (hBB:B≤B1) (lk1:Lk B H0 lim0 w0 H1 lim1 w1) (hcs:Vs H1 lim1 w1 cs vs) (hb:boxesB B1 cs=true)
  (h:DeferOk P T G g cs fn B out rows' p X):PanOk [{ target:=.fn (.func g) vs.toArray,args:=#[] }] G N B1 H1 lim1 w1 (bodyPostD P fn (SpecR H0 lim0 w0 out rows')) p X:=by
 intro H lim a w v hR lk hv
 simp only [bodyPostD]
 rw [hR.defers]
 exact leaves_of hT hn hR (lk1.trans (lk.narrow hBB)) (boxes_stay lk hb hcs) (.inr ⟨v,rfl,hv⟩) h

theorem spec_of_gw {f:FuncId}{fn:Func}{c:Code}{args:List PV}{rows rows':List Row}{out:Out}(hf:P.funcs[f]? = some fn) (hb:fn.body=some c) (hname:(fn.name== "runtime.NumGoroutine")=false)
  (hlen:rows.length≤rows'.length) (hN:N=args.length+(fn.ntmps - args.length))
  (h:∀(H0:Nat→Option Value) (lim0:Nat→Nat) (w0:World),(∀i,rows.length≤i→H0 i=none)→GW [] P G N rows.length H0 lim0 w0 c (bodyPostD P fn (SpecR H0 lim0 w0 out rows')) ⟨argEnv 0 args,rows⟩):Spec P G f args rows out rows':=by
 refine ⟨fun av w=>?_,hlen,fun H lim w vs hrows hglob hvs=>?_⟩
 ·have hne:¬fn.name = "runtime.NumGoroutine":=by simpa using hname
  simp [callFunc,hf,hne,hb,program,Sem.run]
 have hvl:vs.length=args.length:=Vs_length hvs
 refine calls_of_wp_defers hf hb (h H lim w (fun i hi=>hrows.dom i hi) H lim _ w ⟨fun j p hj=>?_,hrows,hglob,rfl,?_⟩ Lk.refl)
 ·obtain ⟨_,hj⟩:=argEnv_look hj
  obtain ⟨v,h1,h2⟩:=Vs_get hvs hj
  simp only [Nat.sub_zero] at h1
  have hlt:=(List.getElem?_eq_some_iff.1 h1).1
  refine ⟨by omega,?_⟩
  have:((vs.toArray++Array.replicate (fn.ntmps - vs.toArray.size) undef).getD j undef)=v:=by
   rw [Array.getD_eq_getD_getElem?,Array.getElem?_append_left (by simpa using hlt)]
   simp [h1]
  rw [this]
  exact h2
 simp [hN,hvl]
end
end Go.Abs
end
section
namespace Go.Abs
open Go Go.Proofs
attribute [local irreducible] aCall AWp Sub Spec GW DSpec EndOk PanOk
theorem read1_nil(G:Glob)(x0 x1 x2 x3 e:Data):DSpec Tryz.prog G 54 [.box 0 0,.box 1 0] [.box 28 [.d x0,.d x1,.d x2,.d x3],.box 30 [.d e]] (.d (.s .nilIface)) [.box 28 [.d x0,.d x1,.d x2,.d x3],.box 30 [.d e]]:=by
 refine dspec_of_awp TT_ok (N:=13) (fn:=Tryz.f54) (d0:=5) Tryz.func54 rfl (by rfl) rfl (Nat.le_refl _) rfl rfl rfl rfl rfl rfl rfl ?_;intro pan K hK;refine hK _ ?_;clear hK K pan;refine awp_norm [0,1,2,3] rfl rfl ?_;refine rz [0,1,2,9] ?_;refine awp_cond rfl ?_;refine awp_skip ?_;exact ⟨[0,1],rfl,rfl,rfl⟩
section
variable (t:Nat→TypeId) (u:Nat→Value)
/-- Where the reader begins. -/
def p0(s:ByteArray):PS s:=⟨0,⟨#[]⟩,Nat.zero_le _⟩
theorem read_ok(s:ByteArray)(hs4:s.size≤4000)(n:Nat)(hn':n≤1000000)(g:Pg)(q:PS s)(hr:progF s n (nx s (p0 s))=.ok g q):Spec Tryz.prog (GV t u) 16 [.d (str s)] [] (.ret (.tup [encP g,.d (.s .nilIface)])) []:=by
 have hs:s.size<4611686018427387904:=by omega
 have sp:=progP_spec t u s hs4 n hn' (nx s (p0 s));rw [hr] at sp;obtain ⟨v,a,f,m⟩:=g;refine spec_of_gw (N:=18) Tryz.func16 rfl (by rfl) (Nat.le_refl _) rfl ?_;intro H0 lim0 w0 hn;refine gw_seq_region TT_ok fun pan K hp hK=>?_;refine hK _ ?_;clear hK hp K pan;refine gw_norm [0,2,3] rfl rfl ?_;refine gw_seq_awp ?_;refine rz [0,2,3,7] ?_;refine awp_cond2 rfl (onB_intro (fun h1=>?_) (fun h1=>?_))
 ·have:=of_decide_eq_true h1;omega
 refine awp_skip ?_;refine gw_norm [0,2,3] rfl rfl ?_;refine gw_seq_defer rfl rfl rfl rfl rfl rfl rfl rfl rfl fun H1 lim1 w1 vs lk1 hcs=>?_;refine gw_norm [0,2,3] rfl rfl ?_;refine gw_seq_region TT_ok fun pan K hp hK=>?_;refine hK _ ?_;clear hK hp K pan;refine gw_norm [2,3,4] rfl rfl ?_;refine gw_seq_region TT_ok fun pan K hp hK=>?_;refine aS [2] (nextP_spec _ s (p0 s) hs) ?_;refine hK _ ?_;clear hK hp K pan;refine gw_norm [2,3,4] rfl rfl ?_;refine gw_seq_region TT_ok fun pan K hp hK=>?_;refine aS [2] (sp nofun) ?_;refine hK _ ?_;clear hK hp K pan;refine gw_norm [2,3] rfl rfl ?_;refine gw_ret (end_defer TT_ok hn (Nat.zero_le _) lk1 hcs rfl ?_);exact ⟨[0,1],_,_,_,_,_,_,_,rfl,rfl,rfl,rfl,read1_nil _ _ _ _ _ _,rfl,rfl,rfl,_,[],_,[_,_],rfl,rfl,rfl,rfl,rfl,PWs.refl _,rfl⟩
end
end Go.Abs
end
section
namespace Go.Proofs
open Go Go.RowKit
set_option maxHeartbeats 1000000 in
set_option maxRecDepth 100000 in
theorem Tryz.copyCheck_used(b:Nat)(w:World)(h0:w.cell? ⟨b,0,none⟩=some (.pointer (some ⟨b,0,none⟩))):
  Calls Tryz.prog 207 #[.pointer (some ⟨b,0,none⟩)] w fun e w'=>e=.returned (.tuple #[])∧w'=w:=by
 obtain ⟨j,hj,hjs⟩:=Option.map_eq_some_iff.1 (show (Tryz.prog.info? 165).map (·.size)=some 2 from by kernel_rfl);have t70:=Tryz.underlying162
 go_enter Tryz.func207,Tryz.ntmps207
 go_wp2
 rw [Lib.run_neq_ptr_same w _ Tryz.underlying162 hj]
 go_wp2
 go_end0
 exact ⟨rfl,rfl⟩
set_option maxHeartbeats 1000000 in
set_option maxRecDepth 100000 in
theorem Tryz.copyCheck_fresh(b:Nat)(w:World)(h0:w.cell? ⟨b,0,none⟩=some (.pointer none))(hsh:w.shape? b=some (167,5))(hfz:w.frozen? ⟨b,0,none⟩=false):
  Calls Tryz.prog 207 #[.pointer (some ⟨b,0,none⟩)] w fun e w'=>e=.returned (.tuple #[])∧w'=w.setCell ⟨b,0,none⟩ (.pointer (some ⟨b,0,none⟩)):=by
 obtain ⟨j,hj,hjs⟩:=Option.map_eq_some_iff.1 (show (Tryz.prog.info? 165).map (·.size)=some 2 from by kernel_rfl);have t70:=Tryz.underlying162;have t164:=Tryz.underlying306
 have lies:liesAt Tryz.prog Tryz.prog.depth 167 (5 / Tryz.prog.cellsOf 167) 0 165 1=true:=by kernel_rfl
 go_enter Tryz.func207,Tryz.ntmps207
 go_wp2
 rw [Lib.run_to_unsafe w ⟨b,0,none⟩ Tryz.underlying162 Tryz.underlying306 hj (by rw [hjs];decide) hsh (Nat.zero_lt_succ 4)];simp only [Result.andThen];rw [Oper.upon_value]
 go_wp2
 rw [run_callFunc_extern Tryz.func250 (by kernel_rfl) (by kernel_rfl) (by kernel_rfl) (e:=Extern.AbiNoEscape.same) (by kernel_rfl)];rw [Lib.run_noEscape];simp only [Result.andThen];rw [Oper.upon_value]
 go_wp2
 rw [Lib.run_from_unsafe w ⟨b,0,none⟩ Tryz.underlying306 Tryz.underlying162 hj hsh lies];simp only [Result.andThen];rw [Oper.upon_value]
 go_wp2
 go_end0
 exact ⟨rfl,rfl⟩
end Go.Proofs
end
