/- Texts of this proof, joined and shortened. -/
import Derived.Test.YtedljfabpknjiaaGreatDoorR11
import Derived.Test.YtedljfabpknjiaaGreatDoorR21
import Derived.Test.YtedljfabpknjiaaGreatDoorR1
import Derived.WalkKit
import Derived.ProofKit
import Derived.OpenShut
import Derived.Deep.DeepWitnessRowRef
import Derived.WideShapes
import Derived.Carry
set_option maxHeartbeats 1000000
namespace Go.Abs
open Go Go.Proofs Go.Proofs.YtedljfabpknjiaaGreatDoor Go.ChangeShapes Go.WideShapes Go.ChangeAt Go.RowKit
set_option maxRecDepth 100000
theorem V7:ownKnob Tryz.prog.godebug=none:=by kernel_rfl
theorem J5:laidOutB Tryz.prog=true:=by kernel_rfl
theorem M9:Tryz.prog.readableRec 56=true:=by kernel_rfl
theorem Q6:56<Tryz.prog.types.size:=oT (by kernel_rfl)
theorem M_:Tryz.prog.readableRec 37=true:=by kernel_rfl
theorem Q7:37<Tryz.prog.types.size:=oT (by kernel_rfl)
theorem Q8:Tryz.prog.readableRec 3=true:=by kernel_rfl
theorem Tv:3<Tryz.prog.types.size:=oT (by kernel_rfl)
theorem Q9:Tryz.f10.resultTypes = #[4]:=by kernel_rfl
theorem zr{v:Value}{cs:List Value}(h:v.cells.toList=cs)(hl:cs.length=4):v=.agg cs.toArray:=by
 subst h;cases v <;> simp [Value.cells] at hl ⊢
theorem M'{H:Type}{enc:TypeId×Value->H}{W:World}{n:Nat}{cs:List Value}{z:DataW H×List MemPlace}(h:DataW.trod enc Tryz.prog W 0 (fun _=>true) true n 56 cs=some z):∃(l:List Int) (v:Value),cs=[v]/\VD (eZ W) W (.sl 1 (numsD l)) v:=by
 obtain ⟨l,ds,v,e,w,_,_⟩:=fi (fun i=>[aD i]) (fun _ _=>True) Tryz.underlying56 c3 (by decide) (fun _=>rfl) (fun x d hd=>by rw [List.mem_singleton.1 hd];rfl) (fun m' hm cs z hz=>by
  obtain ⟨i,rfl,_,_⟩:=CO hz;refine ⟨i,?_,trivial⟩;simp only [VDs,VD,aD];exact ⟨_,[],rfl,rfl,rfl⟩) h
 exact ⟨l,v,e,w⟩
theorem vU (H:Type) (enc:TypeId×Value->H) (W:World) (Q_:Nat) (args:Array Value) (ds gs:List (DataW H)) (before:List MemPlace)
  (oW:∀(j:Nat) t v,Tryz.f10.params[j]? = some t->args[j]? = some v->Value.okWide Tryz.prog W .any Q_ t v) (hW:DataW.Whole enc Tryz.prog Tryz.f10.params.toList Rows.machineRunsSpec.vars false W args.toList ds gs before) (jz:Rows.uptoSmall H (ds++gs)=true) (hL:laidMetH Tryz.prog mN W) :
  Calls Tryz.prog 10 args W fun e W'=>∃v,e=.returned v/\Rows.machineRunsSpec.post enc Tryz.prog Tryz.f10 false true false false W args v W':=by
 have V8:=hW;obtain ⟨p,q,Y7,hV,rfl,Y8,uo⟩:=hW;have hA:DataW.TrodAll enc Tryz.prog W 0 (fun _=>true) true Tryz.f10.params.toList args.toList ds p:=Y7;rw [Tryz.params10] at hA;obtain ⟨v0,v1,v2,d0,d1,d2,p0,p1,p2,rfl,rfl,rfl,h0,h1,h2⟩:=trodAll_three hA;obtain ⟨rfl,rfl⟩:=trodVars_none hV;have XD:=F5 hL;obtain ⟨n,V9⟩:=h0;obtain ⟨m,bO⟩:=h1;obtain ⟨g,V_,WO,Y9⟩:=Sg V9;have hb:Rows.uptoBulk d0<=1048576:=by
  have:=oT jz;simp [Rows.uptoBulkAll] at this
  omega
 have hl:v0.cells.toList.length=4:=by
  obtain ⟨_,_,_,_,hl,_⟩:=DataW.trod_struct Tryz.underlying37 V9;rw [hl];exact c37
 have Y_:=zr rfl hl;obtain ⟨a1,l1,c1,rfl⟩:=okWide_slice Tryz.underlying56 (oW 1 56 v1 (by rw [Tryz.params10];rfl) rfl);obtain ⟨F,rfl⟩:=okWide_int Tryz.underlying3 (oW 2 3 v2 (by rw [Tryz.params10];rfl) rfl);obtain ⟨inp,w1,Y',OU⟩:=M' bO;obtain rfl:Value.slice a1 l1 c1=w1:=by simpa [Value.cells] using Y'
 have hS:=ry (Gd XD) 10485760 10485760 g (Y9 _ (by simp only;omega)) (by have:=WO;simp only at this;omega) inp F;have hc:=hS.2.2 tC (eZ W) W [v0,.slice a1 l1 c1,.int .i64 F] (H_ _ _) (Ge XD) (by
  simp only [Vs,V];refine ⟨v0,_,rfl,?_,_,_,rfl,OU,_,_,rfl,by simp only [VD,aD],rfl⟩;simp only [VD];exact ⟨_,Y_,V_⟩)
 refine Calls.mono hc ?_;rintro e W' ⟨H',lim',_,hF,_,_,hO⟩;obtain ⟨v,rfl,hv⟩:=hO;simp only [V,VD] at hv;subst hv;simp only [List.append_nil] at V8;have nK:∀(sp:Nat->Bool) (t:TypeId) (v:Value) (d:DataW H) (pp:List MemPlace),Tryz.prog.readableRec t=true->t<Tryz.prog.types.size->DataW.Trod enc Tryz.prog W 0 (fun _=>true) true t v d pp->(∀x∈pp,x∈p0++p1++p2)->(∀x∈p0++p1++p2,sp x.block=true)->DataW.Trod enc Tryz.prog W' 0 sp true t v d pp:=fun sp t v d pp hr hs ht hp wx=>
  WideElems.Trod_stays J5 hr hs ht (fun x hx=>LA hF (V8.lt x (hp x hx))) (fun x hx=>wx x (hp x hx))
 exact ⟨_,rfl,post_at (pa:=p0++(p1++p2)) (pv:=[]) V8 (fun _ _ _=>trodAll_mk1 (shut_bool Tryz.underlying4 _)) (fun sp wx=>trodAll_mk3 (nK sp 37 _ _ _ M_ Q7 ⟨n,V9⟩ (fun x hx=>by simp [hx]) wx) (nK sp 56 _ _ _ M9 Q6 ⟨m,bO⟩ (fun x hx=>by simp [hx]) wx) (nK sp 3 _ _ _ Q8 Tv h2 (fun x hx=>by simp [hx]) wx)) (fun _ _=>rfl) (by simp) hF (ok_one Q9 rfl (okWide_bool_mk Tryz.underlying4 _))⟩
noncomputable def uS:Array Value:=#[.agg #[.slice none 0 0,.slice none 0 0,.slice none 0 0,.slice none 0 0],.slice none 0 0,.int .i64 0]
theorem Na(os:Os){H:Type}(enc:TypeId×Value->H):∃ds J6,DataW.whole enc Tryz.prog ((mU os).forCall (fun _ _=>0) ⟨#[],uS,[]⟩).memory Tryz.f10.params.toList Rows.machineRunsSpec.vars false uS.toList 8=some (ds,[],J6)/\Rows.uptoSmall H (ds++[])=true:=
 ⟨[.agg [.nil,.nil,.nil,.nil],.nil,.lit (.int .i64 0)],[],by kernel_rfl,by kernel_rfl⟩
theorem B3(os:Os)(zt:os.Started)(H:Type)(enc:TypeId×Value->H)(F:Stop.Interp):
  ReturnsInHanded {} Tryz.checked os 10 .any ((Rows.OpenSpec.upto Rows.machineRunsSpec).preRow enc Tryz.prog Tryz.f10 Rows.machineRunsUptoRow.domain false Rows.machineRunsUptoRow.laid) (((Rows.OpenSpec.upto Rows.machineRunsSpec).at F).post enc Tryz.prog Tryz.f10 false true false false):=by
 obtain ⟨ds,J6,hx,hk⟩:=Na os enc;refine returnsInHanded_of_row (C:=Tryz.checked) (s:=Rows.OpenSpec.upto Rows.machineRunsSpec) V7 zt (by kernel_rfl) Tryz.func10
  (witness_row_atRef (enc:=enc) (C:=Tryz.checked) false (mU os) uS rfl (tE os uS) (by kernel_rfl) (by kernel_rfl)
   (OpenSpec.preRow_of_cond 8 hx rfl (fun k K2=>by cases K2;exact hk) (by kernel_rfl) (vJ os uS))) ?_
 intro W Q_ args ds gs before oW hW _ jz _ hL _ _;exact vU H enc W Q_ args ds gs before oW hW (jz _ rfl) hL
theorem J7:Rows.MachineRunsUptoSaid:=
 OpenClaim.holds_of_cond 10 Tryz.f10 rfl rfl rfl rfl rfl rfl rfl ⟨rfl,rfl,rfl,rfl,rfl⟩ rfl rfl rfl rfl rfl (by kernel_rfl) Tryz.func10 HO
  (oT (by kernel_rfl)) (by unfold Func.isWrapper;first|(rw [if_pos (by decide +kernel)];kernel_rfl)|(rw [if_neg (by decide +kernel)];exact ⟨rfl,rfl⟩))
  (fun os zt H enc _ F=>by rw [OpenClaim.pre_eq_preRow];exact B3 os zt H enc F)
theorem G7(f:FuncId)(fn:Func)(hf:Tryz.pinned.checked.prog.funcNamed "raycone/rayconelaw3.MachineRuns" = some f)(Sh:Tryz.pinned.checked.prog.funcs[f]? = some fn):
  true=Tryz.pinned.checked.prog.looks []/\∀(j:Nat) t,fn.params[j]? = some t->Tryz.pinned.checked.prog.wantsStandIn t=false:=by
 obtain rfl:f=10:=Option.some.inj ((show Tryz.prog.funcNamed "raycone/rayconelaw3.MachineRuns" = some 10 by kernel_rfl).symm.trans hf) |>.symm
 obtain rfl:fn=Tryz.f10:=(Option.some.inj (Tryz.func10.symm.trans Sh)).symm;refine ⟨by kernel_rfl,fun j t ht=>?_⟩;rw [Tryz.params10] at ht;have Ra:t=37\/t=56\/t=3:=by
  have:=Array.mem_of_getElem? ht;simp at this;omega
 rcases Ra with rfl|rfl|rfl
 ·exact (show Tryz.prog.wantsStandIn 37=false by kernel_rfl)
 ·exact (show Tryz.prog.wantsStandIn 56=false by kernel_rfl)
 exact (show Tryz.prog.wantsStandIn 3=false by kernel_rfl)
end Go.Abs
namespace Go.Proofs.YtedljfabpknjiaaGreatDoor
open Go Go.Abs
theorem machineRunsCard:Rows.MachineRunsUptoCardSaid:=
 Claim7.holds_tied_plain_at .later [] _ _ _ _ J7 (fun _ h=>by cases h) (by as_aux_lemma=>kernel_rfl) (fun _ h=>by cases h) machineRunsUpto_row_tie rfl ⟨rfl,rfl⟩ (by as_aux_lemma=>kernel_rfl) rfl G7 (by as_aux_lemma=>kernel_rfl)
end Go.Proofs.YtedljfabpknjiaaGreatDoor
#print axioms Go.Proofs.YtedljfabpknjiaaGreatDoor.machineRunsCard
