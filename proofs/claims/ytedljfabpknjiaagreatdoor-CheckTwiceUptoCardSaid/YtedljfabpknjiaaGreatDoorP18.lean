/- Texts of this proof, joined: AbsJL. -/
import Derived.Test.YtedljfabpknjiaaGreatDoorP11
import Derived.Test.YtedljfabpknjiaaGreatDoorP17
import Derived.Test.YtedljfabpknjiaaGreatDoorP1
import Derived.WalkKit
import Derived.ProofKit
import Derived.OpenShut
import Derived.Deep.DeepWitnessRowRef
import Derived.WideShapes
import Derived.Carry
namespace Go.Abs
open Go Go.Proofs Go.Proofs.YtedljfabpknjiaaGreatDoor Go.ChangeShapes Go.WideShapes Go.ChangeAt Go.RowKit
set_option maxRecDepth 100000
theorem ownT:ownKnob Tryz.prog.godebug=none:=by kernel_rfl
theorem laidOutT:laidOutB Tryz.prog=true:=by kernel_rfl
theorem readT56:Tryz.prog.readableRec 56=true:=by kernel_rfl
theorem size56:56<Tryz.prog.types.size:=of_decide_eq_true (by kernel_rfl)
theorem readT37:Tryz.prog.readableRec 37=true:=by kernel_rfl
theorem size37:37<Tryz.prog.types.size:=of_decide_eq_true (by kernel_rfl)
theorem resT13:Tryz.f13.resultTypes = #[4]:=by kernel_rfl
theorem agg_of_cells{v:Value}{cs:List Value}(h:v.cells.toList=cs)(hl:cs.length=4):v=.agg cs.toArray:=by
 subst h
 cases v <;> simp [Value.cells] at hl ⊢
theorem rd_nums{H:Type}{enc:TypeId×Value→H}{W:World}{n:Nat}{cs:List Value}{z:DataW H×List MemPlace}(h:DataW.trod enc Tryz.prog W 0 (fun _=>true) true n 56 cs=some z):∃(l:List Int) (v:Value),cs=[v]∧VD (limOf W) W (.sl 1 (numsD l)) v:=by
 obtain ⟨l,ds,v,e,w,_,_⟩:=rd_slice (fun i=>[num i]) (fun _ _=>True) Tryz.underlying56 c3 (by decide) (fun _=>rfl) (fun x d hd=>by rw [List.mem_singleton.1 hd];rfl) (fun m' hm cs z hz=>by
  obtain ⟨i,rfl,_,_⟩:=rd_int hz;refine ⟨i,?_,trivial⟩;simp only [VDs,VD,num]
  exact ⟨_,[],rfl,rfl,rfl⟩) h
 exact ⟨l,v,e,w⟩
theorem two_contract (H:Type) (enc:TypeId×Value→H) (W:World) (base:Nat) (args:Array Value) (ds gs:List (DataW H)) (before:List MemPlace)
  (hval:∀(j:Nat) t v,Tryz.f13.params[j]? = some t→args[j]? = some v→Value.okWide Tryz.prog W .any base t v) (hW:DataW.Whole enc Tryz.prog Tryz.f13.params.toList Rows.checkTwiceSpec.vars false W args.toList ds gs before) (hcond:Rows.uptoSmall H (ds++gs)=true) (hL:laidMetH Tryz.prog laidAll W) :
  Calls Tryz.prog 13 args W fun e W'=>∃v,e=.returned v∧Rows.checkTwiceSpec.post enc Tryz.prog Tryz.f13 false true false false W args v W':=by
 have hW':=hW;obtain ⟨p,q,hA0,hV,rfl,hfz,hnd⟩:=hW;have hA:DataW.TrodAll enc Tryz.prog W 0 (fun _=>true) true Tryz.f13.params.toList args.toList ds p:=hA0;rw [Tryz.params13] at hA;obtain ⟨v0,v1,d0,d1,p0,p1,rfl,rfl,rfl,h0,h1⟩:=trodAll_two hA;obtain ⟨rfl,rfl⟩:=trodVars_none hV;have hL':=laidOk_of hL;obtain ⟨n,h0'⟩:=h0;obtain ⟨m,h1'⟩:=h1;obtain ⟨g,hg1,hg2,hg3⟩:=rd_pg h0'
 have hb:Rows.uptoBulk d0≤1048576:=by
  have:=of_decide_eq_true hcond
  simp [Rows.uptoBulkAll] at this
  omega
 have hl:v0.cells.toList.length=4:=by
  obtain ⟨_,_,_,_,hl,_⟩:=DataW.trod_struct Tryz.underlying37 h0';rw [hl];exact c37
 have hv0:=agg_of_cells rfl hl;obtain ⟨a1,l1,c1,rfl⟩:=okWide_slice Tryz.underlying56 (hval 1 56 v1 (by rw [Tryz.params13];rfl) rfl);obtain ⟨inp,w1,hw1,hV1⟩:=rd_nums h1'
 obtain rfl:Value.slice a1 l1 c1=w1:=by simpa [Value.cells] using hw1
 have hS:=checkTwice_true (errsOk_of hL') 10485760 10485760 g (hg3 _ (by simp only;omega)) (by have:=hg2;simp only at this;omega) inp
 have hc:=hS.2.2 noRow (limOf W) W [v0,.slice a1 l1 c1] (noRow_ok _ _) (globOk_of hL') (by
  simp only [Vs,V];refine ⟨v0,_,rfl,?_,_,_,rfl,hV1,rfl⟩;simp only [VD]
  exact ⟨_,hv0,hg1⟩)
 refine Calls.mono hc ?_;rintro e W' ⟨H',lim',_,hF,_,_,hO⟩;obtain ⟨v,rfl,hv⟩:=hO;simp only [V,VD] at hv;subst hv;simp only [List.append_nil] at hW'
 have keep0:∀sp:Nat→Bool,(∀x∈p0++p1,sp x.block=true)→DataW.Trod enc Tryz.prog W' 0 sp true 37 v0 d0 p0:=fun sp hsp=>
  WideElems.Trod_stays laidOutT readT37 size37 ⟨n,h0'⟩ (fun x hx=>same_of hF (hW'.lt x (List.mem_append_left _ hx))) (fun x hx=>hsp x (List.mem_append_left _ hx))
 have keep1:∀sp:Nat→Bool,(∀x∈p0++p1,sp x.block=true)→DataW.Trod enc Tryz.prog W' 0 sp true 56 (.slice a1 l1 c1) d1 p1:=fun sp hsp=>
  WideElems.Trod_stays laidOutT readT56 size56 ⟨m,h1'⟩ (fun x hx=>same_of hF (hW'.lt x (List.mem_append_right _ hx))) (fun x hx=>hsp x (List.mem_append_right _ hx))
 exact ⟨_,rfl,post_at (pa:=p0++p1) (pv:=[]) hW' (fun _ _ _=>trodAll_mk1 (shut_bool Tryz.underlying4 _)) (fun sp hsp=>trodAll_mk2 (keep0 sp hsp) (keep1 sp hsp)) (fun _ _=>rfl) (by simp) hF (ok_one resT13 rfl (okWide_bool_mk Tryz.underlying4 _))⟩
noncomputable def args13:Array Value:=#[.agg #[.slice none 0 0,.slice none 0 0,.slice none 0 0,.slice none 0 0],.slice none 0 0]
theorem reads13(os:Os){H:Type}(enc:TypeId×Value→H):∃ds places,DataW.whole enc Tryz.prog ((laidWorld os).forCall (fun _ _=>0) ⟨#[],args13,[]⟩).memory Tryz.f13.params.toList Rows.checkTwiceSpec.vars false args13.toList 8=some (ds,[],places)∧Rows.uptoSmall H (ds++[])=true:=
 ⟨[.agg [.nil,.nil,.nil,.nil],.nil],[],by kernel_rfl,by kernel_rfl⟩
theorem two_lifted(os:Os)(started:os.Started)(H:Type)(enc:TypeId×Value→H)(F:Stop.Interp):
  ReturnsInHanded {} Tryz.checked os 13 .any ((Rows.OpenSpec.upto Rows.checkTwiceSpec).preRow enc Tryz.prog Tryz.f13 Rows.checkTwiceUptoRow.domain false Rows.checkTwiceUptoRow.laid) (((Rows.OpenSpec.upto Rows.checkTwiceSpec).at F).post enc Tryz.prog Tryz.f13 false true false false):=by
 obtain ⟨ds,places,hx,hk⟩:=reads13 os enc
 refine returnsInHanded_of_row (C:=Tryz.checked) (s:=Rows.OpenSpec.upto Rows.checkTwiceSpec) ownT started (by kernel_rfl) Tryz.func13
  (witness_row_atRef (enc:=enc) (C:=Tryz.checked) false (laidWorld os) args13 rfl (laidWorld_vars os args13) (by kernel_rfl) (by kernel_rfl)
   (OpenSpec.preRow_of_cond 8 hx rfl (fun k hk'=>by cases hk';exact hk) (by kernel_rfl) (laidWorld_met os args13))) ?_
 intro W base args ds gs before hval hW _ hcond _ hL _ _;exact two_contract H enc W base args ds gs before hval hW (hcond _ rfl) hL
theorem twoSaid:Rows.CheckTwiceUptoSaid:=
 OpenClaim.holds_of_cond 13 Tryz.f13 rfl rfl rfl rfl rfl rfl rfl ⟨rfl,rfl,rfl,rfl,rfl⟩ rfl rfl rfl rfl rfl (by kernel_rfl) Tryz.func13 closed13
  (of_decide_eq_true (by kernel_rfl)) (by unfold Func.isWrapper;first|(rw [if_pos (by decide +kernel)];kernel_rfl)|(rw [if_neg (by decide +kernel)];exact ⟨rfl,rfl⟩))
  (fun os started H enc _ F=>by rw [OpenClaim.pre_eq_preRow];exact two_lifted os started H enc F)
theorem twoPlain(f:FuncId)(fn:Func)(hf:Tryz.pinned.checked.prog.funcNamed "raycone/rayconelaw3.CheckTwice" = some f)(hfn:Tryz.pinned.checked.prog.funcs[f]? = some fn):
  true=Tryz.pinned.checked.prog.looks []∧∀(j:Nat) t,fn.params[j]? = some t→Tryz.pinned.checked.prog.wantsStandIn t=false:=by
 obtain rfl:f=13:=Option.some.inj ((show Tryz.prog.funcNamed "raycone/rayconelaw3.CheckTwice" = some 13 by kernel_rfl).symm.trans hf) |>.symm
 obtain rfl:fn=Tryz.f13:=(Option.some.inj (Tryz.func13.symm.trans hfn)).symm;refine ⟨by kernel_rfl,fun j t ht=>?_⟩;rw [Tryz.params13] at ht
 have ht':t=37∨t=56:=by simpa using Array.mem_of_getElem? ht
 rcases ht' with rfl|rfl
 ·exact (show Tryz.prog.wantsStandIn 37=false by kernel_rfl)
 exact (show Tryz.prog.wantsStandIn 56=false by kernel_rfl)
end Go.Abs
namespace Go.Proofs.YtedljfabpknjiaaGreatDoor
open Go Go.Abs
theorem checkTwiceCard:Rows.CheckTwiceUptoCardSaid:=
 Claim7.holds_tied_plain_at .later [] _ _ _ _ twoSaid (fun _ h=>by cases h) (by as_aux_lemma=>kernel_rfl) (fun _ h=>by cases h) checkTwiceUpto_row_tie rfl ⟨rfl,rfl⟩ (by as_aux_lemma=>kernel_rfl) rfl twoPlain (by as_aux_lemma=>kernel_rfl)
end Go.Proofs.YtedljfabpknjiaaGreatDoor
#print axioms Go.Proofs.YtedljfabpknjiaaGreatDoor.checkTwiceCard
