/- Texts of this proof: AbsKR. -/
import Derived.Test.YtedljfabpknjiaaGreatDoorV16
import Derived.Test.YtedljfabpknjiaaGreatDoorV14
import Derived.Test.YtedljfabpknjiaaGreatDoorV15
import Derived.Test.YtedljfabpknjiaaGreatDoorV9
import Derived.Test.YtedljfabpknjiaaGreatDoorV11
import Derived.Test.YtedljfabpknjiaaGreatDoorV1
import Derived.WalkKit
import Derived.ProofKit
import Derived.OpenShut
import Derived.Deep.DeepWitnessRowRef
namespace Go.Abs
open Go Go.Proofs Go.Proofs.YtedljfabpknjiaaGreatDoor Go.ChangeShapes Go.WideShapes Go.ChangeAt Go.RowKit
set_option maxRecDepth 100000
theorem ownT : ownKnob Tryz.prog.godebug = none := by kernel_rfl
theorem laidOutT : laidOutB Tryz.prog = true := by kernel_rfl
theorem readT37 : Tryz.prog.readableRec 37 = true := by kernel_rfl
theorem size37 : 37 < Tryz.prog.types.size := of_decide_eq_true (by kernel_rfl)
theorem resT8 : Tryz.f8.resultTypes = #[4] := by kernel_rfl
theorem agg_of_cells {v : Value} {cs : List Value} (h : v.cells.toList = cs) (hl : cs.length = 4) : v = .agg cs.toArray := by
 subst h
 cases v <;> simp [Value.cells] at hl ⊢
theorem says_contract (H : Type) (enc : TypeId × Value → H) (W : World) (_base : Nat) (args : Array Value) (ds gs : List (DataW H)) (before : List MemPlace)
  (hW : DataW.Whole enc Tryz.prog Tryz.f8.params.toList Rows.checkSaysSpec.vars false W args.toList ds gs before) (hcond : Rows.uptoSmall H (ds ++ gs) = true) (hL : laidMetH Tryz.prog laidAll W) :
  Calls Tryz.prog 8 args W fun e W' => ∃ v, e = .returned v ∧ Rows.checkSaysSpec.post enc Tryz.prog Tryz.f8 false true false false W args v W' := by
 have hW' := hW; obtain ⟨p, q, hA0, hV, rfl, hfz, hnd⟩ := hW; have hA : DataW.TrodAll enc Tryz.prog W 0 (fun _ => true) true Tryz.f8.params.toList args.toList ds p := hA0; rw [Tryz.params8] at hA; obtain ⟨v0, d0, rfl, rfl, h0⟩ := trodAll_one hA; obtain ⟨rfl, rfl⟩ := trodVars_none hV; have hL' := laidOk_of hL; obtain ⟨n, h0'⟩ := h0; obtain ⟨g, hg1, hg2, hg3⟩ := rd_pg h0'
 have hb : Rows.uptoBulk d0 ≤ 1048576 := by
  have := of_decide_eq_true hcond
  simpa [Rows.uptoBulkAll] using this
 have hl : v0.cells.toList.length = 4 := by
  obtain ⟨_, _, _, _, hl, _⟩ := DataW.trod_struct Tryz.underlying37 h0'; rw [hl]; exact c37
 have hv0 := agg_of_cells rfl hl; have hS := checkSays_true (errsOk_of hL') 10485760 10485760 g (hg3 _ (by simp only; omega)) (by have := hg2; simp only at this; omega)
 have hc := hS.2.2 noRow (limOf W) W [v0] (noRow_ok _ _) (globOk_of hL') (by
  simp only [Vs, V, VD]
  exact ⟨v0, [], rfl, ⟨_, hv0, hg1⟩, rfl⟩)
 refine Calls.mono hc ?_; rintro e W' ⟨H', lim', _, hF, _, _, hO⟩; obtain ⟨v, rfl, hv⟩ := hO; simp only [V, VD] at hv; subst hv; simp only [List.append_nil] at hW'
 have keep : ∀ sp : Nat → Bool, (∀ x ∈ p, sp x.block = true) → DataW.Trod enc Tryz.prog W' 0 sp true 37 v0 d0 p := fun sp hsp =>
  WideElems.Trod_stays laidOutT readT37 size37 ⟨n, h0'⟩ (fun x hx => same_of hF (hW'.lt x hx)) hsp
 exact ⟨_, rfl, post_at (pa := p) (pv := []) hW' (fun _ _ _ => trodAll_mk1 (shut_bool Tryz.underlying4 _)) (fun sp hsp => trodAll_mk1 (keep sp hsp)) (fun _ _ => rfl) (by simp) hF (ok_one resT8 rfl (okWide_bool_mk Tryz.underlying4 _))⟩
noncomputable def args8 : Array Value := #[.agg #[.slice none 0 0, .slice none 0 0, .slice none 0 0, .slice none 0 0]]
theorem reads8 (os : Os) {H : Type} (enc : TypeId × Value → H) : ∃ ds places, DataW.whole enc Tryz.prog ((laidWorld os).forCall (fun _ _ => 0) ⟨#[], args8, []⟩).memory Tryz.f8.params.toList Rows.checkSaysSpec.vars false args8.toList 8 = some (ds, [], places) ∧ Rows.uptoSmall H (ds ++ []) = true :=
 ⟨[.agg [.nil, .nil, .nil, .nil]], [], by kernel_rfl, by kernel_rfl⟩
theorem says_lifted (os : Os) (started : os.Started) (H : Type) (enc : TypeId × Value → H) (F : Stop.Interp) :
  ReturnsInHanded {} Tryz.checked os 8 .any ((Rows.OpenSpec.upto Rows.checkSaysSpec).preRow enc Tryz.prog Tryz.f8 Rows.checkSaysUptoRow.domain false Rows.checkSaysUptoRow.laid) (((Rows.OpenSpec.upto Rows.checkSaysSpec).at F).post enc Tryz.prog Tryz.f8 false true false false) := by
 obtain ⟨ds, places, hx, hk⟩ := reads8 os enc
 refine returnsInHanded_of_row (C := Tryz.checked) (s := Rows.OpenSpec.upto Rows.checkSaysSpec) ownT started (by kernel_rfl) Tryz.func8
  (witness_row_atRef (enc := enc) (C := Tryz.checked) false (laidWorld os) args8 rfl (laidWorld_vars os args8) (by kernel_rfl) (by kernel_rfl)
   (OpenSpec.preRow_of_cond 8 hx rfl (fun k hk' => by cases hk'; exact hk) (by kernel_rfl) (laidWorld_met os args8))) ?_
 intro W base args ds gs before hval hW _ hcond _ hL _ _; exact says_contract H enc W base args ds gs before hW (hcond _ rfl) hL
theorem saysSaid : Rows.CheckSaysUptoSaid :=
 OpenClaim.holds_of_cond 8 Tryz.f8 rfl rfl rfl rfl rfl rfl rfl ⟨rfl, rfl, rfl, rfl, rfl⟩ rfl rfl rfl rfl rfl (by kernel_rfl) Tryz.func8 closed8
  (of_decide_eq_true (by kernel_rfl)) (by unfold Func.isWrapper; first | (rw [if_pos (by decide +kernel)]; kernel_rfl) | (rw [if_neg (by decide +kernel)]; exact ⟨rfl, rfl⟩))
  (fun os started H enc _ F => by rw [OpenClaim.pre_eq_preRow]; exact says_lifted os started H enc F)
theorem saysPlain (f : FuncId) (fn : Func) (hf : Tryz.pinned.checked.prog.funcNamed "raycone/rayconelaw3.CheckSays" = some f) (hfn : Tryz.pinned.checked.prog.funcs[f]? = some fn) :
  true = Tryz.pinned.checked.prog.looks [] ∧ ∀ (j : Nat) t, fn.params[j]? = some t → Tryz.pinned.checked.prog.wantsStandIn t = false := by
 obtain rfl : f = 8 := Option.some.inj ((show Tryz.prog.funcNamed "raycone/rayconelaw3.CheckSays" = some 8 by kernel_rfl).symm.trans hf) |>.symm
 obtain rfl : fn = Tryz.f8 := (Option.some.inj (Tryz.func8.symm.trans hfn)).symm; refine ⟨by kernel_rfl, fun j t ht => ?_⟩; rw [Tryz.params8] at ht
 obtain rfl : t = 37 := by simpa using Array.mem_of_getElem? ht
 exact (show Tryz.prog.wantsStandIn 37 = false by kernel_rfl)
end Go.Abs
namespace Go.Proofs.YtedljfabpknjiaaGreatDoor
open Go Go.Abs
theorem checkSaysCard : Rows.CheckSaysUptoCardSaid :=
 Claim7.holds_tied_plain_at .later [] _ _ _ _ saysSaid (fun _ h => by cases h) (by kernel_rfl) (fun _ h => by cases h) checkSaysUpto_row_tie rfl ⟨rfl, rfl⟩ (by kernel_rfl) rfl saysPlain (by kernel_rfl)
end Go.Proofs.YtedljfabpknjiaaGreatDoor
#print axioms Go.Proofs.YtedljfabpknjiaaGreatDoor.checkSaysCard
