/- Texts of this proof, joined and shortened. -/
import Derived.Test.YtedljfabpknjiaaGreatDoorCards
import Derived.Test.YtedljfabpknjiaaGreatDoorTie
import Derived.WalkKit
import Derived.ProofKit
import Derived.OpenShut
section
namespace Go.Abs
open Go Go.Proofs Go.Proofs.YtedljfabpknjiaaGreatDoor
set_option maxRecDepth 100000
theorem HN{a b:Bool}(h:a=true)(k:b=true):(a&&b)=true:=by rw [h,k];rfl
set_option maxHeartbeats 8000000 in
theorem HO:joinedFacts Tryz.prog 10 Tryz.f10 (Rows.OpenSpec.upto Rows.machineRunsSpec).bare Rows.machineRunsUptoRow=true:=by
 unfold joinedFacts
 repeat' with_reducible refine HN ?_ ?_
 all_goals as_aux_lemma=>kernel_rfl
end Go.Abs
end
