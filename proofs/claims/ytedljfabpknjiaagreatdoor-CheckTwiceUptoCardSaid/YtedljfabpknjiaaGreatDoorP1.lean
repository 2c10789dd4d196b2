/- Texts of this proof, joined: AbsJK. -/
import Derived.Test.YtedljfabpknjiaaGreatDoorCards
import Derived.Test.YtedljfabpknjiaaGreatDoorTie
import Derived.WalkKit
import Derived.ProofKit
import Derived.OpenShut
section
namespace Go.Abs
open Go Go.Proofs Go.Proofs.YtedljfabpknjiaaGreatDoor
set_option maxRecDepth 100000
theorem and_mk13{a b:Bool}(h:a=true)(k:b=true):(a&&b)=true:=by rw [h,k];rfl
set_option maxHeartbeats 8000000 in
theorem closed13:joinedFacts Tryz.prog 13 Tryz.f13 (Rows.OpenSpec.upto Rows.checkTwiceSpec).bare Rows.checkTwiceUptoRow=true:=by
 unfold joinedFacts
 repeat' with_reducible refine and_mk13 ?_ ?_
 all_goals as_aux_lemma=>kernel_rfl
end Go.Abs
end
