/- The closed facts of the row Rows.nodeNobodyRow, together. No condition. -/
import Derived.Test.YtllkmclobkamkaaGreatDoorFactsNode
namespace Go.Proofs.YtllkmclobkamkaaGreatDoor.factsNode
open Go
set_option maxRecDepth 1000000 in
theorem facts : joinedFacts Tryz.prog 3 Tryz.f3 Rows.nodeNobodySpec Rows.nodeNobodyRow = true := by
  unfold joinedFacts
  rw [k1, k2, k3, k4, k5, k6, k7, k8, k9, k10, k11, k12, k13, k14, k15, k16, k17, k18, k19, k20, k21, k22, k23, k24, k25, k26, k27, k28, k30, k31, k32]
  simp only [Bool.and_self, Bool.true_and, Bool.and_true]
  exact k29
end Go.Proofs.YtllkmclobkamkaaGreatDoor.factsNode
