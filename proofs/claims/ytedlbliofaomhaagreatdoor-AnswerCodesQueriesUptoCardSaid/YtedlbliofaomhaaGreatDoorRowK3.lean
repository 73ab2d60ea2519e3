/- A closed fact of the row, by the kernel. -/
import Derived.Test.YtedlbliofaomhaaGreatDoorRowK
namespace Go.Proofs.YtedlbliofaomhaaGreatDoor
open Go.RowKit
set_option maxRecDepth 100000
theorem facts : joinedFacts Tryz.prog 3 Tryz.f3 s0 c0 = true := by
  unfold joinedFacts
  rw [k1, k2, k3, k4, k5, k7, k9, k10, k11, k12, k13]
  kernel_rfl
end Go.Proofs.YtedlbliofaomhaaGreatDoor
