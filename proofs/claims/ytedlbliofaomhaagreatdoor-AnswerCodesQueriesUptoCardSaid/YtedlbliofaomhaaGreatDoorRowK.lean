/- A closed fact of the row, by the kernel. -/
import Derived.Test.YtedlbliofaomhaaGreatDoorCards
import Derived.Test.YtedlbliofaomhaaGreatDoorTie
import Derived.ProofKit
import Derived.Test.YtedlbliofaomhaaGreatDoorRowK2
import Derived.JoinedCond
namespace Go.Proofs.YtedlbliofaomhaaGreatDoor
open Go.RowKit
set_option maxRecDepth 100000


theorem k1 : c0.wf (OpenSpec.ofChange s0) = true := by kernel_rfl
theorem k2 : laidOutB Tryz.prog = true := by kernel_rfl
theorem k3 : mapsRowed Tryz.prog = true := by kernel_rfl
theorem k4 : Tryz.f3.params.all (Tryz.prog.readableRec ·) = true := by kernel_rfl
theorem k5 : namedTie Tryz.prog c0.named s0.vars = true := by kernel_rfl
theorem k7 : (Tryz.prog.stops == []) = true := by kernel_rfl
theorem k9 : (Tryz.prog.stopKnobs == []) = true := by kernel_rfl
end Go.Proofs.YtedlbliofaomhaaGreatDoor
