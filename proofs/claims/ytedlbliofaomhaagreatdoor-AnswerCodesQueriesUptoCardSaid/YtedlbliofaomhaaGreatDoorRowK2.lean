/- A closed fact of the row, by the kernel. -/
import Derived.Test.YtedlbliofaomhaaGreatDoorRowC
import Derived.JoinedCond
import Derived.Test.YtedlbliofaomhaaGreatDoorTie
namespace Go.Proofs.YtedlbliofaomhaaGreatDoor
open Go.RowKit
set_option maxRecDepth 100000
abbrev c0 := Rows.answerCodesQueriesUptoRow
abbrev s0 := (Rows.OpenSpec.upto Rows.answerCodesQueriesSpec).bare
theorem k10 : (c0.inPlace == Tryz.prog.inPlace 3) = true := by unfold Program.inPlace; rw [clo]; kernel_rfl
theorem unf : Tryz.prog.unfollowed 3 = true := by unfold Program.unfollowed; rw [clo]; kernel_rfl
theorem k11 : (c0.unfollowed == Tryz.prog.unfollowed 3) = true := by rw [unf]; rfl
theorem k12 : (c0.recurses == Tryz.prog.recurses 3) = true := by unfold Program.recurses; rw [unf]; rfl
theorem k13 : (c0.named == Tryz.prog.varsNamed 3) = true := by unfold Program.varsNamed; rw [clo]; kernel_rfl
end Go.Proofs.YtedlbliofaomhaaGreatDoor
