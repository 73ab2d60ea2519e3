/- A closed fact of the row, by the kernel. -/
import Derived.Test.YtedlbliofaomhaaGreatDoorRowK3
namespace Go.Proofs.YtedlbliofaomhaaGreatDoor
open Go.RowKit
set_option maxRecDepth 100000
theorem goes3 : Tryz.prog.goes 3 = false := by unfold Program.goes; rw [clo, unf]; kernel_rfl
theorem name3 : Tryz.prog.funcNamed c0.func = some 3 := by kernel_rfl
theorem gb : false = c0.goesBy Tryz.prog := by
  unfold OpenClaim.goesBy Program.goesAt Program.goesFrom
  rw [name3, Option.any_some, goes3, Bool.false_or]
  rfl
theorem wfText : c0.wfByText (Rows.OpenSpec.upto Rows.answerCodesQueriesSpec) = true := by kernel_rfl
theorem looks1 : true = Tryz.prog.looks [] := by kernel_rfl
theorem stand29 : Tryz.prog.wantsStandIn 29 = false := by kernel_rfl
theorem stand30 : Tryz.prog.wantsStandIn 30 = false := by kernel_rfl
theorem mainIs1 : Tryz.prog.mainIs = some (true, "1348ed0af5859a1e2af63a50585630fef7671b766560fbc5c48de9c44ec793dc".toList) := by kernel_rfl
end Go.Proofs.YtedlbliofaomhaaGreatDoor
