/- The examples of the document, worked by the abstract machine: sanity() returns true. -/
import Derived.Test.YtedlbliofaomhaaGreatDoorS39Defs
set_option linter.all false
open Go Go.Proofs
set_option maxRecDepth 100000
namespace Go.Ev
theorem r0_0 : entryRuns E0 251 150 150 e0_0 = true := by kernel_rfl
theorem r0_1 : entryRuns E0 251 150 150 e0_1 = true := by kernel_rfl
theorem r0_2 : entryRuns E0 251 150 150 e0_2 = true := by kernel_rfl
theorem r0_3 : entryRuns E0 251 150 150 e0_3 = true := by kernel_rfl
theorem r0_4 : entryRuns E0 251 150 150 e0_4 = true := by kernel_rfl
theorem r0_5 : entryRuns E0 251 150 150 e0_5 = true := by kernel_rfl
theorem r0_6 : entryRuns E0 251 150 150 e0_6 = true := by kernel_rfl
end Go.Ev
