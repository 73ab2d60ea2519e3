/- The examples of the document, worked by the abstract machine: sanity() returns true. -/
import Derived.Test.YtedlbliofaomhaaGreatDoorS39Defs
set_option linter.all false
open Go Go.Proofs
set_option maxRecDepth 100000
namespace Go.Ev
theorem r0_7 : entryRuns E0 251 150 150 e0_7 = true := by kernel_rfl
theorem r0_8 : entryRuns E0 251 150 150 e0_8 = true := by kernel_rfl
theorem r0_9 : entryRuns E0 251 150 150 e0_9 = true := by kernel_rfl
theorem r0_10 : entryRuns E0 251 150 150 e0_10 = true := by kernel_rfl
theorem r0_11 : entryRuns E0 251 150 150 e0_11 = true := by kernel_rfl
theorem r0_12 : entryRuns E0 251 150 150 e0_12 = true := by kernel_rfl
theorem r0_13 : entryRuns E0 251 150 150 e0_13 = true := by kernel_rfl
end Go.Ev
