/- The examples of the document, worked by the abstract machine: sanity() returns true. -/
import Derived.Test.YtedlbliofaomhaaGreatDoorS39Defs
set_option linter.all false
open Go Go.Proofs
set_option maxRecDepth 100000
namespace Go.Ev
theorem r0_14 : entryRuns E0 251 150 150 e0_14 = true := by kernel_rfl
theorem r0_15 : entryRuns E0 251 150 150 e0_15 = true := by kernel_rfl
theorem r0_16 : entryRuns E0 251 150 150 e0_16 = true := by kernel_rfl
theorem r0_17 : entryRuns E0 251 150 150 e0_17 = true := by kernel_rfl
theorem r0_18 : entryRuns E0 251 150 150 e0_18 = true := by kernel_rfl
theorem r0_19 : entryRuns E0 251 150 150 e0_19 = true := by kernel_rfl
theorem r0_20 : entryRuns E0 251 150 150 e0_20 = true := by kernel_rfl
end Go.Ev
