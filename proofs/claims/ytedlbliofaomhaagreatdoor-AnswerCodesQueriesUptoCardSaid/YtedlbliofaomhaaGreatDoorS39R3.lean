/- The examples of the document, worked by the abstract machine: sanity() returns true. -/
import Derived.Test.YtedlbliofaomhaaGreatDoorS39Defs
set_option linter.all false
open Go Go.Proofs
set_option maxRecDepth 100000
namespace Go.Ev
theorem r1_0 : entryRuns E1 78 150 150 e1_0 = true := by kernel_rfl
theorem r1_3 : entryRuns E1 78 150 150 e1_3 = true := by kernel_rfl
theorem r1_6 : entryRuns E1 78 150 150 e1_6 = true := by kernel_rfl
theorem r1_9 : entryRuns E1 78 150 150 e1_9 = true := by kernel_rfl
theorem r1_12 : entryRuns E1 78 150 150 e1_12 = true := by kernel_rfl
theorem r1_15 : entryRuns E1 78 150 150 e1_15 = true := by kernel_rfl
theorem r2_2 : entryRuns E2 30 150 150 e2_2 = true := by kernel_rfl
theorem r2_5 : entryRuns E2 30 150 150 e2_5 = true := by kernel_rfl
theorem r2_8 : entryRuns E2 30 150 150 e2_8 = true := by kernel_rfl
theorem r2_11 : entryRuns E2 30 150 150 e2_11 = true := by kernel_rfl
theorem r2_14 : entryRuns E2 30 150 150 e2_14 = true := by kernel_rfl
theorem r3_0 : entryRuns E3 31 150 150 e3_0 = true := by kernel_rfl
theorem r3_3 : entryRuns E3 31 150 150 e3_3 = true := by kernel_rfl
theorem r4_1 : entryRuns E4 22 150 150 e4_1 = true := by kernel_rfl
theorem r4_4 : entryRuns E4 22 150 150 e4_4 = true := by kernel_rfl
theorem r4_7 : entryRuns E4 22 150 150 e4_7 = true := by kernel_rfl
theorem r5_0 : entryRuns E5 23 150 150 e5_0 = true := by kernel_rfl
theorem r5_3 : entryRuns E5 23 150 150 e5_3 = true := by kernel_rfl
theorem r5_6 : entryRuns E5 23 150 150 e5_6 = true := by kernel_rfl
theorem r7_0 : entryRuns E7 357 150 150 e7_0 = true := by kernel_rfl
theorem r7_3 : entryRuns E7 357 150 150 e7_3 = true := by kernel_rfl
theorem r10_0 : entryRuns E10 158 150 150 e10_0 = true := by kernel_rfl
theorem r11_1 : entryRuns E11 76 150 150 e11_1 = true := by kernel_rfl
theorem r12_2 : entryRuns E12 77 150 150 e12_2 = true := by kernel_rfl
theorem r13_1 : entryRuns E13 8 150 150 e13_1 = true := by kernel_rfl
theorem r15_1 : entryRuns E15 71 150 150 e15_1 = true := by kernel_rfl
theorem r15_4 : entryRuns E15 71 150 150 e15_4 = true := by kernel_rfl
theorem r18_0 : entryRuns E18 56 150 150 e18_0 = true := by kernel_rfl
theorem r21_0 : entryRuns E21 63 150 150 e21_0 = true := by kernel_rfl
theorem r22_0 : entryRuns E22 21 150 150 e22_0 = true := by kernel_rfl
theorem r22_3 : entryRuns E22 21 150 150 e22_3 = true := by kernel_rfl
theorem r24_1 : entryRuns E24 16 150 150 e24_1 = true := by kernel_rfl
theorem r25_1 : entryRuns E25 17 150 150 e25_1 = true := by kernel_rfl
theorem r25_4 : entryRuns E25 17 150 150 e25_4 = true := by kernel_rfl
end Go.Ev
