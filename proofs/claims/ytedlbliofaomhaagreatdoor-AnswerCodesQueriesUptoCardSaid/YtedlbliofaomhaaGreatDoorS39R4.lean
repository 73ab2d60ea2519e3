/- The examples of the document, worked by the abstract machine: sanity() returns true. -/
import Derived.Test.YtedlbliofaomhaaGreatDoorS39Defs
set_option linter.all false
open Go Go.Proofs
set_option maxRecDepth 100000
namespace Go.Ev
theorem r1_1 : entryRuns E1 78 150 150 e1_1 = true := by kernel_rfl
theorem r1_4 : entryRuns E1 78 150 150 e1_4 = true := by kernel_rfl
theorem r1_7 : entryRuns E1 78 150 150 e1_7 = true := by kernel_rfl
theorem r1_10 : entryRuns E1 78 150 150 e1_10 = true := by kernel_rfl
theorem r1_13 : entryRuns E1 78 150 150 e1_13 = true := by kernel_rfl
theorem r2_0 : entryRuns E2 30 150 150 e2_0 = true := by kernel_rfl
theorem r2_3 : entryRuns E2 30 150 150 e2_3 = true := by kernel_rfl
theorem r2_6 : entryRuns E2 30 150 150 e2_6 = true := by kernel_rfl
theorem r2_9 : entryRuns E2 30 150 150 e2_9 = true := by kernel_rfl
theorem r2_12 : entryRuns E2 30 150 150 e2_12 = true := by kernel_rfl
theorem r2_15 : entryRuns E2 30 150 150 e2_15 = true := by kernel_rfl
theorem r3_1 : entryRuns E3 31 150 150 e3_1 = true := by kernel_rfl
theorem r3_4 : entryRuns E3 31 150 150 e3_4 = true := by kernel_rfl
theorem r4_2 : entryRuns E4 22 150 150 e4_2 = true := by kernel_rfl
theorem r4_5 : entryRuns E4 22 150 150 e4_5 = true := by kernel_rfl
theorem r4_8 : entryRuns E4 22 150 150 e4_8 = true := by kernel_rfl
theorem r5_1 : entryRuns E5 23 150 150 e5_1 = true := by kernel_rfl
theorem r5_4 : entryRuns E5 23 150 150 e5_4 = true := by kernel_rfl
theorem r6_0 : entryRuns E6 383 150 150 e6_0 = true := by kernel_rfl
theorem r7_1 : entryRuns E7 357 150 150 e7_1 = true := by kernel_rfl
theorem r8_0 : entryRuns E8 355 150 150 e8_0 = true := by kernel_rfl
theorem r10_1 : entryRuns E10 158 150 150 e10_1 = true := by kernel_rfl
theorem r12_0 : entryRuns E12 77 150 150 e12_0 = true := by kernel_rfl
theorem r12_3 : entryRuns E12 77 150 150 e12_3 = true := by kernel_rfl
theorem r14_0 : entryRuns E14 5 150 150 e14_0 = true := by kernel_rfl
theorem r15_2 : entryRuns E15 71 150 150 e15_2 = true := by kernel_rfl
theorem r16_0 : entryRuns E16 12 150 150 e16_0 = true := by kernel_rfl
theorem r19_0 : entryRuns E19 135 150 150 e19_0 = true := by kernel_rfl
theorem r21_1 : entryRuns E21 63 150 150 e21_1 = true := by kernel_rfl
theorem r22_1 : entryRuns E22 21 150 150 e22_1 = true := by kernel_rfl
theorem r23_0 : entryRuns E23 14 150 150 e23_0 = true := by kernel_rfl
theorem r24_2 : entryRuns E24 16 150 150 e24_2 = true := by kernel_rfl
theorem r25_2 : entryRuns E25 17 150 150 e25_2 = true := by kernel_rfl
theorem r26_0 : entryRuns E26 20 150 150 e26_0 = true := by kernel_rfl
end Go.Ev
