/- The examples of the document, worked by the abstract machine: sanity() returns true. -/
import Derived.Test.YtedlbliofaomhaaGreatDoorS39Defs
set_option linter.all false
open Go Go.Proofs
set_option maxRecDepth 100000
namespace Go.Ev
theorem r1_2 : entryRuns E1 78 150 150 e1_2 = true := by kernel_rfl
theorem r1_5 : entryRuns E1 78 150 150 e1_5 = true := by kernel_rfl
theorem r1_8 : entryRuns E1 78 150 150 e1_8 = true := by kernel_rfl
theorem r1_11 : entryRuns E1 78 150 150 e1_11 = true := by kernel_rfl
theorem r1_14 : entryRuns E1 78 150 150 e1_14 = true := by kernel_rfl
theorem r2_1 : entryRuns E2 30 150 150 e2_1 = true := by kernel_rfl
theorem r2_4 : entryRuns E2 30 150 150 e2_4 = true := by kernel_rfl
theorem r2_7 : entryRuns E2 30 150 150 e2_7 = true := by kernel_rfl
theorem r2_10 : entryRuns E2 30 150 150 e2_10 = true := by kernel_rfl
theorem r2_13 : entryRuns E2 30 150 150 e2_13 = true := by kernel_rfl
theorem r2_16 : entryRuns E2 30 150 150 e2_16 = true := by kernel_rfl
theorem r3_2 : entryRuns E3 31 150 150 e3_2 = true := by kernel_rfl
theorem r4_0 : entryRuns E4 22 150 150 e4_0 = true := by kernel_rfl
theorem r4_3 : entryRuns E4 22 150 150 e4_3 = true := by kernel_rfl
theorem r4_6 : entryRuns E4 22 150 150 e4_6 = true := by kernel_rfl
theorem r4_9 : entryRuns E4 22 150 150 e4_9 = true := by kernel_rfl
theorem r5_2 : entryRuns E5 23 150 150 e5_2 = true := by kernel_rfl
theorem r5_5 : entryRuns E5 23 150 150 e5_5 = true := by kernel_rfl
theorem r6_1 : entryRuns E6 383 150 150 e6_1 = true := by kernel_rfl
theorem r7_2 : entryRuns E7 357 150 150 e7_2 = true := by kernel_rfl
theorem r9_0 : entryRuns E9 43 150 150 e9_0 = true := by kernel_rfl
theorem r11_0 : entryRuns E11 76 150 150 e11_0 = true := by kernel_rfl
theorem r12_1 : entryRuns E12 77 150 150 e12_1 = true := by kernel_rfl
theorem r13_0 : entryRuns E13 8 150 150 e13_0 = true := by kernel_rfl
theorem r15_0 : entryRuns E15 71 150 150 e15_0 = true := by kernel_rfl
theorem r15_3 : entryRuns E15 71 150 150 e15_3 = true := by kernel_rfl
theorem r17_0 : entryRuns E17 44 150 150 e17_0 = true := by kernel_rfl
theorem r20_0 : entryRuns E20 74 150 150 e20_0 = true := by kernel_rfl
theorem r21_2 : entryRuns E21 63 150 150 e21_2 = true := by kernel_rfl
theorem r22_2 : entryRuns E22 21 150 150 e22_2 = true := by kernel_rfl
theorem r24_0 : entryRuns E24 16 150 150 e24_0 = true := by kernel_rfl
theorem r25_0 : entryRuns E25 17 150 150 e25_0 = true := by kernel_rfl
theorem r25_3 : entryRuns E25 17 150 150 e25_3 = true := by kernel_rfl
theorem r27_0 : entryRuns E27 19 150 150 e27_0 = true := by kernel_rfl
end Go.Ev
