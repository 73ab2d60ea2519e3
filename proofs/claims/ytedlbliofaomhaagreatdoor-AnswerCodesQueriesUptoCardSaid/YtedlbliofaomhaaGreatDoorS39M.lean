/- The examples of the document, worked by the abstract machine: sanity() returns true. -/
import Derived.Test.YtedlbliofaomhaaGreatDoorS39Defs
import Derived.Test.YtedlbliofaomhaaGreatDoorS39R0
import Derived.Test.YtedlbliofaomhaaGreatDoorS39R1
import Derived.Test.YtedlbliofaomhaaGreatDoorS39R2
import Derived.Test.YtedlbliofaomhaaGreatDoorS39R3
import Derived.Test.YtedlbliofaomhaaGreatDoorS39R4
import Derived.Test.YtedlbliofaomhaaGreatDoorS39R5
set_option linter.all false
open Go Go.Proofs
set_option maxRecDepth 100000
namespace Go.Ev
theorem tys_ok : tysOK Tryz.prog = true := by kernel_rfl
theorem eqs_ok : eqsOK Tryz.prog eqs39 = true := by kernel_rfl
theorem names_ok : namesOK Tryz.prog = true := by kernel_rfl
theorem M0 : MachOK E0 Tryz.prog := machOK_of tys_ok eqs_ok names_ok (fun f sp h => by cases h)
theorem M1 : MachOK E1 Tryz.prog := MachOK.remember M0 (EsOK.cons (entryMemo_ok M0 r0_0) (EsOK.cons (entryMemo_ok M0 r0_1) (EsOK.cons (entryMemo_ok M0 r0_2) (EsOK.cons (entryMemo_ok M0 r0_3) (EsOK.cons (entryMemo_ok M0 r0_4) (EsOK.cons (entryMemo_ok M0 r0_5) (EsOK.cons (entryMemo_ok M0 r0_6) (EsOK.cons (entryMemo_ok M0 r0_7) (EsOK.cons (entryMemo_ok M0 r0_8) (EsOK.cons (entryMemo_ok M0 r0_9) (EsOK.cons (entryMemo_ok M0 r0_10) (EsOK.cons (entryMemo_ok M0 r0_11) (EsOK.cons (entryMemo_ok M0 r0_12) (EsOK.cons (entryMemo_ok M0 r0_13) (EsOK.cons (entryMemo_ok M0 r0_14) (EsOK.cons (entryMemo_ok M0 r0_15) (EsOK.cons (entryMemo_ok M0 r0_16) (EsOK.cons (entryMemo_ok M0 r0_17) (EsOK.cons (entryMemo_ok M0 r0_18) (EsOK.cons (entryMemo_ok M0 r0_19) (EsOK.cons (entryMemo_ok M0 r0_20) (EsOK.nil)))))))))))))))))))))) (by kernel_rfl) (n := 2) (by kernel_rfl)
theorem M2 : MachOK E2 Tryz.prog := MachOK.remember M1 (EsOK.cons (entryMemo_ok M1 r1_0) (EsOK.cons (entryMemo_ok M1 r1_1) (EsOK.cons (entryMemo_ok M1 r1_2) (EsOK.cons (entryMemo_ok M1 r1_3) (EsOK.cons (entryMemo_ok M1 r1_4) (EsOK.cons (entryMemo_ok M1 r1_5) (EsOK.cons (entryMemo_ok M1 r1_6) (EsOK.cons (entryMemo_ok M1 r1_7) (EsOK.cons (entryMemo_ok M1 r1_8) (EsOK.cons (entryMemo_ok M1 r1_9) (EsOK.cons (entryMemo_ok M1 r1_10) (EsOK.cons (entryMemo_ok M1 r1_11) (EsOK.cons (entryMemo_ok M1 r1_12) (EsOK.cons (entryMemo_ok M1 r1_13) (EsOK.cons (entryMemo_ok M1 r1_14) (EsOK.cons (entryMemo_ok M1 r1_15) (EsOK.nil))))))))))))))))) (by kernel_rfl) (n := 2) (by kernel_rfl)
theorem M3 : MachOK E3 Tryz.prog := MachOK.remember M2 (EsOK.cons (entryMemo_ok M2 r2_0) (EsOK.cons (entryMemo_ok M2 r2_1) (EsOK.cons (entryMemo_ok M2 r2_2) (EsOK.cons (entryMemo_ok M2 r2_3) (EsOK.cons (entryMemo_ok M2 r2_4) (EsOK.cons (entryMemo_ok M2 r2_5) (EsOK.cons (entryMemo_ok M2 r2_6) (EsOK.cons (entryMemo_ok M2 r2_7) (EsOK.cons (entryMemo_ok M2 r2_8) (EsOK.cons (entryMemo_ok M2 r2_9) (EsOK.cons (entryMemo_ok M2 r2_10) (EsOK.cons (entryMemo_ok M2 r2_11) (EsOK.cons (entryMemo_ok M2 r2_12) (EsOK.cons (entryMemo_ok M2 r2_13) (EsOK.cons (entryMemo_ok M2 r2_14) (EsOK.cons (entryMemo_ok M2 r2_15) (EsOK.cons (entryMemo_ok M2 r2_16) (EsOK.nil)))))))))))))))))) (by kernel_rfl) (n := 2) (by kernel_rfl)
theorem M4 : MachOK E4 Tryz.prog := MachOK.remember M3 (EsOK.cons (entryMemo_ok M3 r3_0) (EsOK.cons (entryMemo_ok M3 r3_1) (EsOK.cons (entryMemo_ok M3 r3_2) (EsOK.cons (entryMemo_ok M3 r3_3) (EsOK.cons (entryMemo_ok M3 r3_4) (EsOK.nil)))))) (by kernel_rfl) (n := 2) (by kernel_rfl)
theorem M5 : MachOK E5 Tryz.prog := MachOK.remember M4 (EsOK.cons (entryMemo_ok M4 r4_0) (EsOK.cons (entryMemo_ok M4 r4_1) (EsOK.cons (entryMemo_ok M4 r4_2) (EsOK.cons (entryMemo_ok M4 r4_3) (EsOK.cons (entryMemo_ok M4 r4_4) (EsOK.cons (entryMemo_ok M4 r4_5) (EsOK.cons (entryMemo_ok M4 r4_6) (EsOK.cons (entryMemo_ok M4 r4_7) (EsOK.cons (entryMemo_ok M4 r4_8) (EsOK.cons (entryMemo_ok M4 r4_9) (EsOK.nil))))))))))) (by kernel_rfl) (n := 2) (by kernel_rfl)
theorem M6 : MachOK E6 Tryz.prog := MachOK.remember M5 (EsOK.cons (entryMemo_ok M5 r5_0) (EsOK.cons (entryMemo_ok M5 r5_1) (EsOK.cons (entryMemo_ok M5 r5_2) (EsOK.cons (entryMemo_ok M5 r5_3) (EsOK.cons (entryMemo_ok M5 r5_4) (EsOK.cons (entryMemo_ok M5 r5_5) (EsOK.cons (entryMemo_ok M5 r5_6) (EsOK.nil)))))))) (by kernel_rfl) (n := 2) (by kernel_rfl)
theorem M7 : MachOK E7 Tryz.prog := MachOK.remember M6 (EsOK.cons (entryMemo_ok M6 r6_0) (EsOK.cons (entryMemo_ok M6 r6_1) (EsOK.nil))) (by kernel_rfl) (n := 2) (by kernel_rfl)
theorem M8 : MachOK E8 Tryz.prog := MachOK.remember M7 (EsOK.cons (entryMemo_ok M7 r7_0) (EsOK.cons (entryMemo_ok M7 r7_1) (EsOK.cons (entryMemo_ok M7 r7_2) (EsOK.cons (entryMemo_ok M7 r7_3) (EsOK.nil))))) (by kernel_rfl) (n := 2) (by kernel_rfl)
theorem M9 : MachOK E9 Tryz.prog := MachOK.remember M8 (EsOK.cons (entryMemo_ok M8 r8_0) (EsOK.nil)) (by kernel_rfl) (n := 2) (by kernel_rfl)
theorem M10 : MachOK E10 Tryz.prog := MachOK.remember M9 (EsOK.cons (entryMemo_ok M9 r9_0) (EsOK.nil)) (by kernel_rfl) (n := 2) (by kernel_rfl)
theorem M11 : MachOK E11 Tryz.prog := MachOK.remember M10 (EsOK.cons (entryMemo_ok M10 r10_0) (EsOK.cons (entryMemo_ok M10 r10_1) (EsOK.nil))) (by kernel_rfl) (n := 2) (by kernel_rfl)
theorem M12 : MachOK E12 Tryz.prog := MachOK.remember M11 (EsOK.cons (entryMemo_ok M11 r11_0) (EsOK.cons (entryMemo_ok M11 r11_1) (EsOK.nil))) (by kernel_rfl) (n := 2) (by kernel_rfl)
theorem M13 : MachOK E13 Tryz.prog := MachOK.remember M12 (EsOK.cons (entryMemo_ok M12 r12_0) (EsOK.cons (entryMemo_ok M12 r12_1) (EsOK.cons (entryMemo_ok M12 r12_2) (EsOK.cons (entryMemo_ok M12 r12_3) (EsOK.nil))))) (by kernel_rfl) (n := 2) (by kernel_rfl)
theorem M14 : MachOK E14 Tryz.prog := MachOK.remember M13 (EsOK.cons (entryMemo_ok M13 r13_0) (EsOK.cons (entryMemo_ok M13 r13_1) (EsOK.nil))) (by kernel_rfl) (n := 2) (by kernel_rfl)
theorem M15 : MachOK E15 Tryz.prog := MachOK.remember M14 (EsOK.cons (entryMemo_ok M14 r14_0) (EsOK.nil)) (by kernel_rfl) (n := 2) (by kernel_rfl)
theorem M16 : MachOK E16 Tryz.prog := MachOK.remember M15 (EsOK.cons (entryMemo_ok M15 r15_0) (EsOK.cons (entryMemo_ok M15 r15_1) (EsOK.cons (entryMemo_ok M15 r15_2) (EsOK.cons (entryMemo_ok M15 r15_3) (EsOK.cons (entryMemo_ok M15 r15_4) (EsOK.nil)))))) (by kernel_rfl) (n := 2) (by kernel_rfl)
theorem M17 : MachOK E17 Tryz.prog := MachOK.remember M16 (EsOK.cons (entryMemo_ok M16 r16_0) (EsOK.nil)) (by kernel_rfl) (n := 2) (by kernel_rfl)
theorem M18 : MachOK E18 Tryz.prog := MachOK.remember M17 (EsOK.cons (entryMemo_ok M17 r17_0) (EsOK.nil)) (by kernel_rfl) (n := 2) (by kernel_rfl)
theorem M19 : MachOK E19 Tryz.prog := MachOK.remember M18 (EsOK.cons (entryMemo_ok M18 r18_0) (EsOK.nil)) (by kernel_rfl) (n := 2) (by kernel_rfl)
theorem M20 : MachOK E20 Tryz.prog := MachOK.remember M19 (EsOK.cons (entryMemo_ok M19 r19_0) (EsOK.nil)) (by kernel_rfl) (n := 2) (by kernel_rfl)
theorem M21 : MachOK E21 Tryz.prog := MachOK.remember M20 (EsOK.cons (entryMemo_ok M20 r20_0) (EsOK.nil)) (by kernel_rfl) (n := 2) (by kernel_rfl)
theorem M22 : MachOK E22 Tryz.prog := MachOK.remember M21 (EsOK.cons (entryMemo_ok M21 r21_0) (EsOK.cons (entryMemo_ok M21 r21_1) (EsOK.cons (entryMemo_ok M21 r21_2) (EsOK.nil)))) (by kernel_rfl) (n := 2) (by kernel_rfl)
theorem M23 : MachOK E23 Tryz.prog := MachOK.remember M22 (EsOK.cons (entryMemo_ok M22 r22_0) (EsOK.cons (entryMemo_ok M22 r22_1) (EsOK.cons (entryMemo_ok M22 r22_2) (EsOK.cons (entryMemo_ok M22 r22_3) (EsOK.nil))))) (by kernel_rfl) (n := 2) (by kernel_rfl)
theorem M24 : MachOK E24 Tryz.prog := MachOK.remember M23 (EsOK.cons (entryMemo_ok M23 r23_0) (EsOK.nil)) (by kernel_rfl) (n := 2) (by kernel_rfl)
theorem M25 : MachOK E25 Tryz.prog := MachOK.remember M24 (EsOK.cons (entryMemo_ok M24 r24_0) (EsOK.cons (entryMemo_ok M24 r24_1) (EsOK.cons (entryMemo_ok M24 r24_2) (EsOK.nil)))) (by kernel_rfl) (n := 2) (by kernel_rfl)
theorem M26 : MachOK E26 Tryz.prog := MachOK.remember M25 (EsOK.cons (entryMemo_ok M25 r25_0) (EsOK.cons (entryMemo_ok M25 r25_1) (EsOK.cons (entryMemo_ok M25 r25_2) (EsOK.cons (entryMemo_ok M25 r25_3) (EsOK.cons (entryMemo_ok M25 r25_4) (EsOK.nil)))))) (by kernel_rfl) (n := 2) (by kernel_rfl)
theorem M27 : MachOK E27 Tryz.prog := MachOK.remember M26 (EsOK.cons (entryMemo_ok M26 r26_0) (EsOK.nil)) (by kernel_rfl) (n := 2) (by kernel_rfl)
theorem M28 : MachOK E28 Tryz.prog := MachOK.remember M27 (EsOK.cons (entryMemo_ok M27 r27_0) (EsOK.nil)) (by kernel_rfl) (n := 2) (by kernel_rfl)
end Go.Ev
