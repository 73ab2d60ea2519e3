/- What the functions of the program and of the reference compute, over the abstract machine; the laws of what they compute. -/
import Derived.Test.YtedlbliofaomhaaGreatDoorMachine7
import Derived.Test.YtedlbliofaomhaaGreatDoorS39Defs
set_option linter.all false
section
/- The tables that the universal part asks of. -/
open Go Go.Proofs Go.RowKit
set_option maxRecDepth 100000
namespace Go.Ev
noncomputable def eX : Entry := ⟨[(0, kk)], [], [], TT, []⟩
noncomputable def EX : Env := Env.of Tryz.prog (specsL [(4, memo 2 [eX])]) eqs39
@[go_sem] theorem ngX : EX.ng = 2 := by kernel_rfl
@[go_sem] theorem f3 : EX.fns.get 3 = some Tryz.f3 := by kernel_rfl
@[go_sem] theorem n3 : EX.specs.get 3 = none := by kernel_rfl
@[go_sem] theorem f5 : EX.fns.get 5 = some Tryz.f5 := by kernel_rfl
@[go_sem] theorem n5 : EX.specs.get 5 = none := by kernel_rfl
@[go_sem] theorem f22 : EX.fns.get 22 = some Tryz.f22 := by kernel_rfl
@[go_sem] theorem n22 : EX.specs.get 22 = none := by kernel_rfl
@[go_sem] theorem f79 : EX.fns.get 79 = some Tryz.f79 := by kernel_rfl
@[go_sem] theorem n79 : EX.specs.get 79 = none := by kernel_rfl
@[go_sem] theorem f162 : EX.fns.get 162 = some Tryz.f162 := by kernel_rfl
@[go_sem] theorem n162 : EX.specs.get 162 = none := by kernel_rfl
@[go_sem] theorem f80 : EX.fns.get 80 = some Tryz.f80 := by kernel_rfl
@[go_sem] theorem n80 : EX.specs.get 80 = none := by kernel_rfl
@[go_sem] theorem f23 : EX.fns.get 23 = some Tryz.f23 := by kernel_rfl
@[go_sem] theorem n23 : EX.specs.get 23 = none := by kernel_rfl
@[go_sem] theorem f81 : EX.fns.get 81 = some Tryz.f81 := by kernel_rfl
@[go_sem] theorem n81 : EX.specs.get 81 = none := by kernel_rfl
@[go_sem] theorem f82 : EX.fns.get 82 = some Tryz.f82 := by kernel_rfl
@[go_sem] theorem n82 : EX.specs.get 82 = none := by kernel_rfl
@[go_sem] theorem f24 : EX.fns.get 24 = some Tryz.f24 := by kernel_rfl
@[go_sem] theorem n24 : EX.specs.get 24 = none := by kernel_rfl
@[go_sem] theorem f25 : EX.fns.get 25 = some Tryz.f25 := by kernel_rfl
@[go_sem] theorem n25 : EX.specs.get 25 = none := by kernel_rfl
@[go_sem] theorem f83 : EX.fns.get 83 = some Tryz.f83 := by kernel_rfl
@[go_sem] theorem n83 : EX.specs.get 83 = none := by kernel_rfl
@[go_sem] theorem f6 : EX.fns.get 6 = some Tryz.f6 := by kernel_rfl
@[go_sem] theorem n6 : EX.specs.get 6 = none := by kernel_rfl
@[go_sem] theorem f26 : EX.fns.get 26 = some Tryz.f26 := by kernel_rfl
@[go_sem] theorem n26 : EX.specs.get 26 = none := by kernel_rfl
@[go_sem] theorem f84 : EX.fns.get 84 = some Tryz.f84 := by kernel_rfl
@[go_sem] theorem n84 : EX.specs.get 84 = none := by kernel_rfl
@[go_sem] theorem f85 : EX.fns.get 85 = some Tryz.f85 := by kernel_rfl
@[go_sem] theorem n85 : EX.specs.get 85 = none := by kernel_rfl
@[go_sem] theorem f27 : EX.fns.get 27 = some Tryz.f27 := by kernel_rfl
@[go_sem] theorem n27 : EX.specs.get 27 = none := by kernel_rfl
@[go_sem] theorem f86 : EX.fns.get 86 = some Tryz.f86 := by kernel_rfl
@[go_sem] theorem n86 : EX.specs.get 86 = none := by kernel_rfl
@[go_sem] theorem f28 : EX.fns.get 28 = some Tryz.f28 := by kernel_rfl
@[go_sem] theorem n28 : EX.specs.get 28 = none := by kernel_rfl
@[go_sem] theorem f7 : EX.fns.get 7 = some Tryz.f7 := by kernel_rfl
@[go_sem] theorem n7 : EX.specs.get 7 = none := by kernel_rfl
@[go_sem] theorem f11 : EX.fns.get 11 = some Tryz.f11 := by kernel_rfl
@[go_sem] theorem n11 : EX.specs.get 11 = none := by kernel_rfl
@[go_sem] theorem f33 : EX.fns.get 33 = some Tryz.f33 := by kernel_rfl
@[go_sem] theorem n33 : EX.specs.get 33 = none := by kernel_rfl
@[go_sem] theorem f34 : EX.fns.get 34 = some Tryz.f34 := by kernel_rfl
@[go_sem] theorem n34 : EX.specs.get 34 = none := by kernel_rfl
@[go_sem] theorem f93 : EX.fns.get 93 = some Tryz.f93 := by kernel_rfl
@[go_sem] theorem n93 : EX.specs.get 93 = none := by kernel_rfl
@[go_sem] theorem f35 : EX.fns.get 35 = some Tryz.f35 := by kernel_rfl
@[go_sem] theorem n35 : EX.specs.get 35 = none := by kernel_rfl
@[go_sem] theorem f94 : EX.fns.get 94 = some Tryz.f94 := by kernel_rfl
@[go_sem] theorem n94 : EX.specs.get 94 = none := by kernel_rfl
@[go_sem] theorem f8 : EX.fns.get 8 = some Tryz.f8 := by kernel_rfl
@[go_sem] theorem n8 : EX.specs.get 8 = none := by kernel_rfl
@[go_sem] theorem f29 : EX.fns.get 29 = some Tryz.f29 := by kernel_rfl
@[go_sem] theorem n29 : EX.specs.get 29 = none := by kernel_rfl
@[go_sem] theorem f87 : EX.fns.get 87 = some Tryz.f87 := by kernel_rfl
@[go_sem] theorem n87 : EX.specs.get 87 = none := by kernel_rfl
@[go_sem] theorem f88 : EX.fns.get 88 = some Tryz.f88 := by kernel_rfl
@[go_sem] theorem n88 : EX.specs.get 88 = none := by kernel_rfl
@[go_sem] theorem f30 : EX.fns.get 30 = some Tryz.f30 := by kernel_rfl
@[go_sem] theorem n30 : EX.specs.get 30 = none := by kernel_rfl
@[go_sem] theorem f89 : EX.fns.get 89 = some Tryz.f89 := by kernel_rfl
@[go_sem] theorem n89 : EX.specs.get 89 = none := by kernel_rfl
@[go_sem] theorem f90 : EX.fns.get 90 = some Tryz.f90 := by kernel_rfl
@[go_sem] theorem n90 : EX.specs.get 90 = none := by kernel_rfl
@[go_sem] theorem f31 : EX.fns.get 31 = some Tryz.f31 := by kernel_rfl
@[go_sem] theorem n31 : EX.specs.get 31 = none := by kernel_rfl
@[go_sem] theorem f91 : EX.fns.get 91 = some Tryz.f91 := by kernel_rfl
@[go_sem] theorem n91 : EX.specs.get 91 = none := by kernel_rfl
@[go_sem] theorem f92 : EX.fns.get 92 = some Tryz.f92 := by kernel_rfl
@[go_sem] theorem n92 : EX.specs.get 92 = none := by kernel_rfl
@[go_sem] theorem f9 : EX.fns.get 9 = some Tryz.f9 := by kernel_rfl
@[go_sem] theorem n9 : EX.specs.get 9 = none := by kernel_rfl
@[go_sem] theorem f32 : EX.fns.get 32 = some Tryz.f32 := by kernel_rfl
@[go_sem] theorem n32 : EX.specs.get 32 = none := by kernel_rfl
@[go_sem] theorem f10 : EX.fns.get 10 = some Tryz.f10 := by kernel_rfl
@[go_sem] theorem n10 : EX.specs.get 10 = none := by kernel_rfl
@[go_sem] theorem u3 : EX.under? 3 = (some (.int .i64)) := by kernel_rfl
@[go_sem] theorem s3 : EX.size? 3 = some 1 := by kernel_rfl
@[go_sem] theorem z3 : EX.zero? 3 = some (.int .i64 0) := by kernel_rfl
@[go_sem] theorem b3 : EX.bytes? 3 = some 8 := by kernel_rfl
@[go_sem] theorem u4 : EX.under? 4 = (some .bool) := by kernel_rfl
@[go_sem] theorem s4 : EX.size? 4 = some 1 := by kernel_rfl
@[go_sem] theorem z4 : EX.zero? 4 = some (.bool false) := by kernel_rfl
@[go_sem] theorem b4 : EX.bytes? 4 = some 1 := by kernel_rfl
@[go_sem] theorem u5 : EX.under? 5 = (some (.int .u8)) := by kernel_rfl
@[go_sem] theorem s5 : EX.size? 5 = some 1 := by kernel_rfl
@[go_sem] theorem z5 : EX.zero? 5 = some (.int .u8 0) := by kernel_rfl
@[go_sem] theorem b5 : EX.bytes? 5 = some 1 := by kernel_rfl
@[go_sem] theorem u9 : EX.under? 9 = (some .string) := by kernel_rfl
@[go_sem] theorem s9 : EX.size? 9 = some 1 := by kernel_rfl
@[go_sem] theorem z9 : EX.zero? 9 = some (.str []) := by kernel_rfl
@[go_sem] theorem b9 : EX.bytes? 9 = some 16 := by kernel_rfl
@[go_sem] theorem u22 : EX.under? 22 = (some (.slice 3)) := by kernel_rfl
@[go_sem] theorem s22 : EX.size? 22 = some 1 := by kernel_rfl
@[go_sem] theorem z22 : EX.zero? 22 = some .nilslice := by kernel_rfl
@[go_sem] theorem b22 : EX.bytes? 22 = some 24 := by kernel_rfl
@[go_sem] theorem u23 : EX.under? 23 = (some (.slice 25)) := by kernel_rfl
@[go_sem] theorem s23 : EX.size? 23 = some 1 := by kernel_rfl
@[go_sem] theorem z23 : EX.zero? 23 = some .nilslice := by kernel_rfl
@[go_sem] theorem b23 : EX.bytes? 23 = some 24 := by kernel_rfl
@[go_sem] theorem u25 : aggQ EX 25 = true := by kernel_rfl
@[go_sem] theorem s25 : EX.size? 25 = some 6 := by kernel_rfl
@[go_sem] theorem z25 : EX.zero? 25 = some (.agg [(.int .i64 0), (.str []), (.int .i64 0), (.int .i64 0), (.str []), .nilslice]) := by kernel_rfl
@[go_sem] theorem b25 : EX.bytes? 25 = some 80 := by kernel_rfl
@[go_sem] theorem u27 : aggQ EX 27 = true := by kernel_rfl
@[go_sem] theorem s27 : EX.size? 27 = some 2 := by kernel_rfl
@[go_sem] theorem z27 : EX.zero? 27 = some (.agg [(.int .i64 0), (.int .i64 0)]) := by kernel_rfl
@[go_sem] theorem b27 : EX.bytes? 27 = some 16 := by kernel_rfl
@[go_sem] theorem u29 : aggQ EX 29 = true := by kernel_rfl
@[go_sem] theorem s29 : EX.size? 29 = some 12 := by kernel_rfl
@[go_sem] theorem z29 : EX.zero? 29 = some (.agg [.nilslice, (.int .i64 0), (.int .i64 0), (.int .i64 0), (.str []), (.int .i64 0), (.int .i64 0), (.str []), .nilslice, (.int .i64 0), (.int .i64 0), (.int .i64 0)]) := by kernel_rfl
@[go_sem] theorem b29 : EX.bytes? 29 = some 144 := by kernel_rfl
@[go_sem] theorem u30 : EX.under? 30 = (some (.slice 5)) := by kernel_rfl
@[go_sem] theorem s30 : EX.size? 30 = some 1 := by kernel_rfl
@[go_sem] theorem z30 : EX.zero? 30 = some .nilslice := by kernel_rfl
@[go_sem] theorem b30 : EX.bytes? 30 = some 24 := by kernel_rfl
@[go_sem] theorem u32 : EX.under? 32 = (some (.int .i64)) := by kernel_rfl
@[go_sem] theorem s32 : EX.size? 32 = some 1 := by kernel_rfl
@[go_sem] theorem z32 : EX.zero? 32 = some (.int .i64 0) := by kernel_rfl
@[go_sem] theorem b32 : EX.bytes? 32 = some 8 := by kernel_rfl
@[go_sem] theorem u36 : aggQ EX 36 = true := by kernel_rfl
@[go_sem] theorem s36 : EX.size? 36 = some 13 := by kernel_rfl
@[go_sem] theorem z36 : EX.zero? 36 = some (.agg [.nilslice, (.int .i64 0), (.int .i64 0), (.int .i64 0), (.str []), (.int .i64 0), (.int .i64 0), (.str []), .nilslice, (.int .i64 0), (.int .i64 0), (.int .i64 0), (.int .i64 0)]) := by kernel_rfl
@[go_sem] theorem b36 : EX.bytes? 36 = some 152 := by kernel_rfl
@[go_sem] theorem u100 : EX.under? 100 = (some (.slice 9)) := by kernel_rfl
@[go_sem] theorem s100 : EX.size? 100 = some 1 := by kernel_rfl
@[go_sem] theorem z100 : EX.zero? 100 = some .nilslice := by kernel_rfl
@[go_sem] theorem b100 : EX.bytes? 100 = some 24 := by kernel_rfl
@[go_sem] theorem u105 : aggQ EX 105 = true := by kernel_rfl
@[go_sem] theorem s105 : EX.size? 105 = some 3 := by kernel_rfl
@[go_sem] theorem z105 : EX.zero? 105 = some (.agg [.nilslice, .nilslice, (.bool false)]) := by kernel_rfl
@[go_sem] theorem b105 : EX.bytes? 105 = some 56 := by kernel_rfl
@[go_sem] theorem u111 : aggQ EX 111 = true := by kernel_rfl
@[go_sem] theorem s111 : EX.size? 111 = some 8 := by kernel_rfl
@[go_sem] theorem z111 : EX.zero? 111 = some (.agg [(.int .i64 0), (.str []), (.int .i64 0), (.int .i64 0), (.str []), .nilslice, (.int .i64 0), (.bool false)]) := by kernel_rfl
@[go_sem] theorem b111 : EX.bytes? 111 = some 96 := by kernel_rfl
@[go_sem] theorem u277 : EX.under? 277 = (some (.int .u64)) := by kernel_rfl
@[go_sem] theorem s277 : EX.size? 277 = some 1 := by kernel_rfl
@[go_sem] theorem z277 : EX.zero? 277 = some (.int .u64 0) := by kernel_rfl
@[go_sem] theorem b277 : EX.bytes? 277 = some 8 := by kernel_rfl
@[go_sem] theorem fl36_1 : EX.fld? 36 1 = some 12 := by kernel_rfl
@[go_sem] theorem fl36_0 : EX.fld? 36 0 = some 0 := by kernel_rfl
@[go_sem] theorem fl29_3 : EX.fld? 29 3 = some 3 := by kernel_rfl
@[go_sem] theorem fl105_0 : EX.fld? 105 0 = some 0 := by kernel_rfl
@[go_sem] theorem fl105_2 : EX.fld? 105 2 = some 2 := by kernel_rfl
@[go_sem] theorem fl105_1 : EX.fld? 105 1 = some 1 := by kernel_rfl
@[go_sem] theorem fl25_5 : EX.fld? 25 5 = some 5 := by kernel_rfl
@[go_sem] theorem fl111_2 : EX.fld? 111 2 = some 7 := by kernel_rfl
@[go_sem] theorem fl111_1 : EX.fld? 111 1 = some 6 := by kernel_rfl
@[go_sem] theorem fl111_0 : EX.fld? 111 0 = some 0 := by kernel_rfl
@[go_sem] theorem fl29_1 : EX.fld? 29 1 = some 1 := by kernel_rfl
@[go_sem] theorem fl29_2 : EX.fld? 29 2 = some 2 := by kernel_rfl
@[go_sem] theorem fl29_4 : EX.fld? 29 4 = some 9 := by kernel_rfl
@[go_sem] theorem fl27_0 : EX.fld? 27 0 = some 0 := by kernel_rfl
@[go_sem] theorem fl27_1 : EX.fld? 27 1 = some 1 := by kernel_rfl
@[go_sem] theorem fl29_5 : EX.fld? 29 5 = some 11 := by kernel_rfl
@[go_sem] theorem fl29_0 : EX.fld? 29 0 = some 0 := by kernel_rfl
@[go_sem] theorem fl25_0 : EX.fld? 25 0 = some 0 := by kernel_rfl
@[go_sem] theorem fl25_2 : EX.fld? 25 2 = some 2 := by kernel_rfl
@[go_sem] theorem fl25_3 : EX.fld? 25 3 = some 3 := by kernel_rfl
@[go_sem] theorem fl25_1 : EX.fld? 25 1 = some 1 := by kernel_rfl
@[go_sem] theorem fl25_4 : EX.fld? 25 4 = some 4 := by kernel_rfl
end Go.Ev
end
section
open Go Go.Proofs Go.RowKit
set_option linter.unusedVariables false
set_option linter.unusedSimpArgs false
set_option maxRecDepth 100000
namespace Go.Ev
/-- A number's digits to base 128, the lowest first; all but the last with 128 added. -/
def leb (z : Nat) : List Nat := if h : z < 128 then [z] else (z % 128 + 128) :: leb (z / 128)
  termination_by z
  decreasing_by omega
def zz (n : Int) : Nat := if 0 ≤ n then (2 * n).toNat else (-2 * n - 1).toNat
def bys (l : List Nat) : List AVal := l.map fun b => .int .u8 (.ofNat b)
theorem or128 (z : Nat) : IntKind.u8.wrap (BitVec.ofInt 8 (IntKind.u8.wrap z) ||| BitVec.ofInt 8 128).toNat = ((z % 128 + 128 : Nat) : Int) := by
  have h1 : IntKind.u8.wrap (z : Int) = ((z % 256 : Nat) : Int) := by simp [IntKind.wrap, IntKind.bits, IntKind.signed]
  rw [h1]
  have h2 : ∀ m : Fin 256, IntKind.u8.wrap (BitVec.ofInt 8 ((m.val : Nat) : Int) ||| BitVec.ofInt 8 128).toNat = ((m.val % 128 + 128 : Nat) : Int) := by decide +kernel
  have := h2 ⟨z % 256, Nat.mod_lt _ (by decide)⟩
  rw [show z % 128 = z % 256 % 128 by omega]
  exact this
theorem zig {n : Int} (h1 : -9223372036854775808 ≤ n) (h2 : n < 9223372036854775808) :
    IntKind.u64.wrap (BitVec.ofInt 64 (IntKind.u64.wrap (IntKind.u64.wrap n * 2 ^ min (Int.toNat 1) 64)) ^^^ BitVec.ofInt 64 (IntKind.u64.wrap (n.fdiv (2 ^ min (Int.toNat 63) 64)))).toNat = ((zz n : Nat) : Int) := by
  have hw : ∀ m : Int, IntKind.u64.wrap m = m % 18446744073709551616 := by intro m; simp [IntKind.wrap, IntKind.bits, IntKind.signed]
  have e1 : (2 : Int) ^ min (Int.toNat 1) 64 = 2 := by decide
  have e2 : (2 : Int) ^ min (Int.toNat 63) 64 = 9223372036854775808 := by decide
  rw [e1, e2]
  unfold zz
  by_cases h0 : 0 ≤ n
  · have e3 : n.fdiv 9223372036854775808 = 0 := by rw [Int.fdiv_eq_ediv_of_nonneg _ (by decide)]; omega
    rw [e3, if_pos h0]
    rw [show BitVec.ofInt 64 (IntKind.u64.wrap 0) = 0#64 from rfl, BitVec.xor_zero, BitVec.toNat_ofInt]
    simp only [hw]
    rw [show ((2 : Nat) ^ 64 : Nat) = 18446744073709551616 from by decide]
    omega
  · have e3 : n.fdiv 9223372036854775808 = -1 := by rw [Int.fdiv_eq_ediv_of_nonneg _ (by decide)]; omega
    rw [e3, if_neg h0]
    rw [show BitVec.ofInt 64 (IntKind.u64.wrap (-1)) = BitVec.allOnes 64 from rfl, BitVec.xor_allOnes, BitVec.toNat_not, BitVec.toNat_ofInt]
    simp only [hw]
    rw [show ((2 : Nat) ^ 64 : Nat) = 18446744073709551616 from by decide]
    omega
theorem leb_lt {z : Nat} (h : z < 128) : leb z = [z] := by rw [leb, dif_pos h]
theorem leb_ge {z : Nat} (h : ¬ z < 128) : leb z = (z % 128 + 128) :: leb (z / 128) := by rw [leb, dif_neg h]
theorem leb_len : ∀ (k z : Nat), z < 128 ^ (k + 1) → (leb z).length ≤ k + 1
  | 0, z, h => by rw [leb_lt (by omega)]; simp
  | k + 1, z, h => by
    by_cases hz : z < 128
    · rw [leb_lt hz]; simp
    · rw [leb_ge hz, List.length_cons]
      have := leb_len k (z / 128) (by rw [Nat.pow_succ] at h; exact Nat.div_lt_of_lt_mul (by rw [Nat.mul_comm]; exact h))
      omega
theorem shr7 (z : Nat) : (z : Int).fdiv (2 ^ min (Int.toNat 7) 64) = ((z / 128 : Nat) : Int) := by
  rw [show (2 : Int) ^ min (Int.toNat 7) 64 = 128 from by decide, Int.fdiv_eq_ediv_of_nonneg _ (by decide)]; omega
theorem zz_lt {n : Int} (h1 : -9223372036854775808 ≤ n) (h2 : n < 9223372036854775808) : zz n < 128 ^ (9 + 1) := by
  unfold zz
  rw [show 128 ^ (9 + 1) = 1180591620717411303424 from rfl]
  split <;> omega
theorem u8_small {z : Nat} (h : z < 256) : IntKind.u8.wrap (z : Int) = z := by simp [IntKind.wrap, IntKind.bits, IntKind.signed]; omega
theorem wireInt {h : Heap} {nx lo : Nat} (hlo : lo ≤ nx) {n : Int} (h1 : -9223372036854775808 ≤ n) (h2 : n < 9223372036854775808) : AC EX 90 [.int .i64 n] ⟨h, nx⟩ (fun v d' => nx ≤ d'.nx ∧ Own 1 d'.h lo d'.nx v (bys (leb (zz n))) ∧ Keep nx h d'.h) := by
  refine AC.of_wp' (size := 27) f90 rfl rfl ?_
  refine wp_seq (wp_region ?_)
  refine wpO_pure (by simp +decide only [go_sem]) (by conv => lhs; simp +decide only [go_sem]) ?_
  rw [wpO_nil]
  refine wp_seq (wp_region ?_)
  iterate 8 refine wpO_pure (by simp +decide only [go_sem]) (by conv => lhs; simp +decide only [go_sem]) ?_
  rw [wpO_nil]
  refine wp_seq (wp_region ?_)
  iterate 1 refine wpO_pure (by simp +decide only [go_sem]) (by conv => lhs; simp +decide only [go_sem]) ?_
  rw [wpO_nil]
  refine wp_seq (wp_block (wp_while (α := Nat × List AVal) (fun a => a.1) (fun a t d => getT t 3 = .int .u64 a.1 ∧ ∃ v, getT t 4 = v ∧ nx ≤ d.nx ∧ Own 1 d.h nx d.nx v a.2 ∧ Keep nx h d.h ∧ a.2 ++ bys (leb a.1) = bys (leb (zz n))) ?_ (a := (zz n, [])) ?_))
  · intro a t d ⟨h3, v, h4, hnx, ho, hk, hsum⟩
    obtain ⟨h', nx'⟩ := d
    obtain ⟨z, l⟩ := a
    dsimp only at h3 h4 hnx ho hk hsum
    refine wp_seq (wp_seq (wp_region ?_))
    iterate 2 refine wpO_pure (by simp +decide only [go_sem]) (by conv => lhs; simp +decide only [go_sem, h3]) ?_
    rw [wpO_nil]
    refine wp_cond (by simp +decide only [go_sem]; rfl) ?_
    have hlt : l.length ≤ 1000 := by
      have g1 := congrArg List.length hsum
      have g2 := leb_len 9 (zz n) (zz_lt h1 h2)
      simp only [bys, List.length_append, List.length_map] at g1
      omega
    by_cases hz : 127 < z
    · rw [show decide ((127 : Int) < (z : Int)) = true from by simp; omega]
      refine wp_skip ?_
      refine wp_seq (wp_block (wp_region ?_))
      iterate 4 refine wpO_pure (by simp +decide only [go_sem]) (by conv => lhs; simp +decide only [go_sem, h3, h4]) ?_
      refine wpO_build (vs := [.int .u8 (z % 128 + 128 : Nat)]) (by simp +decide only [go_sem]) rfl u30 s5 z5 rfl ?_ rfl (by decide) (by decide) ?_ ?_
      · simp +decide only [go_sem, List.map_toArray, List.map_cons, List.map_nil]
        exact congrArg (fun m => [(0, AVal.int IntKind.u8 m)]) (or128 z)
      · intro v hv; simp at hv; subst hv; rfl
      intro cs hcs
      obtain ⟨a1, a2, a3⟩ := (Sl.built (h := h') (nx := nx') (n := 1) rfl hcs).first (by decide)
      refine wpO_append (lo := nx) (by simp +decide only [go_sem]) rfl rfl rfl rfl u30 u30 rfl s5 z5 b5 (by simp +decide only [go_sem, h4]) (by simp +decide only [go_sem]) (ho.keep (fun i h1 h2 => by rw [BT.get_put, if_neg (by omega)]) (Nat.le_succ _)) (by omega) ?_ a1 a3 ?_ ?_
      · simp
      · intro _; exact okA_of (by intro v hv; simp at hv; subst hv; rfl) (by decide) (by simp; omega)
      intro v' h'' nx'' g1 g2 g3
      iterate 1 refine wpO_pure (by simp +decide only [go_sem]) (by conv => lhs; simp +decide only [go_sem]) ?_
      rw [wpO_nil]
      refine wp_region ?_
      iterate 3 refine wpO_pure (by simp +decide only [go_sem]) (by conv => lhs; simp +decide only [go_sem, h3]) ?_
      rw [wpO_nil]
      refine ⟨(z / 128, l ++ [AVal.int IntKind.u8 ((z % 128 + 128 : Nat) : Int)]), by show z / 128 < z; omega, by simp +decide only [go_sem, shr7], v', by simp +decide only [go_sem], by show nx ≤ nx''; omega, g2, (hk.trans (Keep.put hnx)).trans g3, ?_⟩
      rw [← hsum, leb_ge (z := z) (by omega)]
      simp [bys]
    · rw [show decide ((127 : Int) < (z : Int)) = false from by simp; omega]
      refine wp_exit ?_
      refine wp_seq (wp_region ?_)
      iterate 3 refine wpO_pure (by simp +decide only [go_sem]) (by conv => lhs; simp +decide only [go_sem, h3, h4]) ?_
      refine wpO_build (vs := [.int .u8 (z : Nat)]) (by simp +decide only [go_sem]) rfl u30 s5 z5 rfl ?_ rfl (by decide) (by decide) ?_ ?_
      · simp +decide only [go_sem, List.map_toArray, List.map_cons, List.map_nil, u8_small (show z < 256 by omega)]; rfl
      · intro v hv; simp at hv; subst hv; rfl
      intro cs hcs
      obtain ⟨a1, a2, a3⟩ := (Sl.built (h := h') (nx := nx') (n := 1) rfl hcs).first (by decide)
      refine wpO_append (lo := nx) (by simp +decide only [go_sem]) rfl rfl rfl rfl u30 u30 rfl s5 z5 b5 (by simp +decide only [go_sem, h4]) (by simp +decide only [go_sem]) (ho.keep (fun i h1 h2 => by rw [BT.get_put, if_neg (by omega)]) (Nat.le_succ _)) (by omega) ?_ a1 a3 ?_ ?_
      · simp
      · intro _; exact okA_of (by intro v hv; simp at hv; subst hv; rfl) (by decide) (by simp; omega)
      intro v' h'' nx'' g1 g2 g3
      iterate 1 refine wpO_pure (by simp +decide only [go_sem]) (by conv => lhs; simp +decide only [go_sem]) ?_
      rw [wpO_nil]
      refine wp_ret rfl ⟨.inr rfl, [v'], res_one (by simp +decide only [go_sem]) ?_, ?_⟩
      · exact g2.notBot
      · refine ⟨by show nx ≤ nx''; omega, ?_, (hk.trans (Keep.put hnx)).trans g3⟩
        rw [← hsum, leb_lt (z := z) (by omega)]
        exact g2.low hlo
  · exact ⟨by simp +decide only [go_sem]; exact congrArg (AVal.int IntKind.u64) (zig h1 h2), _, by simp +decide only [go_sem], Nat.le_refl _, .nil, Keep.refl _ _, rfl⟩
theorem w64 (m : Int) : IntKind.u64.wrap m = m % 18446744073709551616 := by simp [IntKind.wrap, IntKind.bits, IntKind.signed]
theorem wi64 {m : Int} (h1 : -9223372036854775808 ≤ m) (h2 : m < 9223372036854775808) : IntKind.i64.wrap m = m := by
  simp [IntKind.wrap, IntKind.bits, IntKind.signed]; split <;> omega
theorem refInt {h : Heap} {nx lo : Nat} (hlo : lo ≤ nx) {n : Int} (h1 : -9223372036854775808 ≤ n) (h2 : n < 9223372036854775808) : AC EX 93 [.int .i64 n] ⟨h, nx⟩ (fun v d' => nx ≤ d'.nx ∧ Own 1 d'.h lo d'.nx v (bys (leb (zz n))) ∧ Keep nx h d'.h) := by
  refine AC.of_wp' (size := 31) f93 rfl rfl ?_
  refine wp_seq (wp_region ?_)
  refine wpO_pure (by simp +decide only [go_sem]) (by conv => lhs; simp +decide only [go_sem]) ?_
  rw [wpO_nil]
  refine wp_seq (wp_region ?_)
  iterate 4 refine wpO_pure (by simp +decide only [go_sem]) (by conv => lhs; simp +decide only [go_sem]) ?_
  rw [wpO_nil]
  refine wp_seqR (fun t d => getT t 3 = .int .u64 (zz n : Nat) ∧ d = ⟨h, nx⟩) (wp_seq (wp_region ?_)) ?_
  · iterate 2 refine wpO_pure (by simp +decide only [go_sem]) (by conv => lhs; simp +decide only [go_sem]) ?_
    rw [wpO_nil]
    refine wp_cond (x := decide (n < 0)) (by simp +decide only [go_sem]) ?_
    by_cases hn : n < 0
    · rw [show decide (n < 0) = true from by simpa using hn]
      refine wp_region ?_
      iterate 6 refine wpO_pure (by simp +decide only [go_sem]) (by conv => lhs; simp +decide only [go_sem]) ?_
      rw [wpO_nil]
      refine ⟨?_, rfl⟩
      simp +decide only [go_sem]
      congr 1
      rw [wi64 (by omega) (by omega)]
      simp only [w64, zz]
      rw [if_neg (by omega)]
      omega
    · rw [show decide (n < 0) = false from by simpa using hn]
      refine wp_skip ⟨?_, rfl⟩
      simp +decide only [go_sem]
      congr 1
      simp only [w64, zz]
      rw [if_pos (by omega)]
      omega
  intro t d ⟨ht, hd⟩
  subst hd
  refine wp_seq (wp_region ?_)
  iterate 1 refine wpO_pure (by simp +decide only [go_sem]) (by conv => lhs; simp +decide only [go_sem]) ?_
  rw [wpO_nil]
  refine wp_seq (wp_block (wp_while (α := Nat × List AVal) (fun a => a.1) (fun a t d => a.1 < 18446744073709551616 ∧ getT t 3 = .int .u64 a.1 ∧ ∃ v, getT t 4 = v ∧ nx ≤ d.nx ∧ Own 1 d.h nx d.nx v a.2 ∧ Keep nx h d.h ∧ a.2 ++ bys (leb a.1) = bys (leb (zz n))) ?_ (a := (zz n, [])) ?_))
  · intro a t d ⟨hb, h3, v, h4, hnx, ho, hk, hsum⟩
    obtain ⟨h', nx'⟩ := d
    obtain ⟨z, l⟩ := a
    dsimp only at hb h3 h4 hnx ho hk hsum
    refine wp_seq (wp_seq (wp_region ?_))
    iterate 2 refine wpO_pure (by simp +decide only [go_sem]) (by conv => lhs; simp +decide only [go_sem, h3]) ?_
    rw [wpO_nil]
    refine wp_cond (by simp +decide only [go_sem]; rfl) ?_
    have hlt : l.length ≤ 1000 := by
      have g1 := congrArg List.length hsum
      have g2 := leb_len 9 (zz n) (zz_lt h1 h2)
      simp only [bys, List.length_append, List.length_map] at g1
      omega
    by_cases hz : 128 ≤ z
    · rw [show decide ((128 : Int) ≤ (z : Int)) = true from by simp; omega]
      refine wp_skip ?_
      refine wp_block (wp_seq (wp_region ?_))
      iterate 5 refine wpO_pure (by simp +decide only [go_sem]) (by conv => lhs; simp +decide only [go_sem, h3, h4]) ?_
      refine wpO_build (vs := [.int .u8 (z % 128 + 128 : Nat)]) (by simp +decide only [go_sem]) rfl u30 s5 z5 rfl ?_ rfl (by decide) (by decide) ?_ ?_
      · simp +decide only [go_sem, List.map_toArray, List.map_cons, List.map_nil]
        refine congrArg (fun m => [(0, AVal.int IntKind.u8 m)]) ?_
        have e : (z : Int).tmod 128 = ((z % 128 : Nat) : Int) := by rw [Int.tmod_eq_emod_of_nonneg (by omega)]; omega
        rw [e]
        simp only [IntKind.wrap, IntKind.bits, IntKind.signed]
        simp; omega
      · intro v hv; simp at hv; subst hv; rfl
      intro cs hcs
      obtain ⟨a1, a2, a3⟩ := (Sl.built (h := h') (nx := nx') (n := 1) rfl hcs).first (by decide)
      refine wpO_append (lo := nx) (by simp +decide only [go_sem]) rfl rfl rfl rfl u30 u30 rfl s5 z5 b5 (by simp +decide only [go_sem, h4]) (by simp +decide only [go_sem]) (ho.keep (fun i h1 h2 => by rw [BT.get_put, if_neg (by omega)]) (Nat.le_succ _)) (by omega) ?_ a1 a3 ?_ ?_
      · simp
      · intro _; exact okA_of (by intro v hv; simp at hv; subst hv; rfl) (by decide) (by simp; omega)
      intro v' h'' nx'' g1 g2 g3
      iterate 1 refine wpO_pure (by simp +decide only [go_sem]) (by conv => lhs; simp +decide only [go_sem]) ?_
      rw [wpO_nil]
      refine wp_region ?_
      iterate 3 refine wpO_pure (by simp +decide only [go_sem]) (by conv => lhs; simp +decide only [go_sem, h3]) ?_
      rw [wpO_nil]
      refine ⟨(z / 128, l ++ [AVal.int IntKind.u8 ((z % 128 + 128 : Nat) : Int)]), by show z / 128 < z; omega, by show z / 128 < _; omega, ?_, v', by simp +decide only [go_sem], by show nx ≤ nx''; omega, g2, (hk.trans (Keep.put hnx)).trans g3, ?_⟩
      · simp +decide only [go_sem]
        congr 1
        have e : (z : Int).tdiv 128 = ((z / 128 : Nat) : Int) := by rw [Int.tdiv_eq_ediv_of_nonneg (by omega)]; omega
        rw [e, w64]
        omega
      rw [← hsum, leb_ge (z := z) (by omega)]
      simp [bys]
    · rw [show decide ((128 : Int) ≤ (z : Int)) = false from by simp; omega]
      refine wp_exit ?_
      refine wp_seq (wp_region ?_)
      iterate 3 refine wpO_pure (by simp +decide only [go_sem]) (by conv => lhs; simp +decide only [go_sem, h3, h4]) ?_
      refine wpO_build (vs := [.int .u8 (z : Nat)]) (by simp +decide only [go_sem]) rfl u30 s5 z5 rfl ?_ rfl (by decide) (by decide) ?_ ?_
      · simp +decide only [go_sem, List.map_toArray, List.map_cons, List.map_nil, u8_small (show z < 256 by omega)]; rfl
      · intro v hv; simp at hv; subst hv; rfl
      intro cs hcs
      obtain ⟨a1, a2, a3⟩ := (Sl.built (h := h') (nx := nx') (n := 1) rfl hcs).first (by decide)
      refine wpO_append (lo := nx) (by simp +decide only [go_sem]) rfl rfl rfl rfl u30 u30 rfl s5 z5 b5 (by simp +decide only [go_sem, h4]) (by simp +decide only [go_sem]) (ho.keep (fun i h1 h2 => by rw [BT.get_put, if_neg (by omega)]) (Nat.le_succ _)) (by omega) ?_ a1 a3 ?_ ?_
      · simp
      · intro _; exact okA_of (by intro v hv; simp at hv; subst hv; rfl) (by decide) (by simp; omega)
      intro v' h'' nx'' g1 g2 g3
      iterate 1 refine wpO_pure (by simp +decide only [go_sem]) (by conv => lhs; simp +decide only [go_sem]) ?_
      rw [wpO_nil]
      refine wp_ret rfl ⟨.inr rfl, [v'], res_one (by simp +decide only [go_sem]) ?_, ?_⟩
      · exact g2.notBot
      · refine ⟨by show nx ≤ nx''; omega, ?_, (hk.trans (Keep.put hnx)).trans g3⟩
        rw [← hsum, leb_lt (z := z) (by omega)]
        exact g2.low hlo
  · exact ⟨by unfold zz; dsimp only; split <;> omega, by simp +decide only [go_sem, ht], _, by simp +decide only [go_sem], Nat.le_refl _, .nil, Keep.refl _ _, rfl⟩
end Go.Ev
end
section
open Go Go.Proofs Go.RowKit
set_option linter.unusedVariables false
set_option linter.unusedSimpArgs false
set_option maxRecDepth 100000
namespace Go.Ev
@[go_sem] theorem ev_callf {E : Env} {t : BT AVal} {h : Heap} {nx : Nat} (f : Operand) (xs : Array Operand) (ts : Array TypeId) : evOp ⟨E, t, h, nx⟩ (.call { callee := .value f, args := xs, argTypes := ts }) = (match evalT E.ng t f with
    | .func fn first cap => invokeFn fn first cap (xs.toList.map (evalT E.ng t))
    | .nilfunc => .panic (rtErr E "invalid memory address or nil pointer dereference")
    | _ => .stuck "call") := rfl
@[go_sem] theorem invokeFn_f (f : Nat) (first cap args : List AVal) : invokeFn (.func f) first cap args = .enter f (first ++ args ++ cap) := rfl
attribute [go_sem] List.map_cons List.map_nil List.nil_append List.append_nil
theorem first_str {h : Heap} (s : List Nat) : lenOf (.str s) = some ((bys s).length / 1) ∧ firstOf h 1 ((bys s).length / 1) (.str s) = some (bys s) := by
  simp only [bys, List.length_map, Nat.div_one]
  refine ⟨rfl, ?_⟩
  unfold firstOf
  dsimp only
  show some (List.map (fun b => AVal.int IntKind.u8 (Int.ofNat b)) (List.take s.length s)) = _
  rw [List.take_length]
theorem bys_ok (l : List Nat) : ∀ v ∈ bys l, cellOK v = true := by
  intro v hv
  obtain ⟨b, _, rfl⟩ := List.mem_map.1 hv
  rfl
theorem bys_len (l : List Nat) : (bys l).length = l.length := by simp [bys]
theorem bys_app (a b : List Nat) : bys a ++ bys b = bys (a ++ b) := by simp [bys]
theorem leb_len10 {n : Int} (h1 : -9223372036854775808 ≤ n) (h2 : n < 9223372036854775808) : (leb (zz n)).length ≤ 10 := leb_len 9 (zz n) (zz_lt h1 h2)
/-- wire.Bytes. -/
theorem wireBytes {h : Heap} {nx lo : Nat} (hlo : lo ≤ nx) {s : List Nat} (hs : s.length ≤ 68000000000) : AC EX 92 [.str s] ⟨h, nx⟩ (fun v d' => nx ≤ d'.nx ∧ Own 1 d'.h lo d'.nx v (bys (leb (zz s.length) ++ s)) ∧ Keep nx h d'.h) := by
  refine AC.of_wp' (size := 8) f92 rfl rfl ?_
  refine wp_seq (wp_region ?_)
  refine wpO_pure (by simp +decide only [go_sem]) (by conv => lhs; simp +decide only [go_sem]) ?_
  rw [wpO_nil]
  refine wp_seq (wp_region ?_)
  refine wpO_pure (by simp +decide only [go_sem]) (by conv => lhs; simp +decide only [go_sem]) ?_
  refine wpO_pure (by simp +decide only [go_sem]) (ev_lenS rfl rfl rfl u9 (s := s) (by simp +decide only [go_sem])) ?_
  refine wpO_call (by simp +decide only [go_sem]) (by conv => lhs; simp +decide only [go_sem]) n90 (wireInt (Nat.le_refl _) (n := s.length) (by omega) (by omega)) ?_
  intro v ⟨h', nx'⟩ ⟨g1, g2, g3⟩
  dsimp only at g1 g2 g3
  refine wpO_pure (by simp +decide only [go_sem]) (by conv => lhs; simp +decide only [go_sem]) ?_
  have hl := leb_len10 (n := s.length) (by omega) (by omega)
  refine wpO_append (lo := nx) (by simp +decide only [go_sem]) rfl rfl rfl rfl u30 u9 rfl s5 z5 b5 (by simp +decide only [go_sem]) (by simp +decide only [go_sem]) g2 g1 (by simp) (first_str (h := h') s).1 (first_str s).2 ?_ ?_
  · intro _; exact okA_of (bys_ok s) (by decide) (by simp only [bys_len]; omega)
  intro v' h'' nx'' k1 k2 k3
  rw [bys_app] at k2
  refine wpO_pure (by simp +decide only [go_sem]) (by conv => lhs; simp +decide only [go_sem]) ?_
  rw [wpO_nil]
  exact wp_ret rfl ⟨.inr rfl, [v'], res_one (by simp +decide only [go_sem]) k2.notBot, by show nx ≤ nx''; omega, k2.low hlo, g3.trans k3⟩
theorem refBytes {h : Heap} {nx lo : Nat} (hlo : lo ≤ nx) {s : List Nat} (hs : s.length ≤ 68000000000) : AC EX 94 [.str s] ⟨h, nx⟩ (fun v d' => nx ≤ d'.nx ∧ Own 1 d'.h lo d'.nx v (bys (leb (zz s.length) ++ s)) ∧ Keep nx h d'.h) := by
  refine AC.of_wp' (size := 8) f94 rfl rfl ?_
  refine wp_seq (wp_region ?_)
  refine wpO_pure (by simp +decide only [go_sem]) (by conv => lhs; simp +decide only [go_sem]) ?_
  rw [wpO_nil]
  refine wp_seq (wp_region ?_)
  refine wpO_pure (by simp +decide only [go_sem]) (by conv => lhs; simp +decide only [go_sem]) ?_
  refine wpO_pure (by simp +decide only [go_sem]) (ev_lenS rfl rfl rfl u9 (s := s) (by simp +decide only [go_sem])) ?_
  refine wpO_call (by simp +decide only [go_sem]) (by conv => lhs; simp +decide only [go_sem]) n93 (refInt (Nat.le_refl _) (n := s.length) (by omega) (by omega)) ?_
  intro v ⟨h', nx'⟩ ⟨g1, g2, g3⟩
  dsimp only at g1 g2 g3
  refine wpO_pure (by simp +decide only [go_sem]) (by conv => lhs; simp +decide only [go_sem]) ?_
  have hl := leb_len10 (n := s.length) (by omega) (by omega)
  refine wpO_append (lo := nx) (by simp +decide only [go_sem]) rfl rfl rfl rfl u30 u9 rfl s5 z5 b5 (by simp +decide only [go_sem]) (by simp +decide only [go_sem]) g2 g1 (by simp) (first_str (h := h') s).1 (first_str s).2 ?_ ?_
  · intro _; exact okA_of (bys_ok s) (by decide) (by simp only [bys_len]; omega)
  intro v' h'' nx'' k1 k2 k3
  rw [bys_app] at k2
  refine wpO_pure (by simp +decide only [go_sem]) (by conv => lhs; simp +decide only [go_sem]) ?_
  rw [wpO_nil]
  exact wp_ret rfl ⟨.inr rfl, [v'], res_one (by simp +decide only [go_sem]) k2.notBot, by show nx ≤ nx''; omega, k2.low hlo, g3.trans k3⟩
end Go.Ev
end
section
open Go Go.Proofs Go.RowKit
set_option linter.unusedVariables false
set_option linter.unusedSimpArgs false
set_option maxRecDepth 100000
namespace Go.Ev
def ints (l : List Int) : List AVal := l.map (AVal.int .i64)
def I64 (n : Int) : Prop := -9223372036854775808 ≤ n ∧ n < 9223372036854775808
def encI (l : List Int) : List Nat := leb (zz l.length) ++ l.flatMap fun n => leb (zz n)
theorem encI_len : ∀ {l : List Int}, (∀ n ∈ l, I64 n) → (l.flatMap fun n => leb (zz n)).length ≤ 10 * l.length
  | [], _ => by simp
  | n :: l, h => by
    have h1 := leb_len10 (h n List.mem_cons_self).1 (h n List.mem_cons_self).2
    have h2 := encI_len (l := l) (fun m hm => h m (List.mem_cons_of_mem _ hm))
    simp only [List.flatMap_cons, List.length_append, List.length_cons]
    omega
set_option maxHeartbeats 1000000 in
theorem wireListI {h : Heap} {nx lo : Nat} (hlo : lo ≤ nx) {v : AVal} {L : List Int} (hv : SlB 1 h nx v (ints L)) (hL : ∀ n ∈ L, I64 n) (hs : L.length ≤ 6000000000) : AC EX 89 [v, .func (.func 90) [] []] ⟨h, nx⟩ (fun v d' => nx ≤ d'.nx ∧ Own 1 d'.h lo d'.nx v (bys (encI L)) ∧ Keep nx h d'.h) := by
  have hlen : (ints L).length = L.length := by simp [ints]
  have hsl := hv.len
  rw [hlen] at hsl
  refine AC.of_wp' (size := 24) f89 rfl rfl ?_
  refine wp_seq (wp_region ?_)
  refine wpO_pure (by simp +decide only [go_sem]) (by conv => lhs; simp +decide only [go_sem]) ?_
  rw [wpO_nil]
  refine wp_seq (wp_region ?_)
  refine wpO_pure (by simp +decide only [go_sem]) (by conv => lhs; simp +decide only [go_sem]) ?_
  refine wpO_pure (by simp +decide only [go_sem]) (ev_len rfl rfl rfl u22 (v := v) (by simp +decide only [go_sem]) hsl) ?_
  refine wpO_call (by simp +decide only [go_sem]) (by conv => lhs; simp +decide only [go_sem]) n90 (wireInt (Nat.le_refl _) (n := L.length) (by omega) (by omega)) ?_
  intro v0 ⟨h', nx'⟩ ⟨g1, g2, g3⟩
  dsimp only at g1 g2 g3
  refine wpO_pure (by simp +decide only [go_sem]) (by conv => lhs; simp +decide only [go_sem]) ?_
  rw [wpO_nil]
  have hv' := hv.keep g3
  refine wp_seq (wp_seq (wp_region ?_))
  refine wpO_pure (by simp +decide only [go_sem]) (by conv => lhs; simp +decide only [go_sem]) ?_
  refine wpO_pure (by simp +decide only [go_sem]) (ev_len rfl rfl rfl u22 (v := v) (by simp +decide only [go_sem]) hsl) ?_
  refine wpO_pure (by simp +decide only [go_sem]) (by conv => lhs; simp +decide only [go_sem]) ?_
  rw [wpO_nil]
  refine wp_block (wp_while (α := Nat) (fun i => L.length - i) (fun i t d => i ≤ L.length ∧ getT t 1 = .func (.func 90) [] [] ∧ getT t 11 = v ∧ getT t 12 = .int .i64 (L.length : Int) ∧ getT t 13 = .int .i64 (i : Int) ∧ ∃ w, getT t 5 = w ∧ nx ≤ d.nx ∧ Own 1 d.h nx d.nx w (bys (leb (zz L.length) ++ (L.take i).flatMap fun n => leb (zz n))) ∧ Keep nx h d.h) ?_ (a := 0) ?_)
  · intro i t d ⟨hi, h1, h11, h12, h13, w, h5, hnx, ho, hk⟩
    obtain ⟨h2, nx2⟩ := d
    dsimp only at hnx ho hk
    refine wp_seq (wp_region ?_)
    refine wpO_pure (by simp +decide only [go_sem]) (by conv => lhs; simp +decide only [go_sem, h12, h13]) ?_
    rw [wpO_nil]
    refine wp_seq (wp_cond (by simp +decide only [go_sem]; rfl) ?_)
    by_cases hz : i < L.length
    · rw [show decide ((i : Int) < (L.length : Int)) = true from by simp; omega]
      refine wp_skip (wp_seq (wp_block (wp_seq (wp_region ?_))))
      refine wpO_index (i := i) (j := .i64) (by simp +decide only [go_sem]) rfl (hv.keep hk) u22 s3 u3 rfl (by simp +decide only [go_sem, h11]) (by simp +decide only [go_sem, h13]) (by omega) ?_
      intro id off hld
      have hel : (ints L)[i]'(by omega) = .int .i64 L[i] := by simp [ints]
      rw [hel] at hld
      refine wpO_pure (by simp +decide only [go_sem]) (ev_load (by simp +decide only [go_sem]) hld) ?_
      refine wpO_pure (by simp +decide only [go_sem]) (by conv => lhs; simp +decide only [go_sem]) ?_
      rw [wpO_nil]
      refine wp_region ?_
      iterate 3 refine wpO_pure (by simp +decide only [go_sem]) (by conv => lhs; simp +decide only [go_sem, h5, h1]) ?_
      have hr := hL L[i] (List.getElem_mem hz)
      refine wpO_call (by simp +decide only [go_sem]) (by conv => lhs; simp +decide only [go_sem]) n90 (wireInt (Nat.le_refl _) hr.1 hr.2) ?_
      intro w1 ⟨h3, nx3⟩ ⟨k1, k2, k3⟩
      dsimp only at k1 k2 k3
      obtain ⟨a1, a2, a3⟩ := k2.sl.first (by decide)
      have b1 := leb_len10 hr.1 hr.2
      have b2 := leb_len10 (n := L.length) (by omega) (by omega)
      have b3 := encI_len (l := L.take i) (fun n hn => hL n (List.mem_of_mem_take hn))
      rw [List.length_take] at b3
      refine wpO_append (lo := nx) (by simp +decide only [go_sem]) rfl rfl rfl rfl u30 u30 rfl s5 z5 b5 (by simp +decide only [go_sem, h5]) (by simp +decide only [go_sem]) (ho.keep (fun i h1 h2 => k3 i h2) k1) (by omega) (by simp) a1 a3 ?_ ?_
      · intro _; exact okA_of (bys_ok _) (by decide) (by simp only [bys_len, List.length_append, Nat.div_one, Nat.zero_add]; omega)
      intro w' h4 nx4 m1 m2 m3
      rw [bys_app] at m2
      refine wpO_pure (by simp +decide only [go_sem]) (by conv => lhs; simp +decide only [go_sem]) ?_
      rw [wpO_nil]
      refine wp_region ?_
      iterate 2 refine wpO_pure (by simp +decide only [go_sem]) (by conv => lhs; simp +decide only [go_sem, h13]) ?_
      rw [wpO_nil]
      refine ⟨i + 1, by omega, by omega, by simp +decide only [go_sem, h1], by simp +decide only [go_sem, h11], by simp +decide only [go_sem, h12], ?_, w', by simp +decide only [go_sem], by show nx ≤ nx4; omega, ?_, (hk.trans (k3.mono hnx)).trans m3⟩
      · simp +decide only [go_sem]
        rw [wi64 (by omega) (by omega)]; rfl
      · rw [List.take_succ_eq_append_getElem hz, List.flatMap_append, ← List.append_assoc]
        simpa using m2
    · rw [show decide ((i : Int) < (L.length : Int)) = false from by simp; omega]
      refine wp_exit ?_
      refine wp_seq (wp_region ?_)
      iterate 2 refine wpO_pure (by simp +decide only [go_sem]) (by conv => lhs; simp +decide only [go_sem, h5]) ?_
      rw [wpO_nil]
      have e : i = L.length := by omega
      subst e
      rw [List.take_length] at ho
      exact wp_ret rfl ⟨.inr rfl, [w], res_one (by simp +decide only [go_sem]) ho.notBot, hnx, ho.low hlo, hk⟩
  · exact ⟨Nat.zero_le _, by simp +decide only [go_sem], by simp +decide only [go_sem], by simp +decide only [go_sem], by simp +decide only [go_sem]; rfl, v0, by simp +decide only [go_sem], by show nx ≤ nx'; omega, by simpa using g2, g3⟩
end Go.Ev
end
section
open Go Go.Proofs Go.RowKit
set_option linter.unusedVariables false
set_option linter.unusedSimpArgs false
set_option maxRecDepth 100000
namespace Go.Ev
def strs (l : List (List Nat)) : List AVal := l.map AVal.str
def encS (l : List (List Nat)) : List Nat := leb (zz l.length) ++ l.flatMap fun n => (leb (zz (n.length : Nat)) ++ n)
/-- How much a list of texts takes. -/
def szS : List (List Nat) → Nat
  | [] => 0
  | s :: l => s.length + 10 + szS l
theorem szS_len : ∀ L : List (List Nat), 10 * L.length ≤ szS L
  | [] => by simp [szS]
  | s :: l => by have := szS_len l; simp only [szS, List.length_cons]; omega
theorem szS_at : ∀ {L : List (List Nat)} {i : Nat} (h : i < L.length), L[i].length ≤ szS L
  | s :: l, 0, h => by simp only [szS, List.getElem_cons_zero]; omega
  | s :: l, i + 1, h => by
    have := szS_at (L := l) (i := i) (by simpa using h)
    simp only [szS, List.getElem_cons_succ]; omega
theorem szS_take : ∀ (L : List (List Nat)) (i : Nat), szS (L.take i) ≤ szS L
  | [], i => by simp
  | s :: l, 0 => by simp [szS]
  | s :: l, i + 1 => by have := szS_take l i; simp only [List.take_succ_cons, szS]; omega
theorem encS_len : ∀ (l : List (List Nat)), szS l ≤ 30000000000 → (l.flatMap fun n => (leb (zz (n.length : Nat)) ++ n)).length ≤ szS l
  | [], _ => by simp [szS]
  | s :: l, h => by
    simp only [szS] at h
    have h1 := leb_len10 (n := s.length) (by omega) (by omega)
    have h2 := encS_len l (by omega)
    simp only [List.flatMap_cons, List.length_append, szS] at h2 ⊢
    omega
set_option maxHeartbeats 1000000 in
theorem wireListS {h : Heap} {nx lo : Nat} (hlo : lo ≤ nx) {v : AVal} {L : List (List Nat)} (hv : SlB 1 h nx v (strs L)) (hs : szS L ≤ 30000000000) : AC EX 91 [v, .func (.func 92) [] []] ⟨h, nx⟩ (fun v d' => nx ≤ d'.nx ∧ Own 1 d'.h lo d'.nx v (bys (encS L)) ∧ Keep nx h d'.h) := by
  have hlen : (strs L).length = L.length := by simp [strs]
  have hsl := hv.len
  have hLs := szS_len L
  rw [hlen] at hsl
  refine AC.of_wp' (size := 24) f91 rfl rfl ?_
  refine wp_seq (wp_region ?_)
  refine wpO_pure (by simp +decide only [go_sem]) (by conv => lhs; simp +decide only [go_sem]) ?_
  rw [wpO_nil]
  refine wp_seq (wp_region ?_)
  refine wpO_pure (by simp +decide only [go_sem]) (by conv => lhs; simp +decide only [go_sem]) ?_
  refine wpO_pure (by simp +decide only [go_sem]) (ev_len rfl rfl rfl u100 (v := v) (by simp +decide only [go_sem]) hsl) ?_
  refine wpO_call (by simp +decide only [go_sem]) (by conv => lhs; simp +decide only [go_sem]) n90 (wireInt (Nat.le_refl _) (n := L.length) (by omega) (by omega)) ?_
  intro v0 ⟨h', nx'⟩ ⟨g1, g2, g3⟩
  dsimp only at g1 g2 g3
  refine wpO_pure (by simp +decide only [go_sem]) (by conv => lhs; simp +decide only [go_sem]) ?_
  rw [wpO_nil]
  have hv' := hv.keep g3
  refine wp_seq (wp_seq (wp_region ?_))
  refine wpO_pure (by simp +decide only [go_sem]) (by conv => lhs; simp +decide only [go_sem]) ?_
  refine wpO_pure (by simp +decide only [go_sem]) (ev_len rfl rfl rfl u100 (v := v) (by simp +decide only [go_sem]) hsl) ?_
  refine wpO_pure (by simp +decide only [go_sem]) (by conv => lhs; simp +decide only [go_sem]) ?_
  rw [wpO_nil]
  refine wp_block (wp_while (α := Nat) (fun i => L.length - i) (fun i t d => i ≤ L.length ∧ getT t 1 = .func (.func 92) [] [] ∧ getT t 11 = v ∧ getT t 12 = .int .i64 (L.length : Int) ∧ getT t 13 = .int .i64 (i : Int) ∧ ∃ w, getT t 5 = w ∧ nx ≤ d.nx ∧ Own 1 d.h nx d.nx w (bys (leb (zz L.length) ++ (L.take i).flatMap fun n => (leb (zz (n.length : Nat)) ++ n))) ∧ Keep nx h d.h) ?_ (a := 0) ?_)
  · intro i t d ⟨hi, h1, h11, h12, h13, w, h5, hnx, ho, hk⟩
    obtain ⟨h2, nx2⟩ := d
    dsimp only at hnx ho hk
    refine wp_seq (wp_region ?_)
    refine wpO_pure (by simp +decide only [go_sem]) (by conv => lhs; simp +decide only [go_sem, h12, h13]) ?_
    rw [wpO_nil]
    refine wp_seq (wp_cond (by simp +decide only [go_sem]; rfl) ?_)
    by_cases hz : i < L.length
    · rw [show decide ((i : Int) < (L.length : Int)) = true from by simp; omega]
      refine wp_skip (wp_seq (wp_block (wp_seq (wp_region ?_))))
      refine wpO_index (i := i) (j := .i64) (by simp +decide only [go_sem]) rfl (hv.keep hk) u100 s9 u9 rfl (by simp +decide only [go_sem, h11]) (by simp +decide only [go_sem, h13]) (by omega) ?_
      intro id off hld
      have hel : (strs L)[i]'(by omega) = .str L[i] := by simp [strs]
      rw [hel] at hld
      refine wpO_pure (by simp +decide only [go_sem]) (ev_load (by simp +decide only [go_sem]) hld) ?_
      refine wpO_pure (by simp +decide only [go_sem]) (by conv => lhs; simp +decide only [go_sem]) ?_
      rw [wpO_nil]
      refine wp_region ?_
      iterate 3 refine wpO_pure (by simp +decide only [go_sem]) (by conv => lhs; simp +decide only [go_sem, h5, h1]) ?_
      have hr := szS_at hz
      refine wpO_call (by simp +decide only [go_sem]) (by conv => lhs; simp +decide only [go_sem]) n92 (wireBytes (Nat.le_refl _) (by omega)) ?_
      intro w1 ⟨h3, nx3⟩ ⟨k1, k2, k3⟩
      dsimp only at k1 k2 k3
      obtain ⟨a1, a2, a3⟩ := k2.sl.first (by decide)
      have b1 := leb_len10 (n := L[i].length) (by omega) (by omega)
      have b2 := leb_len10 (n := L.length) (by omega) (by omega)
      have b3 := encS_len (L.take i) (by have := szS_take L i; omega)
      have b4 := szS_take L i
      refine wpO_append (lo := nx) (by simp +decide only [go_sem]) rfl rfl rfl rfl u30 u30 rfl s5 z5 b5 (by simp +decide only [go_sem, h5]) (by simp +decide only [go_sem]) (ho.keep (fun i h1 h2 => k3 i h2) k1) (by omega) (by simp) a1 a3 ?_ ?_
      · intro _; exact okA_of (bys_ok _) (by decide) (by simp only [bys_len, List.length_append, Nat.div_one, Nat.zero_add] at b3 ⊢; omega)
      intro w' h4 nx4 m1 m2 m3
      rw [bys_app] at m2
      refine wpO_pure (by simp +decide only [go_sem]) (by conv => lhs; simp +decide only [go_sem]) ?_
      rw [wpO_nil]
      refine wp_region ?_
      iterate 2 refine wpO_pure (by simp +decide only [go_sem]) (by conv => lhs; simp +decide only [go_sem, h13]) ?_
      rw [wpO_nil]
      refine ⟨i + 1, by omega, by omega, by simp +decide only [go_sem, h1], by simp +decide only [go_sem, h11], by simp +decide only [go_sem, h12], ?_, w', by simp +decide only [go_sem], by show nx ≤ nx4; omega, ?_, (hk.trans (k3.mono hnx)).trans m3⟩
      · simp +decide only [go_sem]
        rw [wi64 (by omega) (by omega)]; rfl
      · rw [List.take_succ_eq_append_getElem hz, List.flatMap_append, ← List.append_assoc]
        simpa using m2
    · rw [show decide ((i : Int) < (L.length : Int)) = false from by simp; omega]
      refine wp_exit ?_
      refine wp_seq (wp_region ?_)
      iterate 2 refine wpO_pure (by simp +decide only [go_sem]) (by conv => lhs; simp +decide only [go_sem, h5]) ?_
      rw [wpO_nil]
      have e : i = L.length := by omega
      subst e
      rw [List.take_length] at ho
      exact wp_ret rfl ⟨.inr rfl, [w], res_one (by simp +decide only [go_sem]) ho.notBot, hnx, ho.low hlo, hk⟩
  · exact ⟨Nat.zero_le _, by simp +decide only [go_sem], by simp +decide only [go_sem], by simp +decide only [go_sem], by simp +decide only [go_sem]; rfl, v0, by simp +decide only [go_sem], by show nx ≤ nx'; omega, by simpa using g2, g3⟩
end Go.Ev
end
section
open Go Go.Proofs Go.RowKit
set_option linter.unusedVariables false
set_option linter.unusedSimpArgs false
set_option maxRecDepth 100000
namespace Go.Ev
theorem wireInts {h : Heap} {nx lo : Nat} (hlo : lo ≤ nx) {v : AVal} {L : List Int} (hv : SlB 1 h nx v (ints L)) (hL : ∀ n ∈ L, I64 n) (hs : L.length ≤ 6000000000) : AC EX 30 [v] ⟨h, nx⟩ (fun v d' => nx ≤ d'.nx ∧ Own 1 d'.h lo d'.nx v (bys (encI L)) ∧ Keep nx h d'.h) := by
  refine AC.of_wp' (size := 5) f30 rfl rfl ?_
  refine wp_seq (wp_region ?_)
  refine wpO_pure (by simp +decide only [go_sem]) (by conv => lhs; simp +decide only [go_sem]) ?_
  rw [wpO_nil]
  refine wp_seq (wp_region ?_)
  refine wpO_pure (by simp +decide only [go_sem]) (by conv => lhs; simp +decide only [go_sem]) ?_
  refine wpO_call (by simp +decide only [go_sem]) (by conv => lhs; simp +decide only [go_sem]) n89 (wireListI hlo hv hL hs) ?_
  intro v0 ⟨h', nx'⟩ ⟨g1, g2, g3⟩
  dsimp only at g1 g2 g3
  refine wpO_pure (by simp +decide only [go_sem]) (by conv => lhs; simp +decide only [go_sem]) ?_
  rw [wpO_nil]
  exact wp_ret rfl ⟨.inr rfl, [v0], res_one (by simp +decide only [go_sem]) g2.notBot, g1, g2, g3⟩
theorem wireStrings {h : Heap} {nx lo : Nat} (hlo : lo ≤ nx) {v : AVal} {L : List (List Nat)} (hv : SlB 1 h nx v (strs L)) (hs : szS L ≤ 30000000000) : AC EX 31 [v] ⟨h, nx⟩ (fun v d' => nx ≤ d'.nx ∧ Own 1 d'.h lo d'.nx v (bys (encS L)) ∧ Keep nx h d'.h) := by
  refine AC.of_wp' (size := 5) f31 rfl rfl ?_
  refine wp_seq (wp_region ?_)
  refine wpO_pure (by simp +decide only [go_sem]) (by conv => lhs; simp +decide only [go_sem]) ?_
  rw [wpO_nil]
  refine wp_seq (wp_region ?_)
  refine wpO_pure (by simp +decide only [go_sem]) (by conv => lhs; simp +decide only [go_sem]) ?_
  refine wpO_call (by simp +decide only [go_sem]) (by conv => lhs; simp +decide only [go_sem]) n91 (wireListS hlo hv hs) ?_
  intro v0 ⟨h', nx'⟩ ⟨g1, g2, g3⟩
  dsimp only at g1 g2 g3
  refine wpO_pure (by simp +decide only [go_sem]) (by conv => lhs; simp +decide only [go_sem]) ?_
  rw [wpO_nil]
  exact wp_ret rfl ⟨.inr rfl, [v0], res_one (by simp +decide only [go_sem]) g2.notBot, g1, g2, g3⟩
set_option maxHeartbeats 1000000 in
theorem refInts {h : Heap} {nx lo : Nat} (hlo : lo ≤ nx) {v : AVal} {L : List Int} (hv : SlB 1 h nx v (ints L)) (hL : ∀ n ∈ L, I64 n) (hs : L.length ≤ 6000000000) : AC EX 34 [v] ⟨h, nx⟩ (fun v d' => nx ≤ d'.nx ∧ Own 1 d'.h lo d'.nx v (bys (encI L)) ∧ Keep nx h d'.h) := by
  have hlen : (ints L).length = L.length := by simp [ints]
  have hsl := hv.len
  rw [hlen] at hsl
  refine AC.of_wp' (size := 22) f34 rfl rfl ?_
  refine wp_seq (wp_region ?_)
  refine wpO_pure (by simp +decide only [go_sem]) (by conv => lhs; simp +decide only [go_sem]) ?_
  rw [wpO_nil]
  refine wp_seq (wp_region ?_)
  refine wpO_pure (by simp +decide only [go_sem]) (by conv => lhs; simp +decide only [go_sem]) ?_
  refine wpO_pure (by simp +decide only [go_sem]) (ev_len rfl rfl rfl u22 (v := v) (by simp +decide only [go_sem]) hsl) ?_
  refine wpO_call (by simp +decide only [go_sem]) (by conv => lhs; simp +decide only [go_sem]) n93 (refInt (Nat.le_refl _) (n := L.length) (by omega) (by omega)) ?_
  intro v0 ⟨h', nx'⟩ ⟨g1, g2, g3⟩
  dsimp only at g1 g2 g3
  refine wpO_pure (by simp +decide only [go_sem]) (by conv => lhs; simp +decide only [go_sem]) ?_
  rw [wpO_nil]
  refine wp_seq (wp_seq (wp_region ?_))
  refine wpO_pure (by simp +decide only [go_sem]) (by conv => lhs; simp +decide only [go_sem]) ?_
  rw [wpO_nil]
  refine wp_block (wp_while (α := Nat) (fun i => L.length - i) (fun i t d => i ≤ L.length ∧ getT t 0 = v ∧ getT t 4 = .int .i64 (i : Int) ∧ ∃ w, getT t 3 = w ∧ nx ≤ d.nx ∧ Own 1 d.h nx d.nx w (bys (leb (zz L.length) ++ (L.take i).flatMap fun n => leb (zz n))) ∧ Keep nx h d.h) ?_ (a := 0) ?_)
  · intro i t d ⟨hi, h0, h4, w, h3, hnx, ho, hk⟩
    obtain ⟨h2, nx2⟩ := d
    dsimp only at hnx ho hk
    refine wp_seq (wp_seq (wp_region ?_))
    iterate 2 refine wpO_pure (by simp +decide only [go_sem]) (by conv => lhs; simp +decide only [go_sem, h0, h4]) ?_
    refine wpO_pure (by simp +decide only [go_sem]) (ev_len rfl rfl rfl u22 (v := v) (by simp +decide only [go_sem]) hsl) ?_
    refine wpO_pure (by simp +decide only [go_sem]) (by conv => lhs; simp +decide only [go_sem]) ?_
    rw [wpO_nil]
    refine wp_cond (by simp +decide only [go_sem]; rfl) ?_
    by_cases hz : i < L.length
    · rw [show decide ((i : Int) < (L.length : Int)) = true from by simp; omega]
      refine wp_skip (wp_seq (wp_block (wp_region ?_)))
      iterate 3 refine wpO_pure (by simp +decide only [go_sem]) (by conv => lhs; simp +decide only [go_sem, h0, h3, h4]) ?_
      refine wpO_index (i := i) (j := .i64) (by simp +decide only [go_sem]) rfl (hv.keep hk) u22 s3 u3 rfl (by simp +decide only [go_sem]) (by simp +decide only [go_sem]) (by omega) ?_
      intro id off hld
      have hel : (ints L)[i]'(by omega) = .int .i64 L[i] := by simp [ints]
      rw [hel] at hld
      refine wpO_pure (by simp +decide only [go_sem]) (ev_load (by simp +decide only [go_sem]) hld) ?_
      have hr := hL L[i] (List.getElem_mem hz)
      have b1 := leb_len10 hr.1 hr.2
      have b3 := encI_len (l := L.take i) (fun n hn => hL n (List.mem_of_mem_take hn))
      rw [List.length_take] at b3
      refine wpO_call (by simp +decide only [go_sem]) (by conv => lhs; simp +decide only [go_sem]) n93 (refInt (Nat.le_refl _) hr.1 hr.2) ?_
      intro w1 ⟨h3', nx3⟩ ⟨k1, k2, k3⟩
      dsimp only at k1 k2 k3
      obtain ⟨a1, a2, a3⟩ := k2.sl.first (by decide)
      have b2 := leb_len10 (n := L.length) (by omega) (by omega)
      refine wpO_append (lo := nx) (by simp +decide only [go_sem]) rfl rfl rfl rfl u30 u30 rfl s5 z5 b5 (by simp +decide only [go_sem]) (by simp +decide only [go_sem]) (ho.keep (fun i h1 h2 => k3 i h2) k1) (by omega) (by simp) a1 a3 ?_ ?_
      · intro _; exact okA_of (bys_ok _) (by decide) (by simp only [bys_len, List.length_append, Nat.div_one, Nat.zero_add]; omega)
      intro w' h4' nx4 m1 m2 m3
      rw [bys_app] at m2
      refine wpO_pure (by simp +decide only [go_sem]) (by conv => lhs; simp +decide only [go_sem]) ?_
      rw [wpO_nil]
      refine wp_region ?_
      iterate 3 refine wpO_pure (by simp +decide only [go_sem]) (by conv => lhs; simp +decide only [go_sem, h4]) ?_
      rw [wpO_nil]
      refine ⟨i + 1, by omega, by omega, by simp +decide only [go_sem, h0], ?_, w', by simp +decide only [go_sem], by show nx ≤ nx4; omega, ?_, (hk.trans (k3.mono hnx)).trans m3⟩
      · simp +decide only [go_sem]
        rw [wi64 (by omega) (by omega)]; rfl
      · rw [List.take_succ_eq_append_getElem hz, List.flatMap_append, ← List.append_assoc]
        simpa using m2
    · rw [show decide ((i : Int) < (L.length : Int)) = false from by simp; omega]
      refine wp_exit ?_
      refine wp_seq (wp_region ?_)
      iterate 2 refine wpO_pure (by simp +decide only [go_sem]) (by conv => lhs; simp +decide only [go_sem, h3]) ?_
      rw [wpO_nil]
      have e : i = L.length := by omega
      subst e
      rw [List.take_length] at ho
      exact wp_ret rfl ⟨.inr rfl, [w], res_one (by simp +decide only [go_sem]) ho.notBot, hnx, ho.low hlo, hk⟩
  · exact ⟨Nat.zero_le _, by simp +decide only [go_sem], by simp +decide only [go_sem]; rfl, v0, by simp +decide only [go_sem], by show nx ≤ nx'; omega, by simpa using g2, g3⟩
set_option maxHeartbeats 1000000 in
theorem refStrings {h : Heap} {nx lo : Nat} (hlo : lo ≤ nx) {v : AVal} {L : List (List Nat)} (hv : SlB 1 h nx v (strs L)) (hs : szS L ≤ 30000000000) : AC EX 35 [v] ⟨h, nx⟩ (fun v d' => nx ≤ d'.nx ∧ Own 1 d'.h lo d'.nx v (bys (encS L)) ∧ Keep nx h d'.h) := by
  have hlen : (strs L).length = L.length := by simp [strs]
  have hsl := hv.len
  have hLs := szS_len L
  rw [hlen] at hsl
  refine AC.of_wp' (size := 22) f35 rfl rfl ?_
  refine wp_seq (wp_region ?_)
  refine wpO_pure (by simp +decide only [go_sem]) (by conv => lhs; simp +decide only [go_sem]) ?_
  rw [wpO_nil]
  refine wp_seq (wp_region ?_)
  refine wpO_pure (by simp +decide only [go_sem]) (by conv => lhs; simp +decide only [go_sem]) ?_
  refine wpO_pure (by simp +decide only [go_sem]) (ev_len rfl rfl rfl u100 (v := v) (by simp +decide only [go_sem]) hsl) ?_
  refine wpO_call (by simp +decide only [go_sem]) (by conv => lhs; simp +decide only [go_sem]) n93 (refInt (Nat.le_refl _) (n := L.length) (by omega) (by omega)) ?_
  intro v0 ⟨h', nx'⟩ ⟨g1, g2, g3⟩
  dsimp only at g1 g2 g3
  refine wpO_pure (by simp +decide only [go_sem]) (by conv => lhs; simp +decide only [go_sem]) ?_
  rw [wpO_nil]
  refine wp_seq (wp_seq (wp_region ?_))
  refine wpO_pure (by simp +decide only [go_sem]) (by conv => lhs; simp +decide only [go_sem]) ?_
  rw [wpO_nil]
  refine wp_block (wp_while (α := Nat) (fun i => L.length - i) (fun i t d => i ≤ L.length ∧ getT t 0 = v ∧ getT t 4 = .int .i64 (i : Int) ∧ ∃ w, getT t 3 = w ∧ nx ≤ d.nx ∧ Own 1 d.h nx d.nx w (bys (leb (zz L.length) ++ (L.take i).flatMap fun n => (leb (zz (n.length : Nat)) ++ n))) ∧ Keep nx h d.h) ?_ (a := 0) ?_)
  · intro i t d ⟨hi, h0, h4, w, h3, hnx, ho, hk⟩
    obtain ⟨h2, nx2⟩ := d
    dsimp only at hnx ho hk
    refine wp_seq (wp_seq (wp_region ?_))
    iterate 2 refine wpO_pure (by simp +decide only [go_sem]) (by conv => lhs; simp +decide only [go_sem, h0, h4]) ?_
    refine wpO_pure (by simp +decide only [go_sem]) (ev_len rfl rfl rfl u100 (v := v) (by simp +decide only [go_sem]) hsl) ?_
    refine wpO_pure (by simp +decide only [go_sem]) (by conv => lhs; simp +decide only [go_sem]) ?_
    rw [wpO_nil]
    refine wp_cond (by simp +decide only [go_sem]; rfl) ?_
    by_cases hz : i < L.length
    · rw [show decide ((i : Int) < (L.length : Int)) = true from by simp; omega]
      refine wp_skip (wp_seq (wp_block (wp_region ?_)))
      iterate 3 refine wpO_pure (by simp +decide only [go_sem]) (by conv => lhs; simp +decide only [go_sem, h0, h3, h4]) ?_
      refine wpO_index (i := i) (j := .i64) (by simp +decide only [go_sem]) rfl (hv.keep hk) u100 s9 u9 rfl (by simp +decide only [go_sem]) (by simp +decide only [go_sem]) (by omega) ?_
      intro id off hld
      have hel : (strs L)[i]'(by omega) = .str L[i] := by simp [strs]
      rw [hel] at hld
      refine wpO_pure (by simp +decide only [go_sem]) (ev_load (by simp +decide only [go_sem]) hld) ?_
      have hr := szS_at hz
      have b1 := leb_len10 (n := L[i].length) (by omega) (by omega)
      have b3 := encS_len (L.take i) (by have := szS_take L i; omega)
      have b4 := szS_take L i
      refine wpO_call (by simp +decide only [go_sem]) (by conv => lhs; simp +decide only [go_sem]) n94 (refBytes (Nat.le_refl _) (by omega)) ?_
      intro w1 ⟨h3', nx3⟩ ⟨k1, k2, k3⟩
      dsimp only at k1 k2 k3
      obtain ⟨a1, a2, a3⟩ := k2.sl.first (by decide)
      have b2 := leb_len10 (n := L.length) (by omega) (by omega)
      refine wpO_append (lo := nx) (by simp +decide only [go_sem]) rfl rfl rfl rfl u30 u30 rfl s5 z5 b5 (by simp +decide only [go_sem]) (by simp +decide only [go_sem]) (ho.keep (fun i h1 h2 => k3 i h2) k1) (by omega) (by simp) a1 a3 ?_ ?_
      · intro _; exact okA_of (bys_ok _) (by decide) (by simp only [bys_len, List.length_append, Nat.div_one, Nat.zero_add] at b3 ⊢; omega)
      intro w' h4' nx4 m1 m2 m3
      rw [bys_app] at m2
      refine wpO_pure (by simp +decide only [go_sem]) (by conv => lhs; simp +decide only [go_sem]) ?_
      rw [wpO_nil]
      refine wp_region ?_
      iterate 3 refine wpO_pure (by simp +decide only [go_sem]) (by conv => lhs; simp +decide only [go_sem, h4]) ?_
      rw [wpO_nil]
      refine ⟨i + 1, by omega, by omega, by simp +decide only [go_sem, h0], ?_, w', by simp +decide only [go_sem], by show nx ≤ nx4; omega, ?_, (hk.trans (k3.mono hnx)).trans m3⟩
      · simp +decide only [go_sem]
        rw [wi64 (by omega) (by omega)]; rfl
      · rw [List.take_succ_eq_append_getElem hz, List.flatMap_append, ← List.append_assoc]
        simpa using m2
    · rw [show decide ((i : Int) < (L.length : Int)) = false from by simp; omega]
      refine wp_exit ?_
      refine wp_seq (wp_region ?_)
      iterate 2 refine wpO_pure (by simp +decide only [go_sem]) (by conv => lhs; simp +decide only [go_sem, h3]) ?_
      rw [wpO_nil]
      have e : i = L.length := by omega
      subst e
      rw [List.take_length] at ho
      exact wp_ret rfl ⟨.inr rfl, [w], res_one (by simp +decide only [go_sem]) ho.notBot, hnx, ho.low hlo, hk⟩
  · exact ⟨Nat.zero_le _, by simp +decide only [go_sem], by simp +decide only [go_sem]; rfl, v0, by simp +decide only [go_sem], by show nx ≤ nx'; omega, by simpa using g2, g3⟩
end Go.Ev
end
section
open Go Go.Proofs Go.RowKit
set_option linter.unusedVariables false
set_option linter.unusedSimpArgs false
set_option maxRecDepth 100000
namespace Go.Ev
/-- What the reading of a number comes to. -/
inductive GI where
  | ok (z used : Nat)
  | enc
  | trunc
/-- Reading a number: k bytes have been read, z is what they say. -/
def gi : Nat → Nat → List Nat → GI
  | _, _, [] => .trunc
  | k, z, c :: r => if k = 9 ∧ 1 < c ∨ 0 < k ∧ c = 0 then .enc else if c < 128 then .ok (z + c * 128 ^ k) (k + 1) else gi (k + 1) (z + c % 128 * 128 ^ k) r
def unzz (z : Nat) : Int := if z % 2 = 0 then ((z / 2 : Nat) : Int) else -1 - ((z / 2 : Nat) : Int)
theorem unzz_zz (n : Int) : unzz (zz n) = n := by unfold unzz zz; split <;> split <;> omega
theorem zz_unzz (z : Nat) : zz (unzz z) = z := by unfold unzz zz; split <;> split <;> omega
theorem or_add {k z c : Nat} (hk : 7 * k < 64) (hz : z < 2 ^ (7 * k)) (hc : c * 2 ^ (7 * k) < 18446744073709551616) : IntKind.u64.wrap (BitVec.ofInt 64 (z : Int) ||| BitVec.ofInt 64 ((c * 2 ^ (7 * k) : Nat) : Int)).toNat = ((z + c * 2 ^ (7 * k) : Nat) : Int) := by
  have hz2 : z < 18446744073709551616 := Nat.lt_of_lt_of_le hz (by
    calc 2 ^ (7 * k) ≤ 2 ^ 64 := Nat.pow_le_pow_right (by decide) (by omega)
      _ = 18446744073709551616 := by decide)
  rw [BitVec.toNat_or, BitVec.toNat_ofInt, BitVec.toNat_ofInt]
  rw [show (((z : Int) % ((2 ^ 64 : Nat) : Int)).toNat) = z from by
    rw [show ((2 ^ 64 : Nat) : Int) = 18446744073709551616 from by decide]; omega]
  rw [show ((((c * 2 ^ (7 * k) : Nat) : Int) % ((2 ^ 64 : Nat) : Int)).toNat) = c * 2 ^ (7 * k) from by
    rw [show ((2 ^ 64 : Nat) : Int) = 18446744073709551616 from by decide]; omega]
  have e : z ||| c * 2 ^ (7 * k) = z + c * 2 ^ (7 * k) := by
    rw [Nat.or_comm, Nat.mul_comm, ← Nat.two_pow_add_eq_or_of_lt hz, Nat.add_comm]
  rw [e, w64]
  have : z + c * 2 ^ (7 * k) < 18446744073709551616 := by
    have h1 : z ||| c * 2 ^ (7 * k) < 2 ^ 64 := Nat.or_lt_two_pow (by simpa using hz2) (by simpa using hc)
    rw [e] at h1
    simpa using h1
  omega
/-- What the reading of a written number comes to. -/
theorem gi_leb : ∀ (m z k y : Nat) (r : List Nat), z < 128 ^ (m + 1) → k + m ≤ 9 → (k + m = 9 → z < 2 * 128 ^ m) → (0 < k → 0 < z) → gi k y (leb z ++ r) = .ok (y + z * 128 ^ k) (k + (leb z).length)
  | 0, z, k, y, r, hz, hk, h9, h0 => by
    have hz' : z < 128 := by simpa using hz
    rw [leb_lt hz']
    show gi k y (z :: r) = _
    unfold gi
    rw [if_neg (by
      rintro (⟨h1, h2⟩ | ⟨h1, h2⟩)
      · have := h9 (by omega); simp at this; omega
      · have := h0 h1; omega), if_pos hz']
    rfl
  | m + 1, z, k, y, r, hz, hk, h9, h0 => by
    by_cases hz' : z < 128
    · rw [leb_lt hz']
      show gi k y (z :: r) = _
      unfold gi
      rw [if_neg (by
        rintro (⟨h1, h2⟩ | ⟨h1, h2⟩)
        · omega
        · have := h0 h1; omega), if_pos hz']
      rfl
    · rw [leb_ge hz']
      show gi k y ((z % 128 + 128) :: (leb (z / 128) ++ r)) = _
      unfold gi
      rw [if_neg (by rintro (⟨h1, h2⟩ | ⟨h1, h2⟩) <;> omega), if_neg (by omega)]
      rw [gi_leb m (z / 128) (k + 1) _ r (by rw [Nat.pow_succ] at hz; exact Nat.div_lt_of_lt_mul (by rw [Nat.mul_comm]; exact hz)) (by omega) (fun h => by
        have := h9 (by omega)
        rw [Nat.pow_succ] at this
        exact Nat.div_lt_of_lt_mul (by rw [Nat.mul_comm]; omega)) (fun _ => by omega)]
      congr 1
      · rw [show (z % 128 + 128) % 128 = z % 128 by omega, Nat.pow_succ]
        have : z = z % 128 + 128 * (z / 128) := by omega
        calc y + z % 128 * 128 ^ k + z / 128 * (128 ^ k * 128) = y + (z % 128 + 128 * (z / 128)) * 128 ^ k := by rw [Nat.add_mul, Nat.add_assoc]; congr 2; rw [Nat.mul_comm (128 ^ k), ← Nat.mul_assoc, Nat.mul_comm (z / 128)]
          _ = y + z * 128 ^ k := by rw [← this]
      · simp only [List.length_cons]; omega
end Go.Ev
end
section
open Go Go.Proofs Go.RowKit
set_option linter.unusedVariables false
set_option linter.unusedSimpArgs false
set_option maxRecDepth 100000
namespace Go.Ev
def giV : GI → AVal
  | .ok z u => .tup [.int .i64 (unzz z), .int .i64 (u : Int), .int .i64 0]
  | .enc => .tup [.int .i64 0, .int .i64 0, .int .i64 11]
  | .trunc => .tup [.int .i64 0, .int .i64 0, .int .i64 10]
theorem get_of {t : BT AVal} {i : Nat} {v : AVal} (hg : getT t i = v) (hv : isBot v = false) : t.get i = some v := by
  rw [getT_eq] at hg
  cases hx : t.get i with
  | none => rw [hx] at hg; subst hg; cases hv
  | some w => rw [hx] at hg; rw [show w = v from hg]
theorem res_three {E : Env} {h : Heap} {t : BT AVal} {i j k : Nat} {u v w : AVal} (h1 : getT t i = u) (h2 : getT t j = v) (h3 : getT t k = w) (b1 : isBot u = false) (b2 : isBot v = false) (b3 : isBot w = false) : resultsV E h t [.tmp i, .tmp j, .tmp k] = some [u, v, w] := by
  simp only [resultsV, get_of h1 b1, get_of h2 b2, get_of h3 b3]
theorem zag {z : Nat} (hz : z < 18446744073709551616) : IntKind.i64.wrap (BitVec.ofInt 64 (IntKind.i64.wrap ((z : Int).fdiv (2 ^ min (Int.toNat 1) 64))) ^^^ BitVec.ofInt 64 (IntKind.i64.wrap (0 - IntKind.i64.wrap (IntKind.u64.wrap (BitVec.ofInt 64 (z : Int) &&& BitVec.ofInt 64 1).toNat)))).toNat = unzz z := by
  have e1 : (z : Int).fdiv (2 ^ min (Int.toNat 1) 64) = ((z / 2 : Nat) : Int) := by
    rw [show (2 : Int) ^ min (Int.toNat 1) 64 = 2 from by decide, Int.fdiv_eq_ediv_of_nonneg _ (by decide)]; omega
  have e2 : (BitVec.ofInt 64 (z : Int) &&& BitVec.ofInt 64 1).toNat = z % 2 := by
    rw [BitVec.toNat_and, BitVec.toNat_ofInt, show (((z : Int) % ((2 ^ 64 : Nat) : Int)).toNat) = z from by
      rw [show ((2 ^ 64 : Nat) : Int) = 18446744073709551616 from by decide]; omega]
    rw [show (BitVec.ofInt 64 1).toNat = 1 from by decide, Nat.and_one_is_mod]
  rw [e1, e2, wi64 (m := ((z / 2 : Nat) : Int)) (by omega) (by omega), w64, wi64 (m := ((z % 2 : Nat) : Int) % 18446744073709551616) (by omega) (by omega)]
  have e3 : ((z % 2 : Nat) : Int) % 18446744073709551616 = ((z % 2 : Nat) : Int) := by omega
  rw [e3]
  unfold unzz
  by_cases h : z % 2 = 0
  · rw [if_pos h, h, show BitVec.ofInt 64 (IntKind.i64.wrap (0 - ((0 : Nat) : Int))) = 0#64 from by decide, BitVec.xor_zero, BitVec.toNat_ofInt, show ((2 ^ 64 : Nat) : Int) = 18446744073709551616 from by decide, wi64 (by omega) (by omega)]
    omega
  · rw [if_neg h, show z % 2 = 1 by omega, show BitVec.ofInt 64 (IntKind.i64.wrap (0 - ((1 : Nat) : Int))) = BitVec.allOnes 64 from by decide, BitVec.xor_allOnes, BitVec.toNat_not, BitVec.toNat_ofInt]
    rw [show ((2 ^ 64 : Nat) : Int) = 18446744073709551616 from by decide, show (2 ^ 64 : Nat) = 18446744073709551616 from by decide]
    simp only [IntKind.wrap, IntKind.bits, IntKind.signed]
    simp
    split <;> omega
/-- What is true of the slots behind wire.GetInt's loop. -/
def GIend (b : List Nat) (h : Heap) (nx : Nat) (t : BT AVal) (d : D) : Prop :=
  d = ⟨h, nx⟩ ∧ ((gi 0 0 b = .trunc ∧ getT t 6 = .int .i64 0) ∨ ∃ z u : Nat, gi 0 0 b = .ok z u ∧ z < 18446744073709551616 ∧ 0 < u ∧ u ≤ 10 ∧ getT t 5 = .int .u64 (z : Int) ∧ getT t 6 = .int .i64 (u : Int))
theorem and127 {c : Nat} (h : c < 256) : IntKind.u8.wrap (BitVec.ofInt 8 (c : Int) &&& BitVec.ofInt 8 127).toNat = ((c % 128 : Nat) : Int) := by
  have h2 : ∀ m : Fin 256, IntKind.u8.wrap (BitVec.ofInt 8 ((m.val : Nat) : Int) &&& BitVec.ofInt 8 127).toNat = ((m.val % 128 : Nat) : Int) := by decide +kernel
  exact h2 ⟨c, h⟩
theorem p128 (k : Nat) : 128 ^ k = 2 ^ (7 * k) := by rw [show (128 : Nat) = 2 ^ 7 from rfl, ← Nat.pow_mul]
theorem room {k c : Nat} (hk : k ≤ 9) (hA : ¬ (k = 9 ∧ 1 < c ∨ 0 < k ∧ c = 0)) : c % 128 * 2 ^ (7 * k) < 18446744073709551616 := by
  by_cases h : k = 9
  · subst h
    have : c % 128 ≤ 1 := by omega
    calc c % 128 * 2 ^ (7 * 9) ≤ 1 * 2 ^ (7 * 9) := Nat.mul_le_mul_right _ this
      _ < 18446744073709551616 := by decide
  · calc c % 128 * 2 ^ (7 * k) ≤ 127 * 2 ^ (7 * k) := Nat.mul_le_mul_right _ (by omega)
      _ ≤ 127 * 2 ^ 56 := Nat.mul_le_mul_left _ (Nat.pow_le_pow_right (by decide) (by omega))
      _ < 18446744073709551616 := by decide
theorem step_or {k z c : Nat} (hc : c < 256) (hk : k ≤ 9) (hz : z < 2 ^ (7 * k)) (hA : ¬ (k = 9 ∧ 1 < c ∨ 0 < k ∧ c = 0)) :
    IntKind.u64.wrap (BitVec.ofInt 64 (z : Int) ||| BitVec.ofInt 64 (IntKind.u64.wrap (IntKind.u64.wrap (IntKind.u8.wrap (BitVec.ofInt 8 (c : Int) &&& BitVec.ofInt 8 127).toNat) * 2 ^ min (((7 * k : Nat) : Int).toNat) 64))).toNat = ((z + c % 128 * 2 ^ (7 * k) : Nat) : Int) := by
  have hr := room hk hA
  rw [and127 hc, w64 ((c % 128 : Nat) : Int), show (((c % 128 : Nat) : Int) % 18446744073709551616) = ((c % 128 : Nat) : Int) by omega, Int.toNat_natCast, Nat.min_eq_left (by omega)]
  rw [show (((c % 128 : Nat) : Int) * 2 ^ (7 * k)) = ((c % 128 * 2 ^ (7 * k) : Nat) : Int) by rw [Int.natCast_mul, Int.natCast_pow]; rfl]
  rw [w64 ((c % 128 * 2 ^ (7 * k) : Nat) : Int), show (((c % 128 * 2 ^ (7 * k) : Nat) : Int) % 18446744073709551616) = ((c % 128 * 2 ^ (7 * k) : Nat) : Int) by omega]
  exact or_add (by omega) hz hr
/-- What a round of wire.GetInt knows. -/
def GS (v : AVal) (n k c z : Nat) (t : BT AVal) : Prop := getT t 9 = v ∧ getT t 10 = .int .i64 (n : Int) ∧ getT t 11 = .int .i64 (k : Int) ∧ getT t 7 = .int .i64 (k : Int) ∧ getT t 8 = .int .u8 (c : Int) ∧ getT t 5 = .int .u64 (z : Int) ∧ getT t 6 = .int .i64 0
theorem GS.put {v : AVal} {n k c z : Nat} {t : BT AVal} (s : GS v n k c z t) {size d : Nat} {x : AVal} (hd : 12 ≤ d) : GS v n k c z (putT size t (some d) x) := by
  obtain ⟨a, b, c, d, e, f, g⟩ := s
  refine ⟨?_, ?_, ?_, ?_, ?_, ?_, ?_⟩ <;> (rw [getT_put_ne (by omega)]; assumption)
set_option maxHeartbeats 1000000 in
theorem wireGetInt {h : Heap} {nx lo : Nat} {v : AVal} {b : List Nat} (hv : SlB 1 h lo v (bys b)) (hb : ∀ x ∈ b, x < 256) : AC EX 80 [v] ⟨h, nx⟩ (fun w d' => d' = ⟨h, nx⟩ ∧ w = giV (gi 0 0 b)) := by
  have hsl := hv.len
  rw [bys_len] at hsl
  refine AC.of_wp' (size := 53) f80 rfl rfl ?_
  refine wp_seq (wp_region ?_)
  iterate 3 refine wpO_pure (by simp +decide only [go_sem]) (by conv => lhs; simp +decide only [go_sem]) ?_
  rw [wpO_nil]
  refine wp_scope (wp_seq (wp_region ?_))
  refine wpO_pure (by simp +decide only [go_sem]) (by conv => lhs; simp +decide only [go_sem]) ?_
  rw [wpO_nil]
  refine wp_seq (wp_region ?_)
  refine wpO_pure (by simp +decide only [go_sem]) (by conv => lhs; simp +decide only [go_sem]) ?_
  rw [wpO_nil]
  refine wp_seq (wp_label ?_)
  refine wp_seqR (GIend b h nx) (wp_seq (wp_region ?_)) ?_
  · refine wpO_pure (by simp +decide only [go_sem]) (by conv => lhs; simp +decide only [go_sem]) ?_
    refine wpO_pure (by simp +decide only [go_sem]) (ev_len rfl rfl rfl u30 (v := v) (by simp +decide only [go_sem]) hsl) ?_
    refine wpO_pure (by simp +decide only [go_sem]) (by conv => lhs; simp +decide only [go_sem]) ?_
    rw [wpO_nil]
    refine wp_block (wp_while (α := Nat × Nat) (fun a => b.length - a.1) (fun a t d => d = ⟨h, nx⟩ ∧ a.1 ≤ 9 ∧ a.1 ≤ b.length ∧ a.2 < 2 ^ (7 * a.1) ∧ gi 0 0 b = gi a.1 a.2 (b.drop a.1) ∧ getT t 9 = v ∧ getT t 10 = .int .i64 (b.length : Int) ∧ getT t 11 = .int .i64 (a.1 : Int) ∧ getT t 5 = .int .u64 (a.2 : Int) ∧ getT t 6 = .int .i64 0) ?_ (a := (0, 0)) ?_)
    · intro a t d ⟨hd, hk9, hkb, hz, hg, h9, h10, h11, h5, h6⟩
      obtain ⟨k, z⟩ := a
      subst hd
      dsimp only at hk9 hkb hz hg h11 h5
      refine wp_seq (wp_region ?_)
      refine wpO_pure (by simp +decide only [go_sem]) (by conv => lhs; simp +decide only [go_sem, h10, h11]) ?_
      rw [wpO_nil]
      refine wp_seq (wp_cond (by simp +decide only [go_sem]; rfl) ?_)
      by_cases hlt : k < b.length
      · rw [show decide ((k : Int) < (b.length : Int)) = true from by simp; omega]
        refine wp_skip (wp_seq (wp_block (wp_seqR (fun t' d' => d' = ⟨h, nx⟩ ∧ GS v b.length k b[k] z t') (wp_region ?_) ?_)))
        · refine wpO_pure (by simp +decide only [go_sem]) (by conv => lhs; simp +decide only [go_sem, h11]) ?_
          refine wpO_index (i := k) (j := .i64) (by simp +decide only [go_sem]) rfl hv u30 s5 u5 rfl (by simp +decide only [go_sem, h9]) (by simp +decide only [go_sem, h11]) (by rw [bys_len]; exact hlt) ?_
          intro id off hld
          have hel : (bys b)[k]'(by rw [bys_len]; exact hlt) = .int .u8 ((b[k] : Nat) : Int) := by simp [bys]
          rw [hel] at hld
          refine wpO_pure (by simp +decide only [go_sem]) (ev_load (by simp +decide only [go_sem]) hld) ?_
          iterate 2 refine wpO_pure (by simp +decide only [go_sem]) (by conv => lhs; simp +decide only [go_sem]) ?_
          rw [wpO_nil]
          exact ⟨rfl, by simp +decide only [go_sem, h9], by simp +decide only [go_sem, h10], by simp +decide only [go_sem, h11], by simp +decide only [go_sem], by simp +decide only [go_sem], by simp +decide only [go_sem, h5], by simp +decide only [go_sem, h6]⟩
        intro t d ⟨hd, hs⟩
        subst hd
        have hc := hb b[k] (List.getElem_mem hlt)
        have hgk : gi 0 0 b = gi k z (b[k] :: b.drop (k + 1)) := by rw [hg, List.drop_eq_getElem_cons hlt]
        generalize b[k] = c at hc hgk hs
        -- the two conditions
        refine wp_seqR (fun t' d' => d' = ⟨h, nx⟩ ∧ ¬ (k = 9 ∧ 1 < c ∨ 0 < k ∧ c = 0) ∧ GS v b.length k c (z + c % 128 * 2 ^ (7 * k)) t') (wp_block (wp_seqR (fun t' d' => d' = ⟨h, nx⟩ ∧ GS v b.length k c z t' ∧ getT t' 24 = .bool (decide (k = 9 ∧ 1 < c ∨ 0 < k ∧ c = 0))) (wp_seqR (fun t' d' => d' = ⟨h, nx⟩ ∧ GS v b.length k c z t' ∧ getT t' 24 = .bool (decide (k = 9 ∧ 1 < c))) (wp_region ?_) ?_) ?_)) ?_
        · obtain ⟨_, _, _, s7, s8, _, _⟩ := id hs
          by_cases hk : k = 9
          · have e1 : decide ((k : Int) = 9) = true := by simp; omega
            iterate 3 refine wpO_pure (by simp +decide only [go_sem]) (by conv => lhs; simp +decide only [go_sem, s7, e1]) ?_
            iterate 2 refine wpO_pure (wanted_yes rfl rfl (by simp +decide only [go_sem])) (by conv => lhs; simp +decide only [go_sem, s8]) ?_
            iterate 2 refine wpO_pure (by simp +decide only [go_sem]) (by conv => lhs; simp +decide only [go_sem]) ?_
            rw [wpO_nil]
            refine ⟨rfl, ?_, ?_⟩
            · iterate 7 refine GS.put ?_ (by decide)
              exact hs
            · simp +decide only [go_sem]
              congr 1
              simp [hk]; omega
          · have e1 : decide ((k : Int) = 9) = false := by simp; omega
            iterate 3 refine wpO_pure (by simp +decide only [go_sem]) (by conv => lhs; simp +decide only [go_sem, s7, e1]) ?_
            iterate 2 refine wpO_no (wanted_not rfl rfl (by simp +decide only [go_sem]; rfl)) ?_
            iterate 2 refine wpO_pure (by simp +decide only [go_sem]) (by conv => lhs; simp +decide only [go_sem]) ?_
            rw [wpO_nil]
            refine ⟨rfl, ?_, ?_⟩
            · iterate 7 refine GS.put ?_ (by decide)
              exact hs
            · simp +decide only [go_sem]
              simp [hk]
        · intro t d ⟨hd, hs, h24⟩
          subst hd
          refine wp_cond (by simp +decide only [go_sem, h24]; rfl) ?_
          by_cases hA : k = 9 ∧ 1 < c
          · rw [show decide (k = 9 ∧ 1 < c) = true from by simpa using hA]
            refine wp_skip ⟨rfl, hs, ?_⟩
            rw [h24]; congr 1 <;> simp [hA]
          · rw [show decide (k = 9 ∧ 1 < c) = false from by simpa using hA]
            obtain ⟨_, _, _, s7, s8, _, _⟩ := id hs
            refine wp_region ?_
            by_cases hk : 0 < k
            · have e1 : decide ((0 : Int) < (k : Int)) = true := by simp; omega
              iterate 3 refine wpO_pure (by simp +decide only [go_sem]) (by conv => lhs; simp +decide only [go_sem, s7, e1]) ?_
              iterate 2 refine wpO_pure (wanted_yes rfl rfl (by simp +decide only [go_sem])) (by conv => lhs; simp +decide only [go_sem, s8]) ?_
              iterate 2 refine wpO_pure (by simp +decide only [go_sem]) (by conv => lhs; simp +decide only [go_sem]) ?_
              rw [wpO_nil]
              refine ⟨rfl, ?_, ?_⟩
              · iterate 7 refine GS.put ?_ (by decide)
                exact hs
              · simp +decide only [go_sem]
                congr 1
                simp [hk, hA]
            · have e1 : decide ((0 : Int) < (k : Int)) = false := by simp; omega
              iterate 3 refine wpO_pure (by simp +decide only [go_sem]) (by conv => lhs; simp +decide only [go_sem, s7, e1]) ?_
              iterate 2 refine wpO_no (wanted_not rfl rfl (by simp +decide only [go_sem]; rfl)) ?_
              iterate 2 refine wpO_pure (by simp +decide only [go_sem]) (by conv => lhs; simp +decide only [go_sem]) ?_
              rw [wpO_nil]
              refine ⟨rfl, ?_, ?_⟩
              · iterate 7 refine GS.put ?_ (by decide)
                exact hs
              · simp +decide only [go_sem]
                simp [hk, hA]
        · intro t d ⟨hd, hs, h24⟩
          subst hd
          refine wp_cond (by simp +decide only [go_sem, h24]; rfl) ?_
          by_cases hA : k = 9 ∧ 1 < c ∨ 0 < k ∧ c = 0
          · rw [show decide (k = 9 ∧ 1 < c ∨ 0 < k ∧ c = 0) = true from by simpa using hA]
            refine wp_seq (wp_region ?_)
            iterate 3 refine wpO_pure (by simp +decide only [go_sem]) (by conv => lhs; simp +decide only [go_sem]) ?_
            rw [wpO_nil]
            refine wp_ret rfl ⟨.inr rfl, _, res_three (u := .int .i64 0) (v := .int .i64 0) (w := .int .i64 11) (by simp +decide only [go_sem]) (by simp +decide only [go_sem]) (by simp +decide only [go_sem]) rfl rfl rfl, rfl, ?_⟩
            rw [hgk]; unfold gi; rw [if_pos hA]; rfl
          · rw [show decide (k = 9 ∧ 1 < c ∨ 0 < k ∧ c = 0) = false from by simpa using hA]
            obtain ⟨s9, s10, s11, s7, s8, s5, s6⟩ := id hs
            refine wp_region ?_
            have hkk : (IntKind.i64.wrap (7 * (k : Int))) = ((7 * k : Nat) : Int) := by rw [wi64 (by omega) (by omega)]; omega
            have e0 : (0 : Int) ≤ ((7 * k : Nat) : Int) := by omega
            iterate 9 refine wpO_pure (by simp +decide only [go_sem]) (by conv => lhs; simp +decide only [go_sem, s5, s7, s8, hkk, e0]) ?_
            rw [wpO_nil]
            refine ⟨rfl, hA, by simp +decide only [go_sem, s9], by simp +decide only [go_sem, s10], by simp +decide only [go_sem, s11], by simp +decide only [go_sem, s7], by simp +decide only [go_sem, s8], ?_, by simp +decide only [go_sem, s6]⟩
            simp +decide only [go_sem]
            exact congrArg (AVal.int IntKind.u64) (step_or hc hk9 hz hA)
        · intro t d ⟨hd, hAB, hs⟩
          subst hd
          obtain ⟨s9, s10, s11, s7, s8, s5, s6⟩ := id hs
          refine wp_seq (wp_region ?_)
          iterate 2 refine wpO_pure (by simp +decide only [go_sem]) (by conv => lhs; simp +decide only [go_sem, s8]) ?_
          rw [wpO_nil]
          refine wp_cond (by simp +decide only [go_sem]; rfl) ?_
          by_cases hc128 : c < 128
          · rw [show decide ((c : Int) < 128) = true from by simp; omega]
            refine wp_seq (wp_region ?_)
            iterate 3 refine wpO_pure (by simp +decide only [go_sem]) (by conv => lhs; simp +decide only [go_sem, s7]) ?_
            rw [wpO_nil]
            refine wp_exit ⟨rfl, .inr ⟨z + c % 128 * 2 ^ (7 * k), k + 1, ?_, ?_, by omega, by omega, by simp +decide only [go_sem, s5], ?_⟩⟩
            · rw [hgk]; unfold gi; rw [if_neg hAB, if_pos hc128, p128, Nat.mod_eq_of_lt hc128]
            · have := or_add (k := k) (z := z) (c := c % 128) (by omega) hz (room hk9 hAB)
              rw [w64] at this
              omega
            · simp +decide only [go_sem]
              congr 1
              rw [wi64 (by omega) (by omega)]; rfl
          · rw [show decide ((c : Int) < 128) = false from by simp; omega]
            refine wp_skip (wp_region ?_)
            iterate 2 refine wpO_pure (by simp +decide only [go_sem]) (by conv => lhs; simp +decide only [go_sem, s11]) ?_
            rw [wpO_nil]
            refine ⟨(k + 1, z + c % 128 * 2 ^ (7 * k)), by show b.length - (k + 1) < b.length - k; omega, rfl, by show k + 1 ≤ 9; omega, hlt, ?_, ?_, by simp +decide only [go_sem, s9], by simp +decide only [go_sem, s10], ?_, by simp +decide only [go_sem, s5], by simp +decide only [go_sem, s6]⟩
            · show z + c % 128 * 2 ^ (7 * k) < 2 ^ (7 * (k + 1))
              rw [show 7 * (k + 1) = 7 * k + 7 by omega, Nat.pow_add]
              have : c % 128 * 2 ^ (7 * k) ≤ 127 * 2 ^ (7 * k) := Nat.mul_le_mul_right _ (by omega)
              omega
            · rw [hgk]
              show gi k z (c :: b.drop (k + 1)) = gi (k + 1) _ _
              conv => lhs; unfold gi
              rw [if_neg hAB, if_neg hc128, p128]
            · simp +decide only [go_sem]
              congr 1
              rw [wi64 (by omega) (by omega)]; rfl
      · rw [show decide ((k : Int) < (b.length : Int)) = false from by simp; omega]
        refine wp_exit ?_
        refine ⟨rfl, .inl ⟨?_, by simp +decide only [go_sem, h6]⟩⟩
        rw [hg, List.drop_eq_nil_of_le (by omega)]; rfl
    · exact ⟨rfl, by decide, Nat.zero_le _, by decide, rfl, by simp +decide only [go_sem], by simp +decide only [go_sem], by simp +decide only [go_sem]; rfl, by simp +decide only [go_sem]; rfl, by simp +decide only [go_sem]⟩
  · intro t d ⟨hd, hcase⟩
    subst hd
    refine wp_seq (wp_seq (wp_region ?_))
    rcases hcase with ⟨hg, h6⟩ | ⟨z, u, hg, hz, hu0, hu, h5, h6⟩
    · iterate 2 refine wpO_pure (by simp +decide only [go_sem]) (by conv => lhs; simp +decide only [go_sem, h6]) ?_
      rw [wpO_nil]
      refine wp_cond (x := true) (by simp +decide only [go_sem]) ?_
      refine wp_seq (wp_region ?_)
      iterate 3 refine wpO_pure (by simp +decide only [go_sem]) (by conv => lhs; simp +decide only [go_sem]) ?_
      rw [wpO_nil]
      refine wp_ret rfl ⟨.inr rfl, _, res_three (u := .int .i64 0) (v := .int .i64 0) (w := .int .i64 10) (by simp +decide only [go_sem]) (by simp +decide only [go_sem]) (by simp +decide only [go_sem]) rfl rfl rfl, rfl, ?_⟩
      rw [hg]; rfl
    · have e1 : decide ((u : Int) = 0) = false := by simp; omega
      iterate 2 refine wpO_pure (by simp +decide only [go_sem]) (by conv => lhs; simp +decide only [go_sem, h6, e1]) ?_
      rw [wpO_nil]
      refine wp_cond (x := false) (by simp +decide only [go_sem]) (wp_skip ?_)
      refine wp_seq (wp_region ?_)
      iterate 12 refine wpO_pure (by simp +decide only [go_sem]) (by conv => lhs; simp +decide only [go_sem, h5, h6]) ?_
      rw [wpO_nil]
      refine wp_ret rfl ⟨.inr rfl, _, res_three (u := .int .i64 (unzz z)) (v := .int .i64 (u : Int)) (w := .int .i64 0) ?_ (by simp +decide only [go_sem]) (by simp +decide only [go_sem]) rfl rfl rfl, rfl, ?_⟩
      · simp +decide only [go_sem]
        exact congrArg (AVal.int IntKind.i64) (zag hz)
      · rw [hg]; rfl
end Go.Ev
end
section
open Go Go.Proofs Go.RowKit
set_option linter.unusedVariables false
set_option linter.unusedSimpArgs false
set_option maxRecDepth 100000
namespace Go.Ev
def tri (a b c : Int) : AVal := .tup [.int .i64 a, .int .i64 b, .int .i64 c]
/-- What the reading of a length comes to. -/
def gl (b : List Nat) (least : Nat) : GI := match gi 0 0 b with
  | .ok z u => if unzz z < 0 then .enc else if ((b.length - u) / least : Nat) < unzz z then .trunc else .ok z u
  | r => r
theorem giV_tri (r : GI) : ∃ a b c : Int, giV r = tri a b c := by
  cases r with
  | ok z u => exact ⟨_, _, _, rfl⟩
  | enc => exact ⟨_, _, _, rfl⟩
  | trunc => exact ⟨_, _, _, rfl⟩
theorem gi_used : ∀ (l : List Nat) (k z : Nat) {z' u : Nat}, k ≤ 9 → gi k z l = .ok z' u → k < u ∧ u ≤ k + l.length ∧ u ≤ 10
  | [], k, z, z', u, hk, h => by cases h
  | c :: r, k, z, z', u, hk, h => by
    unfold gi at h
    split at h
    · cases h
    · rename_i hA
      split at h
      · cases h; simp only [List.length_cons]; omega
      · have := gi_used r (k + 1) _ (by omega) h
        simp only [List.length_cons]; omega
set_option maxHeartbeats 1000000 in
theorem wireLength {h : Heap} {nx lo : Nat} {v : AVal} {b : List Nat} {least : Nat} (hv : SlB 1 h lo v (bys b)) (hb : ∀ x ∈ b, x < 256) (hl : 0 < least) (hl2 : least < 1000) (hlen : b.length < 68000000000) : AC EX 162 [v, .int .i64 (least : Int)] ⟨h, nx⟩ (fun w d' => d' = ⟨h, nx⟩ ∧ w = giV (gl b least)) := by
  have hsl := hv.len
  rw [bys_len] at hsl
  refine AC.of_wp' (size := 34) f162 rfl rfl ?_
  refine wp_seq (wp_region ?_)
  iterate 3 refine wpO_pure (by simp +decide only [go_sem]) (by conv => lhs; simp +decide only [go_sem]) ?_
  rw [wpO_nil]
  refine wp_seq (wp_region ?_)
  refine wpO_pure (by simp +decide only [go_sem]) (by conv => lhs; simp +decide only [go_sem]) ?_
  refine wpO_call (by simp +decide only [go_sem]) (by conv => lhs; simp +decide only [go_sem]) n80 (wireGetInt hv hb) ?_
  intro w d ⟨hd, hw⟩
  subst hd
  cases hgi : gi 0 0 b with
  | enc =>
    rw [hgi] at hw
    subst hw
    unfold giV
    iterate 7 refine wpO_pure (by simp +decide only [go_sem]) (by conv => lhs; simp +decide only [go_sem]) ?_
    rw [wpO_nil]
    refine wp_seq (wp_block (wp_seq (wp_region ?_)))
    iterate 3 refine wpO_pure (by simp +decide only [go_sem]) (by conv => lhs; simp +decide only [go_sem]) ?_
    rw [wpO_nil]
    refine wp_cond (x := true) (by simp +decide only [go_sem]; try rfl) ?_
    refine wp_seq (wp_region ?_)
    iterate 4 refine wpO_pure (by simp +decide only [go_sem]) (by conv => lhs; simp +decide only [go_sem]) ?_
    rw [wpO_nil]
    refine wp_ret rfl ⟨.inr rfl, _, res_three (u := .int .i64 0) (v := .int .i64 0) (w := .int .i64 11) (by simp +decide only [go_sem]) (by simp +decide only [go_sem]) (by simp +decide only [go_sem]) rfl rfl rfl, rfl, ?_⟩
    unfold gl; rw [hgi]; rfl
  | trunc =>
    rw [hgi] at hw
    subst hw
    unfold giV
    iterate 7 refine wpO_pure (by simp +decide only [go_sem]) (by conv => lhs; simp +decide only [go_sem]) ?_
    rw [wpO_nil]
    refine wp_seq (wp_block (wp_seq (wp_region ?_)))
    iterate 3 refine wpO_pure (by simp +decide only [go_sem]) (by conv => lhs; simp +decide only [go_sem]) ?_
    rw [wpO_nil]
    refine wp_cond (x := true) (by simp +decide only [go_sem]; try rfl) ?_
    refine wp_seq (wp_region ?_)
    iterate 4 refine wpO_pure (by simp +decide only [go_sem]) (by conv => lhs; simp +decide only [go_sem]) ?_
    rw [wpO_nil]
    refine wp_ret rfl ⟨.inr rfl, _, res_three (u := .int .i64 0) (v := .int .i64 0) (w := .int .i64 10) (by simp +decide only [go_sem]) (by simp +decide only [go_sem]) (by simp +decide only [go_sem]) rfl rfl rfl, rfl, ?_⟩
    unfold gl; rw [hgi]; rfl
  | ok z u =>
    rw [hgi] at hw
    subst hw
    unfold giV
    have hu : u ≤ 10 := (gi_used b 0 0 (by decide) hgi).2.2
    iterate 7 refine wpO_pure (by simp +decide only [go_sem]) (by conv => lhs; simp +decide only [go_sem]) ?_
    rw [wpO_nil]
    refine wp_seq (wp_block (wp_seq (wp_region ?_)))
    iterate 3 refine wpO_pure (by simp +decide only [go_sem]) (by conv => lhs; simp +decide only [go_sem]) ?_
    rw [wpO_nil]
    refine wp_cond (x := false) (by simp +decide only [go_sem]; try rfl) ?_
    refine wp_seq (wp_region ?_)
    iterate 3 refine wpO_pure (by simp +decide only [go_sem]) (by conv => lhs; simp +decide only [go_sem]) ?_
    rw [wpO_nil]
    refine wp_cond (x := decide (unzz z < 0)) (by simp +decide only [go_sem]) ?_
    by_cases hn : unzz z < 0
    · rw [show decide (unzz z < 0) = true from by simpa using hn]
      refine wp_seq (wp_region ?_)
      iterate 3 refine wpO_pure (by simp +decide only [go_sem]) (by conv => lhs; simp +decide only [go_sem]) ?_
      rw [wpO_nil]
      refine wp_ret rfl ⟨.inr rfl, _, res_three (u := .int .i64 0) (v := .int .i64 0) (w := .int .i64 11) (by simp +decide only [go_sem]) (by simp +decide only [go_sem]) (by simp +decide only [go_sem]) rfl rfl rfl, rfl, ?_⟩
      unfold gl; rw [hgi]; dsimp only; rw [if_pos hn]; rfl
    · rw [show decide (unzz z < 0) = false from by simpa using hn]
      have hq : IntKind.i64.wrap ((IntKind.i64.wrap ((b.length : Int) - (u : Int))).tdiv (least : Int)) = (((b.length - u) / least : Nat) : Int) := by
        have hub : u ≤ b.length := by have := (gi_used b 0 0 (by decide) hgi).2.1; omega
        rw [wi64 (m := (b.length : Int) - (u : Int)) (by omega) (by omega), show ((b.length : Int) - (u : Int)) = ((b.length - u : Nat) : Int) by omega, Int.tdiv_eq_ediv_of_nonneg (by omega), ← Int.natCast_ediv]
        have : (b.length - u) / least ≤ b.length - u := Nat.div_le_self _ _
        generalize (b.length - u) / least = q at this ⊢
        exact wi64 (by omega) (by omega)
      have hl0 : (least : Int) ≠ 0 := by omega
      refine wp_seq (wp_region ?_)
      iterate 2 refine wpO_pure (by simp +decide only [go_sem]) (by conv => lhs; simp +decide only [go_sem]) ?_
      refine wpO_pure (by simp +decide only [go_sem]) (ev_len rfl rfl rfl u30 (v := v) (by simp +decide only [go_sem]) hsl) ?_
      iterate 6 refine wpO_pure (by simp +decide only [go_sem]) (by conv => lhs; simp +decide only [go_sem, hl0, hq]) ?_
      rw [wpO_nil]
      refine wp_cond (x := decide ((((b.length - u) / least : Nat) : Int) < unzz z)) (by simp +decide only [go_sem]) ?_
      by_cases hb2 : (((b.length - u) / least : Nat) : Int) < unzz z
      · rw [show decide ((((b.length - u) / least : Nat) : Int) < unzz z) = true from by simpa using hb2]
        refine wp_seq (wp_region ?_)
        iterate 3 refine wpO_pure (by simp +decide only [go_sem]) (by conv => lhs; simp +decide only [go_sem]) ?_
        rw [wpO_nil]
        refine wp_ret rfl ⟨.inr rfl, _, res_three (u := .int .i64 0) (v := .int .i64 0) (w := .int .i64 10) (by simp +decide only [go_sem]) (by simp +decide only [go_sem]) (by simp +decide only [go_sem]) rfl rfl rfl, rfl, ?_⟩
        unfold gl; rw [hgi]; dsimp only; rw [if_neg hn, if_pos hb2]; rfl
      · rw [show decide ((((b.length - u) / least : Nat) : Int) < unzz z) = false from by simpa using hb2]
        refine wp_skip ?_
        refine wp_seq (wp_region ?_)
        iterate 5 refine wpO_pure (by simp +decide only [go_sem]) (by conv => lhs; simp +decide only [go_sem]) ?_
        rw [wpO_nil]
        refine wp_ret rfl ⟨.inr rfl, _, res_three (u := .int .i64 (unzz z)) (v := .int .i64 (u : Int)) (w := .int .i64 0) (by simp +decide only [go_sem]) (by simp +decide only [go_sem]) (by simp +decide only [go_sem]) rfl rfl rfl, rfl, ?_⟩
        unfold gl; rw [hgi]; dsimp only; rw [if_neg hn, if_neg hb2]; rfl
end Go.Ev
end
section
/- More of what is asked of the tables. -/
open Go Go.Proofs Go.RowKit
set_option maxRecDepth 100000
namespace Go.Ev
section
variable {id nx : Nat}
@[go_sem] theorem fa25_0 : faV EX 25 0 (.ptr id 0) nx = .val (.ptr id 0) [] nx := faV_ptr fl25_0
@[go_sem] theorem fa25_1 : faV EX 25 1 (.ptr id 0) nx = .val (.ptr id 1) [] nx := faV_ptr fl25_1
@[go_sem] theorem fa25_2 : faV EX 25 2 (.ptr id 0) nx = .val (.ptr id 2) [] nx := faV_ptr fl25_2
@[go_sem] theorem fa25_3 : faV EX 25 3 (.ptr id 0) nx = .val (.ptr id 3) [] nx := faV_ptr fl25_3
@[go_sem] theorem fa25_4 : faV EX 25 4 (.ptr id 0) nx = .val (.ptr id 4) [] nx := faV_ptr fl25_4
@[go_sem] theorem fa25_5 : faV EX 25 5 (.ptr id 0) nx = .val (.ptr id 5) [] nx := faV_ptr fl25_5
@[go_sem] theorem fa105_0 : faV EX 105 0 (.ptr id 0) nx = .val (.ptr id 0) [] nx := faV_ptr fl105_0
@[go_sem] theorem fa105_1 : faV EX 105 1 (.ptr id 0) nx = .val (.ptr id 1) [] nx := faV_ptr fl105_1
@[go_sem] theorem fa105_2 : faV EX 105 2 (.ptr id 0) nx = .val (.ptr id 2) [] nx := faV_ptr fl105_2
@[go_sem] theorem fa111_0 : faV EX 111 0 (.ptr id 0) nx = .val (.ptr id 0) [] nx := faV_ptr fl111_0
@[go_sem] theorem fa111_1 : faV EX 111 1 (.ptr id 0) nx = .val (.ptr id 6) [] nx := faV_ptr fl111_1
@[go_sem] theorem fa111_2 : faV EX 111 2 (.ptr id 0) nx = .val (.ptr id 7) [] nx := faV_ptr fl111_2
@[go_sem] theorem fa29_0 : faV EX 29 0 (.ptr id 0) nx = .val (.ptr id 0) [] nx := faV_ptr fl29_0
@[go_sem] theorem fa29_1 : faV EX 29 1 (.ptr id 0) nx = .val (.ptr id 1) [] nx := faV_ptr fl29_1
@[go_sem] theorem fa29_2 : faV EX 29 2 (.ptr id 0) nx = .val (.ptr id 2) [] nx := faV_ptr fl29_2
@[go_sem] theorem fa29_3 : faV EX 29 3 (.ptr id 0) nx = .val (.ptr id 3) [] nx := faV_ptr fl29_3
@[go_sem] theorem fa29_4 : faV EX 29 4 (.ptr id 0) nx = .val (.ptr id 9) [] nx := faV_ptr fl29_4
@[go_sem] theorem fa29_5 : faV EX 29 5 (.ptr id 0) nx = .val (.ptr id 11) [] nx := faV_ptr fl29_5
@[go_sem] theorem fa27_0 : faV EX 27 0 (.ptr id 9) nx = .val (.ptr id 9) [] nx := faV_ptr fl27_0
@[go_sem] theorem fa27_1 : faV EX 27 1 (.ptr id 9) nx = .val (.ptr id 10) [] nx := faV_ptr fl27_1
@[go_sem] theorem fa36_0 : faV EX 36 0 (.ptr id 0) nx = .val (.ptr id 0) [] nx := faV_ptr fl36_0
@[go_sem] theorem fa36_1 : faV EX 36 1 (.ptr id 0) nx = .val (.ptr id 12) [] nx := faV_ptr fl36_1
end
section
variable {l : List AVal} {off : Nat}
@[go_sem] theorem ll3 : loadL EX 3 l off = l[off]? := loadL_one u3 rfl l off
@[go_sem] theorem ll4 : loadL EX 4 l off = l[off]? := loadL_one u4 rfl l off
@[go_sem] theorem ll9 : loadL EX 9 l off = l[off]? := loadL_one u9 rfl l off
@[go_sem] theorem ll22 : loadL EX 22 l off = l[off]? := loadL_one u22 rfl l off
@[go_sem] theorem ll23 : loadL EX 23 l off = l[off]? := loadL_one u23 rfl l off
@[go_sem] theorem ll32 : loadL EX 32 l off = l[off]? := loadL_one u32 rfl l off
@[go_sem] theorem ll100 : loadL EX 100 l off = l[off]? := loadL_one u100 rfl l off
theorem ll25 (h : off + 6 ≤ l.length) : loadL EX 25 l off = some (.agg ((l.drop off).take 6)) := loadL_agg u25 s25 h
theorem ll29 (h : off + 12 ≤ l.length) : loadL EX 29 l off = some (.agg ((l.drop off).take 12)) := loadL_agg u29 s29 h
theorem ll111 (h : off + 8 ≤ l.length) : loadL EX 111 l off = some (.agg ((l.drop off).take 8)) := loadL_agg u111 s111 h
theorem ll36 (h : off + 13 ≤ l.length) : loadL EX 36 l off = some (.agg ((l.drop off).take 13)) := loadL_agg u36 s36 h
end
theorem len30 {v : AVal} {n : Nat} (h : sliceLen v = some n) : ∀ (m : Heap) (nx : Nat), lenB EX 30 v m nx = .val (.int .i64 (n : Int)) [] nx := lenB_of u30 h
theorem len22 {v : AVal} {n : Nat} (h : sliceLen v = some n) : ∀ (m : Heap) (nx : Nat), lenB EX 22 v m nx = .val (.int .i64 (n : Int)) [] nx := lenB_of u22 h
theorem len23 {v : AVal} {n : Nat} (h : sliceLen v = some n) : ∀ (m : Heap) (nx : Nat), lenB EX 23 v m nx = .val (.int .i64 (n : Int)) [] nx := lenB_of u23 h
theorem len100 {v : AVal} {n : Nat} (h : sliceLen v = some n) : ∀ (m : Heap) (nx : Nat), lenB EX 100 v m nx = .val (.int .i64 (n : Int)) [] nx := lenB_of u100 h
/-! ### Structs that are written out -/
theorem bld25 {a c d : Int} {b e : List Nat} : buildV EX 25 [(0, .int .i64 a), (2, .int .i64 c), (3, .int .i64 d), (1, .str b), (4, .str e)] = some (.agg [.int .i64 a, .str b, .int .i64 c, .int .i64 d, .str e, .nilslice]) := by kernel_rfl
theorem bld25z : buildV EX 25 [] = some (.agg [.int .i64 0, .str [], .int .i64 0, .int .i64 0, .str [], .nilslice]) := by kernel_rfl
theorem bld111z : buildV EX 111 [] = some (.agg [.int .i64 0, .str [], .int .i64 0, .int .i64 0, .str [], .nilslice, .int .i64 0, .bool false]) := by kernel_rfl
theorem bld29z : buildV EX 29 [] = some (.agg [.nilslice, .int .i64 0, .int .i64 0, .int .i64 0, .str [], .int .i64 0, .int .i64 0, .str [], .nilslice, .int .i64 0, .int .i64 0, .int .i64 0]) := by kernel_rfl
end Go.Ev
end
