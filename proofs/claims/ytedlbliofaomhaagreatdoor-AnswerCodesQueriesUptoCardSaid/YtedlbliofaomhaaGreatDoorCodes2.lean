/- What the functions of the program and of the reference compute, over the abstract machine; the laws of what they compute. -/
import Derived.Test.YtedlbliofaomhaaGreatDoorCodes1
import Derived.Test.YtedlbliofaomhaaGreatDoorMachine7
set_option linter.all false
section
open Go Go.Proofs Go.RowKit
set_option linter.unusedVariables false
set_option linter.unusedSimpArgs false
set_option maxRecDepth 100000
namespace Go.Ev
/-- A number's digits, put together from behind. -/
def hz : List Nat → Nat
  | [] => 0
  | c :: r => c % 128 + 128 * hz r
theorem hz_app : ∀ (a b : List Nat), hz (a ++ b) = hz a + hz b * 128 ^ a.length
  | [], b => by simp [hz]
  | c :: a, b => by
    show c % 128 + 128 * hz (a ++ b) = c % 128 + 128 * hz a + _
    rw [hz_app a b, List.length_cons, Nat.pow_succ, Nat.mul_add, Nat.add_assoc]
    congr 2
    rw [Nat.mul_comm, Nat.mul_assoc]
theorem hz_lt : ∀ (l : List Nat), hz l < 128 ^ l.length
  | [] => by decide
  | c :: l => by
    have := hz_lt l
    show c % 128 + 128 * hz l < 128 ^ (l.length + 1)
    rw [Nat.pow_succ]; omega
theorem gi_run : ∀ (l : List Nat) (p k z : Nat), p ≤ l.length → (∀ i (hi : i < l.length), i < p → 128 ≤ l[i]) → k + p ≤ 9 → gi k z l = gi (k + p) (z + hz (l.take p) * 128 ^ k) (l.drop p)
  | l, 0, k, z, hp, hb, hk => by simp [hz]
  | [], p + 1, k, z, hp, hb, hk => by simp at hp
  | c :: l, p + 1, k, z, hp, hb, hk => by
    have hc : 128 ≤ c := hb 0 (by simp) (by omega)
    have ih := gi_run l p (k + 1) (z + c % 128 * 128 ^ k) (by simpa using hp) (fun i hi hip => by have := hb (i + 1) (by simpa using hi) (by omega); simpa using this) (by omega)
    conv => lhs; unfold gi
    rw [if_neg (by omega), if_neg (by omega), ih]
    show gi (k + 1 + p) _ (l.drop p) = gi (k + (p + 1)) (z + hz (c :: l.take p) * 128 ^ k) (l.drop p)
    rw [show k + 1 + p = k + (p + 1) by omega]
    congr 1
    show _ = z + (c % 128 + 128 * hz (l.take p)) * 128 ^ k
    rw [Nat.pow_succ, Nat.add_mul, Nat.add_assoc]
    congr 2
    rw [Nat.mul_comm (128 ^ k) 128, ← Nat.mul_assoc, Nat.mul_comm 128 (hz (l.take p))]
/-- The place where reading ends. -/
theorem gi_end {b : List Nat} {k : Nat} (hk : k ≤ b.length) (hb : ∀ i (hi : i < b.length), i < k → 128 ≤ b[i]) :
    (k = 10 → gi 0 0 b = .enc) ∧ (k < 10 → k = b.length → gi 0 0 b = .trunc) ∧
    (k < 10 → ∀ h : k < b.length, b[k] < 128 → gi 0 0 b = if k = 9 ∧ 1 < b[k] ∨ 0 < k ∧ b[k] = 0 then .enc else .ok (hz (b.take (k + 1))) (k + 1)) := by
  refine ⟨fun e => ?_, fun h1 h2 => ?_, fun h1 h2 h3 => ?_⟩
  · subst e
    have h9 : 9 < b.length := by omega
    have := hb 9 h9 (by omega)
    rw [gi_run b 9 0 0 (by omega) (fun i hi h => hb i hi (by omega)) (by omega), List.drop_eq_getElem_cons h9]
    unfold gi
    rw [if_pos (by left; exact ⟨rfl, by omega⟩)]
  · rw [gi_run b k 0 0 (by omega) hb (by omega), List.drop_eq_nil_of_le (by omega)]; rfl
  · rw [gi_run b k 0 0 (by omega) hb (by omega), List.drop_eq_getElem_cons h2]
    unfold gi
    rw [Nat.zero_add]
    by_cases hA : k = 9 ∧ 1 < b[k] ∨ 0 < k ∧ b[k] = 0
    · rw [if_pos hA, if_pos hA]
    · rw [if_neg hA, if_neg hA, if_pos h3, List.take_succ_eq_append_getElem h2, hz_app, List.length_take, Nat.min_eq_left (by omega)]
      congr 1
      simp [hz, Nat.mod_eq_of_lt h3]
theorem hz_bound {b : List Nat} {k : Nat} (hk : k ≤ 9) (h : k < b.length) (h128 : b[k] < 128) (hA : ¬(k = 9 ∧ 1 < b[k] ∨ 0 < k ∧ b[k] = 0)) (i : Nat) : hz ((b.take (k + 1)).drop i) < 18446744073709551616 := by
  by_cases hik : k < i
  · rw [List.drop_eq_nil_of_le (by rw [List.length_take]; omega)]; decide
  · have e : (b.take (k + 1)).drop i = (b.take k).drop i ++ [b[k]] := by
      rw [List.take_succ_eq_append_getElem h, List.drop_append_of_le_length (by rw [List.length_take]; omega)]
    have hlen : ((b.take k).drop i).length = k - i := by rw [List.length_drop, List.length_take]; omega
    rw [e, hz_app, hlen]
    have h1 := hz_lt ((b.take k).drop i)
    rw [hlen] at h1
    have h2 : 128 ^ (k - i) ≤ 128 ^ k := Nat.pow_le_pow_right (by decide) (by omega)
    show _ + (b[k] % 128 + 128 * 0) * _ < _
    by_cases h9 : k = 9
    · subst h9
      have hc : b[9] ≤ 1 := by omega
      have : (b[9] % 128 + 128 * 0) * 128 ^ (9 - i) ≤ 1 * 128 ^ 9 := Nat.mul_le_mul (by omega) h2
      have e9 : (128 : Nat) ^ 9 = 9223372036854775808 := by decide
      omega
    · have h3 : (128 : Nat) ^ k ≤ 128 ^ 8 := Nat.pow_le_pow_right (by decide) (by omega)
      have : (b[k] % 128 + 128 * 0) * 128 ^ (k - i) ≤ 127 * 128 ^ 8 := Nat.mul_le_mul (by omega) (by omega)
      have e8 : (128 : Nat) ^ 8 = 72057594037927936 := by decide
      omega
theorem bys_at {b : List Nat} {k : Nat} (h : k < b.length) (h' : k < (bys b).length) : (bys b)[k] = .int .u8 (b[k] : Int) := by simp [bys]
set_option maxHeartbeats 2000000 in
theorem refGetInt {h : Heap} {nx lo : Nat} {v : AVal} {b : List Nat} (hv : SlB 1 h lo v (bys b)) (hb : ∀ x ∈ b, x < 256) (hlen : b.length < 68000000000) : AC EX 85 [v] ⟨h, nx⟩ (fun w d' => d' = ⟨h, nx⟩ ∧ w = giV (gi 0 0 b)) := by
  have hsl := hv.len
  rw [bys_len] at hsl
  refine AC.of_wp' (size := 79) f85 rfl rfl ?_
  refine wp_seq (wp_region ?_)
  repeat refine wpO_pure (by simp +decide only [go_sem]) (by conv => lhs; simp +decide only [go_sem]) ?_
  rw [wpO_nil]
  refine wp_seq (wp_region ?_)
  repeat refine wpO_pure (by simp +decide only [go_sem]) (by conv => lhs; simp +decide only [go_sem]) ?_
  rw [wpO_nil]
  refine wp_seqR (fun t d => d = ⟨h, nx⟩ ∧ getT t 0 = v ∧ ∃ k : Nat, getT t 5 = .int .i64 (k : Int) ∧ k ≤ 10 ∧ k ≤ b.length ∧ (∀ i (hi : i < b.length), i < k → 128 ≤ b[i]) ∧ (k < 10 → ∀ hk : k < b.length, b[k] < 128)) ?_ ?_
  · refine wp_block (wp_while (α := Nat) (fun k => b.length - k) (fun k t d => d = ⟨h, nx⟩ ∧ getT t 0 = v ∧ getT t 5 = .int .i64 (k : Int) ∧ k ≤ 10 ∧ k ≤ b.length ∧ (∀ i (hi : i < b.length), i < k → 128 ≤ b[i])) ?_ (a := 0) ?_)
    · intro k t d ⟨hd, h0, h5, hk10, hkl, hge⟩
      subst hd
      refine wp_seq (wp_seq (wp_region ?_))
      by_cases h1 : k < b.length
      · have e1 : decide ((k : Int) < (b.length : Int)) = true := by simp; omega
        by_cases h2 : k < 10
        · have e2 : decide ((k : Int) < 10) = true := by simp; omega
          iterate 5 refine wpO_pure (by simp +decide only [go_sem]) (by conv => lhs; simp +decide only [go_sem, h0, h5, len30 hsl, e1]) ?_
          iterate 2 refine wpO_pure (wanted_yes rfl rfl (by simp +decide only [go_sem, h5, e2])) (by conv => lhs; simp +decide only [go_sem, h5, e2]) ?_
          iterate 2 refine wpO_pure (by simp +decide only [go_sem]) (by conv => lhs; simp +decide only [go_sem]) ?_
          iterate 2 refine wpO_pure (wanted_yes rfl rfl (by simp +decide only [go_sem, h0, h5])) (by conv => lhs; simp +decide only [go_sem, h0, h5]) ?_
          refine wpO_index (i := k) (j := .i64) (wanted_yes rfl rfl (by simp +decide only [go_sem])) rfl hv u30 s5 u5 rfl (by simp +decide only [go_sem]) (by simp +decide only [go_sem]) (by rw [bys_len]; exact h1) ?_
          intro id off hld
          rw [bys_at h1] at hld
          iterate 2 refine wpO_pure (wanted_yes rfl rfl (by simp +decide only [go_sem, hld])) (by conv => lhs; simp +decide only [go_sem, hld]) ?_
          refine wpO_pure (by simp +decide only [go_sem]) (by conv => lhs; simp +decide only [go_sem]) ?_
          rw [wpO_nil]
          refine wp_cond (x := decide ((128 : Int) ≤ (b[k] : Int))) (by simp +decide only [go_sem]) ?_
          by_cases h3 : 128 ≤ b[k]
          · rw [show decide ((128 : Int) ≤ (b[k] : Int)) = true from by simp; omega]
            refine wp_skip (wp_block (wp_region ?_))
            repeat refine wpO_pure (by simp +decide only [go_sem]) (by conv => lhs; simp +decide only [go_sem, h5]) ?_
            rw [wpO_nil]
            refine ⟨k + 1, by omega, rfl, by simp +decide only [go_sem, h0], ?_, by omega, by omega, fun i hi hik => ?_⟩
            · simp +decide only [go_sem]
              rw [wi64 (by omega) (by omega)]; rfl
            · by_cases e : i = k
              · subst e; exact h3
              · exact hge i hi (by omega)
          · rw [show decide ((128 : Int) ≤ (b[k] : Int)) = false from by simp; omega]
            exact wp_exit ⟨rfl, by simp +decide only [go_sem, h0], k, by simp +decide only [go_sem, h5], hk10, hkl, hge, fun _ _ => by omega⟩
        · have e2 : decide ((k : Int) < 10) = false := by simp; omega
          iterate 5 refine wpO_pure (by simp +decide only [go_sem]) (by conv => lhs; simp +decide only [go_sem, h0, h5, len30 hsl, e1]) ?_
          iterate 2 refine wpO_pure (wanted_yes rfl rfl (by simp +decide only [go_sem, h5, e2])) (by conv => lhs; simp +decide only [go_sem, h5, e2]) ?_
          iterate 2 refine wpO_pure (by simp +decide only [go_sem]) (by conv => lhs; simp +decide only [go_sem]) ?_
          iterate 5 refine wpO_no (wanted_not rfl rfl (by simp +decide only [go_sem]; try rfl)) ?_
          refine wpO_pure (by simp +decide only [go_sem]) (by conv => lhs; simp +decide only [go_sem]) ?_
          rw [wpO_nil]
          refine wp_cond (x := false) (by simp +decide only [go_sem]) ?_
          exact wp_exit ⟨rfl, by simp +decide only [go_sem, h0], k, by simp +decide only [go_sem, h5], hk10, hkl, hge, fun h => by omega⟩
      · have e1 : decide ((k : Int) < (b.length : Int)) = false := by simp; omega
        iterate 5 refine wpO_pure (by simp +decide only [go_sem]) (by conv => lhs; simp +decide only [go_sem, h0, h5, len30 hsl, e1]) ?_
        iterate 2 refine wpO_no (wanted_not rfl rfl (by simp +decide only [go_sem]; try rfl)) ?_
        iterate 2 refine wpO_pure (by simp +decide only [go_sem]) (by conv => lhs; simp +decide only [go_sem]) ?_
        iterate 5 refine wpO_no (wanted_not rfl rfl (by simp +decide only [go_sem]; try rfl)) ?_
        refine wpO_pure (by simp +decide only [go_sem]) (by conv => lhs; simp +decide only [go_sem]) ?_
        rw [wpO_nil]
        refine wp_cond (x := false) (by simp +decide only [go_sem]) ?_
        exact wp_exit ⟨rfl, by simp +decide only [go_sem, h0], k, by simp +decide only [go_sem, h5], hk10, hkl, hge, fun _ h => absurd h h1⟩
    · exact ⟨rfl, by simp +decide only [go_sem], by simp +decide only [go_sem]; rfl, by omega, Nat.zero_le _, fun i _ h => absurd h (Nat.not_lt_zero i)⟩
  · intro t d ⟨hd, h0, k, h5, hk10, hkl, hge, hlt⟩
    subst hd
    obtain ⟨q1, q2, q3⟩ := gi_end hkl hge
    refine wp_seq (wp_seq (wp_region ?_))
    repeat refine wpO_pure (by simp +decide only [go_sem]) (by conv => lhs; simp +decide only [go_sem, h5]) ?_
    rw [wpO_nil]
    refine wp_cond (x := decide ((k : Int) = 10)) (by simp +decide only [go_sem]) ?_
    by_cases h10 : k = 10
    · rw [show decide ((k : Int) = 10) = true from by simp; omega]
      refine wp_seq (wp_region ?_)
      repeat refine wpO_pure (by simp +decide only [go_sem]) (by conv => lhs; simp +decide only [go_sem]) ?_
      rw [wpO_nil]
      exact wp_ret rfl ⟨.inr rfl, _, res_three (u := .int .i64 0) (v := .int .i64 0) (w := .int .i64 11) (by simp +decide only [go_sem]) (by simp +decide only [go_sem]) (by simp +decide only [go_sem]) rfl rfl rfl, rfl, by rw [q1 h10]; rfl⟩
    · rw [show decide ((k : Int) = 10) = false from by simp; omega]
      have hk10' : k < 10 := by omega
      refine wp_skip (wp_seq (wp_seq (wp_region ?_)))
      repeat refine wpO_pure (by simp +decide only [go_sem]) (by conv => lhs; simp +decide only [go_sem, h5, h0, len30 hsl]) ?_
      rw [wpO_nil]
      refine wp_cond (x := decide ((k : Int) = (b.length : Int))) (by simp +decide only [go_sem]) ?_
      by_cases hkb : k = b.length
      · rw [show decide ((k : Int) = (b.length : Int)) = true from by simp; omega]
        refine wp_seq (wp_region ?_)
        repeat refine wpO_pure (by simp +decide only [go_sem]) (by conv => lhs; simp +decide only [go_sem]) ?_
        rw [wpO_nil]
        exact wp_ret rfl ⟨.inr rfl, _, res_three (u := .int .i64 0) (v := .int .i64 0) (w := .int .i64 10) (by simp +decide only [go_sem]) (by simp +decide only [go_sem]) (by simp +decide only [go_sem]) rfl rfl rfl, rfl, by rw [q2 hk10' hkb]; rfl⟩
      · rw [show decide ((k : Int) = (b.length : Int)) = false from by simp; omega]
        have hkl' : k < b.length := by omega
        have hc128 := hlt hk10' hkl'
        have q3' := q3 hk10' hkl' hc128
        refine wp_skip (wp_seq (wp_seqR (fun t d => d = ⟨h, nx⟩ ∧ getT t 0 = v ∧ getT t 5 = .int .i64 (k : Int) ∧ getT t 50 = .bool (decide (k = 9 ∧ 1 < b[k] ∨ 0 < k ∧ b[k] = 0))) (wp_region ?_) ?_))
        · by_cases h9 : k = 9
          · have e9 : decide ((k : Int) = 9) = true := by simp; omega
            iterate 3 refine wpO_pure (by simp +decide only [go_sem]) (by conv => lhs; simp +decide only [go_sem, h5, e9]) ?_
            iterate 2 refine wpO_pure (wanted_yes rfl rfl (by simp +decide only [go_sem, h0, h5])) (by conv => lhs; simp +decide only [go_sem, h0, h5]) ?_
            refine wpO_index (i := k) (j := .i64) (wanted_yes rfl rfl (by simp +decide only [go_sem])) rfl hv u30 s5 u5 rfl (by simp +decide only [go_sem]) (by simp +decide only [go_sem]) (by rw [bys_len]; exact hkl') ?_
            intro id off hld
            rw [bys_at hkl'] at hld
            iterate 2 refine wpO_pure (wanted_yes rfl rfl (by simp +decide only [go_sem, hld])) (by conv => lhs; simp +decide only [go_sem, hld]) ?_
            iterate 2 refine wpO_pure (by simp +decide only [go_sem]) (by conv => lhs; simp +decide only [go_sem]) ?_
            by_cases h1c : 1 < b[k]
            · have e1 : decide ((1 : Int) < (b[k] : Int)) = true := by simp; omega
              iterate 3 refine wpO_no (wanted_not rfl rfl (by simp +decide only [go_sem, e1]; try rfl)) ?_
              iterate 5 refine wpO_no (wanted_und rfl rfl (by simp +decide only [go_sem])) ?_
              refine wpO_no (wanted_not rfl rfl (by simp +decide only [go_sem, e1]; try rfl)) ?_
              repeat refine wpO_pure (by simp +decide only [go_sem]) (by conv => lhs; simp +decide only [go_sem, e1]) ?_
              rw [wpO_nil]
              refine ⟨rfl, by simp +decide only [go_sem, h0], by simp +decide only [go_sem, h5], ?_⟩
              simp +decide only [go_sem]
              exact congrArg AVal.bool (decide_eq_true (by omega)).symm
            · have e1 : decide ((1 : Int) < (b[k] : Int)) = false := by simp; omega
              have e0 : decide ((0 : Int) < (k : Int)) = true := by simp; omega
              iterate 3 refine wpO_pure (wanted_yes rfl rfl (by simp +decide only [go_sem, e1, h5, e0])) (by conv => lhs; simp +decide only [go_sem, e1, h5, e0]) ?_
              iterate 2 refine wpO_pure (wanted_yes rfl rfl (by simp +decide only [go_sem, h0, h5])) (by conv => lhs; simp +decide only [go_sem, h0, h5]) ?_
              refine wpO_index (i := k) (j := .i64) (wanted_yes rfl rfl (by simp +decide only [go_sem])) rfl hv u30 s5 u5 rfl (by simp +decide only [go_sem]) (by simp +decide only [go_sem]) (by rw [bys_len]; exact hkl') ?_
              intro id off hld
              rw [bys_at hkl'] at hld
              iterate 2 refine wpO_pure (wanted_yes rfl rfl (by simp +decide only [go_sem, hld])) (by conv => lhs; simp +decide only [go_sem, hld]) ?_
              refine wpO_pure (wanted_yes rfl rfl (by simp +decide only [go_sem, e1])) (by conv => lhs; simp +decide only [go_sem, e1]) ?_
              repeat refine wpO_pure (by simp +decide only [go_sem]) (by conv => lhs; simp +decide only [go_sem, e1]) ?_
              rw [wpO_nil]
              refine ⟨rfl, by simp +decide only [go_sem, h0], by simp +decide only [go_sem, h5], ?_⟩
              simp +decide only [go_sem]
              exact congrArg AVal.bool (decide_eq_decide.2 (by omega))
          · have e9 : decide ((k : Int) = 9) = false := by simp; omega
            iterate 3 refine wpO_pure (by simp +decide only [go_sem]) (by conv => lhs; simp +decide only [go_sem, h5, e9]) ?_
            iterate 5 refine wpO_no (wanted_not rfl rfl (by simp +decide only [go_sem]; try rfl)) ?_
            iterate 2 refine wpO_pure (by simp +decide only [go_sem]) (by conv => lhs; simp +decide only [go_sem]) ?_
            by_cases h0k : 0 < k
            · have e0 : decide ((0 : Int) < (k : Int)) = true := by simp; omega
              iterate 3 refine wpO_pure (wanted_yes rfl rfl (by simp +decide only [go_sem, h5, e0])) (by conv => lhs; simp +decide only [go_sem, h5, e0]) ?_
              iterate 2 refine wpO_pure (wanted_yes rfl rfl (by simp +decide only [go_sem, h0, h5])) (by conv => lhs; simp +decide only [go_sem, h0, h5]) ?_
              refine wpO_index (i := k) (j := .i64) (wanted_yes rfl rfl (by simp +decide only [go_sem])) rfl hv u30 s5 u5 rfl (by simp +decide only [go_sem]) (by simp +decide only [go_sem]) (by rw [bys_len]; exact hkl') ?_
              intro id off hld
              rw [bys_at hkl'] at hld
              iterate 2 refine wpO_pure (wanted_yes rfl rfl (by simp +decide only [go_sem, hld])) (by conv => lhs; simp +decide only [go_sem, hld]) ?_
              refine wpO_pure (wanted_yes rfl rfl (by simp +decide only [go_sem])) (by conv => lhs; simp +decide only [go_sem]) ?_
              repeat refine wpO_pure (by simp +decide only [go_sem]) (by conv => lhs; simp +decide only [go_sem]) ?_
              rw [wpO_nil]
              refine ⟨rfl, by simp +decide only [go_sem, h0], by simp +decide only [go_sem, h5], ?_⟩
              simp +decide only [go_sem]
              exact congrArg AVal.bool (decide_eq_decide.2 (by omega))
            · have e0 : decide ((0 : Int) < (k : Int)) = false := by simp; omega
              iterate 3 refine wpO_pure (wanted_yes rfl rfl (by simp +decide only [go_sem, h5, e0])) (by conv => lhs; simp +decide only [go_sem, h5, e0]) ?_
              iterate 5 refine wpO_no (wanted_not rfl rfl (by simp +decide only [go_sem]; try rfl)) ?_
              refine wpO_pure (wanted_yes rfl rfl (by simp +decide only [go_sem])) (by conv => lhs; simp +decide only [go_sem]) ?_
              repeat refine wpO_pure (by simp +decide only [go_sem]) (by conv => lhs; simp +decide only [go_sem]) ?_
              rw [wpO_nil]
              refine ⟨rfl, by simp +decide only [go_sem, h0], by simp +decide only [go_sem, h5], ?_⟩
              simp +decide only [go_sem]
              exact congrArg AVal.bool (decide_eq_false (by omega)).symm
        · intro t d ⟨hd, h0, h5, h50⟩
          subst hd
          refine wp_cond (x := decide (k = 9 ∧ 1 < b[k] ∨ 0 < k ∧ b[k] = 0)) (by simp +decide only [go_sem, h50]) ?_
          by_cases hA : k = 9 ∧ 1 < b[k] ∨ 0 < k ∧ b[k] = 0
          · rw [show decide (k = 9 ∧ 1 < b[k] ∨ 0 < k ∧ b[k] = 0) = true from by simpa using hA]
            refine wp_seq (wp_region ?_)
            repeat refine wpO_pure (by simp +decide only [go_sem]) (by conv => lhs; simp +decide only [go_sem]) ?_
            rw [wpO_nil]
            exact wp_ret rfl ⟨.inr rfl, _, res_three (u := .int .i64 0) (v := .int .i64 0) (w := .int .i64 11) (by simp +decide only [go_sem]) (by simp +decide only [go_sem]) (by simp +decide only [go_sem]) rfl rfl rfl, rfl, by rw [q3', if_pos hA]; rfl⟩
          · rw [show decide (k = 9 ∧ 1 < b[k] ∨ 0 < k ∧ b[k] = 0) = false from by simpa using hA]
            have hzb := fun i => hz_bound (by omega) hkl' hc128 hA i
            refine wp_skip (wp_seq (wp_region ?_))
            repeat refine wpO_pure (by simp +decide only [go_sem]) (by conv => lhs; simp +decide only [go_sem]) ?_
            rw [wpO_nil]
            refine wp_seqR (fun t d => d = ⟨h, nx⟩ ∧ getT t 5 = .int .i64 (k : Int) ∧ getT t 6 = .int .u64 (hz (b.take (k + 1)) : Int)) (wp_seq (wp_region ?_)) ?_
            · repeat refine wpO_pure (by simp +decide only [go_sem]) (by conv => lhs; simp +decide only [go_sem, h5]) ?_
              rw [wpO_nil]
              refine wp_block (wp_while (α := Nat) (fun i => i) (fun i t d => i ≤ k + 1 ∧ d = ⟨h, nx⟩ ∧ getT t 0 = v ∧ getT t 5 = .int .i64 (k : Int) ∧ getT t 7 = .int .i64 ((i : Int) - 1) ∧ getT t 6 = .int .u64 (hz ((b.take (k + 1)).drop i) : Int)) ?_ (a := k + 1) ?_)
              · intro i t d ⟨hi, hd, h0, h5, h7, h6⟩
                subst hd
                refine wp_seq (wp_seq (wp_region ?_))
                repeat refine wpO_pure (by simp +decide only [go_sem]) (by conv => lhs; simp +decide only [go_sem, h7]) ?_
                rw [wpO_nil]
                refine wp_cond (x := decide ((0 : Int) ≤ (i : Int) - 1)) (by simp +decide only [go_sem]) ?_
                by_cases hi0 : i = 0
                · rw [show decide ((0 : Int) ≤ (i : Int) - 1) = false from by simp; omega]
                  subst hi0
                  exact wp_exit ⟨rfl, by simp +decide only [go_sem, h5], by simp +decide only [go_sem, h6]; rfl⟩
                · rw [show decide ((0 : Int) ≤ (i : Int) - 1) = true from by simp; omega]
                  have hib : i - 1 < b.length := by omega
                  refine wp_skip (wp_seq (wp_block (wp_region ?_)))
                  iterate 4 refine wpO_pure (by simp +decide only [go_sem]) (by conv => lhs; simp +decide only [go_sem, h6, h0, h7]) ?_
                  refine wpO_index (i := i - 1) (j := .i64) (by simp +decide only [go_sem]) rfl hv u30 s5 u5 rfl (by simp +decide only [go_sem]) (by simp +decide only [go_sem]; congr 1; omega) (by rw [bys_len]; exact hib) ?_
                  intro id off hld
                  rw [bys_at hib] at hld
                  repeat refine wpO_pure (by simp +decide only [go_sem]) (by conv => lhs; simp +decide only [go_sem, hld]) ?_
                  rw [wpO_nil]
                  refine wp_region ?_
                  repeat refine wpO_pure (by simp +decide only [go_sem]) (by conv => lhs; simp +decide only [go_sem, h7]) ?_
                  rw [wpO_nil]
                  refine ⟨i - 1, by omega, by omega, rfl, by simp +decide only [go_sem, h0], by simp +decide only [go_sem, h5], ?_, ?_⟩
                  · simp +decide only [go_sem]
                    rw [wi64 (by omega) (by omega)]
                    congr 1; omega
                  · simp +decide only [go_sem]
                    have e : (b.take (k + 1)).drop (i - 1) = b[i - 1] :: (b.take (k + 1)).drop i := by
                      rw [List.drop_eq_getElem_cons (by rw [List.length_take]; omega), List.getElem_take, show i - 1 + 1 = i by omega]
                    have hb1 := hzb (i - 1)
                    rw [e] at hb1 ⊢
                    have hb2 : b[i - 1] % 128 + 128 * hz ((b.take (k + 1)).drop i) < 18446744073709551616 := hb1
                    congr 1
                    rw [show (b[i - 1] : Int).tmod 128 = ((b[i - 1] % 128 : Nat) : Int) from by rw [Int.tmod_eq_emod_of_nonneg (by omega)]; omega]
                    show _ = ((b[i - 1] % 128 + 128 * hz ((b.take (k + 1)).drop i) : Nat) : Int)
                    rw [w64, w64, w64]
                    generalize hz ((b.take (k + 1)).drop i) = y at hb2 ⊢
                    omega
              · exact ⟨Nat.le_refl _, rfl, by simp +decide only [go_sem, h0], by simp +decide only [go_sem, h5], by simp +decide only [go_sem]; congr 1; omega, by
                  simp +decide only [go_sem]
                  rw [List.drop_eq_nil_of_le (by rw [List.length_take]; omega)]; rfl⟩
            · intro t d ⟨hd, h5, h6⟩
              subst hd
              have hzl : hz (b.take (k + 1)) < 18446744073709551616 := hzb 0
              generalize hzz : hz (b.take (k + 1)) = z at h6 hzl q3'
              have e2 : (z : Int).tmod 2 = ((z % 2 : Nat) : Int) := by rw [Int.tmod_eq_emod_of_nonneg (by omega)]; omega
              have e3 : IntKind.i64.wrap (IntKind.u64.wrap ((z : Int).tdiv 2)) = ((z / 2 : Nat) : Int) := by
                rw [show (z : Int).tdiv 2 = ((z / 2 : Nat) : Int) from by rw [Int.tdiv_eq_ediv_of_nonneg (by omega)]; omega, w64, wi64 (by omega) (by omega)]; omega
              rw [if_neg hA] at q3'
              refine wp_seq (wp_seq (wp_region ?_))
              repeat refine wpO_pure (by simp +decide only [go_sem]) (by conv => lhs; simp +decide only [go_sem, h6, e2]) ?_
              rw [wpO_nil]
              refine wp_cond (x := decide (((z % 2 : Nat) : Int) = 1)) (by simp +decide only [go_sem]) ?_
              by_cases hz2 : z % 2 = 1
              · rw [show decide (((z % 2 : Nat) : Int) = 1) = true from by simp; omega]
                refine wp_seq (wp_region ?_)
                repeat refine wpO_pure (by simp +decide only [go_sem]) (by conv => lhs; simp +decide only [go_sem, h6, h5, e3]) ?_
                rw [wpO_nil]
                refine wp_ret rfl ⟨.inr rfl, _, res_three (u := .int .i64 (unzz z)) (v := .int .i64 ((k + 1 : Nat) : Int)) (w := .int .i64 0) ?_ ?_ (by simp +decide only [go_sem]) rfl rfl rfl, rfl, by rw [q3']; rfl⟩
                · simp +decide only [go_sem]
                  rw [wi64 (by omega) (by omega)]
                  unfold unzz; rw [if_neg (by omega)]
                · simp +decide only [go_sem]
                  rw [wi64 (by omega) (by omega)]; rfl
              · rw [show decide (((z % 2 : Nat) : Int) = 1) = false from by simp; omega]
                refine wp_skip (wp_seq (wp_region ?_))
                repeat refine wpO_pure (by simp +decide only [go_sem]) (by conv => lhs; simp +decide only [go_sem, h6, h5, e3]) ?_
                rw [wpO_nil]
                refine wp_ret rfl ⟨.inr rfl, _, res_three (u := .int .i64 (unzz z)) (v := .int .i64 ((k + 1 : Nat) : Int)) (w := .int .i64 0) ?_ ?_ (by simp +decide only [go_sem]) rfl rfl rfl, rfl, by rw [q3']; rfl⟩
                · simp +decide only [go_sem]
                  unfold unzz; rw [if_pos (by omega)]
                · simp +decide only [go_sem]
                  rw [wi64 (by omega) (by omega)]; rfl
end Go.Ev
end
section
open Go Go.Proofs Go.RowKit
set_option linter.unusedVariables false
set_option linter.unusedSimpArgs false
set_option maxRecDepth 100000
namespace Go.Ev
/-- What a reading comes to: a value, and how many bytes it took; or an error. -/
inductive RR (α : Type) where
  | ok (x : α) (u : Nat)
  | err (e : Bool)
def ecode (e : Bool) : Int := if e then 11 else 10
theorem ecode_ne (e : Bool) : decide (ecode e = 0) = false := by cases e <;> rfl
def rrV {α : Type} (f : α → AVal) (z : AVal) : RR α → AVal
  | .ok x u => .tup [f x, .int .i64 (u : Int), .int .i64 0]
  | .err e => .tup [z, .int .i64 0, .int .i64 (ecode e)]
def giR : GI → RR Int
  | .ok z u => .ok (unzz z) u
  | .enc => .err true
  | .trunc => .err false
def intV (n : Int) : AVal := .int .i64 n
theorem giV_rr (r : GI) : giV r = rrV intV (intV 0) (giR r) := by cases r <;> rfl
def g1 (b : List Nat) : RR Int := giR (gi 0 0 b)
def lenR (b : List Nat) : RR Int := giR (gl b 1)
theorem g1_used {b : List Nat} {x : Int} {u : Nat} (h : g1 b = .ok x u) : 0 < u ∧ u ≤ b.length ∧ u ≤ 10 := by
  unfold g1 at h
  cases hg : gi 0 0 b with
  | ok z u' =>
    rw [hg] at h
    cases h
    have := gi_used b 0 0 (by decide) hg
    omega
  | enc => rw [hg] at h; cases h
  | trunc => rw [hg] at h; cases h
theorem lenR_ok {b : List Nat} {x : Int} {u : Nat} (h : lenR b = .ok x u) : 0 < u ∧ u ≤ b.length ∧ u ≤ 10 ∧ 0 ≤ x ∧ x ≤ ((b.length - u : Nat) : Int) := by
  unfold lenR gl at h
  cases hg : gi 0 0 b with
  | ok z u' =>
    rw [hg] at h
    dsimp only at h
    split at h
    · cases h
    · rename_i hn
      split at h
      · cases h
      · rename_i hb
        cases h
        have := gi_used b 0 0 (by decide) hg
        rw [Nat.div_one] at hb
        omega
  | enc => rw [hg] at h; cases h
  | trunc => rw [hg] at h; cases h
def gb (b : List Nat) : RR (List Nat) := match lenR b with
  | .ok n u => .ok ((b.drop u).take n.toNat) (u + n.toNat)
  | .err e => .err e
theorem gb_used {b : List Nat} {x : List Nat} {u : Nat} (h : gb b = .ok x u) : 0 < u ∧ u ≤ b.length ∧ x.length + 1 ≤ u := by
  unfold gb at h
  cases hg : lenR b with
  | ok n u' =>
    rw [hg] at h
    cases h
    have := lenR_ok hg
    simp only [List.length_take, List.length_drop]
    omega
  | err e => rw [hg] at h; cases h
theorem bytesOf_bys : ∀ {l : List Nat}, (∀ x ∈ l, x < 256) → bytesOf (bys l) = some l
  | [], _ => rfl
  | c :: l, h => by
    show (match Nat.blt c 256 with | true => (match bytesOf (bys l) with | some r => some (c :: r) | none => none) | false => none) = _
    rw [blt_t (h c List.mem_cons_self)]
    dsimp only
    rw [bytesOf_bys fun x hx => h x (List.mem_cons_of_mem _ hx)]
theorem conv_bys {h : Heap} {nx : Nat} {P : Nat → Prop} {v : AVal} {l : List Nat} (s : SlP 1 h P v (bys l)) (hl : ∀ x ∈ l, x < 256) : convV EX h nx (some (.slice 5)) (some .string) v = .val (.str l) [] nx := by
  obtain ⟨h1, h2, h3⟩ := s.1.first (by decide)
  unfold convV
  dsimp only
  rw [u5, h2]
  dsimp only
  rw [h3]
  dsimp only
  rw [bytesOf_bys hl]
theorem cut_bys (b : List Nat) (a c : Nat) : ((bys b).take (c * 1)).drop (a * 1) = bys ((b.take c).drop a) := by
  simp [bys, List.map_take, List.map_drop]
theorem mem_cut {b : List Nat} {a c x : Nat} (h : x ∈ (b.take c).drop a) : x ∈ b := List.mem_of_mem_take (List.mem_of_mem_drop h)
theorem giR_cases (r : GI) : (∃ z u, r = .ok z u) ∨ ∃ e, giR r = .err e ∧ giV r = .tup [.int .i64 0, .int .i64 0, .int .i64 (ecode e)] := by
  cases r with
  | ok z u => exact .inl ⟨z, u, rfl⟩
  | enc => exact .inr ⟨true, rfl, rfl⟩
  | trunc => exact .inr ⟨false, rfl, rfl⟩
theorem unzz_range {z : Nat} (hz : z < 18446744073709551616) : -9223372036854775808 ≤ unzz z ∧ unzz z < 9223372036854775808 := by unfold unzz; split <;> omega
set_option maxHeartbeats 1000000 in
theorem refLength {h : Heap} {nx lo : Nat} {v : AVal} {b : List Nat} {least : Nat} (hv : SlB 1 h lo v (bys b)) (hb : ∀ x ∈ b, x < 256) (hl : 0 < least) (hl2 : least < 1000) (hlen : b.length < 68000000000) : AC EX 84 [v, .int .i64 (least : Int)] ⟨h, nx⟩ (fun w d' => d' = ⟨h, nx⟩ ∧ w = giV (gl b least)) := by
  have hsl := hv.len
  rw [bys_len] at hsl
  refine AC.of_wp' (size := 31) f84 rfl rfl ?_
  refine wp_seq (wp_region ?_)
  repeat refine wpO_pure (by simp +decide only [go_sem]) (by conv => lhs; simp +decide only [go_sem]) ?_
  rw [wpO_nil]
  refine wp_seq (wp_region ?_)
  repeat refine wpO_pure (by simp +decide only [go_sem]) (by conv => lhs; simp +decide only [go_sem]) ?_
  refine wpO_call (by simp +decide only [go_sem]) (by conv => lhs; simp +decide only [go_sem]) n85 (refGetInt hv hb hlen) ?_
  intro w d ⟨hd, hw⟩
  subst hd
  rcases giR_cases (gi 0 0 b) with ⟨z, u, hgi⟩ | ⟨e, he1, he2⟩
  · rw [hgi] at hw
    subst hw
    unfold giV
    have hu : u ≤ 10 := (gi_used b 0 0 (by decide) hgi).2.2
    repeat refine wpO_pure (by simp +decide only [go_sem]) (by conv => lhs; simp +decide only [go_sem]) ?_
    rw [wpO_nil]
    refine wp_seq (wp_seq (wp_region ?_))
    repeat refine wpO_pure (by simp +decide only [go_sem]) (by conv => lhs; simp +decide only [go_sem]) ?_
    rw [wpO_nil]
    refine wp_cond (x := false) (by simp +decide only [go_sem]; try rfl) (wp_skip ?_)
    refine wp_seq (wp_seq (wp_region ?_))
    repeat refine wpO_pure (by simp +decide only [go_sem]) (by conv => lhs; simp +decide only [go_sem]) ?_
    rw [wpO_nil]
    refine wp_cond (x := decide (unzz z < 0)) (by simp +decide only [go_sem]) ?_
    by_cases hn : unzz z < 0
    · rw [show decide (unzz z < 0) = true from by simpa using hn]
      refine wp_seq (wp_region ?_)
      repeat refine wpO_pure (by simp +decide only [go_sem]) (by conv => lhs; simp +decide only [go_sem]) ?_
      rw [wpO_nil]
      refine wp_ret rfl ⟨.inr rfl, _, res_three (u := .int .i64 0) (v := .int .i64 0) (w := .int .i64 11) (by simp +decide only [go_sem]) (by simp +decide only [go_sem]) (by simp +decide only [go_sem]) rfl rfl rfl, rfl, ?_⟩
      unfold gl; rw [hgi]; dsimp only; rw [if_pos hn]; rfl
    · rw [show decide (unzz z < 0) = false from by simpa using hn]
      have hq : IntKind.i64.wrap ((IntKind.i64.wrap ((b.length : Int) - (u : Int))).tdiv (least : Int)) = (((b.length - u) / least : Nat) : Int) := by
        have hub : u ≤ b.length := by have := (gi_used b 0 0 (by decide) hgi).2.1; omega
        rw [wi64 (m := (b.length : Int) - (u : Int)) (by omega) (by omega), show ((b.length : Int) - (u : Int)) = ((b.length - u : Nat) : Int) by omega, Int.tdiv_eq_ediv_of_nonneg (by omega), ← Int.natCast_ediv]
        have : (b.length - u) / least ≤ b.length - u := Nat.div_le_self _ _
        generalize (b.length - u) / least = q at this ⊢
        exact wi64 (by omega) (by omega)
      have hl0 : (least : Int) ≠ 0 := by omega
      refine wp_skip (wp_seq (wp_seq (wp_region ?_)))
      repeat refine wpO_pure (by simp +decide only [go_sem]) (by conv => lhs; simp +decide only [go_sem, len30 hsl, hl0, hq]) ?_
      rw [wpO_nil]
      refine wp_cond (x := decide ((((b.length - u) / least : Nat) : Int) < unzz z)) (by simp +decide only [go_sem]) ?_
      by_cases hb2 : (((b.length - u) / least : Nat) : Int) < unzz z
      · rw [show decide ((((b.length - u) / least : Nat) : Int) < unzz z) = true from by simpa using hb2]
        refine wp_seq (wp_region ?_)
        repeat refine wpO_pure (by simp +decide only [go_sem]) (by conv => lhs; simp +decide only [go_sem]) ?_
        rw [wpO_nil]
        refine wp_ret rfl ⟨.inr rfl, _, res_three (u := .int .i64 0) (v := .int .i64 0) (w := .int .i64 10) (by simp +decide only [go_sem]) (by simp +decide only [go_sem]) (by simp +decide only [go_sem]) rfl rfl rfl, rfl, ?_⟩
        unfold gl; rw [hgi]; dsimp only; rw [if_neg hn, if_pos hb2]; rfl
      · rw [show decide ((((b.length - u) / least : Nat) : Int) < unzz z) = false from by simpa using hb2]
        refine wp_skip (wp_seq (wp_region ?_))
        repeat refine wpO_pure (by simp +decide only [go_sem]) (by conv => lhs; simp +decide only [go_sem]) ?_
        rw [wpO_nil]
        refine wp_ret rfl ⟨.inr rfl, _, res_three (u := .int .i64 (unzz z)) (v := .int .i64 (u : Int)) (w := .int .i64 0) (by simp +decide only [go_sem]) (by simp +decide only [go_sem]) (by simp +decide only [go_sem]) rfl rfl rfl, rfl, ?_⟩
        unfold gl; rw [hgi]; dsimp only; rw [if_neg hn, if_neg hb2]; rfl
  · rw [he2] at hw
    subst hw
    have hne := ecode_ne e
    repeat refine wpO_pure (by simp +decide only [go_sem]) (by conv => lhs; simp +decide only [go_sem]) ?_
    rw [wpO_nil]
    refine wp_seq (wp_seq (wp_region ?_))
    repeat refine wpO_pure (by simp +decide only [go_sem]) (by conv => lhs; simp +decide only [go_sem]) ?_
    rw [wpO_nil]
    refine wp_cond (x := true) (by simp +decide only [go_sem, hne]; try rfl) ?_
    refine wp_seq (wp_region ?_)
    repeat refine wpO_pure (by simp +decide only [go_sem]) (by conv => lhs; simp +decide only [go_sem]) ?_
    rw [wpO_nil]
    refine wp_ret rfl ⟨.inr rfl, _, res_three (u := .int .i64 0) (v := .int .i64 0) (w := .int .i64 (ecode e)) (by simp +decide only [go_sem]) (by simp +decide only [go_sem]) (by simp +decide only [go_sem]) rfl rfl rfl, rfl, ?_⟩
    have : gl b least = gi 0 0 b := by
      unfold gl
      cases hg : gi 0 0 b with
      | ok z u => rw [hg] at he1; cases he1
      | enc => rfl
      | trunc => rfl
    rw [this, he2]; rfl
theorem lenR_cases (b : List Nat) : (∃ n u, lenR b = .ok n u ∧ giV (gl b 1) = .tup [.int .i64 n, .int .i64 (u : Int), .int .i64 0]) ∨ ∃ e, lenR b = .err e ∧ giV (gl b 1) = .tup [.int .i64 0, .int .i64 0, .int .i64 (ecode e)] := by
  unfold lenR
  cases gl b 1 with
  | ok z u => exact .inl ⟨_, _, rfl, rfl⟩
  | enc => exact .inr ⟨true, rfl, rfl⟩
  | trunc => exact .inr ⟨false, rfl, rfl⟩
theorem wireGetBytes {h : Heap} {nx lo : Nat} {v : AVal} {b : List Nat} (hv : SlB 1 h lo v (bys b)) (hb : ∀ x ∈ b, x < 256) (hlen : b.length < 68000000000) : AC EX 82 [v] ⟨h, nx⟩ (fun w d' => d' = ⟨h, nx⟩ ∧ w = rrV .str (.str []) (gb b)) := by
  have hL : AC EX 162 [v, .int .i64 1] ⟨h, nx⟩ (fun w d' => d' = ⟨h, nx⟩ ∧ w = giV (gl b 1)) := wireLength (least := 1) hv hb (by decide) (by decide) hlen
  refine AC.of_wp' (size := 27) f82 rfl rfl ?_
  refine wp_seq (wp_region ?_)
  repeat refine wpO_pure (by simp +decide only [go_sem]) (by conv => lhs; simp +decide only [go_sem]) ?_
  rw [wpO_nil]
  refine wp_seq (wp_region ?_)
  repeat refine wpO_pure (by simp +decide only [go_sem]) (by conv => lhs; simp +decide only [go_sem]) ?_
  refine wpO_call (by simp +decide only [go_sem]) (by conv => lhs; simp +decide only [go_sem]) n162 hL ?_
  intro w d ⟨hd, hw⟩
  subst hd
  rcases lenR_cases b with ⟨n, u, h1, h2⟩ | ⟨e, h1, h2⟩
  · rw [h2] at hw
    subst hw
    obtain ⟨k1, k2, k3, k4, k5⟩ := lenR_ok h1
    obtain ⟨m, rfl⟩ := Int.eq_ofNat_of_zero_le k4
    have e1 : IntKind.i64.wrap ((u : Int) + (m : Int)) = ((u + m : Nat) : Int) := by rw [wi64 (by omega) (by omega)]; omega
    repeat refine wpO_pure (by simp +decide only [go_sem]) (by conv => lhs; simp +decide only [go_sem]) ?_
    rw [wpO_nil]
    refine wp_seq (wp_seq (wp_region ?_))
    repeat refine wpO_pure (by simp +decide only [go_sem]) (by conv => lhs; simp +decide only [go_sem]) ?_
    rw [wpO_nil]
    refine wp_cond (x := false) (by simp +decide only [go_sem]; try rfl) (wp_skip ?_)
    refine wp_seq (wp_region ?_)
    repeat refine wpO_pure (by simp +decide only [go_sem]) (by conv => lhs; simp +decide only [go_sem]) ?_
    refine wpO_cut (a := u) (b := u + m) (len := b.length) (by simp +decide only [go_sem]) rfl hv.toP (by decide) u30 s5 (by simp +decide only [go_sem]) (by simp [bys]) ?_ ?_ (by omega) (by omega) ?_
    · simp +decide only [go_sem, Option.map_some]
      exact LoB.some
    · simp +decide only [go_sem, Option.map_some, e1]
      exact HiB.some
    intro v' hv'
    rw [cut_bys] at hv'
    refine wpO_pure (by simp +decide only [go_sem]) (by conv => lhs; simp +decide only [go_sem, conv_bys hv' (fun x hx => hb x (mem_cut hx))]) ?_
    repeat refine wpO_pure (by simp +decide only [go_sem]) (by conv => lhs; simp +decide only [go_sem, e1]) ?_
    rw [wpO_nil]
    refine wp_ret rfl ⟨.inr rfl, _, res_three (u := .str ((b.take (u + m)).drop u)) (v := .int .i64 ((u + m : Nat) : Int)) (w := .int .i64 0) (by simp +decide only [go_sem]) (by simp +decide only [go_sem]) (by simp +decide only [go_sem]) rfl rfl rfl, rfl, ?_⟩
    unfold gb
    rw [h1]
    show ret1 _ = rrV _ _ (.ok ((b.drop u).take m) (u + m))
    rw [List.drop_take, Nat.add_sub_cancel_left]; rfl
  · rw [h2] at hw
    subst hw
    have hne := ecode_ne e
    repeat refine wpO_pure (by simp +decide only [go_sem]) (by conv => lhs; simp +decide only [go_sem]) ?_
    rw [wpO_nil]
    refine wp_seq (wp_seq (wp_region ?_))
    repeat refine wpO_pure (by simp +decide only [go_sem]) (by conv => lhs; simp +decide only [go_sem]) ?_
    rw [wpO_nil]
    refine wp_cond (x := true) (by simp +decide only [go_sem, hne]; try rfl) ?_
    refine wp_seq (wp_region ?_)
    repeat refine wpO_pure (by simp +decide only [go_sem]) (by conv => lhs; simp +decide only [go_sem]) ?_
    rw [wpO_nil]
    refine wp_ret rfl ⟨.inr rfl, _, res_three (u := .str []) (v := .int .i64 0) (w := .int .i64 (ecode e)) (by simp +decide only [go_sem]) (by simp +decide only [go_sem]) (by simp +decide only [go_sem]) rfl rfl rfl, rfl, ?_⟩
    unfold gb
    rw [h1]; rfl
set_option maxHeartbeats 1000000 in
theorem refGetBytes {h : Heap} {nx lo : Nat} {v : AVal} {b : List Nat} (hv : SlB 1 h lo v (bys b)) (hb : ∀ x ∈ b, x < 256) (hlen : b.length < 68000000000) : AC EX 86 [v] ⟨h, nx⟩ (fun w d' => d' = ⟨h, nx⟩ ∧ w = rrV .str (.str []) (gb b)) := by
  have hsl := hv.len
  rw [bys_len] at hsl
  refine AC.of_wp' (size := 35) f86 rfl rfl ?_
  refine wp_seq (wp_region ?_)
  repeat refine wpO_pure (by simp +decide only [go_sem]) (by conv => lhs; simp +decide only [go_sem]) ?_
  rw [wpO_nil]
  refine wp_seq (wp_region ?_)
  repeat refine wpO_pure (by simp +decide only [go_sem]) (by conv => lhs; simp +decide only [go_sem]) ?_
  refine wpO_call (by simp +decide only [go_sem]) (by conv => lhs; simp +decide only [go_sem]) n85 (refGetInt hv hb hlen) ?_
  intro w d ⟨hd, hw⟩
  subst hd
  rcases giR_cases (gi 0 0 b) with ⟨z, u, hgi⟩ | ⟨e, he1, he2⟩
  · rw [hgi] at hw
    subst hw
    unfold giV
    obtain ⟨_, hub, hu⟩ := gi_used b 0 0 (by decide) hgi
    repeat refine wpO_pure (by simp +decide only [go_sem]) (by conv => lhs; simp +decide only [go_sem]) ?_
    rw [wpO_nil]
    refine wp_seq (wp_seq (wp_region ?_))
    repeat refine wpO_pure (by simp +decide only [go_sem]) (by conv => lhs; simp +decide only [go_sem]) ?_
    rw [wpO_nil]
    refine wp_cond (x := false) (by simp +decide only [go_sem]; try rfl) (wp_skip ?_)
    refine wp_seq (wp_seq (wp_region ?_))
    repeat refine wpO_pure (by simp +decide only [go_sem]) (by conv => lhs; simp +decide only [go_sem]) ?_
    rw [wpO_nil]
    refine wp_cond (x := decide (unzz z < 0)) (by simp +decide only [go_sem]) ?_
    by_cases hn : unzz z < 0
    · rw [show decide (unzz z < 0) = true from by simpa using hn]
      refine wp_seq (wp_region ?_)
      repeat refine wpO_pure (by simp +decide only [go_sem]) (by conv => lhs; simp +decide only [go_sem]) ?_
      rw [wpO_nil]
      refine wp_ret rfl ⟨.inr rfl, _, res_three (u := .str []) (v := .int .i64 0) (w := .int .i64 11) (by simp +decide only [go_sem]) (by simp +decide only [go_sem]) (by simp +decide only [go_sem]) rfl rfl rfl, rfl, ?_⟩
      unfold gb lenR gl; rw [hgi]; dsimp only; rw [if_pos hn]; rfl
    · rw [show decide (unzz z < 0) = false from by simpa using hn]
      have hq : IntKind.i64.wrap ((b.length : Int) - (u : Int)) = ((b.length - u : Nat) : Int) := by
        rw [wi64 (by omega) (by omega)]; omega
      refine wp_skip (wp_seq (wp_seq (wp_region ?_)))
      repeat refine wpO_pure (by simp +decide only [go_sem]) (by conv => lhs; simp +decide only [go_sem, len30 hsl, hq]) ?_
      rw [wpO_nil]
      refine wp_cond (x := decide (((b.length - u : Nat) : Int) < unzz z)) (by simp +decide only [go_sem]) ?_
      by_cases hb2 : ((b.length - u : Nat) : Int) < unzz z
      · rw [show decide (((b.length - u : Nat) : Int) < unzz z) = true from by simpa using hb2]
        refine wp_seq (wp_region ?_)
        repeat refine wpO_pure (by simp +decide only [go_sem]) (by conv => lhs; simp +decide only [go_sem]) ?_
        rw [wpO_nil]
        refine wp_ret rfl ⟨.inr rfl, _, res_three (u := .str []) (v := .int .i64 0) (w := .int .i64 10) (by simp +decide only [go_sem]) (by simp +decide only [go_sem]) (by simp +decide only [go_sem]) rfl rfl rfl, rfl, ?_⟩
        unfold gb lenR gl; rw [hgi]; dsimp only; rw [if_neg hn, Nat.div_one, if_pos hb2]; rfl
      · rw [show decide (((b.length - u : Nat) : Int) < unzz z) = false from by simpa using hb2]
        have h1 : lenR b = .ok (unzz z) u := by
          unfold lenR gl; rw [hgi]; dsimp only; rw [if_neg hn, Nat.div_one, if_neg hb2]; rfl
        obtain ⟨m, hm⟩ := Int.eq_ofNat_of_zero_le (show 0 ≤ unzz z by omega)
        rw [hm] at h1 hb2
        rw [hm]
        have e1 : IntKind.i64.wrap ((u : Int) + (m : Int)) = ((u + m : Nat) : Int) := by rw [wi64 (by omega) (by omega)]; omega
        refine wp_skip (wp_seq (wp_region ?_))
        repeat refine wpO_pure (by simp +decide only [go_sem]) (by conv => lhs; simp +decide only [go_sem]) ?_
        refine wpO_cut (a := u) (b := u + m) (len := b.length) (by simp +decide only [go_sem]) rfl hv.toP (by decide) u30 s5 (by simp +decide only [go_sem]) (by simp [bys]) ?_ ?_ (by omega) (by omega) ?_
        · simp +decide only [go_sem, Option.map_some]
          exact LoB.some
        · simp +decide only [go_sem, Option.map_some, e1]
          exact HiB.some
        intro v' hv'
        rw [cut_bys] at hv'
        refine wpO_pure (by simp +decide only [go_sem]) (by conv => lhs; simp +decide only [go_sem, conv_bys hv' (fun x hx => hb x (mem_cut hx))]) ?_
        repeat refine wpO_pure (by simp +decide only [go_sem]) (by conv => lhs; simp +decide only [go_sem, e1]) ?_
        rw [wpO_nil]
        refine wp_ret rfl ⟨.inr rfl, _, res_three (u := .str ((b.take (u + m)).drop u)) (v := .int .i64 ((u + m : Nat) : Int)) (w := .int .i64 0) (by simp +decide only [go_sem]) (by simp +decide only [go_sem]) (by simp +decide only [go_sem]) rfl rfl rfl, rfl, ?_⟩
        unfold gb
        rw [h1]
        show ret1 _ = rrV _ _ (.ok ((b.drop u).take m) (u + m))
        rw [List.drop_take, Nat.add_sub_cancel_left]; rfl
  · rw [he2] at hw
    subst hw
    have hne := ecode_ne e
    repeat refine wpO_pure (by simp +decide only [go_sem]) (by conv => lhs; simp +decide only [go_sem]) ?_
    rw [wpO_nil]
    refine wp_seq (wp_seq (wp_region ?_))
    repeat refine wpO_pure (by simp +decide only [go_sem]) (by conv => lhs; simp +decide only [go_sem]) ?_
    rw [wpO_nil]
    refine wp_cond (x := true) (by simp +decide only [go_sem, hne]; try rfl) ?_
    refine wp_seq (wp_region ?_)
    repeat refine wpO_pure (by simp +decide only [go_sem]) (by conv => lhs; simp +decide only [go_sem]) ?_
    rw [wpO_nil]
    refine wp_ret rfl ⟨.inr rfl, _, res_three (u := .str []) (v := .int .i64 0) (w := .int .i64 (ecode e)) (by simp +decide only [go_sem]) (by simp +decide only [go_sem]) (by simp +decide only [go_sem]) rfl rfl rfl, rfl, ?_⟩
    have : lenR b = .err e := by
      unfold lenR gl
      cases hg : gi 0 0 b with
      | ok z u => rw [hg] at he1; cases he1
      | enc => rw [hg] at he1; exact he1
      | trunc => rw [hg] at he1; exact he1
    unfold gb
    rw [this]; rfl
end Go.Ev
end
section
open Go Go.Proofs Go.RowKit
set_option linter.unusedVariables false
set_option linter.unusedSimpArgs false
set_option maxRecDepth 100000
namespace Go.Ev
/-- So many values, one behind another. -/
def rdN {α : Type} (one : List Nat → RR α) : Nat → List Nat → RR (List α)
  | 0, _ => .ok [] 0
  | n + 1, b => match one b with
    | .ok x u => (match rdN one n (b.drop u) with
      | .ok l w => .ok (x :: l) (u + w)
      | .err e => .err e)
    | .err e => .err e
def preR {α : Type} (acc : List α) (w : Nat) : RR (List α) → RR (List α)
  | .ok l u => .ok (acc ++ l) (w + u)
  | .err e => .err e
def getN {α : Type} (one : List Nat → RR α) (b : List Nat) : RR (List α) := match lenR b with
  | .ok n u => preR [] u (rdN one n.toNat (b.drop u))
  | .err e => .err e
theorem preR_step {α : Type} {one : List Nat → RR α} {acc : List α} {w n u : Nat} {b : List Nat} {x : α} (h : one b = .ok x u) : preR acc w (rdN one (n + 1) b) = preR (acc ++ [x]) (w + u) (rdN one n (b.drop u)) := by
  show preR acc w (match one b with
    | .ok x u => (match rdN one n (b.drop u) with
      | .ok l w => .ok (x :: l) (u + w)
      | .err e => .err e)
    | .err e => .err e) = _
  rw [h]
  dsimp only
  cases rdN one n (b.drop u) with
  | ok l w' => simp [preR, Nat.add_assoc]
  | err e => rfl
theorem preR_err {α : Type} {one : List Nat → RR α} {acc : List α} {w n : Nat} {b : List Nat} {e : Bool} (h : one b = .err e) : preR acc w (rdN one (n + 1) b) = .err e := by
  show preR acc w (match one b with
    | .ok x u => (match rdN one n (b.drop u) with
      | .ok l w => .ok (x :: l) (u + w)
      | .err e => .err e)
    | .err e => .err e) = _
  rw [h]; rfl
/-- What the reading of a list leaves. -/
def GP {α : Type} (f : α → AVal) (h : Heap) (nx : Nat) (r : RR (List α)) (w : AVal) (d' : D) : Prop :=
  nx ≤ d'.nx ∧ Keep nx h d'.h ∧ match r with
    | .ok l u => ∃ s, w = .tup [s, .int .i64 (u : Int), .int .i64 0] ∧ Own 1 d'.h nx d'.nx s (l.map f)
    | .err e => w = .tup [.nilslice, .int .i64 0, .int .i64 (ecode e)]
theorem wireG1 {h : Heap} {nx lo : Nat} {v : AVal} {b : List Nat} (hv : SlB 1 h lo v (bys b)) (hb : ∀ x ∈ b, x < 256) (hlen : b.length < 68000000000) : AC EX 80 [v] ⟨h, nx⟩ (fun w d' => d' = ⟨h, nx⟩ ∧ w = rrV intV (intV 0) (g1 b)) :=
  (wireGetInt hv hb).mono fun w d' ⟨h1, h2⟩ => ⟨h1, by rw [h2, giV_rr]; rfl⟩
theorem refG1 {h : Heap} {nx lo : Nat} {v : AVal} {b : List Nat} (hv : SlB 1 h lo v (bys b)) (hb : ∀ x ∈ b, x < 256) (hlen : b.length < 68000000000) : AC EX 85 [v] ⟨h, nx⟩ (fun w d' => d' = ⟨h, nx⟩ ∧ w = rrV intV (intV 0) (g1 b)) :=
  (refGetInt hv hb hlen).mono fun w d' ⟨h1, h2⟩ => ⟨h1, by rw [h2, giV_rr]; rfl⟩
theorem g1_used' {b : List Nat} {x : Int} {u : Nat} (h : g1 b = .ok x u) : 0 < u ∧ u ≤ b.length := let ⟨h1, h2, _⟩ := g1_used h; ⟨h1, h2⟩
theorem gb_used' {b : List Nat} {x : List Nat} {u : Nat} (h : gb b = .ok x u) : 0 < u ∧ u ≤ b.length := let ⟨h1, h2, _⟩ := gb_used h; ⟨h1, h2⟩

set_option maxHeartbeats 2000000 in
theorem wireGetI {h : Heap} {nx lo : Nat} (hlo : lo ≤ nx) {v : AVal} {b : List Nat} (hv : SlB 1 h lo v (bys b)) (hb : ∀ x ∈ b, x < 256) (hlen : b.length < 60000000000) : AC EX 79 [v, .int .i64 1, .func (.func 80) [] []] ⟨h, nx⟩ (GP intV h nx (getN g1 b)) := by
  have hL : AC EX 162 [v, .int .i64 1] ⟨h, nx⟩ (fun w d' => d' = ⟨h, nx⟩ ∧ w = giV (gl b 1)) := wireLength (least := 1) hv hb (by decide) (by decide) (by omega)
  refine AC.of_wp' (size := 51) f79 rfl rfl ?_
  refine wp_seq (wp_region ?_)
  repeat refine wpO_pure (by simp +decide only [go_sem]) (by conv => lhs; simp +decide only [go_sem]) ?_
  rw [wpO_nil]
  refine wp_seq (wp_region ?_)
  repeat refine wpO_pure (by simp +decide only [go_sem]) (by conv => lhs; simp +decide only [go_sem]) ?_
  refine wpO_call (by simp +decide only [go_sem]) (by conv => lhs; simp +decide only [go_sem]) n162 hL ?_
  intro w d ⟨hd, hw⟩
  subst hd
  rcases lenR_cases b with ⟨n, u, h1, h2⟩ | ⟨e, h1, h2⟩
  · rw [h2] at hw
    subst hw
    obtain ⟨k1, k2, k3, k4, k5⟩ := lenR_ok h1
    obtain ⟨m, rfl⟩ := Int.eq_ofNat_of_zero_le k4
    repeat refine wpO_pure (by simp +decide only [go_sem]) (by conv => lhs; simp +decide only [go_sem]) ?_
    rw [wpO_nil]
    refine wp_seq (wp_seq (wp_region ?_))
    repeat refine wpO_pure (by simp +decide only [go_sem]) (by conv => lhs; simp +decide only [go_sem]) ?_
    rw [wpO_nil]
    refine wp_cond (x := false) (by simp +decide only [go_sem]; try rfl) (wp_skip ?_)
    refine wp_seq (wp_region ?_)
    repeat refine wpO_pure (by simp +decide only [go_sem]) (by conv => lhs; simp +decide only [go_sem]) ?_
    rw [wpO_nil]
    refine wp_seq (wp_seq (wp_region ?_))
    repeat refine wpO_pure (by simp +decide only [go_sem]) (by conv => lhs; simp +decide only [go_sem]) ?_
    rw [wpO_nil]
    refine wp_block (wp_while (α := Nat) (fun i => m - i) (fun i t d => i ≤ m ∧ getT t 0 = v ∧ getT t 2 = .func (.func 80) [] [] ∧ getT t 26 = .int .i64 (m : Int) ∧ getT t 27 = .int .i64 (i : Int) ∧ ∃ (w : AVal) (acc : List Int) (pos : Nat), getT t 12 = w ∧ getT t 10 = .int .i64 (pos : Int) ∧ u ≤ pos ∧ pos ≤ b.length ∧ acc.length ≤ pos ∧ nx ≤ d.nx ∧ Own 1 d.h nx d.nx w (acc.map intV) ∧ Keep nx h d.h ∧ preR [] u (rdN g1 m (b.drop u)) = preR acc pos (rdN g1 (m - i) (b.drop pos))) ?_ (a := 0) ?_)
    · intro i t d ⟨hi, h0, h2, h26, h27, w, acc, pos, h12, h10, hup, hpos, hacc, hnx, ho, hk, hE⟩
      obtain ⟨h', nx'⟩ := d
      dsimp only at hnx ho hk
      refine wp_seq (wp_region ?_)
      repeat refine wpO_pure (by simp +decide only [go_sem]) (by conv => lhs; simp +decide only [go_sem, h26, h27]) ?_
      rw [wpO_nil]
      refine wp_seq (wp_cond (by simp +decide only [go_sem]; rfl) ?_)
      by_cases hz : i < m
      · rw [show decide ((i : Int) < (m : Int)) = true from by simp; omega]
        refine wp_skip (wp_seq (wp_block (wp_seq (wp_region ?_))))
        iterate 3 refine wpO_pure (by simp +decide only [go_sem]) (by conv => lhs; simp +decide only [go_sem, h2, h0, h10]) ?_
        have hv2 := hv.keep (hk.mono hlo)
        refine wpO_cut (a := pos) (b := b.length) (len := b.length) (by simp +decide only [go_sem]) rfl hv2.toP (by decide) u30 s5 (by simp +decide only [go_sem]) (by simp [bys]) ?_ HiB.none (by omega) (by omega) ?_
        · simp +decide only [go_sem, Option.map_some]
          exact LoB.some
        intro v' hv'
        rw [cut_bys, List.take_length] at hv'
        refine wpO_call (by simp +decide only [go_sem]) (by conv => lhs; simp +decide only [go_sem]) n80 (wireG1 hv'.toB (fun x hx => hb x (List.mem_of_mem_drop hx)) (by rw [List.length_drop]; omega)) ?_
        intro w1 d ⟨hd, hw1⟩
        subst hd
        cases hone : g1 (b.drop pos) with
        | ok x u' =>
          rw [hone] at hw1
          subst hw1
          obtain ⟨q1, q2⟩ := g1_used' hone
          rw [List.length_drop] at q2
          unfold rrV
          repeat refine wpO_pure (by simp +decide only [go_sem]) (by conv => lhs; simp +decide only [go_sem, intV]) ?_
          rw [wpO_nil]
          refine wp_seq (wp_seq (wp_region ?_))
          repeat refine wpO_pure (by simp +decide only [go_sem]) (by conv => lhs; simp +decide only [go_sem]) ?_
          rw [wpO_nil]
          refine wp_cond (x := false) (by simp +decide only [go_sem]; try rfl) (wp_skip ?_)
          refine wp_region ?_
          iterate 2 refine wpO_pure (by simp +decide only [go_sem]) (by conv => lhs; simp +decide only [go_sem, h12]) ?_
          refine wpO_build (vs := [intV x]) (by simp +decide only [go_sem]) rfl u22 s3 z3 rfl ?_ rfl (by decide) (by decide) ?_ ?_
          · simp +decide only [go_sem, List.map_toArray, List.map_cons, List.map_nil]; rfl
          · intro v hv; simp at hv; subst hv; rfl
          intro cs hcs
          obtain ⟨a1, a2, a3⟩ := (Sl.built (h := h') (nx := nx') (n := 1) rfl hcs).first (by decide)
          refine wpO_append (lo := nx) (by simp +decide only [go_sem]) rfl rfl rfl rfl u22 u22 rfl s3 z3 b3 (by simp +decide only [go_sem, h12]) (by simp +decide only [go_sem]) (ho.keep (fun i h1 h2 => by rw [BT.get_put, if_neg (by omega)]) (Nat.le_succ _)) (by omega) ?_ a1 a3 ?_ ?_
          · simp
          · intro _; exact okA_of (by intro v hv; simp at hv; subst hv; rfl) (by decide) (by simp; omega)
          intro v3 h'' nx'' j1 j2 j3
          have e1 : IntKind.i64.wrap ((pos : Int) + (u' : Int)) = ((pos + u' : Nat) : Int) := by rw [wi64 (by omega) (by omega)]; omega
          repeat refine wpO_pure (by simp +decide only [go_sem]) (by conv => lhs; simp +decide only [go_sem, h10, e1]) ?_
          rw [wpO_nil]
          refine wp_region ?_
          repeat refine wpO_pure (by simp +decide only [go_sem]) (by conv => lhs; simp +decide only [go_sem, h27]) ?_
          rw [wpO_nil]
          refine ⟨i + 1, by omega, by omega, by simp +decide only [go_sem, h0], by simp +decide only [go_sem, h2], by simp +decide only [go_sem, h26], ?_, v3, acc ++ [x], pos + u', by simp +decide only [go_sem], by simp +decide only [go_sem], by omega, by omega, by simp; omega, by show nx ≤ nx''; omega, ?_, (hk.trans (Keep.put hnx)).trans j3, ?_⟩
          · simp +decide only [go_sem]
            rw [wi64 (by omega) (by omega)]; rfl
          · rw [List.map_append]; exact j2
          · rw [hE, show m - i = (m - (i + 1)) + 1 by omega, preR_step hone, List.drop_drop]
        | err e =>
          rw [hone] at hw1
          subst hw1
          have hne := ecode_ne e
          unfold rrV
          repeat refine wpO_pure (by simp +decide only [go_sem]) (by conv => lhs; simp +decide only [go_sem, intV]) ?_
          rw [wpO_nil]
          refine wp_seq (wp_seq (wp_region ?_))
          repeat refine wpO_pure (by simp +decide only [go_sem]) (by conv => lhs; simp +decide only [go_sem]) ?_
          rw [wpO_nil]
          refine wp_cond (x := true) (by simp +decide only [go_sem, hne]; try rfl) ?_
          refine wp_seq (wp_region ?_)
          repeat refine wpO_pure (by simp +decide only [go_sem]) (by conv => lhs; simp +decide only [go_sem]) ?_
          rw [wpO_nil]
          refine wp_ret rfl ⟨.inr rfl, _, res_three (u := .nilslice) (v := .int .i64 0) (w := .int .i64 (ecode e)) (by simp +decide only [go_sem]) (by simp +decide only [go_sem]) (by simp +decide only [go_sem]) rfl rfl rfl, hnx, hk, ?_⟩
          unfold getN
          rw [h1]
          dsimp only
          rw [show ((m : Int)).toNat = m from rfl, hE, show m - i = (m - (i + 1)) + 1 by omega, preR_err hone]; rfl
      · rw [show decide ((i : Int) < (m : Int)) = false from by simp; omega]
        refine wp_exit ?_
        refine wp_seq (wp_region ?_)
        repeat refine wpO_pure (by simp +decide only [go_sem]) (by conv => lhs; simp +decide only [go_sem, h12, h10]) ?_
        rw [wpO_nil]
        refine wp_ret rfl ⟨.inr rfl, _, res_three (u := w) (v := .int .i64 (pos : Int)) (w := .int .i64 0) (by simp +decide only [go_sem]) (by simp +decide only [go_sem]) (by simp +decide only [go_sem]) ho.notBot rfl rfl, hnx, hk, ?_⟩
        unfold getN
        rw [h1]
        dsimp only
        rw [show ((m : Int)).toNat = m from rfl, hE, show m - i = 0 by omega]
        exact ⟨w, rfl, by rw [List.append_nil]; exact ho⟩
    · exact ⟨Nat.zero_le _, by simp +decide only [go_sem], by simp +decide only [go_sem], by simp +decide only [go_sem]; try rfl, by simp +decide only [go_sem]; rfl, .nilslice, [], u, by simp +decide only [go_sem], by simp +decide only [go_sem], Nat.le_refl _, k2, Nat.zero_le _, Nat.le_refl _, .nil, Keep.refl _ _, rfl⟩
  · rw [h2] at hw
    subst hw
    have hne := ecode_ne e
    repeat refine wpO_pure (by simp +decide only [go_sem]) (by conv => lhs; simp +decide only [go_sem]) ?_
    rw [wpO_nil]
    refine wp_seq (wp_seq (wp_region ?_))
    repeat refine wpO_pure (by simp +decide only [go_sem]) (by conv => lhs; simp +decide only [go_sem]) ?_
    rw [wpO_nil]
    refine wp_cond (x := true) (by simp +decide only [go_sem, hne]; try rfl) ?_
    refine wp_seq (wp_region ?_)
    repeat refine wpO_pure (by simp +decide only [go_sem]) (by conv => lhs; simp +decide only [go_sem]) ?_
    rw [wpO_nil]
    refine wp_ret rfl ⟨.inr rfl, _, res_three (u := .nilslice) (v := .int .i64 0) (w := .int .i64 (ecode e)) (by simp +decide only [go_sem]) (by simp +decide only [go_sem]) (by simp +decide only [go_sem]) rfl rfl rfl, Nat.le_refl _, Keep.refl _ _, ?_⟩
    unfold getN
    rw [h1]; rfl
theorem wireGetInts {h : Heap} {nx lo : Nat} (hlo : lo ≤ nx) {v : AVal} {b : List Nat} (hv : SlB 1 h lo v (bys b)) (hb : ∀ x ∈ b, x < 256) (hlen : b.length < 60000000000) : AC EX 22 [v] ⟨h, nx⟩ (GP intV h nx (getN g1 b)) := by
  refine AC.of_wp' (size := 10) f22 rfl rfl ?_
  refine wp_seq (wp_region ?_)
  repeat refine wpO_pure (by simp +decide only [go_sem]) (by conv => lhs; simp +decide only [go_sem]) ?_
  rw [wpO_nil]
  refine wp_seq (wp_region ?_)
  repeat refine wpO_pure (by simp +decide only [go_sem]) (by conv => lhs; simp +decide only [go_sem]) ?_
  refine wpO_call (by simp +decide only [go_sem]) (by conv => lhs; simp +decide only [go_sem]) n79 (wireGetI hlo hv hb hlen) ?_
  intro w ⟨h', nx'⟩ ⟨j1, j2, j3⟩
  dsimp only at j1 j2 j3
  cases hr : getN g1 b with
  | ok l u =>
    rw [hr] at j3
    obtain ⟨s, rfl, ho⟩ := j3
    repeat refine wpO_pure (by simp +decide only [go_sem]) (by conv => lhs; simp +decide only [go_sem]) ?_
    rw [wpO_nil]
    exact wp_ret rfl ⟨.inr rfl, _, res_three (u := s) (v := .int .i64 (u : Int)) (w := .int .i64 0) (by simp +decide only [go_sem]) (by simp +decide only [go_sem]) (by simp +decide only [go_sem]) ho.notBot rfl rfl, j1, j2, ⟨s, rfl, ho⟩⟩
  | err e =>
    rw [hr] at j3
    dsimp only at j3
    subst j3
    repeat refine wpO_pure (by simp +decide only [go_sem]) (by conv => lhs; simp +decide only [go_sem]) ?_
    rw [wpO_nil]
    exact wp_ret rfl ⟨.inr rfl, _, res_three (u := .nilslice) (v := .int .i64 0) (w := .int .i64 (ecode e)) (by simp +decide only [go_sem]) (by simp +decide only [go_sem]) (by simp +decide only [go_sem]) rfl rfl rfl, j1, j2, rfl⟩

set_option maxHeartbeats 2000000 in
theorem wireGetS {h : Heap} {nx lo : Nat} (hlo : lo ≤ nx) {v : AVal} {b : List Nat} (hv : SlB 1 h lo v (bys b)) (hb : ∀ x ∈ b, x < 256) (hlen : b.length < 60000000000) : AC EX 81 [v, .int .i64 1, .func (.func 82) [] []] ⟨h, nx⟩ (GP AVal.str h nx (getN gb b)) := by
  have hL : AC EX 162 [v, .int .i64 1] ⟨h, nx⟩ (fun w d' => d' = ⟨h, nx⟩ ∧ w = giV (gl b 1)) := wireLength (least := 1) hv hb (by decide) (by decide) (by omega)
  refine AC.of_wp' (size := 51) f81 rfl rfl ?_
  refine wp_seq (wp_region ?_)
  repeat refine wpO_pure (by simp +decide only [go_sem]) (by conv => lhs; simp +decide only [go_sem]) ?_
  rw [wpO_nil]
  refine wp_seq (wp_region ?_)
  repeat refine wpO_pure (by simp +decide only [go_sem]) (by conv => lhs; simp +decide only [go_sem]) ?_
  refine wpO_call (by simp +decide only [go_sem]) (by conv => lhs; simp +decide only [go_sem]) n162 hL ?_
  intro w d ⟨hd, hw⟩
  subst hd
  rcases lenR_cases b with ⟨n, u, h1, h2⟩ | ⟨e, h1, h2⟩
  · rw [h2] at hw
    subst hw
    obtain ⟨k1, k2, k3, k4, k5⟩ := lenR_ok h1
    obtain ⟨m, rfl⟩ := Int.eq_ofNat_of_zero_le k4
    repeat refine wpO_pure (by simp +decide only [go_sem]) (by conv => lhs; simp +decide only [go_sem]) ?_
    rw [wpO_nil]
    refine wp_seq (wp_seq (wp_region ?_))
    repeat refine wpO_pure (by simp +decide only [go_sem]) (by conv => lhs; simp +decide only [go_sem]) ?_
    rw [wpO_nil]
    refine wp_cond (x := false) (by simp +decide only [go_sem]; try rfl) (wp_skip ?_)
    refine wp_seq (wp_region ?_)
    repeat refine wpO_pure (by simp +decide only [go_sem]) (by conv => lhs; simp +decide only [go_sem]) ?_
    rw [wpO_nil]
    refine wp_seq (wp_seq (wp_region ?_))
    repeat refine wpO_pure (by simp +decide only [go_sem]) (by conv => lhs; simp +decide only [go_sem]) ?_
    rw [wpO_nil]
    refine wp_block (wp_while (α := Nat) (fun i => m - i) (fun i t d => i ≤ m ∧ getT t 0 = v ∧ getT t 2 = .func (.func 82) [] [] ∧ getT t 26 = .int .i64 (m : Int) ∧ getT t 27 = .int .i64 (i : Int) ∧ ∃ (w : AVal) (acc : List (List Nat)) (pos : Nat), getT t 12 = w ∧ getT t 10 = .int .i64 (pos : Int) ∧ u ≤ pos ∧ pos ≤ b.length ∧ acc.length ≤ pos ∧ nx ≤ d.nx ∧ Own 1 d.h nx d.nx w (acc.map AVal.str) ∧ Keep nx h d.h ∧ preR [] u (rdN gb m (b.drop u)) = preR acc pos (rdN gb (m - i) (b.drop pos))) ?_ (a := 0) ?_)
    · intro i t d ⟨hi, h0, h2, h26, h27, w, acc, pos, h12, h10, hup, hpos, hacc, hnx, ho, hk, hE⟩
      obtain ⟨h', nx'⟩ := d
      dsimp only at hnx ho hk
      refine wp_seq (wp_region ?_)
      repeat refine wpO_pure (by simp +decide only [go_sem]) (by conv => lhs; simp +decide only [go_sem, h26, h27]) ?_
      rw [wpO_nil]
      refine wp_seq (wp_cond (by simp +decide only [go_sem]; rfl) ?_)
      by_cases hz : i < m
      · rw [show decide ((i : Int) < (m : Int)) = true from by simp; omega]
        refine wp_skip (wp_seq (wp_block (wp_seq (wp_region ?_))))
        iterate 3 refine wpO_pure (by simp +decide only [go_sem]) (by conv => lhs; simp +decide only [go_sem, h2, h0, h10]) ?_
        have hv2 := hv.keep (hk.mono hlo)
        refine wpO_cut (a := pos) (b := b.length) (len := b.length) (by simp +decide only [go_sem]) rfl hv2.toP (by decide) u30 s5 (by simp +decide only [go_sem]) (by simp [bys]) ?_ HiB.none (by omega) (by omega) ?_
        · simp +decide only [go_sem, Option.map_some]
          exact LoB.some
        intro v' hv'
        rw [cut_bys, List.take_length] at hv'
        refine wpO_call (by simp +decide only [go_sem]) (by conv => lhs; simp +decide only [go_sem]) n82 (wireGetBytes hv'.toB (fun x hx => hb x (List.mem_of_mem_drop hx)) (by rw [List.length_drop]; omega)) ?_
        intro w1 d ⟨hd, hw1⟩
        subst hd
        cases hone : gb (b.drop pos) with
        | ok x u' =>
          rw [hone] at hw1
          subst hw1
          obtain ⟨q1, q2⟩ := gb_used' hone
          rw [List.length_drop] at q2
          unfold rrV
          repeat refine wpO_pure (by simp +decide only [go_sem]) (by conv => lhs; simp +decide only [go_sem]) ?_
          rw [wpO_nil]
          refine wp_seq (wp_seq (wp_region ?_))
          repeat refine wpO_pure (by simp +decide only [go_sem]) (by conv => lhs; simp +decide only [go_sem]) ?_
          rw [wpO_nil]
          refine wp_cond (x := false) (by simp +decide only [go_sem]; try rfl) (wp_skip ?_)
          refine wp_region ?_
          iterate 2 refine wpO_pure (by simp +decide only [go_sem]) (by conv => lhs; simp +decide only [go_sem, h12]) ?_
          refine wpO_build (vs := [AVal.str x]) (by simp +decide only [go_sem]) rfl u100 s9 z9 rfl ?_ rfl (by decide) (by decide) ?_ ?_
          · simp +decide only [go_sem, List.map_toArray, List.map_cons, List.map_nil]; rfl
          · intro v hv; simp at hv; subst hv; rfl
          intro cs hcs
          obtain ⟨a1, a2, a3⟩ := (Sl.built (h := h') (nx := nx') (n := 1) rfl hcs).first (by decide)
          refine wpO_append (lo := nx) (by simp +decide only [go_sem]) rfl rfl rfl rfl u100 u100 rfl s9 z9 b9 (by simp +decide only [go_sem, h12]) (by simp +decide only [go_sem]) (ho.keep (fun i h1 h2 => by rw [BT.get_put, if_neg (by omega)]) (Nat.le_succ _)) (by omega) ?_ a1 a3 ?_ ?_
          · simp
          · intro _; exact okA_of (by intro v hv; simp at hv; subst hv; rfl) (by decide) (by simp; omega)
          intro v3 h'' nx'' j1 j2 j3
          have e1 : IntKind.i64.wrap ((pos : Int) + (u' : Int)) = ((pos + u' : Nat) : Int) := by rw [wi64 (by omega) (by omega)]; omega
          repeat refine wpO_pure (by simp +decide only [go_sem]) (by conv => lhs; simp +decide only [go_sem, h10, e1]) ?_
          rw [wpO_nil]
          refine wp_region ?_
          repeat refine wpO_pure (by simp +decide only [go_sem]) (by conv => lhs; simp +decide only [go_sem, h27]) ?_
          rw [wpO_nil]
          refine ⟨i + 1, by omega, by omega, by simp +decide only [go_sem, h0], by simp +decide only [go_sem, h2], by simp +decide only [go_sem, h26], ?_, v3, acc ++ [x], pos + u', by simp +decide only [go_sem], by simp +decide only [go_sem], by omega, by omega, by simp; omega, by show nx ≤ nx''; omega, ?_, (hk.trans (Keep.put hnx)).trans j3, ?_⟩
          · simp +decide only [go_sem]
            rw [wi64 (by omega) (by omega)]; rfl
          · rw [List.map_append]; exact j2
          · rw [hE, show m - i = (m - (i + 1)) + 1 by omega, preR_step hone, List.drop_drop]
        | err e =>
          rw [hone] at hw1
          subst hw1
          have hne := ecode_ne e
          unfold rrV
          repeat refine wpO_pure (by simp +decide only [go_sem]) (by conv => lhs; simp +decide only [go_sem]) ?_
          rw [wpO_nil]
          refine wp_seq (wp_seq (wp_region ?_))
          repeat refine wpO_pure (by simp +decide only [go_sem]) (by conv => lhs; simp +decide only [go_sem]) ?_
          rw [wpO_nil]
          refine wp_cond (x := true) (by simp +decide only [go_sem, hne]; try rfl) ?_
          refine wp_seq (wp_region ?_)
          repeat refine wpO_pure (by simp +decide only [go_sem]) (by conv => lhs; simp +decide only [go_sem]) ?_
          rw [wpO_nil]
          refine wp_ret rfl ⟨.inr rfl, _, res_three (u := .nilslice) (v := .int .i64 0) (w := .int .i64 (ecode e)) (by simp +decide only [go_sem]) (by simp +decide only [go_sem]) (by simp +decide only [go_sem]) rfl rfl rfl, hnx, hk, ?_⟩
          unfold getN
          rw [h1]
          dsimp only
          rw [show ((m : Int)).toNat = m from rfl, hE, show m - i = (m - (i + 1)) + 1 by omega, preR_err hone]; rfl
      · rw [show decide ((i : Int) < (m : Int)) = false from by simp; omega]
        refine wp_exit ?_
        refine wp_seq (wp_region ?_)
        repeat refine wpO_pure (by simp +decide only [go_sem]) (by conv => lhs; simp +decide only [go_sem, h12, h10]) ?_
        rw [wpO_nil]
        refine wp_ret rfl ⟨.inr rfl, _, res_three (u := w) (v := .int .i64 (pos : Int)) (w := .int .i64 0) (by simp +decide only [go_sem]) (by simp +decide only [go_sem]) (by simp +decide only [go_sem]) ho.notBot rfl rfl, hnx, hk, ?_⟩
        unfold getN
        rw [h1]
        dsimp only
        rw [show ((m : Int)).toNat = m from rfl, hE, show m - i = 0 by omega]
        exact ⟨w, rfl, by rw [List.append_nil]; exact ho⟩
    · exact ⟨Nat.zero_le _, by simp +decide only [go_sem], by simp +decide only [go_sem], by simp +decide only [go_sem]; try rfl, by simp +decide only [go_sem]; rfl, .nilslice, [], u, by simp +decide only [go_sem], by simp +decide only [go_sem], Nat.le_refl _, k2, Nat.zero_le _, Nat.le_refl _, .nil, Keep.refl _ _, rfl⟩
  · rw [h2] at hw
    subst hw
    have hne := ecode_ne e
    repeat refine wpO_pure (by simp +decide only [go_sem]) (by conv => lhs; simp +decide only [go_sem]) ?_
    rw [wpO_nil]
    refine wp_seq (wp_seq (wp_region ?_))
    repeat refine wpO_pure (by simp +decide only [go_sem]) (by conv => lhs; simp +decide only [go_sem]) ?_
    rw [wpO_nil]
    refine wp_cond (x := true) (by simp +decide only [go_sem, hne]; try rfl) ?_
    refine wp_seq (wp_region ?_)
    repeat refine wpO_pure (by simp +decide only [go_sem]) (by conv => lhs; simp +decide only [go_sem]) ?_
    rw [wpO_nil]
    refine wp_ret rfl ⟨.inr rfl, _, res_three (u := .nilslice) (v := .int .i64 0) (w := .int .i64 (ecode e)) (by simp +decide only [go_sem]) (by simp +decide only [go_sem]) (by simp +decide only [go_sem]) rfl rfl rfl, Nat.le_refl _, Keep.refl _ _, ?_⟩
    unfold getN
    rw [h1]; rfl
theorem wireGetStrings {h : Heap} {nx lo : Nat} (hlo : lo ≤ nx) {v : AVal} {b : List Nat} (hv : SlB 1 h lo v (bys b)) (hb : ∀ x ∈ b, x < 256) (hlen : b.length < 60000000000) : AC EX 23 [v] ⟨h, nx⟩ (GP AVal.str h nx (getN gb b)) := by
  refine AC.of_wp' (size := 10) f23 rfl rfl ?_
  refine wp_seq (wp_region ?_)
  repeat refine wpO_pure (by simp +decide only [go_sem]) (by conv => lhs; simp +decide only [go_sem]) ?_
  rw [wpO_nil]
  refine wp_seq (wp_region ?_)
  repeat refine wpO_pure (by simp +decide only [go_sem]) (by conv => lhs; simp +decide only [go_sem]) ?_
  refine wpO_call (by simp +decide only [go_sem]) (by conv => lhs; simp +decide only [go_sem]) n81 (wireGetS hlo hv hb hlen) ?_
  intro w ⟨h', nx'⟩ ⟨j1, j2, j3⟩
  dsimp only at j1 j2 j3
  cases hr : getN gb b with
  | ok l u =>
    rw [hr] at j3
    obtain ⟨s, rfl, ho⟩ := j3
    repeat refine wpO_pure (by simp +decide only [go_sem]) (by conv => lhs; simp +decide only [go_sem]) ?_
    rw [wpO_nil]
    exact wp_ret rfl ⟨.inr rfl, _, res_three (u := s) (v := .int .i64 (u : Int)) (w := .int .i64 0) (by simp +decide only [go_sem]) (by simp +decide only [go_sem]) (by simp +decide only [go_sem]) ho.notBot rfl rfl, j1, j2, ⟨s, rfl, ho⟩⟩
  | err e =>
    rw [hr] at j3
    dsimp only at j3
    subst j3
    repeat refine wpO_pure (by simp +decide only [go_sem]) (by conv => lhs; simp +decide only [go_sem]) ?_
    rw [wpO_nil]
    exact wp_ret rfl ⟨.inr rfl, _, res_three (u := .nilslice) (v := .int .i64 0) (w := .int .i64 (ecode e)) (by simp +decide only [go_sem]) (by simp +decide only [go_sem]) (by simp +decide only [go_sem]) rfl rfl rfl, j1, j2, rfl⟩
end Go.Ev
end
section
open Go Go.Proofs Go.RowKit
set_option linter.unusedVariables false
set_option linter.unusedSimpArgs false
set_option maxRecDepth 100000
namespace Go.Ev

set_option maxHeartbeats 2000000 in
theorem refGetInts {h : Heap} {nx lo : Nat} (hlo : lo ≤ nx) {v : AVal} {b : List Nat} (hv : SlB 1 h lo v (bys b)) (hb : ∀ x ∈ b, x < 256) (hlen : b.length < 60000000000) : AC EX 26 [v] ⟨h, nx⟩ (GP intV h nx (getN g1 b)) := by
  have hL : AC EX 84 [v, .int .i64 1] ⟨h, nx⟩ (fun w d' => d' = ⟨h, nx⟩ ∧ w = giV (gl b 1)) := refLength (least := 1) hv hb (by decide) (by decide) (by omega)
  refine AC.of_wp' (size := 47) f26 rfl rfl ?_
  refine wp_seq (wp_region ?_)
  repeat refine wpO_pure (by simp +decide only [go_sem]) (by conv => lhs; simp +decide only [go_sem]) ?_
  rw [wpO_nil]
  refine wp_seq (wp_region ?_)
  repeat refine wpO_pure (by simp +decide only [go_sem]) (by conv => lhs; simp +decide only [go_sem]) ?_
  refine wpO_call (by simp +decide only [go_sem]) (by conv => lhs; simp +decide only [go_sem]) n84 hL ?_
  intro w d ⟨hd, hw⟩
  subst hd
  rcases lenR_cases b with ⟨n, u, h1, h2⟩ | ⟨e, h1, h2⟩
  · rw [h2] at hw
    subst hw
    obtain ⟨k1, k2, k3, k4, k5⟩ := lenR_ok h1
    obtain ⟨m, rfl⟩ := Int.eq_ofNat_of_zero_le k4
    repeat refine wpO_pure (by simp +decide only [go_sem]) (by conv => lhs; simp +decide only [go_sem]) ?_
    rw [wpO_nil]
    refine wp_seq (wp_seq (wp_region ?_))
    repeat refine wpO_pure (by simp +decide only [go_sem]) (by conv => lhs; simp +decide only [go_sem]) ?_
    rw [wpO_nil]
    refine wp_cond (x := false) (by simp +decide only [go_sem]; try rfl) (wp_skip ?_)
    refine wp_seq (wp_region ?_)
    repeat refine wpO_pure (by simp +decide only [go_sem]) (by conv => lhs; simp +decide only [go_sem]) ?_
    rw [wpO_nil]
    refine wp_seq (wp_seq (wp_region ?_))
    repeat refine wpO_pure (by simp +decide only [go_sem]) (by conv => lhs; simp +decide only [go_sem]) ?_
    rw [wpO_nil]
    refine wp_block (wp_while (α := Nat) (fun i => m - i) (fun i t d => i ≤ m ∧ getT t 0 = v ∧ getT t 5 = .int .i64 (m : Int) ∧ getT t 9 = .int .i64 (i : Int) ∧ ∃ (w : AVal) (acc : List Int) (pos : Nat), getT t 8 = w ∧ getT t 6 = .int .i64 (pos : Int) ∧ u ≤ pos ∧ pos ≤ b.length ∧ acc.length ≤ pos ∧ nx ≤ d.nx ∧ Own 1 d.h nx d.nx w (acc.map intV) ∧ Keep nx h d.h ∧ preR [] u (rdN g1 m (b.drop u)) = preR acc pos (rdN g1 (m - i) (b.drop pos))) ?_ (a := 0) ?_)
    · intro i t d ⟨hi, h0, h5, h9, w, acc, pos, h8, h6, hup, hpos, hacc, hnx, ho, hk, hE⟩
      obtain ⟨h', nx'⟩ := d
      dsimp only at hnx ho hk
      refine wp_seq (wp_seq (wp_region ?_))
      repeat refine wpO_pure (by simp +decide only [go_sem]) (by conv => lhs; simp +decide only [go_sem, h5, h9]) ?_
      rw [wpO_nil]
      refine wp_cond (by simp +decide only [go_sem]; rfl) ?_
      by_cases hz : i < m
      · rw [show decide ((i : Int) < (m : Int)) = true from by simp; omega]
        refine wp_skip (wp_seq (wp_block (wp_seq (wp_region ?_))))
        iterate 2 refine wpO_pure (by simp +decide only [go_sem]) (by conv => lhs; simp +decide only [go_sem, h0, h6]) ?_
        have hv2 := hv.keep (hk.mono hlo)
        refine wpO_cut (a := pos) (b := b.length) (len := b.length) (by simp +decide only [go_sem]) rfl hv2.toP (by decide) u30 s5 (by simp +decide only [go_sem]) (by simp [bys]) ?_ HiB.none (by omega) (by omega) ?_
        · simp +decide only [go_sem, Option.map_some]
          exact LoB.some
        intro v' hv'
        rw [cut_bys, List.take_length] at hv'
        refine wpO_call (by simp +decide only [go_sem]) (by conv => lhs; simp +decide only [go_sem]) n85 (refG1 hv'.toB (fun x hx => hb x (List.mem_of_mem_drop hx)) (by rw [List.length_drop]; omega)) ?_
        intro w1 d ⟨hd, hw1⟩
        subst hd
        cases hone : g1 (b.drop pos) with
        | ok x u' =>
          rw [hone] at hw1
          subst hw1
          obtain ⟨q1, q2⟩ := g1_used' hone
          rw [List.length_drop] at q2
          unfold rrV
          repeat refine wpO_pure (by simp +decide only [go_sem]) (by conv => lhs; simp +decide only [go_sem, intV]) ?_
          rw [wpO_nil]
          refine wp_seq (wp_seq (wp_region ?_))
          repeat refine wpO_pure (by simp +decide only [go_sem]) (by conv => lhs; simp +decide only [go_sem]) ?_
          rw [wpO_nil]
          refine wp_cond (x := false) (by simp +decide only [go_sem]; try rfl) (wp_skip ?_)
          refine wp_seq (wp_region ?_)
          iterate 2 refine wpO_pure (by simp +decide only [go_sem]) (by conv => lhs; simp +decide only [go_sem, h8]) ?_
          refine wpO_build (vs := [intV x]) (by simp +decide only [go_sem]) rfl u22 s3 z3 rfl ?_ rfl (by decide) (by decide) ?_ ?_
          · simp +decide only [go_sem, List.map_toArray, List.map_cons, List.map_nil]; rfl
          · intro v hv; simp at hv; subst hv; rfl
          intro cs hcs
          obtain ⟨a1, a2, a3⟩ := (Sl.built (h := h') (nx := nx') (n := 1) rfl hcs).first (by decide)
          refine wpO_append (lo := nx) (by simp +decide only [go_sem]) rfl rfl rfl rfl u22 u22 rfl s3 z3 b3 (by simp +decide only [go_sem, h8]) (by simp +decide only [go_sem]) (ho.keep (fun i h1 h2 => by rw [BT.get_put, if_neg (by omega)]) (Nat.le_succ _)) (by omega) ?_ a1 a3 ?_ ?_
          · simp
          · intro _; exact okA_of (by intro v hv; simp at hv; subst hv; rfl) (by decide) (by simp; omega)
          intro v3 h'' nx'' j1 j2 j3
          have e1 : IntKind.i64.wrap ((pos : Int) + (u' : Int)) = ((pos + u' : Nat) : Int) := by rw [wi64 (by omega) (by omega)]; omega
          repeat refine wpO_pure (by simp +decide only [go_sem]) (by conv => lhs; simp +decide only [go_sem]) ?_
          rw [wpO_nil]
          refine wp_region ?_
          repeat refine wpO_pure (by simp +decide only [go_sem]) (by conv => lhs; simp +decide only [go_sem, h6, e1]) ?_
          rw [wpO_nil]
          refine wp_region ?_
          repeat refine wpO_pure (by simp +decide only [go_sem]) (by conv => lhs; simp +decide only [go_sem, h9]) ?_
          rw [wpO_nil]
          refine ⟨i + 1, by omega, by omega, by simp +decide only [go_sem, h0], by simp +decide only [go_sem, h5], ?_, v3, acc ++ [x], pos + u', by simp +decide only [go_sem], by simp +decide only [go_sem], by omega, by omega, by simp; omega, by show nx ≤ nx''; omega, ?_, (hk.trans (Keep.put hnx)).trans j3, ?_⟩
          · simp +decide only [go_sem]
            rw [wi64 (by omega) (by omega)]; rfl
          · rw [List.map_append]; exact j2
          · rw [hE, show m - i = (m - (i + 1)) + 1 by omega, preR_step hone, List.drop_drop]
        | err e =>
          rw [hone] at hw1
          subst hw1
          have hne := ecode_ne e
          unfold rrV
          repeat refine wpO_pure (by simp +decide only [go_sem]) (by conv => lhs; simp +decide only [go_sem, intV]) ?_
          rw [wpO_nil]
          refine wp_seq (wp_seq (wp_region ?_))
          repeat refine wpO_pure (by simp +decide only [go_sem]) (by conv => lhs; simp +decide only [go_sem]) ?_
          rw [wpO_nil]
          refine wp_cond (x := true) (by simp +decide only [go_sem, hne]; try rfl) ?_
          refine wp_seq (wp_region ?_)
          repeat refine wpO_pure (by simp +decide only [go_sem]) (by conv => lhs; simp +decide only [go_sem]) ?_
          rw [wpO_nil]
          refine wp_ret rfl ⟨.inr rfl, _, res_three (u := .nilslice) (v := .int .i64 0) (w := .int .i64 (ecode e)) (by simp +decide only [go_sem]) (by simp +decide only [go_sem]) (by simp +decide only [go_sem]) rfl rfl rfl, hnx, hk, ?_⟩
          unfold getN
          rw [h1]
          dsimp only
          rw [show ((m : Int)).toNat = m from rfl, hE, show m - i = (m - (i + 1)) + 1 by omega, preR_err hone]; rfl
      · rw [show decide ((i : Int) < (m : Int)) = false from by simp; omega]
        refine wp_exit ?_
        refine wp_seq (wp_region ?_)
        repeat refine wpO_pure (by simp +decide only [go_sem]) (by conv => lhs; simp +decide only [go_sem, h8, h6]) ?_
        rw [wpO_nil]
        refine wp_ret rfl ⟨.inr rfl, _, res_three (u := w) (v := .int .i64 (pos : Int)) (w := .int .i64 0) (by simp +decide only [go_sem]) (by simp +decide only [go_sem]) (by simp +decide only [go_sem]) ho.notBot rfl rfl, hnx, hk, ?_⟩
        unfold getN
        rw [h1]
        dsimp only
        rw [show ((m : Int)).toNat = m from rfl, hE, show m - i = 0 by omega]
        exact ⟨w, rfl, by rw [List.append_nil]; exact ho⟩
    · exact ⟨Nat.zero_le _, by simp +decide only [go_sem], by simp +decide only [go_sem]; try rfl, by simp +decide only [go_sem]; rfl, .nilslice, [], u, by simp +decide only [go_sem], by simp +decide only [go_sem], Nat.le_refl _, k2, Nat.zero_le _, Nat.le_refl _, .nil, Keep.refl _ _, rfl⟩
  · rw [h2] at hw
    subst hw
    have hne := ecode_ne e
    repeat refine wpO_pure (by simp +decide only [go_sem]) (by conv => lhs; simp +decide only [go_sem]) ?_
    rw [wpO_nil]
    refine wp_seq (wp_seq (wp_region ?_))
    repeat refine wpO_pure (by simp +decide only [go_sem]) (by conv => lhs; simp +decide only [go_sem]) ?_
    rw [wpO_nil]
    refine wp_cond (x := true) (by simp +decide only [go_sem, hne]; try rfl) ?_
    refine wp_seq (wp_region ?_)
    repeat refine wpO_pure (by simp +decide only [go_sem]) (by conv => lhs; simp +decide only [go_sem]) ?_
    rw [wpO_nil]
    refine wp_ret rfl ⟨.inr rfl, _, res_three (u := .nilslice) (v := .int .i64 0) (w := .int .i64 (ecode e)) (by simp +decide only [go_sem]) (by simp +decide only [go_sem]) (by simp +decide only [go_sem]) rfl rfl rfl, Nat.le_refl _, Keep.refl _ _, ?_⟩
    unfold getN
    rw [h1]; rfl

set_option maxHeartbeats 2000000 in
theorem refGetStrings {h : Heap} {nx lo : Nat} (hlo : lo ≤ nx) {v : AVal} {b : List Nat} (hv : SlB 1 h lo v (bys b)) (hb : ∀ x ∈ b, x < 256) (hlen : b.length < 60000000000) : AC EX 27 [v] ⟨h, nx⟩ (GP AVal.str h nx (getN gb b)) := by
  have hL : AC EX 84 [v, .int .i64 1] ⟨h, nx⟩ (fun w d' => d' = ⟨h, nx⟩ ∧ w = giV (gl b 1)) := refLength (least := 1) hv hb (by decide) (by decide) (by omega)
  refine AC.of_wp' (size := 47) f27 rfl rfl ?_
  refine wp_seq (wp_region ?_)
  repeat refine wpO_pure (by simp +decide only [go_sem]) (by conv => lhs; simp +decide only [go_sem]) ?_
  rw [wpO_nil]
  refine wp_seq (wp_region ?_)
  repeat refine wpO_pure (by simp +decide only [go_sem]) (by conv => lhs; simp +decide only [go_sem]) ?_
  refine wpO_call (by simp +decide only [go_sem]) (by conv => lhs; simp +decide only [go_sem]) n84 hL ?_
  intro w d ⟨hd, hw⟩
  subst hd
  rcases lenR_cases b with ⟨n, u, h1, h2⟩ | ⟨e, h1, h2⟩
  · rw [h2] at hw
    subst hw
    obtain ⟨k1, k2, k3, k4, k5⟩ := lenR_ok h1
    obtain ⟨m, rfl⟩ := Int.eq_ofNat_of_zero_le k4
    repeat refine wpO_pure (by simp +decide only [go_sem]) (by conv => lhs; simp +decide only [go_sem]) ?_
    rw [wpO_nil]
    refine wp_seq (wp_seq (wp_region ?_))
    repeat refine wpO_pure (by simp +decide only [go_sem]) (by conv => lhs; simp +decide only [go_sem]) ?_
    rw [wpO_nil]
    refine wp_cond (x := false) (by simp +decide only [go_sem]; try rfl) (wp_skip ?_)
    refine wp_seq (wp_region ?_)
    repeat refine wpO_pure (by simp +decide only [go_sem]) (by conv => lhs; simp +decide only [go_sem]) ?_
    rw [wpO_nil]
    refine wp_seq (wp_seq (wp_region ?_))
    repeat refine wpO_pure (by simp +decide only [go_sem]) (by conv => lhs; simp +decide only [go_sem]) ?_
    rw [wpO_nil]
    refine wp_block (wp_while (α := Nat) (fun i => m - i) (fun i t d => i ≤ m ∧ getT t 0 = v ∧ getT t 5 = .int .i64 (m : Int) ∧ getT t 9 = .int .i64 (i : Int) ∧ ∃ (w : AVal) (acc : List (List Nat)) (pos : Nat), getT t 8 = w ∧ getT t 6 = .int .i64 (pos : Int) ∧ u ≤ pos ∧ pos ≤ b.length ∧ acc.length ≤ pos ∧ nx ≤ d.nx ∧ Own 1 d.h nx d.nx w (acc.map AVal.str) ∧ Keep nx h d.h ∧ preR [] u (rdN gb m (b.drop u)) = preR acc pos (rdN gb (m - i) (b.drop pos))) ?_ (a := 0) ?_)
    · intro i t d ⟨hi, h0, h5, h9, w, acc, pos, h8, h6, hup, hpos, hacc, hnx, ho, hk, hE⟩
      obtain ⟨h', nx'⟩ := d
      dsimp only at hnx ho hk
      refine wp_seq (wp_seq (wp_region ?_))
      repeat refine wpO_pure (by simp +decide only [go_sem]) (by conv => lhs; simp +decide only [go_sem, h5, h9]) ?_
      rw [wpO_nil]
      refine wp_cond (by simp +decide only [go_sem]; rfl) ?_
      by_cases hz : i < m
      · rw [show decide ((i : Int) < (m : Int)) = true from by simp; omega]
        refine wp_skip (wp_seq (wp_block (wp_seq (wp_region ?_))))
        iterate 2 refine wpO_pure (by simp +decide only [go_sem]) (by conv => lhs; simp +decide only [go_sem, h0, h6]) ?_
        have hv2 := hv.keep (hk.mono hlo)
        refine wpO_cut (a := pos) (b := b.length) (len := b.length) (by simp +decide only [go_sem]) rfl hv2.toP (by decide) u30 s5 (by simp +decide only [go_sem]) (by simp [bys]) ?_ HiB.none (by omega) (by omega) ?_
        · simp +decide only [go_sem, Option.map_some]
          exact LoB.some
        intro v' hv'
        rw [cut_bys, List.take_length] at hv'
        refine wpO_call (by simp +decide only [go_sem]) (by conv => lhs; simp +decide only [go_sem]) n86 (refGetBytes hv'.toB (fun x hx => hb x (List.mem_of_mem_drop hx)) (by rw [List.length_drop]; omega)) ?_
        intro w1 d ⟨hd, hw1⟩
        subst hd
        cases hone : gb (b.drop pos) with
        | ok x u' =>
          rw [hone] at hw1
          subst hw1
          obtain ⟨q1, q2⟩ := gb_used' hone
          rw [List.length_drop] at q2
          unfold rrV
          repeat refine wpO_pure (by simp +decide only [go_sem]) (by conv => lhs; simp +decide only [go_sem]) ?_
          rw [wpO_nil]
          refine wp_seq (wp_seq (wp_region ?_))
          repeat refine wpO_pure (by simp +decide only [go_sem]) (by conv => lhs; simp +decide only [go_sem]) ?_
          rw [wpO_nil]
          refine wp_cond (x := false) (by simp +decide only [go_sem]; try rfl) (wp_skip ?_)
          refine wp_seq (wp_region ?_)
          iterate 2 refine wpO_pure (by simp +decide only [go_sem]) (by conv => lhs; simp +decide only [go_sem, h8]) ?_
          refine wpO_build (vs := [AVal.str x]) (by simp +decide only [go_sem]) rfl u100 s9 z9 rfl ?_ rfl (by decide) (by decide) ?_ ?_
          · simp +decide only [go_sem, List.map_toArray, List.map_cons, List.map_nil]; rfl
          · intro v hv; simp at hv; subst hv; rfl
          intro cs hcs
          obtain ⟨a1, a2, a3⟩ := (Sl.built (h := h') (nx := nx') (n := 1) rfl hcs).first (by decide)
          refine wpO_append (lo := nx) (by simp +decide only [go_sem]) rfl rfl rfl rfl u100 u100 rfl s9 z9 b9 (by simp +decide only [go_sem, h8]) (by simp +decide only [go_sem]) (ho.keep (fun i h1 h2 => by rw [BT.get_put, if_neg (by omega)]) (Nat.le_succ _)) (by omega) ?_ a1 a3 ?_ ?_
          · simp
          · intro _; exact okA_of (by intro v hv; simp at hv; subst hv; rfl) (by decide) (by simp; omega)
          intro v3 h'' nx'' j1 j2 j3
          have e1 : IntKind.i64.wrap ((pos : Int) + (u' : Int)) = ((pos + u' : Nat) : Int) := by rw [wi64 (by omega) (by omega)]; omega
          repeat refine wpO_pure (by simp +decide only [go_sem]) (by conv => lhs; simp +decide only [go_sem]) ?_
          rw [wpO_nil]
          refine wp_region ?_
          repeat refine wpO_pure (by simp +decide only [go_sem]) (by conv => lhs; simp +decide only [go_sem, h6, e1]) ?_
          rw [wpO_nil]
          refine wp_region ?_
          repeat refine wpO_pure (by simp +decide only [go_sem]) (by conv => lhs; simp +decide only [go_sem, h9]) ?_
          rw [wpO_nil]
          refine ⟨i + 1, by omega, by omega, by simp +decide only [go_sem, h0], by simp +decide only [go_sem, h5], ?_, v3, acc ++ [x], pos + u', by simp +decide only [go_sem], by simp +decide only [go_sem], by omega, by omega, by simp; omega, by show nx ≤ nx''; omega, ?_, (hk.trans (Keep.put hnx)).trans j3, ?_⟩
          · simp +decide only [go_sem]
            rw [wi64 (by omega) (by omega)]; rfl
          · rw [List.map_append]; exact j2
          · rw [hE, show m - i = (m - (i + 1)) + 1 by omega, preR_step hone, List.drop_drop]
        | err e =>
          rw [hone] at hw1
          subst hw1
          have hne := ecode_ne e
          unfold rrV
          repeat refine wpO_pure (by simp +decide only [go_sem]) (by conv => lhs; simp +decide only [go_sem]) ?_
          rw [wpO_nil]
          refine wp_seq (wp_seq (wp_region ?_))
          repeat refine wpO_pure (by simp +decide only [go_sem]) (by conv => lhs; simp +decide only [go_sem]) ?_
          rw [wpO_nil]
          refine wp_cond (x := true) (by simp +decide only [go_sem, hne]; try rfl) ?_
          refine wp_seq (wp_region ?_)
          repeat refine wpO_pure (by simp +decide only [go_sem]) (by conv => lhs; simp +decide only [go_sem]) ?_
          rw [wpO_nil]
          refine wp_ret rfl ⟨.inr rfl, _, res_three (u := .nilslice) (v := .int .i64 0) (w := .int .i64 (ecode e)) (by simp +decide only [go_sem]) (by simp +decide only [go_sem]) (by simp +decide only [go_sem]) rfl rfl rfl, hnx, hk, ?_⟩
          unfold getN
          rw [h1]
          dsimp only
          rw [show ((m : Int)).toNat = m from rfl, hE, show m - i = (m - (i + 1)) + 1 by omega, preR_err hone]; rfl
      · rw [show decide ((i : Int) < (m : Int)) = false from by simp; omega]
        refine wp_exit ?_
        refine wp_seq (wp_region ?_)
        repeat refine wpO_pure (by simp +decide only [go_sem]) (by conv => lhs; simp +decide only [go_sem, h8, h6]) ?_
        rw [wpO_nil]
        refine wp_ret rfl ⟨.inr rfl, _, res_three (u := w) (v := .int .i64 (pos : Int)) (w := .int .i64 0) (by simp +decide only [go_sem]) (by simp +decide only [go_sem]) (by simp +decide only [go_sem]) ho.notBot rfl rfl, hnx, hk, ?_⟩
        unfold getN
        rw [h1]
        dsimp only
        rw [show ((m : Int)).toNat = m from rfl, hE, show m - i = 0 by omega]
        exact ⟨w, rfl, by rw [List.append_nil]; exact ho⟩
    · exact ⟨Nat.zero_le _, by simp +decide only [go_sem], by simp +decide only [go_sem]; try rfl, by simp +decide only [go_sem]; rfl, .nilslice, [], u, by simp +decide only [go_sem], by simp +decide only [go_sem], Nat.le_refl _, k2, Nat.zero_le _, Nat.le_refl _, .nil, Keep.refl _ _, rfl⟩
  · rw [h2] at hw
    subst hw
    have hne := ecode_ne e
    repeat refine wpO_pure (by simp +decide only [go_sem]) (by conv => lhs; simp +decide only [go_sem]) ?_
    rw [wpO_nil]
    refine wp_seq (wp_seq (wp_region ?_))
    repeat refine wpO_pure (by simp +decide only [go_sem]) (by conv => lhs; simp +decide only [go_sem]) ?_
    rw [wpO_nil]
    refine wp_cond (x := true) (by simp +decide only [go_sem, hne]; try rfl) ?_
    refine wp_seq (wp_region ?_)
    repeat refine wpO_pure (by simp +decide only [go_sem]) (by conv => lhs; simp +decide only [go_sem]) ?_
    rw [wpO_nil]
    refine wp_ret rfl ⟨.inr rfl, _, res_three (u := .nilslice) (v := .int .i64 0) (w := .int .i64 (ecode e)) (by simp +decide only [go_sem]) (by simp +decide only [go_sem]) (by simp +decide only [go_sem]) rfl rfl rfl, Nat.le_refl _, Keep.refl _ _, ?_⟩
    unfold getN
    rw [h1]; rfl
end Go.Ev
end
section
open Go Go.Proofs Go.RowKit
set_option linter.unusedVariables false
set_option linter.unusedSimpArgs false
set_option maxRecDepth 100000
namespace Go.Ev
/-- What take leaves. -/
def TK (h : Heap) (nx S n : Nat) (P : Nat → Prop) (L : List AVal) (cells : AVal → List AVal) (w : AVal) (d' : D) : Prop :=
  ∃ s a', w = .tup [s, .bool true] ∧ nx ≤ d'.nx ∧ KeepP (fun i => i < nx ∧ i ≠ S) h d'.h ∧ SlP 1 d'.h (fun i => nx ≤ i ∧ i < d'.nx) s (L.take n) ∧ Bx d'.h S (cells a') ∧ SlP 1 d'.h P a' (L.drop n)

theorem res_two {E : Env} {h : Heap} {t : BT AVal} {i j : Nat} {u v : AVal} (h1 : getT t i = u) (h2 : getT t j = v) (b1 : isBot u = false) (b2 : isBot v = false) : resultsV E h t [.tmp i, .tmp j] = some [u, v] := by
  simp only [resultsV, get_of h1 b1, get_of h2 b2]

set_option maxHeartbeats 1000000 in
theorem takeI {h : Heap} {nx S : Nat} {P : Nat → Prop} {a b c : AVal} {N : List Int} {n : Int} (hB : Bx h S [a, b, c]) (hS : S < nx) (hv : SlP 1 h P a (N.map intV)) (hP : ∀ i, P i → i < nx ∧ i ≠ S) (hlen : N.length < 60000000000) :
    AC EX 24 [.ptr S 0, .int .i64 n] ⟨h, nx⟩ (fun w d' => if 0 ≤ n ∧ n ≤ N.length then TK h nx S n.toNat P (N.map intV) (fun x => [x, b, c]) w d' else d' = ⟨h, nx⟩ ∧ w = .tup [.nilslice, .bool false]) := by
  have hsl := hv.lenN (by decide)
  rw [List.length_map, Nat.div_one] at hsl
  have hld : ∀ ty off, loadAt EX h ty S off = loadL EX ty [a, b, c] off := fun ty off => hB.load ty off
  refine AC.of_wp' (size := 32) f24 rfl rfl ?_
  refine wp_seq (wp_region ?_)
  repeat refine wpO_pure (by simp +decide only [go_sem]) (by conv => lhs; simp +decide only [go_sem]) ?_
  rw [wpO_nil]
  refine wp_seq (wp_seqR (fun t d => d = ⟨h, nx⟩ ∧ getT t 0 = .ptr S 0 ∧ getT t 1 = .int .i64 n ∧ getT t 4 = .nilslice ∧ getT t 5 = .bool false ∧ getT t 16 = .bool (decide (¬(0 ≤ n ∧ n ≤ N.length)))) (wp_region ?_) ?_)
  · by_cases h0 : n < 0
    · have e0 : decide (n < 0) = true := by simpa using h0
      iterate 3 refine wpO_pure (by simp +decide only [go_sem]) (by conv => lhs; simp +decide only [go_sem, e0]) ?_
      iterate 6 refine wpO_no (wanted_not rfl rfl (by simp +decide only [go_sem, e0]; try rfl)) ?_
      repeat refine wpO_pure (by simp +decide only [go_sem]) (by conv => lhs; simp +decide only [go_sem, e0]) ?_
      rw [wpO_nil]
      refine ⟨rfl, by simp +decide only [go_sem], by simp +decide only [go_sem], by simp +decide only [go_sem], by simp +decide only [go_sem], ?_⟩
      simp +decide only [go_sem, e0]
      exact congrArg AVal.bool (decide_eq_true (by omega)).symm
    · have e0 : decide (n < 0) = false := by simpa using h0
      iterate 3 refine wpO_pure (by simp +decide only [go_sem]) (by conv => lhs; simp +decide only [go_sem, e0]) ?_
      iterate 6 refine wpO_pure (wanted_yes rfl rfl (by simp +decide only [go_sem, e0, hld, len22 hsl])) (by conv => lhs; simp +decide only [go_sem, e0, hld, len22 hsl]) ?_
      repeat refine wpO_pure (by simp +decide only [go_sem]) (by conv => lhs; simp +decide only [go_sem, e0]) ?_
      rw [wpO_nil]
      refine ⟨rfl, by simp +decide only [go_sem], by simp +decide only [go_sem], by simp +decide only [go_sem], by simp +decide only [go_sem], ?_⟩
      simp +decide only [go_sem, e0]
      exact congrArg AVal.bool (decide_eq_decide.2 (by omega))
  · intro t d ⟨hd, h0, h1, h4, h5, h16⟩
    subst hd
    refine wp_cond (x := decide (¬(0 ≤ n ∧ n ≤ N.length))) (by simp +decide only [go_sem, h16]) ?_
    by_cases hn : 0 ≤ n ∧ n ≤ N.length
    · rw [show decide (¬(0 ≤ n ∧ n ≤ N.length)) = false from decide_eq_false (by omega)]
      obtain ⟨m, rfl⟩ := Int.eq_ofNat_of_zero_le hn.1
      have hmN : m ≤ N.length := by omega
      refine wp_skip (wp_seq (wp_region ?_))
      refine wpO_build0 (lo := nx) (by simp +decide only [go_sem]) rfl u22 s3 z3 (Nat.le_refl _) ?_
      intro h2 hG hs2
      have hB2 := hB.keep (hs2 S (by omega))
      have hv2 := hv.keep (hs2.toP (P := P) (fun e => by have := (hP _ e).1; omega))
      have hld2 : ∀ ty off, loadAt EX h2 ty S off = loadL EX ty [a, b, c] off := fun ty off => hB2.load ty off
      repeat refine wpO_pure (by simp +decide only [go_sem]) (by conv => lhs; simp +decide only [go_sem, h0, h1, hld2]) ?_
      refine wpO_cut (a := 0) (b := m) (len := N.length) (by simp +decide only [go_sem]) rfl hv2 (by decide) u22 s3 (by simp +decide only [go_sem]) (by simp) LoB.none ?_ (by omega) (by omega) ?_
      · simp +decide only [go_sem, h1, Option.map_some]
        exact HiB.some
      intro v' hv'
      refine wpO_appendG (by simp +decide only [go_sem]) rfl rfl rfl rfl u22 u22 rfl s3 z3 b3 (by simp +decide only [go_sem]) (by simp +decide only [go_sem]) hG (by omega) hv' (okA_of ?_ (by decide) ?_) ?_
      · intro x hx
        obtain ⟨y, _, rfl⟩ := List.mem_map.1 (List.mem_of_mem_take (List.mem_of_mem_drop hx))
        rfl
      · simp; omega
      intro v3 h3 nx3 g1 g2 g3
      repeat refine wpO_pure (by simp +decide only [go_sem]) (by conv => lhs; simp +decide only [go_sem]) ?_
      rw [wpO_nil]
      have hk3 : KeepP (fun i => i < nx) h h3 := (hs2.toP (P := fun i => i < nx) (by omega)).trans (g3.toP (fun i hi => hi))
      have hB3 := hB.keep (hk3 S hS)
      have hv3 := hv.keep (hk3.mono (fun i hi => (hP i hi).1))
      have hld3 : ∀ ty off, loadAt EX h3 ty S off = loadL EX ty [a, b, c] off := fun ty off => hB3.load ty off
      refine wp_seq (wp_region ?_)
      repeat refine wpO_pure (by simp +decide only [go_sem]) (by conv => lhs; simp +decide only [go_sem, h0, h1, hld3]) ?_
      refine wpO_cut (a := m) (b := N.length) (len := N.length) (by simp +decide only [go_sem]) rfl hv3 (by decide) u22 s3 (by simp +decide only [go_sem]) (by simp) ?_ HiB.none (by omega) (by omega) ?_
      · simp +decide only [go_sem, h1, Option.map_some]
        exact LoB.some
      intro v4 hv4
      repeat refine wpO_pure (by simp +decide only [go_sem]) (by conv => lhs; simp +decide only [go_sem]) ?_
      refine wpO_store1 (off := 0) (by simp +decide only [go_sem]) rfl hB3 (by simp +decide only [go_sem]) (by simp +decide only [go_sem]) s22 (by simp) hv4.cellOK ?_
      intro h4' hB4 hs4
      repeat refine wpO_pure (by simp +decide only [go_sem]) (by conv => lhs; simp +decide only [go_sem]) ?_
      rw [wpO_nil]
      refine wp_seq (wp_region ?_)
      repeat refine wpO_pure (by simp +decide only [go_sem]) (by conv => lhs; simp +decide only [go_sem]) ?_
      rw [wpO_nil]
      have hg4 := g2.keep (h' := h4') (fun i hi _ => hs4 i (by omega)) (Nat.le_refl _)
      refine wp_ret rfl ⟨.inr rfl, _, res_two (u := v3) (v := .bool true) (by simp +decide only [go_sem]) (by simp +decide only [go_sem]) hg4.notBot rfl, ?_⟩
      rw [if_pos hn]
      refine ⟨v3, v4, rfl, by show nx ≤ nx3; omega, ?_, ?_, hB4, ?_⟩
      · intro i ⟨hi1, hi2⟩
        exact (hs4 i hi2).trans (hk3 i hi1)
      · have := hg4.toP
        simpa using this
      · have := hv4.keep (hs4.toP (P := P) (fun e => (hP _ e).2 rfl))
        rw [List.take_of_length_le (by simp), Nat.mul_one] at this
        exact this
    · rw [show decide (¬(0 ≤ n ∧ n ≤ N.length)) = true from decide_eq_true (by omega)]
      refine wp_seq (wp_region ?_)
      repeat refine wpO_pure (by simp +decide only [go_sem]) (by conv => lhs; simp +decide only [go_sem]) ?_
      rw [wpO_nil]
      refine wp_ret rfl ⟨.inr rfl, _, res_two (u := .nilslice) (v := .bool false) (by simp +decide only [go_sem]) (by simp +decide only [go_sem]) rfl rfl, ?_⟩
      rw [if_neg hn]
      exact ⟨rfl, rfl⟩

set_option maxHeartbeats 1000000 in
theorem takeS {h : Heap} {nx S : Nat} {P : Nat → Prop} {a b c : AVal} {N : List (List Nat)} {n : Int} (hB : Bx h S [a, b, c]) (hS : S < nx) (hv : SlP 1 h P b (N.map AVal.str)) (hP : ∀ i, P i → i < nx ∧ i ≠ S) (hlen : N.length < 60000000000) :
    AC EX 83 [.ptr S 1, .int .i64 n] ⟨h, nx⟩ (fun w d' => if 0 ≤ n ∧ n ≤ N.length then TK h nx S n.toNat P (N.map AVal.str) (fun x => [a, x, c]) w d' else d' = ⟨h, nx⟩ ∧ w = .tup [.nilslice, .bool false]) := by
  have hsl := hv.lenN (by decide)
  rw [List.length_map, Nat.div_one] at hsl
  have hld : ∀ ty off, loadAt EX h ty S off = loadL EX ty [a, b, c] off := fun ty off => hB.load ty off
  refine AC.of_wp' (size := 32) f83 rfl rfl ?_
  refine wp_seq (wp_region ?_)
  repeat refine wpO_pure (by simp +decide only [go_sem]) (by conv => lhs; simp +decide only [go_sem]) ?_
  rw [wpO_nil]
  refine wp_seq (wp_seqR (fun t d => d = ⟨h, nx⟩ ∧ getT t 0 = .ptr S 1 ∧ getT t 1 = .int .i64 n ∧ getT t 4 = .nilslice ∧ getT t 5 = .bool false ∧ getT t 16 = .bool (decide (¬(0 ≤ n ∧ n ≤ N.length)))) (wp_region ?_) ?_)
  · by_cases h0 : n < 0
    · have e0 : decide (n < 0) = true := by simpa using h0
      iterate 3 refine wpO_pure (by simp +decide only [go_sem]) (by conv => lhs; simp +decide only [go_sem, e0]) ?_
      iterate 6 refine wpO_no (wanted_not rfl rfl (by simp +decide only [go_sem, e0]; try rfl)) ?_
      repeat refine wpO_pure (by simp +decide only [go_sem]) (by conv => lhs; simp +decide only [go_sem, e0]) ?_
      rw [wpO_nil]
      refine ⟨rfl, by simp +decide only [go_sem], by simp +decide only [go_sem], by simp +decide only [go_sem], by simp +decide only [go_sem], ?_⟩
      simp +decide only [go_sem, e0]
      exact congrArg AVal.bool (decide_eq_true (by omega)).symm
    · have e0 : decide (n < 0) = false := by simpa using h0
      iterate 3 refine wpO_pure (by simp +decide only [go_sem]) (by conv => lhs; simp +decide only [go_sem, e0]) ?_
      iterate 6 refine wpO_pure (wanted_yes rfl rfl (by simp +decide only [go_sem, e0, hld, len100 hsl])) (by conv => lhs; simp +decide only [go_sem, e0, hld, len100 hsl]) ?_
      repeat refine wpO_pure (by simp +decide only [go_sem]) (by conv => lhs; simp +decide only [go_sem, e0]) ?_
      rw [wpO_nil]
      refine ⟨rfl, by simp +decide only [go_sem], by simp +decide only [go_sem], by simp +decide only [go_sem], by simp +decide only [go_sem], ?_⟩
      simp +decide only [go_sem, e0]
      exact congrArg AVal.bool (decide_eq_decide.2 (by omega))
  · intro t d ⟨hd, h0, h1, h4, h5, h16⟩
    subst hd
    refine wp_cond (x := decide (¬(0 ≤ n ∧ n ≤ N.length))) (by simp +decide only [go_sem, h16]) ?_
    by_cases hn : 0 ≤ n ∧ n ≤ N.length
    · rw [show decide (¬(0 ≤ n ∧ n ≤ N.length)) = false from decide_eq_false (by omega)]
      obtain ⟨m, rfl⟩ := Int.eq_ofNat_of_zero_le hn.1
      have hmN : m ≤ N.length := by omega
      refine wp_skip (wp_seq (wp_region ?_))
      refine wpO_build0 (lo := nx) (by simp +decide only [go_sem]) rfl u100 s9 z9 (Nat.le_refl _) ?_
      intro h2 hG hs2
      have hB2 := hB.keep (hs2 S (by omega))
      have hv2 := hv.keep (hs2.toP (P := P) (fun e => by have := (hP _ e).1; omega))
      have hld2 : ∀ ty off, loadAt EX h2 ty S off = loadL EX ty [a, b, c] off := fun ty off => hB2.load ty off
      repeat refine wpO_pure (by simp +decide only [go_sem]) (by conv => lhs; simp +decide only [go_sem, h0, h1, hld2]) ?_
      refine wpO_cut (a := 0) (b := m) (len := N.length) (by simp +decide only [go_sem]) rfl hv2 (by decide) u100 s9 (by simp +decide only [go_sem]) (by simp) LoB.none ?_ (by omega) (by omega) ?_
      · simp +decide only [go_sem, h1, Option.map_some]
        exact HiB.some
      intro v' hv'
      refine wpO_appendG (by simp +decide only [go_sem]) rfl rfl rfl rfl u100 u100 rfl s9 z9 b9 (by simp +decide only [go_sem]) (by simp +decide only [go_sem]) hG (by omega) hv' (okA_of ?_ (by decide) ?_) ?_
      · intro x hx
        obtain ⟨y, _, rfl⟩ := List.mem_map.1 (List.mem_of_mem_take (List.mem_of_mem_drop hx))
        rfl
      · simp; omega
      intro v3 h3 nx3 g1 g2 g3
      repeat refine wpO_pure (by simp +decide only [go_sem]) (by conv => lhs; simp +decide only [go_sem]) ?_
      rw [wpO_nil]
      have hk3 : KeepP (fun i => i < nx) h h3 := (hs2.toP (P := fun i => i < nx) (by omega)).trans (g3.toP (fun i hi => hi))
      have hB3 := hB.keep (hk3 S hS)
      have hv3 := hv.keep (hk3.mono (fun i hi => (hP i hi).1))
      have hld3 : ∀ ty off, loadAt EX h3 ty S off = loadL EX ty [a, b, c] off := fun ty off => hB3.load ty off
      refine wp_seq (wp_region ?_)
      repeat refine wpO_pure (by simp +decide only [go_sem]) (by conv => lhs; simp +decide only [go_sem, h0, h1, hld3]) ?_
      refine wpO_cut (a := m) (b := N.length) (len := N.length) (by simp +decide only [go_sem]) rfl hv3 (by decide) u100 s9 (by simp +decide only [go_sem]) (by simp) ?_ HiB.none (by omega) (by omega) ?_
      · simp +decide only [go_sem, h1, Option.map_some]
        exact LoB.some
      intro v4 hv4
      repeat refine wpO_pure (by simp +decide only [go_sem]) (by conv => lhs; simp +decide only [go_sem]) ?_
      refine wpO_store1 (off := 1) (by simp +decide only [go_sem]) rfl hB3 (by simp +decide only [go_sem]) (by simp +decide only [go_sem]) s100 (by simp) hv4.cellOK ?_
      intro h4' hB4 hs4
      repeat refine wpO_pure (by simp +decide only [go_sem]) (by conv => lhs; simp +decide only [go_sem]) ?_
      rw [wpO_nil]
      refine wp_seq (wp_region ?_)
      repeat refine wpO_pure (by simp +decide only [go_sem]) (by conv => lhs; simp +decide only [go_sem]) ?_
      rw [wpO_nil]
      have hg4 := g2.keep (h' := h4') (fun i hi _ => hs4 i (by omega)) (Nat.le_refl _)
      refine wp_ret rfl ⟨.inr rfl, _, res_two (u := v3) (v := .bool true) (by simp +decide only [go_sem]) (by simp +decide only [go_sem]) hg4.notBot rfl, ?_⟩
      rw [if_pos hn]
      refine ⟨v3, v4, rfl, by show nx ≤ nx3; omega, ?_, ?_, hB4, ?_⟩
      · intro i ⟨hi1, hi2⟩
        exact (hs4 i hi2).trans (hk3 i hi1)
      · have := hg4.toP
        simpa using this
      · have := hv4.keep (hs4.toP (P := P) (fun e => (hP _ e).2 rfl))
        rw [List.take_of_length_le (by simp), Nat.mul_one] at this
        exact this
    · rw [show decide (¬(0 ≤ n ∧ n ≤ N.length)) = true from decide_eq_true (by omega)]
      refine wp_seq (wp_region ?_)
      repeat refine wpO_pure (by simp +decide only [go_sem]) (by conv => lhs; simp +decide only [go_sem]) ?_
      rw [wpO_nil]
      refine wp_ret rfl ⟨.inr rfl, _, res_two (u := .nilslice) (v := .bool false) (by simp +decide only [go_sem]) (by simp +decide only [go_sem]) rfl rfl, ?_⟩
      rw [if_neg hn]
      exact ⟨rfl, rfl⟩
end Go.Ev
end
