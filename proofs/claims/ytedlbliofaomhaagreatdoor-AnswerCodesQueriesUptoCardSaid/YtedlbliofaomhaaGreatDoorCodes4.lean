/- What the functions of the program and of the reference compute, over the abstract machine; the laws of what they compute. -/
import Derived.Test.YtedlbliofaomhaaGreatDoorCodes3
import Derived.Test.YtedlbliofaomhaaGreatDoorMachine7
set_option linter.all false
section
open Go Go.Proofs Go.RowKit
set_option linter.unusedVariables false
set_option linter.unusedSimpArgs false
set_option maxRecDepth 100000
namespace Go.Ev
def e13 (e : Int) : List AVal := [.nilslice, .int .i64 0, .int .i64 0, .int .i64 0, .str [], .int .i64 0, .int .i64 0, .str [], .nilslice, .int .i64 0, .int .i64 0, .int .i64 0, .int .i64 e]
theorem bld36e {e : Int} : buildV EX 36 [(1, .int .i64 e)] = some (.agg [.nilslice, .int .i64 0, .int .i64 0, .int .i64 0, .str [], .int .i64 0, .int .i64 0, .str [], .nilslice, .int .i64 0, .int .i64 0, .int .i64 0, .int .i64 e]) := by kernel_rfl
theorem bld36 {a b c d e f g h i j k l : AVal} : buildV EX 36 [(0, .agg [a, b, c, d, e, f, g, h, i, j, k, l])] = some (.agg [a, b, c, d, e, f, g, h, i, j, k, l, .int .i64 0]) := by kernel_rfl
theorem bld29b {v : AVal} {a b d e f : Int} (hv : (∃ id off len cap, v = .slice id off len cap) ∨ v = .nilslice ∨ v = .eslice) :
    buildV EX 29 [(1, .int .i64 a), (2, .int .i64 b), (4, .agg [.int .i64 d, .int .i64 e]), (5, .int .i64 f), (0, v)] = some (.agg [v, .int .i64 a, .int .i64 b, .int .i64 0, .str [], .int .i64 0, .int .i64 0, .str [], .nilslice, .int .i64 d, .int .i64 e, .int .i64 f]) := by
  rcases hv with ⟨x, y, z, c, rfl⟩ | rfl | rfl <;> kernel_rfl
/-- What the specification's reading of a query leaves. -/
def DR (h : Heap) (nx : Nat) (r : DQ) (w : AVal) (d' : D) : Prop := nx ≤ d'.nx ∧ Keep nx h d'.h ∧ match r with
  | .ok q => ∃ c, w = .agg (c ++ [.int .i64 0]) ∧ Qc d'.h (fun i => nx ≤ i ∧ i < d'.nx) q c
  | .err e => w = .agg (e13 e)
theorem e13_ok (e : Int) : ∀ v ∈ e13 e, cellOK v = true := by
  intro v hv
  simp only [e13, List.mem_cons, List.not_mem_nil, or_false] at hv
  rcases hv with rfl | rfl | rfl | rfl | rfl | rfl | rfl | rfl | rfl | rfl | rfl | rfl | rfl <;> rfl
set_option maxHeartbeats 8000000 in
theorem refDecodeQuery {h : Heap} {nx lo : Nat} (hlo : lo ≤ nx) {v : AVal} {b : List Nat} (hv : SlB 1 h lo v (bys b)) (hb : ∀ x ∈ b, x < 256) (hlen : b.length < 60000000000) : AC EX 6 [v] ⟨h, nx⟩ (DR h nx (dq b)) := by
  have hsl := hv.len
  rw [bys_len] at hsl
  refine AC.of_wp' (size := 124) f6 rfl rfl ?_
  refine wp_seq (wp_region ?_)
  refine wpO_alloc (by simp +decide only [go_sem]) rfl z36 ?_
  intro h1 hR1 hs1
  have hR1 : Bx h1 nx (e13 0) := hR1
  repeat refine wpO_pure (by simp +decide only [go_sem]) (by conv => lhs; simp +decide only [go_sem]) ?_
  rw [wpO_nil]
  have hk1 : Keep nx h h1 := hs1.keep (Nat.le_refl _)
  have hv1 := hv.keep (hk1.mono hlo)
  refine wp_seq (wp_region ?_)
  repeat refine wpO_pure (by simp +decide only [go_sem]) (by conv => lhs; simp +decide only [go_sem]) ?_
  refine wpO_call (by simp +decide only [go_sem]) (by conv => lhs; simp +decide only [go_sem]) n26 (refGetInts (lo := lo) (by omega) hv1 hb hlen) ?_
  intro w ⟨h2, nx2⟩ ⟨j1, j2, j3⟩
  dsimp only at j1 j2 j3
  have hR2 := hR1.keep (j2 nx (by omega))
  have hk2 : Keep nx h h2 := hk1.trans (j2.mono (by omega))
  cases hN : getN g1 b with
  | err e =>
    rw [hN] at j3
    dsimp only at j3
    subst j3
    have hne := ecode_ne e
    repeat refine wpO_pure (by simp +decide only [go_sem]) (by conv => lhs; simp +decide only [go_sem]) ?_
    rw [wpO_nil]
    refine wp_seq (wp_seq (wp_region ?_))
    repeat refine wpO_pure (by simp +decide only [go_sem]) (by conv => lhs; simp +decide only [go_sem]) ?_
    rw [wpO_nil]
    refine wp_cond (x := true) (by simp +decide only [go_sem, hne]; try rfl) ?_
    refine wp_seq (wp_region ?_)
    iterate 2 refine wpO_pure (by simp +decide only [go_sem]) (by conv => lhs; simp +decide only [go_sem, List.map_toArray, bld36e]) ?_
    refine wpO_storeA (off := 0) (vs := e13 (ecode e)) (by simp +decide only [go_sem]) rfl hR2 (by simp +decide only [go_sem]) (by simp +decide only [go_sem]; rfl) s36 rfl (by decide) (e13_ok _) ?_
    intro h3 hR3 hs3
    have hR3 : Bx h3 nx (e13 (ecode e)) := hR3
    rw [wpO_nil]
    refine wp_ret rfl ⟨.inr rfl, _, res_cell (P := nx) (v := .agg (e13 (ecode e))) (by simp +decide only [go_sem]) (by rw [hR3.load]; exact ll36 (by simp [e13])) rfl, ?_⟩
    refine ⟨by show nx ≤ nx2; omega, hk2.trans (hs3.keep (Nat.le_refl _)), ?_⟩
    unfold dq; rw [hN]; rfl
  | ok N x =>
  rw [hN] at j3
  obtain ⟨s1, rfl, o1⟩ := j3
  obtain ⟨hx1, hx2⟩ := getN_used (fun _ _ _ => g1_used') hN
  repeat refine wpO_pure (by simp +decide only [go_sem]) (by conv => lhs; simp +decide only [go_sem]) ?_
  rw [wpO_nil]
  refine wp_seq (wp_seq (wp_region ?_))
  repeat refine wpO_pure (by simp +decide only [go_sem]) (by conv => lhs; simp +decide only [go_sem]) ?_
  rw [wpO_nil]
  refine wp_cond (x := false) (by simp +decide only [go_sem]; try rfl) (wp_skip ?_)
  have hv2 := hv.keep (hk2.mono hlo)
  refine wp_seq (wp_region ?_)
  repeat refine wpO_pure (by simp +decide only [go_sem]) (by conv => lhs; simp +decide only [go_sem]) ?_
  refine wpO_cut (a := x) (b := b.length) (len := b.length) (by simp +decide only [go_sem]) rfl hv2.toP (by decide) u30 s5 (by simp +decide only [go_sem]) (by simp [bys]) ?_ HiB.none (by omega) (by omega) ?_
  · simp +decide only [go_sem, Option.map_some]
    exact LoB.some
  intro v' hv'
  rw [cut_bys, List.take_length] at hv'
  refine wpO_call (by simp +decide only [go_sem]) (by conv => lhs; simp +decide only [go_sem]) n27 (refGetStrings (lo := lo) (by omega) hv'.toB (fun x hx => hb x (List.mem_of_mem_drop hx)) (by rw [List.length_drop]; omega)) ?_
  intro w ⟨h3, nx3⟩ ⟨j1', j2', j3⟩
  dsimp only at j1' j2' j3
  have hR3 := hR2.keep (j2' nx (by omega))
  have hk3 : Keep nx h h3 := hk2.trans (j2'.mono (by omega))
  cases hT : getN gb (b.drop x) with
  | err e =>
    rw [hT] at j3
    dsimp only at j3
    subst j3
    have hne := ecode_ne e
    repeat refine wpO_pure (by simp +decide only [go_sem]) (by conv => lhs; simp +decide only [go_sem]) ?_
    rw [wpO_nil]
    refine wp_seq (wp_seq (wp_region ?_))
    repeat refine wpO_pure (by simp +decide only [go_sem]) (by conv => lhs; simp +decide only [go_sem]) ?_
    rw [wpO_nil]
    refine wp_cond (x := true) (by simp +decide only [go_sem, hne]; try rfl) ?_
    refine wp_seq (wp_region ?_)
    iterate 2 refine wpO_pure (by simp +decide only [go_sem]) (by conv => lhs; simp +decide only [go_sem, List.map_toArray, bld36e]) ?_
    refine wpO_storeA (off := 0) (vs := e13 (ecode e)) (by simp +decide only [go_sem]) rfl hR3 (by simp +decide only [go_sem]) (by simp +decide only [go_sem]; rfl) s36 rfl (by decide) (e13_ok _) ?_
    intro h4 hR4 hs4
    have hR4 : Bx h4 nx (e13 (ecode e)) := hR4
    rw [wpO_nil]
    refine wp_ret rfl ⟨.inr rfl, _, res_cell (P := nx) (v := .agg (e13 (ecode e))) (by simp +decide only [go_sem]) (by rw [hR4.load]; exact ll36 (by simp [e13])) rfl, ?_⟩
    refine ⟨by show nx ≤ nx3; omega, hk3.trans (hs4.keep (Nat.le_refl _)), ?_⟩
    unfold dq; rw [hN]; dsimp only; rw [hT]; rfl
  | ok T y =>
  rw [hT] at j3
  obtain ⟨s2, rfl, o2⟩ := j3
  obtain ⟨hy1, hy2⟩ := getN_used (fun _ _ _ => gb_used') hT
  rw [List.length_drop] at hy1
  have hdq : dq b = if x + y = b.length then dqN N T else .err 11 := by unfold dq; rw [hN]; dsimp only; rw [hT]
  have a3 := (o1.toP.keep (j2'.toP (fun i hi => hi.2))).mono (P' := fun i => nx + 1 ≤ i ∧ i < nx3) (fun i hi => ⟨hi.1, by omega⟩)
  have bb3 := o2.toP.mono (P' := fun i => nx + 1 ≤ i ∧ i < nx3) (fun i hi => ⟨by omega, hi.2⟩)
  repeat refine wpO_pure (by simp +decide only [go_sem]) (by conv => lhs; simp +decide only [go_sem]) ?_
  rw [wpO_nil]
  refine wp_seq (wp_seq (wp_region ?_))
  repeat refine wpO_pure (by simp +decide only [go_sem]) (by conv => lhs; simp +decide only [go_sem]) ?_
  rw [wpO_nil]
  refine wp_cond (x := false) (by simp +decide only [go_sem]; try rfl) (wp_skip ?_)
  have exy : IntKind.i64.wrap ((x : Int) + (y : Int)) = ((x + y : Nat) : Int) := by rw [wi64 (by omega) (by omega)]; omega
  have hsa := a3.lenN (by decide)
  rw [List.length_map, Nat.div_one] at hsa
  have hsb := bb3.lenN (by decide)
  rw [List.length_map, Nat.div_one] at hsb
  let C : Prop := x + y = b.length ∧ 6 ≤ N.length ∧ (0 : Int) ≤ (N[5]?).getD 0 ∧ (N[5]?).getD (0 : Int) ≤ (N.length : Int) - 6
  have hCd : Decidable C := by unfold C; infer_instance
  have e6 : ∀ m : Nat, m < 60000000000 → IntKind.i64.wrap ((m : Int) - 6) = (m : Int) - 6 := fun m hm => wi64 (by omega) (by omega)
  refine wp_seq (wp_seqR (fun t d => d = ⟨h3, nx3⟩ ∧ getT t 2 = .ptr nx 0 ∧ getT t 3 = s1 ∧ getT t 6 = s2 ∧ getT t 59 = .bool (decide (¬ C))) (wp_region ?_) ?_)
  · by_cases c1 : x + y = b.length
    · have d1 : decide (((x + y : Nat) : Int) = (b.length : Int)) = true := by simp; omega
      by_cases c2 : N.length < 6
      · have d2 : decide ((N.length : Int) < 6) = true := by simp; omega
        have hnC : ¬ C := fun h => by have := h.2.1; omega
        iterate 7 refine wpO_pure (by simp +decide only [go_sem]) (by conv => lhs; simp +decide only [go_sem, exy, len30 hsl, d1]) ?_
        iterate 3 refine wpO_pure (wanted_yes rfl rfl (by simp +decide only [go_sem, len22 hsa, d1, d2])) (by conv => lhs; simp +decide only [go_sem, len22 hsa, d1, d2]) ?_
        iterate 2 refine wpO_pure (by simp +decide only [go_sem]) (by conv => lhs; simp +decide only [go_sem, d2]) ?_
        iterate 4 refine wpO_no (wanted_not rfl rfl (by simp +decide only [go_sem, d2]; try rfl)) ?_
        iterate 2 refine wpO_pure (by simp +decide only [go_sem]) (by conv => lhs; simp +decide only [go_sem, d2]) ?_
        iterate 7 refine wpO_no (wanted_not rfl rfl (by simp +decide only [go_sem, d2]; try rfl)) ?_
        repeat refine wpO_pure (by simp +decide only [go_sem]) (by conv => lhs; simp +decide only [go_sem, d2]) ?_
        rw [wpO_nil]
        exact ⟨rfl, by simp +decide only [go_sem], by simp +decide only [go_sem], by simp +decide only [go_sem], by simp +decide only [go_sem]; rw [decide_eq_true hnC]⟩
      · have d2 : decide ((N.length : Int) < 6) = false := by simp; omega
        obtain ⟨k, wi, da, co, bu, l, N6, rfl⟩ : ∃ k wi da co bu l N6, N = k :: wi :: da :: co :: bu :: l :: N6 := by
          match N, c2 with
          | k :: wi :: da :: co :: bu :: l :: N6, _ => exact ⟨k, wi, da, co, bu, l, N6, rfl⟩
          | [], h => exact absurd (by simp) h
          | [_], h => exact absurd (by simp) h
          | [_, _], h => exact absurd (by simp) h
          | [_, _, _], h => exact absurd (by simp) h
          | [_, _, _, _], h => exact absurd (by simp) h
          | [_, _, _, _, _], h => exact absurd (by simp) h
        by_cases c3 : l < 0
        · have d3 : decide (l < 0) = true := by simpa using c3
          have hnC : ¬ C := fun h => by have : 0 ≤ l := h.2.2.1; omega
          iterate 7 refine wpO_pure (by simp +decide only [go_sem]) (by conv => lhs; simp +decide only [go_sem, exy, len30 hsl, d1]) ?_
          iterate 3 refine wpO_pure (wanted_yes rfl rfl (by simp +decide only [go_sem, len22 hsa, d1, d2])) (by conv => lhs; simp +decide only [go_sem, len22 hsa, d1, d2]) ?_
          iterate 2 refine wpO_pure (by simp +decide only [go_sem]) (by conv => lhs; simp +decide only [go_sem, d2]) ?_
          refine wpO_pure (wanted_yes rfl rfl (by simp +decide only [go_sem, d2])) (by conv => lhs; simp +decide only [go_sem, d2]) ?_
          refine wpO_index1 (i := 5) (j := .i64) (wanted_yes rfl rfl (by simp +decide only [go_sem, d2])) rfl a3 u22 s3 u3 rfl (by simp +decide only [go_sem]) rfl (by simp) ?_
          intro id off hld
          have hld : loadAt EX h3 3 id off = some (.int .i64 l) := hld
          iterate 2 refine wpO_pure (wanted_yes rfl rfl (by simp +decide only [go_sem, hld, d3, d2])) (by conv => lhs; simp +decide only [go_sem, hld, d3, d2]) ?_
          iterate 2 refine wpO_pure (by simp +decide only [go_sem]) (by conv => lhs; simp +decide only [go_sem, d3]) ?_
          iterate 7 refine wpO_no (wanted_not rfl rfl (by simp +decide only [go_sem, d3]; try rfl)) ?_
          repeat refine wpO_pure (by simp +decide only [go_sem]) (by conv => lhs; simp +decide only [go_sem, d3]) ?_
          rw [wpO_nil]
          exact ⟨rfl, by simp +decide only [go_sem], by simp +decide only [go_sem], by simp +decide only [go_sem], by simp +decide only [go_sem]; rw [decide_eq_true hnC]⟩
        · have d3 : decide (l < 0) = false := by simpa using c3
          iterate 7 refine wpO_pure (by simp +decide only [go_sem]) (by conv => lhs; simp +decide only [go_sem, exy, len30 hsl, d1]) ?_
          iterate 3 refine wpO_pure (wanted_yes rfl rfl (by simp +decide only [go_sem, len22 hsa, d1, d2])) (by conv => lhs; simp +decide only [go_sem, len22 hsa, d1, d2]) ?_
          iterate 2 refine wpO_pure (by simp +decide only [go_sem]) (by conv => lhs; simp +decide only [go_sem, d2]) ?_
          refine wpO_pure (wanted_yes rfl rfl (by simp +decide only [go_sem, d2])) (by conv => lhs; simp +decide only [go_sem, d2]) ?_
          refine wpO_index1 (i := 5) (j := .i64) (wanted_yes rfl rfl (by simp +decide only [go_sem, d2])) rfl a3 u22 s3 u3 rfl (by simp +decide only [go_sem]) rfl (by simp) ?_
          intro id off hld
          have hld : loadAt EX h3 3 id off = some (.int .i64 l) := hld
          iterate 2 refine wpO_pure (wanted_yes rfl rfl (by simp +decide only [go_sem, hld, d3, d2])) (by conv => lhs; simp +decide only [go_sem, hld, d3, d2]) ?_
          iterate 2 refine wpO_pure (by simp +decide only [go_sem]) (by conv => lhs; simp +decide only [go_sem, d3]) ?_
          refine wpO_pure (wanted_yes rfl rfl (by simp +decide only [go_sem, d3])) (by conv => lhs; simp +decide only [go_sem, d3]) ?_
          refine wpO_index1 (i := 5) (j := .i64) (wanted_yes rfl rfl (by simp +decide only [go_sem, d3])) rfl a3 u22 s3 u3 rfl (by simp +decide only [go_sem]) rfl (by simp) ?_
          intro id off hld
          have hld : loadAt EX h3 3 id off = some (.int .i64 l) := hld
          iterate 5 refine wpO_pure (wanted_yes rfl rfl (by simp +decide only [go_sem, hld, d3, len22 hsa, e6 _ (show (k :: wi :: da :: co :: bu :: l :: N6).length < 60000000000 by omega)])) (by conv => lhs; simp +decide only [go_sem, hld, d3, len22 hsa, e6 _ (show (k :: wi :: da :: co :: bu :: l :: N6).length < 60000000000 by omega)]) ?_
          repeat refine wpO_pure (by simp +decide only [go_sem]) (by conv => lhs; simp +decide only [go_sem, d3]) ?_
          rw [wpO_nil]
          refine ⟨rfl, by simp +decide only [go_sem], by simp +decide only [go_sem], by simp +decide only [go_sem], ?_⟩
          simp +decide only [go_sem]
          refine congrArg AVal.bool (decide_eq_decide.2 ?_)
          constructor
          · intro h5 hC
            have : l ≤ ((k :: wi :: da :: co :: bu :: l :: N6).length : Int) - 6 := hC.2.2.2
            omega
          · intro hC
            by_cases h : l ≤ ((k :: wi :: da :: co :: bu :: l :: N6).length : Int) - 6
            · exact absurd ⟨c1, by omega, by show 0 ≤ l; omega, h⟩ hC
            · omega
    · have d1 : decide (((x + y : Nat) : Int) = (b.length : Int)) = false := by simp; omega
      have hnC : ¬ C := fun h => c1 h.1
      iterate 7 refine wpO_pure (by simp +decide only [go_sem]) (by conv => lhs; simp +decide only [go_sem, exy, len30 hsl, d1]) ?_
      iterate 3 refine wpO_no (wanted_not rfl rfl (by simp +decide only [go_sem, d1]; try rfl)) ?_
      iterate 2 refine wpO_pure (by simp +decide only [go_sem]) (by conv => lhs; simp +decide only [go_sem, d1]) ?_
      iterate 4 refine wpO_no (wanted_not rfl rfl (by simp +decide only [go_sem, d1]; try rfl)) ?_
      iterate 2 refine wpO_pure (by simp +decide only [go_sem]) (by conv => lhs; simp +decide only [go_sem, d1]) ?_
      iterate 7 refine wpO_no (wanted_not rfl rfl (by simp +decide only [go_sem, d1]; try rfl)) ?_
      repeat refine wpO_pure (by simp +decide only [go_sem]) (by conv => lhs; simp +decide only [go_sem, d1]) ?_
      rw [wpO_nil]
      exact ⟨rfl, by simp +decide only [go_sem], by simp +decide only [go_sem], by simp +decide only [go_sem], by simp +decide only [go_sem]; rw [decide_eq_true hnC]⟩
  intro t d ⟨hdd, g2, g3, g6, g59⟩
  subst hdd
  refine wp_cond (x := decide (¬ C)) (by simp +decide only [go_sem, g59]) ?_
  by_cases hC : C
  case neg =>
    rw [decide_eq_true hC]
    refine wp_seq (wp_region ?_)
    refine wpO_pure (by simp +decide only [go_sem]) (by conv => lhs; simp +decide only [go_sem, List.map_toArray, bld36e]) ?_
    refine wpO_storeA (off := 0) (vs := e13 11) (by simp +decide only [go_sem]) rfl hR3 (by simp +decide only [go_sem, g2]) (by simp +decide only [go_sem]; rfl) s36 rfl (by decide) (e13_ok _) ?_
    intro h4 hR4 hs4
    have hR4 : Bx h4 nx (e13 11) := hR4
    rw [wpO_nil]
    refine wp_ret rfl ⟨.inr rfl, _, res_cell (P := nx) (v := .agg (e13 11)) (by simp +decide only [go_sem, g2]) (by rw [hR4.load]; exact ll36 (by simp [e13])) rfl, ?_⟩
    refine ⟨by show nx ≤ nx3; omega, hk3.trans (hs4.keep (Nat.le_refl _)), ?_⟩
    have : dq b = .err 11 := by
      rw [hdq]
      by_cases c1 : x + y = b.length
      · rw [if_pos c1]
        unfold dqN
        split
        · rename_i k wi da co bu l N6
          rw [if_neg]
          intro ⟨q1, q2, _⟩
          exact hC ⟨c1, by simp, q1, by show l ≤ ((k :: wi :: da :: co :: bu :: l :: N6).length : Int) - 6; simp only [List.length_cons]; omega⟩
        · rfl
      · rw [if_neg c1]
    rw [this]; rfl
  case pos =>
  rw [decide_eq_false (fun e => e hC)]
  obtain ⟨c1, c2, c3, c4⟩ := hC
  rw [if_pos c1] at hdq
  obtain ⟨k, wi, da, co, bu, l, N6, rfl⟩ : ∃ k wi da co bu l N6, N = k :: wi :: da :: co :: bu :: l :: N6 := by
    match N, c2 with
    | k :: wi :: da :: co :: bu :: l :: N6, _ => exact ⟨k, wi, da, co, bu, l, N6, rfl⟩
  have c3 : 0 ≤ l := c3
  have c4 : l ≤ ((k :: wi :: da :: co :: bu :: l :: N6).length : Int) - 6 := c4
  obtain ⟨m, rfl⟩ := Int.eq_ofNat_of_zero_le c3
  have hmN : m ≤ N6.length := by simp only [List.length_cons] at c4; omega
  have hN6 : N6.length < 60000000000 := by simp only [List.length_cons] at hx2; omega
  have e6m : IntKind.i64.wrap (6 + (m : Int)) = ((6 + m : Nat) : Int) := by rw [wi64 (by omega) (by omega)]; omega
  have hcut1 : (((k :: wi :: da :: co :: bu :: (m : Int) :: N6).map intV).take ((6 + m) * 1)).drop (6 * 1) = (N6.take m).map intV := by
    rw [show (6 + m) * 1 = m + 6 by omega, show 6 * 1 = 6 from rfl, List.map_take]; rfl
  have hcut2 : (((k :: wi :: da :: co :: bu :: (m : Int) :: N6).map intV).take ((k :: wi :: da :: co :: bu :: (m : Int) :: N6).length * 1)).drop ((6 + m) * 1) = (N6.drop m).map intV := by
    rw [List.take_of_length_le (by simp), show (6 + m) * 1 = m + 6 by omega, List.map_drop]; rfl
  -- the query, but for its condition
  refine wp_skip (wp_seqR (fun t d => ∃ h6 nx6 Qb ve, d = ⟨h6, nx6⟩ ∧ nx3 ≤ Qb ∧ Qb < nx6 ∧ KeepP (fun i => i < nx3) h3 h6 ∧ getT t 2 = .ptr nx 0 ∧ getT t 3 = s1 ∧ getT t 6 = s2 ∧ getT t 9 = .ptr Qb 0 ∧ Bx h6 Qb [ve, .int .i64 k, .int .i64 wi, .int .i64 0, .str [], .int .i64 0, .int .i64 0, .str [], .nilslice, .int .i64 da, .int .i64 co, .int .i64 bu] ∧ SlP 1 h6 (fun i => nx3 ≤ i ∧ i < nx6 ∧ i ≠ Qb) ve ((N6.take m).map intV)) (wp_drawn [.q 0 [], .q 1 [], .q 2 [], .q 3 [], .q 4 [], .q 5 [], .q 6 [], .q 7 [], .q 8 [], .q 9 [], .q 10 [], .q 11 [], .q 12 [], .q 13 [], .q 14 [], .q 15 [], .q 16 [], .q 17 [], .q 18 [], .q 19 [], .q 20 [], .q 21 [], .q 22 [], .q 25 [], .l 23 [], .c [(2, []), (5, []), (8, []), (11, []), (15, [])], .q 24 [], .l 26 [], .c []] (by kernel_rfl) ?_) ?_)
  · refine wpD_pure (o := ⟨_, _, _, _, _, _⟩) rfl (by simp +decide only [go_sem]) (by conv => lhs; simp +decide only [go_sem, g3]) ?_
    refine wpD_indexP (m := 0) (j := .i64) (o := ⟨_, _, _, _, _, _⟩) rfl (by simp +decide only [go_sem]) rfl a3 u22 s3 u3 rfl (by simp +decide only [go_sem]) rfl (by simp) ?_
    intro id0 off0 hi0 hld0
    have hld0 : loadAt EX h3 3 id0 off0 = some (.int .i64 k) := hld0
    iterate 2 refine wpD_pure (o := ⟨_, _, _, _, _, _⟩) rfl (by simp +decide only [go_sem]) (by conv => lhs; simp +decide only [go_sem, hld0, g3]) ?_
    refine wpD_indexP (m := 1) (j := .i64) (o := ⟨_, _, _, _, _, _⟩) rfl (by simp +decide only [go_sem]) rfl a3 u22 s3 u3 rfl (by simp +decide only [go_sem]) rfl (by simp) ?_
    intro id1 off1 hi1 hld1
    have hld1 : loadAt EX h3 3 id1 off1 = some (.int .i64 wi) := hld1
    iterate 2 refine wpD_pure (o := ⟨_, _, _, _, _, _⟩) rfl (by simp +decide only [go_sem]) (by conv => lhs; simp +decide only [go_sem, hld1, g3]) ?_
    refine wpD_indexP (m := 2) (j := .i64) (o := ⟨_, _, _, _, _, _⟩) rfl (by simp +decide only [go_sem]) rfl a3 u22 s3 u3 rfl (by simp +decide only [go_sem]) rfl (by simp) ?_
    intro id2 off2 hi2 hld2
    have hld2 : loadAt EX h3 3 id2 off2 = some (.int .i64 da) := hld2
    iterate 2 refine wpD_pure (o := ⟨_, _, _, _, _, _⟩) rfl (by simp +decide only [go_sem]) (by conv => lhs; simp +decide only [go_sem, hld2, g3]) ?_
    refine wpD_indexP (m := 3) (j := .i64) (o := ⟨_, _, _, _, _, _⟩) rfl (by simp +decide only [go_sem]) rfl a3 u22 s3 u3 rfl (by simp +decide only [go_sem]) rfl (by simp) ?_
    intro id3 off3 hi3 hld3
    have hld3 : loadAt EX h3 3 id3 off3 = some (.int .i64 co) := hld3
    refine wpD_pure (o := ⟨_, _, _, _, _, _⟩) rfl (by simp +decide only [go_sem]) (by conv => lhs; simp +decide only [go_sem, hld3]) ?_
    iterate 2 refine wpD_pure (o := ⟨_, _, _, _, _, _⟩) rfl (by simp +decide only [go_sem]) (by conv => lhs; simp +decide only [go_sem, List.map_toArray, bld27, g3]) ?_
    refine wpD_indexP (m := 4) (j := .i64) (o := ⟨_, _, _, _, _, _⟩) rfl (by simp +decide only [go_sem]) rfl a3 u22 s3 u3 rfl (by simp +decide only [go_sem]) rfl (by simp) ?_
    intro id4 off4 hi4 hld4
    have hld4 : loadAt EX h3 3 id4 off4 = some (.int .i64 bu) := hld4
    refine wpD_pure (o := ⟨_, _, _, _, _, _⟩) rfl (by simp +decide only [go_sem]) (by conv => lhs; simp +decide only [go_sem, hld4]) ?_
    refine wpD_build0 (lo := nx3) (o := ⟨_, _, _, _, _, _⟩) rfl (by simp +decide only [go_sem]) rfl u22 s3 z3 (Nat.le_refl _) ?_
    intro h4 hG4 hs4
    have a4 := a3.keep (hs4.toP (by intro e; omega))
    iterate 2 refine wpD_pure (o := ⟨_, _, _, _, _, _⟩) rfl (by simp +decide only [go_sem]) (by conv => lhs; simp +decide only [go_sem, g3]) ?_
    refine wpD_indexP (m := 5) (j := .i64) (o := ⟨_, _, _, _, _, _⟩) rfl (by simp +decide only [go_sem]) rfl a4 u22 s3 u3 rfl (by simp +decide only [go_sem]) rfl (by simp) ?_
    intro id5 off5 hi5 hld5
    have hld5 : loadAt EX h4 3 id5 off5 = some (.int .i64 m) := hld5
    iterate 2 refine wpD_pure (o := ⟨_, _, _, _, _, _⟩) rfl (by simp +decide only [go_sem]) (by conv => lhs; simp +decide only [go_sem, hld5, e6m]) ?_
    refine wpD_cut (a := 6) (b := 6 + m) (len := (k :: wi :: da :: co :: bu :: (m : Int) :: N6).length) (o := ⟨_, _, _, _, _, _⟩) rfl (by simp +decide only [go_sem]) rfl a4 (by decide) u22 s3 (by simp +decide only [go_sem]) (by simp) ?_ ?_ (by omega) (by simp only [List.length_cons]; omega) ?_
    · exact fun y hy => bndO_some (k := .i64) (i := 6) hy
    · simp +decide only [go_sem, Option.map_some, e6m]
      exact HiB.some
    intro v4 hv4
    rw [hcut1] at hv4
    refine wpD_alloc (o := ⟨_, _, _, _, _, _⟩) rfl (by simp +decide only [go_sem]) rfl z29 ?_
    intro h5 hQ5 hs5
    have hQ5 : Bx h5 (nx3 + 1) z12 := hQ5
    have hG5 := hG4.keepS (h' := h5) (hi' := nx3 + 2) (fun i hi => hs5 i (by have := (hG4.sid_lt hi).2; omega)) (Nat.le_succ _)
    have hv5 := hv4.keep (hs5.toP (by intro e; omega))
    refine wpD_appendX (o := ⟨_, _, _, _, _, _⟩) rfl (by simp +decide only [go_sem]) rfl rfl rfl rfl u22 u22 rfl s3 z3 b3 (by simp +decide only [go_sem]) (by simp +decide only [go_sem]) hG5 (by omega) hv5 (okA_of ?_ (by decide) ?_) ?_
    · intro q hq
      obtain ⟨z, _, rfl⟩ := List.mem_map.1 hq
      rfl
    · simp; omega
    intro ve h6 nx6 k1 k2 k3 k4
    have hsd : sid (.slice nx3 0 0 (.ex 0)) = some nx3 := rfl
    rw [hsd] at k4
    have hkk : ∀ i, i < nx3 → h6.get i = h3.get i := fun i hi => ((k3 i (by omega) (by rw [hsd]; intro e; cases e; omega)).trans (hs5 i (by omega))).trans (hs4 i (by omega))
    have kld0 := (loadAt_keep (E := EX) (ty := 3) (off := off0) (hkk id0 (by omega))).trans hld0
    have kld1 := (loadAt_keep (E := EX) (ty := 3) (off := off1) (hkk id1 (by omega))).trans hld1
    have kld2 := (loadAt_keep (E := EX) (ty := 3) (off := off2) (hkk id2 (by omega))).trans hld2
    have kld3 := (loadAt_keep (E := EX) (ty := 3) (off := off3) (hkk id3 (by omega))).trans hld3
    have kld4 := (loadAt_keep (E := EX) (ty := 3) (off := off4) (hkk id4 (by omega))).trans hld4
    refine wpD_c (fun x hx => ?_) ?_
    · simp only [List.mem_cons, List.not_mem_nil, or_false] at hx
      rcases hx with rfl | rfl | rfl | rfl | rfl
      · refine chk_yes (v := .int .i64 k) (d := 63) (o := ⟨_, _, _, _, _, _⟩) rfl rfl (by simp +decide only [go_sem]) (by conv => lhs; simp +decide only [go_sem, kld0]) ?_
        simp +decide only [go_sem]
        exact veq_simple rfl
      · refine chk_yes (v := .int .i64 wi) (d := 66) (o := ⟨_, _, _, _, _, _⟩) rfl rfl (by simp +decide only [go_sem]) (by conv => lhs; simp +decide only [go_sem, kld1]) ?_
        simp +decide only [go_sem]
        exact veq_simple rfl
      · refine chk_yes (v := .int .i64 da) (d := 69) (o := ⟨_, _, _, _, _, _⟩) rfl rfl (by simp +decide only [go_sem]) (by conv => lhs; simp +decide only [go_sem, kld2]) ?_
        simp +decide only [go_sem]
        exact veq_simple rfl
      · refine chk_yes (v := .int .i64 co) (d := 72) (o := ⟨_, _, _, _, _, _⟩) rfl rfl (by simp +decide only [go_sem]) (by conv => lhs; simp +decide only [go_sem, kld3]) ?_
        simp +decide only [go_sem]
        exact veq_simple rfl
      · refine chk_yes (v := .int .i64 bu) (d := 76) (o := ⟨_, _, _, _, _, _⟩) rfl rfl (by simp +decide only [go_sem]) (by conv => lhs; simp +decide only [go_sem, kld4]) ?_
        simp +decide only [go_sem]
        exact veq_simple rfl
    refine wpD_pure (o := ⟨_, _, _, _, _, _⟩) rfl (by simp +decide only [go_sem]) (by conv => lhs; simp +decide only [go_sem, List.map_toArray, bld29b k2.toP.form]) ?_
    have hQ6 := hQ5.keep (k3 (nx3 + 1) (by omega) (by rw [hsd]; intro e; have := Option.some.inj e; omega))
    refine wpD_storeA (o := ⟨_, _, _, _, _, _⟩) rfl (by simp +decide only [go_sem]) rfl hQ6 (off := 0) (vs := [ve, .int .i64 k, .int .i64 wi, .int .i64 0, .str [], .int .i64 0, .int .i64 0, .str [], .nilslice, .int .i64 da, .int .i64 co, .int .i64 bu]) (by simp +decide only [go_sem]) (by simp +decide only [go_sem]) s29 rfl (by decide) ?_ ?_
    · intro x hx
      simp only [List.mem_cons, List.not_mem_nil, or_false] at hx
      rcases hx with rfl | rfl | rfl | rfl | rfl | rfl | rfl | rfl | rfl | rfl | rfl | rfl <;> first | rfl | exact k2.toP.cellOK
    intro h7 hQ7 hs7
    refine wpD_c0 ?_
    rw [wpD_nil]
    refine ⟨h7, nx6, nx3 + 1, ve, rfl, by omega, by omega, ?_, by simp +decide only [go_sem, g2], by simp +decide only [go_sem, g3], by simp +decide only [go_sem, g6], by simp +decide only [go_sem], hQ7, ?_⟩
    · exact fun i hi => (hs7 i (by omega)).trans (hkk i hi)
    · have hsv : ∀ i, sid ve = some i → nx3 ≤ i ∧ i < nx6 ∧ i ≠ nx3 + 1 := fun i hi => by
        have := k2.sid_lt hi
        rcases k4 with k4 | k4
        · rw [k4] at hi; have := Option.some.inj hi; omega
        · rw [k4] at hi; have := Option.some.inj hi; omega
      have := (k2.toS.mono hsv).keep (hs7.toP (by intro e; omega))
      simpa using this
  clear g2 g3 g6 g59
  intro t d ⟨h6, nx6, Qb, ve, hdd, hQ1, hQ2, hk36, g2, g3, g6, g9, hQ6, hve6⟩
  subst hdd
  have hR6 := hR3.keep (hk36 nx (by omega))
  have hk6 : Keep nx h h6 := hk3.trans (hk36.k (fun i hi => by omega))
  have a6 := a3.keep (hk36.mono (fun i hi => hi.2))
  have b6 := bb3.keep (hk36.mono (fun i hi => hi.2))
  refine wp_seq (wp_region ?_)
  iterate 2 refine wpO_pure (by simp +decide only [go_sem]) (by conv => lhs; simp +decide only [go_sem, g3]) ?_
  refine wpO_index1 (i := 5) (j := .i64) (by simp +decide only [go_sem]) rfl a6 u22 s3 u3 rfl (by simp +decide only [go_sem]) rfl (by simp) ?_
  intro id off hld
  have hld : loadAt EX h6 3 id off = some (.int .i64 m) := hld
  iterate 2 refine wpO_pure (by simp +decide only [go_sem]) (by conv => lhs; simp +decide only [go_sem, hld, e6m]) ?_
  refine wpO_cut (a := 6 + m) (b := (k :: wi :: da :: co :: bu :: (m : Int) :: N6).length) (len := (k :: wi :: da :: co :: bu :: (m : Int) :: N6).length) (by simp +decide only [go_sem]) rfl a6 (by decide) u22 s3 (by simp +decide only [go_sem]) (by simp) ?_ HiB.none (by simp only [List.length_cons]; omega) (Nat.le_refl _) ?_
  · simp +decide only [go_sem, Option.map_some, e6m]
    exact LoB.some
  intro vr hvr
  rw [hcut2] at hvr
  repeat refine wpO_pure (by simp +decide only [go_sem]) (by conv => lhs; simp +decide only [go_sem]) ?_
  rw [wpO_nil]
  have hsr := hvr.lenN (by decide)
  rw [List.length_map, List.length_drop, Nat.div_one] at hsr
  have hdq2 : dq b = if 0 ≤ (m : Int) ∧ (m : Int) ≤ N6.length ∧ N6.length - m ≤ 256 then (match rd 65 (N6.drop m) T with
    | some (t, [], []) => .ok ⟨k, wi, da, co, bu, N6.take m, t⟩
    | _ => .err 11) else .err 11 := hdq
  refine wp_seq (wp_seq (wp_region ?_))
  repeat refine wpO_pure (by simp +decide only [go_sem]) (by conv => lhs; simp +decide only [go_sem, len22 hsr]) ?_
  rw [wpO_nil]
  refine wp_cond (x := decide ((256 : Int) < ((N6.length - m : Nat) : Int))) (by simp +decide only [go_sem]) ?_
  by_cases h256 : 256 < N6.length - m
  · rw [show decide ((256 : Int) < ((N6.length - m : Nat) : Int)) = true from by simp; omega]
    rw [if_neg (by omega)] at hdq2
    refine wp_seq (wp_region ?_)
    refine wpO_pure (by simp +decide only [go_sem]) (by conv => lhs; simp +decide only [go_sem, List.map_toArray, bld36e]) ?_
    refine wpO_storeA (off := 0) (vs := e13 11) (by simp +decide only [go_sem]) rfl hR6 (by simp +decide only [go_sem, g2]) (by simp +decide only [go_sem]; rfl) s36 rfl (by decide) (e13_ok _) ?_
    intro h7 hR7 hs7
    have hR7 : Bx h7 nx (e13 11) := hR7
    rw [wpO_nil]
    refine wp_ret rfl ⟨.inr rfl, _, res_cell (P := nx) (v := .agg (e13 11)) (by simp +decide only [go_sem, g2]) (by rw [hR7.load]; exact ll36 (by simp [e13])) rfl, ?_⟩
    exact ⟨by show nx ≤ nx6; omega, hk6.trans (hs7.keep (Nat.le_refl _)), by rw [hdq2]; rfl⟩
  rw [show decide ((256 : Int) < ((N6.length - m : Nat) : Int)) = false from by simp; omega]
  rw [if_pos (by omega)] at hdq2
  have hrl : (N6.drop m).length ≤ 256 := by rw [List.length_drop]; omega
  have hW : AC EX 28 [vr, s2, .int .i64 0] ⟨h6, nx6⟩ (WR h6 nx6 (rd 65 (N6.drop m) T)) := refWhere 65 (i := 0) (P := fun i => nx + 1 ≤ i ∧ i < nx3) (by rw [Nat.mul_zero, List.drop_zero]; omega) (by omega) hvr b6 (fun i hi => by omega) (by omega) (by omega)
  refine wp_skip (wp_seq (wp_region ?_))
  iterate 2 refine wpO_pure (by simp +decide only [go_sem]) (by conv => lhs; simp +decide only [go_sem, g6]) ?_
  refine wpO_call (by simp +decide only [go_sem]) (by conv => lhs; simp +decide only [go_sem]) n28 hW ?_
  intro w d ⟨r1, r2, r3⟩
  obtain ⟨h8, nx8⟩ := d
  dsimp only at r1 r2 r3
  have hk8 : Keep nx h h8 := hk6.trans (r2.k (fun i hi => by omega))
  have hR8 := hR6.keep (r2 nx (by omega))
  have hQ8 := hQ6.keep (r2 Qb (by omega))
  have hve8 := hve6.keep (r2.mono (fun i hi => hi.2.1))
  refine wpO_alloc (by simp +decide only [go_sem]) rfl z111 ?_
  intro h9 hW9 hs9
  have hW9 : Bx h9 nx8 z8 := hW9
  cases hr : rd 65 (N6.drop m) T with
  | none =>
    rw [hr] at r3 hdq2
    dsimp only at r3 hdq2
    subst r3
    refine wpO_storeA (off := 0) (vs := z8) (by simp +decide only [go_sem]) rfl hW9 (by simp +decide only [go_sem]) (by simp +decide only [go_sem]) s111 rfl (by decide) (by decide) ?_
    intro h10 hW10 hs10
    rw [wpO_nil]
    have hld : ∀ ty off, loadAt EX h10 ty nx8 off = loadL EX ty z8 off := fun ty off => Bx.load hW10 ty off
    refine wp_seq (wp_seq (wp_region ?_))
    iterate 4 refine wpO_pure (by simp +decide only [go_sem]) (by conv => lhs; simp +decide only [go_sem, hld, z8]) ?_
    iterate 6 refine wpO_no (wanted_not rfl rfl (by simp +decide only [go_sem]; try rfl)) ?_
    iterate 2 refine wpO_pure (by simp +decide only [go_sem]) (by conv => lhs; simp +decide only [go_sem]) ?_
    iterate 6 refine wpO_no (wanted_not rfl rfl (by simp +decide only [go_sem]; try rfl)) ?_
    repeat refine wpO_pure (by simp +decide only [go_sem]) (by conv => lhs; simp +decide only [go_sem]) ?_
    rw [wpO_nil]
    refine wp_cond (x := true) (by simp +decide only [go_sem]) ?_
    refine wp_seq (wp_region ?_)
    refine wpO_pure (by simp +decide only [go_sem]) (by conv => lhs; simp +decide only [go_sem, List.map_toArray, bld36e]) ?_
    have hR10 := (hR8.keep (hs9 nx (by omega))).keep (hs10 nx (by omega))
    refine wpO_storeA (off := 0) (vs := e13 11) (by simp +decide only [go_sem]) rfl hR10 (by simp +decide only [go_sem, g2]) (by simp +decide only [go_sem]; rfl) s36 rfl (by decide) (e13_ok _) ?_
    intro h11 hR11 hs11
    have hR11 : Bx h11 nx (e13 11) := hR11
    rw [wpO_nil]
    refine wp_ret rfl ⟨.inr rfl, _, res_cell (P := nx) (v := .agg (e13 11)) (by simp +decide only [go_sem, g2]) (by rw [hR11.load]; exact ll36 (by simp [e13])) rfl, ?_⟩
    exact ⟨by show nx ≤ nx8 + 1; omega, ((hk8.trans (hs9.keep (by omega))).trans (hs10.keep (by omega))).trans (hs11.keep (Nat.le_refl _)), by rw [hdq2]; rfl⟩
  | some xx =>
  obtain ⟨tr, N', T'⟩ := xx
  rw [hr] at r3 hdq2
  dsimp only at r3 hdq2
  obtain ⟨c, rfl, y1⟩ := r3
  obtain ⟨z1, z2, z3, z4⟩ := rd_sz _ _ _ _ _ _ hr
  obtain ⟨w0, w1, w2, w3, w4, w5, rfl⟩ := fourth y1.len
  refine wpO_storeA (off := 0) (vs := [w0, w1, w2, w3, w4, w5, .int .i64 (tsz tr : Int), .bool true]) (by simp +decide only [go_sem]) rfl hW9 (by simp +decide only [go_sem]) (by simp +decide only [go_sem]; rfl) s111 rfl (by decide) ?_ ?_
  · intro x hx
    have hx' : x ∈ [w0, w1, w2, w3, w4, w5] ++ [AVal.int .i64 (tsz tr : Int), .bool true] := hx
    rcases List.mem_append.1 hx' with hx | hx
    · exact y1.cells x hx
    · simp at hx; rcases hx with rfl | rfl <;> rfl
  intro h10 hW10 hs10
  have hW10 : Bx h10 nx8 [w0, w1, w2, w3, w4, w5, .int .i64 (tsz tr : Int), .bool true] := hW10
  rw [wpO_nil]
  have hld : ∀ ty off, loadAt EX h10 ty nx8 off = loadL EX ty [w0, w1, w2, w3, w4, w5, .int .i64 (tsz tr : Int), .bool true] off := fun ty off => Bx.load hW10 ty off
  have f4 : IntKind.i64.wrap (4 * (tsz tr : Int)) = ((4 * tsz tr : Nat) : Int) := by rw [wi64 (by omega) (by omega)]; omega
  have f2 : IntKind.i64.wrap (2 * (tsz tr : Int)) = ((2 * tsz tr : Nat) : Int) := by rw [wi64 (by omega) (by omega)]; omega
  have hR10 := (hR8.keep (hs9 nx (by omega))).keep (hs10 nx (by omega))
  have hk10 : Keep nx h h10 := (hk8.trans (hs9.keep (by omega))).trans (hs10.keep (by omega))
  have hs810 : KeepP (fun i => i < nx8) h8 h10 := (hs9.toP (P := fun i => i < nx8) (by omega)).trans (hs10.toP (P := fun i => i < nx8) (by omega))
  refine wp_seq (wp_seqR (fun t d => d = ⟨h10, nx8 + 1⟩ ∧ getT t 2 = .ptr nx 0 ∧ getT t 9 = .ptr Qb 0 ∧ getT t 11 = .ptr nx8 0 ∧ getT t 117 = .bool (decide (¬ (N6.length - m = 4 * tsz tr ∧ T.length = 2 * tsz tr)))) (wp_region ?_) ?_)
  · by_cases q1 : N6.length - m = 4 * tsz tr
    · have d1 : decide (((N6.length - m : Nat) : Int) = ((4 * tsz tr : Nat) : Int)) = true := by simp; omega
      iterate 4 refine wpO_pure (by simp +decide only [go_sem]) (by conv => lhs; simp +decide only [go_sem, hld]) ?_
      iterate 6 refine wpO_pure (wanted_yes rfl rfl (by simp +decide only [go_sem, hld, len22 hsr, f4, d1])) (by conv => lhs; simp +decide only [go_sem, hld, len22 hsr, f4, d1]) ?_
      iterate 2 refine wpO_pure (by simp +decide only [go_sem]) (by conv => lhs; simp +decide only [go_sem, d1]) ?_
      iterate 6 refine wpO_pure (wanted_yes rfl rfl (by simp +decide only [go_sem, hld, len100 hsb, f2, d1, g6])) (by conv => lhs; simp +decide only [go_sem, hld, len100 hsb, f2, d1, g6]) ?_
      repeat refine wpO_pure (by simp +decide only [go_sem]) (by conv => lhs; simp +decide only [go_sem, d1]) ?_
      rw [wpO_nil]
      refine ⟨rfl, by simp +decide only [go_sem, g2], by simp +decide only [go_sem, g9], by simp +decide only [go_sem], ?_⟩
      simp +decide only [go_sem]
      rw [← decide_not]
      exact congrArg AVal.bool (decide_eq_decide.2 (by omega))
    · have d1 : decide (((N6.length - m : Nat) : Int) = ((4 * tsz tr : Nat) : Int)) = false := by simp; omega
      iterate 4 refine wpO_pure (by simp +decide only [go_sem]) (by conv => lhs; simp +decide only [go_sem, hld]) ?_
      iterate 6 refine wpO_pure (wanted_yes rfl rfl (by simp +decide only [go_sem, hld, len22 hsr, f4, d1])) (by conv => lhs; simp +decide only [go_sem, hld, len22 hsr, f4, d1]) ?_
      iterate 2 refine wpO_pure (by simp +decide only [go_sem]) (by conv => lhs; simp +decide only [go_sem, d1]) ?_
      iterate 6 refine wpO_no (wanted_not rfl rfl (by simp +decide only [go_sem, d1]; try rfl)) ?_
      repeat refine wpO_pure (by simp +decide only [go_sem]) (by conv => lhs; simp +decide only [go_sem, d1]) ?_
      rw [wpO_nil]
      refine ⟨rfl, by simp +decide only [go_sem, g2], by simp +decide only [go_sem, g9], by simp +decide only [go_sem], ?_⟩
      simp +decide only [go_sem]
      exact congrArg AVal.bool (decide_eq_true (by omega)).symm
  clear g2 g3 g6 g9
  intro t d ⟨hdd, g2, g9, g11, g117⟩
  subst hdd
  refine wp_cond (x := decide (¬ (N6.length - m = 4 * tsz tr ∧ T.length = 2 * tsz tr))) (by simp +decide only [go_sem, g117]) ?_
  by_cases hE : N6.length - m = 4 * tsz tr ∧ T.length = 2 * tsz tr
  case neg =>
    rw [decide_eq_true hE]
    have hne : dq b = .err 11 := by
      rw [hdq2]
      split
      · rename_i heq
        obtain ⟨rfl, rfl, rfl⟩ := heq
        exfalso
        have e1 := congrArg List.length z1
        have e2 := congrArg List.length z2
        simp only [List.length_nil, List.length_drop] at e1 e2 z3
        exact hE ⟨by omega, by omega⟩
      · rfl
    refine wp_seq (wp_region ?_)
    refine wpO_pure (by simp +decide only [go_sem]) (by conv => lhs; simp +decide only [go_sem, List.map_toArray, bld36e]) ?_
    refine wpO_storeA (off := 0) (vs := e13 11) (by simp +decide only [go_sem]) rfl hR10 (by simp +decide only [go_sem, g2]) (by simp +decide only [go_sem]; rfl) s36 rfl (by decide) (e13_ok _) ?_
    intro h11 hR11 hs11
    have hR11 : Bx h11 nx (e13 11) := hR11
    rw [wpO_nil]
    refine wp_ret rfl ⟨.inr rfl, _, res_cell (P := nx) (v := .agg (e13 11)) (by simp +decide only [go_sem, g2]) (by rw [hR11.load]; exact ll36 (by simp [e13])) rfl, ?_⟩
    exact ⟨by show nx ≤ nx8 + 1; omega, hk10.trans (hs11.keep (Nat.le_refl _)), by rw [hne]; rfl⟩
  case pos =>
  rw [decide_eq_false (fun e => e hE)]
  have hNn : N' = [] := by rw [z1]; exact List.drop_eq_nil_of_le (by rw [List.length_drop]; omega)
  have hTn : T' = [] := by rw [z2]; exact List.drop_eq_nil_of_le (by omega)
  subst hNn
  subst hTn
  have hldW : loadAt EX h10 25 nx8 0 = some (.agg [w0, w1, w2, w3, w4, w5]) := by rw [hW10.load]; exact ll25 (by simp)
  have hQ10 := hQ8.keep (hs810 Qb (by omega))
  refine wp_skip (wp_seq (wp_region ?_))
  iterate 3 refine wpO_pure (by simp +decide only [go_sem]) (by conv => lhs; simp +decide only [go_sem, g11, g9, hldW]) ?_
  refine wpO_storeA (off := 3) (vs := [w0, w1, w2, w3, w4, w5]) (by simp +decide only [go_sem]) rfl hQ10 (by simp +decide only [go_sem]) (by simp +decide only [go_sem]) s25 rfl (by simp) y1.cells ?_
  intro h11 hQ11 hs11
  have hQ11 : Bx h11 Qb [ve, .int .i64 k, .int .i64 wi, w0, w1, w2, w3, w4, w5, .int .i64 da, .int .i64 co, .int .i64 bu] := hQ11
  rw [wpO_nil]
  have hldQ : loadAt EX h11 29 Qb 0 = some (.agg [ve, .int .i64 k, .int .i64 wi, w0, w1, w2, w3, w4, w5, .int .i64 da, .int .i64 co, .int .i64 bu]) := by rw [hQ11.load]; exact ll29 (by simp)
  refine wp_seq (wp_region ?_)
  iterate 2 refine wpO_pure (by simp +decide only [go_sem]) (by conv => lhs; simp +decide only [go_sem, g9, hldQ, List.map_toArray, bld36]) ?_
  have hR11 := hR10.keep (hs11 nx (by omega))
  refine wpO_storeA (off := 0) (vs := [ve, .int .i64 k, .int .i64 wi, w0, w1, w2, w3, w4, w5, .int .i64 da, .int .i64 co, .int .i64 bu, .int .i64 0]) (by simp +decide only [go_sem]) rfl hR11 (by simp +decide only [go_sem, g2]) (by simp +decide only [go_sem]) s36 rfl (by decide) ?_ ?_
  · intro x hx
    have hx' : x ∈ ([ve, .int .i64 k, .int .i64 wi] ++ [w0, w1, w2, w3, w4, w5]) ++ [AVal.int .i64 da, .int .i64 co, .int .i64 bu, .int .i64 0] := hx
    rcases List.mem_append.1 hx' with hx | hx
    · rcases List.mem_append.1 hx with hx | hx
      · simp at hx; rcases hx with rfl | rfl | rfl
        · exact hve6.cellOK
        · rfl
        · rfl
      · exact y1.cells x hx
    · simp at hx; rcases hx with rfl | rfl | rfl | rfl <;> rfl
  intro h12 hR12 hs12
  have hR12 : Bx h12 nx [ve, .int .i64 k, .int .i64 wi, w0, w1, w2, w3, w4, w5, .int .i64 da, .int .i64 co, .int .i64 bu, .int .i64 0] := hR12
  rw [wpO_nil]
  refine wp_ret rfl ⟨.inr rfl, _, res_cell (P := nx) (v := .agg [ve, .int .i64 k, .int .i64 wi, w0, w1, w2, w3, w4, w5, .int .i64 da, .int .i64 co, .int .i64 bu, .int .i64 0]) (by simp +decide only [go_sem, g2]) (by rw [hR12.load]; exact ll36 (by simp)) rfl, ?_⟩
  refine ⟨by show nx ≤ nx8 + 1; omega, (hk10.trans (hs11.keep (by omega))).trans (hs12.keep (Nat.le_refl _)), ?_⟩
  rw [hdq2]
  refine ⟨[ve, .int .i64 k, .int .i64 wi, w0, w1, w2, w3, w4, w5, .int .i64 da, .int .i64 co, .int .i64 bu], rfl, ve, [w0, w1, w2, w3, w4, w5], rfl, ?_, ?_⟩
  · exact (((hve8.keep (hs810.mono (fun i hi => by omega))).keep (hs11.toP (by intro e; omega))).keep (hs12.toP (by intro e; omega))).mono (fun i hi => ⟨by omega, by show i < nx8 + 1; omega⟩)
  · exact Pc.mono (fun i hi => ⟨by omega, by show i < nx8 + 1; omega⟩) _ _ (Pc.keep (hs12.toP (by intro e; omega)) _ _ (Pc.keep (hs11.toP (by intro e; omega)) _ _ (Pc.keep (hs810.mono (fun i hi => hi.2)) _ _ y1)))
end Go.Ev
end
section
open Go Go.Proofs Go.RowKit
set_option linter.unusedVariables false
set_option linter.unusedSimpArgs false
set_option maxRecDepth 100000
namespace Go.Ev
def Tr.subs : Tr → List Tr
  | .mk _ _ _ _ _ s => s
mutual
/-- A condition's parts, each before its own. -/
def pre : Tr → List Tr
  | .mk op nm n m s subs => .mk op nm n m s subs :: preL subs
def preL : List Tr → List Tr
  | [] => []
  | t :: ts => pre t ++ preL ts
end
mutual
theorem pre_len : ∀ t : Tr, (pre t).length = tsz t
  | .mk op nm n m s subs => by rw [pre, tsz, List.length_cons, preL_len subs, Nat.add_comm]
theorem preL_len : ∀ ts : List Tr, (preL ts).length = tszL ts
  | [] => rfl
  | t :: ts => by rw [preL, tszL, List.length_append, pre_len t, preL_len ts]
end
theorem preL_app : ∀ (a b : List Tr), preL (a ++ b) = preL a ++ preL b
  | [], b => rfl
  | t :: a, b => by rw [List.cons_append, preL, preL, preL_app a b, List.append_assoc]
theorem pre_eq (t : Tr) : pre t = t :: preL t.subs := by cases t; rw [pre]; rfl
theorem tsz_eq (t : Tr) : tsz t = 1 + tszL t.subs := by cases t; rw [tsz]; rfl
theorem tsz_pos (t : Tr) : 1 ≤ tsz t := by rw [tsz_eq]; omega
theorem tszL_len : ∀ ts : List Tr, ts.length ≤ tszL ts
  | [] => Nat.zero_le _
  | t :: ts => by
    have := tszL_len ts
    have := tsz_pos t
    rw [tszL, List.length_cons]; omega
theorem tsz_at : ∀ {ts : List Tr} {i : Nat} (hi : i < ts.length), tsz ts[i] ≤ tszL ts
  | t :: ts, 0, hi => by rw [tszL]; show tsz t ≤ _; omega
  | t :: ts, i + 1, hi => by
    have := tsz_at (ts := ts) (i := i) (by simpa using hi)
    rw [tszL]
    show tsz (ts[i]'(by simpa using hi)) ≤ _
    omega
theorem take_app_take {α : Type} (a b : List α) (n : Nat) : (a ++ b.take n).take n = (a ++ b).take n := by
  rw [List.take_append, List.take_append, List.take_take]
  congr 2
  omega
theorem Pc.cases {h : Heap} {P : Nat → Prop} {t : Tr} {c : List AVal} (hp : Pc h P t c) : ∃ op nm n m s v l, c = [.int .i64 op, .str nm, .int .i64 n, .int .i64 m, .str s, v] ∧ SlP 6 h P v l ∧ PcL h P t.subs l ∧ t = .mk op nm n m s t.subs := by
  cases t with
  | mk op nm n m s subs =>
    rw [Pc] at hp
    obtain ⟨v, l, h1, h2, h3⟩ := hp
    exact ⟨op, nm, n, m, s, v, l, h1, h2, h3, rfl⟩
/-- What Parts leaves. -/
def PQ (h : Heap) (nx : Nat) (P : Nat → Prop) (t : Tr) (w : AVal) (d' : D) : Prop :=
  nx ≤ d'.nx ∧ KeepP (fun i => i < nx) h d'.h ∧ ∃ l, SlP 6 d'.h (fun i => nx ≤ i ∧ i < d'.nx) w l ∧ PcL d'.h P ((pre t).take 1000) l
set_option maxHeartbeats 4000000 in
theorem refParts : ∀ (n : Nat) {h : Heap} {nx : Nat} {P : Nat → Prop} {t : Tr} {c : List AVal}, tsz t ≤ n → Pc h P t c → (∀ i, P i → i < nx) → tsz t < 60000000000 → AC EX 33 [.agg c] ⟨h, nx⟩ (PQ h nx P t) := by
  intro n
  induction n with
  | zero => intro h nx P t c hn; have := tsz_pos t; omega
  | succ n ih =>
  intro h nx P tr c hn hp hP hbig
  have hc6 := hp.len
  have hcv := hp.cells
  obtain ⟨op, nm, nn, m, s, v, l0, hc, hv, hs, htr⟩ := hp.cases
  have hlen := hs.len
  have hsz := tsz_eq tr
  have hsl := tszL_len tr.subs
  refine AC.of_wp' (size := 33) f33 rfl rfl ?_
  refine wp_seq (wp_region ?_)
  refine wpO_box (by simp +decide only [go_sem]) rfl (v := .agg c) (by simp +decide only [go_sem]) rfl ?_
  intro h1 hB1 hs1
  have hB1 : Bx h1 nx c := hB1
  repeat refine wpO_pure (by simp +decide only [go_sem]) (by conv => lhs; simp +decide only [go_sem]) ?_
  rw [wpO_nil]
  have hld1 : loadAt EX h1 25 nx 0 = some (.agg c) := by rw [hB1.load, ll25 (by omega), List.drop_zero, List.take_of_length_le (by omega)]
  refine wp_seq (wp_region ?_)
  refine wpO_pure (by simp +decide only [go_sem]) (by conv => lhs; simp +decide only [go_sem, hld1]) ?_
  refine wpO_build1 (v := .agg c) (lo := nx + 1) (by simp +decide only [go_sem]) rfl u23 s25 z25 rfl (by simp +decide only [go_sem, List.map_toArray]) hc6 rfl (by decide) (by decide) (Nat.le_refl _) ?_
  intro h2 hG2 hs2
  have hB2 := hB1.keep (hs2 nx (by omega))
  have hk2 : KeepP (fun i => i < nx) h h2 := (hs1.toP (P := fun i => i < nx) (by omega)).trans (hs2.toP (P := fun i => i < nx) (by omega))
  repeat refine wpO_pure (by simp +decide only [go_sem]) (by conv => lhs; simp +decide only [go_sem]) ?_
  rw [wpO_nil]
  refine wp_seqR (fun t d => ∃ w l ts, getT t 3 = w ∧ nx < d.nx ∧ KeepP (fun i => i < nx) h d.h ∧ Gro 6 d.h (nx + 1) d.nx w l ∧ PcL d.h P ts l ∧ ts.length ≤ 2000 ∧ ts.take 1000 = (pre tr).take 1000) (wp_seq (wp_region ?_)) ?_
  · repeat refine wpO_pure (by simp +decide only [go_sem]) (by conv => lhs; simp +decide only [go_sem]) ?_
    rw [wpO_nil]
    refine wp_block (wp_while (α := Nat) (fun j => tr.subs.length - j) (fun j t d => j ≤ tr.subs.length ∧ getT t 1 = .ptr nx 0 ∧ getT t 4 = .int .i64 (j : Int) ∧ Bx d.h nx c ∧ ∃ w l ts, getT t 3 = w ∧ nx < d.nx ∧ KeepP (fun i => i < nx) h d.h ∧ Gro 6 d.h (nx + 1) d.nx w l ∧ PcL d.h P ts l ∧ ts.length ≤ 2000 ∧ ts.take 1000 = (tr :: preL (tr.subs.take j)).take 1000) ?_ (a := 0) ?_)
    · intro j t d ⟨hj, g1, g4, hB, w, l, ts, g3, c1, c2, c3, c4, c5, c6⟩
      obtain ⟨hh, nxx⟩ := d
      dsimp only at hB c1 c2 c3 c4
      have hld : ∀ ty off, loadAt EX hh ty nx off = loadL EX ty c off := fun ty off => hB.load ty off
      have hc5 : c[5]? = some v := by rw [hc]; rfl
      have hvk := hv.keep (c2.mono hP)
      have hsk := PcL.keep (c2.mono hP) _ _ hs
      have hsv := hvk.lenN (by decide)
      rw [hlen, Nat.mul_div_cancel _ (by decide)] at hsv
      have hsw := c3.toP.lenN (by decide)
      rw [c4.len, Nat.mul_div_cancel _ (by decide)] at hsw
      have hpre : pre tr = tr :: preL (tr.subs.take j) ++ preL (tr.subs.drop j) := by
        rw [pre_eq, List.cons_append, ← preL_app, List.take_append_drop]
      refine wp_seq (wp_seq (wp_region ?_))
      by_cases hz : j < tr.subs.length
      · have d1 : decide ((j : Int) < (tr.subs.length : Int)) = true := by simp; omega
        by_cases hz2 : ts.length < 1000
        · have d2 : decide ((ts.length : Int) < 1000) = true := by simp; omega
          iterate 6 refine wpO_pure (by simp +decide only [go_sem]) (by conv => lhs; simp +decide only [go_sem, g1, g4, hld, hc5, len23 hsv, d1]) ?_
          iterate 3 refine wpO_pure (wanted_yes rfl rfl (by simp +decide only [go_sem, d1, g3, len23 hsw, d2])) (by conv => lhs; simp +decide only [go_sem, d1, g3, len23 hsw, d2]) ?_
          repeat refine wpO_pure (by simp +decide only [go_sem]) (by conv => lhs; simp +decide only [go_sem, d2]) ?_
          rw [wpO_nil]
          refine wp_cond (x := true) (by simp +decide only [go_sem]) (wp_skip (wp_seq (wp_block (wp_region ?_))))
          iterate 4 refine wpO_pure (by simp +decide only [go_sem]) (by conv => lhs; simp +decide only [go_sem, g1, g3, g4, hld, hc5]) ?_
          refine wpO_indexP (i := j) (j := .i64) (by simp +decide only [go_sem]) rfl hvk (by decide) u23 s25 u25 (by simp +decide only [go_sem]) (by simp +decide only [go_sem]) (by omega) ?_
          intro id off hel
          refine wpO_pure (by simp +decide only [go_sem]) (by conv => lhs; simp +decide only [go_sem, hel]) ?_
          have hpj := hsk.at hz
          have hszj := tsz_at hz
          refine wpO_call (by simp +decide only [go_sem]) (by conv => lhs; simp +decide only [go_sem]) n33 (ih (by omega) hpj (fun i hi => by have := hP i hi; omega) (by omega)) ?_
          intro w1 d ⟨r1, r2, l1, r3, r4⟩
          obtain ⟨hr, nxr⟩ := d
          dsimp only at r1 r2 r3 r4
          have cG := c3.keepS (fun i hi => r2 i (c3.sid_lt hi).2) r1
          have hl1 := r4.len
          rw [List.length_take] at hl1
          refine wpO_appendX (by simp +decide only [go_sem]) rfl rfl rfl rfl u23 u23 rfl s25 z25 b25 (by simp +decide only [go_sem]) (by simp +decide only [go_sem]) cG (by omega) r3 (okA_of r4.cells (by decide) ?_) ?_
          · rw [c4.len]; omega
          intro v' ha nxa k1 k2 k3 k4
          repeat refine wpO_pure (by simp +decide only [go_sem]) (by conv => lhs; simp +decide only [go_sem]) ?_
          rw [wpO_nil]
          refine wp_region ?_
          repeat refine wpO_pure (by simp +decide only [go_sem]) (by conv => lhs; simp +decide only [go_sem, g4]) ?_
          rw [wpO_nil]
          have hka : KeepP (fun i => i < nxx ∧ sid w ≠ some i) hh ha := fun i hi => (k3 i (by omega) hi.2).trans (r2 i hi.1)
          have hsw' : ∀ i, i ≤ nx → sid w ≠ some i := fun i hi e => by have := (c3.sid_lt e).1; omega
          refine ⟨j + 1, by omega, by omega, by simp +decide only [go_sem, g1], ?_, hB.keep (hka nx ⟨c1, hsw' nx (Nat.le_refl _)⟩), v', l ++ l1, ts ++ (pre tr.subs[j]).take 1000, by simp +decide only [go_sem], by show nx < nxa; omega, ?_, k2, ?_, ?_, ?_⟩
          · simp +decide only [go_sem]
            rw [wi64 (by omega) (by omega)]; rfl
          · exact c2.trans (hka.mono (fun i hi => ⟨by omega, hsw' i (by omega)⟩))
          · refine PcL.app (PcL.keep (hka.mono (fun i hi => ?_)) _ _ c4) (PcL.keep (fun i hi => k3 i ?_ ?_) _ _ r4)
            · have := hP i hi; exact ⟨by omega, hsw' i (by omega)⟩
            · have := hP i hi; omega
            · have := hP i hi; exact hsw' i (by omega)
          · rw [List.length_append, List.length_take]; omega
          · have e1 : tr :: preL (tr.subs.take j) = ts := by
              rw [List.take_of_length_le (by omega)] at c6
              have : (tr :: preL (tr.subs.take j)).length < 1000 := by
                rcases Nat.lt_or_ge (tr :: preL (tr.subs.take j)).length 1000 with h | h
                · exact h
                · have := congrArg List.length c6
                  rw [List.length_take] at this; omega
              exact (c6.trans (List.take_of_length_le (by omega))).symm
            rw [take_app_take, ← e1, List.take_succ_eq_append_getElem hz, preL_app, preL, preL, List.append_nil, List.cons_append]
        · have d2 : decide ((ts.length : Int) < 1000) = false := by simp; omega
          iterate 6 refine wpO_pure (by simp +decide only [go_sem]) (by conv => lhs; simp +decide only [go_sem, g1, g4, hld, hc5, len23 hsv, d1]) ?_
          iterate 3 refine wpO_pure (wanted_yes rfl rfl (by simp +decide only [go_sem, d1, g3, len23 hsw, d2])) (by conv => lhs; simp +decide only [go_sem, d1, g3, len23 hsw, d2]) ?_
          repeat refine wpO_pure (by simp +decide only [go_sem]) (by conv => lhs; simp +decide only [go_sem, d2]) ?_
          rw [wpO_nil]
          refine wp_cond (x := false) (by simp +decide only [go_sem]) (wp_exit ⟨w, l, ts, by simp +decide only [go_sem, g3], c1, c2, c3, c4, c5, ?_⟩)
          have hge : 1000 ≤ (tr :: preL (tr.subs.take j)).length := by
            have := congrArg List.length c6
            rw [List.length_take, List.length_take] at this; omega
          rw [c6, hpre, List.take_append_of_le_length hge]
      · have d1 : decide ((j : Int) < (tr.subs.length : Int)) = false := by simp; omega
        iterate 6 refine wpO_pure (by simp +decide only [go_sem]) (by conv => lhs; simp +decide only [go_sem, g1, g4, hld, hc5, len23 hsv, d1]) ?_
        iterate 3 refine wpO_no (wanted_not rfl rfl (by simp +decide only [go_sem, d1]; try rfl)) ?_
        repeat refine wpO_pure (by simp +decide only [go_sem]) (by conv => lhs; simp +decide only [go_sem, d1]) ?_
        rw [wpO_nil]
        refine wp_cond (x := false) (by simp +decide only [go_sem]) (wp_exit ⟨w, l, ts, by simp +decide only [go_sem, g3], c1, c2, c3, c4, c5, ?_⟩)
        rw [c6, hpre, List.drop_eq_nil_of_le (by omega), preL, List.append_nil]
    · refine ⟨Nat.zero_le _, by simp +decide only [go_sem], by simp +decide only [go_sem]; rfl, hB2, _, c, [tr], by simp +decide only [go_sem], by show nx < nx + 1 + 1; omega, hk2, hG2, PcL.one (Pc.keep (hk2.mono hP) _ _ hp), by simp, by rw [List.take_zero, preL]⟩
  · intro t d ⟨w, l, ts, g3, c1, c2, c3, c4, c5, c6⟩
    obtain ⟨hh, nxx⟩ := d
    dsimp only at c1 c2 c3 c4
    have hsw := c3.toP.lenN (by decide)
    rw [c4.len, Nat.mul_div_cancel _ (by decide)] at hsw
    refine wp_seqR (fun t d => d = ⟨hh, nxx⟩ ∧ ∃ w l, getT t 3 = w ∧ SlP 6 hh (fun i => nx + 1 ≤ i ∧ i < nxx) w l ∧ PcL hh P ((pre tr).take 1000) l) (wp_seq (wp_region ?_)) ?_
    · repeat refine wpO_pure (by simp +decide only [go_sem]) (by conv => lhs; simp +decide only [go_sem, g3, len23 hsw]) ?_
      rw [wpO_nil]
      refine wp_cond (x := decide ((1000 : Int) < (ts.length : Int))) (by simp +decide only [go_sem]) ?_
      by_cases hz : 1000 < ts.length
      · rw [show decide ((1000 : Int) < (ts.length : Int)) = true from by simp; omega]
        refine wp_region ?_
        refine wpO_pure (by simp +decide only [go_sem]) (by conv => lhs; simp +decide only [go_sem, g3]) ?_
        refine wpO_cut (a := 0) (b := 1000) (len := ts.length) (by simp +decide only [go_sem]) rfl c3.toP (by decide) u23 s25 (by simp +decide only [go_sem]) c4.len LoB.none ?_ (by omega) (by omega) ?_
        · exact fun y hy => bndO_some (k := .i64) (i := 1000) hy
        intro v' hv'
        repeat refine wpO_pure (by simp +decide only [go_sem]) (by conv => lhs; simp +decide only [go_sem]) ?_
        rw [wpO_nil]
        refine ⟨rfl, v', _, by simp +decide only [go_sem], hv', ?_⟩
        rw [← c6, Nat.zero_mul, List.drop_zero]
        exact c4.take 1000
      · rw [show decide ((1000 : Int) < (ts.length : Int)) = false from by simp; omega]
        refine wp_skip ⟨rfl, w, l, by simp +decide only [go_sem, g3], c3.toP, ?_⟩
        rw [← c6, List.take_of_length_le (by omega)]; exact c4
    · intro t d ⟨hd, w, l, g3, q1, q2⟩
      subst hd
      refine wp_seq (wp_region ?_)
      repeat refine wpO_pure (by simp +decide only [go_sem]) (by conv => lhs; simp +decide only [go_sem, g3]) ?_
      rw [wpO_nil]
      exact wp_ret rfl ⟨.inr rfl, _, res_one (v := w) (by simp +decide only [go_sem]) q1.notBot, by show nx ≤ nxx; omega, c2, l, q1.mono (fun i hi => ⟨by omega, hi.2⟩), q2⟩
theorem refSize {h : Heap} {nx : Nat} {P : Nat → Prop} {t : Tr} {c : List AVal} (hp : Pc h P t c) (hP : ∀ i, P i → i < nx) (hbig : tsz t < 60000000000) : AC EX 10 [.agg c] ⟨h, nx⟩ (fun w d' => nx ≤ d'.nx ∧ KeepP (fun i => i < nx) h d'.h ∧ w = .int .i64 ((min 1000 (tsz t) : Nat) : Int)) := by
  have hc6 := hp.len
  refine AC.of_wp' (size := 6) f10 rfl rfl ?_
  refine wp_seq (wp_region ?_)
  refine wpO_box (by simp +decide only [go_sem]) rfl (v := .agg c) (by simp +decide only [go_sem]) rfl ?_
  intro h1 hB1 hs1
  have hB1 : Bx h1 nx c := hB1
  repeat refine wpO_pure (by simp +decide only [go_sem]) (by conv => lhs; simp +decide only [go_sem]) ?_
  rw [wpO_nil]
  have hld1 : loadAt EX h1 25 nx 0 = some (.agg c) := by rw [hB1.load, ll25 (by omega), List.drop_zero, List.take_of_length_le (by omega)]
  have hk1 : KeepP (fun i => i < nx) h h1 := hs1.toP (by omega)
  refine wp_seq (wp_region ?_)
  refine wpO_pure (by simp +decide only [go_sem]) (by conv => lhs; simp +decide only [go_sem, hld1]) ?_
  refine wpO_call (by simp +decide only [go_sem]) (by conv => lhs; simp +decide only [go_sem]) n33 (refParts _ (Nat.le_refl _) (Pc.keep (hk1.mono hP) _ _ hp) (fun i hi => by have := hP i hi; omega) hbig) ?_
  intro w ⟨h2, nx2⟩ ⟨r1, r2, l, r3, r4⟩
  dsimp only at r1 r2 r3 r4
  have hsw := r3.lenN (by decide)
  rw [r4.len, Nat.mul_div_cancel _ (by decide), List.length_take, pre_len] at hsw
  repeat refine wpO_pure (by simp +decide only [go_sem]) (by conv => lhs; simp +decide only [go_sem, len23 hsw]) ?_
  rw [wpO_nil]
  exact wp_ret rfl ⟨.inr rfl, _, res_one (v := .int .i64 ((min 1000 (tsz t) : Nat) : Int)) (by simp +decide only [go_sem]) rfl, by show nx ≤ nx2; omega, hk1.trans (r2.mono (fun i hi => by omega)), rfl⟩
mutual
/-- Is a condition small? -/
def few : Tr → Int → Bool
  | .mk op nm n m s subs, d => decide (1 ≤ d) && decide (1 + tszL subs ≤ 100) && fewL subs (d - 1)
def fewL : List Tr → Int → Bool
  | [], _ => true
  | t :: ts, d => few t d && fewL ts d
end
theorem few_eq (t : Tr) (d : Int) : few t d = (decide (1 ≤ d) && decide (tsz t ≤ 100) && fewL t.subs (d - 1)) := by
  cases t; rw [few, tsz]; rfl
theorem fewL_app : ∀ (a b : List Tr) (d : Int), fewL (a ++ b) d = (fewL a d && fewL b d)
  | [], b, d => by rw [List.nil_append, fewL, Bool.true_and]
  | t :: a, b, d => by rw [List.cons_append, fewL, fewL, fewL_app a b d, Bool.and_assoc]
set_option maxHeartbeats 4000000 in
theorem refFew : ∀ (n : Nat) {h : Heap} {nx : Nat} {P : Nat → Prop} {t : Tr} {c : List AVal} {deep : Int}, tsz t ≤ n → Pc h P t c → (∀ i, P i → i < nx) → tsz t < 60000000000 → -5 ≤ deep → deep ≤ 100 → AC EX 32 [.agg c, .int .i64 deep] ⟨h, nx⟩ (fun w d' => nx ≤ d'.nx ∧ KeepP (fun i => i < nx) h d'.h ∧ w = .bool (few t deep)) := by
  intro n
  induction n with
  | zero => intro h nx P t c deep hn; have := tsz_pos t; omega
  | succ n ih =>
  intro h nx P tr c deep hn hp hP hbig hd1 hd2
  have hc6 := hp.len
  obtain ⟨op, nm, nn, m, s, v, l0, hc, hv, hs, htr⟩ := hp.cases
  have hlen := hs.len
  have hsz := tsz_eq tr
  have hsl := tszL_len tr.subs
  refine AC.of_wp' (size := 31) f32 rfl rfl ?_
  refine wp_seq (wp_region ?_)
  refine wpO_box (by simp +decide only [go_sem]) rfl (v := .agg c) (by simp +decide only [go_sem]) rfl ?_
  intro h1 hB1 hs1
  have hB1 : Bx h1 nx c := hB1
  repeat refine wpO_pure (by simp +decide only [go_sem]) (by conv => lhs; simp +decide only [go_sem]) ?_
  rw [wpO_nil]
  have hld1 : loadAt EX h1 25 nx 0 = some (.agg c) := by rw [hB1.load, ll25 (by omega), List.drop_zero, List.take_of_length_le (by omega)]
  have hk1 : KeepP (fun i => i < nx) h h1 := hs1.toP (by omega)
  refine wp_seq (wp_seqR (fun t d => nx < d.nx ∧ KeepP (fun i => i < nx) h d.h ∧ Bx d.h nx c ∧ getT t 1 = .int .i64 deep ∧ getT t 2 = .ptr nx 0 ∧ getT t 13 = .bool (decide (¬ (1 ≤ deep ∧ tsz tr ≤ 100)))) (wp_region ?_) ?_)
  · by_cases e1 : deep < 1
    · have d1 : decide (deep < 1) = true := by simpa using e1
      iterate 3 refine wpO_pure (by simp +decide only [go_sem]) (by conv => lhs; simp +decide only [go_sem, d1]) ?_
      iterate 3 refine wpO_no (wanted_not rfl rfl (by simp +decide only [go_sem, d1]; try rfl)) ?_
      repeat refine wpO_pure (by simp +decide only [go_sem]) (by conv => lhs; simp +decide only [go_sem, d1]) ?_
      rw [wpO_nil]
      refine ⟨Nat.lt_succ_self _, hk1, hB1, by simp +decide only [go_sem], by simp +decide only [go_sem], ?_⟩
      simp +decide only [go_sem]
      exact congrArg AVal.bool (decide_eq_true (by omega)).symm
    · have d1 : decide (deep < 1) = false := by simpa using e1
      iterate 3 refine wpO_pure (by simp +decide only [go_sem]) (by conv => lhs; simp +decide only [go_sem, d1]) ?_
      refine wpO_pure (wanted_yes rfl rfl (by simp +decide only [go_sem, d1, hld1])) (by conv => lhs; simp +decide only [go_sem, d1, hld1]) ?_
      refine wpO_call (wanted_yes rfl rfl (by simp +decide only [go_sem, d1])) (by conv => lhs; simp +decide only [go_sem]) n10 (refSize (Pc.keep (hk1.mono hP) _ _ hp) (fun i hi => by have := hP i hi; omega) hbig) ?_
      intro w ⟨h2, nx2⟩ ⟨r1, r2, r3⟩
      subst r3
      dsimp only at r1 r2
      refine wpO_pure (wanted_yes rfl rfl (by simp +decide only [go_sem, d1])) (by conv => lhs; simp +decide only [go_sem, d1]) ?_
      repeat refine wpO_pure (by simp +decide only [go_sem]) (by conv => lhs; simp +decide only [go_sem, d1]) ?_
      rw [wpO_nil]
      refine ⟨by show nx < nx2; omega, hk1.trans (r2.mono (fun i hi => by omega)), hB1.keep (r2 nx (by omega)), by simp +decide only [go_sem], by simp +decide only [go_sem], ?_⟩
      simp +decide only [go_sem]
      exact congrArg AVal.bool (decide_eq_decide.2 (by omega))
  intro t d ⟨c1, c2, c3, g1, g2, g13⟩
  obtain ⟨hh, nxx⟩ := d
  dsimp only at c1 c2 c3
  refine wp_cond (x := decide (¬ (1 ≤ deep ∧ tsz tr ≤ 100))) (by simp +decide only [go_sem, g13]) ?_
  by_cases hA : 1 ≤ deep ∧ tsz tr ≤ 100
  case neg =>
    rw [decide_eq_true hA]
    refine wp_seq (wp_region ?_)
    repeat refine wpO_pure (by simp +decide only [go_sem]) (by conv => lhs; simp +decide only [go_sem]) ?_
    rw [wpO_nil]
    refine wp_ret rfl ⟨.inr rfl, _, res_one (v := .bool false) (by simp +decide only [go_sem]) rfl, by show nx ≤ nxx; omega, c2, ?_⟩
    rw [few_eq]
    congr 1
    have : (decide (1 ≤ deep) && decide (tsz tr ≤ 100)) = false := by
      rw [← Bool.decide_and]; exact decide_eq_false hA
    rw [this]; rfl
  case pos =>
  rw [decide_eq_false (fun e => e hA)]
  refine wp_skip (wp_seqR (fun t d => nx < d.nx ∧ KeepP (fun i => i < nx) h d.h ∧ fewL tr.subs (deep - 1) = true) (wp_seq (wp_region ?_)) ?_)
  · repeat refine wpO_pure (by simp +decide only [go_sem]) (by conv => lhs; simp +decide only [go_sem]) ?_
    rw [wpO_nil]
    refine wp_block (wp_while (α := Nat) (fun j => tr.subs.length - j) (fun j t d => j ≤ tr.subs.length ∧ getT t 1 = .int .i64 deep ∧ getT t 2 = .ptr nx 0 ∧ getT t 5 = .int .i64 (j : Int) ∧ nx < d.nx ∧ KeepP (fun i => i < nx) h d.h ∧ Bx d.h nx c ∧ fewL (tr.subs.take j) (deep - 1) = true) ?_ (a := 0) ?_)
    · intro j t d ⟨hj, g1, g2, g5, c1, c2, c3, c4⟩
      obtain ⟨hh, nxx⟩ := d
      dsimp only at c1 c2 c3
      have hld : ∀ ty off, loadAt EX hh ty nx off = loadL EX ty c off := fun ty off => c3.load ty off
      have hc5 : c[5]? = some v := by rw [hc]; rfl
      have hvk := hv.keep (c2.mono hP)
      have hsk := PcL.keep (c2.mono hP) _ _ hs
      have hsv := hvk.lenN (by decide)
      rw [hlen, Nat.mul_div_cancel _ (by decide)] at hsv
      refine wp_seq (wp_seq (wp_region ?_))
      repeat refine wpO_pure (by simp +decide only [go_sem]) (by conv => lhs; simp +decide only [go_sem, g2, g5, hld, hc5, len23 hsv]) ?_
      rw [wpO_nil]
      refine wp_cond (x := decide ((j : Int) < (tr.subs.length : Int))) (by simp +decide only [go_sem]) ?_
      by_cases hz : j < tr.subs.length
      · rw [show decide ((j : Int) < (tr.subs.length : Int)) = true from by simp; omega]
        have ed : IntKind.i64.wrap (deep - 1) = deep - 1 := wi64 (by omega) (by omega)
        refine wp_skip (wp_seq (wp_block (wp_seq (wp_region ?_))))
        iterate 3 refine wpO_pure (by simp +decide only [go_sem]) (by conv => lhs; simp +decide only [go_sem, g2, g5, hld, hc5]) ?_
        refine wpO_indexP (i := j) (j := .i64) (by simp +decide only [go_sem]) rfl hvk (by decide) u23 s25 u25 (by simp +decide only [go_sem]) (by simp +decide only [go_sem]) (by omega) ?_
        intro id off hel
        iterate 3 refine wpO_pure (by simp +decide only [go_sem]) (by conv => lhs; simp +decide only [go_sem, hel, g1, ed]) ?_
        have hpj := hsk.at hz
        have hszj := tsz_at hz
        refine wpO_call (by simp +decide only [go_sem]) (by conv => lhs; simp +decide only [go_sem]) n32 (ih (by omega) hpj (fun i hi => by have := hP i hi; omega) (by omega) (by omega) (by omega)) ?_
        intro w1 d ⟨r1, r2, r3⟩
        subst r3
        obtain ⟨hr, nxr⟩ := d
        dsimp only at r1 r2
        repeat refine wpO_pure (by simp +decide only [go_sem]) (by conv => lhs; simp +decide only [go_sem]) ?_
        rw [wpO_nil]
        have hkr : KeepP (fun i => i < nx) h hr := c2.trans (r2.mono (fun i hi => by omega))
        refine wp_seq (wp_region ?_)
        repeat refine wpO_pure (by simp +decide only [go_sem]) (by conv => lhs; simp +decide only [go_sem]) ?_
        rw [wpO_nil]
        refine wp_cond (x := !(few tr.subs[j] (deep - 1))) (by simp +decide only [go_sem]) ?_
        cases hf : few tr.subs[j] (deep - 1) with
        | false =>
          refine wp_seq (wp_region ?_)
          repeat refine wpO_pure (by simp +decide only [go_sem]) (by conv => lhs; simp +decide only [go_sem]) ?_
          rw [wpO_nil]
          refine wp_ret rfl ⟨.inr rfl, _, res_one (v := .bool false) (by simp +decide only [go_sem]) rfl, by show nx ≤ nxr; omega, hkr, ?_⟩
          rw [few_eq]
          have : fewL tr.subs (deep - 1) = false := by
            rw [← List.take_append_drop j tr.subs, fewL_app, List.drop_eq_getElem_cons hz, fewL, hf]; simp
          rw [this, Bool.and_false]; rfl
        | true =>
          refine wp_skip ?_
          refine wp_region ?_
          repeat refine wpO_pure (by simp +decide only [go_sem]) (by conv => lhs; simp +decide only [go_sem, g5]) ?_
          rw [wpO_nil]
          refine ⟨j + 1, by omega, by omega, by simp +decide only [go_sem, g1], by simp +decide only [go_sem, g2], ?_, by show nx < nxr; omega, hkr, c3.keep (r2 nx c1), ?_⟩
          · simp +decide only [go_sem]
            rw [wi64 (by omega) (by omega)]; rfl
          · rw [List.take_succ_eq_append_getElem hz, fewL_app, c4, fewL, fewL, hf]; rfl
      · rw [show decide ((j : Int) < (tr.subs.length : Int)) = false from by simp; omega]
        refine wp_exit ⟨c1, c2, ?_⟩
        rwa [List.take_of_length_le (by omega)] at c4
    · exact ⟨Nat.zero_le _, by simp +decide only [go_sem, g1], by simp +decide only [go_sem, g2], by simp +decide only [go_sem]; rfl, c1, c2, c3, by rw [List.take_zero, fewL]⟩
  · intro t d ⟨c1, c2, c3⟩
    obtain ⟨hh, nxx⟩ := d
    dsimp only at c1 c2
    refine wp_seq (wp_region ?_)
    repeat refine wpO_pure (by simp +decide only [go_sem]) (by conv => lhs; simp +decide only [go_sem]) ?_
    rw [wpO_nil]
    refine wp_ret rfl ⟨.inr rfl, _, res_one (v := .bool true) (by simp +decide only [go_sem]) rfl, by show nx ≤ nxx; omega, c2, ?_⟩
    rw [few_eq, c3, decide_eq_true hA.1, decide_eq_true hA.2]; rfl
/-- A query's cells, one by one. -/
theorem Qc.cases {h : Heap} {P : Nat → Prop} {q : QQ} {c : List AVal} (hq : Qc h P q c) : ∃ v w0 w1 w2 w3 w4 w5, c = [v, .int .i64 q.k, .int .i64 q.wi, w0, w1, w2, w3, w4, w5, .int .i64 q.da, .int .i64 q.co, .int .i64 q.bu] ∧ SlP 1 h P v (q.vec.map intV) ∧ Pc h P q.w [w0, w1, w2, w3, w4, w5] := by
  obtain ⟨v, wc, h1, h2, h3⟩ := hq
  obtain ⟨w0, w1, w2, w3, w4, w5, rfl⟩ := fourth h3.len
  exact ⟨v, w0, w1, w2, w3, w4, w5, h1, h2, h3⟩
theorem Qc.keep {h h' : Heap} {P : Nat → Prop} {q : QQ} {c : List AVal} (hq : Qc h P q c) (hk : KeepP P h h') : Qc h' P q c := by
  obtain ⟨v, wc, h1, h2, h3⟩ := hq
  exact ⟨v, wc, h1, h2.keep hk, Pc.keep hk _ _ h3⟩
theorem Qc.mono {h : Heap} {P P' : Nat → Prop} {q : QQ} {c : List AVal} (hq : Qc h P q c) (hk : ∀ i, P i → P' i) : Qc h P' q c := by
  obtain ⟨v, wc, h1, h2, h3⟩ := hq
  exact ⟨v, wc, h1, h2.mono hk, Pc.mono hk _ _ h3⟩
theorem refFewQuery {h : Heap} {nx : Nat} {P : Nat → Prop} {q : QQ} {c : List AVal} (hq : Qc h P q c) (hP : ∀ i, P i → i < nx) (hbig : tsz q.w < 60000000000) : AC EX 9 [.agg c] ⟨h, nx⟩ (fun w d' => nx ≤ d'.nx ∧ KeepP (fun i => i < nx) h d'.h ∧ w = .bool (few q.w 20 && decide (q.vec.length ≤ 40))) := by
  obtain ⟨v, w0, w1, w2, w3, w4, w5, rfl, hv, hp⟩ := hq.cases
  refine AC.of_wp' (size := 14) f9 rfl rfl ?_
  refine wp_seq (wp_region ?_)
  refine wpO_box (by simp +decide only [go_sem]) rfl (v := .agg [v, .int .i64 q.k, .int .i64 q.wi, w0, w1, w2, w3, w4, w5, .int .i64 q.da, .int .i64 q.co, .int .i64 q.bu]) (by simp +decide only [go_sem]) rfl ?_
  intro h1 hB1 hs1
  have hB1 : Bx h1 nx [v, .int .i64 q.k, .int .i64 q.wi, w0, w1, w2, w3, w4, w5, .int .i64 q.da, .int .i64 q.co, .int .i64 q.bu] := hB1
  repeat refine wpO_pure (by simp +decide only [go_sem]) (by conv => lhs; simp +decide only [go_sem]) ?_
  rw [wpO_nil]
  have hk1 : KeepP (fun i => i < nx) h h1 := hs1.toP (by omega)
  have hldW : loadAt EX h1 25 nx 3 = some (.agg [w0, w1, w2, w3, w4, w5]) := by rw [hB1.load]; exact ll25 (by simp)
  refine wp_seq (wp_region ?_)
  iterate 2 refine wpO_pure (by simp +decide only [go_sem]) (by conv => lhs; simp +decide only [go_sem, hldW]) ?_
  refine wpO_call (by simp +decide only [go_sem]) (by conv => lhs; simp +decide only [go_sem]) n32 (refFew (tsz q.w) (Nat.le_refl _) (Pc.keep (hk1.mono hP) _ _ hp) (fun i hi => by have := hP i hi; omega) hbig (by decide) (by decide)) ?_
  intro w ⟨h2, nx2⟩ ⟨r1, r2, r3⟩
  subst r3
  dsimp only at r1 r2
  repeat refine wpO_pure (by simp +decide only [go_sem]) (by conv => lhs; simp +decide only [go_sem]) ?_
  rw [wpO_nil]
  have hB2 := hB1.keep (r2 nx (by omega))
  have hld2 : ∀ ty off, loadAt EX h2 ty nx off = loadL EX ty [v, .int .i64 q.k, .int .i64 q.wi, w0, w1, w2, w3, w4, w5, .int .i64 q.da, .int .i64 q.co, .int .i64 q.bu] off := fun ty off => hB2.load ty off
  have hk2 : KeepP (fun i => i < nx) h h2 := hk1.trans (r2.mono (fun i hi => by omega))
  have hv2 := hv.keep (hk2.mono hP)
  have hsv := hv2.lenN (by decide)
  rw [List.length_map, Nat.div_one] at hsv
  refine wp_seq (wp_region ?_)
  cases hf : few q.w 20 with
  | true =>
    iterate 2 refine wpO_pure (by simp +decide only [go_sem]) (by conv => lhs; simp +decide only [go_sem]) ?_
    iterate 4 refine wpO_pure (wanted_yes rfl rfl (by simp +decide only [go_sem, hld2, len22 hsv])) (by conv => lhs; simp +decide only [go_sem, hld2, len22 hsv]) ?_
    repeat refine wpO_pure (by simp +decide only [go_sem]) (by conv => lhs; simp +decide only [go_sem]) ?_
    rw [wpO_nil]
    refine wp_ret rfl ⟨.inr rfl, _, res_one (v := .bool (decide ((q.vec.length : Int) ≤ 40))) (by simp +decide only [go_sem]) rfl, by show nx ≤ nx2; omega, hk2, ?_⟩
    rw [Bool.true_and]
    exact congrArg AVal.bool (decide_eq_decide.2 (by omega))
  | false =>
    iterate 2 refine wpO_pure (by simp +decide only [go_sem]) (by conv => lhs; simp +decide only [go_sem]) ?_
    iterate 4 refine wpO_no (wanted_not rfl rfl (by simp +decide only [go_sem]; try rfl)) ?_
    repeat refine wpO_pure (by simp +decide only [go_sem]) (by conv => lhs; simp +decide only [go_sem]) ?_
    rw [wpO_nil]
    exact wp_ret rfl ⟨.inr rfl, _, res_one (v := .bool false) (by simp +decide only [go_sem]) rfl, by show nx ≤ nx2; omega, hk2, rfl⟩
end Go.Ev
end
section
open Go Go.Proofs Go.RowKit
set_option linter.unusedVariables false
set_option linter.unusedSimpArgs false
set_option maxRecDepth 100000
namespace Go.Ev
def pnum : Tr → List Int
  | .mk op _ n m _ subs => [op, n, m, (subs.length : Int)]
def ptxt : Tr → List (List Nat)
  | .mk _ nm _ _ s _ => [nm, s]
def nums (q : QQ) : List Int := [q.k, q.wi, q.da, q.co, q.bu, (q.vec.length : Int)] ++ q.vec ++ (pre q.w).flatMap pnum
def txts (q : QQ) : List (List Nat) := (pre q.w).flatMap ptxt
/-- A query's text. -/
def encQ (q : QQ) : List Nat := encI (nums q) ++ encS (txts q)
/-- A query whose text can be written. -/
structure QOK (q : QQ) : Prop where
  ints : ∀ n ∈ nums q, I64 n
  len : (nums q).length ≤ 1000000000
  txt : szS (txts q) ≤ 10000000000
  small : tsz q.w ≤ 1000
@[go_sem] theorem backTo_mem {t0 t : BT AVal} {s : Nat} {l : List Nat} (h : s ∈ l) : getT (backTo t0 l t) s = getT t0 s := by
  rw [getT_eq, getT_eq, backTo_get, if_pos h]
theorem ints_map (L : List Int) : ints L = L.map intV := rfl
theorem strs_map (L : List (List Nat)) : strs L = L.map AVal.str := rfl
/-- Cells that lie in a row. -/
def El (h : Heap) (id off : Nat) (c : List AVal) : Prop := ∃ ro n cs, h.get id = some (.cells ro n cs) ∧ off + c.length ≤ n ∧ At cs off c
theorem El.load {E : Env} {h : Heap} {id off : Nat} {c : List AVal} (e : El h id off c) {ty j : Nat} {d : TypeDesc} {x : AVal} (hu : E.under? ty = some d) (hd : aggD d = false) (hj : c[j]? = some x) : loadAt E h ty id (off + j) = some x := by
  obtain ⟨ro, n, cs, hg, hn, ha⟩ := e
  have hlt : j < c.length := by
    rcases Nat.lt_or_ge j c.length with h | h
    · exact h
    · rw [List.getElem?_eq_none h] at hj; cases hj
  rw [List.getElem?_eq_getElem hlt] at hj
  exact loadAt_cell hu hd hg (by omega) ((ha j hlt).trans hj)
section
variable {E : Env} {k : FK} {ops : List Oper} {rest : List PL} {o : Oper} {t0 t : BT AVal} {h : Heap} {nx i : Nat} {late : List Nat} {Q : BT AVal → D → Prop}
theorem wpD_indexE {P : Nat → Prop} {sz : Nat} {v : AVal} {l : List AVal} {ty e m : Nat} {x ix : Operand} {j : IntKind} (hoi : opAt ops i = o) (hw : wanted o.guard (backTo t0 late t) ops = .yes) (hop : o.op = .indexAddr ty x ix)
    (s : SlP sz h P v l) (hsz : 0 < sz) (hu : E.under? ty = some (.slice e)) (hs : E.size? e = some sz) (hx : evalT E.ng (backTo t0 late t) x = v) (hi : evalT E.ng (backTo t0 late t) ix = .int j (m : Int)) (hlt : m * sz < l.length)
    (hq : ∀ id off, El h id off ((l.drop (m * sz)).take sz) → wpD E k ops t0 rest (putT k.size t o.dst (.ptr id off)) ⟨h, nx⟩ Q) : wpD E k ops t0 (.q i late :: rest) t ⟨h, nx⟩ Q := by
  obtain ⟨id, off, h1, h2, ro, n, cs, hg, ho, hl, hc⟩ := s.at (t := backTo t0 late t) (nx := nx) hsz hu hs hx hi hlt
  refine wpD_pure hoi hw (by rw [hop]; exact h1) (hq id off ⟨ro, n, cs, hg, ?_, hc⟩)
  rw [List.length_take, List.length_drop]; omega
end
/-- What writing a query leaves. -/
def EQ (h : Heap) (nx : Nat) (q : QQ) (w : AVal) (d' : D) : Prop := nx ≤ d'.nx ∧ KeepP (fun i => i < nx) h d'.h ∧ SlP 1 d'.h (fun i => nx ≤ i ∧ i < d'.nx) w (bys (encQ q))
theorem flat_take {α β : Type} (f : α → List β) (l : List α) {j : Nat} (hj : j < l.length) : (l.take (j + 1)).flatMap f = (l.take j).flatMap f ++ f l[j] := by
  rw [List.take_succ_eq_append_getElem hj, List.flatMap_append]; simp
theorem flat_len {α β : Type} (f : α → List β) (l : List α) (j : Nat) : ((l.take j).flatMap f).length ≤ (l.flatMap f).length := by
  conv => rhs; rw [← List.take_append_drop j l, List.flatMap_append, List.length_append]
  exact Nat.le_add_right _ _
theorem Pc.at6 {h : Heap} {P : Nat → Prop} {t : Tr} {c : List AVal} (hp : Pc h P t c) : ∃ op nm n m s v l, c[0]? = some (.int .i64 op) ∧ c[1]? = some (.str nm) ∧ c[2]? = some (.int .i64 n) ∧ c[3]? = some (.int .i64 m) ∧ c[4]? = some (.str s) ∧ c[5]? = some v ∧ SlP 6 h P v l ∧ l.length = t.subs.length * 6 ∧ pnum t = [op, n, m, (t.subs.length : Int)] ∧ ptxt t = [nm, s] := by
  obtain ⟨op, nm, n, m, s, v, l, rfl, hv, hs, ht⟩ := hp.cases
  refine ⟨op, nm, n, m, s, v, l, rfl, rfl, rfl, rfl, rfl, rfl, hv, hs.len, ?_, ?_⟩
  · conv => lhs; rw [ht]
    rfl
  · rw [ht]; rfl
theorem szS_count : ∀ L : List (List Nat), L.length ≤ szS L := fun L => by have := szS_len L; omega
set_option maxHeartbeats 8000000 in
theorem refEncodeQuery {h : Heap} {nx : Nat} {P : Nat → Prop} {q : QQ} {c : List AVal} (hq : Qc h P q c) (hP : ∀ i, P i → i < nx) (ok : QOK q) : AC EX 11 [.agg c] ⟨h, nx⟩ (EQ h nx q) := by
  obtain ⟨v, w0, w1, w2, w3, w4, w5, rfl, hv, hp⟩ := hq.cases
  have hNl := ok.len
  have hTl := szS_count (txts q)
  have hTs := ok.txt
  have hvl : q.vec.length ≤ (nums q).length := by simp only [nums, List.length_append]; omega
  refine AC.of_wp' (size := 78) f11 rfl rfl ?_
  refine wp_seq (wp_region ?_)
  refine wpO_box (by simp +decide only [go_sem]) rfl (v := .agg [v, .int .i64 q.k, .int .i64 q.wi, w0, w1, w2, w3, w4, w5, .int .i64 q.da, .int .i64 q.co, .int .i64 q.bu]) (by simp +decide only [go_sem]) rfl ?_
  intro h1 hB1 hs1
  have hB1 : Bx h1 nx [v, .int .i64 q.k, .int .i64 q.wi, w0, w1, w2, w3, w4, w5, .int .i64 q.da, .int .i64 q.co, .int .i64 q.bu] := hB1
  repeat refine wpO_pure (by simp +decide only [go_sem]) (by conv => lhs; simp +decide only [go_sem]) ?_
  rw [wpO_nil]
  have hk1 : KeepP (fun i => i < nx) h h1 := hs1.toP (by omega)
  have hld1 : ∀ ty off, loadAt EX h1 ty nx off = loadL EX ty [v, .int .i64 q.k, .int .i64 q.wi, w0, w1, w2, w3, w4, w5, .int .i64 q.da, .int .i64 q.co, .int .i64 q.bu] off := fun ty off => hB1.load ty off
  have hv1 := hv.keep (hk1.mono hP)
  have hsv := hv1.lenN (by decide)
  rw [List.length_map, Nat.div_one] at hsv
  refine wp_seq (wp_region ?_)
  iterate 15 refine wpO_pure (by simp +decide only [go_sem]) (by conv => lhs; simp +decide only [go_sem, hld1, len22 hsv]) ?_
  refine wpO_buildL (lo := nx + 1) (vs := [intV q.k, intV q.wi, intV q.da, intV q.co, intV q.bu, intV (q.vec.length : Int)]) (by simp +decide only [go_sem]) rfl u22 s3 z3 rfl ?_ rfl (by decide) (by decide) ?_ (Nat.le_refl _) ?_
  · simp +decide only [go_sem, List.map_toArray, List.map_cons, List.map_nil]; rfl
  · intro x hx; simp at hx; rcases hx with rfl | rfl | rfl | rfl | rfl | rfl <;> rfl
  intro h2 hG2 hs2
  repeat refine wpO_pure (by simp +decide only [go_sem]) (by conv => lhs; simp +decide only [go_sem]) ?_
  rw [wpO_nil]
  have hk2 : KeepP (fun i => i < nx) h h2 := hk1.trans (hs2.toP (by omega))
  have hB2 := hB1.keep (hs2 nx (by omega))
  have hld2 : ∀ ty off, loadAt EX h2 ty nx off = loadL EX ty [v, .int .i64 q.k, .int .i64 q.wi, w0, w1, w2, w3, w4, w5, .int .i64 q.da, .int .i64 q.co, .int .i64 q.bu] off := fun ty off => hB2.load ty off
  have hv2 := hv.keep (hk2.mono hP)
  refine wp_seq (wp_region ?_)
  iterate 3 refine wpO_pure (by simp +decide only [go_sem]) (by conv => lhs; simp +decide only [go_sem, hld2]) ?_
  refine wpO_appendX (by simp +decide only [go_sem]) rfl rfl rfl rfl u22 u22 rfl s3 z3 b3 (by simp +decide only [go_sem]) (by simp +decide only [go_sem]) hG2 (by omega) hv2 (okA_of ?_ (by decide) ?_) ?_
  · intro x hx
    obtain ⟨y, _, rfl⟩ := List.mem_map.1 hx
    rfl
  · simp only [List.length_map, Nat.div_one, List.length_cons, List.length_nil, Nat.zero_add]; omega
  intro n0 h3 nx3 k1 k2 k3 k4
  repeat refine wpO_pure (by simp +decide only [go_sem]) (by conv => lhs; simp +decide only [go_sem]) ?_
  rw [wpO_nil]
  have hsn0 : ∀ i, sid n0 = some i → nx + 1 ≤ i ∧ i < nx3 := fun i hi => k2.sid_lt hi
  have hk3 : KeepP (fun i => i < nx + 1) h2 h3 := fun i hi => k3 i (by omega) (by intro e; have := Option.some.inj e; omega)
  have hB3 := hB2.keep (hk3 nx (by omega))
  have hkk3 : KeepP (fun i => i < nx) h h3 := hk2.trans (hk3.mono (fun i hi => by omega))
  have hldW : loadAt EX h3 25 nx 3 = some (.agg [w0, w1, w2, w3, w4, w5]) := by rw [hB3.load]; exact ll25 (by simp)
  have hsmall := ok.small
  refine wp_seq (wp_region ?_)
  iterate 2 refine wpO_pure (by simp +decide only [go_sem]) (by conv => lhs; simp +decide only [go_sem, hldW]) ?_
  refine wpO_call (by simp +decide only [go_sem]) (by conv => lhs; simp +decide only [go_sem]) n33 (refParts _ (Nat.le_refl _) (Pc.keep (hkk3.mono hP) _ _ hp) (fun i hi => by have := hP i hi; omega) (by omega)) ?_
  intro wp ⟨h4, nx4⟩ ⟨r1, r2, lp, r3, r4⟩
  dsimp only at r1 r2 r3 r4
  rw [List.take_of_length_le (by rw [pre_len]; exact hsmall)] at r4
  have hG4 := k2.keepS (fun i hi => r2 i (hsn0 i hi).2) r1
  have hk4 : KeepP (fun i => i < nx) h h4 := hkk3.trans (r2.mono (fun i hi => by omega))
  repeat refine wpO_pure (by simp +decide only [go_sem]) (by conv => lhs; simp +decide only [go_sem]) ?_
  rw [wpO_nil]
  refine wp_seq (wp_region ?_)
  repeat refine wpO_pure (by simp +decide only [go_sem]) (by conv => lhs; simp +decide only [go_sem]) ?_
  rw [wpO_nil]
  have hwl := r3.lenN (by decide)
  rw [r4.len, Nat.mul_div_cancel _ (by decide)] at hwl
  have hpl : (pre q.w).length ≤ 1000 := by rw [pre_len]; exact hsmall
  refine wp_seqR (fun t d => ∃ n t5, getT t 3 = n ∧ getT t 5 = t5 ∧ nx3 ≤ d.nx ∧ KeepP (fun i => i < nx) h d.h ∧ Gro 1 d.h (nx + 1) d.nx n ((nums q).map intV) ∧ Gro 1 d.h (nx + 1) d.nx t5 ((txts q).map AVal.str)) (wp_seq (wp_region ?_)) ?_
  · repeat refine wpO_pure (by simp +decide only [go_sem]) (by conv => lhs; simp +decide only [go_sem]) ?_
    rw [wpO_nil]
    refine wp_block (wp_while (α := Nat) (fun j => (pre q.w).length - j) (fun j t d => j ≤ (pre q.w).length ∧ getT t 4 = wp ∧ getT t 6 = .int .i64 (j : Int) ∧ ∃ n t5, getT t 3 = n ∧ getT t 5 = t5 ∧ nx4 ≤ d.nx ∧ KeepP (fun i => i < nx) h d.h ∧ SlP 6 d.h (fun i => nx3 ≤ i ∧ i < nx4) wp lp ∧ Gro 1 d.h (nx + 1) d.nx n (([q.k, q.wi, q.da, q.co, q.bu, (q.vec.length : Int)] ++ q.vec ++ ((pre q.w).take j).flatMap pnum).map intV) ∧ Gro 1 d.h nx4 d.nx t5 ((((pre q.w).take j).flatMap ptxt).map AVal.str) ∧ (∀ i, sid n = some i → i < nx3 ∨ nx4 ≤ i) ∧ (∀ i, sid n = some i → sid t5 ≠ some i)) ?_ (a := 0) ?_)
    · intro j t d ⟨hj, g4, g6, n, t5, g3, g5, c1, c2, c3, c4, c5, c6, c7⟩
      obtain ⟨hh, nxx⟩ := d
      dsimp only at c1 c2 c3 c4 c5
      refine wp_seq (wp_seq (wp_region ?_))
      repeat refine wpO_pure (by simp +decide only [go_sem]) (by conv => lhs; simp +decide only [go_sem, g4, g6, len23 hwl]) ?_
      rw [wpO_nil]
      refine wp_cond (x := decide ((j : Int) < ((pre q.w).length : Int))) (by simp +decide only [go_sem]) ?_
      by_cases hz : j < (pre q.w).length
      · rw [show decide ((j : Int) < ((pre q.w).length : Int)) = true from by simp; omega]
        have hpc := PcL.keep (c2.mono hP) _ _ (PcL.keep (fun i hi => ((hk4 i (hP i hi)).symm : h.get i = h4.get i)) _ _ r4)
        have hpj := hpc.at hz
        have hlpl := r4.len
        obtain ⟨op, nm, nn, m, s, vs, ls, i0, i1, i2, i3, i4, i5, iv, il, ip, it⟩ := hpj.at6
        have hsl := iv.lenN (by decide)
        rw [il, Nat.mul_div_cancel _ (by decide)] at hsl
        have hlj : j * 6 < lp.length := by rw [hlpl]; omega
        refine wp_skip (wp_seq (wp_block (wp_seq (wp_drawn [.q 0 [3], .q 1 [], .q 2 [], .q 3 [], .q 4 [], .q 5 [], .q 6 [], .q 7 [], .q 8 [], .q 9 [], .q 10 [], .q 11 [], .q 12 [], .q 13 [], .q 14 [], .q 15 [], .q 16 [], .q 17 [], .q 18 [], .q 19 [], .q 20 [], .q 21 [], .q 22 [], .l 23 [], .c [], .q 24 []] (by kernel_rfl) ?_))))
        iterate 3 refine wpD_pure (o := ⟨_, _, _, _, _, _⟩) rfl (by simp +decide only [go_sem]) (by conv => lhs; simp +decide only [go_sem, g3, g4, g6]) ?_
        refine wpD_indexE (m := j) (j := .i64) (o := ⟨_, _, _, _, _, _⟩) rfl (by simp +decide only [go_sem]) rfl c3 (by decide) u23 s25 (by simp +decide only [go_sem]) (by simp +decide only [go_sem]) hlj ?_
        intro id off he
        iterate 4 refine wpD_pure (o := ⟨_, _, _, _, _, _⟩) rfl (by simp +decide only [go_sem]) (by conv => lhs; simp +decide only [go_sem, faV_ptr fl25_0, he.load u3 rfl i0, g4, g6]) ?_
        refine wpD_indexE (m := j) (j := .i64) (o := ⟨_, _, _, _, _, _⟩) rfl (by simp +decide only [go_sem]) rfl c3 (by decide) u23 s25 (by simp +decide only [go_sem]) (by simp +decide only [go_sem]) hlj ?_
        intro id off he
        iterate 4 refine wpD_pure (o := ⟨_, _, _, _, _, _⟩) rfl (by simp +decide only [go_sem]) (by conv => lhs; simp +decide only [go_sem, faV_ptr fl25_2, he.load u3 rfl i2, g4, g6]) ?_
        refine wpD_indexE (m := j) (j := .i64) (o := ⟨_, _, _, _, _, _⟩) rfl (by simp +decide only [go_sem]) rfl c3 (by decide) u23 s25 (by simp +decide only [go_sem]) (by simp +decide only [go_sem]) hlj ?_
        intro id off he
        iterate 4 refine wpD_pure (o := ⟨_, _, _, _, _, _⟩) rfl (by simp +decide only [go_sem]) (by conv => lhs; simp +decide only [go_sem, faV_ptr fl25_3, he.load u3 rfl i3, g4, g6]) ?_
        refine wpD_indexE (m := j) (j := .i64) (o := ⟨_, _, _, _, _, _⟩) rfl (by simp +decide only [go_sem]) rfl c3 (by decide) u23 s25 (by simp +decide only [go_sem]) (by simp +decide only [go_sem]) hlj ?_
        intro id off he
        iterate 3 refine wpD_pure (o := ⟨_, _, _, _, _, _⟩) rfl (by simp +decide only [go_sem]) (by conv => lhs; simp +decide only [go_sem, faV_ptr fl25_5, he.load u23 rfl i5, len23 hsl]) ?_
        refine wpD_buildL (lo := nxx) (vs := [intV op, intV nn, intV m, intV ((pre q.w)[j].subs.length : Int)]) (o := ⟨_, _, _, _, _, _⟩) rfl (by simp +decide only [go_sem]) rfl u22 s3 z3 rfl ?_ rfl (by decide) (by decide) ?_ (Nat.le_refl _) ?_
        · simp +decide only [go_sem, List.map_toArray, List.map_cons, List.map_nil]; rfl
        · intro x hx; simp at hx; rcases hx with rfl | rfl | rfl | rfl <;> rfl
        intro hb hGb hsb
        have cG := c4.keepS (h' := hb) (hi' := nxx + 1) (fun i hi => hsb i (by have := (c4.sid_lt hi).2; omega)) (Nat.le_succ _)
        refine wpD_appendX (o := ⟨_, _, _, _, _, _⟩) rfl (by simp +decide only [go_sem]) rfl rfl rfl rfl u22 u22 rfl s3 z3 b3 (by simp +decide only [go_sem]) (by simp +decide only [go_sem]) cG (by omega) hGb.toP (okA_of ?_ (by decide) ?_) ?_
        · intro x hx; simp at hx; rcases hx with rfl | rfl | rfl | rfl <;> rfl
        · have hfl := flat_len pnum (pre q.w) j
          have : (nums q).length = 6 + q.vec.length + ((pre q.w).flatMap pnum).length := by simp [nums]; omega
          simp only [List.length_map, List.length_append, List.length_cons, List.length_nil, Nat.div_one, Nat.zero_add]
          omega
        intro n' ha nxa e1 e2 e3 e4
        refine wpD_c0 ?_
        refine wpD_pure (o := ⟨_, _, _, _, _, _⟩) rfl (by simp +decide only [go_sem]) (by conv => lhs; simp +decide only [go_sem]) ?_
        rw [wpD_nil]
        have hka : KeepP (fun i => i < nxx ∧ sid n ≠ some i) hh ha := fun i hi => (e3 i (by omega) hi.2).trans (hsb i (by omega))
        have hn3 : ∀ i, nx3 ≤ i ∧ i < nx4 → sid n ≠ some i := fun i hi e => by have := c6 i e; omega
        have hnx : ∀ i, i ≤ nx → sid n ≠ some i := fun i hi e => by have := (c4.sid_lt e).1; omega
        have c2a : KeepP (fun i => i < nx) h ha := c2.trans (hka.mono (fun i hi => ⟨by omega, hnx i (by omega)⟩))
        have c3a := c3.keep (hka.mono (fun i hi => ⟨by omega, hn3 i hi⟩))
        have c5a := c5.keepS (h' := ha) (hi' := nxa) (fun i hi => hka i ⟨(c5.sid_lt hi).2, fun e => c7 i e hi⟩) (by omega)
        refine wp_drawn [.q 0 [5], .q 1 [], .q 2 [], .q 3 [], .q 4 [], .q 5 [], .q 6 [], .q 7 [], .q 8 [], .q 9 [], .q 10 [], .q 11 [], .l 12 [], .c [], .q 13 []] (by kernel_rfl) ?_
        iterate 3 refine wpD_pure (o := ⟨_, _, _, _, _, _⟩) rfl (by simp +decide only [go_sem]) (by conv => lhs; simp +decide only [go_sem, g5, g4, g6]) ?_
        refine wpD_indexE (m := j) (j := .i64) (o := ⟨_, _, _, _, _, _⟩) rfl (by simp +decide only [go_sem]) rfl c3a (by decide) u23 s25 (by simp +decide only [go_sem]) (by simp +decide only [go_sem]) hlj ?_
        intro id off he
        iterate 4 refine wpD_pure (o := ⟨_, _, _, _, _, _⟩) rfl (by simp +decide only [go_sem]) (by conv => lhs; simp +decide only [go_sem, faV_ptr fl25_1, he.load u9 rfl i1, g4, g6]) ?_
        refine wpD_indexE (m := j) (j := .i64) (o := ⟨_, _, _, _, _, _⟩) rfl (by simp +decide only [go_sem]) rfl c3a (by decide) u23 s25 (by simp +decide only [go_sem]) (by simp +decide only [go_sem]) hlj ?_
        intro id off he
        iterate 2 refine wpD_pure (o := ⟨_, _, _, _, _, _⟩) rfl (by simp +decide only [go_sem]) (by conv => lhs; simp +decide only [go_sem, faV_ptr fl25_4, he.load u9 rfl i4]) ?_
        refine wpD_buildL (lo := nxa) (vs := [.str nm, .str s]) (o := ⟨_, _, _, _, _, _⟩) rfl (by simp +decide only [go_sem]) rfl u100 s9 z9 rfl ?_ rfl (by decide) (by decide) ?_ (Nat.le_refl _) ?_
        · simp +decide only [go_sem, List.map_toArray, List.map_cons, List.map_nil]; rfl
        · intro x hx; simp at hx; rcases hx with rfl | rfl <;> rfl
        intro hc hGc hsc
        have cT := c5a.keepS (h' := hc) (hi' := nxa + 1) (fun i hi => hsc i (by have := (c5a.sid_lt hi).2; omega)) (Nat.le_succ _)
        refine wpD_appendX (o := ⟨_, _, _, _, _, _⟩) rfl (by simp +decide only [go_sem]) rfl rfl rfl rfl u100 u100 rfl s9 z9 b9 (by simp +decide only [go_sem, g5]) (by simp +decide only [go_sem]) cT (by omega) hGc.toP (okA_of ?_ (by decide) ?_) ?_
        · intro x hx; simp at hx; rcases hx with rfl | rfl <;> rfl
        · have hfl := flat_len ptxt (pre q.w) j
          have : (txts q).length = ((pre q.w).flatMap ptxt).length := rfl
          simp only [List.length_map, List.length_cons, List.length_nil, Nat.div_one, Nat.zero_add]
          omega
        intro t' hd nxd f1 f2 f3 f4
        refine wpD_c0 ?_
        refine wpD_pure (o := ⟨_, _, _, _, _, _⟩) rfl (by simp +decide only [go_sem]) (by conv => lhs; simp +decide only [go_sem]) ?_
        rw [wpD_nil]
        refine wp_region ?_
        repeat refine wpO_pure (by simp +decide only [go_sem]) (by conv => lhs; simp +decide only [go_sem, g6]) ?_
        rw [wpO_nil]
        have hkd : KeepP (fun i => i < nxa ∧ sid t5 ≠ some i) ha hd := fun i hi => (f3 i (by omega) hi.2).trans (hsc i (by omega))
        have ht5 : ∀ i, i < nx4 → sid t5 ≠ some i := fun i hi e => by have := (c5.sid_lt e).1; omega
        have hn't5 : ∀ i, sid n' = some i → i < nxa ∧ sid t5 ≠ some i := fun i hi => by
          refine ⟨(e2.sid_lt hi).2, fun e => ?_⟩
          rcases e4 with e4 | e4
          · rw [e4] at hi; exact c7 i hi e
          · rw [e4] at hi; have := Option.some.inj hi; have := (c5.sid_lt e).2; omega
        refine ⟨j + 1, by omega, by omega, by simp +decide only [go_sem, g4], ?_, n', t', by simp +decide only [go_sem], by simp +decide only [go_sem], by show nx4 ≤ nxd; omega, ?_, ?_, ?_, ?_, ?_, ?_⟩
        · simp +decide only [go_sem]
          rw [wi64 (by omega) (by omega)]; rfl
        · exact c2a.trans (hkd.mono (fun i hi => ⟨by omega, ht5 i (by omega)⟩))
        · exact c3a.keep (hkd.mono (fun i hi => ⟨by omega, ht5 i hi.2⟩))
        · rw [flat_take _ _ hz, ip, ← List.append_assoc, List.map_append]
          exact e2.keepS (fun i hi => hkd i (hn't5 i hi)) (show nxa ≤ nxd by omega)
        · rw [flat_take _ _ hz, it, List.map_append]
          exact f2
        · intro i hi
          rcases e4 with e4 | e4
          · rw [e4] at hi; exact c6 i hi
          · rw [e4] at hi; have := Option.some.inj hi; omega
        · intro i hi e
          rcases f4 with f4 | f4
          · rw [f4] at e; exact (hn't5 i hi).2 e
          · rw [f4] at e; have := Option.some.inj e; have := (hn't5 i hi).1; omega
      · rw [show decide ((j : Int) < ((pre q.w).length : Int)) = false from by simp; omega]
        rw [List.take_of_length_le (by omega)] at c4 c5
        exact wp_exit ⟨n, t5, by simp +decide only [go_sem, g3], by simp +decide only [go_sem, g5], by show nx3 ≤ nxx; omega, c2, c4, c5.low (by omega)⟩
    · refine ⟨Nat.zero_le _, by simp +decide only [go_sem], by simp +decide only [go_sem]; rfl, n0, .nilslice, by simp +decide only [go_sem], by simp +decide only [go_sem], Nat.le_refl _, hk4, r3, ?_, .own .nil, fun i hi => .inl (hsn0 i hi).2, fun i hi e => by cases e⟩
      simpa [intV] using hG4
  · intro t d ⟨n, t5, g3, g5, c1, c2, c3, c4⟩
    obtain ⟨hh, nxx⟩ := d
    dsimp only at c1 c2 c3 c4
    refine wp_seq (wp_region ?_)
    refine wpO_pure (by simp +decide only [go_sem]) (by conv => lhs; simp +decide only [go_sem, g3]) ?_
    refine wpO_call (by simp +decide only [go_sem]) (by conv => lhs; simp +decide only [go_sem]) n34 (refInts (L := nums q) (Nat.le_refl _) (c3.toP.mono (fun i hi => hi.2)).toB ok.ints (by omega)) ?_
    intro b1 ⟨h5, nx5⟩ ⟨p1, p2, p3⟩
    dsimp only at p1 p2 p3
    refine wpO_pure (by simp +decide only [go_sem]) (by conv => lhs; simp +decide only [go_sem, g5]) ?_
    have c4' := c4.keepS (h' := h5) (hi' := nx5) (fun i hi => p3 i (c4.sid_lt hi).2) p1
    refine wpO_call (by simp +decide only [go_sem]) (by conv => lhs; simp +decide only [go_sem]) n35 (refStrings (L := txts q) (Nat.le_refl _) (c4'.toP.mono (fun i hi => hi.2)).toB (by have := ok.txt; omega)) ?_
    intro b2 ⟨h6, nx6⟩ ⟨s1, s2, s3⟩
    dsimp only at s1 s2 s3
    have hi1 : (encI (nums q)).length ≤ 10000000010 := by
      have := leb_len10 (n := ((nums q).length : Int)) (by omega) (by omega)
      have := encI_len ok.ints
      simp only [encI, List.length_append]; omega
    have hi2 : (encS (txts q)).length ≤ 10000000010 := by
      have := leb_len10 (n := ((txts q).length : Int)) (by omega) (by omega)
      have := encS_len (txts q) (by omega)
      simp only [encS, List.length_append]; omega
    have hb1 := (Gro.own p2).keepS (h' := h6) (hi' := nx6) (fun i hi => s3 i ((Gro.own p2).sid_lt hi).2) s1
    refine wpO_appendX (by simp +decide only [go_sem]) rfl rfl rfl rfl u30 u30 rfl s5 z5 b5 (by simp +decide only [go_sem]) (by simp +decide only [go_sem]) hb1 (by omega) s2.toP (okA_of (bys_ok _) (by decide) ?_) ?_
    · simp only [bys_len, Nat.div_one]; omega
    intro w' h7 nx7 u1 u2 u3 u4
    repeat refine wpO_pure (by simp +decide only [go_sem]) (by conv => lhs; simp +decide only [go_sem]) ?_
    rw [wpO_nil]
    refine wp_ret rfl ⟨.inr rfl, _, res_one (v := w') (by simp +decide only [go_sem]) u2.notBot, by show nx ≤ nx7; omega, ?_, ?_⟩
    · have hsb : ∀ i, i < nxx → sid b1 ≠ some i := fun i hi e => by have := ((Gro.own p2).sid_lt e).1; omega
      exact c2.trans (fun i hi => (u3 i (by omega) (hsb i (by omega))).trans ((s3 i (by omega)).trans (p3 i (by omega))))
    · rw [bys_app] at u2
      exact u2.toP.mono (fun i hi => ⟨by omega, hi.2⟩)
theorem binStr_eq {c : Bool} {a b : List Nat} : binV EX .eql 9 c (.str a) (.str b) = some (.bool (decide (a = b))) := by
  show some (AVal.bool (strEq a b)) = _
  rw [strEq_eq]
theorem binStr_ne {c : Bool} {a b : List Nat} : binV EX .neq 9 c (.str a) (.str b) = some (.bool (decide (a ≠ b))) := by
  show some (AVal.bool (!(strEq a b))) = _
  rw [strEq_eq, ← decide_not]
theorem leb_byte : ∀ (k z : Nat), z < 128 ^ k → ∀ x ∈ leb z, x < 256
  | 0, z, h => by
    have : z = 0 := by simpa using h
    subst this
    rw [leb_lt (by decide)]; simp
  | k + 1, z, h => by
    by_cases hz : z < 128
    · rw [leb_lt hz]; intro x hx; simp at hx; omega
    · rw [leb_ge hz]
      intro x hx
      rcases List.mem_cons.1 hx with rfl | hx
      · omega
      · exact leb_byte k (z / 128) (by rw [Nat.pow_succ] at h; exact Nat.div_lt_of_lt_mul (by rw [Nat.mul_comm]; exact h)) x hx
theorem leb_byte' {n : Int} (h1 : -9223372036854775808 ≤ n) (h2 : n < 9223372036854775808) : ∀ x ∈ leb (zz n), x < 256 := leb_byte 10 _ (zz_lt h1 h2)
theorem encI_byte {l : List Int} (h : ∀ n ∈ l, I64 n) (hl : l.length ≤ 6000000000) : ∀ x ∈ encI l, x < 256 := by
  intro x hx
  rcases List.mem_append.1 hx with hx | hx
  · exact leb_byte' (n := (l.length : Int)) (by omega) (by omega) x hx
  · obtain ⟨n, hn, hx⟩ := List.mem_flatMap.1 hx
    exact leb_byte' (h n hn).1 (h n hn).2 x hx
theorem encS_byte {l : List (List Nat)} (h : ∀ s ∈ l, ∀ x ∈ s, x < 256) (hl : szS l ≤ 30000000000) : ∀ x ∈ encS l, x < 256 := by
  have := szS_count l
  intro x hx
  rcases List.mem_append.1 hx with hx | hx
  · exact leb_byte' (n := (l.length : Int)) (by omega) (by omega) x hx
  · obtain ⟨s, hs, hx⟩ := List.mem_flatMap.1 hx
    rcases List.mem_append.1 hx with hx | hx
    · have h1 : s.length ≤ szS l := by
        obtain ⟨i, hi, rfl⟩ := List.getElem_of_mem hs
        exact szS_at hi
      exact leb_byte' (n := (s.length : Int)) (by omega) (by omega) x hx
    · exact h s hs x hx
def TOK (q : QQ) : Prop := ∀ s ∈ txts q, ∀ x ∈ s, x < 256
theorem encQ_byte {q : QQ} (ok : QOK q) (tk : TOK q) : ∀ x ∈ encQ q, x < 256 := by
  intro x hx
  have := ok.len
  rcases List.mem_append.1 hx with hx | hx
  · exact encI_byte ok.ints (by omega) x hx
  · exact encS_byte tk (by have := ok.txt; omega) x hx
/-- SameQuery. -/
theorem refSame {h : Heap} {nx : Nat} {P P' : Nat → Prop} {q q' : QQ} {c c' : List AVal} (hq : Qc h P q c) (hq' : Qc h P' q' c') (hP : ∀ i, P i → i < nx) (hP' : ∀ i, P' i → i < nx) (ok : QOK q) (ok' : QOK q') (tk : TOK q) (tk' : TOK q') : AC EX 7 [.agg c, .agg c'] ⟨h, nx⟩ (fun w d' => nx ≤ d'.nx ∧ KeepP (fun i => i < nx) h d'.h ∧ w = .bool (decide (encQ q = encQ q'))) := by
  have hc12 : c.length = 12 := by obtain ⟨v, w0, w1, w2, w3, w4, w5, rfl, _⟩ := hq.cases; rfl
  have hc12' : c'.length = 12 := by obtain ⟨v, w0, w1, w2, w3, w4, w5, rfl, _⟩ := hq'.cases; rfl
  have hcs' : ∀ v ∈ c', simpleV v = true := by
    obtain ⟨v, w0, w1, w2, w3, w4, w5, rfl, hv, hp⟩ := hq'.cases
    have h1 := hv.simple
    have h2 := hp.simple
    intro x hx
    have hx' : x ∈ [v, AVal.int .i64 q'.k, .int .i64 q'.wi] ++ [w0, w1, w2, w3, w4, w5] ++ [.int .i64 q'.da, .int .i64 q'.co, .int .i64 q'.bu] := hx
    rcases List.mem_append.1 hx' with hx | hx
    · rcases List.mem_append.1 hx with hx | hx
      · simp at hx; rcases hx with rfl | rfl | rfl
        · exact h1
        · rfl
        · rfl
      · exact h2 x hx
    · simp at hx; rcases hx with rfl | rfl | rfl <;> rfl
  refine AC.of_wp' (size := 12) f7 rfl rfl ?_
  refine wp_seq (wp_region ?_)
  refine wpO_box (by simp +decide only [go_sem]) rfl (v := .agg c) (by simp +decide only [go_sem]) rfl ?_
  intro h1 hB1 hs1
  have hB1 : Bx h1 nx c := hB1
  refine wpO_box (by simp +decide only [go_sem]) rfl (v := .agg c') (by simp +decide only [go_sem]) rfl ?_
  intro h2 hC2 hs2
  have hC2 : Bx h2 (nx + 1) c' := hC2
  have hB2 := hB1.keep (hs2 nx (by omega))
  repeat refine wpO_pure (by simp +decide only [go_sem]) (by conv => lhs; simp +decide only [go_sem]) ?_
  rw [wpO_nil]
  have hk2 : KeepP (fun i => i < nx) h h2 := (hs1.toP (P := fun i => i < nx) (by omega)).trans (hs2.toP (P := fun i => i < nx) (by omega))
  have hld1 : loadAt EX h2 29 nx 0 = some (.agg c) := by rw [hB2.load, ll29 (by omega), List.drop_zero, List.take_of_length_le (by omega)]
  have hld2 : loadAt EX h2 29 (nx + 1) 0 = some (.agg c') := by rw [hC2.load, ll29 (by omega), List.drop_zero, List.take_of_length_le (by omega)]
  refine wp_seq (wp_drawn [.q 0 [], .q 3 [], .l 1 [], .c [(3, [])], .q 2 [], .l 4 [], .c [(2, [])], .q 5 [], .q 6 [], .q 7 []] (by kernel_rfl) ?_)
  iterate 2 refine wpD_pure (o := ⟨_, _, _, _, _, _⟩) rfl (by simp +decide only [go_sem]) (by conv => lhs; simp +decide only [go_sem, hld1, hld2]) ?_
  refine wpD_call (o := ⟨_, _, _, _, _, _⟩) rfl (by simp +decide only [go_sem]) (by conv => lhs; simp +decide only [go_sem]) n11 (refEncodeQuery (hq.keep (hk2.mono hP)) (fun i hi => by have := hP i hi; omega) ok) ?_
  intro b1 ⟨h3, nx3⟩ ⟨r1, r2, r3⟩
  dsimp only at r1 r2 r3
  have hC3 := hC2.keep (r2 (nx + 1) (by omega))
  have hld3 : loadAt EX h3 29 (nx + 1) 0 = some (.agg c') := by rw [hC3.load, ll29 (by omega), List.drop_zero, List.take_of_length_le (by omega)]
  refine wpD_c (fun x hx => ?_) ?_
  · simp only [List.mem_singleton] at hx
    subst hx
    refine chk_yes (v := .agg c') (d := 8) (o := ⟨_, _, _, _, _, _⟩) rfl rfl (by simp +decide only [go_sem]) (by conv => lhs; simp +decide only [go_sem, hld3]) ?_
    simp +decide only [go_sem]
    exact veq_agg hcs'
  have hk3 : KeepP (fun i => i < nx) h h3 := hk2.trans (r2.mono (fun i hi => by omega))
  refine wpD_pure (o := ⟨_, _, _, _, _, _⟩) rfl (by simp +decide only [go_sem]) (by conv => lhs; simp +decide only [go_sem, conv_bys r3 (encQ_byte ok tk)]) ?_
  refine wpD_call (o := ⟨_, _, _, _, _, _⟩) rfl (by simp +decide only [go_sem]) (by conv => lhs; simp +decide only [go_sem]) n11 (refEncodeQuery (hq'.keep (hk3.mono hP')) (fun i hi => by have := hP' i hi; omega) ok') ?_
  intro b2 ⟨h4, nx4⟩ ⟨s1, s2, s3⟩
  dsimp only at s1 s2 s3
  have r4 := r3.keep (s2.mono (fun i hi => hi.2))
  refine wpD_c (fun x hx => ?_) ?_
  · simp only [List.mem_singleton] at hx
    subst hx
    refine chk_yes (v := .str (encQ q)) (d := 7) (o := ⟨_, _, _, _, _, _⟩) rfl rfl (by simp +decide only [go_sem]) (by conv => lhs; simp +decide only [go_sem, conv_bys r4 (encQ_byte ok tk)]) ?_
    simp +decide only [go_sem]
    exact veq_simple rfl
  refine wpD_pure (o := ⟨_, _, _, _, _, _⟩) rfl (by simp +decide only [go_sem]) (by conv => lhs; simp +decide only [go_sem, conv_bys s3 (encQ_byte ok' tk')]) ?_
  repeat refine wpD_pure (o := ⟨_, _, _, _, _, _⟩) rfl (by simp +decide only [go_sem]) (by conv => lhs; simp +decide only [go_sem, binStr_eq]) ?_
  rw [wpD_nil]
  refine wp_ret rfl ⟨.inr rfl, _, res_one (v := .bool (decide (encQ q = encQ q'))) (by simp +decide only [go_sem]) rfl, by show nx ≤ nx4; omega, hk3.trans (s2.mono (fun i hi => by omega)), rfl⟩
end Go.Ev
end
section
open Go Go.Proofs Go.RowKit
set_option linter.unusedVariables false
set_option linter.unusedSimpArgs false
set_option maxRecDepth 100000
namespace Go.Ev
/-- What a loop's rounds do: they take one part more. -/
structure YRd (L : Nat) (P : Nat → Prop) (M : Nat) (J : List Tr → (Nat → Prop) → D → Prop) : Prop where
  low : ∀ done X d, J done X d → (∀ i, X i → i < d.nx) ∧ ∀ i, P i → i < d.nx ∧ ¬ X i
  stab : ∀ done X h nx h' nx', J done X ⟨h, nx⟩ → (∀ i, i < nx → h'.get i = h.get i) → nx ≤ nx' → J done X ⟨h', nx'⟩
  round : ∀ done X d t c, done.length < M → J done X d → Pc d.h P t c → ∃ r, d.h.get L = some (.loop r) ∧ r.params.length = 1 ∧ RC EX r L [.agg c] d (fun v d' => v = .bool true ∧ ∃ X', J (done ++ [t]) X' d' ∧ d.nx ≤ d'.nx ∧ (∀ i, X' i → X i ∨ d.nx ≤ i) ∧ KeepP (fun i => i < d.nx ∧ ¬ X i) d.h d'.h)
set_option maxHeartbeats 4000000 in
theorem srcEach {L : Nat} {P : Nat → Prop} {M : Nat} {J : List Tr → (Nat → Prop) → D → Prop} (Y : YRd L P M J) : ∀ (n : Nat) {d : D} {t : Tr} {c : List AVal} {done : List Tr} {X : Nat → Prop}, tsz t ≤ n → J done X d → Pc d.h P t c → done.length + tsz t ≤ M → tsz t < 60000000000 →
    AC EX 88 [.agg c, .func (.yield L) [] []] d (fun v d' => v = .bool true ∧ ∃ X', J (done ++ pre t) X' d' ∧ d.nx ≤ d'.nx ∧ (∀ i, X' i → X i ∨ d.nx ≤ i) ∧ KeepP (fun i => i < d.nx ∧ ¬ X i) d.h d'.h) := by
  intro n
  induction n with
  | zero => intro d t c done X hn; have := tsz_pos t; omega
  | succ n ih =>
  intro d tr c done X hn hJ hp hM hbig
  obtain ⟨h, nx⟩ := d
  dsimp only at hp
  have hc6 := hp.len
  obtain ⟨op, nm, nn, m, s, v, l0, hc, hv, hs, htr⟩ := hp.cases
  have hlen := hs.len
  have hsz := tsz_eq tr
  have hsl := tszL_len tr.subs
  obtain ⟨hX, hPX⟩ := Y.low _ _ _ hJ
  dsimp only at hX hPX
  refine AC.of_wp' (size := 23) f88 rfl rfl ?_
  refine wp_seq (wp_region ?_)
  refine wpO_box (by simp +decide only [go_sem]) rfl (v := .agg c) (by simp +decide only [go_sem]) rfl ?_
  intro h1 hB1 hs1
  have hB1 : Bx h1 nx c := hB1
  repeat refine wpO_pure (by simp +decide only [go_sem]) (by conv => lhs; simp +decide only [go_sem]) ?_
  rw [wpO_nil]
  have hJ1 : J done X ⟨h1, nx + 1⟩ := Y.stab _ _ _ _ _ _ hJ (fun i hi => hs1 i (by omega)) (Nat.le_succ _)
  have hk1 : KeepP (fun i => i < nx) h h1 := hs1.toP (by omega)
  have hp1 : Pc h1 P tr c := Pc.keep (hk1.mono (fun i hi => (hPX i hi).1)) _ _ hp
  have hld1 : loadAt EX h1 25 nx 0 = some (.agg c) := by rw [hB1.load, ll25 (by omega), List.drop_zero, List.take_of_length_le (by omega)]
  obtain ⟨r, q1, q2, q3⟩ := Y.round done X ⟨h1, nx + 1⟩ tr c (by have := tsz_pos tr; omega) hJ1 hp1
  dsimp only at q1
  refine wp_seq (wp_seq (wp_region ?_))
  iterate 2 refine wpO_pure (by simp +decide only [go_sem]) (by conv => lhs; simp +decide only [go_sem, hld1]) ?_
  refine wpO_round (args := [.agg c]) (by simp +decide only [go_sem]) (by conv => lhs; simp +decide only [go_sem]) q1 q2 q3 ?_
  intro w d ⟨hw, X1, hJ2, c1, c2, c3⟩
  subst hw
  obtain ⟨h2, nx2⟩ := d
  dsimp only at c1 c2 c3
  repeat refine wpO_pure (by simp +decide only [go_sem]) (by conv => lhs; simp +decide only [go_sem]) ?_
  rw [wpO_nil]
  refine wp_cond (x := false) (by simp +decide only [go_sem]) (wp_skip ?_)
  have hB2 := hB1.keep (c3 nx ⟨by omega, fun e => by have := hX _ e; omega⟩)
  have hld2 : ∀ ty off, loadAt EX h2 ty nx off = loadL EX ty c off := fun ty off => hB2.load ty off
  have hc5 : c[5]? = some v := by rw [hc]; rfl
  have hk2 : KeepP (fun i => i < nx ∧ ¬ X i) h h2 := (hk1.mono (fun i hi => hi.1)).trans (c3.mono (fun i hi => ⟨by omega, hi.2⟩))
  have hv2 := hv.keep (hk2.mono hPX)
  have hs2 := PcL.keep (hk2.mono hPX) _ _ hs
  have hsv := hv2.lenN (by decide)
  rw [hlen, Nat.mul_div_cancel _ (by decide)] at hsv
  refine wp_seqR (fun t d => ∃ X', J (done ++ pre tr) X' d ∧ nx ≤ d.nx ∧ (∀ i, X' i → X i ∨ nx ≤ i) ∧ KeepP (fun i => i < nx ∧ ¬ X i) h d.h) (wp_seq (wp_region ?_)) ?_
  · repeat refine wpO_pure (by simp +decide only [go_sem]) (by conv => lhs; simp +decide only [go_sem, hld2, hc5, len23 hsv]) ?_
    rw [wpO_nil]
    refine wp_block (wp_while (α := Nat) (fun j => tr.subs.length - j) (fun j t d => j ≤ tr.subs.length ∧ getT t 1 = .func (.yield L) [] [] ∧ getT t 12 = v ∧ getT t 13 = .int .i64 (tr.subs.length : Int) ∧ getT t 14 = .int .i64 (j : Int) ∧ ∃ X', J (done ++ (tr :: preL (tr.subs.take j))) X' d ∧ nx ≤ d.nx ∧ (∀ i, X' i → X i ∨ nx ≤ i) ∧ KeepP (fun i => i < nx ∧ ¬ X i) h d.h) ?_ (a := 0) ?_)
    · intro j t d ⟨hj, g1, g12, g13, g14, X', e1, e2, e3, e4⟩
      obtain ⟨hh, nxx⟩ := d
      dsimp only at e2 e4
      obtain ⟨hX', hPX'⟩ := Y.low _ _ _ e1
      dsimp only at hX' hPX'
      refine wp_seq (wp_region ?_)
      repeat refine wpO_pure (by simp +decide only [go_sem]) (by conv => lhs; simp +decide only [go_sem, g13, g14]) ?_
      rw [wpO_nil]
      refine wp_seq (wp_cond (x := decide ((j : Int) < (tr.subs.length : Int))) (by simp +decide only [go_sem]) ?_)
      by_cases hz : j < tr.subs.length
      · rw [show decide ((j : Int) < (tr.subs.length : Int)) = true from by simp; omega]
        have hvk := hv.keep (e4.mono hPX)
        have hsk := PcL.keep (e4.mono hPX) _ _ hs
        refine wp_skip (wp_seq (wp_block (wp_seq (wp_region ?_))))
        refine wpO_indexP (i := j) (j := .i64) (by simp +decide only [go_sem]) rfl hvk (by decide) u23 s25 u25 (by simp +decide only [go_sem, g12]) (by simp +decide only [go_sem, g14]) (by omega) ?_
        intro id off hel
        refine wpO_pure (by simp +decide only [go_sem]) (by conv => lhs; simp +decide only [go_sem, hel]) ?_
        have hpj := hsk.at hz
        have hszj := tsz_at hz
        have hl6 := hpj.len
        refine wpO_alloc (by simp +decide only [go_sem]) rfl z25 ?_
        intro h3 hB3 hs3
        have hB3 : Bx h3 nxx zc := hB3
        refine wpO_storeA (off := 0) (vs := (l0.drop (j * 6)).take 6) (by simp +decide only [go_sem]) rfl hB3 (by simp +decide only [go_sem]) (by simp +decide only [go_sem]) s25 hl6 (by decide) hpj.cells ?_
        intro h4 hB4 hs4
        rw [storeL_all (by rw [hl6]; rfl)] at hB4
        rw [wpO_nil]
        have hld4 : loadAt EX h4 25 nxx 0 = some (.agg ((l0.drop (j * 6)).take 6)) := by rw [hB4.load, ll25 (by omega), List.drop_zero, List.take_of_length_le (by omega)]
        have hk4 : ∀ i, i < nxx → h4.get i = hh.get i := fun i hi => (hs4 i (by omega)).trans (hs3 i (by omega))
        have hJ4 : J (done ++ (tr :: preL (tr.subs.take j))) X' ⟨h4, nxx + 1⟩ := Y.stab _ _ _ _ _ _ e1 hk4 (Nat.le_succ _)
        have hp4 : Pc h4 P tr.subs[j] ((l0.drop (j * 6)).take 6) := Pc.keep (fun i hi => hk4 i (hPX' i hi).1) _ _ hpj
        have hpl : (done ++ (tr :: preL (tr.subs.take j))).length + tsz tr.subs[j] ≤ M := by
          have h1 : preL tr.subs = preL (tr.subs.take j) ++ (pre tr.subs[j] ++ preL (tr.subs.drop (j + 1))) := by
            conv => lhs; rw [← List.take_append_drop j tr.subs, preL_app, List.drop_eq_getElem_cons hz, preL]
          have h2 := congrArg List.length h1
          rw [preL_len, List.length_append, List.length_append, pre_len] at h2
          simp only [List.length_append, List.length_cons]
          omega
        refine wp_seq (wp_region ?_)
        iterate 2 refine wpO_pure (by simp +decide only [go_sem]) (by conv => lhs; simp +decide only [go_sem, hld4, g1]) ?_
        refine wpO_call (by simp +decide only [go_sem]) (by conv => lhs; simp +decide only [go_sem]) n88 (ih (d := ⟨h4, nxx + 1⟩) (by omega) hJ4 hp4 hpl (by omega)) ?_
        intro w d ⟨hw, X2, k1, k2, k3, k4⟩
        subst hw
        obtain ⟨h5, nx5⟩ := d
        dsimp only at k2 k3 k4
        repeat refine wpO_pure (by simp +decide only [go_sem]) (by conv => lhs; simp +decide only [go_sem]) ?_
        rw [wpO_nil]
        refine wp_cond (x := false) (by simp +decide only [go_sem]) (wp_skip ?_)
        refine wp_region ?_
        repeat refine wpO_pure (by simp +decide only [go_sem]) (by conv => lhs; simp +decide only [go_sem, g14]) ?_
        rw [wpO_nil]
        refine ⟨j + 1, by omega, by omega, by simp +decide only [go_sem, g1], by simp +decide only [go_sem, g12], by simp +decide only [go_sem, g13], ?_, X2, ?_, by show nx ≤ nx5; omega, ?_, ?_⟩
        · simp +decide only [go_sem]
          rw [wi64 (by omega) (by omega)]; rfl
        · rw [List.take_succ_eq_append_getElem hz, preL_app, preL, preL, List.append_nil, ← List.cons_append, ← List.append_assoc]
          exact k1
        · intro i hi
          rcases k3 i hi with hi | hi
          · exact e3 i hi
          · exact .inr (by omega)
        · intro i hi
          refine (k4 i ⟨by omega, fun e => ?_⟩).trans ((hk4 i (by omega)).trans (e4 i hi))
          rcases e3 i e with h | h
          · exact hi.2 h
          · omega
      · rw [show decide ((j : Int) < (tr.subs.length : Int)) = false from by simp; omega]
        rw [List.take_of_length_le (by omega)] at e1
        exact wp_exit ⟨X', by rw [pre_eq]; exact e1, e2, e3, e4⟩
    · refine ⟨Nat.zero_le _, by simp +decide only [go_sem], by simp +decide only [go_sem], by simp +decide only [go_sem], by simp +decide only [go_sem]; rfl, X1, by rw [List.take_zero, preL]; exact hJ2, by show nx ≤ nx2; omega, ?_, hk2⟩
      intro i hi
      rcases c2 i hi with h | h
      · exact .inl h
      · exact .inr (by omega)
  · intro t d ⟨X', e1, e2, e3, e4⟩
    obtain ⟨hh, nxx⟩ := d
    refine wp_seq (wp_region ?_)
    repeat refine wpO_pure (by simp +decide only [go_sem]) (by conv => lhs; simp +decide only [go_sem]) ?_
    rw [wpO_nil]
    exact wp_ret rfl ⟨.inr rfl, _, res_one (v := .bool true) (by simp +decide only [go_sem]) rfl, rfl, X', e1, e2, e3, e4⟩
/-- The function of parts. -/
theorem srcParts1 {L : Nat} {P : Nat → Prop} {M : Nat} {J : List Tr → (Nat → Prop) → D → Prop} (Y : YRd L P M J) {d : D} {B : Nat} {t : Tr} {c : List AVal} {done : List Tr} {X : Nat → Prop} (hJ : J done X d) (hp : Pc d.h P t c) (hB : Bx d.h B c) (hM : done.length + tsz t ≤ M) (hbig : tsz t < 60000000000) :
    AC EX 87 [.func (.yield L) [] [], .ptr B 0] d (fun v d' => ∃ X', J (done ++ pre t) X' d' ∧ d.nx ≤ d'.nx ∧ (∀ i, X' i → X i ∨ d.nx ≤ i) ∧ KeepP (fun i => i < d.nx ∧ ¬ X i) d.h d'.h) := by
  obtain ⟨h, nx⟩ := d
  have hc6 := hp.len
  have hld1 : loadAt EX h 25 B 0 = some (.agg c) := by rw [hB.load, ll25 (by omega), List.drop_zero, List.take_of_length_le (by omega)]
  refine AC.of_wp' (size := 6) f87 rfl rfl ?_
  refine wp_region ?_
  iterate 2 refine wpO_pure (by simp +decide only [go_sem]) (by conv => lhs; simp +decide only [go_sem, hld1]) ?_
  refine wpO_call (by simp +decide only [go_sem]) (by conv => lhs; simp +decide only [go_sem]) n88 (srcEach Y _ (Nat.le_refl _) hJ hp hM hbig) ?_
  intro w d ⟨hw, X2, k1, k2, k3, k4⟩
  rw [wpO_nil]
  exact ⟨.inl rfl, [], rfl, X2, k1, k2, k3, k4⟩
theorem srcParts {h : Heap} {nx : Nat} {c : List AVal} (hc6 : c.length = 6) : AC EX 29 [.agg c] ⟨h, nx⟩ (fun v d' => v = .func (.func 87) [] [.ptr nx 0] ∧ d'.nx = nx + 1 ∧ Bx d'.h nx c ∧ Same1 nx h d'.h) := by
  refine AC.of_wp' (size := 4) f29 rfl rfl ?_
  refine wp_seq (wp_region ?_)
  refine wpO_box (by simp +decide only [go_sem]) rfl (v := .agg c) (by simp +decide only [go_sem]) rfl ?_
  intro h1 hB1 hs1
  repeat refine wpO_pure (by simp +decide only [go_sem]) (by conv => lhs; simp +decide only [go_sem]) ?_
  rw [wpO_nil]
  refine wp_seq (wp_region ?_)
  repeat refine wpO_pure (by simp +decide only [go_sem]) (by conv => lhs; simp +decide only [go_sem]) ?_
  rw [wpO_nil]
  exact wp_ret rfl ⟨.inr rfl, _, res_one (v := .func (.func 87) [] [.ptr nx 0]) (by simp +decide only [go_sem]) rfl, rfl, rfl, hB1, hs1⟩
end Go.Ev
end
