/- What the functions of the program and of the reference compute, over the abstract machine; the laws of what they compute. -/
import Derived.Test.YtedlbliofaomhaaGreatDoorCodes2
import Derived.Test.YtedlbliofaomhaaGreatDoorMachine7
set_option linter.all false
section
open Go Go.Proofs Go.RowKit
set_option linter.unusedVariables false
set_option linter.unusedSimpArgs false
set_option maxRecDepth 100000
namespace Go.Ev
attribute [go_sem] Bool.not_true Bool.not_false
abbrev RD3 := Option (Tr × List Int × List (List Nat))
abbrev RL3 := Option (List Tr × List Int × List (List Nat))
/-- So many conditions, one behind another. -/
def rdL (g : List Int → List (List Nat) → RD3) : Nat → List Int → List (List Nat) → RL3
  | 0, N, T => some ([], N, T)
  | k + 1, N, T => match g N T with
    | some (t, N', T') => (match rdL g k N' T' with
      | some (ts, N2, T2) => some (t :: ts, N2, T2)
      | none => none)
    | none => none
/-- A condition that is read; what is left of the numbers and texts. -/
def rd : Nat → List Int → List (List Nat) → RD3
  | 0, _, _ => none
  | f + 1, N, T => match N, T with
    | op :: n :: m :: k :: N', nm :: s :: T' => if 0 ≤ k ∧ k ≤ 64 then (match rdL (rd f) k.toNat N' T' with
      | some (ts, N2, T2) => some (.mk op nm n m s ts, N2, T2)
      | none => none) else none
    | _, _ => none
def preO (acc : List Tr) : RL3 → RL3
  | some (ts, N, T) => some (acc ++ ts, N, T)
  | none => none
theorem preO_step {g : List Int → List (List Nat) → RD3} {acc : List Tr} {k : Nat} {N N' : List Int} {T T' : List (List Nat)} {t : Tr} (h : g N T = some (t, N', T')) : preO acc (rdL g (k + 1) N T) = preO (acc ++ [t]) (rdL g k N' T') := by
  show preO acc (match g N T with
    | some (t, N', T') => (match rdL g k N' T' with
      | some (ts, N2, T2) => some (t :: ts, N2, T2)
      | none => none)
    | none => none) = _
  rw [h]
  dsimp only
  cases rdL g k N' T' with
  | none => rfl
  | some x => obtain ⟨ts, N2, T2⟩ := x; simp [preO]
theorem preO_none {g : List Int → List (List Nat) → RD3} {acc : List Tr} {k : Nat} {N : List Int} {T : List (List Nat)} (h : g N T = none) : preO acc (rdL g (k + 1) N T) = none := by
  show preO acc (match g N T with
    | some (t, N', T') => (match rdL g k N' T' with
      | some (ts, N2, T2) => some (t :: ts, N2, T2)
      | none => none)
    | none => none) = _
  rw [h]; rfl
theorem rdL_len {g : List Int → List (List Nat) → RD3} (hg : ∀ N T t N' T', g N T = some (t, N', T') → N'.length ≤ N.length ∧ T'.length ≤ T.length) : ∀ (k : Nat) N T ts N' T', rdL g k N T = some (ts, N', T') → N'.length ≤ N.length ∧ T'.length ≤ T.length
  | 0, N, T, ts, N', T', h => by cases h; exact ⟨Nat.le_refl _, Nat.le_refl _⟩
  | k + 1, N, T, ts, N', T', h => by
    unfold rdL at h
    split at h
    · rename_i t N1 T1 h1
      split at h
      · rename_i ts2 N2 T2 h2
        cases h
        have a := hg _ _ _ _ _ h1
        have b := rdL_len hg k _ _ _ _ _ h2
        omega
      · cases h
    · cases h
theorem rd_len : ∀ (f : Nat) N T t N' T', rd f N T = some (t, N', T') → N'.length ≤ N.length ∧ T'.length ≤ T.length
  | 0, N, T, t, N', T', h => by cases h
  | f + 1, N, T, t, N', T', h => by
    unfold rd at h
    split at h
    · split at h
      · split at h
        · rename_i ts N2 T2 h2
          cases h
          have := rdL_len (rd_len f) _ _ _ _ _ _ h2
          simp only [List.length_cons]; omega
        · cases h
      · cases h
    · cases h
def nSub (N : List Int) : Int := (N[3]?).getD 0
def goodN (N : List Int) (T : List (List Nat)) : Prop := 4 ≤ N.length ∧ 2 ≤ T.length ∧ 0 ≤ nSub N ∧ nSub N ≤ 64
instance (N : List Int) (T : List (List Nat)) : Decidable (goodN N T) := by unfold goodN; infer_instance
theorem good_eq {N : List Int} {T : List (List Nat)} (h : goodN N T) : ∃ op n m k N' nm s T', N = op :: n :: m :: k :: N' ∧ T = nm :: s :: T' ∧ 0 ≤ k ∧ k ≤ 64 := by
  obtain ⟨h1, h2, h3, h4⟩ := h
  match N, T, h1, h2 with
  | op :: n :: m :: k :: N', nm :: s :: T', _, _ => exact ⟨op, n, m, k, N', nm, s, T', rfl, rfl, h3, h4⟩
theorem rd_none {f : Nat} {N : List Int} {T : List (List Nat)} (h : ¬ goodN N T) : rd (f + 1) N T = none := by
  unfold rd
  split
  · rename_i op n m k N' nm s T'
    rw [if_neg]
    intro hk
    exact h ⟨by simp, by simp, hk⟩
  · rfl
/-- What reading a condition leaves. -/
def WQ (h : Heap) (nx S : Nat) (P : Nat → Prop) (r : RD3) (w : AVal) (d' : D) : Prop :=
  nx ≤ d'.nx ∧ KeepP (fun i => i < nx ∧ i ≠ S) h d'.h ∧ ∃ c, w = .agg c ∧ c.length = 6 ∧ (∀ v ∈ c, cellOK v = true) ∧ ∃ a' b', match r with
    | some (t, N', T') => Pc d'.h (fun i => nx ≤ i ∧ i < d'.nx) t c ∧ Bx d'.h S [a', b', .bool false] ∧ SlP 1 d'.h P a' (N'.map intV) ∧ SlP 1 d'.h P b' (T'.map AVal.str)
    | none => Bx d'.h S [a', b', .bool true]
def zc : List AVal := [.int .i64 0, .str [], .int .i64 0, .int .i64 0, .str [], .nilslice]
set_option maxHeartbeats 8000000 in
theorem srcWhere : ∀ (f : Nat) {h : Heap} {nx S : Nat} {P : Nat → Prop} {a b : AVal} {N : List Int} {T : List (List Nat)}, N.length < 4 * f → Bx h S [a, b, .bool false] → S < nx → SlP 1 h P a (N.map intV) → SlP 1 h P b (T.map AVal.str) → (∀ i, P i → i < nx ∧ i ≠ S) → N.length < 60000000000 → T.length < 60000000000 →
    AC EX 25 [.ptr S 0] ⟨h, nx⟩ (WQ h nx S P (rd f N T)) := by
  intro f
  induction f with
  | zero => intro h nx S P a b N T hN; omega
  | succ f ih =>
  intro h nx S P a b N T hN hB hS hva hvb hP hNl hTl
  refine AC.of_wp' (size := 88) f25 rfl rfl ?_
  refine wp_seq (wp_region ?_)
  refine wpO_alloc (by simp +decide only [go_sem]) rfl z25 ?_
  intro h1 hR1 hs1
  rw [wpO_nil]
  have hB1 := hB.keep (hs1 S (by omega))
  have hva1 := hva.keep (hs1.toP (fun e => by have := (hP _ e).1; omega))
  have hvb1 := hvb.keep (hs1.toP (fun e => by have := (hP _ e).1; omega))
  have hP1 : ∀ i, P i → i < nx + 1 ∧ i ≠ S := fun i hi => ⟨by have := (hP i hi).1; omega, (hP i hi).2⟩
  -- the numbers
  refine wp_seqR (fun t d => ∃ h2 nx2 w1 a1, d = ⟨h2, nx2⟩ ∧ nx + 1 ≤ nx2 ∧ KeepP (fun i => i < nx + 1 ∧ i ≠ S) h1 h2 ∧ getT t 0 = .ptr S 0 ∧ getT t 2 = .ptr nx 0 ∧ getT t 3 = w1 ∧ getT t 4 = .bool (decide (4 ≤ N.length)) ∧ Bx h2 S [a1, b, .bool false] ∧ (4 ≤ N.length → SlP 1 h2 (fun i => nx + 1 ≤ i ∧ i < nx2) w1 ((N.map intV).take 4) ∧ SlP 1 h2 P a1 ((N.map intV).drop 4))) (wp_region ?_) ?_
  · repeat refine wpO_pure (by simp +decide only [go_sem]) (by conv => lhs; simp +decide only [go_sem]) ?_
    refine wpO_call (by simp +decide only [go_sem]) (by conv => lhs; simp +decide only [go_sem]) n24 (takeI (n := 4) hB1 (by omega) hva1 hP1 hNl) ?_
    intro w d hw
    by_cases hn : 4 ≤ N.length
    · rw [if_pos ⟨by decide, by omega⟩] at hw
      obtain ⟨s, a', rfl, k1, k2, k3, k4, k5⟩ := hw
      obtain ⟨h2, nx2⟩ := d
      repeat refine wpO_pure (by simp +decide only [go_sem]) (by conv => lhs; simp +decide only [go_sem]) ?_
      rw [wpO_nil]
      exact ⟨h2, nx2, s, a', rfl, k1, k2, by simp +decide only [go_sem], by simp +decide only [go_sem], by simp +decide only [go_sem], by simp +decide only [go_sem, hn], k4, fun _ => ⟨k3, k5⟩⟩
    · rw [if_neg (fun e => hn (by omega))] at hw
      obtain ⟨rfl, rfl⟩ := hw
      repeat refine wpO_pure (by simp +decide only [go_sem]) (by conv => lhs; simp +decide only [go_sem]) ?_
      rw [wpO_nil]
      exact ⟨h1, nx + 1, .nilslice, a, rfl, Nat.le_refl _, .refl, by simp +decide only [go_sem], by simp +decide only [go_sem], by simp +decide only [go_sem], by simp +decide only [go_sem, hn], hB1, fun e => absurd e hn⟩
  intro t d ⟨h2, nx2, w1, a1, hd, hnx2, hk2, g0, g2, g3, g4, hB2, hw1⟩
  subst hd
  have hvb2 := hvb1.keep (hk2.mono hP1)
  have hP2 : ∀ i, P i → i < nx2 ∧ i ≠ S := fun i hi => ⟨by have := (hP i hi).1; omega, (hP i hi).2⟩
  -- the texts
  refine wp_seqR (fun t d => ∃ h3 nx3 w2 b1, d = ⟨h3, nx3⟩ ∧ nx2 ≤ nx3 ∧ KeepP (fun i => i < nx2 ∧ i ≠ S) h2 h3 ∧ getT t 0 = .ptr S 0 ∧ getT t 2 = .ptr nx 0 ∧ getT t 3 = w1 ∧ getT t 4 = .bool (decide (4 ≤ N.length)) ∧ getT t 5 = w2 ∧ getT t 6 = .bool (decide (2 ≤ T.length)) ∧ Bx h3 S [a1, b1, .bool false] ∧ (2 ≤ T.length → SlP 1 h3 (fun i => nx2 ≤ i ∧ i < nx3) w2 ((T.map AVal.str).take 2) ∧ SlP 1 h3 P b1 ((T.map AVal.str).drop 2))) (wp_region ?_) ?_
  · repeat refine wpO_pure (by simp +decide only [go_sem]) (by conv => lhs; simp +decide only [go_sem, g0]) ?_
    refine wpO_call (by simp +decide only [go_sem]) (by conv => lhs; simp +decide only [go_sem]) n83 (takeS (n := 2) hB2 (by omega) hvb2 hP2 hTl) ?_
    intro w d hw
    by_cases hn : 2 ≤ T.length
    · rw [if_pos ⟨by decide, by omega⟩] at hw
      obtain ⟨s, a', rfl, k1, k2, k3, k4, k5⟩ := hw
      obtain ⟨h3, nx3⟩ := d
      repeat refine wpO_pure (by simp +decide only [go_sem]) (by conv => lhs; simp +decide only [go_sem]) ?_
      rw [wpO_nil]
      exact ⟨h3, nx3, s, a', rfl, k1, k2, by simp +decide only [go_sem, g0], by simp +decide only [go_sem, g2], by simp +decide only [go_sem, g3], by simp +decide only [go_sem, g4], by simp +decide only [go_sem], by simp +decide only [go_sem, hn], k4, fun _ => ⟨k3, k5⟩⟩
    · rw [if_neg (fun e => hn (by omega))] at hw
      obtain ⟨rfl, rfl⟩ := hw
      repeat refine wpO_pure (by simp +decide only [go_sem]) (by conv => lhs; simp +decide only [go_sem]) ?_
      rw [wpO_nil]
      exact ⟨h2, nx2, .nilslice, b, rfl, Nat.le_refl _, .refl, by simp +decide only [go_sem, g0], by simp +decide only [go_sem, g2], by simp +decide only [go_sem, g3], by simp +decide only [go_sem, g4], by simp +decide only [go_sem], by simp +decide only [go_sem, hn], hB2, fun e => absurd e hn⟩
  clear g0 g2 g3 g4
  intro t d ⟨h3, nx3, w2, b1, hd, hnx3, hk3, g0, g2, g3, g4, g5, g6, hB3, hw2⟩
  subst hd
  have hk03 : KeepP (fun i => i < nx ∧ i ≠ S) h h3 := ((hs1.toP (P := fun i => i < nx ∧ i ≠ S) (by intro e; omega)).trans (hk2.mono (fun i hi => ⟨by omega, hi.2⟩))).trans (hk3.mono (fun i hi => ⟨by omega, hi.2⟩))
  have hR3 : Bx h3 nx zc := (hR1.keep (hk2 nx ⟨by omega, by omega⟩)).keep (hk3 nx ⟨by omega, by omega⟩)
  have hw1' : 4 ≤ N.length → SlP 1 h3 (fun i => nx + 1 ≤ i ∧ i < nx2) w1 ((N.map intV).take 4) ∧ SlP 1 h3 P a1 ((N.map intV).drop 4) := fun e => ⟨(hw1 e).1.keep (hk3.mono (fun i hi => ⟨hi.2, by omega⟩)), (hw1 e).2.keep (hk3.mono hP2)⟩
  have hld3 : ∀ ty off, loadAt EX h3 ty S off = loadL EX ty [a1, b1, .bool false] off := fun ty off => hB3.load ty off
  -- are they good?
  refine wp_seq (wp_seqR (fun t d => ∃ h4, d = ⟨h4, nx3⟩ ∧ Same1 S h3 h4 ∧ getT t 0 = .ptr S 0 ∧ getT t 2 = .ptr nx 0 ∧ getT t 3 = w1 ∧ getT t 5 = w2 ∧ Bx h4 S [a1, b1, .bool (decide (¬ goodN N T))]) (wp_region ?_) ?_)
  · by_cases e1 : 4 ≤ N.length
    · by_cases e2 : 2 ≤ T.length
      · obtain ⟨op, n, m, k, N', rfl⟩ : ∃ op n m k N', N = op :: n :: m :: k :: N' := by
          match N, e1 with
          | op :: n :: m :: k :: N', _ => exact ⟨op, n, m, k, N', rfl⟩
        have hix : SlP 1 h3 (fun i => nx + 1 ≤ i ∧ i < nx2) w1 [intV op, intV n, intV m, intV k] := (hw1' e1).1
        by_cases e3 : k < 0
        · have hng : ¬ goodN (op :: n :: m :: k :: N') T := fun hg => by have : 0 ≤ k := hg.2.2.1; omega
          iterate 6 refine wpO_pure (by simp +decide only [go_sem]) (by conv => lhs; simp +decide only [go_sem, g0, hld3]) ?_
          iterate 2 refine wpO_pure (wanted_yes rfl rfl (by simp +decide only [go_sem, g4, e1])) (by conv => lhs; simp +decide only [go_sem, g4, e1]) ?_
          iterate 2 refine wpO_pure (by simp +decide only [go_sem]) (by conv => lhs; simp +decide only [go_sem, e1]) ?_
          iterate 2 refine wpO_pure (wanted_yes rfl rfl (by simp +decide only [go_sem, g6, e2])) (by conv => lhs; simp +decide only [go_sem, g6, e2]) ?_
          iterate 2 refine wpO_pure (by simp +decide only [go_sem]) (by conv => lhs; simp +decide only [go_sem, e2]) ?_
          refine wpO_pure (wanted_yes rfl rfl (by simp +decide only [go_sem, g3])) (by conv => lhs; simp +decide only [go_sem, g3]) ?_
          refine wpO_index1 (i := 3) (j := .i64) (wanted_yes rfl rfl (by simp +decide only [go_sem])) rfl hix u22 s3 u3 rfl (by simp +decide only [go_sem]) rfl (by simp) ?_
          intro id off hld
          have hld : loadAt EX h3 3 id off = some (.int .i64 k) := hld
          iterate 2 refine wpO_pure (wanted_yes rfl rfl (by simp +decide only [go_sem, hld, e3])) (by conv => lhs; simp +decide only [go_sem, hld, e3]) ?_
          iterate 2 refine wpO_pure (by simp +decide only [go_sem]) (by conv => lhs; simp +decide only [go_sem, e3]) ?_
          iterate 4 refine wpO_no (wanted_not rfl rfl (by simp +decide only [go_sem, e3]; try rfl)) ?_
          iterate 3 refine wpO_pure (by simp +decide only [go_sem]) (by conv => lhs; simp +decide only [go_sem, g0]) ?_
          refine wpO_store1 (off := 2) (v := .bool true) (by simp +decide only [go_sem]) rfl hB3 (by simp +decide only [go_sem]) (by simp +decide only [go_sem]) s4 (by simp) rfl ?_
          intro h4 hB4 hs4
          rw [wpO_nil]
          exact ⟨h4, rfl, hs4, by simp +decide only [go_sem, g0], by simp +decide only [go_sem, g2], by simp +decide only [go_sem, g3], by simp +decide only [go_sem, g5], by rw [decide_eq_true hng]; exact hB4⟩
        · by_cases e4 : 64 < k
          · have hng : ¬ goodN (op :: n :: m :: k :: N') T := fun hg => by have : k ≤ 64 := hg.2.2.2; omega
            iterate 6 refine wpO_pure (by simp +decide only [go_sem]) (by conv => lhs; simp +decide only [go_sem, g0, hld3]) ?_
            iterate 2 refine wpO_pure (wanted_yes rfl rfl (by simp +decide only [go_sem, g4, e1])) (by conv => lhs; simp +decide only [go_sem, g4, e1]) ?_
            iterate 2 refine wpO_pure (by simp +decide only [go_sem]) (by conv => lhs; simp +decide only [go_sem, e1]) ?_
            iterate 2 refine wpO_pure (wanted_yes rfl rfl (by simp +decide only [go_sem, g6, e2])) (by conv => lhs; simp +decide only [go_sem, g6, e2]) ?_
            iterate 2 refine wpO_pure (by simp +decide only [go_sem]) (by conv => lhs; simp +decide only [go_sem, e2]) ?_
            refine wpO_pure (wanted_yes rfl rfl (by simp +decide only [go_sem, g3])) (by conv => lhs; simp +decide only [go_sem, g3]) ?_
            refine wpO_index1 (i := 3) (j := .i64) (wanted_yes rfl rfl (by simp +decide only [go_sem])) rfl hix u22 s3 u3 rfl (by simp +decide only [go_sem]) rfl (by simp) ?_
            intro id off hld
            have hld : loadAt EX h3 3 id off = some (.int .i64 k) := hld
            iterate 2 refine wpO_pure (wanted_yes rfl rfl (by simp +decide only [go_sem, hld, e3])) (by conv => lhs; simp +decide only [go_sem, hld, e3]) ?_
            iterate 2 refine wpO_pure (by simp +decide only [go_sem]) (by conv => lhs; simp +decide only [go_sem, e3]) ?_
            refine wpO_pure (wanted_yes rfl rfl (by simp +decide only [go_sem, g3, e3])) (by conv => lhs; simp +decide only [go_sem, g3, e3]) ?_
            refine wpO_index1 (i := 3) (j := .i64) (wanted_yes rfl rfl (by simp +decide only [go_sem, e3])) rfl hix u22 s3 u3 rfl (by simp +decide only [go_sem]) rfl (by simp) ?_
            intro id off hld
            have hld : loadAt EX h3 3 id off = some (.int .i64 k) := hld
            iterate 2 refine wpO_pure (wanted_yes rfl rfl (by simp +decide only [go_sem, hld, e3, e4])) (by conv => lhs; simp +decide only [go_sem, hld, e3, e4]) ?_
            iterate 3 refine wpO_pure (by simp +decide only [go_sem]) (by conv => lhs; simp +decide only [go_sem, e4, g0]) ?_
            refine wpO_store1 (off := 2) (v := .bool true) (by simp +decide only [go_sem]) rfl hB3 (by simp +decide only [go_sem]) (by simp +decide only [go_sem]) s4 (by simp) rfl ?_
            intro h4 hB4 hs4
            rw [wpO_nil]
            exact ⟨h4, rfl, hs4, by simp +decide only [go_sem, g0], by simp +decide only [go_sem, g2], by simp +decide only [go_sem, g3], by simp +decide only [go_sem, g5], by rw [decide_eq_true hng]; exact hB4⟩
          · have hg : goodN (op :: n :: m :: k :: N') T := ⟨e1, e2, by show 0 ≤ k; omega, by show k ≤ 64; omega⟩
            iterate 6 refine wpO_pure (by simp +decide only [go_sem]) (by conv => lhs; simp +decide only [go_sem, g0, hld3]) ?_
            iterate 2 refine wpO_pure (wanted_yes rfl rfl (by simp +decide only [go_sem, g4, e1])) (by conv => lhs; simp +decide only [go_sem, g4, e1]) ?_
            iterate 2 refine wpO_pure (by simp +decide only [go_sem]) (by conv => lhs; simp +decide only [go_sem, e1]) ?_
            iterate 2 refine wpO_pure (wanted_yes rfl rfl (by simp +decide only [go_sem, g6, e2])) (by conv => lhs; simp +decide only [go_sem, g6, e2]) ?_
            iterate 2 refine wpO_pure (by simp +decide only [go_sem]) (by conv => lhs; simp +decide only [go_sem, e2]) ?_
            refine wpO_pure (wanted_yes rfl rfl (by simp +decide only [go_sem, g3])) (by conv => lhs; simp +decide only [go_sem, g3]) ?_
            refine wpO_index1 (i := 3) (j := .i64) (wanted_yes rfl rfl (by simp +decide only [go_sem])) rfl hix u22 s3 u3 rfl (by simp +decide only [go_sem]) rfl (by simp) ?_
            intro id off hld
            have hld : loadAt EX h3 3 id off = some (.int .i64 k) := hld
            iterate 2 refine wpO_pure (wanted_yes rfl rfl (by simp +decide only [go_sem, hld, e3])) (by conv => lhs; simp +decide only [go_sem, hld, e3]) ?_
            iterate 2 refine wpO_pure (by simp +decide only [go_sem]) (by conv => lhs; simp +decide only [go_sem, e3]) ?_
            refine wpO_pure (wanted_yes rfl rfl (by simp +decide only [go_sem, g3, e3])) (by conv => lhs; simp +decide only [go_sem, g3, e3]) ?_
            refine wpO_index1 (i := 3) (j := .i64) (wanted_yes rfl rfl (by simp +decide only [go_sem, e3])) rfl hix u22 s3 u3 rfl (by simp +decide only [go_sem]) rfl (by simp) ?_
            intro id off hld
            have hld : loadAt EX h3 3 id off = some (.int .i64 k) := hld
            iterate 2 refine wpO_pure (wanted_yes rfl rfl (by simp +decide only [go_sem, hld, e3, e4])) (by conv => lhs; simp +decide only [go_sem, hld, e3, e4]) ?_
            iterate 3 refine wpO_pure (by simp +decide only [go_sem]) (by conv => lhs; simp +decide only [go_sem, e4, g0]) ?_
            refine wpO_store1 (off := 2) (v := .bool false) (by simp +decide only [go_sem]) rfl hB3 (by simp +decide only [go_sem]) (by simp +decide only [go_sem]) s4 (by simp) rfl ?_
            intro h4 hB4 hs4
            rw [wpO_nil]
            exact ⟨h4, rfl, hs4, by simp +decide only [go_sem, g0], by simp +decide only [go_sem, g2], by simp +decide only [go_sem, g3], by simp +decide only [go_sem, g5], by rw [decide_eq_false (fun e => e hg)]; exact hB4⟩
      · have hng : ¬ goodN N T := fun hg => e2 hg.2.1
        iterate 6 refine wpO_pure (by simp +decide only [go_sem]) (by conv => lhs; simp +decide only [go_sem, g0, hld3]) ?_
        iterate 2 refine wpO_pure (wanted_yes rfl rfl (by simp +decide only [go_sem, g4, e1])) (by conv => lhs; simp +decide only [go_sem, g4, e1]) ?_
        iterate 2 refine wpO_pure (by simp +decide only [go_sem]) (by conv => lhs; simp +decide only [go_sem, e1]) ?_
        iterate 2 refine wpO_pure (wanted_yes rfl rfl (by simp +decide only [go_sem, g6, e2])) (by conv => lhs; simp +decide only [go_sem, g6, e2]) ?_
        iterate 2 refine wpO_pure (by simp +decide only [go_sem]) (by conv => lhs; simp +decide only [go_sem, e2]) ?_
        iterate 4 refine wpO_no (wanted_not rfl rfl (by simp +decide only [go_sem, e2]; try rfl)) ?_
        iterate 2 refine wpO_pure (by simp +decide only [go_sem]) (by conv => lhs; simp +decide only [go_sem]) ?_
        iterate 4 refine wpO_no (wanted_not rfl rfl (by simp +decide only [go_sem, e2]; try rfl)) ?_
        iterate 3 refine wpO_pure (by simp +decide only [go_sem]) (by conv => lhs; simp +decide only [go_sem, g0]) ?_
        refine wpO_store1 (off := 2) (v := .bool true) (by simp +decide only [go_sem]) rfl hB3 (by simp +decide only [go_sem]) (by simp +decide only [go_sem]) s4 (by simp) rfl ?_
        intro h4 hB4 hs4
        rw [wpO_nil]
        exact ⟨h4, rfl, hs4, by simp +decide only [go_sem, g0], by simp +decide only [go_sem, g2], by simp +decide only [go_sem, g3], by simp +decide only [go_sem, g5], by rw [decide_eq_true hng]; exact hB4⟩
    · have hng : ¬ goodN N T := fun hg => e1 hg.1
      iterate 6 refine wpO_pure (by simp +decide only [go_sem]) (by conv => lhs; simp +decide only [go_sem, g0, hld3]) ?_
      iterate 2 refine wpO_pure (wanted_yes rfl rfl (by simp +decide only [go_sem, g4, e1])) (by conv => lhs; simp +decide only [go_sem, g4, e1]) ?_
      iterate 2 refine wpO_pure (by simp +decide only [go_sem]) (by conv => lhs; simp +decide only [go_sem, e1]) ?_
      iterate 2 refine wpO_no (wanted_not rfl rfl (by simp +decide only [go_sem, e1]; try rfl)) ?_
      iterate 2 refine wpO_pure (by simp +decide only [go_sem]) (by conv => lhs; simp +decide only [go_sem]) ?_
      iterate 4 refine wpO_no (wanted_not rfl rfl (by simp +decide only [go_sem, e1]; try rfl)) ?_
      iterate 2 refine wpO_pure (by simp +decide only [go_sem]) (by conv => lhs; simp +decide only [go_sem]) ?_
      iterate 4 refine wpO_no (wanted_not rfl rfl (by simp +decide only [go_sem, e1]; try rfl)) ?_
      iterate 3 refine wpO_pure (by simp +decide only [go_sem]) (by conv => lhs; simp +decide only [go_sem, g0]) ?_
      refine wpO_store1 (off := 2) (v := .bool true) (by simp +decide only [go_sem]) rfl hB3 (by simp +decide only [go_sem]) (by simp +decide only [go_sem]) s4 (by simp) rfl ?_
      intro h4 hB4 hs4
      rw [wpO_nil]
      exact ⟨h4, rfl, hs4, by simp +decide only [go_sem, g0], by simp +decide only [go_sem, g2], by simp +decide only [go_sem, g3], by simp +decide only [go_sem, g5], by rw [decide_eq_true hng]; exact hB4⟩
  clear g0 g2 g3 g4 g5 g6
  intro t d ⟨h4, hd, hs4, g0, g2, g3, g5, hB4⟩
  subst hd
  have hk04 : KeepP (fun i => i < nx ∧ i ≠ S) h h4 := hk03.trans (hs4.toP (fun e => e.2 rfl))
  have hR4 : Bx h4 nx zc := hR3.keep (hs4 nx (by omega))
  have hld4 : ∀ ty off, loadAt EX h4 ty S off = loadL EX ty [a1, b1, .bool (decide (¬ goodN N T))] off := fun ty off => hB4.load ty off
  refine wp_seq (wp_region ?_)
  repeat refine wpO_pure (by simp +decide only [go_sem]) (by conv => lhs; simp +decide only [go_sem, g0, hld4]) ?_
  rw [wpO_nil]
  refine wp_cond (x := decide (¬ goodN N T)) (by simp +decide only [go_sem]) ?_
  by_cases hg : goodN N T
  case neg =>
    rw [decide_eq_true hg]
    refine wp_seq (wp_region ?_)
    refine wpO_pure (by simp +decide only [go_sem]) (by conv => lhs; simp +decide only [go_sem, bld25z]) ?_
    refine wpO_storeA (off := 0) (vs := zc) (by simp +decide only [go_sem]) rfl hR4 (by simp +decide only [go_sem, g2]) (by simp +decide only [go_sem]; rfl) s25 rfl (by decide) (by decide) ?_
    intro h5 hR5 hs5
    rw [wpO_nil]
    refine wp_ret rfl ⟨.inr rfl, _, res_cell (P := nx) (v := .agg zc) (by simp +decide only [go_sem, g2]) ?_ rfl, ?_⟩
    · rw [hR5.load]; exact ll25 (by decide)
    · rw [rd_none hg]
      refine ⟨by show nx ≤ nx3; omega, ?_, zc, rfl, rfl, by decide, a1, b1, ?_⟩
      · exact hk04.trans (hs5.toP (P := fun i => i < nx ∧ i ≠ S) (by intro e; omega))
      · have := hB4.keep (hs5 S (by omega))
        rw [decide_eq_true hg] at this; exact this
  case pos =>
    rw [decide_eq_false (fun e => e hg)] at hB4 hld4 ⊢
    obtain ⟨op, n, m, k, N', nm, s, T', rfl, rfl, hk0, hk64⟩ := good_eq hg
    obtain ⟨K, rfl⟩ := Int.eq_ofNat_of_zero_le hk0
    have hw1 : SlP 1 h4 (fun i => nx + 1 ≤ i ∧ i < nx2) w1 [intV op, intV n, intV m, intV K] := (hw1' hg.1).1.keep (hs4.toP (by intro e; omega))
    have ha4 : SlP 1 h4 P a1 (N'.map intV) := (hw1' hg.1).2.keep (hs4.toP (fun e => (hP _ e).2 rfl))
    have hw2' : SlP 1 h4 (fun i => nx2 ≤ i ∧ i < nx3) w2 [.str nm, .str s] := (hw2 hg.2.1).1.keep (hs4.toP (by intro e; omega))
    have hb4 : SlP 1 h4 P b1 (T'.map AVal.str) := (hw2 hg.2.1).2.keep (hs4.toP (fun e => (hP _ e).2 rfl))
    refine wp_skip (wp_seq (wp_drawn [.q 0 [], .q 1 [], .q 2 [], .q 3 [], .q 4 [], .q 5 [], .q 6 [], .q 7 [], .q 8 [], .q 9 [], .q 10 [], .q 11 [], .q 12 [], .q 13 [], .q 14 [], .q 15 [], .q 16 [], .l 17 [], .c []] (by kernel_rfl) ?_))
    refine wpD_pure (o := ⟨_, _, _, _, _, _⟩) rfl (by simp +decide only [go_sem]) (by conv => lhs; simp +decide only [go_sem, g3]) ?_
    refine wpD_index1 (m := 0) (j := .i64) (o := ⟨_, _, _, _, _, _⟩) rfl (by simp +decide only [go_sem]) rfl hw1 u22 s3 u3 rfl (by simp +decide only [go_sem]) rfl (by simp) ?_
    intro id off hld
    have hld : loadAt EX h4 3 id off = some (.int .i64 op) := hld
    iterate 2 refine wpD_pure (o := ⟨_, _, _, _, _, _⟩) rfl (by simp +decide only [go_sem]) (by conv => lhs; simp +decide only [go_sem, hld, g3]) ?_
    clear hld
    refine wpD_index1 (m := 1) (j := .i64) (o := ⟨_, _, _, _, _, _⟩) rfl (by simp +decide only [go_sem]) rfl hw1 u22 s3 u3 rfl (by simp +decide only [go_sem]) rfl (by simp) ?_
    intro id off hld
    have hld : loadAt EX h4 3 id off = some (.int .i64 n) := hld
    iterate 2 refine wpD_pure (o := ⟨_, _, _, _, _, _⟩) rfl (by simp +decide only [go_sem]) (by conv => lhs; simp +decide only [go_sem, hld, g3]) ?_
    clear hld
    refine wpD_index1 (m := 2) (j := .i64) (o := ⟨_, _, _, _, _, _⟩) rfl (by simp +decide only [go_sem]) rfl hw1 u22 s3 u3 rfl (by simp +decide only [go_sem]) rfl (by simp) ?_
    intro id off hld
    have hld : loadAt EX h4 3 id off = some (.int .i64 m) := hld
    iterate 2 refine wpD_pure (o := ⟨_, _, _, _, _, _⟩) rfl (by simp +decide only [go_sem]) (by conv => lhs; simp +decide only [go_sem, hld, g5]) ?_
    clear hld
    refine wpD_index1 (m := 0) (j := .i64) (o := ⟨_, _, _, _, _, _⟩) rfl (by simp +decide only [go_sem]) rfl hw2' u100 s9 u9 rfl (by simp +decide only [go_sem]) rfl (by simp) ?_
    intro id off hld
    have hld : loadAt EX h4 9 id off = some (.str nm) := hld
    iterate 2 refine wpD_pure (o := ⟨_, _, _, _, _, _⟩) rfl (by simp +decide only [go_sem]) (by conv => lhs; simp +decide only [go_sem, hld, g5]) ?_
    clear hld
    refine wpD_index1 (m := 1) (j := .i64) (o := ⟨_, _, _, _, _, _⟩) rfl (by simp +decide only [go_sem]) rfl hw2' u100 s9 u9 rfl (by simp +decide only [go_sem]) rfl (by simp) ?_
    intro id off hld
    have hld : loadAt EX h4 9 id off = some (.str s) := hld
    refine wpD_pure (o := ⟨_, _, _, _, _, _⟩) rfl (by simp +decide only [go_sem]) (by conv => lhs; simp +decide only [go_sem, hld]) ?_
    refine wpD_pure (o := ⟨_, _, _, _, _, _⟩) rfl (by simp +decide only [go_sem]) (by conv => lhs; simp +decide only [go_sem, List.map_toArray, bld25]) ?_
    refine wpD_alloc (o := ⟨_, _, _, _, _, _⟩) rfl (by simp +decide only [go_sem]) rfl z25 ?_
    intro h5 hP5 hs5
    refine wpD_storeA (o := ⟨_, _, _, _, _, _⟩) rfl (by simp +decide only [go_sem]) rfl hP5 (off := 0) (vs := [.int .i64 op, .str nm, .int .i64 n, .int .i64 m, .str s, .nilslice]) (by simp +decide only [go_sem]) (by simp +decide only [go_sem]) s25 rfl (by decide) ?_ ?_
    · intro v hv; simp at hv; rcases hv with rfl | rfl | rfl | rfl | rfl | rfl <;> rfl
    intro h6 hP6 hs6
    refine wpD_c0 ?_
    rw [wpD_nil]
    have hP6 : Bx h6 nx3 [.int .i64 op, .str nm, .int .i64 n, .int .i64 m, .str s, .nilslice] := hP6
    have hs56 : KeepP (fun i => i < nx3) h4 h6 := (hs5.toP (P := fun i => i < nx3) (by omega)).trans (hs6.toP (P := fun i => i < nx3) (by omega))
    have hB6 := hB4.keep (hs56 S (by omega))
    have hR6 := hR4.keep (hs56 nx (by omega))
    have hw16 : SlP 1 h6 (fun i => nx + 1 ≤ i ∧ i < nx2) w1 [intV op, intV n, intV m, intV K] := hw1.keep (hs56.mono (fun i hi => by omega))
    have ha6 := ha4.keep (hs56.mono (fun i hi => by have := (hP i hi).1; omega))
    have hb6 := hb4.keep (hs56.mono (fun i hi => by have := (hP i hi).1; omega))
    have hk06 : KeepP (fun i => i < nx ∧ i ≠ S) h h6 := hk04.trans (hs56.mono (fun i hi => by omega))
    have hN' : N'.length < 4 * f := by simp only [List.length_cons] at hN; omega
    have hN'l : N'.length < 60000000000 := by simp only [List.length_cons] at hNl; omega
    have hT'l : T'.length < 60000000000 := by simp only [List.length_cons] at hTl; omega
    have hrd : rd (f + 1) (op :: n :: m :: (K : Int) :: N') (nm :: s :: T') = (match rdL (rd f) K N' T' with
      | some (ts, N2, T2) => some (.mk op nm n m s ts, N2, T2)
      | none => none) := by
      show (if 0 ≤ (K : Int) ∧ (K : Int) ≤ 64 then _ else _) = _
      rw [if_pos ⟨hk0, hk64⟩]; rfl
    generalize hrL : rdL (rd f) K N' T' = rL at hrd
    refine wp_seqR (fun t d => getT t 2 = .ptr nx 0 ∧ getT t 7 = .ptr nx3 0 ∧ ∃ v l a' b' bad, nx3 < d.nx ∧ KeepP (fun i => i < nx ∧ i ≠ S) h d.h ∧ Bx d.h nx zc ∧ Bx d.h nx3 [.int .i64 op, .str nm, .int .i64 n, .int .i64 m, .str s, v] ∧ Gro 6 d.h (nx3 + 1) d.nx v l ∧ Bx d.h S [a', b', .bool bad] ∧ ((bad = false ∧ ∃ acc N1 T1, PcL d.h (fun j => nx3 < j ∧ j < d.nx ∧ sid v ≠ some j) acc l ∧ SlP 1 d.h P a' (N1.map intV) ∧ SlP 1 d.h P b' (T1.map AVal.str) ∧ rL = some (acc, N1, T1)) ∨ (bad = true ∧ rL = none))) (wp_seq (wp_region ?_)) ?_
    · refine wpO_pure (by simp +decide only [go_sem]) (by conv => lhs; simp +decide only [go_sem, g3]) ?_
      refine wpO_index1 (i := 3) (j := .i64) (by simp +decide only [go_sem]) rfl hw16 u22 s3 u3 rfl (by simp +decide only [go_sem]) rfl (by simp) ?_
      intro id off hld
      have hld : loadAt EX h6 3 id off = some (.int .i64 K) := hld
      repeat refine wpO_pure (by simp +decide only [go_sem]) (by conv => lhs; simp +decide only [go_sem, hld]) ?_
      rw [wpO_nil]
      refine wp_block (wp_while (α := Nat) (fun i => K - i) (fun i t d => i ≤ K ∧ getT t 0 = .ptr S 0 ∧ getT t 2 = .ptr nx 0 ∧ getT t 7 = .ptr nx3 0 ∧ getT t 72 = .int .i64 K ∧ getT t 73 = .int .i64 (i : Int) ∧ ∃ v l a' b' bad, nx3 < d.nx ∧ KeepP (fun i => i < nx ∧ i ≠ S) h d.h ∧ Bx d.h nx zc ∧ Bx d.h nx3 [.int .i64 op, .str nm, .int .i64 n, .int .i64 m, .str s, v] ∧ Gro 6 d.h (nx3 + 1) d.nx v l ∧ Bx d.h S [a', b', .bool bad] ∧ l.length ≤ 6 * i ∧ ((bad = false ∧ ∃ acc N1 T1, PcL d.h (fun j => nx3 < j ∧ j < d.nx ∧ sid v ≠ some j) acc l ∧ SlP 1 d.h P a' (N1.map intV) ∧ SlP 1 d.h P b' (T1.map AVal.str) ∧ N1.length ≤ N'.length ∧ T1.length ≤ T'.length ∧ rL = preO acc (rdL (rd f) (K - i) N1 T1)) ∨ (bad = true ∧ rL = none))) ?_ (a := 0) ?_)
      · intro i t d ⟨hi, q0, q2, q7, q72, q73, v, l, a', b', bad, c1, c2, c3, c4, c5, c6, c7, c8⟩
        obtain ⟨hh, nxx⟩ := d
        dsimp only at c1 c2 c3 c4 c5 c6 c8
        refine wp_seq (wp_region ?_)
        repeat refine wpO_pure (by simp +decide only [go_sem]) (by conv => lhs; simp +decide only [go_sem, q72, q73]) ?_
        rw [wpO_nil]
        refine wp_seq (wp_cond (x := decide ((i : Int) < (K : Int))) (by simp +decide only [go_sem]) ?_)
        by_cases hz : i < K
        · rw [show decide ((i : Int) < (K : Int)) = true from by simp; omega]
          have hldS : ∀ ty off, loadAt EX hh ty S off = loadL EX ty [a', b', .bool bad] off := fun ty off => c6.load ty off
          refine wp_skip (wp_seq (wp_block (wp_seq (wp_seq (wp_region ?_)))))
          repeat refine wpO_pure (by simp +decide only [go_sem]) (by conv => lhs; simp +decide only [go_sem, q0, hldS]) ?_
          rw [wpO_nil]
          refine wp_cond (x := bad) (by simp +decide only [go_sem]) ?_
          rcases c8 with ⟨rfl, acc, N1, T1, e1, e2, e3, e4, e5, e6⟩ | ⟨rfl, e1⟩
          · refine wp_skip ?_
            have hldP : ∀ ty off, loadAt EX hh ty nx3 off = loadL EX ty [.int .i64 op, .str nm, .int .i64 n, .int .i64 m, .str s, v] off := fun ty off => c4.load ty off
            refine wp_drawn [.q 0 [], .q 1 [], .q 2 [], .l 3 [], .c [(1, [])], .q 4 [], .l 5 [], .c [], .q 6 [], .l 7 [], .c []] (by kernel_rfl) ?_
            iterate 3 refine wpD_pure (o := ⟨_, _, _, _, _, _⟩) rfl (by simp +decide only [go_sem]) (by conv => lhs; simp +decide only [go_sem, q7, q0, hldP]) ?_
            refine wpD_call (o := ⟨_, _, _, _, _, _⟩) rfl (by simp +decide only [go_sem]) (by conv => lhs; simp +decide only [go_sem]) n25 (ih (by omega) c6 (by omega) e2 e3 (fun j hj => ⟨by have := (hP j hj).1; omega, (hP j hj).2⟩) (by omega) (by omega)) ?_
            intro w d ⟨r1, r2, c, r3, r4, r5, a2, b2, r6⟩
            obtain ⟨hr, nxr⟩ := d
            dsimp only at r1 r2 r6
            subst r3
            have hnxS : nx < nxx ∧ nx ≠ S := ⟨by omega, by omega⟩
            have cR := c3.keep (r2 nx hnxS)
            have cP := c4.keep (r2 nx3 ⟨by omega, by omega⟩)
            have cG := c5.keepS (fun j hj => r2 j ⟨(c5.sid_lt hj).2, by have := (c5.sid_lt hj).1; omega⟩) r1
            have hldP2 : ∀ ty off, loadAt EX hr ty nx3 off = loadL EX ty [.int .i64 op, .str nm, .int .i64 n, .int .i64 m, .str s, v] off := fun ty off => cP.load ty off
            refine wpD_c (fun x hx => ?_) ?_
            · simp only [List.mem_singleton] at hx
              subst hx
              refine chk_yes (v := v) (d := 80) (o := ⟨_, _, _, _, _, _⟩) rfl rfl (by simp +decide only [go_sem]) (by conv => lhs; simp +decide only [go_sem, hldP2]) ?_
              simp +decide only [go_sem]
              exact veq_simple c5.toP.simple
            refine wpD_build1 (v := .agg c) (lo := nxr) (o := ⟨_, _, _, _, _, _⟩) rfl (by simp +decide only [go_sem]) rfl u23 s25 z25 rfl (by simp +decide only [go_sem, List.map_toArray]) r4 rfl (by decide) (by decide) (Nat.le_refl _) ?_
            intro hb hG hsb
            have cG2 := cG.keepS (h' := hb) (hi' := nxr + 1) (fun j hj => hsb j (by have := (cG.sid_lt hj).2; omega)) (Nat.le_succ _)
            refine wpD_appendX (o := ⟨_, _, _, _, _, _⟩) rfl (by simp +decide only [go_sem]) rfl rfl rfl rfl u23 u23 rfl s25 z25 b25 (by simp +decide only [go_sem]) (by simp +decide only [go_sem]) cG2 (by omega) hG.toP (okA_of r5 (by decide) ?_) ?_
            · show l.length / 6 + c.length / 6 ≤ _
              omega
            intro v' ha nxa k1 k2 k3 k4
            have cPa : Bx ha nx3 [.int .i64 op, .str nm, .int .i64 n, .int .i64 m, .str s, v] := (cP.keep (hsb nx3 (by omega))).keep (k3 nx3 (by omega) (fun e => by have := (c5.sid_lt e).1; omega))
            refine wpD_c0 ?_
            refine wpD_pure (o := ⟨_, _, _, _, _, _⟩) rfl (by simp +decide only [go_sem]) (by conv => lhs; simp +decide only [go_sem, q7]) ?_
            refine wpD_store1 (off := 5) (v := v') (o := ⟨_, _, _, _, _, _⟩) rfl (by simp +decide only [go_sem]) rfl cPa (by simp +decide only [go_sem]) (by simp +decide only [go_sem]) s23 (by simp) k2.toP.cellOK ?_
            intro h7 cP7 hs7
            refine wpD_c0 ?_
            rw [wpD_nil]
            refine wp_region ?_
            repeat refine wpO_pure (by simp +decide only [go_sem]) (by conv => lhs; simp +decide only [go_sem, q73]) ?_
            rw [wpO_nil]
            have hall : KeepP (fun j => j < nxr ∧ j ≠ nx3 ∧ sid v ≠ some j) hr h7 := fun j hj => ((hs7 j hj.2.1).trans (k3 j (by omega) hj.2.2)).trans (hsb j (by omega))
            have hsv : ∀ j, j ≤ nx3 → sid v ≠ some j := fun j hj e => by have := (c5.sid_lt e).1; omega
            have hsv' : ∀ j, j < nxr → sid v ≠ some j → sid v' ≠ some j := fun j hj hne e => by
              rcases k4 with k4 | k4
              · rw [k4] at e; exact hne e
              · rw [k4] at e; cases e; omega
            have hsvr : ∀ j, nxx ≤ j → sid v ≠ some j := fun j hj e => by have := (c5.sid_lt e).2; omega
            refine ⟨i + 1, by omega, by omega, by simp +decide only [go_sem, q0], by simp +decide only [go_sem, q2], by simp +decide only [go_sem, q7], by simp +decide only [go_sem, q72], ?_, v', l ++ c, a2, b2, (match rd f N1 T1 with | some _ => false | none => true), by show nx3 < nxa; omega, ?_, ?_, cP7, ?_, ?_, ?_, ?_⟩
            · simp +decide only [go_sem]
              rw [wi64 (by omega) (by omega)]; rfl
            · exact (c2.trans (r2.mono (fun j hj => ⟨by omega, hj.2⟩))).trans (hall.mono (fun j hj => ⟨by omega, by omega, hsv j (by omega)⟩))
            · exact cR.keep (hall nx ⟨by omega, by omega, hsv nx (by omega)⟩)
            · exact k2.keepS (fun j hj => hs7 j (by have := (k2.sid_lt hj).1; omega)) (Nat.le_refl _)
            · cases hr1 : rd f N1 T1 with
              | none =>
                rw [hr1] at r6
                exact r6.keep (hall S ⟨by omega, by omega, hsv S (by omega)⟩)
              | some x =>
                rw [hr1] at r6
                exact r6.2.1.keep (hall S ⟨by omega, by omega, hsv S (by omega)⟩)
            · rw [List.length_append, r4]; omega
            · cases hr1 : rd f N1 T1 with
              | none =>
                refine .inr ⟨rfl, ?_⟩
                rw [e6, show K - i = (K - (i + 1)) + 1 by omega, preO_none hr1]
              | some x =>
                obtain ⟨t1, N2, T2⟩ := x
                rw [hr1] at r6
                obtain ⟨y1, y2, y3, y4⟩ := r6
                have hl2 := rd_len _ _ _ _ _ _ hr1
                refine .inl ⟨rfl, acc ++ [t1], N2, T2, ?_, y3.keep (hall.mono (fun j hj => ?_)), y4.keep (hall.mono (fun j hj => ?_)), by omega, by omega, ?_⟩
                · refine PcL.app (PcL.mono ?_ _ _ (PcL.keep (hall.mono ?_) _ _ (PcL.keep (r2.mono ?_) _ _ e1))) (PcL.one (Pc.mono ?_ _ _ (Pc.keep (hall.mono ?_) _ _ y1)))
                  · exact fun j hj => ⟨hj.1, by show j < nxa; omega, hsv' j (by omega) hj.2.2⟩
                  · exact fun j hj => ⟨by omega, by omega, hj.2.2⟩
                  · exact fun j hj => ⟨hj.2.1, by omega⟩
                  · exact fun j hj => ⟨by omega, by show j < nxa; omega, hsv' j hj.2 (hsvr j hj.1)⟩
                  · exact fun j hj => ⟨hj.2, by omega, hsvr j hj.1⟩
                · have := (hP j hj).1; exact ⟨by omega, by omega, hsv j (by omega)⟩
                · have := (hP j hj).1; exact ⟨by omega, by omega, hsv j (by omega)⟩
                · rw [e6, show K - i = (K - (i + 1)) + 1 by omega, preO_step hr1]
          · exact wp_exit ⟨by simp +decide only [go_sem, q2], by simp +decide only [go_sem, q7], v, l, a', b', true, c1, c2, c3, c4, c5, c6, .inr ⟨rfl, e1⟩⟩
        · rw [show decide ((i : Int) < (K : Int)) = false from by simp; omega]
          refine wp_exit ⟨by simp +decide only [go_sem, q2], by simp +decide only [go_sem, q7], v, l, a', b', bad, c1, c2, c3, c4, c5, c6, ?_⟩
          rcases c8 with ⟨rfl, acc, N1, T1, e1, e2, e3, e4, e5, e6⟩ | ⟨rfl, e1⟩
          · refine .inl ⟨rfl, acc, N1, T1, e1, e2, e3, ?_⟩
            rw [e6, show K - i = 0 by omega]
            simp [rdL, preO]
          · exact .inr ⟨rfl, e1⟩
      · refine ⟨Nat.zero_le _, by simp +decide only [go_sem, g0], by simp +decide only [go_sem, g2], by simp +decide only [go_sem], by simp +decide only [go_sem], by simp +decide only [go_sem]; rfl, .nilslice, [], a1, b1, false, Nat.lt_succ_self _, hk06, hR6, hP6, .own .nil, hB6, by simp, .inl ⟨rfl, [], N', T', by rw [PcL], ha6, hb6, Nat.le_refl _, Nat.le_refl _, ?_⟩⟩
        rw [← hrL, Nat.sub_zero]
        cases rdL (rd f) K N' T' with
        | none => rfl
        | some x => rfl
    · intro t d ⟨q2, q7, v, l, a', b', bad, c1, c2, c3, c4, c5, c6, c8⟩
      obtain ⟨hh, nxx⟩ := d
      dsimp only at c1 c2 c3 c4 c5 c6 c8
      have hldP : loadAt EX hh 25 nx3 0 = some (.agg [.int .i64 op, .str nm, .int .i64 n, .int .i64 m, .str s, v]) := by rw [c4.load]; exact ll25 (by simp)
      refine wp_seq (wp_region ?_)
      repeat refine wpO_pure (by simp +decide only [go_sem]) (by conv => lhs; simp +decide only [go_sem, q7, hldP]) ?_
      have hcl : ∀ x ∈ [AVal.int .i64 op, .str nm, .int .i64 n, .int .i64 m, .str s, v], cellOK x = true := by
        intro x hx
        simp only [List.mem_cons, List.not_mem_nil, or_false] at hx
        rcases hx with rfl | rfl | rfl | rfl | rfl | rfl <;> first | rfl | exact c5.toP.cellOK
      refine wpO_storeA (off := 0) (vs := [.int .i64 op, .str nm, .int .i64 n, .int .i64 m, .str s, v]) (by simp +decide only [go_sem]) rfl c3 (by simp +decide only [go_sem, q2]) (by simp +decide only [go_sem]) s25 rfl (by decide) hcl ?_
      intro h8 hR8 hs8
      rw [wpO_nil]
      have hR8 : Bx h8 nx [.int .i64 op, .str nm, .int .i64 n, .int .i64 m, .str s, v] := hR8
      refine wp_ret rfl ⟨.inr rfl, _, res_cell (P := nx) (v := .agg [.int .i64 op, .str nm, .int .i64 n, .int .i64 m, .str s, v]) (by simp +decide only [go_sem, q2]) (by rw [hR8.load]; exact ll25 (by simp)) rfl, ?_⟩
      rw [hrd]
      refine ⟨by show nx ≤ nxx; omega, c2.trans (hs8.toP (P := fun i => i < nx ∧ i ≠ S) (by intro e; omega)), _, rfl, rfl, hcl, a', b', ?_⟩
      rcases c8 with ⟨rfl, acc, N1, T1, e1, e2, e3, e4⟩ | ⟨rfl, e1⟩
      · rw [e4]
        refine ⟨?_, c6.keep (hs8 S (by omega)), e2.keep (hs8.toP (fun e => by have := (hP _ e).1; omega)), e3.keep (hs8.toP (fun e => by have := (hP _ e).1; omega))⟩
        rw [Pc]
        refine ⟨v, l, rfl, ?_, ?_⟩
        · exact (c5.toP.keep (hs8.toP (by intro e; omega))).mono (fun j hj => ⟨by omega, hj.2⟩)
        · exact PcL.mono (fun j hj => ⟨by omega, hj.2.1⟩) _ _ (PcL.keep (hs8.toP (by intro e; omega)) _ _ e1)
      · rw [e1]
        exact c6.keep (hs8 S (by omega))
end Go.Ev
end
section
open Go Go.Proofs Go.RowKit
set_option linter.unusedVariables false
set_option linter.unusedSimpArgs false
set_option maxRecDepth 100000
namespace Go.Ev
mutual
/-- How many parts a condition has. -/
def tsz : Tr → Nat
  | .mk _ _ _ _ _ subs => 1 + tszL subs
def tszL : List Tr → Nat
  | [] => 0
  | t :: ts => tsz t + tszL ts
end
theorem tszL_app : ∀ (a b : List Tr), tszL (a ++ b) = tszL a + tszL b
  | [], b => by simp [tszL]
  | t :: a, b => by rw [List.cons_append, tszL, tszL, tszL_app a b, Nat.add_assoc]
theorem rdL_sz {g : List Int → List (List Nat) → RD3} (hg : ∀ N T t N' T', g N T = some (t, N', T') → N' = N.drop (4 * tsz t) ∧ T' = T.drop (2 * tsz t) ∧ 4 * tsz t ≤ N.length ∧ 2 * tsz t ≤ T.length) : ∀ (k : Nat) N T ts N' T', rdL g k N T = some (ts, N', T') → N' = N.drop (4 * tszL ts) ∧ T' = T.drop (2 * tszL ts) ∧ 4 * tszL ts ≤ N.length ∧ 2 * tszL ts ≤ T.length
  | 0, N, T, ts, N', T', h => by cases h; simp [tszL]
  | k + 1, N, T, ts, N', T', h => by
    unfold rdL at h
    split at h
    · rename_i t N1 T1 h1
      split at h
      · rename_i ts2 N2 T2 h2
        cases h
        obtain ⟨rfl, rfl, a3, a4⟩ := hg _ _ _ _ _ h1
        obtain ⟨rfl, rfl, b3, b4⟩ := rdL_sz hg k _ _ _ _ _ h2
        rw [List.length_drop] at b3 b4
        rw [tszL, List.drop_drop, List.drop_drop, Nat.mul_add, Nat.mul_add]
        exact ⟨rfl, rfl, by omega, by omega⟩
      · cases h
    · cases h
theorem rd_sz : ∀ (f : Nat) N T t N' T', rd f N T = some (t, N', T') → N' = N.drop (4 * tsz t) ∧ T' = T.drop (2 * tsz t) ∧ 4 * tsz t ≤ N.length ∧ 2 * tsz t ≤ T.length
  | 0, N, T, t, N', T', h => by cases h
  | f + 1, N, T, t, N', T', h => by
    unfold rd at h
    split at h
    · split at h
      · split at h
        · rename_i op n m k N1 nm s T1 hk ts N2 T2 h2
          cases h
          obtain ⟨rfl, rfl, a3, a4⟩ := rdL_sz (rd_sz f) _ _ _ _ _ _ h2
          rw [tsz]
          simp only [List.length_cons]
          refine ⟨?_, ?_, by omega, by omega⟩
          · rw [show 4 * (1 + tszL ts) = 4 * tszL ts + 4 by omega]; rfl
          · rw [show 2 * (1 + tszL ts) = 2 * tszL ts + 2 by omega]; rfl
        · cases h
      · cases h
    · cases h
def z8 : List AVal := [.int .i64 0, .str [], .int .i64 0, .int .i64 0, .str [], .nilslice, .int .i64 0, .bool false]
/-- What the specification's reading of a condition leaves. -/
def WR (h : Heap) (nx : Nat) (r : RD3) (w : AVal) (d' : D) : Prop :=
  nx ≤ d'.nx ∧ KeepP (fun i => i < nx) h d'.h ∧ match r with
    | some (t, _, _) => ∃ c, w = .agg (c ++ [.int .i64 (tsz t : Int), .bool true]) ∧ Pc d'.h (fun i => nx ≤ i ∧ i < d'.nx) t c
    | none => w = .agg z8
theorem bld111 {a b d : Int} {e g : List Nat} {n : Int} : buildV EX 111 [(0, .agg [.int .i64 a, .str e, .int .i64 b, .int .i64 d, .str g, .nilslice]), (1, .int .i64 n), (2, .bool true)] = some (.agg [.int .i64 a, .str e, .int .i64 b, .int .i64 d, .str g, .nilslice, .int .i64 n, .bool true]) := by kernel_rfl
theorem fuel_drop {N : List Int} {f i j : Nat} (h : (N.drop (4 * i)).length < 4 * (f + 1)) (hi : 4 * i + 4 ≤ N.length) (hj : i < j) : (N.drop (4 * j)).length < 4 * f := by
  rw [List.length_drop] at h ⊢; omega
theorem goodN_drop {N : List Int} {T : List (List Nat)} {i : Nat} : goodN (N.drop (4 * i)) (T.drop (2 * i)) ↔ 4 * i + 4 ≤ N.length ∧ 2 * i + 2 ≤ T.length ∧ 0 ≤ (N[4 * i + 3]?).getD 0 ∧ (N[4 * i + 3]?).getD 0 ≤ 64 := by
  unfold goodN nSub
  rw [List.length_drop, List.length_drop, List.getElem?_drop]
  constructor <;> (intro ⟨a, b, c, d⟩; exact ⟨by omega, by omega, c, d⟩)
set_option maxHeartbeats 8000000 in
theorem refWhere : ∀ (f : Nat) {h : Heap} {nx : Nat} {P : Nat → Prop} {v0 v1 : AVal} {N : List Int} {T : List (List Nat)} {i : Nat}, (N.drop (4 * i)).length < 4 * f → 4 * i ≤ N.length → SlP 1 h P v0 (N.map intV) → SlP 1 h P v1 (T.map AVal.str) → (∀ i, P i → i < nx) → N.length < 60000000000 → T.length < 60000000000 →
    AC EX 28 [v0, v1, .int .i64 (i : Int)] ⟨h, nx⟩ (WR h nx (rd f (N.drop (4 * i)) (T.drop (2 * i)))) := by
  intro f
  induction f with
  | zero => intro h nx P v0 v1 N T i hN; omega
  | succ f ih =>
  intro h nx P v0 v1 N T i hN hiN hva hvb hP hNl hTl
  have hsa := hva.lenN (by decide)
  rw [List.length_map, Nat.div_one] at hsa
  have hsb := hvb.lenN (by decide)
  rw [List.length_map, Nat.div_one] at hsb
  refine AC.of_wp' (size := 110) f28 rfl rfl ?_
  refine wp_seq (wp_region ?_)
  refine wpO_alloc (by simp +decide only [go_sem]) rfl z111 ?_
  intro h1 hR1 hs1
  rw [wpO_nil]
  have hR1 : Bx h1 nx z8 := hR1
  have hva1 := hva.keep (hs1.toP (fun e => by have := hP _ e; omega))
  have hvb1 := hvb.keep (hs1.toP (fun e => by have := hP _ e; omega))
  have hk01 : KeepP (fun i => i < nx) h h1 := hs1.toP (by omega)
  have e4 : IntKind.i64.wrap (IntKind.i64.wrap (4 * (i : Int)) + 4) = ((4 * i + 4 : Nat) : Int) := by rw [wi64 (m := 4 * (i : Int)) (by omega) (by omega), wi64 (by omega) (by omega)]; omega
  have e2 : IntKind.i64.wrap (IntKind.i64.wrap (2 * (i : Int)) + 2) = ((2 * i + 2 : Nat) : Int) := by rw [wi64 (m := 2 * (i : Int)) (by omega) (by omega), wi64 (by omega) (by omega)]; omega
  have e3 : IntKind.i64.wrap (IntKind.i64.wrap (4 * (i : Int)) + 3) = ((4 * i + 3 : Nat) : Int) := by rw [wi64 (m := 4 * (i : Int)) (by omega) (by omega), wi64 (by omega) (by omega)]; omega
  have e40 : IntKind.i64.wrap (4 * (i : Int)) = ((4 * i : Nat) : Int) := by rw [wi64 (m := 4 * (i : Int)) (by omega) (by omega)]; omega
  have e41 : IntKind.i64.wrap (IntKind.i64.wrap (4 * (i : Int)) + 1) = ((4 * i + 1 : Nat) : Int) := by rw [wi64 (m := 4 * (i : Int)) (by omega) (by omega), wi64 (by omega) (by omega)]; omega
  have e42 : IntKind.i64.wrap (IntKind.i64.wrap (4 * (i : Int)) + 2) = ((4 * i + 2 : Nat) : Int) := by rw [wi64 (m := 4 * (i : Int)) (by omega) (by omega), wi64 (by omega) (by omega)]; omega
  have e20 : IntKind.i64.wrap (2 * (i : Int)) = ((2 * i : Nat) : Int) := by rw [wi64 (m := 2 * (i : Int)) (by omega) (by omega)]; omega
  have e21 : IntKind.i64.wrap (IntKind.i64.wrap (2 * (i : Int)) + 1) = ((2 * i + 1 : Nat) : Int) := by rw [wi64 (m := 2 * (i : Int)) (by omega) (by omega), wi64 (by omega) (by omega)]; omega
  have hixN : ∀ j (hj : j < N.length), (N.map intV)[j]'(by simpa using hj) = .int .i64 N[j] := fun j hj => by simp [intV]
  have hixT : ∀ j (hj : j < T.length), (T.map AVal.str)[j]'(by simpa using hj) = .str T[j] := fun j hj => by simp
  -- are they good?
  refine wp_seq (wp_seqR (fun t d => d = ⟨h1, nx + 1⟩ ∧ getT t 0 = v0 ∧ getT t 1 = v1 ∧ getT t 2 = .int .i64 (i : Int) ∧ getT t 6 = .ptr nx 0 ∧ getT t 41 = .bool (decide (¬ goodN (N.drop (4 * i)) (T.drop (2 * i))))) (wp_region ?_) ?_)
  · by_cases c1 : N.length < 4 * i + 4
    · have d1 : decide ((N.length : Int) < ((4 * i + 4 : Nat) : Int)) = true := by simp; omega
      have hng : ¬ goodN (N.drop (4 * i)) (T.drop (2 * i)) := by rw [goodN_drop]; omega
      iterate 7 refine wpO_pure (by simp +decide only [go_sem]) (by conv => lhs; simp +decide only [go_sem, len22 hsa, e4, d1]) ?_
      iterate 6 refine wpO_no (wanted_not rfl rfl (by simp +decide only [go_sem, d1]; try rfl)) ?_
      iterate 2 refine wpO_pure (by simp +decide only [go_sem]) (by conv => lhs; simp +decide only [go_sem, d1]) ?_
      iterate 7 refine wpO_no (wanted_not rfl rfl (by simp +decide only [go_sem, d1]; try rfl)) ?_
      iterate 2 refine wpO_pure (by simp +decide only [go_sem]) (by conv => lhs; simp +decide only [go_sem, d1]) ?_
      iterate 7 refine wpO_no (wanted_not rfl rfl (by simp +decide only [go_sem, d1]; try rfl)) ?_
      repeat refine wpO_pure (by simp +decide only [go_sem]) (by conv => lhs; simp +decide only [go_sem, d1]) ?_
      rw [wpO_nil]
      exact ⟨rfl, by simp +decide only [go_sem], by simp +decide only [go_sem], by simp +decide only [go_sem], by simp +decide only [go_sem], by simp +decide only [go_sem]; rw [decide_eq_true hng]⟩
    · have d1 : decide ((N.length : Int) < ((4 * i + 4 : Nat) : Int)) = false := by simp; omega
      by_cases c2 : T.length < 2 * i + 2
      · have d2 : decide ((T.length : Int) < ((2 * i + 2 : Nat) : Int)) = true := by simp; omega
        have hng : ¬ goodN (N.drop (4 * i)) (T.drop (2 * i)) := by rw [goodN_drop]; omega
        iterate 7 refine wpO_pure (by simp +decide only [go_sem]) (by conv => lhs; simp +decide only [go_sem, len22 hsa, e4, d1]) ?_
        iterate 6 refine wpO_pure (wanted_yes rfl rfl (by simp +decide only [go_sem, len100 hsb, e2, d2, d1])) (by conv => lhs; simp +decide only [go_sem, len100 hsb, e2, d2, d1]) ?_
        iterate 2 refine wpO_pure (by simp +decide only [go_sem]) (by conv => lhs; simp +decide only [go_sem, d2]) ?_
        iterate 7 refine wpO_no (wanted_not rfl rfl (by simp +decide only [go_sem, d2]; try rfl)) ?_
        iterate 2 refine wpO_pure (by simp +decide only [go_sem]) (by conv => lhs; simp +decide only [go_sem, d2]) ?_
        iterate 7 refine wpO_no (wanted_not rfl rfl (by simp +decide only [go_sem, d2]; try rfl)) ?_
        repeat refine wpO_pure (by simp +decide only [go_sem]) (by conv => lhs; simp +decide only [go_sem, d2]) ?_
        rw [wpO_nil]
        exact ⟨rfl, by simp +decide only [go_sem], by simp +decide only [go_sem], by simp +decide only [go_sem], by simp +decide only [go_sem], by simp +decide only [go_sem]; rw [decide_eq_true hng]⟩
      · have d2 : decide ((T.length : Int) < ((2 * i + 2 : Nat) : Int)) = false := by simp; omega
        have hlt : 4 * i + 3 < N.length := by omega
        by_cases c3 : N[4 * i + 3] < 0
        · have hng : ¬ goodN (N.drop (4 * i)) (T.drop (2 * i)) := by
            rw [goodN_drop, List.getElem?_eq_getElem hlt]
            show ¬ (_ ∧ _ ∧ 0 ≤ N[4 * i + 3] ∧ N[4 * i + 3] ≤ 64)
            omega
          iterate 7 refine wpO_pure (by simp +decide only [go_sem]) (by conv => lhs; simp +decide only [go_sem, len22 hsa, e4, d1]) ?_
          iterate 6 refine wpO_pure (wanted_yes rfl rfl (by simp +decide only [go_sem, len100 hsb, e2, d2, d1])) (by conv => lhs; simp +decide only [go_sem, len100 hsb, e2, d2, d1]) ?_
          iterate 2 refine wpO_pure (by simp +decide only [go_sem]) (by conv => lhs; simp +decide only [go_sem, d2]) ?_
          iterate 4 refine wpO_pure (wanted_yes rfl rfl (by simp +decide only [go_sem, e3, d2])) (by conv => lhs; simp +decide only [go_sem, e3, d2]) ?_
          refine wpO_index1 (i := 4 * i + 3) (j := .i64) (wanted_yes rfl rfl (by simp +decide only [go_sem, d2])) rfl hva1 u22 s3 u3 rfl (by simp +decide only [go_sem]) (by simp +decide only [go_sem, e3]) (by simpa using hlt) ?_
          intro id off hld
          rw [hixN _ hlt] at hld
          iterate 2 refine wpO_pure (wanted_yes rfl rfl (by simp +decide only [go_sem, hld, c3, d2])) (by conv => lhs; simp +decide only [go_sem, hld, c3, d2]) ?_
          iterate 2 refine wpO_pure (by simp +decide only [go_sem]) (by conv => lhs; simp +decide only [go_sem, c3]) ?_
          iterate 7 refine wpO_no (wanted_not rfl rfl (by simp +decide only [go_sem, c3]; try rfl)) ?_
          repeat refine wpO_pure (by simp +decide only [go_sem]) (by conv => lhs; simp +decide only [go_sem, c3]) ?_
          rw [wpO_nil]
          exact ⟨rfl, by simp +decide only [go_sem], by simp +decide only [go_sem], by simp +decide only [go_sem], by simp +decide only [go_sem], by simp +decide only [go_sem]; rw [decide_eq_true hng]⟩
        · iterate 7 refine wpO_pure (by simp +decide only [go_sem]) (by conv => lhs; simp +decide only [go_sem, len22 hsa, e4, d1]) ?_
          iterate 6 refine wpO_pure (wanted_yes rfl rfl (by simp +decide only [go_sem, len100 hsb, e2, d2, d1])) (by conv => lhs; simp +decide only [go_sem, len100 hsb, e2, d2, d1]) ?_
          iterate 2 refine wpO_pure (by simp +decide only [go_sem]) (by conv => lhs; simp +decide only [go_sem, d2]) ?_
          iterate 4 refine wpO_pure (wanted_yes rfl rfl (by simp +decide only [go_sem, e3, d2])) (by conv => lhs; simp +decide only [go_sem, e3, d2]) ?_
          refine wpO_index1 (i := 4 * i + 3) (j := .i64) (wanted_yes rfl rfl (by simp +decide only [go_sem, d2])) rfl hva1 u22 s3 u3 rfl (by simp +decide only [go_sem]) (by simp +decide only [go_sem, e3]) (by simpa using hlt) ?_
          intro id off hld
          rw [hixN _ hlt] at hld
          iterate 2 refine wpO_pure (wanted_yes rfl rfl (by simp +decide only [go_sem, hld, c3, d2])) (by conv => lhs; simp +decide only [go_sem, hld, c3, d2]) ?_
          iterate 2 refine wpO_pure (by simp +decide only [go_sem]) (by conv => lhs; simp +decide only [go_sem, c3]) ?_
          iterate 4 refine wpO_pure (wanted_yes rfl rfl (by simp +decide only [go_sem, e3, c3])) (by conv => lhs; simp +decide only [go_sem, e3, c3]) ?_
          refine wpO_index1 (i := 4 * i + 3) (j := .i64) (wanted_yes rfl rfl (by simp +decide only [go_sem, c3])) rfl hva1 u22 s3 u3 rfl (by simp +decide only [go_sem]) (by simp +decide only [go_sem, e3]) (by simpa using hlt) ?_
          intro id off hld
          rw [hixN _ hlt] at hld
          iterate 2 refine wpO_pure (wanted_yes rfl rfl (by simp +decide only [go_sem, hld, c3])) (by conv => lhs; simp +decide only [go_sem, hld, c3]) ?_
          repeat refine wpO_pure (by simp +decide only [go_sem]) (by conv => lhs; simp +decide only [go_sem, c3]) ?_
          rw [wpO_nil]
          refine ⟨rfl, by simp +decide only [go_sem], by simp +decide only [go_sem], by simp +decide only [go_sem], by simp +decide only [go_sem], ?_⟩
          simp +decide only [go_sem]
          refine congrArg AVal.bool (decide_eq_decide.2 ?_)
          rw [goodN_drop, List.getElem?_eq_getElem hlt]
          show _ ↔ ¬ (_ ∧ _ ∧ 0 ≤ N[4 * i + 3] ∧ N[4 * i + 3] ≤ 64)
          omega
  intro t d ⟨hd, g0, g1, g2, g6, g41⟩
  subst hd
  refine wp_cond (x := decide (¬ goodN (N.drop (4 * i)) (T.drop (2 * i)))) (by simp +decide only [go_sem, g41]) ?_
  by_cases hg : goodN (N.drop (4 * i)) (T.drop (2 * i))
  case neg =>
    rw [decide_eq_true hg]
    refine wp_seq (wp_region ?_)
    refine wpO_pure (by simp +decide only [go_sem]) (by conv => lhs; simp +decide only [go_sem, bld111z]) ?_
    refine wpO_storeA (off := 0) (vs := z8) (by simp +decide only [go_sem]) rfl hR1 (by simp +decide only [go_sem, g6]) (by simp +decide only [go_sem]; rfl) s111 rfl (by decide) (by decide) ?_
    intro h5 hR5 hs5
    rw [wpO_nil]
    refine wp_ret rfl ⟨.inr rfl, _, res_cell (P := nx) (v := .agg z8) (by simp +decide only [go_sem, g6]) ?_ rfl, ?_⟩
    · rw [hR5.load]; exact ll111 (by decide)
    · rw [rd_none hg]
      exact ⟨Nat.le_succ _, hk01.trans (hs5.toP (P := fun i => i < nx) (by omega)), rfl⟩
  case pos =>
    rw [decide_eq_false (fun e => e hg)]
    have hb := goodN_drop.1 hg
    obtain ⟨op, n, m, k, N', nm, s, T', hNe, hTe, hk0, hk64⟩ := good_eq hg
    obtain ⟨K, rfl⟩ := Int.eq_ofNat_of_zero_le hk0
    have q0 : N[4 * i]? = some op := by have := congrArg (fun l => l[0]?) hNe; simpa using this
    have q1 : N[4 * i + 1]? = some n := by have := congrArg (fun l => l[1]?) hNe; simpa using this
    have q2 : N[4 * i + 2]? = some m := by have := congrArg (fun l => l[2]?) hNe; simpa using this
    have q3 : N[4 * i + 3]? = some (K : Int) := by have := congrArg (fun l => l[3]?) hNe; simpa using this
    have q4 : T[2 * i]? = some nm := by have := congrArg (fun l => l[0]?) hTe; simpa using this
    have q5 : T[2 * i + 1]? = some s := by have := congrArg (fun l => l[1]?) hTe; simpa using this
    have hN' : N' = N.drop (4 * (i + 1)) := by have := congrArg (fun l => l.drop 4) hNe; simp only [List.drop_drop] at this; rw [show 4 * (i + 1) = 4 * i + 4 by omega, this]; rfl
    have hT' : T' = T.drop (2 * (i + 1)) := by have := congrArg (fun l => l.drop 2) hTe; simp only [List.drop_drop] at this; rw [show 2 * (i + 1) = 2 * i + 2 by omega, this]; rfl
    have hel : ∀ j x, N[j]? = some x → ∀ hj : j < (N.map intV).length, (N.map intV)[j] = .int .i64 x := fun j x hx hj => by
      have hj' : j < N.length := by simpa using hj
      rw [List.getElem?_eq_getElem hj'] at hx
      simp [intV, Option.some.inj hx]
    have helT : ∀ j x, T[j]? = some x → ∀ hj : j < (T.map AVal.str).length, (T.map AVal.str)[j] = .str x := fun j x hx hj => by
      have hj' : j < T.length := by simpa using hj
      rw [List.getElem?_eq_getElem hj'] at hx
      simp [Option.some.inj hx]
    have hN4 : 4 * i + 4 ≤ (N.map intV).length := by simpa using hb.1
    have hT2 : 2 * i + 2 ≤ (T.map AVal.str).length := by simpa using hb.2.1
    refine wp_skip (wp_seq (wp_drawn [.q 0 [], .q 1 [], .q 2 [], .q 3 [], .q 4 [], .q 5 [], .q 6 [], .q 7 [], .q 8 [], .q 9 [], .q 10 [], .q 11 [], .q 12 [], .q 13 [], .q 14 [], .q 15 [], .q 16 [], .q 17 [], .q 18 [], .q 19 [], .q 20 [], .q 21 [], .q 22 [], .q 23 [], .q 24 [], .q 25 [], .q 26 [], .q 27 [], .q 28 [], .q 29 [], .q 30 [], .l 31 [], .c []] (by kernel_rfl) ?_))
    iterate 3 refine wpD_pure (o := ⟨_, _, _, _, _, _⟩) rfl (by simp +decide only [go_sem]) (by conv => lhs; simp +decide only [go_sem, g0, g2]) ?_
    refine wpD_index1 (m := 4 * i) (j := .i64) (o := ⟨_, _, _, _, _, _⟩) rfl (by simp +decide only [go_sem]) rfl hva1 u22 s3 u3 rfl (by simp +decide only [go_sem]) (by simp +decide only [go_sem, e40]) (by omega) ?_
    intro id off hld
    rw [hel _ _ q0] at hld
    iterate 5 refine wpD_pure (o := ⟨_, _, _, _, _, _⟩) rfl (by simp +decide only [go_sem]) (by conv => lhs; simp +decide only [go_sem, hld, g0, g2]) ?_
    clear hld
    refine wpD_index1 (m := 4 * i + 1) (j := .i64) (o := ⟨_, _, _, _, _, _⟩) rfl (by simp +decide only [go_sem]) rfl hva1 u22 s3 u3 rfl (by simp +decide only [go_sem]) (by simp +decide only [go_sem, e41]) (by omega) ?_
    intro id off hld
    rw [hel _ _ q1] at hld
    iterate 5 refine wpD_pure (o := ⟨_, _, _, _, _, _⟩) rfl (by simp +decide only [go_sem]) (by conv => lhs; simp +decide only [go_sem, hld, g0, g2]) ?_
    clear hld
    refine wpD_index1 (m := 4 * i + 2) (j := .i64) (o := ⟨_, _, _, _, _, _⟩) rfl (by simp +decide only [go_sem]) rfl hva1 u22 s3 u3 rfl (by simp +decide only [go_sem]) (by simp +decide only [go_sem, e42]) (by omega) ?_
    intro id off hld
    rw [hel _ _ q2] at hld
    iterate 4 refine wpD_pure (o := ⟨_, _, _, _, _, _⟩) rfl (by simp +decide only [go_sem]) (by conv => lhs; simp +decide only [go_sem, hld, g1, g2]) ?_
    clear hld
    refine wpD_index1 (m := 2 * i) (j := .i64) (o := ⟨_, _, _, _, _, _⟩) rfl (by simp +decide only [go_sem]) rfl hvb1 u100 s9 u9 rfl (by simp +decide only [go_sem]) (by simp +decide only [go_sem, e20]) (by omega) ?_
    intro id off hld
    rw [helT _ _ q4] at hld
    iterate 5 refine wpD_pure (o := ⟨_, _, _, _, _, _⟩) rfl (by simp +decide only [go_sem]) (by conv => lhs; simp +decide only [go_sem, hld, g1, g2]) ?_
    clear hld
    refine wpD_index1 (m := 2 * i + 1) (j := .i64) (o := ⟨_, _, _, _, _, _⟩) rfl (by simp +decide only [go_sem]) rfl hvb1 u100 s9 u9 rfl (by simp +decide only [go_sem]) (by simp +decide only [go_sem, e21]) (by omega) ?_
    intro id off hld
    rw [helT _ _ q5] at hld
    refine wpD_pure (o := ⟨_, _, _, _, _, _⟩) rfl (by simp +decide only [go_sem]) (by conv => lhs; simp +decide only [go_sem, hld]) ?_
    refine wpD_pure (o := ⟨_, _, _, _, _, _⟩) rfl (by simp +decide only [go_sem]) (by conv => lhs; simp +decide only [go_sem, List.map_toArray, bld25]) ?_
    refine wpD_pure (o := ⟨_, _, _, _, _, _⟩) rfl (by simp +decide only [go_sem]) (by conv => lhs; simp +decide only [go_sem, List.map_toArray, bld111]) ?_
    refine wpD_alloc (o := ⟨_, _, _, _, _, _⟩) rfl (by simp +decide only [go_sem]) rfl z111 ?_
    intro h5 hP5 hs5
    refine wpD_storeA (o := ⟨_, _, _, _, _, _⟩) rfl (by simp +decide only [go_sem]) rfl hP5 (off := 0) (vs := [.int .i64 op, .str nm, .int .i64 n, .int .i64 m, .str s, .nilslice, .int .i64 1, .bool true]) (by simp +decide only [go_sem]) (by simp +decide only [go_sem]) s111 rfl (by decide) ?_ ?_
    · intro v hv; simp at hv; rcases hv with rfl | rfl | rfl | rfl | rfl | rfl | rfl | rfl <;> rfl
    intro h6 hP6 hs6
    refine wpD_c0 ?_
    rw [wpD_nil]
    have hP6 : Bx h6 (nx + 1) [.int .i64 op, .str nm, .int .i64 n, .int .i64 m, .str s, .nilslice, .int .i64 ((1 + tszL [] : Nat) : Int), .bool true] := hP6
    have hs16 : KeepP (fun i => i < nx + 1) h1 h6 := (hs5.toP (P := fun i => i < nx + 1) (by omega)).trans (hs6.toP (P := fun i => i < nx + 1) (by omega))
    have hR6 := hR1.keep (hs16 nx (by omega))
    have hk06 : KeepP (fun i => i < nx) h h6 := hk01.trans (hs16.mono (fun i hi => by omega))
    have hrd : rd (f + 1) (N.drop (4 * i)) (T.drop (2 * i)) = (match rdL (rd f) K N' T' with
      | some (ts, N2, T2) => some (.mk op nm n m s ts, N2, T2)
      | none => none) := by
      rw [hNe, hTe]
      show (if 0 ≤ (K : Int) ∧ (K : Int) ≤ 64 then _ else _) = _
      rw [if_pos ⟨hk0, hk64⟩]; rfl
    generalize hrL : rdL (rd f) K N' T' = rL at hrd
    -- what is known at the loop's head
    let J : BT AVal → D → Nat → Prop := fun t d j => getT t 0 = v0 ∧ getT t 1 = v1 ∧ getT t 2 = .int .i64 (i : Int) ∧ getT t 6 = .ptr nx 0 ∧ getT t 7 = .ptr (nx + 1) 0 ∧ ∃ v l acc, nx + 1 < d.nx ∧ KeepP (fun i => i < nx) h d.h ∧ Bx d.h nx z8 ∧ Bx d.h (nx + 1) [.int .i64 op, .str nm, .int .i64 n, .int .i64 m, .str s, v, .int .i64 ((1 + tszL acc : Nat) : Int), .bool true] ∧ Gro 6 d.h (nx + 2) d.nx v l ∧ l.length ≤ 6 * j ∧ PcL d.h (fun j => nx + 1 < j ∧ j < d.nx ∧ sid v ≠ some j) acc l ∧ 4 * (i + 1 + tszL acc) ≤ N.length ∧ 2 * (i + 1 + tszL acc) ≤ T.length ∧ rL = preO acc (rdL (rd f) (K - j) (N.drop (4 * (i + 1 + tszL acc))) (T.drop (2 * (i + 1 + tszL acc))))
    refine wp_seqR (fun t d => J t d K) (wp_seq (wp_region ?_)) ?_
    · repeat refine wpO_pure (by simp +decide only [go_sem]) (by conv => lhs; simp +decide only [go_sem]) ?_
      rw [wpO_nil]
      refine wp_block (wp_while (α := Nat) (fun j => K - j) (fun j t d => j ≤ K ∧ getT t 8 = .int .i64 (j : Int) ∧ J t d j) ?_ (a := 0) ?_)
      · intro j t d ⟨hj, p8, p0, p1, p2, p6, p7, v, l, acc, c1, c2, c3, c4, c5, c6, c7, c8, c9, c10⟩
        obtain ⟨hh, nxx⟩ := d
        dsimp only at c1 c2 c3 c4 c5 c7
        have hva2 := hva.keep (c2.mono hP)
        have hvb2 := hvb.keep (c2.mono hP)
        refine wp_seq (wp_seq (wp_region ?_))
        iterate 5 refine wpO_pure (by simp +decide only [go_sem]) (by conv => lhs; simp +decide only [go_sem, p8, p0, p2, e3]) ?_
        refine wpO_index1 (i := 4 * i + 3) (j := .i64) (by simp +decide only [go_sem]) rfl hva2 u22 s3 u3 rfl (by simp +decide only [go_sem]) (by simp +decide only [go_sem, e3]) (by omega) ?_
        intro id off hld
        rw [hel _ _ q3] at hld
        repeat refine wpO_pure (by simp +decide only [go_sem]) (by conv => lhs; simp +decide only [go_sem, hld]) ?_
        rw [wpO_nil]
        clear hld
        refine wp_cond (x := decide ((j : Int) < (K : Int))) (by simp +decide only [go_sem]) ?_
        by_cases hz : j < K
        · rw [show decide ((j : Int) < (K : Int)) = true from by simp; omega]
          have hldP : ∀ ty off, loadAt EX hh ty (nx + 1) off = loadL EX ty [.int .i64 op, .str nm, .int .i64 n, .int .i64 m, .str s, v, .int .i64 ((1 + tszL acc : Nat) : Int), .bool true] off := fun ty off => c4.load ty off
          have ei : IntKind.i64.wrap ((i : Int) + ((1 + tszL acc : Nat) : Int)) = ((i + 1 + tszL acc : Nat) : Int) := by rw [wi64 (by omega) (by omega)]; omega
          refine wp_skip (wp_seq (wp_block (wp_seq (wp_region ?_))))
          iterate 6 refine wpO_pure (by simp +decide only [go_sem]) (by conv => lhs; simp +decide only [go_sem, p0, p1, p2, p7, hldP, ei]) ?_
          refine wpO_call (by simp +decide only [go_sem]) (by conv => lhs; simp +decide only [go_sem]) n28 (ih (i := i + 1 + tszL acc) (fuel_drop hN (by omega) (by omega)) (by omega) hva2 hvb2 (fun x hx => by have := hP x hx; omega) hNl hTl) ?_
          intro w d ⟨r1, r2, r3⟩
          obtain ⟨hr, nxr⟩ := d
          dsimp only at r1 r2 r3
          have cR := c3.keep (r2 nx (by omega))
          have cP := c4.keep (r2 (nx + 1) (by omega))
          have cG := c5.keepS (fun x hx => r2 x (c5.sid_lt hx).2) r1
          refine wpO_alloc (by simp +decide only [go_sem]) rfl z111 ?_
          intro hq hX hsq
          have hX : Bx hq nxr z8 := hX
          cases hr1 : rd f (N.drop (4 * (i + 1 + tszL acc))) (T.drop (2 * (i + 1 + tszL acc))) with
          | none =>
            rw [hr1] at r3
            dsimp only at r3
            subst r3
            refine wpO_storeA (off := 0) (vs := z8) (by simp +decide only [go_sem]) rfl hX (by simp +decide only [go_sem]) (by simp +decide only [go_sem]) s111 rfl (by decide) (by decide) ?_
            intro hw hX2 hsw
            rw [wpO_nil]
            have hldX : ∀ ty off, loadAt EX hw ty nxr off = loadL EX ty z8 off := fun ty off => hX2.load ty off
            refine wp_seq (wp_seq (wp_region ?_))
            repeat refine wpO_pure (by simp +decide only [go_sem]) (by conv => lhs; simp +decide only [go_sem, hldX, z8]) ?_
            rw [wpO_nil]
            refine wp_cond (x := true) (by simp +decide only [go_sem]) ?_
            refine wp_seq (wp_region ?_)
            refine wpO_pure (by simp +decide only [go_sem]) (by conv => lhs; simp +decide only [go_sem, bld111z]) ?_
            have cR2 := (cR.keep (hsq nx (by omega))).keep (hsw nx (by omega))
            refine wpO_storeA (off := 0) (vs := z8) (by simp +decide only [go_sem]) rfl cR2 (by simp +decide only [go_sem, p6]) (by simp +decide only [go_sem]; rfl) s111 rfl (by decide) (by decide) ?_
            intro hy hR9 hsy
            rw [wpO_nil]
            refine wp_ret rfl ⟨.inr rfl, _, res_cell (P := nx) (v := .agg z8) (by simp +decide only [go_sem, p6]) ?_ rfl, ?_⟩
            · rw [hR9.load]; exact ll111 (by decide)
            · rw [hrd, c10, show K - j = (K - (j + 1)) + 1 by omega, preO_none hr1]
              refine ⟨by show nx ≤ nxr + 1; omega, ?_, rfl⟩
              exact (((c2.trans (r2.mono (fun x hx => by omega))).trans (hsq.toP (P := fun x => x < nx) (by omega))).trans (hsw.toP (P := fun x => x < nx) (by omega))).trans (hsy.toP (P := fun x => x < nx) (by omega))
          | some x =>
            obtain ⟨t1, N2, T2⟩ := x
            rw [hr1] at r3
            obtain ⟨c, rfl, y1⟩ := r3
            have hc6 := y1.len
            have hcv : ∀ x ∈ c ++ [AVal.int .i64 (tsz t1 : Int), .bool true], cellOK x = true := by
              intro x hx
              rcases List.mem_append.1 hx with hx | hx
              · exact y1.cells x hx
              · simp at hx; rcases hx with rfl | rfl <;> rfl
            obtain ⟨z1, z2, z3, z4⟩ := rd_sz _ _ _ _ _ _ hr1
            rw [List.length_drop] at z3 z4
            refine wpO_storeA (off := 0) (vs := c ++ [AVal.int .i64 (tsz t1 : Int), .bool true]) (by simp +decide only [go_sem]) rfl hX (by simp +decide only [go_sem]) (by simp +decide only [go_sem]) s111 (by rw [List.length_append, hc6]; rfl) (by decide) hcv ?_
            intro hw hX2 hsw
            rw [storeL_all (by rw [List.length_append, hc6]; rfl)] at hX2
            rw [wpO_nil]
            have hldX : ∀ ty off, loadAt EX hw ty nxr off = loadL EX ty (c ++ [AVal.int .i64 (tsz t1 : Int), .bool true]) off := fun ty off => hX2.load ty off
            have i6 : (c ++ [AVal.int .i64 (tsz t1 : Int), .bool true])[6]? = some (.int .i64 (tsz t1 : Int)) := by rw [List.getElem?_append_right (by omega), hc6]; rfl
            have i7 : (c ++ [AVal.int .i64 (tsz t1 : Int), .bool true])[7]? = some (.bool true) := by rw [List.getElem?_append_right (by omega), hc6]; rfl
            have i25 : loadL EX 25 (c ++ [AVal.int .i64 (tsz t1 : Int), .bool true]) 0 = some (.agg c) := by
              rw [ll25 (by rw [List.length_append, hc6]; simp), List.drop_zero, List.take_left' hc6]
            refine wp_seq (wp_seq (wp_region ?_))
            repeat refine wpO_pure (by simp +decide only [go_sem]) (by conv => lhs; simp +decide only [go_sem, hldX, i7]) ?_
            rw [wpO_nil]
            refine wp_cond (x := false) (by simp +decide only [go_sem]) (wp_skip ?_)
            have cPw := (cP.keep (hsq (nx + 1) (by omega))).keep (hsw (nx + 1) (by omega))
            have hldP2 : ∀ ty off, loadAt EX hw ty (nx + 1) off = loadL EX ty [.int .i64 op, .str nm, .int .i64 n, .int .i64 m, .str s, v, .int .i64 ((1 + tszL acc : Nat) : Int), .bool true] off := fun ty off => cPw.load ty off
            have cGw := cG.keepS (h' := hw) (hi' := nxr + 1) (fun x hx => (hsw x (by have := (cG.sid_lt hx).2; omega)).trans (hsq x (by have := (cG.sid_lt hx).2; omega))) (Nat.le_succ _)
            refine wp_seq (wp_region ?_)
            iterate 5 refine wpO_pure (by simp +decide only [go_sem]) (by conv => lhs; simp +decide only [go_sem, p7, hldP2, hldX, i25]) ?_
            refine wpO_build1 (v := .agg c) (lo := nxr + 1) (by simp +decide only [go_sem]) rfl u23 s25 z25 rfl (by simp +decide only [go_sem, List.map_toArray]) hc6 rfl (by decide) (by decide) (Nat.le_refl _) ?_
            intro hb hGb hsb
            have cG2 := cGw.keepS (h' := hb) (hi' := nxr + 2) (fun x hx => hsb x (by have := (cGw.sid_lt hx).2; omega)) (Nat.le_succ _)
            refine wpO_appendX (by simp +decide only [go_sem]) rfl rfl rfl rfl u23 u23 rfl s25 z25 b25 (by simp +decide only [go_sem]) (by simp +decide only [go_sem]) cG2 (by omega) hGb.toP (okA_of y1.cells (by decide) ?_) ?_
            · show l.length / 6 + c.length / 6 ≤ _
              omega
            intro v' ha nxa k1 k2 k3 k4
            have hsvx : ∀ x, sid v = some x → nx + 2 ≤ x ∧ x < nxx := fun x hx => c5.sid_lt hx
            have cPa : Bx ha (nx + 1) [.int .i64 op, .str nm, .int .i64 n, .int .i64 m, .str s, v, .int .i64 ((1 + tszL acc : Nat) : Int), .bool true] := (cPw.keep (hsb (nx + 1) (by omega))).keep (k3 (nx + 1) (by omega) (fun e => by have := (hsvx _ e).1; omega))
            have cXa : Bx ha nxr (c ++ [AVal.int .i64 (tsz t1 : Int), .bool true]) := (hX2.keep (hsb nxr (by omega))).keep (k3 nxr (by omega) (fun e => by have := (hsvx _ e).2; omega))
            iterate 2 refine wpO_pure (by simp +decide only [go_sem]) (by conv => lhs; simp +decide only [go_sem, p7]) ?_
            refine wpO_store1 (off := 5) (v := v') (by simp +decide only [go_sem]) rfl cPa (by simp +decide only [go_sem]) (by simp +decide only [go_sem]) s23 (by simp) k2.toP.cellOK ?_
            intro h7 cP7 hs7
            have cP7 : Bx h7 (nx + 1) [.int .i64 op, .str nm, .int .i64 n, .int .i64 m, .str s, v', .int .i64 ((1 + tszL acc : Nat) : Int), .bool true] := cP7
            rw [wpO_nil]
            have hldP7 : ∀ ty off, loadAt EX h7 ty (nx + 1) off = loadL EX ty [.int .i64 op, .str nm, .int .i64 n, .int .i64 m, .str s, v', .int .i64 ((1 + tszL acc : Nat) : Int), .bool true] off := fun ty off => cP7.load ty off
            have cX7 := cXa.keep (hs7 nxr (by omega))
            have hldX7 : ∀ ty off, loadAt EX h7 ty nxr off = loadL EX ty (c ++ [AVal.int .i64 (tsz t1 : Int), .bool true]) off := fun ty off => cX7.load ty off
            have en : IntKind.i64.wrap (((1 + tszL acc : Nat) : Int) + (tsz t1 : Int)) = ((1 + tszL (acc ++ [t1]) : Nat) : Int) := by
              rw [tszL_app, tszL, tszL, wi64 (by omega) (by omega)]; omega
            refine wp_region ?_
            iterate 6 refine wpO_pure (by simp +decide only [go_sem]) (by conv => lhs; simp +decide only [go_sem, p7, hldP7, hldX7, i6, en]) ?_
            refine wpO_store1 (off := 6) (v := .int .i64 ((1 + tszL (acc ++ [t1]) : Nat) : Int)) (by simp +decide only [go_sem]) rfl cP7 (by simp +decide only [go_sem]) (by simp +decide only [go_sem, en]) s3 (by simp) rfl ?_
            intro h8 cP8 hs8
            have cP8 : Bx h8 (nx + 1) [.int .i64 op, .str nm, .int .i64 n, .int .i64 m, .str s, v', .int .i64 ((1 + tszL (acc ++ [t1]) : Nat) : Int), .bool true] := cP8
            rw [wpO_nil]
            refine wp_region ?_
            repeat refine wpO_pure (by simp +decide only [go_sem]) (by conv => lhs; simp +decide only [go_sem, p8]) ?_
            rw [wpO_nil]
            have hall : KeepP (fun x => x < nxr ∧ x ≠ nx + 1 ∧ sid v ≠ some x) hr h8 := fun x hx => ((((hs8 x hx.2.1).trans (hs7 x hx.2.1)).trans (k3 x (by omega) hx.2.2)).trans (hsb x (by omega))).trans ((hsw x (by omega)).trans (hsq x (by omega)))
            have hsv : ∀ x, x ≤ nx + 1 → sid v ≠ some x := fun x hx e => by have := (hsvx _ e).1; omega
            have hsvr : ∀ x, nxx ≤ x → sid v ≠ some x := fun x hx e => by have := (hsvx _ e).2; omega
            have hsv' : ∀ x, x < nxr → sid v ≠ some x → sid v' ≠ some x := fun x hx hne e => by
              rcases k4 with k4 | k4
              · rw [k4] at e; exact hne e
              · rw [k4] at e; cases e; omega
            refine ⟨j + 1, by omega, by omega, ?_, by simp +decide only [go_sem, p0], by simp +decide only [go_sem, p1], by simp +decide only [go_sem, p2], by simp +decide only [go_sem, p6], by simp +decide only [go_sem, p7], v', l ++ c, acc ++ [t1], by show nx + 1 < nxa; omega, ?_, ?_, cP8, ?_, by rw [List.length_append, hc6]; omega, ?_, ?_, ?_, ?_⟩
            · simp +decide only [go_sem]
              rw [wi64 (by omega) (by omega)]; rfl
            · exact (c2.trans (r2.mono (fun x hx => by omega))).trans (hall.mono (fun x hx => ⟨by omega, by omega, hsv x (by omega)⟩))
            · exact cR.keep (hall nx ⟨by omega, by omega, hsv nx (by omega)⟩)
            · exact k2.keepS (fun x hx => (hs8 x (by have := (k2.sid_lt hx).1; omega)).trans (hs7 x (by have := (k2.sid_lt hx).1; omega))) (Nat.le_refl _)
            · refine PcL.app (PcL.mono ?_ _ _ (PcL.keep (hall.mono ?_) _ _ (PcL.keep (r2.mono ?_) _ _ c7))) (PcL.one (Pc.mono ?_ _ _ (Pc.keep (hall.mono ?_) _ _ y1)))
              · exact fun x hx => ⟨hx.1, by show x < nxa; omega, hsv' x (by omega) hx.2.2⟩
              · exact fun x hx => ⟨by omega, by omega, hx.2.2⟩
              · exact fun x hx => hx.2.1
              · exact fun x hx => ⟨by omega, by show x < nxa; omega, hsv' x hx.2 (hsvr x hx.1)⟩
              · exact fun x hx => ⟨hx.2, by omega, hsvr x hx.1⟩
            · rw [tszL_app, tszL, tszL]; omega
            · rw [tszL_app, tszL, tszL]; omega
            · rw [c10, show K - j = (K - (j + 1)) + 1 by omega, preO_step hr1, z1, z2, List.drop_drop, List.drop_drop, tszL_app, tszL, tszL]
              rw [show 4 * (i + 1 + tszL acc) + 4 * tsz t1 = 4 * (i + 1 + (tszL acc + (tsz t1 + 0))) by omega, show 2 * (i + 1 + tszL acc) + 2 * tsz t1 = 2 * (i + 1 + (tszL acc + (tsz t1 + 0))) by omega]
        · rw [show decide ((j : Int) < (K : Int)) = false from by simp; omega]
          have : j = K := by omega
          subst this
          exact wp_exit ⟨by simp +decide only [go_sem, p0], by simp +decide only [go_sem, p1], by simp +decide only [go_sem, p2], by simp +decide only [go_sem, p6], by simp +decide only [go_sem, p7], v, l, acc, c1, c2, c3, c4, c5, c6, c7, c8, c9, c10⟩
      · refine ⟨Nat.zero_le _, by simp +decide only [go_sem]; rfl, by simp +decide only [go_sem, g0], by simp +decide only [go_sem, g1], by simp +decide only [go_sem, g2], by simp +decide only [go_sem, g6], by simp +decide only [go_sem], .nilslice, [], [], Nat.lt_succ_self _, hk06, hR6, hP6, .own .nil, by simp, by rw [PcL], by rw [tszL]; omega, by rw [tszL]; omega, ?_⟩
        rw [← hrL, Nat.sub_zero, hN', hT', tszL, Nat.add_zero]
        cases rdL (rd f) K (N.drop (4 * (i + 1))) (T.drop (2 * (i + 1))) with
        | none => rfl
        | some x => rfl
    · intro t d ⟨p0, p1, p2, p6, p7, v, l, acc, c1, c2, c3, c4, c5, c6, c7, c8, c9, c10⟩
      obtain ⟨hh, nxx⟩ := d
      dsimp only at c1 c2 c3 c4 c5 c7
      have hldP : loadAt EX hh 111 (nx + 1) 0 = some (.agg [.int .i64 op, .str nm, .int .i64 n, .int .i64 m, .str s, v, .int .i64 ((1 + tszL acc : Nat) : Int), .bool true]) := by rw [c4.load]; exact ll111 (by simp)
      refine wp_seq (wp_region ?_)
      repeat refine wpO_pure (by simp +decide only [go_sem]) (by conv => lhs; simp +decide only [go_sem, p7, hldP]) ?_
      have hcl : ∀ x ∈ [AVal.int .i64 op, .str nm, .int .i64 n, .int .i64 m, .str s, v, .int .i64 ((1 + tszL acc : Nat) : Int), .bool true], cellOK x = true := by
        intro x hx
        simp only [List.mem_cons, List.not_mem_nil, or_false] at hx
        rcases hx with rfl | rfl | rfl | rfl | rfl | rfl | rfl | rfl <;> first | rfl | exact c5.toP.cellOK
      refine wpO_storeA (off := 0) (vs := [.int .i64 op, .str nm, .int .i64 n, .int .i64 m, .str s, v, .int .i64 ((1 + tszL acc : Nat) : Int), .bool true]) (by simp +decide only [go_sem]) rfl c3 (by simp +decide only [go_sem, p6]) (by simp +decide only [go_sem]) s111 rfl (by decide) hcl ?_
      intro h8 hR8 hs8
      rw [wpO_nil]
      have hR8 : Bx h8 nx [.int .i64 op, .str nm, .int .i64 n, .int .i64 m, .str s, v, .int .i64 ((1 + tszL acc : Nat) : Int), .bool true] := hR8
      refine wp_ret rfl ⟨.inr rfl, _, res_cell (P := nx) (v := .agg [.int .i64 op, .str nm, .int .i64 n, .int .i64 m, .str s, v, .int .i64 ((1 + tszL acc : Nat) : Int), .bool true]) (by simp +decide only [go_sem, p6]) (by rw [hR8.load]; exact ll111 (by simp)) rfl, ?_⟩
      rw [hrd, c10, Nat.sub_self]
      simp only [rdL, preO, List.append_nil]
      refine ⟨by show nx ≤ nxx; omega, c2.trans (hs8.toP (P := fun x => x < nx) (by omega)), [.int .i64 op, .str nm, .int .i64 n, .int .i64 m, .str s, v], ?_, ?_⟩
      · rw [tsz]; rfl
      · rw [Pc]
        refine ⟨v, l, rfl, ?_, ?_⟩
        · exact (c5.toP.keep (hs8.toP (by intro e; omega))).mono (fun x hx => ⟨by omega, hx.2⟩)
        · exact PcL.mono (fun x hx => ⟨by omega, hx.2.1⟩) _ _ (PcL.keep (hs8.toP (by intro e; omega)) _ _ c7)
end Go.Ev
end
section
open Go Go.Proofs Go.RowKit
set_option linter.unusedVariables false
set_option linter.unusedSimpArgs false
set_option maxRecDepth 100000
namespace Go.Ev
structure QQ where
  k : Int
  wi : Int
  da : Int
  co : Int
  bu : Int
  vec : List Int
  w : Tr
inductive DQ where
  | ok (q : QQ)
  | err (e : Int)
def dqN (N : List Int) (T : List (List Nat)) : DQ := match N with
  | k :: wi :: da :: co :: bu :: l :: N6 => if 0 ≤ l ∧ l ≤ N6.length ∧ N6.length - l.toNat ≤ 256 then (match rd 65 (N6.drop l.toNat) T with
    | some (t, [], []) => .ok ⟨k, wi, da, co, bu, N6.take l.toNat, t⟩
    | _ => .err 11) else .err 11
  | _ => .err 11
/-- A query that is read. -/
def dq (b : List Nat) : DQ := match getN g1 b with
  | .err e => .err (ecode e)
  | .ok N x => match getN gb (b.drop x) with
    | .err e => .err (ecode e)
    | .ok T y => if x + y = b.length then dqN N T else .err 11
/-- A query's cells. -/
def Qc (h : Heap) (P : Nat → Prop) (q : QQ) (c : List AVal) : Prop :=
  ∃ v wc, c = [v, .int .i64 q.k, .int .i64 q.wi] ++ wc ++ [.int .i64 q.da, .int .i64 q.co, .int .i64 q.bu] ∧ SlP 1 h P v (q.vec.map intV) ∧ Pc h P q.w wc
theorem rdN_used {α : Type} {one : List Nat → RR α} (h1 : ∀ b x u, one b = .ok x u → 0 < u ∧ u ≤ b.length) : ∀ (n : Nat) (b : List Nat) (l : List α) (u : Nat), rdN one n b = .ok l u → u ≤ b.length ∧ l.length ≤ u
  | 0, b, l, u, h => by cases h; exact ⟨Nat.zero_le _, Nat.le_refl _⟩
  | n + 1, b, l, u, h => by
    unfold rdN at h
    split at h
    · rename_i x u1 hx
      split at h
      · rename_i l2 w hl
        cases h
        have a := h1 _ _ _ hx
        have c := rdN_used h1 n _ _ _ hl
        rw [List.length_drop] at c
        simp only [List.length_cons]; omega
      · cases h
    · cases h
theorem getN_used {α : Type} {one : List Nat → RR α} (h1 : ∀ b x u, one b = .ok x u → 0 < u ∧ u ≤ b.length) {b : List Nat} {l : List α} {u : Nat} (h : getN one b = .ok l u) : u ≤ b.length ∧ l.length ≤ u := by
  unfold getN at h
  cases hl : lenR b with
  | err e => rw [hl] at h; cases h
  | ok n x =>
    rw [hl] at h
    dsimp only at h
    have hx := lenR_ok hl
    cases hr : rdN one n.toNat (b.drop x) with
    | err e => rw [hr] at h; cases h
    | ok l2 w =>
      rw [hr] at h
      cases h
      have := rdN_used h1 _ _ _ _ hr
      rw [List.length_drop] at this
      rw [List.nil_append]; omega
def z12 : List AVal := [.nilslice, .int .i64 0, .int .i64 0, .int .i64 0, .str [], .int .i64 0, .int .i64 0, .str [], .nilslice, .int .i64 0, .int .i64 0, .int .i64 0]
theorem SlP.form {sz : Nat} {h : Heap} {P : Nat → Prop} {v : AVal} {l : List AVal} (s : SlP sz h P v l) : (∃ id off len cap, v = .slice id off len cap) ∨ v = .nilslice ∨ v = .eslice := by
  obtain ⟨s, _⟩ := s
  cases s with
  | nil => exact .inr (.inl rfl)
  | em => exact .inr (.inr rfl)
  | mk id off len cap => exact .inl ⟨id, off, len, cap, rfl⟩
theorem bld105 {u v : AVal} (hu : (∃ id off len cap, u = .slice id off len cap) ∨ u = .nilslice ∨ u = .eslice) (hv : (∃ id off len cap, v = .slice id off len cap) ∨ v = .nilslice ∨ v = .eslice) : buildV EX 105 [(0, u), (1, v)] = some (.agg [u, v, .bool false]) := by
  rcases hu with ⟨a, b, c, d, rfl⟩ | rfl | rfl <;> rcases hv with ⟨e, f, g, h, rfl⟩ | rfl | rfl <;> kernel_rfl
theorem bld27 {a b : Int} : buildV EX 27 [(0, .int .i64 a), (1, .int .i64 b)] = some (.agg [.int .i64 a, .int .i64 b]) := by kernel_rfl
theorem bld29 {v w0 w1 w2 w3 w4 w5 : AVal} {a b d e f : Int} (hv : (∃ id off len cap, v = .slice id off len cap) ∨ v = .nilslice ∨ v = .eslice) :
    buildV EX 29 [(1, .int .i64 a), (2, .int .i64 b), (4, .agg [.int .i64 d, .int .i64 e]), (5, .int .i64 f), (0, v), (3, .agg [w0, w1, w2, w3, w4, w5])] = some (.agg [v, .int .i64 a, .int .i64 b, w0, w1, w2, w3, w4, w5, .int .i64 d, .int .i64 e, .int .i64 f]) := by
  rcases hv with ⟨x, y, z, c, rfl⟩ | rfl | rfl <;> kernel_rfl
/-- What reading a query leaves. -/
def DP (h : Heap) (nx : Nat) (r : DQ) (w : AVal) (d' : D) : Prop := nx ≤ d'.nx ∧ Keep nx h d'.h ∧ match r with
  | .ok q => ∃ c, w = .tup [.agg c, .int .i64 0] ∧ Qc d'.h (fun i => nx ≤ i ∧ i < d'.nx) q c
  | .err e => w = .tup [.agg z12, .int .i64 e]
theorem res_ct {E : Env} {t : BT AVal} {h : Heap} {i j ty P : Nat} {v w : AVal} (hg : getT t i = .ptr P 0) (hl : loadAt E h ty P 0 = some v) (hj : getT t j = w) (hb : isBot w = false) : resultsV E h t [.cell i ty, .tmp j] = some [v, w] := by
  have h1 := get_of hg rfl
  have h2 := get_of hj hb
  simp only [resultsV, h1, h2, hl]
theorem ecodeI (e : Bool) : simpleV (.int .i64 (ecode e)) = true := rfl
theorem fourth {c : List AVal} (h : c.length = 6) : ∃ a b d e f g, c = [a, b, d, e, f, g] := by
  match c, h with
  | [a, b, d, e, f, g], _ => exact ⟨a, b, d, e, f, g, rfl⟩
theorem KeepP.k {a b : Heap} {lo : Nat} {P : Nat → Prop} (x : KeepP P a b) (hp : ∀ i, i < lo → P i) : Keep lo a b := fun i hi => x i (hp i hi)
theorem loadAt_keep {E : Env} {h h' : Heap} {ty id off : Nat} (hk : h'.get id = h.get id) : loadAt E h' ty id off = loadAt E h ty id off := by unfold loadAt; rw [hk]
section
variable {E : Env} {k : FK} {ops : List Oper} {rest : List PL} {o : Oper} {t0 t : BT AVal} {h : Heap} {nx i : Nat} {late : List Nat} {Q : BT AVal → D → Prop}
theorem wpD_indexP {P : Nat → Prop} {v : AVal} {l : List AVal} {ty e m : Nat} {d : TypeDesc} {x ix : Operand} {j : IntKind} (hoi : opAt ops i = o) (hw : wanted o.guard (backTo t0 late t) ops = .yes) (hop : o.op = .indexAddr ty x ix)
    (s : SlP 1 h P v l) (hu : E.under? ty = some (.slice e)) (hs : E.size? e = some 1) (hd : E.under? e = some d) (ha : aggD d = false) (hx : evalT E.ng (backTo t0 late t) x = v) (hi : evalT E.ng (backTo t0 late t) ix = .int j (m : Int)) (hlt : m < l.length)
    (hq : ∀ id off, P id → loadAt E h e id off = some l[m] → wpD E k ops t0 rest (putT k.size t o.dst (.ptr id off)) ⟨h, nx⟩ Q) : wpD E k ops t0 (.q i late :: rest) t ⟨h, nx⟩ Q := by
  obtain ⟨s, hP⟩ := s
  cases s with
  | nil => simp at hlt
  | em => simp at hlt
  | mk id off len cap ro n cs l hl hcap hg ho hc =>
    refine wpD_pure hoi hw (by rw [hop]; exact opIndex hu hs hx hi (by omega) (by simp; omega)) (hq id _ (hP _ _ _ _ rfl) ?_)
    rw [Int.toNat_natCast, Nat.mul_one]
    exact loadAt_cell hd ha hg (by omega) (hc m hlt)
end
set_option maxHeartbeats 8000000 in
theorem wireDecodeQuery {h : Heap} {nx lo : Nat} (hlo : lo ≤ nx) {v : AVal} {b : List Nat} (hv : SlB 1 h lo v (bys b)) (hb : ∀ x ∈ b, x < 256) (hlen : b.length < 60000000000) : AC EX 5 [v] ⟨h, nx⟩ (DP h nx (dq b)) := by
  have hsl := hv.len
  rw [bys_len] at hsl
  refine AC.of_wp' (size := 120) f5 rfl rfl ?_
  refine wp_seq (wp_region ?_)
  refine wpO_alloc (by simp +decide only [go_sem]) rfl z29 ?_
  intro h1 hR1 hs1
  have hR1 : Bx h1 nx z12 := hR1
  repeat refine wpO_pure (by simp +decide only [go_sem]) (by conv => lhs; simp +decide only [go_sem]) ?_
  rw [wpO_nil]
  have hk1 : Keep nx h h1 := hs1.keep (Nat.le_refl _)
  have hv1 := hv.keep (hk1.mono hlo)
  refine wp_seq (wp_region ?_)
  repeat refine wpO_pure (by simp +decide only [go_sem]) (by conv => lhs; simp +decide only [go_sem]) ?_
  refine wpO_call (by simp +decide only [go_sem]) (by conv => lhs; simp +decide only [go_sem]) n22 (wireGetInts (lo := lo) (by omega) hv1 hb hlen) ?_
  intro w ⟨h2, nx2⟩ ⟨j1, j2, j3⟩
  dsimp only at j1 j2 j3
  have hR2 := hR1.keep (j2 nx (by omega))
  have hk2 : Keep nx h h2 := hk1.trans (j2.mono (by omega))
  cases hN : getN g1 b with
  | err e =>
    rw [hN] at j3
    dsimp only at j3
    subst j3
    have hne := ecode_ne e
    repeat refine wpO_pure (by simp +decide only [go_sem]) (by conv => lhs; simp +decide only [go_sem]) ?_
    rw [wpO_nil]
    refine wp_seq (wp_seq (wp_region ?_))
    repeat refine wpO_pure (by simp +decide only [go_sem]) (by conv => lhs; simp +decide only [go_sem]) ?_
    rw [wpO_nil]
    refine wp_cond (x := true) (by simp +decide only [go_sem, hne]; try rfl) ?_
    refine wp_seq (wp_region ?_)
    iterate 2 refine wpO_pure (by simp +decide only [go_sem]) (by conv => lhs; simp +decide only [go_sem, bld29z]) ?_
    refine wpO_storeA (off := 0) (vs := z12) (by simp +decide only [go_sem]) rfl hR2 (by simp +decide only [go_sem]) (by simp +decide only [go_sem]; rfl) s29 rfl (by decide) (by decide) ?_
    intro h3 hR3 hs3
    repeat refine wpO_pure (by simp +decide only [go_sem]) (by conv => lhs; simp +decide only [go_sem]) ?_
    rw [wpO_nil]
    refine wp_ret rfl ⟨.inr rfl, _, res_ct (P := nx) (v := .agg z12) (w := .int .i64 (ecode e)) (by simp +decide only [go_sem]) (by rw [hR3.load]; exact ll29 (by decide)) (by simp +decide only [go_sem]) rfl, ?_⟩
    refine ⟨by show nx ≤ nx2; omega, hk2.trans (hs3.keep (Nat.le_refl _)), ?_⟩
    unfold dq; rw [hN]; rfl
  | ok N x =>
  rw [hN] at j3
  obtain ⟨s1, rfl, o1⟩ := j3
  obtain ⟨hx1, hx2⟩ := getN_used (fun _ _ _ => g1_used') hN
  repeat refine wpO_pure (by simp +decide only [go_sem]) (by conv => lhs; simp +decide only [go_sem]) ?_
  rw [wpO_nil]
  refine wp_seq (wp_seq (wp_region ?_))
  repeat refine wpO_pure (by simp +decide only [go_sem]) (by conv => lhs; simp +decide only [go_sem]) ?_
  rw [wpO_nil]
  refine wp_cond (x := false) (by simp +decide only [go_sem]; try rfl) (wp_skip ?_)
  have hv2 := hv.keep (hk2.mono hlo)
  refine wp_seq (wp_region ?_)
  repeat refine wpO_pure (by simp +decide only [go_sem]) (by conv => lhs; simp +decide only [go_sem]) ?_
  refine wpO_cut (a := x) (b := b.length) (len := b.length) (by simp +decide only [go_sem]) rfl hv2.toP (by decide) u30 s5 (by simp +decide only [go_sem]) (by simp [bys]) ?_ HiB.none (by omega) (by omega) ?_
  · simp +decide only [go_sem, Option.map_some]
    exact LoB.some
  intro v' hv'
  rw [cut_bys, List.take_length] at hv'
  refine wpO_call (by simp +decide only [go_sem]) (by conv => lhs; simp +decide only [go_sem]) n23 (wireGetStrings (lo := lo) (by omega) hv'.toB (fun x hx => hb x (List.mem_of_mem_drop hx)) (by rw [List.length_drop]; omega)) ?_
  intro w ⟨h3, nx3⟩ ⟨j1', j2', j3⟩
  dsimp only at j1' j2' j3
  have hR3 := hR2.keep (j2' nx (by omega))
  have hk3 : Keep nx h h3 := hk2.trans (j2'.mono (by omega))
  cases hT : getN gb (b.drop x) with
  | err e =>
    rw [hT] at j3
    dsimp only at j3
    subst j3
    have hne := ecode_ne e
    repeat refine wpO_pure (by simp +decide only [go_sem]) (by conv => lhs; simp +decide only [go_sem]) ?_
    rw [wpO_nil]
    refine wp_seq (wp_seq (wp_region ?_))
    repeat refine wpO_pure (by simp +decide only [go_sem]) (by conv => lhs; simp +decide only [go_sem]) ?_
    rw [wpO_nil]
    refine wp_cond (x := true) (by simp +decide only [go_sem, hne]; try rfl) ?_
    refine wp_seq (wp_region ?_)
    iterate 2 refine wpO_pure (by simp +decide only [go_sem]) (by conv => lhs; simp +decide only [go_sem, bld29z]) ?_
    refine wpO_storeA (off := 0) (vs := z12) (by simp +decide only [go_sem]) rfl hR3 (by simp +decide only [go_sem]) (by simp +decide only [go_sem]; rfl) s29 rfl (by decide) (by decide) ?_
    intro h4 hR4 hs4
    repeat refine wpO_pure (by simp +decide only [go_sem]) (by conv => lhs; simp +decide only [go_sem]) ?_
    rw [wpO_nil]
    refine wp_ret rfl ⟨.inr rfl, _, res_ct (P := nx) (v := .agg z12) (w := .int .i64 (ecode e)) (by simp +decide only [go_sem]) (by rw [hR4.load]; exact ll29 (by decide)) (by simp +decide only [go_sem]) rfl, ?_⟩
    refine ⟨by show nx ≤ nx3; omega, hk3.trans (hs4.keep (Nat.le_refl _)), ?_⟩
    unfold dq; rw [hN]; dsimp only; rw [hT]; rfl
  | ok T y =>
  rw [hT] at j3
  obtain ⟨s2, rfl, o2⟩ := j3
  obtain ⟨hy1, hy2⟩ := getN_used (fun _ _ _ => gb_used') hT
  rw [List.length_drop] at hy1
  have hdq : dq b = if x + y = b.length then dqN N T else .err 11 := by unfold dq; rw [hN]; dsimp only; rw [hT]
  have o1' := (o1.toP.keep (j2'.toP (fun i hi => hi.2))).mono (P' := fun i => nx + 1 ≤ i ∧ i < nx3) (fun i hi => ⟨hi.1, by omega⟩)
  have o2' := o2.toP.mono (P' := fun i => nx + 1 ≤ i ∧ i < nx3) (fun i hi => ⟨by omega, hi.2⟩)
  repeat refine wpO_pure (by simp +decide only [go_sem]) (by conv => lhs; simp +decide only [go_sem]) ?_
  rw [wpO_nil]
  refine wp_seq (wp_seq (wp_region ?_))
  repeat refine wpO_pure (by simp +decide only [go_sem]) (by conv => lhs; simp +decide only [go_sem]) ?_
  rw [wpO_nil]
  refine wp_cond (x := false) (by simp +decide only [go_sem]; try rfl) (wp_skip ?_)
  refine wp_seq (wp_region ?_)
  iterate 3 refine wpO_pure (by simp +decide only [go_sem]) (by conv => lhs; simp +decide only [go_sem, List.map_toArray, bld105 o1'.form o2'.form]) ?_
  refine wpO_box (by simp +decide only [go_sem]) rfl (v := .agg [s1, s2, .bool false]) (by simp +decide only [go_sem]) rfl ?_
  intro h4 hS4 hs4
  have hS4 : Bx h4 nx3 [s1, s2, .bool false] := hS4
  repeat refine wpO_pure (by simp +decide only [go_sem]) (by conv => lhs; simp +decide only [go_sem]) ?_
  rw [wpO_nil]
  have hR4 := hR3.keep (hs4 nx (by omega))
  have hk4 : Keep nx h h4 := hk3.trans (hs4.keep (by omega))
  have a4 := o1'.keep (hs4.toP (by intro e; omega))
  have b4 := o2'.keep (hs4.toP (by intro e; omega))
  -- the head
  refine wp_seqR (fun t d => ∃ h5 nx5 hd a5, d = ⟨h5, nx5⟩ ∧ nx3 + 1 ≤ nx5 ∧ KeepP (fun i => i < nx3 + 1 ∧ i ≠ nx3) h4 h5 ∧ getT t 0 = v ∧ getT t 2 = .ptr nx 0 ∧ getT t 5 = .int .i64 (x : Int) ∧ getT t 8 = .int .i64 (y : Int) ∧ getT t 9 = .ptr nx3 0 ∧ getT t 10 = hd ∧ getT t 11 = .bool (decide (6 ≤ N.length)) ∧ Bx h5 nx3 [a5, s2, .bool false] ∧ (6 ≤ N.length → SlP 1 h5 (fun i => nx3 + 1 ≤ i ∧ i < nx5) hd ((N.map intV).take 6) ∧ SlP 1 h5 (fun i => nx + 1 ≤ i ∧ i < nx3) a5 ((N.map intV).drop 6))) (wp_region ?_) ?_
  · repeat refine wpO_pure (by simp +decide only [go_sem]) (by conv => lhs; simp +decide only [go_sem]) ?_
    refine wpO_call (by simp +decide only [go_sem]) (by conv => lhs; simp +decide only [go_sem]) n24 (takeI (n := 6) hS4 (by omega) a4 (fun i hi => ⟨by omega, by omega⟩) (by omega)) ?_
    intro w d hw
    by_cases hn : 6 ≤ N.length
    · rw [if_pos ⟨by decide, by omega⟩] at hw
      obtain ⟨s, a', rfl, k1, k2, k3, k4, k5⟩ := hw
      obtain ⟨h5, nx5⟩ := d
      repeat refine wpO_pure (by simp +decide only [go_sem]) (by conv => lhs; simp +decide only [go_sem]) ?_
      rw [wpO_nil]
      exact ⟨h5, nx5, s, a', rfl, k1, k2, by simp +decide only [go_sem], by simp +decide only [go_sem], by simp +decide only [go_sem], by simp +decide only [go_sem], by simp +decide only [go_sem], by simp +decide only [go_sem], by simp +decide only [go_sem, hn], k4, fun _ => ⟨k3, k5⟩⟩
    · rw [if_neg (fun e => hn (by omega))] at hw
      obtain ⟨rfl, rfl⟩ := hw
      repeat refine wpO_pure (by simp +decide only [go_sem]) (by conv => lhs; simp +decide only [go_sem]) ?_
      rw [wpO_nil]
      exact ⟨h4, nx3 + 1, .nilslice, s1, rfl, Nat.le_refl _, .refl, by simp +decide only [go_sem], by simp +decide only [go_sem], by simp +decide only [go_sem], by simp +decide only [go_sem], by simp +decide only [go_sem], by simp +decide only [go_sem], by simp +decide only [go_sem, hn], hS4, fun e => absurd e hn⟩
  intro t d ⟨h5, nx5, hd, a5, hdd, hnx5, hk45, g0, g2, g5, g8, g9, g10, g11, hS5, hw5⟩
  subst hdd
  have hR5 := hR4.keep (hk45 nx ⟨by omega, by omega⟩)
  have hk5 : Keep nx h h5 := hk4.trans (hk45.k (fun i hi => ⟨by omega, by omega⟩))
  have b5 := b4.keep (hk45.mono (fun i hi => ⟨by omega, by omega⟩))
  have exy : IntKind.i64.wrap ((x : Int) + (y : Int)) = ((x + y : Nat) : Int) := by rw [wi64 (by omega) (by omega)]; omega
  refine wp_seq (wp_seqR (fun t d => d = ⟨h5, nx5⟩ ∧ getT t 2 = .ptr nx 0 ∧ getT t 9 = .ptr nx3 0 ∧ getT t 10 = hd ∧ getT t 57 = .bool (decide (¬ (6 ≤ N.length ∧ x + y = b.length)))) (wp_region ?_) ?_)
  · by_cases hn : 6 ≤ N.length
    · iterate 3 refine wpO_pure (by simp +decide only [go_sem]) (by conv => lhs; simp +decide only [go_sem, g11, hn]) ?_
      iterate 6 refine wpO_pure (wanted_yes rfl rfl (by simp +decide only [go_sem, hn, g5, g8, g0, exy, len30 hsl])) (by conv => lhs; simp +decide only [go_sem, hn, g5, g8, g0, exy, len30 hsl]) ?_
      repeat refine wpO_pure (by simp +decide only [go_sem]) (by conv => lhs; simp +decide only [go_sem, hn]) ?_
      rw [wpO_nil]
      refine ⟨rfl, by simp +decide only [go_sem, g2], by simp +decide only [go_sem, g9], by simp +decide only [go_sem, g10], ?_⟩
      simp +decide only [go_sem]
      rw [← decide_not]
      exact congrArg AVal.bool (decide_eq_decide.2 (by omega))
    · iterate 3 refine wpO_pure (by simp +decide only [go_sem]) (by conv => lhs; simp +decide only [go_sem, g11, hn]) ?_
      iterate 6 refine wpO_no (wanted_not rfl rfl (by simp +decide only [go_sem, hn]; try rfl)) ?_
      repeat refine wpO_pure (by simp +decide only [go_sem]) (by conv => lhs; simp +decide only [go_sem, hn]) ?_
      rw [wpO_nil]
      refine ⟨rfl, by simp +decide only [go_sem, g2], by simp +decide only [go_sem, g9], by simp +decide only [go_sem, g10], ?_⟩
      simp +decide only [go_sem]
      exact congrArg AVal.bool (decide_eq_true (by omega)).symm
  clear g0 g2 g5 g8 g9 g10 g11
  intro t d ⟨hdd, g2, g9, g10, g57⟩
  subst hdd
  refine wp_cond (x := decide (¬ (6 ≤ N.length ∧ x + y = b.length))) (by simp +decide only [go_sem, g57]) ?_
  by_cases hA : 6 ≤ N.length ∧ x + y = b.length
  case neg =>
    rw [decide_eq_true hA]
    refine wp_seq (wp_region ?_)
    refine wpO_pure (by simp +decide only [go_sem]) (by conv => lhs; simp +decide only [go_sem, bld29z]) ?_
    refine wpO_storeA (off := 0) (vs := z12) (by simp +decide only [go_sem]) rfl hR5 (by simp +decide only [go_sem, g2]) (by simp +decide only [go_sem]; rfl) s29 rfl (by decide) (by decide) ?_
    intro h6 hR6 hs6
    repeat refine wpO_pure (by simp +decide only [go_sem]) (by conv => lhs; simp +decide only [go_sem]) ?_
    rw [wpO_nil]
    refine wp_ret rfl ⟨.inr rfl, _, res_ct (P := nx) (v := .agg z12) (w := .int .i64 11) (by simp +decide only [go_sem, g2]) (by rw [hR6.load]; exact ll29 (by decide)) (by simp +decide only [go_sem]) rfl, ?_⟩
    refine ⟨by show nx ≤ nx5; omega, hk5.trans (hs6.keep (Nat.le_refl _)), ?_⟩
    rw [hdq]
    by_cases hB : x + y = b.length
    · rw [if_pos hB]
      have : dqN N T = .err 11 := by
        unfold dqN
        split
        · rename_i h; simp only [List.length_cons] at hA; omega
        · rfl
      rw [this]; rfl
    · rw [if_neg hB]; rfl
  case pos =>
  rw [decide_eq_false (fun e => e hA)]
  obtain ⟨hA1, hA2⟩ := hA
  rw [if_pos hA2] at hdq
  obtain ⟨k, wi, da, co, bu, l, N6, rfl⟩ : ∃ k wi da co bu l N6, N = k :: wi :: da :: co :: bu :: l :: N6 := by
    match N, hA1 with
    | k :: wi :: da :: co :: bu :: l :: N6, _ => exact ⟨k, wi, da, co, bu, l, N6, rfl⟩
  have hh5 : SlP 1 h5 (fun i => nx3 + 1 ≤ i ∧ i < nx5) hd [intV k, intV wi, intV da, intV co, intV bu, intV l] := (hw5 hA1).1
  have ha5 : SlP 1 h5 (fun i => nx + 1 ≤ i ∧ i < nx3) a5 (N6.map intV) := (hw5 hA1).2
  have hN6 : N6.length < 60000000000 := by simp only [List.length_cons] at hx2; omega
  -- the vector
  refine wp_skip (wp_seqR (fun t d => ∃ h6 nx6 ve a6, d = ⟨h6, nx6⟩ ∧ nx5 ≤ nx6 ∧ KeepP (fun i => i < nx5 ∧ i ≠ nx3) h5 h6 ∧ getT t 2 = .ptr nx 0 ∧ getT t 9 = .ptr nx3 0 ∧ getT t 10 = hd ∧ getT t 12 = ve ∧ getT t 13 = .bool (decide (0 ≤ l ∧ l ≤ N6.length)) ∧ Bx h6 nx3 [a6, s2, .bool false] ∧ (0 ≤ l ∧ l ≤ N6.length → SlP 1 h6 (fun i => nx5 ≤ i ∧ i < nx6) ve ((N6.map intV).take l.toNat) ∧ SlP 1 h6 (fun i => nx + 1 ≤ i ∧ i < nx3) a6 ((N6.map intV).drop l.toNat))) (wp_drawn [.q 0 [], .q 1 [], .q 2 [], .q 3 [], .q 4 [], .q 5 [], .l 6 [], .c [], .q 7 [], .q 8 [], .q 9 [], .q 10 [], .q 11 []] (by kernel_rfl) ?_) ?_)
  · iterate 4 refine wpD_pure (o := ⟨_, _, _, _, _, _⟩) rfl (by simp +decide only [go_sem]) (by conv => lhs; simp +decide only [go_sem, g9, g10]) ?_
    refine wpD_index1 (m := 5) (j := .i64) (o := ⟨_, _, _, _, _, _⟩) rfl (by simp +decide only [go_sem]) rfl hh5 u22 s3 u3 rfl (by simp +decide only [go_sem]) rfl (by simp) ?_
    intro id off hld
    have hld : loadAt EX h5 3 id off = some (.int .i64 l) := hld
    refine wpD_pure (o := ⟨_, _, _, _, _, _⟩) rfl (by simp +decide only [go_sem]) (by conv => lhs; simp +decide only [go_sem, hld]) ?_
    refine wpD_call (o := ⟨_, _, _, _, _, _⟩) rfl (by simp +decide only [go_sem]) (by conv => lhs; simp +decide only [go_sem]) n24 (takeI (n := l) hS5 (by omega) ha5 (fun i hi => ⟨by omega, by omega⟩) hN6) ?_
    intro w d hw
    by_cases hn : 0 ≤ l ∧ l ≤ N6.length
    · rw [if_pos hn] at hw
      obtain ⟨s, a', rfl, k1, k2, k3, k4, k5⟩ := hw
      obtain ⟨h6, nx6⟩ := d
      refine wpD_c0 ?_
      repeat refine wpD_pure (o := ⟨_, _, _, _, _, _⟩) rfl (by simp +decide only [go_sem]) (by conv => lhs; simp +decide only [go_sem]) ?_
      rw [wpD_nil]
      exact ⟨h6, nx6, s, a', rfl, k1, k2, by simp +decide only [go_sem, g2], by simp +decide only [go_sem, g9], by simp +decide only [go_sem, g10], by simp +decide only [go_sem], by simp +decide only [go_sem, hn], k4, fun _ => ⟨k3, k5⟩⟩
    · rw [if_neg hn] at hw
      obtain ⟨rfl, rfl⟩ := hw
      refine wpD_c0 ?_
      repeat refine wpD_pure (o := ⟨_, _, _, _, _, _⟩) rfl (by simp +decide only [go_sem]) (by conv => lhs; simp +decide only [go_sem]) ?_
      rw [wpD_nil]
      exact ⟨h5, nx5, .nilslice, a5, rfl, Nat.le_refl _, .refl, by simp +decide only [go_sem, g2], by simp +decide only [go_sem, g9], by simp +decide only [go_sem, g10], by simp +decide only [go_sem], by simp +decide only [go_sem, hn], hS5, fun e => absurd e hn⟩
  clear g2 g9 g10 g57
  intro t d ⟨h6, nx6, ve, a6, hdd, hnx6, hk56, g2, g9, g10, g12, g13, hS6, hw6⟩
  subst hdd
  have hR6 := hR5.keep (hk56 nx ⟨by omega, by omega⟩)
  have hk6 : Keep nx h h6 := hk5.trans (hk56.k (fun i hi => ⟨by omega, by omega⟩))
  have b6 := b5.keep (hk56.mono (fun i hi => ⟨by omega, by omega⟩))
  have hh6 := hh5.keep (hk56.mono (fun i hi => ⟨by omega, by omega⟩))
  have hldS : ∀ ty off, loadAt EX h6 ty nx3 off = loadL EX ty [a6, s2, .bool false] off := fun ty off => hS6.load ty off
  refine wp_seq (wp_seqR (fun t d => d = ⟨h6, nx6⟩ ∧ getT t 2 = .ptr nx 0 ∧ getT t 9 = .ptr nx3 0 ∧ getT t 10 = hd ∧ getT t 12 = ve ∧ getT t 78 = .bool (decide (¬ (0 ≤ l ∧ l ≤ N6.length ∧ N6.length - l.toNat ≤ 256)))) (wp_region ?_) ?_)
  · by_cases hn : 0 ≤ l ∧ l ≤ N6.length
    · have hsa := (hw6 hn).2.lenN (by decide)
      rw [List.length_drop, List.length_map, Nat.div_one] at hsa
      iterate 3 refine wpO_pure (by simp +decide only [go_sem]) (by conv => lhs; simp +decide only [go_sem, g13, hn]) ?_
      iterate 6 refine wpO_pure (wanted_yes rfl rfl (by simp +decide only [go_sem, hn, g9, hldS, len22 hsa])) (by conv => lhs; simp +decide only [go_sem, hn, g9, hldS, len22 hsa]) ?_
      repeat refine wpO_pure (by simp +decide only [go_sem]) (by conv => lhs; simp +decide only [go_sem, hn]) ?_
      rw [wpO_nil]
      refine ⟨rfl, by simp +decide only [go_sem, g2], by simp +decide only [go_sem, g9], by simp +decide only [go_sem, g10], by simp +decide only [go_sem, g12], ?_⟩
      simp +decide only [go_sem]
      exact congrArg AVal.bool (decide_eq_decide.2 (by omega))
    · iterate 3 refine wpO_pure (by simp +decide only [go_sem]) (by conv => lhs; simp +decide only [go_sem, g13, hn]) ?_
      iterate 6 refine wpO_no (wanted_not rfl rfl (by simp +decide only [go_sem, hn]; try rfl)) ?_
      repeat refine wpO_pure (by simp +decide only [go_sem]) (by conv => lhs; simp +decide only [go_sem, hn]) ?_
      rw [wpO_nil]
      refine ⟨rfl, by simp +decide only [go_sem, g2], by simp +decide only [go_sem, g9], by simp +decide only [go_sem, g10], by simp +decide only [go_sem, g12], ?_⟩
      simp +decide only [go_sem]
      exact congrArg AVal.bool (decide_eq_true (by omega)).symm
  clear g2 g9 g10 g12 g13
  intro t d ⟨hdd, g2, g9, g10, g12, g78⟩
  subst hdd
  refine wp_cond (x := decide (¬ (0 ≤ l ∧ l ≤ N6.length ∧ N6.length - l.toNat ≤ 256))) (by simp +decide only [go_sem, g78]) ?_
  have hdq2 : dq b = if 0 ≤ l ∧ l ≤ N6.length ∧ N6.length - l.toNat ≤ 256 then (match rd 65 (N6.drop l.toNat) T with
    | some (t, [], []) => .ok ⟨k, wi, da, co, bu, N6.take l.toNat, t⟩
    | _ => .err 11) else .err 11 := hdq
  by_cases hB : 0 ≤ l ∧ l ≤ N6.length ∧ N6.length - l.toNat ≤ 256
  case neg =>
    rw [decide_eq_true hB]
    refine wp_seq (wp_region ?_)
    refine wpO_pure (by simp +decide only [go_sem]) (by conv => lhs; simp +decide only [go_sem, bld29z]) ?_
    refine wpO_storeA (off := 0) (vs := z12) (by simp +decide only [go_sem]) rfl hR6 (by simp +decide only [go_sem, g2]) (by simp +decide only [go_sem]; rfl) s29 rfl (by decide) (by decide) ?_
    intro h7 hR7 hs7
    repeat refine wpO_pure (by simp +decide only [go_sem]) (by conv => lhs; simp +decide only [go_sem]) ?_
    rw [wpO_nil]
    refine wp_ret rfl ⟨.inr rfl, _, res_ct (P := nx) (v := .agg z12) (w := .int .i64 11) (by simp +decide only [go_sem, g2]) (by rw [hR7.load]; exact ll29 (by decide)) (by simp +decide only [go_sem]) rfl, ?_⟩
    refine ⟨by show nx ≤ nx6; omega, hk6.trans (hs7.keep (Nat.le_refl _)), ?_⟩
    rw [hdq2, if_neg hB]; rfl
  case pos =>
  rw [decide_eq_false (fun e => e hB)]
  rw [if_pos hB] at hdq2
  obtain ⟨hve, ha6⟩ := hw6 ⟨hB.1, hB.2.1⟩
  rw [← List.map_take] at hve
  rw [← List.map_drop] at ha6
  have hrl : (N6.drop l.toNat).length ≤ 256 := by rw [List.length_drop]; omega
  refine wp_skip (wp_seqR (fun t d => ∃ h8 nx8 c a8 b8, d = ⟨h8, nx8⟩ ∧ nx6 < nx8 ∧ Keep nx h h8 ∧ getT t 2 = .ptr nx 0 ∧ getT t 9 = .ptr nx3 0 ∧ Bx h8 nx z12 ∧ getT t 14 = .ptr nx6 0 ∧ c.length = 6 ∧ (∀ v ∈ c, cellOK v = true) ∧ Bx h8 nx6 ([ve, .int .i64 k, .int .i64 wi] ++ c ++ [.int .i64 da, .int .i64 co, .int .i64 bu]) ∧ SlP 1 h8 (fun i => nx5 ≤ i ∧ i < nx6) ve ((N6.take l.toNat).map intV) ∧ match rd 65 (N6.drop l.toNat) T with
    | some (tr, N', T') => Pc h8 (fun i => nx6 + 1 ≤ i ∧ i < nx8) tr c ∧ Bx h8 nx3 [a8, b8, .bool false] ∧ SlP 1 h8 (fun i => nx + 1 ≤ i ∧ i < nx3) a8 (N'.map intV) ∧ SlP 1 h8 (fun i => nx + 1 ≤ i ∧ i < nx3) b8 (T'.map AVal.str)
    | none => Bx h8 nx3 [a8, b8, .bool true]) (wp_drawn [.q 0 [], .q 1 [], .q 2 [], .q 3 [], .q 4 [], .q 5 [], .q 6 [], .q 7 [], .q 8 [], .q 9 [], .q 10 [], .q 11 [], .q 12 [], .q 13 [], .q 14 [], .q 15 [], .q 16 [], .q 17 [], .q 20 [], .l 18 [], .c [(2, []), (5, []), (8, []), (11, []), (15, [])], .q 19 [], .l 21 [], .c []] (by kernel_rfl) ?_) ?_)
  · refine wpD_pure (o := ⟨_, _, _, _, _, _⟩) rfl (by simp +decide only [go_sem]) (by conv => lhs; simp +decide only [go_sem, g10]) ?_
    refine wpD_indexP (m := 0) (j := .i64) (o := ⟨_, _, _, _, _, _⟩) rfl (by simp +decide only [go_sem]) rfl hh6 u22 s3 u3 rfl (by simp +decide only [go_sem]) rfl (by simp) ?_
    intro id0 off0 hi0 hld0
    have hld0 : loadAt EX h6 3 id0 off0 = some (.int .i64 k) := hld0
    iterate 2 refine wpD_pure (o := ⟨_, _, _, _, _, _⟩) rfl (by simp +decide only [go_sem]) (by conv => lhs; simp +decide only [go_sem, hld0, g10]) ?_
    refine wpD_indexP (m := 1) (j := .i64) (o := ⟨_, _, _, _, _, _⟩) rfl (by simp +decide only [go_sem]) rfl hh6 u22 s3 u3 rfl (by simp +decide only [go_sem]) rfl (by simp) ?_
    intro id1 off1 hi1 hld1
    have hld1 : loadAt EX h6 3 id1 off1 = some (.int .i64 wi) := hld1
    iterate 2 refine wpD_pure (o := ⟨_, _, _, _, _, _⟩) rfl (by simp +decide only [go_sem]) (by conv => lhs; simp +decide only [go_sem, hld1, g10]) ?_
    refine wpD_indexP (m := 2) (j := .i64) (o := ⟨_, _, _, _, _, _⟩) rfl (by simp +decide only [go_sem]) rfl hh6 u22 s3 u3 rfl (by simp +decide only [go_sem]) rfl (by simp) ?_
    intro id2 off2 hi2 hld2
    have hld2 : loadAt EX h6 3 id2 off2 = some (.int .i64 da) := hld2
    iterate 2 refine wpD_pure (o := ⟨_, _, _, _, _, _⟩) rfl (by simp +decide only [go_sem]) (by conv => lhs; simp +decide only [go_sem, hld2, g10]) ?_
    refine wpD_indexP (m := 3) (j := .i64) (o := ⟨_, _, _, _, _, _⟩) rfl (by simp +decide only [go_sem]) rfl hh6 u22 s3 u3 rfl (by simp +decide only [go_sem]) rfl (by simp) ?_
    intro id3 off3 hi3 hld3
    have hld3 : loadAt EX h6 3 id3 off3 = some (.int .i64 co) := hld3
    refine wpD_pure (o := ⟨_, _, _, _, _, _⟩) rfl (by simp +decide only [go_sem]) (by conv => lhs; simp +decide only [go_sem, hld3]) ?_
    iterate 2 refine wpD_pure (o := ⟨_, _, _, _, _, _⟩) rfl (by simp +decide only [go_sem]) (by conv => lhs; simp +decide only [go_sem, List.map_toArray, bld27, g10]) ?_
    refine wpD_indexP (m := 4) (j := .i64) (o := ⟨_, _, _, _, _, _⟩) rfl (by simp +decide only [go_sem]) rfl hh6 u22 s3 u3 rfl (by simp +decide only [go_sem]) rfl (by simp) ?_
    intro id4 off4 hi4 hld4
    have hld4 : loadAt EX h6 3 id4 off4 = some (.int .i64 bu) := hld4
    iterate 3 refine wpD_pure (o := ⟨_, _, _, _, _, _⟩) rfl (by simp +decide only [go_sem]) (by conv => lhs; simp +decide only [go_sem, hld4, g12, g9]) ?_
    refine wpD_alloc (o := ⟨_, _, _, _, _, _⟩) rfl (by simp +decide only [go_sem]) rfl z29 ?_
    intro h7 hP7 hs7
    have hP7 : Bx h7 nx6 z12 := hP7
    have hS7 := hS6.keep (hs7 nx3 (by omega))
    have hR7 := hR6.keep (hs7 nx (by omega))
    have ha7 := ha6.keep (hs7.toP (by intro e; omega))
    have hb7 := b6.keep (hs7.toP (by intro e; omega))
    have hh7 := hh6.keep (hs7.toP (by intro e; omega))
    have hve7 := hve.keep (hs7.toP (by intro e; omega))
    refine wpD_call (o := ⟨_, _, _, _, _, _⟩) rfl (by simp +decide only [go_sem]) (by conv => lhs; simp +decide only [go_sem]) n25 (srcWhere 65 (by omega) hS7 (by omega) ha7 hb7 (fun i hi => ⟨by omega, by omega⟩) (by omega) (by omega)) ?_
    intro w d ⟨r1, r2, c, r3, r4, r5, a8, b8, r6⟩
    subst r3
    obtain ⟨h8, nx8⟩ := d
    dsimp only at r1 r2 r6
    have hkk : ∀ i, i < nx6 → i ≠ nx3 → h8.get i = h6.get i := fun i h1 h2 => (r2 i ⟨by omega, h2⟩).trans (hs7 i (by omega))
    have kld0 := (loadAt_keep (E := EX) (ty := 3) (off := off0) (hkk id0 (by omega) (by omega))).trans hld0
    have kld1 := (loadAt_keep (E := EX) (ty := 3) (off := off1) (hkk id1 (by omega) (by omega))).trans hld1
    have kld2 := (loadAt_keep (E := EX) (ty := 3) (off := off2) (hkk id2 (by omega) (by omega))).trans hld2
    have kld3 := (loadAt_keep (E := EX) (ty := 3) (off := off3) (hkk id3 (by omega) (by omega))).trans hld3
    have kld4 := (loadAt_keep (E := EX) (ty := 3) (off := off4) (hkk id4 (by omega) (by omega))).trans hld4
    refine wpD_c (fun x hx => ?_) ?_
    · simp only [List.mem_cons, List.not_mem_nil, or_false] at hx
      rcases hx with rfl | rfl | rfl | rfl | rfl
      · refine chk_yes (v := .int .i64 k) (d := 82) (o := ⟨_, _, _, _, _, _⟩) rfl rfl (by simp +decide only [go_sem]) (by conv => lhs; simp +decide only [go_sem, kld0]) ?_
        simp +decide only [go_sem]
        exact veq_simple rfl
      · refine chk_yes (v := .int .i64 wi) (d := 85) (o := ⟨_, _, _, _, _, _⟩) rfl rfl (by simp +decide only [go_sem]) (by conv => lhs; simp +decide only [go_sem, kld1]) ?_
        simp +decide only [go_sem]
        exact veq_simple rfl
      · refine chk_yes (v := .int .i64 da) (d := 88) (o := ⟨_, _, _, _, _, _⟩) rfl rfl (by simp +decide only [go_sem]) (by conv => lhs; simp +decide only [go_sem, kld2]) ?_
        simp +decide only [go_sem]
        exact veq_simple rfl
      · refine chk_yes (v := .int .i64 co) (d := 91) (o := ⟨_, _, _, _, _, _⟩) rfl rfl (by simp +decide only [go_sem]) (by conv => lhs; simp +decide only [go_sem, kld3]) ?_
        simp +decide only [go_sem]
        exact veq_simple rfl
      · refine chk_yes (v := .int .i64 bu) (d := 95) (o := ⟨_, _, _, _, _, _⟩) rfl rfl (by simp +decide only [go_sem]) (by conv => lhs; simp +decide only [go_sem, kld4]) ?_
        simp +decide only [go_sem]
        exact veq_simple rfl
    obtain ⟨w0, w1, w2, w3, w4, w5, rfl⟩ := fourth r4
    refine wpD_pure (o := ⟨_, _, _, _, _, _⟩) rfl (by simp +decide only [go_sem]) (by conv => lhs; simp +decide only [go_sem, List.map_toArray, bld29 hve.form]) ?_
    have hP8 := hP7.keep (r2 nx6 ⟨by omega, by omega⟩)
    have hve8 := hve7.keep (r2.mono (fun i hi => ⟨by omega, by omega⟩))
    refine wpD_storeA (o := ⟨_, _, _, _, _, _⟩) rfl (by simp +decide only [go_sem]) rfl hP8 (off := 0) (vs := [ve, .int .i64 k, .int .i64 wi, w0, w1, w2, w3, w4, w5, .int .i64 da, .int .i64 co, .int .i64 bu]) (by simp +decide only [go_sem]) (by simp +decide only [go_sem]) s29 rfl (by decide) ?_ ?_
    · intro x hx
      have hx' : x ∈ [ve, .int .i64 k, .int .i64 wi] ++ [w0, w1, w2, w3, w4, w5] ++ [.int .i64 da, .int .i64 co, .int .i64 bu] := hx
      rcases List.mem_append.1 hx' with hx | hx
      · rcases List.mem_append.1 hx with hx | hx
        · simp at hx; rcases hx with rfl | rfl | rfl
          · exact hve.cellOK
          · rfl
          · rfl
        · exact r5 x hx
      · simp at hx; rcases hx with rfl | rfl | rfl <;> rfl
    intro h9 hP9 hs9
    refine wpD_c0 ?_
    rw [wpD_nil]
    refine ⟨h9, nx8, [w0, w1, w2, w3, w4, w5], a8, b8, rfl, by omega, ?_, by simp +decide only [go_sem, g2], by simp +decide only [go_sem, g9], ?_, by simp +decide only [go_sem], rfl, r5, hP9, hve8.keep (hs9.toP (by intro e; omega)), ?_⟩
    · exact hk6.trans ((hs7.keep (lo := nx) (by omega)).trans ((r2.k (fun i hi => ⟨by omega, by omega⟩)).trans (hs9.keep (by omega))))
    · exact (hR7.keep (r2 nx ⟨by omega, by omega⟩)).keep (hs9 nx (by omega))
    · cases hr : rd 65 (N6.drop l.toNat) T with
      | none => rw [hr] at r6; exact r6.keep (hs9 nx3 (by omega))
      | some x =>
        obtain ⟨tr, N', T'⟩ := x
        rw [hr] at r6
        exact ⟨Pc.keep (hs9.toP (by intro e; omega)) _ _ r6.1, r6.2.1.keep (hs9 nx3 (by omega)), r6.2.2.1.keep (hs9.toP (by intro e; omega)), r6.2.2.2.keep (hs9.toP (by intro e; omega))⟩
  clear g2 g9 g10 g12 g78
  intro t d ⟨h8, nx8, c, a8, b8, hdd, hnx8, hk8, g2, g9, hR8, g14, hc6, hcv, hP8, hve8, r6⟩
  subst hdd
  -- is anything left?
  refine wp_seq (wp_seqR (fun t d => d = ⟨h8, nx8⟩ ∧ getT t 2 = .ptr nx 0 ∧ getT t 14 = .ptr nx6 0 ∧ getT t 117 = .bool (match rd 65 (N6.drop l.toNat) T with | some (_, [], []) => false | _ => true)) (wp_drawn [.q 0 [], .q 1 [], .q 2 [], .q 3 [], .q 4 [], .q 5 [], .q 6 [], .q 7 [], .q 8 [], .q 9 [], .q 10 [], .q 11 [], .q 12 [], .q 13 [], .q 14 [], .q 15 [], .q 16 [], .q 17 []] (by kernel_rfl) ?_) ?_)
  · cases hr : rd 65 (N6.drop l.toNat) T with
    | none =>
      rw [hr] at r6
      have hld : ∀ ty off, loadAt EX h8 ty nx3 off = loadL EX ty [a8, b8, .bool true] off := fun ty off => Bx.load r6 ty off
      iterate 5 refine wpD_pure (o := ⟨_, _, _, _, _, _⟩) rfl (by simp +decide only [go_sem]) (by conv => lhs; simp +decide only [go_sem, g9, hld]) ?_
      iterate 12 refine wpD_no (o := ⟨_, _, _, _, _, _⟩) rfl (wanted_not rfl rfl (by simp +decide only [go_sem, hld]; try rfl)) ?_
      repeat refine wpD_pure (o := ⟨_, _, _, _, _, _⟩) rfl (by simp +decide only [go_sem]) (by conv => lhs; simp +decide only [go_sem]) ?_
      rw [wpD_nil]
      exact ⟨rfl, by simp +decide only [go_sem, g2], by simp +decide only [go_sem, g14], by simp +decide only [go_sem]⟩
    | some x =>
      obtain ⟨tr, N', T'⟩ := x
      rw [hr] at r6
      obtain ⟨y1, y2, y3, y4⟩ := r6
      have hln := rd_len _ _ _ _ _ _ hr
      have hsa := y3.lenN (by decide)
      rw [List.length_map, Nat.div_one] at hsa
      have hsb := y4.lenN (by decide)
      rw [List.length_map, Nat.div_one] at hsb
      have hld : ∀ ty off, loadAt EX h8 ty nx3 off = loadL EX ty [a8, b8, .bool false] off := fun ty off => Bx.load y2 ty off
      have eab : IntKind.i64.wrap ((N'.length : Int) + (T'.length : Int)) = ((N'.length + T'.length : Nat) : Int) := by rw [wi64 (by omega) (by omega)]; omega
      iterate 5 refine wpD_pure (o := ⟨_, _, _, _, _, _⟩) rfl (by simp +decide only [go_sem]) (by conv => lhs; simp +decide only [go_sem, g9, hld]) ?_
      iterate 12 refine wpD_pure (o := ⟨_, _, _, _, _, _⟩) rfl (wanted_yes rfl rfl (by simp +decide only [go_sem, hld, g9, len22 hsa, len100 hsb, eab])) (by conv => lhs; simp +decide only [go_sem, hld, g9, len22 hsa, len100 hsb, eab]) ?_
      repeat refine wpD_pure (o := ⟨_, _, _, _, _, _⟩) rfl (by simp +decide only [go_sem]) (by conv => lhs; simp +decide only [go_sem]) ?_
      rw [wpD_nil]
      refine ⟨rfl, by simp +decide only [go_sem, g2], by simp +decide only [go_sem, g14], ?_⟩
      simp +decide only [go_sem]
      congr 1
      cases N' with
      | nil => cases T' with
        | nil => simp
        | cons a T' => first | (simp; done) | (simp; omega)
      | cons a N' => cases T' <;> first | (simp; done) | (simp; omega)
  clear g2 g9 g14
  intro t d ⟨hdd, g2, g14, g117⟩
  subst hdd
  refine wp_cond (by simp +decide only [go_sem, g117]; rfl) ?_
  have hbad : ∀ {r : RD3}, (match r with | some (_, [], []) => false | _ => true) = true → (match r with
    | some (t, [], []) => DQ.ok ⟨k, wi, da, co, bu, N6.take l.toNat, t⟩
    | _ => .err 11) = .err 11 := by
    intro r hr
    split
    · cases hr
    · rfl
  cases hr : (match rd 65 (N6.drop l.toNat) T with | some (_, [], []) => false | _ => true) with
  | true =>
    refine wp_seq (wp_region ?_)
    refine wpO_pure (by simp +decide only [go_sem]) (by conv => lhs; simp +decide only [go_sem, bld29z]) ?_
    refine wpO_storeA (off := 0) (vs := z12) (by simp +decide only [go_sem]) rfl hR8 (by simp +decide only [go_sem, g2]) (by simp +decide only [go_sem]; rfl) s29 rfl (by decide) (by decide) ?_
    intro h9 hR9 hs9
    repeat refine wpO_pure (by simp +decide only [go_sem]) (by conv => lhs; simp +decide only [go_sem]) ?_
    rw [wpO_nil]
    refine wp_ret rfl ⟨.inr rfl, _, res_ct (P := nx) (v := .agg z12) (w := .int .i64 11) (by simp +decide only [go_sem, g2]) (by rw [hR9.load]; exact ll29 (by decide)) (by simp +decide only [go_sem]) rfl, ?_⟩
    refine ⟨by show nx ≤ nx8; omega, hk8.trans (hs9.keep (Nat.le_refl _)), ?_⟩
    rw [hdq2, hbad hr]; rfl
  | false =>
    obtain ⟨tr, hrd⟩ : ∃ tr, rd 65 (N6.drop l.toNat) T = some (tr, [], []) := by
      split at hr
      · rename_i tr h; exact ⟨tr, h⟩
      · cases hr
    rw [hrd] at r6 hdq2
    obtain ⟨w0, w1, w2, w3, w4, w5, rfl⟩ := fourth hc6
    have hldP : loadAt EX h8 29 nx6 0 = some (.agg ([ve, .int .i64 k, .int .i64 wi] ++ [w0, w1, w2, w3, w4, w5] ++ [.int .i64 da, .int .i64 co, .int .i64 bu])) := by rw [hP8.load]; exact ll29 (by simp)
    refine wp_skip (wp_seq (wp_region ?_))
    refine wpO_pure (by simp +decide only [go_sem]) (by conv => lhs; simp +decide only [go_sem, g14, hldP]) ?_
    refine wpO_storeA (off := 0) (vs := [ve, .int .i64 k, .int .i64 wi] ++ [w0, w1, w2, w3, w4, w5] ++ [.int .i64 da, .int .i64 co, .int .i64 bu]) (by simp +decide only [go_sem]) rfl hR8 (by simp +decide only [go_sem, g2]) (by simp +decide only [go_sem]) s29 rfl (by decide) ?_ ?_
    · intro x hx
      rcases List.mem_append.1 hx with hx | hx
      · rcases List.mem_append.1 hx with hx | hx
        · simp at hx; rcases hx with rfl | rfl | rfl
          · exact hve.cellOK
          · rfl
          · rfl
        · exact hcv x hx
      · simp at hx; rcases hx with rfl | rfl | rfl <;> rfl
    intro h9 hR9 hs9
    repeat refine wpO_pure (by simp +decide only [go_sem]) (by conv => lhs; simp +decide only [go_sem]) ?_
    rw [wpO_nil]
    refine wp_ret rfl ⟨.inr rfl, _, res_ct (P := nx) (v := .agg ([ve, .int .i64 k, .int .i64 wi] ++ [w0, w1, w2, w3, w4, w5] ++ [.int .i64 da, .int .i64 co, .int .i64 bu])) (w := .int .i64 0) (by simp +decide only [go_sem, g2]) (by have hR9 : Bx h9 nx ([ve, .int .i64 k, .int .i64 wi] ++ [w0, w1, w2, w3, w4, w5] ++ [.int .i64 da, .int .i64 co, .int .i64 bu]) := hR9; rw [hR9.load]; exact ll29 (by simp)) (by simp +decide only [go_sem]) rfl, ?_⟩
    refine ⟨by show nx ≤ nx8; omega, hk8.trans (hs9.keep (Nat.le_refl _)), ?_⟩
    rw [hdq2]
    refine ⟨_, rfl, ve, _, rfl, ?_, ?_⟩
    · exact (hve8.keep (hs9.toP (by intro e; omega))).mono (fun i hi => ⟨by omega, by show i < nx8; omega⟩)
    · exact Pc.mono (fun i hi => ⟨by omega, hi.2⟩) _ _ (Pc.keep (hs9.toP (by intro e; omega)) _ _ r6.1)
end Go.Ev
end
