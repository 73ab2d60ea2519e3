/- What the functions of the program and of the reference compute, over the abstract machine; the laws of what they compute. -/
import Derived.Test.YtedlbliofaomhaaGreatDoorCodes4
import Derived.Test.YtedlbliofaomhaaGreatDoorRows
import Derived.ChangeArms
import Derived.DataReads
import Derived.Carry
set_option linter.all false
section
open Go Go.Proofs Go.RowKit
set_option linter.unusedVariables false
set_option linter.unusedSimpArgs false
set_option maxRecDepth 100000
namespace Go.Ev
def hd6 (q : QQ) : List Int := [q.k, q.wi, q.da, q.co, q.bu, (q.vec.length : Int)] ++ q.vec
/-- What the loop over the parts keeps. -/
def JJ (q : QQ) (lo nb tb L : Nat) (r0 : ALoop) (done : List Tr) (X : Nat → Prop) (d : D) : Prop :=
  L < d.nx ∧ ∃ n τ, (∀ i, X i ↔ i = L ∨ i = nb ∨ i = tb ∨ sid n = some i ∨ sid τ = some i) ∧ d.h.get L = some (.loop r0) ∧ Bx d.h nb [n] ∧ Bx d.h tb [τ] ∧
    Gro 1 d.h lo d.nx n ((hd6 q ++ done.flatMap pnum).map intV) ∧ Gro 1 d.h lo d.nx τ ((done.flatMap ptxt).map AVal.str) ∧ (∀ i, sid n = some i → sid τ ≠ some i) ∧
    (∀ i, sid n = some i → i ≠ L ∧ i ≠ nb ∧ i ≠ tb) ∧ (∀ i, sid τ = some i → i ≠ L ∧ i ≠ nb ∧ i ≠ tb)
theorem pnum_len (t : Tr) : (pnum t).length = 4 := by cases t; rfl
theorem ptxt_len (t : Tr) : (ptxt t).length = 2 := by cases t; rfl
theorem flat4 : ∀ l : List Tr, (l.flatMap pnum).length = 4 * l.length
  | [] => rfl
  | t :: l => by rw [List.flatMap_cons, List.length_append, flat4 l, pnum_len, List.length_cons]; omega
theorem flat2 : ∀ l : List Tr, (l.flatMap ptxt).length = 2 * l.length
  | [] => rfl
  | t :: l => by rw [List.flatMap_cons, List.length_append, flat2 l, ptxt_len, List.length_cons]; omega
theorem getT_set {size d : Nat} {t : BT AVal} {v : AVal} : setParams size t [d] [v] = putT size t (some d) v := rfl
theorem hget_set {h : Heap} {i j : Nat} {o : AObj} : (h.set i o).get j = if j = i then some o else h.get j := BT.get_set ..
theorem Same1.set {h : Heap} {q : Nat} {o : AObj} : Same1 q h (h.set q o) := fun i hi => by rw [hget_set, if_neg hi]
set_option maxHeartbeats 8000000 in
theorem srcEncodeQuery {h : Heap} {nx : Nat} {P : Nat → Prop} {q : QQ} {c : List AVal} (hq : Qc h P q c) (hP : ∀ i, P i → i < nx) (ok : QOK q) : AC EX 8 [.agg c] ⟨h, nx⟩ (EQ h nx q) := by
  obtain ⟨v, w0, w1, w2, w3, w4, w5, rfl, hv, hp⟩ := hq.cases
  have hNl := ok.len
  have hTl := szS_count (txts q)
  have hTs := ok.txt
  have hvl : q.vec.length ≤ (nums q).length := by simp only [nums, List.length_append]; omega
  refine AC.of_Gs (size := 53) f8 rfl rfl (fun cs => ?_)
  refine Gs.seq (Gs.wp (wp_region ?_))
  refine wpO_box (by simp +decide only [go_sem]) rfl (v := .agg [v, .int .i64 q.k, .int .i64 q.wi, w0, w1, w2, w3, w4, w5, .int .i64 q.da, .int .i64 q.co, .int .i64 q.bu]) (by simp +decide only [go_sem]) rfl ?_
  intro h1 hB1 hs1
  have hB1 : Bx h1 nx [v, .int .i64 q.k, .int .i64 q.wi, w0, w1, w2, w3, w4, w5, .int .i64 q.da, .int .i64 q.co, .int .i64 q.bu] := hB1
  repeat refine wpO_pure (by simp +decide only [go_sem]) (by conv => lhs; simp +decide only [go_sem]) ?_
  rw [wpO_nil]
  refine ⟨rfl, ?_⟩
  have hk1 : KeepP (fun i => i < nx) h h1 := hs1.toP (by omega)
  have hld1 : ∀ ty off, loadAt EX h1 ty nx off = loadL EX ty [v, .int .i64 q.k, .int .i64 q.wi, w0, w1, w2, w3, w4, w5, .int .i64 q.da, .int .i64 q.co, .int .i64 q.bu] off := fun ty off => hB1.load ty off
  have hv1 := hv.keep (hk1.mono hP)
  have hsv := hv1.lenN (by decide)
  rw [List.length_map, Nat.div_one] at hsv
  refine Gs.seq (Gs.wp (wp_region ?_))
  iterate 15 refine wpO_pure (by simp +decide only [go_sem]) (by conv => lhs; simp +decide only [go_sem, hld1, len22 hsv]) ?_
  refine wpO_buildL (lo := nx + 1) (vs := [intV q.k, intV q.wi, intV q.da, intV q.co, intV q.bu, intV (q.vec.length : Int)]) (by simp +decide only [go_sem]) rfl u22 s3 z3 rfl ?_ rfl (by decide) (by decide) ?_ (Nat.le_refl _) ?_
  · simp +decide only [go_sem, List.map_toArray, List.map_cons, List.map_nil]; rfl
  · intro x hx; simp at hx; rcases hx with rfl | rfl | rfl | rfl | rfl | rfl <;> rfl
  intro h2 hG2 hs2
  have hk2 : KeepP (fun i => i < nx) h h2 := hk1.trans (hs2.toP (by omega))
  have hB2 := hB1.keep (hs2 nx (by omega))
  have hld2 : ∀ ty off, loadAt EX h2 ty nx off = loadL EX ty [v, .int .i64 q.k, .int .i64 q.wi, w0, w1, w2, w3, w4, w5, .int .i64 q.da, .int .i64 q.co, .int .i64 q.bu] off := fun ty off => hB2.load ty off
  have hv2 := hv.keep (hk2.mono hP)
  iterate 2 refine wpO_pure (by simp +decide only [go_sem]) (by conv => lhs; simp +decide only [go_sem, hld2]) ?_
  refine wpO_appendX (by simp +decide only [go_sem]) rfl rfl rfl rfl u22 u22 rfl s3 z3 b3 (by simp +decide only [go_sem]) (by simp +decide only [go_sem]) hG2 (by omega) hv2 (okA_of ?_ (by decide) ?_) ?_
  · intro x hx
    obtain ⟨y, _, rfl⟩ := List.mem_map.1 hx
    rfl
  · simp only [List.length_map, Nat.div_one, List.length_cons, List.length_nil, Nat.zero_add]; omega
  intro n0 h3 nx3 k1 k2 k3 k4
  have hsn0 : ∀ i, sid n0 = some i → nx + 1 ≤ i ∧ i < nx3 := fun i hi => k2.sid_lt hi
  have hk3 : KeepP (fun i => i < nx + 1) h2 h3 := fun i hi => k3 i (by omega) (by intro e; have := Option.some.inj e; omega)
  have hB3 := hB2.keep (hk3 nx (by omega))
  have hkk3 : KeepP (fun i => i < nx) h h3 := hk2.trans (hk3.mono (fun i hi => by omega))
  refine wpO_alloc (by simp +decide only [go_sem]) rfl z22 ?_
  intro h4 hN4 hs4
  have hN4 : Bx h4 nx3 [.nilslice] := hN4
  refine wpO_store1 (off := 0) (v := n0) (by simp +decide only [go_sem]) rfl hN4 (by simp +decide only [go_sem]) (by simp +decide only [go_sem]) s22 (by simp) k2.toP.cellOK ?_
  intro h5 hN5 hs5
  have hN5 : Bx h5 nx3 [n0] := hN5
  rw [wpO_nil]
  refine ⟨rfl, ?_⟩
  refine Gs.seq (Gs.wp (wp_region ?_))
  refine wpO_alloc (by simp +decide only [go_sem]) rfl z100 ?_
  intro h6 hT6 hs6
  have hT6 : Bx h6 (nx3 + 1) [.nilslice] := hT6
  rw [wpO_nil]
  refine ⟨rfl, ?_⟩
  have hk36 : KeepP (fun i => i < nx3) h3 h6 := fun i hi => ((hs6 i (by omega)).trans (hs5 i (by omega))).trans (hs4 i (by omega))
  have hN6 := hN5.keep (hs6 nx3 (by omega))
  have hB6 := hB3.keep (hk36 nx (by omega))
  have hldW : loadAt EX h6 25 nx 3 = some (.agg [w0, w1, w2, w3, w4, w5]) := by rw [hB6.load]; exact ll25 (by simp)
  refine Gs.seq (Gs.seq (Gs.wp (wp_region ?_)))
  iterate 2 refine wpO_pure (by simp +decide only [go_sem]) (by conv => lhs; simp +decide only [go_sem, hldW]) ?_
  refine wpO_call (by simp +decide only [go_sem]) (by conv => lhs; simp +decide only [go_sem]) n29 (srcParts rfl) ?_
  intro pf ⟨h7, nx7⟩ ⟨p1, p2, p3, p4⟩
  dsimp only at p2 p3 p4
  subst p1
  subst p2
  rw [wpO_nil]
  refine ⟨rfl, ?_⟩
  have hk7 : KeepP (fun i => i < nx3 + 2) h6 h7 := p4.toP (by omega)
  have hN7 := hN6.keep (hk7 nx3 (by omega))
  have hT7 := hT6.keep (hk7 (nx3 + 1) (by omega))
  have hG7 : Gro 1 h7 (nx + 1) (nx3 + 2 + 1) n0 ((hd6 q ++ ([] : List Tr).flatMap pnum).map intV) := by
    have := k2.keepS (h' := h7) (hi' := nx3 + 2 + 1) (fun i hi => (hk7 i (by have := (hsn0 i hi).2; omega)).trans (hk36 i (hsn0 i hi).2)) (by omega)
    simpa [hd6, intV] using this
  have hkk7 : KeepP (fun i => i < nx) h h7 := (hkk3.trans (hk36.mono (fun i hi => by omega))).trans (hk7.mono (fun i hi => by omega))
  refine Gs.block ?_
  refine Gs.range' (fid := 87) (first := []) (cap := [.ptr (nx3 + 1 + 1) 0]) (by simp +decide only [go_sem]) (fun r0 hr0 => ?_)
  have hsmall := ok.small
  -- one round
  have Y : YRd (nx3 + 4) P 1000 (JJ q (nx + 1) nx3 (nx3 + 1) (nx3 + 4) r0) := by
    refine ⟨fun done X d ⟨a1, n, τ, a2, a3, a4, a5, a6, a7, a8, a9, a10⟩ => ⟨fun i hi => ?_, fun i hi => ⟨by have := hP i hi; omega, fun e => ?_⟩⟩, fun done X h nx' h' nx'' ⟨a1, n, τ, a2, a3, a4, a5, a6, a7, a8, a9, a10⟩ hk hn => ?_, ?_⟩
    · rcases (a2 i).1 hi with rfl | rfl | rfl | h | h
      · exact a1
      · omega
      · omega
      · exact (a6.sid_lt h).2
      · exact (a7.sid_lt h).2
    · have := hP i hi
      rcases (a2 i).1 e with rfl | rfl | rfl | h | h
      · omega
      · omega
      · omega
      · have := (a6.sid_lt h).1; omega
      · have := (a7.sid_lt h).1; omega
    · dsimp only at a1 a3 a4 a5 a6 a7
      exact ⟨by show nx3 + 4 < nx''; omega, n, τ, a2, (hk _ a1).trans a3, a4.keep (hk _ (by omega)), a5.keep (hk _ (by omega)), a6.keepS (fun i hi => hk i (a6.sid_lt hi).2) hn, a7.keepS (fun i hi => hk i (a7.sid_lt hi).2) hn, a8, a9, a10⟩
    · intro done X d tr c hM hJ hpc
      obtain ⟨a1, n, τ, a2, a3, a4, a5, a6, a7, a8, a9, a10⟩ := hJ
      obtain ⟨hd, nxd⟩ := d
      dsimp only at a1 a3 a4 a5 a6 a7 hpc
      refine ⟨r0, a3, by rw [hr0]; rfl, ?_⟩
      obtain ⟨op, nm, nn, m, s, vs, ls, i0, i1, i2, i3, i4, i5, iv, il, ip, it⟩ := hpc.at6
      have hsl := iv.lenN (by decide)
      rw [il, Nat.mul_div_cancel _ (by decide)] at hsl
      have hc6 := hpc.len
      have hsn : ∀ i, sid n = some i → nx + 1 ≤ i ∧ i < nxd := fun i hi => a6.sid_lt hi
      have hsτ : ∀ i, sid τ = some i → nx + 1 ≤ i ∧ i < nxd := fun i hi => a7.sid_lt hi
      refine RC.of_wp' hr0 (fun lb => ?_)
      show wpA EX _ _ (setParams 53 _ [28] [.agg c]) _ _
      rw [getT_set]
      refine wp_region ?_
      refine wpO_alloc (by simp +decide only [go_sem]) rfl z25 ?_
      intro e1 hQ1 es1
      have hQ1 : Bx e1 nxd zc := hQ1
      refine wpO_storeA (off := 0) (vs := c) (by simp +decide only [go_sem]) rfl hQ1 (by simp +decide only [go_sem]) (by simp +decide only [go_sem]) s25 hc6 (by decide) hpc.cells ?_
      intro e2 hQ2 es2
      rw [storeL_all (by rw [hc6]; rfl)] at hQ2
      rw [wpO_nil]
      have kk2 : ∀ i, i < nxd → e2.get i = hd.get i := fun i hi => (es2 i (by omega)).trans (es1 i (by omega))
      refine ⟨rfl, (kk2 _ a1).trans a3, ?_⟩
      dsimp only
      generalize hL : e2.set (nx3 + 4) lb = e3
      have es3 : Same1 (nx3 + 4) e2 e3 := hL ▸ Same1.set
      have gL3 : e3.get (nx3 + 4) = some lb := by rw [← hL, hget_set, if_pos rfl]
      clear hL
      have kk3 : ∀ i, i < nxd → i ≠ nx3 + 4 → e3.get i = hd.get i := fun i hi hne => (es3 i hne).trans (kk2 i hi)
      have bN3 := a4.keep (kk3 nx3 (by omega) (by omega))
      have bT3 := a5.keep (kk3 (nx3 + 1) (by omega) (by omega))
      have gN3 := a6.keepS (h' := e3) (hi' := nxd + 1) (fun i hi => kk3 i (hsn i hi).2 (a9 i hi).1) (Nat.le_succ _)
      have hQ3 := hQ2.keep (es3 nxd (by omega))
      have ldN : ∀ ty off, loadAt EX e3 ty nx3 off = loadL EX ty [n] off := fun ty off => bN3.load ty off
      have ldQ : ∀ ty off, loadAt EX e3 ty nxd off = loadL EX ty c off := fun ty off => hQ3.load ty off
      refine wp_block (wp_seq (wp_region ?_))
      iterate 10 refine wpO_pure (by simp +decide only [go_sem]) (by conv => lhs; simp +decide only [go_sem, ldN, ldQ, i0, i2, i3, i5, len23 hsl]) ?_
      refine wpO_buildL (lo := nxd + 1) (vs := [intV op, intV nn, intV m, intV (tr.subs.length : Int)]) (by simp +decide only [go_sem]) rfl u22 s3 z3 rfl ?_ rfl (by decide) (by decide) ?_ (Nat.le_refl _) ?_
      · simp +decide only [go_sem, List.map_toArray, List.map_cons, List.map_nil]; rfl
      · intro x hx; simp at hx; rcases hx with rfl | rfl | rfl | rfl <;> rfl
      intro e4 hG4 es4
      have gN4 := gN3.keepS (h' := e4) (hi' := nxd + 2) (fun i hi => es4 i (by have := (hsn i hi).2; omega)) (Nat.le_succ _)
      refine wpO_appendX (by simp +decide only [go_sem]) rfl rfl rfl rfl u22 u22 rfl s3 z3 b3 (by simp +decide only [go_sem]) (by simp +decide only [go_sem]) gN4 (by omega) hG4.toP (okA_of ?_ (by decide) ?_) ?_
      · intro x hx; simp at hx; rcases hx with rfl | rfl | rfl | rfl <;> rfl
      · have := flat4 done
        simp only [hd6, List.length_map, List.length_append, List.length_cons, List.length_nil, Nat.div_one, Nat.zero_add]
        omega
      intro n' e5 nx5 u1 u2 u3 u4
      have kk5 : ∀ i, i < nxd + 1 → sid n ≠ some i → e5.get i = e3.get i := fun i hi hne => (u3 i (by omega) hne).trans (es4 i (by omega))
      have hsn' : ∀ i, sid n' = some i → (sid n = some i ∨ i = nxd + 2) := fun i hi => by
        rcases u4 with u4 | u4
        · rw [u4] at hi; exact .inl hi
        · rw [u4] at hi; exact .inr (Option.some.inj hi).symm
      have hnN : sid n ≠ some nx3 := fun e => (a9 _ e).2.1 rfl
      have hnT : sid n ≠ some (nx3 + 1) := fun e => (a9 _ e).2.2 rfl
      have hnL : sid n ≠ some (nx3 + 4) := fun e => (a9 _ e).1 rfl
      have hnQ : sid n ≠ some nxd := fun e => by have := (hsn _ e).2; omega
      have bN5 := bN3.keep (kk5 nx3 (by omega) hnN)
      refine wpO_store1 (off := 0) (v := n') (by simp +decide only [go_sem]) rfl bN5 (by simp +decide only [go_sem]) (by simp +decide only [go_sem]) s22 (by simp) u2.toP.cellOK ?_
      intro e6 bN6 es6
      have bN6 : Bx e6 nx3 [n'] := bN6
      rw [wpO_nil]
      have bT6 := (bT3.keep (kk5 (nx3 + 1) (by omega) hnT)).keep (es6 (nx3 + 1) (by omega))
      have hQ6 := (hQ3.keep (kk5 nxd (by omega) hnQ)).keep (es6 nxd (by omega))
      have gL6 := ((es6 (nx3 + 4) (by omega)).trans (kk5 (nx3 + 4) (by omega) hnL)).trans gL3
      have kk6 : ∀ i, i < nxd → i ≠ nx3 + 4 → i ≠ nx3 → sid n ≠ some i → e6.get i = hd.get i := fun i h1 h2 h3 h4 => ((es6 i h3).trans (kk5 i (by omega) h4)).trans (kk3 i h1 h2)
      have gN6 := u2.keepS (h' := e6) (hi' := nx5) (fun i hi => es6 i (by rcases hsn' i hi with h | h; exact (a9 i h).2.1; omega)) (Nat.le_refl _)
      have gT6 := a7.keepS (h' := e6) (hi' := nx5) (fun i hi => kk6 i (hsτ i hi).2 (a10 i hi).1 (a10 i hi).2.1 (fun e => a8 i e hi)) (by omega)
      have ldT : ∀ ty off, loadAt EX e6 ty (nx3 + 1) off = loadL EX ty [τ] off := fun ty off => bT6.load ty off
      have ldQ6 : ∀ ty off, loadAt EX e6 ty nxd off = loadL EX ty c off := fun ty off => hQ6.load ty off
      refine wp_region ?_
      iterate 5 refine wpO_pure (by simp +decide only [go_sem]) (by conv => lhs; simp +decide only [go_sem, ldT, ldQ6, i1, i4]) ?_
      refine wpO_buildL (lo := nx5) (vs := [.str nm, .str s]) (by simp +decide only [go_sem]) rfl u100 s9 z9 rfl ?_ rfl (by decide) (by decide) ?_ (Nat.le_refl _) ?_
      · simp +decide only [go_sem, List.map_toArray, List.map_cons, List.map_nil]; rfl
      · intro x hx; simp at hx; rcases hx with rfl | rfl <;> rfl
      intro e7 hG7' es7
      have gT7 := gT6.keepS (h' := e7) (hi' := nx5 + 1) (fun i hi => es7 i (by have := (hsτ i hi).2; omega)) (Nat.le_succ _)
      refine wpO_appendX (by simp +decide only [go_sem]) rfl rfl rfl rfl u100 u100 rfl s9 z9 b9 (by simp +decide only [go_sem]) (by simp +decide only [go_sem]) gT7 (by omega) hG7'.toP (okA_of ?_ (by decide) ?_) ?_
      · intro x hx; simp at hx; rcases hx with rfl | rfl <;> rfl
      · have := flat2 done
        simp only [List.length_map, List.length_cons, List.length_nil, Nat.div_one, Nat.zero_add]
        omega
      intro τ' e8 nx8 v1 v2 v3 v4
      have hsτ' : ∀ i, sid τ' = some i → (sid τ = some i ∨ i = nx5 + 1) := fun i hi => by
        rcases v4 with v4 | v4
        · rw [v4] at hi; exact .inl hi
        · rw [v4] at hi; exact .inr (Option.some.inj hi).symm
      have kk8 : ∀ i, i < nx5 → sid τ ≠ some i → e8.get i = e6.get i := fun i hi hne => (v3 i (by omega) hne).trans (es7 i (by omega))
      have bT8 := bT6.keep (kk8 (nx3 + 1) (by omega) (fun e => (a10 _ e).2.2 rfl))
      refine wpO_store1 (off := 0) (v := τ') (by simp +decide only [go_sem]) rfl bT8 (by simp +decide only [go_sem]) (by simp +decide only [go_sem]) s100 (by simp) v2.toP.cellOK ?_
      intro e9 bT9 es9
      have bT9 : Bx e9 (nx3 + 1) [τ'] := bT9
      rw [wpO_nil]
      have kk9 : ∀ i, i < nx5 → sid τ ≠ some i → i ≠ nx3 + 1 → e9.get i = e6.get i := fun i h1 h2 h3 => (es9 i h3).trans (kk8 i h1 h2)
      have gL9 := (kk9 (nx3 + 4) (by omega) (fun e => (a10 _ e).1 rfl) (by omega)).trans gL6
      refine ⟨rfl, gL9, rfl, fun i => i = nx3 + 4 ∨ i = nx3 ∨ i = nx3 + 1 ∨ sid n' = some i ∨ sid τ' = some i, ⟨by show nx3 + 4 < nx8; omega, n', τ', fun i => Iff.rfl, ?_, ?_, ?_, ?_, ?_, ?_, ?_, ?_⟩, by show nxd ≤ nx8; omega, ?_, ?_⟩
      · rw [hget_set, if_pos rfl]
      · refine (bN6.keep (kk9 nx3 (by omega) (fun e => (a10 _ e).2.1 rfl) (by omega))).keep ?_
        rw [hget_set, if_neg (by omega)]
      · refine bT9.keep ?_
        rw [hget_set, if_neg (by omega)]
      · rw [List.flatMap_append, ← List.append_assoc, List.map_append]
        have := gN6.keepS (h' := e9.set (nx3 + 4) (.loop r0)) (hi' := nx8) (fun i hi => by
          have h1 := hsn' i hi
          have h2 : i ≠ nx3 + 4 := by rcases h1 with h | h; exact (a9 i h).1; omega
          rw [hget_set, if_neg h2]
          refine kk9 i (u2.sid_lt hi).2 (fun e => ?_) (by rcases h1 with h | h; exact (a9 i h).2.2; omega)
          rcases h1 with h | h
          · exact a8 i h e
          · have := (hsτ i e).2; omega) (by omega)
        simpa [ip, intV] using this
      · rw [List.flatMap_append, List.map_append]
        have := v2.keepS (h' := e9.set (nx3 + 4) (.loop r0)) (hi' := nx8) (fun i hi => by
          have h1 := hsτ' i hi
          have h2 : i ≠ nx3 + 4 := by rcases h1 with h | h; exact (a10 i h).1; omega
          rw [hget_set, if_neg h2]
          exact es9 i (by rcases h1 with h | h; exact (a10 i h).2.2; omega)) (Nat.le_refl _)
        simpa [it] using this
      · intro i hi hi'
        rcases hsn' i hi with h | h
        · rcases hsτ' i hi' with h' | h'
          · exact a8 i h h'
          · have := (hsn i h).2; omega
        · have := (u2.sid_lt hi).2
          rcases hsτ' i hi' with h' | h'
          · have := (hsτ i h').2; omega
          · omega
      · intro i hi
        rcases hsn' i hi with h | h
        · exact a9 i h
        · omega
      · intro i hi
        rcases hsτ' i hi with h | h
        · exact a10 i h
        · omega
      · intro i hi
        show X i ∨ nxd ≤ i
        rw [a2]
        rcases hi with h | h | h | h | h
        · exact .inl (.inl h)
        · exact .inl (.inr (.inl h))
        · exact .inl (.inr (.inr (.inl h)))
        · rcases hsn' i h with h | h
          · exact .inl (.inr (.inr (.inr (.inl h))))
          · exact .inr (by omega)
        · rcases hsτ' i h with h | h
          · exact .inl (.inr (.inr (.inr (.inr h))))
          · exact .inr (by omega)
      · intro i ⟨hi, hX⟩
        rw [a2] at hX
        have q1 : i ≠ nx3 + 4 := fun e => hX (.inl e)
        have q2 : i ≠ nx3 := fun e => hX (.inr (.inl e))
        have q3 : i ≠ nx3 + 1 := fun e => hX (.inr (.inr (.inl e)))
        have q4 : sid n ≠ some i := fun e => hX (.inr (.inr (.inr (.inl e))))
        have q5 : sid τ ≠ some i := fun e => hX (.inr (.inr (.inr (.inr e))))
        have hi : i < nxd := hi
        show (e9.set _ _).get i = hd.get i
        rw [hget_set, if_neg q1]
        exact (kk9 i (by omega) q5 q3).trans (kk6 i hi q1 q2 q4)
  generalize hLe : (h7.set (nx3 + 2 + 1) (.deferred (some []))).set (nx3 + 2 + 1 + 1) (.loop r0) = hl
  have kL : ∀ i, i < nx3 + 3 → hl.get i = h7.get i := fun i hi => by rw [← hLe, hget_set, if_neg (by omega), hget_set, if_neg (by omega)]
  have gL : hl.get (nx3 + 4) = some (.loop r0) := by rw [← hLe, hget_set, if_pos rfl]
  have gC : hl.get (nx3 + 3) = some (.deferred (some [])) := by rw [← hLe, hget_set, if_neg (by omega), hget_set, if_pos rfl]
  clear hLe
  let X0 : Nat → Prop := fun i => i = nx3 + 4 ∨ i = nx3 ∨ i = nx3 + 1 ∨ sid n0 = some i ∨ sid AVal.nilslice = some i
  have hJ0 : JJ q (nx + 1) nx3 (nx3 + 1) (nx3 + 4) r0 [] X0 ⟨hl, nx3 + 2 + 1 + 2⟩ := by
    refine ⟨by show nx3 + 4 < nx3 + 2 + 1 + 2; omega, n0, .nilslice, fun i => Iff.rfl, gL, hN7.keep (kL nx3 (by omega)), hT7.keep (kL (nx3 + 1) (by omega)), ?_, ?_, fun i _ h => (by cases h), fun i hi => ?_, fun i hi => (by cases hi)⟩
    · exact hG7.keepS (fun i hi => kL i (by have := (hsn0 i hi).2; omega)) (by show nx3 + 2 + 1 ≤ nx3 + 2 + 1 + 2; omega)
    · exact .own .nil
    · have := (hsn0 i hi).2; exact ⟨by omega, by omega, by omega⟩
  have hk7l : KeepP (fun i => i < nx) h hl := hkk7.trans (fun i hi => kL i (by have := hi; omega))
  refine ⟨fun v d' => ∃ X', JJ q (nx + 1) nx3 (nx3 + 1) (nx3 + 4) r0 (pre q.w) X' d' ∧ nx3 + 2 + 1 + 2 ≤ d'.nx ∧ (∀ i, X' i → X0 i ∨ nx3 + 2 + 1 + 2 ≤ i) ∧ KeepP (fun i => i < nx3 + 2 + 1 + 2 ∧ ¬ X0 i) hl d'.h, ?_, ?_⟩
  · have := srcParts1 Y (d := ⟨hl, nx3 + 2 + 1 + 2⟩) (B := nx3 + 2) (t := q.w) (done := []) hJ0 (Pc.keep (hk7l.mono hP) _ _ hp) (p3.keep (kL (nx3 + 2) (by omega))) (by simpa using hsmall) (by omega)
    exact this
  · intro v d' ⟨X', ⟨a1, n, τ, a2, a3, a4, a5, a6, a7, a8, a9, a10⟩, b1', b2', b3'⟩
    obtain ⟨hd, nxd⟩ := d'
    dsimp only at a1 a3 a4 a5 a6 a7 b1' b3'
    refine ⟨a3, fun o => ?_⟩
    have hX0 : ∀ i, i < nx + 1 → ¬ X0 i := fun i hi e => by
      rcases e with h | h | h | h | h
      · omega
      · omega
      · omega
      · have := (hsn0 i h).1; omega
      · cases h
    have hC : hd.get (nx3 + 3) = some (.deferred (some [])) := (b3' (nx3 + 3) ⟨by omega, fun e => by
      rcases e with h | h | h | h | h
      · omega
      · omega
      · omega
      · have := (hsn0 _ h).2; omega
      · cases h⟩).trans gC
    have hkd : KeepP (fun i => i < nx) h hd := hk7l.trans (b3'.mono (fun i hi => ⟨by omega, hX0 i (by omega)⟩))
    generalize hoe : hd.set (nx3 + 2 + 1 + 1) o = ho
    have so : Same1 (nx3 + 4) hd ho := hoe ▸ Same1.set
    clear hoe
    have bN := a4.keep (so nx3 (by omega))
    have bT := a5.keep (so (nx3 + 1) (by omega))
    have gN := a6.keepS (h' := ho) (hi' := nxd) (fun i hi => so i (a9 i hi).1) (Nat.le_refl _)
    have gT := a7.keepS (h' := ho) (hi' := nxd) (fun i hi => so i (a10 i hi).1) (Nat.le_refl _)
    have ldN : ∀ ty off, loadAt EX ho ty nx3 off = loadL EX ty [n] off := fun ty off => bN.load ty off
    have ldT : ∀ ty off, loadAt EX ho ty (nx3 + 1) off = loadL EX ty [τ] off := fun ty off => bT.load ty off
    refine Gs.inBlock (Gs.ends rfl ?_)
    refine wp_seq (wp_drawn [.q 0 [], .q 2 [], .l 1 [], .c [(2, [])], .l 3 [], .c [], .l 4 [], .c [], .q 5 []] (by kernel_rfl) ?_)
    iterate 2 refine wpD_pure (o := ⟨_, _, _, _, _, _⟩) rfl (by simp +decide only [go_sem]) (by conv => lhs; simp +decide only [go_sem, ldN, ldT]) ?_
    refine wpD_call (o := ⟨_, _, _, _, _, _⟩) rfl (by simp +decide only [go_sem]) (by conv => lhs; simp +decide only [go_sem]) n30 (wireInts (L := nums q) (Nat.le_refl _) (gN.toP.mono (fun i hi => hi.2)).toB ok.ints (by omega)) ?_
    intro t1 ⟨e1, nx1⟩ ⟨x1, x2, x3⟩
    dsimp only at x1 x2 x3
    have bT1 := bT.keep (x3 (nx3 + 1) (by omega))
    have ldT1 : ∀ ty off, loadAt EX e1 ty (nx3 + 1) off = loadL EX ty [τ] off := fun ty off => bT1.load ty off
    refine wpD_c (fun x hx => ?_) ?_
    · simp only [List.mem_singleton] at hx
      subst hx
      refine chk_yes (v := τ) (d := 50) (o := ⟨_, _, _, _, _, _⟩) rfl rfl (by simp +decide only [go_sem]) (by conv => lhs; simp +decide only [go_sem, ldT1]) ?_
      simp +decide only [go_sem]
      exact veq_simple gT.toP.simple
    have gT1 := gT.keepS (h' := e1) (hi' := nx1) (fun i hi => x3 i (gT.sid_lt hi).2) x1
    refine wpD_call (o := ⟨_, _, _, _, _, _⟩) rfl (by simp +decide only [go_sem]) (by conv => lhs; simp +decide only [go_sem]) n31 (wireStrings (L := txts q) (Nat.le_refl _) (gT1.toP.mono (fun i hi => hi.2)).toB (by have := ok.txt; omega)) ?_
    intro t2 ⟨e2, nx2⟩ ⟨y1, y2, y3⟩
    dsimp only at y1 y2 y3
    refine wpD_c0 ?_
    have hi1 : (encI (nums q)).length ≤ 10000000010 := by
      have := leb_len10 (n := ((nums q).length : Int)) (by omega) (by omega)
      have := encI_len ok.ints
      simp only [encI, List.length_append]; omega
    have hi2 : (encS (txts q)).length ≤ 10000000010 := by
      have := leb_len10 (n := ((txts q).length : Int)) (by omega) (by omega)
      have := encS_len (txts q) (by omega)
      simp only [encS, List.length_append]; omega
    have hb1 := (Gro.own x2).keepS (h' := e2) (hi' := nx2) (fun i hi => y3 i ((Gro.own x2).sid_lt hi).2) y1
    refine wpD_appendX (o := ⟨_, _, _, _, _, _⟩) rfl (by simp +decide only [go_sem]) rfl rfl rfl rfl u30 u30 rfl s5 z5 b5 (by simp +decide only [go_sem]) (by simp +decide only [go_sem]) hb1 (by omega) y2.toP (okA_of (bys_ok _) (by decide) ?_) ?_
    · simp only [bys_len, Nat.div_one]; omega
    intro w' e3 nx3' u1 u2 u3 u4
    refine wpD_c0 ?_
    repeat refine wpD_pure (o := ⟨_, _, _, _, _, _⟩) rfl (by simp +decide only [go_sem]) (by conv => lhs; simp +decide only [go_sem]) ?_
    rw [wpD_nil]
    have hsb : ∀ i, i < nxd → sid t1 ≠ some i := fun i hi e => by have := ((Gro.own x2).sid_lt e).1; omega
    have kE : ∀ i, i < nxd → e3.get i = ho.get i := fun i hi => (u3 i (by omega) (hsb i hi)).trans ((y3 i (by omega)).trans (x3 i hi))
    refine wp_ret rfl ⟨.inr rfl, (kE _ (by omega)).trans ((so _ (by omega)).trans hC), [w'], res_one (v := w') (by simp +decide only [go_sem]) u2.notBot, ?_⟩
    rw [bys_app] at u2
    refine ⟨by show nx ≤ nx3'; omega, ?_, ?_⟩
    · intro i hi
      have hi : i < nx := hi
      show (e3.set (nx3 + 2 + 1) (.deferred none)).get i = h.get i
      rw [hget_set, if_neg (by omega)]
      exact (kE i (by omega)).trans ((so i (by omega)).trans (hkd i hi))
    · refine (u2.toP.keep (h' := e3.set (nx3 + 2 + 1) (.deferred none)) ?_).mono (fun i hi => ⟨by omega, hi.2⟩)
      exact Same1.set.toP (by intro e; omega)
end Go.Ev
end
section
open Go Go.Proofs Go.RowKit
set_option linter.unusedVariables false
set_option linter.unusedSimpArgs false
set_option maxRecDepth 100000
namespace Go.Ev
/-! ### What is read is what was written -/
theorem gi_inv : ∀ (l : List Nat) (k y z u : Nat), (∀ c ∈ l, c < 256) → k ≤ 9 → gi k y l = .ok z u → ∃ w, l.take (u - k) = leb w ∧ z = y + w * 128 ^ k ∧ (0 < k → 0 < w) ∧ k < u
  | [], k, y, z, u, hb, hk, h => by cases h
  | c :: r, k, y, z, u, hb, hk, h => by
    unfold gi at h
    split at h
    · cases h
    · rename_i hA
      split at h
      · rename_i hc
        cases h
        refine ⟨c, ?_, rfl, fun h0 => by omega, by omega⟩
        rw [show k + 1 - k = 1 by omega, leb_lt hc]; rfl
      · rename_i hc
        have h256 := hb c List.mem_cons_self
        have hk9 : k + 1 ≤ 9 := by
          rcases Nat.lt_or_ge k 9 with h | h
          · exact h
          · omega
        obtain ⟨w, h1, h2, h3, h4⟩ := gi_inv r (k + 1) _ z u (fun x hx => hb x (List.mem_cons_of_mem _ hx)) hk9 h
        have hw := h3 (Nat.succ_pos k)
        refine ⟨c % 128 + 128 * w, ?_, ?_, fun _ => by omega, by omega⟩
        · rw [leb_ge (by omega), show u - k = (u - (k + 1)) + 1 by omega, List.take_succ_cons, h1]
          congr 1
          · omega
          · congr 1; omega
        · rw [h2, Nat.pow_succ, Nat.add_mul, Nat.add_assoc]
          congr 2
          rw [Nat.mul_comm (128 ^ k) 128, ← Nat.mul_assoc, Nat.mul_comm w 128]
theorem gi_bound : ∀ (l : List Nat) (k y z u : Nat), k ≤ 9 → y < 128 ^ k → gi k y l = .ok z u → z < 18446744073709551616
  | [], k, y, z, u, hk, hy, h => by cases h
  | c :: r, k, y, z, u, hk, hy, h => by
    unfold gi at h
    split at h
    · cases h
    · rename_i hA
      split at h
      · rename_i hc
        cases h
        by_cases h9 : k = 9
        · subst h9
          have : c ≤ 1 := by omega
          have h1 : c * 128 ^ 9 ≤ 1 * 128 ^ 9 := Nat.mul_le_mul_right _ this
          have e9 : (128 : Nat) ^ 9 = 9223372036854775808 := by decide
          omega
        · have h1 : (128 : Nat) ^ k ≤ 128 ^ 8 := Nat.pow_le_pow_right (by decide) (by omega)
          have h2 : c * 128 ^ k ≤ 127 * 128 ^ 8 := Nat.mul_le_mul (by omega) h1
          have e8 : (128 : Nat) ^ 8 = 72057594037927936 := by decide
          omega
      · rename_i hc
        have hk9 : k + 1 ≤ 9 := by
          rcases Nat.lt_or_ge k 9 with h' | h'
          · exact h'
          · have : k = 9 := by omega
            omega
        refine gi_bound r (k + 1) _ z u hk9 ?_ h
        rw [Nat.pow_succ]
        have : c % 128 * 128 ^ k ≤ 127 * 128 ^ k := Nat.mul_le_mul_right _ (by omega)
        omega
theorem g1_inv {b : List Nat} {x : Int} {u : Nat} (hb : ∀ c ∈ b, c < 256) (h : g1 b = .ok x u) : b.take u = leb (zz x) ∧ I64 x := by
  unfold g1 at h
  cases hg : gi 0 0 b with
  | ok z u' =>
    rw [hg] at h
    cases h
    obtain ⟨w, h1, h2, _, _⟩ := gi_inv b 0 0 z u hb (by decide) hg
    have hz := gi_bound b 0 0 z u (by decide) (by decide) hg
    rw [Nat.pow_zero, Nat.mul_one, Nat.zero_add] at h2
    subst h2
    rw [zz_unzz]
    exact ⟨h1, (unzz_range hz).1, (unzz_range hz).2⟩
  | enc => rw [hg] at h; cases h
  | trunc => rw [hg] at h; cases h
theorem lenR_inv {b : List Nat} {x : Int} {u : Nat} (hb : ∀ c ∈ b, c < 256) (h : lenR b = .ok x u) : g1 b = .ok x u := by
  unfold lenR gl at h
  unfold g1
  cases hg : gi 0 0 b with
  | ok z u' =>
    rw [hg] at h
    dsimp only at h
    split at h
    · cases h
    · split at h
      · cases h
      · exact h
  | enc => rw [hg] at h; cases h
  | trunc => rw [hg] at h; cases h
def eNu (n : Int) : List Nat := leb (zz n)
def eTx (s : List Nat) : List Nat := leb (zz (s.length : Nat)) ++ s
theorem gb_inv {b : List Nat} {s : List Nat} {u : Nat} (hb : ∀ c ∈ b, c < 256) (h : gb b = .ok s u) : b.take u = eTx s ∧ ∀ c ∈ s, c < 256 := by
  unfold gb at h
  cases hl : lenR b with
  | err e => rw [hl] at h; cases h
  | ok n x =>
    rw [hl] at h
    cases h
    obtain ⟨k1, k2, k3, k4, k5⟩ := lenR_ok hl
    obtain ⟨h1, _⟩ := g1_inv hb (lenR_inv hb hl)
    obtain ⟨m, rfl⟩ := Int.eq_ofNat_of_zero_le k4
    have hlen : ((b.drop x).take (m : Int).toNat).length = m := by rw [List.length_take, List.length_drop]; simp; omega
    refine ⟨?_, fun c hc => hb c (List.mem_of_mem_drop (List.mem_of_mem_take hc))⟩
    unfold eTx
    rw [hlen, ← h1, List.take_add]
theorem rdN_inv {α : Type} {one : List Nat → RR α} {enc : α → List Nat} {ok : α → Prop} (h1 : ∀ b x u, (∀ c ∈ b, c < 256) → one b = .ok x u → b.take u = enc x ∧ ok x) : ∀ (n : Nat) (b : List Nat) (l : List α) (u : Nat), (∀ c ∈ b, c < 256) → rdN one n b = .ok l u → b.take u = l.flatMap enc ∧ l.length = n ∧ ∀ x ∈ l, ok x
  | 0, b, l, u, hb, h => by cases h; simp
  | n + 1, b, l, u, hb, h => by
    unfold rdN at h
    split at h
    · rename_i x u1 hx
      split at h
      · rename_i l2 w hl
        cases h
        obtain ⟨a1, a2⟩ := h1 _ _ _ hb hx
        obtain ⟨c1, c2, c3⟩ := rdN_inv h1 n _ _ _ (fun c hc => hb c (List.mem_of_mem_drop hc)) hl
        refine ⟨?_, by simp [c2], fun y hy => ?_⟩
        · rw [List.take_add, a1, c1, List.flatMap_cons]
        · rcases List.mem_cons.1 hy with rfl | hy
          · exact a2
          · exact c3 y hy
      · cases h
    · cases h
theorem getN_inv {α : Type} {one : List Nat → RR α} {enc : α → List Nat} {ok : α → Prop} (h1 : ∀ b x u, (∀ c ∈ b, c < 256) → one b = .ok x u → b.take u = enc x ∧ ok x) {b : List Nat} {l : List α} {u : Nat} (hb : ∀ c ∈ b, c < 256) (h : getN one b = .ok l u) : b.take u = leb (zz (l.length : Nat)) ++ l.flatMap enc ∧ ∀ x ∈ l, ok x := by
  unfold getN at h
  cases hl : lenR b with
  | err e => rw [hl] at h; cases h
  | ok n x =>
    rw [hl] at h
    dsimp only at h
    obtain ⟨k1, k2, k3, k4, k5⟩ := lenR_ok hl
    obtain ⟨m, rfl⟩ := Int.eq_ofNat_of_zero_le k4
    obtain ⟨g1', _⟩ := g1_inv hb (lenR_inv hb hl)
    cases hr : rdN one (m : Int).toNat (b.drop x) with
    | err e => rw [hr] at h; cases h
    | ok l2 w =>
      rw [hr] at h
      cases h
      obtain ⟨c1, c2, c3⟩ := rdN_inv h1 _ _ _ _ (fun c hc => hb c (List.mem_of_mem_drop hc)) hr
      rw [List.nil_append]
      refine ⟨?_, c3⟩
      rw [List.take_add, g1', c1, c2]; rfl
theorem encI_eq (l : List Int) : encI l = leb (zz (l.length : Nat)) ++ l.flatMap eNu := rfl
theorem encS_eq (l : List (List Nat)) : encS l = leb (zz (l.length : Nat)) ++ l.flatMap eTx := rfl
theorem rdL_inv {g : List Int → List (List Nat) → RD3} (hg : ∀ N T t N' T', g N T = some (t, N', T') → N = (pre t).flatMap pnum ++ N' ∧ T = (pre t).flatMap ptxt ++ T') : ∀ (k : Nat) N T ts N' T', rdL g k N T = some (ts, N', T') → N = (preL ts).flatMap pnum ++ N' ∧ T = (preL ts).flatMap ptxt ++ T' ∧ ts.length = k
  | 0, N, T, ts, N', T', h => by cases h; simp [preL]
  | k + 1, N, T, ts, N', T', h => by
    unfold rdL at h
    split at h
    · rename_i t N1 T1 h1
      split at h
      · rename_i ts2 N2 T2 h2
        cases h
        obtain ⟨a1, a2⟩ := hg _ _ _ _ _ h1
        obtain ⟨b1, b2, b3⟩ := rdL_inv hg k _ _ _ _ _ h2
        rw [preL, List.flatMap_append, List.flatMap_append, List.append_assoc, List.append_assoc, ← b1, ← b2]
        exact ⟨a1, a2, by simp [b3]⟩
      · cases h
    · cases h
theorem rd_inv : ∀ (f : Nat) N T t N' T', rd f N T = some (t, N', T') → N = (pre t).flatMap pnum ++ N' ∧ T = (pre t).flatMap ptxt ++ T'
  | 0, N, T, t, N', T', h => by cases h
  | f + 1, N, T, t, N', T', h => by
    unfold rd at h
    split at h
    · rename_i op n m k N1 nm s T1
      split at h
      · rename_i hk
        split at h
        · rename_i ts N2 T2 h2
          cases h
          obtain ⟨b1, b2, b3⟩ := rdL_inv (rd_inv f) _ _ _ _ _ _ h2
          rw [pre, List.flatMap_cons, List.flatMap_cons, b1, b2]
          refine ⟨?_, ?_⟩
          · rw [pnum, b3, Int.toNat_of_nonneg hk.1]; simp
          · rw [ptxt]; simp
        · cases h
      · cases h
    · cases h
/-- What is read, written anew, is what was read. -/
theorem dq_inv {b : List Nat} {q : QQ} (hb : ∀ c ∈ b, c < 256) (h : dq b = .ok q) : encQ q = b ∧ (∀ n ∈ nums q, I64 n) ∧ TOK q ∧ (nums q).length ≤ b.length ∧ (txts q).length ≤ b.length ∧ tsz q.w ≤ 64 := by
  unfold dq at h
  cases hN : getN g1 b with
  | err e => rw [hN] at h; cases h
  | ok N x =>
    rw [hN] at h
    dsimp only at h
    cases hT : getN gb (b.drop x) with
    | err e => rw [hT] at h; cases h
    | ok T y =>
      rw [hT] at h
      dsimp only at h
      split at h
      · rename_i hxy
        obtain ⟨a1, a2⟩ := getN_inv (enc := eNu) (ok := I64) (fun b x u hb h => g1_inv hb h) hb hN
        obtain ⟨c1, c2⟩ := getN_inv (enc := eTx) (ok := fun s => ∀ c ∈ s, c < 256) (fun b x u hb h => gb_inv hb h) (fun c hc => hb c (List.mem_of_mem_drop hc)) hT
        have uN := getN_used (fun _ _ _ => g1_used') hN
        have uT := getN_used (fun _ _ _ => gb_used') hT
        rw [List.length_drop] at uT
        have hbe : b = encI N ++ encS T := by
          rw [encI_eq, encS_eq, ← a1, ← c1, List.take_of_length_le (l := b.drop x) (by rw [List.length_drop]; omega), List.take_append_drop]
        unfold dqN at h
        split at h
        · rename_i k wi da co bu l N6
          split at h
          · rename_i hl
            split at h
            · rename_i t hr
              cases h
              obtain ⟨r1, r2⟩ := rd_inv _ _ _ _ _ _ hr
              obtain ⟨s1, s2, s3, s4⟩ := rd_sz _ _ _ _ _ _ hr
              rw [List.append_nil] at r1 r2
              have hnum : nums ⟨k, wi, da, co, bu, N6.take l.toNat, t⟩ = k :: wi :: da :: co :: bu :: l :: N6 := by
                unfold nums
                dsimp only
                rw [← r1, List.append_assoc, List.take_append_drop, List.length_take, Nat.min_eq_left (by omega), Int.toNat_of_nonneg hl.1]; rfl
              have htxt : txts ⟨k, wi, da, co, bu, N6.take l.toNat, t⟩ = T := r2.symm
              refine ⟨?_, ?_, ?_, ?_, ?_, ?_⟩
              · unfold encQ
                rw [hnum, htxt, hbe]
              · rw [hnum]; exact a2
              · unfold TOK; rw [htxt]; exact c2
              · rw [hnum]; omega
              · rw [htxt]; omega
              · rw [List.length_drop] at s3
                show tsz t ≤ 64
                omega
            · cases h
          · cases h
        · cases h
      · cases h
theorem szS_sum : ∀ (l : List (List Nat)) , szS l ≤ 11 * (l.flatMap eTx).length
  | [] => by simp [szS]
  | s :: l => by
    have h1 := szS_sum l
    have h2 : 1 ≤ (leb (zz (s.length : Nat))).length := by
      rw [leb]; split <;> simp
    simp only [szS, List.flatMap_cons, List.length_append, eTx] at h1 ⊢
    omega
theorem dq_ok {b : List Nat} {q : QQ} (hb : ∀ c ∈ b, c < 256) (hlen : b.length ≤ 2000) (h : dq b = .ok q) : QOK q ∧ TOK q := by
  obtain ⟨h1, h2, h3, h4, h5, h6⟩ := dq_inv hb h
  refine ⟨⟨h2, by omega, ?_, by omega⟩, h3⟩
  have := szS_sum (txts q)
  have h7 := congrArg List.length h1
  unfold encQ at h7
  rw [encS_eq] at h7
  simp only [List.length_append] at h7
  omega
/-! ### What is written is read -/
theorem leb_pos (z : Nat) : 1 ≤ (leb z).length := by rw [leb]; split <;> simp
theorem zz_lt64 {n : Int} (h : I64 n) : zz n < 18446744073709551616 := by
  obtain ⟨h1, h2⟩ := h
  unfold zz; split <;> omega
theorem g1_leb {n : Int} (h : I64 n) (r : List Nat) : g1 (eNu n ++ r) = .ok n (eNu n).length := by
  have hz := zz_lt64 h
  have := gi_leb 9 (zz n) 0 0 r (by have : (128 : Nat) ^ 10 = 1180591620717411303424 := by decide
                                    omega) (by decide) (fun _ => by have : (128 : Nat) ^ 9 = 9223372036854775808 := by decide
                                                                    omega) (fun h => absurd h (Nat.lt_irrefl 0))
  unfold g1 eNu
  rw [this, Nat.pow_zero, Nat.mul_one, Nat.zero_add, Nat.zero_add]
  show RR.ok (unzz (zz n)) _ = _
  rw [unzz_zz]
theorem lenR_leb {n : Nat} (h : I64 (n : Int)) (r : List Nat) (hr : n ≤ r.length) : lenR (eNu (n : Int) ++ r) = .ok (n : Int) (eNu (n : Int)).length := by
  have hg := g1_leb h r
  unfold g1 at hg
  unfold lenR gl
  cases hgi : gi 0 0 (eNu (n : Int) ++ r) with
  | ok z u =>
    rw [hgi] at hg
    dsimp only
    have e1 : unzz z = (n : Int) ∧ u = (eNu (n : Int)).length := by
      have hg' : RR.ok (unzz z) u = RR.ok (n : Int) (eNu (n : Int)).length := hg
      injection hg' with h1 h2
      exact ⟨h1, h2⟩
    rw [e1.1, if_neg (by omega), if_neg (by rw [List.length_append, e1.2, Nat.div_one]; omega)]
    exact hg
  | enc => rw [hgi] at hg; cases hg
  | trunc => rw [hgi] at hg; cases hg
theorem gb_leb {s : List Nat} (h : I64 (s.length : Int)) (r : List Nat) : gb (eTx s ++ r) = .ok s (eTx s).length := by
  unfold gb
  have : eTx s ++ r = eNu (s.length : Int) ++ (s ++ r) := by unfold eTx eNu; rw [List.append_assoc]
  rw [this, lenR_leb h (s ++ r) (by simp)]
  dsimp only
  rw [List.drop_left' rfl, Int.toNat_natCast, List.take_left' rfl]
  congr 1
  unfold eTx eNu
  rw [List.length_append]
theorem rdN_enc {α : Type} {one : List Nat → RR α} {enc : α → List Nat} : ∀ (l : List α) (r : List Nat), (∀ x ∈ l, ∀ r, one (enc x ++ r) = .ok x (enc x).length) → rdN one l.length (l.flatMap enc ++ r) = .ok l (l.flatMap enc).length
  | [], r, h => rfl
  | x :: l, r, h => by
    rw [List.flatMap_cons, List.append_assoc, List.length_cons]
    unfold rdN
    rw [h x List.mem_cons_self]
    dsimp only
    rw [List.drop_left' rfl, rdN_enc l r (fun y hy => h y (List.mem_cons_of_mem _ hy))]
    dsimp only
    rw [List.length_append]
theorem getN_enc {α : Type} {one : List Nat → RR α} {enc : α → List Nat} (l : List α) (r : List Nat) (hl : I64 (l.length : Int)) (h1 : ∀ x ∈ l, 1 ≤ (enc x).length) (h : ∀ x ∈ l, ∀ r, one (enc x ++ r) = .ok x (enc x).length) : getN one (leb (zz (l.length : Nat)) ++ l.flatMap enc ++ r) = .ok l (leb (zz (l.length : Nat)) ++ l.flatMap enc).length := by
  have hle : l.length ≤ (l.flatMap enc).length := by
    clear h hl
    induction l with
    | nil => simp
    | cons x l ih =>
      have := ih (fun y hy => h1 y (List.mem_cons_of_mem _ hy))
      have := h1 x List.mem_cons_self
      rw [List.flatMap_cons, List.length_append, List.length_cons]; omega
  unfold getN
  have e : leb (zz (l.length : Nat)) ++ l.flatMap enc ++ r = eNu (l.length : Int) ++ (l.flatMap enc ++ r) := by unfold eNu; rw [List.append_assoc]
  rw [e, lenR_leb hl _ (by rw [List.length_append]; omega)]
  dsimp only
  rw [List.drop_left' rfl, Int.toNat_natCast, rdN_enc l r h]
  show RR.ok _ _ = _
  rw [List.nil_append, List.length_append]; rfl
mutual
theorem rd_pre : ∀ (f : Nat) (t : Tr) (N : List Int) (T : List (List Nat)), tsz t ≤ f → tsz t ≤ 65 → rd f ((pre t).flatMap pnum ++ N) ((pre t).flatMap ptxt ++ T) = some (t, N, T)
  | 0, t, N, T, h, _ => by have := tsz_pos t; omega
  | f + 1, .mk op nm n m s subs, N, T, h, h65 => by
    rw [tsz] at h h65
    have hsl := tszL_len subs
    rw [pre, List.flatMap_cons, List.flatMap_cons, pnum, ptxt]
    show (if 0 ≤ (subs.length : Int) ∧ (subs.length : Int) ≤ 64 then (match rdL (rd f) (subs.length : Int).toNat ((preL subs).flatMap pnum ++ N) ((preL subs).flatMap ptxt ++ T) with
      | some (ts, N2, T2) => some (Tr.mk op nm n m s ts, N2, T2)
      | none => none) else none) = _
    rw [if_pos ⟨by omega, by omega⟩, Int.toNat_natCast, rdL_pre f subs N T (by omega) (by omega)]
theorem rdL_pre : ∀ (f : Nat) (ts : List Tr) (N : List Int) (T : List (List Nat)), tszL ts ≤ f → tszL ts ≤ 65 → rdL (rd f) ts.length ((preL ts).flatMap pnum ++ N) ((preL ts).flatMap ptxt ++ T) = some (ts, N, T)
  | f, [], N, T, h, _ => rfl
  | f, t :: ts, N, T, h, h65 => by
    rw [tszL] at h h65
    rw [preL, List.flatMap_append, List.flatMap_append, List.append_assoc, List.append_assoc, List.length_cons]
    unfold rdL
    rw [rd_pre f t _ _ (by omega) (by omega)]
    dsimp only
    rw [rdL_pre f ts N T (by omega) (by omega)]
end
/-- What is written is read as it was. -/
theorem dq_enc {q : QQ} (ok : QOK q) (h64 : tsz q.w ≤ 64) : dq (encQ q) = .ok q := by
  have hNl := ok.len
  have hTl := szS_count (txts q)
  have hTs := ok.txt
  have h1 : getN g1 (encI (nums q) ++ encS (txts q)) = .ok (nums q) (encI (nums q)).length := by
    rw [encI_eq]
    exact getN_enc (nums q) _ ⟨by omega, by omega⟩ (fun x _ => leb_pos _) (fun x hx r => g1_leb (ok.ints x hx) r)
  have h2 : getN gb (encS (txts q)) = .ok (txts q) (encS (txts q)).length := by
    have := getN_enc (one := gb) (enc := eTx) (txts q) [] ⟨by omega, by omega⟩ (fun x _ => by unfold eTx; rw [List.length_append]; have := leb_pos (zz (x.length : Nat)); omega) (fun x hx r => gb_leb (by
      have h1 : x.length ≤ szS (txts q) := by
        obtain ⟨i, hi, rfl⟩ := List.getElem_of_mem hx
        exact szS_at hi
      exact ⟨by omega, by omega⟩) r)
    rw [List.append_nil] at this
    exact this
  unfold dq encQ
  rw [h1]
  dsimp only
  rw [List.drop_left' rfl, h2]
  dsimp only
  rw [if_pos (by rw [List.length_append])]
  have hnum : nums q = q.k :: q.wi :: q.da :: q.co :: q.bu :: (q.vec.length : Int) :: (q.vec ++ (pre q.w).flatMap pnum) := by unfold nums; simp
  have h4 := flat4 (pre q.w)
  rw [pre_len] at h4
  rw [hnum]
  unfold dqN
  dsimp only
  rw [if_pos ⟨by omega, by rw [List.length_append]; omega, by rw [List.length_append, Int.toNat_natCast]; omega⟩, Int.toNat_natCast, List.drop_left' rfl, List.take_left' rfl]
  have := rd_pre 65 q.w [] [] (by omega) (by omega)
  rw [List.append_nil, List.append_nil] at this
  show (match rd 65 ((pre q.w).flatMap pnum) ((pre q.w).flatMap ptxt) with
    | some (t, [], []) => DQ.ok ⟨q.k, q.wi, q.da, q.co, q.bu, q.vec, t⟩
    | _ => .err 11) = _
  rw [this]
end Go.Ev
end
section
open Go Go.Proofs Go.RowKit
set_option linter.unusedVariables false
set_option linter.unusedSimpArgs false
set_option maxRecDepth 100000
namespace Go.Ev
noncomputable def K0 : AObj := .cells true kk.length (BT.ofList kk)
theorem obj0 (h : Heap) (f : Nat → Nat) : objOK h f kk (some K0) = true := by kernel_rfl
theorem memo4 {h : Heap} {nx : Nat} (hK : h.get 0 = some K0) : memo 2 [eX] [] h nx = .val (.bool true) [] nx := by
  have hg : globsOK h (ren 2 [] nx) 2 eX.globs = true := by
    show (Nat.blt 0 2 && objOK h (ren 2 [] nx) kk (h.get 0) && true) = true
    rw [hK, obj0]; rfl
  have e1 : entryOf 2 eX [] h nx = some (.val (.bool true) [] nx) := by
    show entryR 2 eX [] h nx [] = _
    unfold entryR
    rw [hg]; rfl
  show (match entryOf 2 eX [] h nx with | some r => r | none => memo 2 [] [] h nx) = _
  rw [e1]
theorem dq_err {b : List Nat} {e : Int} (h : dq b = .err e) : decide (e = 0) = false := by
  have h11 : decide ((11 : Int) = 0) = false := rfl
  unfold dq at h
  cases hN : getN g1 b with
  | err e => rw [hN] at h; cases h; exact ecode_ne e
  | ok N x =>
    rw [hN] at h
    dsimp only at h
    cases hT : getN gb (b.drop x) with
    | err e => rw [hT] at h; cases h; exact ecode_ne e
    | ok T y =>
      rw [hT] at h
      dsimp only at h
      split at h
      · unfold dqN at h
        split at h
        · split at h
          · split at h
            · cases h
            · cases h; exact h11
          · cases h; exact h11
        · cases h; exact h11
      · cases h; exact h11
theorem n4 : EX.specs.get 4 = some (memo 2 [eX]) := rfl
section
variable {E : Env} {k : FK} {ops : List Oper}
theorem wpO_spec {o : Oper} {rest : List Oper} {t : BT AVal} {h : Heap} {nx nx' : Nat} {Q : BT AVal → D → Prop} {f : FuncId} {args : List AVal} {sp : List AVal → Heap → Nat → OpR} {v : AVal} {e : Eff} (hw : wanted o.guard t ops = .yes) (he : evOp ⟨E, t, h, nx⟩ o.op = .enter f args) (hs : E.specs.get f = some sp)
    (hsp : sp args h nx = .val v e nx') (hn : wpO E k ops rest (putT k.size t o.dst v) ⟨applyEff h e, nx'⟩ Q) : wpO E k ops (o :: rest) t ⟨h, nx⟩ Q := by
  unfold wpO
  rw [hw]
  dsimp only
  rw [he]
  dsimp only
  rw [hs]
  dsimp only
  rw [hsp]; exact hn
theorem wpD_spec {o : Oper} {rest : List PL} {t0 t : BT AVal} {h : Heap} {nx nx' i : Nat} {late : List Nat} {Q : BT AVal → D → Prop} {f : FuncId} {args : List AVal} {sp : List AVal → Heap → Nat → OpR} {v : AVal} {e : Eff} (hoi : opAt ops i = o) (hw : wanted o.guard (backTo t0 late t) ops = .yes) (he : evOp ⟨E, backTo t0 late t, h, nx⟩ o.op = .enter f args) (hs : E.specs.get f = some sp)
    (hsp : sp args h nx = .val v e nx') (hn : wpD E k ops t0 rest (putT k.size t o.dst v) ⟨applyEff h e, nx'⟩ Q) : wpD E k ops t0 (.l i late :: rest) t ⟨h, nx⟩ Q := by
  subst hoi
  unfold wpD
  rw [hw]
  dsimp only
  rw [he]
  dsimp only
  rw [hs]
  dsimp only
  rw [hsp]; exact hn
end
theorem Qc.len {h : Heap} {P : Nat → Prop} {q : QQ} {c : List AVal} (hq : Qc h P q c) : c.length = 12 := by
  obtain ⟨v, w0, w1, w2, w3, w4, w5, rfl, _⟩ := hq.cases; rfl
theorem Qc.cells {h : Heap} {P : Nat → Prop} {q : QQ} {c : List AVal} (hq : Qc h P q c) : ∀ x ∈ c, cellOK x = true := by
  obtain ⟨v, wc, rfl, hv, hp⟩ := hq
  intro x hx
  rcases List.mem_append.1 hx with hx | hx
  · rcases List.mem_append.1 hx with hx | hx
    · simp at hx; rcases hx with rfl | rfl | rfl
      · exact hv.cellOK
      · rfl
      · rfl
    · exact hp.cells x hx
  · simp at hx; rcases hx with rfl | rfl | rfl <;> rfl
theorem Qc.where_ {h : Heap} {P : Nat → Prop} {q : QQ} {c : List AVal} (hq : Qc h P q c) : ∃ wc, (c.drop 3).take 6 = wc ∧ Pc h P q.w wc := by
  obtain ⟨v, w0, w1, w2, w3, w4, w5, rfl, _, hp⟩ := hq.cases
  exact ⟨_, rfl, hp⟩
set_option maxHeartbeats 8000000 in
theorem lawAC {h : Heap} {nx : Nat} {P : Nat → Prop} {q : QQ} {cq : List AVal} {v : AVal} {b : List Nat} (hK : h.get 0 = some K0) (h0 : 0 < nx) (hq : Qc h P q cq) (hP : ∀ i, P i → i < nx) (hv : SlB 1 h nx v (bys b)) (hb : ∀ x ∈ b, x < 256) (hbl : b.length < 60000000000)
    (hI : ∀ n ∈ nums q, I64 n) (hT : TOK q) (hS : szS (txts q) ≤ 10000000000) (hz : tsz q.w < 60000000000) : AC EX 3 [.agg cq, v] ⟨h, nx⟩ (fun w d' => w = .bool true) := by
  have hsl := hv.len
  rw [bys_len] at hsl
  have hc12 := hq.len
  refine AC.of_wp' (size := 82) f3 rfl rfl ?_
  refine wp_seq (wp_region ?_)
  refine wpO_box (by simp +decide only [go_sem]) rfl (v := .agg cq) (by simp +decide only [go_sem]) rfl ?_
  intro h1 hB1 hs1
  have hB1 : Bx h1 nx cq := hB1
  repeat refine wpO_pure (by simp +decide only [go_sem]) (by conv => lhs; simp +decide only [go_sem]) ?_
  rw [wpO_nil]
  have hk1 : Keep nx h h1 := hs1.keep (Nat.le_refl _)
  refine wp_seq (wp_seq (wp_region ?_))
  repeat refine wpO_pure (by simp +decide only [go_sem]) (by conv => lhs; simp +decide only [go_sem, len30 hsl]) ?_
  rw [wpO_nil]
  refine wp_cond (x := decide ((2000 : Int) < (b.length : Int))) (by simp +decide only [go_sem]) ?_
  by_cases hlen : 2000 < b.length
  · rw [show decide ((2000 : Int) < (b.length : Int)) = true from by simp; omega]
    refine wp_seq (wp_region ?_)
    refine wpO_spec (by simp +decide only [go_sem]) (by conv => lhs; simp +decide only [go_sem]) n4 (memo4 ((hk1 0 h0).trans hK)) ?_
    repeat refine wpO_pure (by simp +decide only [go_sem]) (by conv => lhs; simp +decide only [go_sem]) ?_
    rw [wpO_nil]
    exact wp_ret rfl ⟨.inr rfl, _, res_one (v := .bool true) (by simp +decide only [go_sem]) rfl, rfl⟩
  rw [show decide ((2000 : Int) < (b.length : Int)) = false from by simp; omega]
  have hv1 : SlB 1 h1 nx v (bys b) := hv.keep hk1
  -- what the program reads
  refine wp_skip (wp_seqR (fun t d => ∃ B5 c1 e, getT t 0 = .agg cq ∧ getT t 1 = v ∧ getT t 2 = .ptr nx 0 ∧ getT t 5 = .ptr B5 0 ∧ getT t 6 = .int .i64 e ∧ nx < B5 ∧ d.nx = B5 + 1 ∧ Keep nx h d.h ∧ Bx d.h nx cq ∧ Bx d.h B5 c1 ∧ c1.length = 12 ∧ match dq b with
    | .ok q' => e = 0 ∧ Qc d.h (fun i => nx < i ∧ i < B5) q' c1
    | .err e' => e = e') (wp_region ?_) ?_)
  · refine wpO_pure (by simp +decide only [go_sem]) (by conv => lhs; simp +decide only [go_sem]) ?_
    refine wpO_call (by simp +decide only [go_sem]) (by conv => lhs; simp +decide only [go_sem]) n5 (wireDecodeQuery (lo := nx) (Nat.le_succ _) hv1 hb hbl) ?_
    intro w ⟨h2, nx2⟩ ⟨r1, r2, r3⟩
    dsimp only at r1 r2 r3
    have hk2 : Keep nx h h2 := hk1.trans (r2.mono (Nat.le_succ _))
    have hB2 := hB1.keep (r2 nx (Nat.lt_succ_self _))
    cases hd : dq b with
    | err e =>
      rw [hd] at r3
      have r3 : w = .tup [.agg z12, .int .i64 e] := r3
      subst r3
      repeat refine wpO_pure (by simp +decide only [go_sem]) (by conv => lhs; simp +decide only [go_sem]) ?_
      refine wpO_alloc (by simp +decide only [go_sem]) rfl z29 ?_
      intro h3 hA3 hs3
      refine wpO_storeA (off := 0) (vs := z12) (by simp +decide only [go_sem]) rfl hA3 (by simp +decide only [go_sem]) (by simp +decide only [go_sem]) s29 rfl (by decide) (by decide) ?_
      intro h4 hA4 hs4
      repeat refine wpO_pure (by simp +decide only [go_sem]) (by conv => lhs; simp +decide only [go_sem]) ?_
      rw [wpO_nil]
      exact ⟨nx2, z12, e, by simp +decide only [go_sem], by simp +decide only [go_sem], by simp +decide only [go_sem], by simp +decide only [go_sem], by simp +decide only [go_sem], by omega, rfl, (hk2.trans (hs3.keep (by omega))).trans (hs4.keep (by omega)), (hB2.keep (hs3 nx (by omega))).keep (hs4 nx (by omega)), hA4, rfl, rfl⟩
    | ok q' =>
      rw [hd] at r3
      obtain ⟨c, rfl, r4⟩ := r3
      have hl := r4.len
      repeat refine wpO_pure (by simp +decide only [go_sem]) (by conv => lhs; simp +decide only [go_sem]) ?_
      refine wpO_alloc (by simp +decide only [go_sem]) rfl z29 ?_
      intro h3 hA3 hs3
      refine wpO_storeA (off := 0) (vs := c) (by simp +decide only [go_sem]) rfl hA3 (by simp +decide only [go_sem]) (by simp +decide only [go_sem]) s29 hl (by decide) r4.cells ?_
      intro h4 hA4 hs4
      rw [storeL_all (by rw [hl]; rfl)] at hA4
      repeat refine wpO_pure (by simp +decide only [go_sem]) (by conv => lhs; simp +decide only [go_sem]) ?_
      rw [wpO_nil]
      exact ⟨nx2, c, 0, by simp +decide only [go_sem], by simp +decide only [go_sem], by simp +decide only [go_sem], by simp +decide only [go_sem], by simp +decide only [go_sem], by omega, rfl, (hk2.trans (hs3.keep (by omega))).trans (hs4.keep (by omega)), (hB2.keep (hs3 nx (by omega))).keep (hs4 nx (by omega)), hA4, hl, rfl, ((r4.keep (hs3.toP (by intro e; omega))).keep (hs4.toP (by intro e; omega))).mono (fun i hi => ⟨by omega, hi.2⟩)⟩
  intro t d ⟨B5, c1, e, g0, g1, g2, g5, g6, a1, a2, a3, a4, a5, a6, a7⟩
  obtain ⟨h4, nx4⟩ := d
  dsimp only at a2 a3 a4 a5 a7
  subst a2
  have hv4 : SlB 1 h4 nx v (bys b) := hv.keep a3
  -- what the specification reads
  refine wp_seqR (fun t d => ∃ B7 c2, getT t 0 = .agg cq ∧ getT t 1 = v ∧ getT t 2 = .ptr nx 0 ∧ getT t 5 = .ptr B5 0 ∧ getT t 6 = .int .i64 e ∧ getT t 7 = .ptr B7 0 ∧ B5 < B7 ∧ d.nx = B7 + 1 ∧ Keep nx h d.h ∧ Bx d.h nx cq ∧ Bx d.h B5 c1 ∧ Bx d.h B7 (c2 ++ [.int .i64 e]) ∧ c2.length = 12 ∧ match dq b with
    | .ok q' => e = 0 ∧ Qc d.h (fun i => nx < i ∧ i < B5) q' c1 ∧ Qc d.h (fun i => B5 < i ∧ i < B7) q' c2
    | .err e' => e = e') (wp_region ?_) ?_
  · refine wpO_pure (by simp +decide only [go_sem]) (by conv => lhs; simp +decide only [go_sem, g1]) ?_
    refine wpO_call (by simp +decide only [go_sem]) (by conv => lhs; simp +decide only [go_sem]) n6 (refDecodeQuery (lo := nx) (by omega) hv4 hb hbl) ?_
    intro w ⟨h5, nx5⟩ ⟨r1, r2, r3⟩
    dsimp only at r1 r2 r3
    have hk5 : Keep nx h h5 := a3.trans (r2.mono (by omega))
    refine wpO_alloc (by simp +decide only [go_sem]) rfl z36 ?_
    intro h6 hA6 hs6
    cases hd : dq b with
    | err e' =>
      rw [hd] at r3 a7
      have r3 : w = .agg (e13 e') := r3
      have a7 : e = e' := a7
      subst r3
      subst a7
      refine wpO_storeA (off := 0) (vs := z12 ++ [.int .i64 e]) (by simp +decide only [go_sem]) rfl hA6 (by simp +decide only [go_sem]) (by simp +decide only [go_sem]; rfl) s36 rfl (by decide) (e13_ok e) ?_
      intro h7 hA7 hs7
      rw [wpO_nil]
      refine ⟨nx5, z12, by simp +decide only [go_sem, g0], by simp +decide only [go_sem, g1], by simp +decide only [go_sem, g2], by simp +decide only [go_sem, g5], by simp +decide only [go_sem, g6], by simp +decide only [go_sem], by omega, rfl, (hk5.trans (hs6.keep (by omega))).trans (hs7.keep (by omega)), ((a4.keep (r2 nx (by omega))).keep (hs6 nx (by omega))).keep (hs7 nx (by omega)), ((a5.keep (r2 B5 (by omega))).keep (hs6 B5 (by omega))).keep (hs7 B5 (by omega)), hA7, rfl, rfl⟩
    | ok q' =>
      rw [hd] at r3 a7
      obtain ⟨c, rfl, r4⟩ := r3
      obtain ⟨rfl, a7⟩ := a7
      have hl := r4.len
      refine wpO_storeA (off := 0) (vs := c ++ [.int .i64 0]) (by simp +decide only [go_sem]) rfl hA6 (by simp +decide only [go_sem]) (by simp +decide only [go_sem]) s36 (by rw [List.length_append, hl]; rfl) (by decide) (fun x hx => by
        rcases List.mem_append.1 hx with hx | hx
        · exact r4.cells x hx
        · simp at hx; subst hx; rfl) ?_
      intro h7 hA7 hs7
      rw [storeL_all (by rw [List.length_append, hl]; rfl)] at hA7
      rw [wpO_nil]
      have k7 : ∀ i, i < nx5 → h7.get i = h5.get i := fun i hi => (hs7 i (by omega)).trans (hs6 i (by omega))
      refine ⟨nx5, c, by simp +decide only [go_sem, g0], by simp +decide only [go_sem, g1], by simp +decide only [go_sem, g2], by simp +decide only [go_sem, g5], by simp +decide only [go_sem, g6], by simp +decide only [go_sem], by omega, rfl, hk5.trans (fun i hi => k7 i (by omega)), (a4.keep (r2 nx (by omega))).keep (k7 nx (by omega)), (a5.keep (r2 B5 (by omega))).keep (k7 B5 (by omega)), hA7, hl, rfl, ?_, ?_⟩
      · exact (a7.keep (r2.toP (fun i hi => by omega))).keep (fun i hi => k7 i (by omega))
      · exact (r4.keep (fun i hi => k7 i hi.2)).mono (fun i hi => ⟨by omega, hi.2⟩)
  clear g0 g1 g2 g5 g6 a3 a4 a5 a6 a7
  intro t d ⟨B7, c2, g0, g1, g2, g5, g6, g7, b1, b2, b3, b4, b5, b6, b7, b8⟩
  obtain ⟨h7, nx7⟩ := d
  dsimp only at b2 b3 b4 b5 b6 b8
  subst b2
  have hv7 : SlB 1 h7 nx v (bys b) := hv.keep b3
  have i12 : (c2 ++ [AVal.int .i64 e])[12]? = some (.int .i64 e) := by rw [List.getElem?_append_right (by omega), b7]; rfl
  have hld7 : ∀ ty off, loadAt EX h7 ty B7 off = loadL EX ty (c2 ++ [.int .i64 e]) off := fun ty off => b6.load ty off
  have hee : decide (e = e) = true := by simp
  -- are they the same?
  refine wp_seq (wp_seqR (fun t d => getT t 0 = .agg cq ∧ getT t 2 = .ptr nx 0 ∧ getT t 45 = .bool false ∧ nx < d.nx ∧ Keep nx h d.h ∧ Bx d.h nx cq) (wp_drawn [.q 0 [], .q 1 [], .q 2 [], .q 3 [], .q 4 [], .q 5 [], .q 6 [], .q 7 [], .q 8 [], .q 9 [], .q 10 [], .l 11 [], .c [], .q 12 [], .q 13 [], .q 14 [], .q 17 [], .q 18 [], .l 15 [], .c [(18, [])], .q 16 [], .q 19 [], .q 20 [], .q 21 [], .q 22 []] (by kernel_rfl) ?_) ?_)
  · cases hd : dq b with
    | err e' =>
      rw [hd] at b8
      have b8 : e = e' := b8
      subst b8
      have hne := dq_err hd
      iterate 5 refine wpD_pure (o := ⟨_, _, _, _, _, _⟩) rfl (by simp +decide only [go_sem]) (by conv => lhs; simp +decide only [go_sem, g6, g7, hld7, i12, hee]) ?_
      iterate 3 refine wpD_pure (o := ⟨_, _, _, _, _, _⟩) rfl (wanted_yes rfl rfl (by simp +decide only [go_sem, hee, g6, hne])) (by conv => lhs; simp +decide only [go_sem, hee, g6, hne]) ?_
      iterate 3 refine wpD_no (o := ⟨_, _, _, _, _, _⟩) rfl (wanted_not rfl rfl (by simp +decide only [go_sem, hne]; try rfl)) ?_
      refine wpD_lno (o := ⟨_, _, _, _, _, _⟩) rfl (wanted_not rfl rfl (by simp +decide only [go_sem, hne]; try rfl)) ?_
      refine wpD_c0 ?_
      iterate 2 refine wpD_no (o := ⟨_, _, _, _, _, _⟩) rfl (wanted_not rfl rfl (by simp +decide only [go_sem, hne]; try rfl)) ?_
      iterate 3 refine wpD_no (o := ⟨_, _, _, _, _, _⟩) rfl (wanted_und rfl rfl (by simp +decide only [go_sem])) ?_
      refine wpD_lno (o := ⟨_, _, _, _, _, _⟩) rfl (wanted_und rfl rfl (by simp +decide only [go_sem])) ?_
      refine wpD_c (fun x hx => ?_) ?_
      · simp only [List.mem_singleton] at hx
        subst hx
        exact chk_no (o := ⟨_, _, _, _, _, _⟩) rfl (wanted_und rfl rfl (by simp +decide only [go_sem]))
      iterate 2 refine wpD_no (o := ⟨_, _, _, _, _, _⟩) rfl (wanted_und rfl rfl (by simp +decide only [go_sem])) ?_
      refine wpD_no (o := ⟨_, _, _, _, _, _⟩) rfl (wanted_not rfl rfl (by simp +decide only [go_sem, hne]; try rfl)) ?_
      refine wpD_pure (o := ⟨_, _, _, _, _, _⟩) rfl (wanted_yes rfl rfl (by simp +decide only [go_sem, hee, hne])) (by conv => lhs; simp +decide only [go_sem, hee, hne]) ?_
      repeat refine wpD_pure (o := ⟨_, _, _, _, _, _⟩) rfl (by simp +decide only [go_sem]) (by conv => lhs; simp +decide only [go_sem, hee, hne]) ?_
      rw [wpD_nil]
      exact ⟨by simp +decide only [go_sem, g0], by simp +decide only [go_sem, g2], by simp +decide only [go_sem, hne], by show nx < B7 + 1; omega, b3, b4⟩
    | ok q' =>
      rw [hd] at b8
      obtain ⟨rfl, b8, b9⟩ := b8
      obtain ⟨ok', tk'⟩ := dq_ok hb (by omega) hd
      have henc := (dq_inv hb hd).1
      have hnn : decide (encQ q' ≠ b) = false := by rw [henc]; simp
      have hl1 := b8.len
      have hldC1 : loadAt EX h7 29 B5 0 = some (.agg c1) := by rw [b5.load, ll29 (by omega), List.drop_zero, List.take_of_length_le (by omega)]
      have hldC2 : loadAt EX h7 29 B7 0 = some (.agg c2) := by rw [b6.load, ll29 (by rw [List.length_append]; omega), List.drop_zero, List.take_left' b7]
      iterate 5 refine wpD_pure (o := ⟨_, _, _, _, _, _⟩) rfl (by simp +decide only [go_sem]) (by conv => lhs; simp +decide only [go_sem, g6, g7, hld7, i12, hee]) ?_
      iterate 3 refine wpD_pure (o := ⟨_, _, _, _, _, _⟩) rfl (wanted_yes rfl rfl (by simp +decide only [go_sem, hee, g6])) (by conv => lhs; simp +decide only [go_sem, hee, g6]) ?_
      iterate 3 refine wpD_pure (o := ⟨_, _, _, _, _, _⟩) rfl (wanted_yes rfl rfl (by simp +decide only [go_sem, hee, g5, g7, hldC1, hldC2])) (by conv => lhs; simp +decide only [go_sem, hee, g5, g7, hldC1, hldC2]) ?_
      refine wpD_call (o := ⟨_, _, _, _, _, _⟩) rfl (wanted_yes rfl rfl (by simp +decide only [go_sem])) (by conv => lhs; simp +decide only [go_sem]) n7 (refSame b8 b9 (fun i hi => by omega) (fun i hi => by omega) ok' ok' tk' tk') ?_
      intro w ⟨h8, nx8⟩ ⟨r1, r2, r3⟩
      dsimp only at r1 r2 r3
      rw [decide_eq_true rfl] at r3
      subst r3
      have hld8 : loadAt EX h8 29 B5 0 = some (.agg c1) := by rw [(b5.keep (r2 B5 (by omega))).load, ll29 (by omega), List.drop_zero, List.take_of_length_le (by omega)]
      have hk8 : Keep nx h h8 := b3.trans (r2.k (fun i hi => by omega))
      have hv8 : SlB 1 h8 nx v (bys b) := hv.keep hk8
      refine wpD_c0 ?_
      iterate 2 refine wpD_pure (o := ⟨_, _, _, _, _, _⟩) rfl (wanted_yes rfl rfl (by simp +decide only [go_sem])) (by conv => lhs; simp +decide only [go_sem]) ?_
      refine wpD_pure (o := ⟨_, _, _, _, _, _⟩) rfl (wanted_yes rfl rfl (by simp +decide only [go_sem, g5, hld8])) (by conv => lhs; simp +decide only [go_sem, g5, hld8]) ?_
      refine wpD_pure (o := ⟨_, _, _, _, _, _⟩) rfl (wanted_yes rfl rfl (by simp +decide only [go_sem, g1])) (by conv => lhs; simp +decide only [go_sem, g1]) ?_
      refine wpD_pure (o := ⟨_, _, _, _, _, _⟩) rfl (wanted_yes rfl rfl (by simp +decide only [go_sem, conv_bys hv8.toP hb])) (by conv => lhs; simp +decide only [go_sem, conv_bys hv8.toP hb]) ?_
      refine wpD_call (o := ⟨_, _, _, _, _, _⟩) rfl (wanted_yes rfl rfl (by simp +decide only [go_sem])) (by conv => lhs; simp +decide only [go_sem]) n8 (srcEncodeQuery (b8.keep (r2.mono (fun i hi => by omega))) (fun i hi => by omega) ok') ?_
      intro w ⟨h9, nx9⟩ ⟨s1, s2, s3⟩
      dsimp only at s1 s2 s3
      have hk9 : Keep nx h h9 := hk8.trans (s2.k (fun i hi => by omega))
      have hv9 : SlB 1 h9 nx v (bys b) := hv.keep hk9
      refine wpD_c (fun x hx => ?_) ?_
      · simp only [List.mem_singleton] at hx
        subst hx
        refine chk_yes (v := .str b) (d := 41) (o := ⟨_, _, _, _, _, _⟩) rfl rfl (wanted_yes rfl rfl (by simp +decide only [go_sem])) (by conv => lhs; simp +decide only [go_sem, conv_bys hv9.toP hb]) ?_
        simp +decide only [go_sem]
        exact veq_simple rfl
      refine wpD_pure (o := ⟨_, _, _, _, _, _⟩) rfl (wanted_yes rfl rfl (by simp +decide only [go_sem, conv_bys s3 (encQ_byte ok' tk')])) (by conv => lhs; simp +decide only [go_sem, conv_bys s3 (encQ_byte ok' tk')]) ?_
      refine wpD_pure (o := ⟨_, _, _, _, _, _⟩) rfl (wanted_yes rfl rfl (by simp +decide only [go_sem, binStr_ne, hnn])) (by conv => lhs; simp +decide only [go_sem, binStr_ne, hnn]) ?_
      iterate 2 refine wpD_pure (o := ⟨_, _, _, _, _, _⟩) rfl (wanted_yes rfl rfl (by simp +decide only [go_sem, hnn, hee])) (by conv => lhs; simp +decide only [go_sem, hnn, hee]) ?_
      repeat refine wpD_pure (o := ⟨_, _, _, _, _, _⟩) rfl (by simp +decide only [go_sem]) (by conv => lhs; simp +decide only [go_sem, hnn, hee]) ?_
      rw [wpD_nil]
      exact ⟨by simp +decide only [go_sem, g0], by simp +decide only [go_sem, g2], by simp +decide only [go_sem, hnn], by show nx < nx9; omega, hk9, (b4.keep (r2 nx (by omega))).keep (s2 nx (by omega))⟩
  clear g0 g1 g2 g5 g6 g7 b1 b3 b4 b5 b6 b7 b8 hv7 i12 hld7
  intro t d ⟨g0, g2, g45, a1, a2, a3⟩
  obtain ⟨h9, nx9⟩ := d
  dsimp only at a1 a2 a3
  refine wp_cond (x := false) (by simp +decide only [go_sem, g45]) (wp_skip ?_)
  have hld9 : loadAt EX h9 29 nx 0 = some (.agg cq) := by rw [a3.load, ll29 (by omega), List.drop_zero, List.take_of_length_le (by omega)]
  have hq9 := hq.keep (a2.toP (P := P) (fun i hi => hP i hi))
  have hP9 : ∀ i, P i → i < nx9 := fun i hi => by have := hP i hi; omega
  refine wp_seq (wp_region ?_)
  refine wpO_pure (by simp +decide only [go_sem]) (by conv => lhs; simp +decide only [go_sem, g2, hld9]) ?_
  refine wpO_call (by simp +decide only [go_sem]) (by conv => lhs; simp +decide only [go_sem]) n9 (refFewQuery hq9 hP9 hz) ?_
  intro w ⟨h10, nx10⟩ ⟨r1, r2, r3⟩
  dsimp only at r1 r2 r3
  subst r3
  repeat refine wpO_pure (by simp +decide only [go_sem]) (by conv => lhs; simp +decide only [go_sem]) ?_
  rw [wpO_nil]
  have hk10 : Keep nx h h10 := a2.trans (r2.k (fun i hi => by omega))
  have hB10 := a3.keep (r2 nx a1)
  have hq10 := hq.keep (hk10.toP (P := P) (fun i hi => hP i hi))
  have hP10 : ∀ i, P i → i < nx10 := fun i hi => by have := hP i hi; omega
  -- is it small?
  refine wp_seq (wp_seqR (fun t d => getT t 2 = .ptr nx 0 ∧ nx < d.nx ∧ Keep nx h d.h ∧ Bx d.h nx cq ∧ getT t 55 = .bool (decide (¬ (few q.w 20 && decide (q.vec.length ≤ 40)) = true ∨ 64 < tsz q.w))) (wp_region ?_) ?_)
  · obtain ⟨wv, w0, w1, w2, w3, w4, w5, hce, _, hp10⟩ := hq10.cases
    have hldW : loadAt EX h10 25 nx 3 = some (.agg [w0, w1, w2, w3, w4, w5]) := by rw [hB10.load, hce]; exact ll25 (by simp)
    cases hf : (few q.w 20 && decide (q.vec.length ≤ 40)) with
    | false =>
      iterate 3 refine wpO_pure (by simp +decide only [go_sem]) (by conv => lhs; simp +decide only [go_sem]) ?_
      iterate 4 refine wpO_no (wanted_not rfl rfl (by simp +decide only [go_sem]; try rfl)) ?_
      repeat refine wpO_pure (by simp +decide only [go_sem]) (by conv => lhs; simp +decide only [go_sem]) ?_
      rw [wpO_nil]
      exact ⟨by simp +decide only [go_sem, g2], by show nx < nx10; omega, hk10, hB10, by simp +decide only [go_sem]; simp⟩
    | true =>
      iterate 3 refine wpO_pure (by simp +decide only [go_sem]) (by conv => lhs; simp +decide only [go_sem]) ?_
      iterate 2 refine wpO_pure (wanted_yes rfl rfl (by simp +decide only [go_sem, g2, hldW])) (by conv => lhs; simp +decide only [go_sem, g2, hldW]) ?_
      refine wpO_call (wanted_yes rfl rfl (by simp +decide only [go_sem])) (by conv => lhs; simp +decide only [go_sem]) n10 (refSize hp10 hP10 hz) ?_
      intro w ⟨h11, nx11⟩ ⟨s1, s2, s3⟩
      dsimp only at s1 s2 s3
      subst s3
      refine wpO_pure (wanted_yes rfl rfl (by simp +decide only [go_sem])) (by conv => lhs; simp +decide only [go_sem]) ?_
      repeat refine wpO_pure (by simp +decide only [go_sem]) (by conv => lhs; simp +decide only [go_sem]) ?_
      rw [wpO_nil]
      refine ⟨by simp +decide only [go_sem, g2], by show nx < nx11; omega, hk10.trans (s2.k (fun i hi => by omega)), hB10.keep (s2 nx (by omega)), ?_⟩
      simp +decide only [go_sem]
      exact congrArg AVal.bool (decide_eq_decide.2 (by simp; omega))
  clear g0 g2 g45
  intro t d ⟨g2, c1', c2', c3', g55⟩
  obtain ⟨h11, nx11⟩ := d
  dsimp only at c1' c2' c3'
  refine wp_cond (x := decide (¬ (few q.w 20 && decide (q.vec.length ≤ 40)) = true ∨ 64 < tsz q.w)) (by simp +decide only [go_sem, g55]) ?_
  by_cases hA : ¬ (few q.w 20 && decide (q.vec.length ≤ 40)) = true ∨ 64 < tsz q.w
  case pos =>
    rw [decide_eq_true hA]
    refine wp_seq (wp_region ?_)
    refine wpO_spec (by simp +decide only [go_sem]) (by conv => lhs; simp +decide only [go_sem]) n4 (memo4 ((c2' 0 h0).trans hK)) ?_
    repeat refine wpO_pure (by simp +decide only [go_sem]) (by conv => lhs; simp +decide only [go_sem]) ?_
    rw [wpO_nil]
    exact wp_ret rfl ⟨.inr rfl, _, res_one (v := .bool true) (by simp +decide only [go_sem]) rfl, rfl⟩
  case neg =>
  rw [decide_eq_false hA]
  have hvec : q.vec.length ≤ 40 := by
    have : (few q.w 20 && decide (q.vec.length ≤ 40)) = true := by
      rcases Bool.eq_false_or_eq_true (few q.w 20 && decide (q.vec.length ≤ 40)) with h | h
      · exact h
      · exact absurd (Or.inl (by rw [h]; simp)) hA
    rw [Bool.and_eq_true] at this
    simpa using this.2
  have h64 : tsz q.w ≤ 64 := by
    rcases Nat.lt_or_ge 64 (tsz q.w) with h | h
    · exact absurd (Or.inr h) hA
    · exact h
  have ok : QOK q := ⟨hI, by
    have h4 := flat4 (pre q.w)
    rw [pre_len] at h4
    simp only [nums, List.length_append, List.length_cons, List.length_nil]
    omega, hS, by omega⟩
  have hld11 : loadAt EX h11 29 nx 0 = some (.agg cq) := by rw [c3'.load, ll29 (by omega), List.drop_zero, List.take_of_length_le (by omega)]
  have hq11 := hq.keep (c2'.toP (P := P) (fun i hi => hP i hi))
  have hP11 : ∀ i, P i → i < nx11 := fun i hi => by have := hP i hi; omega
  have helen : (encQ q).length < 60000000000 := by
    have hNl := ok.len
    have hTl := szS_count (txts q)
    have := leb_len10 (n := ((nums q).length : Int)) (by omega) (by omega)
    have := encI_len ok.ints
    have := leb_len10 (n := ((txts q).length : Int)) (by omega) (by omega)
    have := encS_len (txts q) (by omega)
    simp only [encQ, encI, encS, List.length_append]; omega
  have hdq := dq_enc ok h64
  refine wp_skip (wp_seq (wp_region ?_))
  refine wpO_pure (by simp +decide only [go_sem]) (by conv => lhs; simp +decide only [go_sem, g2, hld11]) ?_
  refine wpO_call (by simp +decide only [go_sem]) (by conv => lhs; simp +decide only [go_sem]) n8 (srcEncodeQuery hq11 hP11 ok) ?_
  intro ve ⟨h12, nx12⟩ ⟨r1', r2', r3'⟩
  dsimp only at r1' r2' r3'
  repeat refine wpO_pure (by simp +decide only [go_sem]) (by conv => lhs; simp +decide only [go_sem]) ?_
  rw [wpO_nil]
  have hk12 : Keep nx h h12 := c2'.trans (r2'.k (fun i hi => by omega))
  have hB12 := c3'.keep (r2' nx c1')
  refine wp_seq (wp_region ?_)
  refine wpO_pure (by simp +decide only [go_sem]) (by conv => lhs; simp +decide only [go_sem]) ?_
  refine wpO_call (by simp +decide only [go_sem]) (by conv => lhs; simp +decide only [go_sem]) n5 (wireDecodeQuery (lo := nx12) (Nat.le_refl _) (r3'.mono (fun i hi => hi.2)).toB (encQ_byte ok hT) helen) ?_
  intro w ⟨h13, nx13⟩ ⟨s1, s2, s3⟩
  dsimp only at s1 s2 s3
  rw [hdq] at s3
  obtain ⟨c, rfl, s4⟩ := s3
  have hl := s4.len
  repeat refine wpO_pure (by simp +decide only [go_sem]) (by conv => lhs; simp +decide only [go_sem]) ?_
  refine wpO_alloc (by simp +decide only [go_sem]) rfl z29 ?_
  intro h14 hA14 hs14
  refine wpO_storeA (off := 0) (vs := c) (by simp +decide only [go_sem]) rfl hA14 (by simp +decide only [go_sem]) (by simp +decide only [go_sem]) s29 hl (by decide) s4.cells ?_
  intro h15 hA15 hs15
  rw [storeL_all (by rw [hl]; rfl)] at hA15
  repeat refine wpO_pure (by simp +decide only [go_sem]) (by conv => lhs; simp +decide only [go_sem]) ?_
  rw [wpO_nil]
  have k15 : ∀ i, i < nx13 → h15.get i = h13.get i := fun i hi => (hs15 i (by omega)).trans (hs14 i (by omega))
  have k25 : ∀ i, i < nx12 → h15.get i = h12.get i := fun i hi => (k15 i (by omega)).trans (s2 i hi)
  have hk15 : Keep nx h h15 := hk12.trans (fun i hi => k25 i (by omega))
  have hB15 := hB12.keep (k25 nx (by omega))
  have hve15 := r3'.keep (h' := h15) (fun i hi => k25 i hi.2)
  have hq15 := hq.keep (hk15.toP (P := P) (fun i hi => hP i hi))
  have hP15 : ∀ i, P i → i < nx13 + 1 := fun i hi => by have := hP i hi; omega
  have hy15 : Qc h15 (fun i => nx12 ≤ i ∧ i < nx13) q c := s4.keep (fun i hi => k15 i hi.2)
  have hldq15 : loadAt EX h15 29 nx 0 = some (.agg cq) := by rw [hB15.load, ll29 (by omega), List.drop_zero, List.take_of_length_le (by omega)]
  refine wp_seq (wp_drawn [.l 0 [], .c [], .q 1 [], .q 2 [], .q 3 [], .q 4 [], .l 5 [], .c [(3, [])], .q 6 [], .q 7 [], .q 8 [], .q 9 [], .q 10 [], .q 11 [], .q 12 [], .q 13 [], .q 14 [], .q 15 [], .l 16 [], .c [], .q 17 [], .q 18 []] (by kernel_rfl) ?_)
  refine wpD_spec (o := ⟨_, _, _, _, _, _⟩) rfl (by simp +decide only [go_sem]) (by conv => lhs; simp +decide only [go_sem]) n4 (memo4 ((hk15 0 h0).trans hK)) ?_
  refine wpD_c0 ?_
  refine wpD_pure (o := ⟨_, _, _, _, _, _⟩) rfl (by simp +decide only [go_sem]) (by conv => lhs; simp +decide only [go_sem]) ?_
  refine wpD_pure (o := ⟨_, _, _, _, _, _⟩) rfl (wanted_yes rfl rfl (by simp +decide only [go_sem])) (by conv => lhs; simp +decide only [go_sem]) ?_
  refine wpD_pure (o := ⟨_, _, _, _, _, _⟩) rfl (wanted_yes rfl rfl (by simp +decide only [go_sem, conv_bys hve15 (encQ_byte ok hT)])) (by conv => lhs; simp +decide only [go_sem, conv_bys hve15 (encQ_byte ok hT)]) ?_
  refine wpD_pure (o := ⟨_, _, _, _, _, _⟩) rfl (wanted_yes rfl rfl (by simp +decide only [go_sem, g2, hldq15])) (by conv => lhs; simp +decide only [go_sem, g2, hldq15]) ?_
  refine wpD_call (o := ⟨_, _, _, _, _, _⟩) rfl (wanted_yes rfl rfl (by simp +decide only [go_sem])) (by conv => lhs; simp +decide only [go_sem]) n11 (refEncodeQuery hq15 hP15 ok) ?_
  intro vr ⟨h16, nx16⟩ ⟨x1, x2, x3⟩
  dsimp only at x1 x2 x3
  have hve16 := hve15.keep (x2.mono (fun i hi => by omega))
  refine wpD_c (fun x hx => ?_) ?_
  · simp only [List.mem_singleton] at hx
    subst hx
    refine chk_yes (v := .str (encQ q)) (d := 67) (o := ⟨_, _, _, _, _, _⟩) rfl rfl (wanted_yes rfl rfl (by simp +decide only [go_sem])) (by conv => lhs; simp +decide only [go_sem, conv_bys hve16 (encQ_byte ok hT)]) ?_
    simp +decide only [go_sem]
    exact veq_simple rfl
  have heq : decide (encQ q = encQ q) = true := by simp
  have hB16 := hB15.keep (x2 nx (by omega))
  have hldq16 : loadAt EX h16 29 nx 0 = some (.agg cq) := by rw [hB16.load, ll29 (by omega), List.drop_zero, List.take_of_length_le (by omega)]
  have hA16 := hA15.keep (x2 nx13 (by omega))
  have hldy16 : loadAt EX h16 29 nx13 0 = some (.agg c) := by rw [hA16.load, ll29 (by omega), List.drop_zero, List.take_of_length_le (by omega)]
  have hq16 := hq15.keep (x2.mono hP15)
  have hy16 := hy15.keep (x2.mono (fun i hi => by omega))
  refine wpD_pure (o := ⟨_, _, _, _, _, _⟩) rfl (wanted_yes rfl rfl (by simp +decide only [go_sem, conv_bys x3 (encQ_byte ok hT)])) (by conv => lhs; simp +decide only [go_sem, conv_bys x3 (encQ_byte ok hT)]) ?_
  refine wpD_pure (o := ⟨_, _, _, _, _, _⟩) rfl (wanted_yes rfl rfl (by simp +decide only [go_sem, binStr_eq, heq])) (by conv => lhs; simp +decide only [go_sem, binStr_eq, heq]) ?_
  iterate 2 refine wpD_pure (o := ⟨_, _, _, _, _, _⟩) rfl (by simp +decide only [go_sem]) (by conv => lhs; simp +decide only [go_sem, heq]) ?_
  iterate 2 refine wpD_pure (o := ⟨_, _, _, _, _, _⟩) rfl (wanted_yes rfl rfl (by simp +decide only [go_sem, heq])) (by conv => lhs; simp +decide only [go_sem, heq]) ?_
  iterate 2 refine wpD_pure (o := ⟨_, _, _, _, _, _⟩) rfl (by simp +decide only [go_sem]) (by conv => lhs; simp +decide only [go_sem, heq]) ?_
  iterate 2 refine wpD_pure (o := ⟨_, _, _, _, _, _⟩) rfl (wanted_yes rfl rfl (by simp +decide only [go_sem, g2, hldq16, hldy16, heq])) (by conv => lhs; simp +decide only [go_sem, g2, hldq16, hldy16, heq]) ?_
  refine wpD_call (o := ⟨_, _, _, _, _, _⟩) rfl (wanted_yes rfl rfl (by simp +decide only [go_sem, heq])) (by conv => lhs; simp +decide only [go_sem]) n7 (refSame hy16 hq16 (fun i hi => by omega) (fun i hi => by have := hP15 i hi; omega) ok ok hT hT) ?_
  intro w ⟨h17, nx17⟩ ⟨y1, y2, y3⟩
  rw [heq] at y3
  subst y3
  refine wpD_c0 ?_
  repeat refine wpD_pure (o := ⟨_, _, _, _, _, _⟩) rfl (by simp +decide only [go_sem]) (by conv => lhs; simp +decide only [go_sem, heq]) ?_
  rw [wpD_nil]
  exact wp_ret rfl ⟨.inr rfl, _, res_one (v := .bool true) (by simp +decide only [go_sem]) rfl, rfl⟩
end Go.Ev
end
section
open Go Go.Proofs Go.RowKit Go.Proofs.YtedlbliofaomhaaGreatDoor
set_option linter.unusedVariables false
set_option linter.unusedSimpArgs false
set_option maxRecDepth 100000
namespace Go.Ev
/-! ### A world as the machine's memory -/
noncomputable def absV (nx : Nat) : Value → AVal
  | .bool b => .bool b
  | .int k n => .int k n
  | .string s => .str (s.data.toList.map UInt8.toNat)
  | .slice none 0 0 => .nilslice
  | .slice (some a) len cap => if len = 0 then .eslice else if a.spot = none ∧ a.block < nx ∧ len ≤ cap then .slice a.block a.off len (.ex cap) else .bot
  | _ => .bot
theorem absV_slice (nx : Nat) (a : Addr) (len cap : Nat) : absV nx (.slice (some a) len cap) = if len = 0 then .eslice else if a.spot = none ∧ a.block < nx ∧ len ≤ cap then .slice a.block a.off len (.ex cap) else .bot := rfl
theorem absV_rel {nx : Nat} {φ : Phi} (hφ : ∀ i, i < nx → ∃ p, φ i = some p ∧ p.block = i ∧ p.base = 0) (v : Value) : VRel φ (absV nx v) v := by
  unfold absV
  split
  · exact .bool _
  · exact .int _ _
  · rename_i s
    have e : (⟨((s.data.toList.map UInt8.toNat).map UInt8.ofNat).toArray⟩ : ByteArray) = s := by
      rw [List.map_map, show (UInt8.ofNat ∘ UInt8.toNat) = id from by funext x; simp, List.map_id]
    have h := VRel.str (φ := φ) (s.data.toList.map UInt8.toNat) (fun b hb => by
      obtain ⟨x, _, rfl⟩ := List.mem_map.1 hb
      exact x.toNat_lt)
    rwa [e] at h
  · exact .nilslice
  · rename_i a len cap
    by_cases h0 : len = 0
    · rw [if_pos h0]; subst h0; exact .eslice a cap
    · rw [if_neg h0]
      by_cases h1 : a.spot = none ∧ a.block < nx ∧ len ≤ cap
      · rw [if_pos h1]
        obtain ⟨p, hp, hb, h2⟩ := hφ a.block h1.2.1
        have := VRel.sliceE (φ := φ) a.block a.off len cap p hp h1.2.2
        rw [hb, h2, Nat.zero_add] at this
        obtain ⟨b, o, sp⟩ := a
        have h3 : sp = none := h1.1
        subst h3
        exact this
      · rw [if_neg h1]; exact .bot _
  · exact .bot _
noncomputable def absO (nx : Nat) : Obj → Option AObj
  | .cells c _ _ => some (.cells true c.size (BT.ofList (c.toList.map (absV nx))))
  | _ => none
noncomputable def absH (nx : Nat) : List Obj → Nat → Heap
  | [], _ => .nil
  | o :: r, i => (absH nx r (i + 1)).put i (absO nx o)
theorem absH_get (nx : Nat) : ∀ (l : List Obj) (k j : Nat), (absH nx l k).get j = if k ≤ j then (l[j - k]?).bind (absO nx) else none
  | [], k, j => by
    show BT.get .nil j = _
    rw [BT.get_nil]
    split <;> simp
  | o :: r, k, j => by
    show ((absH nx r (k + 1)).put k (absO nx o)).get j = _
    rw [BT.get_put, absH_get nx r (k + 1) j]
    by_cases h : j = k
    · subst h
      rw [if_pos rfl, if_pos (Nat.le_refl _), Nat.sub_self]; rfl
    · rw [if_neg h]
      by_cases h2 : k ≤ j
      · rw [if_pos h2, if_pos (by omega), show j - k = (j - (k + 1)) + 1 by omega]; rfl
      · rw [if_neg h2, if_neg (by omega)]
noncomputable def wH (W : World) : Heap := absH (W.heap.size + 2) W.heap.toList 0
def wSize (W : World) (i : Nat) : Nat := match W.heap[i]? with
  | some (.cells c _ _) => c.size
  | _ => 0
noncomputable def wφ (W : World) : Phi := fun i => if i < W.heap.size + 2 then some ⟨i, 0, wSize W i, wSize W i⟩ else none
theorem wH_get (W : World) (i : Nat) : (wH W).get i = (W.heap[i]?).bind (absO (W.heap.size + 2)) := by
  unfold wH
  rw [absH_get, if_pos (Nat.zero_le _), Nat.sub_zero, Array.getElem?_toList]
theorem wφ_some (W : World) : ∀ i, i < W.heap.size + 2 → ∃ p, wφ W i = some p ∧ p.block = i ∧ p.base = 0 := fun i hi => ⟨_, if_pos hi, rfl, rfl⟩
theorem wRep (W : World) : Rep W (wφ W) (wH W) (W.heap.size + 2) W := by
  have hφ : ∀ i p, wφ W i = some p → i < W.heap.size + 2 ∧ p = ⟨i, 0, wSize W i, wSize W i⟩ := fun i p h => by
    unfold wφ at h
    split at h
    · rename_i hi; exact ⟨hi, (Option.some.inj h).symm⟩
    · cases h
  refine ⟨Below.refl _ _, fun i o p ho hp => ?_, fun i j oi oj pi pj _ _ hpi hpj hb => ?_, fun i o p ho hp hro => ?_, fun i p hp => (hφ i p hp).1, fun i o ho => ?_⟩
  · obtain ⟨hi, rfl⟩ := hφ i p hp
    rw [wH_get] at ho
    obtain ⟨ob, h1, h2⟩ := Option.bind_eq_some_iff.1 ho
    refine ⟨ob, h1, ?_⟩
    cases ob with
    | cells c t fz =>
      cases h2
      have hs : wSize W i = c.size := by unfold wSize; rw [h1]
      refine .cells true _ _ c t fz ⟨hs.symm, hs, by rw [hs]; simp, fun k v hk hv => ?_⟩ (fun e => by cases e)
      rw [BT.get_ofList, List.getElem?_map, Array.getElem?_toList] at hv
      obtain ⟨x, hx, rfl⟩ := Option.map_eq_some_iff.1 hv
      exact ⟨x, by simpa using hx, absV_rel (wφ_some W) x⟩
    | _ => cases h2
  · rw [(hφ i pi hpi).2, (hφ j pj hpj).2] at hb
    exact hb
  · rw [wH_get] at ho
    obtain ⟨ob, h1, h2⟩ := Option.bind_eq_some_iff.1 ho
    cases ob with
    | cells c t fz => cases h2; cases hro
    | _ => cases h2
  · rw [wH_get] at ho
    obtain ⟨ob, h1, h2⟩ := Option.bind_eq_some_iff.1 ho
    have : i < W.heap.size := (Array.getElem?_eq_some_iff.1 h1).1
    omega
theorem wGlob (W : World) : GlobOK 2 (wφ W) := fun g hg => by
  refine ⟨_, if_pos (by omega), rfl, rfl⟩

/-! ### What the arguments' readings say -/
section
variable {H : Type} {enc : TypeId × Value → H} {W : World} {n : Nat}
theorem chunk_of {P : Program} {e sz : Nat} {a : Addr} {len : Nat} {elems : List (DataW H × List MemPlace)} (hsz : 0 < sz) (hc : P.cellsOf e = sz) (hl : elems.length = len) (hlen : 0 < len)
    (hel : ∀ i, i < len → (W.cells? 0 (a.add (i * P.cellsOf e)) (P.cellsOf e)).bind (DataW.trod enc P W 0 (fun _ => true) true n e) = elems[i]?) :
    ∃ C t fz, W.heap[a.block]? = some (.cells C t fz) ∧ a.spot = none ∧ a.off + len * sz ≤ C.size ∧ ∀ i, i < len → DataW.trod enc P W 0 (fun _ => true) true n e ((C.toList.drop (a.off + i * sz)).take sz) = elems[i]? := by
  rw [hc] at hel
  have hcell : ∀ i, i < len → ∃ cs, W.cells? 0 (a.add (i * sz)) sz = some cs ∧ DataW.trod enc P W 0 (fun _ => true) true n e cs = elems[i]? := fun i hi => by
    have h := hel i hi
    rw [List.getElem?_eq_getElem (by omega)] at h ⊢
    obtain ⟨cs, h1, h2⟩ := Option.bind_eq_some_iff.1 h
    exact ⟨cs, h1, h2⟩
  -- the first cell
  obtain ⟨cs0, h1, _⟩ := hcell 0 hlen
  obtain ⟨_, hl0, hr0⟩ := World.cells?_some h1
  have hfirst := hr0 0 hsz
  rw [List.getElem?_eq_getElem (by omega), Nat.zero_mul, show (a.add 0).add 0 = a from rfl] at hfirst
  have hob : ∃ C t fz, W.heap[a.block]? = some (.cells C t fz) ∧ a.spot = none := by
    unfold World.cell? at hfirst
    split at hfirst
    · rename_i c t fz hw
      split at hfirst
      · cases hfirst
      · rename_i hsp
        refine ⟨c, t, fz, hw, ?_⟩
        cases h : a.spot with
        | none => rfl
        | some x => rw [h] at hsp; exact absurd rfl hsp
    · cases hfirst
  obtain ⟨C, t, fz, hW, hsp⟩ := hob
  have hread : ∀ j, W.cell? (a.add j) = C[a.off + j]? := fun j => by
    unfold Addr.add
    by_cases hj : j = 0
    · subst hj
      rw [if_pos rfl]
      unfold World.cell?
      rw [hW, hsp]; rfl
    · rw [if_neg hj]
      unfold World.cell?
      dsimp only
      rw [hW]; rfl
  have hadd : ∀ i j, (a.add i).add j = a.add (i + j) := fun i j => by
    unfold Addr.add
    by_cases hi : i = 0 <;> by_cases hj : j = 0 <;> simp [hi, hj, Nat.add_assoc]
  have hchunk : ∀ i, i < len → a.off + i * sz + sz ≤ C.size ∧ DataW.trod enc P W 0 (fun _ => true) true n e ((C.toList.drop (a.off + i * sz)).take sz) = elems[i]? := fun i hi => by
    obtain ⟨cs, g1, g2⟩ := hcell i hi
    obtain ⟨_, gl, gr⟩ := World.cells?_some g1
    have hrd : ∀ j, j < sz → C[a.off + i * sz + j]? = cs[j]? := fun j hj => by
      have := gr j hj
      rw [hadd, hread] at this
      rw [← this, Nat.add_assoc]
    have hlast := hrd (sz - 1) (by omega)
    rw [List.getElem?_eq_getElem (by omega)] at hlast
    have hlt := (Array.getElem?_eq_some_iff.1 hlast).1
    refine ⟨by omega, ?_⟩
    have : (C.toList.drop (a.off + i * sz)).take sz = cs := by
      apply List.ext_getElem?
      intro j
      rw [List.getElem?_take]
      by_cases hj : j < sz
      · rw [if_pos hj, List.getElem?_drop, Array.getElem?_toList]
        exact hrd j hj
      · rw [if_neg hj, List.getElem?_eq_none (by omega)]
    rw [this]; exact g2
  refine ⟨C, t, fz, hW, hsp, ?_, fun i hi => (hchunk i hi).2⟩
  have := (hchunk (len - 1) (by omega)).1
  have e1 : (len - 1) * sz + sz = len * sz := by
    have : (len - 1 + 1) * sz = len * sz := by rw [show len - 1 + 1 = len by omega]
    rw [Nat.add_mul, Nat.one_mul] at this; exact this
  omega
/-- A slice that is read: its cells, and what its elements read as. -/
theorem slice_of {P : Program} {ty e sz : Nat} {cs : List Value} {x : DataW H × List MemPlace} (ht : P.underlying ty = some (.slice e)) (hsz : 0 < sz) (hc : P.cellsOf e = sz)
    (h : DataW.trod enc P W 0 (fun _ => true) true (n + 1) ty cs = some x) :
    ∃ (v : Value) (Cl : List Value) (elems : List (DataW H × List MemPlace)), cs = [v] ∧ Cl.length = elems.length * sz ∧ (∀ i, i < elems.length → DataW.trod enc P W 0 (fun _ => true) true n e ((Cl.drop (i * sz)).take sz) = elems[i]?) ∧ SlP sz (wH W) (fun i => i < W.heap.size + 2) (absV (W.heap.size + 2) v) (Cl.map (absV (W.heap.size + 2))) ∧
      Rows.uptoBulkAll (elems.map (·.1)) + 1 ≤ Rows.uptoBulk x.1 := by
  rcases DataW.trod_slice ht h with ⟨rfl, rfl⟩ | ⟨a, len, cap, elems, rest, m, hm, rfl, rfl, hb, hl, hmx, hlen, hel, _, _⟩
  · refine ⟨_, [], [], rfl, by simp, fun i hi => absurd hi (Nat.not_lt_zero i), ⟨.nil, fun id off len cap e => by cases e⟩, ?_⟩
    simp [Rows.uptoBulkAll, Rows.uptoBulk]
  · have hmn : m = n := by omega
    subst hmn
    have hbulk : Rows.uptoBulkAll (elems.map (·.1)) + 1 ≤ Rows.uptoBulk (.slice (elems.map (·.1)) (rest.map (·.1)) : DataW H) := by
      simp only [Rows.uptoBulk]; omega
    by_cases h0 : len = 0
    · subst h0
      have : elems = [] := List.eq_nil_of_length_eq_zero hlen
      subst this
      refine ⟨_, [], [], rfl, by simp, fun i hi => absurd hi (Nat.not_lt_zero i), ⟨?_, fun id off len' cap' e => ?_⟩, hbulk⟩
      · rw [absV_slice, if_pos rfl]; exact .em
      · rw [absV_slice, if_pos rfl] at e; cases e
    · obtain ⟨C, t, fz, hW, hsp, hbound, hch⟩ := chunk_of (W := W) (n := m) hsz hc hlen (by omega) hel
      have hblk : a.block < W.heap.size := (Array.getElem?_eq_some_iff.1 hW).1
      have hCl : ((C.toList.drop a.off).take (len * sz)).length = len * sz := by rw [List.length_take, List.length_drop, Array.length_toList]; omega
      refine ⟨_, (C.toList.drop a.off).take (len * sz), elems, rfl, by rw [hCl, hlen], fun i hi => ?_, ?_, hbulk⟩
      · rw [hlen] at hi
        have := hch i hi
        rw [← this]
        congr 1
        have h1 : i * sz + sz ≤ len * sz := by
          have := Nat.mul_le_mul_right sz hi
          rw [Nat.succ_eq_add_one, Nat.add_mul, Nat.one_mul] at this; exact this
        rw [List.drop_take, List.take_take, List.drop_drop, Nat.min_eq_left (by omega)]
      · have hv : absV (W.heap.size + 2) (.slice (some a) len cap) = .slice a.block a.off len (.ex cap) := by
          rw [absV_slice, if_neg h0, if_pos ⟨hsp, by omega, hl⟩]
        rw [hv]
        refine ⟨.mk a.block a.off len (.ex cap) true C.size (BT.ofList (C.toList.map (absV (W.heap.size + 2)))) _ (by rw [List.length_map, hCl]) hl (by rw [wH_get, hW]; rfl) hbound (fun i hi => ?_), fun id off len' cap' e => by cases e; omega⟩
        rw [List.length_map, hCl] at hi
        rw [BT.get_ofList, List.getElem?_map]
        rw [List.getElem_map, List.getElem_take, List.getElem_drop, List.getElem?_eq_getElem (by rw [Array.length_toList]; omega)]; rfl
end
theorem i64_of {n : Int} (h : (Lit.int .i64 n).wf = true) : I64 n := by
  simp only [Lit.wf, Bool.and_eq_true, decide_eq_true_eq] at h
  obtain ⟨h1, h2⟩ := h
  have e1 : IntKind.i64.min = -9223372036854775808 := rfl
  have e2 : IntKind.i64.max = 9223372036854775807 := rfl
  rw [e1] at h1
  rw [e2] at h2
  exact ⟨h1, by omega⟩
theorem u8_of {n : Int} (h : (Lit.int .u8 n).wf = true) : 0 ≤ n ∧ n < 256 := by
  simp only [Lit.wf, Bool.and_eq_true, decide_eq_true_eq] at h
  obtain ⟨h1, h2⟩ := h
  have e1 : IntKind.u8.min = 0 := rfl
  have e2 : IntKind.u8.max = 255 := rfl
  rw [e1] at h1
  rw [e2] at h2
  exact ⟨h1, by omega⟩
theorem bulkAll_len {H : Type} : ∀ l : List (DataW H), l.length ≤ Rows.uptoBulkAll l
  | [] => Nat.zero_le _
  | d :: l => by
    have := bulkAll_len l
    have h1 : 1 ≤ Rows.uptoBulk d := by
      cases d with
      | lit l => cases l <;> simp [Rows.uptoBulk]
      | _ => simp [Rows.uptoBulk]
    simp only [Rows.uptoBulkAll, List.length_cons]; omega
end Go.Ev
end
section
open Go Go.Proofs Go.RowKit Go.Proofs.YtedlbliofaomhaaGreatDoor
set_option linter.unusedVariables false
set_option linter.unusedSimpArgs false
set_option maxRecDepth 100000
namespace Go.Ev
theorem cl3 : Tryz.prog.cellsOf 3 = 1 := by kernel_rfl
theorem cl5 : Tryz.prog.cellsOf 5 = 1 := by kernel_rfl
theorem cl9 : Tryz.prog.cellsOf 9 = 1 := by kernel_rfl
theorem cl22 : Tryz.prog.cellsOf 22 = 1 := by kernel_rfl
theorem cl23 : Tryz.prog.cellsOf 23 = 1 := by kernel_rfl
theorem cl25 : Tryz.prog.cellsOf 25 = 6 := by kernel_rfl
theorem cl27 : Tryz.prog.cellsOf 27 = 2 := by kernel_rfl
theorem cl29 : Tryz.prog.cellsOf 29 = 12 := by kernel_rfl
theorem list_of {α β : Type} (f : α → β) (p : α → Prop) : ∀ l : List β, (∀ v ∈ l, ∃ a, v = f a ∧ p a) → ∃ N : List α, l = N.map f ∧ ∀ a ∈ N, p a
  | [], _ => ⟨[], rfl, fun a h => by cases h⟩
  | v :: l, h => by
    obtain ⟨a, ha, hp⟩ := h v List.mem_cons_self
    obtain ⟨N, h1, h2⟩ := list_of f p l (fun w hw => h w (List.mem_cons_of_mem _ hw))
    refine ⟨a :: N, by rw [ha, h1]; rfl, fun b hb => ?_⟩
    rcases List.mem_cons.1 hb with rfl | hb
    · exact hp
    · exact h2 b hb
section
variable {H : Type} {enc : TypeId × Value → H} {W : World} {n : Nat}
abbrev PW (W : World) : Nat → Prop := fun i => i < W.heap.size + 2
noncomputable abbrev aW (W : World) : Value → AVal := absV (W.heap.size + 2)
theorem ones {e : TypeId} {Cl : List Value} {elems : List (DataW H × List MemPlace)} {q : Value → Prop} (hl : Cl.length = elems.length * 1) (hel : ∀ i, i < elems.length → DataW.trod enc Tryz.prog W 0 (fun _ => true) true n e ((Cl.drop (i * 1)).take 1) = elems[i]?)
    (hq : ∀ v x, DataW.trod enc Tryz.prog W 0 (fun _ => true) true n e [v] = some x → q v) : ∀ v ∈ Cl, q v := by
  intro v hv
  obtain ⟨i, hi, rfl⟩ := List.getElem_of_mem hv
  have hi' : i < elems.length := by omega
  have h := hel i hi'
  rw [Nat.mul_one, List.getElem?_eq_getElem hi', List.drop_eq_getElem_cons hi, List.take_succ_cons, List.take_zero] at h
  exact hq _ _ h
theorem bulk_map {elems : List (DataW H × List MemPlace)} : elems.length ≤ Rows.uptoBulkAll (elems.map (·.1)) := by
  have := bulkAll_len (elems.map (·.1))
  rwa [List.length_map] at this
theorem read_ints {cs : List Value} {x : DataW H × List MemPlace} (h : DataW.trod enc Tryz.prog W 0 (fun _ => true) true (n + 1) 22 cs = some x) :
    ∃ (v : Value) (N : List Int), cs = [v] ∧ SlP 1 (wH W) (PW W) (aW W v) (N.map intV) ∧ (∀ m ∈ N, I64 m) ∧ N.length + 1 ≤ Rows.uptoBulk x.1 := by
  obtain ⟨v, Cl, elems, rfl, h1, h2, h3, h4⟩ := slice_of Tryz.underlying22 (by decide) cl3 h
  have h5 := ones (q := fun v => ∃ m, v = .int .i64 m ∧ I64 m) h1 h2 (fun v x hx => by
    obtain ⟨m, hm, _, hw⟩ := DataW.trod_int Tryz.underlying3 hx
    exact ⟨m, by simpa using hm, i64_of hw⟩)
  obtain ⟨N, rfl, hN⟩ := list_of _ _ _ h5
  rw [List.map_map] at h3
  refine ⟨v, N, rfl, h3, hN, ?_⟩
  rw [List.length_map] at h1
  have := bulk_map (elems := elems)
  omega
theorem read_bytes {cs : List Value} {x : DataW H × List MemPlace} (h : DataW.trod enc Tryz.prog W 0 (fun _ => true) true (n + 1) 30 cs = some x) :
    ∃ (v : Value) (b : List Nat), cs = [v] ∧ SlP 1 (wH W) (PW W) (aW W v) (bys b) ∧ (∀ m ∈ b, m < 256) ∧ b.length + 1 ≤ Rows.uptoBulk x.1 := by
  obtain ⟨v, Cl, elems, rfl, h1, h2, h3, h4⟩ := slice_of Tryz.underlying30 (by decide) cl5 h
  have h5 := ones (q := fun v => ∃ m : Nat, v = .int .u8 (m : Int) ∧ m < 256) h1 h2 (fun v x hx => by
    obtain ⟨m, hm, _, hw⟩ := DataW.trod_int Tryz.underlying5 hx
    obtain ⟨w1, w2⟩ := u8_of hw
    obtain ⟨k, rfl⟩ := Int.eq_ofNat_of_zero_le w1
    exact ⟨k, by simpa using hm, by omega⟩)
  obtain ⟨N, rfl, hN⟩ := list_of _ _ _ h5
  rw [List.map_map] at h3
  refine ⟨v, N, rfl, h3, hN, ?_⟩
  rw [List.length_map] at h1
  have := bulk_map (elems := elems)
  omega
/-- What is known of a part. -/
def okT (p : Tr) : Prop := (∀ m ∈ pnum p, I64 m) ∧ ∀ s ∈ ptxt p, ∀ c ∈ s, c < 256
theorem szS_app : ∀ a b : List (List Nat), szS (a ++ b) = szS a + szS b
  | [], b => by simp [szS]
  | s :: a, b => by rw [List.cons_append, szS, szS, szS_app a b]; omega
/-- What the reading of a condition says. -/
def TrOK (enc : TypeId × Value → H) (W : World) (n : Nat) : Prop := ∀ (cs : List Value) (x : DataW H × List MemPlace), DataW.trod enc Tryz.prog W 0 (fun _ => true) true n 25 cs = some x → Rows.uptoBulk x.1 ≤ 1048576 →
  ∃ t, Pc (wH W) (PW W) t (cs.map (aW W)) ∧ (∀ p ∈ pre t, okT p) ∧ tsz t ≤ Rows.uptoBulk x.1 ∧ szS ((pre t).flatMap ptxt) ≤ 11 * Rows.uptoBulk x.1
theorem trees_of (ih : TrOK enc W n) : ∀ (elems : List (DataW H × List MemPlace)) (Cl : List Value), Cl.length = elems.length * 6 → (∀ i, i < elems.length → DataW.trod enc Tryz.prog W 0 (fun _ => true) true n 25 ((Cl.drop (i * 6)).take 6) = elems[i]?) → Rows.uptoBulkAll (elems.map (·.1)) ≤ 1048576 →
    ∃ ts, PcL (wH W) (PW W) ts (Cl.map (aW W)) ∧ (∀ p ∈ preL ts, okT p) ∧ tszL ts ≤ Rows.uptoBulkAll (elems.map (·.1)) ∧ szS ((preL ts).flatMap ptxt) ≤ 11 * Rows.uptoBulkAll (elems.map (·.1))
  | [], Cl, hl, hel, hb => by
    have : Cl = [] := List.eq_nil_of_length_eq_zero (by simpa using hl)
    subst this
    exact ⟨[], by rw [PcL]; rfl, fun p hp => by simp [preL] at hp, by simp [tszL], by simp [preL, szS]⟩
  | e :: elems, Cl, hl, hel, hb => by
    simp only [List.length_cons] at hl
    simp only [List.map_cons, Rows.uptoBulkAll] at hb
    have h0 := hel 0 (by simp)
    rw [Nat.zero_mul, List.drop_zero] at h0
    obtain ⟨t, a1, a2, a3, a4⟩ := ih (Cl.take 6) e h0 (by omega)
    obtain ⟨ts, c1, c2, c3, c4⟩ := trees_of ih elems (Cl.drop 6) (by rw [List.length_drop]; omega) (fun i hi => by
      have := hel (i + 1) (by simpa using hi)
      rw [List.drop_drop, show 6 + i * 6 = (i + 1) * 6 by omega]
      simpa using this) (by omega)
    refine ⟨t :: ts, ?_, fun p hp => ?_, ?_, ?_⟩
    · rw [PcL]
      exact ⟨_, _, by rw [← List.map_append, List.take_append_drop], a1, c1⟩
    · rw [preL] at hp
      rcases List.mem_append.1 hp with hp | hp
      · exact a2 p hp
      · exact c2 p hp
    · rw [tszL]; simp only [List.map_cons, Rows.uptoBulkAll]; omega
    · rw [preL, List.flatMap_append, szS_app]; simp only [List.map_cons, Rows.uptoBulkAll]; omega
theorem six {α : Type} {l : List α} (h : l.length = 6) : ∃ a b c d e f, l = [a, b, c, d, e, f] := by
  match l, h with
  | [a, b, c, d, e, f], _ => exact ⟨a, b, c, d, e, f, rfl⟩
theorem byte_list (s : ByteArray) : ∀ c ∈ s.data.toList.map UInt8.toNat, c < 256 := by
  intro c hc
  obtain ⟨x, _, rfl⟩ := List.mem_map.1 hc
  exact x.toNat_lt
theorem trOK (enc : TypeId × Value → H) (W : World) : ∀ n, TrOK enc W n := by
  intro n
  induction n using Nat.strongRecOn with
  | _ n ih =>
  intro cs x h hb
  obtain ⟨xs, m, rfl, hx, hl, hxl, hf⟩ := DataW.trod_struct Tryz.underlying25 h
  rw [cl25] at hl
  obtain ⟨v0, v1, v2, v3, v4, v5, rfl⟩ := six hl
  obtain ⟨y0, y1, y2, y3, y4, y5, rfl⟩ := six (show xs.length = 6 from hxl)
  have f0 : DataW.trod enc Tryz.prog W 0 (fun _ => true) true m 3 [v0] = some y0 := by have := hf 0 ⟨_, _, _, _, _, _, _⟩ rfl; dsimp only at this; rw [cl3] at this; exact this
  have f1 : DataW.trod enc Tryz.prog W 0 (fun _ => true) true m 9 [v1] = some y1 := by have := hf 1 ⟨_, _, _, _, _, _, _⟩ rfl; dsimp only at this; rw [cl9] at this; exact this
  have f2 : DataW.trod enc Tryz.prog W 0 (fun _ => true) true m 3 [v2] = some y2 := by have := hf 2 ⟨_, _, _, _, _, _, _⟩ rfl; dsimp only at this; rw [cl3] at this; exact this
  have f3 : DataW.trod enc Tryz.prog W 0 (fun _ => true) true m 3 [v3] = some y3 := by have := hf 3 ⟨_, _, _, _, _, _, _⟩ rfl; dsimp only at this; rw [cl3] at this; exact this
  have f4 : DataW.trod enc Tryz.prog W 0 (fun _ => true) true m 9 [v4] = some y4 := by have := hf 4 ⟨_, _, _, _, _, _, _⟩ rfl; dsimp only at this; rw [cl9] at this; exact this
  have f5 : DataW.trod enc Tryz.prog W 0 (fun _ => true) true m 23 [v5] = some y5 := by have := hf 5 ⟨_, _, _, _, _, _, _⟩ rfl; dsimp only at this; rw [cl23] at this; exact this
  obtain ⟨op, e0, r0, w0⟩ := DataW.trod_int Tryz.underlying3 f0
  obtain ⟨nm, e1, r1, _⟩ := DataW.trod_string Tryz.underlying9 f1
  obtain ⟨nn, e2, r2, w2⟩ := DataW.trod_int Tryz.underlying3 f2
  obtain ⟨mm, e3, r3, w3⟩ := DataW.trod_int Tryz.underlying3 f3
  obtain ⟨s, e4, r4, _⟩ := DataW.trod_string Tryz.underlying9 f4
  simp only [List.cons.injEq, and_true] at e0 e1 e2 e3 e4
  subst e0 e1 e2 e3 e4
  cases m with
  | zero => cases f5
  | succ m =>
  obtain ⟨v, Cl, elems, e5, h1, h2, h3, h4⟩ := slice_of Tryz.underlying23 (by decide) cl25 f5
  simp only [List.cons.injEq, and_true] at e5
  subst e5
  subst hx
  have hbulk : Rows.uptoBulk (DataW.agg ([y0, y1, y2, y3, y4, y5].map (·.1))) = Rows.uptoBulk y0.1 + (Rows.uptoBulk y1.1 + (Rows.uptoBulk y2.1 + (Rows.uptoBulk y3.1 + (Rows.uptoBulk y4.1 + (Rows.uptoBulk y5.1 + 0))))) + 1 := rfl
  dsimp only at hb
  rw [hbulk] at hb
  have b0 : Rows.uptoBulk y0.1 = 1 := by rw [r0]; rfl
  have b1 : Rows.uptoBulk y1.1 = nm.data.toList.length + 1 := by rw [r1]; rfl
  have b2 : Rows.uptoBulk y2.1 = 1 := by rw [r2]; rfl
  have b3 : Rows.uptoBulk y3.1 = 1 := by rw [r3]; rfl
  have b4 : Rows.uptoBulk y4.1 = s.data.toList.length + 1 := by rw [r4]; rfl
  obtain ⟨ts, t1, t2, t3, t4⟩ := trees_of (ih m (by omega)) elems Cl h1 h2 (by omega)
  have htl := tszL_len ts
  refine ⟨.mk op (nm.data.toList.map UInt8.toNat) nn mm (s.data.toList.map UInt8.toNat) ts, ?_, fun p hp => ?_, ?_, ?_⟩
  · rw [Pc]
    exact ⟨_, _, rfl, h3, t1⟩
  · rw [pre] at hp
    rcases List.mem_cons.1 hp with rfl | hp
    · refine ⟨fun k hk => ?_, fun k hk => ?_⟩
      · simp only [pnum, List.mem_cons, List.not_mem_nil, or_false] at hk
        rcases hk with rfl | rfl | rfl | rfl
        · exact i64_of w0
        · exact i64_of w2
        · exact i64_of w3
        · exact ⟨by omega, by omega⟩
      · simp only [ptxt, List.mem_cons, List.not_mem_nil, or_false] at hk
        rcases hk with rfl | rfl
        · exact byte_list nm
        · exact byte_list s
    · exact t2 p hp
  · show _ ≤ Rows.uptoBulk (DataW.agg ([y0, y1, y2, y3, y4, y5].map (·.1)))
    rw [hbulk, tsz]; omega
  · show _ ≤ 11 * Rows.uptoBulk (DataW.agg ([y0, y1, y2, y3, y4, y5].map (·.1)))
    rw [hbulk, pre, List.flatMap_cons, szS_app, ptxt]
    simp only [szS, List.length_map]
    omega
/-- What the reading of a query says. -/
theorem read_query {cs : List Value} {x : DataW H × List MemPlace} (h : DataW.trod enc Tryz.prog W 0 (fun _ => true) true n 29 cs = some x) (hb : Rows.uptoBulk x.1 ≤ 1048576) :
    ∃ q, Qc (wH W) (PW W) q (cs.map (aW W)) ∧ (∀ m ∈ nums q, I64 m) ∧ TOK q ∧ szS (txts q) ≤ 11 * 1048576 ∧ tsz q.w ≤ 1048576 := by
  obtain ⟨xs, m, rfl, hx, hl, hxl, hf⟩ := DataW.trod_struct Tryz.underlying29 h
  rw [cl29] at hl
  obtain ⟨v0, v1, v2, v3, v4, v5, v6, v7, v8, v9, v10, v11, rfl⟩ : ∃ a0 a1 a2 a3 a4 a5 a6 a7 a8 a9 a10 a11, cs = [a0, a1, a2, a3, a4, a5, a6, a7, a8, a9, a10, a11] := by
    match cs, hl with
    | [a0, a1, a2, a3, a4, a5, a6, a7, a8, a9, a10, a11], _ => exact ⟨a0, a1, a2, a3, a4, a5, a6, a7, a8, a9, a10, a11, rfl⟩
  obtain ⟨y0, y1, y2, y3, y4, y5, rfl⟩ := six (show xs.length = 6 from hxl)
  have f0 : DataW.trod enc Tryz.prog W 0 (fun _ => true) true m 22 [v0] = some y0 := by have := hf 0 ⟨_, _, _, _, _, _, _⟩ rfl; dsimp only at this; rw [cl22] at this; exact this
  have f1 : DataW.trod enc Tryz.prog W 0 (fun _ => true) true m 3 [v1] = some y1 := by have := hf 1 ⟨_, _, _, _, _, _, _⟩ rfl; dsimp only at this; rw [cl3] at this; exact this
  have f2 : DataW.trod enc Tryz.prog W 0 (fun _ => true) true m 3 [v2] = some y2 := by have := hf 2 ⟨_, _, _, _, _, _, _⟩ rfl; dsimp only at this; rw [cl3] at this; exact this
  have f3 : DataW.trod enc Tryz.prog W 0 (fun _ => true) true m 25 [v3, v4, v5, v6, v7, v8] = some y3 := by have := hf 3 ⟨_, _, _, _, _, _, _⟩ rfl; dsimp only at this; rw [cl25] at this; exact this
  have f4 : DataW.trod enc Tryz.prog W 0 (fun _ => true) true m 27 [v9, v10] = some y4 := by have := hf 4 ⟨_, _, _, _, _, _, _⟩ rfl; dsimp only at this; rw [cl27] at this; exact this
  have f5 : DataW.trod enc Tryz.prog W 0 (fun _ => true) true m 3 [v11] = some y5 := by have := hf 5 ⟨_, _, _, _, _, _, _⟩ rfl; dsimp only at this; rw [cl3] at this; exact this
  subst hx
  have hbulk : Rows.uptoBulk (DataW.agg ([y0, y1, y2, y3, y4, y5].map (·.1))) = Rows.uptoBulk y0.1 + (Rows.uptoBulk y1.1 + (Rows.uptoBulk y2.1 + (Rows.uptoBulk y3.1 + (Rows.uptoBulk y4.1 + (Rows.uptoBulk y5.1 + 0))))) + 1 := rfl
  dsimp only at hb
  rw [hbulk] at hb
  cases m with
  | zero => cases f0
  | succ m =>
  obtain ⟨vv, N, e0, n1, n2, n3⟩ := read_ints f0
  obtain ⟨k, e1, _, w1⟩ := DataW.trod_int Tryz.underlying3 f1
  obtain ⟨wi, e2, _, w2⟩ := DataW.trod_int Tryz.underlying3 f2
  obtain ⟨t, t1, t2, t3, t4⟩ := trOK enc W _ _ _ f3 (by omega)
  obtain ⟨bu, e5, _, w5⟩ := DataW.trod_int Tryz.underlying3 f5
  obtain ⟨zs, m', hm', _, _, hzl, hz⟩ := DataW.trod_struct Tryz.underlying27 f4
  obtain ⟨z0, z1, rfl⟩ : ∃ a b, zs = [a, b] := by
    match zs, (show zs.length = 2 from hzl) with
    | [a, b], _ => exact ⟨a, b, rfl⟩
  have g0 : DataW.trod enc Tryz.prog W 0 (fun _ => true) true m' 3 [v9] = some z0 := by have := hz 0 ⟨_, _, _, _, _, _, _⟩ rfl; dsimp only at this; rw [cl3] at this; exact this
  have g1 : DataW.trod enc Tryz.prog W 0 (fun _ => true) true m' 3 [v10] = some z1 := by have := hz 1 ⟨_, _, _, _, _, _, _⟩ rfl; dsimp only at this; rw [cl3] at this; exact this
  obtain ⟨da, e9, _, w9⟩ := DataW.trod_int Tryz.underlying3 g0
  obtain ⟨co, e10, _, w10⟩ := DataW.trod_int Tryz.underlying3 g1
  simp only [List.cons.injEq, and_true] at e0 e1 e2 e5 e9 e10
  subst e0 e1 e2 e5 e9 e10
  refine ⟨⟨k, wi, da, co, bu, N, t⟩, ⟨_, [v3, v4, v5, v6, v7, v8].map (aW W), rfl, n1, t1⟩, fun j hj => ?_, fun s hs c hc => ?_, ?_, ?_⟩
  · unfold nums at hj
    rcases List.mem_append.1 hj with hj | hj
    · rcases List.mem_append.1 hj with hj | hj
      · simp only [List.mem_cons, List.not_mem_nil, or_false] at hj
        rcases hj with rfl | rfl | rfl | rfl | rfl | rfl
        · exact i64_of w1
        · exact i64_of w2
        · exact i64_of w9
        · exact i64_of w10
        · exact i64_of w5
        · exact ⟨by omega, by omega⟩
      · exact n2 j hj
    · obtain ⟨p, hp, hj⟩ := List.mem_flatMap.1 hj
      exact (t2 p hp).1 j hj
  · obtain ⟨p, hp, hs⟩ := List.mem_flatMap.1 hs
    exact (t2 p hp).2 s hs c hc
  · show szS ((pre t).flatMap ptxt) ≤ _
    omega
  · show tsz t ≤ _
    omega
end
end Go.Ev
end
