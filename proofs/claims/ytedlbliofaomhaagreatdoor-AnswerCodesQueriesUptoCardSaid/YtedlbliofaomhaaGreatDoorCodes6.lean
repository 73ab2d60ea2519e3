/- What the functions of the program and of the reference compute, over the abstract machine; the laws of what they compute. -/
import Derived.Test.YtedlbliofaomhaaGreatDoorCodes5
import Derived.Test.YtedlbliofaomhaaGreatDoorS39S
import Derived.Test.YtedlbliofaomhaaGreatDoorRowK3
import Derived.Test.YtedlbliofaomhaaGreatDoorCards
import Derived.Test.YtedlbliofaomhaaGreatDoorTie
import Derived.ProofKit
import Derived.OpenShut
import Derived.Deep.DeepHandedRow
import Derived.Lib.LaidTab
set_option linter.all false
namespace Go.Ev
open Go Go.Proofs Go.RowKit
set_option maxRecDepth 100000
/-- The machine of the universal part is sound. -/
theorem MX : MachOK EX Tryz.prog :=
  MachOK.remember (l := []) M0 (EsOK.cons (EntryOK.env (entryMemo_ok M28 rS) (by rw [show E28.ng = 2 from by kernel_rfl]; kernel_rfl)) EsOK.nil) (by kernel_rfl) (n := 2) (by kernel_rfl)
end Go.Ev
namespace Go.Proofs.YtedlbliofaomhaaGreatDoor
open Go.ChangeShapes Go.WideShapes Go.ChangeAt Go.RowKit
set_option maxRecDepth 100000
theorem own : ownKnob Tryz.prog.godebug = none := by kernel_rfl
theorem gTab : Tryz.prog.globalNamed "antiquary/hash.constants" = some 0 := by kernel_rfl
def ksI : List Int := [0x428a2f98, 0x71374491, 0xb5c0fbcf, 0xe9b5dba5, 0x3956c25b, 0x59f111f1, 0x923f82a4, 0xab1c5ed5,
  0xd807aa98, 0x12835b01, 0x243185be, 0x550c7dc3, 0x72be5d74, 0x80deb1fe, 0x9bdc06a7, 0xc19bf174,
  0xe49b69c1, 0xefbe4786, 0x0fc19dc6, 0x240ca1cc, 0x2de92c6f, 0x4a7484aa, 0x5cb0a9dc, 0x76f988da,
  0x983e5152, 0xa831c66d, 0xb00327c8, 0xbf597fc7, 0xc6e00bf3, 0xd5a79147, 0x06ca6351, 0x14292967,
  0x27b70a85, 0x2e1b2138, 0x4d2c6dfc, 0x53380d13, 0x650a7354, 0x766a0abb, 0x81c2c92e, 0x92722c85,
  0xa2bfe8a1, 0xa81a664b, 0xc24b8b70, 0xc76c51a3, 0xd192e819, 0xd6990624, 0xf40e3585, 0x106aa070,
  0x19a4c116, 0x1e376c08, 0x2748774c, 0x34b0bcb5, 0x391c0cb3, 0x4ed8aa4a, 0x5b9cca4f, 0x682e6ff3,
  0x748f82ee, 0x78a5636f, 0x84c87814, 0x8cc70208, 0x90befffa, 0xa4506ceb, 0xbef9a3f7, 0xc67178f2]
theorem laid_eq : Rows.answerCodesQueriesUptoRow.laid = [("antiquary/hash.constants", Lib.tabData .u32 ksI)] := by kernel_rfl
theorem gType : (Tryz.prog.globals[0]?).map (·.type) = some 498 := by kernel_rfl
theorem und274 : Tryz.prog.underlying 274 = some (.int .u32) := by kernel_rfl
theorem cells274 : Tryz.prog.cellsOf 274 = 1 := by kernel_rfl
theorem cells498 : Tryz.prog.cellsOf 498 = 64 := by kernel_rfl
/-- What the row's list gives: the table's cells hold its numbers. -/
theorem table {W : World} (h : laidMetH Tryz.prog Rows.answerCodesQueriesUptoRow.laid W) : Lib.TabIs Tryz.prog W "antiquary/hash.constants" .u32 ksI := by
  rw [laid_eq] at h
  exact Lib.tabIs_of_head (rest := []) gTab gType Tryz.underlying498 und274 cells274 cells498 h
theorem kk_eq : Go.Ev.kk = ksI.map (Go.Ev.AVal.int .u32) := by kernel_rfl
open Go.Ev in
theorem block0 {W : World} (h : Lib.TabIs Tryz.prog W "antiquary/hash.constants" .u32 ksI) : (wH W).get 0 = some K0 := by
  unfold Lib.TabIs World.var? at h
  rw [gTab] at h
  simp only [Option.bind_some] at h
  split at h
  · rename_i cs t fz hw
    have hcs := Option.some.inj h
    subst hcs
    rw [wH_get, hw]
    show some (AObj.cells true _ (BT.ofList _)) = some K0
    unfold K0
    rw [kk_eq]
    have e1 : ((ksI.map fun z => Value.int .u32 z).toArray.toList.map (absV (W.heap.size + 2))) = ksI.map (AVal.int .u32) := by
      rw [List.toList_toArray, List.map_map]; rfl
    rw [e1]
    congr 2
  · cases h
theorem bulk2 {H : Type} {d1 d2 : DataW H} (h : Rows.uptoSmall H [d1, d2] = true) : Rows.uptoBulk d1 ≤ 1048576 ∧ Rows.uptoBulk d2 ≤ 1048576 := by
  have h := of_decide_eq_true h
  simp only [Rows.uptoBulkAll] at h
  exact ⟨by omega, by omega⟩
theorem laidOut : laidOutB Tryz.prog = true := k2
theorem read29 : Tryz.prog.readableRec 29 = true := by kernel_rfl
theorem read30 : Tryz.prog.readableRec 30 = true := by kernel_rfl
theorem in29 : 29 < Tryz.prog.types.size := of_decide_eq_true (by kernel_rfl)
theorem in30 : 30 < Tryz.prog.types.size := of_decide_eq_true (by kernel_rfl)
theorem res3 : Tryz.f3.resultTypes = #[4] := by kernel_rfl
open Go.Ev in
/-- WHAT THE LAW DOES, FOR EVERY ARGUMENT OF SUCH A BULK AND EVERY WORLD THAT HOLDS THE TABLE. -/
theorem contract (H : Type) (enc : TypeId × Value → H) (W : World) (base : Nat) (args : Array Value) (ds gs : List (DataW H)) (before : List MemPlace)
    (hval : ∀ (j : Nat) t v, Tryz.f3.params[j]? = some t → args[j]? = some v → Value.okWide Tryz.prog W .any base t v)
    (hW : DataW.Whole enc Tryz.prog Tryz.f3.params.toList Rows.answerCodesQueriesSpec.vars false W args.toList ds gs before) (hk : Rows.uptoSmall H (ds ++ gs) = true) (hL : laidMetH Tryz.prog Rows.answerCodesQueriesUptoRow.laid W) :
    Calls Tryz.prog 3 args W fun e W' => ∃ v, e = .returned v ∧ Rows.answerCodesQueriesSpec.post enc Tryz.prog Tryz.f3 false true false false W args v W' := by
  have hW' := hW
  obtain ⟨p, q, hA0, hV, rfl, hfz, hnd⟩ := hW
  have hA : DataW.TrodAll enc Tryz.prog W 0 (fun _ => true) true Tryz.f3.params.toList args.toList ds p := hA0
  rw [Tryz.params3] at hA hval
  obtain ⟨v0, v1, d0, d1, p0, p1, rfl, rfl, rfl, h0, h1⟩ := trodAll_two hA
  obtain ⟨rfl, rfl⟩ := trodVars_none hV
  have hv0 := hval 0 29 v0 rfl rfl
  have hv1 := hval 1 30 v1 rfl rfl
  simp only [Value.okWide, Tryz.underlying29] at hv0
  obtain ⟨cs, rfl, _, _⟩ := hv0
  obtain ⟨a, len, cap, rfl⟩ := okWide_slice Tryz.underlying30 hv1
  obtain ⟨hb0, hb1⟩ := bulk2 (by simpa using hk)
  obtain ⟨n0, t0⟩ := id h0
  obtain ⟨n1, t1⟩ := id h1
  have t1 : DataW.trod enc Tryz.prog W 0 (fun _ => true) true n1 30 [Value.slice a len cap] = some (d1, p1) := t1
  have t0 : DataW.trod enc Tryz.prog W 0 (fun _ => true) true n0 29 cs.toList = some (d0, p0) := t0
  cases n1 with
  | zero => cases t1
  | succ n1 =>
  obtain ⟨v, b, e1, s1, s2, s3⟩ := read_bytes t1
  simp only [List.cons.injEq, and_true] at e1
  subst e1
  obtain ⟨qq, q1, q2, q3, q4, q5⟩ := read_query t0 hb0
  dsimp only at s3
  have hlaw := lawAC (block0 (table hL)) (Nat.succ_pos _) q1 (fun i hi => hi) s1.toB s2 (by omega) q2 q3 (by omega) (by omega)
  have hargs : LRel (wφ W) [.agg (cs.toList.map (aW W)), aW W (.slice a len cap)] (#[Value.agg cs, Value.slice a len cap] : Array Value).toList := by
    refine .cons (VRel.agg' ⟨by simp, fun i x y hx hy => ?_⟩) (.cons (absV_rel (wφ_some W) _) (.nil _))
    rw [List.getElem?_map] at hx
    obtain ⟨z, hz, rfl⟩ := Option.map_eq_some_iff.1 hx
    have : z = y := Option.some.inj (hz.symm.trans hy)
    subst this
    exact absV_rel (wφ_some W) z
  refine (AC.calls MX (wRep W) (wGlob W) hargs hlaw).mono fun e W' ⟨φ', w, w', d', hw, _, he, hrel, R⟩ => ?_
  subst hw
  cases hrel
  have hbelow := R.below
  have hlt0 : ∀ x ∈ p0, x.block < W.heap.size := fun x hx => hW'.lt x (by simp [hx])
  have hlt1 : ∀ x ∈ p1, x.block < W.heap.size := fun x hx => hW'.lt x (by simp [hx])
  refine ⟨_, he, _, _, _, [], p0 ++ p1, [], hW', ?_, ?_, ?_, hbelow.frame _, fun h => by cases h⟩
  · rw [res3]
    exact trodAll_mk1 (shut_bool Tryz.underlying4 _)
  · rw [Tryz.params3]
    exact trodAll_mk2 (Below.trod laidOut read29 in29 h0 hbelow hlt0) (Below.trod laidOut read30 in30 h1 hbelow hlt1)
  · rfl
end Go.Proofs.YtedlbliofaomhaaGreatDoor
