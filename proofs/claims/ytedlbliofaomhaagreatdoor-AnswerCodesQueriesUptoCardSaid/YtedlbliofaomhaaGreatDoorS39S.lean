/- The examples of the document, worked by the abstract machine: sanity() returns true. -/
import Derived.Test.YtedlbliofaomhaaGreatDoorS39M
set_option linter.all false
open Go Go.Proofs Go.RowKit
set_option maxRecDepth 100000
namespace Go.Ev
noncomputable def eS : Entry := ⟨[(0, kk)], [], [], TT, []⟩
theorem rS : entryRuns E28 4 150 150 eS = true := by kernel_rfl
/-- The examples of the document: sanity() returns true. -/
theorem sanity_calls {w : World} {ccs : Array Value} {T : TypeId} {fz : Nat × Nat} (h0 : w.heap[0]? = some (.cells ccs T fz)) (hn : kk.length ≤ ccs.size) (hc : ∀ (i : Nat) (x : AVal), kk[i]? = some x → ∃ y, ccs[i]? = some y ∧ ∀ φ, VRel φ x y) :
    Calls Tryz.prog 4 #[] w fun e w' => e = .returned (.bool true) ∧ Below w.heap.size w w' :=
  (closed_call (entryMemo_ok M28 rS) (by rw [show E28.ng = 2 from by kernel_rfl]; decide) h0 hn hc).mono fun e w' ⟨φ, y, h1, h2, h3⟩ => by
    cases h2
    exact ⟨h1, h3⟩
end Go.Ev
