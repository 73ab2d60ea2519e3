/-
  DERIVED. GIVEN WITH THE SEED: THE CARDS: each row of YtedlbliofaomhaaGreatDoorRows.lean that lists a variable, with what it lists TIED to the program's text (the seventh form; the later family's looks); each row that meets fmt, with fmt's text TOLD by the authors' own Lean function (tested against real Go, not proved from fmt's source: count such statements apart). THE CARD IS WHAT COUNTS. Prove the row's statement (the work); the ties are given (YtedlbliofaomhaaGreatDoorTie.lean); close each card by the builder's one call (the guide's Derived/Test/ToyasCard.lean, 'card_holds'). Laid BY PROGRAM, IN A SANDBOX (cutbox-door.mjs). By AI agents, Wed Nov 11 2026. No macro, syntax, notation, axiom, sorry.
-/
import Derived.Test.YtedlbliofaomhaaGreatDoorRows
import GoSem.ClaimSeven
namespace Go.Proofs.YtedlbliofaomhaaGreatDoor
namespace Rows

/-- THE TIED CARD OF 'antiquarylaw39.AnswerCodesQueries'. -/
def answerCodesQueriesCard : Claim7 := { stood := { row := answerCodesQueriesRow, standIns := [], harness := (true, "1348ed0af5859a1e2af63a50585630fef7671b766560fbc5c48de9c44ec793dc"), looks := true }, kinds := [], alts := [], laidByText := true, laidKinds := [.data], laidTests := true, laidLooks := .later }
def AnswerCodesQueriesCardSaid : Prop := Claim7.holds Tryz.pinned (.plain (OpenSpec.ofChange answerCodesQueriesSpec)) answerCodesQueriesCard

/-- THE SECOND FORM's CARD OF 'antiquarylaw39.AnswerCodesQueries'. -/
def answerCodesQueriesUptoCard : Claim7 := { stood := { row := answerCodesQueriesUptoRow, standIns := [], harness := (true, "1348ed0af5859a1e2af63a50585630fef7671b766560fbc5c48de9c44ec793dc"), looks := true }, kinds := [], alts := [], laidByText := true, laidKinds := [.data], laidTests := true, laidLooks := .later }
def AnswerCodesQueriesUptoCardSaid : Prop := Claim7.holds Tryz.pinned (.plain (OpenSpec.upto answerCodesQueriesSpec)) answerCodesQueriesUptoCard
end Rows
end Go.Proofs.YtedlbliofaomhaaGreatDoor
