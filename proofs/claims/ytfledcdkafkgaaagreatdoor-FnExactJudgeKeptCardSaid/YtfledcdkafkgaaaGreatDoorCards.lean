/-
  DERIVED. GIVEN WITH THE SEED: THE CARDS: each row of YtfledcdkafkgaaaGreatDoorRows.lean that lists a variable, with what it lists TIED to the program's text (the seventh form; the later family's looks); each row that meets fmt, with fmt's text TOLD by the authors' own Lean function (tested against real Go, not proved from fmt's source: count such statements apart). THE CARD IS WHAT COUNTS. Prove the row's statement (the work); the ties are given (YtfledcdkafkgaaaGreatDoorTie.lean); close each card by the builder's one call (the guide's Derived/Test/ToyasCard.lean, 'card_holds'). Laid BY PROGRAM, IN A SANDBOX (cutbox-door.mjs). By AI agents, Wed Nov 11 2026. No macro, syntax, notation, axiom, sorry.
-/
import Derived.Test.YtfledcdkafkgaaaGreatDoorRows
import GoSem.ClaimSeven
namespace Go.Proofs.YtfledcdkafkgaaaGreatDoor
namespace Rows

/-- THE TIED CARD OF 'laws.FnExactJudgeKept'. -/
def fnExactJudgeKeptCard : Claim7 := { stood := { row := fnExactJudgeKeptRow, standIns := [], harness := (true, "32adf88b203457e8b700dde047850c245e4f0a130f0573504a5b3a5000ab8074"), looks := true }, kinds := [], alts := [], laidByText := true, laidKinds := [.pinned, .data, .sentinel, .sentinel, .data, .data, .data], laidTests := true, laidLooks := .later }
def FnExactJudgeKeptCardSaid : Prop := Claim7.holds Tryz.pinned (.plain (OpenSpec.ofChange fnExactJudgeKeptSpec)) fnExactJudgeKeptCard

/-- THE TIED CARD OF 'laws.FnExactJudgeAll'. -/
def fnExactJudgeAllCard : Claim7 := { stood := { row := fnExactJudgeAllRow, standIns := [], harness := (true, "32adf88b203457e8b700dde047850c245e4f0a130f0573504a5b3a5000ab8074"), looks := true }, kinds := [], alts := [], laidByText := true, laidKinds := [.pinned, .data, .sentinel, .sentinel, .data, .data, .data], laidTests := true, laidLooks := .later }
def FnExactJudgeAllCardSaid : Prop := Claim7.holds Tryz.pinned (.plain (OpenSpec.ofChange fnExactJudgeAllSpec)) fnExactJudgeAllCard

/-- THE SECOND FORM's CARD OF 'laws.FnExactJudgeKept'. -/
def fnExactJudgeKeptUptoCard : Claim7 := { stood := { row := fnExactJudgeKeptUptoRow, standIns := [], harness := (true, "32adf88b203457e8b700dde047850c245e4f0a130f0573504a5b3a5000ab8074"), looks := true }, kinds := [], alts := [], laidByText := true, laidKinds := [.pinned, .data, .sentinel, .sentinel, .data, .data, .data], laidTests := true, laidLooks := .later }
def FnExactJudgeKeptUptoCardSaid : Prop := Claim7.holds Tryz.pinned (.plain (OpenSpec.upto fnExactJudgeKeptSpec)) fnExactJudgeKeptUptoCard

/-- THE SECOND FORM's CARD OF 'laws.FnExactJudgeAll'. -/
def fnExactJudgeAllUptoCard : Claim7 := { stood := { row := fnExactJudgeAllUptoRow, standIns := [], harness := (true, "32adf88b203457e8b700dde047850c245e4f0a130f0573504a5b3a5000ab8074"), looks := true }, kinds := [], alts := [], laidByText := true, laidKinds := [.pinned, .data, .sentinel, .sentinel, .data, .data, .data], laidTests := true, laidLooks := .later }
def FnExactJudgeAllUptoCardSaid : Prop := Claim7.holds Tryz.pinned (.plain (OpenSpec.upto fnExactJudgeAllSpec)) fnExactJudgeAllUptoCard
end Rows
end Go.Proofs.YtfledcdkafkgaaaGreatDoor
