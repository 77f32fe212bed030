/-
  DERIVED. GIVEN WITH THE SEED: THE CARDS: each row of YtfpfjmahdneehaaGreatDoorRows.lean that lists a variable, with what it lists TIED to the program's text (the seventh form; the later family's looks); each row that meets fmt, with fmt's text TOLD by the authors' own Lean function (tested against real Go, not proved from fmt's source: count such statements apart). THE CARD IS WHAT COUNTS. Prove the row's statement (the work); the ties are given (YtfpfjmahdneehaaGreatDoorTie.lean); close each card by the builder's one call (the guide's Derived/Test/ToyasCard.lean, 'card_holds'). Laid BY PROGRAM, IN A SANDBOX (cutbox-door.mjs). By AI agents, Wed Nov 11 2026. No macro, syntax, notation, axiom, sorry.
-/
import Derived.Test.YtfpfjmahdneehaaGreatDoorRows
import GoSem.ClaimSeven
namespace Go.Proofs.YtfpfjmahdneehaaGreatDoor
namespace Rows

/-- THE TIED CARD OF 'laws.FnExactJudgeSink'. -/
def fnExactJudgeSinkCard : Claim7 := { stood := { row := fnExactJudgeSinkRow, standIns := [], harness := (true, "3fe99607c59be2bbce39c442855025a6d1ab626665539488f166c1b8d2187eda"), looks := true }, kinds := [], alts := [], laidByText := true, laidKinds := [.data, .data, .data, .data, .sentinel, .sentinel, .pinned], laidTests := true, laidLooks := .later }
def FnExactJudgeSinkCardSaid : Prop := Claim7.holds Tryz.pinned (.plain (OpenSpec.ofChange fnExactJudgeSinkSpec)) fnExactJudgeSinkCard

/-- THE TIED CARD OF 'laws.FnExactJudgeOnce'. -/
def fnExactJudgeOnceCard : Claim7 := { stood := { row := fnExactJudgeOnceRow, standIns := [], harness := (true, "3fe99607c59be2bbce39c442855025a6d1ab626665539488f166c1b8d2187eda"), looks := true }, kinds := [], alts := [], laidByText := true, laidKinds := [.data, .data, .data, .data, .sentinel, .sentinel, .pinned], laidTests := true, laidLooks := .later }
def FnExactJudgeOnceCardSaid : Prop := Claim7.holds Tryz.pinned (.plain (OpenSpec.ofChange fnExactJudgeOnceSpec)) fnExactJudgeOnceCard

/-- THE TIED CARD OF 'laws.FnExactJudgeDone'. -/
def fnExactJudgeDoneCard : Claim7 := { stood := { row := fnExactJudgeDoneRow, standIns := [], harness := (true, "3fe99607c59be2bbce39c442855025a6d1ab626665539488f166c1b8d2187eda"), looks := true }, kinds := [], alts := [], laidByText := true, laidKinds := [.data, .data, .data, .data, .sentinel, .sentinel, .pinned], laidTests := true, laidLooks := .later }
def FnExactJudgeDoneCardSaid : Prop := Claim7.holds Tryz.pinned (.plain (OpenSpec.ofChange fnExactJudgeDoneSpec)) fnExactJudgeDoneCard

/-- THE SECOND FORM's CARD OF 'laws.FnExactJudgeSink'. -/
def fnExactJudgeSinkUptoCard : Claim7 := { stood := { row := fnExactJudgeSinkUptoRow, standIns := [], harness := (true, "3fe99607c59be2bbce39c442855025a6d1ab626665539488f166c1b8d2187eda"), looks := true }, kinds := [], alts := [], laidByText := true, laidKinds := [.data, .data, .data, .data, .sentinel, .sentinel, .pinned], laidTests := true, laidLooks := .later }
def FnExactJudgeSinkUptoCardSaid : Prop := Claim7.holds Tryz.pinned (.plain (OpenSpec.upto fnExactJudgeSinkSpec)) fnExactJudgeSinkUptoCard

/-- THE SECOND FORM's CARD OF 'laws.FnExactJudgeOnce'. -/
def fnExactJudgeOnceUptoCard : Claim7 := { stood := { row := fnExactJudgeOnceUptoRow, standIns := [], harness := (true, "3fe99607c59be2bbce39c442855025a6d1ab626665539488f166c1b8d2187eda"), looks := true }, kinds := [], alts := [], laidByText := true, laidKinds := [.data, .data, .data, .data, .sentinel, .sentinel, .pinned], laidTests := true, laidLooks := .later }
def FnExactJudgeOnceUptoCardSaid : Prop := Claim7.holds Tryz.pinned (.plain (OpenSpec.upto fnExactJudgeOnceSpec)) fnExactJudgeOnceUptoCard

/-- THE SECOND FORM's CARD OF 'laws.FnExactJudgeDone'. -/
def fnExactJudgeDoneUptoCard : Claim7 := { stood := { row := fnExactJudgeDoneUptoRow, standIns := [], harness := (true, "3fe99607c59be2bbce39c442855025a6d1ab626665539488f166c1b8d2187eda"), looks := true }, kinds := [], alts := [], laidByText := true, laidKinds := [.data, .data, .data, .data, .sentinel, .sentinel, .pinned], laidTests := true, laidLooks := .later }
def FnExactJudgeDoneUptoCardSaid : Prop := Claim7.holds Tryz.pinned (.plain (OpenSpec.upto fnExactJudgeDoneSpec)) fnExactJudgeDoneUptoCard
end Rows
end Go.Proofs.YtfpfjmahdneehaaGreatDoor
