/-
  DERIVED. GIVEN WITH THE SEED: THE CARDS: each row of YtmabfdnconccnaaGreatDoorRows.lean that lists a variable, with what it lists TIED to the program's text (the seventh form; the later family's looks); each row that meets fmt, with fmt's text TOLD by the authors' own Lean function (tested against real Go, not proved from fmt's source: count such statements apart). THE CARD IS WHAT COUNTS. Prove the row's statement (the work); the ties are given (YtmabfdnconccnaaGreatDoorTie.lean); close each card by the builder's one call (the guide's Derived/Test/ToyasCard.lean, 'card_holds'). Laid BY PROGRAM, IN A SANDBOX (cutbox-door.mjs). By AI agents, Wed Nov 11 2026. No macro, syntax, notation, axiom, sorry.
-/
import Derived.Test.YtmabfdnconccnaaGreatDoorRows
import GoSem.ClaimSeven
namespace Go.Proofs.YtmabfdnconccnaaGreatDoor
namespace Rows

/-- THE TIED CARD OF 'laws.FnExactWorldText'. -/
def fnExactWorldTextCard : Claim7 := { stood := { row := fnExactWorldTextRow, standIns := [], harness := (true, "ad75bc6fde4f9af34b7a7805adcf8fed1bccfc261fd2f8a2c9f40b8f8d41bc74"), looks := true }, kinds := [], alts := [], laidByText := true, laidKinds := [.data, .data, .data], laidTests := true, laidLooks := .later }
def FnExactWorldTextCardSaid : Prop := Claim7.holds Tryz.pinned (.plain (OpenSpec.ofChange fnExactWorldTextSpec)) fnExactWorldTextCard

/-- THE TIED CARD OF 'laws.FnExactLeader'. -/
def fnExactLeaderCard : Claim7 := { stood := { row := fnExactLeaderRow, standIns := [], harness := (true, "ad75bc6fde4f9af34b7a7805adcf8fed1bccfc261fd2f8a2c9f40b8f8d41bc74"), looks := true }, kinds := [], alts := [], laidByText := true, laidKinds := [.data, .data, .data, .data, .sentinel, .sentinel, .pinned], laidTests := true, laidLooks := .later }
def FnExactLeaderCardSaid : Prop := Claim7.holds Tryz.pinned (.plain (OpenSpec.ofChange fnExactLeaderSpec)) fnExactLeaderCard

/-- THE TIED CARD OF 'laws.FnExactEven'. -/
def fnExactEvenCard : Claim7 := { stood := { row := fnExactEvenRow, standIns := [], harness := (true, "ad75bc6fde4f9af34b7a7805adcf8fed1bccfc261fd2f8a2c9f40b8f8d41bc74"), looks := true }, kinds := [], alts := [], laidByText := true, laidKinds := [.data, .data, .data, .data, .sentinel, .sentinel, .pinned], laidTests := true, laidLooks := .later }
def FnExactEvenCardSaid : Prop := Claim7.holds Tryz.pinned (.plain (OpenSpec.ofChange fnExactEvenSpec)) fnExactEvenCard

/-- THE TIED CARD OF 'laws.FnExactJudgeLead'. -/
def fnExactJudgeLeadCard : Claim7 := { stood := { row := fnExactJudgeLeadRow, standIns := [], harness := (true, "ad75bc6fde4f9af34b7a7805adcf8fed1bccfc261fd2f8a2c9f40b8f8d41bc74"), looks := true }, kinds := [], alts := [], laidByText := true, laidKinds := [.data, .data, .data, .data, .sentinel, .sentinel, .pinned], laidTests := true, laidLooks := .later }
def FnExactJudgeLeadCardSaid : Prop := Claim7.holds Tryz.pinned (.plain (OpenSpec.ofChange fnExactJudgeLeadSpec)) fnExactJudgeLeadCard

/-- THE SECOND FORM's CARD OF 'laws.FnExactWorldText'. -/
def fnExactWorldTextUptoCard : Claim7 := { stood := { row := fnExactWorldTextUptoRow, standIns := [], harness := (true, "ad75bc6fde4f9af34b7a7805adcf8fed1bccfc261fd2f8a2c9f40b8f8d41bc74"), looks := true }, kinds := [], alts := [], laidByText := true, laidKinds := [.data, .data, .data], laidTests := true, laidLooks := .later }
def FnExactWorldTextUptoCardSaid : Prop := Claim7.holds Tryz.pinned (.plain (OpenSpec.upto fnExactWorldTextSpec)) fnExactWorldTextUptoCard

/-- THE SECOND FORM's CARD OF 'laws.FnExactLeader'. -/
def fnExactLeaderUptoCard : Claim7 := { stood := { row := fnExactLeaderUptoRow, standIns := [], harness := (true, "ad75bc6fde4f9af34b7a7805adcf8fed1bccfc261fd2f8a2c9f40b8f8d41bc74"), looks := true }, kinds := [], alts := [], laidByText := true, laidKinds := [.data, .data, .data, .data, .sentinel, .sentinel, .pinned], laidTests := true, laidLooks := .later }
def FnExactLeaderUptoCardSaid : Prop := Claim7.holds Tryz.pinned (.plain (OpenSpec.upto fnExactLeaderSpec)) fnExactLeaderUptoCard

/-- THE SECOND FORM's CARD OF 'laws.FnExactEven'. -/
def fnExactEvenUptoCard : Claim7 := { stood := { row := fnExactEvenUptoRow, standIns := [], harness := (true, "ad75bc6fde4f9af34b7a7805adcf8fed1bccfc261fd2f8a2c9f40b8f8d41bc74"), looks := true }, kinds := [], alts := [], laidByText := true, laidKinds := [.data, .data, .data, .data, .sentinel, .sentinel, .pinned], laidTests := true, laidLooks := .later }
def FnExactEvenUptoCardSaid : Prop := Claim7.holds Tryz.pinned (.plain (OpenSpec.upto fnExactEvenSpec)) fnExactEvenUptoCard

/-- THE SECOND FORM's CARD OF 'laws.FnExactJudgeLead'. -/
def fnExactJudgeLeadUptoCard : Claim7 := { stood := { row := fnExactJudgeLeadUptoRow, standIns := [], harness := (true, "ad75bc6fde4f9af34b7a7805adcf8fed1bccfc261fd2f8a2c9f40b8f8d41bc74"), looks := true }, kinds := [], alts := [], laidByText := true, laidKinds := [.data, .data, .data, .data, .sentinel, .sentinel, .pinned], laidTests := true, laidLooks := .later }
def FnExactJudgeLeadUptoCardSaid : Prop := Claim7.holds Tryz.pinned (.plain (OpenSpec.upto fnExactJudgeLeadSpec)) fnExactJudgeLeadUptoCard
end Rows
end Go.Proofs.YtmabfdnconccnaaGreatDoor
