/-
  DERIVED. GIVEN WITH THE SEED: THE CARDS: each row of YtmabfdnconccnaaDoorRows.lean that lists a variable, with what it lists TIED to the program's text (the seventh form; the later family's looks); each row that meets fmt, with fmt's text TOLD by the authors' own Lean function (tested against real Go, not proved from fmt's source: count such statements apart). THE CARD IS WHAT COUNTS. Prove the row's statement (the work); the ties are given (YtmabfdnconccnaaDoorTie.lean); close each card by the builder's one call (the guide's Derived/Test/ToyasCard.lean, 'card_holds'). Laid BY PROGRAM, IN A SANDBOX (cutbox-door.mjs). By AI agents, Wed Nov 11 2026. No macro, syntax, notation, axiom, sorry.
-/
import Derived.Test.YtmabfdnconccnaaDoorRows
import GoSem.ClaimSeven
namespace Go.Proofs.YtmabfdnconccnaaDoor
namespace Rows

/-- THE TIED CARD OF 'laws.FnExactRpcText'. -/
def fnExactRpcTextCard : Claim7 := { stood := { row := fnExactRpcTextRow, standIns := [], harness := (true, "5e6e4bc0f3c26aa055ba96b0a5bedb36b122c8e492631f63b987663d6c745696"), looks := false }, kinds := [], alts := [], laidByText := true, laidKinds := [.data, .data, .data], laidTests := true, laidLooks := .later }
def FnExactRpcTextCardSaid : Prop := Claim7.holds Tryd.pinned (.plain (OpenSpec.ofChange fnExactRpcTextSpec)) fnExactRpcTextCard

/-- THE TIED CARD OF 'laws.FnExactValText'. -/
def fnExactValTextCard : Claim7 := { stood := { row := fnExactValTextRow, standIns := [], harness := (true, "5e6e4bc0f3c26aa055ba96b0a5bedb36b122c8e492631f63b987663d6c745696"), looks := false }, kinds := [], alts := [], laidByText := true, laidKinds := [.data, .data, .data, .data, .pinned], laidTests := true, laidLooks := .later }
def FnExactValTextCardSaid : Prop := Claim7.holds Tryd.pinned (.plain (OpenSpec.ofChange fnExactValTextSpec)) fnExactValTextCard

/-- THE TIED CARD OF 'laws.FnExactPeerText'. -/
def fnExactPeerTextCard : Claim7 := { stood := { row := fnExactPeerTextRow, standIns := [], harness := (true, "5e6e4bc0f3c26aa055ba96b0a5bedb36b122c8e492631f63b987663d6c745696"), looks := false }, kinds := [], alts := [], laidByText := true, laidKinds := [.data, .data, .data], laidTests := true, laidLooks := .later }
def FnExactPeerTextCardSaid : Prop := Claim7.holds Tryd.pinned (.plain (OpenSpec.ofChange fnExactPeerTextSpec)) fnExactPeerTextCard

/-- THE SECOND FORM's CARD OF 'laws.FnExactRpcText'. -/
def fnExactRpcTextUptoCard : Claim7 := { stood := { row := fnExactRpcTextUptoRow, standIns := [], harness := (true, "5e6e4bc0f3c26aa055ba96b0a5bedb36b122c8e492631f63b987663d6c745696"), looks := false }, kinds := [], alts := [], laidByText := true, laidKinds := [.data, .data, .data], laidTests := true, laidLooks := .later }
def FnExactRpcTextUptoCardSaid : Prop := Claim7.holds Tryd.pinned (.plain (OpenSpec.upto fnExactRpcTextSpec)) fnExactRpcTextUptoCard

/-- THE SECOND FORM's CARD OF 'laws.FnExactValText'. -/
def fnExactValTextUptoCard : Claim7 := { stood := { row := fnExactValTextUptoRow, standIns := [], harness := (true, "5e6e4bc0f3c26aa055ba96b0a5bedb36b122c8e492631f63b987663d6c745696"), looks := false }, kinds := [], alts := [], laidByText := true, laidKinds := [.data, .data, .data, .data, .pinned], laidTests := true, laidLooks := .later }
def FnExactValTextUptoCardSaid : Prop := Claim7.holds Tryd.pinned (.plain (OpenSpec.upto fnExactValTextSpec)) fnExactValTextUptoCard

/-- THE SECOND FORM's CARD OF 'laws.FnExactPeerText'. -/
def fnExactPeerTextUptoCard : Claim7 := { stood := { row := fnExactPeerTextUptoRow, standIns := [], harness := (true, "5e6e4bc0f3c26aa055ba96b0a5bedb36b122c8e492631f63b987663d6c745696"), looks := false }, kinds := [], alts := [], laidByText := true, laidKinds := [.data, .data, .data], laidTests := true, laidLooks := .later }
def FnExactPeerTextUptoCardSaid : Prop := Claim7.holds Tryd.pinned (.plain (OpenSpec.upto fnExactPeerTextSpec)) fnExactPeerTextUptoCard
end Rows
end Go.Proofs.YtmabfdnconccnaaDoor
