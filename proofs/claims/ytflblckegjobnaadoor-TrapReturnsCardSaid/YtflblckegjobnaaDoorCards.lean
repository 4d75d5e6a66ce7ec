/-
  DERIVED. GIVEN WITH THE SEED: THE CARDS: each row of YtflblckegjobnaaDoorRows.lean that lists a variable, with what it lists TIED to the program's text (the seventh form; the later family's looks); each row that meets fmt, with fmt's text TOLD by the authors' own Lean function (tested against real Go, not proved from fmt's source: count such statements apart). THE CARD IS WHAT COUNTS. Prove the row's statement (the work); the ties are given (YtflblckegjobnaaDoorTie.lean); close each card by the builder's one call (the guide's Derived/Test/ToyasCard.lean, 'card_holds'). Laid BY PROGRAM, IN A SANDBOX (cutbox-door.mjs). By AI agents, Wed Nov 11 2026. No macro, syntax, notation, axiom, sorry.
-/
import Derived.Test.YtflblckegjobnaaDoorRows
import GoSem.ClaimSeven
namespace Go.Proofs.YtflblckegjobnaaDoor
namespace Rows

/-- THE TIED CARD OF 'emulatorlaw11.TrapVectors'. -/
def trapVectorsCard : Claim7 := { stood := { row := trapVectorsRow, standIns := [], harness := (true, "3a1cdfa6be5eb3b349c19b35f04228c82fc980e333ed44d90a288b9bcc0397ba"), looks := false }, kinds := [], alts := [], laidByText := true, laidKinds := [.listed, .data], laidTests := true, laidLooks := .later }
def TrapVectorsCardSaid : Prop := Claim7.holds Tryd.pinned (.plain (OpenSpec.ofChange trapVectorsSpec)) trapVectorsCard

/-- THE TIED CARD OF 'emulatorlaw11.TrapNames'. -/
def trapNamesCard : Claim7 := { stood := { row := trapNamesRow, standIns := [], harness := (true, "3a1cdfa6be5eb3b349c19b35f04228c82fc980e333ed44d90a288b9bcc0397ba"), looks := false }, kinds := [], alts := [], laidByText := true, laidKinds := [.listed, .data], laidTests := true, laidLooks := .later }
def TrapNamesCardSaid : Prop := Claim7.holds Tryd.pinned (.plain (OpenSpec.ofChange trapNamesSpec)) trapNamesCard

/-- THE TIED CARD OF 'emulatorlaw11.TrapLists'. -/
def trapListsCard : Claim7 := { stood := { row := trapListsRow, standIns := [], harness := (true, "3a1cdfa6be5eb3b349c19b35f04228c82fc980e333ed44d90a288b9bcc0397ba"), looks := false }, kinds := [], alts := [], laidByText := true, laidKinds := [.listed, .data], laidTests := true, laidLooks := .later }
def TrapListsCardSaid : Prop := Claim7.holds Tryd.pinned (.plain (OpenSpec.ofChange trapListsSpec)) trapListsCard

/-- THE TIED CARD OF 'emulatorlaw11.TrapReturns'. -/
def trapReturnsCard : Claim7 := { stood := { row := trapReturnsRow, standIns := [], harness := (true, "3a1cdfa6be5eb3b349c19b35f04228c82fc980e333ed44d90a288b9bcc0397ba"), looks := false }, kinds := [], alts := [], laidByText := true, laidKinds := [.listed, .data], laidTests := true, laidLooks := .later }
def TrapReturnsCardSaid : Prop := Claim7.holds Tryd.pinned (.plain (OpenSpec.ofChange trapReturnsSpec)) trapReturnsCard

/-- THE SECOND FORM's CARD OF 'emulatorlaw11.TrapVectors'. -/
def trapVectorsUptoCard : Claim7 := { stood := { row := trapVectorsUptoRow, standIns := [], harness := (true, "3a1cdfa6be5eb3b349c19b35f04228c82fc980e333ed44d90a288b9bcc0397ba"), looks := false }, kinds := [], alts := [], laidByText := true, laidKinds := [.listed, .data], laidTests := true, laidLooks := .later }
def TrapVectorsUptoCardSaid : Prop := Claim7.holds Tryd.pinned (.plain (OpenSpec.upto trapVectorsSpec)) trapVectorsUptoCard

/-- THE SECOND FORM's CARD OF 'emulatorlaw11.TrapNames'. -/
def trapNamesUptoCard : Claim7 := { stood := { row := trapNamesUptoRow, standIns := [], harness := (true, "3a1cdfa6be5eb3b349c19b35f04228c82fc980e333ed44d90a288b9bcc0397ba"), looks := false }, kinds := [], alts := [], laidByText := true, laidKinds := [.listed, .data], laidTests := true, laidLooks := .later }
def TrapNamesUptoCardSaid : Prop := Claim7.holds Tryd.pinned (.plain (OpenSpec.upto trapNamesSpec)) trapNamesUptoCard

/-- THE SECOND FORM's CARD OF 'emulatorlaw11.TrapLists'. -/
def trapListsUptoCard : Claim7 := { stood := { row := trapListsUptoRow, standIns := [], harness := (true, "3a1cdfa6be5eb3b349c19b35f04228c82fc980e333ed44d90a288b9bcc0397ba"), looks := false }, kinds := [], alts := [], laidByText := true, laidKinds := [.listed, .data], laidTests := true, laidLooks := .later }
def TrapListsUptoCardSaid : Prop := Claim7.holds Tryd.pinned (.plain (OpenSpec.upto trapListsSpec)) trapListsUptoCard

/-- THE SECOND FORM's CARD OF 'emulatorlaw11.TrapReturns'. -/
def trapReturnsUptoCard : Claim7 := { stood := { row := trapReturnsUptoRow, standIns := [], harness := (true, "3a1cdfa6be5eb3b349c19b35f04228c82fc980e333ed44d90a288b9bcc0397ba"), looks := false }, kinds := [], alts := [], laidByText := true, laidKinds := [.listed, .data], laidTests := true, laidLooks := .later }
def TrapReturnsUptoCardSaid : Prop := Claim7.holds Tryd.pinned (.plain (OpenSpec.upto trapReturnsSpec)) trapReturnsUptoCard
end Rows
end Go.Proofs.YtflblckegjobnaaDoor
