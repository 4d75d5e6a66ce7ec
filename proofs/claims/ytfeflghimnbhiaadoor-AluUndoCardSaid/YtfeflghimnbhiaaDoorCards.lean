/-
  DERIVED. GIVEN WITH THE SEED: THE CARDS: each row of YtfeflghimnbhiaaDoorRows.lean that lists a variable, with what it lists TIED to the program's text (the seventh form; the later family's looks); each row that meets fmt, with fmt's text TOLD by the authors' own Lean function (tested against real Go, not proved from fmt's source: count such statements apart). THE CARD IS WHAT COUNTS. Prove the row's statement (the work); the ties are given (YtfeflghimnbhiaaDoorTie.lean); close each card by the builder's one call (the guide's Derived/Test/ToyasCard.lean, 'card_holds'). Laid BY PROGRAM, IN A SANDBOX (cutbox-door.mjs). By AI agents, Wed Nov 11 2026. No macro, syntax, notation, axiom, sorry.
-/
import Derived.Test.YtfeflghimnbhiaaDoorRows
import GoSem.ClaimSeven
namespace Go.Proofs.YtfeflghimnbhiaaDoor
namespace Rows

/-- THE TIED CARD OF 'emulatorlaw10.AluDoubles'. -/
def aluDoublesCard : Claim7 := { stood := { row := aluDoublesRow, standIns := [], harness := (true, "5e4e7a9ce903f5735d5a6f36b7005db37198f4ec89180837f6fb4a1b45c1684f"), looks := false }, kinds := [], alts := [], laidByText := true, laidKinds := [.data], laidTests := true, laidLooks := .later }
def AluDoublesCardSaid : Prop := Claim7.holds Tryd.pinned (.plain (OpenSpec.ofChange aluDoublesSpec)) aluDoublesCard

/-- THE TIED CARD OF 'emulatorlaw10.AluSingles'. -/
def aluSinglesCard : Claim7 := { stood := { row := aluSinglesRow, standIns := [], harness := (true, "5e4e7a9ce903f5735d5a6f36b7005db37198f4ec89180837f6fb4a1b45c1684f"), looks := false }, kinds := [], alts := [], laidByText := true, laidKinds := [.data], laidTests := true, laidLooks := .later }
def AluSinglesCardSaid : Prop := Claim7.holds Tryd.pinned (.plain (OpenSpec.ofChange aluSinglesSpec)) aluSinglesCard

/-- THE TIED CARD OF 'emulatorlaw10.AluBranches'. -/
def aluBranchesCard : Claim7 := { stood := { row := aluBranchesRow, standIns := [], harness := (true, "5e4e7a9ce903f5735d5a6f36b7005db37198f4ec89180837f6fb4a1b45c1684f"), looks := false }, kinds := [], alts := [], laidByText := true, laidKinds := [.data], laidTests := true, laidLooks := .later }
def AluBranchesCardSaid : Prop := Claim7.holds Tryd.pinned (.plain (OpenSpec.ofChange aluBranchesSpec)) aluBranchesCard

/-- THE TIED CARD OF 'emulatorlaw10.AluLongs'. -/
def aluLongsCard : Claim7 := { stood := { row := aluLongsRow, standIns := [], harness := (true, "5e4e7a9ce903f5735d5a6f36b7005db37198f4ec89180837f6fb4a1b45c1684f"), looks := false }, kinds := [], alts := [], laidByText := true, laidKinds := [.data], laidTests := true, laidLooks := .later }
def AluLongsCardSaid : Prop := Claim7.holds Tryd.pinned (.plain (OpenSpec.ofChange aluLongsSpec)) aluLongsCard

/-- THE TIED CARD OF 'emulatorlaw10.AluPairs'. -/
def aluPairsCard : Claim7 := { stood := { row := aluPairsRow, standIns := [], harness := (true, "5e4e7a9ce903f5735d5a6f36b7005db37198f4ec89180837f6fb4a1b45c1684f"), looks := false }, kinds := [], alts := [], laidByText := true, laidKinds := [.data], laidTests := true, laidLooks := .later }
def AluPairsCardSaid : Prop := Claim7.holds Tryd.pinned (.plain (OpenSpec.ofChange aluPairsSpec)) aluPairsCard

/-- THE TIED CARD OF 'emulatorlaw10.AluCompares'. -/
def aluComparesCard : Claim7 := { stood := { row := aluComparesRow, standIns := [], harness := (true, "5e4e7a9ce903f5735d5a6f36b7005db37198f4ec89180837f6fb4a1b45c1684f"), looks := false }, kinds := [], alts := [], laidByText := true, laidKinds := [.data], laidTests := true, laidLooks := .later }
def AluComparesCardSaid : Prop := Claim7.holds Tryd.pinned (.plain (OpenSpec.ofChange aluComparesSpec)) aluComparesCard

/-- THE TIED CARD OF 'emulatorlaw10.AluUndo'. -/
def aluUndoCard : Claim7 := { stood := { row := aluUndoRow, standIns := [], harness := (true, "5e4e7a9ce903f5735d5a6f36b7005db37198f4ec89180837f6fb4a1b45c1684f"), looks := false }, kinds := [], alts := [], laidByText := true, laidKinds := [.data], laidTests := true, laidLooks := .later }
def AluUndoCardSaid : Prop := Claim7.holds Tryd.pinned (.plain (OpenSpec.ofChange aluUndoSpec)) aluUndoCard

/-- THE SECOND FORM's CARD OF 'emulatorlaw10.AluDoubles'. -/
def aluDoublesUptoCard : Claim7 := { stood := { row := aluDoublesUptoRow, standIns := [], harness := (true, "5e4e7a9ce903f5735d5a6f36b7005db37198f4ec89180837f6fb4a1b45c1684f"), looks := false }, kinds := [], alts := [], laidByText := true, laidKinds := [.data], laidTests := true, laidLooks := .later }
def AluDoublesUptoCardSaid : Prop := Claim7.holds Tryd.pinned (.plain (OpenSpec.upto aluDoublesSpec)) aluDoublesUptoCard

/-- THE SECOND FORM's CARD OF 'emulatorlaw10.AluSingles'. -/
def aluSinglesUptoCard : Claim7 := { stood := { row := aluSinglesUptoRow, standIns := [], harness := (true, "5e4e7a9ce903f5735d5a6f36b7005db37198f4ec89180837f6fb4a1b45c1684f"), looks := false }, kinds := [], alts := [], laidByText := true, laidKinds := [.data], laidTests := true, laidLooks := .later }
def AluSinglesUptoCardSaid : Prop := Claim7.holds Tryd.pinned (.plain (OpenSpec.upto aluSinglesSpec)) aluSinglesUptoCard

/-- THE SECOND FORM's CARD OF 'emulatorlaw10.AluBranches'. -/
def aluBranchesUptoCard : Claim7 := { stood := { row := aluBranchesUptoRow, standIns := [], harness := (true, "5e4e7a9ce903f5735d5a6f36b7005db37198f4ec89180837f6fb4a1b45c1684f"), looks := false }, kinds := [], alts := [], laidByText := true, laidKinds := [.data], laidTests := true, laidLooks := .later }
def AluBranchesUptoCardSaid : Prop := Claim7.holds Tryd.pinned (.plain (OpenSpec.upto aluBranchesSpec)) aluBranchesUptoCard

/-- THE SECOND FORM's CARD OF 'emulatorlaw10.AluLongs'. -/
def aluLongsUptoCard : Claim7 := { stood := { row := aluLongsUptoRow, standIns := [], harness := (true, "5e4e7a9ce903f5735d5a6f36b7005db37198f4ec89180837f6fb4a1b45c1684f"), looks := false }, kinds := [], alts := [], laidByText := true, laidKinds := [.data], laidTests := true, laidLooks := .later }
def AluLongsUptoCardSaid : Prop := Claim7.holds Tryd.pinned (.plain (OpenSpec.upto aluLongsSpec)) aluLongsUptoCard

/-- THE SECOND FORM's CARD OF 'emulatorlaw10.AluPairs'. -/
def aluPairsUptoCard : Claim7 := { stood := { row := aluPairsUptoRow, standIns := [], harness := (true, "5e4e7a9ce903f5735d5a6f36b7005db37198f4ec89180837f6fb4a1b45c1684f"), looks := false }, kinds := [], alts := [], laidByText := true, laidKinds := [.data], laidTests := true, laidLooks := .later }
def AluPairsUptoCardSaid : Prop := Claim7.holds Tryd.pinned (.plain (OpenSpec.upto aluPairsSpec)) aluPairsUptoCard

/-- THE SECOND FORM's CARD OF 'emulatorlaw10.AluCompares'. -/
def aluComparesUptoCard : Claim7 := { stood := { row := aluComparesUptoRow, standIns := [], harness := (true, "5e4e7a9ce903f5735d5a6f36b7005db37198f4ec89180837f6fb4a1b45c1684f"), looks := false }, kinds := [], alts := [], laidByText := true, laidKinds := [.data], laidTests := true, laidLooks := .later }
def AluComparesUptoCardSaid : Prop := Claim7.holds Tryd.pinned (.plain (OpenSpec.upto aluComparesSpec)) aluComparesUptoCard

/-- THE SECOND FORM's CARD OF 'emulatorlaw10.AluUndo'. -/
def aluUndoUptoCard : Claim7 := { stood := { row := aluUndoUptoRow, standIns := [], harness := (true, "5e4e7a9ce903f5735d5a6f36b7005db37198f4ec89180837f6fb4a1b45c1684f"), looks := false }, kinds := [], alts := [], laidByText := true, laidKinds := [.data], laidTests := true, laidLooks := .later }
def AluUndoUptoCardSaid : Prop := Claim7.holds Tryd.pinned (.plain (OpenSpec.upto aluUndoSpec)) aluUndoUptoCard
end Rows
end Go.Proofs.YtfeflghimnbhiaaDoor
