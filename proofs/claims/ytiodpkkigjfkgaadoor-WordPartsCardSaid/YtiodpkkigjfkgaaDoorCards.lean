/-
  DERIVED. GIVEN WITH THE SEED: THE CARDS: each row of YtiodpkkigjfkgaaDoorRows.lean that lists a variable, with what it lists TIED to the program's text (the seventh form; the later family's looks); each row that meets fmt, with fmt's text TOLD by the authors' own Lean function (tested against real Go, not proved from fmt's source: count such statements apart). THE CARD IS WHAT COUNTS. Prove the row's statement (the work); the ties are given (YtiodpkkigjfkgaaDoorTie.lean); close each card by the builder's one call (the guide's Derived/Test/ToyasCard.lean, 'card_holds'). Laid BY PROGRAM, IN A SANDBOX (cutbox-door.mjs). By AI agents, Wed Nov 11 2026. No macro, syntax, notation, axiom, sorry.
-/
import Derived.Test.YtiodpkkigjfkgaaDoorRows
import GoSem.ClaimSeven
namespace Go.Proofs.YtiodpkkigjfkgaaDoor
namespace Rows

/-- THE TIED CARD OF 'emulatorlaw01.WordSums'. -/
def wordSumsCard : Claim7 := { stood := { row := wordSumsRow, standIns := [], harness := (true, "874c55fd4a86fe7f6d4a9268559d1d9cb707bef43131629171272d701560afc5"), looks := false }, kinds := [], alts := [], laidByText := true, laidKinds := [.data], laidTests := true, laidLooks := .later }
def WordSumsCardSaid : Prop := Claim7.holds Tryd.pinned (.plain (OpenSpec.ofChange wordSumsSpec)) wordSumsCard

/-- THE TIED CARD OF 'emulatorlaw01.WordProducts'. -/
def wordProductsCard : Claim7 := { stood := { row := wordProductsRow, standIns := [], harness := (true, "874c55fd4a86fe7f6d4a9268559d1d9cb707bef43131629171272d701560afc5"), looks := false }, kinds := [], alts := [], laidByText := true, laidKinds := [.data], laidTests := true, laidLooks := .later }
def WordProductsCardSaid : Prop := Claim7.holds Tryd.pinned (.plain (OpenSpec.ofChange wordProductsSpec)) wordProductsCard

/-- THE TIED CARD OF 'emulatorlaw01.WordShifts'. -/
def wordShiftsCard : Claim7 := { stood := { row := wordShiftsRow, standIns := [], harness := (true, "874c55fd4a86fe7f6d4a9268559d1d9cb707bef43131629171272d701560afc5"), looks := false }, kinds := [], alts := [], laidByText := true, laidKinds := [.data], laidTests := true, laidLooks := .later }
def WordShiftsCardSaid : Prop := Claim7.holds Tryd.pinned (.plain (OpenSpec.ofChange wordShiftsSpec)) wordShiftsCard

/-- THE TIED CARD OF 'emulatorlaw01.WordRotates'. -/
def wordRotatesCard : Claim7 := { stood := { row := wordRotatesRow, standIns := [], harness := (true, "874c55fd4a86fe7f6d4a9268559d1d9cb707bef43131629171272d701560afc5"), looks := false }, kinds := [], alts := [], laidByText := true, laidKinds := [.data], laidTests := true, laidLooks := .later }
def WordRotatesCardSaid : Prop := Claim7.holds Tryd.pinned (.plain (OpenSpec.ofChange wordRotatesSpec)) wordRotatesCard

/-- THE TIED CARD OF 'emulatorlaw01.WordUndo'. -/
def wordUndoCard : Claim7 := { stood := { row := wordUndoRow, standIns := [], harness := (true, "874c55fd4a86fe7f6d4a9268559d1d9cb707bef43131629171272d701560afc5"), looks := false }, kinds := [], alts := [], laidByText := true, laidKinds := [.data], laidTests := true, laidLooks := .later }
def WordUndoCardSaid : Prop := Claim7.holds Tryd.pinned (.plain (OpenSpec.ofChange wordUndoSpec)) wordUndoCard

/-- THE TIED CARD OF 'emulatorlaw01.WordDivides'. -/
def wordDividesCard : Claim7 := { stood := { row := wordDividesRow, standIns := [], harness := (true, "874c55fd4a86fe7f6d4a9268559d1d9cb707bef43131629171272d701560afc5"), looks := false }, kinds := [], alts := [], laidByText := true, laidKinds := [.data], laidTests := true, laidLooks := .later }
def WordDividesCardSaid : Prop := Claim7.holds Tryd.pinned (.plain (OpenSpec.ofChange wordDividesSpec)) wordDividesCard

/-- THE TIED CARD OF 'emulatorlaw01.WordTurns'. -/
def wordTurnsCard : Claim7 := { stood := { row := wordTurnsRow, standIns := [], harness := (true, "874c55fd4a86fe7f6d4a9268559d1d9cb707bef43131629171272d701560afc5"), looks := false }, kinds := [], alts := [], laidByText := true, laidKinds := [.data], laidTests := true, laidLooks := .later }
def WordTurnsCardSaid : Prop := Claim7.holds Tryd.pinned (.plain (OpenSpec.ofChange wordTurnsSpec)) wordTurnsCard

/-- THE TIED CARD OF 'emulatorlaw01.WordParts'. -/
def wordPartsCard : Claim7 := { stood := { row := wordPartsRow, standIns := [], harness := (true, "874c55fd4a86fe7f6d4a9268559d1d9cb707bef43131629171272d701560afc5"), looks := false }, kinds := [], alts := [], laidByText := true, laidKinds := [.data], laidTests := true, laidLooks := .later }
def WordPartsCardSaid : Prop := Claim7.holds Tryd.pinned (.plain (OpenSpec.ofChange wordPartsSpec)) wordPartsCard

/-- THE SECOND FORM's CARD OF 'emulatorlaw01.WordSums'. -/
def wordSumsUptoCard : Claim7 := { stood := { row := wordSumsUptoRow, standIns := [], harness := (true, "874c55fd4a86fe7f6d4a9268559d1d9cb707bef43131629171272d701560afc5"), looks := false }, kinds := [], alts := [], laidByText := true, laidKinds := [.data], laidTests := true, laidLooks := .later }
def WordSumsUptoCardSaid : Prop := Claim7.holds Tryd.pinned (.plain (OpenSpec.upto wordSumsSpec)) wordSumsUptoCard

/-- THE SECOND FORM's CARD OF 'emulatorlaw01.WordProducts'. -/
def wordProductsUptoCard : Claim7 := { stood := { row := wordProductsUptoRow, standIns := [], harness := (true, "874c55fd4a86fe7f6d4a9268559d1d9cb707bef43131629171272d701560afc5"), looks := false }, kinds := [], alts := [], laidByText := true, laidKinds := [.data], laidTests := true, laidLooks := .later }
def WordProductsUptoCardSaid : Prop := Claim7.holds Tryd.pinned (.plain (OpenSpec.upto wordProductsSpec)) wordProductsUptoCard

/-- THE SECOND FORM's CARD OF 'emulatorlaw01.WordShifts'. -/
def wordShiftsUptoCard : Claim7 := { stood := { row := wordShiftsUptoRow, standIns := [], harness := (true, "874c55fd4a86fe7f6d4a9268559d1d9cb707bef43131629171272d701560afc5"), looks := false }, kinds := [], alts := [], laidByText := true, laidKinds := [.data], laidTests := true, laidLooks := .later }
def WordShiftsUptoCardSaid : Prop := Claim7.holds Tryd.pinned (.plain (OpenSpec.upto wordShiftsSpec)) wordShiftsUptoCard

/-- THE SECOND FORM's CARD OF 'emulatorlaw01.WordRotates'. -/
def wordRotatesUptoCard : Claim7 := { stood := { row := wordRotatesUptoRow, standIns := [], harness := (true, "874c55fd4a86fe7f6d4a9268559d1d9cb707bef43131629171272d701560afc5"), looks := false }, kinds := [], alts := [], laidByText := true, laidKinds := [.data], laidTests := true, laidLooks := .later }
def WordRotatesUptoCardSaid : Prop := Claim7.holds Tryd.pinned (.plain (OpenSpec.upto wordRotatesSpec)) wordRotatesUptoCard

/-- THE SECOND FORM's CARD OF 'emulatorlaw01.WordUndo'. -/
def wordUndoUptoCard : Claim7 := { stood := { row := wordUndoUptoRow, standIns := [], harness := (true, "874c55fd4a86fe7f6d4a9268559d1d9cb707bef43131629171272d701560afc5"), looks := false }, kinds := [], alts := [], laidByText := true, laidKinds := [.data], laidTests := true, laidLooks := .later }
def WordUndoUptoCardSaid : Prop := Claim7.holds Tryd.pinned (.plain (OpenSpec.upto wordUndoSpec)) wordUndoUptoCard

/-- THE SECOND FORM's CARD OF 'emulatorlaw01.WordDivides'. -/
def wordDividesUptoCard : Claim7 := { stood := { row := wordDividesUptoRow, standIns := [], harness := (true, "874c55fd4a86fe7f6d4a9268559d1d9cb707bef43131629171272d701560afc5"), looks := false }, kinds := [], alts := [], laidByText := true, laidKinds := [.data], laidTests := true, laidLooks := .later }
def WordDividesUptoCardSaid : Prop := Claim7.holds Tryd.pinned (.plain (OpenSpec.upto wordDividesSpec)) wordDividesUptoCard

/-- THE SECOND FORM's CARD OF 'emulatorlaw01.WordTurns'. -/
def wordTurnsUptoCard : Claim7 := { stood := { row := wordTurnsUptoRow, standIns := [], harness := (true, "874c55fd4a86fe7f6d4a9268559d1d9cb707bef43131629171272d701560afc5"), looks := false }, kinds := [], alts := [], laidByText := true, laidKinds := [.data], laidTests := true, laidLooks := .later }
def WordTurnsUptoCardSaid : Prop := Claim7.holds Tryd.pinned (.plain (OpenSpec.upto wordTurnsSpec)) wordTurnsUptoCard

/-- THE SECOND FORM's CARD OF 'emulatorlaw01.WordParts'. -/
def wordPartsUptoCard : Claim7 := { stood := { row := wordPartsUptoRow, standIns := [], harness := (true, "874c55fd4a86fe7f6d4a9268559d1d9cb707bef43131629171272d701560afc5"), looks := false }, kinds := [], alts := [], laidByText := true, laidKinds := [.data], laidTests := true, laidLooks := .later }
def WordPartsUptoCardSaid : Prop := Claim7.holds Tryd.pinned (.plain (OpenSpec.upto wordPartsSpec)) wordPartsUptoCard
end Rows
end Go.Proofs.YtiodpkkigjfkgaaDoor
