/-
  DERIVED. GIVEN WITH THE SEED: THE CARDS: each row of YtcenmlpfbpogoaaDoorRows.lean that lists a variable, with what it lists TIED to the program's text (the seventh form; the later family's looks); each row that meets fmt, with fmt's text TOLD by the authors' own Lean function (tested against real Go, not proved from fmt's source: count such statements apart). THE CARD IS WHAT COUNTS. Prove the row's statement (the work); the ties are given (YtcenmlpfbpogoaaDoorTie.lean); close each card by the builder's one call (the guide's Derived/Test/ToyasCard.lean, 'card_holds'). Laid BY PROGRAM, IN A SANDBOX (cutbox-door.mjs). By AI agents, Wed Nov 11 2026. No macro, syntax, notation, axiom, sorry.
-/
import Derived.Test.YtcenmlpfbpogoaaDoorRows
import GoSem.ClaimSeven
namespace Go.Proofs.YtcenmlpfbpogoaaDoor
namespace Rows

/-- THE TIED CARD OF 'laws.FnExactConfTurn'. -/
def fnExactConfTurnCard : Claim7 := { stood := { row := fnExactConfTurnRow, standIns := [], harness := (true, "2733a8a50645680700ca6af221c6766ad0ba4057d74fbed21c47065ff8b50bcf"), looks := true }, kinds := [], alts := [], laidByText := true, laidKinds := [.handle], laidTests := true, laidLooks := .later }
def FnExactConfTurnCardSaid : Prop := Claim7.holds Tryd.pinned (.plain (OpenSpec.ofChange fnExactConfTurnSpec)) fnExactConfTurnCard

/-- THE TIED CARD OF 'laws.FnConfCheck'. -/
def fnConfCheckCard : Claim7 := { stood := { row := fnConfCheckRow, standIns := [], harness := (true, "2733a8a50645680700ca6af221c6766ad0ba4057d74fbed21c47065ff8b50bcf"), looks := true }, kinds := [], alts := [], laidByText := true, laidKinds := [.handle], laidTests := true, laidLooks := .later }
def FnConfCheckCardSaid : Prop := Claim7.holds Tryd.pinned (.plain (OpenSpec.ofChange fnConfCheckSpec)) fnConfCheckCard

/-- THE TIED CARD OF 'laws.FnConfPart'. -/
def fnConfPartCard : Claim7 := { stood := { row := fnConfPartRow, standIns := [], harness := (true, "2733a8a50645680700ca6af221c6766ad0ba4057d74fbed21c47065ff8b50bcf"), looks := true }, kinds := [], alts := [], laidByText := true, laidKinds := [.handle], laidTests := true, laidLooks := .later }
def FnConfPartCardSaid : Prop := Claim7.holds Tryd.pinned (.plain (OpenSpec.ofChange fnConfPartSpec)) fnConfPartCard

/-- THE TIED CARD OF 'laws.FnConfTurn'. -/
def fnConfTurnCard : Claim7 := { stood := { row := fnConfTurnRow, standIns := [], harness := (true, "2733a8a50645680700ca6af221c6766ad0ba4057d74fbed21c47065ff8b50bcf"), looks := true }, kinds := [], alts := [], laidByText := true, laidKinds := [.handle], laidTests := true, laidLooks := .later }
def FnConfTurnCardSaid : Prop := Claim7.holds Tryd.pinned (.plain (OpenSpec.ofChange fnConfTurnSpec)) fnConfTurnCard

/-- THE TIED CARD OF 'laws.FnExactConfCheck'. -/
def fnExactConfCheckCard : Claim7 := { stood := { row := fnExactConfCheckRow, standIns := [], harness := (true, "2733a8a50645680700ca6af221c6766ad0ba4057d74fbed21c47065ff8b50bcf"), looks := true }, kinds := [], alts := [], laidByText := true, laidKinds := [.handle], laidTests := true, laidLooks := .later }
def FnExactConfCheckCardSaid : Prop := Claim7.holds Tryd.pinned (.plain (OpenSpec.ofChange fnExactConfCheckSpec)) fnExactConfCheckCard

/-- THE TIED CARD OF 'laws.FnExactConfPart'. -/
def fnExactConfPartCard : Claim7 := { stood := { row := fnExactConfPartRow, standIns := [], harness := (true, "2733a8a50645680700ca6af221c6766ad0ba4057d74fbed21c47065ff8b50bcf"), looks := true }, kinds := [], alts := [], laidByText := true, laidKinds := [.handle], laidTests := true, laidLooks := .later }
def FnExactConfPartCardSaid : Prop := Claim7.holds Tryd.pinned (.plain (OpenSpec.ofChange fnExactConfPartSpec)) fnExactConfPartCard

/-- THE SECOND FORM's CARD OF 'laws.FnExactConfTurn'. -/
def fnExactConfTurnUptoCard : Claim7 := { stood := { row := fnExactConfTurnUptoRow, standIns := [], harness := (true, "2733a8a50645680700ca6af221c6766ad0ba4057d74fbed21c47065ff8b50bcf"), looks := true }, kinds := [], alts := [], laidByText := true, laidKinds := [.handle], laidTests := true, laidLooks := .later }
def FnExactConfTurnUptoCardSaid : Prop := Claim7.holds Tryd.pinned (.plain (OpenSpec.upto fnExactConfTurnSpec)) fnExactConfTurnUptoCard

/-- THE SECOND FORM's CARD OF 'laws.FnConfCheck'. -/
def fnConfCheckUptoCard : Claim7 := { stood := { row := fnConfCheckUptoRow, standIns := [], harness := (true, "2733a8a50645680700ca6af221c6766ad0ba4057d74fbed21c47065ff8b50bcf"), looks := true }, kinds := [], alts := [], laidByText := true, laidKinds := [.handle], laidTests := true, laidLooks := .later }
def FnConfCheckUptoCardSaid : Prop := Claim7.holds Tryd.pinned (.plain (OpenSpec.upto fnConfCheckSpec)) fnConfCheckUptoCard

/-- THE SECOND FORM's CARD OF 'laws.FnConfPart'. -/
def fnConfPartUptoCard : Claim7 := { stood := { row := fnConfPartUptoRow, standIns := [], harness := (true, "2733a8a50645680700ca6af221c6766ad0ba4057d74fbed21c47065ff8b50bcf"), looks := true }, kinds := [], alts := [], laidByText := true, laidKinds := [.handle], laidTests := true, laidLooks := .later }
def FnConfPartUptoCardSaid : Prop := Claim7.holds Tryd.pinned (.plain (OpenSpec.upto fnConfPartSpec)) fnConfPartUptoCard

/-- THE SECOND FORM's CARD OF 'laws.FnConfTurn'. -/
def fnConfTurnUptoCard : Claim7 := { stood := { row := fnConfTurnUptoRow, standIns := [], harness := (true, "2733a8a50645680700ca6af221c6766ad0ba4057d74fbed21c47065ff8b50bcf"), looks := true }, kinds := [], alts := [], laidByText := true, laidKinds := [.handle], laidTests := true, laidLooks := .later }
def FnConfTurnUptoCardSaid : Prop := Claim7.holds Tryd.pinned (.plain (OpenSpec.upto fnConfTurnSpec)) fnConfTurnUptoCard

/-- THE SECOND FORM's CARD OF 'laws.FnExactConfCheck'. -/
def fnExactConfCheckUptoCard : Claim7 := { stood := { row := fnExactConfCheckUptoRow, standIns := [], harness := (true, "2733a8a50645680700ca6af221c6766ad0ba4057d74fbed21c47065ff8b50bcf"), looks := true }, kinds := [], alts := [], laidByText := true, laidKinds := [.handle], laidTests := true, laidLooks := .later }
def FnExactConfCheckUptoCardSaid : Prop := Claim7.holds Tryd.pinned (.plain (OpenSpec.upto fnExactConfCheckSpec)) fnExactConfCheckUptoCard

/-- THE SECOND FORM's CARD OF 'laws.FnExactConfPart'. -/
def fnExactConfPartUptoCard : Claim7 := { stood := { row := fnExactConfPartUptoRow, standIns := [], harness := (true, "2733a8a50645680700ca6af221c6766ad0ba4057d74fbed21c47065ff8b50bcf"), looks := true }, kinds := [], alts := [], laidByText := true, laidKinds := [.handle], laidTests := true, laidLooks := .later }
def FnExactConfPartUptoCardSaid : Prop := Claim7.holds Tryd.pinned (.plain (OpenSpec.upto fnExactConfPartSpec)) fnExactConfPartUptoCard
end Rows
end Go.Proofs.YtcenmlpfbpogoaaDoor
