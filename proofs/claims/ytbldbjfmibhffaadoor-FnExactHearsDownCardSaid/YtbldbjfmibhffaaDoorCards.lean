/-
  DERIVED. GIVEN WITH THE SEED: THE CARDS: each row of YtbldbjfmibhffaaDoorRows.lean that lists a variable, with what it lists TIED to the program's text (the seventh form; the later family's looks); each row that meets fmt, with fmt's text TOLD by the authors' own Lean function (tested against real Go, not proved from fmt's source: count such statements apart). THE CARD IS WHAT COUNTS. Prove the row's statement (the work); the ties are given (YtbldbjfmibhffaaDoorTie.lean); close each card by the builder's one call (the guide's Derived/Test/ToyasCard.lean, 'card_holds'). Laid BY PROGRAM, IN A SANDBOX (cutbox-door.mjs). By AI agents, Wed Nov 11 2026. No macro, syntax, notation, axiom, sorry.
-/
import Derived.Test.YtbldbjfmibhffaaDoorRows
import GoSem.ClaimSeven
namespace Go.Proofs.YtbldbjfmibhffaaDoor
namespace Rows

/-- THE TIED CARD OF 'laws.FnExactHearsDown'. -/
def fnExactHearsDownCard : Claim7 := { stood := { row := fnExactHearsDownRow, standIns := [], harness := (true, "967716d183ede0579992dbe99159dca435614f6d94c598193e8400f16f9e6013"), looks := false }, kinds := [], alts := [], laidByText := true, laidKinds := [.sentinel], laidTests := true, laidLooks := .later }
def FnExactHearsDownCardSaid : Prop := Claim7.holds Tryd.pinned (.plain (OpenSpec.ofChange fnExactHearsDownSpec)) fnExactHearsDownCard

/-- THE SECOND FORM's CARD OF 'laws.FnExactHearsDown'. -/
def fnExactHearsDownUptoCard : Claim7 := { stood := { row := fnExactHearsDownUptoRow, standIns := [], harness := (true, "967716d183ede0579992dbe99159dca435614f6d94c598193e8400f16f9e6013"), looks := false }, kinds := [], alts := [], laidByText := true, laidKinds := [.sentinel], laidTests := true, laidLooks := .later }
def FnExactHearsDownUptoCardSaid : Prop := Claim7.holds Tryd.pinned (.plain (OpenSpec.upto fnExactHearsDownSpec)) fnExactHearsDownUptoCard
end Rows
end Go.Proofs.YtbldbjfmibhffaaDoor
