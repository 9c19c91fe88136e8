/-
  DERIVED. GIVEN WITH THE SEED: THE CARDS: each row of YtpehnincnpnggaaDoorRows.lean that lists a variable, with what it lists TIED to the program's text (the seventh form; the later family's looks); each row that meets fmt, with fmt's text TOLD by the authors' own Lean function (tested against real Go, not proved from fmt's source: count such statements apart). THE CARD IS WHAT COUNTS. Prove the row's statement (the work); the ties are given (YtpehnincnpnggaaDoorTie.lean); close each card by the builder's one call (the guide's Derived/Test/ToyasCard.lean, 'card_holds'). Laid BY PROGRAM, IN A SANDBOX (cutbox-door.mjs). By AI agents, Wed Nov 11 2026. No macro, syntax, notation, axiom, sorry.
-/
import Derived.Test.YtpehnincnpnggaaDoorRows
import GoSem.ClaimSeven
namespace Go.Proofs.YtpehnincnpnggaaDoor
namespace Rows

/-- THE TIED CARD OF 'laws.FnCmdByte'. -/
def fnCmdByteCard : Claim7 := { stood := { row := fnCmdByteRow, standIns := [], harness := (true, "83974a92cb05dd2f549781d8682e54f5ec079c651e064049089120c26ef529d7"), looks := false }, kinds := [], alts := [], laidByText := true, laidKinds := [.sentinel], laidTests := true, laidLooks := .later }
def FnCmdByteCardSaid : Prop := Claim7.holds Tryd.pinned (.plain (OpenSpec.ofChange fnCmdByteSpec)) fnCmdByteCard

/-- THE SECOND FORM's CARD OF 'laws.FnCmdByte'. -/
def fnCmdByteUptoCard : Claim7 := { stood := { row := fnCmdByteUptoRow, standIns := [], harness := (true, "83974a92cb05dd2f549781d8682e54f5ec079c651e064049089120c26ef529d7"), looks := false }, kinds := [], alts := [], laidByText := true, laidKinds := [.sentinel], laidTests := true, laidLooks := .later }
def FnCmdByteUptoCardSaid : Prop := Claim7.holds Tryd.pinned (.plain (OpenSpec.upto fnCmdByteSpec)) fnCmdByteUptoCard
end Rows
end Go.Proofs.YtpehnincnpnggaaDoor
