/-
  DERIVED. GIVEN WITH THE SEED: THE CARDS: each row of YtokpagopokkjfaaDoorRows.lean that lists a variable, with what it lists TIED to the program's text (the seventh form; the later family's looks); each row that meets fmt, with fmt's text TOLD by the authors' own Lean function (tested against real Go, not proved from fmt's source: count such statements apart). THE CARD IS WHAT COUNTS. Prove the row's statement (the work); the ties are given (YtokpagopokkjfaaDoorTie.lean); close each card by the builder's one call (the guide's Derived/Test/ToyasCard.lean, 'card_holds'). Laid BY PROGRAM, IN A SANDBOX (cutbox-door.mjs). By AI agents, Wed Nov 11 2026. No macro, syntax, notation, axiom, sorry.
-/
import Derived.Test.YtokpagopokkjfaaDoorRows
import GoSem.ClaimSeven
namespace Go.Proofs.YtokpagopokkjfaaDoor
namespace Rows

/-- THE TIED CARD OF 'laws.FnExactQueueOk'. -/
def fnExactQueueOkCard : Claim7 := { stood := { row := fnExactQueueOkRow, standIns := [], harness := (true, "3e8b0574fe5db15549d8aea0a85f8702fd1afed0771e933f51f11ea3c55ce86c"), looks := false }, kinds := [], alts := [], laidByText := true, laidKinds := [.sentinel], laidTests := true, laidLooks := .later }
def FnExactQueueOkCardSaid : Prop := Claim7.holds Tryd.pinned (.plain (OpenSpec.ofChange fnExactQueueOkSpec)) fnExactQueueOkCard

/-- THE TIED CARD OF 'laws.FnExactQueuePut'. -/
def fnExactQueuePutCard : Claim7 := { stood := { row := fnExactQueuePutRow, standIns := [], harness := (true, "3e8b0574fe5db15549d8aea0a85f8702fd1afed0771e933f51f11ea3c55ce86c"), looks := false }, kinds := [], alts := [], laidByText := true, laidKinds := [.sentinel], laidTests := true, laidLooks := .later }
def FnExactQueuePutCardSaid : Prop := Claim7.holds Tryd.pinned (.plain (OpenSpec.ofChange fnExactQueuePutSpec)) fnExactQueuePutCard

/-- THE TIED CARD OF 'laws.FnQueuePut'. -/
def fnQueuePutCard : Claim7 := { stood := { row := fnQueuePutRow, standIns := [], harness := (true, "3e8b0574fe5db15549d8aea0a85f8702fd1afed0771e933f51f11ea3c55ce86c"), looks := false }, kinds := [], alts := [], laidByText := true, laidKinds := [.sentinel], laidTests := true, laidLooks := .later }
def FnQueuePutCardSaid : Prop := Claim7.holds Tryd.pinned (.plain (OpenSpec.ofChange fnQueuePutSpec)) fnQueuePutCard

/-- THE TIED CARD OF 'laws.FnExactQueueFill'. -/
def fnExactQueueFillCard : Claim7 := { stood := { row := fnExactQueueFillRow, standIns := [], harness := (true, "3e8b0574fe5db15549d8aea0a85f8702fd1afed0771e933f51f11ea3c55ce86c"), looks := false }, kinds := [], alts := [], laidByText := true, laidKinds := [.sentinel], laidTests := true, laidLooks := .later }
def FnExactQueueFillCardSaid : Prop := Claim7.holds Tryd.pinned (.plain (OpenSpec.ofChange fnExactQueueFillSpec)) fnExactQueueFillCard

/-- THE TIED CARD OF 'laws.FnQueueIdle'. -/
def fnQueueIdleCard : Claim7 := { stood := { row := fnQueueIdleRow, standIns := [], harness := (true, "3e8b0574fe5db15549d8aea0a85f8702fd1afed0771e933f51f11ea3c55ce86c"), looks := false }, kinds := [], alts := [], laidByText := true, laidKinds := [.sentinel], laidTests := true, laidLooks := .later }
def FnQueueIdleCardSaid : Prop := Claim7.holds Tryd.pinned (.plain (OpenSpec.ofChange fnQueueIdleSpec)) fnQueueIdleCard

/-- THE TIED CARD OF 'laws.FnQueueAll'. -/
def fnQueueAllCard : Claim7 := { stood := { row := fnQueueAllRow, standIns := [], harness := (true, "3e8b0574fe5db15549d8aea0a85f8702fd1afed0771e933f51f11ea3c55ce86c"), looks := false }, kinds := [], alts := [], laidByText := true, laidKinds := [.sentinel], laidTests := true, laidLooks := .later }
def FnQueueAllCardSaid : Prop := Claim7.holds Tryd.pinned (.plain (OpenSpec.ofChange fnQueueAllSpec)) fnQueueAllCard

/-- THE SECOND FORM's CARD OF 'laws.FnExactQueueOk'. -/
def fnExactQueueOkUptoCard : Claim7 := { stood := { row := fnExactQueueOkUptoRow, standIns := [], harness := (true, "3e8b0574fe5db15549d8aea0a85f8702fd1afed0771e933f51f11ea3c55ce86c"), looks := false }, kinds := [], alts := [], laidByText := true, laidKinds := [.sentinel], laidTests := true, laidLooks := .later }
def FnExactQueueOkUptoCardSaid : Prop := Claim7.holds Tryd.pinned (.plain (OpenSpec.upto fnExactQueueOkSpec)) fnExactQueueOkUptoCard

/-- THE SECOND FORM's CARD OF 'laws.FnExactQueuePut'. -/
def fnExactQueuePutUptoCard : Claim7 := { stood := { row := fnExactQueuePutUptoRow, standIns := [], harness := (true, "3e8b0574fe5db15549d8aea0a85f8702fd1afed0771e933f51f11ea3c55ce86c"), looks := false }, kinds := [], alts := [], laidByText := true, laidKinds := [.sentinel], laidTests := true, laidLooks := .later }
def FnExactQueuePutUptoCardSaid : Prop := Claim7.holds Tryd.pinned (.plain (OpenSpec.upto fnExactQueuePutSpec)) fnExactQueuePutUptoCard

/-- THE SECOND FORM's CARD OF 'laws.FnQueuePut'. -/
def fnQueuePutUptoCard : Claim7 := { stood := { row := fnQueuePutUptoRow, standIns := [], harness := (true, "3e8b0574fe5db15549d8aea0a85f8702fd1afed0771e933f51f11ea3c55ce86c"), looks := false }, kinds := [], alts := [], laidByText := true, laidKinds := [.sentinel], laidTests := true, laidLooks := .later }
def FnQueuePutUptoCardSaid : Prop := Claim7.holds Tryd.pinned (.plain (OpenSpec.upto fnQueuePutSpec)) fnQueuePutUptoCard

/-- THE SECOND FORM's CARD OF 'laws.FnExactQueueFill'. -/
def fnExactQueueFillUptoCard : Claim7 := { stood := { row := fnExactQueueFillUptoRow, standIns := [], harness := (true, "3e8b0574fe5db15549d8aea0a85f8702fd1afed0771e933f51f11ea3c55ce86c"), looks := false }, kinds := [], alts := [], laidByText := true, laidKinds := [.sentinel], laidTests := true, laidLooks := .later }
def FnExactQueueFillUptoCardSaid : Prop := Claim7.holds Tryd.pinned (.plain (OpenSpec.upto fnExactQueueFillSpec)) fnExactQueueFillUptoCard

/-- THE SECOND FORM's CARD OF 'laws.FnQueueIdle'. -/
def fnQueueIdleUptoCard : Claim7 := { stood := { row := fnQueueIdleUptoRow, standIns := [], harness := (true, "3e8b0574fe5db15549d8aea0a85f8702fd1afed0771e933f51f11ea3c55ce86c"), looks := false }, kinds := [], alts := [], laidByText := true, laidKinds := [.sentinel], laidTests := true, laidLooks := .later }
def FnQueueIdleUptoCardSaid : Prop := Claim7.holds Tryd.pinned (.plain (OpenSpec.upto fnQueueIdleSpec)) fnQueueIdleUptoCard

/-- THE SECOND FORM's CARD OF 'laws.FnQueueAll'. -/
def fnQueueAllUptoCard : Claim7 := { stood := { row := fnQueueAllUptoRow, standIns := [], harness := (true, "3e8b0574fe5db15549d8aea0a85f8702fd1afed0771e933f51f11ea3c55ce86c"), looks := false }, kinds := [], alts := [], laidByText := true, laidKinds := [.sentinel], laidTests := true, laidLooks := .later }
def FnQueueAllUptoCardSaid : Prop := Claim7.holds Tryd.pinned (.plain (OpenSpec.upto fnQueueAllSpec)) fnQueueAllUptoCard
end Rows
end Go.Proofs.YtokpagopokkjfaaDoor
