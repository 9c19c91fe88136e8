/-
  DERIVED. GIVEN WITH THE SEED: THE CARDS: each row of YtllchgipnfdneaaDoorRows.lean that lists a variable, with what it lists TIED to the program's text (the seventh form; the later family's looks); each row that meets fmt, with fmt's text TOLD by the authors' own Lean function (tested against real Go, not proved from fmt's source: count such statements apart). THE CARD IS WHAT COUNTS. Prove the row's statement (the work); the ties are given (YtllchgipnfdneaaDoorTie.lean); close each card by the builder's one call (the guide's Derived/Test/ToyasCard.lean, 'card_holds'). Laid BY PROGRAM, IN A SANDBOX (cutbox-door.mjs). By AI agents, Wed Nov 11 2026. No macro, syntax, notation, axiom, sorry.
-/
import Derived.Test.YtllchgipnfdneaaDoorRows
import GoSem.ClaimSeven
namespace Go.Proofs.YtllchgipnfdneaaDoor
namespace Rows

/-- THE TIED CARD OF 'laws.FnExactPacketGet'. -/
def fnExactPacketGetCard : Claim7 := { stood := { row := fnExactPacketGetRow, standIns := [], harness := (true, "9480b4e21c098445d385b4c970361a51f8b62f6b8781d98ff218a113d3c5d059"), looks := false }, kinds := [], alts := [], laidByText := true, laidKinds := [.sentinel], laidTests := true, laidLooks := .later }
def FnExactPacketGetCardSaid : Prop := Claim7.holds Tryd.pinned (.plain (OpenSpec.ofChange fnExactPacketGetSpec)) fnExactPacketGetCard

/-- THE TIED CARD OF 'laws.FnPacketBack'. -/
def fnPacketBackCard : Claim7 := { stood := { row := fnPacketBackRow, standIns := [], harness := (true, "9480b4e21c098445d385b4c970361a51f8b62f6b8781d98ff218a113d3c5d059"), looks := false }, kinds := [], alts := [], laidByText := true, laidKinds := [.sentinel], laidTests := true, laidLooks := .later }
def FnPacketBackCardSaid : Prop := Claim7.holds Tryd.pinned (.plain (OpenSpec.ofChange fnPacketBackSpec)) fnPacketBackCard

/-- THE TIED CARD OF 'laws.FnExactRepGet'. -/
def fnExactRepGetCard : Claim7 := { stood := { row := fnExactRepGetRow, standIns := [], harness := (true, "9480b4e21c098445d385b4c970361a51f8b62f6b8781d98ff218a113d3c5d059"), looks := false }, kinds := [], alts := [], laidByText := true, laidKinds := [.sentinel], laidTests := true, laidLooks := .later }
def FnExactRepGetCardSaid : Prop := Claim7.holds Tryd.pinned (.plain (OpenSpec.ofChange fnExactRepGetSpec)) fnExactRepGetCard

/-- THE TIED CARD OF 'laws.FnRepBack'. -/
def fnRepBackCard : Claim7 := { stood := { row := fnRepBackRow, standIns := [], harness := (true, "9480b4e21c098445d385b4c970361a51f8b62f6b8781d98ff218a113d3c5d059"), looks := false }, kinds := [], alts := [], laidByText := true, laidKinds := [.sentinel], laidTests := true, laidLooks := .later }
def FnRepBackCardSaid : Prop := Claim7.holds Tryd.pinned (.plain (OpenSpec.ofChange fnRepBackSpec)) fnRepBackCard

/-- THE TIED CARD OF 'laws.FnExactCmdGet'. -/
def fnExactCmdGetCard : Claim7 := { stood := { row := fnExactCmdGetRow, standIns := [], harness := (true, "9480b4e21c098445d385b4c970361a51f8b62f6b8781d98ff218a113d3c5d059"), looks := false }, kinds := [], alts := [], laidByText := true, laidKinds := [.sentinel], laidTests := true, laidLooks := .later }
def FnExactCmdGetCardSaid : Prop := Claim7.holds Tryd.pinned (.plain (OpenSpec.ofChange fnExactCmdGetSpec)) fnExactCmdGetCard

/-- THE TIED CARD OF 'laws.FnCmdByte'. -/
def fnCmdByteCard : Claim7 := { stood := { row := fnCmdByteRow, standIns := [], harness := (true, "9480b4e21c098445d385b4c970361a51f8b62f6b8781d98ff218a113d3c5d059"), looks := false }, kinds := [], alts := [], laidByText := true, laidKinds := [.sentinel], laidTests := true, laidLooks := .later }
def FnCmdByteCardSaid : Prop := Claim7.holds Tryd.pinned (.plain (OpenSpec.ofChange fnCmdByteSpec)) fnCmdByteCard

/-- THE TIED CARD OF 'laws.FnCmdBack'. -/
def fnCmdBackCard : Claim7 := { stood := { row := fnCmdBackRow, standIns := [], harness := (true, "9480b4e21c098445d385b4c970361a51f8b62f6b8781d98ff218a113d3c5d059"), looks := false }, kinds := [], alts := [], laidByText := true, laidKinds := [.sentinel], laidTests := true, laidLooks := .later }
def FnCmdBackCardSaid : Prop := Claim7.holds Tryd.pinned (.plain (OpenSpec.ofChange fnCmdBackSpec)) fnCmdBackCard

/-- THE SECOND FORM's CARD OF 'laws.FnExactPacketGet'. -/
def fnExactPacketGetUptoCard : Claim7 := { stood := { row := fnExactPacketGetUptoRow, standIns := [], harness := (true, "9480b4e21c098445d385b4c970361a51f8b62f6b8781d98ff218a113d3c5d059"), looks := false }, kinds := [], alts := [], laidByText := true, laidKinds := [.sentinel], laidTests := true, laidLooks := .later }
def FnExactPacketGetUptoCardSaid : Prop := Claim7.holds Tryd.pinned (.plain (OpenSpec.upto fnExactPacketGetSpec)) fnExactPacketGetUptoCard

/-- THE SECOND FORM's CARD OF 'laws.FnPacketBack'. -/
def fnPacketBackUptoCard : Claim7 := { stood := { row := fnPacketBackUptoRow, standIns := [], harness := (true, "9480b4e21c098445d385b4c970361a51f8b62f6b8781d98ff218a113d3c5d059"), looks := false }, kinds := [], alts := [], laidByText := true, laidKinds := [.sentinel], laidTests := true, laidLooks := .later }
def FnPacketBackUptoCardSaid : Prop := Claim7.holds Tryd.pinned (.plain (OpenSpec.upto fnPacketBackSpec)) fnPacketBackUptoCard

/-- THE SECOND FORM's CARD OF 'laws.FnExactRepGet'. -/
def fnExactRepGetUptoCard : Claim7 := { stood := { row := fnExactRepGetUptoRow, standIns := [], harness := (true, "9480b4e21c098445d385b4c970361a51f8b62f6b8781d98ff218a113d3c5d059"), looks := false }, kinds := [], alts := [], laidByText := true, laidKinds := [.sentinel], laidTests := true, laidLooks := .later }
def FnExactRepGetUptoCardSaid : Prop := Claim7.holds Tryd.pinned (.plain (OpenSpec.upto fnExactRepGetSpec)) fnExactRepGetUptoCard

/-- THE SECOND FORM's CARD OF 'laws.FnRepBack'. -/
def fnRepBackUptoCard : Claim7 := { stood := { row := fnRepBackUptoRow, standIns := [], harness := (true, "9480b4e21c098445d385b4c970361a51f8b62f6b8781d98ff218a113d3c5d059"), looks := false }, kinds := [], alts := [], laidByText := true, laidKinds := [.sentinel], laidTests := true, laidLooks := .later }
def FnRepBackUptoCardSaid : Prop := Claim7.holds Tryd.pinned (.plain (OpenSpec.upto fnRepBackSpec)) fnRepBackUptoCard

/-- THE SECOND FORM's CARD OF 'laws.FnExactCmdGet'. -/
def fnExactCmdGetUptoCard : Claim7 := { stood := { row := fnExactCmdGetUptoRow, standIns := [], harness := (true, "9480b4e21c098445d385b4c970361a51f8b62f6b8781d98ff218a113d3c5d059"), looks := false }, kinds := [], alts := [], laidByText := true, laidKinds := [.sentinel], laidTests := true, laidLooks := .later }
def FnExactCmdGetUptoCardSaid : Prop := Claim7.holds Tryd.pinned (.plain (OpenSpec.upto fnExactCmdGetSpec)) fnExactCmdGetUptoCard

/-- THE SECOND FORM's CARD OF 'laws.FnCmdByte'. -/
def fnCmdByteUptoCard : Claim7 := { stood := { row := fnCmdByteUptoRow, standIns := [], harness := (true, "9480b4e21c098445d385b4c970361a51f8b62f6b8781d98ff218a113d3c5d059"), looks := false }, kinds := [], alts := [], laidByText := true, laidKinds := [.sentinel], laidTests := true, laidLooks := .later }
def FnCmdByteUptoCardSaid : Prop := Claim7.holds Tryd.pinned (.plain (OpenSpec.upto fnCmdByteSpec)) fnCmdByteUptoCard

/-- THE SECOND FORM's CARD OF 'laws.FnCmdBack'. -/
def fnCmdBackUptoCard : Claim7 := { stood := { row := fnCmdBackUptoRow, standIns := [], harness := (true, "9480b4e21c098445d385b4c970361a51f8b62f6b8781d98ff218a113d3c5d059"), looks := false }, kinds := [], alts := [], laidByText := true, laidKinds := [.sentinel], laidTests := true, laidLooks := .later }
def FnCmdBackUptoCardSaid : Prop := Claim7.holds Tryd.pinned (.plain (OpenSpec.upto fnCmdBackSpec)) fnCmdBackUptoCard
end Rows
end Go.Proofs.YtllchgipnfdneaaDoor
