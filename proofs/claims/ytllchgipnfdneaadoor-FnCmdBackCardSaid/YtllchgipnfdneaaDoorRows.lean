/-
  NARROWER THAN 'FOR EVERY INPUT', by the rows' own cells (each row's printed sentence says how): FnExactPacketGet: laid · FnPacketBack: laid · FnExactRepGet: laid · FnRepBack: laid · FnExactCmdGet: laid · FnCmdByte: laid · FnCmdBack: laid.
  DERIVED. THE GIVEN ROWS OF THIS SEAT. 7 by the template 'for every input the law returns true; each argument reads behind the call as it read before'; 0 by the template 'total and deterministic' (their statements: YtllchgipnfdneaaDoorTotals.lean).
  GIVEN WITH THE SEED: the statements are not yours to turn. If you find one false, say at which input.
  Laid BY PROGRAM, IN A SANDBOX (cutbox-rows.mjs): the forced cells as the released guide's own fill.sh prints them over the translation 91d68d860751c8bf… (all of the seat's roots in one cut). By AI agents, Wed Nov 11 2026. No macro, syntax, notation, axiom, sorry.
-/
import Derived.Test.YtllchgipnfdneaaDoorChecked
import GoSem.Claim
import GoSem.ClaimJoined
import GoSem.ClaimMapViews
import Derived.JoinedTies
import Derived.KernelRfl
namespace Go.Proofs.YtllchgipnfdneaaDoor
/- THE CELL 'sum', in the pinned program and in every row, IS THE sha256 OF THE DUMP (.gsa) THAT YtllchgipnfdneaaDoorProg.lean LOADS. Nothing in Lean hashes anything: it is a label: what it is worth is what the hold of that sum in a sandbox is worth. -/
noncomputable def Tryd.pinned : Pinned := { name := "ytllchgipnfdneaadoor", sum := "91d68d860751c8bfc9f5627bbaa80c5bee206028610f298ce1ed4d56b1fca2cf", checked := Tryd.checked }
namespace Rows
def none {H : Type} : Left H := { results := [], args := [] }

/- WHAT THE LISTED PACKAGE-LEVEL VARIABLES READ AS WHEN THE CALL BEGINS. Each datum BY PROGRAM (the guide's laid-datum.mjs) off the statement by which the dump's own 'gosem.cut.vars' lays the variable. In a bare row this is a premise. The card (YtllchgipnfdneaaDoorCards.lean) ties it to the program's text. -/
def laid_io_EOF {H : Type} : DataW H := .iface "*errors.errorString" (.ptr (.agg [.lit (.string [69, 79, 70])]))

/-- 'laws.FnExactPacketGet': WHATEVER THE INPUT: true; the input reads as it did. -/
def fnExactPacketGetSpec : ChangeSpec := { name := "fnExactPacketGet", fn := fun _ => fun
  | [d1, d2] => { results := [.lit (.bool true)], args := [d1, d2] }
  | _ => none }
def fnExactPacketGetRow : OpenClaim := { program := "ytllchgipnfdneaadoor", sum := "91d68d860751c8bfc9f5627bbaa80c5bee206028610f298ce1ed4d56b1fca2cf", func := "loop.example/skyway/laws.FnExactPacketGet", spec := "fnExactPacketGet", named := ["io.EOF"], apart := false, laid := [("io.EOF", laid_io_EOF)] }
def FnExactPacketGetSaid : Prop := fnExactPacketGetRow.holds Tryd.pinned (OpenSpec.ofChange fnExactPacketGetSpec)

/-- ITS FALSE NEIGHBOUR: 'it returns false'. Refute it at one input. -/
def fnExactPacketGetWrong : ChangeSpec := { name := "fnExactPacketGet", fn := fun _ => fun
  | [d1, d2] => { results := [.lit (.bool false)], args := [d1, d2] }
  | _ => none }
def FnExactPacketGetWrongFalsely : Prop := fnExactPacketGetRow.holds Tryd.pinned (OpenSpec.ofChange fnExactPacketGetWrong)

/-- 'laws.FnPacketBack': WHATEVER THE INPUT: true; the input reads as it did. -/
def fnPacketBackSpec : ChangeSpec := { name := "fnPacketBack", fn := fun _ => fun
  | [d1, d2] => { results := [.lit (.bool true)], args := [d1, d2] }
  | _ => none }
def fnPacketBackRow : OpenClaim := { program := "ytllchgipnfdneaadoor", sum := "91d68d860751c8bfc9f5627bbaa80c5bee206028610f298ce1ed4d56b1fca2cf", func := "loop.example/skyway/laws.FnPacketBack", spec := "fnPacketBack", named := ["io.EOF"], apart := false, laid := [("io.EOF", laid_io_EOF)] }
def FnPacketBackSaid : Prop := fnPacketBackRow.holds Tryd.pinned (OpenSpec.ofChange fnPacketBackSpec)

/-- ITS FALSE NEIGHBOUR: 'it returns false'. Refute it at one input. -/
def fnPacketBackWrong : ChangeSpec := { name := "fnPacketBack", fn := fun _ => fun
  | [d1, d2] => { results := [.lit (.bool false)], args := [d1, d2] }
  | _ => none }
def FnPacketBackWrongFalsely : Prop := fnPacketBackRow.holds Tryd.pinned (OpenSpec.ofChange fnPacketBackWrong)

/-- 'laws.FnExactRepGet': WHATEVER THE INPUT: true; the input reads as it did. -/
def fnExactRepGetSpec : ChangeSpec := { name := "fnExactRepGet", fn := fun _ => fun
  | [d] => { results := [.lit (.bool true)], args := [d] }
  | _ => none }
def fnExactRepGetRow : OpenClaim := { program := "ytllchgipnfdneaadoor", sum := "91d68d860751c8bfc9f5627bbaa80c5bee206028610f298ce1ed4d56b1fca2cf", func := "loop.example/skyway/laws.FnExactRepGet", spec := "fnExactRepGet", named := ["io.EOF"], apart := false, laid := [("io.EOF", laid_io_EOF)] }
def FnExactRepGetSaid : Prop := fnExactRepGetRow.holds Tryd.pinned (OpenSpec.ofChange fnExactRepGetSpec)

/-- ITS FALSE NEIGHBOUR: 'it returns false'. Refute it at one input. -/
def fnExactRepGetWrong : ChangeSpec := { name := "fnExactRepGet", fn := fun _ => fun
  | [d] => { results := [.lit (.bool false)], args := [d] }
  | _ => none }
def FnExactRepGetWrongFalsely : Prop := fnExactRepGetRow.holds Tryd.pinned (OpenSpec.ofChange fnExactRepGetWrong)

/-- 'laws.FnRepBack': WHATEVER THE INPUT: true; the input reads as it did. -/
def fnRepBackSpec : ChangeSpec := { name := "fnRepBack", fn := fun _ => fun
  | [d1, d2] => { results := [.lit (.bool true)], args := [d1, d2] }
  | _ => none }
def fnRepBackRow : OpenClaim := { program := "ytllchgipnfdneaadoor", sum := "91d68d860751c8bfc9f5627bbaa80c5bee206028610f298ce1ed4d56b1fca2cf", func := "loop.example/skyway/laws.FnRepBack", spec := "fnRepBack", named := ["io.EOF"], apart := false, laid := [("io.EOF", laid_io_EOF)] }
def FnRepBackSaid : Prop := fnRepBackRow.holds Tryd.pinned (OpenSpec.ofChange fnRepBackSpec)

/-- ITS FALSE NEIGHBOUR: 'it returns false'. Refute it at one input. -/
def fnRepBackWrong : ChangeSpec := { name := "fnRepBack", fn := fun _ => fun
  | [d1, d2] => { results := [.lit (.bool false)], args := [d1, d2] }
  | _ => none }
def FnRepBackWrongFalsely : Prop := fnRepBackRow.holds Tryd.pinned (OpenSpec.ofChange fnRepBackWrong)

/-- 'laws.FnExactCmdGet': WHATEVER THE INPUT: true; the input reads as it did. -/
def fnExactCmdGetSpec : ChangeSpec := { name := "fnExactCmdGet", fn := fun _ => fun
  | [d] => { results := [.lit (.bool true)], args := [d] }
  | _ => none }
def fnExactCmdGetRow : OpenClaim := { program := "ytllchgipnfdneaadoor", sum := "91d68d860751c8bfc9f5627bbaa80c5bee206028610f298ce1ed4d56b1fca2cf", func := "loop.example/skyway/laws.FnExactCmdGet", spec := "fnExactCmdGet", named := ["io.EOF"], apart := false, laid := [("io.EOF", laid_io_EOF)] }
def FnExactCmdGetSaid : Prop := fnExactCmdGetRow.holds Tryd.pinned (OpenSpec.ofChange fnExactCmdGetSpec)

/-- ITS FALSE NEIGHBOUR: 'it returns false'. Refute it at one input. -/
def fnExactCmdGetWrong : ChangeSpec := { name := "fnExactCmdGet", fn := fun _ => fun
  | [d] => { results := [.lit (.bool false)], args := [d] }
  | _ => none }
def FnExactCmdGetWrongFalsely : Prop := fnExactCmdGetRow.holds Tryd.pinned (OpenSpec.ofChange fnExactCmdGetWrong)

/-- 'laws.FnCmdByte': WHATEVER THE INPUT: true; the input reads as it did. -/
def fnCmdByteSpec : ChangeSpec := { name := "fnCmdByte", fn := fun _ => fun
  | [d1, d2] => { results := [.lit (.bool true)], args := [d1, d2] }
  | _ => none }
def fnCmdByteRow : OpenClaim := { program := "ytllchgipnfdneaadoor", sum := "91d68d860751c8bfc9f5627bbaa80c5bee206028610f298ce1ed4d56b1fca2cf", func := "loop.example/skyway/laws.FnCmdByte", spec := "fnCmdByte", named := ["io.EOF"], apart := false, laid := [("io.EOF", laid_io_EOF)] }
def FnCmdByteSaid : Prop := fnCmdByteRow.holds Tryd.pinned (OpenSpec.ofChange fnCmdByteSpec)

/-- ITS FALSE NEIGHBOUR: 'it returns false'. Refute it at one input. -/
def fnCmdByteWrong : ChangeSpec := { name := "fnCmdByte", fn := fun _ => fun
  | [d1, d2] => { results := [.lit (.bool false)], args := [d1, d2] }
  | _ => none }
def FnCmdByteWrongFalsely : Prop := fnCmdByteRow.holds Tryd.pinned (OpenSpec.ofChange fnCmdByteWrong)

/-- 'laws.FnCmdBack': WHATEVER THE INPUT: true; the input reads as it did. -/
def fnCmdBackSpec : ChangeSpec := { name := "fnCmdBack", fn := fun _ => fun
  | [d1, d2] => { results := [.lit (.bool true)], args := [d1, d2] }
  | _ => none }
def fnCmdBackRow : OpenClaim := { program := "ytllchgipnfdneaadoor", sum := "91d68d860751c8bfc9f5627bbaa80c5bee206028610f298ce1ed4d56b1fca2cf", func := "loop.example/skyway/laws.FnCmdBack", spec := "fnCmdBack", named := ["io.EOF"], apart := false, laid := [("io.EOF", laid_io_EOF)] }
def FnCmdBackSaid : Prop := fnCmdBackRow.holds Tryd.pinned (OpenSpec.ofChange fnCmdBackSpec)

/-- ITS FALSE NEIGHBOUR: 'it returns false'. Refute it at one input. -/
def fnCmdBackWrong : ChangeSpec := { name := "fnCmdBack", fn := fun _ => fun
  | [d1, d2] => { results := [.lit (.bool false)], args := [d1, d2] }
  | _ => none }
def FnCmdBackWrongFalsely : Prop := fnCmdBackRow.holds Tryd.pinned (OpenSpec.ofChange fnCmdBackWrong)

/- THE SECOND FORM. 'bulk': how many values and letters a reading holds, each counted each time it is reached (what is shared counts as often as it is met; a slice's spare places count too). A statement '..UptoSaid' is the law's where the arguments, and the package variables that the reading takes, are together of bulk at most 1048576: NARROWER than '..Said'. Prove '..Said' where nothing that the law and all that it calls make is longer than what came in: it says more and counts as full. Else prove '..UptoSaid'. A law counts once. -/
mutual
def uptoBulk {H : Type} : DataW H → Nat
  | .lit (.string bytes) => bytes.length + 1
  | .lit _ => 1
  | .nil => 1
  | .ptr d => uptoBulk d + 1
  | .slice elems spare => uptoBulkAll elems + uptoBulkAll spare + 1
  | .agg parts => uptoBulkAll parts + 1
  | .iface _ d => uptoBulk d + 1
  | .map entries => uptoBulkEntries entries + 1
  | .held _ => 1
def uptoBulkAll {H : Type} : List (DataW H) → Nat
  | [] => 0
  | d :: r => uptoBulk d + uptoBulkAll r
def uptoBulkEntries {H : Type} : List (Lit × DataW H) → Nat
  | [] => 0
  | x :: r => uptoBulkEntry x + uptoBulkEntries r
def uptoBulkEntry {H : Type} : Lit × DataW H → Nat
  | (.string bytes, d) => bytes.length + uptoBulk d + 1
  | (_, d) => uptoBulk d + 1
 end
def uptoSmall : (H : Type) → List (DataW H) → Bool := fun _ ds => decide (uptoBulkAll ds ≤ 1048576)
def OpenSpec.upto (s : _root_.Go.ChangeSpec) : _root_.Go.OpenSpec := { _root_.Go.OpenSpec.ofChange s with cond := some uptoSmall }

/-- 'laws.FnExactPacketGet', WHERE WHAT IT READS IS OF BULK AT MOST 1048576: true; the input reads as it did. -/
def fnExactPacketGetUptoRow : OpenClaim := { program := "ytllchgipnfdneaadoor", sum := "91d68d860751c8bfc9f5627bbaa80c5bee206028610f298ce1ed4d56b1fca2cf", func := "loop.example/skyway/laws.FnExactPacketGet", spec := "fnExactPacketGet", named := ["io.EOF"], apart := false, laid := [("io.EOF", laid_io_EOF)], narrowed := true }
def FnExactPacketGetUptoSaid : Prop := fnExactPacketGetUptoRow.holds Tryd.pinned (OpenSpec.upto fnExactPacketGetSpec)

/-- 'laws.FnPacketBack', WHERE WHAT IT READS IS OF BULK AT MOST 1048576: true; the input reads as it did. -/
def fnPacketBackUptoRow : OpenClaim := { program := "ytllchgipnfdneaadoor", sum := "91d68d860751c8bfc9f5627bbaa80c5bee206028610f298ce1ed4d56b1fca2cf", func := "loop.example/skyway/laws.FnPacketBack", spec := "fnPacketBack", named := ["io.EOF"], apart := false, laid := [("io.EOF", laid_io_EOF)], narrowed := true }
def FnPacketBackUptoSaid : Prop := fnPacketBackUptoRow.holds Tryd.pinned (OpenSpec.upto fnPacketBackSpec)

/-- 'laws.FnExactRepGet', WHERE WHAT IT READS IS OF BULK AT MOST 1048576: true; the input reads as it did. -/
def fnExactRepGetUptoRow : OpenClaim := { program := "ytllchgipnfdneaadoor", sum := "91d68d860751c8bfc9f5627bbaa80c5bee206028610f298ce1ed4d56b1fca2cf", func := "loop.example/skyway/laws.FnExactRepGet", spec := "fnExactRepGet", named := ["io.EOF"], apart := false, laid := [("io.EOF", laid_io_EOF)], narrowed := true }
def FnExactRepGetUptoSaid : Prop := fnExactRepGetUptoRow.holds Tryd.pinned (OpenSpec.upto fnExactRepGetSpec)

/-- 'laws.FnRepBack', WHERE WHAT IT READS IS OF BULK AT MOST 1048576: true; the input reads as it did. -/
def fnRepBackUptoRow : OpenClaim := { program := "ytllchgipnfdneaadoor", sum := "91d68d860751c8bfc9f5627bbaa80c5bee206028610f298ce1ed4d56b1fca2cf", func := "loop.example/skyway/laws.FnRepBack", spec := "fnRepBack", named := ["io.EOF"], apart := false, laid := [("io.EOF", laid_io_EOF)], narrowed := true }
def FnRepBackUptoSaid : Prop := fnRepBackUptoRow.holds Tryd.pinned (OpenSpec.upto fnRepBackSpec)

/-- 'laws.FnExactCmdGet', WHERE WHAT IT READS IS OF BULK AT MOST 1048576: true; the input reads as it did. -/
def fnExactCmdGetUptoRow : OpenClaim := { program := "ytllchgipnfdneaadoor", sum := "91d68d860751c8bfc9f5627bbaa80c5bee206028610f298ce1ed4d56b1fca2cf", func := "loop.example/skyway/laws.FnExactCmdGet", spec := "fnExactCmdGet", named := ["io.EOF"], apart := false, laid := [("io.EOF", laid_io_EOF)], narrowed := true }
def FnExactCmdGetUptoSaid : Prop := fnExactCmdGetUptoRow.holds Tryd.pinned (OpenSpec.upto fnExactCmdGetSpec)

/-- 'laws.FnCmdByte', WHERE WHAT IT READS IS OF BULK AT MOST 1048576: true; the input reads as it did. -/
def fnCmdByteUptoRow : OpenClaim := { program := "ytllchgipnfdneaadoor", sum := "91d68d860751c8bfc9f5627bbaa80c5bee206028610f298ce1ed4d56b1fca2cf", func := "loop.example/skyway/laws.FnCmdByte", spec := "fnCmdByte", named := ["io.EOF"], apart := false, laid := [("io.EOF", laid_io_EOF)], narrowed := true }
def FnCmdByteUptoSaid : Prop := fnCmdByteUptoRow.holds Tryd.pinned (OpenSpec.upto fnCmdByteSpec)

/-- 'laws.FnCmdBack', WHERE WHAT IT READS IS OF BULK AT MOST 1048576: true; the input reads as it did. -/
def fnCmdBackUptoRow : OpenClaim := { program := "ytllchgipnfdneaadoor", sum := "91d68d860751c8bfc9f5627bbaa80c5bee206028610f298ce1ed4d56b1fca2cf", func := "loop.example/skyway/laws.FnCmdBack", spec := "fnCmdBack", named := ["io.EOF"], apart := false, laid := [("io.EOF", laid_io_EOF)], narrowed := true }
def FnCmdBackUptoSaid : Prop := fnCmdBackUptoRow.holds Tryd.pinned (OpenSpec.upto fnCmdBackSpec)

end Rows
end Go.Proofs.YtllchgipnfdneaaDoor
