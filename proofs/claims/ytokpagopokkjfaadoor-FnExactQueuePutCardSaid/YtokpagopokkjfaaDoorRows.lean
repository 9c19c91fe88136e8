/-
  NARROWER THAN 'FOR EVERY INPUT', by the rows' own cells (each row's printed sentence says how): FnExactQueueOk: laid · FnExactQueuePut: laid · FnQueuePut: laid · FnExactQueueFill: laid · FnQueueIdle: laid · FnQueueAll: laid.
  DERIVED. THE GIVEN ROWS OF THIS SEAT. 6 by the template 'for every input the law returns true; each argument reads behind the call as it read before'; 0 by the template 'total and deterministic' (their statements: YtokpagopokkjfaaDoorTotals.lean).
  GIVEN WITH THE SEED: the statements are not yours to turn. If you find one false, say at which input.
  Laid BY PROGRAM, IN A SANDBOX (cutbox-rows.mjs): the forced cells as the released guide's own fill.sh prints them over the translation 865b95986b585c27… (all of the seat's roots in one cut). By AI agents, Wed Nov 11 2026. No macro, syntax, notation, axiom, sorry.
-/
import Derived.Test.YtokpagopokkjfaaDoorChecked
import GoSem.Claim
import GoSem.ClaimJoined
import GoSem.ClaimMapViews
import Derived.JoinedTies
import Derived.KernelRfl
namespace Go.Proofs.YtokpagopokkjfaaDoor
/- THE CELL 'sum', in the pinned program and in every row, IS THE sha256 OF THE DUMP (.gsa) THAT YtokpagopokkjfaaDoorProg.lean LOADS. Nothing in Lean hashes anything: it is a label: what it is worth is what the hold of that sum in a sandbox is worth. -/
noncomputable def Tryd.pinned : Pinned := { name := "ytokpagopokkjfaadoor", sum := "865b95986b585c2710743a56ec9f7c60ec5684b286cef66998d04274f60f9cb8", checked := Tryd.checked }
namespace Rows
def none {H : Type} : Left H := { results := [], args := [] }

/- WHAT THE LISTED PACKAGE-LEVEL VARIABLES READ AS WHEN THE CALL BEGINS. Each datum BY PROGRAM (the guide's laid-datum.mjs) off the statement by which the dump's own 'gosem.cut.vars' lays the variable. In a bare row this is a premise. The card (YtokpagopokkjfaaDoorCards.lean) ties it to the program's text. -/
def laid_io_EOF {H : Type} : DataW H := .iface "*errors.errorString" (.ptr (.agg [.lit (.string [69, 79, 70])]))

/-- 'laws.FnExactQueueOk': WHATEVER THE INPUT: true; the input reads as it did. -/
def fnExactQueueOkSpec : ChangeSpec := { name := "fnExactQueueOk", fn := fun _ => fun
  | [d] => { results := [.lit (.bool true)], args := [d] }
  | _ => none }
def fnExactQueueOkRow : OpenClaim := { program := "ytokpagopokkjfaadoor", sum := "865b95986b585c2710743a56ec9f7c60ec5684b286cef66998d04274f60f9cb8", func := "loop.example/skyway/laws.FnExactQueueOk", spec := "fnExactQueueOk", named := ["io.EOF"], apart := false, laid := [("io.EOF", laid_io_EOF)] }
def FnExactQueueOkSaid : Prop := fnExactQueueOkRow.holds Tryd.pinned (OpenSpec.ofChange fnExactQueueOkSpec)

/-- ITS FALSE NEIGHBOUR: 'it returns false'. Refute it at one input. -/
def fnExactQueueOkWrong : ChangeSpec := { name := "fnExactQueueOk", fn := fun _ => fun
  | [d] => { results := [.lit (.bool false)], args := [d] }
  | _ => none }
def FnExactQueueOkWrongFalsely : Prop := fnExactQueueOkRow.holds Tryd.pinned (OpenSpec.ofChange fnExactQueueOkWrong)

/-- 'laws.FnExactQueuePut': WHATEVER THE INPUT: true; the input reads as it did. -/
def fnExactQueuePutSpec : ChangeSpec := { name := "fnExactQueuePut", fn := fun _ => fun
  | [d1, d2] => { results := [.lit (.bool true)], args := [d1, d2] }
  | _ => none }
def fnExactQueuePutRow : OpenClaim := { program := "ytokpagopokkjfaadoor", sum := "865b95986b585c2710743a56ec9f7c60ec5684b286cef66998d04274f60f9cb8", func := "loop.example/skyway/laws.FnExactQueuePut", spec := "fnExactQueuePut", named := ["io.EOF"], apart := false, laid := [("io.EOF", laid_io_EOF)] }
def FnExactQueuePutSaid : Prop := fnExactQueuePutRow.holds Tryd.pinned (OpenSpec.ofChange fnExactQueuePutSpec)

/-- ITS FALSE NEIGHBOUR: 'it returns false'. Refute it at one input. -/
def fnExactQueuePutWrong : ChangeSpec := { name := "fnExactQueuePut", fn := fun _ => fun
  | [d1, d2] => { results := [.lit (.bool false)], args := [d1, d2] }
  | _ => none }
def FnExactQueuePutWrongFalsely : Prop := fnExactQueuePutRow.holds Tryd.pinned (OpenSpec.ofChange fnExactQueuePutWrong)

/-- 'laws.FnQueuePut': WHATEVER THE INPUT: true; the input reads as it did. -/
def fnQueuePutSpec : ChangeSpec := { name := "fnQueuePut", fn := fun _ => fun
  | [d] => { results := [.lit (.bool true)], args := [d] }
  | _ => none }
def fnQueuePutRow : OpenClaim := { program := "ytokpagopokkjfaadoor", sum := "865b95986b585c2710743a56ec9f7c60ec5684b286cef66998d04274f60f9cb8", func := "loop.example/skyway/laws.FnQueuePut", spec := "fnQueuePut", named := ["io.EOF"], apart := false, laid := [("io.EOF", laid_io_EOF)] }
def FnQueuePutSaid : Prop := fnQueuePutRow.holds Tryd.pinned (OpenSpec.ofChange fnQueuePutSpec)

/-- ITS FALSE NEIGHBOUR: 'it returns false'. Refute it at one input. -/
def fnQueuePutWrong : ChangeSpec := { name := "fnQueuePut", fn := fun _ => fun
  | [d] => { results := [.lit (.bool false)], args := [d] }
  | _ => none }
def FnQueuePutWrongFalsely : Prop := fnQueuePutRow.holds Tryd.pinned (OpenSpec.ofChange fnQueuePutWrong)

/-- 'laws.FnExactQueueFill': WHATEVER THE INPUT: true; the input reads as it did. -/
def fnExactQueueFillSpec : ChangeSpec := { name := "fnExactQueueFill", fn := fun _ => fun
  | [d] => { results := [.lit (.bool true)], args := [d] }
  | _ => none }
def fnExactQueueFillRow : OpenClaim := { program := "ytokpagopokkjfaadoor", sum := "865b95986b585c2710743a56ec9f7c60ec5684b286cef66998d04274f60f9cb8", func := "loop.example/skyway/laws.FnExactQueueFill", spec := "fnExactQueueFill", inPlace := ["internal/abi.NoEscape", "internal/bytealg.MakeNoZero"], named := ["io.EOF"], apart := false, laid := [("io.EOF", laid_io_EOF)] }
def FnExactQueueFillSaid : Prop := fnExactQueueFillRow.holds Tryd.pinned (OpenSpec.ofChange fnExactQueueFillSpec)

/-- ITS FALSE NEIGHBOUR: 'it returns false'. Refute it at one input. -/
def fnExactQueueFillWrong : ChangeSpec := { name := "fnExactQueueFill", fn := fun _ => fun
  | [d] => { results := [.lit (.bool false)], args := [d] }
  | _ => none }
def FnExactQueueFillWrongFalsely : Prop := fnExactQueueFillRow.holds Tryd.pinned (OpenSpec.ofChange fnExactQueueFillWrong)

/-- 'laws.FnQueueIdle': WHATEVER THE INPUT: true; the input reads as it did. -/
def fnQueueIdleSpec : ChangeSpec := { name := "fnQueueIdle", fn := fun _ => fun
  | [d] => { results := [.lit (.bool true)], args := [d] }
  | _ => none }
def fnQueueIdleRow : OpenClaim := { program := "ytokpagopokkjfaadoor", sum := "865b95986b585c2710743a56ec9f7c60ec5684b286cef66998d04274f60f9cb8", func := "loop.example/skyway/laws.FnQueueIdle", spec := "fnQueueIdle", inPlace := ["internal/abi.NoEscape", "internal/bytealg.MakeNoZero"], named := ["io.EOF"], apart := false, laid := [("io.EOF", laid_io_EOF)] }
def FnQueueIdleSaid : Prop := fnQueueIdleRow.holds Tryd.pinned (OpenSpec.ofChange fnQueueIdleSpec)

/-- ITS FALSE NEIGHBOUR: 'it returns false'. Refute it at one input. -/
def fnQueueIdleWrong : ChangeSpec := { name := "fnQueueIdle", fn := fun _ => fun
  | [d] => { results := [.lit (.bool false)], args := [d] }
  | _ => none }
def FnQueueIdleWrongFalsely : Prop := fnQueueIdleRow.holds Tryd.pinned (OpenSpec.ofChange fnQueueIdleWrong)

/-- 'laws.FnQueueAll': WHATEVER THE INPUT: true; the input reads as it did. -/
def fnQueueAllSpec : ChangeSpec := { name := "fnQueueAll", fn := fun _ => fun
  | [d] => { results := [.lit (.bool true)], args := [d] }
  | _ => none }
def fnQueueAllRow : OpenClaim := { program := "ytokpagopokkjfaadoor", sum := "865b95986b585c2710743a56ec9f7c60ec5684b286cef66998d04274f60f9cb8", func := "loop.example/skyway/laws.FnQueueAll", spec := "fnQueueAll", inPlace := ["internal/abi.NoEscape", "internal/bytealg.MakeNoZero"], named := ["io.EOF"], apart := false, laid := [("io.EOF", laid_io_EOF)] }
def FnQueueAllSaid : Prop := fnQueueAllRow.holds Tryd.pinned (OpenSpec.ofChange fnQueueAllSpec)

/-- ITS FALSE NEIGHBOUR: 'it returns false'. Refute it at one input. -/
def fnQueueAllWrong : ChangeSpec := { name := "fnQueueAll", fn := fun _ => fun
  | [d] => { results := [.lit (.bool false)], args := [d] }
  | _ => none }
def FnQueueAllWrongFalsely : Prop := fnQueueAllRow.holds Tryd.pinned (OpenSpec.ofChange fnQueueAllWrong)

/- THE SECOND FORM. 'bulk': how many values and letters a reading holds, each counted each time it is reached (what is shared counts as often as it is met; a slice's spare places count too). A statement '..UptoSaid' is the law's where the arguments, and the package variables that the reading takes, are together of bulk at most 1048576: NARROWER than '..Said'. Prove '..Said' where nothing that the law and all that it calls make is longer than what came in: it says more and counts as full. Else prove '..UptoSaid'. A law counts once. -/
mutual
def uptoBulk {H : Type} : DataW H → Nat
  | .lit (.string bytes) => bytes.length + 1
  | .lit _ => 1
  | .nil => 1
  | .ptr d => uptoBulk d + 1
  | .slice elems spare => uptoBulkAll elems + uptoBulkAll spare + 1
  | .agg parts => uptoBulkAll parts + 1
  | .iface _ d => uptoBulk d + 1
  | .map entries => uptoBulkEntries entries + 1
  | .held _ => 1
def uptoBulkAll {H : Type} : List (DataW H) → Nat
  | [] => 0
  | d :: r => uptoBulk d + uptoBulkAll r
def uptoBulkEntries {H : Type} : List (Lit × DataW H) → Nat
  | [] => 0
  | x :: r => uptoBulkEntry x + uptoBulkEntries r
def uptoBulkEntry {H : Type} : Lit × DataW H → Nat
  | (.string bytes, d) => bytes.length + uptoBulk d + 1
  | (_, d) => uptoBulk d + 1
 end
def uptoSmall : (H : Type) → List (DataW H) → Bool := fun _ ds => decide (uptoBulkAll ds ≤ 1048576)
def OpenSpec.upto (s : _root_.Go.ChangeSpec) : _root_.Go.OpenSpec := { _root_.Go.OpenSpec.ofChange s with cond := some uptoSmall }

/-- 'laws.FnExactQueueOk', WHERE WHAT IT READS IS OF BULK AT MOST 1048576: true; the input reads as it did. -/
def fnExactQueueOkUptoRow : OpenClaim := { program := "ytokpagopokkjfaadoor", sum := "865b95986b585c2710743a56ec9f7c60ec5684b286cef66998d04274f60f9cb8", func := "loop.example/skyway/laws.FnExactQueueOk", spec := "fnExactQueueOk", named := ["io.EOF"], apart := false, laid := [("io.EOF", laid_io_EOF)], narrowed := true }
def FnExactQueueOkUptoSaid : Prop := fnExactQueueOkUptoRow.holds Tryd.pinned (OpenSpec.upto fnExactQueueOkSpec)

/-- 'laws.FnExactQueuePut', WHERE WHAT IT READS IS OF BULK AT MOST 1048576: true; the input reads as it did. -/
def fnExactQueuePutUptoRow : OpenClaim := { program := "ytokpagopokkjfaadoor", sum := "865b95986b585c2710743a56ec9f7c60ec5684b286cef66998d04274f60f9cb8", func := "loop.example/skyway/laws.FnExactQueuePut", spec := "fnExactQueuePut", named := ["io.EOF"], apart := false, laid := [("io.EOF", laid_io_EOF)], narrowed := true }
def FnExactQueuePutUptoSaid : Prop := fnExactQueuePutUptoRow.holds Tryd.pinned (OpenSpec.upto fnExactQueuePutSpec)

/-- 'laws.FnQueuePut', WHERE WHAT IT READS IS OF BULK AT MOST 1048576: true; the input reads as it did. -/
def fnQueuePutUptoRow : OpenClaim := { program := "ytokpagopokkjfaadoor", sum := "865b95986b585c2710743a56ec9f7c60ec5684b286cef66998d04274f60f9cb8", func := "loop.example/skyway/laws.FnQueuePut", spec := "fnQueuePut", named := ["io.EOF"], apart := false, laid := [("io.EOF", laid_io_EOF)], narrowed := true }
def FnQueuePutUptoSaid : Prop := fnQueuePutUptoRow.holds Tryd.pinned (OpenSpec.upto fnQueuePutSpec)

/-- 'laws.FnExactQueueFill', WHERE WHAT IT READS IS OF BULK AT MOST 1048576: true; the input reads as it did. -/
def fnExactQueueFillUptoRow : OpenClaim := { program := "ytokpagopokkjfaadoor", sum := "865b95986b585c2710743a56ec9f7c60ec5684b286cef66998d04274f60f9cb8", func := "loop.example/skyway/laws.FnExactQueueFill", spec := "fnExactQueueFill", inPlace := ["internal/abi.NoEscape", "internal/bytealg.MakeNoZero"], named := ["io.EOF"], apart := false, laid := [("io.EOF", laid_io_EOF)], narrowed := true }
def FnExactQueueFillUptoSaid : Prop := fnExactQueueFillUptoRow.holds Tryd.pinned (OpenSpec.upto fnExactQueueFillSpec)

/-- 'laws.FnQueueIdle', WHERE WHAT IT READS IS OF BULK AT MOST 1048576: true; the input reads as it did. -/
def fnQueueIdleUptoRow : OpenClaim := { program := "ytokpagopokkjfaadoor", sum := "865b95986b585c2710743a56ec9f7c60ec5684b286cef66998d04274f60f9cb8", func := "loop.example/skyway/laws.FnQueueIdle", spec := "fnQueueIdle", inPlace := ["internal/abi.NoEscape", "internal/bytealg.MakeNoZero"], named := ["io.EOF"], apart := false, laid := [("io.EOF", laid_io_EOF)], narrowed := true }
def FnQueueIdleUptoSaid : Prop := fnQueueIdleUptoRow.holds Tryd.pinned (OpenSpec.upto fnQueueIdleSpec)

/-- 'laws.FnQueueAll', WHERE WHAT IT READS IS OF BULK AT MOST 1048576: true; the input reads as it did. -/
def fnQueueAllUptoRow : OpenClaim := { program := "ytokpagopokkjfaadoor", sum := "865b95986b585c2710743a56ec9f7c60ec5684b286cef66998d04274f60f9cb8", func := "loop.example/skyway/laws.FnQueueAll", spec := "fnQueueAll", inPlace := ["internal/abi.NoEscape", "internal/bytealg.MakeNoZero"], named := ["io.EOF"], apart := false, laid := [("io.EOF", laid_io_EOF)], narrowed := true }
def FnQueueAllUptoSaid : Prop := fnQueueAllUptoRow.holds Tryd.pinned (OpenSpec.upto fnQueueAllSpec)

end Rows
end Go.Proofs.YtokpagopokkjfaaDoor
