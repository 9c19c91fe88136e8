/-
  NARROWER THAN 'FOR EVERY INPUT', by the rows' own cells (each row's printed sentence says how): FnExactConfTurn: laid · FnConfCheck: laid · FnConfPart: laid · FnConfTurn: laid · FnExactConfCheck: laid · FnExactConfPart: laid.
  DERIVED. THE GIVEN ROWS OF THIS SEAT. 6 by the template 'for every input the law returns true; each argument reads behind the call as it read before'; 0 by the template 'total and deterministic' (their statements: YtcenmlpfbpogoaaDoorTotals.lean).
  GIVEN WITH THE SEED: the statements are not yours to turn. If you find one false, say at which input.
  Laid BY PROGRAM, IN A SANDBOX (cutbox-rows.mjs): the forced cells as the released guide's own fill.sh prints them over the translation 7f2f8a2480b3a94c… (all of the seat's roots in one cut). By AI agents, Wed Nov 11 2026. No macro, syntax, notation, axiom, sorry.
-/
import Derived.Test.YtcenmlpfbpogoaaDoorChecked
import GoSem.Claim
import GoSem.ClaimJoined
import GoSem.ClaimMapViews
import Derived.JoinedTies
import Derived.KernelRfl
namespace Go.Proofs.YtcenmlpfbpogoaaDoor
/- THE CELL 'sum', in the pinned program and in every row, IS THE sha256 OF THE DUMP (.gsa) THAT YtcenmlpfbpogoaaDoorProg.lean LOADS. Nothing in Lean hashes anything: it is a label: what it is worth is what the hold of that sum in a sandbox is worth. -/
noncomputable def Tryd.pinned : Pinned := { name := "ytcenmlpfbpogoaadoor", sum := "7f2f8a2480b3a94cea70842f81addfbb2efb7b62298b85b04f0b93fb208fddbc", checked := Tryd.checked }
namespace Rows
def none {H : Type} : Left H := { results := [], args := [] }

/- WHAT THE LISTED PACKAGE-LEVEL VARIABLES READ AS WHEN THE CALL BEGINS. Each datum BY PROGRAM (the guide's laid-datum.mjs) off the statement by which the dump's own 'gosem.cut.vars' lays the variable. In a bare row this is a premise. The card (YtcenmlpfbpogoaaDoorCards.lean) ties it to the program's text. -/
def laid_errors_errorType {H : Type} : DataW H := .iface "internal/reflectlite.rtype" (.agg [.ptr (.lit (.string [101, 114, 114, 111, 114]))])

/-- 'laws.FnExactConfTurn': WHATEVER THE INPUT: true; the input reads as it did. -/
def fnExactConfTurnSpec : ChangeSpec := { name := "fnExactConfTurn", fn := fun _ => fun
  | [d1, d2, d3] => { results := [.lit (.bool true)], args := [d1, d2, d3] }
  | _ => none }
def fnExactConfTurnRow : OpenClaim := { program := "ytcenmlpfbpogoaadoor", sum := "7f2f8a2480b3a94cea70842f81addfbb2efb7b62298b85b04f0b93fb208fddbc", func := "loop.example/skyway/laws.FnExactConfTurn", spec := "fnExactConfTurn", inPlace := ["internal/reflectlite.ValueOf", "(internal/reflectlite.Value).Type", "(internal/reflectlite.Value).IsNil", "internal/reflectlite.TypeOf", "(internal/reflectlite.Value).Elem", "(internal/reflectlite.Value).Set"], unfollowed := true, recurses := true, named := ["errors.errorType"], apart := false, laid := [("errors.errorType", laid_errors_errorType)] }
def FnExactConfTurnSaid : Prop := fnExactConfTurnRow.holds Tryd.pinned (OpenSpec.ofChange fnExactConfTurnSpec)

/-- ITS FALSE NEIGHBOUR: 'it returns false'. Refute it at one input. -/
def fnExactConfTurnWrong : ChangeSpec := { name := "fnExactConfTurn", fn := fun _ => fun
  | [d1, d2, d3] => { results := [.lit (.bool false)], args := [d1, d2, d3] }
  | _ => none }
def FnExactConfTurnWrongFalsely : Prop := fnExactConfTurnRow.holds Tryd.pinned (OpenSpec.ofChange fnExactConfTurnWrong)

/-- 'laws.FnConfCheck': WHATEVER THE INPUT: true; the input reads as it did. -/
def fnConfCheckSpec : ChangeSpec := { name := "fnConfCheck", fn := fun _ => fun
  | [d] => { results := [.lit (.bool true)], args := [d] }
  | _ => none }
def fnConfCheckRow : OpenClaim := { program := "ytcenmlpfbpogoaadoor", sum := "7f2f8a2480b3a94cea70842f81addfbb2efb7b62298b85b04f0b93fb208fddbc", func := "loop.example/skyway/laws.FnConfCheck", spec := "fnConfCheck", inPlace := ["internal/reflectlite.ValueOf", "(internal/reflectlite.Value).Type", "(internal/reflectlite.Value).IsNil", "internal/reflectlite.TypeOf", "(internal/reflectlite.Value).Elem", "(internal/reflectlite.Value).Set"], unfollowed := true, recurses := true, named := ["errors.errorType"], apart := false, laid := [("errors.errorType", laid_errors_errorType)] }
def FnConfCheckSaid : Prop := fnConfCheckRow.holds Tryd.pinned (OpenSpec.ofChange fnConfCheckSpec)

/-- ITS FALSE NEIGHBOUR: 'it returns false'. Refute it at one input. -/
def fnConfCheckWrong : ChangeSpec := { name := "fnConfCheck", fn := fun _ => fun
  | [d] => { results := [.lit (.bool false)], args := [d] }
  | _ => none }
def FnConfCheckWrongFalsely : Prop := fnConfCheckRow.holds Tryd.pinned (OpenSpec.ofChange fnConfCheckWrong)

/-- 'laws.FnConfPart': WHATEVER THE INPUT: true; the input reads as it did. -/
def fnConfPartSpec : ChangeSpec := { name := "fnConfPart", fn := fun _ => fun
  | [d] => { results := [.lit (.bool true)], args := [d] }
  | _ => none }
def fnConfPartRow : OpenClaim := { program := "ytcenmlpfbpogoaadoor", sum := "7f2f8a2480b3a94cea70842f81addfbb2efb7b62298b85b04f0b93fb208fddbc", func := "loop.example/skyway/laws.FnConfPart", spec := "fnConfPart", inPlace := ["internal/reflectlite.ValueOf", "(internal/reflectlite.Value).Type", "(internal/reflectlite.Value).IsNil", "internal/reflectlite.TypeOf", "(internal/reflectlite.Value).Elem", "(internal/reflectlite.Value).Set"], unfollowed := true, recurses := true, named := ["errors.errorType"], apart := false, laid := [("errors.errorType", laid_errors_errorType)] }
def FnConfPartSaid : Prop := fnConfPartRow.holds Tryd.pinned (OpenSpec.ofChange fnConfPartSpec)

/-- ITS FALSE NEIGHBOUR: 'it returns false'. Refute it at one input. -/
def fnConfPartWrong : ChangeSpec := { name := "fnConfPart", fn := fun _ => fun
  | [d] => { results := [.lit (.bool false)], args := [d] }
  | _ => none }
def FnConfPartWrongFalsely : Prop := fnConfPartRow.holds Tryd.pinned (OpenSpec.ofChange fnConfPartWrong)

/-- 'laws.FnConfTurn': WHATEVER THE INPUT: true; the input reads as it did. -/
def fnConfTurnSpec : ChangeSpec := { name := "fnConfTurn", fn := fun _ => fun
  | [d] => { results := [.lit (.bool true)], args := [d] }
  | _ => none }
def fnConfTurnRow : OpenClaim := { program := "ytcenmlpfbpogoaadoor", sum := "7f2f8a2480b3a94cea70842f81addfbb2efb7b62298b85b04f0b93fb208fddbc", func := "loop.example/skyway/laws.FnConfTurn", spec := "fnConfTurn", inPlace := ["internal/reflectlite.ValueOf", "(internal/reflectlite.Value).Type", "(internal/reflectlite.Value).IsNil", "internal/reflectlite.TypeOf", "(internal/reflectlite.Value).Elem", "(internal/reflectlite.Value).Set"], unfollowed := true, recurses := true, named := ["errors.errorType"], apart := false, laid := [("errors.errorType", laid_errors_errorType)] }
def FnConfTurnSaid : Prop := fnConfTurnRow.holds Tryd.pinned (OpenSpec.ofChange fnConfTurnSpec)

/-- ITS FALSE NEIGHBOUR: 'it returns false'. Refute it at one input. -/
def fnConfTurnWrong : ChangeSpec := { name := "fnConfTurn", fn := fun _ => fun
  | [d] => { results := [.lit (.bool false)], args := [d] }
  | _ => none }
def FnConfTurnWrongFalsely : Prop := fnConfTurnRow.holds Tryd.pinned (OpenSpec.ofChange fnConfTurnWrong)

/-- 'laws.FnExactConfCheck': WHATEVER THE INPUT: true; the input reads as it did. -/
def fnExactConfCheckSpec : ChangeSpec := { name := "fnExactConfCheck", fn := fun _ => fun
  | [d] => { results := [.lit (.bool true)], args := [d] }
  | _ => none }
def fnExactConfCheckRow : OpenClaim := { program := "ytcenmlpfbpogoaadoor", sum := "7f2f8a2480b3a94cea70842f81addfbb2efb7b62298b85b04f0b93fb208fddbc", func := "loop.example/skyway/laws.FnExactConfCheck", spec := "fnExactConfCheck", inPlace := ["internal/reflectlite.ValueOf", "(internal/reflectlite.Value).Type", "(internal/reflectlite.Value).IsNil", "internal/reflectlite.TypeOf", "(internal/reflectlite.Value).Elem", "(internal/reflectlite.Value).Set"], unfollowed := true, recurses := true, named := ["errors.errorType"], apart := false, laid := [("errors.errorType", laid_errors_errorType)] }
def FnExactConfCheckSaid : Prop := fnExactConfCheckRow.holds Tryd.pinned (OpenSpec.ofChange fnExactConfCheckSpec)

/-- ITS FALSE NEIGHBOUR: 'it returns false'. Refute it at one input. -/
def fnExactConfCheckWrong : ChangeSpec := { name := "fnExactConfCheck", fn := fun _ => fun
  | [d] => { results := [.lit (.bool false)], args := [d] }
  | _ => none }
def FnExactConfCheckWrongFalsely : Prop := fnExactConfCheckRow.holds Tryd.pinned (OpenSpec.ofChange fnExactConfCheckWrong)

/-- 'laws.FnExactConfPart': WHATEVER THE INPUT: true; the input reads as it did. -/
def fnExactConfPartSpec : ChangeSpec := { name := "fnExactConfPart", fn := fun _ => fun
  | [d1, d2] => { results := [.lit (.bool true)], args := [d1, d2] }
  | _ => none }
def fnExactConfPartRow : OpenClaim := { program := "ytcenmlpfbpogoaadoor", sum := "7f2f8a2480b3a94cea70842f81addfbb2efb7b62298b85b04f0b93fb208fddbc", func := "loop.example/skyway/laws.FnExactConfPart", spec := "fnExactConfPart", inPlace := ["internal/reflectlite.ValueOf", "(internal/reflectlite.Value).Type", "(internal/reflectlite.Value).IsNil", "internal/reflectlite.TypeOf", "(internal/reflectlite.Value).Elem", "(internal/reflectlite.Value).Set"], unfollowed := true, recurses := true, named := ["errors.errorType"], apart := false, laid := [("errors.errorType", laid_errors_errorType)] }
def FnExactConfPartSaid : Prop := fnExactConfPartRow.holds Tryd.pinned (OpenSpec.ofChange fnExactConfPartSpec)

/-- ITS FALSE NEIGHBOUR: 'it returns false'. Refute it at one input. -/
def fnExactConfPartWrong : ChangeSpec := { name := "fnExactConfPart", fn := fun _ => fun
  | [d1, d2] => { results := [.lit (.bool false)], args := [d1, d2] }
  | _ => none }
def FnExactConfPartWrongFalsely : Prop := fnExactConfPartRow.holds Tryd.pinned (OpenSpec.ofChange fnExactConfPartWrong)

/- THE SECOND FORM. 'bulk': how many values and letters a reading holds, each counted each time it is reached (what is shared counts as often as it is met; a slice's spare places count too). A statement '..UptoSaid' is the law's where the arguments, and the package variables that the reading takes, are together of bulk at most 1048576: NARROWER than '..Said'. Prove '..Said' where nothing that the law and all that it calls make is longer than what came in: it says more and counts as full. Else prove '..UptoSaid'. A law counts once. -/
mutual
def uptoBulk {H : Type} : DataW H → Nat
  | .lit (.string bytes) => bytes.length + 1
  | .lit _ => 1
  | .nil => 1
  | .ptr d => uptoBulk d + 1
  | .slice elems spare => uptoBulkAll elems + uptoBulkAll spare + 1
  | .agg parts => uptoBulkAll parts + 1
  | .iface _ d => uptoBulk d + 1
  | .map entries => uptoBulkEntries entries + 1
  | .held _ => 1
def uptoBulkAll {H : Type} : List (DataW H) → Nat
  | [] => 0
  | d :: r => uptoBulk d + uptoBulkAll r
def uptoBulkEntries {H : Type} : List (Lit × DataW H) → Nat
  | [] => 0
  | x :: r => uptoBulkEntry x + uptoBulkEntries r
def uptoBulkEntry {H : Type} : Lit × DataW H → Nat
  | (.string bytes, d) => bytes.length + uptoBulk d + 1
  | (_, d) => uptoBulk d + 1
 end
def uptoSmall : (H : Type) → List (DataW H) → Bool := fun _ ds => decide (uptoBulkAll ds ≤ 1048576)
def OpenSpec.upto (s : _root_.Go.ChangeSpec) : _root_.Go.OpenSpec := { _root_.Go.OpenSpec.ofChange s with cond := some uptoSmall }

/-- 'laws.FnExactConfTurn', WHERE WHAT IT READS IS OF BULK AT MOST 1048576: true; the input reads as it did. -/
def fnExactConfTurnUptoRow : OpenClaim := { program := "ytcenmlpfbpogoaadoor", sum := "7f2f8a2480b3a94cea70842f81addfbb2efb7b62298b85b04f0b93fb208fddbc", func := "loop.example/skyway/laws.FnExactConfTurn", spec := "fnExactConfTurn", inPlace := ["internal/reflectlite.ValueOf", "(internal/reflectlite.Value).Type", "(internal/reflectlite.Value).IsNil", "internal/reflectlite.TypeOf", "(internal/reflectlite.Value).Elem", "(internal/reflectlite.Value).Set"], unfollowed := true, recurses := true, named := ["errors.errorType"], apart := false, laid := [("errors.errorType", laid_errors_errorType)], narrowed := true }
def FnExactConfTurnUptoSaid : Prop := fnExactConfTurnUptoRow.holds Tryd.pinned (OpenSpec.upto fnExactConfTurnSpec)

/-- 'laws.FnConfCheck', WHERE WHAT IT READS IS OF BULK AT MOST 1048576: true; the input reads as it did. -/
def fnConfCheckUptoRow : OpenClaim := { program := "ytcenmlpfbpogoaadoor", sum := "7f2f8a2480b3a94cea70842f81addfbb2efb7b62298b85b04f0b93fb208fddbc", func := "loop.example/skyway/laws.FnConfCheck", spec := "fnConfCheck", inPlace := ["internal/reflectlite.ValueOf", "(internal/reflectlite.Value).Type", "(internal/reflectlite.Value).IsNil", "internal/reflectlite.TypeOf", "(internal/reflectlite.Value).Elem", "(internal/reflectlite.Value).Set"], unfollowed := true, recurses := true, named := ["errors.errorType"], apart := false, laid := [("errors.errorType", laid_errors_errorType)], narrowed := true }
def FnConfCheckUptoSaid : Prop := fnConfCheckUptoRow.holds Tryd.pinned (OpenSpec.upto fnConfCheckSpec)

/-- 'laws.FnConfPart', WHERE WHAT IT READS IS OF BULK AT MOST 1048576: true; the input reads as it did. -/
def fnConfPartUptoRow : OpenClaim := { program := "ytcenmlpfbpogoaadoor", sum := "7f2f8a2480b3a94cea70842f81addfbb2efb7b62298b85b04f0b93fb208fddbc", func := "loop.example/skyway/laws.FnConfPart", spec := "fnConfPart", inPlace := ["internal/reflectlite.ValueOf", "(internal/reflectlite.Value).Type", "(internal/reflectlite.Value).IsNil", "internal/reflectlite.TypeOf", "(internal/reflectlite.Value).Elem", "(internal/reflectlite.Value).Set"], unfollowed := true, recurses := true, named := ["errors.errorType"], apart := false, laid := [("errors.errorType", laid_errors_errorType)], narrowed := true }
def FnConfPartUptoSaid : Prop := fnConfPartUptoRow.holds Tryd.pinned (OpenSpec.upto fnConfPartSpec)

/-- 'laws.FnConfTurn', WHERE WHAT IT READS IS OF BULK AT MOST 1048576: true; the input reads as it did. -/
def fnConfTurnUptoRow : OpenClaim := { program := "ytcenmlpfbpogoaadoor", sum := "7f2f8a2480b3a94cea70842f81addfbb2efb7b62298b85b04f0b93fb208fddbc", func := "loop.example/skyway/laws.FnConfTurn", spec := "fnConfTurn", inPlace := ["internal/reflectlite.ValueOf", "(internal/reflectlite.Value).Type", "(internal/reflectlite.Value).IsNil", "internal/reflectlite.TypeOf", "(internal/reflectlite.Value).Elem", "(internal/reflectlite.Value).Set"], unfollowed := true, recurses := true, named := ["errors.errorType"], apart := false, laid := [("errors.errorType", laid_errors_errorType)], narrowed := true }
def FnConfTurnUptoSaid : Prop := fnConfTurnUptoRow.holds Tryd.pinned (OpenSpec.upto fnConfTurnSpec)

/-- 'laws.FnExactConfCheck', WHERE WHAT IT READS IS OF BULK AT MOST 1048576: true; the input reads as it did. -/
def fnExactConfCheckUptoRow : OpenClaim := { program := "ytcenmlpfbpogoaadoor", sum := "7f2f8a2480b3a94cea70842f81addfbb2efb7b62298b85b04f0b93fb208fddbc", func := "loop.example/skyway/laws.FnExactConfCheck", spec := "fnExactConfCheck", inPlace := ["internal/reflectlite.ValueOf", "(internal/reflectlite.Value).Type", "(internal/reflectlite.Value).IsNil", "internal/reflectlite.TypeOf", "(internal/reflectlite.Value).Elem", "(internal/reflectlite.Value).Set"], unfollowed := true, recurses := true, named := ["errors.errorType"], apart := false, laid := [("errors.errorType", laid_errors_errorType)], narrowed := true }
def FnExactConfCheckUptoSaid : Prop := fnExactConfCheckUptoRow.holds Tryd.pinned (OpenSpec.upto fnExactConfCheckSpec)

/-- 'laws.FnExactConfPart', WHERE WHAT IT READS IS OF BULK AT MOST 1048576: true; the input reads as it did. -/
def fnExactConfPartUptoRow : OpenClaim := { program := "ytcenmlpfbpogoaadoor", sum := "7f2f8a2480b3a94cea70842f81addfbb2efb7b62298b85b04f0b93fb208fddbc", func := "loop.example/skyway/laws.FnExactConfPart", spec := "fnExactConfPart", inPlace := ["internal/reflectlite.ValueOf", "(internal/reflectlite.Value).Type", "(internal/reflectlite.Value).IsNil", "internal/reflectlite.TypeOf", "(internal/reflectlite.Value).Elem", "(internal/reflectlite.Value).Set"], unfollowed := true, recurses := true, named := ["errors.errorType"], apart := false, laid := [("errors.errorType", laid_errors_errorType)], narrowed := true }
def FnExactConfPartUptoSaid : Prop := fnExactConfPartUptoRow.holds Tryd.pinned (OpenSpec.upto fnExactConfPartSpec)

end Rows
end Go.Proofs.YtcenmlpfbpogoaaDoor
