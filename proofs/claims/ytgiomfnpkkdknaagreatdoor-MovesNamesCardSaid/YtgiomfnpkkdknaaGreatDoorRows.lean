/-
  NARROWER THAN 'FOR EVERY INPUT', by the rows' own cells (each row's printed sentence says how): KindsNames: loops, laid · LabelNames: loops, laid · LabelNone: loops, laid · BorrowNames: loops, laid · BorrowNone: loops, laid · MovesNames: loops, laid · MovesNone: loops, laid.
  DERIVED. THE GIVEN ROWS OF THIS SEAT. 7 by the template 'for every input the law returns true; each argument reads behind the call as it read before'; 0 by the template 'total and deterministic' (their statements: YtgiomfnpkkdknaaGreatDoorTotals.lean).
  GIVEN WITH THE SEED: the statements are not yours to turn. If you find one false, say at which input.
  Laid BY PROGRAM, IN A SANDBOX (cutbox-rows.mjs): the forced cells as the released guide's own fill.sh prints them over the translation 307e193dd81c8a9c… (all of the seat's roots in one cut). By AI agents, Wed Nov 11 2026. No macro, syntax, notation, axiom, sorry.
-/
import Derived.Test.YtgiomfnpkkdknaaGreatDoorChecked
import GoSem.Claim
import GoSem.ClaimJoined
import GoSem.ClaimMapViews
import Derived.JoinedTies
import Derived.KernelRfl
namespace Go.Proofs.YtgiomfnpkkdknaaGreatDoor
/- THE CELL 'sum', in the pinned program and in every row, IS THE sha256 OF THE DUMP (.gsa) THAT YtgiomfnpkkdknaaGreatDoorProg.lean LOADS. Nothing in Lean hashes anything: it is a label: what it is worth is what the hold of that sum in a sandbox is worth. -/
noncomputable def Tryz.pinned : Pinned := { name := "ytgiomfnpkkdknaagreatdoor", sum := "307e193dd81c8a9c70e6b6c32969809d3c7247cc2540345810a06c897be86a1a", checked := Tryz.checked }
namespace Rows
def none {H : Type} : Left H := { results := [], args := [] }

/- WHAT THE LISTED PACKAGE-LEVEL VARIABLES READ AS WHEN THE CALL BEGINS. Each datum BY PROGRAM (the guide's laid-datum.mjs) off the statement by which the dump's own 'gosem.cut.vars' lays the variable. In a bare row this is a premise. The card (YtgiomfnpkkdknaaGreatDoorCards.lean) ties it to the program's text. -/
def laid_errors_errorType {H : Type} : DataW H := .iface "internal/reflectlite.rtype" (.agg [.ptr (.lit (.string [101, 114, 114, 111, 114]))])

/-- 'sacristylaw11.KindsNames': WHATEVER THE INPUT: true; the input reads as it did. -/
def kindsNamesSpec : ChangeSpec := { name := "kindsNames", fn := fun _ => fun
  | [d] => { results := [.lit (.bool true)], args := [d] }
  | _ => none }
def kindsNamesRow : OpenClaim := { program := "ytgiomfnpkkdknaagreatdoor", sum := "307e193dd81c8a9c70e6b6c32969809d3c7247cc2540345810a06c897be86a1a", func := "sacristy/sacristylaw11.KindsNames", spec := "kindsNames", inPlace := ["maps.clone", "internal/reflectlite.ValueOf", "(internal/reflectlite.Value).Type", "(internal/reflectlite.Value).IsNil", "internal/reflectlite.TypeOf", "(internal/reflectlite.Value).Elem", "(internal/reflectlite.Value).Set"], unfollowed := true, recurses := true, named := ["errors.errorType"], loops := true, apart := false, laid := [("errors.errorType", laid_errors_errorType)] }
def KindsNamesSaid : Prop := kindsNamesRow.holds Tryz.pinned (OpenSpec.ofChange kindsNamesSpec)

/-- ITS FALSE NEIGHBOUR: 'it returns false'. Refute it at one input. -/
def kindsNamesWrong : ChangeSpec := { name := "kindsNames", fn := fun _ => fun
  | [d] => { results := [.lit (.bool false)], args := [d] }
  | _ => none }
def KindsNamesWrongFalsely : Prop := kindsNamesRow.holds Tryz.pinned (OpenSpec.ofChange kindsNamesWrong)

/-- 'sacristylaw12.LabelNames': WHATEVER THE INPUT: true; the input reads as it did. -/
def labelNamesSpec : ChangeSpec := { name := "labelNames", fn := fun _ => fun
  | [d] => { results := [.lit (.bool true)], args := [d] }
  | _ => none }
def labelNamesRow : OpenClaim := { program := "ytgiomfnpkkdknaagreatdoor", sum := "307e193dd81c8a9c70e6b6c32969809d3c7247cc2540345810a06c897be86a1a", func := "sacristy/sacristylaw12.LabelNames", spec := "labelNames", inPlace := ["maps.clone", "internal/reflectlite.ValueOf", "(internal/reflectlite.Value).Type", "(internal/reflectlite.Value).IsNil", "internal/reflectlite.TypeOf", "(internal/reflectlite.Value).Elem", "(internal/reflectlite.Value).Set"], unfollowed := true, recurses := true, named := ["errors.errorType"], loops := true, apart := false, laid := [("errors.errorType", laid_errors_errorType)] }
def LabelNamesSaid : Prop := labelNamesRow.holds Tryz.pinned (OpenSpec.ofChange labelNamesSpec)

/-- ITS FALSE NEIGHBOUR: 'it returns false'. Refute it at one input. -/
def labelNamesWrong : ChangeSpec := { name := "labelNames", fn := fun _ => fun
  | [d] => { results := [.lit (.bool false)], args := [d] }
  | _ => none }
def LabelNamesWrongFalsely : Prop := labelNamesRow.holds Tryz.pinned (OpenSpec.ofChange labelNamesWrong)

/-- 'sacristylaw12.LabelNone': WHATEVER THE INPUT: true; the input reads as it did. -/
def labelNoneSpec : ChangeSpec := { name := "labelNone", fn := fun _ => fun
  | [d] => { results := [.lit (.bool true)], args := [d] }
  | _ => none }
def labelNoneRow : OpenClaim := { program := "ytgiomfnpkkdknaagreatdoor", sum := "307e193dd81c8a9c70e6b6c32969809d3c7247cc2540345810a06c897be86a1a", func := "sacristy/sacristylaw12.LabelNone", spec := "labelNone", inPlace := ["maps.clone", "internal/reflectlite.ValueOf", "(internal/reflectlite.Value).Type", "(internal/reflectlite.Value).IsNil", "internal/reflectlite.TypeOf", "(internal/reflectlite.Value).Elem", "(internal/reflectlite.Value).Set"], unfollowed := true, recurses := true, named := ["errors.errorType"], loops := true, apart := false, laid := [("errors.errorType", laid_errors_errorType)] }
def LabelNoneSaid : Prop := labelNoneRow.holds Tryz.pinned (OpenSpec.ofChange labelNoneSpec)

/-- ITS FALSE NEIGHBOUR: 'it returns false'. Refute it at one input. -/
def labelNoneWrong : ChangeSpec := { name := "labelNone", fn := fun _ => fun
  | [d] => { results := [.lit (.bool false)], args := [d] }
  | _ => none }
def LabelNoneWrongFalsely : Prop := labelNoneRow.holds Tryz.pinned (OpenSpec.ofChange labelNoneWrong)

/-- 'sacristylaw13.BorrowNames': WHATEVER THE INPUT: true; the input reads as it did. -/
def borrowNamesSpec : ChangeSpec := { name := "borrowNames", fn := fun _ => fun
  | [d] => { results := [.lit (.bool true)], args := [d] }
  | _ => none }
def borrowNamesRow : OpenClaim := { program := "ytgiomfnpkkdknaagreatdoor", sum := "307e193dd81c8a9c70e6b6c32969809d3c7247cc2540345810a06c897be86a1a", func := "sacristy/sacristylaw13.BorrowNames", spec := "borrowNames", inPlace := ["maps.clone", "internal/reflectlite.ValueOf", "(internal/reflectlite.Value).Type", "(internal/reflectlite.Value).IsNil", "internal/reflectlite.TypeOf", "(internal/reflectlite.Value).Elem", "(internal/reflectlite.Value).Set"], unfollowed := true, recurses := true, named := ["errors.errorType"], loops := true, apart := false, laid := [("errors.errorType", laid_errors_errorType)] }
def BorrowNamesSaid : Prop := borrowNamesRow.holds Tryz.pinned (OpenSpec.ofChange borrowNamesSpec)

/-- ITS FALSE NEIGHBOUR: 'it returns false'. Refute it at one input. -/
def borrowNamesWrong : ChangeSpec := { name := "borrowNames", fn := fun _ => fun
  | [d] => { results := [.lit (.bool false)], args := [d] }
  | _ => none }
def BorrowNamesWrongFalsely : Prop := borrowNamesRow.holds Tryz.pinned (OpenSpec.ofChange borrowNamesWrong)

/-- 'sacristylaw13.BorrowNone': WHATEVER THE INPUT: true; the input reads as it did. -/
def borrowNoneSpec : ChangeSpec := { name := "borrowNone", fn := fun _ => fun
  | [d] => { results := [.lit (.bool true)], args := [d] }
  | _ => none }
def borrowNoneRow : OpenClaim := { program := "ytgiomfnpkkdknaagreatdoor", sum := "307e193dd81c8a9c70e6b6c32969809d3c7247cc2540345810a06c897be86a1a", func := "sacristy/sacristylaw13.BorrowNone", spec := "borrowNone", inPlace := ["maps.clone", "internal/reflectlite.ValueOf", "(internal/reflectlite.Value).Type", "(internal/reflectlite.Value).IsNil", "internal/reflectlite.TypeOf", "(internal/reflectlite.Value).Elem", "(internal/reflectlite.Value).Set"], unfollowed := true, recurses := true, named := ["errors.errorType"], loops := true, apart := false, laid := [("errors.errorType", laid_errors_errorType)] }
def BorrowNoneSaid : Prop := borrowNoneRow.holds Tryz.pinned (OpenSpec.ofChange borrowNoneSpec)

/-- ITS FALSE NEIGHBOUR: 'it returns false'. Refute it at one input. -/
def borrowNoneWrong : ChangeSpec := { name := "borrowNone", fn := fun _ => fun
  | [d] => { results := [.lit (.bool false)], args := [d] }
  | _ => none }
def BorrowNoneWrongFalsely : Prop := borrowNoneRow.holds Tryz.pinned (OpenSpec.ofChange borrowNoneWrong)

/-- 'sacristylaw14.MovesNames': WHATEVER THE INPUT: true; the input reads as it did. -/
def movesNamesSpec : ChangeSpec := { name := "movesNames", fn := fun _ => fun
  | [d] => { results := [.lit (.bool true)], args := [d] }
  | _ => none }
def movesNamesRow : OpenClaim := { program := "ytgiomfnpkkdknaagreatdoor", sum := "307e193dd81c8a9c70e6b6c32969809d3c7247cc2540345810a06c897be86a1a", func := "sacristy/sacristylaw14.MovesNames", spec := "movesNames", inPlace := ["maps.clone", "internal/reflectlite.ValueOf", "(internal/reflectlite.Value).Type", "(internal/reflectlite.Value).IsNil", "internal/reflectlite.TypeOf", "(internal/reflectlite.Value).Elem", "(internal/reflectlite.Value).Set"], unfollowed := true, recurses := true, named := ["errors.errorType"], loops := true, apart := false, laid := [("errors.errorType", laid_errors_errorType)] }
def MovesNamesSaid : Prop := movesNamesRow.holds Tryz.pinned (OpenSpec.ofChange movesNamesSpec)

/-- ITS FALSE NEIGHBOUR: 'it returns false'. Refute it at one input. -/
def movesNamesWrong : ChangeSpec := { name := "movesNames", fn := fun _ => fun
  | [d] => { results := [.lit (.bool false)], args := [d] }
  | _ => none }
def MovesNamesWrongFalsely : Prop := movesNamesRow.holds Tryz.pinned (OpenSpec.ofChange movesNamesWrong)

/-- 'sacristylaw14.MovesNone': WHATEVER THE INPUT: true; the input reads as it did. -/
def movesNoneSpec : ChangeSpec := { name := "movesNone", fn := fun _ => fun
  | [d] => { results := [.lit (.bool true)], args := [d] }
  | _ => none }
def movesNoneRow : OpenClaim := { program := "ytgiomfnpkkdknaagreatdoor", sum := "307e193dd81c8a9c70e6b6c32969809d3c7247cc2540345810a06c897be86a1a", func := "sacristy/sacristylaw14.MovesNone", spec := "movesNone", inPlace := ["maps.clone", "internal/reflectlite.ValueOf", "(internal/reflectlite.Value).Type", "(internal/reflectlite.Value).IsNil", "internal/reflectlite.TypeOf", "(internal/reflectlite.Value).Elem", "(internal/reflectlite.Value).Set"], unfollowed := true, recurses := true, named := ["errors.errorType"], loops := true, apart := false, laid := [("errors.errorType", laid_errors_errorType)] }
def MovesNoneSaid : Prop := movesNoneRow.holds Tryz.pinned (OpenSpec.ofChange movesNoneSpec)

/-- ITS FALSE NEIGHBOUR: 'it returns false'. Refute it at one input. -/
def movesNoneWrong : ChangeSpec := { name := "movesNone", fn := fun _ => fun
  | [d] => { results := [.lit (.bool false)], args := [d] }
  | _ => none }
def MovesNoneWrongFalsely : Prop := movesNoneRow.holds Tryz.pinned (OpenSpec.ofChange movesNoneWrong)

/- THE SECOND FORM. 'bulk': how many values and letters a reading holds, each counted each time it is reached (what is shared counts as often as it is met; a slice's spare places count too). A statement '..UptoSaid' is the law's where the arguments, and the package variables that the reading takes, are together of bulk at most 1048576: NARROWER than '..Said'. Prove '..Said' where nothing that the law and all that it calls make is longer than what came in: it says more and counts as full. Else prove '..UptoSaid'. A law counts once. -/
mutual
def uptoBulk {H : Type} : DataW H → Nat
  | .lit (.string bytes) => bytes.length + 1
  | .lit _ => 1
  | .nil => 1
  | .ptr d => uptoBulk d + 1
  | .slice elems spare => uptoBulkAll elems + uptoBulkAll spare + 1
  | .agg parts => uptoBulkAll parts + 1
  | .iface _ d => uptoBulk d + 1
  | .map entries => uptoBulkEntries entries + 1
  | .held _ => 1
def uptoBulkAll {H : Type} : List (DataW H) → Nat
  | [] => 0
  | d :: r => uptoBulk d + uptoBulkAll r
def uptoBulkEntries {H : Type} : List (Lit × DataW H) → Nat
  | [] => 0
  | x :: r => uptoBulkEntry x + uptoBulkEntries r
def uptoBulkEntry {H : Type} : Lit × DataW H → Nat
  | (.string bytes, d) => bytes.length + uptoBulk d + 1
  | (_, d) => uptoBulk d + 1
 end
def uptoSmall : (H : Type) → List (DataW H) → Bool := fun _ ds => decide (uptoBulkAll ds ≤ 1048576)
def OpenSpec.upto (s : _root_.Go.ChangeSpec) : _root_.Go.OpenSpec := { _root_.Go.OpenSpec.ofChange s with cond := some uptoSmall }

/-- 'sacristylaw11.KindsNames', WHERE WHAT IT READS IS OF BULK AT MOST 1048576: true; the input reads as it did. -/
def kindsNamesUptoRow : OpenClaim := { program := "ytgiomfnpkkdknaagreatdoor", sum := "307e193dd81c8a9c70e6b6c32969809d3c7247cc2540345810a06c897be86a1a", func := "sacristy/sacristylaw11.KindsNames", spec := "kindsNames", inPlace := ["maps.clone", "internal/reflectlite.ValueOf", "(internal/reflectlite.Value).Type", "(internal/reflectlite.Value).IsNil", "internal/reflectlite.TypeOf", "(internal/reflectlite.Value).Elem", "(internal/reflectlite.Value).Set"], unfollowed := true, recurses := true, named := ["errors.errorType"], loops := true, apart := false, laid := [("errors.errorType", laid_errors_errorType)], narrowed := true }
def KindsNamesUptoSaid : Prop := kindsNamesUptoRow.holds Tryz.pinned (OpenSpec.upto kindsNamesSpec)

/-- 'sacristylaw12.LabelNames', WHERE WHAT IT READS IS OF BULK AT MOST 1048576: true; the input reads as it did. -/
def labelNamesUptoRow : OpenClaim := { program := "ytgiomfnpkkdknaagreatdoor", sum := "307e193dd81c8a9c70e6b6c32969809d3c7247cc2540345810a06c897be86a1a", func := "sacristy/sacristylaw12.LabelNames", spec := "labelNames", inPlace := ["maps.clone", "internal/reflectlite.ValueOf", "(internal/reflectlite.Value).Type", "(internal/reflectlite.Value).IsNil", "internal/reflectlite.TypeOf", "(internal/reflectlite.Value).Elem", "(internal/reflectlite.Value).Set"], unfollowed := true, recurses := true, named := ["errors.errorType"], loops := true, apart := false, laid := [("errors.errorType", laid_errors_errorType)], narrowed := true }
def LabelNamesUptoSaid : Prop := labelNamesUptoRow.holds Tryz.pinned (OpenSpec.upto labelNamesSpec)

/-- 'sacristylaw12.LabelNone', WHERE WHAT IT READS IS OF BULK AT MOST 1048576: true; the input reads as it did. -/
def labelNoneUptoRow : OpenClaim := { program := "ytgiomfnpkkdknaagreatdoor", sum := "307e193dd81c8a9c70e6b6c32969809d3c7247cc2540345810a06c897be86a1a", func := "sacristy/sacristylaw12.LabelNone", spec := "labelNone", inPlace := ["maps.clone", "internal/reflectlite.ValueOf", "(internal/reflectlite.Value).Type", "(internal/reflectlite.Value).IsNil", "internal/reflectlite.TypeOf", "(internal/reflectlite.Value).Elem", "(internal/reflectlite.Value).Set"], unfollowed := true, recurses := true, named := ["errors.errorType"], loops := true, apart := false, laid := [("errors.errorType", laid_errors_errorType)], narrowed := true }
def LabelNoneUptoSaid : Prop := labelNoneUptoRow.holds Tryz.pinned (OpenSpec.upto labelNoneSpec)

/-- 'sacristylaw13.BorrowNames', WHERE WHAT IT READS IS OF BULK AT MOST 1048576: true; the input reads as it did. -/
def borrowNamesUptoRow : OpenClaim := { program := "ytgiomfnpkkdknaagreatdoor", sum := "307e193dd81c8a9c70e6b6c32969809d3c7247cc2540345810a06c897be86a1a", func := "sacristy/sacristylaw13.BorrowNames", spec := "borrowNames", inPlace := ["maps.clone", "internal/reflectlite.ValueOf", "(internal/reflectlite.Value).Type", "(internal/reflectlite.Value).IsNil", "internal/reflectlite.TypeOf", "(internal/reflectlite.Value).Elem", "(internal/reflectlite.Value).Set"], unfollowed := true, recurses := true, named := ["errors.errorType"], loops := true, apart := false, laid := [("errors.errorType", laid_errors_errorType)], narrowed := true }
def BorrowNamesUptoSaid : Prop := borrowNamesUptoRow.holds Tryz.pinned (OpenSpec.upto borrowNamesSpec)

/-- 'sacristylaw13.BorrowNone', WHERE WHAT IT READS IS OF BULK AT MOST 1048576: true; the input reads as it did. -/
def borrowNoneUptoRow : OpenClaim := { program := "ytgiomfnpkkdknaagreatdoor", sum := "307e193dd81c8a9c70e6b6c32969809d3c7247cc2540345810a06c897be86a1a", func := "sacristy/sacristylaw13.BorrowNone", spec := "borrowNone", inPlace := ["maps.clone", "internal/reflectlite.ValueOf", "(internal/reflectlite.Value).Type", "(internal/reflectlite.Value).IsNil", "internal/reflectlite.TypeOf", "(internal/reflectlite.Value).Elem", "(internal/reflectlite.Value).Set"], unfollowed := true, recurses := true, named := ["errors.errorType"], loops := true, apart := false, laid := [("errors.errorType", laid_errors_errorType)], narrowed := true }
def BorrowNoneUptoSaid : Prop := borrowNoneUptoRow.holds Tryz.pinned (OpenSpec.upto borrowNoneSpec)

/-- 'sacristylaw14.MovesNames', WHERE WHAT IT READS IS OF BULK AT MOST 1048576: true; the input reads as it did. -/
def movesNamesUptoRow : OpenClaim := { program := "ytgiomfnpkkdknaagreatdoor", sum := "307e193dd81c8a9c70e6b6c32969809d3c7247cc2540345810a06c897be86a1a", func := "sacristy/sacristylaw14.MovesNames", spec := "movesNames", inPlace := ["maps.clone", "internal/reflectlite.ValueOf", "(internal/reflectlite.Value).Type", "(internal/reflectlite.Value).IsNil", "internal/reflectlite.TypeOf", "(internal/reflectlite.Value).Elem", "(internal/reflectlite.Value).Set"], unfollowed := true, recurses := true, named := ["errors.errorType"], loops := true, apart := false, laid := [("errors.errorType", laid_errors_errorType)], narrowed := true }
def MovesNamesUptoSaid : Prop := movesNamesUptoRow.holds Tryz.pinned (OpenSpec.upto movesNamesSpec)

/-- 'sacristylaw14.MovesNone', WHERE WHAT IT READS IS OF BULK AT MOST 1048576: true; the input reads as it did. -/
def movesNoneUptoRow : OpenClaim := { program := "ytgiomfnpkkdknaagreatdoor", sum := "307e193dd81c8a9c70e6b6c32969809d3c7247cc2540345810a06c897be86a1a", func := "sacristy/sacristylaw14.MovesNone", spec := "movesNone", inPlace := ["maps.clone", "internal/reflectlite.ValueOf", "(internal/reflectlite.Value).Type", "(internal/reflectlite.Value).IsNil", "internal/reflectlite.TypeOf", "(internal/reflectlite.Value).Elem", "(internal/reflectlite.Value).Set"], unfollowed := true, recurses := true, named := ["errors.errorType"], loops := true, apart := false, laid := [("errors.errorType", laid_errors_errorType)], narrowed := true }
def MovesNoneUptoSaid : Prop := movesNoneUptoRow.holds Tryz.pinned (OpenSpec.upto movesNoneSpec)

end Rows
end Go.Proofs.YtgiomfnpkkdknaaGreatDoor
