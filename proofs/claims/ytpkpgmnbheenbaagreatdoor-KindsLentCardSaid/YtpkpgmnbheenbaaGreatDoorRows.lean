/-
  NARROWER THAN 'FOR EVERY INPUT', by the rows' own cells (each row's printed sentence says how): KindsTells: loops, laid · KindsCalls: loops, laid · KindsLent: loops, laid · LabelTells: loops, laid · BorrowTells: loops, laid · BorrowWithin: loops, laid · MovesTells: loops, laid · MovesGone: loops, laid · LabelKeeps: loops, laid.
  DERIVED. THE GIVEN ROWS OF THIS SEAT. 9 by the template 'for every input the law returns true; each argument reads behind the call as it read before'; 0 by the template 'total and deterministic' (their statements: YtpkpgmnbheenbaaGreatDoorTotals.lean).
  GIVEN WITH THE SEED: the statements are not yours to turn. If you find one false, say at which input.
  Laid BY PROGRAM, IN A SANDBOX (cutbox-rows.mjs): the forced cells as the released guide's own fill.sh prints them over the translation 249f48395ddb0995… (all of the seat's roots in one cut). By AI agents, Wed Nov 11 2026. No macro, syntax, notation, axiom, sorry.
-/
import Derived.Test.YtpkpgmnbheenbaaGreatDoorChecked
import GoSem.Claim
import GoSem.ClaimJoined
import GoSem.ClaimMapViews
import Derived.JoinedTies
import Derived.KernelRfl
namespace Go.Proofs.YtpkpgmnbheenbaaGreatDoor
/- THE CELL 'sum', in the pinned program and in every row, IS THE sha256 OF THE DUMP (.gsa) THAT YtpkpgmnbheenbaaGreatDoorProg.lean LOADS. Nothing in Lean hashes anything: it is a label: what it is worth is what the hold of that sum in a sandbox is worth. -/
noncomputable def Tryz.pinned : Pinned := { name := "ytpkpgmnbheenbaagreatdoor", sum := "249f48395ddb099544d6a1e77cf1a88173a57659770c2e7c3f5c38d39c12f615", checked := Tryz.checked }
namespace Rows
def none {H : Type} : Left H := { results := [], args := [] }

/- WHAT THE LISTED PACKAGE-LEVEL VARIABLES READ AS WHEN THE CALL BEGINS. Each datum BY PROGRAM (the guide's laid-datum.mjs) off the statement by which the dump's own 'gosem.cut.vars' lays the variable. In a bare row this is a premise. The card (YtpkpgmnbheenbaaGreatDoorCards.lean) ties it to the program's text. -/
def laid_errors_errorType {H : Type} : DataW H := .iface "internal/reflectlite.rtype" (.agg [.ptr (.lit (.string [101, 114, 114, 111, 114]))])

/-- 'sacristylaw11.KindsTells': WHATEVER THE INPUT: true; the input reads as it did. -/
def kindsTellsSpec : ChangeSpec := { name := "kindsTells", fn := fun _ => fun
  | [d] => { results := [.lit (.bool true)], args := [d] }
  | _ => none }
def kindsTellsRow : OpenClaim := { program := "ytpkpgmnbheenbaagreatdoor", sum := "249f48395ddb099544d6a1e77cf1a88173a57659770c2e7c3f5c38d39c12f615", func := "sacristy/sacristylaw11.KindsTells", spec := "kindsTells", inPlace := ["maps.clone", "internal/reflectlite.ValueOf", "(internal/reflectlite.Value).Type", "(internal/reflectlite.Value).IsNil", "internal/reflectlite.TypeOf", "(internal/reflectlite.Value).Elem", "(internal/reflectlite.Value).Set"], unfollowed := true, recurses := true, named := ["errors.errorType"], loops := true, apart := false, laid := [("errors.errorType", laid_errors_errorType)] }
def KindsTellsSaid : Prop := kindsTellsRow.holds Tryz.pinned (OpenSpec.ofChange kindsTellsSpec)

/-- ITS FALSE NEIGHBOUR: 'it returns false'. Refute it at one input. -/
def kindsTellsWrong : ChangeSpec := { name := "kindsTells", fn := fun _ => fun
  | [d] => { results := [.lit (.bool false)], args := [d] }
  | _ => none }
def KindsTellsWrongFalsely : Prop := kindsTellsRow.holds Tryz.pinned (OpenSpec.ofChange kindsTellsWrong)

/-- 'sacristylaw11.KindsCalls': WHATEVER THE INPUT: true; the input reads as it did. -/
def kindsCallsSpec : ChangeSpec := { name := "kindsCalls", fn := fun _ => fun
  | [d1, d2] => { results := [.lit (.bool true)], args := [d1, d2] }
  | _ => none }
def kindsCallsRow : OpenClaim := { program := "ytpkpgmnbheenbaagreatdoor", sum := "249f48395ddb099544d6a1e77cf1a88173a57659770c2e7c3f5c38d39c12f615", func := "sacristy/sacristylaw11.KindsCalls", spec := "kindsCalls", inPlace := ["maps.clone", "internal/reflectlite.ValueOf", "(internal/reflectlite.Value).Type", "(internal/reflectlite.Value).IsNil", "internal/reflectlite.TypeOf", "(internal/reflectlite.Value).Elem", "(internal/reflectlite.Value).Set"], unfollowed := true, recurses := true, named := ["errors.errorType"], loops := true, apart := false, laid := [("errors.errorType", laid_errors_errorType)] }
def KindsCallsSaid : Prop := kindsCallsRow.holds Tryz.pinned (OpenSpec.ofChange kindsCallsSpec)

/-- ITS FALSE NEIGHBOUR: 'it returns false'. Refute it at one input. -/
def kindsCallsWrong : ChangeSpec := { name := "kindsCalls", fn := fun _ => fun
  | [d1, d2] => { results := [.lit (.bool false)], args := [d1, d2] }
  | _ => none }
def KindsCallsWrongFalsely : Prop := kindsCallsRow.holds Tryz.pinned (OpenSpec.ofChange kindsCallsWrong)

/-- 'sacristylaw11.KindsLent': WHATEVER THE INPUT: true; the input reads as it did. -/
def kindsLentSpec : ChangeSpec := { name := "kindsLent", fn := fun _ => fun
  | [d1, d2] => { results := [.lit (.bool true)], args := [d1, d2] }
  | _ => none }
def kindsLentRow : OpenClaim := { program := "ytpkpgmnbheenbaagreatdoor", sum := "249f48395ddb099544d6a1e77cf1a88173a57659770c2e7c3f5c38d39c12f615", func := "sacristy/sacristylaw11.KindsLent", spec := "kindsLent", inPlace := ["maps.clone", "internal/reflectlite.ValueOf", "(internal/reflectlite.Value).Type", "(internal/reflectlite.Value).IsNil", "internal/reflectlite.TypeOf", "(internal/reflectlite.Value).Elem", "(internal/reflectlite.Value).Set"], unfollowed := true, recurses := true, named := ["errors.errorType"], loops := true, apart := false, laid := [("errors.errorType", laid_errors_errorType)] }
def KindsLentSaid : Prop := kindsLentRow.holds Tryz.pinned (OpenSpec.ofChange kindsLentSpec)

/-- ITS FALSE NEIGHBOUR: 'it returns false'. Refute it at one input. -/
def kindsLentWrong : ChangeSpec := { name := "kindsLent", fn := fun _ => fun
  | [d1, d2] => { results := [.lit (.bool false)], args := [d1, d2] }
  | _ => none }
def KindsLentWrongFalsely : Prop := kindsLentRow.holds Tryz.pinned (OpenSpec.ofChange kindsLentWrong)

/-- 'sacristylaw12.LabelTells': WHATEVER THE INPUT: true; the input reads as it did. -/
def labelTellsSpec : ChangeSpec := { name := "labelTells", fn := fun _ => fun
  | [d] => { results := [.lit (.bool true)], args := [d] }
  | _ => none }
def labelTellsRow : OpenClaim := { program := "ytpkpgmnbheenbaagreatdoor", sum := "249f48395ddb099544d6a1e77cf1a88173a57659770c2e7c3f5c38d39c12f615", func := "sacristy/sacristylaw12.LabelTells", spec := "labelTells", inPlace := ["maps.clone", "internal/reflectlite.ValueOf", "(internal/reflectlite.Value).Type", "(internal/reflectlite.Value).IsNil", "internal/reflectlite.TypeOf", "(internal/reflectlite.Value).Elem", "(internal/reflectlite.Value).Set"], unfollowed := true, recurses := true, named := ["errors.errorType"], loops := true, apart := false, laid := [("errors.errorType", laid_errors_errorType)] }
def LabelTellsSaid : Prop := labelTellsRow.holds Tryz.pinned (OpenSpec.ofChange labelTellsSpec)

/-- ITS FALSE NEIGHBOUR: 'it returns false'. Refute it at one input. -/
def labelTellsWrong : ChangeSpec := { name := "labelTells", fn := fun _ => fun
  | [d] => { results := [.lit (.bool false)], args := [d] }
  | _ => none }
def LabelTellsWrongFalsely : Prop := labelTellsRow.holds Tryz.pinned (OpenSpec.ofChange labelTellsWrong)

/-- 'sacristylaw13.BorrowTells': WHATEVER THE INPUT: true; the input reads as it did. -/
def borrowTellsSpec : ChangeSpec := { name := "borrowTells", fn := fun _ => fun
  | [d] => { results := [.lit (.bool true)], args := [d] }
  | _ => none }
def borrowTellsRow : OpenClaim := { program := "ytpkpgmnbheenbaagreatdoor", sum := "249f48395ddb099544d6a1e77cf1a88173a57659770c2e7c3f5c38d39c12f615", func := "sacristy/sacristylaw13.BorrowTells", spec := "borrowTells", inPlace := ["maps.clone", "internal/reflectlite.ValueOf", "(internal/reflectlite.Value).Type", "(internal/reflectlite.Value).IsNil", "internal/reflectlite.TypeOf", "(internal/reflectlite.Value).Elem", "(internal/reflectlite.Value).Set"], unfollowed := true, recurses := true, named := ["errors.errorType"], loops := true, apart := false, laid := [("errors.errorType", laid_errors_errorType)] }
def BorrowTellsSaid : Prop := borrowTellsRow.holds Tryz.pinned (OpenSpec.ofChange borrowTellsSpec)

/-- ITS FALSE NEIGHBOUR: 'it returns false'. Refute it at one input. -/
def borrowTellsWrong : ChangeSpec := { name := "borrowTells", fn := fun _ => fun
  | [d] => { results := [.lit (.bool false)], args := [d] }
  | _ => none }
def BorrowTellsWrongFalsely : Prop := borrowTellsRow.holds Tryz.pinned (OpenSpec.ofChange borrowTellsWrong)

/-- 'sacristylaw13.BorrowWithin': WHATEVER THE INPUT: true; the input reads as it did. -/
def borrowWithinSpec : ChangeSpec := { name := "borrowWithin", fn := fun _ => fun
  | [d1, d2, d3] => { results := [.lit (.bool true)], args := [d1, d2, d3] }
  | _ => none }
def borrowWithinRow : OpenClaim := { program := "ytpkpgmnbheenbaagreatdoor", sum := "249f48395ddb099544d6a1e77cf1a88173a57659770c2e7c3f5c38d39c12f615", func := "sacristy/sacristylaw13.BorrowWithin", spec := "borrowWithin", inPlace := ["maps.clone", "internal/reflectlite.ValueOf", "(internal/reflectlite.Value).Type", "(internal/reflectlite.Value).IsNil", "internal/reflectlite.TypeOf", "(internal/reflectlite.Value).Elem", "(internal/reflectlite.Value).Set"], unfollowed := true, recurses := true, named := ["errors.errorType"], loops := true, apart := false, laid := [("errors.errorType", laid_errors_errorType)] }
def BorrowWithinSaid : Prop := borrowWithinRow.holds Tryz.pinned (OpenSpec.ofChange borrowWithinSpec)

/-- ITS FALSE NEIGHBOUR: 'it returns false'. Refute it at one input. -/
def borrowWithinWrong : ChangeSpec := { name := "borrowWithin", fn := fun _ => fun
  | [d1, d2, d3] => { results := [.lit (.bool false)], args := [d1, d2, d3] }
  | _ => none }
def BorrowWithinWrongFalsely : Prop := borrowWithinRow.holds Tryz.pinned (OpenSpec.ofChange borrowWithinWrong)

/-- 'sacristylaw14.MovesTells': WHATEVER THE INPUT: true; the input reads as it did. -/
def movesTellsSpec : ChangeSpec := { name := "movesTells", fn := fun _ => fun
  | [d] => { results := [.lit (.bool true)], args := [d] }
  | _ => none }
def movesTellsRow : OpenClaim := { program := "ytpkpgmnbheenbaagreatdoor", sum := "249f48395ddb099544d6a1e77cf1a88173a57659770c2e7c3f5c38d39c12f615", func := "sacristy/sacristylaw14.MovesTells", spec := "movesTells", inPlace := ["maps.clone", "internal/reflectlite.ValueOf", "(internal/reflectlite.Value).Type", "(internal/reflectlite.Value).IsNil", "internal/reflectlite.TypeOf", "(internal/reflectlite.Value).Elem", "(internal/reflectlite.Value).Set"], unfollowed := true, recurses := true, named := ["errors.errorType"], loops := true, apart := false, laid := [("errors.errorType", laid_errors_errorType)] }
def MovesTellsSaid : Prop := movesTellsRow.holds Tryz.pinned (OpenSpec.ofChange movesTellsSpec)

/-- ITS FALSE NEIGHBOUR: 'it returns false'. Refute it at one input. -/
def movesTellsWrong : ChangeSpec := { name := "movesTells", fn := fun _ => fun
  | [d] => { results := [.lit (.bool false)], args := [d] }
  | _ => none }
def MovesTellsWrongFalsely : Prop := movesTellsRow.holds Tryz.pinned (OpenSpec.ofChange movesTellsWrong)

/-- 'sacristylaw14.MovesGone': WHATEVER THE INPUT: true; the input reads as it did. -/
def movesGoneSpec : ChangeSpec := { name := "movesGone", fn := fun _ => fun
  | [d1, d2, d3] => { results := [.lit (.bool true)], args := [d1, d2, d3] }
  | _ => none }
def movesGoneRow : OpenClaim := { program := "ytpkpgmnbheenbaagreatdoor", sum := "249f48395ddb099544d6a1e77cf1a88173a57659770c2e7c3f5c38d39c12f615", func := "sacristy/sacristylaw14.MovesGone", spec := "movesGone", inPlace := ["maps.clone", "internal/reflectlite.ValueOf", "(internal/reflectlite.Value).Type", "(internal/reflectlite.Value).IsNil", "internal/reflectlite.TypeOf", "(internal/reflectlite.Value).Elem", "(internal/reflectlite.Value).Set"], unfollowed := true, recurses := true, named := ["errors.errorType"], loops := true, apart := false, laid := [("errors.errorType", laid_errors_errorType)] }
def MovesGoneSaid : Prop := movesGoneRow.holds Tryz.pinned (OpenSpec.ofChange movesGoneSpec)

/-- ITS FALSE NEIGHBOUR: 'it returns false'. Refute it at one input. -/
def movesGoneWrong : ChangeSpec := { name := "movesGone", fn := fun _ => fun
  | [d1, d2, d3] => { results := [.lit (.bool false)], args := [d1, d2, d3] }
  | _ => none }
def MovesGoneWrongFalsely : Prop := movesGoneRow.holds Tryz.pinned (OpenSpec.ofChange movesGoneWrong)

/-- 'sacristylaw12.LabelKeeps': WHATEVER THE INPUT: true; the input reads as it did. -/
def labelKeepsSpec : ChangeSpec := { name := "labelKeeps", fn := fun _ => fun
  | [d1, d2, d3] => { results := [.lit (.bool true)], args := [d1, d2, d3] }
  | _ => none }
def labelKeepsRow : OpenClaim := { program := "ytpkpgmnbheenbaagreatdoor", sum := "249f48395ddb099544d6a1e77cf1a88173a57659770c2e7c3f5c38d39c12f615", func := "sacristy/sacristylaw12.LabelKeeps", spec := "labelKeeps", inPlace := ["maps.clone", "internal/reflectlite.ValueOf", "(internal/reflectlite.Value).Type", "(internal/reflectlite.Value).IsNil", "internal/reflectlite.TypeOf", "(internal/reflectlite.Value).Elem", "(internal/reflectlite.Value).Set"], unfollowed := true, recurses := true, named := ["errors.errorType"], loops := true, apart := false, laid := [("errors.errorType", laid_errors_errorType)] }
def LabelKeepsSaid : Prop := labelKeepsRow.holds Tryz.pinned (OpenSpec.ofChange labelKeepsSpec)

/-- ITS FALSE NEIGHBOUR: 'it returns false'. Refute it at one input. -/
def labelKeepsWrong : ChangeSpec := { name := "labelKeeps", fn := fun _ => fun
  | [d1, d2, d3] => { results := [.lit (.bool false)], args := [d1, d2, d3] }
  | _ => none }
def LabelKeepsWrongFalsely : Prop := labelKeepsRow.holds Tryz.pinned (OpenSpec.ofChange labelKeepsWrong)

/- THE SECOND FORM. 'bulk': how many values and letters a reading holds, each counted each time it is reached (what is shared counts as often as it is met; a slice's spare places count too). A statement '..UptoSaid' is the law's where the arguments, and the package variables that the reading takes, are together of bulk at most 1048576: NARROWER than '..Said'. Prove '..Said' where nothing that the law and all that it calls make is longer than what came in: it says more and counts as full. Else prove '..UptoSaid'. A law counts once. -/
mutual
def uptoBulk {H : Type} : DataW H → Nat
  | .lit (.string bytes) => bytes.length + 1
  | .lit _ => 1
  | .nil => 1
  | .ptr d => uptoBulk d + 1
  | .slice elems spare => uptoBulkAll elems + uptoBulkAll spare + 1
  | .agg parts => uptoBulkAll parts + 1
  | .iface _ d => uptoBulk d + 1
  | .map entries => uptoBulkEntries entries + 1
  | .held _ => 1
def uptoBulkAll {H : Type} : List (DataW H) → Nat
  | [] => 0
  | d :: r => uptoBulk d + uptoBulkAll r
def uptoBulkEntries {H : Type} : List (Lit × DataW H) → Nat
  | [] => 0
  | x :: r => uptoBulkEntry x + uptoBulkEntries r
def uptoBulkEntry {H : Type} : Lit × DataW H → Nat
  | (.string bytes, d) => bytes.length + uptoBulk d + 1
  | (_, d) => uptoBulk d + 1
 end
def uptoSmall : (H : Type) → List (DataW H) → Bool := fun _ ds => decide (uptoBulkAll ds ≤ 1048576)
def OpenSpec.upto (s : _root_.Go.ChangeSpec) : _root_.Go.OpenSpec := { _root_.Go.OpenSpec.ofChange s with cond := some uptoSmall }

/-- 'sacristylaw11.KindsTells', WHERE WHAT IT READS IS OF BULK AT MOST 1048576: true; the input reads as it did. -/
def kindsTellsUptoRow : OpenClaim := { program := "ytpkpgmnbheenbaagreatdoor", sum := "249f48395ddb099544d6a1e77cf1a88173a57659770c2e7c3f5c38d39c12f615", func := "sacristy/sacristylaw11.KindsTells", spec := "kindsTells", inPlace := ["maps.clone", "internal/reflectlite.ValueOf", "(internal/reflectlite.Value).Type", "(internal/reflectlite.Value).IsNil", "internal/reflectlite.TypeOf", "(internal/reflectlite.Value).Elem", "(internal/reflectlite.Value).Set"], unfollowed := true, recurses := true, named := ["errors.errorType"], loops := true, apart := false, laid := [("errors.errorType", laid_errors_errorType)], narrowed := true }
def KindsTellsUptoSaid : Prop := kindsTellsUptoRow.holds Tryz.pinned (OpenSpec.upto kindsTellsSpec)

/-- 'sacristylaw11.KindsCalls', WHERE WHAT IT READS IS OF BULK AT MOST 1048576: true; the input reads as it did. -/
def kindsCallsUptoRow : OpenClaim := { program := "ytpkpgmnbheenbaagreatdoor", sum := "249f48395ddb099544d6a1e77cf1a88173a57659770c2e7c3f5c38d39c12f615", func := "sacristy/sacristylaw11.KindsCalls", spec := "kindsCalls", inPlace := ["maps.clone", "internal/reflectlite.ValueOf", "(internal/reflectlite.Value).Type", "(internal/reflectlite.Value).IsNil", "internal/reflectlite.TypeOf", "(internal/reflectlite.Value).Elem", "(internal/reflectlite.Value).Set"], unfollowed := true, recurses := true, named := ["errors.errorType"], loops := true, apart := false, laid := [("errors.errorType", laid_errors_errorType)], narrowed := true }
def KindsCallsUptoSaid : Prop := kindsCallsUptoRow.holds Tryz.pinned (OpenSpec.upto kindsCallsSpec)

/-- 'sacristylaw11.KindsLent', WHERE WHAT IT READS IS OF BULK AT MOST 1048576: true; the input reads as it did. -/
def kindsLentUptoRow : OpenClaim := { program := "ytpkpgmnbheenbaagreatdoor", sum := "249f48395ddb099544d6a1e77cf1a88173a57659770c2e7c3f5c38d39c12f615", func := "sacristy/sacristylaw11.KindsLent", spec := "kindsLent", inPlace := ["maps.clone", "internal/reflectlite.ValueOf", "(internal/reflectlite.Value).Type", "(internal/reflectlite.Value).IsNil", "internal/reflectlite.TypeOf", "(internal/reflectlite.Value).Elem", "(internal/reflectlite.Value).Set"], unfollowed := true, recurses := true, named := ["errors.errorType"], loops := true, apart := false, laid := [("errors.errorType", laid_errors_errorType)], narrowed := true }
def KindsLentUptoSaid : Prop := kindsLentUptoRow.holds Tryz.pinned (OpenSpec.upto kindsLentSpec)

/-- 'sacristylaw12.LabelTells', WHERE WHAT IT READS IS OF BULK AT MOST 1048576: true; the input reads as it did. -/
def labelTellsUptoRow : OpenClaim := { program := "ytpkpgmnbheenbaagreatdoor", sum := "249f48395ddb099544d6a1e77cf1a88173a57659770c2e7c3f5c38d39c12f615", func := "sacristy/sacristylaw12.LabelTells", spec := "labelTells", inPlace := ["maps.clone", "internal/reflectlite.ValueOf", "(internal/reflectlite.Value).Type", "(internal/reflectlite.Value).IsNil", "internal/reflectlite.TypeOf", "(internal/reflectlite.Value).Elem", "(internal/reflectlite.Value).Set"], unfollowed := true, recurses := true, named := ["errors.errorType"], loops := true, apart := false, laid := [("errors.errorType", laid_errors_errorType)], narrowed := true }
def LabelTellsUptoSaid : Prop := labelTellsUptoRow.holds Tryz.pinned (OpenSpec.upto labelTellsSpec)

/-- 'sacristylaw13.BorrowTells', WHERE WHAT IT READS IS OF BULK AT MOST 1048576: true; the input reads as it did. -/
def borrowTellsUptoRow : OpenClaim := { program := "ytpkpgmnbheenbaagreatdoor", sum := "249f48395ddb099544d6a1e77cf1a88173a57659770c2e7c3f5c38d39c12f615", func := "sacristy/sacristylaw13.BorrowTells", spec := "borrowTells", inPlace := ["maps.clone", "internal/reflectlite.ValueOf", "(internal/reflectlite.Value).Type", "(internal/reflectlite.Value).IsNil", "internal/reflectlite.TypeOf", "(internal/reflectlite.Value).Elem", "(internal/reflectlite.Value).Set"], unfollowed := true, recurses := true, named := ["errors.errorType"], loops := true, apart := false, laid := [("errors.errorType", laid_errors_errorType)], narrowed := true }
def BorrowTellsUptoSaid : Prop := borrowTellsUptoRow.holds Tryz.pinned (OpenSpec.upto borrowTellsSpec)

/-- 'sacristylaw13.BorrowWithin', WHERE WHAT IT READS IS OF BULK AT MOST 1048576: true; the input reads as it did. -/
def borrowWithinUptoRow : OpenClaim := { program := "ytpkpgmnbheenbaagreatdoor", sum := "249f48395ddb099544d6a1e77cf1a88173a57659770c2e7c3f5c38d39c12f615", func := "sacristy/sacristylaw13.BorrowWithin", spec := "borrowWithin", inPlace := ["maps.clone", "internal/reflectlite.ValueOf", "(internal/reflectlite.Value).Type", "(internal/reflectlite.Value).IsNil", "internal/reflectlite.TypeOf", "(internal/reflectlite.Value).Elem", "(internal/reflectlite.Value).Set"], unfollowed := true, recurses := true, named := ["errors.errorType"], loops := true, apart := false, laid := [("errors.errorType", laid_errors_errorType)], narrowed := true }
def BorrowWithinUptoSaid : Prop := borrowWithinUptoRow.holds Tryz.pinned (OpenSpec.upto borrowWithinSpec)

/-- 'sacristylaw14.MovesTells', WHERE WHAT IT READS IS OF BULK AT MOST 1048576: true; the input reads as it did. -/
def movesTellsUptoRow : OpenClaim := { program := "ytpkpgmnbheenbaagreatdoor", sum := "249f48395ddb099544d6a1e77cf1a88173a57659770c2e7c3f5c38d39c12f615", func := "sacristy/sacristylaw14.MovesTells", spec := "movesTells", inPlace := ["maps.clone", "internal/reflectlite.ValueOf", "(internal/reflectlite.Value).Type", "(internal/reflectlite.Value).IsNil", "internal/reflectlite.TypeOf", "(internal/reflectlite.Value).Elem", "(internal/reflectlite.Value).Set"], unfollowed := true, recurses := true, named := ["errors.errorType"], loops := true, apart := false, laid := [("errors.errorType", laid_errors_errorType)], narrowed := true }
def MovesTellsUptoSaid : Prop := movesTellsUptoRow.holds Tryz.pinned (OpenSpec.upto movesTellsSpec)

/-- 'sacristylaw14.MovesGone', WHERE WHAT IT READS IS OF BULK AT MOST 1048576: true; the input reads as it did. -/
def movesGoneUptoRow : OpenClaim := { program := "ytpkpgmnbheenbaagreatdoor", sum := "249f48395ddb099544d6a1e77cf1a88173a57659770c2e7c3f5c38d39c12f615", func := "sacristy/sacristylaw14.MovesGone", spec := "movesGone", inPlace := ["maps.clone", "internal/reflectlite.ValueOf", "(internal/reflectlite.Value).Type", "(internal/reflectlite.Value).IsNil", "internal/reflectlite.TypeOf", "(internal/reflectlite.Value).Elem", "(internal/reflectlite.Value).Set"], unfollowed := true, recurses := true, named := ["errors.errorType"], loops := true, apart := false, laid := [("errors.errorType", laid_errors_errorType)], narrowed := true }
def MovesGoneUptoSaid : Prop := movesGoneUptoRow.holds Tryz.pinned (OpenSpec.upto movesGoneSpec)

/-- 'sacristylaw12.LabelKeeps', WHERE WHAT IT READS IS OF BULK AT MOST 1048576: true; the input reads as it did. -/
def labelKeepsUptoRow : OpenClaim := { program := "ytpkpgmnbheenbaagreatdoor", sum := "249f48395ddb099544d6a1e77cf1a88173a57659770c2e7c3f5c38d39c12f615", func := "sacristy/sacristylaw12.LabelKeeps", spec := "labelKeeps", inPlace := ["maps.clone", "internal/reflectlite.ValueOf", "(internal/reflectlite.Value).Type", "(internal/reflectlite.Value).IsNil", "internal/reflectlite.TypeOf", "(internal/reflectlite.Value).Elem", "(internal/reflectlite.Value).Set"], unfollowed := true, recurses := true, named := ["errors.errorType"], loops := true, apart := false, laid := [("errors.errorType", laid_errors_errorType)], narrowed := true }
def LabelKeepsUptoSaid : Prop := labelKeepsUptoRow.holds Tryz.pinned (OpenSpec.upto labelKeepsSpec)

end Rows
end Go.Proofs.YtpkpgmnbheenbaaGreatDoor
