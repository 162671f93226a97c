/-
  NARROWER THAN 'FOR EVERY INPUT', by the rows' own cells (each row's printed sentence says how): LedgerMerged: laid · LedgerThree: laid · LedgerTimes: laid · LedgerLast: laid.
  DERIVED. THE GIVEN ROWS OF THIS SEAT. 4 by the template 'for every input the law returns true; each argument reads behind the call as it read before'; 0 by the template 'total and deterministic' (their statements: YtehddihmndpgaaaGreatDoorTotals.lean).
  GIVEN WITH THE SEED: the statements are not yours to turn. If you find one false, say at which input.
  Laid BY PROGRAM, IN A SANDBOX (cutbox-rows.mjs): the forced cells as the released guide's own fill.sh prints them over the translation 2675fd57ba64a54e… (all of the seat's roots in one cut). By AI agents, Wed Nov 11 2026. No macro, syntax, notation, axiom, sorry.
-/
import Derived.Test.YtehddihmndpgaaaGreatDoorChecked
import GoSem.Claim
import GoSem.ClaimJoined
import GoSem.ClaimMapViews
import Derived.JoinedTies
import Derived.KernelRfl
namespace Go.Proofs.YtehddihmndpgaaaGreatDoor
/- THE CELL 'sum', in the pinned program and in every row, IS THE sha256 OF THE DUMP (.gsa) THAT YtehddihmndpgaaaGreatDoorProg.lean LOADS. Nothing in Lean hashes anything: it is a label: what it is worth is what the hold of that sum in a sandbox is worth. -/
noncomputable def Tryz.pinned : Pinned := { name := "ytehddihmndpgaaagreatdoor", sum := "2675fd57ba64a54e02831b0eea378c6adf63b77903d855930dbccdb02f3e5b55", checked := Tryz.checked }
namespace Rows
def none {H : Type} : Left H := { results := [], args := [] }

/- WHAT THE LISTED PACKAGE-LEVEL VARIABLES READ AS WHEN THE CALL BEGINS. Each datum BY PROGRAM (the guide's laid-datum.mjs) off the statement by which the dump's own 'gosem.cut.vars' lays the variable. In a bare row this is a premise. The card (YtehddihmndpgaaaGreatDoorCards.lean) ties it to the program's text. -/
def laid_errors_errorType {H : Type} : DataW H := .iface "internal/reflectlite.rtype" (.agg [.ptr (.lit (.string [101, 114, 114, 111, 114]))])
def laid_sizar_requests_kinds {H : Type} : DataW H := .agg [.agg [.lit (.int .i64 0), .lit (.int .i64 0), .lit (.bool false), .lit (.bool false)], .agg [.lit (.int .i64 1), .lit (.int .i64 8), .lit (.bool false), .lit (.bool true)], .agg [.lit (.int .i64 0), .lit (.int .i64 0), .lit (.bool true), .lit (.bool false)], .agg [.lit (.int .i64 1), .lit (.int .i64 1), .lit (.bool true), .lit (.bool false)], .agg [.lit (.int .i64 1), .lit (.int .i64 1), .lit (.bool false), .lit (.bool false)], .agg [.lit (.int .i64 1), .lit (.int .i64 1), .lit (.bool false), .lit (.bool false)]]
def laid_sizar_rules_kinds {H : Type} : DataW H := .iface "func table" (.agg [.agg [.lit (.bool false), .lit (.bool false), .lit (.bool false), .lit (.bool false), .nil, .nil], .agg [.lit (.bool false), .lit (.bool false), .lit (.bool false), .lit (.bool true), .iface "func" (.lit (.string [115, 105, 122, 97, 114, 47, 114, 117, 108, 101, 115, 46, 107, 105, 110, 100, 115, 36, 49])), .iface "func" (.lit (.string [115, 105, 122, 97, 114, 47, 114, 117, 108, 101, 115, 46, 107, 105, 110, 100, 115, 36, 50]))], .agg [.lit (.bool false), .lit (.bool false), .lit (.bool false), .lit (.bool true), .iface "func" (.lit (.string [115, 105, 122, 97, 114, 47, 114, 117, 108, 101, 115, 46, 107, 105, 110, 100, 115, 36, 51])), .iface "func" (.lit (.string [115, 105, 122, 97, 114, 47, 114, 117, 108, 101, 115, 46, 107, 105, 110, 100, 115, 36, 52]))], .agg [.lit (.bool false), .lit (.bool true), .lit (.bool false), .lit (.bool true), .iface "func" (.lit (.string [115, 105, 122, 97, 114, 47, 114, 117, 108, 101, 115, 46, 107, 105, 110, 100, 115, 36, 53])), .iface "func" (.lit (.string [115, 105, 122, 97, 114, 47, 114, 117, 108, 101, 115, 46, 107, 105, 110, 100, 115, 36, 54]))], .agg [.lit (.bool false), .lit (.bool false), .lit (.bool false), .lit (.bool true), .iface "func" (.lit (.string [115, 105, 122, 97, 114, 47, 114, 117, 108, 101, 115, 46, 107, 105, 110, 100, 115, 36, 55])), .iface "func" (.lit (.string [115, 105, 122, 97, 114, 47, 114, 117, 108, 101, 115, 46, 107, 105, 110, 100, 115, 36, 56]))], .agg [.lit (.bool true), .lit (.bool true), .lit (.bool false), .lit (.bool false), .iface "func" (.lit (.string [115, 105, 122, 97, 114, 47, 114, 117, 108, 101, 115, 46, 107, 105, 110, 100, 115, 36, 57])), .iface "func" (.lit (.string [115, 105, 122, 97, 114, 47, 114, 117, 108, 101, 115, 46, 107, 105, 110, 100, 115, 36, 49, 48]))], .agg [.lit (.bool true), .lit (.bool true), .lit (.bool false), .lit (.bool false), .iface "func" (.lit (.string [115, 105, 122, 97, 114, 47, 114, 117, 108, 101, 115, 46, 107, 105, 110, 100, 115, 36, 49, 49])), .iface "func" (.lit (.string [115, 105, 122, 97, 114, 47, 114, 117, 108, 101, 115, 46, 107, 105, 110, 100, 115, 36, 49, 50]))], .agg [.lit (.bool false), .lit (.bool true), .lit (.bool false), .lit (.bool false), .iface "func" (.lit (.string [115, 105, 122, 97, 114, 47, 114, 117, 108, 101, 115, 46, 107, 105, 110, 100, 115, 36, 49, 51])), .iface "func" (.lit (.string [115, 105, 122, 97, 114, 47, 114, 117, 108, 101, 115, 46, 107, 105, 110, 100, 115, 36, 49, 52]))], .agg [.lit (.bool false), .lit (.bool true), .lit (.bool true), .lit (.bool false), .iface "func" (.lit (.string [115, 105, 122, 97, 114, 47, 114, 117, 108, 101, 115, 46, 107, 105, 110, 100, 115, 36, 49, 53])), .iface "func" (.lit (.string [115, 105, 122, 97, 114, 47, 114, 117, 108, 101, 115, 46, 107, 105, 110, 100, 115, 36, 49, 54]))], .agg [.lit (.bool true), .lit (.bool false), .lit (.bool false), .lit (.bool false), .iface "func" (.lit (.string [115, 105, 122, 97, 114, 47, 114, 117, 108, 101, 115, 46, 99, 111, 117, 114, 115, 101])), .iface "func" (.lit (.string [115, 105, 122, 97, 114, 47, 114, 117, 108, 101, 115, 46, 107, 105, 110, 100, 115, 36, 49, 55]))]])

/-- 'sizarlaw39.LedgerMerged': WHATEVER THE INPUT: true; the input reads as it did. -/
def ledgerMergedSpec : ChangeSpec := { name := "ledgerMerged", fn := fun _ => fun
  | [d1, d2] => { results := [.lit (.bool true)], args := [d1, d2] }
  | _ => none }
def ledgerMergedRow : OpenClaim := { program := "ytehddihmndpgaaagreatdoor", sum := "2675fd57ba64a54e02831b0eea378c6adf63b77903d855930dbccdb02f3e5b55", func := "sizar/sizarlaw39.LedgerMerged", spec := "ledgerMerged", inPlace := ["internal/reflectlite.ValueOf", "(internal/reflectlite.Value).Type", "(internal/reflectlite.Value).IsNil", "internal/reflectlite.TypeOf", "(internal/reflectlite.Value).Elem", "(internal/reflectlite.Value).Set"], unfollowed := true, recurses := true, named := ["errors.errorType", "sizar/requests.kinds", "sizar/rules.kinds"], apart := false, laid := [("errors.errorType", laid_errors_errorType), ("sizar/requests.kinds", laid_sizar_requests_kinds), ("sizar/rules.kinds", laid_sizar_rules_kinds)] }
def LedgerMergedSaid : Prop := ledgerMergedRow.holds Tryz.pinned (OpenSpec.ofChange ledgerMergedSpec)

/-- ITS FALSE NEIGHBOUR: 'it returns false'. Refute it at one input. -/
def ledgerMergedWrong : ChangeSpec := { name := "ledgerMerged", fn := fun _ => fun
  | [d1, d2] => { results := [.lit (.bool false)], args := [d1, d2] }
  | _ => none }
def LedgerMergedWrongFalsely : Prop := ledgerMergedRow.holds Tryz.pinned (OpenSpec.ofChange ledgerMergedWrong)

/-- 'sizarlaw39.LedgerThree': WHATEVER THE INPUT: true; the input reads as it did. -/
def ledgerThreeSpec : ChangeSpec := { name := "ledgerThree", fn := fun _ => fun
  | [d1, d2, d3] => { results := [.lit (.bool true)], args := [d1, d2, d3] }
  | _ => none }
def ledgerThreeRow : OpenClaim := { program := "ytehddihmndpgaaagreatdoor", sum := "2675fd57ba64a54e02831b0eea378c6adf63b77903d855930dbccdb02f3e5b55", func := "sizar/sizarlaw39.LedgerThree", spec := "ledgerThree", inPlace := ["internal/reflectlite.ValueOf", "(internal/reflectlite.Value).Type", "(internal/reflectlite.Value).IsNil", "internal/reflectlite.TypeOf", "(internal/reflectlite.Value).Elem", "(internal/reflectlite.Value).Set"], unfollowed := true, recurses := true, named := ["errors.errorType", "sizar/requests.kinds", "sizar/rules.kinds"], apart := false, laid := [("errors.errorType", laid_errors_errorType), ("sizar/requests.kinds", laid_sizar_requests_kinds), ("sizar/rules.kinds", laid_sizar_rules_kinds)] }
def LedgerThreeSaid : Prop := ledgerThreeRow.holds Tryz.pinned (OpenSpec.ofChange ledgerThreeSpec)

/-- ITS FALSE NEIGHBOUR: 'it returns false'. Refute it at one input. -/
def ledgerThreeWrong : ChangeSpec := { name := "ledgerThree", fn := fun _ => fun
  | [d1, d2, d3] => { results := [.lit (.bool false)], args := [d1, d2, d3] }
  | _ => none }
def LedgerThreeWrongFalsely : Prop := ledgerThreeRow.holds Tryz.pinned (OpenSpec.ofChange ledgerThreeWrong)

/-- 'sizarlaw39.LedgerTimes': WHATEVER THE INPUT: true; the input reads as it did. -/
def ledgerTimesSpec : ChangeSpec := { name := "ledgerTimes", fn := fun _ => fun
  | [d1, d2, d3, d4] => { results := [.lit (.bool true)], args := [d1, d2, d3, d4] }
  | _ => none }
def ledgerTimesRow : OpenClaim := { program := "ytehddihmndpgaaagreatdoor", sum := "2675fd57ba64a54e02831b0eea378c6adf63b77903d855930dbccdb02f3e5b55", func := "sizar/sizarlaw39.LedgerTimes", spec := "ledgerTimes", inPlace := ["internal/reflectlite.ValueOf", "(internal/reflectlite.Value).Type", "(internal/reflectlite.Value).IsNil", "internal/reflectlite.TypeOf", "(internal/reflectlite.Value).Elem", "(internal/reflectlite.Value).Set"], unfollowed := true, recurses := true, named := ["errors.errorType", "sizar/requests.kinds", "sizar/rules.kinds"], apart := false, laid := [("errors.errorType", laid_errors_errorType), ("sizar/requests.kinds", laid_sizar_requests_kinds), ("sizar/rules.kinds", laid_sizar_rules_kinds)] }
def LedgerTimesSaid : Prop := ledgerTimesRow.holds Tryz.pinned (OpenSpec.ofChange ledgerTimesSpec)

/-- ITS FALSE NEIGHBOUR: 'it returns false'. Refute it at one input. -/
def ledgerTimesWrong : ChangeSpec := { name := "ledgerTimes", fn := fun _ => fun
  | [d1, d2, d3, d4] => { results := [.lit (.bool false)], args := [d1, d2, d3, d4] }
  | _ => none }
def LedgerTimesWrongFalsely : Prop := ledgerTimesRow.holds Tryz.pinned (OpenSpec.ofChange ledgerTimesWrong)

/-- 'sizarlaw39.LedgerLast': WHATEVER THE INPUT: true; the input reads as it did. -/
def ledgerLastSpec : ChangeSpec := { name := "ledgerLast", fn := fun _ => fun
  | [d1, d2, d3] => { results := [.lit (.bool true)], args := [d1, d2, d3] }
  | _ => none }
def ledgerLastRow : OpenClaim := { program := "ytehddihmndpgaaagreatdoor", sum := "2675fd57ba64a54e02831b0eea378c6adf63b77903d855930dbccdb02f3e5b55", func := "sizar/sizarlaw39.LedgerLast", spec := "ledgerLast", inPlace := ["internal/reflectlite.ValueOf", "(internal/reflectlite.Value).Type", "(internal/reflectlite.Value).IsNil", "internal/reflectlite.TypeOf", "(internal/reflectlite.Value).Elem", "(internal/reflectlite.Value).Set"], unfollowed := true, recurses := true, named := ["errors.errorType", "sizar/requests.kinds", "sizar/rules.kinds"], apart := false, laid := [("errors.errorType", laid_errors_errorType), ("sizar/requests.kinds", laid_sizar_requests_kinds), ("sizar/rules.kinds", laid_sizar_rules_kinds)] }
def LedgerLastSaid : Prop := ledgerLastRow.holds Tryz.pinned (OpenSpec.ofChange ledgerLastSpec)

/-- ITS FALSE NEIGHBOUR: 'it returns false'. Refute it at one input. -/
def ledgerLastWrong : ChangeSpec := { name := "ledgerLast", fn := fun _ => fun
  | [d1, d2, d3] => { results := [.lit (.bool false)], args := [d1, d2, d3] }
  | _ => none }
def LedgerLastWrongFalsely : Prop := ledgerLastRow.holds Tryz.pinned (OpenSpec.ofChange ledgerLastWrong)

/- THE SECOND FORM. 'bulk': how many values and letters a reading holds, each counted each time it is reached (what is shared counts as often as it is met; a slice's spare places count too). A statement '..UptoSaid' is the law's where the arguments, and the package variables that the reading takes, are together of bulk at most 1048576: NARROWER than '..Said'. Prove '..Said' where nothing that the law and all that it calls make is longer than what came in: it says more and counts as full. Else prove '..UptoSaid'. A law counts once. -/
mutual
def uptoBulk {H : Type} : DataW H → Nat
  | .lit (.string bytes) => bytes.length + 1
  | .lit _ => 1
  | .nil => 1
  | .ptr d => uptoBulk d + 1
  | .slice elems spare => uptoBulkAll elems + uptoBulkAll spare + 1
  | .agg parts => uptoBulkAll parts + 1
  | .iface _ d => uptoBulk d + 1
  | .map entries => uptoBulkEntries entries + 1
  | .held _ => 1
def uptoBulkAll {H : Type} : List (DataW H) → Nat
  | [] => 0
  | d :: r => uptoBulk d + uptoBulkAll r
def uptoBulkEntries {H : Type} : List (Lit × DataW H) → Nat
  | [] => 0
  | x :: r => uptoBulkEntry x + uptoBulkEntries r
def uptoBulkEntry {H : Type} : Lit × DataW H → Nat
  | (.string bytes, d) => bytes.length + uptoBulk d + 1
  | (_, d) => uptoBulk d + 1
 end
def uptoSmall : (H : Type) → List (DataW H) → Bool := fun _ ds => decide (uptoBulkAll ds ≤ 1048576)
def OpenSpec.upto (s : _root_.Go.ChangeSpec) : _root_.Go.OpenSpec := { _root_.Go.OpenSpec.ofChange s with cond := some uptoSmall }

/-- 'sizarlaw39.LedgerMerged', WHERE WHAT IT READS IS OF BULK AT MOST 1048576: true; the input reads as it did. -/
def ledgerMergedUptoRow : OpenClaim := { program := "ytehddihmndpgaaagreatdoor", sum := "2675fd57ba64a54e02831b0eea378c6adf63b77903d855930dbccdb02f3e5b55", func := "sizar/sizarlaw39.LedgerMerged", spec := "ledgerMerged", inPlace := ["internal/reflectlite.ValueOf", "(internal/reflectlite.Value).Type", "(internal/reflectlite.Value).IsNil", "internal/reflectlite.TypeOf", "(internal/reflectlite.Value).Elem", "(internal/reflectlite.Value).Set"], unfollowed := true, recurses := true, named := ["errors.errorType", "sizar/requests.kinds", "sizar/rules.kinds"], apart := false, laid := [("errors.errorType", laid_errors_errorType), ("sizar/requests.kinds", laid_sizar_requests_kinds), ("sizar/rules.kinds", laid_sizar_rules_kinds)], narrowed := true }
def LedgerMergedUptoSaid : Prop := ledgerMergedUptoRow.holds Tryz.pinned (OpenSpec.upto ledgerMergedSpec)

/-- 'sizarlaw39.LedgerThree', WHERE WHAT IT READS IS OF BULK AT MOST 1048576: true; the input reads as it did. -/
def ledgerThreeUptoRow : OpenClaim := { program := "ytehddihmndpgaaagreatdoor", sum := "2675fd57ba64a54e02831b0eea378c6adf63b77903d855930dbccdb02f3e5b55", func := "sizar/sizarlaw39.LedgerThree", spec := "ledgerThree", inPlace := ["internal/reflectlite.ValueOf", "(internal/reflectlite.Value).Type", "(internal/reflectlite.Value).IsNil", "internal/reflectlite.TypeOf", "(internal/reflectlite.Value).Elem", "(internal/reflectlite.Value).Set"], unfollowed := true, recurses := true, named := ["errors.errorType", "sizar/requests.kinds", "sizar/rules.kinds"], apart := false, laid := [("errors.errorType", laid_errors_errorType), ("sizar/requests.kinds", laid_sizar_requests_kinds), ("sizar/rules.kinds", laid_sizar_rules_kinds)], narrowed := true }
def LedgerThreeUptoSaid : Prop := ledgerThreeUptoRow.holds Tryz.pinned (OpenSpec.upto ledgerThreeSpec)

/-- 'sizarlaw39.LedgerTimes', WHERE WHAT IT READS IS OF BULK AT MOST 1048576: true; the input reads as it did. -/
def ledgerTimesUptoRow : OpenClaim := { program := "ytehddihmndpgaaagreatdoor", sum := "2675fd57ba64a54e02831b0eea378c6adf63b77903d855930dbccdb02f3e5b55", func := "sizar/sizarlaw39.LedgerTimes", spec := "ledgerTimes", inPlace := ["internal/reflectlite.ValueOf", "(internal/reflectlite.Value).Type", "(internal/reflectlite.Value).IsNil", "internal/reflectlite.TypeOf", "(internal/reflectlite.Value).Elem", "(internal/reflectlite.Value).Set"], unfollowed := true, recurses := true, named := ["errors.errorType", "sizar/requests.kinds", "sizar/rules.kinds"], apart := false, laid := [("errors.errorType", laid_errors_errorType), ("sizar/requests.kinds", laid_sizar_requests_kinds), ("sizar/rules.kinds", laid_sizar_rules_kinds)], narrowed := true }
def LedgerTimesUptoSaid : Prop := ledgerTimesUptoRow.holds Tryz.pinned (OpenSpec.upto ledgerTimesSpec)

/-- 'sizarlaw39.LedgerLast', WHERE WHAT IT READS IS OF BULK AT MOST 1048576: true; the input reads as it did. -/
def ledgerLastUptoRow : OpenClaim := { program := "ytehddihmndpgaaagreatdoor", sum := "2675fd57ba64a54e02831b0eea378c6adf63b77903d855930dbccdb02f3e5b55", func := "sizar/sizarlaw39.LedgerLast", spec := "ledgerLast", inPlace := ["internal/reflectlite.ValueOf", "(internal/reflectlite.Value).Type", "(internal/reflectlite.Value).IsNil", "internal/reflectlite.TypeOf", "(internal/reflectlite.Value).Elem", "(internal/reflectlite.Value).Set"], unfollowed := true, recurses := true, named := ["errors.errorType", "sizar/requests.kinds", "sizar/rules.kinds"], apart := false, laid := [("errors.errorType", laid_errors_errorType), ("sizar/requests.kinds", laid_sizar_requests_kinds), ("sizar/rules.kinds", laid_sizar_rules_kinds)], narrowed := true }
def LedgerLastUptoSaid : Prop := ledgerLastUptoRow.holds Tryz.pinned (OpenSpec.upto ledgerLastSpec)

end Rows
end Go.Proofs.YtehddihmndpgaaaGreatDoor
