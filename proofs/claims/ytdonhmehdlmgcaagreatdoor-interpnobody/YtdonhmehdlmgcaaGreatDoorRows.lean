/-
  NARROWER THAN 'FOR EVERY INPUT', by the rows' own cells (each row's printed sentence says how): InterpNobody: laid.
  DERIVED. THE GIVEN ROWS OF THIS SEAT. 1 by the template 'for every input the law returns true; each argument reads behind the call as it read before'; 0 by the template 'total and deterministic' (their statements: YtdonhmehdlmgcaaGreatDoorTotals.lean).
  GIVEN WITH THE SEED: the statements are not yours to turn. If you find one false, say at which input.
  Laid BY PROGRAM, IN A SANDBOX (cutbox-rows.mjs): the forced cells as the released guide's own fill.sh prints them over the translation e0158bb8e6198a12… (all of the seat's roots in one cut). By AI agents, Wed Nov 11 2026. No macro, syntax, notation, axiom, sorry.
-/
import Derived.Test.YtdonhmehdlmgcaaGreatDoorChecked
import GoSem.Claim
import GoSem.ClaimJoined
import GoSem.ClaimMapViews
import Derived.JoinedTies
import Derived.KernelRfl
namespace Go.Proofs.YtdonhmehdlmgcaaGreatDoor
/- THE CELL 'sum', in the pinned program and in every row, IS THE sha256 OF THE DUMP (.gsa) THAT YtdonhmehdlmgcaaGreatDoorProg.lean LOADS. Nothing in Lean hashes anything: it is a label: what it is worth is what the hold of that sum in a sandbox is worth. -/
noncomputable def Tryz.pinned : Pinned := { name := "ytdonhmehdlmgcaagreatdoor", sum := "e0158bb8e6198a12638c6fe98dea1c58fd852d3f9b6f3a09aa8d636c741b2cd6", checked := Tryz.checked }
namespace Rows
def none {H : Type} : Left H := { results := [], args := [] }

/- WHAT THE LISTED PACKAGE-LEVEL VARIABLES READ AS WHEN THE CALL BEGINS. Each datum BY PROGRAM (the guide's laid-datum.mjs) off the statement by which the dump's own 'gosem.cut.vars' lays the variable. In a bare row this is a premise. The card (YtdonhmehdlmgcaaGreatDoorCards.lean) ties it to the program's text. -/
def laid_smartcard_loadfile_object {H : Type} : DataW H := .agg [.lit (.int .i64 255), .lit (.int .i64 0)]
def laid_smartcard_linker_errLoad {H : Type} : DataW H := .iface "*errors.errorString" (.ptr (.agg [.lit (.string [116, 104, 101, 32, 112, 97, 99, 107, 97, 103, 101, 32, 99, 97, 110, 110, 111, 116, 32, 98, 101, 32, 108, 111, 97, 100, 101, 100])]))
def laid_smartcard_kinds_object {H : Type} : DataW H := .agg [.lit (.int .i64 255), .lit (.int .i64 0)]
def laid_smartcard_kinds_shareable {H : Type} : DataW H := .agg [.lit (.int .i64 255), .lit (.int .i64 1)]
def laid_smartcard_verify_unused {H : Type} : DataW H := .agg [.lit (.int .i64 7), .agg [.lit (.int .i64 0), .lit (.int .i64 0)]]
def laid_smartcard_kinds_whole {H : Type} : DataW H := .agg [.lit (.int .i64 5), .agg [.lit (.int .i64 255), .lit (.int .i64 0)]]
def laid_smartcard_verify_integer {H : Type} : DataW H := .agg [.lit (.int .i64 1), .agg [.lit (.int .i64 0), .lit (.int .i64 0)]]
def laid_smartcard_verify_null {H : Type} : DataW H := .agg [.lit (.int .i64 6), .agg [.lit (.int .i64 0), .lit (.int .i64 0)]]
def laid_smartcard_verify_object {H : Type} : DataW H := .agg [.lit (.int .i64 5), .agg [.lit (.int .i64 255), .lit (.int .i64 0)]]

/-- 'smartcardlaw35.InterpNobody': WHATEVER THE INPUT: true; the input reads as it did. -/
def interpNobodySpec : ChangeSpec := { name := "interpNobody", fn := fun _ => fun
  | [d1, d2, d3] => { results := [.lit (.bool true)], args := [d1, d2, d3] }
  | _ => none }
def interpNobodyRow : OpenClaim := { program := "ytdonhmehdlmgcaagreatdoor", sum := "e0158bb8e6198a12638c6fe98dea1c58fd852d3f9b6f3a09aa8d636c741b2cd6", func := "smartcard/smartcardlaw35.InterpNobody", spec := "interpNobody", inPlace := ["maps.clone", "internal/reflectlite.TypeOf"], unfollowed := true, recurses := true, named := ["smartcard/loadfile.object", "smartcard/linker.errLoad", "smartcard/kinds.object", "smartcard/kinds.shareable", "smartcard/verify.unused", "smartcard/kinds.whole", "smartcard/verify.integer", "smartcard/verify.null", "smartcard/verify.object"], plainKeys := false, apart := false, laid := [("smartcard/loadfile.object", laid_smartcard_loadfile_object), ("smartcard/linker.errLoad", laid_smartcard_linker_errLoad), ("smartcard/kinds.object", laid_smartcard_kinds_object), ("smartcard/kinds.shareable", laid_smartcard_kinds_shareable), ("smartcard/verify.unused", laid_smartcard_verify_unused), ("smartcard/kinds.whole", laid_smartcard_kinds_whole), ("smartcard/verify.integer", laid_smartcard_verify_integer), ("smartcard/verify.null", laid_smartcard_verify_null), ("smartcard/verify.object", laid_smartcard_verify_object)] }
def InterpNobodySaid : Prop := interpNobodyRow.holds Tryz.pinned (OpenSpec.ofChange interpNobodySpec)

/-- ITS FALSE NEIGHBOUR: 'it returns false'. Refute it at one input. -/
def interpNobodyWrong : ChangeSpec := { name := "interpNobody", fn := fun _ => fun
  | [d1, d2, d3] => { results := [.lit (.bool false)], args := [d1, d2, d3] }
  | _ => none }
def InterpNobodyWrongFalsely : Prop := interpNobodyRow.holds Tryz.pinned (OpenSpec.ofChange interpNobodyWrong)

/- THE SECOND FORM. 'bulk': how many values and letters a reading holds, each counted each time it is reached (what is shared counts as often as it is met; a slice's spare places count too). A statement '..UptoSaid' is the law's where the arguments, and the package variables that the reading takes, are together of bulk at most 1048576: NARROWER than '..Said'. Prove '..Said' where nothing that the law and all that it calls make is longer than what came in: it says more and counts as full. Else prove '..UptoSaid'. A law counts once. -/
mutual
def uptoBulk {H : Type} : DataW H → Nat
  | .lit (.string bytes) => bytes.length + 1
  | .lit _ => 1
  | .nil => 1
  | .ptr d => uptoBulk d + 1
  | .slice elems spare => uptoBulkAll elems + uptoBulkAll spare + 1
  | .agg parts => uptoBulkAll parts + 1
  | .iface _ d => uptoBulk d + 1
  | .map entries => uptoBulkEntries entries + 1
  | .held _ => 1
def uptoBulkAll {H : Type} : List (DataW H) → Nat
  | [] => 0
  | d :: r => uptoBulk d + uptoBulkAll r
def uptoBulkEntries {H : Type} : List (Lit × DataW H) → Nat
  | [] => 0
  | x :: r => uptoBulkEntry x + uptoBulkEntries r
def uptoBulkEntry {H : Type} : Lit × DataW H → Nat
  | (.string bytes, d) => bytes.length + uptoBulk d + 1
  | (_, d) => uptoBulk d + 1
 end
def uptoSmall : (H : Type) → List (DataW H) → Bool := fun _ ds => decide (uptoBulkAll ds ≤ 1048576)
def OpenSpec.upto (s : _root_.Go.ChangeSpec) : _root_.Go.OpenSpec := { _root_.Go.OpenSpec.ofChange s with cond := some uptoSmall }

/-- 'smartcardlaw35.InterpNobody', WHERE WHAT IT READS IS OF BULK AT MOST 1048576: true; the input reads as it did. -/
def interpNobodyUptoRow : OpenClaim := { program := "ytdonhmehdlmgcaagreatdoor", sum := "e0158bb8e6198a12638c6fe98dea1c58fd852d3f9b6f3a09aa8d636c741b2cd6", func := "smartcard/smartcardlaw35.InterpNobody", spec := "interpNobody", inPlace := ["maps.clone", "internal/reflectlite.TypeOf"], unfollowed := true, recurses := true, named := ["smartcard/loadfile.object", "smartcard/linker.errLoad", "smartcard/kinds.object", "smartcard/kinds.shareable", "smartcard/verify.unused", "smartcard/kinds.whole", "smartcard/verify.integer", "smartcard/verify.null", "smartcard/verify.object"], plainKeys := false, apart := false, laid := [("smartcard/loadfile.object", laid_smartcard_loadfile_object), ("smartcard/linker.errLoad", laid_smartcard_linker_errLoad), ("smartcard/kinds.object", laid_smartcard_kinds_object), ("smartcard/kinds.shareable", laid_smartcard_kinds_shareable), ("smartcard/verify.unused", laid_smartcard_verify_unused), ("smartcard/kinds.whole", laid_smartcard_kinds_whole), ("smartcard/verify.integer", laid_smartcard_verify_integer), ("smartcard/verify.null", laid_smartcard_verify_null), ("smartcard/verify.object", laid_smartcard_verify_object)], narrowed := true }
def InterpNobodyUptoSaid : Prop := interpNobodyUptoRow.holds Tryz.pinned (OpenSpec.upto interpNobodySpec)

end Rows
end Go.Proofs.YtdonhmehdlmgcaaGreatDoor
