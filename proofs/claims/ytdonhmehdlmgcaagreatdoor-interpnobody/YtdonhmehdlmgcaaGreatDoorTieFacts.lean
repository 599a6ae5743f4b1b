/- THE TIE OF THE LISTED VARIABLES, fact by fact (the given tie's one theorem passes the memory's lid). -/
import Derived.Test.YtdonhmehdlmgcaaGreatDoorRows
import Derived.LaidByTextLater
import Derived.SevenTiedAt
namespace Go.Proofs.YtdonhmehdlmgcaaGreatDoor
open Go
theorem tie_hw : Tryz.prog.worded (varsWordLater true) = true := by kernel_rfl
theorem tie_hw2 : Tryz.prog.worded (varsWordLater !true) = false := by kernel_rfl
theorem tie_hroot : Tryz.prog.worded rootWordLater = true := by kernel_rfl
theorem tie_hk : Rows.interpNobodyRow.laid.map (fun x => Tryz.prog.kindOfLater x.1) = ([LaidKind.data, .sentinel, .data, .data, .data, .data, .data, .data, .data]).map some := by kernel_rfl
theorem tie_hg : (Tryz.prog.funcNamed "gosem.cut.vars").isSome = true := by kernel_rfl
theorem tie_hd : ∀ os tape, varsDone Tryz.prog 400 (varsId Tryz.prog) os tape = true := fun _ _ => by kernel_rfl
theorem tie_h1 : ∀ os tape, (DataW.laidRun Tryz.prog (varsWorld Tryz.prog 400 (varsId Tryz.prog) os tape).memory 8 (Rows.interpNobodyRow.laid.map (·.1))).map (·.1) = some Rows.interpNobodyRow.laid := fun _ _ => by kernel_rfl
theorem tie_h2 : ∀ os tape, (DataW.laidRun Tryz.prog (varsWorld Tryz.prog 400 (varsId Tryz.prog) os tape).memory 8 (Rows.interpNobodyRow.laid.map (·.1))).map (fun x => decide x.2.Nodup && laidRowsB Tryz.prog (varsWorld Tryz.prog 400 (varsId Tryz.prog) os tape).memory x.2) = some true := fun _ _ => by kernel_rfl
theorem tie_noOwn : Tryz.pinned.checked.prog.headLifts.contains "ownunsafe" = false := by kernel_rfl
theorem tie_plain : (Rows.interpNobodyRow.laid.all fun x => x.2.handleName?.isNone) = true := by kernel_rfl
end Go.Proofs.YtdonhmehdlmgcaaGreatDoor
