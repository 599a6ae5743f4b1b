/- 'InterpNobody': CLOSED FACTS OF THE ROW. -/
import Derived.Test.YtdonhmehdlmgcaaGreatDoorRows
import Derived.ProofKit
import Derived.Stop.Joined
import Derived.SevenTiedAt
namespace Go.Proofs.YtdonhmehdlmgcaaGreatDoor
open Go
theorem rf_wf : Rows.interpNobodyRow.wf (OpenSpec.ofChange Rows.interpNobodySpec) = true := by kernel_rfl
theorem rf_laidOut : laidOutB Tryz.prog = true := by kernel_rfl
theorem rf_mapsRowed : mapsRowed Tryz.prog = true := by kernel_rfl
theorem rf_tie : namedTie Tryz.prog Rows.interpNobodyRow.named Rows.interpNobodySpec.vars = true := by kernel_rfl
theorem rf_stops : (Tryz.prog.stops == []) = true := by kernel_rfl
theorem rf_knobs : (Tryz.prog.stopKnobs == []) = true := by kernel_rfl
end Go.Proofs.YtdonhmehdlmgcaaGreatDoor
