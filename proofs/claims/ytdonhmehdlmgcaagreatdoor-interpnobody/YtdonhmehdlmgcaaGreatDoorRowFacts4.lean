/- 'InterpNobody': CLOSED FACTS OF THE ROW. -/
import Derived.Test.YtdonhmehdlmgcaaGreatDoorRows
import Derived.ProofKit
import Derived.Stop.Joined
import Derived.SevenTiedAt
namespace Go.Proofs.YtdonhmehdlmgcaaGreatDoor
open Go
theorem rf_named : (Rows.interpNobodyRow.named == Tryz.prog.varsNamed 3) = true := by kernel_rfl
end Go.Proofs.YtdonhmehdlmgcaaGreatDoor
