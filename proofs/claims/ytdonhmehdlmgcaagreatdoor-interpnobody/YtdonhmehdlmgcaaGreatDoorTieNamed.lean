/- THE TIE OF THE LISTED VARIABLES, fact by fact (the given tie's one theorem passes the memory's lid). -/
import Derived.Test.YtdonhmehdlmgcaaGreatDoorRows
import Derived.LaidByTextLater
import Derived.SevenTiedAt
namespace Go.Proofs.YtdonhmehdlmgcaaGreatDoor
open Go
theorem tie_hn : varsNamedLaterB Tryz.prog (varsId Tryz.prog) Rows.interpNobodyRow.laid = true := by kernel_rfl
end Go.Proofs.YtdonhmehdlmgcaaGreatDoor
