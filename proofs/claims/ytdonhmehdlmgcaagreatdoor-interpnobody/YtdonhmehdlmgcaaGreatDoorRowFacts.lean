/- 'InterpNobody': CLOSED FACTS OF THE ROW. -/
import Derived.Test.YtdonhmehdlmgcaaGreatDoorRows
import Derived.ProofKit
import Derived.Stop.Joined
import Derived.SevenTiedAt
import Derived.Test.YtdonhmehdlmgcaaGreatDoorRowFacts0
import Derived.Test.YtdonhmehdlmgcaaGreatDoorRowFacts1
import Derived.Test.YtdonhmehdlmgcaaGreatDoorRowFacts2
import Derived.Test.YtdonhmehdlmgcaaGreatDoorRowFacts3
import Derived.Test.YtdonhmehdlmgcaaGreatDoorRowFacts4
import Derived.Test.YtdonhmehdlmgcaaGreatDoorLibD
namespace Go.Proofs.YtdonhmehdlmgcaaGreatDoor
open Go
theorem row_closed : joinedFacts Tryz.prog 3 Tryz.f3 Rows.interpNobodySpec Rows.interpNobodyRow = true := by
  unfold joinedFacts
  rw [rf_wf, rf_laidOut, rf_mapsRowed, rf_tie, rf_stops, rf_knobs, rf_inPlace, rf_unf, rf_rec, rf_named]
  kernel_rfl
theorem row_func : Tryz.prog.funcNamed "smartcard/smartcardlaw35.InterpNobody" = some 3 := by kernel_rfl
theorem row_inst : Tryz.f3.isInstance Tryz.prog Rows.interpNobodyRow.origin Rows.interpNobodyRow.targs := of_decide_eq_true (by kernel_rfl)
theorem row_wrap : Tryz.f3.isWrapper Tryz.prog Rows.interpNobodyRow.wrapper Rows.interpNobodyRow.mainSum := by
  unfold Func.isWrapper; first | (rw [if_pos (by decide +kernel)]; kernel_rfl) | (rw [if_neg (by decide +kernel)]; exact ⟨rfl, rfl⟩)
theorem card_wf : Rows.interpNobodyRow.wfByText (OpenSpec.ofChange Rows.interpNobodySpec) = true := by kernel_rfl
theorem card_main : Tryz.prog.mainIs = some (true, "10c3aab1fc8081c0b92dc280a0e62c02f2c7a8971dc98b4c98016be313a3fab6".toList) := by kernel_rfl
theorem card_looks : true = Tryz.prog.looks [] := by kernel_rfl
theorem card_plain : ([3, 23].all fun u => !Tryz.prog.wantsStandIn u) = true := by kernel_rfl
theorem card_goes0 : (Tryz.prog.funcs.toList.any Func.goes) = false := by kernel_rfl
theorem card_goes : false = Rows.interpNobodyRow.goesBy Tryz.prog := Go.Ev.K.goesBy_false rfl card_goes0
end Go.Proofs.YtdonhmehdlmgcaaGreatDoor
