/- One of the runs, by the kernel. -/
import Derived.Test.YtdonhmehdlmgcaaGreatDoorRun
namespace Go.Proofs.YtdonhmehdlmgcaaGreatDoor.Run
open Go Go.Ev Go.Ev.K Go.Proofs
theorem main_ok : setAllK glob .nil (fun h => evalK (Tab.of Tryz.prog) (ofEnts ents4) (xkEnts ents4) 100000000 30 3 args0 { heap := h, next := 1000 } finTrue false) = .yes := by kernel_rfl

end Go.Proofs.YtdonhmehdlmgcaaGreatDoor.Run
