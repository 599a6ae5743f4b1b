/- One of the runs, by the kernel. -/
import Derived.Test.YtdonhmehdlmgcaaGreatDoorRun
namespace Go.Proofs.YtdonhmehdlmgcaaGreatDoor.Run
open Go Go.Ev Go.Ev.K Go.Proofs
theorem m0_ok : m0.runK (Tab.of Tryz.prog) (ofEnts ents0) (xkEnts ents0) 100000000 30 false = .yes := by kernel_rfl

end Go.Proofs.YtdonhmehdlmgcaaGreatDoor.Run
