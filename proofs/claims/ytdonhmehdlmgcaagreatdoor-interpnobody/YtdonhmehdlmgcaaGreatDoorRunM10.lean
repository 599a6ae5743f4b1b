/- One of the runs, by the kernel. -/
import Derived.Test.YtdonhmehdlmgcaaGreatDoorRun
namespace Go.Proofs.YtdonhmehdlmgcaaGreatDoor.Run
open Go Go.Ev Go.Ev.K Go.Proofs
theorem m10_ok : m10.runK (Tab.of Tryz.prog) (ofEnts ents2) (xkEnts ents2) 100000000 30 false = .yes := by kernel_rfl

end Go.Proofs.YtdonhmehdlmgcaaGreatDoor.Run
