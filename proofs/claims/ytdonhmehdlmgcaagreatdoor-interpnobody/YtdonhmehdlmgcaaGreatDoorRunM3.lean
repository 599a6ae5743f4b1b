/- One of the runs, by the kernel. -/
import Derived.Test.YtdonhmehdlmgcaaGreatDoorRun
namespace Go.Proofs.YtdonhmehdlmgcaaGreatDoor.Run
open Go Go.Ev Go.Ev.K Go.Proofs
theorem m3_ok : m3.runK (Tab.of Tryz.prog) (ofEnts ents1) (xkEnts ents1) 100000000 30 false = .yes := by kernel_rfl

end Go.Proofs.YtdonhmehdlmgcaaGreatDoor.Run
