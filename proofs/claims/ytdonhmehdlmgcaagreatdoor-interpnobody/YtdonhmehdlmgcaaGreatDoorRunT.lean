/- One of the runs, by the kernel. -/
import Derived.Test.YtdonhmehdlmgcaaGreatDoorRun
namespace Go.Proofs.YtdonhmehdlmgcaaGreatDoor.Run
open Go Go.Ev Go.Ev.K Go.Proofs
theorem tab378_ok : pureRunK (Tab.of Tryz.prog) (ofEnts []) (xkEnts []) 1000000 30 378 .u32 tab378 = .yes := by kernel_rfl
theorem tab461_ok : pureRunK (Tab.of Tryz.prog) (ofEnts []) (xkEnts []) 1000000 30 461 .i64 tab461 = .yes := by kernel_rfl

end Go.Proofs.YtdonhmehdlmgcaaGreatDoor.Run
