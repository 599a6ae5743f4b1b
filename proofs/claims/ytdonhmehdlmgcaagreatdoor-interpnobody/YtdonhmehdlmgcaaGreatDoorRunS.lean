/- One of the runs, by the kernel. -/
import Derived.Test.YtdonhmehdlmgcaaGreatDoorRun
namespace Go.Proofs.YtdonhmehdlmgcaaGreatDoor.Run
open Go Go.Ev Go.Ev.K Go.Proofs
theorem m4_ok : m4.runK (Tab.of Tryz.prog) (ofEnts ents1) (xkEnts ents1) 100000000 30 true = .yes := by kernel_rfl
theorem m5_ok : m5.runK (Tab.of Tryz.prog) (ofEnts ents1) (xkEnts ents1) 100000000 30 true = .yes := by kernel_rfl
theorem m6_ok : m6.runK (Tab.of Tryz.prog) (ofEnts ents1) (xkEnts ents1) 100000000 30 true = .yes := by kernel_rfl
theorem m7_ok : m7.runK (Tab.of Tryz.prog) (ofEnts ents1) (xkEnts ents1) 100000000 30 true = .yes := by kernel_rfl
theorem m8_ok : m8.runK (Tab.of Tryz.prog) (ofEnts ents1) (xkEnts ents1) 100000000 30 true = .yes := by kernel_rfl
theorem m9_ok : m9.runK (Tab.of Tryz.prog) (ofEnts ents1) (xkEnts ents1) 100000000 30 true = .yes := by kernel_rfl

end Go.Proofs.YtdonhmehdlmgcaaGreatDoor.Run
