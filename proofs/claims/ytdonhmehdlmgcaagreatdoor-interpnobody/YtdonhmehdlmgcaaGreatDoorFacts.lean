/- THE KEPT CALLS HOLD: each entry of the lists that the runs lean on is true of the program. -/
import Derived.Test.YtdonhmehdlmgcaaGreatDoorRunT
import Derived.Test.YtdonhmehdlmgcaaGreatDoorRunS
import Derived.Test.YtdonhmehdlmgcaaGreatDoorRunM0
import Derived.Test.YtdonhmehdlmgcaaGreatDoorRunM1
import Derived.Test.YtdonhmehdlmgcaaGreatDoorRunM2
import Derived.Test.YtdonhmehdlmgcaaGreatDoorRunM3
import Derived.Test.YtdonhmehdlmgcaaGreatDoorRunM10
import Derived.Test.YtdonhmehdlmgcaaGreatDoorRunM11
import Derived.Test.YtdonhmehdlmgcaaGreatDoorRunMain
namespace Go.Proofs.YtdonhmehdlmgcaaGreatDoor.Run
open Go Go.Ev Go.Ev.K Go.Proofs

theorem namesB : (Tryz.prog.funcs.toList.all fun fn => !(fn.body.isSome && fn.name == "runtime.NumGoroutine")) = true := by kernel_rfl
theorem names (f : FuncId) (fn : Func) (hf : Tryz.prog.funcs[f]? = some fn) (hb : fn.body.isSome) : (fn.name == "runtime.NumGoroutine") = false := by
  have h := List.all_eq_true.1 namesB fn (Array.mem_toList_iff.2 (Array.mem_of_getElem? hf))
  rw [hb, Bool.true_and] at h
  cases hn : (fn.name == "runtime.NumGoroutine")
  · rfl
  · rw [hn] at h; cases h
theorem mix : Tryz.prog.follows .mixedOrders = true := by kernel_rfl
theorem none_ok : SpecsOk Tryz.prog (ofEnts []) := specs_ok (fun _ h => by cases h) names
theorem all0 : ∀ p ∈ ents0, EntOk Tryz.prog p.1 p.2 := by
  intro p hp
  rcases List.mem_cons.1 hp with h | hp
  · rw [h]; exact cloneEnt_ok Tryz.func371 (by kernel_rfl) (by kernel_rfl) (by kernel_rfl) (by kernel_rfl)
  rcases List.mem_cons.1 hp with h | hp
  · rw [h]; exact pureEnt_ok none_ok (xkEnts_ok _) mix Tryz.func378 (by kernel_rfl) tab378_ok
  rcases List.mem_cons.1 hp with h | hp
  · rw [h]; exact pureEnt_ok none_ok (xkEnts_ok _) mix Tryz.func461 (by kernel_rfl) tab461_ok
  cases hp
theorem ok0 : SpecsOk Tryz.prog (ofEnts ents0) := specs_ok all0 names
theorem all1 : ∀ p ∈ ents1, EntOk Tryz.prog p.1 p.2 := by
  intro p hp
  rcases List.mem_append.1 hp with hp | hp
  · rcases List.mem_cons.1 hp with h | hp
    · rw [h]
      refine memosEnt_ok ok0 (xkEnts_ok _) mix Tryz.func145 (by kernel_rfl) fun m hm => ?_
      rcases List.mem_cons.1 hm with h | hm
      · rw [h]; exact ⟨rfl, _, _, _, m0_ok⟩
      rcases List.mem_cons.1 hm with h | hm
      · rw [h]; exact ⟨rfl, _, _, _, m2_ok⟩
      cases hm
    cases hp
  · exact all0 p hp
theorem ok1 : SpecsOk Tryz.prog (ofEnts ents1) := specs_ok all1 names
theorem all2 : ∀ p ∈ ents2, EntOk Tryz.prog p.1 p.2 := by
  intro p hp
  rcases List.mem_append.1 hp with hp | hp
  · rcases List.mem_cons.1 hp with h | hp
    · rw [h]
      refine memosEnt_ok ok1 (xkEnts_ok _) mix Tryz.func83 (by kernel_rfl) fun m hm => ?_
      rcases List.mem_cons.1 hm with h | hm
      · rw [h]; exact ⟨rfl, _, _, _, m1_ok⟩
      rcases List.mem_cons.1 hm with h | hm
      · rw [h]; exact ⟨rfl, _, _, _, m3_ok⟩
      cases hm
    rcases List.mem_cons.1 hp with h | hp
    · rw [h]
      refine memosEnt_ok ok1 (xkEnts_ok _) mix Tryz.func296 (by kernel_rfl) fun m hm => ?_
      rcases List.mem_cons.1 hm with h | hm
      · rw [h]; exact ⟨rfl, _, _, _, m4_ok⟩
      rcases List.mem_cons.1 hm with h | hm
      · rw [h]; exact ⟨rfl, _, _, _, m6_ok⟩
      rcases List.mem_cons.1 hm with h | hm
      · rw [h]; exact ⟨rfl, _, _, _, m9_ok⟩
      cases hm
    rcases List.mem_cons.1 hp with h | hp
    · rw [h]
      refine memosEnt_ok ok1 (xkEnts_ok _) mix Tryz.func194 (by kernel_rfl) fun m hm => ?_
      rcases List.mem_cons.1 hm with h | hm
      · rw [h]; exact ⟨rfl, _, _, _, m5_ok⟩
      rcases List.mem_cons.1 hm with h | hm
      · rw [h]; exact ⟨rfl, _, _, _, m7_ok⟩
      rcases List.mem_cons.1 hm with h | hm
      · rw [h]; exact ⟨rfl, _, _, _, m8_ok⟩
      cases hm
    cases hp
  · exact all1 p hp
theorem ok2 : SpecsOk Tryz.prog (ofEnts ents2) := specs_ok all2 names
theorem all3 : ∀ p ∈ ents3, EntOk Tryz.prog p.1 p.2 := by
  intro p hp
  rcases List.mem_append.1 hp with hp | hp
  · rcases List.mem_cons.1 hp with h | hp
    · rw [h]
      refine memosEnt_ok ok2 (xkEnts_ok _) mix Tryz.func22 (by kernel_rfl) fun m hm => ?_
      rcases List.mem_cons.1 hm with h | hm
      · rw [h]; exact ⟨rfl, _, _, _, m10_ok⟩
      cases hm
    cases hp
  · exact all2 p hp
theorem ok3 : SpecsOk Tryz.prog (ofEnts ents3) := specs_ok all3 names
theorem all4 : ∀ p ∈ ents4, EntOk Tryz.prog p.1 p.2 := by
  intro p hp
  rcases List.mem_append.1 hp with hp | hp
  · rcases List.mem_cons.1 hp with h | hp
    · rw [h]
      refine memosEnt_ok ok3 (xkEnts_ok _) mix Tryz.func17 (by kernel_rfl) fun m hm => ?_
      rcases List.mem_cons.1 hm with h | hm
      · rw [h]; exact ⟨rfl, _, _, _, m11_ok⟩
      cases hm
    cases hp
  · exact all3 p hp
theorem ok4 : SpecsOk Tryz.prog (ofEnts ents4) := specs_ok all4 names
end Go.Proofs.YtdonhmehdlmgcaaGreatDoor.Run
