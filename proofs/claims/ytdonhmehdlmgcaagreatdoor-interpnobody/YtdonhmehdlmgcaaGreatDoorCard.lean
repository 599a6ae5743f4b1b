/- Proved: for every input, smartcardlaw35.InterpNobody returns true and each argument reads behind the call as before it. Conditions: the listed package variables hold at the start what the program's text lays there (the card ties them to that text); nothing else. The closed example inside the law is run in Lean's kernel by an evaluator that is proved sound against the model (LibA to LibD); the arguments are carried through that run as values that nothing looks into. -/
import Derived.Test.YtdonhmehdlmgcaaGreatDoorProofs
import Derived.Test.YtdonhmehdlmgcaaGreatDoorTieFacts
import Derived.Test.YtdonhmehdlmgcaaGreatDoorTieNamed
import Derived.Test.YtdonhmehdlmgcaaGreatDoorRowFacts
import Derived.Test.YtdonhmehdlmgcaaGreatDoorCards
namespace Go.Proofs.YtdonhmehdlmgcaaGreatDoor
open Go

theorem own_tie : Tryz.prog.laidByTextLater Rows.interpNobodyRow.laid [LaidKind.data, .sentinel, .data, .data, .data, .data, .data, .data, .data] true :=
  Program.laidByTextLater_by_run 400 8 tie_hw tie_hw2 tie_hroot tie_hk tie_hg tie_hn tie_hd tie_h1 tie_h2 tie_plain
theorem own_row_tie : Rows.interpNobodyRow.laidByTextAt .later Tryz.pinned [LaidKind.data, .sentinel, .data, .data, .data, .data, .data, .data, .data] true := OpenClaim.laidByTextAt_later rfl rfl own_tie tie_noOwn

theorem interpNobody_holds : Rows.InterpNobodySaid :=
  OpenClaim.holds_of_wide 3 Tryz.f3 rfl rfl rfl rfl rfl rfl rfl ⟨rfl, rfl, rfl, rfl, rfl⟩ rfl rfl rfl rfl rfl row_func Tryz.func3 row_closed row_inst row_wrap
    (fun os started H enc _ => lifted os started H enc)

theorem interpNobody_card : Rows.InterpNobodyCardSaid :=
  Claim7.holds_tied_plain_at .later [] [LaidKind.data, .sentinel, .data, .data, .data, .data, .data, .data, .data] true (true, "10c3aab1fc8081c0b92dc280a0e62c02f2c7a8971dc98b4c98016be313a3fab6") true
    interpNobody_holds (fun _ h => by cases h) card_wf (fun _ h => by cases h) own_row_tie rfl ⟨rfl, rfl⟩ card_main rfl
    (fun f fn hf hfn => by
      obtain rfl : f = 3 := Option.some.inj (row_func.symm.trans hf) |>.symm
      obtain rfl : fn = Tryz.f3 := (Option.some.inj (Tryz.func3.symm.trans hfn)).symm
      exact ⟨card_looks, fun j t ht => by
        rw [Tryz.params3] at ht
        have hm : t ∈ [3, 3, 23] := by simpa using Array.mem_of_getElem? ht
        have hm' : t ∈ [3, 23] := by simpa using hm
        exact (show Tryz.prog.wantsStandIn t = false by simpa using List.all_eq_true.1 card_plain t hm')⟩)
    card_goes
end Go.Proofs.YtdonhmehdlmgcaaGreatDoor
