/- Proved here: the row's contract of smartcardlaw35.InterpNobody (it returns true, and its arguments read as before), from the run in the kernel. Conditions: the listed variables hold what the row says. -/
import Derived.Test.YtdonhmehdlmgcaaGreatDoorFacts
import Derived.Test.YtdonhmehdlmgcaaGreatDoorCards
import Derived.LaidByTextLater
import Derived.ProofKit
import Derived.LaidMore
import Derived.Stop.Joined
import Derived.SevenTiedAt
namespace Go.Proofs.YtdonhmehdlmgcaaGreatDoor
open Go Go.Ev Go.Ev.K Go.Proofs Go.Proofs.YtdonhmehdlmgcaaGreatDoor.Run
open Go.ChangeShapes Go.WideShapes Go.ChangeAt Go.RowKit

theorem own : ownKnob Tryz.prog.godebug = none := by kernel_rfl
theorem cells23 : Tryz.prog.cellsOf 23 = 2 := by kernel_rfl
theorem cells3 : Tryz.prog.cellsOf 3 = 1 := by kernel_rfl
theorem cells9 : Tryz.prog.cellsOf 9 = 1 := by kernel_rfl
theorem cells618 : Tryz.prog.cellsOf 618 = 1 := by kernel_rfl
theorem star : "*" ++ "errors.errorString" = "*errors.errorString" := by decide
theorem row594 (u : TypeId) (h : Tryz.prog.typeName? 3 u = some "*errors.errorString") : u = 594 :=
  typeName_ptr_named (nm := "errors.errorString") (by rw [star]; kernel_rfl) (by kernel_rfl) (by decide) u (by rw [star]; exact h)

/-- The door's own heap meets the condition. -/
theorem door_met (os : Os) (args : Array Value) : laidMetH Tryz.prog Rows.interpNobodyRow.laid ((World.doorLaid Tryz.prog 400 os).forCall (fun _ _ => 0) ⟨#[], args, []⟩).memory :=
  laidMetH_of_parts3 (fuel := 8) (laidMet_of_run' 8 (by kernel_rfl) (by kernel_rfl)) (by kernel_rfl) (by kernel_rfl)

theorem noHandles : (Rows.interpNobodyRow.laid.filter fun x => x.2.handleName?.isSome) = [] := by kernel_rfl
theorem plain_of {W : World} (h : laidMetH Tryz.prog Rows.interpNobodyRow.laid W) : laidMet Tryz.prog Rows.interpNobodyRow.laid W := by
  unfold laidMetH at h
  rw [noHandles] at h
  exact h

/-- How the run's names read in the world. -/
noncomputable def ren (b o : Nat) (x y z u : Value) : Ren :=
  { loc := fun a => if a < 512 then some ⟨a, 0, 0⟩ else if a = 900 then some ⟨b, o, 0⟩ else Option.none
    sym := fun k => [x, y, z, u][k]? }

theorem glob_ro (p : Nat × OT) (hp : p ∈ glob) : p.2.obj.ro = true :=
  List.all_eq_true.1 (by kernel_rfl : (glob.all fun p => p.2.obj.ro) = true) p hp

set_option maxRecDepth 100000 in
/-- The variables, as the run has them. -/
theorem vars {W : World} (h : laidMet Tryz.prog Rows.interpNobodyRow.laid W) (x y z u : Value) :
    ∃ b o, ∀ p ∈ glob, RoVar (ren b o x y z u) W.heap p.1 p.2 := by
  have m : ∀ i n d, Rows.interpNobodyRow.laid[i]? = some (n, d) → (n, d) ∈ Rows.interpNobodyRow.laid := fun i n d hi => List.mem_of_getElem? hi
  obtain ⟨cs, fuel, p, h1, h2⟩ := laid_block h (m 1 _ _ rfl) (show Tryz.prog.globalNamed "smartcard/linker.errLoad" = some 0 by kernel_rfl) (t := 140) (by kernel_rfl)
  have hpos : 0 < cs.size := by
    rcases Nat.eq_zero_or_pos cs.size with h0 | h0
    · obtain ⟨f1, u1, v1, hcs, _⟩ := iface_of_trod Tryz.underlying140 h1
      rw [← Array.length_toList, hcs] at h0
      cases h0
    · exact h0
  obtain ⟨⟨ty, hb⟩, hok⟩ := h2 hpos
  have hok' : ∀ u1 v1, cs.toList = [.iface u1 v1] → Value.okWide Tryz.prog W .any 0 u1 v1 := by
    intro u1 v1 e
    refine hok u1 v1 ?_
    have he : cs = #[.iface u1 v1] := by rw [← Array.toArray_toList (xs := cs), e]
    rw [World.cell?, hb, he]
    rfl
  obtain ⟨a, s, hcs, hcell, _, _, _⟩ := errorString_of_trod Tryz.underlying140 row594 Tryz.underlying594 Tryz.underlying618 rfl rfl Tryz.underlying9 cells618 cells9 h1 hok'
  obtain ⟨ab, ao, sp⟩ := a
  have hsp : sp = Option.none := by simpa using World.cell?_spot hcell
  subst hsp
  have hcs' : cs = #[.iface 594 (.pointer (some ⟨ab, ao, Option.none⟩))] := by rw [← Array.toArray_toList (xs := cs), hcs]
  subst hcs'
  refine ⟨ab, ao, fun p hp => ?_⟩
  have hp1 : VRel (ren ab ao x y z u) (.iface 594 (pP 900 0)) (.iface 594 (.pointer (some ⟨ab, ao, Option.none⟩))) :=
    .iface _ _ _ (.ptr 900 0 ⟨ab, ao, 0⟩ rfl)
  rcases List.mem_cons.1 hp with e | hp
  · rw [e]
    refine ⟨by decide, ⟨_, _, _, _, _, _, _, ty, rfl, by decide, hb, fun i hi => ?_⟩⟩
    obtain rfl : i = 0 := by omega
    exact ⟨_, rfl, hp1⟩
  rcases List.mem_cons.1 hp with e | hp
  · rw [e]
    exact RoVar.data h (m 2 _ _ rfl) (show Tryz.prog.globalNamed "smartcard/kinds.object" = some 1 by kernel_rfl) (t := 77) (by kernel_rfl) (k := 8) (vs := [.int .i64 255, .int .i64 0]) (by kernel_rfl) (by decide) (by kernel_rfl) (by decide) (by decide) (by kernel_rfl)
  rcases List.mem_cons.1 hp with e | hp
  · rw [e]
    exact RoVar.data h (m 3 _ _ rfl) (show Tryz.prog.globalNamed "smartcard/kinds.shareable" = some 2 by kernel_rfl) (t := 77) (by kernel_rfl) (k := 8) (vs := [.int .i64 255, .int .i64 1]) (by kernel_rfl) (by decide) (by kernel_rfl) (by decide) (by decide) (by kernel_rfl)
  rcases List.mem_cons.1 hp with e | hp
  · rw [e]
    exact RoVar.data h (m 0 _ _ rfl) (show Tryz.prog.globalNamed "smartcard/loadfile.object" = some 3 by kernel_rfl) (t := 77) (by kernel_rfl) (k := 8) (vs := [.int .i64 255, .int .i64 0]) (by kernel_rfl) (by decide) (by kernel_rfl) (by decide) (by decide) (by kernel_rfl)
  rcases List.mem_cons.1 hp with e | hp
  · rw [e]
    exact RoVar.data h (m 4 _ _ rfl) (show Tryz.prog.globalNamed "smartcard/verify.unused" = some 4 by kernel_rfl) (t := 93) (by kernel_rfl) (k := 8) (vs := [.int .i64 7, .int .i64 0, .int .i64 0]) (by kernel_rfl) (by decide) (by kernel_rfl) (by decide) (by decide) (by kernel_rfl)
  rcases List.mem_cons.1 hp with e | hp
  · rw [e]
    exact RoVar.data h (m 6 _ _ rfl) (show Tryz.prog.globalNamed "smartcard/verify.integer" = some 5 by kernel_rfl) (t := 93) (by kernel_rfl) (k := 8) (vs := [.int .i64 1, .int .i64 0, .int .i64 0]) (by kernel_rfl) (by decide) (by kernel_rfl) (by decide) (by decide) (by kernel_rfl)
  rcases List.mem_cons.1 hp with e | hp
  · rw [e]
    exact RoVar.data h (m 5 _ _ rfl) (show Tryz.prog.globalNamed "smartcard/kinds.whole" = some 6 by kernel_rfl) (t := 93) (by kernel_rfl) (k := 8) (vs := [.int .i64 5, .int .i64 255, .int .i64 0]) (by kernel_rfl) (by decide) (by kernel_rfl) (by decide) (by decide) (by kernel_rfl)
  rcases List.mem_cons.1 hp with e | hp
  · rw [e]
    exact RoVar.data h (m 7 _ _ rfl) (show Tryz.prog.globalNamed "smartcard/verify.null" = some 7 by kernel_rfl) (t := 93) (by kernel_rfl) (k := 8) (vs := [.int .i64 6, .int .i64 0, .int .i64 0]) (by kernel_rfl) (by decide) (by kernel_rfl) (by decide) (by decide) (by kernel_rfl)
  rcases List.mem_cons.1 hp with e | hp
  · rw [e]
    exact RoVar.data h (m 8 _ _ rfl) (show Tryz.prog.globalNamed "smartcard/verify.object" = some 8 by kernel_rfl) (t := 93) (by kernel_rfl) (k := 8) (vs := [.int .i64 5, .int .i64 255, .int .i64 0]) (by kernel_rfl) (by decide) (by kernel_rfl) (by decide) (by decide) (by kernel_rfl)
  cases hp

/-- THE WALK. -/
theorem walk {W : World} (h : laidMet Tryz.prog Rows.interpNobodyRow.laid W) (a b c d : Int) :
    Calls Tryz.prog 3 #[.int .i64 a, .int .i64 b, .agg #[.int .i64 c, .int .i64 d]] W fun e W' => e = .returned (.bool true) ∧ W.heap.size ≤ W'.heap.size ∧ (∀ B, B < W.heap.size → W'.heap[B]? = W.heap[B]?) ∧ WKeep W W' := by
  obtain ⟨ab, ao, hv⟩ := vars h (.int .i64 a) (.int .i64 b) (.int .i64 c) (.int .i64 d)
  refine ro_calls ok4 (xkEnts_ok _) mix (R := ren ab ao (.int .i64 a) (.int .i64 b) (.int .i64 c) (.int .i64 d)) (hrel_ro (N := 1000) (fun g hg => ?_) (by decide) (fun x hx => ?_) hv) glob_ro ?_ main_ok (fun r hr => finTrue_yes hr) rfl
  · show (if g < 512 then _ else _) = _
    rw [if_pos (show g < 512 from hg)]
  · show (if x < 512 then _ else if x = 900 then _ else _) = _
    rw [if_neg (by omega), if_neg (by omega)]
  · exact .cons (.sym 0 _ rfl rfl) (.cons (.sym 1 _ rfl rfl) (.cons (VRel.agg_iff.2 ⟨_, rfl, .cons (.sym 2 _ rfl rfl) (.cons (.sym 3 _ rfl rfl) (.nil _))⟩) (.nil _)))

theorem two_of_size {α : Type} {cs : Array α} (h : cs.size = 2) : ∃ a b, cs = #[a, b] := by
  obtain ⟨l⟩ := cs
  match l, h with
  | [a, b], _ => exact ⟨a, b, rfl⟩

theorem shut_pair {H : Type} {enc : TypeId × Value → H} {W' : World} (sp : Nat → Bool) {c d : Int} (wc : (Lit.int .i64 c).wf = true) (wd : (Lit.int .i64 d).wf = true) :
    DataW.Trod enc Tryz.prog W' 0 sp true 23 (.agg #[.int .i64 c, .int .i64 d]) (.agg [.lit (.int .i64 c), .lit (.int .i64 d)]) [] :=
  ⟨2, trod_struct2_mk (enc := enc) (w := W') (base := 0) (spare := sp) (held := true) (n := 1) (cs := [.int .i64 c, .int .i64 d]) (y0 := (.lit (.int .i64 c), [])) (y1 := (.lit (.int .i64 d), [])) Tryz.underlying23 (by rw [cells23]; rfl) (by rw [cells3]; exact trod_int_mk 0 Tryz.underlying3 wc) (by rw [cells3]; exact trod_int_mk 0 Tryz.underlying3 wd)⟩

/-- The words behind the call, where nothing that was there is touched and no place is read. -/
theorem post_plain {H : Type} {enc : TypeId × Value → H} {P : Program} {f : Func} {s : ChangeSpec} {apart fresh handsOn again : Bool} {W W' : World} {args : Array Value} {v : Value} {ds gs : List (DataW H)}
    (hW : DataW.Whole enc P f.params.toList s.vars apart W args.toList ds gs [])
    (hres : ∀ (b : Nat) (sp : Nat → Bool) (hd : Bool), DataW.TrodAll enc P W' b sp hd f.resultTypes.toList (v.resultList f.resultTypes.size) (s.fn H (ds ++ gs)).results [])
    (hargs : ∀ sp : Nat → Bool, DataW.TrodAll enc P W' 0 sp true f.params.toList args.toList (s.fn H (ds ++ gs)).args [])
    (hvars : ∀ sp : Nat → Bool, DataW.TrodVars enc P W' sp s.vars (s.fn H (ds ++ gs)).vars [])
    (hk : ∀ may, W.keptBut W' may)
    (hok : ∀ (j : Nat) (t : TypeId) (r : Value), f.resultTypes[j]? = some t → (v.resultList f.resultTypes.size)[j]? = some r → Value.okWide P W' .any 0 t r) :
    s.post enc P f apart fresh handsOn again W args v W' :=
  ⟨ds, gs, [], [], [], [], hW, hres _ _ _, hargs _, hvars _, hk _, fun _ => ⟨hok, _, _, [], ⟨[], [], Go.ChangeShapes.trodAll_append (hargs _) (hres _ _ _), hvars _, rfl, (fun _ _ h => by cases h), (fun _ => List.nodup_nil)⟩, (fun _ h => by cases h)⟩⟩

set_option maxRecDepth 100000 in
theorem lifted (os : Os) (started : os.Started) (H : Type) (enc : TypeId × Value → H) :
    ReturnsInHanded {} Tryz.checked os 3 .any (fun w args => (Rows.interpNobodySpec.pre enc Tryz.prog Tryz.f3 [] false w args ∧ laidMetH Tryz.prog Rows.interpNobodyRow.laid w) ∧ sizedMet enc Tryz.prog Tryz.f3 (OpenSpec.ofChange Rows.interpNobodySpec) false w args)
      (Rows.interpNobodySpec.post enc Tryz.prog Tryz.f3 false true false false) := by
  refine returnsInHanded_of_change_and (C := Tryz.checked) (X := fun w _ => laidMetH Tryz.prog Rows.interpNobodyRow.laid w) (fun _ _ _ hh h => h.of_heap hh) own started (by kernel_rfl) Tryz.func3
    (ChangeSpec.witness_shaped (enc := enc) (C := Tryz.checked) (os := os) (X := fun w _ => laidMetH Tryz.prog Rows.interpNobodyRow.laid w) false (World.doorLaid Tryz.prog 400 os) #[.int .i64 0, .int .i64 0, .agg #[.int .i64 0, .int .i64 0]] 8 rfl (World.shaped_of_RefB (by kernel_rfl) (by kernel_rfl)) (by kernel_rfl) (by kernel_rfl) (by kernel_rfl) (door_met os _)) ?_
  intro W base args ds gs before hval0 hW _ _ hL _
  have hval : ∀ (j : Nat) t v, Tryz.f3.params[j]? = some t → args[j]? = some v → Value.okWide Tryz.prog W .any base t v := hval0
  have hW' := hW
  obtain ⟨p, q, hA0, hV, rfl, hfz, hnd⟩ := hW
  have hA : DataW.TrodAll enc Tryz.prog W 0 (fun _ => true) true Tryz.f3.params.toList args.toList ds p := hA0
  rw [Tryz.params3] at hA hval
  obtain ⟨v0, v1, v2, d0, d1, d2, p0, p1, p2, rfl, rfl, rfl, h0, h1, h2⟩ := trodAll_three hA
  obtain ⟨rfl, rfl⟩ := trodVars_none hV
  obtain ⟨x0, rfl, rfl, rfl, w0⟩ := open_int Tryz.underlying3 (hval 0 3 v0 rfl rfl) h0
  obtain ⟨x1, rfl, rfl, rfl, w1⟩ := open_int Tryz.underlying3 (hval 1 3 v1 rfl rfl) h1
  obtain ⟨cs, rfl, hcs⟩ := okWide_struct Tryz.underlying23 (hval 2 23 v2 rfl rfl)
  obtain ⟨fuel, h2⟩ := h2
  obtain ⟨y0, y1, n, he, hl, g0, g1⟩ := trod_struct2 Tryz.underlying23 h2
  obtain ⟨c, e0, e1, wc⟩ := DataW.trod_int Tryz.underlying3 g0
  obtain ⟨d, e2, e3, wd⟩ := DataW.trod_int Tryz.underlying3 g1
  subst e1 e3
  rw [cells23] at hcs
  obtain ⟨a2, b2, rfl⟩ := two_of_size hcs
  have e0' : a2 = .int .i64 c := by
    rw [cells3] at e0
    exact (List.cons.inj (show [a2] = [.int .i64 c] from e0)).1
  have e2' : b2 = .int .i64 d := by
    rw [cells3] at e2
    exact (List.cons.inj (show [b2] = [.int .i64 d] from e2)).1
  subst e0' e2'
  simp only [Prod.mk.injEq] at he
  obtain ⟨rfl, rfl⟩ := he
  clear hA0 hval0
  simp only [List.append_nil] at hW'
  have fin : ∀ W', (∀ B, B < W.heap.size → W'.heap[B]? = W.heap[B]?) → W.heap.size ≤ W'.heap.size → WKeep W W' → Rows.interpNobodySpec.post enc Tryz.prog Tryz.f3 false true false false W #[.int .i64 x0, .int .i64 x1, .agg #[.int .i64 c, .int .i64 d]] (.bool true) W' := fun W' hold hsz hk =>
    post_plain hW' (fun _ _ _ => trodAll_mk1 (shut_bool Tryz.underlying4 _)) (fun sp => trodAll_mk3 (shut_int Tryz.underlying3 w0) (shut_int Tryz.underlying3 w1) (shut_pair sp wc wd)) (fun _ => rfl) (keptBut_same hk hold) (ok_one (by kernel_rfl) rfl (okWide_bool_mk Tryz.underlying4 _))
  refine (walk (plain_of hL) x0 x1 c d).mono fun e W' ⟨he, hsz, hold, hk⟩ => ?_
  subst he
  exact ⟨_, rfl, fin W' hold hsz hk⟩
end Go.Proofs.YtdonhmehdlmgcaaGreatDoor
