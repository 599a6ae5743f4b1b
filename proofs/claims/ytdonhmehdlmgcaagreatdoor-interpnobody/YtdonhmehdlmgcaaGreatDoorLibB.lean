/- A VERIFIED EVALUATOR, part two of four: what it writes agrees with the model; every step. -/
import Derived.Test.YtdonhmehdlmgcaaGreatDoorLibA
import Derived.Laws.IdiomCopy
import Derived.Laws.AppendOwn
import Derived.Calls
set_option linter.unusedVariables false
set_option linter.unusedSimpArgs false
/- Addresses, fields, look-ups; and all the operations that write nothing together. -/
namespace Go.Ev

variable {P : Program} {R : Ren} {σ : St} {w : World} {tm : Tr Value} {arr : Array Value}

theorem fieldPlace_run {a ca : Addr} (ha : AddrRel R a ca) {f : Field} {p : Addr} (h : Ev.fieldPlace P a f = .ok p) (w : World) :
    (Go.fieldPlace ca f).run P w = .ok (ca.add f.offset) w ∧ AddrRel R p (ca.add f.offset) := by
  simp only [Ev.fieldPlace, ok_bind] at h
  obtain ⟨i, hi, h⟩ := h
  split at h
  · cases h
  rename_i hs
  simp only [ok_inj] at h; subst h
  exact ⟨by simp [Go.fieldPlace, run_size hi, hs], ha.add _⟩

theorem Go.sureAddr_run (ca : Addr) (w : World) : (Instr.sureAddr (.pointer (some ca))).run P w = .ok ca w := by simp [Instr.sureAddr]

theorem fieldAddr_run (hg : Glob R) (ht : TRel R tm arr) {s : TypeId} {x : Operand} {f : Nat} {v : Value} (h : aFieldAddr P tm s x f = .ok v) (w : World) :
    FltOk P R w (Instr.fieldAt s (ceval arr x) f) (.val v) := by
  simp only [aFieldAddr, ok_bind] at h
  obtain ⟨u, hu, h⟩ := h
  split at h
  case h_2 => cases h
  split at h
  case h_2 => cases h
  rename_i fields fl hf
  simp only [ok_bind, ok_inj] at h
  obtain ⟨b, hb, a, ha, p, hp, rfl⟩ := h
  obtain ⟨ca, e, hca⟩ := sureAddr_rel (opd_rel hg ht hb) ha
  obtain ⟨h1, h2⟩ := fieldPlace_run hca hp w
  exact FltOk.val (by simp [Instr.fieldAt, run_und hu, hf, e, Go.sureAddr_run, h1]) (VRel.ptr_iff.2 ⟨_, rfl, h2⟩)

theorem field_run (hg : Glob R) (ht : TRel R tm arr) {t : TypeId} {x : Operand} {f : Nat} {v : Value} (h : aField P tm t x f = .ok v) (w : World) :
    FltOk P R w (Instr.field t (ceval arr x) f) (.val v) := by
  simp only [aField, ok_bind] at h
  obtain ⟨u, hu, h⟩ := h
  split at h
  case h_2 => cases h
  split at h
  case h_2 => cases h
  rename_i fields fl hf
  simp only [ok_bind] at h
  obtain ⟨b, hb, h⟩ := h
  split at h
  case h_2 => cases h
  obtain ⟨ds, e, hl⟩ := VRel.agg_iff.1 (opd_rel hg ht hb)
  obtain ⟨c, h1, h2⟩ := part_run hl h w
  exact FltOk.val (by simp [Instr.field, run_und hu, hf, e, Go.asAgg, h1]) h2

theorem indexAddr_run (hg : Glob R) (ht : TRel R tm arr) {t : TypeId} {x ix : Operand} {v : Value} (h : aIndexAddr P tm t x ix = .ok v) (w : World) :
    FltOk P R w (Instr.indexAt t (ceval arr x) (ceval arr ix)) (.val v) := by
  simp only [aIndexAddr, ok_bind] at h
  obtain ⟨iv, hiv, k, hk, u, hu, b, hb, h⟩ := h
  obtain ⟨kk, e1⟩ := asNat_rel (opd_rel hg ht hiv) hk
  have hbr := opd_rel hg ht hb
  split at h
  · rename_i len elem a
    simp only [ok_bind] at h
    obtain ⟨i, hi, h⟩ := h
    split at h
    case isFalse => cases h
    rename_i hlt
    simp only [ok_inj] at h; subst h
    obtain ⟨ca, e2, hca⟩ := VRel.ptr_iff.1 hbr
    exact FltOk.val (c := .pointer (some (ca.add (k * i.size)))) (by simp [Instr.indexAt, asIntOf, e1, e2, run_und hu, Go.sureAddr_run, hlt, run_size hi]) (VRel.ptr_iff.2 ⟨_, rfl, hca.add _⟩)
  · rename_i elem a len cap
    simp only [ok_bind] at h
    obtain ⟨i, hi, h⟩ := h
    split at h
    case isFalse => cases h
    rename_i hlt
    simp only [ok_inj] at h; subst h
    have haddr : ∃ ca c', ceval arr x = .slice (some ca) len c' ∧ AddrRel R a ca := by
      generalize ceval arr x = c at hbr
      cases hbr with
      | slice b off L n c hL hc => exact ⟨_, _, rfl, L, hL, rfl, rfl⟩
      | openSl b off L n c c' hL hc => exact ⟨_, _, rfl, L, hL, rfl, rfl⟩
    obtain ⟨ca, c', e2, hca⟩ := haddr
    exact FltOk.val (c := .pointer (some (ca.add (k * i.size)))) (by simp [Instr.indexAt, asIntOf, e1, e2, run_und hu, hlt, run_size hi]) (VRel.ptr_iff.2 ⟨_, rfl, hca.add _⟩)
  · cases h

theorem index_run (hg : Glob R) (ht : TRel R tm arr) {t : TypeId} {x ix : Operand} {v : Value} (h : aIndex P tm t x ix = .ok v) (w : World) :
    FltOk P R w (Instr.index t (ceval arr x) (ceval arr ix)) (.val v) := by
  simp only [aIndex, ok_bind] at h
  obtain ⟨iv, hiv, k, hk, u, hu, b, hb, h⟩ := h
  obtain ⟨kk, e1⟩ := asNat_rel (opd_rel hg ht hiv) hk
  have hbr := opd_rel hg ht hb
  split at h
  · rename_i len elem cs
    simp only [ok_bind] at h
    obtain ⟨i, hi, h⟩ := h
    split at h
    case isFalse => cases h
    rename_i hlt
    obtain ⟨ds, e2, hl⟩ := VRel.agg_iff.1 hbr
    obtain ⟨c, h1, h2⟩ := part_run hl h w
    exact FltOk.val (c := c) (by simp [Instr.index, asIntOf, e1, e2, run_und hu, hlt, run_size hi, h1]) h2
  · rename_i s
    split at h
    case h_2 => cases h
    rename_i bt hbt
    simp only [ok_inj] at h; subst h
    have e2 : ceval arr x = .string s := by
      generalize ceval arr x = c at hbr
      cases hbr; rfl
    exact FltOk.val (c := .int .u8 bt.toNat) (by simp [Instr.index, asIntOf, e1, e2, run_und hu, hbt]) (.int _ _)
  · cases h

theorem entriesOf_run (H : HRel P R σ w.heap) {v c : Value} (hv : VRel R v c) {es : List MapEntry} (h : entriesOf σ v = .ok es) :
    ∃ es' : Array MapEntry, F2 (ERel R) es es'.toList ∧ ((c = .map none ∧ es' = #[]) ∨ ∃ r clock, c = .map (some r) ∧ w.heap[r]? = some (.map es' clock)) := by
  unfold entriesOf at h
  split at h
  · simp only [ok_inj] at h; subst h
    cases hv
    exact ⟨#[], F2.nil, .inl ⟨rfl, rfl⟩⟩
  · simp only [ok_bind] at h
    obtain ⟨o, ho, h⟩ := h
    split at h
    case h_2 => cases h
    simp only [ok_inj] at h; subst h
    obtain ⟨l, es', h1, h2, h3⟩ := H.map (obj_get ho)
    cases hv with
    | map a l' hl' =>
      rw [h1] at hl'; cases hl'
      exact ⟨es', h3, .inr ⟨_, _, rfl, h2⟩⟩
  · cases h

theorem getObj_map {w : World} {r : Nat} {es : Array MapEntry} {clock : Nat} (h : w.heap[r]? = some (.map es clock)) : (getObj r).run P w = .ok (.map es clock) w := by
  simp [getObj, Sem.run, h]

theorem lookup_run (H : HRel P R σ w.heap) (ht : TRel R tm arr) {t : TypeId} {x ix : Operand} {ok : Bool} {v : Value} (h : aLookup P σ tm t x ix ok = .ok v) :
    FltOk P R w (Instr.lookup t (ceval arr x) (ceval arr ix) ok) (.val v) := by
  have hg := H.glob
  simp only [aLookup, ok_bind] at h
  obtain ⟨u, hu, h⟩ := h
  split at h
  case h_2 => cases h
  rename_i key elem
  simp only [ok_bind] at h
  obtain ⟨m, hm, es, hes, k, hk, ⟨⟩, hkey, f, hf, h⟩ := h
  obtain ⟨es', hrel, hc⟩ := entriesOf_run H (opd_rel hg ht hm) hes
  have hkr := opd_rel hg ht hk
  obtain ⟨u', hu'⟩ := akey_und hkey
  obtain ⟨r', h1, h2⟩ := findKey_run H hu' hkr hf hrel
  have hck : ∀ e, (Instr.checkKey e 10000 key (ceval arr ix)).run P w = .ok () w := fun e => akey_run 100 key k _ 10000 e hkey hkr (by decide)
  split at h
  · rename_i j y
    simp only [ok_inj] at h; subst h
    cases r' with
    | none => exact h2.elim
    | some p =>
      obtain ⟨j', c⟩ := p
      refine FltOk.val (c := if ok then .tuple #[c, .bool true] else c) ?_ ?_
      · rcases hc with ⟨e, rfl⟩ | ⟨r, clock, e, hb⟩
        · simp at h1
          simp [Instr.lookup, run_und hu, e, hck, h1]
        · simp [Instr.lookup, run_und hu, e, getObj_map hb, hck, h1]
      · split
        · exact VRel.tuple_iff.2 ⟨_, rfl, .cons h2.2 (.cons (.bool _) (.nil R))⟩
        · exact h2.2
  · simp only [ok_bind, ok_inj] at h
    obtain ⟨z, hz, rfl⟩ := h
    cases r' with
    | some p => exact h2.elim
    | none =>
      refine FltOk.val (c := if ok then .tuple #[z, .bool false] else z) ?_ ?_
      · rcases hc with ⟨e, rfl⟩ | ⟨r, clock, e, hb⟩
        · simp at h1
          simp [Instr.lookup, run_und hu, e, hck, h1, run_zero hz]
        · simp [Instr.lookup, run_und hu, e, getObj_map hb, hck, h1, run_zero hz]
      · split
        · exact VRel.tuple_iff.2 ⟨_, rfl, .cons (zero_rel hz R) (.cons (.bool _) (.nil R))⟩
        · exact zero_rel hz R

theorem range_run (H : HRel P R σ w.heap) (ht : TRel R tm arr) {t : TypeId} {x : Operand} {f : FV} (h : aRange P σ tm t x = .ok f) :
    FltOk P R w (Instr.range t (ceval arr x)) f := by
  simp only [aRange, ok_bind] at h
  obtain ⟨u, hu, v, hv, h⟩ := h
  have hvr := opd_rel H.glob ht hv
  split at h
  · rename_i s
    simp only [ok_inj] at h; subst h
    generalize ceval arr x = c at hvr ⊢
    cases hvr
    exact ⟨_, { w with heap := w.heap.push (.stringIter s 0) }, by simp [Instr.range, run_und hu] <;> rfl, ⟨rfl, rfl, rfl⟩, .stringIter s 0, 0, rfl, fun n hn => ⟨⟨rfl, rfl, rfl⟩, ptrTo_rel⟩⟩
  · simp only [ok_inj] at h; subst h
    generalize ceval arr x = c at hvr ⊢
    cases hvr
    exact ⟨_, { w with heap := w.heap.push (.mapIter none 0 #[] 0) }, by simp [Instr.range, run_und hu] <;> rfl, ⟨rfl, rfl, rfl⟩, .mapIter none 0 #[] 0, 0, rfl, fun n hn => ⟨⟨trivial, rfl, rfl, rfl, rfl⟩, ptrTo_rel⟩⟩
  · simp only [ok_bind] at h
    obtain ⟨o, ho, h⟩ := h
    split at h
    case h_2 => cases h
    rename_i clock
    simp only [ok_inj] at h; subst h
    obtain ⟨l, es', h1, h2, h3⟩ := H.map (obj_get ho)
    generalize ceval arr x = c at hvr ⊢
    cases hvr with
    | map a l' hl' =>
      rw [h1] at hl'; cases hl'
      exact ⟨_, { w with heap := w.heap.push (.mapIter (some l.block) clock #[] clock) }, by simp [Instr.range, run_und hu, getObj_map h2] <;> rfl, ⟨rfl, rfl, rfl⟩, .mapIter (some l.block) clock #[] clock, 0, rfl, fun n hn => ⟨⟨⟨l, (Ren.le_add hn _).1 _ _ h1, rfl⟩, rfl, rfl, rfl, rfl⟩, ptrTo_rel⟩⟩
  · cases h

theorem look_run (H : HRel P R σ w.heap) {b : Builtin} {ats : Array TypeId} {args cs : List Value} (ha : LRel R args cs) {v : Value} (h : aLook P σ b ats args = .ok v) (t : TypeId) (consts : Array Bool) :
    (Go.builtin b ats t consts cs.toArray).run P w = .ok (.value v) w ∧ VRel R v v := by
  unfold aLook at h
  split at h
  · obtain ⟨c, cs', rfl, h1, h2⟩ := ha.of_cons
    have := h2.of_nil; subst this
    split at h
    case h_2 => cases h
    rename_i t0 ht0
    simp only [ok_bind] at h
    obtain ⟨u, hu, h⟩ := h
    split at h
    · simp only [ok_inj] at h; subst h; cases h1
      exact ⟨by simp [Go.builtin, Builtin.len_, ht0, run_und hu], .int _ _⟩
    · simp only [ok_inj] at h; subst h
      exact ⟨by simp [Go.builtin, Builtin.len_, ht0, run_und hu], .int _ _⟩
    · simp only [ok_inj] at h; subst h
      cases h1 <;> exact ⟨by simp [Go.builtin, Builtin.len_, ht0, run_und hu], .int _ _⟩
    · simp only [ok_inj] at h; subst h; cases h1
      exact ⟨by simp [Go.builtin, Builtin.len_, ht0, run_und hu], .int _ _⟩
    · simp only [ok_bind] at h
      obtain ⟨o, ho, h⟩ := h
      split at h
      case h_2 => cases h
      rename_i es clock
      simp only [ok_inj] at h; subst h
      obtain ⟨l, es', g1, g2, g3⟩ := H.map (obj_get ho)
      cases h1 with
      | map a l' hl' =>
        rw [g1] at hl'; cases hl'
        have : es'.size = es.length := by have := g3.1; simpa using this.symm
        exact ⟨by simp [Go.builtin, Builtin.len_, ht0, run_und hu, getObj_map g2, this], .int _ _⟩
    · cases h
  · obtain ⟨c, cs', rfl, h1, h2⟩ := ha.of_cons
    have := h2.of_nil; subst this
    split at h
    case h_2 => cases h
    rename_i t0 ht0
    simp only [ok_bind] at h
    obtain ⟨u, hu, h⟩ := h
    split at h
    case h_2 => cases h
    split at h
    case isFalse => cases h
    rename_i hlt
    simp only [ok_inj] at h; subst h
    cases h1 with
    | nilSlice n c => exact ⟨by simp [Go.builtin, Builtin.cap_, ht0, run_und hu], .int _ _⟩
    | slice a off l n c hl hc => exact ⟨by simp [Go.builtin, Builtin.cap_, ht0, run_und hu], .int _ _⟩
    | openSl a off l n c c' hl hc => omega
  · obtain ⟨c, cs', rfl, h1, h2⟩ := ha.of_cons
    obtain ⟨d, cs'', rfl, h3, h4⟩ := h2.of_cons
    have := h4.of_nil; subst this
    simp only [ok_inj] at h; subst h
    cases h1; cases h3
    exact ⟨by simp [Go.builtin, Builtin.min_, Builtin.min2], .int _ _⟩
  · obtain ⟨c, cs', rfl, h1, h2⟩ := ha.of_cons
    obtain ⟨d, cs'', rfl, h3, h4⟩ := h2.of_cons
    have := h4.of_nil; subst this
    simp only [ok_inj] at h; subst h
    cases h1; cases h3
    exact ⟨by simp [Go.builtin, Builtin.max_, Builtin.max2], .int _ _⟩
  · cases h


theorem find_rel {es : List MapEntry} {es' : List MapEntry} (hr : F2 (ERel R) es es') (p : Nat → Bool) : ∀ e, es.find? (fun e => p e.born) = some e → ∃ e', es'.find? (fun e => p e.born) = some e' ∧ ERel R e e' := by
  induction es generalizing es' with
  | nil => intro e h; simp at h
  | cons x xs ih =>
    intro e h
    obtain ⟨y, ys, rfl, h1, h2⟩ := hr.of_cons
    simp only [List.find?_cons] at h ⊢
    rw [← h1.born]
    cases hp : p x.born
    · rw [hp] at h; exact ih h2 e h
    · rw [hp] at h
      simp only [Option.some.injEq] at h; subst h
      exact ⟨y, rfl, h1⟩

theorem entry_run (H : HRel P R σ w.heap) (ht : TRel R tm arr) {it : Operand} {v : Value} (h : aEntry σ tm it = .ok v) :
    FltOk P R w (Instr.entry (ceval arr it)) (.val v) := by
  simp only [aEntry, ok_bind] at h
  obtain ⟨x, hx, h⟩ := h
  have hxr := opd_rel H.glob ht hx
  split at h
  case h_2 => cases h
  rename_i r
  simp only [ok_bind] at h
  obtain ⟨o, ho, h⟩ := h
  split at h
  case h_2 => cases h
  rename_i m since seen stepped
  simp only [ok_bind] at h
  obtain ⟨mo, hmo, h⟩ := h
  split at h
  case h_2 => cases h
  rename_i es clock
  split at h
  · cases h
  rename_i stamp hst
  split at h
  · cases h
  rename_i hck
  split at h
  case h_2 => cases h
  rename_i e he
  simp only [ok_inj] at h; subst h
  obtain ⟨l, O, h1, h2, h3⟩ := H.obj _ _ (obj_get ho)
  cases O <;> simp only [ORel] at h3
  rename_i m' since' seen' stepped'
  obtain ⟨hm, rfl, hseen, rfl, hbase⟩ := h3
  obtain ⟨l2, es', g1, g2, g3⟩ := H.map (obj_get hmo)
  cases m' with
  | none => exact hm.elim
  | some mb =>
    obtain ⟨l3, g4, g5⟩ := hm
    rw [g1] at g4; cases g4
    subst g5
    obtain ⟨e', he', hee⟩ := find_rel g3 (fun b => b == stamp) e he
    obtain ⟨ca, e1, L, hL, _, rfl⟩ := VRel.ptr_iff.1 hxr
    simp only at hL
    rw [h1] at hL; cases hL
    have hst' : seen'.back? = some stamp := by rw [← hst, ← hseen]; simp
    have hgo : (getObj l.block).run P w = .ok (.mapIter (some l2.block) since' seen' stepped') w := by simp [getObj, Sem.run, h2]
    have hck' : clock = stepped' := Classical.byContradiction hck
    have hf' : es'.find? (fun e => e.born == stamp) = some e' := by rw [← Array.find?_toList]; exact he'
    refine FltOk.val (c := .tuple #[e'.key, e'.val]) ?_ (VRel.tuple_iff.2 ⟨_, rfl, .cons hee.key (.cons hee.val (.nil R))⟩)
    rw [e1, hbase]
    simp [Instr.entry, hgo, getObj_map g2, hst', hck', hf']

end Go.Ev

/- All the operations that write nothing, together. -/
namespace Go.Ev

variable {P : Program} {R : Ren} {σ : St} {w : World} {tm : Tr Value} {arr : Array Value}

theorem typeAssert_run (hg : Glob R) (ht : TRel R tm arr) {x : Operand} {xt at_ : TypeId} {ok : Bool} {v : Value} (h : aTypeAssert P tm x at_ ok = .ok v) (w : World) :
    FltOk P R w (Instr.typeAssert (ceval arr x) xt at_ ok) (.val v) := by
  simp only [aTypeAssert, ok_bind] at h
  obtain ⟨u, hu, b, hb, h⟩ := h
  have hbr := opd_rel hg ht hb
  have hfail : (if ok then (do let z ← zeroV P at_; .ok (.tuple #[z, .bool false])) else .error "typeAssert fails" : E Value) = .ok v → ∃ z, zeroV P at_ = .ok z ∧ ok = true ∧ v = .tuple #[z, .bool false] := by
    intro hh
    split at hh
    · simp only [ok_bind, ok_inj] at hh
      obtain ⟨z, hz, rfl⟩ := hh
      exact ⟨z, hz, by assumption, rfl⟩
    · cases hh
  have hzrel : ∀ z, zeroV P at_ = .ok z → VRel R (.tuple #[z, .bool false]) (.tuple #[z, .bool false]) := fun z hz => VRel.tuple_iff.2 ⟨_, rfl, .cons (zero_rel hz R) (.cons (.bool _) (.nil R))⟩
  generalize ceval arr x = c at hbr ⊢
  split at h
  · cases hbr
    obtain ⟨z, hz, rfl, rfl⟩ := hfail h
    exact FltOk.val (by simp [Instr.typeAssert, run_und hu, run_zero hz]) (hzrel z hz)
  · rename_i want t y
    cases hbr with
    | iface _ _ y' hy =>
      simp only [ok_bind] at h
      obtain ⟨i, hi, h⟩ := h
      split at h
      · rename_i hm
        simp only [ok_inj] at h; subst h
        refine FltOk.val (c := if ok then .tuple #[.iface t y', .bool true] else .iface t y') (by simp [Instr.typeAssert, run_und hu, run_tinfo hi, hm]) ?_
        split
        · exact VRel.tuple_iff.2 ⟨_, rfl, .cons (.iface _ _ _ hy) (.cons (.bool _) (.nil R))⟩
        · exact .iface _ _ _ hy
      · rename_i hm
        obtain ⟨z, hz, rfl, rfl⟩ := hfail h
        exact FltOk.val (by simp [Instr.typeAssert, run_und hu, run_tinfo hi, hm, run_zero hz]) (hzrel z hz)
  · rename_i hni
    cases hbr
    obtain ⟨z, hz, rfl, rfl⟩ := hfail h
    refine FltOk.val (c := .tuple #[z, .bool false]) ?_ (hzrel z hz)
    simp only [Instr.typeAssert, Sem.run_bind, run_und hu, Result.andThen_ok]
    cases u <;> first | (exact absurd rfl (hni _)) | simp [run_zero hz]
  · rename_i t y hni
    cases hbr with
    | iface _ _ y' hy =>
      split at h
      · rename_i hte
        simp only [ok_inj] at h; subst h
        refine FltOk.val (c := if ok then .tuple #[y', .bool true] else y') ?_ ?_
        · simp only [Instr.typeAssert, Sem.run_bind, run_und hu, Result.andThen_ok]
          cases u <;> first | (exact absurd rfl (hni _)) | simp [hte]
        · split
          · exact VRel.tuple_iff.2 ⟨_, rfl, .cons hy (.cons (.bool _) (.nil R))⟩
          · exact hy
      · rename_i hte
        obtain ⟨z, hz, rfl, rfl⟩ := hfail h
        refine FltOk.val (c := .tuple #[z, .bool false]) ?_ (hzrel z hz)
        simp only [Instr.typeAssert, Sem.run_bind, run_und hu, Result.andThen_ok]
        cases u <;> first | (exact absurd rfl (hni _)) | simp [hte, run_zero hz]
  · cases h

/-- what an operation that writes nothing does -/
def OpFlt (P : Program) (R : Ren) (w : World) (s : Sem Next) (f : FV) : Prop := ∃ c w', s.run P w = .ok (.value c) w' ∧ WKeep w w' ∧ FVRel P R w w' c f

theorem FltOk.op {s : Sem Value} {f : FV} (h : FltOk P R w s f) : OpFlt P R w (do pure (.value (← s))) f :=
  let ⟨c, w', h1, h2, h3⟩ := h
  ⟨c, w', by simp [h1], h2, h3⟩

theorem OpFlt.val {s : Sem Next} {v c : Value} (h : s.run P w = .ok (.value c) w) (hv : VRel R v c) : OpFlt P R w s (.val v) := ⟨c, w, h, .refl w, rfl, hv⟩

theorem fval_eq {x : E Value} {f : FV} (h : fval x = .ok f) : ∃ v, x = .ok v ∧ f = .val v := by
  simp only [fval, ok_bind, ok_inj] at h
  obtain ⟨v, hv, rfl⟩ := h
  exact ⟨v, hv, rfl⟩

theorem parts_fun (arr : Array Value) (ps : Array (Nat × Operand)) : (ps.map fun (i, x) => (i, ceval arr x)) = ps.map fun x => (x.1, ceval arr x.2) := rfl

set_option maxHeartbeats 2000000 in
theorem aflt_run (H : HRel P R σ w.heap) (ht : TRel R tm arr) {o : Oper} {f : FV} (h : aflt P σ tm o = .ok f) : OpFlt P R w (execOp (ceval arr) o) f := by
  have hg := H.glob
  obtain ⟨dst, op, type, pos, after, guard⟩ := o
  cases op <;> simp only [aflt] at h <;> simp only [execOp]
  case move x => obtain ⟨v, hv, rfl⟩ := fval_eq h; exact .val rfl (opd_rel hg ht hv)
  case assign x => obtain ⟨v, hv, rfl⟩ := fval_eq h; exact .val rfl (opd_rel hg ht hv)
  case pick c a b =>
    simp only [ok_bind] at h
    obtain ⟨cv, hcv, t, htb, h⟩ := h
    obtain ⟨v, hv, rfl⟩ := fval_eq h
    have e := asBool_rel (opd_rel hg ht hcv) htb
    refine .val (c := if t then ceval arr a else ceval arr b) (by simp [e, Go.asBool]) ?_
    split at hv
    · rw [if_pos ‹_›]; exact opd_rel hg ht hv
    · rw [if_neg ‹_›]; exact opd_rel hg ht hv
  case alloc elem =>
    simp only [ok_bind, ok_inj] at h
    obtain ⟨z, hz, rfl⟩ := h
    have := newVar_ok (P := P) (w := w) elem (zero_rel hz R)
    obtain ⟨c, w', h1, h2, h3⟩ := this
    refine ⟨c, w', ?_, h2, h3⟩
    simp only [Instr.alloc, Sem.run_bind, run_zero hz, Result.andThen_ok] at h1 ⊢
    rw [h1]; rfl
  case box elem x =>
    simp only [ok_bind, ok_inj] at h
    obtain ⟨v, hv, rfl⟩ := h
    exact (newVar_ok (P := P) (w := w) elem (opd_rel hg ht hv)).op
  case build t ps =>
    obtain ⟨v, hv, rfl⟩ := fval_eq h
    obtain ⟨c, h1, h2⟩ := build_run hg ht hv w
    exact (FltOk.val h1 h2).op
  case buildSlice t len ps => exact (buildSlice_run hg ht h).op
  case load t a =>
    simp only [ok_bind] at h
    obtain ⟨av, hav, ad, had, h⟩ := h
    obtain ⟨v, hv, rfl⟩ := fval_eq h
    obtain ⟨ca, e, hca⟩ := sureAddr_rel (opd_rel hg ht hav) had
    obtain ⟨c, h1, h2⟩ := loadVar_run H hca hv
    refine (FltOk.val (c := c) ?_ h2).op
    rw [e]
    simp [Instr.loadAt, Go.sureAddr_run, h1]
  case nilCheck x =>
    simp only [ok_bind] at h
    obtain ⟨v, hv, h⟩ := h
    have hr := opd_rel hg ht hv
    split at h
    · simp only [ok_inj] at h; subst h
      obtain ⟨ca, e, hca⟩ := VRel.ptr_iff.1 hr
      exact .val (c := .pointer (some ca)) (by simp [e]) (VRel.ptr_iff.2 ⟨ca, rfl, hca⟩)
    · simp only [ok_inj] at h; subst h
      generalize ceval arr x = c at hr ⊢
      cases hr with
      | iface t y y' hy => exact .val rfl (.iface _ _ _ hy)
    · simp only [ok_inj] at h; subst h
      obtain ⟨g, ys, ds, e, hf, h1, h2⟩ := VRel.func_iff.1 hr
      cases hf with
      | func _ => exact .val (c := .func (.func _) ys ds) (by rw [e]; rfl) (VRel.func_iff.2 ⟨_, _, _, rfl, .func _, h1, h2⟩)
    · cases h
  case binOp op t x y yt =>
    simp only [ok_bind] at h
    obtain ⟨a, ha, b, hb, h⟩ := h
    obtain ⟨v, hv, rfl⟩ := fval_eq h
    obtain ⟨h1, h2⟩ := abin_run H (opd_rel hg ht ha) (opd_rel hg ht hb) hv
    exact (FltOk.val h1 h2).op
  case unOp op t x =>
    simp only [ok_bind] at h
    obtain ⟨a, ha, h⟩ := h
    have hr := opd_rel hg ht ha
    split at h
    · obtain ⟨v, hv, rfl⟩ := fval_eq h
      have hp := pureOf_eq hv
      generalize ceval arr x = c at hr ⊢
      cases hr
      exact (FltOk.val (c := v) (by rw [hp]; rfl) (unary_rel (.inl ⟨_, _, rfl⟩) hp R)).op
    · obtain ⟨v, hv, rfl⟩ := fval_eq h
      have hp := pureOf_eq hv
      generalize ceval arr x = c at hr ⊢
      cases hr
      exact (FltOk.val (c := v) (by rw [hp]; rfl) (unary_rel (.inr ⟨_, rfl⟩) hp R)).op
    · cases h
  case convert s d x =>
    simp only [ok_bind] at h
    obtain ⟨a, ha, h⟩ := h
    exact (convert_run H (opd_rel hg ht ha) h).op
  case makeInterface t x =>
    simp only [ok_bind] at h
    obtain ⟨u, hu, h⟩ := h
    split at h
    · cases h
    rename_i hni
    simp only [ok_bind, ok_inj] at h
    obtain ⟨v, hv, rfl⟩ := h
    refine (FltOk.val (c := .iface t (ceval arr x)) ?_ (.iface _ _ _ (opd_rel hg ht hv))).op
    simp only [Instr.makeInterface, Sem.run_bind, run_und hu, Result.andThen_ok]
    cases u <;> first | (exact absurd rfl (hni _)) | rfl
  case makeFunc fn first captured =>
    split at h
    · cases h
    rename_i hny
    simp only [ok_bind, ok_inj] at h
    obtain ⟨fs, hfs, cs, hcs, rfl⟩ := h
    have hfn : FnRel R fn fn := by
      cases fn with
      | func f => exact .func f
      | method n => exact .method n
      | methodOf t n => exact .methodOf t n
      | via t p f b => exact .via t p f b
      | yield l => exact absurd rfl (hny l)
    refine (FltOk.val (c := .func fn (first.map (ceval arr)) (captured.map (ceval arr))) rfl (VRel.func_iff.2 ⟨_, _, _, rfl, hfn, ?_, ?_⟩)).op
    · simpa using opds_rel hg ht hfs
    · simpa using opds_rel hg ht hcs
  case makeMap t r => exact (makeMap_run hg ht h).op
  case makeSlice t l c => exact (makeSlice_run hg ht h).op
  case slice t x lo hi mx =>
    simp only [ok_bind] at h
    obtain ⟨v, hv, a, ha, b, hb, c, hc, h⟩ := h
    exact (aslice_run H (opd_rel hg ht hv) (optOpd_rel hg ht ha) (optOpd_rel hg ht hb) (optOpd_rel hg ht hc) h).op
  case fieldAddr s x f => obtain ⟨v, hv, rfl⟩ := fval_eq h; exact (fieldAddr_run hg ht hv w).op
  case field t x f => obtain ⟨v, hv, rfl⟩ := fval_eq h; exact (field_run hg ht hv w).op
  case indexAddr t x ix => obtain ⟨v, hv, rfl⟩ := fval_eq h; exact (indexAddr_run hg ht hv w).op
  case index t x ix => obtain ⟨v, hv, rfl⟩ := fval_eq h; exact (index_run hg ht hv w).op
  case lookup t x ix ok => obtain ⟨v, hv, rfl⟩ := fval_eq h; exact (lookup_run H ht hv).op
  case range t x => exact (range_run H ht h).op
  case entry it => obtain ⟨v, hv, rfl⟩ := fval_eq h; exact (entry_run H ht hv).op
  case typeAssert x xt at_ ok => obtain ⟨v, hv, rfl⟩ := fval_eq h; exact (typeAssert_run hg ht hv w).op
  case extract t ix =>
    simp only [ok_bind] at h
    obtain ⟨v, hv, h⟩ := h
    split at h
    case h_2 => cases h
    split at h
    case h_2 => cases h
    rename_i vs y hy
    simp only [ok_inj] at h; subst h
    obtain ⟨ys, e, hl⟩ := VRel.tuple_iff.1 (opd_rel hg ht hv)
    obtain ⟨c, hc, hr⟩ := hl.get (i := ix) (x := y) (by simpa using hy)
    have hc' : ys[ix]? = some c := by simpa using hc
    exact (FltOk.val (c := c) (by simp [Instr.extract, e, hc']) hr).op
  case call c =>
    obtain ⟨callee, args, ats⟩ := c
    cases callee with
    | value f => cases h
    | invoke r m => cases h
    | builtin b =>
      simp only at h
      split at h
      case isFalse => cases h
      simp only [ok_bind] at h
      obtain ⟨as, has, h⟩ := h
      obtain ⟨v, hv, rfl⟩ := fval_eq h
      have hl := opds_rel hg ht has
      obtain ⟨h1, h2⟩ := look_run H hl hv type (args.map fun | .const _ => true | _ => false)
      refine .val (c := v) ?_ h2
      have he : (args.toList.map (ceval arr)).toArray = args.map (ceval arr) := by apply Array.toList_inj.1; simp
      rw [he] at h1
      exact h1
  all_goals cases h

end Go.Ev

/- The operations that write, and calls. -/
namespace Go.Ev

variable {P : Program} {R : Ren} {σ : St} {w : World} {tm : Tr Value} {arr : Array Value}

/-! ### stores -/

def wr (a : Array Value) : Nat → List Value → Array Value
  | _, [] => a
  | o, v :: vs => wr (a.setIfInBounds o v) (o + 1) vs

theorem wr_size : ∀ (vs : List Value) (a : Array Value) (o : Nat), (wr a o vs).size = a.size
  | [], a, o => rfl
  | v :: vs, a, o => by rw [wr, wr_size vs]; simp

theorem wr_get : ∀ (vs : List Value) (a : Array Value) (o i : Nat), o + vs.length ≤ a.size → (wr a o vs)[i]? = if o ≤ i ∧ i < o + vs.length then vs[i - o]? else a[i]?
  | [], a, o, i, _ => by simp [wr]; omega
  | v :: vs, a, o, i, h => by
    simp only [List.length_cons] at h
    rw [wr, wr_get vs _ (o + 1) i (by simp; omega)]
    by_cases hi : o = i
    · subst hi
      have hlt : o < a.size := by omega
      rw [if_neg (fun hh => by have := hh.1; omega), if_pos (by simp only [List.length_cons]; omega)]
      simp [hlt]
    · by_cases h1 : o + 1 ≤ i ∧ i < o + 1 + vs.length
      · rw [if_pos h1, if_pos (by simp only [List.length_cons]; omega)]
        have : i - o = (i - (o + 1)) + 1 := by omega
        rw [this, List.getElem?_cons_succ]
      · rw [if_neg h1, if_neg (by simp only [List.length_cons]; omega), Array.getElem?_setIfInBounds_ne hi]

theorem modify_eq {α : Type} {h : Array α} {b : Nat} {x : α} (hb : h[b]? = some x) (f : α → α) : h.modify b f = h.setIfInBounds b (f x) := by
  have hlt : b < h.size := (Array.getElem?_eq_some_iff.1 hb).1
  have hx : h[b] = x := (Array.getElem?_eq_some_iff.1 hb).2
  apply Array.ext_getElem?
  intro i
  rw [Array.getElem?_modify, Array.getElem?_setIfInBounds]
  by_cases hi : b = i
  · subst hi; simp [hlt, hx]
  · simp [hi]

theorem set_self {α : Type} {h : Array α} {b : Nat} {x : α} (hb : h[b]? = some x) : h.setIfInBounds b x = h := by
  have hlt : b < h.size := (Array.getElem?_eq_some_iff.1 hb).1
  apply Array.ext_getElem?
  intro i
  rw [Array.getElem?_setIfInBounds]
  by_cases hi : b = i
  · subst hi; have hx := (Array.getElem?_eq_some_iff.1 hb).2; simp [hlt, hx]
  · simp [hi]

theorem setCells_heap : ∀ (vs : List Value) (w : World) (b o : Nat) (a : Array Value) (e : TypeId) (fr : Nat × Nat), w.heap[b]? = some (.cells a e fr) →
    w.setCells b o vs = { w with heap := w.heap.setIfInBounds b (.cells (wr a o vs) e fr) }
  | [], w, b, o, a, e, fr, h => by
    have := set_self h
    simp only [World.setCells, wr, this]
  | v :: vs, w, b, o, a, e, fr, h => by
    have hlt : b < w.heap.size := (Array.getElem?_eq_some_iff.1 h).1
    have h1 : w.setCell ⟨b, o, none⟩ v = { w with heap := w.heap.setIfInBounds b (.cells (a.setIfInBounds o v) e fr) } := by
      unfold World.setCell
      simp only
      rw [modify_eq h]
      simp
    rw [World.setCells, h1, setCells_heap vs _ b (o + 1) (a.setIfInBounds o v) e fr (by simp [hlt])]
    simp [wr, Array.setIfInBounds_setIfInBounds]

structure Kept (P : Program) (R : Ren) (σ : St) (w : World) (R' : Ren) (σ' : St) (w' : World) : Prop where
  rel : HRel P R' σ' w'.heap
  fr : Fr R σ w.heap R' σ' w'.heap
  keep : WKeep w w'

theorem Kept.refl (H : HRel P R σ w.heap) : Kept P R σ w R σ w := ⟨H, .refl _ _ _, .refl w⟩

theorem storeCells_run (H : HRel P R σ w.heap) {a ca : Addr} (ha : AddrRel R a ca) {vs cs : List Value} (hl : LRel R vs cs) {σ' : St} (h : Ev.storeCells σ a vs = .ok σ') :
    ∃ w', (Go.storeCells ca cs 0).run P w = .ok () w' ∧ Kept P R σ w R σ' w' := by
  unfold Ev.storeCells at h
  split at h
  · rename_i he
    simp only [ok_inj] at h; subst h
    have : vs = [] := by simpa using he
    subst this
    have := hl.of_nil; subst this
    exact ⟨w, by simp [Go.storeCells], Kept.refl H⟩
  rename_i he
  simp only [ok_bind] at h
  obtain ⟨o, ho, h⟩ := h
  split at h
  case h_2 => cases h
  rename_i c d n e x fz mk
  split at h
  case isFalse => cases h
  rename_i hc
  obtain ⟨c1, c2, c3, c4⟩ := hc
  simp only [ok_inj] at h; subst h
  have hg := obj_get ho
  obtain ⟨l, hloc, hs, rfl⟩ := ha
  obtain ⟨l', ds, lo, hi, e', h1, h2, h3, h3e⟩ := H.cells hg
  rw [hloc] at h1; cases h1
  have hlen : cs.length = vs.length := hl.1.symm
  have hpos : 0 < vs.length := by cases vs with | nil => simp at he | cons _ _ => simp
  have hcell : ∀ i, i < n → l.base + i < ds.size := fun i hi => by
    obtain ⟨v, hv, _⟩ := h3.cells i hi
    exact (Array.getElem?_eq_some_iff.1 hv).1
  have hrun := run_storeCells_cells (P := P) l.block (l.base + a.off) cs 0 w
    (fun j hj => by
      rw [Nat.add_zero, World.cell_of h2]
      have := hcell (a.off + j) (by omega)
      rw [← Nat.add_assoc] at this
      simp [this])
    (fun j hj => by
      have := hcell (a.off + j) (by omega)
      have hf := h3.free (l.base + a.off + j) (by omega) (by omega)
      simp only [World.frozen?, Nat.add_zero, h2, Bool.and_eq_false_iff, decide_eq_false_iff_not]
      omega)
    (fun v hv => by
      obtain ⟨i, hi, rfl⟩ := List.getElem_of_mem hv
      have hx : vs[i]? = some (vs[i]'(by omega)) := List.getElem?_eq_getElem (by omega)
      exact (hl.2 i _ _ hx (List.getElem?_eq_getElem hi)).oneCell (by
        rw [List.all_eq_true] at c4
        exact c4 _ (List.getElem_mem _)))
  rw [Nat.add_zero, setCells_heap cs w l.block (l.base + a.off) ds e' (lo, hi) h2] at hrun
  have hlast := hcell (a.off + (vs.length - 1)) (by omega)
  refine ⟨_, hrun, ?_⟩
  have hup := H.update (a := a.block) (l := l) hg (by simp only [AObj.ro, Bool.and_eq_false_iff, decide_eq_false_iff_not]; omega) hloc (o' := .cells (setCells c a.off vs) d n e x fz mk) (O' := .cells (wr ds (l.base + a.off) cs) e' (lo, hi)) ⟨h3e, ?_⟩
  · exact ⟨hup.1, hup.2, ⟨rfl, rfl, rfl⟩⟩
  · refine ⟨fun i hi => ?_, fun hx => ?_, fun j hj hjs => ?_, fun hm => ?_⟩
    · rw [getC_setCells, wr_get _ _ _ _ (by omega)]
      by_cases hin : a.off ≤ i ∧ i < a.off + vs.length
      · rw [if_pos (by omega), if_pos hin]
        have hxi : vs[i - a.off]? = some (vs[i - a.off]'(by omega)) := List.getElem?_eq_getElem (by omega)
        obtain ⟨y, hy, hr⟩ := hl.get hxi
        refine ⟨y, ?_, by rw [hxi]; exact hr⟩
        have : l.base + i - (l.base + a.off) = i - a.off := by omega
        rw [this]; exact hy
      · rw [if_neg (by omega), if_neg hin]
        exact h3.cells i hi
    · rw [wr_size]; exact h3.ext hx
    · rw [wr_size] at hjs; exact h3.free j hj hjs
    · rw [wr_size]; exact h3.mark hm

/-- what an operation that writes does, if it yields v and leaves σ' -/
def ValOk (P : Program) (R : Ren) (σ : St) (w : World) (s : Sem Next) (v : Value) (σ' : St) : Prop :=
  ∃ R' w', ((∃ c, s.run P w = .ok (.value c) w' ∧ VRel R' v c) ∨ (s.run P w = .ok .skip w' ∧ v = Go.undef)) ∧ Kept P R σ w R' σ' w'

theorem store_run (H : HRel P R σ w.heap) (ht : TRel R tm arr) {t : TypeId} {a x : Operand} {r : Ret} (h : aStore P σ tm t a x = .ok r) :
    ∃ σ', r = .val Go.undef σ' ∧ ValOk P R σ w (do Instr.storeAt t (ceval arr a) (ceval arr x); pure .skip) Go.undef σ' := by
  have hg := H.glob
  simp only [aStore, ok_bind] at h
  obtain ⟨av, hav, ad, had, v, hv, i, hi, h⟩ := h
  split at h
  · cases h
  rename_i hsz
  simp only [ok_bind, ok_inj] at h
  obtain ⟨σ', hσ, rfl⟩ := h
  obtain ⟨ca, e, hca⟩ := sureAddr_rel (opd_rel hg ht hav) had
  have hvr := opd_rel hg ht hv
  obtain ⟨w', h1, h2⟩ := storeCells_run H hca hvr.cells hσ
  have hsz' : (ceval arr x).cells.size = i.size := by
    have := hvr.cells.1
    simp only [Array.length_toList] at this
    omega
  refine ⟨σ', rfl, R, w', .inr ⟨?_, rfl⟩, h2⟩
  rw [e]
  simp [Instr.storeAt, Go.sureAddr_run, Go.storeVar, run_size hi, hsz', h1]

end Go.Ev

/- append and copy. -/
namespace Go.Ev

variable {P : Program} {R : Ren} {σ : St} {w : World} {tm : Tr Value} {arr : Array Value}

theorem slice_addr {a : Addr} {n c : Nat} {v : Value} (hv : VRel R (.slice (some a) n c) v) : ∃ ca c', v = .slice (some ca) n c' ∧ AddrRel R a ca := by
  cases hv with
  | slice b off L n c hL hc => exact ⟨_, _, rfl, L, hL, rfl, rfl⟩
  | openSl b off L n c c' hL hc => exact ⟨_, _, rfl, L, hL, rfl, rfl⟩

theorem loadCells_len {a : Addr} {n : Nat} {vs : List Value} (h : Ev.loadCells σ a n = .ok vs) : vs.length = n := by
  unfold Ev.loadCells at h
  split at h
  · simp only [ok_inj] at h; subst h; simp [*]
  · simp only [ok_bind] at h
    obtain ⟨o, ho, h⟩ := h
    split at h
    case h_2 => cases h
    split at h
    case isFalse => cases h
    simp only [ok_inj] at h; subst h
    exact cellsFrom_length _ _ _ _

theorem firstCells_run (H : HRel P R σ w.heap) {size n : Nat} {v c : Value} (hv : VRel R v c) {vs : List Value} (h : Ev.firstCells σ size n v = .ok vs) :
    vs.length = n * size ∧ ∃ cs : Array Value, LRel R vs cs.toList ∧ ∀ w' : World, w'.heap = w.heap → (Builtin.firstCells size n c).run P w' = .ok cs w' := by
  unfold Ev.firstCells at h
  split at h
  · rename_i a l k
    obtain ⟨ca, c', rfl, hca⟩ := slice_addr hv
    obtain ⟨cs, h1, h2⟩ := loadCells_runs H hca h
    exact ⟨loadCells_len h, cs, h1, fun w' hw' => by simp only [Builtin.firstCells]; exact h2 w' hw'⟩
  · split at h
    case isFalse => cases h
    rename_i hn
    simp only [ok_inj] at h; subst h; subst hn
    cases hv
    exact ⟨by simp, #[], LRel.nil R, fun w' _ => by simp [Builtin.firstCells]⟩
  · split at h
    case isFalse => cases h
    rename_i s hc
    simp only [ok_inj] at h; subst h
    obtain ⟨rfl, hn⟩ := hc
    cases hv
    refine ⟨?_, (s.extract 0 n).data.map fun b => .int .u8 b.toNat, ?_, fun w' _ => by simp [Builtin.firstCells]⟩
    · have : (s.extract 0 n).data.size = n := by
        have : (s.extract 0 n).size = n := by simp; omega
        exact this
      simp only [List.length_map, Array.length_toList, this, Nat.mul_one]
    · refine ⟨by simp, fun i x y hx hy => ?_⟩
      have : x = y := by
        simp only [Array.toList_map] at hy
        rw [hx] at hy; cases hy; rfl
      subst this
      simp only [List.getElem?_map, Option.map_eq_some_iff] at hx
      obtain ⟨b, _, rfl⟩ := hx
      exact .int _ _
  · cases h


theorem lenOf_run {v c : Value} (hv : VRel R v c) {n : Nat} (h : Ev.lenOf v = .ok n) (w : World) : (Builtin.lenOf c).run P w = .ok n w := by
  unfold Ev.lenOf at h
  split at h
  · simp only [ok_inj] at h; subst h; cases hv <;> simp [Builtin.lenOf]
  · simp only [ok_inj] at h; subst h; cases hv; simp [Builtin.lenOf]
  · cases h

/-- what append reckons before it looks at the capacity -/
structure AppPre (P : Program) (R : Ren) (w : World) (ats : Array TypeId) (elem : TypeId) (i : TypeInfo) (cx : Value) (zeros : Bool) (n : Nat) (new : List Value) : Prop where
  len : new.length = n * i.size
  cells : ∃ cs : Array Value, LRel R new cs.toList ∧ ∀ w' : World, w'.heap = w.heap →
    (if zeros then (if n * i.size = 0 then pure #[] else do pure (Builtin.zeroCells (← zeroValue elem).cells n) : Sem (Array Value)) else Builtin.firstCells i.size n cx).run P w' = .ok cs w'
  countF : zeros = false → (Builtin.lenOf cx).run P w = .ok n w
  countT : zeros = true → ∃ k, cx = .int k (n : Int) ∧ n ≤ 1000000 ∧ i.bytes ≤ 100000

theorem appended_run (H : HRel P R σ w.heap) {ats : Array TypeId} {elem : TypeId} {i : TypeInfo} (hb : ¬ i.bytes > 100000) (hs : i.size ≠ 0) {x cx : Value} (hx : VRel R x cx) {zeros : Bool} {n : Nat} {new : List Value}
    (h : appended P σ zeros elem i.size x = .ok (n, new)) : AppPre P R w ats elem i cx zeros n new := by
  unfold appended at h
  cases zeros
  · simp only [Bool.false_eq_true, if_false, ok_bind, ok_inj, Prod.mk.injEq] at h
    obtain ⟨k, hk, cs, hcs, rfl, rfl⟩ := h
    obtain ⟨h1, ds, h2, h3⟩ := firstCells_run H hx hcs
    exact ⟨h1, ⟨ds, h2, fun w' hw' => by simpa using h3 w' hw'⟩, fun _ => lenOf_run hx hk w, fun h => by cases h⟩
  · simp only [if_true, ok_bind] at h
    obtain ⟨k, hk, z, hz, h⟩ := h
    split at h
    case isFalse => cases h
    rename_i hc
    simp only [ok_inj, Prod.mk.injEq] at h
    obtain ⟨rfl, rfl⟩ := h
    obtain ⟨kk, rfl⟩ := asNat_rel hx hk
    obtain ⟨i', hi', hzz, hpl⟩ := zeroV_eq hz
    have hzl : z.cells.toList.length = i.size := by simpa using hc.2
    refine ⟨by rw [repList_length, hzl], ?_, (fun h => by cases h), fun _ => ⟨kk, rfl, hc.1, by omega⟩⟩
    · refine ⟨if k * i.size = 0 then #[] else Builtin.zeroCells z.cells k, ?_, fun w' _ => ?_⟩
      · split
        · rename_i h0
          have : k = 0 := by
            rcases Nat.mul_eq_zero.1 h0 with e | e
            · exact e
            · exact absurd e hs
          subst this
          exact LRel.nil R
        · exact range_rel (plain_cells hpl R) k (by omega)
      · by_cases h0 : k * i.size = 0
        · simp [h0]
        · simp [h0, run_zero hz]

theorem zerosArg_cases {ats : Array TypeId} {z : Bool} (h : zerosArg P ats = .ok z) :
    (∃ xt u, ats[1]? = some xt ∧ und P xt = .ok u ∧ z = (u matches .int _)) ∨ (ats[1]? = none ∧ z = false) := by
  unfold zerosArg at h
  split at h
  · rename_i xt hx
    simp only [ok_bind] at h
    obtain ⟨u, hu, h⟩ := h
    refine .inl ⟨xt, u, hx, hu, ?_⟩
    split at h
    · simp only [ok_inj] at h; subst h; rfl
    · rename_i hni
      simp only [ok_inj] at h; subst h
      cases u <;> first | rfl | exact absurd rfl (hni _)
  · simp only [ok_inj] at h
    exact .inr ⟨by assumption, h.symm⟩

/-- append: what the model does behind the count -/
def appTail (elem : TypeId) (size : Nat) (s x : Value) (base : Option Addr) (sLen sCap n : Nat) (zeros : Bool) : Sem Value := do
  let appended : Sem (Array Value) :=
    if !zeros then Builtin.firstCells size n x
    else if n * size = 0 then pure #[]
    else do pure (Builtin.zeroCells (← zeroValue elem).cells n)
  let need := sLen + n
  if need ≤ sCap then
    let new ← appended
    if let some a := base then Go.storeCells (a.add (sLen * size)) new.toList
    pure (.slice base need sCap)
  else
    if (need : Int) > IntKind.i64.max ∧ (zeros ∨ (← typeInfo elem).bytes = 0) then runtimePanic (.error "growslice: len out of range")
    if Builtin.nextslicecap need sCap * (← typeInfo elem).bytes > 2 ^ 48 then (if zeros then runtimePanic (.error "growslice: len out of range") else do
      if !(← Builtin.mayShare size sLen n base x) then mark .noRoom
      unsupported (.resourceLimit "append: a slice or a string whose bytes no memory bears"))
    let newCap ← choose (.appendCap need sCap elem)
    askRoom (newCap * (← typeInfo elem).bytes)
    let old ← Builtin.firstCells size sLen s
    let new ← appended
    let rest := Builtin.zeroCells (← zeroValue elem).cells (newCap - need)
    pure (.slice (some (← newRow elem (old ++ new ++ rest))) need newCap)

theorem append_tail {ats : Array TypeId} {t elem ty : TypeId} {i : TypeInfo} (ht : ats[0]? = some t) (hu : und P t = .ok (.slice elem)) (hi : tinfo P elem = .ok i) {zeros : Bool} (hz : zerosArg P ats = .ok zeros)
    {cb : Option Addr} {sLen ccap n : Nat} {cx : Value} {new : List Value} (hp : AppPre P R w ats elem i cx zeros n new) :
    (Builtin.append_ ats ty #[.slice cb sLen ccap, cx]).run P w = (appTail elem i.size (.slice cb sLen ccap) cx cb sLen ccap n zeros).run P w := by
  have e0 : (#[Value.slice cb sLen ccap, cx] : Array Value)[0]? = some (Value.slice cb sLen ccap) := rfl
  have e1 : (#[Value.slice cb sLen ccap, cx] : Array Value)[1]? = some cx := rfl
  cases zeros with
  | false =>
    have hc := hp.countF rfl
    rcases zerosArg_cases hz with ⟨xt, u, hx, hxu, hf⟩ | ⟨hx, hf⟩
    · simp only [Builtin.append_, ht, hx, e0, e1, Sem.run_bind, run_und hu, Result.andThen_ok, run_size hi, run_und hxu, Sem.run_pure]
      cases u <;> first | (cases hf; done) | (dsimp only; rw [if_neg Bool.false_ne_true, Sem.run_bind, hc]; rfl)
    · simp only [Builtin.append_, ht, hx, e0, e1, Sem.run_bind, run_und hu, Result.andThen_ok, run_size hi, Sem.run_pure]
      rw [if_neg Bool.false_ne_true, Sem.run_bind, hc]
      rfl
  | true =>
    obtain ⟨k, rfl, hn, hb⟩ := hp.countT rfl
    rcases zerosArg_cases hz with ⟨xt, u, hx, hxu, hf⟩ | ⟨hx, hf⟩
    · have hw : IntKind.i64.wrap (n : Int) = n := by rw [IntKind.wrap_i64]; omega
      have hle : ¬ ((n : Int) * (i.bytes : Int) > 2 ^ 48) := by
        have : n * i.bytes ≤ 1000000 * 100000 := Nat.mul_le_mul hn hb
        have h2 : ((n * i.bytes : Nat) : Int) ≤ 281474976710656 := by omega
        rw [Int.natCast_mul] at h2
        omega
      have hn0 : ¬ (n : Int) < 0 := by omega
      have hai : (Go.asInt (.int k (n : Int))).run P w = .ok (n : Int) w := by simp [Go.asInt, asIntOf]
      simp only [Builtin.append_, ht, hx, e0, e1, Sem.run_bind, run_und hu, Result.andThen_ok, run_size hi, run_und hxu, Sem.run_pure]
      cases u <;> first | (cases hf; done) | (dsimp only; rw [if_pos rfl, Sem.run_bind, hai, Result.andThen_ok, hw, if_neg hn0, Sem.run_bind, run_tinfo hi, Result.andThen_ok, if_neg hle, Sem.run_bind, Sem.run_pure, Result.andThen_ok, Int.toNat_natCast]; rfl)
    · cases hf


/-- what is appended, at whatever world with this heap -/
theorem AppPre.run {ats : Array TypeId} {elem : TypeId} {i : TypeInfo} {cx : Value} {zeros : Bool} {n : Nat} {new : List Value} (hp : AppPre P R w ats elem i cx zeros n new) :
    ∃ cs : Array Value, LRel R new cs.toList ∧ ∀ w' : World, w'.heap = w.heap → (if !zeros then Builtin.firstCells i.size n cx else if n * i.size = 0 then pure #[] else do pure (Builtin.zeroCells (← zeroValue elem).cells n) : Sem (Array Value)).run P w' = .ok cs w' := by
  obtain ⟨cs, h1, h2⟩ := hp.cells
  refine ⟨cs, h1, fun w' hw' => ?_⟩
  have := h2 w' hw'
  cases zeros
  · exact this
  · exact this

/-- the block under a slice gets a new number (and the elder number none) -/
theorem HRel.move (H : HRel P R σ w.heap) {a : Nat} {L : Loc} {o0 : AObj} (ha0 : σ.heap.get a = some o0) (hro : o0.ro = false) (hL : R.loc a = some L) {l : Loc} (hl : l.block = L.block) {o : AObj} {O : Obj}
    (ho : ORel P (R.add σ.next l) l o O) {h' : Array Obj} (hh : h' = w.heap.setIfInBounds L.block O) :
    HRel P (R.add σ.next l) { heap := (σ.heap.set σ.next o).del a, next := σ.next + 1 } h' ∧ Fr R σ w.heap (R.add σ.next l) { heap := (σ.heap.set σ.next o).del a, next := σ.next + 1 } h' := by
  subst hh
  have ha : (σ.heap.get a).isSome := by rw [ha0]; rfl
  have hn := H.dom σ.next (Nat.le_refl _)
  have hle := Ren.le_add hn l
  have hlt := H.lt ha hL
  have hane : a ≠ σ.next := fun e => by rw [e, hn] at hL; cases hL
  have hloc : ∀ x y, x ≠ σ.next → (R.add σ.next l).loc x = some y → R.loc x = some y := fun x y hx hy => by simpa [Ren.add, hx] using hy
  have hget : ∀ x, x ≠ σ.next → x ≠ a → ((σ.heap.set σ.next o).del a).get x = σ.heap.get x := fun x h1 h2 => by rw [Tr.get_del, if_neg h2, Tr.get_set, if_neg h1]
  have hgn : ((σ.heap.set σ.next o).del a).get σ.next = some o := by rw [Tr.get_del, if_neg (Ne.symm hane), Tr.get_set, if_pos rfl]
  have hga : ((σ.heap.set σ.next o).del a).get a = none := by rw [Tr.get_del, if_pos rfl]
  refine ⟨⟨H.glob.mono hle, Nat.le_succ_of_le H.low, fun x hx => ?_, fun x y lx ly hx hy hlx hly he => ?_, fun x o' hx => ?_⟩, ⟨hle, by simp, fun B hB hne => ?_, fun x lx o1 hx hlx => ?_, Nat.le_succ _, fun x lx hlx => (Nat.lt_or_ge x σ.next).elim (fun h1 => .inl (hloc x lx (by omega) hlx)) .inr⟩⟩
  · have : x ≠ σ.next := by simp only at hx; omega
    simp only [Ren.add, this, if_false]
    exact H.dom x (by simp only at hx; omega)
  · by_cases h1 : x = σ.next <;> by_cases h2 : y = σ.next
    · rw [h1, h2]
    · subst h1
      rw [Ren.add_loc] at hlx; cases hlx
      by_cases h3 : y = a
      · subst h3; rw [hga] at hy; cases hy
      · rw [hget y h2 h3] at hy
        exact absurd (H.inj y a ly L hy ha (hloc y ly h2 hly) hL (by rw [← he, hl])) h3
    · subst h2
      rw [Ren.add_loc] at hly; cases hly
      by_cases h3 : x = a
      · subst h3; rw [hga] at hx; cases hx
      · rw [hget x h1 h3] at hx
        exact absurd (H.inj x a lx L hx ha (hloc x lx h1 hlx) hL (by rw [he, hl])) h3
    · by_cases h3 : x = a
      · subst h3; rw [hga] at hx; cases hx
      · by_cases h4 : y = a
        · subst h4; rw [hga] at hy; cases hy
        · rw [hget x h1 h3] at hx
          rw [hget y h2 h4] at hy
          exact H.inj x y lx ly hx hy (hloc x lx h1 hlx) (hloc y ly h2 hly) he
  · by_cases h1 : x = σ.next
    · subst h1
      rw [hgn] at hx
      simp only [Option.some.injEq] at hx; subst hx
      exact ⟨l, O, Ren.add_loc _ _ _, by rw [hl]; simp [hlt], ho⟩
    · by_cases h3 : x = a
      · subst h3; rw [hga] at hx; cases hx
      · rw [hget x h1 h3] at hx
        obtain ⟨lx, O', g1, g2, g3⟩ := H.obj x o' hx
        refine ⟨lx, O', hle.1 _ _ g1, ?_, g3.mono hle⟩
        have : L.block ≠ lx.block := fun e => h3 (H.inj x a lx L (by rw [hx]; rfl) ha g1 hL e.symm)
        rw [Array.getElem?_setIfInBounds_ne this]; exact g2
  · rw [Array.getElem?_setIfInBounds_ne (hne a L o0 ha0 hro hL)]
  · by_cases h1 : x = σ.next
    · subst h1
      rw [Ren.add_loc] at hlx; cases hlx
      exact .inr ⟨a, L, o0, ha0, hL, hl.symm, fun _ => hro⟩
    · by_cases h3 : x = a
      · subst h3; rw [hga] at hx; cases hx
      · rw [hget x h1 h3] at hx
        exact .inr ⟨x, lx, o1, hx, hloc x lx h1 hlx, rfl, id⟩

end Go.Ev

namespace Go.Ev

variable {P : Program} {R : Ren} {σ : St} {w : World} {tm : Tr Value} {arr : Array Value}

/-- a Sem that yields a value, kept -/
def SOk (P : Program) (R : Ren) (σ : St) (w : World) (s : Sem Value) (v : Value) (σ' : St) : Prop :=
  ∃ R' w' c, s.run P w = .ok c w' ∧ VRel R' v c ∧ Kept P R σ w R' σ' w'

theorem SOk.op {s : Sem Value} {v : Value} {σ' : St} (h : SOk P R σ w s v σ') : ValOk P R σ w (do pure (.value (← s))) v σ' :=
  let ⟨R', w', c, h1, h2, h3⟩ := h
  ⟨R', w', .inl ⟨c, by simp [h1], h2⟩, h3⟩

theorem WKeep.drawn (w : World) : WKeep w { w with drawn := w.drawn + 1 } := ⟨rfl, rfl, rfl⟩

theorem setCells_rel {R : Ren} {olds : List Value} {cs : Array Value} {b off : Nat} (h : ∀ (i : Nat) (x : Value), olds[i]? = some x → ∃ y, cs[b + off + i]? = some y ∧ VRel R x y) {news ds : List Value} (hn : LRel R news ds) (hsz : b + off + olds.length + news.length ≤ cs.size) :
    ∀ i, i < (olds ++ news).length → ∃ v, (wr cs (b + off + olds.length) ds)[b + off + i]? = some v ∧ VRel R (getC (setCells .nil 0 (olds ++ news)) [Go.undef] i) v := by
  intro i hi
  have hl : ds.length = news.length := hn.1.symm
  rw [getC_setCells, if_pos (by omega), Nat.sub_zero, wr_get _ _ _ _ (by omega)]
  by_cases ho : i < olds.length
  · rw [if_neg (by omega), List.getElem?_append_left ho]
    have hx : olds[i]? = some olds[i] := List.getElem?_eq_getElem ho
    obtain ⟨y, h1, h2⟩ := h i _ hx
    exact ⟨y, h1, by rw [hx]; exact h2⟩
  · have hi' : i - olds.length < news.length := by simp only [List.length_append] at hi; omega
    rw [if_pos (by omega), List.getElem?_append_right (by omega)]
    have hx : news[i - olds.length]? = some news[i - olds.length] := List.getElem?_eq_getElem hi'
    obtain ⟨y, h1, h2⟩ := hn.get hx
    refine ⟨y, ?_, by rw [hx]; exact h2⟩
    have : b + off + i - (b + off + olds.length) = i - olds.length := by omega
    rw [this]; exact h1

theorem loadCells_cells {a : Addr} {n : Nat} {vs : List Value} (h : Ev.loadCells σ a n = .ok vs) (hn : n ≠ 0) :
    ∃ c d m e x fz mk, σ.heap.get a.block = some (.cells c d m e x fz mk) ∧ a.off + n ≤ m ∧ vs = cellsFrom c d a.off n := by
  unfold Ev.loadCells at h
  rw [if_neg hn] at h
  simp only [ok_bind] at h
  obtain ⟨o, ho, h⟩ := h
  split at h
  case h_2 => cases h
  rename_i c d m e x fz mk
  split at h
  case isFalse => cases h
  rename_i hb
  simp only [ok_inj] at h; subst h
  exact ⟨c, d, m, e, x, fz, mk, obj_get ho, hb.1, rfl⟩

theorem append0_run (H : HRel P R σ w.heap) {ats : Array TypeId} {ty : TypeId} {s x cs cx v : Value} {σ' : St} (hs : VRel R s cs) (hx : VRel R x cx) (h : Ev.append0_ P σ ats s x = .ok (v, σ')) :
    SOk P R σ w (Builtin.append_ ats ty #[cs, cx]) v σ' := by
  unfold Ev.append0_ at h
  split at h
  case h_2 => cases h
  rename_i t base sLen sCap hat
  simp only [ok_bind] at h
  obtain ⟨u, hu, h⟩ := h
  split at h
  case h_2 => cases h
  rename_i elem
  simp only [ok_bind] at h
  obtain ⟨i, hi, zeros, hz, ⟨n, new⟩, happ, lo, hlo, h⟩ := h
  split at h
  · cases h
  rename_i hc
  have c1 : i.size ≠ 0 := fun e => hc (.inl e)
  have c2 : ¬ i.bytes > 100000 := fun e => hc (.inr (.inl e))
  have c3 : ¬ sLen + n > 1000000 := fun e => hc (.inr (.inr e))
  have hp := appended_run (w := w) (ats := ats) H c2 c1 hx happ
  obtain ⟨ca, ccap, rfl, hle, hcl, hcase⟩ := capLow_rel H hs hlo
  have htail := append_tail (ty := ty) (cb := ca) (sLen := sLen) (ccap := ccap) hat hu hi hz hp
  obtain ⟨ns, hns, hrun⟩ := hp.run
  split at h
  · rename_i hroom
    rcases hcase with ⟨rfl, rfl, hb⟩ | ⟨a, cad, rfl, rfl, haddr, hopen⟩
    · simp only [ok_inj, Prod.mk.injEq] at h
      obtain ⟨rfl, rfl⟩ := h
      obtain ⟨rfl, rfl⟩ := hcl hb
      refine ⟨R, w, _, ?_, .nilSlice _ _, Kept.refl H⟩
      rw [htail]
      simp only [appTail, if_pos hroom, Sem.run_bind, hrun w rfl, Result.andThen_ok, Sem.run_pure]
    · simp only [ok_bind, ok_inj, Prod.mk.injEq] at h
      obtain ⟨σ1, hst, rfl, rfl⟩ := h
      obtain ⟨w', h1, h2⟩ := storeCells_run H (haddr.add (sLen * i.size)) hns hst
      refine ⟨R, w', .slice (some cad) (sLen + n) ccap, ?_, ?_, h2⟩
      · rw [htail]
        simp only [appTail, if_pos (show sLen + n ≤ ccap by omega), Sem.run_bind, hrun w rfl, Result.andThen_ok, h1, Sem.run_pure]
      · by_cases hb : sCap < BIG
        · obtain ⟨rfl, rfl⟩ := hcl hb
          exact VRel.slice_mk haddr hb
        · obtain ⟨L, hL, hLc⟩ := hopen (by omega)
          obtain ⟨c0, rfl⟩ : ∃ c0, sCap = BIG + c0 := ⟨sCap - BIG, by omega⟩
          exact VRel.open_mk haddr hL (by omega)
  · rename_i hroom
    simp only [appendGrow0, ok_bind] at h
    obtain ⟨old, hold, z, hzv, h⟩ := h
    split at h
    · cases h
    rename_i hzs
    have hzs' : z.cells.size = i.size := Classical.byContradiction hzs
    obtain ⟨hlold, os, hos, hrold⟩ := firstCells_run H hs hold
    have hlnew := hp.len
    -- a new array
    have grow : ∀ {σ'' : St}, ccap < sLen + n → (σ'' = alloc σ (rowOf elem (old ++ new) true false) ∨ ∃ a, σ'' = { heap := (alloc σ (rowOf elem (old ++ new) true false)).heap.del a, next := σ.next + 1 }) →
        SOk P R σ w (Builtin.append_ ats ty #[.slice ca sLen ccap, cx]) (sliceTo (sLen + n) BIG σ.next) σ'' := by
      intro σ'' hlt hσ
      have hro := hrold { w with drawn := w.drawn + 1 } rfl
      have hrn := hrun { w with drawn := w.drawn + 1 } rfl
      have hge := grownCap_ge w (sLen + n) ccap elem
      let K := grownCap w (sLen + n) ccap elem
      let C : Array Value := os ++ ns ++ Builtin.zeroCells z.cells (K - (sLen + n))
      have hCs : C.size = K * i.size := by
        have e1 : os.size = sLen * i.size := by have := hos.1; simp only [Array.length_toList] at this; omega
        have e2 : ns.size = n * i.size := by have := hns.1; simp only [Array.length_toList] at this; omega
        simp only [C, Array.size_append, size_zeroCells, e1, e2, hzs']
        rw [← Nat.add_mul, ← Nat.add_mul]
        congr 1
        omega
      have hr : (Builtin.append_ ats ty #[.slice ca sLen ccap, cx]).run P w = .ok (.slice (some ⟨w.heap.size, 0, none⟩) (sLen + n) K) { w with heap := w.heap.push (.cells C elem), drawn := w.drawn + 1 } := by
        rw [htail]
        have h48 := growslice_fits (need := sLen + n) (old := ccap) (bytes := i.bytes) hlt (by
          have : (sLen + n) * i.bytes ≤ 1000000 * 100000 := Nat.mul_le_mul (by omega) (by omega)
          omega)
        have h63 : ¬ (((sLen + n : Nat) : Int) > IntKind.i64.max) := by
          have : IntKind.i64.max = 9223372036854775807 := by decide
          rw [this]; omega
        simp only [appTail, if_neg (show ¬ (sLen + n ≤ ccap) by omega), Sem.run_bind, run_tinfo hi, Result.andThen_ok]
        rw [if_neg (fun hh => h63 hh.1)]
        simp only [Sem.run_bind, run_tinfo hi, Result.andThen_ok]
        rw [if_neg (by omega)]
        simp only [Sem.run_bind, run_choose, Question.forced, Bool.false_eq_true, if_false, Result.andThen_ok, run_tinfo hi, run_askRoom, hro, hrn, run_zero hzv, newRow, run_newObj, Sem.run_pure]
        rfl
      have hH := H.alloc (rowOf elem (old ++ new) true false) (.cells C elem) K ⟨.inl rfl, ?_⟩
      · refine ⟨R.add σ.next ⟨w.heap.size, 0, K⟩, _, _, hr, sliceTo_open, ?_⟩
        have hk : Kept P R σ w (R.add σ.next ⟨w.heap.size, 0, K⟩) (alloc σ (rowOf elem (old ++ new) true false)) { w with heap := w.heap.push (.cells C elem), drawn := w.drawn + 1 } := ⟨hH.1, hH.2, ⟨rfl, rfl, rfl⟩⟩
        rcases hσ with rfl | ⟨a, rfl⟩
        · exact hk
        · have hd := hk.rel.del a
          exact ⟨hd.1, hk.fr.trans hd.2, hk.keep⟩
      · have hle := Ren.le_add (H.dom σ.next (Nat.le_refl _)) ⟨w.heap.size, 0, K⟩
        refine row_rel (pre := os.toList ++ ns.toList) (rest := (Builtin.zeroCells z.cells (K - (sLen + n))).toList) rfl ((hos.append hns).mono hle) (by simp [C]) ?_ (fun j hj => by omega) (fun _ => by omega)
        intro _
        rw [cellsOf_eq hi, hCs]
        refine ⟨?_, Nat.le_refl _⟩
        rw [List.length_append, hlold, hlnew, ← Nat.add_mul]
        exact Nat.mul_le_mul_right _ hge
    by_cases hb : sCap < BIG
    · rw [if_pos hb] at h
      simp only [ok_inj, Prod.mk.injEq] at h
      obtain ⟨rfl, rfl⟩ := h
      obtain ⟨rfl, rfl⟩ := hcl hb
      exact grow (by omega) (.inl rfl)
    · rw [if_neg hb] at h
      rcases hcase with ⟨_, _, hb'⟩ | ⟨a, cad, rfl, rfl, haddr, hopen⟩
      · exact absurd hb' hb
      simp only [ok_bind] at h
      obtain ⟨o, ho, h⟩ := h
      split at h
      case h_2 => cases h
      rename_i c d m e
      split at h
      case isFalse => cases h
      rename_i hcond
      obtain ⟨rfl, hoff, hone⟩ := hcond
      simp only [ok_inj, Prod.mk.injEq] at h
      obtain ⟨rfl, rfl⟩ := h
      by_cases hroom2 : sLen + n ≤ ccap
      · -- in place
        obtain ⟨L, hL, hLc⟩ := hopen (by omega)
        obtain ⟨L', hL', hsp, rfl⟩ := haddr
        rw [hL] at hL'; cases hL'
        obtain ⟨l', ds, lo', hi', ee, g1, g2, g3, g4⟩ := H.cells (obj_get ho)
        have hee : e = ee := (g4.elim id fun h => by simp at h).symm
        subst hee
        rw [hL] at g1; cases g1
        have hext := g3.ext rfl
        rw [cellsOf_eq hi] at hext
        have hcap : L.base + a.off + ccap * i.size ≤ ds.size := by
          have : L.cap * i.size = ccap * i.size + (sCap - BIG) * i.size := by rw [← Nat.add_mul, hLc]
          rw [hoff]; omega
        have hneed : (sLen + n) * i.size ≤ ccap * i.size := Nat.mul_le_mul_right _ hroom2
        have hnl : ns.toList.length = n * i.size := by rw [← hns.1]; exact hlnew
        have hsum : (sLen + n) * i.size = sLen * i.size + n * i.size := Nat.add_mul _ _ _
        have hst := run_storeCells_cells (P := P) L.block (L.base + a.off + sLen * i.size) ns.toList 0 w
          (fun j hj => by
            rw [Nat.add_zero, World.cell_of g2]
            have : L.base + a.off + sLen * i.size + j < ds.size := by omega
            simp [this])
          (fun j hj => by
            have hlt : L.base + a.off + sLen * i.size + j < ds.size := by omega
            have hf := g3.free (L.base + a.off + sLen * i.size + j) (by omega) hlt
            simp only [World.frozen?, Nat.add_zero, g2, Bool.and_eq_false_iff, decide_eq_false_iff_not]
            omega)
          (fun y hy => by
            obtain ⟨j, hj, rfl⟩ := List.getElem_of_mem hy
            have hjn : j < new.length := by rw [hns.1]; exact hj
            exact (hns.2 j _ _ (List.getElem?_eq_getElem hjn) (List.getElem?_eq_getElem hj)).oneCell (by
              rw [List.all_eq_true] at hone
              exact hone _ (List.getElem_mem _)))
        rw [Nat.add_zero, setCells_heap ns.toList w L.block (L.base + a.off + sLen * i.size) ds e (lo', hi') g2] at hst
        let O : Obj := .cells (wr ds (L.base + a.off + sLen * i.size) ns.toList) e (lo', hi')
        have hle := Ren.le_add (H.dom σ.next (Nat.le_refl _)) ⟨L.block, L.base + a.off, ccap⟩
        have hmove := H.move (a := a.block) (L := L) (obj_get ho) rfl hL (l := ⟨L.block, L.base + a.off, ccap⟩) rfl (o := rowOf e (old ++ new) true false) (O := O) ⟨.inl rfl, ?_⟩ (h' := w.heap.setIfInBounds L.block O) rfl
        · refine ⟨R.add σ.next ⟨L.block, L.base + a.off, ccap⟩, { w with heap := w.heap.setIfInBounds L.block O }, .slice (some ⟨L.block, L.base + a.off, none⟩) (sLen + n) ccap, ?_, ?_, ⟨hmove.1, hmove.2, ⟨rfl, rfl, rfl⟩⟩⟩
          · rw [htail]
            simp only [appTail, if_pos hroom2, Sem.run_bind, hrun w rfl, Result.andThen_ok, Addr.add_mk, hst, Sem.run_pure]
            try rfl
          · have := VRel.openSl (R := R.add σ.next ⟨L.block, L.base + a.off, ccap⟩) σ.next 0 ⟨L.block, L.base + a.off, ccap⟩ (sLen + n) 0 ccap (Ren.add_loc _ _ _) (by simp)
            simpa [sliceTo] using this
        · have hlo : (old ++ new).length = (sLen + n) * i.size := by rw [List.length_append, hlold, hlnew, ← Nat.add_mul]
          refine ⟨?_, fun _ => ?_, fun j hj hjs => ?_, fun hm => ?_⟩
          · have hso : sLen * i.size = old.length := hlold.symm
            rw [hso]
            refine setCells_rel (R := R.add σ.next _) ?_ (hns.mono hle) (by omega)
            intro j y hy
            have hj : j < old.length := (List.getElem?_eq_some_iff.1 hy).1
            have hne : sLen * i.size ≠ 0 := by omega
            simp only [Ev.firstCells] at hold
            obtain ⟨c', d', m', e', x', fz', mk', q1, q2, q3⟩ := loadCells_cells hold hne
            rw [obj_get ho] at q1
            simp only [Option.some.injEq, AObj.cells.injEq] at q1
            obtain ⟨rfl, rfl, rfl, rfl, rfl, rfl, rfl⟩ := q1
            rw [q3, cellsFrom_get, if_pos (by omega)] at hy
            simp only [Option.some.injEq] at hy; subst hy
            obtain ⟨u, hu1, hu2⟩ := g3.cells (a.off + j) (by omega)
            exact ⟨u, by rw [Nat.add_assoc]; exact hu1, hu2.mono hle⟩
          · rw [wr_size, cellsOf_eq hi, hlo]
            exact ⟨hneed, hcap⟩
          · rw [wr_size] at hjs
            exact g3.free j (by simp only at hj; omega) hjs
          · rw [wr_size]
            exact g3.mark hm
      · exact grow (by omega) (.inr ⟨a.block, rfl⟩)

/-! ### blocks whose cells read alike -/

def OExt : AObj → AObj → Prop
  | .cells c d n e x fz mk, o => ∃ c' d', o = .cells c' d' n e x fz mk ∧ ∀ i, i < n → getC c' d' i = getC c d i
  | a, b => b = a

theorem OExt.refl (o : AObj) : OExt o o := by
  cases o <;> first | rfl | exact ⟨_, _, rfl, fun _ _ => rfl⟩

theorem ORel.ext {l : Loc} {o o' : AObj} {O : Obj} (h : ORel P R l o O) (he : OExt o o') : ORel P R l o' O := by
  cases o with
  | cells c d n e x fz mk =>
    obtain ⟨c', d', rfl, hg⟩ := he
    cases O <;> simp only [ORel] at h ⊢
    obtain ⟨h1, h2⟩ := h
    exact ⟨h1, ⟨fun i hi => by rw [hg i hi]; exact h2.cells i hi, h2.ext, h2.free, h2.mark⟩⟩
  | map => cases he; exact h
  | stringIter => cases he; exact h
  | mapIter => cases he; exact h
  | loop => cases he; exact h
  | deferred => cases he; exact h

def HExt (σ σ' : St) : Prop := σ'.next = σ.next ∧ ∀ a, (σ.heap.get a = none ∧ σ'.heap.get a = none) ∨ ∃ o o', σ.heap.get a = some o ∧ σ'.heap.get a = some o' ∧ OExt o o'

theorem HExt.some_iff {σ σ' : St} (h : HExt σ σ') (a : Nat) : (σ'.heap.get a).isSome = (σ.heap.get a).isSome := by
  rcases h.2 a with ⟨h1, h2⟩ | ⟨o, o', h1, h2, _⟩ <;> rw [h1, h2] <;> rfl

theorem Kept.ext {σ' τ : St} {R' : Ren} {w' : World} (K : Kept P R σ w R' σ' w') (h : HExt σ' τ) : Kept P R σ w R' τ w' := by
  refine ⟨⟨K.rel.glob, h.1 ▸ K.rel.low, fun a ha => K.rel.dom a (by rw [← h.1]; exact ha), fun a b la lb ha hb => K.rel.inj a b la lb (by rw [← h.some_iff]; exact ha) (by rw [← h.some_iff]; exact hb), fun a o ha => ?_⟩,
    ⟨K.fr.le, K.fr.size, K.fr.keep, fun a l o ha hl => ?_, by rw [h.1]; exact K.fr.next, K.fr.old⟩, K.keep⟩
  rcases h.2 a with ⟨h1, h2⟩ | ⟨o1, o', h1, h2, he⟩
  · rw [h2] at ha; cases ha
  · rw [h2] at ha; cases ha
    obtain ⟨l, O, g1, g2, g3⟩ := K.rel.obj a o1 h1
    exact ⟨l, O, g1, g2, g3.ext he⟩
  · rcases h.2 a with ⟨h1, h2⟩ | ⟨o1, o', h1, h2, he⟩
    · rw [h2] at ha; cases ha
    · have ho' : o' = o := Option.some.inj (h2.symm.trans ha)
      have hro : o.ro = o1.ro := by
        rw [← ho']
        cases o1 with
        | cells => obtain ⟨c', d', rfl, _⟩ := he; rfl
        | _ => cases he; rfl
      rcases K.fr.orig a l o1 h1 hl with h3 | ⟨a0, l0, o0, h3, h4, h5, h6⟩
      · exact .inl h3
      · exact .inr ⟨a0, l0, o0, h3, h4, h5, fun h => h6 (hro ▸ h)⟩

theorem HExt.alloc {o o' : AObj} (h : OExt o o') : HExt (alloc σ o) (alloc σ o') := by
  refine ⟨rfl, fun a => ?_⟩
  simp only [Ev.alloc, Tr.get_set]
  by_cases ha : a = σ.next
  · rw [if_pos ha, if_pos ha]; exact .inr ⟨o, o', rfl, rfl, h⟩
  · rw [if_neg ha, if_neg ha]
    cases hg : σ.heap.get a with
    | none => exact .inl ⟨rfl, rfl⟩
    | some x => exact .inr ⟨x, x, rfl, rfl, .refl x⟩

theorem HExt.del {σ τ : St} (h : HExt σ τ) (b n : Nat) : HExt { heap := σ.heap.del b, next := n } { heap := τ.heap.del b, next := n } := by
  refine ⟨rfl, fun a => ?_⟩
  simp only [Tr.get_del]
  by_cases ha : a = b
  · rw [if_pos ha, if_pos ha]; exact .inl ⟨rfl, rfl⟩
  · rw [if_neg ha, if_neg ha]; exact h.2 a

theorem growObj_ext {elem : TypeId} {size sLen sCap : Nat} {base : Option Addr} {old new : List Value} (hold : Ev.firstCells σ size sLen (.slice base sLen sCap) = .ok old) :
    OExt (rowOf elem (old ++ new) true false) (growObj σ elem size base sLen old new) := by
  unfold growObj
  split
  · exact .refl _
  · rename_i a
    split
    · rename_i c d m e x fz mk hg
      split
      · rename_i hoff
        -- the old cells
        have hlen : old.length = sLen * size ∧ ∀ i, i < sLen * size → old[i]? = some (getC c d i) := by
          simp only [Ev.firstCells] at hold
          by_cases hne : sLen * size = 0
          · rw [hne] at hold
            simp only [Ev.loadCells, if_true, ok_inj] at hold
            subst hold
            exact ⟨by simp [hne], fun i hi => by omega⟩
          · obtain ⟨c', d', m', e', x', fz', mk', q1, q2, q3⟩ := loadCells_cells hold hne
            rw [hg] at q1
            simp only [Option.some.injEq, AObj.cells.injEq] at q1
            obtain ⟨rfl, rfl, rfl, rfl, rfl, rfl, rfl⟩ := q1
            subst q3
            have hget : ∀ i, i < sLen * size → (cellsFrom c d a.off (sLen * size))[i]? = some (getC c d i) := fun i hi => by rw [cellsFrom_get, if_pos hi, hoff, Nat.zero_add]
            refine ⟨?_, hget⟩
            have h1 : ∀ (n i : Nat), (cellsFrom c d i n).length = n := by
              intro n
              induction n with
              | zero => intro i; rfl
              | succ n ih => intro i; simp [cellsFrom, ih]
            exact h1 _ _
        show ∃ c' d', AObj.cells (setCells c (sLen * size) new) d (sLen * size + new.length) elem true 0 false = .cells c' d' (old ++ new).length elem true 0 false ∧ ∀ i, i < (old ++ new).length → getC c' d' i = getC (setCells .nil 0 (old ++ new)) [Go.undef] i
        exact ⟨setCells c (sLen * size) new, d, by rw [List.length_append, hlen.1], fun i hi => by
            rw [List.length_append, hlen.1] at hi
            rw [getC_setCells, getC_setCells, if_pos (show 0 ≤ i ∧ i < 0 + (old ++ new).length from ⟨Nat.zero_le _, by rw [List.length_append, hlen.1]; omega⟩), Nat.sub_zero]
            by_cases hi' : sLen * size ≤ i
            · rw [if_pos ⟨hi', hi⟩, List.getElem?_append_right (by rw [hlen.1]; exact hi'), hlen.1]
            · rw [if_neg (fun h => hi' h.1), List.getElem?_append_left (by rw [hlen.1]; omega), hlen.2 i (by omega)]; rfl⟩
      · exact .refl _
    · exact .refl _

theorem append_run (H : HRel P R σ w.heap) {ats : Array TypeId} {ty : TypeId} {s x cs cx v : Value} {σ' : St} (hs : VRel R s cs) (hx : VRel R x cx) (h : Ev.append_ P σ ats s x = .ok (v, σ')) :
    SOk P R σ w (Builtin.append_ ats ty #[cs, cx]) v σ' := by
  have key : ∃ σ0, Ev.append0_ P σ ats s x = .ok (v, σ0) ∧ HExt σ0 σ' := by
    unfold Ev.append_ at h
    unfold Ev.append0_
    split at h
    case h_2 => cases h
    rename_i t base sLen sCap hat
    simp only [ok_bind] at h
    obtain ⟨u, hu, h⟩ := h
    split at h
    case h_2 => cases h
    rename_i elem
    simp only [ok_bind] at h
    obtain ⟨i, hi, zeros, hz, ⟨n, new⟩, happ, lo, hlo, h⟩ := h
    simp only [hat]
    simp only [ok_bind]
    refine (?_ : ∃ σ0, (∃ a, und P t = .ok a ∧ _) ∧ _)
    split at h
    · cases h
    rename_i hc
    have hrefl : ∀ τ : St, HExt τ τ := fun τ => ⟨rfl, fun a => by
      cases hg : τ.heap.get a with
      | none => exact .inl ⟨rfl, rfl⟩
      | some o => exact .inr ⟨o, o, rfl, rfl, .refl o⟩⟩
    split at h
    · rename_i hroom
      exact ⟨σ', ⟨_, hu, by simp only [ok_bind]; exact ⟨i, hi, zeros, hz, ⟨n, new⟩, happ, lo, hlo, by rw [if_neg hc, if_pos hroom]; exact h⟩⟩, hrefl σ'⟩
    · rename_i hroom
      simp only [appendGrow, ok_bind] at h
      obtain ⟨old, hold, z, hzv, h⟩ := h
      split at h
      · cases h
      rename_i hzs
      have hext := growObj_ext (elem := elem) (new := new) hold
      by_cases hb : sCap < BIG
      · rw [if_pos hb] at h
        simp only [ok_inj, Prod.mk.injEq] at h
        obtain ⟨rfl, rfl⟩ := h
        exact ⟨_, ⟨_, hu, by simp only [ok_bind]; exact ⟨i, hi, zeros, hz, ⟨n, new⟩, happ, lo, hlo, by
          rw [if_neg hc, if_neg hroom]; simp only [appendGrow0, ok_bind]; exact ⟨old, hold, z, hzv, by rw [if_neg hzs, if_pos hb]⟩⟩⟩, HExt.alloc hext⟩
      · rw [if_neg hb] at h
        split at h
        · cases h
        rename_i a
        simp only [ok_bind] at h
        obtain ⟨o, ho, h⟩ := h
        split at h
        case h_2 => cases h
        rename_i c d m e
        split at h
        case isFalse => cases h
        rename_i hcond
        simp only [ok_inj, Prod.mk.injEq] at h
        obtain ⟨rfl, rfl⟩ := h
        exact ⟨_, ⟨_, hu, by simp only [ok_bind]; exact ⟨i, hi, zeros, hz, ⟨n, new⟩, happ, lo, hlo, by
          rw [if_neg hc, if_neg hroom]; simp only [appendGrow0, ok_bind]; exact ⟨old, hold, z, hzv, by rw [if_neg hzs, if_neg hb]; simp only [ok_bind]; exact ⟨_, ho, by simp only [if_pos hcond]; rfl⟩⟩⟩⟩, (HExt.alloc hext).del _ _⟩
  obtain ⟨σ0, h0, he⟩ := key
  obtain ⟨R', w', c, h1, h2, h3⟩ := append0_run (ty := ty) H hs hx h0
  exact ⟨R', w', c, h1, h2, h3.ext he⟩

end Go.Ev

/- copy, clear, delete; maps; iterators. -/
namespace Go.Ev

variable {P : Program} {R : Ren} {σ : St} {w : World} {tm : Tr Value} {arr : Array Value}

theorem storeCells_runs (H : HRel P R σ w.heap) {a ca : Addr} (ha : AddrRel R a ca) {vs : List Value} {cs : List Value} (hl : LRel R vs cs) {σ' : St} (h : Ev.storeCells σ a vs = .ok σ') :
    ∃ w', (Go.storeCells ca cs).run P w = .ok () w' ∧ Kept P R σ w R σ' w' := storeCells_run H ha hl h

theorem copy_run (H : HRel P R σ w.heap) {ats : Array TypeId} {ty : TypeId} {d s cd cs v : Value} {σ' : St} (hd : VRel R d cd) (hs : VRel R s cs) (h : Ev.copy_ P σ ats d s = .ok (v, σ')) :
    SOk P R σ w (Builtin.copy_ ats ty #[cd, cs]) v σ' := by
  unfold Ev.copy_ at h
  split at h
  case h_2 => cases h
  rename_i t hat
  simp only [ok_bind] at h
  obtain ⟨u, hu, h⟩ := h
  split at h
  case h_2 => cases h
  rename_i elem base dLen dCap
  simp only [ok_bind] at h
  obtain ⟨i, hi, k, hk, cells, hcells, h⟩ := h
  have hlen := lenOf_run (P := P) hs hk w
  obtain ⟨_, ns, hns, hrun⟩ := firstCells_run H hs hcells
  have hr := hrun w rfl
  have e0 : ∀ x y : Value, (#[x, y] : Array Value)[0]? = some x := fun _ _ => rfl
  have e1 : ∀ x y : Value, (#[x, y] : Array Value)[1]? = some y := fun _ _ => rfl
  split at h
  · rename_i a
    simp only [ok_bind, ok_inj, Prod.mk.injEq] at h
    obtain ⟨σ1, hst, rfl, rfl⟩ := h
    obtain ⟨ca, c', rfl, haddr⟩ := slice_addr hd
    obtain ⟨w', h1, h2⟩ := storeCells_runs H haddr hns hst
    refine ⟨R, w', goInt (Nat.min k dLen), ?_, .int _ _, h2⟩
    simp only [Builtin.copy_, hat, e0, e1, Sem.run_bind, run_und hu, Result.andThen_ok, hlen, run_size hi, hr, h1, Sem.run_pure]
  · simp only [ok_inj, Prod.mk.injEq] at h
    obtain ⟨rfl, rfl⟩ := h
    cases hd
    refine ⟨R, w, goInt (Nat.min k dLen), ?_, .int _ _, Kept.refl H⟩
    simp only [Builtin.copy_, hat, e0, e1, Sem.run_bind, run_und hu, Result.andThen_ok, hlen, run_size hi, hr, Sem.run_pure]

/-! ### maps -/

theorem setObj_run {w : World} {r : Nat} {o O : Obj} (h : w.heap[r]? = some O) (hc : ∀ c e f, O ≠ .cells c e f) : (Go.setObj r o).run P w = .ok () { w with heap := w.heap.setIfInBounds r o } := by
  unfold Go.setObj
  simp only [Sem.run, h]

theorem getObj_run {w : World} {r : Nat} {O : Obj} (h : w.heap[r]? = some O) (hc : ∀ c e f, O ≠ .cells c e f) : (Go.getObj r).run P w = .ok O w := by
  unfold Go.getObj
  simp only [Sem.run, h]
  try (split
       · rename_i hh; cases hh; exact absurd rfl (hc _ _ _)
       · rfl
       · rename_i hh; cases hh)

theorem HRel.setMap (H : HRel P R σ w.heap) {a : Nat} {es : List MapEntry} {clock : Nat} (ha : σ.heap.get a = some (.map es clock)) {l : Loc} (hl : R.loc a = some l) {es2 : List MapEntry} {ds : Array MapEntry} {clock2 : Nat}
    (hr : F2 (ERel R) es2 ds.toList) : Kept P R σ w R { heap := σ.heap.set a (.map es2 clock2), next := σ.next } { w with heap := w.heap.setIfInBounds l.block (.map ds clock2) } := by
  have := H.update (a := a) (l := l) ha rfl hl (o' := .map es2 clock2) (O' := .map ds clock2) ⟨hr, rfl⟩
  exact ⟨this.1, this.2, ⟨rfl, rfl, rfl⟩⟩

theorem eraseIdx_rel {es : List MapEntry} {ds : Array MapEntry} (h : F2 (ERel R) es ds.toList) (i : Nat) : F2 (ERel R) (es.eraseIdx i) (ds.eraseIdxIfInBounds i).toList := by
  have e : (ds.eraseIdxIfInBounds i).toList = ds.toList.eraseIdx i := by
    unfold Array.eraseIdxIfInBounds
    split
    · simp
    · rw [List.eraseIdx_of_length_le (by simp; omega)]
  rw [e]
  refine ⟨by simp [List.length_eraseIdx, h.1], fun j x y hx hy => ?_⟩
  rw [List.getElem?_eraseIdx] at hx hy
  split at hx
  · rw [if_pos (by assumption)] at hy; exact h.2 j x y hx hy
  · rw [if_neg (by assumption)] at hy; exact h.2 (j + 1) x y hx hy

theorem setAt_rel {f g : MapEntry → MapEntry} (hfg : ∀ e e', ERel R e e' → ERel R (f e) (g e')) : ∀ (es : List MapEntry) (ds : List MapEntry) (i : Nat), F2 (ERel R) es ds → F2 (ERel R) (setAt f es i) (ds.modify i g)
  | [], ds, i, h => by have := h.of_nil; subst this; simpa [setAt] using F2.nil
  | e :: es, ds, 0, h => by
    obtain ⟨d, ds, rfl, h1, h2⟩ := h.of_cons
    exact F2.cons (hfg _ _ h1) h2
  | e :: es, ds, i + 1, h => by
    obtain ⟨d, ds, rfl, h1, h2⟩ := h.of_cons
    exact F2.cons h1 (setAt_rel hfg es ds i h2)

theorem zip_all_get {α β : Type} (p : α → β → Bool) : ∀ (xs : List α) (ys : List β), xs.length = ys.length → (∀ (i : Nat) (x : α) (y : β), xs[i]? = some x → ys[i]? = some y → p x y = true) → ((xs.zip ys).all fun (x, y) => p x y) = true
  | [], ys, _, _ => by simp
  | x :: xs, [], h, _ => by simp at h
  | x :: xs, y :: ys, h, hp => by
    simp only [List.zip_cons_cons, List.all_cons, Bool.and_eq_true]
    exact ⟨hp 0 x y rfl rfl, zip_all_get p xs ys (by simpa using h) fun i a b ha hb => hp (i + 1) a b (by simpa using ha) (by simpa using hb)⟩

theorem zip_all_of {α β : Type} (p : α → β → Bool) : ∀ (xs : List α) (ys : List β), ((xs.zip ys).all fun (x, y) => p x y) = true → ∀ (i : Nat) (x : α) (y : β), xs[i]? = some x → ys[i]? = some y → p x y = true
  | [], ys, _, i, x, y, hx, _ => by simp at hx
  | x :: xs, [], _, i, a, b, _, hb => by simp at hb
  | x :: xs, y :: ys, h, i, a, b, ha, hb => by
    simp only [List.zip_cons_cons, List.all_cons, Bool.and_eq_true] at h
    cases i with
    | zero => simp at ha hb; subst ha; subst hb; exact h.1
    | succ i => exact zip_all_of p xs ys h.2 i a b (by simpa using ha) (by simpa using hb)

theorem keySame_bits : ∀ (n m : Nat) (a b ca cb : Value), n ≤ m → keySame n a b = true → VRel R a ca → VRel R b cb → Instr.sameBits m ca cb = true := by
  intro n
  induction n with
  | zero => intro m a b ca cb _ h; simp [keySame] at h
  | succ n ih =>
    intro m a b ca cb hm h ha hb
    obtain ⟨m, rfl⟩ : ∃ k, m = k + 1 := ⟨m - 1, by omega⟩
    simp only [keySame] at h
    split at h
    · cases ha; cases hb; simpa [Instr.sameBits] using h
    · cases ha; cases hb; simpa [Instr.sameBits] using h
    · cases ha; cases hb; simpa [Instr.sameBits] using h
    · rename_i xs ys
      obtain ⟨cxs, rfl, h1⟩ := VRel.agg_iff.1 ha
      obtain ⟨cys, rfl, h2⟩ := VRel.agg_iff.1 hb
      simp only [Bool.and_eq_true, beq_iff_eq] at h
      have e1 : cxs.size = xs.size := by have := h1.1; simpa using this.symm
      have e2 : cys.size = ys.size := by have := h2.1; simpa using this.symm
      simp only [Instr.sameBits, Bool.and_eq_true, beq_iff_eq]
      refine ⟨by omega, zip_all_get _ _ _ (by simp; omega) fun i x y hx hy => ?_⟩
      have hi : i < cxs.toList.length := (List.getElem?_eq_some_iff.1 hx).1
      have hxi : i < xs.toList.length := by rw [h1.1]; exact hi
      have hyi : i < ys.toList.length := by simp at hxi ⊢; omega
      have hk := zip_all_of _ _ _ h.2 i _ _ (List.getElem?_eq_getElem hxi) (List.getElem?_eq_getElem hyi)
      exact ih m _ _ x y (by omega) hk (h1.2 i _ _ (List.getElem?_eq_getElem hxi) hx) (h2.2 i _ _ (List.getElem?_eq_getElem hyi) hy)
    · cases h

theorem notCells_map {es : Array MapEntry} {k : Nat} : ∀ c e f, (Obj.map es k) ≠ .cells c e f := fun _ _ _ h => by cases h

theorem mapUpdate_run (H : HRel P R σ w.heap) (ht : TRel R tm arr) {t : TypeId} {m k x : Operand} {r : Ret} (h : aMapUpdate P σ tm t m k x = .ok r) :
    ∃ σ', r = .val Go.undef σ' ∧ ValOk P R σ w (do Instr.mapUpdate t (ceval arr m) (ceval arr k) (ceval arr x); pure .skip) Go.undef σ' := by
  have hg := H.glob
  simp only [aMapUpdate, ok_bind] at h
  obtain ⟨u, hu, h⟩ := h
  split at h
  case h_2 => cases h
  rename_i key elem
  simp only [ok_bind] at h
  obtain ⟨mv, hmv, h⟩ := h
  split at h
  case h_2 => cases h
  rename_i a
  simp only [ok_bind] at h
  obtain ⟨o, ho, h⟩ := h
  split at h
  case h_2 => cases h
  rename_i es clock
  simp only [ok_bind] at h
  obtain ⟨kv, hkv, v, hv, ⟨⟩, hak, f, hf, h⟩ := h
  obtain ⟨l, ds, h1, h2, h3⟩ := H.map (obj_get ho)
  have hmr := opd_rel hg ht hmv
  have hkr := opd_rel hg ht hkv
  have hvr := opd_rel hg ht hv
  obtain ⟨u', hu'⟩ := akey_und hak
  obtain ⟨r', h4, h5⟩ := findKey_run H hu' hkr hf h3
  have hck := akey_run (P := P) (w := w) 100 key kv _ 10000 false hak hkr (by decide)
  have em : ceval arr m = .map (some l.block) := by
    generalize ceval arr m = c at hmr
    cases hmr with
    | map _ l' hl' => rw [h1] at hl'; cases hl'; rfl
  have hgo := getObj_run (P := P) h2 notCells_map
  rw [em]
  split at h
  · rename_i i y
    split at h
    · cases h
    rename_i e he
    split at h
    case isFalse => cases h
    rename_i hks
    simp only [ok_inj] at h; subst h
    cases r' with
    | none => exact h5.elim
    | some p =>
      obtain ⟨j, c⟩ := p
      obtain ⟨rfl, hc⟩ := h5
      obtain ⟨e', he', hee⟩ := h3.get he
      have he'' : ds[j]? = some e' := by simpa using he'
      have hsb := keySame_bits 20 10000 _ _ _ _ (by decide) hks hee.key hkr
      refine ⟨_, rfl, R, _, .inr ⟨?_, rfl⟩, H.setMap (obj_get ho) h1 (ds := ds.modify j fun e => { e with key := ceval arr k, val := ceval arr x }) (clock2 := clock) ?_⟩
      · simp [Instr.mapUpdate, run_und hu, hgo, hck, h4, he'', Instr.keyThatStays, hsb, setObj_run h2 notCells_map]
      · rw [Array.toList_modify]
        exact setAt_rel (f := fun e => { e with key := kv, val := v }) (g := fun e => { e with key := ceval arr k, val := ceval arr x }) (fun e e' hee => ⟨hkr, hvr, hee.born⟩) es ds.toList j h3
  · simp only [ok_inj] at h; subst h
    cases r' with
    | some p => exact h5.elim
    | none =>
      refine ⟨_, rfl, R, _, .inr ⟨?_, rfl⟩, H.setMap (obj_get ho) h1 (ds := ds.push { key := ceval arr k, val := ceval arr x, born := clock }) (clock2 := clock + 1) ?_⟩
      · simp [Instr.mapUpdate, run_und hu, hgo, hck, h4, setObj_run h2 notCells_map]
      · rw [Array.toList_push]
        exact h3.append (F2.cons ⟨hkr, hvr, rfl⟩ F2.nil)

end Go.Ev

namespace Go.Ev

variable {P : Program} {R : Ren} {σ : St} {w : World} {tm : Tr Value} {arr : Array Value}

theorem map_of {R : Ren} {a : Nat} {c : Value} (h : VRel R (.map (some a)) c) : ∃ l, c = .map (some l.block) ∧ R.loc a = some l := by
  cases h with
  | map _ l hl => exact ⟨l, rfl, hl⟩

theorem unit_rel (R : Ren) : VRel R (.tuple #[]) (.tuple #[]) := by
  exact .tuple #[] #[] rfl (by simp)

theorem delete_run (H : HRel P R σ w.heap) {ats : Array TypeId} {ty : TypeId} {m k cm ck : Value} {r : Ret} (hm : VRel R m cm) (hk : VRel R k ck) (h : builtin P σ .delete ats [m, k] = .ok r) :
    ∃ v σ', r = .val v σ' ∧ SOk P R σ w (Builtin.delete_ ats ty #[cm, ck]) v σ' := by
  have hmm : ∃ m', m = .map m' := by
    cases m <;> first | exact ⟨_, rfl⟩ | (simp only [builtin] at h; cases h)
  obtain ⟨m, rfl⟩ := hmm
  simp only [builtin] at h
  split at h
  case h_2 => cases h
  rename_i t hat
  simp only [ok_bind] at h
  obtain ⟨u, hu, h⟩ := h
  split at h
  case h_2 => cases h
  rename_i key elem
  simp only [ok_bind] at h
  obtain ⟨⟨⟩, hak, h⟩ := h
  split at h
  · simp only [ok_inj] at h; subst h
    cases hm
    refine ⟨_, _, rfl, R, w, .tuple #[], ?_, unit_rel R, Kept.refl H⟩
    have hck := akey_run (P := P) (w := w) 100 key k _ 10000 true hak hk (by decide)
    simp [Builtin.delete_, hat, run_und hu, hck]
  · rename_i a
    simp only [ok_bind] at h
    obtain ⟨o, ho, h⟩ := h
    split at h
    case h_2 => cases h
    rename_i es clock
    simp only [ok_bind] at h
    obtain ⟨f, hf, h⟩ := h
    obtain ⟨l, ds, h1, h2, h3⟩ := H.map (obj_get ho)
    obtain ⟨u', hu'⟩ := akey_und hak
    obtain ⟨r', h4, h5⟩ := findKey_run H hu' hk hf h3
    have hck := akey_run (P := P) (w := w) 100 key k _ 10000 ds.isEmpty hak hk (by decide)
    obtain ⟨l', rfl, hl'⟩ := map_of hm
    rw [h1] at hl'; cases hl'
    have hgo := getObj_run (P := P) h2 notCells_map
    split at h
    · simp only [ok_inj] at h; subst h
      cases r' with
      | none => exact h5.elim
      | some p =>
        obtain ⟨j, c⟩ := p
        obtain ⟨rfl, hc⟩ := h5
        rename_i y _
        refine ⟨_, _, rfl, R, _, .tuple #[], ?_, unit_rel R, H.setMap (obj_get ho) h1 (ds := ds.eraseIdxIfInBounds j) (clock2 := clock) (eraseIdx_rel h3 j)⟩
        simp [Builtin.delete_, hat, run_und hu, hgo, hck, h4, setObj_run h2 notCells_map]
    · simp only [ok_inj] at h; subst h
      cases r' with
      | some p => exact h5.elim
      | none =>
        refine ⟨_, _, rfl, R, _, .tuple #[], ?_, unit_rel R, Kept.refl H⟩
        simp [Builtin.delete_, hat, run_und hu, hgo, hck, h4, setObj_run h2 notCells_map, set_self h2]

theorem repList_rel {zs cs : List Value} (h : LRel R zs cs) (n : Nat) : LRel R (repList zs n) (repList cs n) := by
  induction n with
  | zero => exact ⟨rfl, by simp [repList]⟩
  | succ n ih => exact h.append ih

theorem clear_run (H : HRel P R σ w.heap) {ats : Array TypeId} {ty : TypeId} {x cx : Value} {r : Ret} (hx : VRel R x cx) (h : builtin P σ .clear ats [x] = .ok r) :
    ∃ v σ', r = .val v σ' ∧ SOk P R σ w (Builtin.clear_ ats ty #[cx]) v σ' := by
  simp only [builtin] at h
  split at h
  case h_2 => cases h
  rename_i t hat
  simp only [ok_bind] at h
  obtain ⟨u, hu, h⟩ := h
  split at h
  · simp only [ok_inj] at h; subst h
    cases hx
    refine ⟨_, _, rfl, R, w, .tuple #[], ?_, unit_rel R, Kept.refl H⟩
    simp [Builtin.clear_, hat, run_und hu]
  · simp only [ok_inj] at h; subst h
    cases hx
    refine ⟨_, _, rfl, R, w, .tuple #[], ?_, unit_rel R, Kept.refl H⟩
    simp [Builtin.clear_, hat, run_und hu]
  · simp only [ok_bind] at h
    obtain ⟨o, ho, h⟩ := h
    split at h
    case h_2 => cases h
    rename_i es clock
    simp only [ok_inj] at h; subst h
    obtain ⟨l, ds, h1, h2, h3⟩ := H.map (obj_get ho)
    obtain ⟨l', rfl, hl'⟩ := map_of hx
    rw [h1] at hl'; cases hl'
    refine ⟨_, _, rfl, R, _, .tuple #[], ?_, unit_rel R, H.setMap (obj_get ho) h1 (es2 := []) (ds := #[]) (clock2 := clock) F2.nil⟩
    simp [Builtin.clear_, hat, run_und hu, getObj_run (P := P) h2 notCells_map, setObj_run h2 notCells_map]
  · rename_i elem a n c
    split at h
    · rename_i hn
      subst hn
      simp only [ok_inj] at h; subst h
      obtain ⟨ca, c', rfl, haddr⟩ := slice_addr hx
      refine ⟨_, _, rfl, R, w, .tuple #[], ?_, unit_rel R, Kept.refl H⟩
      simp [Builtin.clear_, hat, run_und hu]
    · rename_i hn
      simp only [ok_bind, ok_inj] at h
      obtain ⟨z, hz, σ', hs, rfl⟩ := h
      obtain ⟨ca, c', rfl, haddr⟩ := slice_addr hx
      obtain ⟨i', hi', hzz, hpl⟩ := zeroV_eq hz
      obtain ⟨n, rfl⟩ : ∃ k, n = k + 1 := ⟨n - 1, by omega⟩
      have hrel : LRel R (repList z.cells.toList (n + 1)) (Builtin.zeroCells z.cells (n + 1)).toList := by
        by_cases hp : 0 < z.cells.size
        · exact range_rel (plain_cells hpl R) _ hp
        · have e0 : z.cells.size = 0 := by omega
          refine ⟨by simp [Builtin.zeroCells, repList_length], fun i x y hx hy => ?_⟩
          have := (List.getElem?_eq_some_iff.1 hx).1
          rw [repList_length] at this
          simp [e0] at this
      obtain ⟨w', hw1, hw2⟩ := storeCells_run H haddr hrel hs
      refine ⟨_, _, rfl, R, w', .tuple #[], ?_, unit_rel R, hw2⟩
      simp [Builtin.clear_, hat, run_und hu, run_zero hz, hw1]
  · cases h

end Go.Ev

namespace Go.Ev

variable {P : Program} {R : Ren} {σ : St} {w : World} {tm : Tr Value} {arr : Array Value}

theorem SOk.choose (w : World) (n : Nat) (hn : 0 < n) : ∃ j w', j < n ∧ (Go.choose (.mapNext n)).run P w = .ok j w' ∧ w'.heap = w.heap ∧ WKeep w w' := by
  rw [run_choose]
  by_cases hf : (Question.mapNext n).forced
  · exact ⟨0, w, hn, by rw [if_pos hf], rfl, .refl w⟩
  · rw [if_neg hf]
    refine ⟨_, _, ?_, rfl, rfl, ⟨rfl, rfl, rfl⟩⟩
    simp only [Question.cut]
    exact Nat.mod_lt _ hn

theorem filter_rel {p : MapEntry → Bool} {q : MapEntry → Bool} (hpq : ∀ e f, ERel R e f → p e = q f) : ∀ (es ds : List MapEntry), F2 (ERel R) es ds → F2 (ERel R) (es.filter p) (ds.filter q)
  | [], ds, h => by rw [h.of_nil]; exact F2.nil
  | e :: es, ds, h => by
    obtain ⟨d, ds, rfl, h1, h2⟩ := h.of_cons
    have ih := filter_rel hpq es ds h2
    simp only [List.filter_cons, hpq _ _ h1]
    split
    · exact F2.cons h1 ih
    · exact ih

theorem all_rel {p : MapEntry → Bool} {q : MapEntry → Bool} (hpq : ∀ e f, ERel R e f → p e = q f) : ∀ (es ds : List MapEntry), F2 (ERel R) es ds → es.all p = ds.all q
  | [], ds, h => by rw [h.of_nil]; rfl
  | e :: es, ds, h => by
    obtain ⟨d, ds, rfl, h1, h2⟩ := h.of_cons
    simp only [List.all_cons, hpq _ _ h1, all_rel hpq es ds h2]

theorem notCells_iter {m : Option Nat} {s : Nat} {a : Array Nat} {k : Nat} : ∀ c e f, (Obj.mapIter m s a k) ≠ .cells c e f := fun _ _ _ h => by cases h
theorem notCells_str {s : ByteArray} {k : Nat} : ∀ c e f, (Obj.stringIter s k) ≠ .cells c e f := fun _ _ _ h => by cases h

theorem next_run (H : HRel P R σ w.heap) (ht : TRel R tm arr) {it : Operand} {b : Bool} {ty : TypeId} {r : Ret} (h : aNext σ tm it b = .ok r) :
    (∃ v σ', r = .val v σ' ∧ SOk P R σ w (Instr.next (ceval arr it) b ty) v σ') ∨ ∃ l, r = .many l ∧ ∃ p ∈ l, SOk P R σ w (Instr.next (ceval arr it) b ty) p.1 p.2 := by
  have hg := H.glob
  simp only [aNext, ok_bind] at h
  obtain ⟨v, hv, h⟩ := h
  have hvr := opd_rel hg ht hv
  split at h
  case h_2 => cases h
  rename_i a
  simp only [ok_bind] at h
  obtain ⟨o, ho, h⟩ := h
  have hoa := obj_get ho
  obtain ⟨l, O, hl, hO, hrel⟩ := H.obj _ _ hoa
  have ec : ceval arr it = .pointer (some ⟨l.block, l.base + 0, none⟩) := by
    generalize ceval arr it = c at hvr
    cases hvr with
    | ptr _ _ l' hl' => rw [hl] at hl'; cases hl'; rfl
  rw [ec]
  split at h
  · -- a string's next
    cases O <;> simp only [ORel] at hrel
    rename_i s pos
    obtain ⟨rfl, rfl, hb⟩ := hrel
    left
    split at h
    · rename_i hp
      simp only [ok_inj] at h; subst h
      have hup := H.update (a := a) (l := l) hoa rfl hl (o' := .stringIter s (pos + (Utf8.decode s pos).2)) (O' := .stringIter s (pos + (Utf8.decode s pos).2)) ⟨rfl, rfl, hb⟩
      refine ⟨_, _, rfl, R, { w with heap := w.heap.setIfInBounds l.block (.stringIter s (pos + (Utf8.decode s pos).2)) }, .tuple #[.bool true, goInt pos, .int .i32 (Utf8.decode s pos).1], ?_, VRel.tuple_iff.2 ⟨_, rfl, .cons (.bool _) (.cons (.int _ _) (.cons (.int _ _) (.nil R)))⟩, ⟨hup.1, hup.2, ⟨rfl, rfl, rfl⟩⟩⟩
      simp [Instr.next, hb, getObj_run (P := P) hO notCells_str, hp, setObj_run hO notCells_str]
    · rename_i hp
      simp only [ok_inj] at h; subst h
      refine ⟨_, _, rfl, R, w, .tuple #[.bool false], ?_, VRel.tuple_iff.2 ⟨_, rfl, .cons (.bool _) (.nil R)⟩, Kept.refl H⟩
      simp [Instr.next, hb, getObj_run (P := P) hO notCells_str, hp]
  · rename_i since seen last
    cases O <;> simp only [ORel] at hrel
    rename_i m' since' seen' last'
    obtain ⟨hm, rfl, hse, rfl, hb⟩ := hrel
    have : m' = none := by cases m' <;> simp_all [MRel]
    subst this
    simp only [ok_inj] at h; subst h
    left
    refine ⟨_, _, rfl, R, w, .tuple #[.bool false], ?_, VRel.tuple_iff.2 ⟨_, rfl, .cons (.bool _) (.nil R)⟩, Kept.refl H⟩
    simp [Instr.next, hb, getObj_run (P := P) hO notCells_iter]
  · rename_i m since seen last
    cases O <;> simp only [ORel] at hrel
    rename_i m' since' seen' last'
    obtain ⟨hm, e1, hse, e2, hb⟩ := hrel
    subst e1 e2
    obtain ⟨lm, hlm, rfl⟩ : ∃ lm, R.loc m = some lm ∧ m' = some lm.block := by
      cases m' with
      | none => simp [MRel] at hm
      | some b => obtain ⟨lm, h1, h2⟩ := hm; exact ⟨lm, h1, by rw [h2]⟩
    simp only [ok_bind] at h
    obtain ⟨mo, hmo, h⟩ := h
    split at h
    case h_2 => cases h
    rename_i es clock
    obtain ⟨lm', ds, h1, h2, h3⟩ := H.map (obj_get hmo)
    rw [hlm] at h1; cases h1
    split at h
    · cases h
    rename_i hgone
    split at h
    · cases h
    rename_i hnew
    have hcont : ∀ n, seen'.contains n = seen.contains n := fun n => by rw [← hse]; simp
    have hleft : F2 (ERel R) (es.filter fun e => !seen.contains e.born) ((ds.filter fun e => !seen'.contains e.born)).toList := by
      rw [Array.toList_filter]
      exact filter_rel (fun e f hef => by rw [hef.born, hcont]) _ _ h3
    generalize hA : (es.filter fun e => !seen.contains e.born) = A at h hleft hnew
    generalize hB : (ds.filter fun e => !seen'.contains e.born) = B at hleft
    have hall : es.all (fun e => decide (e.born ≥ last')) = ds.toList.all (fun e => decide (e.born ≥ last')) := all_rel (fun e f hef => by rw [hef.born]) _ _ h3
    have hne : es.isEmpty = ds.toList.isEmpty := by
      have := h3.1
      cases es <;> cases hd : ds.toList <;> simp_all
    have hse2 : seen'.isEmpty = seen.isEmpty := by rw [← hse]; simp
    have hguard : (!seen'.isEmpty && !ds.isEmpty && ds.all (fun e => decide (e.born ≥ last'))) = false := by
      rw [hse2, ← Array.isEmpty_toList, ← hne, ← Array.all_toList, ← hall]
      simpa using hgone
    have hold : ∀ f ∈ B.toList, f.born < since' := by
      intro f hf
      obtain ⟨i, hi, hfi⟩ := List.getElem_of_mem hf
      have hi' : i < A.length := by rw [hleft.1]; exact hi
      have := hleft.2 i A[i] f (List.getElem?_eq_getElem hi') (by rw [← hfi]; exact List.getElem?_eq_getElem hi)
      rw [← this.born]
      have hn := hnew
      simp only [Bool.not_eq_true, List.any_eq_false] at hn
      have := hn A[i] (List.getElem_mem hi')
      simp at this
      omega
    have hf1 : (B.filter fun e => decide (e.born < since')) = B := by
      apply Array.filter_eq_self.2
      intro f hf
      simpa using hold f (by simpa using hf)
    have hf2 : (B.filter fun e => decide (e.born ≥ since')) = #[] := by
      apply Array.filter_eq_empty_iff.2
      intro f hf
      have := hold f (by simpa using hf)
      simp; omega
    have hrun : ∀ (n : Nat) (j : Nat) (w' : World) (e : MapEntry), n = B.size → (Go.choose (.mapNext n)).run P w = .ok j w' → w'.heap = w.heap → B[j]? = some e →
        (Instr.next (.pointer (some ⟨l.block, l.base + 0, none⟩)) false ty).run P w = .ok (.tuple #[.bool true, e.key, e.val]) { w' with heap := w'.heap.setIfInBounds l.block (.mapIter (some lm.block) since' (seen'.push e.born) clock) } := by
      intro n j w' e hn hj hw' he
      have hb0 : B.isEmpty = false := by
        cases hbe : B.isEmpty with
        | false => rfl
        | true => simp at hbe; subst hbe; simp at he
      have hO' : w'.heap[l.block]? = some (.mapIter (some lm.block) since' seen' last') := by rw [hw']; exact hO
      subst hn
      have hsz : (((if B.isEmpty then #[none] else #[]) ++ (B ++ #[]).map some : Array (Option MapEntry))) = B.map some := by simp [hb0]
      simp only [Instr.next, hb, Nat.add_zero, Sem.run_bind, getObj_run (P := P) hO notCells_iter, getObj_run (P := P) h2 notCells_map, Result.andThen_ok, hguard, hB, hf1, hf2, hsz, Array.size_map, hj, Array.getElem?_map, he, Option.map_some, setObj_run hO' notCells_iter, Sem.run_pure, Bool.false_eq_true, if_false]
    have hone : ∀ (j : Nat) (w' : World) (e : MapEntry) (x : MapEntry), (Go.choose (.mapNext B.size)).run P w = .ok j w' → w'.heap = w.heap → WKeep w w' → B[j]? = some e → A[j]? = some x → SOk P R σ w (Instr.next (.pointer (some ⟨l.block, l.base + 0, none⟩)) false ty) (.tuple #[.bool true, x.key, x.val]) { heap := σ.heap.set a (.mapIter (some m) since' (seen ++ [x.born]) clock), next := σ.next } := by
      intro j w' e x hj hw' hk he ha
      have hae := hleft.2 j x e ha (by simpa using he)
      have hup := H.update hoa rfl hl (o' := .mapIter (some m) since' (seen ++ [x.born]) clock) (O' := .mapIter (some lm.block) since' (seen'.push e.born) clock) ⟨⟨lm, hlm, rfl⟩, rfl, by rw [Array.toList_push, hse, hae.born], rfl, hb⟩
      refine ⟨R, _, _, hrun _ j w' e rfl hj hw' he, VRel.tuple_iff.2 ⟨_, rfl, .cons (.bool _) (.cons hae.key (.cons hae.val (.nil R)))⟩, ⟨?_, ?_, hk.trans ⟨rfl, rfl, rfl⟩⟩⟩
      · rw [hw']; exact hup.1
      · rw [hw']; exact hup.2
    split at h
    · simp only [ok_inj] at h; subst h
      left
      have hB0 : B = #[] := by
        have := hleft.1
        apply Array.eq_empty_of_size_eq_zero
        simpa using this.symm
      subst hB0
      refine ⟨_, _, rfl, R, w, .tuple #[.bool false], ?_, VRel.tuple_iff.2 ⟨_, rfl, .cons (.bool _) (.nil R)⟩, Kept.refl H⟩
      simp only [Instr.next, hb, Nat.add_zero, Sem.run_bind, getObj_run (P := P) hO notCells_iter, getObj_run (P := P) h2 notCells_map, Result.andThen_ok, hguard, hB, Bool.false_eq_true, if_false, Sem.run_pure]
      simp [run_choose, Question.forced]
    · rename_i e
      simp only [ok_inj] at h; subst h
      left
      have hs : B.size = 1 := by have := hleft.1; simpa using this.symm
      obtain ⟨j, w', hj, hr, hw', hk⟩ := SOk.choose (P := P) w B.size (by omega)
      have hj0 : j = 0 := by omega
      subst hj0
      exact ⟨_, _, rfl, hone 0 w' B[0] e hr hw' hk (by simp) (by simp)⟩
    · simp only [ok_inj] at h; subst h
      right
      rename_i hn1 hn2
      have hs : B.size = A.length := by have := hleft.1; simpa using this.symm
      have hpos : 0 < B.size := by
        rw [hs]
        cases A with
        | nil => exact absurd rfl hn1
        | cons _ _ => simp
      obtain ⟨j, w', hj, hr, hw', hk⟩ := SOk.choose (P := P) w B.size hpos
      refine ⟨_, rfl, (_, _), List.mem_map.2 ⟨A[j]'(by omega), List.getElem_mem _, rfl⟩, hone j w' B[j] A[j] hr hw' hk (by simp) (by simp)⟩
  · cases h

end Go.Ev

namespace Go.Ev

variable {P : Program} {X : Specs} {R : Ren} {σ : St} {w : World} {tm : Tr Value} {arr : Array Value}

/-- what a summary's function does -/
def SumOk (P : Program) (R : Ren) (σ : St) (w : World) (f : FuncId) (cargs : Array Value) (v : Value) (σ' : St) : Prop :=
  Calls P f cargs w fun e w' => ∃ R' c, e = .returned c ∧ VRel R' v c ∧ Kept P R σ w R' σ' w'

structure SpecsOk (P : Program) (X : Specs) : Prop where
  ext : ∀ (f : FuncId) (args : List Value) (v : Value) (σ' σ : St) (R : Ren) (w : World) (cargs : Array Value), X f args σ = some (.ext v σ') → HRel P R σ w.heap → LRel R args cargs.toList →
    ValOk P R σ w (Go.callFunc f cargs) v σ'
  sum : ∀ (f : FuncId) (args : List Value) (v : Value) (σ' σ : St) (R : Ren) (w : World) (cargs : Array Value), X f args σ = some (.sum v σ') → HRel P R σ w.heap → LRel R args cargs.toList →
    (Go.callFunc f cargs).run P w = .ok (.enter f cargs) w ∧ SumOk P R σ w f cargs v σ'
  name : ∀ (f : FuncId) (fn : Func), P.funcs[f]? = some fn → fn.body.isSome → (fn.name == "runtime.NumGoroutine") = false

def RetOk (P : Program) (R : Ren) (σ : St) (w : World) (s : Sem Next) : Ret → Prop
  | .val v σ' => ValOk P R σ w s v σ'
  | .callv f args v σ' => ∃ cargs, s.run P w = .ok (.enter f cargs) w ∧ LRel R args cargs.toList ∧ SumOk P R σ w f cargs v σ'
  | .many l => ∃ p ∈ l, ValOk P R σ w s p.1 p.2
  | .enter f args σ' => σ' = σ ∧ ∃ cargs, s.run P w = .ok (.enter f cargs) w ∧ LRel R args cargs.toList
  | .round l args σ' => σ' = σ ∧ ∃ ll cargs, R.loc l = some ll ∧ LRel R args cargs.toList ∧ s.run P w = (Instr.yield ll.block cargs).run P w
  | .defer d σ' => σ' = σ ∧ ∃ e, s.run P w = .ok (.defer e) w ∧ DRel R d e
  | .recover σ' => σ' = σ ∧ s.run P w = .ok .recover w
  | .panic v σ' => σ' = σ ∧ ∃ c, s.run P w = .halt (.panic c) w ∧ VRel R v c

theorem ValOk.congr {s s' : Sem Next} {v : Value} {σ' : St} (h : s.run P w = s'.run P w) (hv : ValOk P R σ w s' v σ') : ValOk P R σ w s v σ' := by
  unfold ValOk at *
  rw [h]
  exact hv

theorem RetOk.congr {s s' : Sem Next} {r : Ret} (h : s.run P w = s'.run P w) (hr : RetOk P R σ w s' r) : RetOk P R σ w s r := by
  cases r <;> simp only [RetOk, ValOk] at * <;> rw [h] <;> exact hr

theorem callFunc_run (hX : SpecsOk P X) (H : HRel P R σ w.heap) {f : FuncId} {args : List Value} {cargs : Array Value} {r : Ret} (ha : LRel R args cargs.toList) (h : callFunc P X σ f args = .ok r) :
    RetOk P R σ w (Go.callFunc f cargs) r := by
  unfold callFunc at h
  split at h
  · rename_i v σ' hx
    simp only [ok_inj] at h; subst h
    exact hX.ext _ _ _ _ _ _ _ _ hx H ha
  · rename_i v σ' hx
    simp only [ok_inj] at h; subst h
    obtain ⟨h1, h2⟩ := hX.sum _ _ _ _ _ _ _ _ hx H ha
    exact ⟨_, h1, ha, h2⟩
  · split at h
    · cases h
    rename_i fn hfn
    split at h
    case isFalse => cases h
    rename_i hb
    simp only [ok_inj] at h; subst h
    refine ⟨rfl, cargs, ?_, ha⟩
    have hn := hX.name _ _ hfn hb
    have hb' : fn.body.isNone = false := by cases hc : fn.body <;> simp_all
    have hlt : f < P.funcs.size := (Array.getElem?_eq_some_iff.1 hfn).1
    have he : P.funcs[f] = fn := (Array.getElem?_eq_some_iff.1 hfn).2
    have hn' : fn.name ≠ "runtime.NumGoroutine" := by simpa using hn
    have hb'' : fn.body ≠ none := by intro e; rw [e] at hb; cases hb
    unfold Go.callFunc
    simp [hn', hb'', hlt, he]

theorem receiver_run (H : HRel P R σ w.heap) {t : TypeId} {v c r : Value} {ptr : Bool} (hv : VRel R v c) (h : receiver P σ t v ptr = .ok r) (name : String) :
    ∃ c', (receiverAt t (.val c) ptr (some name)).run P w = .ok c' w ∧ VRel R r c' := by
  simp only [receiver, ok_bind] at h
  obtain ⟨u, hu, h⟩ := h
  split at h
  · simp only [ok_inj] at h; subst h
    exact ⟨c, by simp [receiverAt, run_und hu, Place.get], hv⟩
  · split at h
    case h_2 => cases h
    rename_i elem v a
    obtain ⟨ca, rfl, hca⟩ := VRel.ptr_iff.1 hv
    obtain ⟨c', h1, h2⟩ := loadVar_run H hca h
    refine ⟨c', ?_, h2⟩
    have hw : ∀ (a : Addr) (s m : ByteArray) (T : Array TypeId) (ty : TypeId), (Builtin.ssaWrapNilChk_ T ty #[.pointer (some a), .string s, .string m]).run P w = .ok (.pointer (some a)) w := fun a s m T ty => rfl
    simp [receiverAt, run_und hu, Place.get, strVal, hw, asAddr, h1]
  · cases h
  · simp only [ok_inj] at h; subst h
    rename_i hn1 hn2 
    refine ⟨c, ?_, hv⟩
    unfold receiverAt
    simp only [Sem.run_bind, run_und hu, Result.andThen_ok]
    simp [Place.get]

theorem methodOf_run (H : HRel P R σ w.heap) {t : TypeId} {v c : Value} {name : String} {f : FuncId} {r : Value} (hv : VRel R v c) (h : methodOf P σ t v name = .ok (f, r)) (n : Nat) :
    ∃ c', (method (n + 1) t c name).run P w = .ok (f, c') w ∧ VRel R r c' := by
  simp only [methodOf, ok_bind] at h
  obtain ⟨i, hi, h⟩ := h
  split at h
  · cases h
  rename_i m hm
  split at h
  · cases h
  rename_i hp
  split at h
  · cases h
  rename_i f' ptr hf
  simp only [ok_bind, ok_inj, Prod.mk.injEq] at h
  obtain ⟨r', hr, rfl, rfl⟩ := h
  have hp' : m.path = #[] := by simpa using hp
  obtain ⟨c', h1, h2⟩ := receiver_run (P := P) H hv hr ((name.splitOn ".").getLastD name)
  refine ⟨c', ?_, h2⟩
  unfold method
  simp only [Sem.run_bind, run_tinfo hi, Result.andThen_ok, hm, hp', follow, Sem.run_pure, hf, Array.isEmpty_empty, if_true, h1]

theorem callMethod_run (hX : SpecsOk P X) (H : HRel P R σ w.heap) {recv c : Value} {name : String} {args : List Value} {cargs : Array Value} {r : Ret} (hv : VRel R recv c) (ha : LRel R args cargs.toList) (h : callMethod P X σ recv name args = .ok r) :
    RetOk P R σ w (Go.callMethod c name cargs) r := by
  unfold callMethod at h
  split at h
  case h_2 => cases h
  rename_i t v
  simp only [ok_bind] at h
  obtain ⟨⟨f, rv⟩, hm, h⟩ := h
  cases hv with
  | iface _ _ c hc =>
  obtain ⟨c', h1, h2⟩ := methodOf_run (P := P) H hc hm (P.types.size + 99)
  refine RetOk.congr ?_ (callFunc_run hX H (cargs := #[c'] ++ cargs) (LRel.append (LRel.cons h2 (LRel.nil R)) ha |> fun x => by simpa using x) h)
  simp only [Go.callMethod]
  have : P.types.size + Made.depth = (P.types.size + 99) + 1 := by simp [Made.depth]
  simp [this, h1]

end Go.Ev

namespace Go.Ev

variable {P : Program} {X : Specs} {R : Ren} {σ : St} {w : World} {tm : Tr Value} {arr : Array Value}

theorem arr_of {args : List Value} {cargs : Array Value} (h : LRel R args cargs.toList) {x : Value} {xs : List Value} (e : args = x :: xs) :
    ∃ y ys, cargs = #[y] ++ ys ∧ cargs.extract 1 cargs.size = ys ∧ VRel R x y ∧ LRel R xs ys.toList := by
  subst e
  obtain ⟨y, ys, h1, h2, h3⟩ := h.of_cons
  have hc : cargs = #[y] ++ ys.toArray := by
    apply Array.toList_inj.1; simp [h1]
  refine ⟨y, ys.toArray, hc, ?_, h2, by simpa using h3⟩
  rw [hc]
  apply Array.toList_inj.1
  simp

theorem builtin_run (H : HRel P R σ w.heap) {b : Builtin} {ats : Array TypeId} {ty : TypeId} {cs : Array Bool} {args : List Value} {cargs : Array Value} {r : Ret} (ha : LRel R args cargs.toList) (h : builtin P σ b ats args = .ok r) :
    RetOk P R σ w (Go.builtin b ats ty cs cargs) r := by
  have h0 := h
  unfold builtin at h
  split at h
  · rename_i s x
    obtain ⟨cargs⟩ := cargs
    obtain ⟨cs', l1, rfl, h1, h2⟩ := ha.of_cons
    obtain ⟨cx, l2, rfl, h3, h4⟩ := h2.of_cons
    have := h4.of_nil; subst this
    simp only [ok_bind, ok_inj] at h
    obtain ⟨⟨v, σ'⟩, hv, rfl⟩ := h
    exact (append_run (P := P) (ty := ty) H h1 h3 hv).op
  · rename_i s x
    obtain ⟨cargs⟩ := cargs
    obtain ⟨cs', l1, rfl, h1, h2⟩ := ha.of_cons
    obtain ⟨cx, l2, rfl, h3, h4⟩ := h2.of_cons
    have := h4.of_nil; subst this
    simp only [ok_bind, ok_inj] at h
    obtain ⟨⟨v, σ'⟩, hv, rfl⟩ := h
    exact SOk.op (copy_run (P := P) (ty := ty) H h1 h3 hv)
  · rename_i s x
    obtain ⟨cargs⟩ := cargs
    obtain ⟨cs', l1, rfl, h1, h2⟩ := ha.of_cons
    obtain ⟨cx, l2, rfl, h3, h4⟩ := h2.of_cons
    have := h4.of_nil; subst this
    obtain ⟨v, σ', rfl, h5⟩ := delete_run (P := P) (ty := ty) H h1 h3 h0
    exact h5.op
  · rename_i x
    obtain ⟨cargs⟩ := cargs
    obtain ⟨cs', l1, rfl, h1, h2⟩ := ha.of_cons
    have := h2.of_nil; subst this
    obtain ⟨v, σ', rfl, h5⟩ := clear_run (P := P) (ty := ty) H h1 h0
    exact h5.op
  · obtain ⟨cargs⟩ := cargs
    obtain ⟨cs', l1, rfl, h1, h2⟩ := ha.of_cons
    have := h2.of_nil; subst this
    simp only [ok_inj] at h; subst h
    cases h1 with
    | iface t v c hc =>
    exact ⟨rfl, .iface _ c, rfl, .iface _ _ _ hc⟩
  · simp only [ok_inj] at h; subst h
    exact ⟨rfl, rfl⟩
  · cases h

theorem invoke_run (hX : SpecsOk P X) (H : HRel P R σ w.heap) {t ct : Target} {args : List Value} {cargs : Array Value} {r : Ret} (ht : TgtRel R t ct) (ha : LRel R args cargs.toList) (h : invoke P X σ t args = .ok r) :
    RetOk P R σ w (Go.invoke ct cargs) r := by
  unfold invoke at h
  split at h
  · cases ht with
    | builtin => exact builtin_run H ha h
  · cases ht with
    | fn f g cs ds hf hc =>
    cases hf with
    | func f => exact callFunc_run hX H (cargs := cargs ++ ds) (by simpa using ha.append hc) h
  · cases ht with
    | fn f g cs ds hf hc =>
    cases hf with
    | method n =>
    split at h
    · rename_i recv rest
      obtain ⟨y, ys, hc1, hc2, h1, h2⟩ := arr_of ha rfl
      refine RetOk.congr ?_ (callMethod_run hX H h1 h2 h)
      have : cargs[0]? = some y := by rw [hc1, Array.getElem?_append_left (by simp)]; rfl
      simp only [Go.invoke, this, hc2]
    · cases h
  · cases ht with
    | fn f g cs ds hf hc =>
    cases hf with
    | methodOf t n =>
    split at h
    · rename_i recv rest
      obtain ⟨y, ys, hc1, hc2, h1, h2⟩ := arr_of ha rfl
      have hy : cargs[0]? = some y := by rw [hc1, Array.getElem?_append_left (by simp)]; rfl
      simp only [ok_bind] at h
      obtain ⟨u, hu, h⟩ := h
      split at h
      · refine RetOk.congr ?_ (callMethod_run hX H h1 h2 h)
        simp only [Go.invoke, hy, hc2, Sem.run_bind, run_und hu, Result.andThen_ok]
      · rename_i hni
        refine RetOk.congr ?_ (callMethod_run hX H (.iface _ _ _ h1) h2 h)
        simp only [Go.invoke, hy, hc2, Sem.run_bind, run_und hu, Result.andThen_ok]
        try (split
             · rename_i e; exact absurd e (hni _)
             · rfl)
    · cases h
  · cases ht with
    | fn f g cs ds hf hc =>
    cases hf with
    | yield a l hl =>
    simp only [ok_inj] at h; subst h
    exact ⟨rfl, l, cargs, hl, ha, rfl⟩
  · cases h

theorem resolve_run (hg : Glob R) (ht : TRel R tm arr) {c : Call} {ty : TypeId} {d : Deferred} (h : resolve tm c ty = .ok d) (w : World) :
    ∃ e, (Go.resolve (ceval arr) c ty).run P w = .ok e w ∧ DRel R d e := by
  simp only [resolve, ok_bind] at h
  obtain ⟨args, hargs, h⟩ := h
  have hr := opds_rel hg ht hargs
  split at h
  · rename_i b hb
    simp only [ok_inj] at h; subst h
    exact ⟨_, by simp only [Go.resolve, hb]; rfl, ⟨.builtin .., by simpa using hr⟩⟩
  · rename_i recv name hb
    simp only [ok_bind, ok_inj] at h
    obtain ⟨rv, hrv, rfl⟩ := h
    refine ⟨_, by simp only [Go.resolve, hb]; rfl, ⟨.fn _ _ _ _ (.method _) (LRel.nil R), by simpa using LRel.cons (opd_rel hg ht hrv) hr⟩⟩
  · rename_i f hb
    simp only [ok_bind] at h
    obtain ⟨g, hgv, h⟩ := h
    split at h
    case h_2 => cases h
    rename_i fn first captured
    simp only [ok_inj] at h; subst h
    obtain ⟨g', ys, ds, e, hf, h1, h2⟩ := VRel.func_iff.1 (opd_rel hg ht hgv)
    refine ⟨_, by simp only [Go.resolve, hb, e, Deferred.ofValue]; rfl, ⟨.fn _ _ _ _ hf h2, by simpa using h1.append hr⟩⟩

theorem awrt_run (hX : SpecsOk P X) (H : HRel P R σ w.heap) (ht : TRel R tm arr) {o : Oper} {r : Ret} (h : awrt P X σ tm o = .ok r) :
    RetOk P R σ w (execOp (ceval arr) o) r := by
  have hg := H.glob
  unfold awrt at h
  split at h
  · rename_i t a x ho
    obtain ⟨σ', rfl, h1⟩ := store_run H ht h
    exact RetOk.congr (by simp only [execOp, ho]) (r := .val _ _) h1
  · rename_i t m k x ho
    obtain ⟨σ', rfl, h1⟩ := mapUpdate_run H ht h
    exact RetOk.congr (by simp only [execOp, ho]) (r := .val _ _) h1
  · rename_i t m k x ho
    obtain ⟨σ', rfl, h1⟩ := mapUpdate_run H ht h
    exact RetOk.congr (by simp only [execOp, ho]) (r := .val _ _) h1
  · rename_i it b ho
    rcases next_run (P := P) (ty := o.type) H ht h with ⟨v, σ', rfl, h1⟩ | ⟨l, rfl, p, hp, h1⟩
    · exact RetOk.congr (by simp only [execOp, ho]) (r := .val _ _) h1.op
    · exact RetOk.congr (by simp only [execOp, ho]) (r := .many _) ⟨p, hp, h1.op⟩
  · rename_i c ho
    simp only [ok_bind] at h
    obtain ⟨d, hd, h⟩ := h
    obtain ⟨e, h1, h2⟩ := resolve_run (P := P) hg ht hd w
    refine RetOk.congr ?_ (invoke_run hX H h2.target h2.args h)
    simp only [execOp, ho, Sem.run_bind, h1, Result.andThen_ok]
  · rename_i c ho
    simp only [ok_bind] at h
    obtain ⟨d, hd, h⟩ := h
    obtain ⟨e, h1, h2⟩ := resolve_run (P := P) hg ht hd w
    split at h
    case h_2 => cases h
    simp only [ok_inj] at h; subst h
    refine ⟨rfl, e, ?_, h2⟩
    simp only [execOp, ho, Sem.run_bind, h1, Result.andThen_ok, Sem.run_pure]
  · rename_i x ho
    simp only [ok_bind] at h
    obtain ⟨v, hv, h⟩ := h
    split at h
    case h_2 => cases h
    rename_i t y
    simp only [ok_inj] at h; subst h
    have hr := opd_rel hg ht hv
    generalize hc : ceval arr x = c at hr
    cases hr with
    | iface _ _ c' hc' =>
    refine ⟨rfl, .iface t c', ?_, .iface _ _ _ hc'⟩
    simp only [execOp, ho, hc]
    rfl
  · cases h

end Go.Ev

namespace Go.Ev

variable {P : Program} {X : Specs} {R : Ren} {σ : St} {w : World}

/-! ### frames -/

inductive IRel (R : Ren) : AItem → Item → Prop
  | code (c : Code) : IRel R (.code c) (.code c)
  | inBlock (id : Nat) : IRel R (.inBlock id) (.inBlock id)
  | inLoop (c : Code) : IRel R (.inLoop c) (.inLoop c)
  | inScope (c : Code) : IRel R (.inScope c) (.inScope c)
  | inReg (ops : Array Oper) (rest : List Oper) (l : List Nat) : l.map (fun i => ops[i]?) = rest.map some → IRel R (.inReg ops rest) (.inRegion ops l)
  | inRangeFunc (a : Nat) (l : Loc) : R.loc a = some l → IRel R (.inRangeFunc a) (.inRangeFunc l.block)
  | endRangeFunc (a : Nat) (l : Loc) : R.loc a = some l → IRel R (.endRangeFunc a) (.endRangeFunc l.block)
  | beginRound : IRel R .beginRound .beginRound

theorem IRel.mono {R R' : Ren} (h : R.le R') {x : AItem} {y : Item} (hi : IRel R x y) : IRel R' x y := by
  cases hi with
  | code c => exact .code c
  | inBlock id => exact .inBlock id
  | inLoop c => exact .inLoop c
  | inScope c => exact .inScope c
  | inReg ops rest l hl => exact .inReg ops rest l hl
  | inRangeFunc a l hl => exact .inRangeFunc a l (h.1 _ _ hl)
  | endRangeFunc a l hl => exact .endRangeFunc a l (h.1 _ _ hl)
  | beginRound => exact .beginRound

structure PRel (R : Ren) (a b : PanicEntry) : Prop where
  v : VRel R a.v b.v
  recov : b.recovered = a.recovered
  goexit : b.goexit = a.goexit

theorem PRel.mono {R R' : Ren} (h : R.le R') {a b : PanicEntry} (hp : PRel R a b) : PRel R' a b := ⟨hp.v.mono h, hp.recov, hp.goexit⟩

inductive MoRel (R : Ren) : FrameMode → FrameMode → Prop
  | run : MoRel R .run .run
  | returning : MoRel R .returning .returning
  | panicking (a b : List PanicEntry) : F2 (PRel R) a b → MoRel R (.panicking a) (.panicking b)

theorem MoRel.mono {R R' : Ren} (h : R.le R') {a b : FrameMode} (hp : MoRel R a b) : MoRel R' a b := by
  cases hp with
  | run => exact .run
  | returning => exact .returning
  | panicking a b hab => exact .panicking _ _ (hab.mono fun _ _ x => x.mono h)

theorem nocall_of {R : Ren} {t : List AItem} {t' : List Item} (h : F2 (IRel R) t t') (d : Deferred) (b : Bool) (r : String) (s : Array Value) (k : List Item) : t' ≠ .call d b r s :: k := by
  intro e
  rw [e] at h
  cases t with
  | nil => have := h.of_nil; cases this
  | cons x xs =>
    obtain ⟨y', ys', e, h1, h2⟩ := h.of_cons
    cases e
    cases h1

/-- what a frame has still to do; a frame that unwinds may have lost it -/
def TodoRel (R : Ren) (a : AFrame) (f : Frame) : Prop := F2 (IRel R) a.todo f.todo ∨ (a.todo = [] ∧ a.mode ≠ .run)

structure FRel (R : Ren) (a : AFrame) (f : Frame) : Prop where
  fn : f.fn = a.fn
  tmps : TRel R a.tmps f.tmps
  size : f.tmps.size = a.sz
  todo : TodoRel R a f
  defers : F2 (DRel R) a.defers f.defers
  mode : MoRel R a.mode f.mode
  kind : f.kind = a.kind
  round : MRel R a.roundOf f.roundOf
  nocall : ∀ d b r s k, f.todo ≠ .call d b r s :: k

theorem FRel.run {a : AFrame} {f : Frame} (h : FRel R a f) (hm : a.mode = .run) : F2 (IRel R) a.todo f.todo := h.todo.resolve_right fun x => x.2 hm
theorem FRel.ne {a : AFrame} {f : Frame} (h : FRel R a f) {x : AItem} {xs : List AItem} (hm : a.todo = x :: xs) : F2 (IRel R) a.todo f.todo := h.todo.resolve_right fun y => by rw [hm] at y; cases y.1

theorem FRel.mono {R R' : Ren} (h : R.le R') {a : AFrame} {f : Frame} (hf : FRel R a f) : FRel R' a f :=
  ⟨hf.fn, hf.tmps.mono h, hf.size, hf.todo.imp (fun y => y.mono fun _ _ x => x.mono h) id, hf.defers.mono fun _ _ x => x.mono h, hf.mode.mono h, hf.kind, hf.round.mono h, hf.nocall⟩

structure SRel (R : Ren) (base : List Frame) (m : MSt) (fr : Frame) (cs : List Frame) : Prop where
  fr : FRel R m.fr fr
  cs : ∃ l, cs = l ++ base ∧ F2 (FRel R) m.cs l

/-- from the concrete machine M (at R, σ, w) to the abstract m' -/
def Goes (P : Program) (R : Ren) (base : List Frame) (σ : St) (w : World) (M : Machine) (m' : MSt) : Prop :=
  ∃ R' fr' cs' w', Steps P M (lone fr' cs' w') ∧ SRel R' base m' fr' cs' ∧ Kept P R σ w R' m'.σ w'

theorem Kept.trans {R R' R'' : Ren} {σ σ' σ'' : St} {w w' w'' : World} (a : Kept P R σ w R' σ' w') (b : Kept P R' σ' w' R'' σ'' w'') : Kept P R σ w R'' σ'' w'' :=
  ⟨b.rel, a.fr.trans b.fr, a.keep.trans b.keep⟩

theorem exitTo_rel (id : Nat) : ∀ {k : List AItem} {k' : List Item}, F2 (IRel R) k k' →
    (match Ev.exitTo id k with | some j => ∃ j', Go.exitTo id k' = some j' ∧ F2 (IRel R) j j' | none => Go.exitTo id k' = none)
  | [], k', h => by rw [h.of_nil]; simp [Ev.exitTo, Go.exitTo]
  | x :: k, k', h => by
    obtain ⟨y, ys, rfl, h1, h2⟩ := h.of_cons
    have ih := exitTo_rel id h2
    cases h1 <;> simp only [Ev.exitTo, Go.exitTo] <;> try exact ih
    split
    · rename_i hh
      split at hh
      · rename_i e
        cases hh
        exact ⟨ys, by rw [if_pos e], h2⟩
      · rename_i e
        rw [hh] at ih
        rw [if_neg e]
        exact ih
    · rename_i hh
      split at hh
      · cases hh
      · rename_i e
        rw [hh] at ih
        rw [if_neg e]
        exact ih

theorem gotoIn_rel (l : Nat) : ∀ {k : List AItem} {k' : List Item}, F2 (IRel R) k k' →
    (match Ev.gotoIn l k with | some j => ∃ j', Go.gotoIn l k' = some j' ∧ F2 (IRel R) j j' | none => Go.gotoIn l k' = none)
  | [], k', h => by rw [h.of_nil]; simp [Ev.gotoIn, Go.gotoIn]
  | x :: k, k', h => by
    obtain ⟨y, ys, rfl, h1, h2⟩ := h.of_cons
    have ih := gotoIn_rel l h2
    cases h1 <;> simp only [Ev.gotoIn, Go.gotoIn] <;> try exact ih
    rename_i body
    cases hfl : findLabel body l with
    | some rest => exact ⟨_, rfl, F2.cons (.code _) (F2.cons (.inScope _) h2)⟩
    | none => exact ih

def putC (arr : Array Value) (d : Option Tmp) (c : Value) : Array Value := match d with | some d => arr.setIfInBounds d c | none => arr

theorem putTm_rel {tm tm' : Tr Value} {arr : Array Value} {sz : Nat} (ht : TRel R tm arr) (hs : arr.size = sz) {d : Option Tmp} {v c : Value} (hv : VRel R v c) (h : putTm tm sz d v = .ok tm') :
    TRel R tm' (putC arr d c) ∧ (putC arr d c).size = sz := by
  unfold putC
  cases d with
  | none => cases h; exact ⟨ht, hs⟩
  | some d =>
    simp only [putTm] at h
    split at h
    · cases h
      exact ⟨ht.set hv (by rw [hs]; assumption), by simp [hs]⟩
    · cases h

theorem finish_rel {a a' : AFrame} {f : Frame} (hf : FRel R a f) {v c : Value} (hv : VRel R v c) (h : finish a v = .ok a') : FRel R a' (f.finish c) := by
  obtain ⟨fn, tmps, todo, defers, mode, kind, ro⟩ := f
  unfold finish at h
  split at h
  · rename_i ops o rest k ht
    have htd := hf.ne ht
    rw [ht] at htd
    obtain ⟨y, ys, e, h1, h2⟩ := htd.of_cons
    simp only at e
    subst e
    cases h1 with
    | inReg _ _ l hl =>
    cases l with
    | nil => simp at hl
    | cons i l =>
    simp only [List.map_cons, List.cons.injEq] at hl
    simp only [ok_bind, ok_inj] at h
    obtain ⟨tm, htm, rfl⟩ := h
    obtain ⟨p1, p2⟩ := putTm_rel hf.tmps hf.size hv htm
    have e : (ops[i]?).bind (·.dst) = o.dst := by rw [hl.1]; rfl
    refine ⟨hf.fn, ?_, ?_, .inl ?_, hf.defers, hf.mode, hf.kind, hf.round, fun _ _ _ _ _ e => by simp [Frame.finish] at e⟩
    · simp only [Frame.finish, e]; exact p1
    · simp only [Frame.finish, e]; exact p2
    · simp only [Frame.finish]; exact F2.cons (.inReg _ _ _ hl.2) h2
  · rename_i l k ht
    have htd := hf.ne ht
    rw [ht] at htd
    obtain ⟨y, ys, e, h1, h2⟩ := htd.of_cons
    simp only at e
    subst e
    cases h1 with
    | inRangeFunc _ l hl =>
    simp only [ok_inj] at h; subst h
    exact ⟨hf.fn, hf.tmps, hf.size, .inl (F2.cons (.endRangeFunc _ _ hl) h2), hf.defers, hf.mode, hf.kind, hf.round, fun _ _ _ _ _ e => by simp [Frame.finish] at e⟩
  · cases h

theorem raise_rel {a : AFrame} {f : Frame} (hf : FRel R a f) {vs cs : List PanicEntry} (hv : F2 (PRel R) vs cs) : FRel R (Ev.raise a vs) (f.raise cs) := by
  obtain ⟨fn, tmps, todo, defers, mode, kind, ro⟩ := f
  obtain ⟨fn', tmps', sz, todo', defers', mode', kind', ro'⟩ := a
  have hm := hf.mode
  simp only at hm
  cases hm with
  | run => exact ⟨hf.fn, hf.tmps, hf.size, hf.todo.imp id (fun h => ⟨h.1, fun e => by cases e⟩), hf.defers, .panicking _ _ hv, hf.kind, hf.round, hf.nocall⟩
  | returning => exact ⟨hf.fn, hf.tmps, hf.size, hf.todo.imp id (fun h => ⟨h.1, fun e => by cases e⟩), hf.defers, .panicking _ _ hv, hf.kind, hf.round, hf.nocall⟩
  | panicking x y hxy => exact ⟨hf.fn, hf.tmps, hf.size, hf.todo.imp id (fun h => ⟨h.1, fun e => by cases e⟩), hf.defers, .panicking _ _ (hv.append hxy), hf.kind, hf.round, hf.nocall⟩

theorem enterFrame_rel {f : FuncId} {args : List Value} {cargs : Array Value} {kind : CallKind} {a : AFrame} (ha : LRel R args cargs.toList) (h : enterFrame P f args kind = .ok a) :
    FRel R a (Frame.enter P f cargs kind) ∧ a.fn = f ∧ ∃ fn, P.funcs[f]? = some fn := by
  unfold enterFrame at h
  split at h
  case h_2 => cases h
  rename_i fn hfn
  have hfn : P.funcs[f]? = some fn := hfn
  split at h
  case h_2 => cases h
  rename_i c hc
  simp only [ok_inj] at h; subst h
  have hsz : args.length = cargs.size := by have := ha.1; simpa using this
  refine ⟨⟨rfl, ?_, ?_, .inl ?_, F2.nil, .run, rfl, trivial, fun _ _ _ _ _ e => by simp [Frame.enter] at e⟩, rfl, fn, hfn⟩
  · intro i v hv
    simp only [Tr.get_ofListFrom, Nat.zero_le, if_true, Nat.sub_zero, Tr.get_nil] at hv
    split at hv
    · rename_i x hx
      cases hv
      obtain ⟨y, hy, hr⟩ := ha.get hx
      have hi : i < cargs.size := by rw [← hsz]; exact (List.getElem?_eq_some_iff.1 hx).1
      exact ⟨y, by simp only [Frame.enter]; rw [Array.getElem?_append_left hi]; simpa using hy, hr⟩
    · cases hv
  · simp only [Frame.enter, hfn, Option.map_some, Option.getD_some, Array.size_append, Array.size_replicate, hsz]
    omega
  · simp only [Frame.enter, hfn, Option.bind_some, hc, Option.getD_some]
    exact F2.cons (.code _) F2.nil

theorem putParams_rel : ∀ {ts : List Tmp} {vs : List Value} {tm tm' : Tr Value} {arr : Array Value} {sz : Nat} {cs : List Value}, TRel R tm arr → arr.size = sz → LRel R vs cs → putParams sz ts vs tm = .ok tm' →
    TRel R tm' ((ts.zip cs).foldl (fun t (x : Tmp × Value) => t.setIfInBounds x.1 x.2) arr) ∧ ((ts.zip cs).foldl (fun t (x : Tmp × Value) => t.setIfInBounds x.1 x.2) arr).size = sz ∧ ts.length = cs.length
  | [], [], tm, tm', arr, sz, cs, ht, hs, hv, h => by
    rw [hv.of_nil]; cases h
    exact ⟨ht, hs, rfl⟩
  | t :: ts, v :: vs, tm, tm', arr, sz, cs, ht, hs, hv, h => by
    obtain ⟨c, cs, rfl, h1, h2⟩ := hv.of_cons
    simp only [putParams] at h
    split at h
    · rename_i hlt
      have := putParams_rel (ht.set h1 (by rw [hs]; exact hlt)) (by simp [hs]) h2 h
      simpa using this
    · cases h
  | [], _ :: _, _, _, _, _, _, _, _, _, h => by cases h
  | _ :: _, [], _, _, _, _, _, _, _, _, h => by cases h

theorem getLoop_rel (H : HRel P R σ w.heap) {a : Nat} {r : ALoop} (h : getLoop σ a = .ok r) :
    ∃ l L, R.loc a = some l ∧ w.heap[l.block]? = some (.loop L) ∧ LoopRel R r L ∧ (Instr.getLoop l.block).run P w = .ok L w := by
  simp only [getLoop, ok_bind] at h
  obtain ⟨o, ho, h⟩ := h
  split at h
  case h_2 => cases h
  simp only [ok_inj] at h; subst h
  obtain ⟨l, O, h1, h2, h3⟩ := H.obj _ _ (obj_get ho)
  cases O <;> simp only [ORel] at h3
  rename_i L
  exact ⟨l, L, h1, h2, h3, by simp [Instr.getLoop, getObj_run (P := P) h2 (fun _ _ _ e => by cases e)]⟩

theorem awanted_rel {ops : Array Oper} {tm : Tr Value} {arr : Array Value} (ht : TRel R tm arr) {o : Oper} {b : Bool} (h : awanted ops tm o = .ok b) : Region.wanted o (yielded ops arr) = b := by
  unfold awanted at h
  unfold Region.wanted
  split at h
  · rename_i hg; simp only [ok_inj] at h; rw [hg]; exact h
  · rename_i j want hg
    rw [hg]
    split at h
    · cases h
    rename_i t hd
    split at h
    · rename_i x hx
      simp only [ok_inj] at h; subst h
      obtain ⟨c, hc, hr⟩ := ht _ _ hx
      cases hr
      simp only [yielded, hd, Option.bind_some, hc]
      cases x <;> cases want <;> rfl
    · rename_i x hx
      simp only [ok_inj] at h; subst h
      obtain ⟨c, hc, hr⟩ := ht _ _ hx
      obtain ⟨ys, rfl, _⟩ := VRel.tuple_iff.1 hr
      simp only [yielded, hd, Option.bind_some, hc]
      rfl
    · cases h

end Go.Ev

namespace Go.Ev

variable {P : Program} {X : Specs} {R : Ren} {σ : St} {w : World} {base : List Frame}

def DoneOk (P : Program) (R : Ren) (base : List Frame) (σ : St) (w : World) (M : Machine) (f : FuncId) : CRes → Prop
  | .ret v σ' => ∃ R' fr' w' c, Steps P M (lone fr' base w') ∧ (fr'.fn = f → (∃ fn, P.funcs[f]? = some fn) → fr'.leaving P w' (.returned c)) ∧ fr'.fn = f ∧ VRel R' v c ∧ Kept P R σ w R' σ' w'
  | .panic chain σ' => ∃ R' fr' w' c, Steps P M (lone fr' base w') ∧ (fr'.fn = f → (∃ fn, P.funcs[f]? = some fn) → fr'.leaving P w' (.panicked c)) ∧ fr'.fn = f ∧ F2 (PRel R') chain c ∧ Kept P R σ w R' σ' w'

def Res (P : Program) (R : Ren) (base : List Frame) (σ : St) (w : World) (M : Machine) (f : FuncId) : Step → Prop
  | .next m' => Goes P R base σ w M m'
  | .branch l => ∃ m' ∈ l, Goes P R base σ w M m'
  | .done r => DoneOk P R base σ w M f r

theorem no_call {a : AFrame} {f : Frame} (hf : FRel R a f) (d : Deferred) (b : Bool) (r : String) (s : Array Value) (k : List Item) : f.todo ≠ .call d b r s :: k := hf.nocall d b r s k

theorem apply_enter {fr : Frame} {cs : List Frame} {s : Sem Next} {g : FuncId} {cargs : Array Value} {w' : World} (hn : ∀ d b r s k, fr.todo ≠ .call d b r s :: k) (h : s.run P w = .ok (.enter g cargs) w') :
    (stepG.apply P true fr cs none s w).bare = .go { frame := Frame.enter P g cargs .normal, callers := fr :: cs, status := .running, dying := none } w' := by
  simp only [stepG.apply, Sem.runT_eq, h, if_true, GStep.bare_after]
  split
  · rename_i e; exact absurd e (hn _ _ _ _ _)
  · rfl

theorem SRel.mono {R R' : Ren} (h : R.le R') {m : MSt} {fr : Frame} {cs : List Frame} (S : SRel R base m fr cs) : SRel R' base m fr cs :=
  ⟨S.fr.mono h, let ⟨l, h1, h2⟩ := S.cs; ⟨l, h1, h2.mono fun _ _ x => x.mono h⟩⟩

def RecOk (R : Ren) (base : List Frame) (fr : Frame) (l : List Frame) : Option (Value × List AFrame) → Prop
  | some (v, cs') => ∃ c l', tryRecover fr (l ++ base) = some (c, l' ++ base) ∧ VRel R v c ∧ F2 (FRel R) cs' l'
  | none => tryRecover fr (l ++ base) = none

theorem recoverTop_rel {a : AFrame} {acs : List AFrame} {fr : Frame} {l : List Frame} (hf : FRel R a fr) (hl : F2 (FRel R) acs l) {r : Option (Value × List AFrame)} (h : recoverTop a acs = .ok r) :
    RecOk R base fr l r := by
  unfold recoverTop at h
  have hk := hf.kind
  split at h
  · rename_i c rest hkind
    obtain ⟨d, l', rfl, h1, h2⟩ := hl.of_cons
    rw [hkind] at hk
    have hm := h1.mode
    split at h
    · rename_i e older hmode
      rw [hmode] at hm
      generalize hdm : d.mode = dm at hm
      cases hm with
      | panicking _ b hab =>
      obtain ⟨e', b', rfl, he, hb⟩ := hab.of_cons
      obtain ⟨v', rc', ge'⟩ := e'
      have e1 := he.recov; have e2 := he.goexit
      simp only at e1 e2
      split at h
      · rename_i hc
        simp only [ok_inj] at h; subst h
        simp only [RecOk, tryRecover, hk, List.cons_append, hdm]
        cases rc' <;> cases ge' <;> simp_all
      · rename_i hc
        simp only [ok_inj] at h; subst h
        simp only [Bool.not_eq_true, Bool.or_eq_false_iff] at hc
        rw [hc.1] at e1; rw [hc.2] at e2
        subst e1 e2
        refine ⟨v', { d with mode := .panicking ({ v := v', recovered := true } :: b') } :: l', ?_, he.v, F2.cons ?_ h2⟩
        · simp only [tryRecover, hk, List.cons_append, hdm]
        · exact ⟨h1.fn, h1.tmps, h1.size, h1.todo.imp id (fun h => ⟨h.1, fun e => by cases e⟩), h1.defers, .panicking _ _ (F2.cons ⟨he.v, rfl, rfl⟩ hb), h1.kind, h1.round, h1.nocall⟩
    · rename_i hn
      simp only [ok_inj] at h; subst h
      simp only [RecOk, tryRecover, hk, List.cons_append]
      generalize hdm : d.mode = dm at hm
      generalize hcm : c.mode = cm at hm hn
      cases hm with
      | run => rfl
      | returning => rfl
      | panicking x y hxy =>
        cases x with
        | nil => rw [hxy.of_nil]
        | cons e older => exact absurd rfl (hn _ _)
  · rename_i hkind
    rw [hkind] at hk
    simp only [ok_inj] at h; subst h
    simp only [RecOk]
    cases (l ++ base) <;> rw [tryRecover.eq_def, hk]
  · cases h

theorem many_mem {m : MSt} : ∀ {l : List (Value × St)} {ms : List MSt}, many m l = .ok ms → ∀ p ∈ l, ∃ a, finish m.fr p.1 = .ok a ∧ ({ fr := a, cs := m.cs, σ := p.2 } : MSt) ∈ ms
  | [], ms, h, p, hp => by cases hp
  | (v, s) :: l, ms, h, p, hp => by
    simp only [many, ok_bind, ok_inj] at h
    obtain ⟨a, ha, r, hr, rfl⟩ := h
    cases hp with
    | head => exact ⟨a, ha, List.mem_cons_self ..⟩
    | tail _ hp =>
      obtain ⟨a', h1, h2⟩ := many_mem hr p hp
      exact ⟨a', h1, List.mem_cons_of_mem _ h2⟩

section
variable {m : MSt} {fr : Frame} {cs : List Frame} {s : Sem Next} {f : FuncId}

theorem val_sim (S : SRel R base m fr cs) (hst : stepG P true { frame := fr, callers := cs, status := .running, dying := none } w = stepG.apply P true fr cs none s w)
    {v : Value} {σ' : St} (hv : ValOk P R m.σ w s v σ') {a : AFrame} (ha : finish m.fr v = .ok a) : Goes P R base m.σ w (lone fr cs w) { fr := a, cs := m.cs, σ := σ' } := by
  obtain ⟨R', w', hv, hk⟩ := hv
  have S' := S.mono hk.fr.le
  obtain ⟨l, rfl, hl⟩ := S'.cs
  rcases hv with ⟨c, h1, h2⟩ | ⟨h1, rfl⟩
  · refine ⟨R', fr.finish c, l ++ base, w', .one (step_lone_go ?_), ⟨finish_rel S'.fr h2 ha, l, rfl, hl⟩, hk⟩
    rw [hst]; simp [stepG.apply, Sem.runT_eq, h1]
  · refine ⟨R', fr.finish Go.undef, l ++ base, w', .one (step_lone_go ?_), ⟨finish_rel S'.fr (VRel.undef _) ha, l, rfl, hl⟩, hk⟩
    rw [hst]; simp [stepG.apply, Sem.runT_eq, h1]

theorem apply_sim (S : SRel R base m fr cs) (H : HRel P R m.σ w.heap) {r : Ret} (hr : RetOk P R m.σ w s r)
    (hst : stepG P true { frame := fr, callers := cs, status := .running, dying := none } w = stepG.apply P true fr cs none s w) {st : Step} (h : applyRet P m r = .ok st) :
    Res P R base m.σ w (lone fr cs w) f st := by
  obtain ⟨l, rfl, hl⟩ := S.cs
  cases r with
  | val v σ' =>
    simp only [applyRet, ok_bind, ok_inj] at h
    obtain ⟨a, ha, rfl⟩ := h
    exact val_sim S hst hr ha
  | callv g args v σ' =>
    simp only [applyRet, ok_bind, ok_inj] at h
    obtain ⟨a, ha, rfl⟩ := h
    obtain ⟨cargs, h1, h2, h3⟩ := hr
    obtain ⟨e, w', fr', ⟨R', c, rfl, hv, hk⟩, hs, hf, hlv⟩ := h3 (fr :: (l ++ base))
    have S' := S.mono hk.fr.le
    refine ⟨R', fr.finish c, l ++ base, w', .head (step_lone_go ?_) (Steps.trans hs (.one (step_leave_returned hlv))), ⟨finish_rel S'.fr hv ha, l, rfl, hl.mono fun _ _ x => x.mono hk.fr.le⟩, hk⟩
    rw [hst]
    exact apply_enter (no_call S.fr) h1
  | many vs =>
    simp only [applyRet, ok_bind, ok_inj] at h
    obtain ⟨ms, hms, rfl⟩ := h
    obtain ⟨p, hp, hv⟩ := hr
    obtain ⟨a, h1, h2⟩ := many_mem hms p hp
    exact ⟨_, h2, val_sim S hst hv h1⟩
  | enter g args σ' =>
    simp only [applyRet, ok_bind, ok_inj] at h
    obtain ⟨a, ha, rfl⟩ := h
    obtain ⟨rfl, cargs, h1, h2⟩ := hr
    refine ⟨R, Frame.enter P g cargs .normal, fr :: (l ++ base), w, .one (step_lone_go ?_), ⟨(enterFrame_rel h2 ha).1, fr :: l, rfl, F2.cons S.fr hl⟩, Kept.refl H⟩
    rw [hst]
    exact apply_enter (no_call S.fr) h1
  | round b args σ' =>
    simp only [applyRet, ok_bind, ok_inj] at h
    obtain ⟨r, hl', tm, htm, rfl⟩ := h
    obtain ⟨rfl, ll, cargs, h1, h2, h3⟩ := hr
    obtain ⟨l2, L, e1, e2, hL, hgl⟩ := getLoop_rel H hl'
    rw [h1] at e1; cases e1
    obtain ⟨p1, p2, p3⟩ := putParams_rel hL.tmps hL.size h2 htm
    have hsz : cargs.size = L.params.size := by rw [hL.params]; simpa using p3.symm
    have hfold : (L.params.zip cargs).foldl (fun tmps (x : Tmp × Value) => tmps.setIfInBounds x.1 x.2) L.tmps = (r.params.toList.zip cargs.toList).foldl (fun t (x : Tmp × Value) => t.setIfInBounds x.1 x.2) L.tmps := by
      rw [← Array.foldl_toList, Array.toList_zip, hL.params]
    have hy : (Instr.yield ll.block cargs).run P w = .ok (.round ll.block L.fn ((L.params.zip cargs).foldl (fun tmps (x : Tmp × Value) => tmps.setIfInBounds x.1 x.2) L.tmps) L.assign L.body) w := by
      simp [Instr.yield, hgl, hsz]
    refine ⟨R, Frame.round ll.block L.fn ((L.params.zip cargs).foldl (fun tmps (x : Tmp × Value) => tmps.setIfInBounds x.1 x.2) L.tmps) L.assign L.body .normal, fr :: (l ++ base), w, .one (step_lone_go ?_), ⟨⟨hL.fn, ?_, ?_, .inl ?_, F2.nil, .run, rfl, ?_, fun _ _ _ _ _ e => by simp [Frame.round] at e⟩, fr :: l, rfl, F2.cons S.fr hl⟩, Kept.refl H⟩
    · rw [hst]
      simp only [stepG.apply, Sem.runT_eq, h3, hy, if_true, GStep.bare_after]
      rfl
    · simp only [Frame.round, hfold]; exact p1
    · simp only [Frame.round, hfold]; exact p2
    · simp only [Frame.round, hL.assign, hL.body]
      exact F2.cons (.code _) (F2.cons .beginRound (F2.cons (.code _) F2.nil))
    · exact ⟨ll, h1, rfl⟩
  | defer d σ' =>
    simp only [applyRet] at h
    split at h
    · cases h
    simp only [ok_bind, ok_inj] at h
    obtain ⟨a, ha, rfl⟩ := h
    obtain ⟨rfl, e, h1, h2⟩ := hr
    have hf : FRel R { m.fr with defers := d :: m.fr.defers } { fr with defers := e :: fr.defers } :=
      ⟨S.fr.fn, S.fr.tmps, S.fr.size, S.fr.todo, F2.cons h2 S.fr.defers, S.fr.mode, S.fr.kind, S.fr.round, S.fr.nocall⟩
    refine ⟨R, ({ fr with defers := e :: fr.defers } : Frame).finish Go.undef, l ++ base, w, .one (step_lone_go ?_), ⟨finish_rel hf (VRel.undef _) ha, l, rfl, hl⟩, Kept.refl H⟩
    rw [hst]
    simp only [stepG.apply, Sem.runT_eq, h1, if_true, GStep.bare_after]
    rfl
  | recover σ' =>
    simp only [applyRet] at h
    split at h
    · cases h
    rename_i hro
    simp only [ok_bind] at h
    obtain ⟨r, hrt, h⟩ := h
    obtain ⟨rfl, h1⟩ := hr
    have hro' : fr.roundOf = none := by
      have := S.fr.round
      cases h0 : m.fr.roundOf with
      | some x => rw [h0] at hro; simp at hro
      | none => rw [h0] at this; cases h2 : fr.roundOf with
        | none => rfl
        | some x => rw [h2] at this; simp [MRel] at this
    have hrec := recoverTop_rel (base := base) S.fr hl hrt
    split at h
    · rename_i v cs'
      simp only [ok_bind, ok_inj] at h
      obtain ⟨a, ha, rfl⟩ := h
      obtain ⟨c, l', h2, h3, h4⟩ := hrec
      refine ⟨R, fr.finish c, l' ++ base, w, .one (step_lone_go ?_), ⟨finish_rel S.fr h3 ha, l', rfl, h4⟩, Kept.refl H⟩
      rw [hst]
      simp only [stepG.apply, Sem.runT_eq, h1, if_true, GStep.bare_after, hro', h2]
      rfl
    · simp only [ok_bind, ok_inj] at h
      obtain ⟨a, ha, rfl⟩ := h
      have hrec : tryRecover fr (l ++ base) = none := hrec
      refine ⟨R, fr.finish .nilIface, l ++ base, w, .one (step_lone_go ?_), ⟨finish_rel S.fr .nilIface ha, l, rfl, hl⟩, Kept.refl H⟩
      rw [hst]
      simp only [stepG.apply, Sem.runT_eq, h1, if_true, GStep.bare_after, hro', hrec]
      rfl
  | panic v σ' =>
    simp only [applyRet, ok_inj] at h; subst h
    obtain ⟨rfl, c, h1, h2⟩ := hr
    refine ⟨R, fr.raise [{ v := c, recovered := false }], l ++ base, w, .one (step_lone_go ?_), ⟨raise_rel S.fr (F2.cons ⟨h2, rfl, rfl⟩ F2.nil), l, rfl, hl⟩, Kept.refl H⟩
    rw [hst]
    simp only [stepG.apply, Sem.runT_eq, h1, if_true, GStep.bare_after]
    rfl
end

end Go.Ev

namespace Go.Ev

variable {P : Program} {X : Specs} {R : Ren} {σ : St} {w : World} {base : List Frame}

theorem flt_val (H : HRel P R σ w.heap) {s : Sem Next} {fv : FV} (h : OpFlt P R w s fv) : ∃ v σ', ofFV σ fv = .val v σ' ∧ ValOk P R σ w s v σ' := by
  obtain ⟨c, w', h1, h2, h3⟩ := h
  cases fv with
  | val v =>
    obtain ⟨e, hv⟩ := h3
    exact ⟨v, σ, rfl, R, w', .inl ⟨c, h1, hv⟩, by rw [e]; exact H, by rw [e]; exact .refl _ _ _, h2⟩
  | new mk o =>
    obtain ⟨O, cap, e, hn⟩ := h3
    obtain ⟨h4, h5⟩ := hn σ.next (H.dom _ (Nat.le_refl _))
    obtain ⟨h6, h7⟩ := H.alloc o O cap h4
    exact ⟨_, _, rfl, _, w', .inl ⟨c, h1, h5⟩, by rw [e]; exact h6, by rw [e]; exact h7, h2⟩
  | dead mk =>
    obtain ⟨e, l, hn⟩ := h3
    have h5 := hn σ.next (H.dom _ (Nat.le_refl _))
    have hs : σ.heap.get σ.next = none := by
      cases hg : σ.heap.get σ.next with
      | none => rfl
      | some o =>
        obtain ⟨l, O, h1, _⟩ := H.obj _ _ hg
        rw [H.dom _ (Nat.le_refl _)] at h1; cases h1
    obtain ⟨h6, h7⟩ := H.dead σ.next (σ.next + 1) (H.dom _ (Nat.le_refl _)) hs (Nat.lt_succ_self _) (Nat.le_succ _) l
    exact ⟨_, _, rfl, _, w', .inl ⟨c, h1, h5⟩, by rw [e]; exact h6, by rw [e]; exact h7 (Nat.le_refl _), h2⟩

theorem aop_run (hX : SpecsOk P X) (H : HRel P R σ w.heap) {tm : Tr Value} {arr : Array Value} (ht : TRel R tm arr) {o : Oper} {r : Ret} (h : aop P X σ tm o = .ok r) : RetOk P R σ w (execOp (ceval arr) o) r := by
  unfold aop at h
  split at h
  · simp only [ok_bind, ok_inj] at h
    obtain ⟨f, hf, rfl⟩ := h
    obtain ⟨v, σ', e, h1⟩ := flt_val H (aflt_run H ht hf)
    rw [e]; exact h1
  · exact awrt_run hX H ht h

/-! ### returning -/

theorem doReturn_sim {m : MSt} {fr : Frame} {cs : List Frame} (S : SRel R base m fr cs) (hb : m.cs ≠ []) {v c : Value} (hv : VRel R v c) {st : Step} (h : Ev.doReturn m v = .ok st) :
    ∃ m' fr' cs', st = .next m' ∧ m'.σ = m.σ ∧ Go.doReturn P true fr cs none c w = .go { frame := fr', callers := cs', status := .running, dying := none } w ∧ SRel R base m' fr' cs' := by
  obtain ⟨l, rfl, hl⟩ := S.cs
  have hk := S.fr.kind
  unfold Ev.doReturn at h
  split at h
  case h_2 =>
    rename_i e; exact absurd e hb
  rename_i x rest hcs
  rw [hcs] at hl
  obtain ⟨d, l', rfl, h1, h2⟩ := hl.of_cons
  split at h
  · rename_i hkind
    rw [hkind] at hk
    simp only [ok_bind, ok_inj] at h
    obtain ⟨a, ha, rfl⟩ := h
    exact ⟨_, d.finish c, l' ++ base, rfl, rfl, by simp only [Go.doReturn, List.cons_append, hk], ⟨finish_rel h1 hv ha, l', rfl, h2⟩⟩
  · rename_i hkind
    rw [hkind] at hk
    have hm := h1.mode
    have keep : ∀ (hnp : ∀ e older, x.mode = .panicking (e :: older) → e.recovered = false), ∃ m' fr' cs', (Step.next { fr := x, cs := rest, σ := m.σ } : Step) = .next m' ∧ m'.σ = m.σ ∧ Go.doReturn P true fr (d :: l' ++ base) none c w = .go { frame := fr', callers := cs', status := .running, dying := none } w ∧ SRel R base m' fr' cs' := by
      intro hnp
      refine ⟨_, d, l' ++ base, rfl, rfl, ?_, ⟨h1, l', rfl, h2⟩⟩
      simp only [Go.doReturn, List.cons_append, hk]
      generalize hdm : d.mode = dm at hm
      generalize hcm : x.mode = cm at hm hnp
      cases hm with
      | run => rfl
      | returning => rfl
      | panicking a b hab =>
        cases a with
        | nil => rw [hab.of_nil]
        | cons e older =>
          obtain ⟨e', b', rfl, he, hb'⟩ := hab.of_cons
          have h3 := hnp e older rfl
          have h4 := he.recov
          rw [h3] at h4
          obtain ⟨v', rc, ge⟩ := e'
          simp only at h4; subst h4
          rfl
    split at h
    · rename_i e older hmode
      split at h
      · rename_i hrec
        split at h
        · rename_i hdw
          simp only [ok_inj] at h; subst h
          refine ⟨_, { d with mode := .returning }, l' ++ base, rfl, rfl, ?_, ⟨⟨h1.fn, h1.tmps, h1.size, h1.todo.imp id (fun h => ⟨h.1, fun e => by cases e⟩), h1.defers, .returning, h1.kind, h1.round, h1.nocall⟩, l', rfl, h2⟩⟩
          rw [hmode] at hm
          generalize hdm : d.mode = dm at hm
          cases hm with
          | panicking _ b hab =>
          obtain ⟨e', b', rfl, he, hb'⟩ := hab.of_cons
          have h4 := he.recov
          rw [hrec] at h4
          obtain ⟨v', rc, ge⟩ := e'
          simp only at h4; subst h4
          have hdw' : b'.dropWhile (!·.goexit) = [] := by
            have : ∀ (xs ys : List PanicEntry), F2 (PRel R) xs ys → xs.dropWhile (!·.goexit) = [] → ys.dropWhile (!·.goexit) = [] := by
              intro xs
              induction xs with
              | nil => intro ys hxy _; rw [hxy.of_nil]; rfl
              | cons x xs ih =>
                intro ys hxy hd
                obtain ⟨y, ys, rfl, p1, p2⟩ := hxy.of_cons
                have hg := p1.goexit
                simp only [List.dropWhile_cons] at hd ⊢
                rw [hg]
                split at hd
                · rw [if_pos ‹_›]; exact ih _ p2 hd
                · cases hd
            exact this _ _ hb' hdw
          simp only [Go.doReturn, List.cons_append, hk, hdm, hdw']
        · cases h
      · rename_i hrec
        simp only [ok_inj] at h; subst h
        exact keep fun e' o' he => by rw [hmode] at he; cases he; simpa using hrec
    · rename_i hn
      simp only [ok_inj] at h; subst h
      exact keep fun e' o' he => absurd he (hn _ _)
  · cases h

theorem Goes.same {m m' : MSt} {fr fr' : Frame} {cs cs' : List Frame} (H : HRel P R m.σ w.heap) (hσ : m'.σ = m.σ)
    (hst : (stepG P true { frame := fr, callers := cs, status := .running, dying := none } w).bare = .go { frame := fr', callers := cs', status := .running, dying := none } w) (S : SRel R base m' fr' cs') :
    Goes P R base m.σ w (lone fr cs w) m' :=
  ⟨R, fr', cs', w, .one (step_lone_go hst), S, by rw [hσ]; exact Kept.refl H⟩

def rd (arr : Array Value) : ResultVar → Sem Value
  | .tmp t => pure (arr.getD t Go.undef)
  | .cell a t => do Go.loadVar t (← asAddr (arr.getD a Go.undef))

theorem results_eq (fn : Func) (arr : Array Value) : Go.results fn arr = (do let vs ← fn.results.mapM (rd arr); pure (if h : vs.size = 1 then vs[0] else .tuple vs)) := by
  unfold Go.results
  congr 1

theorem resultsOf_run (H : HRel P R σ w.heap) {tm : Tr Value} {arr : Array Value} (ht : TRel R tm arr) : ∀ {rs : List ResultVar} {vs : List Value}, resultsOf P σ tm rs = .ok vs →
    ∃ cs, (rs.mapM (rd arr)).run P w = .ok cs w ∧ LRel R vs cs
  | [], vs, h => by cases h; exact ⟨[], by simp, LRel.nil R⟩
  | r :: rs, vs, h => by
    cases r with
    | tmp t =>
      simp only [resultsOf, ok_bind, ok_inj] at h
      obtain ⟨v, hv, vs', hvs, rfl⟩ := h
      obtain ⟨cs, h1, h2⟩ := resultsOf_run H ht hvs
      have hr := opd_rel H.glob ht hv
      refine ⟨arr.getD t Go.undef :: cs, ?_, LRel.cons hr h2⟩
      simp only [List.mapM_cons, rd, Sem.run_bind, Sem.run_pure, Result.andThen_ok, h1]
    | cell a t =>
      simp only [resultsOf, ok_bind, ok_inj] at h
      obtain ⟨x, hx, ad, had, v, hv, vs', hvs, rfl⟩ := h
      obtain ⟨cs, h1, h2⟩ := resultsOf_run H ht hvs
      have hr := opd_rel H.glob ht hx
      obtain ⟨ca, e, hca⟩ := sureAddr_rel hr had
      obtain ⟨c, h3, h4⟩ := loadVar_run H hca hv
      have e : arr.getD a Go.undef = .pointer (some ca) := e
      refine ⟨c :: cs, ?_, LRel.cons h4 h2⟩
      simp only [List.mapM_cons, rd, Sem.run_bind, e, asAddr, Sem.run_pure, Result.andThen_ok, h1, h3]

theorem results_run (H : HRel P R σ w.heap) {a : AFrame} {f : Frame} (hf : FRel R a f) {v : Value} (h : Ev.results P σ a = .ok v) :
    ∃ fn c, P.funcs[f.fn]? = some fn ∧ (Go.results fn f.tmps).run P w = .ok c w ∧ VRel R v c := by
  unfold Ev.results at h
  split at h
  · cases h
  rename_i fn hfn
  simp only [ok_bind] at h
  obtain ⟨vs, hvs, h⟩ := h
  obtain ⟨cs, h1, h2⟩ := resultsOf_run (P := P) H hf.tmps hvs
  have hm : (fn.results.mapM (rd f.tmps)).run P w = .ok cs.toArray w := by
    rw [Array.mapM_eq_mapM_toList]
    simp only [Sem.run_map, h1]
    rfl
  refine ⟨fn, if h : cs.toArray.size = 1 then cs.toArray[0] else .tuple cs.toArray, by rw [hf.fn]; exact hfn, ?_, ?_⟩
  · simp only [results_eq, Sem.run_bind, hm, Result.andThen_ok, Sem.run_pure]
  · split at h
    · rename_i v'
      simp only [ok_inj] at h; subst h
      obtain ⟨c, cs', rfl, h3, h4⟩ := h2.of_cons
      have := h4.of_nil; subst this
      simpa using h3
    · rename_i hn
      simp only [ok_inj] at h; subst h
      have hl := h2.1
      have : ¬ cs.toArray.size = 1 := by
        intro e
        have e' : cs.length = 1 := by simpa using e
        rw [← hl] at e'
        match vs, e' with
        | [v], _ => exact hn v rfl
      rw [dif_neg this]
      exact VRel.tuple_iff.2 ⟨_, rfl, by simpa using h2⟩

end Go.Ev

namespace Go.Ev

variable {P : Program} {X : Specs} {R : Ren} {σ : St} {w : World} {base : List Frame}

theorem get_none (H : HRel P R σ w.heap) : R.loc σ.next = none := H.dom _ (Nat.le_refl _)

theorem MRel.none {R : Ren} {a b : Option Nat} (h : MRel R a b) (ha : a = none) : b = none := by
  subst ha
  cases b with
  | none => rfl
  | some x => simp [MRel] at h

theorem MRel.some {R : Ren} {a b : Option Nat} (h : MRel R a b) {x : Nat} (ha : a = some x) : ∃ l, R.loc x = some l ∧ b = some l.block := by
  subst ha
  cases b with
  | none => simp [MRel] at h
  | some y => obtain ⟨l, h1, h2⟩ := h; exact ⟨l, h1, by rw [h2]⟩

theorem notCells_loop {L : Loop} : ∀ c e f, (Obj.loop L) ≠ .cells c e f := fun _ _ _ h => by cases h
theorem notCells_def {d : Option (List Deferred)} : ∀ c e f, (Obj.deferred d) ≠ .cells c e f := fun _ _ _ h => by cases h


theorem unwind_sim (hX : SpecsOk P X) {m : MSt} {fr : Frame} {cs : List Frame} (S : SRel R base m fr cs) (H : HRel P R m.σ w.heap) (hm : m.fr.mode ≠ .run) {f : FuncId} {st : Step} (h : Ev.unwind P X m = .ok st)
    (hf : ∀ r, st = .done r → m.fr.fn = f) : Res P R base m.σ w (lone fr cs w) f st := by
  obtain ⟨l, rfl, hl⟩ := S.cs
  have hmode : fr.mode ≠ .run := by
    have := S.fr.mode
    intro e
    rw [e] at this
    generalize m.fr.mode = x at this hm
    cases this
    exact hm rfl
  have hunw : stepG P true { frame := fr, callers := l ++ base, status := .running, dying := none } w = Go.unwind P true fr (l ++ base) none w := by
    simp only [stepG]
  unfold Ev.unwind at h
  split at h
  · rename_i d ds hds
    have hd := S.fr.defers
    rw [hds] at hd
    obtain ⟨e, es, hfd, h1, h2⟩ := hd.of_cons
    obtain ⟨tg, eargs⟩ := e
    have htg := h1.target
    simp only at htg
    split at h
    · rename_i block htgt
      rw [htgt] at htg
      cases htg with
      | collected _ bl hbl =>
      simp only [ok_bind] at h
      obtain ⟨o, ho, h⟩ := h
      split at h
      case h_2 => cases h
      rename_i calls
      simp only [ok_inj] at h; subst h
      have hoa := obj_get ho
      obtain ⟨l2, O, h3, h4, h5⟩ := H.obj _ _ hoa
      rw [hbl] at h3; cases h3
      cases O <;> simp only [ORel] at h5
      rename_i dd
      cases dd with
      | none => simp [DsRel] at h5
      | some ccalls =>
      have h5 : F2 (DRel R) calls ccalls := h5
      have hup := H.update (a := block) (l := bl) hoa rfl hbl (o' := .deferred none) (O' := .deferred none) trivial
      refine ⟨R, { fr with defers := ccalls ++ es }, l ++ base, { w with heap := w.heap.setIfInBounds bl.block (.deferred none) }, .one (step_lone_go ?_), ⟨⟨S.fr.fn, S.fr.tmps, S.fr.size, S.fr.todo, h5.append h2, S.fr.mode, S.fr.kind, S.fr.round, S.fr.nocall⟩, l, rfl, hl⟩, ⟨hup.1, hup.2, ⟨rfl, rfl, rfl⟩⟩⟩
      have ht : (Instr.takeDeferred bl.block).run P w = .ok ccalls { w with heap := w.heap.setIfInBounds bl.block (.deferred none) } := by
        simp [Instr.takeDeferred, getObj_run (P := P) h4 notCells_def, setObj_run h4 notCells_def]
      rw [hunw]
      simp only [Go.unwind, hfd, Sem.runT_eq, ht, GStep.bare_after]
      rfl
    · rename_i g captured htgt
      rw [htgt] at htg
      cases htg with
      | fn _ g' _ ds' hf' hc =>
      cases hf' with
      | func _ =>
      split at h
      · cases h
      rename_i hxn
      simp only [ok_bind, ok_inj] at h
      obtain ⟨a, ha, rfl⟩ := h
      have hargs : LRel R (d.args.toList ++ captured.toList) (eargs ++ ds').toList := by simpa using h1.args.append hc
      obtain ⟨e1, e2, fn, hfn⟩ := enterFrame_rel hargs ha
      have hfb : fn.body.isSome := by
        unfold enterFrame at ha
        rw [show (Tab.of P).func? g = some fn from hfn] at ha
        simp only at ha
        cases hb : fn.body with
        | none => rw [hb] at ha; cases ha
        | some c => rfl
      have hcf : callFunc P X m.σ g (d.args.toList ++ captured.toList) = .ok (.enter g (d.args.toList ++ captured.toList) m.σ) := by
        unfold callFunc
        rw [hxn, show (Tab.of P).func? g = some fn from hfn]
        simp only [hfb, if_true]
      obtain ⟨_, cargs, hrun, hlr⟩ := callFunc_run hX H hargs hcf
      have hfr : FRel R a (Frame.enter P g cargs .deferred) := (enterFrame_rel hlr ha).1
      refine ⟨R, Frame.enter P g cargs .deferred, { fr with defers := es } :: (l ++ base), w, .one (step_lone_go ?_), ⟨hfr, { fr with defers := es } :: l, rfl, F2.cons ⟨S.fr.fn, S.fr.tmps, S.fr.size, S.fr.todo, h2, S.fr.mode, S.fr.kind, S.fr.round, S.fr.nocall⟩ hl⟩, Kept.refl H⟩
      rw [hunw]
      have hinv : (Go.invoke (.fn (.func g) ds') eargs).run P w = .ok (.enter g cargs) w := hrun
      simp only [Go.unwind, hfd, callDeferred, Sem.runT_eq, hinv, GStep.bare_after]
      rfl
    · cases h
  · rename_i hds
    have hd : fr.defers = [] := by
      have := S.fr.defers
      rw [hds] at this
      exact this.of_nil
    have hmr := S.fr.mode
    split at h
    · rename_i e; exact absurd e hm
    · rename_i chain hch
      rw [hch] at hmr
      generalize hfm : fr.mode = fm at hmr
      cases hmr with
      | panicking _ cchain hcc =>
      split at h
      · rename_i c rest hcs
        simp only [ok_inj] at h; subst h
        rw [hcs] at hl
        obtain ⟨d, l', rfl, h1, h2⟩ := hl.of_cons
        refine ⟨R, d.raise cchain, l' ++ base, w, .one (step_lone_go ?_), ⟨raise_rel h1 hcc, l', rfl, h2⟩, Kept.refl H⟩
        have hcat : fr.catches P = false := by
          unfold Frame.catches
          split
          · rename_i e; exact absurd e (no_call S.fr _ _ _ _ _)
          · rfl
        rw [hunw]
        simp only [Go.unwind, hd, hfm, hcat, List.cons_append]
        rfl
      · rename_i hcs
        simp only [ok_inj] at h; subst h
        rw [hcs] at hl
        have := hl.of_nil; subst this
        have hfn := hf _ rfl
        exact ⟨R, fr, w, cchain, Steps.refl _ _, fun _ hex => ⟨hfm, hd, by rw [S.fr.fn, hfn]; exact hex⟩, by rw [S.fr.fn, hfn], hcc, Kept.refl H⟩
    · rename_i hret
      rw [hret] at hmr
      generalize hfm : fr.mode = fm at hmr
      cases hmr with
      | returning =>
      simp only [ok_bind] at h
      obtain ⟨v, hv, h⟩ := h
      obtain ⟨fn, c, h3, h4, h5⟩ := results_run H S.fr hv
      by_cases hcs : m.cs = []
      · unfold Ev.doReturn at h
        rw [hcs] at h
        simp only at h
        split at h
        case h_2 => cases h
        rename_i hk hdd
        simp only [ok_inj] at h; subst h
        rw [hcs] at hl
        have := hl.of_nil; subst this
        have hfn := hf _ rfl
        exact ⟨R, fr, w, c, Steps.refl _ _, fun _ _ => ⟨hfm, hd, by rw [S.fr.kind, hk], fn, h3, h4⟩, by rw [S.fr.fn, hfn], h5, Kept.refl H⟩
      · obtain ⟨m', fr', cs', rfl, h6, h7, h8⟩ := doReturn_sim (w := w) (P := P) S hcs h5 h
        refine Goes.same H h6 ?_ h8
        rw [hunw]
        simp only [Go.unwind, hd, hfm, h3, Sem.runT_eq, h4, GStep.bare_after, h7]
        rfl

end Go.Ev

namespace Go.Ev

variable {P : Program} {X : Specs} {R : Ren} {σ : St} {w : World} {base : List Frame}

theorem mode_run {a : AFrame} {f : Frame} (hf : FRel R a f) (h : a.mode = .run) : f.mode = .run := by
  have := hf.mode
  rw [h] at this
  generalize f.mode = x at this
  cases this
  rfl

theorem stepG_exec {fr : Frame} (h : fr.mode = .run) (cs : List Frame) : stepG P true { frame := fr, callers := cs, status := .running, dying := none } w = stepG.exec P true true fr cs none w := by
  simp only [stepG, h]

section
variable {m : MSt} {fr : Frame} {cs : List Frame} {f : FuncId} {st : Step}

/-- a move of the control alone -/
theorem todo_sim (S : SRel R base m fr cs) (H : HRel P R m.σ w.heap) {todo : List AItem} {todo' : List Item} (ht : F2 (IRel R) todo todo')
    (hst : (stepG P true { frame := fr, callers := cs, status := .running, dying := none } w).bare = .go { frame := { fr with todo := todo' }, callers := cs, status := .running, dying := none } w)
    (h : setTodo m todo = .ok st) : Res P R base m.σ w (lone fr cs w) f st := by
  simp only [setTodo, ok_inj] at h; subst h
  exact Goes.same H rfl hst ⟨⟨S.fr.fn, S.fr.tmps, S.fr.size, .inl ht, S.fr.defers, S.fr.mode, S.fr.kind, S.fr.round, nocall_of ht⟩, S.cs⟩

def leaveC (P : Program) (fr : Frame) (callers : List Frame) (w : World) (jump : Option Code) : GStep :=
  match fr.roundOf with
  | none => if jump matches none | some .ret then .go { frame := { fr with mode := .returning }, callers, status := .running, dying := none } w else .ended (.stuck "exit, goto: no such block or label" (fr.pos P)) w
  | some l =>
    let (r, es) := (Instr.endRound l jump).runT P w #[]
    GStep.after (seen P fr.fn es) <| match r with
    | .ok v w => Go.doReturn P true fr callers none v w
    | .halt _ w => .ended (.stuck "range over a function: no such loop" (fr.pos P)) w

theorem leave_sim (S : SRel R base m fr cs) (H : HRel P R m.σ w.heap) {jump : Option Code}
    (hst : stepG P true { frame := fr, callers := cs, status := .running, dying := none } w = leaveC P fr cs w jump) (h : Ev.leave m jump = .ok st) :
    Res P R base m.σ w (lone fr cs w) f st := by
  unfold Ev.leave at h
  split at h
  · rename_i hro
    have hro' := S.fr.round.none hro
    have go : ∀ (_ : (match jump with | none => true | some .ret => true | _ => false) = true), Goes P R base m.σ w (lone fr cs w) { m with fr := { m.fr with mode := .returning } } := by
      intro hj
      refine Goes.same H rfl (fr' := { fr with mode := .returning }) ?_ ⟨⟨S.fr.fn, S.fr.tmps, S.fr.size, S.fr.todo.imp id (fun h => ⟨h.1, fun e => by cases e⟩), S.fr.defers, .returning, S.fr.kind, S.fr.round, S.fr.nocall⟩, S.cs⟩
      rw [hst]
      unfold leaveC
      rw [hro']
      simp only
      split at hj
      · rfl
      · rfl
      · cases hj
    split at h
    · simp only [ok_inj] at h; subst h; exact go rfl
    · simp only [ok_inj] at h; subst h; exact go rfl
    · cases h
  · rename_i l hro
    obtain ⟨ll, hll, hro'⟩ := S.fr.round.some hro
    split at h
    · cases h
    rename_i x xs hcs
    simp only [ok_bind] at h
    obtain ⟨r, hr, h⟩ := h
    obtain ⟨l2, L, e1, e2, hL, hgl⟩ := getLoop_rel H hr
    rw [hll] at e1; cases e1
    obtain ⟨ol, ha, har⟩ : ∃ o, m.σ.heap.get l = some o ∧ o.ro = false := by
      simp only [getLoop, ok_bind] at hr
      obtain ⟨o, ho, hr⟩ := hr
      refine ⟨o, obj_get ho, ?_⟩
      cases o <;> first | rfl | (simp at hr)
    let L' : Loop := { L with state := if jump.isNone then .ready else .done, pending := jump }
    have hup := H.update (a := l) (l := ll) ha har hll (o' := .loop { r with state := if jump.isNone then .ready else .done, pending := jump }) (O' := .loop L') ⟨rfl, rfl, hL.fn, hL.tmps, hL.size, hL.params, hL.assign, hL.body, hL.defers⟩
    have hend : (Instr.endRound ll.block jump).run P w = .ok (.bool jump.isNone) { w with heap := w.heap.setIfInBounds ll.block (.loop L') } := by
      simp [Instr.endRound, hgl, setObj_run e2 notCells_loop, L']
    have S' : SRel R base { m with σ := { heap := m.σ.heap.set l (.loop { r with state := if jump.isNone then .ready else .done, pending := jump }), next := m.σ.next } } fr cs := ⟨S.fr, S.cs⟩
    obtain ⟨m', fr', cs', rfl, h6, h7, h8⟩ := doReturn_sim (w := { w with heap := w.heap.setIfInBounds ll.block (.loop L') }) (P := P) S' (by simp only [hcs]; exact fun e => by cases e) (.bool jump.isNone) h
    refine ⟨R, fr', cs', { w with heap := w.heap.setIfInBounds ll.block (.loop L') }, .one (step_lone_go ?_), h8, ?_⟩
    · rw [hst]
      unfold leaveC
      rw [hro']
      simp only [Sem.runT_eq, hend, GStep.bare_after, h7]
      rfl
    · rw [h6]
      exact ⟨hup.1, hup.2, ⟨rfl, rfl, rfl⟩⟩

theorem beginRound_sim (S : SRel R base m fr cs) (H : HRel P R m.σ w.heap) (hm : m.fr.mode = .run) {k : List AItem} {k' : List Item} (hk : F2 (IRel R) k k') (hft : fr.todo = .beginRound :: k') (h : Ev.beginRound m k = .ok st) :
    Res P R base m.σ w (lone fr cs w) f st := by
  obtain ⟨l, rfl, hl⟩ := S.cs
  unfold Ev.beginRound at h
  split at h
  · cases h
  rename_i a hro
  obtain ⟨ll, hll, hro'⟩ := S.fr.round.some hro
  simp only [ok_bind] at h
  obtain ⟨r, hr, h⟩ := h
  obtain ⟨l2, L, e1, e2, hL, hgl⟩ := getLoop_rel H hr
  rw [hll] at e1; cases e1
  split at h
  case h_2 => cases h
  rename_i hstate
  simp only [ok_inj] at h; subst h
  obtain ⟨ol, ha, har⟩ : ∃ o, m.σ.heap.get a = some o ∧ o.ro = false := by
    simp only [getLoop, ok_bind] at hr
    obtain ⟨o, ho, hr⟩ := hr
    refine ⟨o, obj_get ho, ?_⟩
    cases o <;> first | rfl | (simp at hr)
  let L' : Loop := { L with state := .busy }
  have hup := H.update (a := a) (l := ll) ha har hll (o' := .loop { r with state := .busy }) (O' := .loop L') ⟨rfl, hL.pending, hL.fn, hL.tmps, hL.size, hL.params, hL.assign, hL.body, hL.defers⟩
  have hLs : L.state = .ready := by rw [hL.state]; exact hstate
  have hrun : (Instr.beginRound ll.block).run P w = .ok () { w with heap := w.heap.setIfInBounds ll.block (.loop L') } := by
    simp [Instr.beginRound, hgl, setObj_run e2 notCells_loop, hLs, L']
  refine ⟨R, { fr with todo := k' }, l ++ base, { w with heap := w.heap.setIfInBounds ll.block (.loop L') }, .one (step_lone_go ?_), ⟨⟨S.fr.fn, S.fr.tmps, S.fr.size, .inl hk, S.fr.defers, S.fr.mode, S.fr.kind, S.fr.round, nocall_of hk⟩, l, rfl, hl⟩, ⟨hup.1, hup.2, ⟨rfl, rfl, rfl⟩⟩⟩
  rw [stepG_exec (mode_run S.fr hm)]
  obtain ⟨fn, tmps, todo, defers, mode, kind, ro⟩ := fr
  simp only at hft hro'
  subst hft hro'
  simp [stepG.exec, stepG.apply, Sem.runT_eq, hrun, Frame.finish]

theorem endRange_sim (S : SRel R base m fr cs) (H : HRel P R m.σ w.heap) (hm : m.fr.mode = .run) {a : Nat} {ll : Loc} (hll : R.loc a = some ll) {k : List AItem} {k' : List Item} (hk : F2 (IRel R) k k') (hft : fr.todo = .endRangeFunc ll.block :: k') (h : Ev.endRangeFunc m a k = .ok st) :
    Res P R base m.σ w (lone fr cs w) f st := by
  obtain ⟨l, rfl, hl⟩ := S.cs
  simp only [Ev.endRangeFunc, ok_bind] at h
  obtain ⟨r, hr, h⟩ := h
  obtain ⟨l2, L, e1, e2, hL, hgl⟩ := getLoop_rel H hr
  rw [hll] at e1; cases e1
  split at h
  · cases h
  rename_i hstate
  simp only [ok_inj] at h; subst h
  obtain ⟨ol, ha, har⟩ : ∃ o, m.σ.heap.get a = some o ∧ o.ro = false := by
    simp only [getLoop, ok_bind] at hr
    obtain ⟨o, ho, hr⟩ := hr
    refine ⟨o, obj_get ho, ?_⟩
    cases o <;> first | rfl | (simp at hr)
  let L' : Loop := { L with state := .exhausted }
  have hup := H.update (a := a) (l := ll) ha har hll (o' := .loop { r with state := .exhausted }) (O' := .loop L') ⟨rfl, hL.pending, hL.fn, hL.tmps, hL.size, hL.params, hL.assign, hL.body, hL.defers⟩
  have hLs : L.state ≠ .busy := by
    rw [hL.state]
    exact hstate
  have hrun : (Instr.endLoop ll.block).run P w = .ok L.pending { w with heap := w.heap.setIfInBounds ll.block (.loop L') } := by
    simp [Instr.endLoop, hgl, setObj_run e2 notCells_loop, hLs, L']
  have htodo : F2 (IRel R) ((r.pending.map AItem.code).toList ++ k) ((L.pending.map Item.code).toList ++ k') := by
    rw [hL.pending]
    cases r.pending with
    | none => simpa using hk
    | some c => exact F2.cons (.code c) hk
  refine ⟨R, { fr with todo := (L.pending.map Item.code).toList ++ k' }, l ++ base, { w with heap := w.heap.setIfInBounds ll.block (.loop L') }, .one (step_lone_go ?_), ⟨⟨S.fr.fn, S.fr.tmps, S.fr.size, .inl htodo, S.fr.defers, S.fr.mode, S.fr.kind, S.fr.round, nocall_of htodo⟩, l, rfl, hl⟩, ⟨hup.1, hup.2, ⟨rfl, rfl, rfl⟩⟩⟩
  rw [stepG_exec (mode_run S.fr hm)]
  obtain ⟨fn, tmps, todo, defers, mode, kind, ro⟩ := fr
  simp only at hft
  subst hft
  simp [stepG.exec, Sem.runT_eq, hrun]

theorem enterLoop_run (S : SRel R base m fr cs) (H : HRel P R m.σ w.heap) {params : Array Tmp} {assign body : Code} {l : Nat} {mark : List Deferred} {σ' : St} (h : Ev.enterLoop m params assign body = .ok (l, mark, σ')) :
    ∃ R' w' ll cmark, (Instr.enterLoop fr.fn fr.tmps params assign body fr.roundOf).run P w = .ok (ll.block, cmark) w' ∧ R'.loc l = some ll ∧ F2 (DRel R') mark cmark ∧ Kept P R m.σ w R' σ' w' := by
  unfold Ev.enterLoop at h
  split at h
  · rename_i a hro
    obtain ⟨ll, hll, hro'⟩ := S.fr.round.some hro
    simp only [ok_bind, ok_inj, Prod.mk.injEq] at h
    obtain ⟨r, hr, rfl, rfl, rfl⟩ := h
    obtain ⟨l2, L, e1, e2, hL, hgl⟩ := getLoop_rel H hr
    rw [hll] at e1; cases e1
    have hal := H.alloc (.loop { state := .ready, pending := none, fn := m.fr.fn, tmps := m.fr.tmps, sz := m.fr.sz, params, assign, body, defers := r.defers })
      (.loop { state := .ready, pending := none, fn := fr.fn, tmps := fr.tmps, params, assign, body, defers := L.defers }) 0
      ⟨rfl, rfl, S.fr.fn, S.fr.tmps.mono (Ren.le_add (get_none H) _), S.fr.size, rfl, rfl, rfl, let ⟨x, hx, hb⟩ := hL.defers; ⟨x, (Ren.le_add (get_none H) _).1 _ _ hx, hb⟩⟩
    refine ⟨_, { w with heap := w.heap.push (.loop { state := .ready, pending := none, fn := fr.fn, tmps := fr.tmps, params, assign, body, defers := L.defers }) }, ⟨w.heap.size, 0, 0⟩, [], ?_, Ren.add_loc _ _ _, F2.nil, ⟨hal.1, hal.2, ⟨rfl, rfl, rfl⟩⟩⟩
    simp [Instr.enterLoop, hro', hgl, run_newObj]
  · rename_i hro
    have hro' := S.fr.round.none hro
    simp only [ok_inj, Prod.mk.injEq] at h
    obtain ⟨rfl, rfl, rfl⟩ := h
    have hal := H.alloc (.deferred (some [])) (.deferred (some [])) 0 F2.nil
    have hle1 := Ren.le_add (get_none H) ⟨w.heap.size, 0, 0⟩
    let w1 : World := { w with heap := w.heap.push (.deferred (some [])) }
    have H1 : HRel P (R.add m.σ.next ⟨w.heap.size, 0, 0⟩) (Ev.alloc m.σ (.deferred (some []))) w1.heap := hal.1
    have hle2 := Ren.le_add (get_none H1) ⟨w1.heap.size, 0, 0⟩
    have hal2 := H1.alloc (.loop { state := .ready, pending := none, fn := m.fr.fn, tmps := m.fr.tmps, sz := m.fr.sz, params, assign, body, defers := m.σ.next })
      (.loop { state := .ready, pending := none, fn := fr.fn, tmps := fr.tmps, params, assign, body, defers := w.heap.size }) 0
      ⟨rfl, rfl, S.fr.fn, (S.fr.tmps.mono hle1).mono hle2, S.fr.size, rfl, rfl, rfl, ⟨_, hle2.1 _ _ (Ren.add_loc _ _ _), rfl⟩⟩
    refine ⟨(R.add m.σ.next ⟨w.heap.size, 0, 0⟩).add (Ev.alloc m.σ (.deferred (some []))).next ⟨w1.heap.size, 0, 0⟩, { w1 with heap := w1.heap.push (.loop { state := .ready, pending := none, fn := fr.fn, tmps := fr.tmps, params, assign, body, defers := w.heap.size }) }, ⟨w1.heap.size, 0, 0⟩, [{ target := .collected w.heap.size, args := #[] }], ?_, Ren.add_loc _ _ _, ?_, ?_⟩
    · simp [Instr.enterLoop, hro', run_newObj, w1]
      rfl
    · exact F2.cons ⟨.collected _ ⟨w.heap.size, 0, 0⟩ (hle2.1 _ _ (Ren.add_loc _ _ _)), LRel.nil _⟩ F2.nil
    · exact Kept.trans (w' := w1) ⟨hal.1, hal.2, ⟨rfl, rfl, rfl⟩⟩ ⟨hal2.1, hal2.2, ⟨rfl, rfl, rfl⟩⟩

end
end Go.Ev

namespace Go.Ev

variable {P : Program} {X : Specs} {R : Ren} {σ : St} {w : World} {base : List Frame}

def DrawnGood (P : Program) (X : Specs) (call : CallF) : Prop :=
  ∀ (R : Ren) (base : List Frame) (m : MSt) (fr : Frame) (cs : List Frame) (w : World) (id : Nat) (ops : Array Oper) (k : List AItem) (k' : List Item) (r : DRes), SRel R base m fr cs → HRel P R m.σ w.heap → m.fr.mode = .run →
    F2 (IRel R) k k' → fr.todo = .code (.region id ops true) :: k' → drawn P X call ops m.fr.sz m.fr.tmps m.σ = .ok r →
    match r with
    | .ok tm σ' => Goes P R base m.σ w (lone fr cs w) { fr := { m.fr with tmps := tm, todo := k }, cs := m.cs, σ := σ' }
    | .panic c tm σ' => Goes P R base m.σ w (lone fr cs w) { fr := Ev.raise { m.fr with tmps := tm, todo := [] } c, cs := m.cs, σ := σ' }

section
variable {m : MSt} {fr : Frame} {cs : List Frame} {f : FuncId} {st : Step}

theorem rangeFunc_sim (hX : SpecsOk P X) (S : SRel R base m fr cs) (H : HRel P R m.σ w.heap) (hm : m.fr.mode = .run) {k : List AItem} {k' : List Item} (hk : F2 (IRel R) k k') {g : Operand} {params : Array Tmp} {assign body : Code}
    (hft : fr.todo = .code (.rangeFunc g params assign body) :: k') (h : Ev.rangeFunc P X m g params assign body k = .ok st) : Res P R base m.σ w (lone fr cs w) f st := by
  obtain ⟨l, rfl, hl⟩ := S.cs
  simp only [Ev.rangeFunc, ok_bind] at h
  obtain ⟨fv, hfv, ⟨b, mark, σ'⟩, he, h⟩ := h
  obtain ⟨R', w', ll, cmark, hrun, hll, hmk, hkept⟩ := enterLoop_run (P := P) (w := w) S H he
  have S' := S.mono hkept.fr.le
  have hkk : F2 (IRel R') k k' := hk.mono fun _ _ x => x.mono hkept.fr.le
  have hfr := opd_rel H.glob S.fr.tmps hfv
  split at h
  case h_2 => cases h
  rename_i gi first captured
  split at h
  · cases h
  rename_i hxn
  simp only [ok_bind, ok_inj] at h
  obtain ⟨a, ha, rfl⟩ := h
  obtain ⟨g', ys, ds, e, hf', h1, h2⟩ := VRel.func_iff.1 hfr
  cases hf' with
  | func _ =>
  have hyv : VRel R' (.func (.yield b) #[] #[]) (.func (.yield ll.block) #[] #[]) := VRel.func_iff.2 ⟨_, _, _, rfl, .yield _ _ hll, LRel.nil _, LRel.nil _⟩
  have hargs : LRel R' (first.toList ++ [.func (.yield b) #[] #[]] ++ captured.toList) ((ys ++ (#[.func (.yield ll.block) #[] #[]] : Array Value)) ++ ds).toList := by
    have := ((h1.mono hkept.fr.le).append (LRel.cons hyv (LRel.nil _))).append (h2.mono hkept.fr.le)
    simpa using this
  obtain ⟨e1, e2, fn, hfn⟩ := enterFrame_rel hargs ha
  have hfb : fn.body.isSome := by
    unfold enterFrame at ha
    rw [show (Tab.of P).func? gi = some fn from hfn] at ha
    simp only at ha
    cases hb : fn.body with
    | none => rw [hb] at ha; cases ha
    | some c => rfl
  have hcf : callFunc P X σ' gi (first.toList ++ [.func (.yield b) #[] #[]] ++ captured.toList) = .ok (.enter gi (first.toList ++ [.func (.yield b) #[] #[]] ++ captured.toList) σ') := by
    unfold callFunc
    rw [hxn, show (Tab.of P).func? gi = some fn from hfn]
    simp only [hfb, if_true]
  obtain ⟨_, cargs, hrun2, hlr⟩ := callFunc_run hX hkept.rel hargs hcf
  have hfr2 : FRel R' a (Frame.enter P gi cargs .normal) := (enterFrame_rel hlr ha).1
  let fr2 : Frame := { fr with todo := .inRangeFunc ll.block :: k', defers := cmark ++ fr.defers }
  refine ⟨R', Frame.enter P gi cargs .normal, fr2 :: (l ++ base), w', .one (step_lone_go ?_), ⟨hfr2, fr2 :: l, rfl, F2.cons ⟨S'.fr.fn, S'.fr.tmps, S'.fr.size, .inl (F2.cons (.inRangeFunc _ _ hll) hkk), hmk.append S'.fr.defers, S'.fr.mode, S'.fr.kind, S'.fr.round, fun _ _ _ _ _ e => by cases e⟩ (hl.mono fun _ _ x => x.mono hkept.fr.le)⟩, hkept⟩
  rw [stepG_exec (mode_run S.fr hm)]
  have hce : ceval fr.tmps g = fr.eval g := by cases g <;> rfl
  have hev : ∀ (todo : List Item) (defers : List Deferred), ({ fr with todo := todo, defers := defers } : Frame).eval g = .func (.func gi) ys ds := by
    intro todo defers
    have : ({ fr with todo := todo, defers := defers } : Frame).eval g = fr.eval g := by cases g <;> rfl
    rw [this, ← hce, e]
  simp only [stepG.exec, hft, Sem.runT_eq, hrun, GStep.bare_after]
  refine apply_enter (fr := fr2) (fun d b r s k e => by cases e) ?_
  have hres : (Go.resolve fr2.eval { callee := .value g, args := #[.const (.func (.yield ll.block) #[] #[])], argTypes := #[] } 0).run P w' = .ok { target := .fn (.func gi) ds, args := ys ++ #[.func (.yield ll.block) #[] #[]] } w' := by
    have : fr2.eval g = .func (.func gi) ys ds := hev _ _
    have hmap : (#[Operand.const (.func (.yield ll.block) #[] #[])] : Array Operand).map fr2.eval = #[.func (.yield ll.block) #[] #[]] := by simp [Frame.eval]
    simp only [Go.resolve, this, Deferred.ofValue, hmap]
    rfl
  simp only [Sem.run_bind]
  erw [hres]
  exact hrun2

theorem execOper_sim (hX : SpecsOk P X) (S : SRel R base m fr cs) (H : HRel P R m.σ w.heap) (hm : m.fr.mode = .run) {ops : Array Oper} {o : Oper} {rest : List Oper} {k : List AItem} (htd : m.fr.todo = .inReg ops (o :: rest) :: k)
    (h : execOper P X m ops o rest k = .ok st) : Res P R base m.σ w (lone fr cs w) f st := by
  have ht := S.fr.run hm
  rw [htd] at ht
  obtain ⟨y, k', hft, h1, h2⟩ := ht.of_cons
  cases h1 with
  | inReg _ _ l hl =>
  cases l with
  | nil => simp at hl
  | cons i l =>
  simp only [List.map_cons, List.cons.injEq] at hl
  have hro : ∀ l c, fr.roundOf = some l → o.op = .defer c → ∃ x, m.fr.roundOf = some x := by
    intro l c hr _
    have := S.fr.round
    rw [hr] at this
    cases hmr : m.fr.roundOf with
    | none => rw [hmr] at this; simp [MRel] at this
    | some x => exact ⟨x, rfl⟩
  have hmode := mode_run S.fr hm
  have hev : fr.eval = ceval fr.tmps := by funext x; cases x <;> rfl
  simp only [execOper, ok_bind] at h
  obtain ⟨wb, hwb, h⟩ := h
  have hw := awanted_rel S.fr.tmps hwb
  split at h
  · rename_i hwt
    rw [hwt] at hw
    simp only [ok_bind] at h
    obtain ⟨r, hr, h⟩ := h
    have hret := aop_run hX H S.fr.tmps hr
    refine apply_sim (s := execOp (ceval fr.tmps) o) S H hret ?_ h
    rw [stepG_exec hmode]
    have hop : fr.oper? = some o := by simp only [Frame.oper?, hft, hl.1]
    have hb : ((ops[i]?).map (Region.wanted · (yielded ops fr.tmps))).getD false = true := by rw [hl.1]; exact hw
    simp only [stepG.exec, hft, hb, if_true, stepG.oper, hop]
    split
    · rename_i l' c hr' ho'
      exfalso
      obtain ⟨x, hx⟩ := hro _ _ hr' ho'
      have hflt : isFlt o = false := by simp [isFlt, ho']
      simp only [aop, hflt, Bool.false_eq_true, if_false, awrt, ho', ok_bind] at hr
      obtain ⟨d, hd, hr⟩ := hr
      split at hr
      · simp only [ok_inj] at hr; subst hr
        simp only [applyRet, hx, Option.isSome_some, if_true] at h
        cases h
      · cases hr
    · rw [hev]
  · rename_i hwt
    simp only [Bool.not_eq_true] at hwt
    rw [hwt] at hw
    simp only [ok_bind, ok_inj] at h
    obtain ⟨tm, htm, rfl⟩ := h
    have hfin : finish m.fr Go.undef = .ok { m.fr with tmps := tm, todo := .inReg ops rest :: k } := by
      unfold finish
      rw [htd]
      simp only [htm]
      rfl
    refine Goes.same H rfl (fr' := fr.finish Go.undef) ?_ ⟨finish_rel S.fr (VRel.undef R) hfin, S.cs⟩
    rw [stepG_exec hmode]
    have hb : ((ops[i]?).map (Region.wanted · (yielded ops fr.tmps))).getD false = false := by rw [hl.1]; exact hw
    simp only [stepG.exec, hft, hb, Bool.false_eq_true, if_false]
    rfl

theorem exec_end {fr : Frame} (hft : fr.todo = []) : stepG.exec P true true fr cs none w = leaveC P fr cs w none := by
  obtain ⟨fn, tmps, todo, defers, mode, kind, ro⟩ := fr
  simp only at hft
  subst hft
  cases ro <;> simp only [stepG.exec, leaveC] <;> rfl

theorem exec_ret {fr : Frame} {k : List Item} (hft : fr.todo = .code .ret :: k) : stepG.exec P true true fr cs none w = leaveC P fr cs w (some .ret) := by
  obtain ⟨fn, tmps, todo, defers, mode, kind, ro⟩ := fr
  simp only at hft
  subst hft
  cases ro <;> simp only [stepG.exec, leaveC] <;> rfl

theorem exec_exit {fr : Frame} {id : Nat} {k : List Item} (hft : fr.todo = .code (.exit id) :: k) (hx : Go.exitTo id k = none) : stepG.exec P true true fr cs none w = leaveC P fr cs w (some (.exit id)) := by
  obtain ⟨fn, tmps, todo, defers, mode, kind, ro⟩ := fr
  simp only at hft
  subst hft
  cases ro <;> simp only [stepG.exec, leaveC, hx, Option.elim] <;> rfl

theorem exec_goto {fr : Frame} {id : Nat} {k : List Item} (hft : fr.todo = .code (.goto id) :: k) (hx : Go.gotoIn id k = none) : stepG.exec P true true fr cs none w = leaveC P fr cs w (some (.goto id)) := by
  obtain ⟨fn, tmps, todo, defers, mode, kind, ro⟩ := fr
  simp only at hft
  subst hft
  cases ro <;> simp only [stepG.exec, leaveC, hx, Option.elim] <;> rfl

theorem exec_sim (hX : SpecsOk P X) {call : CallF} (hD : DrawnGood P X call) (S : SRel R base m fr cs) (H : HRel P R m.σ w.heap) (hm : m.fr.mode = .run) (h : Ev.exec P X call m = .ok st) : Res P R base m.σ w (lone fr cs w) f st := by
  have ht := S.fr.run hm
  have hmode := mode_run S.fr hm
  have hev : fr.eval = ceval fr.tmps := by funext x; cases x <;> rfl
  unfold Ev.exec at h
  split at h
  · rename_i htd
    rw [htd] at ht
    have hft := ht.of_nil
    refine leave_sim S H ?_ h
    rw [stepG_exec hmode]
    exact exec_end hft
  · rename_i x k htd
    rw [htd] at ht
    obtain ⟨y, k', hft, h1, h2⟩ := ht.of_cons
    cases h1 with
    | inBlock id => exact todo_sim S H h2 (by rw [stepG_exec hmode]; simp only [stepG.exec, hft]; rfl) h
    | inScope id => exact todo_sim S H h2 (by rw [stepG_exec hmode]; simp only [stepG.exec, hft]; rfl) h
    | inLoop c => exact todo_sim S H (F2.cons (.code c) (F2.cons (.inLoop c) h2)) (by rw [stepG_exec hmode]; simp only [stepG.exec, hft]; rfl) h
    | inReg ops rest l hl =>
      simp only at h
      split at h
      · have hln : l = [] := by
          cases l with
          | nil => rfl
          | cons _ _ => simp at hl
        subst hln
        exact todo_sim S H h2 (by rw [stepG_exec hmode]; simp only [stepG.exec, hft]; rfl) h
      · exact execOper_sim hX S H hm htd h
    | inRangeFunc a l hl => cases h
    | endRangeFunc a l hl => exact endRange_sim S H hm hl h2 hft h
    | beginRound => exact beginRound_sim S H hm h2 hft h
    | code c =>
      simp only at h
      split at h
      · exact todo_sim S H h2 (by rw [stepG_exec hmode]; simp only [stepG.exec, hft]; rfl) h
      · exact todo_sim S H h2 (by rw [stepG_exec hmode]; simp only [stepG.exec, hft]; rfl) h
      · exact todo_sim S H (F2.cons (.code _) (F2.cons (.code _) h2)) (by rw [stepG_exec hmode]; simp only [stepG.exec, hft]; rfl) h
      · rename_i c a b
        simp only [ok_bind] at h
        obtain ⟨v, hv, t, htb, h⟩ := h
        have e := asBool_rel (opd_rel H.glob S.fr.tmps hv) htb
        rw [← hev] at e
        exact todo_sim S H (F2.cons (.code _) h2) (by rw [stepG_exec hmode]; simp only [stepG.exec, hft, e]; rfl) h
      · exact todo_sim S H (F2.cons (.code _) (F2.cons (.inBlock _) h2)) (by rw [stepG_exec hmode]; simp only [stepG.exec, hft]; rfl) h
      · exact todo_sim S H (F2.cons (.code _) (F2.cons (.inLoop _) h2)) (by rw [stepG_exec hmode]; simp only [stepG.exec, hft]; rfl) h
      · exact todo_sim S H (F2.cons (.code _) (F2.cons (.inScope _) h2)) (by rw [stepG_exec hmode]; simp only [stepG.exec, hft]; rfl) h
      · rename_i id
        have hx := exitTo_rel id h2
        split at h
        · rename_i j hj
          rw [hj] at hx
          obtain ⟨j', h3, h4⟩ := hx
          exact todo_sim S H h4 (by rw [stepG_exec hmode]; simp only [stepG.exec, hft, h3, Option.elim]; rfl) h
        · rename_i hj
          rw [hj] at hx
          refine leave_sim S H ?_ h
          rw [stepG_exec hmode]
          exact exec_exit hft hx
      · rename_i lb
        have hx := gotoIn_rel lb h2
        split at h
        · rename_i j hj
          rw [hj] at hx
          obtain ⟨j', h3, h4⟩ := hx
          exact todo_sim S H h4 (by rw [stepG_exec hmode]; simp only [stepG.exec, hft, h3, Option.elim]; rfl) h
        · rename_i hj
          rw [hj] at hx
          refine leave_sim S H ?_ h
          rw [stepG_exec hmode]
          exact exec_goto hft hx
      · refine leave_sim S H ?_ h
        rw [stepG_exec hmode]
        exact exec_ret hft
      · exact rangeFunc_sim hX S H hm h2 hft h
      · rename_i id ops draw
        split at h
        · rename_i hd
          subst hd
          simp only [ok_bind] at h
          obtain ⟨r, hr, h⟩ := h
          have := hD R base m fr cs w id ops k k' r S H hm h2 hft hr
          split at h
          · simp only [ok_inj] at h; subst h; exact this
          · simp only [ok_inj] at h; subst h; exact this
        · rename_i hd
          simp only [Bool.not_eq_true] at hd
          subst hd
          refine todo_sim S H (F2.cons (.inReg ops ops.toList (List.range ops.size) ?_) h2) (by rw [stepG_exec hmode]; simp only [stepG.exec, hft]; rfl) h
          apply List.ext_getElem?
          intro i
          simp only [List.getElem?_map]
          by_cases hi : i < ops.size
          · simp [List.getElem?_range hi, hi]
          · simp [List.getElem?_eq_none (l := List.range ops.size) (i := i) (by simpa using hi), hi]
      · cases h

theorem astep_sim (hX : SpecsOk P X) {call : CallF} (hD : DrawnGood P X call) (S : SRel R base m fr cs) (H : HRel P R m.σ w.heap) (h : Ev.astep P X call m = .ok st) (hf : ∀ r, st = .done r → m.fr.fn = f) :
    Res P R base m.σ w (lone fr cs w) f st := by
  unfold Ev.astep at h
  split at h
  · rename_i hm
    exact exec_sim hX hD S H hm h
  · rename_i hm
    exact unwind_sim hX S H hm h hf

end
end Go.Ev
