/- A VERIFIED EVALUATOR, part three of four: regions whose order is drawn; whole runs; runs in a part of the heap. -/
import Derived.Test.YtdonhmehdlmgcaaGreatDoorLibB
import Derived.Orders
set_option linter.unusedVariables false
set_option linter.unusedSimpArgs false
namespace Go.Ev

variable {P : Program} {X : Specs} {σ : St} {tm tm' : Tr Value}

theorem opd_congr {x : Operand} (h : ∀ t, x = .tmp t → tm.get t = tm'.get t) : opd tm x = opd tm' x := by
  cases x with
  | tmp t => simp only [opd, h t rfl]
  | _ => rfl

theorem opds_congr : ∀ {xs : List Operand}, (∀ t, .tmp t ∈ xs → tm.get t = tm'.get t) → opds tm xs = opds tm' xs
  | [], _ => rfl
  | x :: xs, h => by
    simp only [opds, opd_congr (x := x) fun t e => h t (e ▸ List.mem_cons_self ..), opds_congr (xs := xs) fun t ht => h t (List.mem_cons_of_mem _ ht)]

theorem optOpd_congr {x : Option Operand} (h : ∀ t, x = some (.tmp t) → tm.get t = tm'.get t) : optOpd tm x = optOpd tm' x := by
  cases x with
  | none => rfl
  | some x => simp only [optOpd, opd_congr (x := x) fun t e => h t (by rw [e])]

theorem parts_congr : ∀ {xs : List (Nat × Operand)}, (∀ t, .tmp t ∈ xs.map (·.2) → tm.get t = tm'.get t) → parts tm xs = parts tm' xs
  | [], _ => rfl
  | (i, x) :: xs, h => by
    simp only [parts, opd_congr (x := x) fun t e => h t (by subst e; simp), parts_congr (xs := xs) fun t ht => h t (by simp at ht ⊢; exact .inr ht)]

theorem resolve_congr' {c : Call} {ty : TypeId} (h : ∀ t, .tmp t ∈ c.operands → tm.get t = tm'.get t) : resolve tm c ty = resolve tm' c ty := by
  have ha : opds tm c.args.toList = opds tm' c.args.toList := opds_congr fun t ht => h t (by simp only [Call.operands, Array.mem_append]; exact .inr (by simpa using ht))
  unfold resolve
  rw [ha]
  cases hc : c.callee with
  | builtin b => rfl
  | invoke r n => simp only [opd_congr (tm := tm) (tm' := tm') (x := r) fun t e => h t (by subst e; simp [Call.operands, hc])]
  | value f => simp only [opd_congr (tm := tm) (tm' := tm') (x := f) fun t e => h t (by subst e; simp [Call.operands, hc])]

theorem aflt_congr {o : Oper} (h : ∀ t, .tmp t ∈ o.op.operands → tm.get t = tm'.get t) : aflt P σ tm o = aflt P σ tm' o := by
  obtain ⟨dst, op, type, pos, after, guard⟩ := o
  simp only at h
  cases op <;> simp only [Op.operands] at h <;> simp only [aflt]
  case move x => rw [opd_congr (x := x) fun t e => h t (by simp [e])]
  case assign x => rw [opd_congr (x := x) fun t e => h t (by simp [e])]
  case pick c a b => rw [opd_congr (x := c) fun t e => h t (by simp [e]), opd_congr (x := a) fun t e => h t (by simp [e]), opd_congr (x := b) fun t e => h t (by simp [e])]
  case box el x => rw [opd_congr (x := x) fun t e => h t (by simp [e])]
  case build t ps => simp only [aBuild, parts_congr (xs := ps.toList) fun t ht => h t (by simpa using ht)]
  case buildSlice t n ps => simp only [aBuildSlice, parts_congr (xs := ps.toList) fun t ht => h t (by simpa using ht)]
  case load t x => rw [opd_congr (x := x) fun t e => h t (by simp [e])]
  case nilCheck x => rw [opd_congr (x := x) fun t e => h t (by simp [e])]
  case binOp op t x y yt => rw [opd_congr (x := x) fun t e => h t (by simp [e]), opd_congr (x := y) fun t e => h t (by simp [e])]
  case unOp op t x => rw [opd_congr (x := x) fun t e => h t (by simp [e])]
  case convert s d x => rw [opd_congr (x := x) fun t e => h t (by simp [e])]
  case makeInterface t x => rw [opd_congr (x := x) fun t e => h t (by simp [e])]
  case makeFunc fn first captured =>
    rw [opds_congr (xs := first.toList) fun t ht => h t (by simp only [Array.mem_append]; exact .inl (by simpa using ht)), opds_congr (xs := captured.toList) fun t ht => h t (by simp only [Array.mem_append]; exact .inr (by simpa using ht))]
  case makeMap t r => simp only [aMakeMap, optOpd_congr (x := r) fun t e => h t (by simp [e])]
  case makeSlice t l c => simp only [aMakeSlice, opd_congr (tm := tm) (tm' := tm') (x := l) fun t e => h t (by simp [e]), opd_congr (tm := tm) (tm' := tm') (x := c) fun t e => h t (by simp [e])]
  case slice t x lo hi mx =>
    rw [opd_congr (x := x) fun t e => h t (by simp [e]), optOpd_congr (x := lo) fun t e => h t (by simp [e]), optOpd_congr (x := hi) fun t e => h t (by simp [e]), optOpd_congr (x := mx) fun t e => h t (by simp [e])]
  case fieldAddr s x f => simp only [aFieldAddr, opd_congr (tm := tm) (tm' := tm') (x := x) fun t e => h t (by simp [e])]
  case field s x f => simp only [aField, opd_congr (tm := tm) (tm' := tm') (x := x) fun t e => h t (by simp [e])]
  case indexAddr t x ix => simp only [aIndexAddr, opd_congr (tm := tm) (tm' := tm') (x := x) fun t e => h t (by simp [e]), opd_congr (tm := tm) (tm' := tm') (x := ix) fun t e => h t (by simp [e])]
  case index t x ix => simp only [aIndex, opd_congr (tm := tm) (tm' := tm') (x := x) fun t e => h t (by simp [e]), opd_congr (tm := tm) (tm' := tm') (x := ix) fun t e => h t (by simp [e])]
  case lookup t x ix ok => simp only [aLookup, opd_congr (tm := tm) (tm' := tm') (x := x) fun t e => h t (by simp [e]), opd_congr (tm := tm) (tm' := tm') (x := ix) fun t e => h t (by simp [e])]
  case range t x => simp only [aRange, opd_congr (tm := tm) (tm' := tm') (x := x) fun t e => h t (by simp [e])]
  case entry it => simp only [aEntry, opd_congr (tm := tm) (tm' := tm') (x := it) fun t e => h t (by simp [e])]
  case typeAssert x t at_ ok => simp only [aTypeAssert, opd_congr (tm := tm) (tm' := tm') (x := x) fun t e => h t (by simp [e])]
  case extract x ix => rw [opd_congr (x := x) fun t e => h t (by simp [e])]
  case call c =>
    rw [opds_congr (xs := c.args.toList) fun t ht => h t (by simp only [Call.operands, Array.mem_append]; exact .inr (by simpa using ht))]

theorem awrt_congr {o : Oper} (h : ∀ t, .tmp t ∈ o.op.operands → tm.get t = tm'.get t) : awrt P X σ tm o = awrt P X σ tm' o := by
  obtain ⟨dst, op, type, pos, after, guard⟩ := o
  simp only at h
  cases op <;> simp only [Op.operands] at h <;> simp only [awrt]
  case store t a x => simp only [aStore, opd_congr (tm := tm) (tm' := tm') (x := a) fun t e => h t (by simp [e]), opd_congr (tm := tm) (tm' := tm') (x := x) fun t e => h t (by simp [e])]
  case mapUpdate t m k x => simp only [aMapUpdate, opd_congr (tm := tm) (tm' := tm') (x := m) fun t e => h t (by simp [e]), opd_congr (tm := tm) (tm' := tm') (x := k) fun t e => h t (by simp [e]), opd_congr (tm := tm) (tm' := tm') (x := x) fun t e => h t (by simp [e])]
  case insert t m k x => simp only [aMapUpdate, opd_congr (tm := tm) (tm' := tm') (x := m) fun t e => h t (by simp [e]), opd_congr (tm := tm) (tm' := tm') (x := k) fun t e => h t (by simp [e]), opd_congr (tm := tm) (tm' := tm') (x := x) fun t e => h t (by simp [e])]
  case next it b => simp only [aNext, opd_congr (tm := tm) (tm' := tm') (x := it) fun t e => h t (by simp [e])]
  case call c => rw [resolve_congr' h]
  case defer c => rw [resolve_congr' h]
  case panic x => rw [opd_congr (x := x) fun t e => h t (by simp [e])]

theorem awanted_congr {ops : Array Oper} {o : Oper} (h : ∀ g b d, o.guard = some (g, b) → (ops[g]?).bind (·.dst) = some d → tm.get d = tm'.get d) : awanted ops tm o = awanted ops tm' o := by
  unfold awanted
  cases hg : o.guard with
  | none => rfl
  | some p =>
    obtain ⟨g, b⟩ := p
    simp only
    cases hd : (ops[g]?).bind (·.dst) with
    | none => rfl
    | some d => simp only [h g b d hg hd]

theorem names_congr {ops : Array Oper} {o : Oper} (h : ∀ t ∈ namesOf ops.toList o, tm.get t = tm'.get t) :
    aflt P σ tm o = aflt P σ tm' o ∧ awrt P X σ tm o = awrt P X σ tm' o ∧ awanted ops tm o = awanted ops tm' o := by
  have h1 : ∀ t, .tmp t ∈ o.op.operands → tm.get t = tm'.get t := fun t ht => h t (by
    simp only [namesOf, List.mem_append, List.mem_filterMap]
    exact .inl ⟨.tmp t, by simpa using ht, rfl⟩)
  refine ⟨aflt_congr h1, awrt_congr h1, awanted_congr fun g b d hg hd => h d ?_⟩
  simp only [namesOf, List.mem_append]
  refine .inr ?_
  rw [hg]
  simp only [Array.getElem?_toList, hd]
  simp

theorem noHeap_congr {σ σ' : St} {o : Oper} (h : noHeap o = true) : aflt P σ tm o = aflt P σ' tm o := by
  obtain ⟨dst, op, type, pos, after, guard⟩ := o
  cases op <;> simp only [noHeap] at h <;> first | rfl | (cases h)

end Go.Ev

namespace Go.Ev

/-! ### the canonical run of a region that draws its order -/

section
variable (P : Program) (X : Specs) (call : CallF) (ops : Array Oper) (bs : List Nat) (sz n0 : Nat)

/-- one event: from s, the event e, to s' -/
inductive One : DR → Evt → DR → Prop
  | flt {s s' : DR} {i : Nat} {o : Oper} {w : Bool} {fv : FV} {tm : Tr Value} : ops[i]? = some o → s.done.testBit i = false → subMask (bs.getD i 0) s.done = true → awanted ops s.tm o = .ok w →
      (w = true → aflt P s.base s.tm o = .ok fv) → (w = false → fv = .val undef) → putTm s.tm sz o.dst (fvVal n0 i fv) = .ok tm →
      s' = { tm := tm, base := s.base, pend := fvPend n0 i s.pend fv, done := s.done ||| 2 ^ i, since := s.since ||| 2 ^ i, lastW := s.lastW, past := s.past, evts := { i := i, o := o, wanted := w, tm := s.tm, val := fvVal n0 i fv, fv := some fv, seg := s.past.length } :: s.evts } →
      One s { i := i, o := o, wanted := w, tm := s.tm, val := fvVal n0 i fv, fv := some fv, seg := s.past.length } s'
  | wrt {s s' : DR} {i : Nat} {o : Oper} {r : Ret} {v : Value} {σ : St} {tm : Tr Value} : ops[i]? = some o → s.done.testBit i = false → subMask (bs.getD i 0) s.done = true → subMask s.since (bs.getD i 0) = true →
      lastOk (bs.getD i 0) s.lastW = true → awanted ops s.tm o = .ok true → awrt P X (addPend s.base s.pend) s.tm o = .ok r → outcome call r = .ok (.ret v σ) → putTm s.tm sz o.dst v = .ok tm →
      s' = { tm := tm, base := σ, pend := [], done := s.done ||| 2 ^ i, since := 0, lastW := some i, past := s.base :: s.past, evts := { i := i, o := o, wanted := true, tm := s.tm, val := v, fv := none, seg := s.past.length } :: s.evts } →
      One s { i := i, o := o, wanted := true, tm := s.tm, val := v, fv := none, seg := s.past.length } s'

inductive To : DR → DR → Prop
  | refl (s : DR) : To s s
  | step {s s1 s2 : DR} {e : Evt} : To s s1 → One P X call ops bs sz n0 s1 e s2 → To s s2
end

section
variable {P : Program} {X : Specs} {call : CallF} {ops : Array Oper} {bs : List Nat} {sz n0 : Nat} {s s1 s2 s3 s' : DR} {e : Evt}

theorem To.trans (a : To P X call ops bs sz n0 s s1) (b : To P X call ops bs sz n0 s1 s2) : To P X call ops bs sz n0 s s2 := by
  induction b with
  | refl => exact a
  | step _ h ih => exact .step ih h

theorem runFlt_one {i : Nat} {o : Oper} (ho : ops[i]? = some o) (h : runFlt P ops bs sz n0 i o s = .ok s') : ∃ e, One P X call ops bs sz n0 s e s' := by
  unfold runFlt at h
  split at h
  · cases h
  rename_i h1
  split at h
  · cases h
  rename_i h2
  simp only [ok_bind] at h
  obtain ⟨w, hw, h⟩ := h
  cases w with
  | true =>
    simp only [if_true, ok_bind, ok_inj] at h
    obtain ⟨fv, hfv, tm, htm, rfl⟩ := h
    exact ⟨_, .flt ho (by simpa using h1) (by simpa using h2) hw (fun _ => hfv) (fun e => by cases e) htm rfl⟩
  | false =>
    simp only [Bool.false_eq_true, if_false, ok_bind, ok_inj] at h
    obtain ⟨fv, rfl, tm, htm, rfl⟩ := h
    exact ⟨_, .flt ho (by simpa using h1) (by simpa using h2) hw (fun e => by cases e) (fun _ => rfl) htm rfl⟩

theorem runMask_to {mask : Nat} : ∀ {l : List (Oper × Nat)} {s s' : DR}, (∀ p ∈ l, ops[p.2]? = some p.1) → runMask P ops bs sz n0 mask l s = .ok s' → To P X call ops bs sz n0 s s'
  | [], s, s', _, h => by cases h; exact .refl _
  | (o, i) :: l, s, s', hl, h => by
    simp only [runMask] at h
    split at h
    · simp only [ok_bind] at h
      obtain ⟨s1, h1, h2⟩ := h
      obtain ⟨e, he⟩ := runFlt_one (X := X) (call := call) (hl _ (List.mem_cons_self ..)) h1
      exact (To.step (.refl _) he).trans (runMask_to (fun p hp => hl p (List.mem_cons_of_mem _ hp)) h2)
    · exact runMask_to (fun p hp => hl p (List.mem_cons_of_mem _ hp)) h

/-- what a panic out of the region is -/
structure PanicAt (P : Program) (X : Specs) (call : CallF) (ops : Array Oper) (bs : List Nat) (c : List PanicEntry) (σ : St) (s : DR) (i : Nat) (o : Oper) : Prop where
  op : ops[i]? = some o
  fresh : s.done.testBit i = false
  preds : subMask (bs.getD i 0) s.done = true
  since : subMask s.since (bs.getD i 0) = true
  last : lastOk (bs.getD i 0) s.lastW = true
  wanted : awanted ops s.tm o = .ok true
  out : ∃ r, awrt P X (addPend s.base s.pend) s.tm o = .ok r ∧ outcome call r = .ok (.panic c σ)

def WRok (P : Program) (X : Specs) (call : CallF) (ops : Array Oper) (bs : List Nat) (sz n0 : Nat) (s : DR) : WR → Prop
  | .ok s' => To P X call ops bs sz n0 s s'
  | .panic c σ s' i o => To P X call ops bs sz n0 s s' ∧ PanicAt P X call ops bs c σ s' i o

theorem runW_ok {i : Nat} {o : Oper} (ho : ops[i]? = some o) {r : WR} (h : runW P X call ops bs sz n0 i o s = .ok r) : WRok P X call ops bs sz n0 s r := by
  simp only [runW, ok_bind] at h
  obtain ⟨w, hw, h⟩ := h
  split at h
  · simp only [ok_bind, ok_inj] at h
    obtain ⟨s1, h1, rfl⟩ := h
    obtain ⟨e, he⟩ := runFlt_one (X := X) (call := call) ho h1
    exact To.step (.refl _) he
  rename_i hwt
  have hwt : w = true := by simpa using hwt
  subst hwt
  split at h
  · cases h
  rename_i h1
  split at h
  · cases h
  rename_i h2
  have h2 : (subMask (bs.getD i 0) s.done && subMask s.since (bs.getD i 0) && lastOk (bs.getD i 0) s.lastW) = true := by
    cases hb : (subMask (bs.getD i 0) s.done && subMask s.since (bs.getD i 0) && lastOk (bs.getD i 0) s.lastW) with
    | true => rfl
    | false => rw [hb] at h2; exact absurd rfl h2
  rw [Bool.and_eq_true, Bool.and_eq_true] at h2
  simp only [ok_bind] at h
  obtain ⟨r1, hr1, c, hc, h⟩ := h
  split at h
  · simp only [ok_bind, ok_inj] at h
    obtain ⟨tm, htm, rfl⟩ := h
    exact To.step (.refl _) (.wrt ho (by simpa using h1) h2.1.1 h2.1.2 h2.2 hw hr1 hc htm rfl)
  · simp only [ok_inj] at h; subst h
    exact ⟨.refl _, ⟨ho, by simpa using h1, h2.1.1, h2.1.2, h2.2, hw, r1, hr1, hc⟩⟩

theorem runWs_ok {l : List (Oper × Nat)} (hl : ∀ p ∈ l, ops[p.2]? = some p.1) : ∀ {ws : List (Oper × Nat)} {s : DR} {r : WR}, (∀ p ∈ ws, ops[p.2]? = some p.1) → runWs P X call ops bs sz n0 l ws s = .ok r → WRok P X call ops bs sz n0 s r
  | [], s, r, _, h => by
    simp only [runWs, ok_bind, ok_inj] at h
    obtain ⟨s1, h1, rfl⟩ := h
    exact runMask_to hl h1
  | (o, i) :: ws, s, r, hw, h => by
    simp only [runWs] at h
    have hw' : ∀ p ∈ ws, ops[p.2]? = some p.1 := fun p hp => hw p (List.mem_cons_of_mem _ hp)
    split at h
    · exact runWs_ok hl hw' h
    simp only [ok_bind] at h
    obtain ⟨s1, h1, r1, h2, h⟩ := h
    have t1 := runMask_to (X := X) (call := call) hl h1
    have t2 := runW_ok (hw _ (List.mem_cons_self ..)) h2
    split at h
    · rename_i s2
      have t3 := runWs_ok hl hw' h
      have t2 : To P X call ops bs sz n0 s1 s2 := t2
      cases r with
      | ok s' => exact (t1.trans t2).trans t3
      | panic c σ s' i o => exact ⟨(t1.trans t2).trans t3.1, t3.2⟩
    · simp only [ok_inj] at h; subst h
      exact ⟨t1.trans t2.1, t2.2⟩

/-! ### laws of the canonical run -/

theorem sub_mask {a b j : Nat} (h : subMask a b = true) (hj : a.testBit j = true) : b.testBit j = true := by
  have : a &&& b = a := by simpa [subMask] using h
  rw [← this, Nat.testBit_and] at hj
  simp at hj
  exact hj.2

theorem bit_or {a i j : Nat} : (a ||| 2 ^ i).testBit j = (a.testBit j || decide (i = j)) := by
  rw [Nat.testBit_or, Nat.testBit_two_pow]

theorem One.evts (h : One P X call ops bs sz n0 s e s') : s'.evts = e :: s.evts := by cases h <;> (rename_i hs; subst hs; rfl)
theorem One.done (h : One P X call ops bs sz n0 s e s') : s'.done = s.done ||| 2 ^ e.i := by cases h <;> (rename_i hs; subst hs; rfl)
theorem One.op (h : One P X call ops bs sz n0 s e s') : ops[e.i]? = some e.o := by cases h <;> assumption
theorem One.fresh (h : One P X call ops bs sz n0 s e s') : s.done.testBit e.i = false := by cases h <;> assumption
theorem One.preds (h : One P X call ops bs sz n0 s e s') : subMask (bs.getD e.i 0) s.done = true := by cases h <;> assumption
theorem One.tm (h : One P X call ops bs sz n0 s e s') : e.tm = s.tm := by cases h <;> rfl
theorem One.put (h : One P X call ops bs sz n0 s e s') : putTm s.tm sz e.o.dst e.val = .ok s'.tm := by cases h <;> (rename_i hs; subst hs; assumption)
theorem One.seg (h : One P X call ops bs sz n0 s e s') : e.seg = s.past.length := by cases h <;> rfl

theorem To.sub (h : To P X call ops bs sz n0 s s') : ∀ e ∈ s.evts, e ∈ s'.evts := by
  induction h with
  | refl => exact fun _ h => h
  | step _ h1 ih => intro e he; rw [h1.evts]; exact List.mem_cons_of_mem _ (ih e he)

theorem To.doneSub (h : To P X call ops bs sz n0 s s') {j : Nat} (hj : s.done.testBit j = true) : s'.done.testBit j = true := by
  induction h with
  | refl => exact hj
  | step _ h1 ih => rw [h1.done, bit_or, ih]; rfl

/-- the events of a run from s: those of s, and new ones, split at any -/
theorem To.split (h : To P X call ops bs sz n0 s s') : ∀ e ∈ s'.evts, e ∈ s.evts ∨ ∃ s1 s2, To P X call ops bs sz n0 s s1 ∧ One P X call ops bs sz n0 s1 e s2 ∧ To P X call ops bs sz n0 s2 s' := by
  induction h with
  | refl => exact fun e he => .inl he
  | step t h1 ih =>
    intro e he
    rw [h1.evts] at he
    cases he with
    | head => exact .inr ⟨_, _, t, h1, .refl _⟩
    | tail _ he =>
      rcases ih e he with h | ⟨s1, s2, a, b, c⟩
      · exact .inl h
      · exact .inr ⟨s1, s2, a, b, .step c h1⟩

def Bits (s : DR) : Prop := ∀ j, s.done.testBit j = true ↔ ∃ e ∈ s.evts, e.i = j

theorem One.bits (h : One P X call ops bs sz n0 s e s') (hb : Bits s) : Bits s' := by
  intro j
  rw [h.done, h.evts, bit_or]
  simp only [Bool.or_eq_true, decide_eq_true_eq, List.mem_cons, exists_eq_or_imp]
  rw [hb j]
  exact or_comm

theorem To.bits (h : To P X call ops bs sz n0 s s') (hb : Bits s) : Bits s' := by
  induction h with
  | refl => exact hb
  | step _ h1 ih => exact h1.bits ih

end
end Go.Ev

namespace Go.Ev

section
variable {P : Program} {X : Specs} {call : CallF} {ops : Array Oper} {bs : List Nat} {sz n0 : Nat} {s s1 s2 s3 s' : DR} {e : Evt}

/-- only operations that do not write, from s to s' -/
structure Fl (n0 : Nat) (s s' : DR) : Prop where
  past : s'.past = s.past
  base : s'.base = s.base
  evts : ∀ e ∈ s'.evts, e ∈ s.evts ∨ (e.fv ≠ none ∧ s'.since.testBit e.i = true)
  pend : ∀ a o, (a, o) ∈ s'.pend → (a, o) ∈ s.pend ∨ ∃ e ∈ s'.evts, ∃ mk, s.done.testBit e.i = false ∧ a = n0 + e.i ∧ e.fv = some (.new mk o)

/-- a write came between -/
structure Wr (P : Program) (X : Specs) (call : CallF) (ops : Array Oper) (bs : List Nat) (sz n0 : Nat) (s s' : DR) : Prop where
  past : ∃ l, s'.past = l ++ s.base :: s.past
  last : ∃ e t t', s'.lastW = some e.i ∧ e.fv = none ∧ To P X call ops bs sz n0 s t ∧ One P X call ops bs sz n0 t e t' ∧ To P X call ops bs sz n0 t' s'

theorem To.cases_w (h : To P X call ops bs sz n0 s s') : Fl n0 s s' ∨ Wr P X call ops bs sz n0 s s' := by
  induction h with
  | refl => exact .inl ⟨rfl, rfl, fun _ h => .inl h, fun _ _ h => .inl h⟩
  | @step s1 s2 e t h1 ih =>
    have hev := h1.evts
    have hfr := h1.fresh
    cases h1 with
    | @flt _ i o w fv tm ho hd hp hw hf hu hput hs =>
      subst hs
      rcases ih with f | ⟨⟨l, hl⟩, ⟨e, t0, t1, h2, h3, h4, h5, h6⟩⟩
      · refine .inl ⟨f.past, f.base, fun e he => ?_, fun a ob hob => ?_⟩
        · simp only [List.mem_cons] at he
          rcases he with rfl | he
          · exact .inr ⟨by simp, by simp [bit_or]⟩
          · exact (f.evts e he).imp id fun x => ⟨x.1, by simp only [bit_or, x.2, Bool.true_or]⟩
        · have hold : (a, ob) ∈ s1.pend → (a, ob) ∈ s.pend ∨ ∃ e ∈ ({ i := i, o := o, wanted := w, tm := s1.tm, val := fvVal n0 i fv, fv := some fv, seg := s1.past.length } : Evt) :: s1.evts, ∃ mk, s.done.testBit e.i = false ∧ a = n0 + e.i ∧ e.fv = some (.new mk ob) := fun hx =>
            (f.pend a ob hx).imp id fun ⟨e, he, mk, x⟩ => ⟨e, List.mem_cons_of_mem _ he, mk, x⟩
          cases fv with
          | val v => exact hold hob
          | dead mk => exact hold hob
          | new mk o' =>
            simp only [fvPend, List.mem_append, List.mem_singleton, Prod.mk.injEq] at hob
            rcases hob with hob | ⟨rfl, rfl⟩
            · exact hold hob
            · refine .inr ⟨_, List.mem_cons_self .., mk, ?_, rfl, rfl⟩
              cases hx : s.done.testBit i with
              | false => rfl
              | true => rw [t.doneSub hx] at hd; cases hd
      · exact .inr ⟨⟨l, hl⟩, ⟨e, t0, t1, h2, h3, h4, h5, .step h6 (.flt ho hd hp hw hf hu hput rfl)⟩⟩
    | @wrt _ i o r v σ tm ho hd hp hsn hl hw hr hc hput hs =>
      subst hs
      refine .inr ⟨?_, ⟨_, s1, _, rfl, rfl, t, .wrt ho hd hp hsn hl hw hr hc hput rfl, .refl _⟩⟩
      rcases ih with f | ⟨⟨l, hl⟩, _⟩
      · exact ⟨[], by simp [f.past, f.base]⟩
      · exact ⟨s1.base :: l, by simp [hl]⟩

theorem To.past (h : To P X call ops bs sz n0 s s') : ∃ l, s'.past = l ++ s.past := by
  rcases h.cases_w with f | ⟨⟨l, hl⟩, _⟩
  · exact ⟨[], by simp [f.past]⟩
  · exact ⟨l ++ [s.base], by simp [hl]⟩

theorem To.writes (h : To P X call ops bs sz n0 s s') : ∃ l, writesOf s'.evts = l ++ writesOf s.evts ∧ ∀ i ∈ l, ∃ e ∈ s'.evts, e.i = i ∧ e.fv = none ∧ s.done.testBit i = false := by
  induction h with
  | refl => exact ⟨[], rfl, by simp⟩
  | @step s1 s2 e t h1 ih =>
    obtain ⟨l, hl, hm⟩ := ih
    have hfr : s.done.testBit e.i = false := by
      cases hx : s.done.testBit e.i with
      | false => rfl
      | true => have := h1.fresh; rw [t.doneSub hx] at this; cases this
    rw [h1.evts]
    cases hv : e.fv with
    | some fv => exact ⟨l, by simp [writesOf, hv, hl], fun i hi => let ⟨e', h2, h3⟩ := hm i hi; ⟨e', List.mem_cons_of_mem _ h2, h3⟩⟩
    | none =>
      refine ⟨e.i :: l, by simp [writesOf, hv, hl], fun i hi => ?_⟩
      cases hi with
      | head => exact ⟨e, List.mem_cons_self .., rfl, hv, hfr⟩
      | tail _ hi => obtain ⟨e', h2, h3⟩ := hm i hi; exact ⟨e', List.mem_cons_of_mem _ h2, h3⟩

theorem To.writesLen (h : To P X call ops bs sz n0 s s') (hs : (writesOf s.evts).length = s.past.length) : (writesOf s'.evts).length = s'.past.length := by
  induction h with
  | refl => exact hs
  | step t h1 ih =>
    have := ih
    cases h1 <;> (rename_i hs'; subst hs'; simp [writesOf, this])

/-- the temporaries behind the events of D -/
structure TmOk (s0 sF : DR) (D : Nat → Prop) (tm : Tr Value) : Prop where
  val : ∀ e ∈ sF.evts, D e.i → ∀ d, e.o.dst = some d → tm.get d = some e.val
  old : ∀ t, (∀ e ∈ sF.evts, D e.i → e.o.dst ≠ some t) → tm.get t = s0.tm.get t

theorem putTm_get {tm tm' : Tr Value} {sz : Nat} {d : Option Tmp} {v : Value} (h : putTm tm sz d v = .ok tm') (t : Nat) : tm'.get t = if d = some t then some v else tm.get t := by
  cases d with
  | none => cases h; simp
  | some d =>
    simp only [putTm] at h
    split at h
    · cases h
      rw [Tr.get_set]
      by_cases ht : t = d
      · simp [ht]
      · simp [ht, Ne.symm ht]
    · cases h

/-- different operations write different temporaries -/
def Dsts (ops : Array Oper) : Prop := ∀ (i j : Nat) (o w : Oper), ops[i]? = some o → ops[j]? = some w → i ≠ j → ∀ d, w.dst = some d → o.dst ≠ some d

theorem TmOk.put {s0 sF : DR} (hd : Dsts ops) (hop : ∀ e ∈ sF.evts, ops[e.i]? = some e.o) (hu : ∀ e ∈ sF.evts, ∀ e' ∈ sF.evts, e.i = e'.i → e = e') {D : Nat → Prop} {tm tm' : Tr Value} (h : TmOk s0 sF D tm) (he : e ∈ sF.evts) (hD : ¬ D e.i)
    (hp : putTm tm sz e.o.dst e.val = .ok tm') : TmOk s0 sF (fun i => D i ∨ i = e.i) tm' := by
  refine ⟨fun e' he' hD' d hd' => ?_, fun t ht => ?_⟩
  · rw [putTm_get hp]
    rcases hD' with hD' | heq
    · have hne : e.i ≠ e'.i := fun x => hD (x ▸ hD')
      rw [if_neg (hd e.i e'.i e.o e'.o (hop e he) (hop e' he') hne d hd')]
      exact h.val e' he' hD' d hd'
    · have : e' = e := hu e' he' e he heq
      subst this
      rw [if_pos hd']
  · rw [putTm_get hp, if_neg (ht e he (.inr rfl))]
    exact h.old t fun e' he' hD' => ht e' he' (.inl hD')

theorem TmOk.congr {s0 sF : DR} {D D' : Nat → Prop} {tm : Tr Value} (h : TmOk s0 sF D tm) (hd : ∀ i, D i ↔ D' i) : TmOk s0 sF D' tm :=
  ⟨fun e he hD => h.val e he ((hd _).2 hD), fun t ht => h.old t fun e he hD => ht e he ((hd _).1 hD)⟩

/-- the canonical run's own temporaries -/
theorem To.tmOk {s0 sF : DR} (hd : Dsts ops) (hop : ∀ e ∈ sF.evts, ops[e.i]? = some e.o) (hu : ∀ e ∈ sF.evts, ∀ e' ∈ sF.evts, e.i = e'.i → e = e') (h0 : ∀ i, s0.done.testBit i = false)
    (h : To P X call ops bs sz n0 s0 s) (h' : To P X call ops bs sz n0 s sF) : TmOk s0 sF (fun i => s.done.testBit i = true) s.tm := by
  induction h with
  | refl => exact ⟨fun e _ hD => (by simp only [h0] at hD; cases hD), fun t _ => rfl⟩
  | @step s1 s2 e t h1 ih =>
    have hmem : e ∈ sF.evts := h'.sub e (by rw [h1.evts]; exact List.mem_cons_self ..)
    have := ih ((To.step (.refl _) h1).trans h')
    have := this.put (sz := sz) hd hop hu hmem (by rw [h1.fresh]; simp) h1.put
    refine this.congr fun i => ?_
    rw [h1.done, bit_or]
    simp only [Bool.or_eq_true, decide_eq_true_eq]
    exact ⟨Or.imp_right Eq.symm, Or.imp_right Eq.symm⟩

/-- what an operation looks at is the same in the canonical run and in any other order -/
theorem names_same {s0 sF : DR} {D D' : Nat → Prop} {tm tm' : Tr Value} (h : TmOk s0 sF D tm) (h' : TmOk s0 sF D' tm') {names : List Tmp} (hn : ∀ e ∈ sF.evts, ∀ d ∈ names, e.o.dst = some d → (D e.i ↔ D' e.i)) :
    ∀ t ∈ names, tm.get t = tm'.get t := by
  intro t ht
  by_cases hx : ∃ e ∈ sF.evts, D e.i ∧ e.o.dst = some t
  · obtain ⟨e, he, hD, hd⟩ := hx
    rw [h.val e he hD t hd, h'.val e he ((hn e he t ht hd).1 hD) t hd]
  · rw [h.old t fun e he hD hd => hx ⟨e, he, hD, hd⟩, h'.old t fun e he hD hd => hx ⟨e, he, (hn e he t ht hd).2 hD, hd⟩]

theorem valEq_eq : ∀ (n : Nat) (v w : Value), valEq n v w = true → v = w
  | 0, v, w, h => by simp [valEq] at h
  | n + 1, v, w, h => by
    have lst : ∀ (xs ys : List Value), xs.length = ys.length → ((xs.zip ys).all fun (x, y) => valEq n x y) = true → xs = ys := by
      intro xs
      induction xs with
      | nil => intro ys hl _; cases ys with | nil => rfl | cons _ _ => simp at hl
      | cons x xs ih =>
        intro ys hl ha
        cases ys with
        | nil => simp at hl
        | cons y ys =>
          simp only [List.zip_cons_cons, List.all_cons, Bool.and_eq_true] at ha
          rw [valEq_eq n x y ha.1, ih ys (by simpa using hl) ha.2]
    have arr : ∀ (a b : Array Value), (a.size == b.size && (a.toList.zip b.toList).all fun (x, y) => valEq n x y) = true → a = b := by
      intro a b hab
      rw [Bool.and_eq_true] at hab
      exact Array.toList_inj.1 (lst _ _ (by simpa using hab.1) hab.2)
    cases v <;> cases w <;> simp only [valEq] at h <;> try (cases h)
    case bool.bool a b => simp at h; rw [h]
    case int.int a b c d => simp at h; rw [h.1, h.2]
    case string.string a b =>
      have : a.data.toList = b.data.toList := by simpa using h
      have : a.data = b.data := Array.toList_inj.1 this
      cases a; cases b; simp_all
    case pointer.pointer a b => simp at h; rw [h]
    case slice.slice a b c d e f => simp at h; rw [h.1.1, h.1.2, h.2]
    case map.map a b => simp at h; rw [h]
    case chan.chan a b => simp at h; rw [h]
    case nilIface.nilIface => rfl
    case nilFunc.nilFunc => rfl
    case iface.iface t v u w => simp at h; rw [h.1, valEq_eq n v w h.2]
    case agg.agg a b => rw [arr a b h]
    case tuple.tuple a b => rw [arr a b h]
    case func.func f a b g c d =>
      simp only [Bool.and_eq_true, decide_eq_true_eq] at h
      obtain ⟨⟨⟨⟨h1, h2⟩, h3⟩, h4⟩, h5⟩ := h
      rw [h1, arr a c (by rw [Bool.and_eq_true]; exact ⟨h2, h4⟩), arr b d (by rw [Bool.and_eq_true]; exact ⟨h3, h5⟩)]

theorem recheck_mem {fv : FV} : ∀ {l : List St}, recheck P e fv l = .ok () → ∀ σ ∈ l, aflt P σ e.tm e.o = .ok fv
  | [], _, σ, hσ => by cases hσ
  | σ1 :: l, h, σ, hσ => by
    simp only [recheck, ok_bind] at h
    obtain ⟨f, hf, h⟩ := h
    split at h
    · split at h
      · rename_i v w hv
        cases hσ with
        | head => rw [hf, valEq_eq _ _ _ hv]
        | tail _ hσ => exact recheck_mem h σ hσ
      · cases h
    · cases h

theorem checkEvts_mem {ws : List Nat} {past : List St} : ∀ {l : List Evt}, checkEvts P bs ws past l = .ok () → ∀ e ∈ l, ∀ fv, e.fv = some fv → e.wanted = true →
    noHeap e.o = true ∨ recheck P e fv ((past.take e.seg).drop (countW ws (bs.getD e.i 0))) = .ok ()
  | [], _, e, he => by cases he
  | e1 :: l, h, e, he => by
    intro fv hfv hw
    simp only [checkEvts] at h
    cases h1 : e1.fv with
    | none =>
      rw [h1] at h
      cases he with
      | head => rw [h1] at hfv; cases hfv
      | tail _ he => exact checkEvts_mem h e he fv hfv hw
    | some fv1 =>
      rw [h1] at h
      simp only [ok_bind] at h
      obtain ⟨⟨⟩, h2, h3⟩ := h
      cases he with
      | head =>
        rw [h1] at hfv; cases hfv
        split at h2
        · rename_i hx
          left
          simpa [hw] using hx
        · exact .inr h2
      | tail _ he => exact checkEvts_mem h3 e he fv hfv hw

end
end Go.Ev

namespace Go.Ev

variable {P : Program} {X : Specs} {call : CallF} {ops : Array Oper} {bs : List Nat} {sz n0 : Nat} {R : Ren} {σ : St} {w : World}

/-! ### a region's steps in the model -/

def rf (fr : Frame) (arr : Array Value) (ops : Array Oper) (l : List Nat) (k' : List Item) : Frame := { fr with tmps := arr, todo := .inRegion ops l :: k' }

section
variable {fr : Frame} {cs : List Frame} {arr : Array Value} {k' : List Item} {i : Nat} {o : Oper} {rest : List Nat}

theorem reg_exec (hm : fr.mode = .run) (ho : ops[i]? = some o) (hw : Region.wanted o (yielded ops arr) = true) (hnd : ∀ c, o.op ≠ .defer c) :
    stepG P true { frame := rf fr arr ops (i :: rest) k', callers := cs, status := .running, dying := none } w = stepG.apply P true (rf fr arr ops (i :: rest) k') cs none (execOp (ceval arr) o) w := by
  have hmode : (rf fr arr ops (i :: rest) k').mode = .run := hm
  have hev : (rf fr arr ops (i :: rest) k').eval = ceval arr := by funext x; cases x <;> rfl
  rw [stepG_exec hmode]
  have hop : (rf fr arr ops (i :: rest) k').oper? = some o := ho
  have hb : ((ops[i]?).map (Region.wanted · (yielded ops (rf fr arr ops (i :: rest) k').tmps))).getD false = true := by rw [ho]; exact hw
  have ht : (rf fr arr ops (i :: rest) k').todo = .inRegion ops (i :: rest) :: k' := rfl
  simp only [stepG.exec, ht, hb, if_true, stepG.oper, hop]
  split
  · rename_i l c h1 h2; exact absurd h2 (hnd c)
  · rw [hev]

theorem rf_finish (ho : ops[i]? = some o) (c : Value) : (rf fr arr ops (i :: rest) k').finish c = rf fr (putC arr o.dst c) ops rest k' := by
  simp only [rf, Frame.finish, ho, Option.bind_some]
  rfl

theorem reg_value (hm : fr.mode = .run) (ho : ops[i]? = some o) (hw : Region.wanted o (yielded ops arr) = true) (hnd : ∀ c, o.op ≠ .defer c) {c : Value} {w' : World} (hr : (execOp (ceval arr) o).run P w = .ok (.value c) w') :
    step P (lone (rf fr arr ops (i :: rest) k') cs w) = .next (lone (rf fr (putC arr o.dst c) ops rest k') cs w') :=
  step_lone_go (by rw [reg_exec hm ho hw hnd, ← rf_finish ho]; simp [stepG.apply, Sem.runT_eq, hr])

theorem reg_skip (hm : fr.mode = .run) (ho : ops[i]? = some o) (hw : Region.wanted o (yielded ops arr) = true) (hnd : ∀ c, o.op ≠ .defer c) {w' : World} (hr : (execOp (ceval arr) o).run P w = .ok .skip w') :
    step P (lone (rf fr arr ops (i :: rest) k') cs w) = .next (lone (rf fr (putC arr o.dst Go.undef) ops rest k') cs w') :=
  step_lone_go (by rw [reg_exec hm ho hw hnd, ← rf_finish ho]; simp [stepG.apply, Sem.runT_eq, hr])

theorem reg_unwanted (hm : fr.mode = .run) (ho : ops[i]? = some o) (hw : Region.wanted o (yielded ops arr) = false) :
    step P (lone (rf fr arr ops (i :: rest) k') cs w) = .next (lone (rf fr (putC arr o.dst Go.undef) ops rest k') cs w) := by
  refine step_lone_go ?_
  have hmode : (rf fr arr ops (i :: rest) k').mode = .run := hm
  rw [stepG_exec hmode]
  have hb : ((ops[i]?).map (Region.wanted · (yielded ops (rf fr arr ops (i :: rest) k').tmps))).getD false = false := by rw [ho]; exact hw
  have ht : (rf fr arr ops (i :: rest) k').todo = .inRegion ops (i :: rest) :: k' := rfl
  simp only [stepG.exec, ht, hb, Bool.false_eq_true, if_false, rf_finish ho]
  rfl

theorem reg_end (hm : fr.mode = .run) : step P (lone (rf fr arr ops [] k') cs w) = .next (lone { fr with tmps := arr, todo := k' } cs w) := by
  refine step_lone_go ?_
  have hmode : (rf fr arr ops [] k').mode = .run := hm
  rw [stepG_exec hmode]
  have ht : (rf fr arr ops [] k').todo = .inRegion ops [] :: k' := rfl
  simp only [stepG.exec, ht]
  rfl

end

/-- what a nested call comes to -/
def CallsTo (P : Program) (R : Ren) (σ : St) (w : World) (f : FuncId) (cargs : Array Value) : CRes → Prop
  | .ret v σ' => SumOk P R σ w f cargs v σ'
  | .panic chain σ' => Calls P f cargs w fun e w' => ∃ R' c, e = .panicked c ∧ F2 (PRel R') chain c ∧ Kept P R σ w R' σ' w'

def CallGood (P : Program) (call : CallF) : Prop :=
  ∀ (f : FuncId) (args : List Value) (σ : St) (r : CRes) (R : Ren) (w : World) (cargs : Array Value), call f args σ = .ok r → HRel P R σ w.heap → LRel R args cargs.toList → CallsTo P R σ w f cargs r

section
variable {fr : Frame} {cs : List Frame} {arr : Array Value} {k' : List Item} {i : Nat} {o : Oper} {rest : List Nat}

/-- an operation that writes, in a region: it yields, or panics -/
theorem reg_write (hC : CallGood P call) (H : HRel P R σ w.heap) (hnc : ∀ d b r s k, fr.todo ≠ .call d b r s :: k) (hm : fr.mode = .run) (ho : ops[i]? = some o) (hw : Region.wanted o (yielded ops arr) = true) {r : Ret}
    (hr : RetOk P R σ w (execOp (ceval arr) o) r) (hnd : ∀ c, o.op ≠ .defer c) {c : CRes} (hc : outcome call r = .ok c) :
    match c with
    | .ret v σ' => ∃ R' w' cv, Steps P (lone (rf fr arr ops (i :: rest) k') cs w) (lone (rf fr (putC arr o.dst cv) ops rest k') cs w') ∧ VRel R' v cv ∧ Kept P R σ w R' σ' w'
    | .panic chain σ' => ∃ R' w' ch, Steps P (lone (rf fr arr ops (i :: rest) k') cs w) (lone ((rf fr arr ops (i :: rest) k').raise ch) cs w') ∧ F2 (PRel R') chain ch ∧ Kept P R σ w R' σ' w' := by
  have hval : ∀ v σ', ValOk P R σ w (execOp (ceval arr) o) v σ' → ∃ R' w' cv, Steps P (lone (rf fr arr ops (i :: rest) k') cs w) (lone (rf fr (putC arr o.dst cv) ops rest k') cs w') ∧ VRel R' v cv ∧ Kept P R σ w R' σ' w' := by
    intro v σ' hv
    obtain ⟨R', w', hv, hk⟩ := hv
    rcases hv with ⟨cv, h1, h2⟩ | ⟨h1, rfl⟩
    · exact ⟨R', w', cv, .one (reg_value hm ho hw hnd h1), h2, hk⟩
    · exact ⟨R', w', Go.undef, .one (reg_skip hm ho hw hnd h1), VRel.undef _, hk⟩
  have hnc' : ∀ d b r s k, (rf fr arr ops (i :: rest) k').todo ≠ .call d b r s :: k := fun _ _ _ _ _ e => by cases e
  have hent : ∀ f cargs, (execOp (ceval arr) o).run P w = .ok (.enter f cargs) w → step P (lone (rf fr arr ops (i :: rest) k') cs w) = .next (lone (Frame.enter P f cargs .normal) (rf fr arr ops (i :: rest) k' :: cs) w) := by
    intro f cargs h1
    exact step_lone_go (by rw [reg_exec hm ho hw hnd]; exact apply_enter hnc' h1)
  have hsum : ∀ f cargs v σ', (execOp (ceval arr) o).run P w = .ok (.enter f cargs) w → SumOk P R σ w f cargs v σ' → ∃ R' w' cv, Steps P (lone (rf fr arr ops (i :: rest) k') cs w) (lone (rf fr (putC arr o.dst cv) ops rest k') cs w') ∧ VRel R' v cv ∧ Kept P R σ w R' σ' w' := by
    intro f cargs v σ' h1 h3
    obtain ⟨e, w', fr', ⟨R', cv, rfl, hv, hk⟩, hs, hf, hlv⟩ := h3 (rf fr arr ops (i :: rest) k' :: cs)
    refine ⟨R', w', cv, .head (hent f cargs h1) (Steps.trans hs (.one ?_)), hv, hk⟩
    rw [← rf_finish ho]
    exact step_leave_returned hlv
  cases r with
  | val v σ' => simp only [outcome, ok_inj] at hc; subst hc; exact hval v σ' hr
  | callv f args v σ' =>
    simp only [outcome, ok_inj] at hc; subst hc
    obtain ⟨cargs, h1, h2, h3⟩ := hr
    exact hsum f cargs v σ' h1 h3
  | many l => cases hc
  | enter f args σ' =>
    obtain ⟨rfl, cargs, h1, h2⟩ := hr
    have hg := hC f args _ c R w cargs hc H h2
    cases c with
    | ret v σ' => exact hsum f cargs v σ' h1 hg
    | panic chain σ' =>
      obtain ⟨e, w', fr', ⟨R', ch, rfl, hv, hk⟩, hs, hf, hlv⟩ := hg (rf fr arr ops (i :: rest) k' :: cs)
      exact ⟨R', w', ch, .head (hent f cargs h1) (Steps.trans hs (.one (step_leave_panicked hlv))), hv, hk⟩
  | round l args σ' => cases hc
  | defer d σ' => cases hc
  | recover σ' => cases hc
  | panic v σ' =>
    simp only [outcome, ok_inj] at hc; subst hc
    obtain ⟨rfl, cv, h1, h2⟩ := hr
    refine ⟨R, w, [{ v := cv, recovered := false }], .one (step_lone_go ?_), F2.cons ⟨h2, rfl, rfl⟩ F2.nil, Kept.refl H⟩
    rw [reg_exec hm ho hw hnd]
    simp only [stepG.apply, Sem.runT_eq, h1, if_true, GStep.bare_after]
    rfl
end

end Go.Ev

namespace Go.Ev

variable {P : Program} {X : Specs} {call : CallF} {ops : Array Oper} {bs : List Nat} {sz n0 : Nat}

theorem To.uniq {s s' : DR} (h0 : s.evts = []) (hb : Bits s) (h : To P X call ops bs sz n0 s s') : ∀ e ∈ s'.evts, ∀ e' ∈ s'.evts, e.i = e'.i → e = e' := by
  induction h with
  | refl => intro e he; rw [h0] at he; cases he
  | @step s1 s2 x t h1 ih =>
    have hb1 := t.bits hb
    have hx : ∀ e ∈ s1.evts, e.i ≠ x.i := by
      intro e he e1
      have := h1.fresh
      rw [← e1, (hb1 e.i).2 ⟨e, he, rfl⟩] at this
      cases this
    intro e he e' he' hee
    rw [h1.evts] at he he'
    cases he with
    | head => cases he' with
      | head => rfl
      | tail _ he' => exact absurd hee.symm (hx e' he')
    | tail _ he => cases he' with
      | head => exact absurd hee (hx e he)
      | tail _ he' => exact ih e he e' he' hee

theorem To.down {s s' : DR} (h0 : ∀ j k, s.done.testBit j = true → (bs.getD j 0).testBit k = true → s.done.testBit k = true) (h : To P X call ops bs sz n0 s s') :
    ∀ j k, s'.done.testBit j = true → (bs.getD j 0).testBit k = true → s'.done.testBit k = true := by
  induction h with
  | refl => exact h0
  | @step s1 s2 x t h1 ih =>
    intro j k hj hk
    rw [h1.done, bit_or] at hj ⊢
    simp only [Bool.or_eq_true, decide_eq_true_eq] at hj ⊢
    rcases hj with hj | rfl
    · exact .inl (ih j k hj hk)
    · exact .inl (sub_mask h1.preds hk)

/-- what is fixed while the region runs in some order -/
structure Setup (P : Program) (X : Specs) (call : CallF) (ops : Array Oper) (bs : List Nat) (sz n0 : Nat) (s0 sM sF : DR) : Prop where
  toM : To P X call ops bs sz n0 s0 sM
  toF : To P X call ops bs sz n0 sM sF
  same : sF.past = sM.past
  check : checkEvts P bs (writesOf sF.evts) sF.past.reverse sF.evts = .ok ()
  dsts : Dsts ops
  names : ∀ (i j : Nat) (o v : Oper), ops[i]? = some o → ops[j]? = some v → i ≠ j → ∀ d, v.dst = some d → d ∈ namesOf ops.toList o → (bs.getD i 0).testBit j = true ∨ (bs.getD j 0).testBit i = true
  done0 : s0.done = 0
  evts0 : s0.evts = []
  past0 : s0.past = []
  gmax : GMAX ≤ n0

namespace Setup
variable {s0 sM sF : DR}

theorem all (S : Setup P X call ops bs sz n0 s0 sM sF) : To P X call ops bs sz n0 s0 sF := S.toM.trans S.toF
theorem bits0 (S : Setup P X call ops bs sz n0 s0 sM sF) : Bits s0 := fun j => by simp [S.done0, S.evts0]
theorem op (S : Setup P X call ops bs sz n0 s0 sM sF) : ∀ e ∈ sF.evts, ops[e.i]? = some e.o := fun e he => by
  rcases S.all.split e he with h | ⟨s1, s2, _, h, _⟩
  · rw [S.evts0] at h; cases h
  · exact h.op
theorem uniq (S : Setup P X call ops bs sz n0 s0 sM sF) : ∀ e ∈ sF.evts, ∀ e' ∈ sF.evts, e.i = e'.i → e = e' := S.all.uniq S.evts0 S.bits0
theorem down (S : Setup P X call ops bs sz n0 s0 sM sF) {s : DR} (h : To P X call ops bs sz n0 s0 s) : ∀ j k, s.done.testBit j = true → (bs.getD j 0).testBit k = true → s.done.testBit k = true :=
  h.down fun j k hj => by simp [S.done0] at hj
theorem tmOk (S : Setup P X call ops bs sz n0 s0 sM sF) {s : DR} (h : To P X call ops bs sz n0 s0 s) (h' : To P X call ops bs sz n0 s sF) : TmOk s0 sF (fun i => s.done.testBit i = true) s.tm :=
  h.tmOk S.dsts S.op S.uniq (fun i => by simp [S.done0]) h'
end Setup

/-- the state of the region after the operations of D -/
structure Inv (P : Program) (X : Specs) (call : CallF) (ops : Array Oper) (bs : List Nat) (sz n0 : Nat) (s0 sM sF : DR) (R0 : Ren) (σ0 : St) (w0 : World) (D : Nat → Prop) (s1 : DR) (tm : Tr Value) (arr : Array Value) (R : Ren) (σ : St) (w : World) : Prop where
  frm : To P X call ops bs sz n0 s0 s1
  to : To P X call ops bs sz n0 s1 sM
  pend : s1.pend = []
  pre : ∀ i, s1.done.testBit i = true → D i
  post : ∀ e ∈ sF.evts, D e.i → s1.done.testBit e.i = true ∨ e.fv ≠ none
  tmok : TmOk s0 sF D tm
  trel : TRel R tm arr
  size : arr.size = sz
  next : σ.next = s1.base.next
  big : ∀ e ∈ sF.evts, D e.i → s1.done.testBit e.i = false → ∀ mk o, e.fv = some (.new mk o) → σ.heap.get (n0 + e.i) = some o
  rest : ∀ a, (∀ e ∈ sF.evts, D e.i → s1.done.testBit e.i = false → ∀ mk o, e.fv = some (.new mk o) → a ≠ n0 + e.i) → σ.heap.get a = s1.base.heap.get a
  clear : ∀ e ∈ sF.evts, D e.i → s1.done.testBit e.i = false → ∀ mk o, e.fv = some (.new mk o) → s1.base.heap.get (n0 + e.i) = none
  undone : ∀ i, i < ops.size → ¬ D i → R.loc (n0 + i) = none
  kept : Kept P R0 σ0 w0 R σ w
  down : ∀ i j, D i → (bs.getD i 0).testBit j = true → D j
  room : n0 + ops.size ≤ σ.next
  zero : n0 = σ0.next

section
variable {s0 sM sF : DR} {R0 : Ren} {σ0 : St} {w0 : World} {D : Nat → Prop} {s1 : DR} {tm : Tr Value} {arr : Array Value} {R : Ren} {σ : St} {w : World}

theorem Inv.sub (I : Inv P X call ops bs sz n0 s0 sM sF R0 σ0 w0 D s1 tm arr R σ w) : ∀ a o, s1.base.heap.get a = some o → σ.heap.get a = some o := by
  intro a o ha
  by_cases hx : ∃ e ∈ sF.evts, D e.i ∧ s1.done.testBit e.i = false ∧ ∃ mk o, e.fv = some (.new mk o) ∧ a = n0 + e.i
  · obtain ⟨e, he, hD, hd, mk, o', hf, rfl⟩ := hx
    rw [I.clear e he hD hd mk o' hf] at ha; cases ha
  · rw [I.rest a fun e he hD hd mk o' hf e1 => hx ⟨e, he, hD, hd, mk, o', hf, e1⟩]; exact ha

theorem Inv.base (I : Inv P X call ops bs sz n0 s0 sM sF R0 σ0 w0 D s1 tm arr R σ w) : HRel P R s1.base w.heap := I.kept.rel.sub I.next.symm I.sub

/-- what an operation that comes now looks at is as in the canonical run -/
theorem Inv.same (S : Setup P X call ops bs sz n0 s0 sM sF) (I : Inv P X call ops bs sz n0 s0 sM sF R0 σ0 w0 D s1 tm arr R σ w) {i : Nat} {o : Oper} (ho : ops[i]? = some o) (hD : ¬ D i) (hp : ∀ j, (bs.getD i 0).testBit j = true → D j)
    {s2 : DR} (h2 : To P X call ops bs sz n0 s0 s2) (h2' : To P X call ops bs sz n0 s2 sF) (hf : s2.done.testBit i = false) (hp2 : subMask (bs.getD i 0) s2.done = true) : ∀ t ∈ namesOf ops.toList o, tm.get t = s2.tm.get t := by
  refine names_same I.tmok (S.tmOk h2 h2') fun e he d hd hdst => ?_
  by_cases hi : e.i = i
  · rw [hi, hf]
    exact ⟨fun h => absurd h hD, fun h => by cases h⟩
  · rcases S.names i e.i o e.o ho (S.op e he) (Ne.symm hi) d hdst hd with h | h
    · exact ⟨fun _ => sub_mask hp2 h, fun _ => hp _ h⟩
    · refine ⟨fun h3 => absurd (I.down _ _ h3 h) hD, fun h3 => ?_⟩
      have := S.down h2 _ _ h3 h
      rw [hf] at this; cases this

theorem putTm_ok {tm tm' tm1 : Tr Value} {sz : Nat} {d : Option Tmp} {v v' : Value} (h : putTm tm sz d v = .ok tm') : ∃ tm2, putTm tm1 sz d v' = .ok tm2 := by
  cases d with
  | none => exact ⟨_, rfl⟩
  | some d =>
    simp only [putTm] at h ⊢
    split at h
    · rename_i hlt; rw [if_pos hlt]; exact ⟨_, rfl⟩
    · cases h

theorem filter_le {p : Nat → Bool} (l l' : List Nat) (h : ∀ i ∈ l, p i = false) : ((l ++ l').filter p).length ≤ l'.length := by
  rw [List.filter_append, List.filter_eq_nil_iff.2 (fun a ha => by simp [h a ha])]
  exact List.length_filter_le _ _

/-- a read's value does not hang on when it comes -/
theorem Inv.aflt (S : Setup P X call ops bs sz n0 s0 sM sF) (I : Inv P X call ops bs sz n0 s0 sM sF R0 σ0 w0 D s1 tm arr R σ w) {e : Evt} (he : e ∈ sF.evts) (hp : ∀ j, (bs.getD e.i 0).testBit j = true → D j) {s2 : DR} {fv : FV} (hfv : e.fv = some fv) (hw : e.wanted = true)
    (h1 : To P X call ops bs sz n0 s1 s2) (h2 : To P X call ops bs sz n0 s2 sF) (hseg : e.seg = s2.past.length) (htm : e.tm = s2.tm) (h : Ev.aflt P s2.base s2.tm e.o = .ok fv) : Ev.aflt P s1.base s2.tm e.o = .ok fv := by
  rcases h1.cases_w with f | ⟨⟨l, hl⟩, _⟩
  · rw [← f.base]; exact h
  · rcases checkEvts_mem S.check e he fv hfv hw with hn | hr
    · rw [noHeap_congr (σ' := s2.base) hn]; exact h
    · rw [← htm]
      refine recheck_mem hr _ ?_
      obtain ⟨l2, hl2⟩ := h2.past
      have hlo : countW (writesOf sF.evts) (bs.getD e.i 0) ≤ s1.past.length := by
        obtain ⟨l3, hl3, hm⟩ := (I.to.trans S.toF).writes
        have hlen : (writesOf s1.evts).length = s1.past.length := I.frm.writesLen (by simp [S.evts0, S.past0, writesOf])
        rw [← hlen, hl3]
        refine filter_le l3 _ fun i hi => ?_
        obtain ⟨e', he', rfl, hn, hd⟩ := hm i hi
        cases hx : (bs.getD e.i 0).testBit e'.i with
        | false => rfl
        | true =>
          rcases I.post e' he' (hp _ hx) with h3 | h3
          · rw [hd] at h3; cases h3
          · exact absurd hn h3
      have hrev : sF.past.reverse = (s1.past.reverse ++ (s1.base :: l.reverse)) ++ l2.reverse := by
        rw [hl2, hl]; simp
      have hs : e.seg = (s1.past.reverse ++ (s1.base :: l.reverse)).length := by rw [hseg, hl]; simp; omega
      rw [hrev, hs, List.take_left, List.drop_append_of_le_length (by simpa using hlo)]
      simp

end
end Go.Ev

namespace Go.Ev

variable {P : Program} {X : Specs} {call : CallF} {ops : Array Oper} {bs : List Nat} {sz n0 : Nat}
variable {s0 sM sF : DR} {R0 : Ren} {σ0 : St} {w0 : World} {D : Nat → Prop} {s1 : DR} {tm : Tr Value} {arr : Array Value} {R : Ren} {σ : St} {w : World}
variable {fr : Frame} {cs : List Frame} {k' : List Item} {rest : List Nat}

/-- a new block under a reserved number -/
theorem Kept.allocIn (K : Kept P R0 σ0 w0 R σ w) {n : Nat} (hn : R.loc n = none) (hg : GMAX ≤ n) (hlt : n < σ.next) (hge : σ0.next ≤ n) {o : AObj} {O : Obj} {cap : Nat} {w' : World} (hw : WKeep w w') (hh : w'.heap = w.heap.push O)
    (ho : ORel P (R.add n ⟨w.heap.size, 0, cap⟩) ⟨w.heap.size, 0, cap⟩ o O) : Kept P R0 σ0 w0 (R.add n ⟨w.heap.size, 0, cap⟩) { heap := σ.heap.set n o, next := σ.next } w' := by
  have h1 := (K.rel.allocAt n σ.next hn hg hlt (Nat.le_refl _) o O cap ho).1
  have hle := Ren.le_add hn ⟨w.heap.size, 0, cap⟩
  have hloc : ∀ a l, a ≠ n → (R.add n ⟨w.heap.size, 0, cap⟩).loc a = some l → R.loc a = some l := fun a l ha hl => by simpa [Ren.add, ha] using hl
  refine ⟨by rw [hh]; exact h1, ⟨Ren.le_trans K.fr.le hle, by rw [hh]; simp; exact Nat.le_succ_of_le K.fr.size, fun B hB hne => ?_, fun a l o1 ha hl => ?_, K.fr.next, fun a l hl => ?_⟩, K.keep.trans hw⟩
  · rw [← K.fr.keep B hB hne, hh, Array.getElem?_push_lt (Nat.lt_of_lt_of_le hB K.fr.size)]
    exact (Array.getElem?_eq_getElem _).symm
  · by_cases hx : a = n
    · subst hx
      rw [Ren.add_loc] at hl; cases hl
      exact .inl K.fr.size
    · simp only [Tr.get_set, if_neg hx] at ha
      exact K.fr.orig a l o1 ha (hloc a l hx hl)
  · by_cases hx : a = n
    · exact .inr (hx ▸ hge)
    · exact K.fr.old a l (hloc a l hx hl)

theorem Kept.deadIn (K : Kept P R0 σ0 w0 R σ w) {n : Nat} (hn : R.loc n = none) (hlt : n < σ.next) (hge : σ0.next ≤ n) (hs : σ.heap.get n = none) {w' : World} (hw : WKeep w w') (hh : w'.heap = w.heap) (l : Loc) :
    Kept P R0 σ0 w0 (R.add n l) σ w' := by
  have h1 := (K.rel.dead n σ.next hn hs hlt (Nat.le_refl _) l).1
  have hle := Ren.le_add hn l
  have hloc : ∀ a x, a ≠ n → (R.add n l).loc a = some x → R.loc a = some x := fun a x ha hl => by simpa [Ren.add, ha] using hl
  refine ⟨by rw [hh]; exact h1, ⟨Ren.le_trans K.fr.le hle, by rw [hh]; exact K.fr.size, fun B hB hne => by rw [hh]; exact K.fr.keep B hB hne, fun a x o1 ha hl => ?_, K.fr.next, fun a x hl => ?_⟩, K.keep.trans hw⟩
  · have : a ≠ n := fun e => by rw [e, hs] at ha; cases ha
    exact K.fr.orig a x o1 ha (hloc a x this hl)
  · by_cases hx : a = n
    · exact .inr (hx ▸ hge)
    · exact K.fr.old a x (hloc a x hx hl)

theorem Kept.same (K : Kept P R0 σ0 w0 R σ w) {w' : World} (hw : WKeep w w') (hh : w'.heap = w.heap) : Kept P R0 σ0 w0 R σ w' :=
  ⟨by rw [hh]; exact K.rel, by rw [hh]; exact K.fr, K.keep.trans hw⟩

theorem get_none_of (H : HRel P R σ w.heap) {a : Nat} (h : R.loc a = none) : σ.heap.get a = none := by
  cases hx : σ.heap.get a with
  | none => rfl
  | some o =>
    obtain ⟨l, O, h1, _⟩ := H.obj _ _ hx
    rw [h] at h1; cases h1

/-- the invariant after an operation that does not write -/
theorem Inv.flt (S : Setup P X call ops bs sz n0 s0 sM sF) (I : Inv P X call ops bs sz n0 s0 sM sF R0 σ0 w0 D s1 tm arr R σ w) {e : Evt} (he : e ∈ sF.evts) (hD : ¬ D e.i) (hp : ∀ j, (bs.getD e.i 0).testBit j = true → D j) {fv : FV} (hfv : e.fv = some fv)
    {tm' : Tr Value} (htm : putTm tm sz e.o.dst e.val = .ok tm') {R' : Ren} {σ' : St} {w' : World} {arr' : Array Value} (ht : TRel R' tm' arr') (hsz : arr'.size = sz) (hk : Kept P R0 σ0 w0 R' σ' w') (hnx : σ'.next = σ.next)
    (hun : ∀ a, a ≠ n0 + e.i → R'.loc a = R.loc a)
    (hσn : ∀ mk o, fv = .new mk o → σ'.heap.get (n0 + e.i) = some o) (hσo : ∀ a, (a ≠ n0 + e.i ∨ ∀ mk o, fv ≠ .new mk o) → σ'.heap.get a = σ.heap.get a) :
    Inv P X call ops bs sz n0 s0 sM sF R0 σ0 w0 (fun i => D i ∨ i = e.i) s1 tm' arr' R' σ' w' := by
  have hi : e.i < ops.size := by
    have := S.op e he
    exact (Array.getElem?_eq_some_iff.1 this).1
  have hd1 : s1.done.testBit e.i = false := by
    cases hx : s1.done.testBit e.i with
    | false => rfl
    | true => exact absurd (I.pre _ hx) hD
  have hnew : ∀ e' ∈ sF.evts, e'.i = e.i → e' = e := fun e' he' h => S.uniq e' he' e he h
  refine ⟨I.frm, I.to, I.pend, fun i h => .inl (I.pre i h), fun e' he' hx => ?_, I.tmok.put S.dsts S.op S.uniq he hD htm, ht, hsz, by rw [hnx]; exact I.next, fun e' he' hx hd mk o hf => ?_, fun a ha => ?_, fun e' he' hx hd mk o hf => ?_, fun i hi' hx => ?_, hk, fun i j hx hj => ?_, by rw [hnx]; exact I.room, I.zero⟩
  · rcases hx with hx | hx
    · exact I.post e' he' hx
    · rw [hnew e' he' hx, hfv]; exact .inr (by simp)
  · rcases hx with hx | hx
    · have hne : n0 + e'.i ≠ n0 + e.i := by
        intro h
        have h1 : e'.i = e.i := by omega
        rw [h1] at hx
        exact hD hx
      rw [hσo _ (.inl hne)]
      exact I.big e' he' hx hd mk o hf
    · have := hnew e' he' hx
      subst this
      rw [hfv] at hf
      simp only [Option.some.injEq] at hf
      exact hσn mk o hf
  · rw [hσo a ?_]
    · exact I.rest a fun e' he' hx => ha e' he' (.inl hx)
    · by_cases hx : ∃ mk o, fv = .new mk o
      · obtain ⟨mk, o, rfl⟩ := hx
        exact .inl (ha e he (.inr rfl) hd1 mk o hfv)
      · exact .inr fun mk o h => hx ⟨mk, o, h⟩
  · rcases hx with hx | hx
    · exact I.clear e' he' hx hd mk o hf
    · rw [hx]
      exact get_none_of I.base (I.undone e.i hi hD)
  · rw [hun _ (by intro h; exact hx (.inr (by omega)))]
    exact I.undone i hi' fun h => hx (.inl h)
  · rcases hx with hx | hx
    · exact .inl (I.down i j hx hj)
    · rw [hx] at hj; exact .inl (hp j hj)

theorem flt_nodefer {o : Oper} {fv : FV} (h : Ev.aflt P σ tm o = .ok fv) (c : Call) : o.op ≠ .defer c := by
  intro e
  unfold Ev.aflt at h
  rw [e] at h
  cases h

/-- an operation that does not write, in any order -/
theorem step_flt (S : Setup P X call ops bs sz n0 s0 sM sF) (I : Inv P X call ops bs sz n0 s0 sM sF R0 σ0 w0 D s1 tm arr R σ w) (hm : fr.mode = .run) {e : Evt} (he : e ∈ sF.evts) (hD : ¬ D e.i) (hp : ∀ j, (bs.getD e.i 0).testBit j = true → D j) {fv : FV} (hfv : e.fv = some fv) :
    ∃ tm' arr' R' σ' w', Steps P (lone (rf fr arr ops (e.i :: rest) k') cs w) (lone (rf fr arr' ops rest k') cs w') ∧ Inv P X call ops bs sz n0 s0 sM sF R0 σ0 w0 (fun i => D i ∨ i = e.i) s1 tm' arr' R' σ' w' := by
  have hto := I.to.trans S.toF
  have hi : e.i < ops.size := (Array.getElem?_eq_some_iff.1 (S.op e he)).1
  rcases hto.split e he with hold | ⟨s2, s3, t1, one, t2⟩
  · exact absurd (I.pre _ (((I.frm.bits S.bits0) e.i).2 ⟨e, hold, rfl⟩)) hD
  have h02 := I.frm.trans t1
  have h2F : To P X call ops bs sz n0 s2 sF := (To.step (.refl _) one).trans t2
  have hnames := I.same S (S.op e he) hD hp h02 h2F one.fresh one.preds
  obtain ⟨c1, c2, c3⟩ := names_congr (P := P) (X := X) (σ := s1.base) hnames
  have hseg := one.seg
  have htme := one.tm
  cases one with
  | wrt => cases hfv
  | @flt _ i o wb fv' tmx ho hd hpp hw hf hu hput hs =>
  simp only [Option.some.injEq] at hfv
  subst hfv
  simp only at hnames c1 c2 c3 hD hp hi
  rw [← c3] at hw
  have hwant := awanted_rel I.trel hw
  obtain ⟨tm', htm'⟩ := putTm_ok (tm1 := tm) (v' := fvVal n0 i fv') hput
  have hun0 := I.undone i hi hD
  have hni : n0 + i < σ.next := by have := I.room; omega
  have hgei : σ0.next ≤ n0 + i := by have := I.zero; omega
  have hgm : GMAX ≤ n0 + i := Nat.le_trans S.gmax (Nat.le_add_right _ _)
  cases wb with
  | false =>
    have := hu rfl
    subst this
    obtain ⟨p1, p2⟩ := putTm_rel I.trel I.size (VRel.undef R) htm'
    refine ⟨tm', _, R, σ, w, .one (reg_unwanted hm ho hwant), I.flt S he hD hp rfl htm' p1 p2 I.kept rfl (fun _ _ => rfl) (fun _ _ h => by cases h) (fun _ _ => rfl)⟩
  | true =>
    have hfl := I.aflt S he hp rfl rfl t1 h2F hseg htme (hf rfl)
    have hfl2 : Ev.aflt P s1.base tm o = .ok fv' := by rw [c1]; exact hfl
    obtain ⟨c, w', h1, h2, h3⟩ := aflt_run (P := P) I.base I.trel hfl2
    have hst := reg_value (fr := fr) (cs := cs) (k' := k') (rest := rest) hm ho hwant (flt_nodefer hfl2) h1
    cases fv' with
    | val v =>
      obtain ⟨hh, hv⟩ := h3
      obtain ⟨p1, p2⟩ := putTm_rel I.trel I.size hv htm'
      refine ⟨tm', _, R, σ, w', .one hst, I.flt S he hD hp rfl htm' p1 p2 (I.kept.same h2 hh) rfl (fun _ _ => rfl) (fun _ _ h => by cases h) (fun _ _ => rfl)⟩
    | new mk ob =>
      obtain ⟨O, cap, hh, hx⟩ := h3
      obtain ⟨h4, h5⟩ := hx (n0 + i) hun0
      have hle := Ren.le_add hun0 ⟨w.heap.size, 0, cap⟩
      obtain ⟨p1, p2⟩ := putTm_rel (I.trel.mono hle) I.size h5 htm'
      refine ⟨tm', _, _, _, w', .one hst, I.flt S he hD hp rfl htm' p1 p2 (I.kept.allocIn hun0 hgm hni hgei h2 hh h4) rfl (fun a ha => by simp only [Ren.add, if_neg ha]) (fun mk' o' h => ?_) (fun a ha => ?_)⟩
      · cases h; simp only [Tr.get_set, if_true]
      · simp only [Tr.get_set]
        rw [if_neg]
        rcases ha with ha | ha
        · exact ha
        · exact absurd rfl (ha mk ob)
    | dead mk =>
      obtain ⟨hh, l, hx⟩ := h3
      have h5 := hx (n0 + i) hun0
      have hle := Ren.le_add hun0 l
      obtain ⟨p1, p2⟩ := putTm_rel (I.trel.mono hle) I.size h5 htm'
      refine ⟨tm', _, _, σ, w', .one hst, I.flt S he hD hp rfl htm' p1 p2 (I.kept.deadIn hun0 hni hgei (get_none_of I.kept.rel hun0) h2 hh l) rfl (fun a ha => by simp only [Ren.add, if_neg ha]) (fun _ _ h => by cases h) (fun _ _ => rfl)⟩

end Go.Ev

namespace Go.Ev

variable {P : Program} {X : Specs} {call : CallF} {ops : Array Oper} {bs : List Nat} {sz n0 : Nat}
variable {s0 sM sF : DR} {R0 : Ren} {σ0 : St} {w0 : World} {D : Nat → Prop} {s1 : DR} {tm : Tr Value} {arr : Array Value} {R : Ren} {σ : St} {w : World}
variable {fr : Frame} {cs : List Frame} {k' : List Item} {rest : List Nat}

theorem addPend_get : ∀ (l : List (Nat × AObj)) (σ : St) (a : Nat) (o : AObj), (addPend σ l).heap.get a = some o → (a, o) ∈ l ∨ σ.heap.get a = some o
  | [], _, _, _, h => .inr h
  | (b, x) :: l, σ, a, o, h => by
    rcases addPend_get l _ a o h with h | h
    · exact .inl (List.mem_cons_of_mem _ h)
    · simp only [Tr.get_set] at h
      split at h
      · rename_i e
        simp only [Option.some.injEq] at h
        subst h; subst e
        exact .inl (List.mem_cons_self ..)
      · exact .inr h

theorem addPend_next : ∀ (l : List (Nat × AObj)) (σ : St), (addPend σ l).next = σ.next
  | [], _ => rfl
  | (_, _) :: l, σ => addPend_next l _

/-- the events whose blocks lie beside the canonical state -/
def Beside (sF : DR) (D : Nat → Prop) (s : DR) (e : Evt) (o : AObj) : Prop := e ∈ sF.evts ∧ D e.i ∧ s.done.testBit e.i = false ∧ ∃ mk, e.fv = some (.new mk o)

open Classical in
/-- a heap with those blocks -/
theorem exists_beside {sF : DR} (hu : ∀ e ∈ sF.evts, ∀ e' ∈ sF.evts, e.i = e'.i → e = e') (D : Nat → Prop) (s : DR) (n0 : Nat) (h : Tr AObj) : ∀ (l : List Evt), (∀ e ∈ l, e ∈ sF.evts) → ∃ h' : Tr AObj,
    (∀ e ∈ l, ∀ o, Beside sF D s e o → h'.get (n0 + e.i) = some o) ∧ (∀ a, (∀ e ∈ l, ∀ o, Beside sF D s e o → a ≠ n0 + e.i) → h'.get a = h.get a)
  | [], _ => ⟨h, fun e he => (by cases he), fun _ _ => rfl⟩
  | e :: l, hl => by
    obtain ⟨h', h1, h2⟩ := exists_beside hu D s n0 h l fun x hx => hl x (List.mem_cons_of_mem _ hx)
    by_cases hb : ∃ o, Beside sF D s e o
    · obtain ⟨o, ho⟩ := hb
      have hso : ∀ o', Beside sF D s e o' → o' = o := by
        intro o' ho'
        obtain ⟨_, _, _, mk, hf⟩ := ho
        obtain ⟨_, _, _, mk', hf'⟩ := ho'
        rw [hf] at hf'
        simp only [Option.some.injEq, FV.new.injEq] at hf'
        exact hf'.2.symm
      refine ⟨h'.set (n0 + e.i) o, fun x hx o' ho' => ?_, fun a ha => ?_⟩
      · rw [Tr.get_set]
        by_cases hxe : x.i = e.i
        · have : x = e := hu x (hl x hx) e (hl e (List.mem_cons_self ..)) hxe
          subst this
          rw [if_pos rfl, hso o' ho']
        · rw [if_neg (by omega)]
          cases hx with
          | head => exact absurd rfl hxe
          | tail _ hx => exact h1 x hx o' ho'
      · rw [Tr.get_set, if_neg (ha e (List.mem_cons_self ..) o ho)]
        exact h2 a fun x hx o' ho' => ha x (List.mem_cons_of_mem _ hx) o' ho'
    · refine ⟨h', fun x hx o' ho' => ?_, fun a ha => h2 a fun x hx o' ho' => ha x (List.mem_cons_of_mem _ hx) o' ho'⟩
      cases hx with
      | head => exact absurd ⟨o', ho'⟩ hb
      | tail _ hx => exact h1 x hx o' ho'

/-- before a write: the canonical state is part of the state that the model has -/
theorem Inv.pendSub (I : Inv P X call ops bs sz n0 s0 sM sF R0 σ0 w0 D s1 tm arr R σ w) (S : Setup P X call ops bs sz n0 s0 sM sF) {s2 : DR} (f : Fl n0 s1 s2) (h2F : To P X call ops bs sz n0 s2 sF) {m : Nat} (hs : subMask s2.since m = true) (hp : ∀ j, m.testBit j = true → D j) :
    (∀ e ∈ s2.evts, D e.i) ∧ (∀ a o, (addPend s2.base s2.pend).heap.get a = some o → σ.heap.get a = some o ∧ (s1.base.heap.get a = some o ∨ ∃ e ∈ s2.evts, a = n0 + e.i)) := by
  have hev : ∀ e ∈ s2.evts, D e.i := fun e he => by
    rcases f.evts e he with h | h
    · exact I.pre _ ((I.frm.bits S.bits0 e.i).2 ⟨e, h, rfl⟩)
    · exact hp _ (sub_mask hs h.2)
  refine ⟨hev, fun a o ha => ?_⟩
  rcases addPend_get _ _ _ _ ha with h | h
  · rcases f.pend a o h with h | ⟨e, he, mk, hd, rfl, hf⟩
    · rw [I.pend] at h; cases h
    · exact ⟨I.big e (h2F.sub e he) (hev e he) hd mk o hf, .inr ⟨e, he, rfl⟩⟩
  · rw [f.base] at h
    exact ⟨I.sub a o h, .inl h⟩

/-- a write, when its turn has come -/
theorem step_wrt (S : Setup P X call ops bs sz n0 s0 sM sF) (hX : SpecsOk P X) (hC : CallGood P call) (I : Inv P X call ops bs sz n0 s0 sM sF R0 σ0 w0 D s1 tm arr R σ w) (hnc : ∀ d b r s k, fr.todo ≠ .call d b r s :: k) (hm : fr.mode = .run) {e : Evt} (he : e ∈ sF.evts) (hD : ¬ D e.i)
    (hp : ∀ j, (bs.getD e.i 0).testBit j = true → D j) (hfv : e.fv = none) :
    ∃ s3 tm' arr' R' σ' w', Steps P (lone (rf fr arr ops (e.i :: rest) k') cs w) (lone (rf fr arr' ops rest k') cs w') ∧ Inv P X call ops bs sz n0 s0 sM sF R0 σ0 w0 (fun i => D i ∨ i = e.i) s3 tm' arr' R' σ' w' := by
  have hi : e.i < ops.size := (Array.getElem?_eq_some_iff.1 (S.op e he)).1
  -- the write lies between s1 and sM
  have heM : e ∈ sM.evts := by
    rcases S.toF.cases_w with f | ⟨⟨l, hl⟩, _⟩
    · exact (f.evts e he).resolve_right fun h => h.1 hfv
    · have := S.same
      rw [hl] at this
      have := congrArg List.length this
      simp at this
      omega
  rcases I.to.split e heM with hold | ⟨s2, s3, t1, one, t2⟩
  · exact absurd (I.pre _ (((I.frm.bits S.bits0) e.i).2 ⟨e, hold, rfl⟩)) hD
  have h02 := I.frm.trans t1
  have h2F : To P X call ops bs sz n0 s2 sF := ((To.step (.refl _) one).trans t2).trans S.toF
  have hnames := I.same S (S.op e he) hD hp h02 h2F one.fresh one.preds
  obtain ⟨_, c2, c3⟩ := names_congr (P := P) (X := X) (σ := addPend s2.base s2.pend) hnames
  have hone := one
  cases one with
  | flt => cases hfv
  | @wrt _ i o r v σ3 tmx ho hd hpp hsn hlast hw hr hc hput hs =>
  simp only at hnames c2 c3 hD hp hi
  -- no other write came first
  have hfl : Fl n0 s1 s2 := by
    rcases t1.cases_w with f | ⟨_, ⟨e1, t0, t0', g1, g2, g3, g4, g5⟩⟩
    · exact f
    · exfalso
      rw [g1] at hlast
      have hDe : D e1.i := hp _ hlast
      have hmem : e1 ∈ sF.evts := by
        have : e1 ∈ t0'.evts := by rw [g4.evts]; exact List.mem_cons_self ..
        exact h2F.sub e1 (g5.sub e1 this)
      rcases I.post e1 hmem hDe with h | h
      · have := g4.fresh
        rw [g3.doneSub h] at this; cases this
      · exact h g2
  obtain ⟨hev, hsub⟩ := I.pendSub S hfl h2F hsn hp
  have hnext : (addPend s2.base s2.pend).next = σ.next := by rw [addPend_next, hfl.base, I.next]
  have Hp : HRel P R (addPend s2.base s2.pend) w.heap := I.kept.rel.sub hnext fun a o ha => (hsub a o ha).1
  rw [← c3] at hw
  have hwant := awanted_rel I.trel hw
  rw [← c2] at hr
  have hret := awrt_run hX Hp I.trel hr
  have hnd : ∀ c, o.op ≠ .defer c := by
    intro c hop
    unfold awrt at hr
    rw [hop] at hr
    simp only [ok_bind] at hr
    obtain ⟨d, hd, hr⟩ := hr
    split at hr
    · simp only [ok_inj] at hr; subst hr; cases hc
    · cases hr
  obtain ⟨R', w', cv, hst, hv, hk⟩ := reg_write (fr := fr) (cs := cs) (k' := k') (rest := rest) hC Hp hnc hm ho hwant hret hnd hc
  have hle := hk.fr.le
  obtain ⟨tm', htm'⟩ := putTm_ok (tm1 := tm) (v' := v) hput
  obtain ⟨p1, p2⟩ := putTm_rel (I.trel.mono hle) I.size hv htm'
  subst hs
  have hd3 : ∀ j, (s2.done ||| 2 ^ i).testBit j = true ↔ s2.done.testBit j = true ∨ i = j := fun j => by rw [bit_or]; simp
  have h2b := h02.bits S.bits0
  -- the blocks beside
  have hmiss : ∀ e' ob, Beside sF (fun j => D j ∨ j = i) { tm := tmx, base := σ3, pend := [], done := s2.done ||| 2 ^ i, since := 0, lastW := some i, past := s2.base :: s2.past, evts := { i := i, o := o, wanted := true, tm := s2.tm, val := v, fv := none, seg := s2.past.length } :: s2.evts } e' ob →
      D e'.i ∧ s1.done.testBit e'.i = false ∧ s2.done.testBit e'.i = false ∧ e'.i ≠ i := by
    rintro e' ob ⟨h1, h2, h3, mk, h4⟩
    have h3' : ¬ (s2.done.testBit e'.i = true ∨ i = e'.i) := fun h => by
      have := (hd3 e'.i).2 h
      simp only at h3
      rw [this] at h3; cases h3
    have hne : e'.i ≠ i := fun h => h3' (.inr h.symm)
    have hs2 : s2.done.testBit e'.i = false := by
      cases hx : s2.done.testBit e'.i with
      | false => rfl
      | true => exact absurd (.inl hx) h3'
    refine ⟨h2.resolve_right hne, ?_, hs2, hne⟩
    cases hx : s1.done.testBit e'.i with
    | false => rfl
    | true => rw [t1.doneSub hx] at hs2; cases hs2
  have hgone : ∀ e' ob, Beside sF (fun j => D j ∨ j = i) { tm := tmx, base := σ3, pend := [], done := s2.done ||| 2 ^ i, since := 0, lastW := some i, past := s2.base :: s2.past, evts := { i := i, o := o, wanted := true, tm := s2.tm, val := v, fv := none, seg := s2.past.length } :: s2.evts } e' ob →
      (addPend s2.base s2.pend).heap.get (n0 + e'.i) = none := by
    intro e' ob hb
    obtain ⟨g1, g2, g3, g4⟩ := hmiss e' ob hb
    obtain ⟨h1, _, _, mk, h4⟩ := hb
    cases hx : (addPend s2.base s2.pend).heap.get (n0 + e'.i) with
    | none => rfl
    | some o' =>
      rcases (hsub _ _ hx).2 with h | ⟨e2, he2, h⟩
      · rw [I.clear e' h1 g1 g2 mk ob h4] at h; cases h
      · have : e'.i = e2.i := by omega
        rw [this, (h2b e2.i).2 ⟨e2, he2, rfl⟩] at g3; cases g3
  have hold : ∀ e' ob, Beside sF (fun j => D j ∨ j = i) { tm := tmx, base := σ3, pend := [], done := s2.done ||| 2 ^ i, since := 0, lastW := some i, past := s2.base :: s2.past, evts := { i := i, o := o, wanted := true, tm := s2.tm, val := v, fv := none, seg := s2.past.length } :: s2.evts } e' ob →
      σ.heap.get (n0 + e'.i) = some ob := by
    intro e' ob hb
    obtain ⟨g1, g2, g3, g4⟩ := hmiss e' ob hb
    obtain ⟨h1, _, _, mk, h4⟩ := hb
    exact I.big e' h1 g1 g2 mk ob h4
  -- their blocks are apart from all of the new state
  have happ : ∀ e' ob, Beside sF (fun j => D j ∨ j = i) { tm := tmx, base := σ3, pend := [], done := s2.done ||| 2 ^ i, since := 0, lastW := some i, past := s2.base :: s2.past, evts := { i := i, o := o, wanted := true, tm := s2.tm, val := v, fv := none, seg := s2.past.length } :: s2.evts } e' ob →
      ∀ l, R.loc (n0 + e'.i) = some l → ∀ a la, (σ3.heap.get a).isSome → R'.loc a = some la → la.block ≠ l.block := by
    intro e' ob hb l hl a la ha hla heq
    have hs := hold e' ob hb
    have hlt : l.block < w.heap.size := I.kept.rel.lt (by rw [hs]; rfl) hl
    rcases hk.fr.own a la ha hla with h | ⟨a0, l0, h1, h2, h3⟩
    · omega
    · obtain ⟨o0, ho0⟩ := Option.isSome_iff_exists.1 h1
      have h4 := (hsub a0 o0 ho0).1
      have := I.kept.rel.inj a0 (n0 + e'.i) l0 l (by rw [h4]; rfl) (by rw [hs]; rfl) h2 hl (by rw [h3, heq])
      rw [this, hgone e' ob hb] at ho0; cases ho0
  obtain ⟨hN, hN1, hN2⟩ := exists_beside S.uniq (fun j => D j ∨ j = i) { tm := tmx, base := σ3, pend := [], done := s2.done ||| 2 ^ i, since := 0, lastW := some i, past := s2.base :: s2.past, evts := { i := i, o := o, wanted := true, tm := s2.tm, val := v, fv := none, seg := s2.past.length } :: s2.evts } n0 σ3.heap sF.evts (fun _ h => h)
  -- what the new heap holds
  have hwhat : ∀ a ob, hN.get a = some ob → (σ3.heap.get a = some ob ∧ ∀ e' o', Beside sF (fun j => D j ∨ j = i) { tm := tmx, base := σ3, pend := [], done := s2.done ||| 2 ^ i, since := 0, lastW := some i, past := s2.base :: s2.past, evts := { i := i, o := o, wanted := true, tm := s2.tm, val := v, fv := none, seg := s2.past.length } :: s2.evts } e' o' → a ≠ n0 + e'.i) ∨
      ∃ e', Beside sF (fun j => D j ∨ j = i) { tm := tmx, base := σ3, pend := [], done := s2.done ||| 2 ^ i, since := 0, lastW := some i, past := s2.base :: s2.past, evts := { i := i, o := o, wanted := true, tm := s2.tm, val := v, fv := none, seg := s2.past.length } :: s2.evts } e' ob ∧ a = n0 + e'.i := by
    intro a ob ha
    by_cases hx : ∃ e' ob', Beside sF (fun j => D j ∨ j = i) { tm := tmx, base := σ3, pend := [], done := s2.done ||| 2 ^ i, since := 0, lastW := some i, past := s2.base :: s2.past, evts := { i := i, o := o, wanted := true, tm := s2.tm, val := v, fv := none, seg := s2.past.length } :: s2.evts } e' ob' ∧ a = n0 + e'.i
    · obtain ⟨e', ob', hb, rfl⟩ := hx
      rw [hN1 e' hb.1 ob' hb] at ha
      cases ha
      exact .inr ⟨e', hb, rfl⟩
    · left
      have hall : ∀ e' o', Beside sF (fun j => D j ∨ j = i) { tm := tmx, base := σ3, pend := [], done := s2.done ||| 2 ^ i, since := 0, lastW := some i, past := s2.base :: s2.past, evts := { i := i, o := o, wanted := true, tm := s2.tm, val := v, fv := none, seg := s2.past.length } :: s2.evts } e' o' → a ≠ n0 + e'.i := fun e' o' hb h => hx ⟨e', o', hb, h⟩
      rw [hN2 a fun e' _ o' hb => hall e' o' hb] at ha
      exact ⟨ha, hall⟩
  have hrel : HRel P R' { heap := hN, next := σ3.next } w'.heap := by
    refine ⟨hk.rel.glob, hk.rel.low, hk.rel.dom, fun a b la lb ha hb hla hlb heq => ?_, fun a ob ha => ?_⟩
    · obtain ⟨oa, hoa⟩ := Option.isSome_iff_exists.1 ha
      obtain ⟨ob, hob⟩ := Option.isSome_iff_exists.1 hb
      rcases hwhat a oa hoa with ⟨ha', _⟩ | ⟨ea, hea, rfl⟩ <;> rcases hwhat b ob hob with ⟨hb', _⟩ | ⟨eb, heb, rfl⟩
      · exact hk.rel.inj a b la lb (by rw [ha']; rfl) (by rw [hb']; rfl) hla hlb heq
      · obtain ⟨l, O, g1, _⟩ := I.kept.rel.obj _ _ (hold eb ob heb)
        rw [hle.1 _ _ g1] at hlb; cases hlb
        exact absurd heq (happ eb ob heb _ g1 a la (by rw [ha']; rfl) hla)
      · obtain ⟨l, O, g1, _⟩ := I.kept.rel.obj _ _ (hold ea oa hea)
        rw [hle.1 _ _ g1] at hla; cases hla
        exact absurd heq.symm (happ ea oa hea _ g1 b lb (by rw [hb']; rfl) hlb)
      · obtain ⟨l, O, g1, _⟩ := I.kept.rel.obj _ _ (hold ea oa hea)
        obtain ⟨l2, O2, g2, _⟩ := I.kept.rel.obj _ _ (hold eb ob heb)
        rw [hle.1 _ _ g1] at hla; cases hla
        rw [hle.1 _ _ g2] at hlb; cases hlb
        exact I.kept.rel.inj _ _ _ _ (by rw [hold ea oa hea]; rfl) (by rw [hold eb ob heb]; rfl) g1 g2 heq
    · rcases hwhat a ob ha with ⟨ha', _⟩ | ⟨ea, hea, rfl⟩
      · exact hk.rel.obj a ob ha'
      · obtain ⟨l, O, g1, g2, g3⟩ := I.kept.rel.obj _ _ (hold ea ob hea)
        refine ⟨l, O, hle.1 _ _ g1, ?_, g3.mono hle⟩
        rw [hk.fr.keep l.block (I.kept.rel.lt (by rw [hold ea ob hea]; rfl) g1) ?_, g2]
        intro a0 l0 o0 ho0 _ h2 h3
        have h4 := (hsub a0 o0 ho0).1
        have := I.kept.rel.inj a0 (n0 + ea.i) l0 l (by rw [h4]; rfl) (by rw [hold ea ob hea]; rfl) h2 g1 h3
        rw [this, hgone ea ob hea] at ho0; cases ho0
  have hfr0 : Fr R0 σ0 w0.heap R (addPend s2.base s2.pend) w.heap := by
    refine ⟨I.kept.fr.le, I.kept.fr.size, I.kept.fr.keep, fun a l o0 ho0 hl => ?_, by rw [hnext]; exact I.kept.fr.next, I.kept.fr.old⟩
    exact I.kept.fr.orig a l o0 (hsub a o0 ho0).1 hl
  have hfr1 := hfr0.trans hk.fr
  have hkept : Kept P R0 σ0 w0 R' { heap := hN, next := σ3.next } w' := by
    refine ⟨hrel, ⟨hfr1.le, hfr1.size, hfr1.keep, fun a l oa hoa hl => ?_, hfr1.next, hfr1.old⟩, I.kept.keep.trans hk.keep⟩
    rcases hwhat a oa hoa with ⟨ha', _⟩ | ⟨ea, hea, rfl⟩
    · exact hfr1.orig a l oa ha' hl
    · obtain ⟨l2, O, g1, _⟩ := I.kept.rel.obj _ _ (hold ea oa hea)
      rw [hle.1 _ _ g1] at hl; cases hl
      exact I.kept.fr.orig _ _ _ (hold ea oa hea) g1
  have hmem : ({ i := i, o := o, wanted := true, tm := s2.tm, val := v, fv := none, seg := s2.past.length } : Evt) ∈ sF.evts := he
  refine ⟨_, tm', _, R', { heap := hN, next := σ3.next }, w', hst, ⟨.step h02 hone, t2, rfl, fun j hj => ?_, fun e' he' hx => ?_, I.tmok.put S.dsts S.op S.uniq hmem hD htm', p1, p2, rfl, fun e' he' hx hd' mk ob hf => hN1 e' he' ob ⟨he', hx, hd', mk, hf⟩, fun a ha => hN2 a fun e' he' ob hb => ha e' he' hb.2.1 hb.2.2.1 _ ob hb.2.2.2.choose_spec,
    fun e' he' hx hd' mk ob hf => ?_, fun j hj hx => ?_, hkept, fun a j hx hj => ?_, ?_, I.zero⟩⟩
  · rcases (hd3 j).1 hj with h | h
    · obtain ⟨e', he', rfl⟩ := (h2b j).1 h
      exact .inl (hev e' he')
    · exact .inr h.symm
  · rcases hx with hx | hx
    · rcases I.post e' he' hx with h | h
      · exact .inl ((hd3 _).2 (.inl (t1.doneSub h)))
      · exact .inr h
    · exact .inl ((hd3 _).2 (.inr hx.symm))
  · have hb : Beside sF (fun j => D j ∨ j = i) { tm := tmx, base := σ3, pend := [], done := s2.done ||| 2 ^ i, since := 0, lastW := some i, past := s2.base :: s2.past, evts := { i := i, o := o, wanted := true, tm := s2.tm, val := v, fv := none, seg := s2.past.length } :: s2.evts } e' ob := ⟨he', hx, hd', mk, hf⟩
    obtain ⟨l, O, g1, _⟩ := I.kept.rel.obj _ _ (hold e' ob hb)
    cases hz : σ3.heap.get (n0 + e'.i) with
    | none => rfl
    | some oz => exact absurd rfl (happ e' ob hb l g1 (n0 + e'.i) l (by rw [hz]; rfl) (hle.1 _ _ g1))
  · cases hz : R'.loc (n0 + j) with
    | none => rfl
    | some l =>
      rcases hk.fr.old _ _ hz with h | h
      · rw [I.undone j hj fun h => hx (.inl h)] at h; cases h
      · rw [hnext] at h
        have := I.room
        omega
  · rcases hx with hx | hx
    · exact .inl (I.down a j hx hj)
    · subst hx; exact .inl (hp j hj)
  · have h1 := hk.fr.next
    rw [hnext] at h1
    exact Nat.le_trans I.room h1

end Go.Ev

namespace Go.Ev

variable {P : Program} {X : Specs} {call : CallF} {ops : Array Oper} {bs : List Nat} {sz n0 : Nat}
variable {s0 sM sF : DR} {R0 : Ren} {σ0 : St} {w0 : World}
variable {fr : Frame} {cs : List Frame} {k' : List Item}

theorem nodup_lt : ∀ (n : Nat) (L : List Nat), L.Nodup → (∀ i ∈ L, i < n) → L.length ≤ n
  | 0, L, _, h => by
    cases L with
    | nil => simp
    | cons x _ => exact absurd (h x (List.mem_cons_self ..)) (by omega)
  | n + 1, L, hn, h => by
    have h1 : (L.filter (fun i => !(i == n))).Nodup := hn.filter _
    have h2 := nodup_lt n _ h1 fun i hi => by
      have := List.mem_filter.1 hi
      have h3 := h i this.1
      have h4 : i ≠ n := by simpa using this.2
      omega
    have h3 : L.length ≤ (L.filter (fun i => !(i == n))).length + 1 := by
      clear h2 h1 h
      induction L with
      | nil => simp
      | cons x xs ih =>
        have hx := List.nodup_cons.1 hn
        by_cases hxn : x = n
        · subst hxn
          have : xs.filter (fun i => !(i == x)) = xs := List.filter_eq_self.2 fun a ha => by
            have : a ≠ x := fun e => hx.1 (e ▸ ha)
            simpa using this
          simp [this]
        · have := ih hx.2
          have hb : (!(x == n)) = true := by simpa using hxn
          rw [List.filter_cons, if_pos hb]
          simp only [List.length_cons]
          omega
    omega

theorem To.first {D : Nat → Prop} (h0 : s0.evts = []) {s : DR} (h : To P X call ops bs sz n0 s0 s) (hx : ∃ e ∈ s.evts, ¬ D e.i) : ∃ s2 e s3, To P X call ops bs sz n0 s0 s2 ∧ One P X call ops bs sz n0 s2 e s3 ∧ To P X call ops bs sz n0 s3 s ∧ ¬ D e.i ∧ ∀ e' ∈ s2.evts, D e'.i := by
  induction h with
  | refl => obtain ⟨e, he, _⟩ := hx; rw [h0] at he; cases he
  | @step s1 s2 x t h1 ih =>
    by_cases hy : ∃ e ∈ s1.evts, ¬ D e.i
    · obtain ⟨a, b, c, g1, g2, g3, g4⟩ := ih hy
      exact ⟨a, b, c, g1, g2, .step g3 h1, g4⟩
    · obtain ⟨e, he, hD⟩ := hx
      rw [h1.evts] at he
      have hall : ∀ e' ∈ s1.evts, D e'.i := fun e' he' => Classical.byContradiction fun h => hy ⟨e', he', h⟩
      cases he with
      | head => exact ⟨s1, _, s2, t, h1, .refl _, hD, hall⟩
      | tail _ he => exact absurd (hall e he) hD

theorem walk (S : Setup P X call ops bs sz n0 s0 sM sF) (hX : SpecsOk P X) (hC : CallGood P call) (hnc : ∀ d b r s k, fr.todo ≠ .call d b r s :: k) (hm : fr.mode = .run) (G : Machine → Prop) (hG : ∀ M M', Steps P M M' → G M' → G M) (p : Nat)
    (hbs : ∀ (i : Nat) (o : Oper), ops[i]? = some o → ∀ j, (bs.getD i 0).testBit j = true ↔ ∃ e ∈ o.after.toList, Region.binds .any e = true ∧ (e.on = j ∨ (e.on < i ∧ (bs.getD e.on 0).testBit j = true)))
    (noEv : ∀ i, i < ops.size → (∃ e ∈ sF.evts, e.i = i) ∨ (p < ops.size ∧ (i = p ∨ (bs.getD i 0).testBit p = true)))
    (hpe : ∀ e ∈ sF.evts, e.i ≠ p) (hpp : p < ops.size → ∀ j, (bs.getD p 0).testBit j = true → ∃ e ∈ sF.evts, e.i = j)
    (fin : ∀ (D : Nat → Prop) (s1 : DR) (tm : Tr Value) (arr : Array Value) (R : Ren) (σ : St) (w : World), Inv P X call ops bs sz n0 s0 sM sF R0 σ0 w0 D s1 tm arr R σ w → (∀ i, i < ops.size → D i) → ¬ D p → G (lone (rf fr arr ops [] k') cs w))
    (pan : ∀ (D : Nat → Prop) (s1 : DR) (tm : Tr Value) (arr : Array Value) (R : Ren) (σ : St) (w : World) (rest : List Nat), Inv P X call ops bs sz n0 s0 sM sF R0 σ0 w0 D s1 tm arr R σ w → p < ops.size → ¬ D p → (∀ j, (bs.getD p 0).testBit j = true → D j) → G (lone (rf fr arr ops (p :: rest) k') cs w)) :
    ∀ (fuel t : Nat) (listed : Array Bool) (s1 : DR) (tm : Tr Value) (arr : Array Value) (R : Ren) (σ : St) (w : World), listed.size = ops.size → Inv P X call ops bs sz n0 s0 sM sF R0 σ0 w0 (fun i => listed.getD i false = true) s1 tm arr R σ w →
      listed.getD p false = false → (∃ L : List Nat, L.Nodup ∧ (∀ i ∈ L, listed.getD i false = true) ∧ L.length + fuel = ops.size) → G (lone (rf fr arr ops (Region.linearise.go .any ops fuel t listed []) k') cs w) := by
  intro fuel
  induction fuel with
  | zero =>
    intro t listed s1 tm arr R σ w hsz I hpl ⟨L, hL1, hL2, hL3⟩
    simp only [Region.linearise.go, List.reverse_nil]
    refine fin _ s1 tm arr R σ w I (fun i hi => ?_) (by rw [hpl]; simp)
    refine Classical.byContradiction fun hx => ?_
    have hlt : ∀ j ∈ i :: L, j < ops.size := by
      intro j hj
      cases hj with
      | head => exact hi
      | tail _ hj =>
        have := hL2 j hj
        rw [← hsz]
        refine Classical.byContradiction fun h => ?_
        rw [Array.getD_eq_getD_getElem?, Array.getElem?_eq_none (by omega)] at this
        simp at this
    have := nodup_lt ops.size (i :: L) (List.nodup_cons.2 ⟨fun h => hx (hL2 i h), hL1⟩) hlt
    simp only [List.length_cons] at this
    omega
  | succ fuel ih =>
    intro t listed s1 tm arr R σ w hsz I hpl ⟨L, hL1, hL2, hL3⟩
    have hget : ∀ i, i < ops.size → listed.getD i true = listed.getD i false := by
      intro i hi
      rw [Array.getD_eq_getD_getElem?, Array.getD_eq_getD_getElem?, Array.getElem?_eq_getElem (by omega)]
      rfl
    have hready : ∀ i, i ∈ Region.ready .any ops listed ↔ i < ops.size ∧ listed.getD i false = false ∧ ∃ o, ops[i]? = some o ∧ ∀ e ∈ o.after.toList, Region.binds .any e = true → listed.getD e.on false = true := by
      intro i
      simp only [Region.ready, List.mem_filter, List.mem_range, Bool.and_eq_true]
      constructor
      · rintro ⟨h1, h2, h3⟩
        rw [hget i h1] at h2
        refine ⟨h1, by simpa using h2, ?_⟩
        cases ho : ops[i]? with
        | none => rw [ho] at h3; simp at h3
        | some o =>
          rw [ho] at h3
          simp only [Option.map_some, Option.getD_some, ← Array.all_toList, List.all_eq_true] at h3
          refine ⟨o, rfl, fun e he hb => ?_⟩
          have := h3 e he
          rw [hb] at this
          simpa using this
      · rintro ⟨h1, h2, o, ho, h3⟩
        refine ⟨h1, by rw [hget i h1, h2]; rfl, ?_⟩
        rw [ho]
        simp only [Option.map_some, Option.getD_some, ← Array.all_toList, List.all_eq_true]
        intro e he
        cases hb : Region.binds .any e with
        | false => rfl
        | true => rw [h3 e he hb]; rfl
    simp only [Region.linearise.go]
    change G (lone (rf fr arr ops (match (Region.ready .any ops listed)[t % (Region.ready .any ops listed).length]? with
      | some i => Region.linearise.go .any ops fuel (t / (Region.ready .any ops listed).length) (listed.setIfInBounds i true) [i]
      | none => [].reverse) k') cs w)
    cases hi : (Region.ready .any ops listed)[t % (Region.ready .any ops listed).length]? with
    | none =>
      have hnil : Region.ready .any ops listed = [] := by
        cases hr : Region.ready .any ops listed with
        | nil => rfl
        | cons x xs =>
          rw [hr] at hi
          have hlt : t % (x :: xs).length < (x :: xs).length := Nat.mod_lt _ (by simp)
          simp at hi
          simp at hlt
          omega
      simp only [List.reverse_nil]
      refine fin _ s1 tm arr R σ w I (fun i hlt => ?_) (by rw [hpl]; simp)
      refine Classical.byContradiction fun hx => ?_
      have hno : ∀ i, i < ops.size → ¬ listed.getD i false = true → (∀ j, (bs.getD i 0).testBit j = true → listed.getD j false = true) → False := by
        intro i h1 h2 h3
        have : i ∈ Region.ready .any ops listed := (hready i).2 ⟨h1, by simpa using h2, ops[i], Array.getElem?_eq_getElem h1, fun e he hb => h3 _ ((hbs i ops[i] (Array.getElem?_eq_getElem h1) e.on).2 ⟨e, he, hb, .inl rfl⟩)⟩
        rw [hnil] at this; cases this
      by_cases hev : ∃ e ∈ sF.evts, ¬ listed.getD e.i false = true
      · obtain ⟨s2, e, s3, g1, g2, g3, g4, g5⟩ := To.first (D := fun i => listed.getD i false = true) S.evts0 S.all hev
        have hlt2 : e.i < ops.size := (Array.getElem?_eq_some_iff.1 g2.op).1
        refine hno e.i hlt2 g4 fun j hj => ?_
        obtain ⟨e', he', rfl⟩ := (g1.bits S.bits0 j).1 (sub_mask g2.preds hj)
        exact g5 e' he'
      · have hall : ∀ e ∈ sF.evts, listed.getD e.i false = true := fun e he => Classical.byContradiction fun h => hev ⟨e, he, h⟩
        rcases noEv i hlt with ⟨e, he, rfl⟩ | ⟨hp, _⟩
        · exact hx (hall e he)
        · refine hno p hp (by rw [hpl]; simp) fun j hj => ?_
          obtain ⟨e, he, rfl⟩ := hpp hp j hj
          exact hall e he
    | some i =>
      simp only []
      rw [linearise_go_acc, List.reverse_singleton, List.singleton_append]
      obtain ⟨h1, h2, o, ho, h3⟩ := (hready i).1 (List.mem_of_getElem? hi)
      have hD : ¬ listed.getD i false = true := by rw [h2]; simp
      have hp : ∀ j, (bs.getD i 0).testBit j = true → listed.getD j false = true := by
        intro j hj
        obtain ⟨e, he, hb, hx⟩ := (hbs i o ho j).1 hj
        have h4 := h3 e he hb
        rcases hx with rfl | ⟨_, hx⟩
        · exact h4
        · exact I.down _ _ h4 hx
      have hset : ∀ j, (listed.setIfInBounds i true).getD j false = true ↔ (listed.getD j false = true ∨ j = i) := by
        intro j
        simp only [Array.getD_eq_getD_getElem?, Array.getElem?_setIfInBounds]
        by_cases hji : i = j
        · subst hji
          simp [hsz, h1]
        · rw [if_neg hji]
          simp [Ne.symm hji]
      have hfun : (fun j => listed.getD j false = true ∨ j = i) = (fun j => (listed.setIfInBounds i true).getD j false = true) := funext fun j => propext (hset j).symm
      have hnext : ∀ s1 tm arr R σ w, i ≠ p → Inv P X call ops bs sz n0 s0 sM sF R0 σ0 w0 (fun j => listed.getD j false = true ∨ j = i) s1 tm arr R σ w →
          G (lone (rf fr arr ops (Region.linearise.go .any ops fuel (t / (Region.ready .any ops listed).length) (listed.setIfInBounds i true) []) k') cs w) := by
        intro s1 tm arr R σ w hip I'
        rw [hfun] at I'
        refine ih _ _ s1 tm arr R σ w (by simp [hsz]) I' ?_ ⟨i :: L, List.nodup_cons.2 ⟨fun h => hD (hL2 i h), hL1⟩, fun j hj => ?_, by simp only [List.length_cons]; omega⟩
        · cases hx : (listed.setIfInBounds i true).getD p false with
          | false => rfl
          | true =>
            rcases (hset p).1 hx with h | h
            · rw [hpl] at h; cases h
            · exact absurd h.symm hip
        · refine (hset j).2 ?_
          cases hj with
          | head => exact .inr rfl
          | tail _ hj => exact .inl (hL2 j hj)
      rcases noEv i h1 with ⟨e, he, rfl⟩ | ⟨hpn, hx⟩
      · cases hfv : e.fv with
        | some fv =>
          obtain ⟨tm', arr', R', σ', w', g1, g2⟩ := step_flt (fr := fr) (cs := cs) (k' := k') (rest := Region.linearise.go .any ops fuel (t / (Region.ready .any ops listed).length) (listed.setIfInBounds e.i true) []) S I hm he hD hp hfv
          exact hG _ _ g1 (hnext _ _ _ _ _ _ (hpe e he) g2)
        | none =>
          obtain ⟨s3, tm', arr', R', σ', w', g1, g2⟩ := step_wrt (fr := fr) (cs := cs) (k' := k') (rest := Region.linearise.go .any ops fuel (t / (Region.ready .any ops listed).length) (listed.setIfInBounds e.i true) []) S hX hC I hnc hm he hD hp hfv
          exact hG _ _ g1 (hnext _ _ _ _ _ _ (hpe e he) g2)
      · rcases hx with rfl | hx
        · exact pan _ s1 tm arr R σ w _ I hpn hD hp
        · have := hp p hx
          rw [hpl] at this; cases this

end Go.Ev

namespace Go.Ev

variable {P : Program} {X : Specs} {call : CallF} {ops : Array Oper}

theorem fold_bit (g : Nat → Nat) (j : Nat) : ∀ (l : List Edge) (s : Nat), (l.foldl (fun s e => if Region.binds .any e then s ||| 2 ^ e.on ||| g e.on else s) s).testBit j = true ↔
    s.testBit j = true ∨ ∃ e ∈ l, Region.binds .any e = true ∧ (e.on = j ∨ (g e.on).testBit j = true)
  | [], s => by simp
  | e :: l, s => by
    rw [List.foldl_cons, fold_bit g j l]
    cases hb : Region.binds .any e with
    | false => simp [hb]
    | true =>
      simp only [if_true, Nat.testBit_or, Nat.testBit_two_pow, Bool.or_eq_true, decide_eq_true_eq, List.mem_cons, exists_eq_or_imp, hb, true_and]
      constructor
      · rintro (((h | h) | h) | h)
        · exact .inl h
        · exact .inr (.inl (.inl h))
        · exact .inr (.inl (.inr h))
        · exact .inr (.inr h)
      · rintro (h | (h | h) | h)
        · exact .inl (.inl (.inl h))
        · exact .inl (.inl (.inr h))
        · exact .inl (.inr h)
        · exact .inr h

theorem getD_append_left (a b : List Nat) {i : Nat} (h : i < a.length) : (a ++ b).getD i 0 = a.getD i 0 := by
  simp [List.getD_eq_getElem?_getD, List.getElem?_append_left h]

theorem befores_spec : ∀ (l : List Oper) (acc : List Nat), (∀ i, i < acc.length → (beforesGo l acc).getD i 0 = acc.getD i 0) ∧
    ∀ (k : Nat) (o : Oper), l[k]? = some o → ∀ j, ((beforesGo l acc).getD (acc.length + k) 0).testBit j = true ↔
      ∃ e ∈ o.after.toList, Region.binds .any e = true ∧ (e.on = j ∨ (e.on < acc.length + k ∧ ((beforesGo l acc).getD e.on 0).testBit j = true))
  | [], acc => ⟨fun _ _ => rfl, fun k o h => by simp at h⟩
  | x :: l, acc => by
    obtain ⟨h1, h2⟩ := befores_spec l (acc ++ [x.after.toList.foldl (fun s e => if Region.binds .any e then s ||| 2 ^ e.on ||| acc.getD e.on 0 else s) 0])
    simp only [List.length_append, List.length_cons, List.length_nil] at h1 h2
    refine ⟨fun i hi => ?_, fun k o hk j => ?_⟩
    · simp only [beforesGo]
      rw [h1 i (by omega), getD_append_left _ _ hi]
    · simp only [beforesGo]
      cases k with
      | succ k =>
        have := h2 k o (by simpa using hk) j
        rw [show acc.length + (k + 1) = acc.length + 1 + k by omega]
        simpa using this
      | zero =>
        simp only [List.getElem?_cons_zero, Option.some.injEq] at hk
        subst hk
        rw [Nat.add_zero, h1 acc.length (by omega)]
        have hv : (acc ++ [x.after.toList.foldl (fun s e => if Region.binds .any e then s ||| 2 ^ e.on ||| acc.getD e.on 0 else s) 0]).getD acc.length 0 = x.after.toList.foldl (fun s e => if Region.binds .any e then s ||| 2 ^ e.on ||| acc.getD e.on 0 else s) 0 := by
          simp [List.getD_eq_getElem?_getD]
        rw [hv, fold_bit (fun n => acc.getD n 0) j]
        simp only [Nat.zero_testBit, Bool.false_eq_true, false_or]
        constructor
        · rintro ⟨e, he, hb, hx⟩
          refine ⟨e, he, hb, hx.imp id fun h => ?_⟩
          have hlt : e.on < acc.length := by
            refine Classical.byContradiction fun hn => ?_
            rw [List.getD_eq_getElem?_getD, List.getElem?_eq_none (by omega)] at h
            simp at h
          exact ⟨hlt, by rw [h1 e.on (by omega), getD_append_left _ _ hlt]; exact h⟩
        · rintro ⟨e, he, hb, hx⟩
          refine ⟨e, he, hb, hx.imp id fun ⟨hlt, h⟩ => ?_⟩
          rw [h1 e.on (by omega), getD_append_left _ _ hlt] at h
          exact h

theorem befores_ops (i : Nat) (o : Oper) (ho : ops[i]? = some o) (j : Nat) : ((befores ops.toList).getD i 0).testBit j = true ↔
    ∃ e ∈ o.after.toList, Region.binds .any e = true ∧ (e.on = j ∨ (e.on < i ∧ ((befores ops.toList).getD e.on 0).testBit j = true)) := by
  have := (befores_spec ops.toList []).2 i o (by simpa using ho) j
  simpa [befores] using this

theorem zip_mem {α : Type} {l : List α} {i : Nat} {o : α} (h : l[i]? = some o) : (o, i) ∈ l.zipIdx := by
  rw [List.mem_zipIdx_iff_getElem?]; exact h

theorem drawOk_spec {bs : List Nat} (h : drawOk ops.toList bs = true) {i j : Nat} {o v : Oper} (hi : ops[i]? = some o) (hj : ops[j]? = some v) (hij : i ≠ j) {d : Tmp} (hd : v.dst = some d) :
    o.dst ≠ some d ∧ (d ∈ namesOf ops.toList o → (bs.getD i 0).testBit j = true ∨ (bs.getD j 0).testBit i = true) := by
  unfold drawOk at h
  have h1 := List.all_eq_true.1 h (o, i) (zip_mem (by simpa using hi))
  have h2 := List.all_eq_true.1 h1 (v, j) (zip_mem (by simpa using hj))
  simp only [hd, Bool.or_eq_true, Bool.and_eq_true] at h2
  rcases h2 with h2 | ⟨h2, h3⟩
  · have : j = i := by simpa using h2
    exact absurd this.symm hij
  · refine ⟨by simpa using h2, fun hm => ?_⟩
    rcases h3 with h3 | h3
    · have hc : (namesOf ops.toList o).contains d = true := by simpa using hm
      rw [hc] at h3; cases h3
    · simpa [ordered] using h3

end Go.Ev

namespace Go.Ev

variable {P : Program} {X : Specs} {call : CallF} {ops : Array Oper} {bs : List Nat} {sz n0 : Nat}

theorem runMask_past {mask : Nat} : ∀ {l : List (Oper × Nat)} {s s' : DR}, runMask P ops bs sz n0 mask l s = .ok s' → s'.past = s.past ∧ ∀ j, s'.done.testBit j = true → s.done.testBit j = true ∨ mask.testBit j = true
  | [], s, s', h => by cases h; exact ⟨rfl, fun _ h => .inl h⟩
  | (o, i) :: l, s, s', h => by
    simp only [runMask] at h
    split at h
    · rename_i hb
      simp only [ok_bind] at h
      obtain ⟨s1, h1, h2⟩ := h
      obtain ⟨g1, g2⟩ := runMask_past h2
      have hs1 : s1.past = s.past ∧ s1.done = s.done ||| 2 ^ i := by
        unfold runFlt at h1
        split at h1
        · cases h1
        split at h1
        · cases h1
        simp only [ok_bind] at h1
        obtain ⟨w, hw, h1⟩ := h1
        cases w with
        | true =>
          simp only [if_true, ok_bind, ok_inj] at h1
          obtain ⟨fv, hfv, tm, htm, rfl⟩ := h1
          exact ⟨rfl, rfl⟩
        | false =>
          simp only [Bool.false_eq_true, if_false, ok_bind, ok_inj] at h1
          obtain ⟨fv, hfv, tm, htm, rfl⟩ := h1
          exact ⟨rfl, rfl⟩
      refine ⟨by rw [g1, hs1.1], fun j hj => ?_⟩
      rcases g2 j hj with h | h
      · rw [hs1.2, bit_or] at h
        simp only [Bool.or_eq_true, decide_eq_true_eq] at h
        rcases h with h | rfl
        · exact .inl h
        · simp only [Bool.and_eq_true] at hb
          exact .inr hb.1
      · exact .inr h
    · exact runMask_past h

theorem freeMask_p {p : Nat} : ∀ (l : List (Oper × Nat)), (freeMask bs p l).testBit p = false
  | [] => by simp [freeMask]
  | (o, i) :: l => by
    simp only [freeMask]
    split
    · rename_i h
      simp only [Bool.and_eq_true, bne_iff_ne, ne_eq] at h
      rw [bit_or, freeMask_p l]
      simpa using h.1
    · exact freeMask_p l

theorem To.since {s s' : DR} (h0 : ∀ j, s.since.testBit j = true → s.done.testBit j = true) (h : To P X call ops bs sz n0 s s') : ∀ j, s'.since.testBit j = true → s'.done.testBit j = true := by
  induction h with
  | refl => exact h0
  | @step s1 s2 x t h1 ih =>
    intro j hj
    have hd := h1.done
    rw [hd, bit_or]
    cases h1 with
    | flt _ _ _ _ _ _ _ hs =>
      subst hs
      simp only [bit_or, Bool.or_eq_true, decide_eq_true_eq] at hj ⊢
      exact hj.imp (ih j) id
    | wrt _ _ _ _ _ _ _ _ _ hs =>
      subst hs
      simp at hj

theorem Kept.sub {R0 R : Ren} {σ0 σ σ2 : St} {w0 w : World} (K : Kept P R0 σ0 w0 R σ w) (hn : σ2.next = σ.next) (hs : ∀ a o, σ2.heap.get a = some o → σ.heap.get a = some o) : Kept P R0 σ0 w0 R σ2 w := by
  refine ⟨K.rel.sub hn hs, ⟨K.fr.le, K.fr.size, K.fr.keep, fun a l o ho hl => ?_, by rw [hn]; exact K.fr.next, K.fr.old⟩, K.keep⟩
  exact K.fr.orig a l o (hs a o ho) hl

theorem dropDsts_get : ∀ (l : List Oper) (tm : Tr Value) (t : Tmp) (v : Value), (dropDsts tm l).get t = some v → tm.get t = some v ∧ ∀ o ∈ l, o.dst ≠ some t
  | [], tm, t, v, h => ⟨h, by simp⟩
  | o :: l, tm, t, v, h => by
    obtain ⟨h1, h2⟩ := dropDsts_get l _ t v h
    cases hd : o.dst with
    | none =>
      rw [hd] at h1
      exact ⟨h1, fun x hx => by
        cases hx with
        | head => rw [hd]; simp
        | tail _ hx => exact h2 x hx⟩
    | some d =>
      rw [hd] at h1
      simp only [Tr.get_del] at h1
      split at h1
      · cases h1
      · rename_i hne
        exact ⟨h1, fun x hx => by
          cases hx with
          | head => rw [hd]; simpa using Ne.symm hne
          | tail _ hx => exact h2 x hx⟩

theorem Inv.fl {s0 sM sF : DR} {R0 : Ren} {σ0 : St} {w0 : World} {D : Nat → Prop} {s1 : DR} {tm : Tr Value} {arr : Array Value} {R : Ren} {σ : St} {w : World} (S : Setup P X call ops bs sz n0 s0 sM sF) (I : Inv P X call ops bs sz n0 s0 sM sF R0 σ0 w0 D s1 tm arr R σ w)
    (hl : ∀ i, sM.lastW = some i → D i) : Fl n0 s1 sM := by
  rcases I.to.cases_w with f | ⟨_, ⟨e1, t0, t0', g1, g2, g3, g4, g5⟩⟩
  · exact f
  · exfalso
    have hDe := hl _ g1
    have hmem : e1 ∈ sF.evts := by
      have : e1 ∈ t0'.evts := by rw [g4.evts]; exact List.mem_cons_self ..
      exact S.toF.sub e1 (g5.sub e1 this)
    rcases I.post e1 hmem hDe with h | h
    · have := g4.fresh
      rw [g3.doneSub h] at this; cases this
    · exact h g2

theorem To.lastW {s s' : DR} (h0 : s.lastW = none) (h : To P X call ops bs sz n0 s s') : ∀ i, s'.lastW = some i → ∃ e ∈ s'.evts, e.i = i := by
  induction h with
  | refl => intro i hi; rw [h0] at hi; cases hi
  | @step s1 s2 x t h1 ih =>
    intro i hi
    rw [h1.evts]
    cases h1 with
    | flt _ _ _ _ _ _ _ hs => subst hs; obtain ⟨e, he, h⟩ := ih i hi; exact ⟨e, List.mem_cons_of_mem _ he, h⟩
    | wrt _ _ _ _ _ _ _ _ _ hs =>
      subst hs
      simp only [Option.some.injEq] at hi
      exact ⟨_, List.mem_cons_self .., hi⟩

theorem step_draw {fr : Frame} {cs : List Frame} {w : World} {id : Nat} {k' : List Item} (hmix : P.follows .mixedOrders = true) (hm : fr.mode = .run) (hft : fr.todo = .code (.region id ops true) :: k') :
    ∃ t, step P (lone fr cs w) = .next (lone (rf fr fr.tmps ops (Region.linearise.go .any ops ops.size t (Array.replicate ops.size false) []) k') cs { w with drawn := w.drawn + 1 }) := by
  refine ⟨w.tape w.drawn (.order fr.fn id), step_lone_go ?_⟩
  rw [stepG_exec hm]
  simp only [stepG.exec, hft]
  simp [choose, Sem.run, Question.forced, Question.cut, Region.schedule, hmix, Region.linearise, rf]

end Go.Ev

namespace Go.Ev

variable {P : Program} {X : Specs} {call : CallF} {ops : Array Oper} {bs : List Nat} {sz n0 : Nat}

theorem inv0 {R : Ren} {σ : St} {w : World} {tm : Tr Value} {arr : Array Value} {sM sF : DR} (H : HRel P R σ w.heap) (ht : TRel R tm arr) (hs : arr.size = sz) (h0 : n0 = σ.next)
    (hto : To P X call ops bs sz n0 { tm, base := { heap := σ.heap, next := σ.next + ops.size }, pend := [], done := 0, since := 0, lastW := none, past := [], evts := [] } sM) :
    Inv P X call ops bs sz n0 { tm, base := { heap := σ.heap, next := σ.next + ops.size }, pend := [], done := 0, since := 0, lastW := none, past := [], evts := [] } sM sF R σ w (fun i => (Array.replicate ops.size false).getD i false = true)
      { tm, base := { heap := σ.heap, next := σ.next + ops.size }, pend := [], done := 0, since := 0, lastW := none, past := [], evts := [] } tm arr R { heap := σ.heap, next := σ.next + ops.size } { w with drawn := w.drawn + 1 } := by
  have hf : ∀ i, ¬ (Array.replicate ops.size false).getD i false = true := by
    intro i
    rw [Array.getD_eq_getD_getElem?, Array.getElem?_replicate]
    split <;> simp
  have hrel : HRel P R { heap := σ.heap, next := σ.next + ops.size } w.heap := ⟨H.glob, Nat.le_trans H.low (Nat.le_add_right _ _), fun a ha => H.dom a (Nat.le_trans (Nat.le_add_right _ _) ha), H.inj, H.obj⟩
  refine ⟨.refl _, hto, rfl, fun i h => by simp at h, fun e _ h => absurd h (hf _), ⟨fun e _ h => absurd h (hf _), fun t _ => rfl⟩, ht, hs, rfl, fun e _ h => absurd h (hf _), fun a _ => rfl, fun e _ h => absurd h (hf _), fun i hi _ => H.dom _ (by rw [h0]; exact Nat.le_add_right _ _),
    ⟨hrel, ⟨R.le_refl, Nat.le_refl _, fun _ _ _ => rfl, fun a l o ha hl => .inr ⟨a, l, o, ha, hl, rfl, id⟩, Nat.le_add_right _ _, fun _ _ h => .inl h⟩, ⟨rfl, rfl, rfl⟩⟩, fun i j h => absurd h (hf _), by rw [h0]; exact Nat.le_refl _, h0⟩

theorem drawn_good (hX : SpecsOk P X) (hC : CallGood P call) (hmix : P.follows .mixedOrders = true) : DrawnGood P X call := by
  intro R base m fr cs w id ops k k' r SR H hm hk hft hd
  have hmode := mode_run SR.fr hm
  obtain ⟨l, rfl, hl⟩ := SR.cs
  unfold drawn at hd
  simp only at hd
  split at hd
  · cases hd
  rename_i hok
  have hok : drawOk ops.toList (befores ops.toList) = true := by
    cases hb : drawOk ops.toList (befores ops.toList) with
    | true => rfl
    | false => rw [hb] at hok; exact absurd rfl hok
  simp only [ok_bind] at hd
  obtain ⟨wr, hwr, hd⟩ := hd
  have hzip : ∀ p ∈ ops.toList.zipIdx, ops[p.2]? = some p.1 := fun p hp => by
    have := List.mem_zipIdx_iff_getElem?.1 hp
    simpa using this
  have hW := runWs_ok (X := X) (call := call) hzip (fun p hp => hzip p (List.mem_filter.1 hp).1) hwr
  have hop : ∀ {i : Nat} {o : Oper}, ops[i]? = some o → i < ops.size := fun h => (Array.getElem?_eq_some_iff.1 h).1
  obtain ⟨t, hstep⟩ := step_draw (P := P) (ops := ops) (fr := fr) (cs := l ++ base) (w := w) (id := id) (k' := k') hmix hmode hft
  have hgm : GMAX ≤ m.σ.next := H.low
  have hrep : ∀ p, (Array.replicate ops.size false).getD p false = false := by
    intro p
    rw [Array.getD_eq_getD_getElem?, Array.getElem?_replicate]
    split <;> simp
  have mk : ∀ {sM sF : DR}, To P X call ops (befores ops.toList) m.fr.sz m.σ.next { tm := m.fr.tmps, base := { heap := m.σ.heap, next := m.σ.next + ops.size }, pend := [], done := 0, since := 0, lastW := none, past := [], evts := [] } sM →
      To P X call ops (befores ops.toList) m.fr.sz m.σ.next sM sF → sF.past = sM.past → checkEvts P (befores ops.toList) (writesOf sF.evts) sF.past.reverse sF.evts = .ok () →
      Setup P X call ops (befores ops.toList) m.fr.sz m.σ.next { tm := m.fr.tmps, base := { heap := m.σ.heap, next := m.σ.next + ops.size }, pend := [], done := 0, since := 0, lastW := none, past := [], evts := [] } sM sF := by
    intro sM sF h1 h2 h3 h4
    exact ⟨h1, h2, h3, h4, fun i j o v hi hj hij d hd => (drawOk_spec hok hi hj hij hd).1, fun i j o v hi hj hij d hd => (drawOk_spec hok hi hj hij hd).2, rfl, rfl, rfl, hgm⟩
  cases wr with
  | ok s =>
    simp only [ok_bind] at hd
    obtain ⟨⟨⟩, hchk, hd⟩ := hd
    split at hd
    case isFalse => cases hd
    rename_i hdone
    have hdone : s.done = 2 ^ ops.size - 1 := by simpa using hdone
    simp only [ok_inj] at hd; subst hd
    have S := mk hW (.refl _) rfl hchk
    have hbits := S.all.bits S.bits0
    have hall : ∀ i, i < ops.size → ∃ e ∈ s.evts, e.i = i := fun i hi => (hbits i).1 (by rw [hdone, Nat.testBit_two_pow_sub_one]; simpa using hi)
    refine ((walk (fr := fr) (cs := l ++ base) (k' := k') S hX hC SR.fr.nocall hmode (fun M => Goes P R base m.σ w M { fr := { m.fr with tmps := s.tm, todo := k }, cs := m.cs, σ := addPend s.base s.pend })
      (fun M M' h ⟨R', fr', cs', w', g1, g2⟩ => ⟨R', fr', cs', w', h.trans g1, g2⟩) ops.size befores_ops (fun i hi => .inl (hall i hi)) (fun e he h => by have := hop (S.op e he); omega) (fun h => by omega) ?_ (fun _ _ _ _ _ _ _ _ _ h => by omega)
      ops.size t _ _ _ _ _ _ _ (by simp) (inv0 H SR.fr.tmps SR.fr.size rfl hW) (hrep _) ⟨[], by simp, by simp, by simp⟩) |> fun ⟨R', fr', cs', w', g1, g2⟩ => ⟨R', fr', cs', w', .head hstep g1, g2⟩)
    intro D s1 tm arr R1 σ1 w1 I hD _
    have hDe : ∀ e ∈ s.evts, D e.i := fun e he => hD _ (hop (S.op e he))
    have hfl : Fl m.σ.next s1 s := I.fl S fun i hi => by
      obtain ⟨e, he, rfl⟩ := S.toM.lastW rfl i hi
      exact hDe e he
    have hsub := (I.pendSub S hfl (.refl _) (m := s.since) (by simp [subMask]) fun j hj => by
      obtain ⟨e, he, rfl⟩ := (hbits j).1 (S.toM.since (fun j h => by simp at h) j hj)
      exact hDe e he).2
    have hkept : Kept P R m.σ w1 R1 (addPend s.base s.pend) w1 → True := fun _ => trivial
    have hK := I.kept.sub (σ2 := addPend s.base s.pend) (by rw [addPend_next, hfl.base, I.next]) fun a o ha => (hsub a o ha).1
    have htm : TRel R1 s.tm arr := by
      intro i v hv
      refine I.trel i v ?_
      rw [names_same I.tmok (S.tmOk hW (.refl _)) (names := [i]) (fun e he d _ _ => ⟨fun _ => (hbits e.i).2 ⟨e, he, rfl⟩, fun _ => hDe e he⟩) i (by simp)]
      exact hv
    have hle := hK.fr.le
    refine ⟨R1, { fr with tmps := arr, todo := k' }, l ++ base, w1, .one (reg_end hmode), ⟨⟨SR.fr.fn, htm, I.size, .inl (hk.mono fun _ _ x => x.mono hle), SR.fr.defers.mono fun _ _ x => x.mono hle, SR.fr.mode.mono hle, SR.fr.kind, SR.fr.round.mono hle, nocall_of hk⟩, l, rfl, hl.mono fun _ _ x => x.mono hle⟩, hK⟩
  | panic c σp s p o =>
    obtain ⟨hTo, hpan⟩ := hW
    simp only [ok_bind] at hd
    obtain ⟨s', hs', ⟨⟩, hchk, hd⟩ := hd
    split at hd
    case isFalse => cases hd
    rename_i hallb
    simp only [ok_inj] at hd; subst hd
    obtain ⟨hpast, hdn⟩ := runMask_past hs'
    have hToF : To P X call ops (befores ops.toList) m.fr.sz m.σ.next s s' := runMask_to hzip hs'
    have S := mk hTo hToF hpast hchk
    have hbits := S.all.bits S.bits0
    have hbitsM := S.toM.bits S.bits0
    have hp := hop hpan.op
    have hpn : s'.done.testBit p = false := by
      cases hx : s'.done.testBit p with
      | false => rfl
      | true =>
        rcases hdn p hx with h | h
        · rw [hpan.fresh] at h; cases h
        · rw [freeMask_p] at h; cases h
    refine ((walk (fr := fr) (cs := l ++ base) (k' := k') S hX hC SR.fr.nocall hmode (fun M => Goes P R base m.σ w M { fr := Ev.raise { m.fr with tmps := dropDsts m.fr.tmps ops.toList, todo := [] } c, cs := m.cs, σ := σp })
      (fun M M' h ⟨R', fr', cs', w', g1, g2⟩ => ⟨R', fr', cs', w', h.trans g1, g2⟩) p befores_ops (fun i hi => ?_) (fun e he h => ?_) (fun _ j hj => ?_) ?_ ?_
      ops.size t _ _ _ _ _ _ _ (by simp) (inv0 H SR.fr.tmps SR.fr.size rfl hTo) (hrep _) ⟨[], by simp, by simp, by simp⟩) |> fun ⟨R', fr', cs', w', g1, g2⟩ => ⟨R', fr', cs', w', .head hstep g1, g2⟩)
    · have h1 := List.all_eq_true.1 hallb (ops[i], i) (zip_mem (by simp [hi]))
      simp only [Bool.or_eq_true, beq_iff_eq] at h1
      rcases h1 with (h1 | h1) | h1
      · exact .inl ((hbits i).1 h1)
      · exact .inr ⟨hp, .inl h1⟩
      · exact .inr ⟨hp, .inr h1⟩
    · have := (hbits p).2 ⟨e, he, h⟩
      rw [hpn] at this; cases this
    · obtain ⟨e, he, h⟩ := (hbitsM j).1 (sub_mask hpan.preds hj)
      exact ⟨e, hToF.sub e he, h⟩
    · intro D s1 tm arr R1 σ1 w1 I hD hnp
      exact absurd (hD p hp) hnp
    · intro D s1 tm arr R1 σ1 w1 rest I _ hDp hpre
      have hfl : Fl m.σ.next s1 s := I.fl S fun i hi => by
        have := hpan.last
        rw [hi] at this
        exact hpre _ this
      obtain ⟨hev, hsub⟩ := I.pendSub S hfl hToF hpan.since hpre
      have Hp : HRel P R1 (addPend s.base s.pend) w1.heap := I.kept.rel.sub (by rw [addPend_next, hfl.base, I.next]) fun a o ha => (hsub a o ha).1
      have hK := I.kept.sub (σ2 := addPend s.base s.pend) (by rw [addPend_next, hfl.base, I.next]) fun a o ha => (hsub a o ha).1
      have hnames := I.same S hpan.op hDp hpre hTo hToF hpan.fresh hpan.preds
      obtain ⟨_, c2, c3⟩ := names_congr (P := P) (X := X) (σ := addPend s.base s.pend) hnames
      have hw := hpan.wanted
      rw [← c3] at hw
      have hwant := awanted_rel I.trel hw
      obtain ⟨r, hr, hc⟩ := hpan.out
      rw [← c2] at hr
      have hnd : ∀ c, o.op ≠ .defer c := by
        intro c hop
        unfold awrt at hr
        rw [hop] at hr
        simp only [ok_bind] at hr
        obtain ⟨d, hd, hr⟩ := hr
        split at hr
        · simp only [ok_inj] at hr; subst hr; cases hc
        · cases hr
      obtain ⟨R2, w2, ch, hst, hch, hk2⟩ := reg_write (fr := fr) (cs := l ++ base) (k' := k') (rest := rest) hC Hp SR.fr.nocall hmode hpan.op hwant (awrt_run hX Hp I.trel hr) hnd hc
      have hKK := hK.trans hk2
      have hle := hKK.fr.le
      refine ⟨R2, _, l ++ base, w2, hst, ⟨?_, l, rfl, hl.mono fun _ _ x => x.mono hle⟩, hKK⟩
      have htm : TRel R2 (dropDsts m.fr.tmps ops.toList) arr := by
        intro i v hv
        obtain ⟨h1, h2⟩ := dropDsts_get _ _ _ _ hv
        refine (I.trel.mono hk2.fr.le) i v ?_
        rw [I.tmok.old i fun e he _ => h2 _ (by have := S.op e he; exact List.mem_of_getElem? (by simpa using this))]
        exact h1
      have e1 : Ev.raise { m.fr with tmps := dropDsts m.fr.tmps ops.toList, todo := [] } c = { m.fr with tmps := dropDsts m.fr.tmps ops.toList, todo := [], mode := .panicking c } := by
        unfold Ev.raise; simp only [hm]
      have e2 : (rf fr arr ops (p :: rest) k').raise ch = { rf fr arr ops (p :: rest) k' with mode := .panicking ch } := by
        unfold Frame.raise; simp only [rf, hmode]
      rw [e2]
      simp only [e1]
      exact ⟨SR.fr.fn, htm, I.size, .inr ⟨rfl, fun h => by cases h⟩, SR.fr.defers.mono fun _ _ x => x.mono hle, .panicking _ _ hch, SR.fr.kind, SR.fr.round.mono hle, fun _ _ _ _ _ e => by cases e⟩

end Go.Ev

namespace Go.Ev

/-! ### the run of a call, all its outcomes -/

def gather : List (E (List CRes)) → E (List CRes)
  | [] => .ok []
  | x :: xs => do
    let a ← x
    let b ← gather xs
    .ok (a ++ b)

section
variable (P : Program) (X : Specs) (call : CallF) (f : FuncId)

def run : Nat → MSt → E (List CRes)
  | 0, _ => .error "no more steps"
  | n + 1, m => do
    let s ← astep P X call m
    match s with
    | .next m => run n m
    | .branch l => gather (l.map (run n))
    | .done r => if m.fr.fn = f then .ok [r] else .error "another function's end"

/-- calls from within a drawn region, to depth d -/
def callN (fuel : Nat) : Nat → CallF
  | 0 => fun _ _ _ => .error "too deep"
  | d + 1 => fun f args σ => do
    let fr ← enterFrame P f args .normal
    let rs ← run P X (callN fuel d) f fuel { fr, cs := [], σ }
    match rs with
    | [r] => .ok r
    | _ => .error "more than one outcome"
end

variable {P : Program} {X : Specs} {call : CallF}

theorem gather_mem : ∀ {l : List (E (List CRes))} {rs : List CRes}, gather l = .ok rs → ∀ x ∈ l, ∃ a, x = .ok a ∧ ∀ r ∈ a, r ∈ rs
  | [], _, _, x, hx => by cases hx
  | y :: ys, rs, h, x, hx => by
    simp only [gather, ok_bind, ok_inj] at h
    obtain ⟨a, ha, b, hb, rfl⟩ := h
    cases hx with
    | head => exact ⟨a, ha, fun r hr => List.mem_append_left _ hr⟩
    | tail _ hx =>
      obtain ⟨a', h1, h2⟩ := gather_mem hb x hx
      exact ⟨a', h1, fun r hr => List.mem_append_right _ (h2 r hr)⟩

theorem DoneOk.back {R R' : Ren} {base : List Frame} {σ σ' : St} {w w' : World} {M M' : Machine} {f : FuncId} {r : CRes} (hs : Steps P M M') (K : Kept P R σ w R' σ' w') (h : DoneOk P R' base σ' w' M' f r) : DoneOk P R base σ w M f r := by
  cases r with
  | ret v s =>
    obtain ⟨R2, fr2, w2, c, h1, h2, h3, h4, h5⟩ := h
    exact ⟨R2, fr2, w2, c, hs.trans h1, h2, h3, h4, K.trans h5⟩
  | panic ch s =>
    obtain ⟨R2, fr2, w2, c, h1, h2, h3, h4, h5⟩ := h
    exact ⟨R2, fr2, w2, c, hs.trans h1, h2, h3, h4, K.trans h5⟩

theorem run_ok (hX : SpecsOk P X) (hD : DrawnGood P X call) {f : FuncId} : ∀ (n : Nat) (m : MSt) (rs : List CRes) (R : Ren) (base : List Frame) (fr : Frame) (cs : List Frame) (w : World), run P X call f n m = .ok rs → SRel R base m fr cs → HRel P R m.σ w.heap →
    ∃ r ∈ rs, DoneOk P R base m.σ w (lone fr cs w) f r := by
  intro n
  induction n with
  | zero => intro m rs R base fr cs w h; cases h
  | succ n ih =>
    intro m rs R base fr cs w h S H
    simp only [run, ok_bind] at h
    obtain ⟨s, hs, h⟩ := h
    cases s with
    | next m' =>
      have hg := astep_sim (f := f) hX hD S H hs (fun r h => by cases h)
      obtain ⟨R', fr', cs', w', h1, h2, h3⟩ := hg
      obtain ⟨r, hr, hd⟩ := ih m' rs R' base fr' cs' w' h h2 h3.rel
      exact ⟨r, hr, hd.back h1 h3⟩
    | branch l =>
      have hg := astep_sim (f := f) hX hD S H hs (fun r h => by cases h)
      obtain ⟨m', hm', R', fr', cs', w', h1, h2, h3⟩ := hg
      obtain ⟨a, ha, hsub⟩ := gather_mem h (run P X call f n m') (List.mem_map.2 ⟨m', hm', rfl⟩)
      obtain ⟨r, hr, hd⟩ := ih m' a R' base fr' cs' w' ha h2 h3.rel
      exact ⟨r, hsub r hr, hd.back h1 h3⟩
    | done r =>
      simp only at h
      split at h
      · rename_i hfn
        simp only [ok_inj] at h; subst h
        exact ⟨r, List.mem_singleton.2 rfl, astep_sim hX hD S H hs (fun _ _ => hfn)⟩
      · cases h

/-- what an outcome says of a call's end -/
def EndOk (P : Program) (R : Ren) (σ : St) (w : World) (e : Ending) (w' : World) : CRes → Prop
  | .ret v σ' => ∃ R' c, e = .returned c ∧ VRel R' v c ∧ Kept P R σ w R' σ' w'
  | .panic chain σ' => ∃ R' c, e = .panicked c ∧ F2 (PRel R') chain c ∧ Kept P R σ w R' σ' w'

theorem run_calls (hX : SpecsOk P X) (hD : DrawnGood P X call) {f : FuncId} {args : List Value} {cargs : Array Value} {R : Ren} {σ : St} {w : World} (H : HRel P R σ w.heap) (ha : LRel R args cargs.toList) {a : AFrame} (he : enterFrame P f args .normal = .ok a)
    {n : Nat} {rs : List CRes} (h : run P X call f n { fr := a, cs := [], σ } = .ok rs) : Calls P f cargs w fun e w' => ∃ r ∈ rs, EndOk P R σ w e w' r := by
  intro cs
  obtain ⟨hf, _, hex⟩ := enterFrame_rel ha he
  obtain ⟨r, hr, hd⟩ := run_ok hX hD n _ rs R cs (Frame.enter P f cargs .normal) cs w h ⟨hf, [], rfl, F2.nil⟩ H
  cases r with
  | ret v σ' =>
    obtain ⟨R', fr', w', c, h1, h2, h3, h4, h5⟩ := hd
    exact ⟨.returned c, w', fr', ⟨_, hr, R', c, rfl, h4, h5⟩, h1, h3, h2 h3 hex⟩
  | panic ch σ' =>
    obtain ⟨R', fr', w', c, h1, h2, h3, h4, h5⟩ := hd
    exact ⟨.panicked c, w', fr', ⟨_, hr, R', c, rfl, h4, h5⟩, h1, h3, h2 h3 hex⟩

theorem callN_good (hX : SpecsOk P X) (hmix : P.follows .mixedOrders = true) (fuel : Nat) : ∀ d, CallGood P (callN P X fuel d)
  | 0 => fun f args σ r R w cargs h => by cases h
  | d + 1 => by
    intro f args σ r R w cargs h H ha
    simp only [callN, ok_bind] at h
    obtain ⟨a, he, rs, hrs, h⟩ := h
    split at h
    case h_2 => cases h
    simp only [ok_inj] at h; subst h
    have := run_calls hX (drawn_good hX (callN_good hX hmix fuel d) hmix) H ha he hrs
    rename_i r
    cases r with
    | ret v σ' => exact this.mono fun e w' ⟨r, hr, he⟩ => by rw [List.mem_singleton.1 hr] at he; exact he
    | panic ch σ' => exact this.mono fun e w' ⟨r, hr, he⟩ => by rw [List.mem_singleton.1 hr] at he; exact he

/-- THE VERIFIED EVALUATOR: all outcomes of a call. -/
theorem eval_calls (hX : SpecsOk P X) (hmix : P.follows .mixedOrders = true) {fuel depth n : Nat} {f : FuncId} {args : List Value} {cargs : Array Value} {R : Ren} {σ : St} {w : World} (H : HRel P R σ w.heap) (ha : LRel R args cargs.toList)
    {a : AFrame} (he : enterFrame P f args .normal = .ok a) {rs : List CRes} (h : run P X (callN P X fuel depth) f n { fr := a, cs := [], σ } = .ok rs) : Calls P f cargs w fun e w' => ∃ r ∈ rs, EndOk P R σ w e w' r :=
  run_calls hX (drawn_good hX (callN_good hX hmix fuel depth) hmix) H ha he h

end Go.Ev

namespace Go.Ev

variable {P : Program} {X : Specs} {R R' : Ren} {σ σi σi' σm : St} {w w' : World}

/-- THE FRAME: what a run does with a part of a state, it does with the whole. -/
theorem Kept.merge (H : HRel P R σ w.heap) (hn : σi.next = σ.next) (hsub : ∀ a o, σi.heap.get a = some o → σ.heap.get a = some o) (K : Kept P R σi w R' σi' w') (hmn : σm.next = σi'.next)
    (hm : ∀ a o, σm.heap.get a = some o → σi'.heap.get a = some o ∨ (σ.heap.get a = some o ∧ σi.heap.get a = none)) : Kept P R σ w R' σm w' := by
  have hle := K.fr.le
  -- blocks outside the part are apart from what the run owns
  have happ : ∀ a o l, σ.heap.get a = some o → σi.heap.get a = none → R.loc a = some l → ∀ b lb, (σi'.heap.get b).isSome → R'.loc b = some lb → lb.block ≠ l.block := by
    intro a o l ha hi hl b lb hb hlb heq
    have hlt : l.block < w.heap.size := H.lt (by rw [ha]; rfl) hl
    rcases K.fr.own b lb hb hlb with h | ⟨a0, l0, h1, h2, h3⟩
    · omega
    · obtain ⟨o0, ho0⟩ := Option.isSome_iff_exists.1 h1
      have := H.inj a0 a l0 l (by rw [hsub a0 o0 ho0]; rfl) (by rw [ha]; rfl) h2 hl (by rw [h3, heq])
      rw [this, hi] at ho0; cases ho0
  have hkeep : ∀ a o l, σ.heap.get a = some o → σi.heap.get a = none → R.loc a = some l → w'.heap[l.block]? = w.heap[l.block]? := by
    intro a o l ha hi hl
    refine K.fr.keep l.block (H.lt (by rw [ha]; rfl) hl) fun a0 l0 o0 ho0 _ h2 h3 => ?_
    have := H.inj a0 a l0 l (by rw [hsub a0 o0 ho0]; rfl) (by rw [ha]; rfl) h2 hl h3
    rw [this, hi] at ho0; cases ho0
  have hout : ∀ a o la, σ.heap.get a = some o → R'.loc a = some la → R.loc a = some la := by
    intro a o la ha hla
    obtain ⟨l, O, g1, _⟩ := H.obj a o ha
    rw [hle.1 _ _ g1] at hla; cases hla
    exact g1
  have hrel : HRel P R' σm w'.heap := by
    refine ⟨K.rel.glob, hmn ▸ K.rel.low, hmn ▸ K.rel.dom, fun a b la lb ha hb hla hlb heq => ?_, fun a o ha => ?_⟩
    · obtain ⟨oa, hoa⟩ := Option.isSome_iff_exists.1 ha
      obtain ⟨ob, hob⟩ := Option.isSome_iff_exists.1 hb
      rcases hm a oa hoa with h1 | ⟨h1, h1'⟩ <;> rcases hm b ob hob with h2 | ⟨h2, h2'⟩
      · exact K.rel.inj a b la lb (by rw [h1]; rfl) (by rw [h2]; rfl) hla hlb heq
      · exact absurd heq (happ b ob lb h2 h2' (hout b ob lb h2 hlb) a la (by rw [h1]; rfl) hla)
      · exact absurd heq.symm (happ a oa la h1 h1' (hout a oa la h1 hla) b lb (by rw [h2]; rfl) hlb)
      · exact H.inj a b la lb (by rw [h1]; rfl) (by rw [h2]; rfl) (hout a oa la h1 hla) (hout b ob lb h2 hlb) heq
    · rcases hm a o ha with h1 | ⟨h1, h1'⟩
      · exact K.rel.obj a o h1
      · obtain ⟨l, O, g1, g2, g3⟩ := H.obj a o h1
        exact ⟨l, O, hle.1 _ _ g1, by rw [hkeep a o l h1 h1' g1]; exact g2, g3.mono hle⟩
  refine ⟨hrel, ⟨hle, K.fr.size, fun B hB hne => K.fr.keep B hB fun a l o ho hro hl => hne a l o (hsub a o ho) hro hl, fun a l o ho hl => ?_, by rw [hmn, ← hn]; exact K.fr.next, fun a l hl => hn ▸ K.fr.old a l hl⟩, K.keep⟩
  rcases hm a o ho with h1 | ⟨h1, h1'⟩
  · rcases K.fr.orig a l o h1 hl with h | ⟨a0, l0, o0, g1, g2, g3, g4⟩
    · exact .inl h
    · exact .inr ⟨a0, l0, o0, hsub a0 o0 g1, g2, g3, g4⟩
  · exact .inr ⟨a, l, o, h1, hout a o l h1 hl, rfl, id⟩

end Go.Ev
