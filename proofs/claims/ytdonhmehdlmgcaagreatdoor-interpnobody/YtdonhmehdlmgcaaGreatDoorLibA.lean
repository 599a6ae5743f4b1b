/- A VERIFIED EVALUATOR, part one of four: an abstract machine over abstract heaps; what it reads agrees with the model. -/
import GoSem.Step
import Derived.Laws.Sem
import Derived.Laws.Cells
import Derived.Control
import Derived.Laws.StructEq
import Derived.Laws.BytesString
import Derived.Laws.IdiomStrings
import Derived.Laws.MakeOwn
set_option linter.unusedVariables false
set_option linter.unusedSimpArgs false
/- The abstract machine ('evaluator'): it mirrors the model's small-step machine on an abstract heap. Definitions alone. -/
namespace Go.Ev

/- binary tries -/
inductive Tr (α : Type) where
  | nil
  | node (l : Tr α) (v : Option α) (r : Tr α)

def Tr.get {α : Type} : Tr α → Nat → Option α
  | .nil, _ => none
  | .node l v r, k => bif Nat.beq k 0 then v else bif Nat.beq (k % 2) 1 then l.get (k / 2) else r.get (k / 2 - 1)

def Tr.setF {α : Type} : Nat → Tr α → Nat → Option α → Tr α
  | 0, t, _, _ => t
  | n + 1, .nil, k, x => bif Nat.beq k 0 then .node .nil x .nil else bif Nat.beq (k % 2) 1 then .node (setF n .nil (k / 2) x) none .nil else .node .nil none (setF n .nil (k / 2 - 1) x)
  | n + 1, .node l v r, k, x => bif Nat.beq k 0 then .node l x r else bif Nat.beq (k % 2) 1 then .node (setF n l (k / 2) x) v r else .node l v (setF n r (k / 2 - 1) x)

def Tr.set {α : Type} (t : Tr α) (k : Nat) (x : α) : Tr α := t.setF (k + 1) k (some x)
def Tr.del {α : Type} (t : Tr α) (k : Nat) : Tr α := t.setF (k + 1) k none
def Tr.ofListFrom {α : Type} (t : Tr α) : List α → Nat → Tr α
  | [], _ => t
  | x :: xs, i => ofListFrom (t.set i x) xs (i + 1)

abbrev E := Except String

/- a slice's capacity from here on is 'to the end of its block': BIG + the number of elements from the block's start to the slice's start -/
def BIG : Nat := 18446744073709551616
/- the package-level variables have these numbers themselves -/
def GMAX : Nat := 512

structure ALoop where
  state : LoopState
  pending : Option Code
  fn : FuncId
  tmps : Tr Value
  sz : Nat
  params : Array Tmp
  assign : Code
  body : Code
  defers : Nat

inductive AObj where
  | cells (c : Tr Value) (d : List Value) (n : Nat) (elem : TypeId) (ext : Bool) (fz : Nat) (mk : Bool)
  | map (es : List MapEntry) (clock : Nat)
  | stringIter (s : ByteArray) (pos : Nat)
  | mapIter (m : Option Nat) (since : Nat) (seen : List Nat) (stepped : Nat)
  | loop (l : ALoop)
  | deferred (calls : Option (List Deferred))

inductive AItem where
  | code (c : Code)
  | inBlock (id : Nat)
  | inLoop (body : Code)
  | inScope (body : Code)
  | inReg (ops : Array Oper) (rest : List Oper)
  | inRangeFunc (l : Nat)
  | endRangeFunc (l : Nat)
  | beginRound

structure AFrame where
  fn : FuncId
  tmps : Tr Value
  sz : Nat
  todo : List AItem
  defers : List Deferred
  mode : FrameMode
  kind : CallKind
  roundOf : Option Nat

structure St where
  heap : Tr AObj
  next : Nat

def plainV : Nat → Value → Bool
  | 0, _ => false
  | n + 1, v => match v with
    | .bool _ | .int .. | .string _ | .float .. | .complex .. => true
    | .pointer a => a.isNone
    | .slice a _ _ => a.isNone
    | .map a => a.isNone
    | .chan a => a.isNone
    | .nilFunc | .nilIface => true
    | .agg xs => xs.toList.all (plainV n)
    | .tuple xs => xs.toList.all (plainV n)
    | .iface _ v => plainV n v
    | .func _ _ _ => false

def opd (tm : Tr Value) : Operand → E Value
  | .tmp t => match tm.get t with | some v => .ok v | none => .error "unset temporary"
  | .const v => if plainV 20 v then .ok v else .error "const not plain"
  | .global g => if g < GMAX then .ok (.pointer (some ⟨g, 0, none⟩)) else .error "global"
  | .func f => .ok (.func (.func f) #[] #[])

def opds (tm : Tr Value) : List Operand → E (List Value)
  | [] => .ok []
  | x :: xs => do let v ← opd tm x; let vs ← opds tm xs; .ok (v :: vs)

def optOpd (tm : Tr Value) : Option Operand → E (Option Value)
  | none => .ok none
  | some x => do let v ← opd tm x; .ok (some v)

def parts (tm : Tr Value) : List (Nat × Operand) → E (List (Nat × Value))
  | [] => .ok []
  | (i, x) :: r => do let v ← opd tm x; let vs ← parts tm r; .ok ((i, v) :: vs)

def obj (σ : St) (a : Nat) : E AObj := match σ.heap.get a with | some o => .ok o | none => .error "dead or unknown block"

def getC (c : Tr Value) (d : List Value) (i : Nat) : Value := match c.get i with | some v => v | none => d.getD (i % d.length) undef

def cellsFrom (c : Tr Value) (d : List Value) : Nat → Nat → List Value
  | _, 0 => []
  | i, n + 1 => getC c d i :: cellsFrom c d (i + 1) n

def loadCells (σ : St) (a : Addr) (n : Nat) : E (List Value) := do
  if n = 0 then .ok [] else
  match ← obj σ a.block with
  | .cells c d m _ _ _ _ => if a.off + n ≤ m ∧ a.spot = none then .ok (cellsFrom c d a.off n) else .error "load out of block"
  | _ => .error "load: no cells"

def setCells (c : Tr Value) : Nat → List Value → Tr Value
  | _, [] => c
  | i, v :: vs => setCells (c.set i v) (i + 1) vs

def oneCell : Value → Bool
  | .agg _ | .tuple _ => false
  | _ => true

def storeCells (σ : St) (a : Addr) (vs : List Value) : E St := do
  if vs.isEmpty then .ok σ else
  match ← obj σ a.block with
  | .cells c d m e x fz mk =>
    if a.off + vs.length ≤ m ∧ fz ≤ a.off ∧ a.spot = none ∧ vs.all oneCell then .ok { heap := σ.heap.set a.block (.cells (setCells c a.off vs) d m e x fz mk), next := σ.next }
    else .error "store out of block or frozen"
  | _ => .error "store: no cells"

def alloc (σ : St) (o : AObj) : St := { heap := σ.heap.set σ.next o, next := σ.next + 1 }
def rowOf (elem : TypeId) (vs : List Value) (ext mk : Bool) : AObj := .cells (setCells .nil 0 vs) [undef] vs.length elem ext 0 mk

/-- what the evaluator looks up in a program -/
structure Tab where
  info? : TypeId → Option TypeInfo
  underlying : TypeId → Option TypeDesc
  stoodInHeld : TypeId → Bool
  eqGuard : TypeId → Bool
  cellsOf : TypeId → Nat
  func? : FuncId → Option Func

abbrev Tab.of (P : Program) : Tab := { info? := P.info?, underlying := P.underlying, stoodInHeld := P.stoodInHeld, eqGuard := P.eqGuardType P.depth, cellsOf := P.cellsOf, func? := fun f => P.funcs[f]? }

instance : CoeOut Program Tab := ⟨Tab.of⟩

def tinfo (P : Tab) (t : TypeId) : E TypeInfo := match P.info? t with | some i => .ok i | none => .error "no type"
def und (P : Tab) (t : TypeId) : E TypeDesc := match P.underlying t with | some i => .ok i | none => .error "no type"
def isAggD : TypeDesc → Bool
  | .struct _ | .array _ _ => true
  | _ => false
def zeroV (P : Tab) (t : TypeId) : E Value := do
  let i ← tinfo P t
  match i.zero with
  | some v => if plainV 20 v then .ok v else .error "zero not plain"
  | none => .error "no zero"

def loadVar (P : Tab) (σ : St) (t : TypeId) (a : Addr) : E Value := do
  let d ← und P t
  if isAggD d then do
    let i ← tinfo P t
    let cs ← loadCells σ a i.size
    .ok (.agg cs.toArray)
  else do
    let cs ← loadCells σ a 1
    match cs with
    | v :: _ => .ok v
    | [] => .error "?"

def sureAddr : Value → E Addr
  | .pointer (some a) => .ok a
  | _ => .error "address expected"

def asInt : Value → E Int
  | .int _ n => .ok n
  | _ => .error "int expected"
def asNat : Value → E Nat
  | .int _ (.ofNat n) => .ok n
  | _ => .error "natural number expected"
def asBool : Value → E Bool
  | .bool b => .ok b
  | _ => .error "bool expected"

def pureOf (s : Sem Value) : E Value := match s with | .pure v => .ok v | _ => .error "not pure"

def part (P : Tab) (t : TypeId) (cs : Array Value) (off : Nat) : E Value := do
  let d ← und P t
  if isAggD d then do
    let i ← tinfo P t
    .ok (.agg (cs.extract off (off + i.size)))
  else match cs[off]? with
    | some v => .ok v
    | none => .error "part"

def aeqFields (eq : TypeId → Value → Value → E Bool) (P : Tab) (xs ys : Array Value) : List Field → E Bool
  | [] => .ok true
  | f :: fs =>
    if f.name = "_" then aeqFields eq P xs ys fs else do
    let a ← part P f.type xs f.offset
    let b ← part P f.type ys f.offset
    let r ← eq f.type a b
    if r then aeqFields eq P xs ys fs else .ok false

/- an address in a block that holds no string's bytes -/
def bareAt (σ : St) (a : Addr) : Bool := match σ.heap.get a.block with
  | some (.cells _ _ n _ _ fz mk) => fz == 0 && !mk && decide (a.off < n)
  | _ => false
def bare (σ : St) (a : Nat) : Bool := match σ.heap.get a with
  | some (.cells _ _ _ _ _ fz mk) => fz == 0 && !mk
  | _ => false

def aeq (P : Tab) : Nat → St → TypeId → Value → Value → E Bool
  | 0, _, _, _, _ => .error "aeq depth"
  | d + 1, σ, t, x, y => do
    let u ← und P t
    match u, x, y with
    | .bool, .bool a, .bool b => .ok (a == b)
    | .int _, .int k a, .int k' b => if k = k' then .ok (a == b) else .error "kinds"
    | .string, .string a, .string b => .ok (a == b)
    | .pointer _, .pointer none, .pointer b => .ok b.isNone
    | .pointer _, .pointer (some _), .pointer none => .ok false
    | .pointer elem, .pointer (some a), .pointer (some b) => do
      let i ← tinfo P elem
      if i.size = 0 then .error "zero-size pointers"
      else if a.block = b.block then (if a.spot = none ∧ b.spot = none then .ok (a.off == b.off) else .error "spot")
      else if bareAt σ a && bareAt σ b then .ok false else .error "pointers to marked blocks"
    | .interface _, .nilIface, .nilIface => .ok true
    | .interface _, .nilIface, .iface _ _ => .ok false
    | .interface _, .iface _ _, .nilIface => .ok false
    | .interface _, .iface tx vx, .iface ty vy =>
      if tx ≠ ty then .ok false
      else do
        let i ← tinfo P tx
        if i.comparable then aeq P d σ tx vx vy else .error "uncomparable"
    | .struct _, .agg xs, .agg ys =>
      if P.stoodInHeld t then .error "stoodIn" else
      match u with
      | .struct fields => aeqFields (aeq P d σ) P xs ys fields.toList
      | _ => .error "?"
    | .slice _, .slice none _ _, .slice b _ _ => .ok b.isNone
    | .slice _, .slice (some _) _ _, .slice none _ _ => .ok false
    | .map _ _, .map none, .map b => .ok b.isNone
    | .map _ _, .map (some _), .map none => .ok false
    | .func _ _ _, .nilFunc, .nilFunc => .ok true
    | .func _ _ _, .nilFunc, .func _ _ _ => .ok false
    | .func _ _ _, .func _ _ _, .nilFunc => .ok false
    | _, _, _ => .error "aeq: form"

def isConst : Operand → Bool
  | .const _ => true
  | _ => false

def aeqBin (P : Tab) (σ : St) (op : BinOp) (t : TypeId) (a b : Value) : E Value := do
  let r ← aeq P 100 σ t a b
  match op with | .eql => .ok (.bool r) | .neq => .ok (.bool (!r)) | _ => .error "binop"

def abin (P : Tab) (σ : St) (op : BinOp) (t : TypeId) (x y : Operand) (a b : Value) : E Value :=
  match a, b with
  | .int .., .int .. => pureOf (Go.binOp op t a b)
  | .string _, .string _ => pureOf (Go.binOp op t a b)
  | .nilIface, .nilIface => do
    let u ← und P t
    match u with
    | .interface ms => if isConst x || isConst y || ms.isEmpty then aeqBin P σ op t a b else .error "nil ifaces"
    | _ => .error "nil ifaces"
  | .agg _, .agg _ => if P.eqGuard t then .error "eqGuard agg" else aeqBin P σ op t a b
  | .bool _, .bool _ => aeqBin P σ op t a b
  | .pointer _, .pointer _ => aeqBin P σ op t a b
  | .nilIface, .iface _ _ => aeqBin P σ op t a b
  | .iface _ _, .nilIface => aeqBin P σ op t a b
  | .iface _ _, .iface _ _ => aeqBin P σ op t a b
  | .slice .., .slice .. => aeqBin P σ op t a b
  | .map _, .map _ => aeqBin P σ op t a b
  | .nilFunc, .nilFunc => aeqBin P σ op t a b
  | .nilFunc, .func .. => aeqBin P σ op t a b
  | .func .., .nilFunc => aeqBin P σ op t a b
  | _, _ => .error "binop form"

def findKey (P : Tab) (σ : St) (t : TypeId) (k : Value) : List MapEntry → Nat → E (Option (Nat × Value))
  | [], _ => .ok none
  | e :: es, i => do
    let r ← aeq P 100 σ t k e.key
    if r then .ok (some (i, e.val)) else findKey P σ t k es (i + 1)

/- a key that can be looked up: its type holds no interface -/
def akeyFields (ok : TypeId → Value → E Unit) (P : Tab) (cs : Array Value) : List Field → E Unit
  | [] => .ok ()
  | f :: fs =>
    if f.name = "_" then .error "blank field" else do
    let a ← part P f.type cs f.offset
    ok f.type a
    akeyFields ok P cs fs

def akey (P : Tab) : Nat → TypeId → Value → E Unit
  | 0, _, _ => .error "akey depth"
  | d + 1, t, v => do
    let u ← und P t
    match u, v with
    | .int _, .int .. => .ok ()
    | .string, .string _ => .ok ()
    | .bool, .bool _ => .ok ()
    | .struct fields, .agg cs => akeyFields (akey P d) P cs fields.toList
    | _, _ => .error "akey"

inductive Ret where
  | val (v : Value) (σ : St)
  | many (l : List (Value × St))
  | enter (f : FuncId) (args : List Value) (σ : St)
  | callv (f : FuncId) (args : List Value) (v : Value) (σ : St)
  | round (l : Nat) (args : List Value) (σ : St)
  | defer (d : Deferred) (σ : St)
  | recover (σ : St)
  | panic (v : Value) (σ : St)

/-- how many elements from the slice's start are surely within the capacity -/
def capLow (P : Tab) (σ : St) (elem : TypeId) (a : Option Addr) (cap : Nat) : E Nat := do
  if cap < BIG then .ok cap else
  match a with
  | none => .error "nil slice of open cap"
  | some a => do
    let o ← obj σ a.block
    match o with
    | .cells _ _ n e true _ _ => do
      let i ← tinfo P elem
      if P.cellsOf e = i.size then .ok (n / i.size - (cap - BIG)) else .error "open cap of another size"
    | _ => .error "open cap of a closed block"

def optNat : Option Value → Nat → E Nat
  | some v, _ => asNat v
  | none, d => .ok d

def addA (a : Addr) (n : Nat) : Addr := if n = 0 then a else { a with off := a.off + n, spot := none }

inductive FV where
  | val (v : Value)
  | new (mk : Nat → Value) (o : AObj)
  | dead (mk : Nat → Value)

def ptrTo (a : Nat) : Value := .pointer (some ⟨a, 0, none⟩)
def sliceTo (len cap : Nat) (a : Nat) : Value := .slice (some ⟨a, 0, none⟩) len cap
def mapTo (a : Nat) : Value := .map (some a)

def asliceString (s : ByteArray) (low high max : Option Value) : E Value := do
  if max.isSome then .error "max" else do
  let h ← optNat high s.size
  let l ← optNat low 0
  if h ≤ s.size ∧ l ≤ h then .ok (.string (s.extract l h)) else .error "slice of string"

def asliceSlice (P : Tab) (σ : St) (elem : TypeId) (a : Option Addr) (len cap : Nat) (low high max : Option Value) : E FV := do
  let lo ← capLow P σ elem a cap
  let i ← tinfo P elem
  match max with
  | some mx => do
    let m ← asNat mx
    let h ← optNat high (lo + 1)
    let l ← optNat low 0
    if m ≤ lo ∧ h ≤ m ∧ l ≤ h ∧ m < BIG then .ok (.val (.slice (if m = l then a else a.map (addA · (l * i.size))) (h - l) (m - l))) else .error "slice bounds"
  | none => do
    let h ← optNat high len
    let l ← optNat low 0
    if h ≤ lo ∧ l ≤ h then
      if cap < BIG then .ok (.val (.slice (if cap = l then a else a.map (addA · (l * i.size))) (h - l) (cap - l)))
      else if l = 0 then .ok (.val (.slice a h cap))
      else if l < lo then .ok (.val (.slice (a.map (addA · (l * i.size))) (h - l) (cap + l)))
      else .ok (.dead (sliceTo 0 BIG))
    else .error "slice bounds"

def asliceArr (P : Tab) (n : Nat) (elem : TypeId) (a : Addr) (low high max : Option Value) : E Value := do
  let i ← tinfo P elem
  let m ← optNat max n
  let h ← optNat high n
  let l ← optNat low 0
  if max.isSome && high.isNone then .error "max without high" else
  if m ≤ n ∧ h ≤ m ∧ l ≤ h ∧ m < BIG then .ok (.slice (some (if m = l then a else addA a (l * i.size))) (h - l) (m - l)) else .error "slice bounds"

def aslice (P : Tab) (σ : St) (t : TypeId) (x : Value) (low high max : Option Value) : E FV := do
  let u ← und P t
  match u, x with
  | .string, .string s => do let v ← asliceString s low high max; .ok (.val v)
  | .slice elem, .slice a len cap => asliceSlice P σ elem a len cap low high max
  | .array n elem, .pointer (some a) => do let v ← asliceArr P n elem a low high max; .ok (.val v)
  | _, _ => .error "slice form"

def lenOf : Value → E Nat
  | .slice _ n _ => .ok n
  | .string s => .ok s.size
  | _ => .error "lenOf"

def firstCells (σ : St) (size n : Nat) : Value → E (List Value)
  | .slice (some a) _ _ => loadCells σ a (n * size)
  | .slice none _ _ => if n = 0 then .ok [] else .error "a nil slice with elements"
  | .string s => if size = 1 ∧ n ≤ s.size then .ok ((s.extract 0 n).data.toList.map fun b => .int .u8 b.toNat) else .error "a byte's size"
  | _ => .error "firstCells"

def repList (z : List Value) : Nat → List Value
  | 0 => []
  | n + 1 => z ++ repList z n

def zerosArg (P : Tab) (argTypes : Array TypeId) : E Bool :=
  match argTypes[1]? with
  | some xType => do
    let u ← und P xType
    match u with | .int _ => .ok true | _ => .ok false
  | none => .ok false

/- what an append puts behind: how many elements, which cells -/
def appended (P : Tab) (σ : St) (zeros : Bool) (elem : TypeId) (size : Nat) (x : Value) : E (Nat × List Value) :=
  if zeros then do
    let n ← asNat x
    let z ← zeroV P elem
    if n ≤ 1000000 ∧ z.cells.size = size then .ok (n, repList z.cells.toList n) else .error "append zeros"
  else do
    let n ← lenOf x
    let cs ← firstCells σ size n x
    .ok (n, cs)

/- append beyond what is surely there (the plain form) -/
def appendGrow0 (P : Tab) (σ : St) (elem : TypeId) (i : TypeInfo) (base : Option Addr) (s : Value) (sLen sCap n : Nat) (new : List Value) : E (Value × St) := do
  let old ← firstCells σ i.size sLen s
  let z ← zeroV P elem
  if z.cells.size ≠ i.size then .error "zero's size" else
  let r := sliceTo (sLen + n) BIG σ.next
  let σ' := alloc σ (rowOf elem (old ++ new) true false)
  if sCap < BIG then .ok (r, σ') else
    match base with
    | none => .error "?"
    | some a => do
      let o ← obj σ a.block
      match o with
      | .cells _ _ _ e true 0 false => if e = elem ∧ a.off = (sCap - BIG) * i.size ∧ new.all oneCell then .ok (r, { heap := σ'.heap.del a.block, next := σ'.next }) else .error "append to an open block"
      | _ => .error "append to an open block with marks"

def append0_ (P : Tab) (σ : St) (argTypes : Array TypeId) (s x : Value) : E (Value × St) :=
  match argTypes[0]?, s with
  | some sType, .slice base sLen sCap => do
    let u ← und P sType
    match u with
    | .slice elem => do
      let i ← tinfo P elem
      let zeros ← zerosArg P argTypes
      let (n, new) ← appended P σ zeros elem i.size x
      let lo ← capLow P σ elem base sCap
      if i.size = 0 ∨ i.bytes > 100000 ∨ sLen + n > 1000000 then .error "append size" else
      if sLen + n ≤ lo then
        match base with
        | none => .ok (.slice none (sLen + n) sCap, σ)
        | some a => do
          let σ ← storeCells σ (addA a (sLen * i.size)) new
          .ok (.slice base (sLen + n) sCap, σ)
      else appendGrow0 P σ elem i base s sLen sCap n new
    | _ => .error "append"
  | _, _ => .error "append"

/- the new block out of the old one's cells -/
def growObj (σ : St) (elem : TypeId) (size : Nat) (base : Option Addr) (sLen : Nat) (old new : List Value) : AObj :=
  match base with
  | none => rowOf elem (old ++ new) true false
  | some a => match σ.heap.get a.block with
    | some (.cells c d _ _ _ _ _) => if a.off = 0 then .cells (setCells c (sLen * size) new) d (sLen * size + new.length) elem true 0 false else rowOf elem (old ++ new) true false
    | _ => rowOf elem (old ++ new) true false

/- append beyond what is surely there -/
def appendGrow (P : Tab) (σ : St) (elem : TypeId) (i : TypeInfo) (base : Option Addr) (s : Value) (sLen sCap n : Nat) (new : List Value) : E (Value × St) := do
  let old ← firstCells σ i.size sLen s
  let z ← zeroV P elem
  if z.cells.size ≠ i.size then .error "zero's size" else
  let r := sliceTo (sLen + n) BIG σ.next
  let σ' := alloc σ (growObj σ elem i.size base sLen old new)
  if sCap < BIG then .ok (r, σ') else
    match base with
    | none => .error "?"
    | some a => do
      let o ← obj σ a.block
      match o with
      | .cells _ _ _ e true 0 false => if e = elem ∧ a.off = (sCap - BIG) * i.size ∧ new.all oneCell then .ok (r, { heap := σ'.heap.del a.block, next := σ'.next }) else .error "append to an open block"
      | _ => .error "append to an open block with marks"

def append_ (P : Tab) (σ : St) (argTypes : Array TypeId) (s x : Value) : E (Value × St) :=
  match argTypes[0]?, s with
  | some sType, .slice base sLen sCap => do
    let u ← und P sType
    match u with
    | .slice elem => do
      let i ← tinfo P elem
      let zeros ← zerosArg P argTypes
      let (n, new) ← appended P σ zeros elem i.size x
      let lo ← capLow P σ elem base sCap
      if i.size = 0 ∨ i.bytes > 100000 ∨ sLen + n > 1000000 then .error "append size" else
      if sLen + n ≤ lo then
        match base with
        | none => .ok (.slice none (sLen + n) sCap, σ)
        | some a => do
          let σ ← storeCells σ (addA a (sLen * i.size)) new
          .ok (.slice base (sLen + n) sCap, σ)
      else appendGrow P σ elem i base s sLen sCap n new
    | _ => .error "append"
  | _, _ => .error "append"

def copy_ (P : Tab) (σ : St) (argTypes : Array TypeId) (dst src : Value) : E (Value × St) := do
  let some dType := argTypes[0]? | .error "copy type"
  let u ← und P dType
  match u, dst with
  | .slice elem, .slice base dLen _ => do
    let i ← tinfo P elem
    let k ← lenOf src
    let n := Nat.min k dLen
    let cells ← firstCells σ i.size n src
    match base with
    | some a => do let σ ← storeCells σ a cells; .ok (goInt n, σ)
    | none => .ok (goInt n, σ)
  | _, _ => .error "copy"

def stringOf : List Value → E (List UInt8)
  | [] => .ok []
  | v :: rest => match v with
    | .int .u8 n => do let r ← stringOf rest; .ok (UInt8.ofNat n.toNat :: r)
    | _ => .error "no byte"

def convert (P : Tab) (σ : St) (src dst : TypeId) (x : Value) : E FV := do
  let us ← und P src
  let ud ← und P dst
  match us, ud, x with
  | .int _, .int k, .int _ n => .ok (.val (.int k (k.wrap n)))
  | .string, .string, .string _ => .ok (.val x)
  | .string, .slice e, .string s => do
    let ue ← und P e
    match ue with
    | .int .u8 => if P.cellsOf e = 1 then .ok (.new (sliceTo s.size BIG) (rowOf e (s.data.toList.map fun b => .int .u8 b.toNat) true true)) else .error "byte's size"
    | _ => .error "string to runes"
  | .slice e, .string, .slice a n _ => do
    let ue ← und P e
    match ue with
    | .int .u8 =>
      match a with
      | none => .ok (.val (.string .empty))
      | some a => do
        let l ← loadCells σ a n
        let l ← stringOf l
        .ok (.val (.string ⟨l.toArray⟩))
    | _ => .error "runes to string"
  | _, _, _ => .error "convert form"

def setAt {α : Type} (f : α → α) : List α → Nat → List α
  | [], _ => []
  | x :: xs, 0 => f x :: xs
  | x :: xs, n + 1 => x :: setAt f xs n

def builtin (P : Tab) (σ : St) (b : Builtin) (argTypes : Array TypeId) (args : List Value) : E Ret :=
  match b, args with
  | .append, [s, x] => do let (v, σ) ← append_ P σ argTypes s x; .ok (.val v σ)
  | .copy, [d, s] => do let (v, σ) ← copy_ P σ argTypes d s; .ok (.val v σ)
  | .delete, [.map m, k] => do
    let some t := argTypes[0]? | .error "delete"
    let u ← und P t
    match u with
    | .map keyType _ => do
      akey P 100 keyType k
      match m with
      | none => .ok (.val (.tuple #[]) σ)
      | some r => do
        let o ← obj σ r
        match o with
        | .map es clock => do
          let f ← findKey P σ keyType k es 0
          match f with
          | some (i, _) => .ok (.val (.tuple #[]) { heap := σ.heap.set r (.map (es.eraseIdx i) clock), next := σ.next })
          | none => .ok (.val (.tuple #[]) σ)
        | _ => .error "delete map"
    | _ => .error "delete type"
  | .clear, [x] => do
    let some t := argTypes[0]? | .error "clear"
    let u ← und P t
    match u, x with
    | _, .map none => .ok (.val (.tuple #[]) σ)
    | _, .slice none _ _ => .ok (.val (.tuple #[]) σ)
    | _, .map (some r) => do
      let o ← obj σ r
      match o with
      | .map _ clock => .ok (.val (.tuple #[]) { heap := σ.heap.set r (.map [] clock), next := σ.next })
      | _ => .error "clear map"
    | .slice elem, .slice (some a) n _ => do
      if n = 0 then .ok (.val (.tuple #[]) σ) else do
      let z ← zeroV P elem
      let σ ← storeCells σ a (repList z.cells.toList n)
      .ok (.val (.tuple #[]) σ)
    | _, _ => .error "clear form"
  | .panic, [.iface t v] => .ok (.panic (.iface t v) σ)
  | .recover, _ => .ok (.recover σ)
  | _, _ => .error "builtin"


/- functions that are not walked: externs (no body) and summaries (a contract) -/
inductive Spec where
  | ext (v : Value) (σ : St)
  | sum (v : Value) (σ : St)
abbrev Specs := FuncId → List Value → St → Option Spec

inductive CRes where
  | ret (v : Value) (σ : St)
  | panic (chain : List PanicEntry) (σ : St)
abbrev CallF := FuncId → List Value → St → E CRes

section
variable (P : Tab) (X : Specs)

def callFunc (σ : St) (f : FuncId) (args : List Value) : E Ret :=
  match X f args σ with
  | some (.ext v σ) => .ok (.val v σ)
  | some (.sum v σ) => .ok (.callv f args v σ)
  | none => match P.func? f with
    | none => .error "no func"
    | some fn => if fn.body.isSome then .ok (.enter f args σ) else .error "extern"

/- the receiver of a method that lies at the type itself -/
def receiver (σ : St) (t : TypeId) (v : Value) (ptr : Bool) : E Value := do
  let u ← und P t
  match u, ptr with
  | .pointer _, true => .ok v
  | .pointer elem, false => do
    match v with
    | .pointer (some a) => loadVar P σ elem a
    | _ => .error "nil receiver"
  | _, true => .error "receiver"
  | _, false => .ok v

def methodOf (σ : St) (t : TypeId) (v : Value) (name : String) : E (FuncId × Value) := do
  let i ← tinfo P t
  match i.methods.find? (·.name == name) with
  | none => .error "no method"
  | some m =>
    if !m.path.isEmpty then .error "promoted method" else
    match m.func with
    | none => .error "method of an interface"
    | some (f, ptr) => do
      let r ← receiver P σ t v ptr
      .ok (f, r)

def callMethod (σ : St) (recv : Value) (name : String) (args : List Value) : E Ret :=
  match recv with
  | .iface t v => do
    let (f, r) ← methodOf P σ t v name
    callFunc P X σ f (r :: args)
  | _ => .error "invoke on nil"

def invoke (σ : St) (t : Target) (args : List Value) : E Ret :=
  match t with
  | .builtin b argTypes _ _ => builtin P σ b argTypes args
  | .fn (.func f) captured => callFunc P X σ f (args ++ captured.toList)
  | .fn (.method name) _ =>
    match args with
    | recv :: args => callMethod P X σ recv name args
    | [] => .error "method value"
  | .fn (.methodOf t name) _ =>
    match args with
    | recv :: args => do
      let u ← und P t
      match u with
      | .interface _ => callMethod P X σ recv name args
      | _ => callMethod P X σ (.iface t recv) name args
    | [] => .error "method expression"
  | .fn (.yield l) _ => .ok (.round l args σ)
  | _ => .error "invoke"

def resolve (tm : Tr Value) (c : Call) (type : TypeId) : E Deferred := do
  let args ← opds tm c.args.toList
  match c.callee with
  | .builtin b => .ok { target := .builtin b c.argTypes type #[], args := args.toArray }
  | .invoke recv name => do
    let r ← opd tm recv
    .ok { target := .fn (.method name) #[], args := (r :: args).toArray }
  | .value f => do
    let g ← opd tm f
    match g with
    | .func fn first captured => .ok { target := .fn fn captured, args := (first.toList ++ args).toArray }
    | _ => .error "function value expected"

def placesOf : List Field → E (List (Nat × Nat))
  | [] => .ok []
  | f :: fs => do
    let i ← tinfo P f.type
    let r ← placesOf fs
    .ok ((f.offset, i.size) :: r)

def aBuild (tm : Tr Value) (t : TypeId) (ps : Array (Nat × Operand)) : E Value := do
  let ps ← parts tm ps.toList
  let z ← zeroV P t
  let u ← und P t
  match u with
  | .struct fields => do
    let places ← placesOf P fields.toList
    match Instr.fill (places.toArray[·]?) z.cells ps with
    | some cells => .ok (.agg cells)
    | none => .error "build"
  | .array _ elem => do
    let i ← tinfo P elem
    match Instr.fill (fun k => some (k * i.size, i.size)) z.cells ps with
    | some cells => .ok (.agg cells)
    | none => .error "build"
  | _ => .error "build type"

def aBuildSlice (tm : Tr Value) (t : TypeId) (len : Nat) (ps : Array (Nat × Operand)) : E FV := do
  let ps ← parts tm ps.toList
  let u ← und P t
  match u with
  | .slice elem => do
    let i ← tinfo P elem
    let z ← zeroV P elem
    if len * i.size > 2 ^ 24 ∨ z.cells.size ≠ i.size ∨ i.size = 0 then .error "buildSlice size" else
    match Instr.fill (fun k => some (k * i.size, i.size)) (repList z.cells.toList len).toArray ps with
    | some cells => .ok (.new (sliceTo len len) (rowOf elem cells.toList false false))
    | none => .error "buildSlice"
  | _ => .error "buildSlice"

def aStore (σ : St) (tm : Tr Value) (t : TypeId) (a x : Operand) : E Ret := do
  let av ← opd tm a
  let ad ← sureAddr av
  let v ← opd tm x
  let i ← tinfo P t
  if v.cells.size ≠ i.size then .error "store size" else do
  let σ ← storeCells σ ad v.cells.toList
  .ok (.val undef σ)

def fieldPlace (a : Addr) (f : Field) : E Addr := do
  let i ← tinfo P f.type
  if i.size = 0 then .error "zero-size field" else .ok (addA a f.offset)

def aFieldAddr (tm : Tr Value) (s : TypeId) (x : Operand) (f : Nat) : E Value := do
  let u ← und P s
  match u with
  | .struct fields =>
    match fields[f]? with
    | some f => do
      let v ← opd tm x
      let a ← sureAddr v
      let p ← fieldPlace P a f
      .ok (.pointer (some p))
    | none => .error "fieldAddr"
  | _ => .error "fieldAddr"

def aField (tm : Tr Value) (t : TypeId) (x : Operand) (f : Nat) : E Value := do
  let u ← und P t
  match u with
  | .struct fields =>
    match fields[f]? with
    | some f => do
      let v ← opd tm x
      match v with
      | .agg cs => part P f.type cs f.offset
      | _ => .error "field"
    | none => .error "field"
  | _ => .error "field"

def aIndexAddr (tm : Tr Value) (t : TypeId) (x ix : Operand) : E Value := do
  let iv ← opd tm ix
  let k ← asNat iv
  let u ← und P t
  let v ← opd tm x
  match u, v with
  | .array len elem, .pointer (some a) => do
    let i ← tinfo P elem
    if k < len then .ok (.pointer (some (addA a (k * i.size)))) else .error "index out of range"
  | .slice elem, .slice (some a) len _ => do
    let i ← tinfo P elem
    if k < len then .ok (.pointer (some (addA a (k * i.size)))) else .error "index out of range"
  | _, _ => .error "indexAddr form"

def aIndex (tm : Tr Value) (t : TypeId) (x ix : Operand) : E Value := do
  let iv ← opd tm ix
  let k ← asNat iv
  let u ← und P t
  let v ← opd tm x
  match u, v with
  | .array len elem, .agg cs => do
    let i ← tinfo P elem
    if k < len then part P elem cs (k * i.size) else .error "index out of range"
  | .string, .string s => match s[k]? with | some b => .ok (.int .u8 b.toNat) | none => .error "index out of range"
  | _, _ => .error "index form"

def entriesOf (σ : St) : Value → E (List MapEntry)
  | .map none => .ok []
  | .map (some r) => do
    let o ← obj σ r
    match o with
    | .map es _ => .ok es
    | _ => .error "map expected"
  | _ => .error "map expected"

def aLookup (σ : St) (tm : Tr Value) (t : TypeId) (x ix : Operand) (ok : Bool) : E Value := do
  let u ← und P t
  match u with
  | .map key elem => do
    let m ← opd tm x
    let es ← entriesOf σ m
    let k ← opd tm ix
    akey P 100 key k
    let f ← findKey P σ key k es 0
    match f with
    | some (_, v) => .ok (if ok then .tuple #[v, .bool true] else v)
    | none => do
      let z ← zeroV P elem
      .ok (if ok then .tuple #[z, .bool false] else z)
  | _ => .error "lookup"

/- two keys of one make -/
def keySame : Nat → Value → Value → Bool
  | 0, _, _ => false
  | n + 1, a, b => match a, b with
    | .bool a, .bool b => a == b
    | .int j a, .int k b => j == k && a == b
    | .string a, .string b => a == b
    | .agg a, .agg b => a.size == b.size && (a.toList.zip b.toList).all fun (x, y) => keySame n x y
    | _, _ => false

def aMapUpdate (σ : St) (tm : Tr Value) (t : TypeId) (m k x : Operand) : E Ret := do
  let u ← und P t
  match u with
  | .map key _ => do
    let mv ← opd tm m
    match mv with
    | .map (some r) => do
      let o ← obj σ r
      match o with
      | .map es clock => do
        let k ← opd tm k
        let v ← opd tm x
        akey P 100 key k
        let f ← findKey P σ key k es 0
        match f with
        | some (i, _) => match es[i]? with
          | none => .error "mapUpdate"
          | some e => if keySame 20 e.key k then .ok (.val undef { heap := σ.heap.set r (.map (setAt (fun e => { e with key := k, val := v }) es i) clock), next := σ.next }) else .error "mapUpdate key"
        | none => .ok (.val undef { heap := σ.heap.set r (.map (es ++ [{ key := k, val := v, born := clock }]) (clock + 1)), next := σ.next })
      | _ => .error "mapUpdate"
    | _ => .error "mapUpdate nil"
  | _ => .error "mapUpdate"

def aRange (σ : St) (tm : Tr Value) (t : TypeId) (x : Operand) : E FV := do
  let u ← und P t
  let v ← opd tm x
  match u, v with
  | .string, .string s => .ok (.new ptrTo (.stringIter s 0))
  | .map _ _, .map none => .ok (.new ptrTo (.mapIter none 0 [] 0))
  | .map _ _, .map (some m) => do
    let o ← obj σ m
    match o with
    | .map _ clock => .ok (.new ptrTo (.mapIter (some m) clock [] clock))
    | _ => .error "range map"
  | _, _ => .error "range form"

def aNext (σ : St) (tm : Tr Value) (it : Operand) (isString : Bool) : E Ret := do
  let v ← opd tm it
  match v with
  | .pointer (some ⟨r, 0, none⟩) => do
    let o ← obj σ r
    match o, isString with
    | .stringIter s pos, true =>
      if pos < s.size then
        .ok (.val (.tuple #[.bool true, goInt pos, .int .i32 (Utf8.decode s pos).1]) { heap := σ.heap.set r (.stringIter s (pos + (Utf8.decode s pos).2)), next := σ.next })
      else .ok (.val (.tuple #[.bool false]) σ)
    | .mapIter none _ _ _, false => .ok (.val (.tuple #[.bool false]) σ)
    | .mapIter (some m) since seen last, false => do
      let mo ← obj σ m
      match mo with
      | .map es clock =>
        if !seen.isEmpty && !es.isEmpty && es.all (fun e => decide (e.born ≥ last)) then .error "next: unsupported" else
        let left := es.filter fun e => !seen.contains e.born
        if left.any (fun e => decide (e.born ≥ since)) then .error "next: new entries" else
        match left with
        | [] => .ok (.val (.tuple #[.bool false]) σ)
        | [e] => .ok (.val (.tuple #[.bool true, e.key, e.val]) { heap := σ.heap.set r (.mapIter (some m) since (seen ++ [e.born]) clock), next := σ.next })
        | l => .ok (.many (l.map fun e => (.tuple #[.bool true, e.key, e.val], { heap := σ.heap.set r (.mapIter (some m) since (seen ++ [e.born]) clock), next := σ.next })))
      | _ => .error "next map"
    | _, _ => .error "next form"
  | _ => .error "next"

def aEntry (σ : St) (tm : Tr Value) (it : Operand) : E Value := do
  let v ← opd tm it
  match v with
  | .pointer (some ⟨r, 0, none⟩) => do
    let o ← obj σ r
    match o with
    | .mapIter (some m) _ seen stepped => do
      let mo ← obj σ m
      match mo with
      | .map es clock =>
        match seen.getLast? with
        | none => .error "entry: no step"
        | some stamp =>
          if clock ≠ stepped then .error "entry: insertion" else
          match es.find? (fun e => e.born == stamp) with
          | some e => .ok (.tuple #[e.key, e.val])
          | none => .error "entry: removed"
      | _ => .error "entry map"
    | _ => .error "entry iter"
  | _ => .error "entry"

def aTypeAssert (tm : Tr Value) (x : Operand) (at_ : TypeId) (ok : Bool) : E Value := do
  let u ← und P at_
  let v ← opd tm x
  let fails : E Value := if ok then do
    let z ← zeroV P at_
    .ok (.tuple #[z, .bool false]) else .error "typeAssert fails"
  match u, v with
  | .interface _, .nilIface => fails
  | .interface want, .iface t y => do
    let i ← tinfo P t
    match Instr.missingMethod want i.methods with
    | none => .ok (if ok then .tuple #[.iface t y, .bool true] else .iface t y)
    | some _ => fails
  | _, .nilIface => fails
  | _, .iface t y => if t = at_ then .ok (if ok then .tuple #[y, .bool true] else y) else fails
  | _, _ => .error "typeAssert"

def aMakeSlice (tm : Tr Value) (t : TypeId) (l c : Operand) : E FV := do
  let u ← und P t
  match u with
  | .slice elem => do
    let lv ← opd tm l
    let l ← asNat lv
    let cv ← opd tm c
    let c ← asNat cv
    let i ← tinfo P elem
    let z ← zeroV P elem
    if l > c ∨ c > 1000000 ∨ i.size = 0 ∨ i.bytes > 100000 ∨ z.cells.size ≠ i.size then .error "makeSlice bounds" else
    .ok (.new (sliceTo l c) (.cells .nil z.cells.toList (c * i.size) elem false 0 false))
  | _ => .error "makeSlice"

def aMakeMap (tm : Tr Value) (t : TypeId) (r : Option Operand) : E FV := do
  let h ← optOpd tm r
  match h with
  | some v => do
    let u ← und P t
    match u with
    | .map _ _ => do
      let _ ← asInt v
      .ok (.new mapTo (.map [] 0))
    | _ => .error "makeMap"
  | none => .ok (.new mapTo (.map [] 0))

/- the builtins that only look -/
def aLook (σ : St) (b : Builtin) (argTypes : Array TypeId) (args : List Value) : E Value :=
  match b, args with
  | .len, [x] => do
    let some t := argTypes[0]? | .error "len"
    let u ← und P t
    match u, x with
    | .string, .string s => .ok (goInt s.size)
    | .array n _, _ => .ok (goInt n)
    | .slice _, .slice _ n _ => .ok (goInt n)
    | .map _ _, .map none => .ok (goInt 0)
    | .map _ _, .map (some r) => do
      let o ← obj σ r
      match o with
      | .map es _ => .ok (goInt es.length)
      | _ => .error "len map"
    | _, _ => .error "len form"
  | .cap, [x] => do
    let some t := argTypes[0]? | .error "cap"
    let u ← und P t
    match u, x with
    | .slice _, .slice _ _ c => if c < BIG then .ok (goInt c) else .error "cap open"
    | _, _ => .error "cap form"
  | .min, [.int k x, .int _ y] => .ok (.int k (if y < x then y else x))
  | .max, [.int k x, .int _ y] => .ok (.int k (if y > x then y else x))
  | _, _ => .error "look"

def looks : Builtin → Bool
  | .len | .cap | .min | .max => true
  | _ => false

def fval (x : E Value) : E FV := do let v ← x; .ok (.val v)

/- operations that write nothing: a value, or a value in one new block -/
def aflt (σ : St) (tm : Tr Value) (o : Oper) : E FV :=
  match o.op with
  | .move x => fval (opd tm x)
  | .assign x => fval (opd tm x)
  | .pick c a b => do
    let c ← opd tm c
    let c ← asBool c
    fval (if c then opd tm a else opd tm b)
  | .alloc elem => do let z ← zeroV P elem; .ok (.new ptrTo (rowOf elem z.cells.toList false false))
  | .box elem x => do let v ← opd tm x; .ok (.new ptrTo (rowOf elem v.cells.toList false false))
  | .build t ps => fval (aBuild P tm t ps)
  | .buildSlice t len ps => aBuildSlice P tm t len ps
  | .load t a => do
    let v ← opd tm a
    let ad ← sureAddr v
    fval (loadVar P σ t ad)
  | .nilCheck x => do
    let v ← opd tm x
    match v with
    | .pointer (some _) => .ok (.val v)
    | .iface _ _ => .ok (.val v)
    | .func (.func _) _ _ => .ok (.val v)
    | _ => .error "nilCheck"
  | .binOp op t x y _ => do
    let a ← opd tm x
    let b ← opd tm y
    fval (abin P σ op t x y a b)
  | .unOp op _ x => do
    let a ← opd tm x
    match a with
    | .int _ _ => fval (pureOf (Op.unary op a))
    | .bool _ => fval (pureOf (Op.unary op a))
    | _ => .error "unary"
  | .convert s d x => do
    let a ← opd tm x
    convert P σ s d a
  | .makeInterface t x => do
    let u ← und P t
    match u with
    | .interface _ => .error "makeInterface"
    | _ => do let v ← opd tm x; .ok (.val (.iface t v))
  | .makeFunc fn first captured =>
    match fn with
    | .yield _ => .error "makeFunc"
    | _ => do
      let f ← opds tm first.toList
      let c ← opds tm captured.toList
      .ok (.val (.func fn f.toArray c.toArray))
  | .makeMap t r => aMakeMap P tm t r
  | .makeSlice t l c => aMakeSlice P tm t l c
  | .slice t x lo hi mx => do
    let v ← opd tm x
    let lo ← optOpd tm lo
    let hi ← optOpd tm hi
    let mx ← optOpd tm mx
    aslice P σ t v lo hi mx
  | .fieldAddr s x f => fval (aFieldAddr P tm s x f)
  | .field t x f => fval (aField P tm t x f)
  | .indexAddr t x ix => fval (aIndexAddr P tm t x ix)
  | .index t x ix => fval (aIndex P tm t x ix)
  | .lookup t x ix ok => fval (aLookup P σ tm t x ix ok)
  | .range t x => aRange P σ tm t x
  | .entry it => fval (aEntry σ tm it)
  | .typeAssert x _ at_ ok => fval (aTypeAssert P tm x at_ ok)
  | .extract t ix => do
    let v ← opd tm t
    match v with
    | .tuple vs => match vs[ix]? with
      | some x => .ok (.val x)
      | none => .error "extract"
    | _ => .error "extract"
  | .call c =>
    match c.callee with
    | .builtin b => if looks b then do
        let args ← opds tm c.args.toList
        fval (aLook P σ b c.argTypes args)
      else .error "write"
    | _ => .error "write"
  | _ => .error "write"

/- is it an operation that 'aflt' takes? -/
def isFlt (o : Oper) : Bool := match o.op with
  | .move _ | .assign _ | .pick .. | .alloc _ | .box .. | .build .. | .buildSlice .. | .load .. | .nilCheck _ | .binOp .. | .unOp .. | .convert .. | .makeInterface ..
  | .makeFunc .. | .makeMap .. | .makeSlice .. | .slice .. | .fieldAddr .. | .field .. | .indexAddr .. | .index .. | .lookup .. | .range .. | .entry _ | .typeAssert .. | .extract .. => true
  | .call c => match c.callee with
    | .builtin b => looks b
    | _ => false
  | _ => false

/- does what 'aflt' gives not hang on the heap? -/
def noHeap (o : Oper) : Bool := match o.op with
  | .move _ | .assign _ | .pick .. | .alloc _ | .box .. | .build .. | .buildSlice .. | .nilCheck _ | .unOp .. | .makeInterface ..
  | .makeFunc .. | .makeMap .. | .makeSlice .. | .fieldAddr .. | .field .. | .indexAddr .. | .index .. | .typeAssert .. | .extract .. => true
  | _ => false

/- the operations that write, and calls -/
def awrt (σ : St) (tm : Tr Value) (o : Oper) : E Ret :=
  match o.op with
  | .store t a x => aStore P σ tm t a x
  | .mapUpdate t m k x => aMapUpdate P σ tm t m k x
  | .insert t m k x => aMapUpdate P σ tm t m k x
  | .next it isString => aNext σ tm it isString
  | .call c => do
    let d ← resolve tm c o.type
    invoke P X σ d.target d.args.toList
  | .defer c => do
    let d ← resolve tm c o.type
    match d.target with
    | .fn (.func _) _ => .ok (.defer d σ)
    | _ => .error "defer"
  | .panic x => do
    let v ← opd tm x
    match v with
    | .iface t y => .ok (.panic (.iface t y) σ)
    | _ => .error "panic form"
  | _ => .error "op"

def ofFV (σ : St) : FV → Ret
  | .val v => .val v σ
  | .new mk o => .val (mk σ.next) (alloc σ o)
  | .dead mk => .val (mk σ.next) { heap := σ.heap, next := σ.next + 1 }

def aop (σ : St) (tm : Tr Value) (o : Oper) : E Ret :=
  if isFlt o then do
    let f ← aflt P σ tm o
    .ok (ofFV σ f)
  else awrt P X σ tm o

structure MSt where
  fr : AFrame
  cs : List AFrame
  σ : St

inductive Step where
  | next (m : MSt)
  | branch (l : List MSt)
  | done (r : CRes)

def awanted (ops : Array Oper) (tm : Tr Value) (o : Oper) : E Bool :=
  match o.guard with
  | none => .ok true
  | some (j, want) =>
    match (ops[j]?).bind (·.dst) with
    | none => .error "guard"
    | some t => match tm.get t with
      | some (.bool b) => .ok (b == want)
      | some (.tuple _) => .ok false
      | _ => .error "guard's value"

def enterFrame (f : FuncId) (args : List Value) (kind : CallKind) : E AFrame :=
  match P.func? f with
  | some fn => match fn.body with
    | some c => .ok { fn := f, tmps := Tr.nil.ofListFrom args 0, sz := max args.length fn.ntmps, todo := [.code c], defers := [], mode := .run, kind, roundOf := none }
    | none => .error "no body"
  | none => .error "no func"

def putTm (tm : Tr Value) (sz : Nat) (d : Option Tmp) (v : Value) : E (Tr Value) :=
  match d with
  | none => .ok tm
  | some d => if d < sz then .ok (tm.set d v) else .error "tmp out of range"

def finish (fr : AFrame) (v : Value) : E AFrame :=
  match fr.todo with
  | .inReg ops (o :: rest) :: k => do
    let tm ← putTm fr.tmps fr.sz o.dst v
    .ok { fr with tmps := tm, todo := .inReg ops rest :: k }
  | .inRangeFunc l :: k => .ok { fr with todo := .endRangeFunc l :: k }
  | _ => .error "finish"

def exitTo (id : Nat) : List AItem → Option (List AItem)
  | [] => none
  | x :: k => match x with
    | .inBlock id' => if id' == id then some k else exitTo id k
    | _ => exitTo id k

def gotoIn (l : Nat) : List AItem → Option (List AItem)
  | [] => none
  | x :: k => match x with
    | .inScope body => match findLabel body l with
      | some rest => some (.code rest :: .inScope body :: k)
      | none => gotoIn l k
    | _ => gotoIn l k

def getLoop (σ : St) (l : Nat) : E ALoop := do
  let o ← obj σ l
  match o with
  | .loop r => .ok r
  | _ => .error "no loop"

def recoverTop (fr : AFrame) (cs : List AFrame) : E (Option (Value × List AFrame)) :=
  match fr.kind, cs with
  | .deferred, c :: rest => match c.mode with
    | .panicking (e :: older) => if e.recovered || e.goexit then .ok none else .ok (some (e.v, { c with mode := .panicking ({ v := e.v, recovered := true } :: older) } :: rest))
    | _ => .ok none
  | .normal, _ => .ok none
  | _, _ => .error "recover"

def resultsOf (σ : St) (tm : Tr Value) : List ResultVar → E (List Value)
  | [] => .ok []
  | r :: rs => do
    let v ← match r with
      | .tmp t => opd tm (.tmp t)
      | .cell a t => do
        let x ← opd tm (.tmp a)
        let ad ← sureAddr x
        loadVar P σ t ad
    let vs ← resultsOf σ tm rs
    .ok (v :: vs)

def results (σ : St) (fr : AFrame) : E Value :=
  match P.func? fr.fn with
  | none => .error "results"
  | some fn => do
    let vs ← resultsOf P σ fr.tmps fn.results.toList
    match vs with
    | [v] => .ok v
    | vs => .ok (.tuple vs.toArray)

def raise (fr : AFrame) (vs : List PanicEntry) : AFrame :=
  match fr.mode with
  | .panicking chain => { fr with mode := .panicking (vs ++ chain) }
  | _ => { fr with mode := .panicking vs }

def doReturn (m : MSt) (v : Value) : E Step :=
  match m.cs with
  | c :: rest =>
    match m.fr.kind with
    | .normal => do
      let c ← finish c v
      .ok (.next { fr := c, cs := rest, σ := m.σ })
    | .deferred =>
      match c.mode with
      | .panicking (e :: older) =>
        if e.recovered then
          (match older.dropWhile (!·.goexit) with
          | [] => .ok (.next { fr := { c with mode := .returning }, cs := rest, σ := m.σ })
          | _ => .error "goexit")
        else .ok (.next { fr := c, cs := rest, σ := m.σ })
      | _ => .ok (.next { fr := c, cs := rest, σ := m.σ })
    | _ => .error "doReturn kind"
  | [] => match m.fr.kind, m.fr.defers with
    | .normal, [] => .ok (.done (.ret v m.σ))
    | _, _ => .error "doReturn bottom"

def many (m : MSt) : List (Value × St) → E (List MSt)
  | [] => .ok []
  | (v, σ) :: l => do
    let fr ← finish m.fr v
    let r ← many m l
    .ok ({ fr, cs := m.cs, σ } :: r)

def putParams (sz : Nat) : List Tmp → List Value → Tr Value → E (Tr Value)
  | [], [], tm => .ok tm
  | t :: ts, v :: vs, tm => if t < sz then putParams sz ts vs (tm.set t v) else .error "yield tmp"
  | _, _, _ => .error "yield args"

def applyRet (m : MSt) (r : Ret) : E Step :=
  match r with
  | .val v σ => do
    let fr ← finish m.fr v
    .ok (.next { fr, cs := m.cs, σ })
  | .callv _ _ v σ => do
    let fr ← finish m.fr v
    .ok (.next { fr, cs := m.cs, σ })
  | .many l => do
    let ms ← many m l
    .ok (.branch ms)
  | .enter f args σ => do
    let fr ← enterFrame P f args .normal
    .ok (.next { fr, cs := m.fr :: m.cs, σ })
  | .round l args σ => do
    let r ← getLoop σ l
    let tm ← putParams r.sz r.params.toList args r.tmps
    .ok (.next { fr := { fn := r.fn, tmps := tm, sz := r.sz, todo := [.code r.assign, .beginRound, .code r.body], defers := [], mode := .run, kind := .normal, roundOf := some l }, cs := m.fr :: m.cs, σ })
  | .defer d σ => do
    if m.fr.roundOf.isSome then .error "defer in a round" else do
    let fr ← finish { m.fr with defers := d :: m.fr.defers } undef
    .ok (.next { fr, cs := m.cs, σ })
  | .recover σ => do
    if m.fr.roundOf.isSome then .error "recover in a round" else do
    let r ← recoverTop m.fr m.cs
    match r with
    | some (v, cs) => do
      let fr ← finish m.fr v
      .ok (.next { fr, cs, σ })
    | none => do
      let fr ← finish m.fr .nilIface
      .ok (.next { fr, cs := m.cs, σ })
  | .panic v σ => .ok (.next { fr := raise m.fr [{ v, recovered := false }], cs := m.cs, σ })

def unwind (m : MSt) : E Step :=
  match m.fr.defers with
  | d :: ds =>
    match d.target with
    | .collected block => do
      let o ← obj m.σ block
      match o with
      | .deferred (some calls) => .ok (.next { fr := { m.fr with defers := calls ++ ds }, cs := m.cs, σ := { heap := m.σ.heap.set block (.deferred none), next := m.σ.next } })
      | _ => .error "collected"
    | .fn (.func f) captured =>
      match X f (d.args.toList ++ captured.toList) m.σ with
      | some _ => .error "a deferred summary"
      | none => do
        let fr ← enterFrame P f (d.args.toList ++ captured.toList) .deferred
        .ok (.next { fr, cs := { m.fr with defers := ds } :: m.cs, σ := m.σ })
    | _ => .error "deferred"
  | [] =>
    match m.fr.mode with
    | .run => .error "unwind"
    | .panicking chain =>
      match m.cs with
      | c :: rest => .ok (.next { fr := raise c chain, cs := rest, σ := m.σ })
      | [] => .ok (.done (.panic chain m.σ))
    | .returning => do
      let v ← results P m.σ m.fr
      doReturn m v

def setTodo (m : MSt) (todo : List AItem) : E Step := .ok (.next { m with fr := { m.fr with todo } })

def leave (m : MSt) (jump : Option Code) : E Step :=
  match m.fr.roundOf with
  | none => match jump with
    | none => .ok (.next { m with fr := { m.fr with mode := .returning } })
    | some .ret => .ok (.next { m with fr := { m.fr with mode := .returning } })
    | _ => .error "leave"
  | some l =>
    match m.cs with
    | [] => .error "a round at the bottom"
    | _ :: _ => do
    let r ← getLoop m.σ l
    doReturn { m with σ := { heap := m.σ.heap.set l (.loop { r with state := if jump.isNone then .ready else .done, pending := jump }), next := m.σ.next } } (.bool jump.isNone)

/-- the loop object and the mark for its deferred calls -/
def enterLoop (m : MSt) (params : Array Tmp) (assign body : Code) : E (Nat × List Deferred × St) :=
  match m.fr.roundOf with
  | some l => do
    let r ← getLoop m.σ l
    .ok (m.σ.next, [], alloc m.σ (.loop { state := .ready, pending := none, fn := m.fr.fn, tmps := m.fr.tmps, sz := m.fr.sz, params, assign, body, defers := r.defers }))
  | none =>
    let σ := alloc m.σ (.deferred (some []))
    .ok (σ.next, [{ target := .collected m.σ.next, args := #[] }], alloc σ (.loop { state := .ready, pending := none, fn := m.fr.fn, tmps := m.fr.tmps, sz := m.fr.sz, params, assign, body, defers := m.σ.next }))

def rangeFunc (m : MSt) (f : Operand) (params : Array Tmp) (assign body : Code) (k : List AItem) : E Step := do
  let fv ← opd m.fr.tmps f
  let (l, mark, σ) ← enterLoop m params assign body
  let fr := { m.fr with todo := .inRangeFunc l :: k, defers := mark ++ m.fr.defers }
  match fv with
  | .func (.func g) first captured =>
    match X g (first.toList ++ [.func (.yield l) #[] #[]] ++ captured.toList) σ with
    | some _ => .error "a summary of an iterator"
    | none => do
      let fr' ← enterFrame P g (first.toList ++ [.func (.yield l) #[] #[]] ++ captured.toList) .normal
      .ok (.next { fr := fr', cs := fr :: m.cs, σ })
  | _ => .error "rangeFunc"

def beginRound (m : MSt) (k : List AItem) : E Step :=
  match m.fr.roundOf with
  | none => .error "beginRound"
  | some l => do
    let r ← getLoop m.σ l
    match r.state with
    | .ready => .ok (.next { fr := { m.fr with todo := k }, cs := m.cs, σ := { heap := m.σ.heap.set l (.loop { r with state := .busy }), next := m.σ.next } })
    | _ => .error "beginRound state"

def endRangeFunc (m : MSt) (l : Nat) (k : List AItem) : E Step := do
  let r ← getLoop m.σ l
  match r.state with
  | .busy => .error "endLoop"
  | _ => .ok (.next { fr := { m.fr with todo := (r.pending.map AItem.code).toList ++ k }, cs := m.cs, σ := { heap := m.σ.heap.set l (.loop { r with state := .exhausted }), next := m.σ.next } })

def execOper (m : MSt) (ops : Array Oper) (o : Oper) (rest : List Oper) (k : List AItem) : E Step := do
  let w ← awanted ops m.fr.tmps o
  if w then do
    let r ← aop P X m.σ m.fr.tmps o
    applyRet P m r
  else do
    let tm ← putTm m.fr.tmps m.fr.sz o.dst undef
    .ok (.next { m with fr := { m.fr with tmps := tm, todo := .inReg ops rest :: k } })

/- a region that draws its order: the operations in a canonical order: each writing operation as early as it can come -/
def beforesGo : List Oper → List Nat → List Nat
  | [], acc => acc
  | o :: rest, acc =>
    beforesGo rest (acc ++ [o.after.toList.foldl (fun s e => if Region.binds .any e then s ||| 2 ^ e.on ||| acc.getD e.on 0 else s) 0])

/- bit j of the i-th: operation j must come before operation i -/
def befores (ops : List Oper) : List Nat := beforesGo ops []

def namesOf (ops : List Oper) (o : Oper) : List Tmp :=
  (o.op.operands.toList.filterMap fun | .tmp t => some t | _ => none) ++
  (match o.guard with
   | some (g, _) => ((ops[g]?).bind (·.dst)).toList
   | none => [])

def ordered (bs : List Nat) (i j : Nat) : Bool := (bs.getD j 0).testBit i || (bs.getD i 0).testBit j

/- every temporary that an operation looks at or writes is written by at most one other, before it or behind it -/
def drawOk (ops : List Oper) (bs : List Nat) : Bool :=
  ops.zipIdx.all fun (o, j) => ops.zipIdx.all fun (w, i) =>
    i == j || match w.dst with
    | none => true
    | some d => (o.dst != some d) && (!(namesOf ops o).contains d || ordered bs i j)

/- what one operation of the region did: 'fv' is none for a write; 'seg': how many writes came before it -/
structure Evt where
  i : Nat
  o : Oper
  wanted : Bool
  tm : Tr Value
  val : Value
  fv : Option FV
  seg : Nat

structure DR where
  tm : Tr Value
  base : St
  pend : List (Nat × AObj)
  done : Nat
  since : Nat
  lastW : Option Nat
  past : List St
  evts : List Evt

def addPend (σ : St) : List (Nat × AObj) → St
  | [] => σ
  | (a, o) :: l => addPend { heap := σ.heap.set a o, next := σ.next } l

def fvVal (n0 i : Nat) : FV → Value
  | .val v => v
  | .new mk _ => mk (n0 + i)
  | .dead mk => mk (n0 + i)

def fvPend (n0 i : Nat) (pend : List (Nat × AObj)) : FV → List (Nat × AObj)
  | .new _ o => pend ++ [(n0 + i, o)]
  | _ => pend

def subMask (a b : Nat) : Bool := (a &&& b) == a

/- one operation that does not write (or is not wanted) -/
def runFlt (ops : Array Oper) (bs : List Nat) (sz n0 : Nat) (i : Nat) (o : Oper) (s : DR) : E DR :=
  if s.done.testBit i then .error "twice" else
  if !subMask (bs.getD i 0) s.done then .error "an operation before one that it needs" else do
  let w ← awanted ops s.tm o
  let fv ← if w then aflt P s.base s.tm o else .ok (.val undef)
  let tm ← putTm s.tm sz o.dst (fvVal n0 i fv)
  .ok { tm, base := s.base, pend := fvPend n0 i s.pend fv, done := s.done ||| 2 ^ i, since := s.since ||| 2 ^ i, lastW := s.lastW, past := s.past,
        evts := { i, o, wanted := w, tm := s.tm, val := fvVal n0 i fv, fv := some fv, seg := s.past.length } :: s.evts }

def runMask (ops : Array Oper) (bs : List Nat) (sz n0 : Nat) (mask : Nat) : List (Oper × Nat) → DR → E DR
  | [], s => .ok s
  | (o, i) :: l, s =>
    if mask.testBit i && !s.done.testBit i then do
      let s ← runFlt P ops bs sz n0 i o s
      runMask ops bs sz n0 mask l s
    else runMask ops bs sz n0 mask l s

inductive WR where
  | ok (s : DR)
  | panic (chain : List PanicEntry) (σ : St) (s : DR) (i : Nat) (o : Oper)

def outcome (call : CallF) : Ret → E CRes
  | .val v σ => .ok (.ret v σ)
  | .callv _ _ v σ => .ok (.ret v σ)
  | .enter f args σ => call f args σ
  | .panic v σ => .ok (.panic [{ v, recovered := false }] σ)
  | _ => .error "an operation in a drawn region"

def lastOk (m : Nat) : Option Nat → Bool
  | none => true
  | some j => m.testBit j

def runW (call : CallF) (ops : Array Oper) (bs : List Nat) (sz n0 : Nat) (i : Nat) (o : Oper) (s : DR) : E WR := do
  let w ← awanted ops s.tm o
  if !w then do
    let s ← runFlt P ops bs sz n0 i o s
    .ok (.ok s)
  else
    if s.done.testBit i then .error "twice" else
    if !(subMask (bs.getD i 0) s.done && subMask s.since (bs.getD i 0) && lastOk (bs.getD i 0) s.lastW) then .error "a write that is not ordered" else do
    let r ← awrt P X (addPend s.base s.pend) s.tm o
    let c ← outcome call r
    match c with
    | .ret v σ => do
      let tm ← putTm s.tm sz o.dst v
      .ok (.ok { tm, base := σ, pend := [], done := s.done ||| 2 ^ i, since := 0, lastW := some i, past := s.base :: s.past,
                 evts := { i, o, wanted := true, tm := s.tm, val := v, fv := none, seg := s.past.length } :: s.evts })
    | .panic chain σ => .ok (.panic chain σ s i o)

def countW (ws : List Nat) (mask : Nat) : Nat := (ws.filter fun w => mask.testBit w).length

def valEq : Nat → Value → Value → Bool
  | 0, _, _ => false
  | n + 1, v, w => match v, w with
    | .bool a, .bool b => a == b
    | .int j a, .int k b => decide (j = k) && a == b
    | .string a, .string b => decide (a.data.toList = b.data.toList)
    | .pointer a, .pointer b => decide (a = b)
    | .slice a n c, .slice a' n' c' => decide (a = a') && n == n' && c == c'
    | .map a, .map b => decide (a = b)
    | .chan a, .chan b => decide (a = b)
    | .nilIface, .nilIface => true
    | .nilFunc, .nilFunc => true
    | .iface t v, .iface u w => t == u && valEq n v w
    | .agg a, .agg b => a.size == b.size && (a.toList.zip b.toList).all fun (x, y) => valEq n x y
    | .tuple a, .tuple b => a.size == b.size && (a.toList.zip b.toList).all fun (x, y) => valEq n x y
    | .func f a b, .func g c d => decide (f = g) && a.size == c.size && b.size == d.size && (a.toList.zip c.toList).all (fun (x, y) => valEq n x y) && (b.toList.zip d.toList).all (fun (x, y) => valEq n x y)
    | _, _ => false

/- a read is made again in each earlier state in which it may come -/
def recheck (e : Evt) (fv : FV) : List St → E Unit
  | [] => .ok ()
  | σ :: l => do
    let f ← aflt P σ e.tm e.o
    match f, fv with
    | .val v, .val w => if valEq 20 v w then recheck e fv l else .error "a read that a write changes"
    | _, _ => .error "a read"

def writesOf : List Evt → List Nat
  | [] => []
  | e :: l => match e.fv with
    | none => e.i :: writesOf l
    | some _ => writesOf l

/- 'past': the states behind 0, 1, .. writes -/
def checkEvts (bs : List Nat) (ws : List Nat) (past : List St) : List Evt → E Unit
  | [] => .ok ()
  | e :: l => match e.fv with
    | none => checkEvts bs ws past l
    | some fv => do
      let _ ← (if !e.wanted || noHeap e.o then .ok () else recheck P e fv ((past.take e.seg).drop (countW ws (bs.getD e.i 0))) : E Unit)
      checkEvts bs ws past l

def runWs (call : CallF) (ops : Array Oper) (bs : List Nat) (sz n0 : Nat) (l : List (Oper × Nat)) : List (Oper × Nat) → DR → E WR
  | [], s => do
    let s ← runMask P ops bs sz n0 (2 ^ l.length - 1) l s
    .ok (.ok s)
  | (o, i) :: ws, s =>
    if s.done.testBit i then runWs call ops bs sz n0 l ws s else do
    let s ← runMask P ops bs sz n0 (bs.getD i 0) l s
    let r ← runW P X call ops bs sz n0 i o s
    match r with
    | .ok s => runWs call ops bs sz n0 l ws s
    | .panic c σ s i o => .ok (.panic c σ s i o)

/- the operations that can come before operation p (given: all others that p needs are done) -/
def freeMask (bs : List Nat) (p : Nat) : List (Oper × Nat) → Nat
  | [] => 0
  | (_, i) :: l => if i != p && !(bs.getD i 0).testBit p then freeMask bs p l ||| 2 ^ i else freeMask bs p l

def dropDsts (tm : Tr Value) : List Oper → Tr Value
  | [] => tm
  | o :: l => dropDsts (match o.dst with | some d => tm.del d | none => tm) l

inductive DRes where
  | ok (tm : Tr Value) (σ : St)
  | panic (chain : List PanicEntry) (tm : Tr Value) (σ : St)

def isWr (oi : Oper × Nat) : Bool := !isFlt oi.1

def drawn (call : CallF) (ops : Array Oper) (sz : Nat) (tm : Tr Value) (σ : St) : E DRes := do
  let l := ops.toList.zipIdx
  let bs := befores ops.toList
  if !drawOk ops.toList bs then .error "temporaries of a drawn region" else do
  let n0 := σ.next
  let base : St := { heap := σ.heap, next := σ.next + ops.size }
  let r ← runWs P X call ops bs sz n0 l (l.filter isWr) { tm, base, pend := [], done := 0, since := 0, lastW := none, past := [], evts := [] }
  match r with
  | .ok s => do
    let _ ← checkEvts P bs (writesOf s.evts) s.past.reverse s.evts
    if s.done == 2 ^ ops.size - 1 then .ok (.ok s.tm (addPend s.base s.pend)) else .error "not all operations"
  | .panic c σp s p _ => do
    let s' ← runMask P ops bs sz n0 (freeMask bs p l) l s
    let _ ← checkEvts P bs (writesOf s'.evts) s'.past.reverse s'.evts
    if l.all (fun (_, i) => s'.done.testBit i || i == p || (bs.getD i 0).testBit p) then .ok (.panic c (dropDsts tm ops.toList) σp) else .error "not all operations"

def exec (call : CallF) (m : MSt) : E Step :=
  match m.fr.todo with
  | [] => leave m none
  | x :: k => match x with
    | .inBlock _ => setTodo m k
    | .inScope _ => setTodo m k
    | .inLoop body => setTodo m (.code body :: .inLoop body :: k)
    | .inReg ops rest => match rest with
      | [] => setTodo m k
      | o :: rest => execOper P X m ops o rest k
    | .inRangeFunc _ => .error "inRangeFunc"
    | .endRangeFunc l => endRangeFunc m l k
    | .beginRound => beginRound m k
    | .code c => match c with
      | .skip => setTodo m k
      | .label _ => setTodo m k
      | .seq a b => setTodo m (.code a :: .code b :: k)
      | .cond c a b => do
        let v ← opd m.fr.tmps c
        let t ← asBool v
        setTodo m (.code (if t then a else b) :: k)
      | .block id body => setTodo m (.code body :: .inBlock id :: k)
      | .loop body => setTodo m (.code body :: .inLoop body :: k)
      | .scope body => setTodo m (.code body :: .inScope body :: k)
      | .exit id => match exitTo id k with
        | some k => setTodo m k
        | none => leave m (some (.exit id))
      | .goto l => match gotoIn l k with
        | some k => setTodo m k
        | none => leave m (some (.goto l))
      | .ret => leave m (some .ret)
      | .rangeFunc f params assign body => rangeFunc P X m f params assign body k
      | .region _ ops draw =>
        if draw then do
          let r ← drawn P X call ops m.fr.sz m.fr.tmps m.σ
          match r with
          | .ok tm σ => .ok (.next { fr := { m.fr with tmps := tm, todo := k }, cs := m.cs, σ })
          | .panic c tm σ => .ok (.next { fr := raise { m.fr with tmps := tm, todo := [] } c, cs := m.cs, σ })
        else setTodo m (.inReg ops ops.toList :: k)
      | .refuse _ => .error "refused"

def astep (call : CallF) (m : MSt) : E Step :=
  match m.fr.mode with
  | .run => exec P X call m
  | _ => unwind P X m

end

end Go.Ev

/- The relation between abstract and concrete values, and small laws. -/
namespace Go.Ev

theorem ok_bind {α β : Type} {x : E α} {f : α → E β} {b : β} : (x >>= f) = .ok b ↔ ∃ a, x = .ok a ∧ f a = .ok b := by
  cases x <;> simp [bind, Except.bind]

theorem ok_inj {α : Type} {a b : α} : (Except.ok a : E α) = .ok b ↔ a = b := by simp

theorem err_ok {α : Type} {s : String} {b : α} : ((Except.error s : E α) = .ok b) ↔ False := by simp

/-! ### tries -/

theorem Tr.get_nil {α : Type} (j : Nat) : (Tr.nil : Tr α).get j = none := by simp [Tr.get]

theorem Tr.get_setF {α : Type} : ∀ (n : Nat) (t : Tr α) (k : Nat) (x : Option α) (j : Nat), k < n →
    (Tr.setF n t k x).get j = if j = k then x else t.get j := by
  intro n
  induction n with
  | zero => intro t k x j h; omega
  | succ n ih =>
    intro t k x j h
    cases t with
    | nil =>
      simp only [Tr.setF, cond_eq_ite, Nat.beq_eq]
      by_cases hk : k = 0
      · subst hk
        simp only [if_true]
        by_cases hj : j = 0
        · subst hj; simp [Tr.get]
        · simp [Tr.get, hj, cond_eq_ite]
      · rw [if_neg hk]
        by_cases ho : k % 2 = 1
        · rw [if_pos ho]
          by_cases hj : j = 0
          · subst hj; simp [Tr.get, Ne.symm hk]
          · by_cases hjo : j % 2 = 1
            · simp only [Tr.get, cond_eq_ite, Nat.beq_eq, hj, if_false, hjo, if_true]
              rw [ih _ _ _ _ (by omega)]
              have : (j / 2 = k / 2) ↔ j = k := by omega
              simp [this, Tr.get]
            · simp only [Tr.get, cond_eq_ite, Nat.beq_eq, hj, if_false, hjo]
              have : j ≠ k := by omega
              simp [this]
        · rw [if_neg ho]
          by_cases hj : j = 0
          · subst hj; simp [Tr.get, Ne.symm hk]
          · by_cases hjo : j % 2 = 1
            · simp only [Tr.get, cond_eq_ite, Nat.beq_eq, hj, if_false, hjo, if_true]
              have : j ≠ k := by omega
              simp [this]
            · simp only [Tr.get, cond_eq_ite, Nat.beq_eq, hj, if_false, hjo]
              rw [ih _ _ _ _ (by omega)]
              have : (j / 2 - 1 = k / 2 - 1) ↔ j = k := by omega
              simp [this, Tr.get]
    | node l v r =>
      simp only [Tr.setF, cond_eq_ite, Nat.beq_eq]
      by_cases hk : k = 0
      · subst hk
        simp only [if_true]
        by_cases hj : j = 0
        · subst hj; simp [Tr.get]
        · simp [Tr.get, hj, cond_eq_ite]
      · rw [if_neg hk]
        by_cases ho : k % 2 = 1
        · rw [if_pos ho]
          by_cases hj : j = 0
          · subst hj; simp [Tr.get, Ne.symm hk]
          · by_cases hjo : j % 2 = 1
            · simp only [Tr.get, cond_eq_ite, Nat.beq_eq, hj, if_false, hjo, if_true]
              rw [ih _ _ _ _ (by omega)]
              have : (j / 2 = k / 2) ↔ j = k := by omega
              simp [this]
            · simp only [Tr.get, cond_eq_ite, Nat.beq_eq, hj, if_false, hjo]
              have : j ≠ k := by omega
              simp [this]
        · rw [if_neg ho]
          by_cases hj : j = 0
          · subst hj; simp [Tr.get, Ne.symm hk]
          · by_cases hjo : j % 2 = 1
            · simp only [Tr.get, cond_eq_ite, Nat.beq_eq, hj, if_false, hjo, if_true]
              have : j ≠ k := by omega
              simp [this]
            · simp only [Tr.get, cond_eq_ite, Nat.beq_eq, hj, if_false, hjo]
              rw [ih _ _ _ _ (by omega)]
              have : (j / 2 - 1 = k / 2 - 1) ↔ j = k := by omega
              simp [this]

theorem Tr.get_set {α : Type} (t : Tr α) (k : Nat) (x : α) (j : Nat) : (t.set k x).get j = if j = k then some x else t.get j :=
  Tr.get_setF _ _ _ _ _ (Nat.lt_succ_self k)
theorem Tr.get_del {α : Type} (t : Tr α) (k : Nat) (j : Nat) : (t.del k).get j = if j = k then none else t.get j :=
  Tr.get_setF _ _ _ _ _ (Nat.lt_succ_self k)

theorem Tr.get_ofListFrom {α : Type} (l : List α) : ∀ (t : Tr α) (i j : Nat),
    (t.ofListFrom l i).get j = if i ≤ j then (match l[j - i]? with | some x => some x | none => t.get j) else t.get j := by
  induction l with
  | nil => intro t i j; simp [Tr.ofListFrom]
  | cons x xs ih =>
    intro t i j
    rw [Tr.ofListFrom, ih, Tr.get_set]
    by_cases h : i ≤ j
    · by_cases h1 : i = j
      · subst h1; simp [show ¬ (i + 1 ≤ i) by omega]
      · rw [if_pos (by omega), if_pos h]
        have : j - i = (j - (i + 1)) + 1 := by omega
        rw [this, List.getElem?_cons_succ]
        simp [show j ≠ i by omega]
    · rw [if_neg (by omega), if_neg h, if_neg (by omega)]

/-! ### values -/

structure Loc where
  block : Nat
  base : Nat
  cap : Nat

structure Ren where
  loc : Nat → Option Loc
  sym : Nat → Option Value

def Ren.le (R R' : Ren) : Prop := (∀ a l, R.loc a = some l → R'.loc a = some l) ∧ (∀ k c, R.sym k = some c → R'.sym k = some c)
theorem Ren.le_refl (R : Ren) : R.le R := ⟨fun _ _ h => h, fun _ _ h => h⟩
theorem Ren.le_trans {R R' R'' : Ren} (h : R.le R') (h' : R'.le R'') : R.le R'' := ⟨fun a l x => h'.1 a l (h.1 a l x), fun a l x => h'.2 a l (h.2 a l x)⟩

inductive FnRel (R : Ren) : Fn → Fn → Prop
  | func (f : FuncId) : FnRel R (.func f) (.func f)
  | method (n : String) : FnRel R (.method n) (.method n)
  | methodOf (t : TypeId) (n : String) : FnRel R (.methodOf t n) (.methodOf t n)
  | via (t : TypeId) (p : Array FieldStep) (f : FuncId) (b : Bool) : FnRel R (.via t p f b) (.via t p f b)
  | yield (a : Nat) (l : Loc) : R.loc a = some l → FnRel R (.yield a) (.yield l.block)

inductive VRel (R : Ren) : Value → Value → Prop
  | bool (b : Bool) : VRel R (.bool b) (.bool b)
  | int (k : IntKind) (n : Int) : VRel R (.int k n) (.int k n)
  | float (k : FloatKind) (n : Nat) : VRel R (.float k n) (.float k n)
  | complex (k : FloatKind) (a b : Nat) : VRel R (.complex k a b) (.complex k a b)
  | string (s : ByteArray) : VRel R (.string s) (.string s)
  | nilPtr : VRel R (.pointer none) (.pointer none)
  | ptr (a off : Nat) (l : Loc) : R.loc a = some l → VRel R (.pointer (some ⟨a, off, none⟩)) (.pointer (some ⟨l.block, l.base + off, none⟩))
  | nilSlice (n c : Nat) : VRel R (.slice none n c) (.slice none n c)
  | slice (a off : Nat) (l : Loc) (n c : Nat) : R.loc a = some l → c < BIG → VRel R (.slice (some ⟨a, off, none⟩) n c) (.slice (some ⟨l.block, l.base + off, none⟩) n c)
  | openSl (a off : Nat) (l : Loc) (n c c' : Nat) : R.loc a = some l → c' + c = l.cap → VRel R (.slice (some ⟨a, off, none⟩) n (BIG + c)) (.slice (some ⟨l.block, l.base + off, none⟩) n c')
  | nilMap : VRel R (.map none) (.map none)
  | map (a : Nat) (l : Loc) : R.loc a = some l → VRel R (.map (some a)) (.map (some l.block))
  | nilChan : VRel R (.chan none) (.chan none)
  | sym (k : Nat) (c : Value) : R.sym k = some c → c.oneCell' = true → VRel R (.chan (some k)) c
  | func (f g : Fn) (xs ys cs ds : Array Value) : FnRel R f g → xs.size = ys.size → (∀ (i : Nat) (x y : Value), xs[i]? = some x → ys[i]? = some y → VRel R x y) →
      cs.size = ds.size → (∀ (i : Nat) (x y : Value), cs[i]? = some x → ds[i]? = some y → VRel R x y) → VRel R (.func f xs cs) (.func g ys ds)
  | nilFunc : VRel R .nilFunc .nilFunc
  | iface (t : TypeId) (v w : Value) : VRel R v w → VRel R (.iface t v) (.iface t w)
  | nilIface : VRel R .nilIface .nilIface
  | agg (xs ys : Array Value) : xs.size = ys.size → (∀ (i : Nat) (x y : Value), xs[i]? = some x → ys[i]? = some y → VRel R x y) → VRel R (.agg xs) (.agg ys)
  | tuple (xs ys : Array Value) : xs.size = ys.size → (∀ (i : Nat) (x y : Value), xs[i]? = some x → ys[i]? = some y → VRel R x y) → VRel R (.tuple xs) (.tuple ys)

theorem FnRel.mono {R R' : Ren} (h : R.le R') {f g : Fn} (hf : FnRel R f g) : FnRel R' f g := by
  cases hf with
  | func f => exact .func f
  | method n => exact .method n
  | methodOf t n => exact .methodOf t n
  | via t p f b => exact .via t p f b
  | yield a l ha => exact .yield a l (h.1 _ _ ha)

theorem VRel.mono {R R' : Ren} (h : R.le R') {v c : Value} (hv : VRel R v c) : VRel R' v c := by
  induction hv with
  | bool b => exact .bool b
  | int k n => exact .int k n
  | float k n => exact .float k n
  | complex k a b => exact .complex k a b
  | string s => exact .string s
  | nilPtr => exact .nilPtr
  | ptr a off l ha => exact .ptr a off l (h.1 _ _ ha)
  | nilSlice n c => exact .nilSlice n c
  | slice a off l n c ha hc => exact .slice a off l n c (h.1 _ _ ha) hc
  | openSl a off l n c c' ha hc => exact .openSl a off l n c c' (h.1 _ _ ha) hc
  | nilMap => exact .nilMap
  | map a l ha => exact .map a l (h.1 _ _ ha)
  | nilChan => exact .nilChan
  | sym k c hk h1 => exact .sym k c (h.2 _ _ hk) h1
  | func f g xs ys cs ds hf h1 _ h3 _ ih1 ih2 => exact .func f g xs ys cs ds (hf.mono h) h1 ih1 h3 ih2
  | nilFunc => exact .nilFunc
  | iface t v w _ ih => exact .iface t v w ih
  | nilIface => exact .nilIface
  | agg xs ys h1 _ ih => exact .agg xs ys h1 ih
  | tuple xs ys h1 _ ih => exact .tuple xs ys h1 ih

/-- lists of values, pointwise -/
def LRel (R : Ren) (xs ys : List Value) : Prop := xs.length = ys.length ∧ ∀ (i : Nat) (x y : Value), xs[i]? = some x → ys[i]? = some y → VRel R x y

theorem LRel.nil (R : Ren) : LRel R [] [] := ⟨rfl, by simp⟩
theorem LRel.cons {R : Ren} {x y : Value} {xs ys : List Value} (h : VRel R x y) (h' : LRel R xs ys) : LRel R (x :: xs) (y :: ys) := by
  refine ⟨by simp [h'.1], fun i a b ha hb => ?_⟩
  cases i with
  | zero => simp at ha hb; subst ha; subst hb; exact h
  | succ i => simp at ha hb; exact h'.2 i a b ha hb
theorem LRel.of_cons {R : Ren} {x : Value} {xs cs : List Value} (h : LRel R (x :: xs) cs) : ∃ y ys, cs = y :: ys ∧ VRel R x y ∧ LRel R xs ys := by
  cases cs with
  | nil => have := h.1; simp at this
  | cons y ys =>
    refine ⟨y, ys, rfl, h.2 0 x y (by simp) (by simp), by have := h.1; simpa using this, fun i a b ha hb => h.2 (i + 1) a b (by simpa using ha) (by simpa using hb)⟩
theorem LRel.of_nil {R : Ren} {cs : List Value} (h : LRel R [] cs) : cs = [] := by
  cases cs with
  | nil => rfl
  | cons y ys => have := h.1; simp at this
theorem LRel.mono {R R' : Ren} (hr : R.le R') {xs ys : List Value} (h : LRel R xs ys) : LRel R' xs ys := ⟨h.1, fun i x y hx hy => (h.2 i x y hx hy).mono hr⟩
theorem LRel.append {R : Ren} {xs ys xs' ys' : List Value} (h : LRel R xs ys) (h' : LRel R xs' ys') : LRel R (xs ++ xs') (ys ++ ys') := by
  induction xs generalizing ys with
  | nil => have := h.of_nil; subst this; simpa using h'
  | cons x xs ih =>
    obtain ⟨y, ys, rfl, h1, h2⟩ := h.of_cons
    exact .cons h1 (ih h2)
theorem LRel.get {R : Ren} {xs ys : List Value} (h : LRel R xs ys) {i : Nat} {x : Value} (hx : xs[i]? = some x) : ∃ y, ys[i]? = some y ∧ VRel R x y := by
  have hi : i < ys.length := by rw [← h.1]; exact (List.getElem?_eq_some_iff.1 hx).1
  exact ⟨ys[i], List.getElem?_eq_getElem hi, h.2 i x _ hx (List.getElem?_eq_getElem hi)⟩

theorem VRel.agg_iff {R : Ren} {xs : Array Value} {c : Value} : VRel R (.agg xs) c ↔ ∃ ys, c = .agg ys ∧ LRel R xs.toList ys.toList := by
  constructor
  · intro h
    cases h with
    | agg _ ys h1 h2 => exact ⟨ys, rfl, by simpa using h1, fun i x y hx hy => h2 i x y (by simpa using hx) (by simpa using hy)⟩
  · rintro ⟨ys, rfl, h1, h2⟩
    exact .agg xs ys (by simpa using h1) fun i x y hx hy => h2 i x y (by simpa using hx) (by simpa using hy)
theorem VRel.tuple_iff {R : Ren} {xs : Array Value} {c : Value} : VRel R (.tuple xs) c ↔ ∃ ys, c = .tuple ys ∧ LRel R xs.toList ys.toList := by
  constructor
  · intro h
    cases h with
    | tuple _ ys h1 h2 => exact ⟨ys, rfl, by simpa using h1, fun i x y hx hy => h2 i x y (by simpa using hx) (by simpa using hy)⟩
  · rintro ⟨ys, rfl, h1, h2⟩
    exact .tuple xs ys (by simpa using h1) fun i x y hx hy => h2 i x y (by simpa using hx) (by simpa using hy)
theorem VRel.func_iff {R : Ren} {f : Fn} {xs cs : Array Value} {c : Value} : VRel R (.func f xs cs) c ↔ ∃ g ys ds, c = .func g ys ds ∧ FnRel R f g ∧ LRel R xs.toList ys.toList ∧ LRel R cs.toList ds.toList := by
  constructor
  · intro h
    cases h with
    | func _ g _ ys _ ds hf h1 h2 h3 h4 =>
      exact ⟨g, ys, ds, rfl, hf, ⟨by simpa using h1, fun i x y hx hy => h2 i x y (by simpa using hx) (by simpa using hy)⟩, ⟨by simpa using h3, fun i x y hx hy => h4 i x y (by simpa using hx) (by simpa using hy)⟩⟩
  · rintro ⟨g, ys, ds, rfl, hf, ⟨h1, h2⟩, ⟨h3, h4⟩⟩
    exact .func f g xs ys cs ds hf (by simpa using h1) (fun i x y hx hy => h2 i x y (by simpa using hx) (by simpa using hy)) (by simpa using h3) (fun i x y hx hy => h4 i x y (by simpa using hx) (by simpa using hy))

theorem VRel.undef (R : Ren) : VRel R Go.undef Go.undef := VRel.tuple_iff.2 ⟨#[], rfl, LRel.nil R⟩

theorem VRel.oneCell {R : Ren} {v c : Value} (h : VRel R v c) (h1 : Ev.oneCell v = true) : c.oneCell' = true := by
  cases h <;> first | rfl | assumption | (simp [Ev.oneCell] at h1)

theorem VRel.cells {R : Ren} {v c : Value} (h : VRel R v c) : LRel R v.cells.toList c.cells.toList := by
  cases h with
  | agg xs ys h1 h2 => exact ⟨by simpa [Value.cells] using h1, fun i x y hx hy => h2 i x y (by simpa [Value.cells] using hx) (by simpa [Value.cells] using hy)⟩
  | sym k c hk h1 =>
    have : c.cells = #[c] := by cases c <;> first | rfl | (simp [Value.oneCell'] at h1)
    rw [this]
    exact .cons (.sym k c hk h1) (.nil R)
  | tuple xs ys h1 h2 => exact .cons (.tuple xs ys h1 h2) (.nil R)
  | func f g xs ys cs ds hf h1 h2 h3 h4 => exact .cons (.func f g xs ys cs ds hf h1 h2 h3 h4) (.nil R)
  | _ => exact .cons (by constructor <;> assumption) (.nil R)

theorem plain_rel (R : Ren) : ∀ (n : Nat) (v : Value), plainV n v = true → VRel R v v := by
  intro n
  induction n with
  | zero => intro v h; simp [plainV] at h
  | succ n ih =>
    intro v h
    cases v with
    | bool b => exact .bool b
    | int k n => exact .int k n
    | float k b => exact .float k b
    | complex k a b => exact .complex k a b
    | string s => exact .string s
    | pointer a => cases a with
      | none => exact .nilPtr
      | some a => simp [plainV] at h
    | slice a l c => cases a with
      | none => exact .nilSlice l c
      | some a => simp [plainV] at h
    | map r => cases r with
      | none => exact .nilMap
      | some a => simp [plainV] at h
    | chan r => cases r with
      | none => exact .nilChan
      | some a => simp [plainV] at h
    | func f a b => simp [plainV] at h
    | nilFunc => exact .nilFunc
    | iface t v => exact .iface t v v (ih v (by simpa [plainV] using h))
    | nilIface => exact .nilIface
    | agg xs =>
      refine VRel.agg_iff.2 ⟨xs, rfl, rfl, fun i x y hx hy => ?_⟩
      rw [hx] at hy; cases hy
      simp only [plainV, List.all_eq_true] at h
      exact ih x (h x (List.mem_of_getElem? hx))
    | tuple xs =>
      refine VRel.tuple_iff.2 ⟨xs, rfl, rfl, fun i x y hx hy => ?_⟩
      rw [hx] at hy; cases hy
      simp only [plainV, List.all_eq_true] at h
      exact ih x (h x (List.mem_of_getElem? hx))

/-! ### temporaries and operands -/

def ceval (tmps : Array Value) : Operand → Value
  | .tmp t => tmps.getD t Go.undef
  | .const v => v
  | .global g => .pointer (some ⟨g, 0, none⟩)
  | .func f => .func (.func f) #[] #[]

theorem Frame.eval_eq (fr : Frame) : fr.eval = ceval fr.tmps := by funext x; cases x <;> rfl

def Glob (R : Ren) : Prop := ∀ g, g < GMAX → R.loc g = some ⟨g, 0, 0⟩
theorem Glob.mono {R R' : Ren} (h : R.le R') (hg : Glob R) : Glob R' := fun g hlt => h.1 _ _ (hg g hlt)

def TRel (R : Ren) (tm : Tr Value) (arr : Array Value) : Prop := ∀ i v, tm.get i = some v → ∃ c, arr[i]? = some c ∧ VRel R v c

theorem TRel.mono {R R' : Ren} (h : R.le R') {tm : Tr Value} {arr : Array Value} (ht : TRel R tm arr) : TRel R' tm arr :=
  fun i v hv => let ⟨c, hc, hr⟩ := ht i v hv; ⟨c, hc, hr.mono h⟩

theorem TRel.set {R : Ren} {tm : Tr Value} {arr : Array Value} (ht : TRel R tm arr) {d : Nat} {v c : Value} (hv : VRel R v c) (hd : d < arr.size) :
    TRel R (tm.set d v) (arr.setIfInBounds d c) := by
  intro i u hu
  rw [Tr.get_set] at hu
  by_cases h : i = d
  · subst h
    simp only [if_true, Option.some.injEq] at hu
    subst hu
    exact ⟨c, by simp [hd], hv⟩
  · rw [if_neg h] at hu
    obtain ⟨x, hx, hr⟩ := ht i u hu
    exact ⟨x, by rw [Array.getElem?_setIfInBounds_ne (Ne.symm h)]; exact hx, hr⟩

theorem TRel.del {R : Ren} {tm : Tr Value} {arr : Array Value} (ht : TRel R tm arr) (d : Nat) : TRel R (tm.del d) arr := by
  intro i u hu
  rw [Tr.get_del] at hu
  by_cases h : i = d
  · simp [h] at hu
  · rw [if_neg h] at hu; exact ht i u hu

theorem opd_rel {R : Ren} (hg : Glob R) {tm : Tr Value} {arr : Array Value} (ht : TRel R tm arr) {x : Operand} {v : Value} (h : opd tm x = .ok v) : VRel R v (ceval arr x) := by
  cases x with
  | tmp t =>
    simp only [opd] at h
    cases hgt : tm.get t with
    | none => rw [hgt] at h; cases h
    | some u =>
      rw [hgt] at h
      simp only [ok_inj] at h
      subst h
      obtain ⟨c, hc, hr⟩ := ht t u hgt
      simpa [ceval, Array.getD_eq_getD_getElem?, hc] using hr
  | const u =>
    simp only [opd] at h
    split at h
    · simp only [ok_inj] at h; subst h; exact plain_rel R 20 u ‹_›
    · cases h
  | global g =>
    simp only [opd] at h
    split at h
    · cases h
      have := VRel.ptr (R := R) g 0 _ (hg g ‹_›)
      simpa [ceval] using this
    · cases h
  | func f => cases h; exact VRel.func_iff.2 ⟨.func f, #[], #[], rfl, .func f, LRel.nil R, LRel.nil R⟩

theorem opds_rel {R : Ren} (hg : Glob R) {tm : Tr Value} {arr : Array Value} (ht : TRel R tm arr) : ∀ {xs : List Operand} {vs : List Value}, opds tm xs = .ok vs → LRel R vs (xs.map (ceval arr))
  | [], vs, h => by cases h; exact LRel.nil R
  | x :: xs, vs, h => by
    simp only [opds, ok_bind, ok_inj] at h
    obtain ⟨v, hv, vs', hvs, rfl⟩ := h
    exact .cons (opd_rel hg ht hv) (opds_rel hg ht hvs)

def ORelV (R : Ren) : Option Value → Option Value → Prop
  | none, none => True
  | some v, some c => VRel R v c
  | _, _ => False

theorem optOpd_rel {R : Ren} (hg : Glob R) {tm : Tr Value} {arr : Array Value} (ht : TRel R tm arr) {x : Option Operand} {v : Option Value} (h : optOpd tm x = .ok v) : ORelV R v (x.map (ceval arr)) := by
  cases x with
  | none => cases h; trivial
  | some x =>
    simp only [optOpd, ok_bind, ok_inj] at h
    obtain ⟨u, hu, rfl⟩ := h
    exact opd_rel hg ht hu

end Go.Ev

/- The relation between the abstract heap and the concrete one; what keeps it. -/
namespace Go.Ev

def F2 {α β : Type} (r : α → β → Prop) (xs : List α) (ys : List β) : Prop :=
  xs.length = ys.length ∧ ∀ (i : Nat) (x : α) (y : β), xs[i]? = some x → ys[i]? = some y → r x y

section
variable {α β : Type} {r r' : α → β → Prop}
theorem F2.nil : F2 r [] [] := ⟨rfl, by simp⟩
theorem F2.cons {x : α} {y : β} {xs : List α} {ys : List β} (h : r x y) (h' : F2 r xs ys) : F2 r (x :: xs) (y :: ys) := by
  refine ⟨by simp [h'.1], fun i a b ha hb => ?_⟩
  cases i with
  | zero => simp at ha hb; subst ha; subst hb; exact h
  | succ i => simp at ha hb; exact h'.2 i a b ha hb
theorem F2.of_cons {x : α} {xs : List α} {cs : List β} (h : F2 r (x :: xs) cs) : ∃ y ys, cs = y :: ys ∧ r x y ∧ F2 r xs ys := by
  cases cs with
  | nil => have := h.1; simp at this
  | cons y ys =>
    refine ⟨y, ys, rfl, h.2 0 x y (by simp) (by simp), by have := h.1; simpa using this, fun i a b ha hb => h.2 (i + 1) a b (by simpa using ha) (by simpa using hb)⟩
theorem F2.of_nil {cs : List β} (h : F2 r ([] : List α) cs) : cs = [] := by
  cases cs with
  | nil => rfl
  | cons y ys => have := h.1; simp at this
theorem F2.mono (hr : ∀ x y, r x y → r' x y) {xs : List α} {ys : List β} (h : F2 r xs ys) : F2 r' xs ys := ⟨h.1, fun i x y hx hy => hr _ _ (h.2 i x y hx hy)⟩
theorem F2.append {xs xs' : List α} {ys ys' : List β} (h : F2 r xs ys) (h' : F2 r xs' ys') : F2 r (xs ++ xs') (ys ++ ys') := by
  induction xs generalizing ys with
  | nil => have := h.of_nil; subst this; simpa using h'
  | cons x xs ih =>
    obtain ⟨y, ys, rfl, h1, h2⟩ := h.of_cons
    exact .cons h1 (ih h2)
theorem F2.get {xs : List α} {ys : List β} (h : F2 r xs ys) {i : Nat} {x : α} (hx : xs[i]? = some x) : ∃ y, ys[i]? = some y ∧ r x y := by
  have hi : i < ys.length := by rw [← h.1]; exact (List.getElem?_eq_some_iff.1 hx).1
  exact ⟨ys[i], List.getElem?_eq_getElem hi, h.2 i x _ hx (List.getElem?_eq_getElem hi)⟩
end

inductive TgtRel (R : Ren) : Target → Target → Prop
  | fn (f g : Fn) (cs ds : Array Value) : FnRel R f g → LRel R cs.toList ds.toList → TgtRel R (.fn f cs) (.fn g ds)
  | builtin (b : Builtin) (ts : Array TypeId) (t t' : TypeId) (c c' : Array Bool) : TgtRel R (.builtin b ts t c) (.builtin b ts t' c')
  | collected (a : Nat) (l : Loc) : R.loc a = some l → TgtRel R (.collected a) (.collected l.block)

structure DRel (R : Ren) (d e : Deferred) : Prop where
  target : TgtRel R d.target e.target
  args : LRel R d.args.toList e.args.toList

theorem TgtRel.mono {R R' : Ren} (h : R.le R') {d e : Target} (hd : TgtRel R d e) : TgtRel R' d e := by
  cases hd with
  | fn f g cs ds hf hc => exact .fn f g cs ds (hf.mono h) (hc.mono h)
  | builtin b ts t t' c c' => exact .builtin b ts t t' c c'
  | collected a l ha => exact .collected a l (h.1 _ _ ha)

theorem DRel.mono {R R' : Ren} (h : R.le R') {d e : Deferred} (hd : DRel R d e) : DRel R' d e := ⟨hd.target.mono h, hd.args.mono h⟩

structure ERel (R : Ren) (e f : MapEntry) : Prop where
  key : VRel R e.key f.key
  val : VRel R e.val f.val
  born : e.born = f.born

theorem ERel.mono {R R' : Ren} (h : R.le R') {e f : MapEntry} (he : ERel R e f) : ERel R' e f := ⟨he.key.mono h, he.val.mono h, he.born⟩

structure LoopRel (R : Ren) (a : ALoop) (l : Loop) : Prop where
  state : l.state = a.state
  pending : l.pending = a.pending
  fn : l.fn = a.fn
  tmps : TRel R a.tmps l.tmps
  size : l.tmps.size = a.sz
  params : l.params = a.params
  assign : l.assign = a.assign
  body : l.body = a.body
  defers : ∃ x, R.loc a.defers = some x ∧ x.block = l.defers

theorem LoopRel.mono {R R' : Ren} (h : R.le R') {a : ALoop} {l : Loop} (hl : LoopRel R a l) : LoopRel R' a l :=
  ⟨hl.state, hl.pending, hl.fn, hl.tmps.mono h, hl.size, hl.params, hl.assign, hl.body, let ⟨x, hx, hb⟩ := hl.defers; ⟨x, h.1 _ _ hx, hb⟩⟩

def MRel (R : Ren) : Option Nat → Option Nat → Prop
  | none, none => True
  | some a, some b => ∃ l, R.loc a = some l ∧ l.block = b
  | _, _ => False

theorem MRel.mono {R R' : Ren} (h : R.le R') {a b : Option Nat} (hm : MRel R a b) : MRel R' a b := by
  cases a <;> cases b <;> simp only [MRel] at *
  obtain ⟨l, h1, h2⟩ := hm
  exact ⟨l, h.1 _ _ h1, h2⟩

def DsRel (R : Ren) : Option (List Deferred) → Option (List Deferred) → Prop
  | none, none => True
  | some a, some b => F2 (DRel R) a b
  | _, _ => False

theorem DsRel.mono {R R' : Ren} (h : R.le R') {a b : Option (List Deferred)} (hm : DsRel R a b) : DsRel R' a b := by
  cases a <;> cases b <;> simp only [DsRel] at *
  exact hm.mono fun _ _ hd => hd.mono h

structure CellsRel (P : Program) (R : Ren) (l : Loc) (c : Tr Value) (d : List Value) (n : Nat) (e : TypeId) (ext : Bool) (fz : Nat) (mk : Bool) (cs : Array Value) (lo hi : Nat) : Prop where
  cells : ∀ i, i < n → ∃ v, cs[l.base + i]? = some v ∧ VRel R (getC c d i) v
  ext : ext = true → n ≤ l.cap * P.cellsOf e ∧ l.base + l.cap * P.cellsOf e ≤ cs.size
  free : ∀ j, l.base + fz ≤ j → j < cs.size → ¬ (lo ≤ j ∧ j < hi)
  mark : mk = false → ¬ (lo ≤ cs.size ∧ cs.size < hi)

theorem CellsRel.mono {P : Program} {R R' : Ren} (h : R.le R') {l : Loc} {c : Tr Value} {d : List Value} {n : Nat} {e : TypeId} {ext : Bool} {fz : Nat} {mk : Bool} {cs : Array Value} {lo hi : Nat}
    (hc : CellsRel P R l c d n e ext fz mk cs lo hi) : CellsRel P R' l c d n e ext fz mk cs lo hi :=
  ⟨fun i hi => let ⟨v, h1, h2⟩ := hc.cells i hi; ⟨v, h1, h2.mono h⟩, hc.ext, hc.free, hc.mark⟩

def ORel (P : Program) (R : Ren) (l : Loc) : AObj → Obj → Prop
  | .cells c d n e ext fz mk, .cells cs e' (lo, hi) => (e' = e ∨ (ext = false ∧ n ≤ fz)) ∧ CellsRel P R l c d n e ext fz mk cs lo hi
  | .map es clock, .map es' clock' => F2 (ERel R) es es'.toList ∧ clock' = clock
  | .stringIter s p, .stringIter s' p' => s' = s ∧ p' = p ∧ l.base = 0
  | .mapIter m since seen stepped, .mapIter m' since' seen' stepped' => MRel R m m' ∧ since' = since ∧ seen'.toList = seen ∧ stepped' = stepped ∧ l.base = 0
  | .loop a, .loop b => LoopRel R a b
  | .deferred a, .deferred b => DsRel R a b
  | _, _ => False

theorem ORel.mono {P : Program} {R R' : Ren} (h : R.le R') {l : Loc} {o : AObj} {O : Obj} (ho : ORel P R l o O) : ORel P R' l o O := by
  cases o <;> cases O <;> simp only [ORel] at ho ⊢
  case cells.cells => exact ⟨ho.1, ho.2.mono h⟩
  case map.map => exact ⟨ho.1.mono fun _ _ he => he.mono h, ho.2⟩
  case stringIter.stringIter => exact ho
  case mapIter.mapIter => exact ⟨ho.1.mono h, ho.2⟩
  case loop.loop => exact ho.mono h
  case deferred.deferred => exact ho.mono h

structure HRel (P : Program) (R : Ren) (σ : St) (h : Array Obj) : Prop where
  glob : Glob R
  low : GMAX ≤ σ.next
  dom : ∀ a, σ.next ≤ a → R.loc a = none
  inj : ∀ a b la lb, (σ.heap.get a).isSome → (σ.heap.get b).isSome → R.loc a = some la → R.loc b = some lb → la.block = lb.block → a = b
  obj : ∀ a o, σ.heap.get a = some o → ∃ l O, R.loc a = some l ∧ h[l.block]? = some O ∧ ORel P R l o O

/-- a block that cannot be written -/
def _root_.Go.Ev.AObj.ro : AObj → Bool
  | .cells _ _ n _ ext fz _ => !ext && decide (n ≤ fz)
  | _ => false

/-- what is kept: the frame of a run from (R, σ, h) to (R', σ', h') -/
structure Fr (R : Ren) (σ : St) (h : Array Obj) (R' : Ren) (σ' : St) (h' : Array Obj) : Prop where
  le : R.le R'
  size : h.size ≤ h'.size
  keep : ∀ B, B < h.size → (∀ a l o, σ.heap.get a = some o → o.ro = false → R.loc a = some l → l.block ≠ B) → h'[B]? = h[B]?
  orig : ∀ a l o, σ'.heap.get a = some o → R'.loc a = some l → h.size ≤ l.block ∨ ∃ a0 l0 o0, σ.heap.get a0 = some o0 ∧ R.loc a0 = some l0 ∧ l0.block = l.block ∧ (o.ro = false → o0.ro = false)
  next : σ.next ≤ σ'.next
  old : ∀ a l, R'.loc a = some l → R.loc a = some l ∨ σ.next ≤ a

theorem Fr.refl (R : Ren) (σ : St) (h : Array Obj) : Fr R σ h R σ h :=
  ⟨R.le_refl, Nat.le_refl _, fun _ _ _ => rfl, fun a l o ha hl => .inr ⟨a, l, o, ha, hl, rfl, id⟩, Nat.le_refl _, fun _ _ h => .inl h⟩

theorem Fr.own {R : Ren} {σ : St} {h : Array Obj} {R' : Ren} {σ' : St} {h' : Array Obj} (F : Fr R σ h R' σ' h') (a : Nat) (l : Loc) (ha : (σ'.heap.get a).isSome) (hl : R'.loc a = some l) :
    h.size ≤ l.block ∨ ∃ a0 l0, (σ.heap.get a0).isSome ∧ R.loc a0 = some l0 ∧ l0.block = l.block := by
  obtain ⟨o, ho⟩ := Option.isSome_iff_exists.1 ha
  rcases F.orig a l o ho hl with h | ⟨a0, l0, o0, h1, h2, h3, _⟩
  · exact .inl h
  · exact .inr ⟨a0, l0, by rw [h1]; rfl, h2, h3⟩

theorem Fr.trans {R : Ren} {σ : St} {h : Array Obj} {R' : Ren} {σ' : St} {h' : Array Obj} {R'' : Ren} {σ'' : St} {h'' : Array Obj}
    (a : Fr R σ h R' σ' h') (b : Fr R' σ' h' R'' σ'' h'') : Fr R σ h R'' σ'' h'' := by
  refine ⟨Ren.le_trans a.le b.le, Nat.le_trans a.size b.size, fun B hB hne => ?_, fun x l o hx hl => ?_, Nat.le_trans a.next b.next, fun x l hl => (b.old x l hl).elim (a.old x l) (fun h => .inr (Nat.le_trans a.next h))⟩
  · rw [← a.keep B hB hne]
    refine b.keep B (Nat.lt_of_lt_of_le hB a.size) fun x l o hx hro hl e => ?_
    rcases a.orig x l o hx hl with h1 | ⟨a0, l0, o0, h1, h2, h3, h4⟩
    · omega
    · exact hne a0 l0 o0 h1 (h4 hro) h2 (h3.trans e)
  · rcases b.orig x l o hx hl with h1 | ⟨a0, l0, o0, h1, h2, h3, h7⟩
    · exact .inl (Nat.le_trans a.size h1)
    · rcases a.orig a0 l0 o0 h1 h2 with h4 | ⟨a1, l1, o1, h4, h5, h6, h8⟩
      · exact .inl (h3 ▸ h4)
      · exact .inr ⟨a1, l1, o1, h4, h5, h6.trans h3, fun h => h8 (h7 h)⟩

structure WKeep (w w' : World) : Prop where
  os : w'.os = w.os
  output : w'.output = w.output
  tape : w'.tape = w.tape

theorem WKeep.refl (w : World) : WKeep w w := ⟨rfl, rfl, rfl⟩
theorem WKeep.trans {w w' w'' : World} (a : WKeep w w') (b : WKeep w' w'') : WKeep w w'' := ⟨b.os.trans a.os, b.output.trans a.output, b.tape.trans a.tape⟩

def Ren.add (R : Ren) (n : Nat) (l : Loc) : Ren := ⟨fun a => if a = n then some l else R.loc a, R.sym⟩
theorem Ren.le_add {R : Ren} {n : Nat} (h : R.loc n = none) (l : Loc) : R.le (R.add n l) :=
  ⟨fun a x hx => by
    have : a ≠ n := fun e => by rw [e, h] at hx; cases hx
    simp [Ren.add, this, hx], fun _ _ h => h⟩
theorem Ren.add_loc (R : Ren) (n : Nat) (l : Loc) : (R.add n l).loc n = some l := by simp [Ren.add]

variable {P : Program} {R : Ren} {σ : St} {h : Array Obj}

theorem HRel.lt (H : HRel P R σ h) {a : Nat} {l : Loc} (ha : (σ.heap.get a).isSome) (hl : R.loc a = some l) : l.block < h.size := by
  obtain ⟨o, ho⟩ := Option.isSome_iff_exists.1 ha
  obtain ⟨l', O, h1, h2, _⟩ := H.obj a o ho
  rw [hl] at h1; cases h1
  exact (Array.getElem?_eq_some_iff.1 h2).1

/-- a new block, under the abstract number n -/
theorem HRel.allocAt (H : HRel P R σ h) (n next : Nat) (hn : R.loc n = none) (hg : GMAX ≤ n) (hlt : n < next) (hge : σ.next ≤ next) (o : AObj) (O : Obj) (cap : Nat)
    (ho : ORel P (R.add n ⟨h.size, 0, cap⟩) ⟨h.size, 0, cap⟩ o O) :
    HRel P (R.add n ⟨h.size, 0, cap⟩) { heap := σ.heap.set n o, next } (h.push O) ∧
    (σ.next ≤ n → Fr R σ h (R.add n ⟨h.size, 0, cap⟩) { heap := σ.heap.set n o, next } (h.push O)) := by
  have hle := Ren.le_add hn ⟨h.size, 0, cap⟩
  have hloc : ∀ a l, a ≠ n → (R.add n ⟨h.size, 0, cap⟩).loc a = some l → R.loc a = some l := fun a l ha hl => by simpa [Ren.add, ha] using hl
  have hget : ∀ a, a ≠ n → ((σ.heap.set n o).get a) = σ.heap.get a := fun a ha => by rw [Tr.get_set, if_neg ha]
  refine ⟨⟨H.glob.mono hle, Nat.le_trans H.low hge, fun a ha => ?_, fun a b la lb ha hb hla hlb he => ?_, fun a o' ha => ?_⟩, fun hnn => ⟨hle, by simp, fun B hB _ => ?_, fun a l o1 ha hl => ?_, hge, fun a l hl => (Nat.lt_or_ge a σ.next).elim (fun h1 => .inl (hloc a l (by omega) hl)) .inr⟩⟩
  · have : a ≠ n := by simp only at ha; omega
    simp only [Ren.add, this, if_false]
    exact H.dom a (Nat.le_trans hge ha)
  · by_cases h1 : a = n <;> by_cases h2 : b = n
    · rw [h1, h2]
    · subst h1
      rw [Ren.add_loc] at hla; cases hla
      rw [hget b h2] at hb
      have := H.lt hb (hloc b lb h2 hlb)
      simp only at he; omega
    · subst h2
      rw [Ren.add_loc] at hlb; cases hlb
      rw [hget a h1] at ha
      have := H.lt ha (hloc a la h1 hla)
      simp only at he; omega
    · rw [hget a h1] at ha
      rw [hget b h2] at hb
      exact H.inj a b la lb ha hb (hloc a la h1 hla) (hloc b lb h2 hlb) he
  · by_cases h1 : a = n
    · subst h1
      simp only [Tr.get_set, if_true, Option.some.injEq] at ha
      subst ha
      exact ⟨_, O, Ren.add_loc _ _ _, by simp, ho⟩
    · rw [hget a h1] at ha
      obtain ⟨l, O', h2, h3, h4⟩ := H.obj a o' ha
      have hlt' := (Array.getElem?_eq_some_iff.1 h3).1
      exact ⟨l, O', hle.1 _ _ h2, by rw [Array.getElem?_push_lt hlt']; rw [← h3]; exact (Array.getElem?_eq_getElem hlt').symm, h4.mono hle⟩
  · rw [Array.getElem?_push_lt hB]; exact (Array.getElem?_eq_getElem hB).symm
  · by_cases h1 : a = n
    · subst h1
      rw [Ren.add_loc] at hl; cases hl
      exact .inl (Nat.le_refl _)
    · rw [hget a h1] at ha
      exact .inr ⟨a, l, o1, ha, hloc a l h1 hl, rfl, id⟩

theorem HRel.alloc (H : HRel P R σ h) (o : AObj) (O : Obj) (cap : Nat)
    (ho : ORel P (R.add σ.next ⟨h.size, 0, cap⟩) ⟨h.size, 0, cap⟩ o O) :
    HRel P (R.add σ.next ⟨h.size, 0, cap⟩) (Ev.alloc σ o) (h.push O) ∧ Fr R σ h (R.add σ.next ⟨h.size, 0, cap⟩) (Ev.alloc σ o) (h.push O) :=
  let ⟨h1, h2⟩ := H.allocAt σ.next (σ.next + 1) (H.dom _ (Nat.le_refl _)) H.low (Nat.lt_succ_self _) (Nat.le_succ _) o O cap ho
  ⟨h1, h2 (Nat.le_refl _)⟩

/-- a number that stands for a place without a block of its own -/
theorem HRel.dead (H : HRel P R σ h) (n next : Nat) (hn : R.loc n = none) (hs : σ.heap.get n = none) (hlt : n < next) (hge : σ.next ≤ next) (l : Loc) :
    HRel P (R.add n l) { heap := σ.heap, next } h ∧ (σ.next ≤ n → Fr R σ h (R.add n l) { heap := σ.heap, next } h) := by
  have hle := Ren.le_add hn l
  have hloc : ∀ a x, a ≠ n → (R.add n l).loc a = some x → R.loc a = some x := fun a x ha hl => by simpa [Ren.add, ha] using hl
  have hne : ∀ a, (σ.heap.get a).isSome → a ≠ n := fun a ha e => by rw [e, hs] at ha; cases ha
  refine ⟨⟨H.glob.mono hle, Nat.le_trans H.low hge, fun a ha => ?_, fun a b la lb ha hb hla hlb he => ?_, fun a o' ha => ?_⟩, fun hnn => ⟨hle, Nat.le_refl _, fun B hB _ => rfl, fun a x o1 ha hl => ?_, hge, fun a x hl => (Nat.lt_or_ge a σ.next).elim (fun h1 => .inl (hloc a x (by omega) hl)) .inr⟩⟩
  · have : a ≠ n := by simp only at ha; omega
    simp only [Ren.add, this, if_false]
    exact H.dom a (Nat.le_trans hge ha)
  · exact H.inj a b la lb ha hb (hloc a la (hne a ha) hla) (hloc b lb (hne b hb) hlb) he
  · obtain ⟨x, O, h1, h2, h3⟩ := H.obj a o' ha
    exact ⟨x, O, hle.1 _ _ h1, h2, h3.mono hle⟩
  · exact .inr ⟨a, x, o1, ha, hloc a x (hne a (by rw [ha]; rfl)) hl, rfl, id⟩

/-- a block that is written anew -/
theorem HRel.update (H : HRel P R σ h) {a : Nat} {l : Loc} {o0 : AObj} (ha0 : σ.heap.get a = some o0) (hro : o0.ro = false) (hl : R.loc a = some l) {o' : AObj} {O' : Obj} (ho : ORel P R l o' O') :
    HRel P R { heap := σ.heap.set a o', next := σ.next } (h.setIfInBounds l.block O') ∧ Fr R σ h R { heap := σ.heap.set a o', next := σ.next } (h.setIfInBounds l.block O') := by
  have ha : (σ.heap.get a).isSome := by rw [ha0]; rfl
  have hlt := H.lt ha hl
  have hsome : ∀ b, ((σ.heap.set a o').get b).isSome → (σ.heap.get b).isSome := fun b hb => by
    rw [Tr.get_set] at hb
    split at hb
    · rename_i e; rw [e]; exact ha
    · exact hb
  refine ⟨⟨H.glob, H.low, H.dom, fun x y lx ly hx hy => H.inj x y lx ly (hsome x hx) (hsome y hy), fun x o hx => ?_⟩, ⟨R.le_refl, by simp, fun B hB hne => ?_, fun x lx o1 hx hlx => ?_, Nat.le_refl _, fun _ _ h => .inl h⟩⟩
  · by_cases h1 : x = a
    · subst h1
      simp only [Tr.get_set, if_true, Option.some.injEq] at hx
      subst hx
      exact ⟨l, O', hl, by simp [hlt], ho⟩
    · have hx0 := hx
      rw [Tr.get_set, if_neg h1] at hx
      obtain ⟨lx, O, h2, h3, h4⟩ := H.obj x o hx
      refine ⟨lx, O, h2, ?_, h4⟩
      have : l.block ≠ lx.block := fun e => h1 (H.inj x a lx l (by rw [hx]; rfl) ha h2 hl e.symm)
      rw [Array.getElem?_setIfInBounds_ne this]; exact h3
  · rw [Array.getElem?_setIfInBounds_ne (hne a l o0 ha0 hro hl)]
  · by_cases h1 : x = a
    · subst h1; exact .inr ⟨x, lx, o0, ha0, hlx, rfl, fun _ => hro⟩
    · simp only [Tr.get_set, if_neg h1] at hx
      exact .inr ⟨x, lx, o1, hx, hlx, rfl, id⟩

theorem HRel.del (H : HRel P R σ h) (a : Nat) : HRel P R { heap := σ.heap.del a, next := σ.next } h ∧ Fr R σ h R { heap := σ.heap.del a, next := σ.next } h := by
  have hget : ∀ b o, (σ.heap.del a).get b = some o → σ.heap.get b = some o := fun b o hb => by
    rw [Tr.get_del] at hb
    split at hb
    · cases hb
    · exact hb
  have hsome : ∀ b, ((σ.heap.del a).get b).isSome → (σ.heap.get b).isSome := fun b hb => by
    obtain ⟨o, ho⟩ := Option.isSome_iff_exists.1 hb
    rw [hget b o ho]; rfl
  exact ⟨⟨H.glob, H.low, H.dom, fun x y lx ly hx hy => H.inj x y lx ly (hsome x hx) (hsome y hy), fun x o hx => H.obj x o (hget x o hx)⟩,
    ⟨R.le_refl, Nat.le_refl _, fun _ _ _ => rfl, fun x lx o1 hx hlx => .inr ⟨x, lx, o1, hget x o1 hx, hlx, rfl, id⟩, Nat.le_refl _, fun _ _ h => .inl h⟩⟩

/-- fewer blocks -/
theorem HRel.sub (H : HRel P R σ h) {σ2 : St} (hn : σ2.next = σ.next) (hs : ∀ a o, σ2.heap.get a = some o → σ.heap.get a = some o) : HRel P R σ2 h := by
  have hsome : ∀ b, (σ2.heap.get b).isSome → (σ.heap.get b).isSome := fun b hb => by
    obtain ⟨o, ho⟩ := Option.isSome_iff_exists.1 hb
    rw [hs b o ho]; rfl
  exact ⟨H.glob, hn ▸ H.low, hn ▸ H.dom, fun x y lx ly hx hy => H.inj x y lx ly (hsome x hx) (hsome y hy), fun x o hx => H.obj x o (hs x o hx)⟩

theorem obj_get {σ : St} {a : Nat} {o : AObj} (h : Ev.obj σ a = .ok o) : σ.heap.get a = some o := by
  unfold Ev.obj at h
  cases hg : σ.heap.get a with
  | none => rw [hg] at h; cases h
  | some x => rw [hg] at h; cases h; rfl

/-- a block of cells, opened -/
theorem HRel.cells (H : HRel P R σ h) {a : Nat} {c : Tr Value} {d : List Value} {n : Nat} {e : TypeId} {ext : Bool} {fz : Nat} {mk : Bool} (ha : σ.heap.get a = some (.cells c d n e ext fz mk)) :
    ∃ l cs lo hi e', R.loc a = some l ∧ h[l.block]? = some (.cells cs e' (lo, hi)) ∧ CellsRel P R l c d n e ext fz mk cs lo hi ∧ (e' = e ∨ (ext = false ∧ n ≤ fz)) := by
  obtain ⟨l, O, h1, h2, h3⟩ := H.obj a _ ha
  cases O <;> simp only [ORel] at h3
  case cells cs e' fr =>
    obtain ⟨lo, hi⟩ := fr
    obtain ⟨h5, h4⟩ := h3
    exact ⟨l, cs, lo, hi, e', h1, h2, h4, h5⟩

theorem HRel.map (H : HRel P R σ h) {a : Nat} {es : List MapEntry} {clock : Nat} (ha : σ.heap.get a = some (.map es clock)) :
    ∃ l es', R.loc a = some l ∧ h[l.block]? = some (.map es' clock) ∧ F2 (ERel R) es es'.toList := by
  obtain ⟨l, O, h1, h2, h3⟩ := H.obj a _ ha
  cases O <;> simp only [ORel] at h3
  case map es' clock' =>
    obtain ⟨h4, rfl⟩ := h3
    exact ⟨l, es', h1, h2, h4⟩

end Go.Ev

/- The operations that write nothing. -/
namespace Go.Ev

variable {P : Program} {R : Ren} {σ : St} {w : World} {tm : Tr Value} {arr : Array Value}

theorem und_eq {t : TypeId} {d : TypeDesc} (h : und P t = .ok d) : P.underlying t = some d := by
  unfold und at h; split at h <;> first | (cases h; assumption) | cases h
theorem tinfo_eq {t : TypeId} {i : TypeInfo} (h : tinfo P t = .ok i) : P.info? t = some i := by
  unfold tinfo at h; split at h <;> first | (cases h; assumption) | cases h

theorem run_und {t : TypeId} {d : TypeDesc} (h : und P t = .ok d) (w : World) : (underlying t).run P w = .ok d w := by
  simp [underlying, und_eq h]
theorem run_tinfo {t : TypeId} {i : TypeInfo} (h : tinfo P t = .ok i) (w : World) : (typeInfo t).run P w = .ok i w := by
  simp [typeInfo, tinfo_eq h]
theorem run_size {t : TypeId} {i : TypeInfo} (h : tinfo P t = .ok i) (w : World) : (sizeOf t).run P w = .ok i.size w := by
  simp [sizeOf, run_tinfo h]
theorem run_isAgg {t : TypeId} {d : TypeDesc} (h : und P t = .ok d) (w : World) : (isAgg t).run P w = .ok (isAggD d) w := by
  cases d <;> simp [isAgg, run_und h, isAggD]
theorem zeroV_eq {t : TypeId} {v : Value} (h : zeroV P t = .ok v) : ∃ i, tinfo P t = .ok i ∧ i.zero = some v ∧ plainV 20 v = true := by
  simp only [zeroV, ok_bind] at h
  obtain ⟨i, hi, h⟩ := h
  split at h
  · split at h
    · simp only [ok_inj] at h; subst h; exact ⟨i, hi, by assumption, by assumption⟩
    · cases h
  · cases h
theorem run_zero {t : TypeId} {v : Value} (h : zeroV P t = .ok v) (w : World) : (zeroValue t).run P w = .ok v w := by
  obtain ⟨i, hi, hz, _⟩ := zeroV_eq h
  simp [zeroValue, run_tinfo hi, hz]
theorem zero_rel {t : TypeId} {v : Value} (h : zeroV P t = .ok v) (R : Ren) : VRel R v v :=
  let ⟨_, _, _, hp⟩ := zeroV_eq h
  plain_rel R 20 v hp

/-! ### addresses and cells -/

def AddrRel (R : Ren) (a ca : Addr) : Prop := ∃ l, R.loc a.block = some l ∧ a.spot = none ∧ ca = ⟨l.block, l.base + a.off, none⟩

theorem VRel.ptr_iff {a : Addr} {c : Value} : VRel R (.pointer (some a)) c ↔ ∃ ca, c = .pointer (some ca) ∧ AddrRel R a ca := by
  constructor
  · intro h
    cases h with
    | ptr b off l hl => exact ⟨_, rfl, l, hl, rfl, rfl⟩
  · rintro ⟨ca, rfl, l, hl, hs, rfl⟩
    obtain ⟨b, off, sp⟩ := a
    simp only at hs; subst hs
    exact .ptr b off l hl

theorem AddrRel.add {a ca : Addr} (h : AddrRel R a ca) (n : Nat) : AddrRel R (addA a n) (ca.add n) := by
  obtain ⟨l, hl, hs, rfl⟩ := h
  by_cases hn : n = 0
  · subst hn; exact ⟨l, by simpa [addA] using hl, by simpa [addA] using hs, by simp [addA, Addr.add]⟩
  · exact ⟨l, by simpa [addA, hn] using hl, by simp [addA, hn], by simp [addA, Addr.add, hn, Nat.add_assoc]⟩

theorem cellsFrom_get (c : Tr Value) (d : List Value) : ∀ (n i j : Nat), (cellsFrom c d i n)[j]? = if j < n then some (getC c d (i + j)) else none
  | 0, i, j => by simp [cellsFrom]
  | n + 1, i, j => by
    cases j with
    | zero => simp [cellsFrom]
    | succ j =>
      simp only [cellsFrom, List.getElem?_cons_succ, cellsFrom_get c d n (i + 1) j]
      simp [Nat.add_assoc, Nat.add_comm 1 j]

theorem cellsFrom_length (c : Tr Value) (d : List Value) : ∀ (n i : Nat), (cellsFrom c d i n).length = n
  | 0, i => rfl
  | n + 1, i => by simp [cellsFrom, cellsFrom_length c d n]

theorem Addr.add_mk (b o j : Nat) : (⟨b, o, none⟩ : Addr).add j = ⟨b, o + j, none⟩ := by
  unfold Addr.add; split <;> simp_all

theorem World.cell_of {w : World} {b : Nat} {cs : Array Value} {e : TypeId} {fr : Nat × Nat} (h : w.heap[b]? = some (.cells cs e fr)) (o : Nat) : w.cell? ⟨b, o, none⟩ = cs[o]? := by
  simp [World.cell?, h]

theorem loadCells_runs {hp : Array Obj} (H : HRel P R σ hp) {a ca : Addr} (ha : AddrRel R a ca) {n : Nat} {vs : List Value} (h : Ev.loadCells σ a n = .ok vs) :
    ∃ cs : Array Value, LRel R vs cs.toList ∧ ∀ w : World, w.heap = hp → (Go.loadCells ca n).run P w = .ok cs w := by
  unfold Ev.loadCells at h
  by_cases hn : n = 0
  · subst hn
    simp only [if_true, ok_inj] at h
    subst h
    exact ⟨#[], LRel.nil R, fun w _ => by simp [Go.loadCells, loadCellsFrom]⟩
  rw [if_neg hn] at h
  simp only [ok_bind] at h
  obtain ⟨o, ho, h⟩ := h
  split at h
  case h_2 => cases h
  rename_i c d m e x fz mk
  split at h
  case isFalse => cases h
  rename_i hb
  simp only [ok_inj] at h
  subst h
  obtain ⟨l, hl, hs, rfl⟩ := ha
  obtain ⟨l', cs, lo, hi, e', h1, h2, h3, _⟩ := H.cells (obj_get ho)
  rw [hl] at h1; cases h1
  have hcell : ∀ j, j < n → ∃ v, cs[l.base + (a.off + j)]? = some v ∧ VRel R (getC c d (a.off + j)) v := fun j hj => h3.cells (a.off + j) (by omega)
  let f : Nat → Value := fun j => (cs[l.base + (a.off + j)]?).getD Go.undef
  have hf : ∀ w : World, w.heap = hp → ∀ j, j < n → w.cell? ((⟨l.block, l.base + a.off, none⟩ : Addr).add j) = some (f j) := fun w hw j hj => by
    obtain ⟨v, hv, _⟩ := hcell j hj
    rw [Addr.add_mk, World.cell_of (by rw [hw]; exact h2), Nat.add_assoc]
    simp [f, hv]
  refine ⟨((List.range n).map f).toArray, ⟨?_, ?_⟩, fun w hw => run_loadCells w _ n f (hf w hw)⟩
  · simp [cellsFrom_length]
  · intro i x y hx hy
    rw [cellsFrom_get] at hx
    by_cases hi : i < n
    · rw [if_pos hi] at hx
      cases hx
      simp only [List.getElem?_map, List.getElem?_range hi, Option.map_some, Option.some.injEq] at hy
      subst hy
      obtain ⟨v, hv, hr⟩ := hcell i hi
      simpa [f, hv] using hr
    · rw [if_neg hi] at hx; cases hx

theorem loadCells_run (H : HRel P R σ w.heap) {a ca : Addr} (ha : AddrRel R a ca) {n : Nat} {vs : List Value} (h : Ev.loadCells σ a n = .ok vs) :
    ∃ cs : Array Value, (Go.loadCells ca n).run P w = .ok cs w ∧ LRel R vs cs.toList :=
  let ⟨cs, h1, h2⟩ := loadCells_runs H ha h
  ⟨cs, h2 w rfl, h1⟩

theorem loadVar_run (H : HRel P R σ w.heap) {a ca : Addr} (ha : AddrRel R a ca) {t : TypeId} {v : Value} (h : Ev.loadVar P σ t a = .ok v) :
    ∃ c, (Go.loadVar t ca).run P w = .ok c w ∧ VRel R v c := by
  simp only [Ev.loadVar, ok_bind] at h
  obtain ⟨d, hd, h⟩ := h
  split at h
  · rename_i hagg
    simp only [ok_bind, ok_inj] at h
    obtain ⟨i, hi, cs, hcs, rfl⟩ := h
    obtain ⟨ds, hr, hl⟩ := loadCells_run H ha hcs
    refine ⟨.agg ds, ?_, VRel.agg_iff.2 ⟨ds, rfl, by simpa using hl⟩⟩
    simp [Go.loadVar, run_isAgg hd, hagg, run_size hi, hr]
  · rename_i hagg
    simp only [ok_bind] at h
    obtain ⟨cs, hcs, h⟩ := h
    split at h
    case h_2 => cases h
    rename_i v' rest
    simp only [ok_inj] at h
    subst h
    unfold Ev.loadCells at hcs
    rw [if_neg (by decide)] at hcs
    simp only [ok_bind] at hcs
    obtain ⟨o, ho, hcs⟩ := hcs
    split at hcs
    case h_2 => cases hcs
    rename_i c d' m e x fz mk
    split at hcs
    case isFalse => cases hcs
    rename_i hb
    simp only [ok_inj, cellsFrom] at hcs
    injection hcs with h1 h2
    subst h1
    obtain ⟨l, hl, hs, rfl⟩ := ha
    obtain ⟨l', ds, lo, hi, e', h4, h5, h6, _⟩ := H.cells (obj_get ho)
    rw [hl] at h4; cases h4
    obtain ⟨u, hu, hr⟩ := h6.cells a.off (by omega)
    refine ⟨u, ?_, hr⟩
    have : w.cell? ⟨l.block, l.base + a.off, none⟩ = some u := by rw [World.cell_of h5]; exact hu
    simp [Go.loadVar, run_isAgg hd, hagg, this]

theorem sureAddr_rel {v c : Value} (hv : VRel R v c) {a : Addr} (h : Ev.sureAddr v = .ok a) : ∃ ca, c = .pointer (some ca) ∧ AddrRel R a ca := by
  unfold Ev.sureAddr at h
  split at h
  · simp only [ok_inj] at h; subst h; exact VRel.ptr_iff.1 hv
  · cases h

theorem asNat_rel {v c : Value} (hv : VRel R v c) {n : Nat} (h : Ev.asNat v = .ok n) : ∃ k, c = .int k n := by
  unfold Ev.asNat at h
  split at h
  · simp only [ok_inj] at h; subst h; cases hv; exact ⟨_, rfl⟩
  · cases h

theorem asBool_rel {v c : Value} (hv : VRel R v c) {b : Bool} (h : Ev.asBool v = .ok b) : c = .bool b := by
  unfold Ev.asBool at h
  split at h
  · simp only [ok_inj] at h; subst h; cases hv; rfl
  · cases h

theorem asInt_rel {v c : Value} (hv : VRel R v c) {n : Int} (h : Ev.asInt v = .ok n) : ∃ k, c = .int k n := by
  unfold Ev.asInt at h
  split at h
  · simp only [ok_inj] at h; subst h; cases hv; exact ⟨_, rfl⟩
  · cases h

/-! ### parts of aggregates -/

theorem part_run {t : TypeId} {cs ds : Array Value} (hc : LRel R cs.toList ds.toList) {off : Nat} {v : Value} (h : Ev.part P t cs off = .ok v) (w : World) :
    ∃ c, (Go.part t ds off).run P w = .ok c w ∧ VRel R v c := by
  simp only [Ev.part, ok_bind] at h
  obtain ⟨d, hd, h⟩ := h
  split at h
  · rename_i hagg
    simp only [ok_bind, ok_inj] at h
    obtain ⟨i, hi, rfl⟩ := h
    refine ⟨.agg (ds.extract off (off + i.size)), by simp [Go.part, run_isAgg hd, hagg, run_size hi], VRel.agg_iff.2 ⟨_, rfl, ?_, ?_⟩⟩
    · have := hc.1
      simp only [Array.length_toList] at this
      simp [this]
    · intro j x y hx hy
      simp only [Array.getElem?_toList, Array.getElem?_extract] at hx hy
      split at hx
      · rename_i hj
        rw [if_pos (by have := hc.1; simp only [Array.length_toList] at this; omega)] at hy
        exact hc.2 (off + j) x y (by simpa using hx) (by simpa using hy)
      · cases hx
  · rename_i hagg
    split at h
    · rename_i v' hv
      simp only [ok_inj] at h; subst h
      obtain ⟨y, hy, hr⟩ := hc.get (i := off) (x := v') (by simpa using hv)
      have hy' : ds[off]? = some y := by simpa using hy
      exact ⟨y, by simp [Go.part, run_isAgg hd, hagg, hy'], hr⟩
    · cases h

end Go.Ev

/- Equality, keys. -/
namespace Go.Ev

variable {P : Program} {R : Ren} {σ : St} {w : World} {tm : Tr Value} {arr : Array Value}

theorem bareAt_open (H : HRel P R σ w.heap) {a ca : Addr} (ha : AddrRel R a ca) (h : bareAt σ a = true) :
    (σ.heap.get a.block).isSome ∧ ∃ cs e lo hi, w.heap[ca.block]? = some (.cells cs e (lo, hi)) ∧ ca.spot = none ∧ ca.off < cs.size ∧ ¬ (lo ≤ ca.off ∧ ca.off < hi) ∧ ¬ (lo ≤ cs.size ∧ cs.size < hi) := by
  unfold bareAt at h
  split at h
  case h_2 => cases h
  rename_i c d n e x fz mk hg
  simp only [Bool.and_eq_true, beq_iff_eq, Bool.not_eq_true', decide_eq_true_eq] at h
  obtain ⟨⟨rfl, rfl⟩, hlt⟩ := h
  obtain ⟨l, hl, hs, rfl⟩ := ha
  obtain ⟨l', cs, lo, hi, e', h1, h2, h3, _⟩ := H.cells hg
  rw [hl] at h1; cases h1
  obtain ⟨v, hv, _⟩ := h3.cells a.off hlt
  have hsz : l.base + a.off < cs.size := (Array.getElem?_eq_some_iff.1 hv).1
  exact ⟨by rw [hg]; rfl, cs, e', lo, hi, h2, rfl, hsz, h3.free _ (by simp only; omega) hsz, h3.mark rfl⟩

theorem sameAddr_diff (w : World) {a b : Addr} (hne : a.block ≠ b.block) {cs ds : Array Value} {e f : TypeId} {lo hi lo' hi' : Nat}
    (ha : w.heap[a.block]? = some (.cells cs e (lo, hi))) (hb : w.heap[b.block]? = some (.cells ds f (lo', hi')))
    (fa : ¬ (lo ≤ a.off ∧ a.off < hi)) (ma : ¬ (lo ≤ cs.size ∧ cs.size < hi)) (fb : ¬ (lo' ≤ b.off ∧ b.off < hi')) (mb : ¬ (lo' ≤ ds.size ∧ ds.size < hi')) :
    (sameAddr a b).run P w = .ok false w := by
  have h0 : (a.block == b.block) = false := by simpa using hne
  have h1 : w.frozen? a = false := by simp only [World.frozen?, ha]; simp only [Bool.and_eq_false_iff, decide_eq_false_iff_not]; omega
  have h2 : w.frozen? b = false := by simp only [World.frozen?, hb]; simp only [Bool.and_eq_false_iff, decide_eq_false_iff_not]; omega
  have h3 : w.shape? a.block = some (e, cs.size) := by simp [World.shape?, ha]
  have h4 : w.shape? b.block = some (f, ds.size) := by simp [World.shape?, hb]
  have h5 : w.frozen? { block := a.block, off := cs.size } = false := by simp only [World.frozen?, ha]; simp only [Bool.and_eq_false_iff, decide_eq_false_iff_not]; omega
  have h6 : w.frozen? { block := b.block, off := ds.size } = false := by simp only [World.frozen?, hb]; simp only [Bool.and_eq_false_iff, decide_eq_false_iff_not]; omega
  simp [sameAddr, h0, h1, h2, noView, viewAt, h3, h4, mayBeOne, stringish, h5, h6]

theorem AddrRel.inj {a b ca cb : Addr} (ha : AddrRel R a ca) (hb : AddrRel R b cb) (hab : a.block = b.block) : ca.block = cb.block ∧ ((ca == cb) = (a.off == b.off)) := by
  obtain ⟨l, hl, _, rfl⟩ := ha
  obtain ⟨l', hl', _, rfl⟩ := hb
  rw [hab, hl'] at hl; cases hl
  refine ⟨rfl, ?_⟩
  rw [Bool.eq_iff_iff]
  simp only [beq_iff_eq, Addr.mk.injEq, true_and, and_true]
  omega

theorem aeqFields_run {eq : TypeId → Value → Value → E Bool} {d : Nat} (heq : ∀ t x y b cx cy, eq t x y = .ok b → VRel R x cx → VRel R y cy → (Op.equalIn d t cx cy).run P w = .ok b w)
    {xs ys cxs cys : Array Value} (hx : LRel R xs.toList cxs.toList) (hy : LRel R ys.toList cys.toList) :
    ∀ (fs : List Field) (b : Bool), aeqFields eq P xs ys fs = .ok b → (Op.eqFields d cxs cys fs).run P w = .ok b w
  | [], b, h => by cases h; simp [Op.eqFields]
  | f :: fs, b, h => by
    simp only [aeqFields] at h
    simp only [Op.eqFields]
    by_cases hn : f.name = "_"
    · rw [if_pos hn] at h
      rw [if_neg (by simpa using hn)]
      exact aeqFields_run heq hx hy fs b h
    · rw [if_neg hn] at h
      rw [if_pos hn]
      simp only [ok_bind] at h
      obtain ⟨a, ha, c, hc, r, hr, h⟩ := h
      obtain ⟨ca, h1, h2⟩ := part_run hx ha w
      obtain ⟨cc, h3, h4⟩ := part_run hy hc w
      have h5 := heq _ _ _ _ _ _ hr h2 h4
      cases r
      · simp only [Bool.false_eq_true, if_false, ok_inj] at h
        subst h
        simp [h1, h3, h5]
      · simp only [if_true] at h
        have := aeqFields_run heq hx hy fs b h
        simp [h1, h3, h5, this]

set_option maxHeartbeats 2000000 in
theorem aeq_run (H : HRel P R σ w.heap) : ∀ (d : Nat) (t : TypeId) (x y : Value) (b : Bool) (cx cy : Value) (d' : Nat), aeq P d σ t x y = .ok b → VRel R x cx → VRel R y cy → d ≤ d' →
    (Op.equalIn d' t cx cy).run P w = .ok b w := by
  intro d
  induction d with
  | zero => intro t x y b cx cy d' h; cases h
  | succ d ih =>
    intro t x y b cx cy d' h hx hy hd
    obtain ⟨d', rfl⟩ : ∃ k, d' = k + 1 := ⟨d' - 1, by omega⟩
    have hd' : d ≤ d' := by omega
    simp only [aeq, ok_bind] at h
    obtain ⟨u, hu, h⟩ := h
    have hru := run_und hu w
    split at h
    · simp only [ok_inj] at h; subst h; cases hx; cases hy; simp [Op.equalIn, hru]
    · split at h
      · simp only [ok_inj] at h; subst h; cases hx; cases hy; simp [Op.equalIn, hru, *]
      · cases h
    · simp only [ok_inj] at h; subst h; cases hx; cases hy; simp [Op.equalIn, hru]
    · simp only [ok_inj] at h; subst h; cases hx; cases hy <;> simp [Op.equalIn, hru]
    · simp only [ok_inj] at h; subst h; cases hx; cases hy; simp [Op.equalIn, hru]
    · simp only [ok_bind] at h
      obtain ⟨i, hi, h⟩ := h
      obtain ⟨ca, rfl, ha⟩ := VRel.ptr_iff.1 hx
      obtain ⟨cb, rfl, hb⟩ := VRel.ptr_iff.1 hy
      split at h
      · cases h
      rename_i hsz
      split at h
      · rename_i hbl
        split at h
        case isFalse => cases h
        simp only [ok_inj] at h; subst h
        obtain ⟨h1, h2⟩ := ha.inj hb hbl
        simp [Op.equalIn, hru, run_size hi, hsz, sameAddr, h1, h2]
      · rename_i hbl
        split at h
        case isFalse => cases h
        rename_i hba
        simp only [ok_inj] at h; subst h
        simp only [Bool.and_eq_true] at hba
        obtain ⟨sa, cs, e, lo, hi', h1, h2, h3, h4, h5⟩ := bareAt_open H ha hba.1
        obtain ⟨sb, ds, f, lo', hi'', h6, h7, h8, h9, h10⟩ := bareAt_open H hb hba.2
        have hne : ca.block ≠ cb.block := fun e => by
          obtain ⟨l, hl, _, rfl⟩ := ha
          obtain ⟨l', hl', _, rfl⟩ := hb
          exact hbl (H.inj _ _ _ _ sa sb hl hl' e)
        simp [Op.equalIn, hru, run_size hi, hsz, sameAddr_diff w hne h1 h6 h4 h5 h9 h10]
    · simp only [ok_inj] at h; subst h; cases hx; cases hy; simp [Op.equalIn, hru]
    · simp only [ok_inj] at h; subst h; cases hx; cases hy; simp [Op.equalIn, hru]
    · simp only [ok_inj] at h; subst h; cases hx; cases hy; simp [Op.equalIn, hru]
    · cases hx; cases hy
      split at h
      · simp only [ok_inj] at h; subst h
        simp [Op.equalIn, hru, *]
      · rename_i hne
        simp only [ok_bind] at h
        obtain ⟨i, hi, h⟩ := h
        split at h
        case isFalse => cases h
        rename_i hc
        rename_i v1 _ v2 _
        have := ih _ _ _ b _ _ d' h ‹_› ‹_› hd'
        simp only [ne_eq, Decidable.not_not] at hne
        subst hne
        simp [Op.equalIn, hru, run_tinfo hi, hc, this]
    · obtain ⟨cxs, rfl, hxs⟩ := VRel.agg_iff.1 hx
      obtain ⟨cys, rfl, hys⟩ := VRel.agg_iff.1 hy
      split at h
      · cases h
      rename_i fields _ _ hst
      have hun := und_eq hu
      have hf : P.fieldsOf t = fields := by simp [Program.fieldsOf, hun]
      rw [run_equalIn_struct w d' t cxs cys (by rw [hf]; exact hun) (by simpa using hst), hf]
      exact aeqFields_run (fun t x y b cx cy h1 h2 h3 => ih t x y b cx cy d' h1 h2 h3 hd') hxs hys _ b h
    · simp only [ok_inj] at h; subst h; cases hx; cases hy <;> simp [Op.equalIn, hru]
    · simp only [ok_inj] at h; subst h; cases hx <;> cases hy <;> simp [Op.equalIn, hru]
    · simp only [ok_inj] at h; subst h; cases hx; cases hy <;> simp [Op.equalIn, hru]
    · simp only [ok_inj] at h; subst h; cases hx; cases hy; simp [Op.equalIn, hru]
    · simp only [ok_inj] at h; subst h; cases hx; cases hy; simp [Op.equalIn, hru]
    · simp only [ok_inj] at h; subst h; cases hx; cases hy; simp [Op.equalIn, hru]
    · simp only [ok_inj] at h; subst h; cases hx; cases hy; simp [Op.equalIn, hru]
    · cases h

end Go.Ev

/- Binary operations; keys of maps. -/
namespace Go.Ev

variable {P : Program} {R : Ren} {σ : St} {w : World} {tm : Tr Value} {arr : Array Value}

theorem aeqBin_run (H : HRel P R σ w.heap) {op : BinOp} {t : TypeId} {a b ca cb v : Value} (ha : VRel R a ca) (hb : VRel R b cb) (h : aeqBin P σ op t a b = .ok v)
    (h1 : Go.binOp .eql t ca cb = (do pure (.bool (← Op.equal t ca cb)))) (h2 : Go.binOp .neq t ca cb = (do pure (.bool (!(← Op.equal t ca cb))))) :
    (op = .eql ∨ op = .neq) ∧ (Go.binOp op t ca cb).run P w = .ok v w ∧ VRel R v v := by
  simp only [aeqBin, ok_bind] at h
  obtain ⟨r, hr, h⟩ := h
  have hq := aeq_run H 100 t a b r ca cb Op.maxDepth hr ha hb (by decide)
  split at h
  · simp only [ok_inj] at h; subst h
    exact ⟨.inl rfl, by rw [h1]; simp [Op.equal, hq], .bool _⟩
  · simp only [ok_inj] at h; subst h
    exact ⟨.inr rfl, by rw [h2]; simp [Op.equal, hq], .bool _⟩
  · cases h

theorem pureOf_eq {s : Sem Value} {v : Value} (h : pureOf s = .ok v) : s = .pure v := by
  cases s <;> simp [pureOf] at h
  subst h; rfl

set_option maxHeartbeats 1000000 in
theorem intOp_rel {op : BinOp} {t : TypeId} {k k' : IntKind} {a b : Int} {v : Value} (h : Go.binOp op t (.int k a) (.int k' b) = .pure v) (R : Ren) : VRel R v v := by
  cases op <;> simp only [Go.binOp, Op.intArith, Op.intDiv, Op.intBits, Op.intCmp, Op.shift, runtimePanic, stuck, pure] at h <;> (repeat' split at h) <;>
    first
    | (cases h; first | exact .int _ _ | exact .bool _)
    | (simp [bind, Sem.bind, program, goPanic] at h; done)
    | (cases h; done)
    | skip

theorem strOp_rel {op : BinOp} {t : TypeId} {a b : ByteArray} {v : Value} (h : Go.binOp op t (.string a) (.string b) = .pure v) (R : Ren) : VRel R v v := by
  cases op <;> simp only [Go.binOp, Op.stringOp, stuck, unsupported, pure] at h <;> (repeat' split at h) <;>
    first
    | (cases h; first | exact .string _ | exact .bool _)
    | (cases h; done)

theorem unary_rel {op : UnOp} {a v : Value} (ha : (∃ k n, a = .int k n) ∨ ∃ b, a = .bool b) (h : Op.unary op a = .pure v) (R : Ren) : VRel R v v := by
  rcases ha with ⟨k, n, rfl⟩ | ⟨b, rfl⟩
  · cases op <;> simp only [Op.unary, Op.intArith, Op.intBits, stuck, pure] at h <;> first | (cases h; exact .int _ _) | (cases h; done)
  · cases op <;> simp only [Op.unary, stuck, pure] at h <;> first | (cases h; exact .bool _) | (cases h; done)

theorem eqGuard_l (op : BinOp) (t : TypeId) (x y : Operand) (a b : Value) (h1 : a ≠ .nilIface) (h2 : ∀ xs, a ≠ .agg xs) (w : World) : (eqGuard op t x y a b).run P w = .ok () w := by
  unfold eqGuard
  split <;> cases a <;> first
    | exact absurd rfl h1
    | exact absurd rfl (h2 _)
    | simp

theorem eqGuard_n (op : BinOp) (t : TypeId) (x y : Operand) (u : TypeId) (b : Value) (w : World) : (eqGuard op t x y .nilIface (.iface u b)).run P w = .ok () w := by
  unfold eqGuard
  split <;> simp

theorem eqGuardIn_nil (d : Nat) {t : TypeId} {ms : Array (String × TypeId)} (h : (underlying t).run P w = .ok (.interface ms) w) : (Op.eqGuardIn (d + 1) t .nilIface .nilIface).run P w = .ok (!ms.isEmpty) w := by
  simp only [Op.eqGuardIn, Sem.run_bind, h, Result.andThen_ok, Sem.run_pure]

set_option maxHeartbeats 1000000 in
theorem abin_run (H : HRel P R σ w.heap) {op : BinOp} {t : TypeId} {x y : Operand} {a b ca cb v : Value} (ha : VRel R a ca) (hb : VRel R b cb) (h : abin P σ op t x y a b = .ok v) :
    (do eqGuard op t x y ca cb; Go.binOp op t ca cb : Sem Value).run P w = .ok v w ∧ VRel R v v := by
  unfold abin at h
  split at h
  · cases ha; cases hb
    have hp := pureOf_eq h
    refine ⟨?_, intOp_rel hp R⟩
    simp [eqGuard_l, hp]
  · cases ha; cases hb
    have hp := pureOf_eq h
    refine ⟨?_, strOp_rel hp R⟩
    simp [eqGuard_l, hp]
  · cases ha; cases hb
    simp only [ok_bind] at h
    obtain ⟨u, hu, h⟩ := h
    split at h
    case h_2 => cases h
    rename_i ms
    split at h
    case isFalse => cases h
    rename_i hc
    obtain ⟨ho, hr, hv⟩ := aeqBin_run H .nilIface .nilIface h (by simp [Go.binOp]) (by simp [Go.binOp])
    refine ⟨?_, hv⟩
    have hg : (eqGuard op t x y .nilIface .nilIface).run P w = .ok () w := by
      have hin : (Op.eqGuardIn Op.maxDepth t .nilIface .nilIface).run P w = .ok (!ms.isEmpty) w := eqGuardIn_nil 9999 (run_und hu w)
      cases x <;> cases y <;> rcases ho with rfl | rfl <;> simp_all [eqGuard, isConst]
    simp [hg, hr]
  · obtain ⟨cxs, rfl, hxs⟩ := VRel.agg_iff.1 ha
    obtain ⟨cys, rfl, hys⟩ := VRel.agg_iff.1 hb
    split at h
    · cases h
    rename_i hm
    obtain ⟨ho, hr, hv⟩ := aeqBin_run H ha hb h (by simp [Go.binOp]) (by simp [Go.binOp])
    refine ⟨?_, hv⟩
    rw [Sem.run_bind, run_eqGuard_agg w op t x y cxs cys (by simpa using hm)]
    simpa using hr
  all_goals first
    | (cases h; done)
    | (have ha' := ha; have hb' := hb
       cases ha <;> cases hb <;>
        (obtain ⟨ho, hr, hv⟩ := aeqBin_run H ha' hb' h (by simp [Go.binOp]) (by simp [Go.binOp])
         exact ⟨by first | (simp [eqGuard_l, hr]; done) | (simp [eqGuard_n, hr]; done), hv⟩))

/-! ### keys -/

theorem akey_run : ∀ (d : Nat) (t : TypeId) (v c : Value) (d' : Nat) (empty : Bool), akey P d t v = .ok () → VRel R v c → d ≤ d' → (Instr.checkKey empty d' t c).run P w = .ok () w := by
  intro d
  induction d with
  | zero => intro t v c d' empty h; cases h
  | succ d ih =>
    intro t v c d' empty h hv hd
    obtain ⟨d', rfl⟩ : ∃ k, d' = k + 1 := ⟨d' - 1, by omega⟩
    simp only [akey, ok_bind] at h
    obtain ⟨u, hu, h⟩ := h
    have hru := run_und hu w
    split at h
    · cases hv; simp [Instr.checkKey, hru]
    · cases hv; simp [Instr.checkKey, hru]
    · cases hv; simp [Instr.checkKey, hru]
    · rename_i fields cs
      obtain ⟨ds, rfl, hl⟩ := VRel.agg_iff.1 hv
      simp only [Instr.checkKey, Sem.run_bind, hru, Result.andThen_ok]
      rw [← Array.forIn_toList]
      generalize fields.toList = fs at h
      clear hru hu hv
      have : ∀ fs : List Field, akeyFields (akey P d) P cs fs = .ok () →
          (forIn fs PUnit.unit (fun f r => do
            if f.name ≠ "_" then do
              let a ← Go.part f.type ds f.offset
              Instr.checkKey empty d' f.type a
              pure (ForInStep.yield PUnit.unit)
            else pure (ForInStep.yield PUnit.unit) : Field → PUnit → Sem (ForInStep PUnit))).run P w = .ok PUnit.unit w := by
        intro fs
        induction fs with
        | nil => intro _; simp
        | cons f fs ihf =>
          intro h
          simp only [akeyFields] at h
          by_cases hn : f.name = "_"
          · rw [if_pos hn] at h; cases h
          · rw [if_neg hn] at h
            simp only [ok_bind] at h
            obtain ⟨a, ha, ⟨⟩, hk, h⟩ := h
            obtain ⟨c, h1, h2⟩ := part_run hl ha w
            have h3 := ih _ _ _ d' empty hk h2 (by omega)
            simp [List.forIn_cons, hn, h1, h3]
            simpa using ihf h
      have h9 := this fs h
      simp at h9 ⊢
      rw [h9]
      rfl
    · cases h

theorem sameNow_aeq {t : TypeId} {u : TypeDesc} (hu : und P t = .ok u) {x y cx cy : Value} {b b' : Bool} {d : Nat} (h : aeq P (d + 1) σ t x y = .ok b) (hx : VRel R x cx) (hy : VRel R y cy)
    (hs : Instr.sameNow u cx cy = some b') : b' = b := by
  simp only [aeq, ok_bind] at h
  obtain ⟨u', hu', h⟩ := h
  rw [hu] at hu'; cases hu'
  unfold Instr.sameNow at hs
  split at hs
  · cases hx <;> cases hy <;> first | (simp at h; done) | skip
    all_goals
      split at hs
      · rename_i hkk
        simp only [Option.some.injEq] at hs; subst hs
        simp only at h
        rw [if_pos hkk] at h
        simpa using h
      · cases hs
  · cases hx <;> cases hy <;> first | (simp at h; done) | skip
    all_goals
      simp only [Option.some.injEq] at hs; subst hs
      simpa using h
  · cases hx <;> cases hy <;> first | (simp at h; done) | skip
    all_goals
      simp only [Option.some.injEq] at hs; subst hs
      simpa using h
  · cases hs

/-- what was found, related -/
def FoundRel (R : Ren) : Option (Nat × Value) → Option (Nat × Value) → Prop
  | none, none => True
  | some (i, v), some (j, c) => j = i ∧ VRel R v c
  | _, _ => False

theorem findAsking_run (H : HRel P R σ w.heap) {t : TypeId} {u : TypeDesc} (hu : und P t = .ok u) {k ck : Value} (hk : VRel R k ck) :
    ∀ (es es' : List MapEntry) (i : Nat) (r : Option (Nat × Value)), Ev.findKey P σ t k es i = .ok r → F2 (ERel R) es es' →
      ∃ r', (Instr.findAsking t ck es' i).run P w = .ok r' w ∧ FoundRel R r r' ∧ (∀ x, Instr.findNow u ck es' i = some x → x = r') := by
  intro es
  induction es with
  | nil =>
    intro es' i r h hf
    have := hf.of_nil; subst this
    cases h
    exact ⟨none, by simp [Instr.findAsking], trivial, fun x hx => by simpa [Instr.findNow] using hx.symm⟩
  | cons e es ih =>
    intro es' i r h hf
    obtain ⟨e', es', rfl, he, hf'⟩ := hf.of_cons
    simp only [Ev.findKey, ok_bind] at h
    obtain ⟨b, hb, h⟩ := h
    have hq := aeq_run H 100 t k e.key b ck e'.key Op.maxDepth hb hk he.key (by decide)
    have hnow : ∀ b', Instr.sameNow u ck e'.key = some b' → b' = b := fun b' hb' => sameNow_aeq (d := 99) hu hb hk he.key hb'
    cases b
    · simp only [Bool.false_eq_true, if_false] at h
      obtain ⟨r', h1, h2, h3⟩ := ih es' (i + 1) r h hf'
      refine ⟨r', by simp [Instr.findAsking, Op.equal, hq, h1], h2, fun x hx => ?_⟩
      simp only [Instr.findNow] at hx
      split at hx
      · have := hnow true (by assumption); cases this
      · exact h3 x hx
      · cases hx
    · simp only [if_true, ok_inj] at h
      subst h
      refine ⟨some (i, e'.val), by simp [Instr.findAsking, Op.equal, hq], ⟨rfl, he.val⟩, fun x hx => ?_⟩
      simp only [Instr.findNow] at hx
      split at hx
      · simpa using hx.symm
      · have := hnow false (by assumption); cases this
      · cases hx

theorem findKey_run (H : HRel P R σ w.heap) {t : TypeId} {u : TypeDesc} (hu : und P t = .ok u) {k ck : Value} (hk : VRel R k ck) {es es' : List MapEntry} {r : Option (Nat × Value)} (h : Ev.findKey P σ t k es 0 = .ok r) (hf : F2 (ERel R) es es') :
    ∃ r', (Instr.findKey t ck es').run P w = .ok r' w ∧ FoundRel R r r' := by
  obtain ⟨r', h1, h2, h3⟩ := findAsking_run H hu hk es es' 0 r h hf
  refine ⟨r', ?_, h2⟩
  simp only [Instr.findKey, Sem.run_bind, run_und hu, Result.andThen_ok]
  split
  · rename_i x hx
    rw [h3 x hx]; simp
  · exact h1

theorem akey_und {d : Nat} {t : TypeId} {v : Value} (h : akey P d t v = .ok ()) : ∃ u, und P t = .ok u := by
  cases d with
  | zero => cases h
  | succ d =>
    simp only [akey, ok_bind] at h
    exact ⟨h.choose, h.choose_spec.1⟩

end Go.Ev

/- The operations that write nothing, one by one. -/
namespace Go.Ev

variable {P : Program} {R : Ren} {σ : St} {w : World} {tm : Tr Value} {arr : Array Value}

/-- what such an operation yields: a value; a value in one new block; a value that names a place without a block -/
def FVRel (P : Program) (R : Ren) (w w' : World) (c : Value) : FV → Prop
  | .val v => w'.heap = w.heap ∧ VRel R v c
  | .new mk o => ∃ O cap, w'.heap = w.heap.push O ∧ ∀ n, R.loc n = none → ORel P (R.add n ⟨w.heap.size, 0, cap⟩) ⟨w.heap.size, 0, cap⟩ o O ∧ VRel (R.add n ⟨w.heap.size, 0, cap⟩) (mk n) c
  | .dead mk => w'.heap = w.heap ∧ ∃ l, ∀ n, R.loc n = none → VRel (R.add n l) (mk n) c

def FltOk (P : Program) (R : Ren) (w : World) (s : Sem Value) (f : FV) : Prop := ∃ c w', s.run P w = .ok c w' ∧ WKeep w w' ∧ FVRel P R w w' c f

theorem FltOk.val {s : Sem Value} {v c : Value} (h : s.run P w = .ok c w) (hv : VRel R v c) : FltOk P R w s (.val v) := ⟨c, w, h, .refl w, rfl, hv⟩

/-! ### new rows -/

theorem setCells_get (vs : List Value) : ∀ (c : Tr Value) (i j : Nat), (setCells c i vs).get j = if i ≤ j ∧ j < i + vs.length then vs[j - i]? else c.get j := by
  induction vs with
  | nil => intro c i j; simp [setCells]; omega
  | cons v vs ih =>
    intro c i j
    rw [setCells, ih, Tr.get_set]
    by_cases h : i = j
    · subst h
      rw [if_neg (fun hh => by have := hh.1; omega)]
      simp
    · by_cases h1 : i + 1 ≤ j ∧ j < i + 1 + vs.length
      · rw [if_pos h1, if_pos (by simp only [List.length_cons]; omega)]
        have : j - i = (j - (i + 1)) + 1 := by omega
        rw [this, List.getElem?_cons_succ]
      · rw [if_neg h1, if_neg (by omega), if_neg (by simp only [List.length_cons]; omega)]

theorem getC_setCells (c : Tr Value) (d : List Value) (i : Nat) (vs : List Value) (j : Nat) : getC (setCells c i vs) d j = if i ≤ j ∧ j < i + vs.length then (vs[j - i]?).getD Go.undef else getC c d j := by
  unfold getC
  rw [setCells_get]
  by_cases h : i ≤ j ∧ j < i + vs.length
  · rw [if_pos h, if_pos h]
    have : j - i < vs.length := by omega
    rw [List.getElem?_eq_getElem this]; rfl
  · rw [if_neg h, if_neg h]

/-- a row out of a list: the first cells of the concrete row are that list's -/
theorem row_rel {e : TypeId} {vs pre rest : List Value} {cs : Array Value} {l : Loc} {ext mk : Bool} {lo hi : Nat} (hb : l.base = 0) (hv : LRel R vs pre) (hcs : cs.toList = pre ++ rest)
    (hx : ext = true → vs.length ≤ l.cap * P.cellsOf e ∧ l.cap * P.cellsOf e ≤ cs.size) (hf : ∀ j, j < cs.size → ¬ (lo ≤ j ∧ j < hi)) (hm : mk = false → ¬ (lo ≤ cs.size ∧ cs.size < hi)) :
    CellsRel P R l (setCells .nil 0 vs) [Go.undef] vs.length e ext 0 mk cs lo hi := by
  refine ⟨fun i hi => ?_, fun h => ?_, fun j _ hj => hf j hj, hm⟩
  · rw [getC_setCells, if_pos (by omega), Nat.sub_zero, hb, Nat.zero_add]
    have hi' : vs[i]? = some vs[i] := List.getElem?_eq_getElem hi
    obtain ⟨y, hy, hr⟩ := hv.get hi'
    refine ⟨y, ?_, by rw [hi']; exact hr⟩
    rw [← Array.getElem?_toList, hcs]
    rw [List.getElem?_append_left (List.getElem?_eq_some_iff.1 hy).1]; exact hy
  · rw [hb, Nat.zero_add]; exact hx h

theorem newVar_ok (t : TypeId) {v c : Value} (hv : VRel R v c) : FltOk P R w (do pure (.pointer (some (← newVar t c)))) (.new ptrTo (rowOf t v.cells.toList false false)) := by
  refine ⟨.pointer (some ⟨w.heap.size, 0, none⟩), { w with heap := w.heap.push (.cells c.cells t) }, by simp [newVar, newRow], ⟨rfl, rfl, rfl⟩, .cells c.cells t, 0, rfl, fun n hn => ⟨?_, ?_⟩⟩
  · have hle := Ren.le_add hn ⟨w.heap.size, 0, 0⟩
    refine ⟨.inl rfl, row_rel (pre := c.cells.toList) (rest := []) rfl (hv.cells.mono hle) (by simp) (by simp) ?_ ?_⟩
    · intro j _; omega
    · intro _; omega
  · have := VRel.ptr (R := R.add n ⟨w.heap.size, 0, 0⟩) n 0 ⟨w.heap.size, 0, 0⟩ (Ren.add_loc _ _ _)
    simpa [ptrTo] using this

/-! ### aggregates -/

theorem run_mapM {α β : Type} {f : α → Sem β} {g : α → β} (w : World) : ∀ (l : List α), (∀ x ∈ l, (f x).run P w = .ok (g x) w) → (l.mapM f).run P w = .ok (l.map g) w
  | [], _ => by simp
  | x :: l, h => by
    rw [List.mapM_cons]
    simp [h x (by simp), run_mapM w l (fun y hy => h y (by simp [hy]))]

theorem placesOf_run : ∀ (fs : List Field) (ps : List (Nat × Nat)), placesOf P fs = .ok ps → ∀ w : World, (fs.mapM fun f => do pure (f.offset, ← sizeOf f.type) : Sem (List (Nat × Nat))).run P w = .ok ps w
  | [], ps, h, w => by cases h; simp
  | f :: fs, ps, h, w => by
    simp only [placesOf, ok_bind, ok_inj] at h
    obtain ⟨i, hi, r, hr, rfl⟩ := h
    rw [List.mapM_cons]
    have h2 := placesOf_run fs r hr w
    simp at h2
    simp [run_size hi, h2]

def PartsRel (R : Ren) : List (Nat × Value) → List (Nat × Value) → Prop := F2 fun p q => p.1 = q.1 ∧ VRel R p.2 q.2

theorem foldl_set_rel {off : Nat} : ∀ (vs cs : List Value) (k : Nat) (A C : Array Value), LRel R vs cs → LRel R A.toList C.toList →
    LRel R ((vs.zipIdx k).foldl (fun a (p : Value × Nat) => a.setIfInBounds (off + p.2) p.1) A).toList ((cs.zipIdx k).foldl (fun a (p : Value × Nat) => a.setIfInBounds (off + p.2) p.1) C).toList
  | [], cs, k, A, C, h, hA => by have := h.of_nil; subst this; simpa using hA
  | v :: vs, cs, k, A, C, h, hA => by
    obtain ⟨c, cs, rfl, h1, h2⟩ := h.of_cons
    simp only [List.zipIdx_cons, List.foldl_cons]
    refine foldl_set_rel vs cs (k + 1) _ _ h2 ⟨by simpa using hA.1, fun i x y hx hy => ?_⟩
    simp only [Array.toList_setIfInBounds] at hx hy
    by_cases hi : off + k = i
    · subst hi
      rw [List.getElem?_set] at hx hy
      simp only [if_true] at hx hy
      split at hx
      · split at hy
        · cases hx; cases hy; exact h1
        · cases hy
      · cases hx
    · rw [List.getElem?_set_ne hi] at hx hy
      exact hA.2 i x y hx hy

theorem fill_rel (place : Nat → Option (Nat × Nat)) : ∀ (ps qs : List (Nat × Value)) (A C A' : Array Value), PartsRel R ps qs → LRel R A.toList C.toList → Instr.fill place A ps = some A' →
    ∃ C', Instr.fill place C qs = some C' ∧ LRel R A'.toList C'.toList
  | [], qs, A, C, A', h, hA, hf => by
    have := h.of_nil; subst this
    simp only [Instr.fill, Option.some.injEq] at hf; subst hf
    exact ⟨C, rfl, hA⟩
  | (i, v) :: ps, qs, A, C, A', h, hA, hf => by
    obtain ⟨⟨j, c⟩, qs, rfl, ⟨h1, h2⟩, h3⟩ := h.of_cons
    simp only at h1 h2; subst h1
    simp only [Instr.fill] at hf ⊢
    cases hp : place i with
    | none => rw [hp] at hf; cases hf
    | some p =>
      obtain ⟨off, size⟩ := p
      rw [hp] at hf
      simp only at hf ⊢
      have hc := h2.cells
      have hsz : c.cells.size = v.cells.size := by have := hc.1; simpa using this.symm
      have hAs : C.size = A.size := by have := hA.1; simpa using this.symm
      rw [hsz, hAs]
      split at hf
      · cases hf
      · rename_i hcond
        rw [if_neg hcond]
        refine fill_rel place ps qs _ _ A' h3 ?_ hf
        have := foldl_set_rel (R := R) (off := off) v.cells.toList c.cells.toList 0 A C hc hA
        rw [← Array.foldl_toList, ← Array.foldl_toList]
        simpa [Array.toList_zipIdx] using this

theorem parts_rel (hg : Glob R) (ht : TRel R tm arr) : ∀ (xs : List (Nat × Operand)) (ps : List (Nat × Value)), parts tm xs = .ok ps → PartsRel R ps (xs.map fun x => (x.1, ceval arr x.2))
  | [], ps, h => by cases h; exact F2.nil
  | (i, x) :: xs, ps, h => by
    simp only [parts, ok_bind, ok_inj] at h
    obtain ⟨v, hv, vs, hvs, rfl⟩ := h
    exact F2.cons ⟨rfl, opd_rel hg ht hv⟩ (parts_rel hg ht xs vs hvs)

theorem build_run (hg : Glob R) (ht : TRel R tm arr) {t : TypeId} {ps : Array (Nat × Operand)} {v : Value} (h : aBuild P tm t ps = .ok v) (w : World) :
    ∃ c, (Instr.build t (ps.map fun x => (x.1, ceval arr x.2))).run P w = .ok c w ∧ VRel R v c := by
  simp only [aBuild, ok_bind] at h
  obtain ⟨qs, hq, z, hz, u, hu, h⟩ := h
  have hp := parts_rel hg ht _ _ hq
  have hpl : (ps.map fun x => (x.1, ceval arr x.2)).toList = ps.toList.map fun x => (x.1, ceval arr x.2) := by simp
  have hzz := (zero_rel hz R).cells
  split at h
  · rename_i fields
    simp only [ok_bind] at h
    obtain ⟨places, hpl', h⟩ := h
    split at h
    case h_2 => cases h
    rename_i cells hfill
    simp only [ok_inj] at h; subst h
    obtain ⟨C, hC, hr⟩ := fill_rel (R := R) _ _ _ _ _ _ hp hzz hfill
    refine ⟨.agg C, ?_, VRel.agg_iff.2 ⟨C, rfl, hr⟩⟩
    have h1 := placesOf_run fields.toList places hpl' w
    simp only [Instr.build, Sem.run_bind, run_zero hz, Result.andThen_ok, run_und hu, Array.mapM_eq_mapM_toList, Sem.run_map]
    simp only [bind_pure_comp] at h1 ⊢
    rw [h1]
    simp only [Result.andThen_ok, hpl, hC]
    rfl
  · rename_i elem
    simp only [ok_bind] at h
    obtain ⟨i, hi, h⟩ := h
    split at h
    case h_2 => cases h
    rename_i cells hfill
    simp only [ok_inj] at h; subst h
    obtain ⟨C, hC, hr⟩ := fill_rel (R := R) _ _ _ _ _ _ hp hzz hfill
    refine ⟨.agg C, ?_, VRel.agg_iff.2 ⟨C, rfl, hr⟩⟩
    simp only [Instr.build, Sem.run_bind, run_zero hz, Result.andThen_ok, run_und hu, run_size hi, hpl, hC]
    rfl
  · cases h

end Go.Ev

/- Slices. -/
namespace Go.Ev

variable {P : Program} {R : Ren} {σ : St} {w : World} {tm : Tr Value} {arr : Array Value}

theorem optNat_rel {v : Option Value} {cv : Option Value} (hv : ORelV R v cv) {d n : Nat} (h : optNat v d = .ok n) : (cv = none ∧ n = d) ∨ ∃ k, cv = some (.int k n) := by
  cases v with
  | none =>
    cases cv with
    | none => simp only [optNat, ok_inj] at h; exact .inl ⟨rfl, h.symm⟩
    | some c => exact hv.elim
  | some v =>
    cases cv with
    | none => exact hv.elim
    | some c =>
      obtain ⟨k, rfl⟩ := asNat_rel hv h
      exact .inr ⟨k, rfl⟩

theorem sliceBound_run (k : IntKind) (n y : Nat) (code : BoundsCode) (h : n ≤ y) (w : World) : (Instr.sliceBound (.int k n) y code).run P w = .ok n w := by
  simp [Instr.sliceBound, asIntOf, h]

/-- the bounds, where they fit -/
theorem sliceBounds_run (isSlice : Bool) (len cap : Nat) {low high max : Option Value} {l h m : Nat}
    (hl : (low = none ∧ l = 0) ∨ ∃ k, low = some (.int k l)) (hh : (high = none ∧ max = none ∧ h = len) ∨ ∃ k, high = some (.int k h)) (hm : (max = none ∧ m = cap) ∨ ∃ k, max = some (.int k m))
    (h1 : m ≤ cap) (h2 : h ≤ m) (h3 : l ≤ h) (w : World) : (Instr.sliceBounds isSlice len cap low high max).run P w = .ok (l, h, m) w := by
  rcases hm with ⟨rfl, rfl⟩ | ⟨k1, rfl⟩ <;> rcases hh with ⟨rfl, h4, rfl⟩ | ⟨k2, rfl⟩ <;> rcases hl with ⟨rfl, rfl⟩ | ⟨k3, rfl⟩ <;>
    first
    | (cases h4; done)
    | simp [Instr.sliceBounds, sliceBound_run, h1, h2, h3]

theorem ORelV.none_iff {v cv : Option Value} (h : ORelV R v cv) : v = none ↔ cv = none := by
  cases v <;> cases cv <;> simp [ORelV] at h ⊢

/-- a slice value, opened: its concrete capacity is at least what is surely there -/
theorem capLow_rel (H : HRel P R σ w.heap) {elem : TypeId} {a : Option Addr} {n cap : Nat} {c : Value} (hv : VRel R (.slice a n cap) c) {lo : Nat} (h : capLow P σ elem a cap = .ok lo) :
    ∃ ca ccap, c = .slice ca n ccap ∧ lo ≤ ccap ∧ (cap < BIG → lo = cap ∧ ccap = cap) ∧
      ((a = none ∧ ca = none ∧ cap < BIG) ∨ ∃ x cx, a = some x ∧ ca = some cx ∧ AddrRel R x cx ∧ (BIG ≤ cap → ∃ l, R.loc x.block = some l ∧ ccap + (cap - BIG) = l.cap)) := by
  unfold capLow at h
  cases hv with
  | nilSlice n cap =>
    split at h
    · simp only [ok_inj] at h; subst h
      exact ⟨none, cap, rfl, Nat.le_refl _, fun _ => ⟨rfl, rfl⟩, .inl ⟨rfl, rfl, by assumption⟩⟩
    · cases h
  | slice b off l n cap hl hc =>
    rw [if_pos hc] at h
    simp only [ok_inj] at h; subst h
    exact ⟨_, cap, rfl, Nat.le_refl _, fun _ => ⟨rfl, rfl⟩, .inr ⟨_, _, rfl, rfl, ⟨l, hl, rfl, rfl⟩, fun hb => by omega⟩⟩
  | openSl b off l n c ccap hl hc =>
    rw [if_neg (by omega)] at h
    simp only [ok_bind] at h
    obtain ⟨o, ho, h⟩ := h
    split at h
    case h_2 => cases h
    rename_i x1 x2 nn e x3 x4
    simp only [ok_bind] at h
    obtain ⟨i, hi, h⟩ := h
    split at h
    case isFalse => cases h
    rename_i hsz
    simp only [ok_inj] at h; subst h
    obtain ⟨l', cs, lo, hi', e', h1, h2, h3, _⟩ := H.cells (obj_get ho)
    rw [hl] at h1; cases h1
    have := (h3.ext rfl).1
    rw [hsz] at this
    have h4 : nn / i.size ≤ l.cap := Nat.div_le_of_le_mul (by rw [Nat.mul_comm]; exact this)
    exact ⟨_, ccap, rfl, by omega, fun hb => by omega, .inr ⟨_, _, rfl, rfl, ⟨l, hl, rfl, rfl⟩, fun _ => ⟨l, hl, by omega⟩⟩⟩

theorem VRel.slice_mk {x cx : Addr} (ha : AddrRel R x cx) {n cap : Nat} (hc : cap < BIG) : VRel R (.slice (some x) n cap) (.slice (some cx) n cap) := by
  obtain ⟨l, hl, hs, rfl⟩ := ha
  obtain ⟨b, off, sp⟩ := x
  simp only at hs; subst hs
  exact .slice b off l n cap hl hc

theorem VRel.open_mk {x cx : Addr} (ha : AddrRel R x cx) {l : Loc} (hl : R.loc x.block = some l) {n c ccap : Nat} (hc : ccap + c = l.cap) : VRel R (.slice (some x) n (BIG + c)) (.slice (some cx) n ccap) := by
  obtain ⟨l', hl', hs, rfl⟩ := ha
  obtain ⟨b, off, sp⟩ := x
  simp only at hs; subst hs
  simp only at hl hl'
  rw [hl] at hl'; cases hl'
  exact .openSl b off l n c ccap hl hc

theorem asliceSlice_run (H : HRel P R σ w.heap) {t elem : TypeId} (ht : und P t = .ok (.slice elem)) {a : Option Addr} {len cap : Nat} {c : Value} (hv : VRel R (.slice a len cap) c)
    {low high max clow chigh cmax : Option Value} (h1 : ORelV R low clow) (h2 : ORelV R high chigh) (h3 : ORelV R max cmax) {f : FV} (h : asliceSlice P σ elem a len cap low high max = .ok f) :
    FltOk P R w (Instr.sliceAt t c clow chigh cmax) f := by
  simp only [asliceSlice, ok_bind] at h
  obtain ⟨lo, hlo, i, hi, h⟩ := h
  obtain ⟨ca, ccap, rfl, hle, hcl, hcase⟩ := capLow_rel H hv hlo
  have hrun : ∀ l h m, (Instr.sliceBounds true len ccap clow chigh cmax).run P w = .ok (l, h, m) w →
      (Instr.sliceAt t (.slice ca len ccap) clow chigh cmax).run P w = .ok (.slice (if m = l then ca else ca.map (·.add (l * i.size))) (h - l) (m - l)) w := by
    intro l h m hb
    simp [Instr.sliceAt, Instr.slice, run_und ht, hb, run_size hi]
  split at h
  · rename_i mx
    simp only [ok_bind] at h
    obtain ⟨m, hm, hh, hhh, l, hl, h⟩ := h
    split at h
    case isFalse => cases h
    rename_i hc
    obtain ⟨c1, c2, c3, c4⟩ := hc
    simp only [ok_inj] at h; subst h
    cases cmax with
    | none => exact h3.elim
    | some cm =>
      obtain ⟨k, rfl⟩ := asNat_rel h3 hm
      have hh' : (chigh = none ∧ (some (Value.int k m)) = none ∧ hh = len) ∨ ∃ k, chigh = some (.int k hh) := by
        rcases optNat_rel h2 hhh with ⟨_, e⟩ | e
        · omega
        · exact .inr e
      have := hrun l hh m (sliceBounds_run true len ccap (optNat_rel h1 hl) hh' (.inr ⟨k, rfl⟩) (by omega) c2 c3 w)
      refine FltOk.val this ?_
      rcases hcase with ⟨rfl, rfl, _⟩ | ⟨x, cx, rfl, rfl, hx, _⟩
      · simp only [Option.map_none, ite_self]; exact .nilSlice _ _
      · split
        · exact VRel.slice_mk hx (by omega)
        · exact VRel.slice_mk (hx.add _) (by omega)
  · simp only [ok_bind] at h
    obtain ⟨hh, hhh, l, hl, h⟩ := h
    have hcm : cmax = none := (ORelV.none_iff h3).1 rfl
    subst hcm
    split at h
    case isFalse => cases h
    rename_i hc
    obtain ⟨c1, c2⟩ := hc
    have hh' : (chigh = none ∧ (none : Option Value) = none ∧ hh = len) ∨ ∃ k, chigh = some (.int k hh) := by
      rcases optNat_rel h2 hhh with ⟨e1, e2⟩ | e
      · exact .inl ⟨e1, rfl, e2⟩
      · exact .inr e
    have hr := hrun l hh ccap (sliceBounds_run true len ccap (optNat_rel h1 hl) hh' (.inl ⟨rfl, rfl⟩) (Nat.le_refl _) (by omega) c2 w)
    split at h
    · rename_i hcap
      obtain ⟨rfl, rfl⟩ := hcl hcap
      simp only [ok_inj] at h; subst h
      refine FltOk.val hr ?_
      rcases hcase with ⟨rfl, rfl, _⟩ | ⟨x, cx, rfl, rfl, hx, _⟩
      · simp only [Option.map_none, ite_self]; exact .nilSlice _ _
      · split
        · exact VRel.slice_mk hx (by omega)
        · exact VRel.slice_mk (hx.add _) (by omega)
    · rename_i hcap
      rcases hcase with ⟨_, _, hb⟩ | ⟨x, cx, rfl, rfl, hx, hopen⟩
      · exact absurd hb hcap
      obtain ⟨L, hL, hLc⟩ := hopen (by omega)
      split at h
      · rename_i hl0
        simp only [ok_inj] at h; subst h
        subst hl0
        refine FltOk.val hr ?_
        have : (if ccap = 0 then some cx else (some cx).map (·.add (0 * i.size))) = some cx := by split <;> simp [Addr.add]
        rw [this]
        obtain ⟨c0, rfl⟩ : ∃ c0, cap = BIG + c0 := ⟨cap - BIG, by omega⟩
        exact VRel.open_mk hx hL (by omega)
      · rename_i hl0
        split at h
        · rename_i hllo
          simp only [ok_inj] at h; subst h
          refine FltOk.val hr ?_
          rw [if_neg (by omega)]
          obtain ⟨c0, rfl⟩ : ∃ c0, cap = BIG + c0 := ⟨cap - BIG, by omega⟩
          rw [Nat.add_assoc]
          exact VRel.open_mk (hx.add _) (l := L) (by unfold addA; split <;> exact hL) (by omega)
        · rename_i hllo
          simp only [ok_inj] at h; subst h
          refine ⟨_, w, hr, .refl w, rfl, ?_⟩
          have hspot : ∃ b o, (if ccap = l then some cx else (some cx).map (·.add (l * i.size))) = some ⟨b, o, none⟩ := by
            obtain ⟨L', _, _, rfl⟩ := hx
            split
            · exact ⟨_, _, rfl⟩
            · exact ⟨L'.block, L'.base + x.off + l * i.size, by simp only [Option.map_some, Addr.add_mk]⟩
          obtain ⟨b, o, hbo⟩ := hspot
          rw [hbo]
          refine ⟨⟨b, o, ccap - l⟩, fun n hn => ?_⟩
          have h0 : hh - l = 0 := by omega
          rw [h0]
          have := VRel.openSl (R := R.add n ⟨b, o, ccap - l⟩) n 0 ⟨b, o, ccap - l⟩ 0 0 (ccap - l) (Ren.add_loc _ _ _) (by simp)
          simpa [sliceTo] using this

theorem asliceArr_run {t elem : TypeId} {n : Nat} (ht : und P t = .ok (.array n elem)) {a ca : Addr} (ha : AddrRel R a ca)
    {low high max clow chigh cmax : Option Value} (h1 : ORelV R low clow) (h2 : ORelV R high chigh) (h3 : ORelV R max cmax) {v : Value} (h : asliceArr P n elem a low high max = .ok v) (w : World) :
    FltOk P R w (Instr.sliceAt t (.pointer (some ca)) clow chigh cmax) (.val v) := by
  simp only [asliceArr, ok_bind] at h
  obtain ⟨i, hi, m, hm, hh, hhh, l, hl, h⟩ := h
  split at h
  · cases h
  rename_i hmh
  split at h
  case isFalse => cases h
  rename_i hc
  obtain ⟨c1, c2, c3, c4⟩ := hc
  simp only [ok_inj] at h; subst h
  have hh' : (chigh = none ∧ cmax = none ∧ hh = n) ∨ ∃ k, chigh = some (.int k hh) := by
    rcases optNat_rel h2 hhh with ⟨e1, e2⟩ | e
    · refine .inl ⟨e1, (ORelV.none_iff h3).1 ?_, e2⟩
      have := (ORelV.none_iff h2).2 e1
      subst this
      simpa using hmh
    · exact .inr e
  have hb := sliceBounds_run (P := P) false n n (optNat_rel h1 hl) hh' (optNat_rel h3 hm) c1 c2 c3 w
  refine FltOk.val (c := .slice (some (if m = l then ca else ca.add (l * i.size))) (hh - l) (m - l)) ?_ ?_
  · simp [Instr.sliceAt, run_und ht, Instr.sureAddr, hb, run_size hi]
  · split
    · exact VRel.slice_mk ha (by omega)
    · exact VRel.slice_mk (ha.add _) (by omega)

theorem asliceString_run {t : TypeId} (ht : und P t = .ok .string) {s : ByteArray} {low high max clow chigh cmax : Option Value} (h1 : ORelV R low clow) (h2 : ORelV R high chigh) (h3 : ORelV R max cmax) {v : Value}
    (h : asliceString s low high max = .ok v) (w : World) : FltOk P R w (Instr.sliceAt t (.string s) clow chigh cmax) (.val v) := by
  unfold asliceString at h
  split at h
  · cases h
  rename_i hm
  simp only [ok_bind] at h
  obtain ⟨hh, hhh, l, hl, h⟩ := h
  split at h
  case isFalse => cases h
  rename_i hc
  simp only [ok_inj] at h; subst h
  have hmn : max = none := by simpa using hm
  have hcm := (ORelV.none_iff h3).1 hmn
  subst hcm
  have hh' : (chigh = none ∧ (none : Option Value) = none ∧ hh = s.size) ∨ ∃ k, chigh = some (.int k hh) := by
    rcases optNat_rel h2 hhh with ⟨e1, e2⟩ | e
    · exact .inl ⟨e1, rfl, e2⟩
    · exact .inr e
  have hb := sliceBounds_run (P := P) false s.size s.size (optNat_rel h1 hl) hh' (.inl ⟨rfl, rfl⟩) (Nat.le_refl _) hc.1 hc.2 w
  exact FltOk.val (c := .string (s.extract l hh)) (by simp [Instr.sliceAt, Instr.slice, run_und ht, hb]) (.string _)

theorem aslice_run (H : HRel P R σ w.heap) {t : TypeId} {x c : Value} (hv : VRel R x c) {low high max clow chigh cmax : Option Value} (h1 : ORelV R low clow) (h2 : ORelV R high chigh) (h3 : ORelV R max cmax) {f : FV}
    (h : aslice P σ t x low high max = .ok f) : FltOk P R w (Instr.sliceAt t c clow chigh cmax) f := by
  simp only [aslice, ok_bind] at h
  obtain ⟨u, hu, h⟩ := h
  split at h
  · simp only [ok_bind, ok_inj] at h
    obtain ⟨v, hv', rfl⟩ := h
    cases hv
    exact asliceString_run hu h1 h2 h3 hv' w
  · exact asliceSlice_run H hu hv h1 h2 h3 h
  · simp only [ok_bind, ok_inj] at h
    obtain ⟨v, hv', rfl⟩ := h
    obtain ⟨ca, rfl, ha⟩ := VRel.ptr_iff.1 hv
    exact asliceArr_run hu ha h1 h2 h3 hv' w
  · cases h

end Go.Ev

/- Conversions, made slices and maps, addresses, fields, look-ups. -/
namespace Go.Ev

variable {P : Program} {R : Ren} {σ : St} {w : World} {tm : Tr Value} {arr : Array Value}

theorem cellsOf_eq {t : TypeId} {i : TypeInfo} (h : tinfo P t = .ok i) : P.cellsOf t = i.size := by simp [Program.cellsOf, tinfo_eq h]

theorem sliceTo_rel {n len cap B C : Nat} (hc : cap < BIG) : VRel (R.add n ⟨B, 0, C⟩) (sliceTo len cap n) (.slice (some ⟨B, 0, none⟩) len cap) := by
  have := VRel.slice (R := R.add n ⟨B, 0, C⟩) n 0 ⟨B, 0, C⟩ len cap (Ren.add_loc _ _ _) hc
  simpa [sliceTo] using this
theorem sliceTo_open {n len B C : Nat} : VRel (R.add n ⟨B, 0, C⟩) (sliceTo len BIG n) (.slice (some ⟨B, 0, none⟩) len C) := by
  have := VRel.openSl (R := R.add n ⟨B, 0, C⟩) n 0 ⟨B, 0, C⟩ len 0 C (Ren.add_loc _ _ _) (by simp)
  simpa [sliceTo] using this
theorem ptrTo_rel {n B C : Nat} : VRel (R.add n ⟨B, 0, C⟩) (ptrTo n) (.pointer (some ⟨B, 0, none⟩)) := by
  have := VRel.ptr (R := R.add n ⟨B, 0, C⟩) n 0 ⟨B, 0, C⟩ (Ren.add_loc _ _ _)
  simpa [ptrTo] using this
theorem mapTo_rel {n B C : Nat} : VRel (R.add n ⟨B, 0, C⟩) (mapTo n) (.map (some B)) := VRel.map n _ (Ren.add_loc R n ⟨B, 0, C⟩)

theorem repList_length (z : List Value) : ∀ n, (repList z n).length = n * z.length
  | 0 => by simp [repList]
  | n + 1 => by simp [repList, repList_length z n, Nat.succ_mul, Nat.add_comm]

theorem repList_get (z : List Value) : ∀ (n i : Nat), i < n * z.length → (repList z n)[i]? = z[i % z.length]?
  | 0, i, h => by simp at h
  | n + 1, i, h => by
    simp only [repList]
    by_cases hi : i < z.length
    · rw [List.getElem?_append_left hi, Nat.mod_eq_of_lt hi]
    · rw [List.getElem?_append_right (by omega), repList_get z n (i - z.length) (by rw [Nat.succ_mul] at h; omega)]
      congr 1
      rw [← Nat.mod_eq_sub_mod (by omega)]

theorem plain_cells {v : Value} (h : plainV 20 v = true) (R : Ren) : ∀ (i : Nat) (x : Value), v.cells.toList[i]? = some x → VRel R x x := fun i x hx => (plain_rel R 20 v h).cells.2 i x x hx hx

theorem range_rel {z : Array Value} (hz : ∀ (i : Nat) (x : Value), z.toList[i]? = some x → VRel R x x) (n : Nat) (hp : 0 < z.size) :
    LRel R (repList z.toList n) (((Array.range (n * z.size)).map (z[· % z.size]!)).toList) := by
  refine ⟨by simp [repList_length], fun i x y hx hy => ?_⟩
  have hi : i < n * z.toList.length := by
    have := (List.getElem?_eq_some_iff.1 hx).1
    rwa [repList_length] at this
  rw [repList_get _ _ _ hi] at hx
  have hy' : y = z[i % z.size]! := by
    simp only [Array.toList_map, List.getElem?_map] at hy
    have : (Array.range (n * z.size)).toList[i]? = some i := by
      have hi2 : i < n * z.size := by simpa using hi
      simp [hi2]
    rw [this] at hy
    simpa using hy.symm
  have hlt : i % z.size < z.size := Nat.mod_lt _ hp
  have hx' : z.toList[i % z.size]? = some x := by simpa using hx
  have : y = x := by
    rw [hy', getElem!_pos z _ hlt]
    have := List.getElem?_eq_some_iff.1 hx'
    simpa using this.2
  rw [this]
  exact hz _ x hx'

theorem buildSlice_run (hg : Glob R) (ht : TRel R tm arr) {t : TypeId} {len : Nat} {ps : Array (Nat × Operand)} {f : FV} (h : aBuildSlice P tm t len ps = .ok f) :
    FltOk P R w (Instr.buildSlice t len (ps.map fun x => (x.1, ceval arr x.2))) f := by
  simp only [aBuildSlice, ok_bind] at h
  obtain ⟨qs, hq, u, hu, h⟩ := h
  split at h
  case h_2 => cases h
  rename_i elem
  simp only [ok_bind] at h
  obtain ⟨i, hi, z, hz, h⟩ := h
  split at h
  · cases h
  rename_i hc
  split at h
  case h_2 => cases h
  rename_i cells hfill
  simp only [ok_inj] at h; subst h
  have hc1 : ¬ len * i.size > 2 ^ 24 := fun e => hc (.inl e)
  have hc2 : z.cells.size = i.size := Classical.byContradiction fun e => hc (.inr (.inl e))
  have hc3 : i.size ≠ 0 := fun e => hc (.inr (.inr e))
  have hp := parts_rel hg ht _ _ hq
  obtain ⟨i', hi', hzz, hpl⟩ := zeroV_eq hz
  have hpart : (ps.map fun x => (x.1, ceval arr x.2)).toList = ps.toList.map fun x => (x.1, ceval arr x.2) := by simp
  have hzero : LRel R (repList z.cells.toList len) (((Array.range (len * i.size)).map (z.cells[· % z.cells.size]!)).toList) := by
    rw [← hc2]
    exact range_rel (plain_cells hpl R) len (by omega)
  obtain ⟨C, hC, hr⟩ := fill_rel (R := R) _ _ _ _ ((Array.range (len * i.size)).map (z.cells[· % z.cells.size]!)) _ hp (by simpa using hzero) hfill
  have hlen : len < BIG := by
    have : len * 1 ≤ len * i.size := Nat.mul_le_mul_left _ (by omega)
    simp only [BIG]; omega
  refine ⟨.slice (some ⟨w.heap.size, 0, none⟩) len len, { w with heap := w.heap.push (.cells C elem) }, ?_, ⟨rfl, rfl, rfl⟩, .cells C elem, 0, rfl, fun n hn => ⟨⟨.inl rfl, ?_⟩, sliceTo_rel hlen⟩⟩
  · by_cases hl0 : len * i.size = 0
    · have hlz : len = 0 := by
        rcases Nat.mul_eq_zero.1 hl0 with e | e
        · exact e
        · exact absurd e hc3
      have h0 : ∀ f : Nat → Value, (Array.range 0).map f = #[] := fun f => by apply Array.toList_inj.1; simp
      rw [hl0, h0] at hC
      simp only [Instr.buildSlice, Sem.run_bind, run_und hu, Result.andThen_ok, run_size hi, hl0, show ¬ (0 > 2 ^ 24) by decide, if_false, if_true, Sem.run_pure, h0, hpart, hC]
      simp [newRow]
    · simp only [Instr.buildSlice, Sem.run_bind, run_und hu, Result.andThen_ok, run_size hi, hc1, if_false, hl0, run_zero hz, Sem.run_pure, hpart, hC]
      simp [newRow]
  · exact row_rel (pre := C.toList) (rest := []) rfl (hr.mono (Ren.le_add hn _)) (by simp) (by simp) (fun j _ => by omega) (fun _ => by omega)

theorem makeSlice_run (hg : Glob R) (ht : TRel R tm arr) {t : TypeId} {l c : Operand} {f : FV} (h : aMakeSlice P tm t l c = .ok f) :
    FltOk P R w (Instr.makeSlice t (ceval arr l) (ceval arr c)) f := by
  simp only [aMakeSlice, ok_bind] at h
  obtain ⟨u, hu, h⟩ := h
  split at h
  case h_2 => cases h
  rename_i elem
  simp only [ok_bind] at h
  obtain ⟨lv, hlv, ln, hln, cv, hcv, cn, hcn, i, hi, z, hz, h⟩ := h
  split at h
  · cases h
  rename_i hc
  simp only [ok_inj] at h; subst h
  have c1 : ln ≤ cn := by omega
  have c2 : cn ≤ 1000000 := by omega
  have c3 : i.size ≠ 0 := by omega
  have c4 : i.bytes ≤ 100000 := by omega
  have c5 : z.cells.size = i.size := by omega
  obtain ⟨k1, e1⟩ := asNat_rel (opd_rel hg ht hlv) hln
  obtain ⟨k2, e2⟩ := asNat_rel (opd_rel hg ht hcv) hcn
  rw [e1, e2]
  obtain ⟨i', hi', hzz, hpl⟩ := zeroV_eq hz
  rw [hi] at hi'; cases hi'
  have hb : (i.bytes : Int) * (cn : Int) ≤ 281474976710656 := by
    have : i.bytes * cn ≤ 100000 * 1000000 := Nat.mul_le_mul c4 c2
    have h2 : ((i.bytes * cn : Nat) : Int) ≤ 281474976710656 := by omega
    rwa [Int.natCast_mul] at h2
  have hr := run_make (P := P) w t elem i z (und_eq hu) (tinfo_eq hi) hzz k1 k2 (ln : Int) (cn : Int) (by omega) (by omega) hb (by omega)
  simp only [Int.toNat_natCast] at hr
  refine ⟨_, _, hr, ⟨rfl, rfl, rfl⟩, .cells (madeCells z.cells (cn * i.size)) elem, 0, rfl, fun n hn => ⟨⟨.inl rfl, ?_⟩, sliceTo_rel (by simp only [BIG]; omega)⟩⟩
  refine ⟨fun j hj => ?_, fun hx => (by cases hx), fun j _ _ => by omega, fun _ => by omega⟩
  have hlt : j % z.cells.size < z.cells.size := Nat.mod_lt _ (by omega)
  refine ⟨z.cells[j % z.cells.size]!, ?_, ?_⟩
  · simp only [Nat.zero_add, madeCells]
    rw [Array.getElem?_map]
    have : (Array.range (cn * i.size))[j]? = some j := by simp [hj]
    rw [this]; rfl
  · simp only [getC, Tr.get_nil]
    rw [List.getD_eq_getElem?_getD, Array.length_toList]
    have hz' : z.cells.toList[j % z.cells.size]? = some (z.cells[j % z.cells.size]!) := by
      rw [getElem!_pos z.cells _ hlt]
      simp [hlt]
    rw [hz']
    exact plain_cells hpl _ _ _ hz'

theorem makeMap_run (hg : Glob R) (ht : TRel R tm arr) {t : TypeId} {r : Option Operand} {f : FV} (h : aMakeMap P tm t r = .ok f) :
    FltOk P R w (Instr.makeMap t (r.map (ceval arr))) f := by
  have hnew : FVRel P R w { w with heap := w.heap.push (.map #[] 0) } (.map (some w.heap.size)) (.new mapTo (.map [] 0)) :=
    ⟨.map #[] 0, 0, rfl, fun n hn => ⟨⟨F2.nil, rfl⟩, mapTo_rel⟩⟩
  cases r with
  | none =>
    simp only [aMakeMap, optOpd, ok_bind, ok_inj] at h
    obtain ⟨x, rfl, h⟩ := h
    simp only [ok_inj] at h; subst h
    exact ⟨_, { w with heap := w.heap.push (.map #[] 0) }, by simp [Instr.makeMap] <;> rfl, ⟨rfl, rfl, rfl⟩, hnew⟩
  | some x =>
    simp only [aMakeMap, optOpd, ok_bind, ok_inj] at h
    obtain ⟨v, ⟨u, hu, rfl⟩, h⟩ := h
    simp only [ok_bind] at h
    obtain ⟨d, hd, h⟩ := h
    split at h
    case h_2 => cases h
    simp only [ok_bind, ok_inj] at h
    obtain ⟨n, hn, rfl⟩ := h
    obtain ⟨k, e⟩ := asInt_rel (opd_rel hg ht hu) hn
    exact ⟨_, { w with heap := w.heap.push (.map #[] 0) }, by simp [Instr.makeMap, e, run_und hd, Go.asInt, asIntOf] <;> rfl, ⟨rfl, rfl, rfl⟩, hnew⟩

theorem stringOf_run : ∀ (l : List Value) (bs : List UInt8) (cs : List Value), stringOf l = .ok bs → LRel R l cs → ∃ ns : List Int, cs = ns.map (Value.int .u8) ∧ bs = ns.map fun n => UInt8.ofNat n.toNat
  | [], bs, cs, h, hl => by
    have := hl.of_nil; subst this
    cases h
    exact ⟨[], rfl, rfl⟩
  | v :: l, bs, cs, h, hl => by
    obtain ⟨c, cs, rfl, h1, h2⟩ := hl.of_cons
    simp only [stringOf] at h
    split at h
    · rename_i n
      simp only [ok_bind, ok_inj] at h
      obtain ⟨r, hr, rfl⟩ := h
      obtain ⟨ns, e1, e2⟩ := stringOf_run l r cs hr h2
      cases h1
      exact ⟨n :: ns, by simp [e1], by simp [e2]⟩
    · cases h

theorem foldl_push (ns : List Int) : ∀ (s : ByteArray), ns.foldl (fun r n => r.push (UInt8.ofNat n.toNat)) s = ⟨s.data ++ (ns.map fun n => UInt8.ofNat n.toNat).toArray⟩ := by
  induction ns with
  | nil => intro s; simp
  | cons n ns ih =>
    intro s
    rw [List.foldl_cons, ih]
    simp [ByteArray.push]

theorem convert_run (H : HRel P R σ w.heap) {s d : TypeId} {x c : Value} (hv : VRel R x c) {f : FV} (h : Ev.convert P σ s d x = .ok f) : FltOk P R w (Go.convert s d c) f := by
  simp only [Ev.convert, ok_bind] at h
  obtain ⟨us, hus, ud, hud, h⟩ := h
  split at h
  · simp only [ok_inj] at h; subst h
    cases hv
    exact FltOk.val (c := .int _ _) (by simp [Go.convert, run_und hus, run_und hud, Conv.intToInt]) (.int _ _)
  · simp only [ok_inj] at h; subst h
    cases hv
    exact FltOk.val (c := .string _) (by simp [Go.convert, run_und hus, run_und hud]) (.string _)
  · rename_i e str
    simp only [ok_bind] at h
    obtain ⟨ue, hue, h⟩ := h
    split at h
    case h_2 => cases h
    split at h
    case isFalse => cases h
    rename_i hsz
    simp only [ok_inj] at h; subst h
    cases hv
    have hr := run_bytes_of_string (P := P) w s d e str (und_eq hus) (und_eq hud) (und_eq hue)
    have hge := grownCap_ge w str.size 0 e
    have hsize : (bytesRow str (grownCap w str.size 0 e)).size = grownCap w str.size 0 e := by
      simp only [bytesRow, Array.size_append, Array.size_map, Array.size_replicate]
      have : str.data.size = str.size := rfl
      omega
    refine ⟨_, _, hr, ⟨rfl, rfl, rfl⟩, _, grownCap w str.size 0 e, rfl, fun n hn => ⟨⟨.inl rfl, ?_⟩, sliceTo_open⟩⟩
    refine row_rel (pre := str.data.toList.map fun b => Value.int .u8 b.toNat) (rest := (Array.replicate (grownCap w str.size 0 e - str.size) (Value.int .u8 0)).toList) rfl ?_ ?_ ?_ ?_ ?_
    · refine ⟨by simp, fun i x y hx hy => ?_⟩
      rw [hx] at hy; cases hy
      simp only [List.getElem?_map, Option.map_eq_some_iff] at hx
      obtain ⟨b, _, rfl⟩ := hx
      exact .int _ _
    · simp [bytesRow]
    · intro _
      simp only [hsz, Nat.mul_one, hsize]
      have : (str.data.toList.map fun b => Value.int .u8 b.toNat).length = str.size := by simp
      rw [this]
      exact ⟨hge, Nat.le_refl _⟩
    · intro j hj; omega
    · intro hm; cases hm
  · rename_i e a n capn
    simp only [ok_bind] at h
    obtain ⟨ue, hue, h⟩ := h
    split at h
    case h_2 => cases h
    have hgen : ∀ a' n' c', (Go.convert s d (.slice a' n' c')).run P w = (Conv.bytesToString (.slice a' n' c')).run P w := fun a' n' c' => run_convert_bytes_string w s d e a' n' c' (und_eq hus) (und_eq hue) (und_eq hud)
    split at h
    · simp only [ok_inj] at h; subst h
      cases hv
      exact FltOk.val (c := .string .empty) (by rw [hgen]; simp [Conv.bytesToString]) (.string _)
    · rename_i ad
      simp only [ok_bind, ok_inj] at h
      obtain ⟨l, hl, bs, hbs, rfl⟩ := h
      have haddr : ∃ ca n' c', c = .slice (some ca) n c' ∧ n' = n ∧ AddrRel R ad ca := by
        cases hv with
        | slice b off L n c hL hc => exact ⟨_, _, _, rfl, rfl, L, hL, rfl, rfl⟩
        | openSl b off L n c c' hL hc => exact ⟨_, _, _, rfl, rfl, L, hL, rfl, rfl⟩
      obtain ⟨ca, _, c', rfl, _, haddr⟩ := haddr
      obtain ⟨cs, hcs, hlr⟩ := loadCells_run H haddr hl
      obtain ⟨ns, e1, e2⟩ := stringOf_run l bs cs.toList hbs hlr
      have hcs' : (Go.loadCells ca n).run P w = .ok (ns.map (Value.int .u8)).toArray w := by
        rw [hcs]
        congr 1
        apply Array.toList_inj.1
        simpa using e1
      have hb := run_bytesToString (P := P) w ca n c' ns hcs'
      refine FltOk.val (c := .string ⟨bs.toArray⟩) ?_ (.string _)
      rw [hgen, hb, foldl_push, e2]
      simp [ByteArray.empty, ByteArray.emptyWithCapacity]
      rfl
  · cases h

end Go.Ev
