/- A VERIFIED EVALUATOR, part four of four: the machine in continuation-passing style, for the kernel; kept calls; from a run to a claim. -/
import Derived.Test.YtdonhmehdlmgcaaGreatDoorLibC
import GoSem.Extern.MapsClone
import Derived.Laws.Externs
import Derived.LaidLaws
import Derived.ChangeShapes
import Derived.ProofKit
import Derived.LaidMore
import GoSem.ClaimGoes
set_option linter.unusedVariables false
set_option linter.unusedSimpArgs false
/- The evaluator in continuation-passing style, for the kernel. Definitions alone. Its answers are held against 'astep' in EvKOk. -/
namespace Go.Ev
noncomputable section

inductive Ans where
  | yes
  | no

def bindE {α : Type} (x : E α) (k : α → Ans) : Ans := Except.rec (motive := fun _ => Ans) (fun _ => .no) k x
def ifK (b : Bool) (t e : Ans) : Ans := Bool.rec (motive := fun _ => Ans) e t b
def optK {α : Type} (o : Option α) (k : α → Ans) : Ans := Option.rec (motive := fun _ => Ans) .no k o
def natK (n : Nat) (k : Nat → Ans) : Ans := Nat.rec (motive := fun _ => Ans) (k 0) (fun m _ => k (Nat.succ m)) n
def intK (n : Int) (k : Int → Ans) : Ans := Int.rec (motive := fun _ => Ans) (fun m => natK m fun m => k (.ofNat m)) (fun m => natK m fun m => k (.negSucc m)) n
def tb (m i : Nat) : Bool := Nat.beq (Nat.land (Nat.shiftRight m i) 1) 1

/-! ### tries -/

def pathOf : Nat → Nat → List Bool
  | 0, _ => []
  | n + 1, k => bif Nat.beq k 0 then [] else bif Nat.beq (k % 2) 1 then true :: pathOf n (k / 2) else false :: pathOf n (k / 2 - 1)

inductive GetB where
  | mk (f : Tr Value → (Value → Ans) → Ans)
inductive SetB where
  | mk (f : Nat → Value → Tr Value → (Tr Value → Ans) → Ans)

def trLeaf (t : Tr Value) (k : Value → Ans) : Ans := Tr.rec (motive := fun _ => Ans) .no (fun _ v _ _ _ => optK v k) t
def trLeft (f : Tr Value → (Value → Ans) → Ans) (t : Tr Value) (k : Value → Ans) : Ans := Tr.rec (motive := fun _ => Ans) .no (fun l _ _ _ _ => f l k) t
def trRight (f : Tr Value → (Value → Ans) → Ans) (t : Tr Value) (k : Value → Ans) : Ans := Tr.rec (motive := fun _ => Ans) .no (fun _ _ r _ _ => f r k) t
/- bit 'true': to the left -/
def trGetB (p : List Bool) : GetB := List.rec (motive := fun _ => GetB) (.mk trLeaf)
  (fun b _ ih => GetB.rec (motive := fun _ => GetB) (fun f => Bool.rec (motive := fun _ => GetB) (.mk (trRight f)) (.mk (trLeft f)) b) ih) p

inductive PutB where
  | mk (f : Value → Tr Value → (Tr Value → Ans) → Ans)
def GetB.f : GetB → Tr Value → (Value → Ans) → Ans
  | .mk f => f
def PutB.f : PutB → Value → Tr Value → (Tr Value → Ans) → Ans
  | .mk f => f
def puLeaf (x : Value) (t : Tr Value) (k : Tr Value → Ans) : Ans := Tr.rec (motive := fun _ => Ans) (k (.node .nil (some x) .nil)) (fun l _ r _ _ => k (.node l (some x) r)) t
def puLeft (f : Value → Tr Value → (Tr Value → Ans) → Ans) (x : Value) (t : Tr Value) (k : Tr Value → Ans) : Ans :=
  Tr.rec (motive := fun _ => Ans) (f x .nil fun l => k (.node l none .nil)) (fun l v r _ _ => f x l fun l => k (.node l v r)) t
def puRight (f : Value → Tr Value → (Tr Value → Ans) → Ans) (x : Value) (t : Tr Value) (k : Tr Value → Ans) : Ans :=
  Tr.rec (motive := fun _ => Ans) (f x .nil fun r => k (.node .nil none r)) (fun l v r _ _ => f x r fun r => k (.node l v r)) t
def trPutB (p : List Bool) : PutB := List.rec (motive := fun _ => PutB) (.mk puLeaf)
  (fun b _ ih => PutB.rec (motive := fun _ => PutB) (fun f => Bool.rec (motive := fun _ => PutB) (.mk (puRight f)) (.mk (puLeft f)) b) ih) p

def setSome (d : Nat) (f : Value → Tr Value → (Tr Value → Ans) → Ans) (sz : Nat) (v : Value) (tm : Tr Value) (k : Tr Value → Ans) : Ans := ifK (Nat.blt d sz) (f v tm k) .no
def setNone (_ : Nat) (_ : Value) (tm : Tr Value) (k : Tr Value → Ans) : Ans := k tm
/-- 'putTm' -/
def setB (d : Option Tmp) : SetB := Option.rec (motive := fun _ => SetB) (.mk setNone) (fun d => PutB.rec (motive := fun _ => SetB) (fun f => .mk (setSome d f)) (trPutB (pathOf (d + 1) d))) d

/- keys that are not known ahead: the path of a key, and the ways along it, are kept by the kernel -/
def pathN (n : Nat) : Nat → List Bool := Nat.rec (motive := fun _ => Nat → List Bool) (fun _ => [])
  (fun _ ih k => Bool.rec (motive := fun _ => List Bool) (Bool.rec (motive := fun _ => List Bool) (false :: ih (Nat.sub (Nat.div k 2) 1)) (true :: ih (Nat.div k 2)) (Nat.beq (Nat.mod k 2) 1)) [] (Nat.beq k 0)) n
inductive GB (α : Type) where
  | mk (f : Tr α → (Option α → Ans) → Ans)
def gLeaf {α : Type} (t : Tr α) (kk : Option α → Ans) : Ans := Tr.rec (motive := fun _ => Ans) (kk none) (fun _ v _ _ _ => kk v) t
def gLeft {α : Type} (f : Tr α → (Option α → Ans) → Ans) (t : Tr α) (kk : Option α → Ans) : Ans := Tr.rec (motive := fun _ => Ans) (kk none) (fun l _ _ _ _ => f l kk) t
def gRight {α : Type} (f : Tr α → (Option α → Ans) → Ans) (t : Tr α) (kk : Option α → Ans) : Ans := Tr.rec (motive := fun _ => Ans) (kk none) (fun _ _ r _ _ => f r kk) t
def gB {α : Type} (p : List Bool) : GB α := List.rec (motive := fun _ => GB α) (.mk gLeaf)
  (fun b _ ih => GB.rec (motive := fun _ => GB α) (fun f => Bool.rec (motive := fun _ => GB α) (.mk (gRight f)) (.mk (gLeft f)) b) ih) p
def getK {α : Type} (t : Tr α) (k : Nat) (kk : Option α → Ans) : Ans := GB.rec (motive := fun _ => Ans) (fun f => f t kk) (gB (pathN (Nat.succ k) k))
inductive PB (α : Type) where
  | mk (f : Option α → Tr α → (Tr α → Ans) → Ans)
def pLeaf {α : Type} (x : Option α) (t : Tr α) (k : Tr α → Ans) : Ans := Tr.rec (motive := fun _ => Ans) (k (.node .nil x .nil)) (fun l _ r _ _ => k (.node l x r)) t
def pLeft {α : Type} (f : Option α → Tr α → (Tr α → Ans) → Ans) (x : Option α) (t : Tr α) (k : Tr α → Ans) : Ans :=
  Tr.rec (motive := fun _ => Ans) (f x .nil fun l => k (.node l none .nil)) (fun l v r _ _ => f x l fun l => k (.node l v r)) t
def pRight {α : Type} (f : Option α → Tr α → (Tr α → Ans) → Ans) (x : Option α) (t : Tr α) (k : Tr α → Ans) : Ans :=
  Tr.rec (motive := fun _ => Ans) (f x .nil fun r => k (.node .nil none r)) (fun l v r _ _ => f x r fun r => k (.node l v r)) t
def pB {α : Type} (p : List Bool) : PB α := List.rec (motive := fun _ => PB α) (.mk pLeaf)
  (fun b _ ih => PB.rec (motive := fun _ => PB α) (fun f => Bool.rec (motive := fun _ => PB α) (.mk (pRight f)) (.mk (pLeft f)) b) ih) p
def setK {α : Type} (t : Tr α) (k : Nat) (x : α) (kk : Tr α → Ans) : Ans := PB.rec (motive := fun _ => Ans) (fun f => f (some x) t kk) (pB (pathN (Nat.succ k) k))
def delK {α : Type} (t : Tr α) (k : Nat) (kk : Tr α → Ans) : Ans := PB.rec (motive := fun _ => Ans) (fun f => f none t kk) (pB (pathN (Nat.succ k) k))

/-! ### values -/

def vInt (v : Value) (k : IntKind → Int → Ans) (e : Ans) : Ans :=
  @Value.rec (fun _ => Ans) (fun _ => Unit) (fun _ => Unit) (fun _ => e) k (fun _ _ => e) (fun _ _ _ => e) (fun _ => e) (fun _ => e) (fun _ _ _ => e) (fun _ => e) (fun _ => e) (fun _ _ _ _ _ => e) e (fun _ _ _ => e) e (fun _ _ => e) (fun _ _ => e) (fun _ _ => ()) () (fun _ _ _ _ => ()) v
def vBool (v : Value) (k : Bool → Ans) (e : Ans) : Ans :=
  @Value.rec (fun _ => Ans) (fun _ => Unit) (fun _ => Unit) k (fun _ _ => e) (fun _ _ => e) (fun _ _ _ => e) (fun _ => e) (fun _ => e) (fun _ _ _ => e) (fun _ => e) (fun _ => e) (fun _ _ _ _ _ => e) e (fun _ _ _ => e) e (fun _ _ => e) (fun _ _ => e) (fun _ _ => ()) () (fun _ _ _ _ => ()) v
def vPtr (v : Value) (k : Option Addr → Ans) (e : Ans) : Ans :=
  @Value.rec (fun _ => Ans) (fun _ => Unit) (fun _ => Unit) (fun _ => e) (fun _ _ => e) (fun _ _ => e) (fun _ _ _ => e) (fun _ => e) k (fun _ _ _ => e) (fun _ => e) (fun _ => e) (fun _ _ _ _ _ => e) e (fun _ _ _ => e) e (fun _ _ => e) (fun _ _ => e) (fun _ _ => ()) () (fun _ _ _ _ => ()) v
def vSlice (v : Value) (k : Option Addr → Nat → Nat → Ans) (e : Ans) : Ans :=
  @Value.rec (fun _ => Ans) (fun _ => Unit) (fun _ => Unit) (fun _ => e) (fun _ _ => e) (fun _ _ => e) (fun _ _ _ => e) (fun _ => e) (fun _ => e) k (fun _ => e) (fun _ => e) (fun _ _ _ _ _ => e) e (fun _ _ _ => e) e (fun _ _ => e) (fun _ _ => e) (fun _ _ => ()) () (fun _ _ _ _ => ()) v
def vTuple (v : Value) (k : Array Value → Ans) (b : Bool → Ans) (e : Ans) : Ans :=
  @Value.rec (fun _ => Ans) (fun _ => Unit) (fun _ => Unit) b (fun _ _ => e) (fun _ _ => e) (fun _ _ _ => e) (fun _ => e) (fun _ => e) (fun _ _ _ => e) (fun _ => e) (fun _ => e) (fun _ _ _ _ _ => e) e (fun _ _ _ => e) e (fun _ _ => e) (fun vs _ => k vs) (fun _ _ => ()) () (fun _ _ _ _ => ()) v
def vAgg (v : Value) (k : Array Value → Ans) (e : Ans) : Ans :=
  @Value.rec (fun _ => Ans) (fun _ => Unit) (fun _ => Unit) (fun _ => e) (fun _ _ => e) (fun _ _ => e) (fun _ _ _ => e) (fun _ => e) (fun _ => e) (fun _ _ _ => e) (fun _ => e) (fun _ => e) (fun _ _ _ _ _ => e) e (fun _ _ _ => e) e (fun vs _ => k vs) (fun _ _ => e) (fun _ _ => ()) () (fun _ _ _ _ => ()) v
/- neither a struct nor an array, nor a tuple -/
def vOne (v : Value) (k : Ans) (e : Ans) : Ans :=
  @Value.rec (fun _ => Ans) (fun _ => Unit) (fun _ => Unit) (fun _ => k) (fun _ _ => k) (fun _ _ => k) (fun _ _ _ => k) (fun _ => k) (fun _ => k) (fun _ _ _ => k) (fun _ => k) (fun _ => k) (fun _ _ _ _ _ => k) k (fun _ _ _ => k) k (fun _ _ => e) (fun _ _ => e) (fun _ _ => ()) () (fun _ _ _ _ => ()) v
def vFunc (v : Value) (k : Fn → Array Value → Array Value → Ans) (e : Ans) : Ans :=
  @Value.rec (fun _ => Ans) (fun _ => Unit) (fun _ => Unit) (fun _ => e) (fun _ _ => e) (fun _ _ => e) (fun _ _ _ => e) (fun _ => e) (fun _ => e) (fun _ _ _ => e) (fun _ => e) (fun _ => e) (fun fn a b _ _ => k fn a b) e (fun _ _ _ => e) e (fun _ _ => e) (fun _ _ => e) (fun _ _ => ()) () (fun _ _ _ _ => ()) v

def opdB (x : Operand) : GetB := match x with
  | .tmp t => trGetB (pathOf (t + 1) t)
  | .const v => bif plainV 20 v then .mk (fun _ k => k v) else .mk (fun _ _ => .no)
  | .global g => bif Nat.blt g GMAX then .mk (fun _ k => k (.pointer (some ⟨g, 0, none⟩))) else .mk (fun _ _ => .no)
  | .func f => .mk (fun _ k => k (.func (.func f) #[] #[]))

/-! ### integers -/

def limOf (k : IntKind) : Nat := IntKind.rec (motive := fun _ => Nat) 128 32768 2147483648 9223372036854775808 256 65536 4294967296 18446744073709551616 k
def kNum (k : IntKind) : Nat := IntKind.rec (motive := fun _ => Nat) 0 1 2 3 4 5 6 7 k
def bitsOf (k : IntKind) : Nat := IntKind.rec (motive := fun _ => Nat) 8 16 32 64 8 16 32 64 k

inductive IntB where
  | mk (f : IntKind → Int → Int → (Value → Ans) → Ans → Ans)

def retNat (k : IntKind) (s : Nat) (kk : Value → Ans) : Ans := natK s fun s => ifK (Nat.blt s (limOf k)) (kk (.int k (.ofNat s))) (intK (k.wrap (.ofNat s)) fun n => kk (.int k n))
def retInt (k : IntKind) (n : Int) (kk : Value → Ans) : Ans := intK (k.wrap n) fun n => kk (.int k n)
def retBool (b : Bool) (kk : Value → Ans) : Ans := ifK b (kk (.bool true)) (kk (.bool false))

def iAdd (k : IntKind) (a b : Int) (kk : Value → Ans) (_ : Ans) : Ans :=
  Int.rec (motive := fun _ => Ans) (fun m => Int.rec (motive := fun _ => Ans) (fun n => retNat k (Nat.add m n) kk) (fun n => retInt k (Int.add (.ofNat m) (.negSucc n)) kk) b) (fun m => retInt k (Int.add (.negSucc m) b) kk) a
def iSub (k : IntKind) (a b : Int) (kk : Value → Ans) (_ : Ans) : Ans :=
  Int.rec (motive := fun _ => Ans) (fun m => Int.rec (motive := fun _ => Ans) (fun n => ifK (Nat.ble n m) (retNat k (Nat.sub m n) kk) (retInt k (Int.sub (.ofNat m) (.ofNat n)) kk)) (fun n => retInt k (Int.sub (.ofNat m) (.negSucc n)) kk) b) (fun m => retInt k (Int.sub (.negSucc m) b) kk) a
def iMul (k : IntKind) (a b : Int) (kk : Value → Ans) (_ : Ans) : Ans :=
  Int.rec (motive := fun _ => Ans) (fun m => Int.rec (motive := fun _ => Ans) (fun n => retNat k (Nat.mul m n) kk) (fun n => retInt k (Int.mul (.ofNat m) (.negSucc n)) kk) b) (fun m => retInt k (Int.mul (.negSucc m) b) kk) a
def iEqb (a b : Int) : Bool := Int.rec (motive := fun _ => Bool) (fun m => Int.rec (motive := fun _ => Bool) (fun n => Nat.beq m n) (fun _ => false) b) (fun m => Int.rec (motive := fun _ => Bool) (fun _ => false) (fun n => Nat.beq m n) b) a
def iLtb (a b : Int) : Bool := Int.rec (motive := fun _ => Bool) (fun m => Int.rec (motive := fun _ => Bool) (fun n => Nat.blt m n) (fun _ => false) b) (fun m => Int.rec (motive := fun _ => Bool) (fun _ => true) (fun n => Nat.blt n m) b) a
def iEql (_ : IntKind) (a b : Int) (kk : Value → Ans) (_ : Ans) : Ans := retBool (iEqb a b) kk
def iNeq (_ : IntKind) (a b : Int) (kk : Value → Ans) (_ : Ans) : Ans := ifK (iEqb a b) (kk (.bool false)) (kk (.bool true))
def iLss (_ : IntKind) (a b : Int) (kk : Value → Ans) (_ : Ans) : Ans := retBool (iLtb a b) kk
def iGtr (_ : IntKind) (a b : Int) (kk : Value → Ans) (_ : Ans) : Ans := retBool (iLtb b a) kk
def iLeq (_ : IntKind) (a b : Int) (kk : Value → Ans) (_ : Ans) : Ans := ifK (iLtb b a) (kk (.bool false)) (kk (.bool true))
def iGeq (_ : IntKind) (a b : Int) (kk : Value → Ans) (_ : Ans) : Ans := ifK (iLtb a b) (kk (.bool false)) (kk (.bool true))
/- both natural numbers below the kind's bound -/
def iNat (op : Nat → Nat → Nat) (k : IntKind) (a b : Int) (kk : Value → Ans) (e : Ans) : Ans :=
  Int.rec (motive := fun _ => Ans) (fun m => Int.rec (motive := fun _ => Ans) (fun n => ifK (Nat.blt m (limOf k)) (ifK (Nat.blt n (limOf k)) (natK (op m n) fun s => kk (.int k (.ofNat s))) e) e) (fun _ => e) b) (fun _ => e) a
def iQuo (k : IntKind) (a b : Int) (kk : Value → Ans) (e : Ans) : Ans :=
  Int.rec (motive := fun _ => Ans) (fun m => Int.rec (motive := fun _ => Ans) (fun n => ifK (Nat.beq n 0) .no (retNat k (Nat.div m n) kk)) (fun _ => e) b) (fun _ => e) a
def iRem (k : IntKind) (a b : Int) (kk : Value → Ans) (e : Ans) : Ans :=
  Int.rec (motive := fun _ => Ans) (fun m => Int.rec (motive := fun _ => Ans) (fun n => ifK (Nat.beq n 0) .no (natK (Nat.mod m n) fun s => kk (.int k (.ofNat s)))) (fun _ => e) b) (fun _ => e) a
def iNo (_ : IntKind) (_ _ : Int) (_ : Value → Ans) (e : Ans) : Ans := e
def intB (op : BinOp) : IntB := match op with
  | .add => .mk iAdd | .sub => .mk iSub | .mul => .mk iMul
  | .eql => .mk iEql | .neq => .mk iNeq | .lss => .mk iLss | .gtr => .mk iGtr | .leq => .mk iLeq | .geq => .mk iGeq
  | .and => .mk (iNat Nat.land) | .or => .mk (iNat Nat.lor) | .xor => .mk (iNat Nat.xor)
  | .quo => .mk iQuo | .rem => .mk iRem
  | _ => .mk iNo

/- shifts: the count may be of another kind -/
def iShr (k : IntKind) (a b : Int) (kk : Value → Ans) (e : Ans) : Ans :=
  Int.rec (motive := fun _ => Ans) (fun m => Int.rec (motive := fun _ => Ans) (fun n => natK (Nat.div m (Nat.pow 2 (Nat.min n (bitsOf k)))) fun s => kk (.int k (.ofNat s))) (fun _ => e) b) (fun _ => e) a
def iShl (k : IntKind) (a b : Int) (kk : Value → Ans) (e : Ans) : Ans :=
  Int.rec (motive := fun _ => Ans) (fun m => Int.rec (motive := fun _ => Ans) (fun n => retNat k (Nat.mul m (Nat.pow 2 (Nat.min n (bitsOf k)))) kk) (fun _ => e) b) (fun _ => e) a
def isShift (op : BinOp) : Bool := match op with | .shl | .shr => true | _ => false
def isShl (op : BinOp) : Bool := match op with | .shl => true | _ => false

/-! ### operations that write nothing -/

inductive FltB where
  | mk (f : Tr Value → St → (FV → Ans) → Ans)

section
variable (P : Tab)

def fGen (g : St → Tr Value → E FV) (tm : Tr Value) (σ : St) (k : FV → Ans) : Ans := bindE (g σ tm) k
def fMove (fx : Tr Value → (Value → Ans) → Ans) (tm : Tr Value) (_ : St) (k : FV → Ans) : Ans := fx tm fun v => k (.val v)
def fPick (fc fa fb : Tr Value → (Value → Ans) → Ans) (tm : Tr Value) (_ : St) (k : FV → Ans) : Ans :=
  fc tm fun c => vBool c (fun b => ifK b (fa tm fun v => k (.val v)) (fb tm fun v => k (.val v))) .no
def fConst (v : FV) (_ : Tr Value) (_ : St) (k : FV → Ans) : Ans := k v
def fBox (elem : TypeId) (fx : Tr Value → (Value → Ans) → Ans) (tm : Tr Value) (_ : St) (k : FV → Ans) : Ans :=
  fx tm fun v => vOne v (k (.new ptrTo (.cells (.node .nil (some v) .nil) [undef] 1 elem false 0 false))) (k (.new ptrTo (rowOf elem v.cells.toList false false)))
def fNil (fx : Tr Value → (Value → Ans) → Ans) (tm : Tr Value) (_ : St) (k : FV → Ans) : Ans :=
  fx tm fun v => vPtr v (fun a => optK a fun _ => k (.val v)) (match v with | .iface _ _ => k (.val v) | .func (.func _) _ _ => k (.val v) | _ => .no)
def fBin (op : IntKind → Int → Int → (Value → Ans) → Ans → Ans) (o : BinOp) (t : TypeId) (x y : Operand) (fx fy : Tr Value → (Value → Ans) → Ans) (tm : Tr Value) (σ : St) (k : FV → Ans) : Ans :=
  fx tm fun a => fy tm fun b =>
    vInt a (fun i m => vInt b (fun j n => ifK (Nat.beq (kNum i) (kNum j)) (op i m n (fun v => k (.val v)) (bindE (abin P σ o t x y a b) fun v => k (.val v))) .no) .no) (bindE (abin P σ o t x y a b) fun v => k (.val v))
def fShift (op : IntKind → Int → Int → (Value → Ans) → Ans → Ans) (o : BinOp) (t : TypeId) (x y : Operand) (fx fy : Tr Value → (Value → Ans) → Ans) (tm : Tr Value) (σ : St) (k : FV → Ans) : Ans :=
  fx tm fun a => fy tm fun b =>
    vInt a (fun i m => vInt b (fun _ n => op i m n (fun v => k (.val v)) (bindE (abin P σ o t x y a b) fun v => k (.val v))) .no) .no
/- comparisons with nil -/
def fEqP (eq : Bool) (o : BinOp) (t : TypeId) (x y : Operand) (fx fy : Tr Value → (Value → Ans) → Ans) (tm : Tr Value) (σ : St) (k : FV → Ans) : Ans :=
  fx tm fun a => fy tm fun b =>
    vPtr a (fun p => vPtr b (fun q =>
      Option.rec (motive := fun _ => Ans) (Option.rec (motive := fun _ => Ans) (k (.val (.bool eq))) (fun _ => k (.val (.bool (!eq)))) q)
        (fun _ => Option.rec (motive := fun _ => Ans) (k (.val (.bool (!eq)))) (fun _ => bindE (abin P σ o t x y a b) fun v => k (.val v)) q) p) .no) .no
def fEqS (eq : Bool) (fx fy : Tr Value → (Value → Ans) → Ans) (tm : Tr Value) (_ : St) (k : FV → Ans) : Ans :=
  fx tm fun a => fy tm fun b =>
    vSlice a (fun p _ _ => vSlice b (fun q _ _ =>
      Option.rec (motive := fun _ => Ans) (Option.rec (motive := fun _ => Ans) (k (.val (.bool eq))) (fun _ => k (.val (.bool (!eq)))) q)
        (fun _ => Option.rec (motive := fun _ => Ans) (k (.val (.bool (!eq)))) (fun _ => .no) q) p) .no) .no
def fNot (fx : Tr Value → (Value → Ans) → Ans) (tm : Tr Value) (_ : St) (k : FV → Ans) : Ans := fx tm fun v => vBool v (fun b => ifK b (k (.val (.bool false))) (k (.val (.bool true)))) .no

def cellK (c : Tr Value) (d : List Value) (i : Nat) (k : Value → Ans) : Ans := getK c i fun o => Option.rec (motive := fun _ => Ans) (k (d.getD (i % d.length) undef)) k o
def objK (σ : St) (a : Nat) (k : AObj → Ans) : Ans := St.rec (motive := fun _ => Ans) (fun h _ => getK h a fun o => optK o k) σ
def cellsK (o : AObj) (k : Tr Value → List Value → Nat → TypeId → Bool → Nat → Bool → Ans) : Ans :=
  AObj.rec (motive := fun _ => Ans) k (fun _ _ => .no) (fun _ _ => .no) (fun _ _ _ _ => .no) (fun _ => .no) (fun _ => .no) o
def addrK (a : Addr) (k : Nat → Nat → Option Nat → Ans) : Ans := Addr.rec (motive := fun _ => Ans) k a
def noneK (o : Option Nat) (k : Ans) : Ans := Option.rec (motive := fun _ => Ans) k (fun _ => .no) o
def ptrK (v : Value) (k : Nat → Nat → Option Nat → Ans) : Ans := vPtr v (fun a => optK a fun a => addrK a k) .no
def fLoad1 (fa : Tr Value → (Value → Ans) → Ans) (tm : Tr Value) (σ : St) (k : FV → Ans) : Ans :=
  fa tm fun v => ptrK v fun b o s => noneK s (objK σ b fun ob => cellsK ob fun c d m _ _ _ _ => ifK (Nat.blt o m) (cellK c d o fun v => k (.val v)) .no)
def fFieldAddr0 (fx : Tr Value → (Value → Ans) → Ans) (tm : Tr Value) (_ : St) (k : FV → Ans) : Ans := fx tm fun v => vPtr v (fun a => optK a fun a => k (.val (.pointer (some a)))) .no
def fFieldAddr (off : Nat) (fx : Tr Value → (Value → Ans) → Ans) (tm : Tr Value) (_ : St) (k : FV → Ans) : Ans :=
  fx tm fun v => ptrK v fun b o _ => natK (Nat.add o off) fun o => k (.val (.pointer (some ⟨b, o, none⟩)))
def natOfK (v : Value) (k : Nat → Ans) : Ans := vInt v (fun _ n => Int.rec (motive := fun _ => Ans) k (fun _ => .no) n) .no
/- 'addA' -/
def addrAddK (a : Addr) (n : Nat) (k : Addr → Ans) : Ans := Nat.rec (motive := fun _ => Ans) (k a) (fun m _ => addrK a fun b o _ => natK (Nat.add o (Nat.succ m)) fun o => k ⟨b, o, none⟩) n
def fIndexArr (len size : Nat) (fx fi : Tr Value → (Value → Ans) → Ans) (tm : Tr Value) (_ : St) (k : FV → Ans) : Ans :=
  fi tm fun i => natOfK i fun i => fx tm fun v => vPtr v (fun a => optK a fun a => ifK (Nat.blt i len) (addrAddK a (Nat.mul i size) fun a => k (.val (.pointer (some a)))) .no) .no
def fIndexSl (size : Nat) (fx fi : Tr Value → (Value → Ans) → Ans) (tm : Tr Value) (_ : St) (k : FV → Ans) : Ans :=
  fi tm fun i => natOfK i fun i => fx tm fun v => vSlice v (fun a len _ => optK a fun a => ifK (Nat.blt i len) (addrAddK a (Nat.mul i size) fun a => k (.val (.pointer (some a)))) .no) .no
def nthK (l : List Value) (i : Nat) (k : Value → Ans) : Ans := optK (l[i]?) k
def fExtract (ix : Nat) (fx : Tr Value → (Value → Ans) → Ans) (tm : Tr Value) (_ : St) (k : FV → Ans) : Ans :=
  fx tm fun v => vTuple v (fun vs => Array.rec (motive := fun _ => Ans) (fun l => nthK l ix fun v => k (.val v)) vs) (fun _ => .no) .no
def fConv (kd : IntKind) (fx : Tr Value → (Value → Ans) → Ans) (tm : Tr Value) (_ : St) (k : FV → Ans) : Ans :=
  fx tm fun v => vInt v (fun _ n => Int.rec (motive := fun _ => Ans) (fun m => retNat kd m fun v => k (.val v)) (fun m => retInt kd (.negSucc m) fun v => k (.val v)) n) .no
def fIface (t : TypeId) (fx : Tr Value → (Value → Ans) → Ans) (tm : Tr Value) (_ : St) (k : FV → Ans) : Ans := fx tm fun v => k (.val (.iface t v))
def fLenSl (fx : Tr Value → (Value → Ans) → Ans) (tm : Tr Value) (_ : St) (k : FV → Ans) : Ans := fx tm fun v => vSlice v (fun _ n _ => k (.val (.int .i64 (.ofNat n)))) .no

def with1 (x : Operand) (g : (Tr Value → (Value → Ans) → Ans) → Tr Value → St → (FV → Ans) → Ans) : FltB := GetB.rec (motive := fun _ => FltB) (fun f => .mk (g f)) (opdB x)
def with2 (x y : Operand) (g : (Tr Value → (Value → Ans) → Ans) → (Tr Value → (Value → Ans) → Ans) → Tr Value → St → (FV → Ans) → Ans) : FltB :=
  GetB.rec (motive := fun _ => FltB) (fun f => GetB.rec (motive := fun _ => FltB) (fun f' => .mk (g f f')) (opdB y)) (opdB x)

def isPtrT (t : TypeId) : Bool := match P.underlying t with | some (.pointer _) => true | _ => false
def isSliceT (t : TypeId) : Bool := match P.underlying t with | some (.slice _) => true | _ => false

def fltB (o : Oper) : FltB := match o.op with
  | .move x => with1 x fMove
  | .assign x => with1 x fMove
  | .pick c a b => GetB.rec (motive := fun _ => FltB) (fun fc => with2 a b (fPick fc)) (opdB c)
  | .alloc elem => match zeroV P elem with
    | .ok z => .mk (fConst (.new ptrTo (rowOf elem z.cells.toList false false)))
    | .error _ => .mk (fGen fun σ tm => aflt P σ tm o)
  | .box elem x => with1 x (fBox elem)
  | .build t ps => .mk (fGen fun _ tm => fval (aBuild P tm t ps))
  | .buildSlice t len ps => .mk (fGen fun _ tm => aBuildSlice P tm t len ps)
  | .load t a => match und P t with
    | .ok d => bif isAggD d then .mk (fGen fun σ tm => do let v ← opd tm a; let ad ← sureAddr v; fval (loadVar P σ t ad)) else with1 a fLoad1
    | .error _ => .mk (fGen fun σ tm => aflt P σ tm o)
  | .nilCheck x => with1 x fNil
  | .binOp op t x y _ =>
    bif isShift op then with2 x y (fShift P (bif isShl op then iShl else iShr) op t x y) else
    match op with
    | .eql => bif isPtrT P t then with2 x y (fEqP P true .eql t x y) else bif isSliceT P t then with2 x y (fEqS true) else IntB.rec (motive := fun _ => FltB) (fun f => with2 x y (fBin P f op t x y)) (intB op)
    | .neq => bif isPtrT P t then with2 x y (fEqP P false .neq t x y) else bif isSliceT P t then with2 x y (fEqS false) else IntB.rec (motive := fun _ => FltB) (fun f => with2 x y (fBin P f op t x y)) (intB op)
    | _ => IntB.rec (motive := fun _ => FltB) (fun f => with2 x y (fBin P f op t x y)) (intB op)
  | .unOp op _ x => match op with
    | .not => with1 x fNot
    | _ => .mk (fGen fun σ tm => aflt P σ tm o)
  | .convert s d x => match und P s, und P d with
    | .ok (.int _), .ok (.int k) => with1 x (fConv k)
    | _, _ => .mk (fGen fun σ tm => do let a ← opd tm x; convert P σ s d a)
  | .makeInterface t x => match und P t with
    | .ok (.interface _) => .mk (fGen fun σ tm => aflt P σ tm o)
    | .ok _ => with1 x (fIface t)
    | .error _ => .mk (fGen fun σ tm => aflt P σ tm o)
  | .makeMap t r => .mk (fGen fun _ tm => aMakeMap P tm t r)
  | .makeSlice t l c => .mk (fGen fun _ tm => aMakeSlice P tm t l c)
  | .fieldAddr s x f => match und P s with
    | .ok (.struct fields) => match fields[f]? with
      | some fl => match tinfo P fl.type with
        | .ok i => bif Nat.beq i.size 0 then .mk (fGen fun σ tm => aflt P σ tm o) else bif Nat.beq fl.offset 0 then with1 x fFieldAddr0 else with1 x (fFieldAddr fl.offset)
        | .error _ => .mk (fGen fun σ tm => aflt P σ tm o)
      | none => .mk (fGen fun σ tm => aflt P σ tm o)
    | _ => .mk (fGen fun σ tm => aflt P σ tm o)
  | .indexAddr t x ix => match und P t with
    | .ok (.array len elem) => match tinfo P elem with
      | .ok i => with2 x ix (fIndexArr len i.size)
      | .error _ => .mk (fGen fun σ tm => aflt P σ tm o)
    | .ok (.slice elem) => match tinfo P elem with
      | .ok i => with2 x ix (fIndexSl i.size)
      | .error _ => .mk (fGen fun σ tm => aflt P σ tm o)
    | _ => .mk (fGen fun σ tm => aflt P σ tm o)
  | .field t x f => .mk (fGen fun _ tm => fval (aField P tm t x f))
  | .index t x ix => .mk (fGen fun _ tm => fval (aIndex P tm t x ix))
  | .lookup t x ix ok => .mk (fGen fun σ tm => fval (aLookup P σ tm t x ix ok))
  | .extract t ix => with1 t (fExtract ix)
  | .call c => match c.callee with
    | .builtin .len => match c.args.toList, c.argTypes[0]? with
      | [x], some t => bif isSliceT P t then with1 x fLenSl else .mk (fGen fun σ tm => aflt P σ tm o)
      | _, _ => .mk (fGen fun σ tm => aflt P σ tm o)
    | _ => .mk (fGen fun σ tm => aflt P σ tm o)
  | _ => .mk (fGen fun σ tm => aflt P σ tm o)

def fltK (o : Oper) (tm : Tr Value) (σ : St) (k : FV → Ans) : Ans := FltB.rec (motive := fun _ => Ans) (fun f => f tm σ k) (fltB P o)
end

end
end Go.Ev

/- The machine in continuation-passing style. -/
namespace Go.Ev
noncomputable section

/-- what is to be done at the end of the run; may the run part? -/
inductive FinB where
  | mk (f : CRes → Ans) (br : Bool)
def finAt (b : FinB) (r : CRes) : Ans := FinB.rec (motive := fun _ => Ans) (fun f _ => f r) b
def brAt (b : FinB) (k : Ans) : Ans := FinB.rec (motive := fun _ => Ans) (fun _ br => Bool.rec (motive := fun _ => Ans) .no k br) b
def andK (a b : Ans) : Ans := Ans.rec (motive := fun _ => Ans) b .no a

/-- what stays while a frame's code runs -/
structure Ctx where
  fn : FuncId
  sz : Nat
  defers : List Deferred
  kind : CallKind
  ro : Option Nat
  cs : List AFrame
  f0 : FuncId
  d : Nat
  fin : FinB

def Ctx.mst (c : Ctx) (todo : List AItem) (tm : Tr Value) (σ : St) : MSt :=
  { fr := { fn := c.fn, tmps := tm, sz := c.sz, todo, defers := c.defers, mode := .run, kind := c.kind, roundOf := c.ro }, cs := c.cs, σ }

abbrev GoK := List AItem → Tr Value → St → Ctx → Ans

/- summaries and externs: none; by 'X' itself; or a way of its own -/
inductive XB where
  | none
  | gen
  | mk (g : List Value → St → (Value → St → Ans) → Ans)

def cerr : CallF := fun _ _ _ => .error "a call"

section
variable (P : Tab) (X : Specs) (XK : FuncId → XB)

/-! ### the slow road -/

def modeK (m : FrameMode) (k e : Ans) : Ans := FrameMode.rec (motive := fun _ => Ans) k e (fun _ => e) m

def finK (c : Ctx) (m : MSt) (r : CRes) : Ans := ifK (Nat.beq m.fr.fn c.f0) (finAt c.fin r) .no
def goOn (c : Ctx) (m : MSt) (G : GoK) : Ans :=
  G m.fr.todo m.fr.tmps m.σ { fn := m.fr.fn, sz := m.fr.sz, defers := m.fr.defers, kind := m.fr.kind, ro := m.fr.roundOf, cs := m.cs, f0 := c.f0, d := c.d, fin := c.fin }
def unwK (n : Nat) : Ctx → MSt → GoK → Ans :=
  Nat.rec (motive := fun _ => Ctx → MSt → GoK → Ans) (fun _ _ _ => .no)
    (fun _ ih c m G => modeK m.fr.mode (goOn c m G) (bindE (unwind P X m) fun s => Step.rec (motive := fun _ => Ans) (fun m' => ih c m' G) (fun _ => .no) (fun r => finK c m r) s)) n
/- what a step of the abstract machine gives -/
def stepK (c : Ctx) (m : MSt) (s : E Step) (G : GoK) : Ans :=
  bindE s fun s => Step.rec (motive := fun _ => Ans) (fun m' => unwK P X 1000 c m' G) (fun l => brAt c.fin (List.rec (motive := fun _ => Ans) .yes (fun m' _ ih => andK (unwK P X 1000 c m' G) ih) l)) (fun r => finK c m r) s
def slowK (c : Ctx) (m : MSt) (G : GoK) : Ans := stepK P X c m (exec P X cerr m) G

/-! ### operations of a region -/

inductive GuB where
  | mk (f : Tr Value → (Bool → Ans) → Ans)
def guNone (_ : Tr Value) (k : Bool → Ans) : Ans := k true
def guSome (want : Bool) (f : Tr Value → (Value → Ans) → Ans) (tm : Tr Value) (k : Bool → Ans) : Ans :=
  f tm fun v => vTuple v (fun _ => k false) (fun b => ifK (Bool.rec (motive := fun _ => Bool) (!want) want b) (k true) (k false)) .no
def guNo (_ : Tr Value) (_ : Bool → Ans) : Ans := .no
def guB (ops : Array Oper) (o : Oper) : GuB := match o.guard with
  | none => .mk guNone
  | some (j, want) => match (ops[j]?).bind (·.dst) with
    | none => .mk guNo
    | some t => GetB.rec (motive := fun _ => GuB) (fun f => .mk (guSome want f)) (trGetB (pathOf (t + 1) t))
def guK (ops : Array Oper) (o : Oper) (tm : Tr Value) (k : Bool → Ans) : Ans := GuB.rec (motive := fun _ => Ans) (fun f => f tm k) (guB ops o)
def putK (d : Option Tmp) (sz : Nat) (v : Value) (tm : Tr Value) (k : Tr Value → Ans) : Ans := SetB.rec (motive := fun _ => Ans) (fun f => f sz v tm k) (setB d)

abbrev RF := List AItem → Tr Value → St → Ctx → GoK → Ans
inductive RB where
  | mk (f : RF)

def allocK (σ : St) (o : AObj) (k : Nat → St → Ans) : Ans := St.rec (motive := fun _ => Ans) (fun h n => natK n fun n => setK h n o fun h => natK (Nat.succ n) fun n' => k n ⟨h, n'⟩) σ
def nextK (σ : St) (k : Nat → St → Ans) : Ans := St.rec (motive := fun _ => Ans) (fun h n => natK n fun n => natK (Nat.succ n) fun n' => k n ⟨h, n'⟩) σ

def rEnd (k : List AItem) (tm : Tr Value) (σ : St) (c : Ctx) (G : GoK) : Ans := G k tm σ c
def rFlt (f : Tr Value → St → (FV → Ans) → Ans) (s : Nat → Value → Tr Value → (Tr Value → Ans) → Ans) (rest : RF) (k : List AItem) (tm : Tr Value) (σ : St) (c : Ctx) (G : GoK) : Ans :=
  f tm σ fun fv => FV.rec (motive := fun _ => Ans) (fun v => s c.sz v tm fun tm => rest k tm σ c G)
    (fun mk o => allocK σ o fun n σ => s c.sz (mk n) tm fun tm => rest k tm σ c G)
    (fun mk => nextK σ fun n σ => s c.sz (mk n) tm fun tm => rest k tm σ c G) fv
def rGuard (g : Tr Value → (Bool → Ans) → Ans) (s : Nat → Value → Tr Value → (Tr Value → Ans) → Ans) (yes rest : RF) (k : List AItem) (tm : Tr Value) (σ : St) (c : Ctx) (G : GoK) : Ans :=
  g tm fun b => ifK b (yes k tm σ c G) (s c.sz undef tm fun tm => rest k tm σ c G)
def rSlow (ops : Array Oper) (o : Oper) (os : List Oper) (k : List AItem) (tm : Tr Value) (σ : St) (c : Ctx) (G : GoK) : Ans :=
  stepK P X c (c.mst (.inReg ops (o :: os) :: k) tm σ) (execOper P X (c.mst (.inReg ops (o :: os) :: k) tm σ) ops o os k) G

/- store -/
def setCellsK (vs : List Value) : Tr Value → Nat → (Tr Value → Ans) → Ans :=
  List.rec (motive := fun _ => Tr Value → Nat → (Tr Value → Ans) → Ans) (fun c _ k => k c) (fun v _ ih c i k => setK c i v fun c => natK (Nat.succ i) fun i => ih c i k) vs
def allOneK (vs : List Value) (k : Ans) : Ans := List.rec (motive := fun _ => Ans) k (fun v _ ih => vOne v ih .no) vs
def lenK (vs : List Value) : Nat := List.rec (motive := fun _ => Nat) 0 (fun _ _ ih => Nat.succ ih) vs
def storeK (σ : St) (b o : Nat) (vs : List Value) (k : St → Ans) : Ans :=
  St.rec (motive := fun _ => Ans) (fun h n => getK h b fun ob => optK ob fun ob => cellsK ob fun c d m e x fz mk => ifK (Nat.ble (Nat.add o (lenK vs)) m) (ifK (Nat.ble fz o) (allOneK vs (setCellsK vs c o fun c => setK h b (.cells c d m e x fz mk) fun h => k ⟨h, n⟩)) .no) .no) σ
def storeVK (size : Nat) (fa fx : Tr Value → (Value → Ans) → Ans) (tm : Tr Value) (σ : St) (k : St → Ans) : Ans :=
  fa tm fun a => fx tm fun v => ptrK a fun b o sp => noneK sp (
    vAgg v (fun vs => Array.rec (motive := fun _ => Ans) (fun l => ifK (Nat.beq (lenK l) size) (ifK (Nat.beq size 0) .no (storeK σ b o l k)) .no) vs)
      (ifK (Nat.beq size 1) (storeK σ b o [v] k) .no))
def rStore (size : Nat) (fa fx : Tr Value → (Value → Ans) → Ans) (s : Nat → Value → Tr Value → (Tr Value → Ans) → Ans) (rest : RF) (k : List AItem) (tm : Tr Value) (σ : St) (c : Ctx) (G : GoK) : Ans :=
  storeVK size fa fx tm σ fun σ => s c.sz undef tm fun tm => rest k tm σ c G

/- append -/
def listK (c : Tr Value) (d : List Value) (n : Nat) : Nat → (List Value → Ans) → Ans :=
  Nat.rec (motive := fun _ => Nat → (List Value → Ans) → Ans) (fun _ k => k []) (fun _ ih i k => cellK c d i fun v => natK (Nat.succ i) fun i => ih i fun vs => k (v :: vs)) n
/- 'firstCells' of a slice -/
def firstK (h : Tr AObj) (n : Nat) (a : Option Addr) (k : List Value → Ans) : Ans :=
  ifK (Nat.beq n 0) (k []) (optK a fun a => addrK a fun b o sp => noneK sp (getK h b fun ob => optK ob fun ob => cellsK ob fun c d m _ _ _ _ => ifK (Nat.ble (Nat.add o n) m) (listK c d n o k) .no))
/- what is surely there: 'capLow' -/
def capK (h : Tr AObj) (size sCap : Nat) (a : Option Addr) (cellsOf : TypeId → Nat) (k : Nat → Ans) : Ans :=
  ifK (Nat.blt sCap BIG) (k sCap) (optK a fun a => addrK a fun b _ _ => getK h b fun ob => optK ob fun ob => cellsK ob fun _ _ n e ext _ _ => ifK ext (ifK (Nat.beq (cellsOf e) size) (natK (Nat.sub (Nat.div n size) (Nat.sub sCap BIG)) k) .no) .no)
def rowK (elem : TypeId) (vs : List Value) (k : AObj → Ans) : Ans := setCellsK vs .nil 0 fun c => k (.cells c [undef] (lenK vs) elem true 0 false)
def growK (h : Tr AObj) (elem : TypeId) (size sLen : Nat) (base : Option Addr) (new : List Value) (k : AObj → Ans) : Ans :=
  let slow := firstK h (Nat.mul sLen size) base fun old => rowK elem (old ++ new) k
  Option.rec (motive := fun _ => Ans) slow (fun a => addrK a fun b o sp => getK h b fun ob => Option.rec (motive := fun _ => Ans) slow (fun ob =>
    AObj.rec (motive := fun _ => Ans) (fun c d m _ _ _ _ => ifK (Nat.beq o 0) (ifK (Nat.ble (Nat.mul sLen size) m) (noneK sp (setCellsK new c (Nat.mul sLen size) fun c => natK (Nat.add (Nat.mul sLen size) (lenK new)) fun n => k (.cells c d n elem true 0 false))) .no) slow)
      (fun _ _ => slow) (fun _ _ => slow) (fun _ _ _ _ => slow) (fun _ => slow) (fun _ => slow) ob) ob) base
/- what is put behind -/
def appNewK (h : Tr AObj) (size : Nat) (x : Value) (k : Nat → List Value → Ans) (e : Ans) : Ans := @Value.rec (fun _ => Ans) (fun _ => Unit) (fun _ => Unit) (fun _ => e) (fun _ _ => e) (fun _ _ => e) (fun _ _ _ => e) (fun _ => e) (fun _ => e)
  (fun a n _ => natK n fun n => firstK h (Nat.mul n size) a fun new => k n new) (fun _ => e) (fun _ => e) (fun _ _ _ _ _ => e) e (fun _ _ _ => e) e (fun _ _ => e) (fun _ _ => e) (fun _ _ => ()) () (fun _ _ _ _ => ()) x
def appendK (elem : TypeId) (size : Nat) (s x : Value) (σ : St) (k : Value → St → Ans) (e : Ans) : Ans :=
  St.rec (motive := fun _ => Ans) (fun h nx => appNewK h size x (fun n new => vSlice s (fun base sLen sCap =>
    natK (Nat.add sLen n) fun len => capK h size sCap base P.cellsOf fun lo => ifK (Nat.ble len 1000000)
      (ifK (Nat.ble len lo)
        (Option.rec (motive := fun _ => Ans) (k (.slice none len sCap) ⟨h, nx⟩) (fun a => List.rec (motive := fun _ => Ans) (k (.slice base len sCap) ⟨h, nx⟩) (fun _ _ _ => addrAddK a (Nat.mul sLen size) fun a' => addrK a' fun b o sp => noneK sp (storeK ⟨h, nx⟩ b o new fun σ => k (.slice base len sCap) σ)) new) base)
        (natK nx fun nx => growK h elem size sLen base new fun ob => setK h nx ob fun h' => natK (Nat.succ nx) fun nx' =>
          ifK (Nat.blt sCap BIG) (k (.slice (some ⟨nx, 0, none⟩) len BIG) ⟨h', nx'⟩)
            (optK base fun a => addrK a fun b o _ => getK h b fun ob => optK ob fun ob => cellsK ob fun _ _ _ e x fz mk =>
              ifK x (ifK (Nat.beq fz 0) (ifK mk .no (ifK (Nat.beq e elem) (ifK (Nat.beq o (Nat.mul (Nat.sub sCap BIG) size)) (allOneK new (delK h' b fun h' => k (.slice (some ⟨nx, 0, none⟩) len BIG) ⟨h', nx'⟩)) .no) .no)) .no) .no))) .no) .no) e) σ
/- the element type and its size, if 'append' may go the short road -/
def appT (argTypes : Array TypeId) : Option (TypeId × Nat) :=
  match argTypes[0]? with
  | none => none
  | some t => match und P t with
    | .ok (.slice elem) => match tinfo P elem, zerosArg P argTypes, zeroV P elem with
      | .ok i, .ok false, .ok z => if i.size = 0 ∨ i.bytes > 100000 ∨ z.cells.size ≠ i.size then none else some (elem, i.size)
      | _, _, _ => none
    | _ => none
/- copy -/
def copyInK (size : Nat) (base a : Option Addr) (n : Nat) (σ : St) (k : Value → St → Ans) : Ans :=
  St.rec (motive := fun _ => Ans) (fun h nx => firstK h (Nat.mul n size) a fun cells =>
    Option.rec (motive := fun _ => Ans) (k (.int .i64 (.ofNat n)) ⟨h, nx⟩) (fun ad => List.rec (motive := fun _ => Ans) (k (.int .i64 (.ofNat n)) ⟨h, nx⟩) (fun _ _ _ => addrK ad fun b o sp => noneK sp (storeK ⟨h, nx⟩ b o cells fun σ => k (.int .i64 (.ofNat n)) σ)) cells) base) σ
def copyK (size : Nat) (d s : Value) (σ : St) (k : Value → St → Ans) (e : Ans) : Ans :=
  vSlice d (fun base dLen _ => @Value.rec (fun _ => Ans) (fun _ => Unit) (fun _ => Unit) (fun _ => e) (fun _ _ => e) (fun _ _ => e) (fun _ _ _ => e) (fun _ => e) (fun _ => e)
    (fun a sl _ => natK (Nat.min sl dLen) fun n => copyInK size base a n σ k)
    (fun _ => e) (fun _ => e) (fun _ _ _ _ _ => e) e (fun _ _ _ => e) e (fun _ _ => e) (fun _ _ => e) (fun _ _ => ()) () (fun _ _ _ _ => ()) s) e
def copyT (argTypes : Array TypeId) : Option Nat :=
  match argTypes[0]? with
  | none => none
  | some t => match und P t with
    | .ok (.slice elem) => match tinfo P elem with
      | .ok i => if i.size = 0 then none else some i.size
      | _ => none
    | _ => none
def rCopy (size : Nat) (fs fx : Tr Value → (Value → Ans) → Ans) (s : Nat → Value → Tr Value → (Tr Value → Ans) → Ans) (rest : RF) (ops : Array Oper) (o : Oper) (os : List Oper) (k : List AItem) (tm : Tr Value) (σ : St) (c : Ctx) (G : GoK) : Ans :=
  fs tm fun a => fx tm fun b => copyK size a b σ (fun v σ => s c.sz v tm fun tm => rest k tm σ c G) (rSlow P X ops o os k tm σ c G)
def rAppend (elem : TypeId) (size : Nat) (fs fx : Tr Value → (Value → Ans) → Ans) (s : Nat → Value → Tr Value → (Tr Value → Ans) → Ans) (rest : RF) (ops : Array Oper) (o : Oper) (os : List Oper) (k : List AItem) (tm : Tr Value) (σ : St) (c : Ctx) (G : GoK) : Ans :=
  fs tm fun a => fx tm fun b => appendK P elem size a b σ (fun v σ => s c.sz v tm fun tm => rest k tm σ c G) (rSlow P X ops o os k tm σ c G)

/- calls of functions that are known -/
inductive ArgB where
  | mk (f : Tr Value → Tr Value → (Tr Value → Ans) → Ans)
def argEnd (_ acc : Tr Value) (k : Tr Value → Ans) : Ans := k acc
def argMore (fx : Tr Value → (Value → Ans) → Ans) (p : Value → Tr Value → (Tr Value → Ans) → Ans) (rest : Tr Value → Tr Value → (Tr Value → Ans) → Ans) (tm acc : Tr Value) (k : Tr Value → Ans) : Ans :=
  fx tm fun v => p v acc fun acc => rest tm acc k
def argsB (xs : List Operand) : Nat → ArgB := List.rec (motive := fun _ => Nat → ArgB) (fun _ => .mk argEnd)
  (fun x _ ih i => GetB.rec (motive := fun _ => ArgB) (fun fx => PutB.rec (motive := fun _ => ArgB) (fun p => ArgB.rec (motive := fun _ => ArgB) (fun rest => .mk (argMore fx p rest)) (ih (i + 1))) (trPutB (pathOf (i + 1) i))) (opdB x)) xs
def rCall (f : FuncId) (body : Code) (sz : Nat) (args : Tr Value → Tr Value → (Tr Value → Ans) → Ans) (ops : Array Oper) (o : Oper) (os : List Oper) (k : List AItem) (tm : Tr Value) (σ : St) (c : Ctx) (G : GoK) : Ans :=
  args tm .nil fun tm' => Ctx.rec (motive := fun _ => Ans) (fun fn csz defers kind ro cs f0 d fin =>
    G [.code body] tm' σ { fn := f, sz, defers := [], kind := .normal, ro := none, cs := { fn, tmps := tm, sz := csz, todo := .inReg ops (o :: os) :: k, defers, mode := .run, kind, roundOf := ro } :: cs, f0, d, fin }) c

/- the arguments as a list -/
inductive LstB where
  | mk (f : Tr Value → (List Value → Ans) → Ans)
def lstEnd (_ : Tr Value) (k : List Value → Ans) : Ans := k []
def lstMore (fx : Tr Value → (Value → Ans) → Ans) (rest : Tr Value → (List Value → Ans) → Ans) (tm : Tr Value) (k : List Value → Ans) : Ans := fx tm fun v => rest tm fun vs => k (v :: vs)
def lstB (xs : List Operand) : LstB := List.rec (motive := fun _ => LstB) (.mk lstEnd)
  (fun x _ ih => GetB.rec (motive := fun _ => LstB) (fun fx => LstB.rec (motive := fun _ => LstB) (fun rest => .mk (lstMore fx rest)) ih) (opdB x)) xs
def rSpec (g : List Value → St → (Value → St → Ans) → Ans) (args : Tr Value → (List Value → Ans) → Ans) (s : Nat → Value → Tr Value → (Tr Value → Ans) → Ans) (rest : RF) (k : List AItem) (tm : Tr Value) (σ : St) (c : Ctx) (G : GoK) : Ans :=
  args tm fun vs => g vs σ fun v σ => s c.sz v tm fun tm => rest k tm σ c G

/- a frame for a function that is known only now -/
inductive EntB where
  | no
  | mk (body : Code) (n : Nat)
def entB (f : FuncId) : EntB := XB.rec (motive := fun _ => EntB) (match P.func? f with
  | some fn => match fn.body with
    | some body => .mk body fn.ntmps
    | none => .no
  | none => .no) .no (fun _ => .no) (XK f)
def fillK (vs : List Value) : Nat → Tr Value → (Nat → Tr Value → Ans) → Ans :=
  List.rec (motive := fun _ => Nat → Tr Value → (Nat → Tr Value → Ans) → Ans) (fun i acc k => k i acc)
    (fun v _ ih i acc k => PutB.rec (motive := fun _ => Ans) (fun p => p v acc fun acc => natK (Nat.succ i) fun i => ih i acc k) (trPutB (pathOf (Nat.succ i) i))) vs
/-- enter a function that is no summary -/
def enterK (f : FuncId) (vs : List Value) (k : Tr Value → Nat → Code → Ans) (e : Ans) : Ans :=
  EntB.rec (motive := fun _ => Ans) e (fun body n => fillK vs 0 .nil fun i acc => natK (max i n) fun sz => k acc sz body) (entB P XK f)

def putParamsK (sz : Nat) (ts : List Tmp) : List Value → Tr Value → (Tr Value → Ans) → Ans :=
  List.rec (motive := fun _ => List Value → Tr Value → (Tr Value → Ans) → Ans) (fun vs tm k => List.rec (motive := fun _ => Ans) (k tm) (fun _ _ _ => .no) vs)
    (fun t _ ih vs tm k => List.rec (motive := fun _ => Ans) .no (fun v vs _ => PutB.rec (motive := fun _ => Ans) (fun p => ifK (Nat.blt t sz) (p v tm fun tm => ih vs tm k) .no) (trPutB (pathOf (t + 1) t))) vs) ts
def loopK (o : AObj) (k : LoopState → Option Code → FuncId → Tr Value → Nat → Array Tmp → Code → Code → Nat → Ans) : Ans :=
  AObj.rec (motive := fun _ => Ans) (fun _ _ _ _ _ _ _ => .no) (fun _ _ => .no) (fun _ _ => .no) (fun _ _ _ _ => .no) (fun l => ALoop.rec (motive := fun _ => Ans) k l) (fun _ => .no) o
/- a call of a function value -/
def rCallV (fx : Tr Value → (Value → Ans) → Ans) (args : Tr Value → (List Value → Ans) → Ans) (ops : Array Oper) (o : Oper) (os : List Oper) (k : List AItem) (tm : Tr Value) (σ : St) (c : Ctx) (G : GoK) : Ans :=
  let slow := rSlow P X ops o os k tm σ c G
  fx tm fun fv => vFunc fv (fun fn first captured => Fn.rec (motive := fun _ => Ans)
    (fun f => args tm fun vs => Ctx.rec (motive := fun _ => Ans) (fun cfn csz defers kind ro cs f0 d fin =>
      enterK P XK f (first.toList ++ vs ++ captured.toList) (fun tm' sz body => G [.code body] tm' σ { fn := f, sz, defers := [], kind := .normal, ro := none, cs := { fn := cfn, tmps := tm, sz := csz, todo := .inReg ops (o :: os) :: k, defers, mode := .run, kind, roundOf := ro } :: cs, f0, d, fin }) slow) c)
    (fun _ => slow) (fun _ _ => slow) (fun _ _ _ _ => slow)
    (fun l => args tm fun vs => Array.rec (motive := fun _ => Ans) (fun first => List.rec (motive := fun _ => Ans) (Ctx.rec (motive := fun _ => Ans) (fun cfn csz defers kind ro cs f0 d fin =>
      objK σ l fun ob => loopK ob fun _ _ lfn ltm lsz params assign body _ => putParamsK lsz params.toList vs ltm fun tm' =>
        G [.code assign, .beginRound, .code body] tm' σ { fn := lfn, sz := lsz, defers := [], kind := .normal, ro := some l, cs := { fn := cfn, tmps := tm, sz := csz, todo := .inReg ops (o :: os) :: k, defers, mode := .run, kind, roundOf := ro } :: cs, f0, d, fin }) c) (fun _ _ _ => slow) first) first)
    fn) slow

def callB (ops : Array Oper) (o : Oper) (os : List Oper) (rest : RF) (c : Call) : RB := match c.callee with
  | .value (.func f) => XB.rec (motive := fun _ => RB)
    (match P.func? f with
    | some fn => match fn.body with
      | some body => ArgB.rec (motive := fun _ => RB) (fun a => .mk (rCall f body (max c.args.toList.length fn.ntmps) a ops o os)) (argsB c.args.toList 0)
      | none => .mk (rSlow P X ops o os)
    | none => .mk (rSlow P X ops o os))
    (.mk (rSlow P X ops o os))
    (fun g => LstB.rec (motive := fun _ => RB) (fun a => SetB.rec (motive := fun _ => RB) (fun s => .mk (rSpec g a s rest)) (setB o.dst)) (lstB c.args.toList)) (XK f)
  | .value x => GetB.rec (motive := fun _ => RB) (fun fx => LstB.rec (motive := fun _ => RB) (fun a => .mk (rCallV P X XK fx a ops o os)) (lstB c.args.toList)) (opdB x)
  | .builtin .append => match appT P c.argTypes, c.args.toList with
    | some (elem, size), [x, y] => GetB.rec (motive := fun _ => RB) (fun fx => GetB.rec (motive := fun _ => RB) (fun fy => SetB.rec (motive := fun _ => RB) (fun s => .mk (rAppend P X elem size fx fy s rest ops o os)) (setB o.dst)) (opdB y)) (opdB x)
    | _, _ => .mk (rSlow P X ops o os)
  | .builtin .copy => match copyT P c.argTypes, c.args.toList with
    | some size, [x, y] => GetB.rec (motive := fun _ => RB) (fun fx => GetB.rec (motive := fun _ => RB) (fun fy => SetB.rec (motive := fun _ => RB) (fun s => .mk (rCopy P X size fx fy s rest ops o os)) (setB o.dst)) (opdB y)) (opdB x)
    | _, _ => .mk (rSlow P X ops o os)
  | _ => .mk (rSlow P X ops o os)

def wantedB (ops : Array Oper) (o : Oper) (os : List Oper) (rest : RF) : RB :=
  bif isFlt o then FltB.rec (motive := fun _ => RB) (fun f => SetB.rec (motive := fun _ => RB) (fun s => .mk (rFlt f s rest)) (setB o.dst)) (fltB P o) else
  match o.op with
  | .call c => callB P X XK ops o os rest c
  | .store t a x => match tinfo P t with
    | .ok i => GetB.rec (motive := fun _ => RB) (fun fa => GetB.rec (motive := fun _ => RB) (fun fx => SetB.rec (motive := fun _ => RB) (fun s => .mk (rStore i.size fa fx s rest)) (setB o.dst)) (opdB x)) (opdB a)
    | .error _ => .mk (rSlow P X ops o os)
  | _ => .mk (rSlow P X ops o os)

def operB (ops : Array Oper) (o : Oper) (os : List Oper) (rest : RF) : RB :=
  RB.rec (motive := fun _ => RB) (fun y => match o.guard with
    | none => .mk y
    | some _ => GuB.rec (motive := fun _ => RB) (fun g => SetB.rec (motive := fun _ => RB) (fun s => .mk (rGuard g s y rest)) (setB o.dst)) (guB ops o)) (wantedB P X XK ops o os rest)

def opsB (ops : Array Oper) (os : List Oper) : RB :=
  List.rec (motive := fun _ => RB) (.mk rEnd) (fun o os ih => RB.rec (motive := fun _ => RB) (fun rest => operB P X XK ops o os rest) ih) os

/-! ### regions whose order is drawn -/

def drK (s : DR) (k : Tr Value → St → List (Nat × AObj) → Nat → Nat → Option Nat → List St → List Evt → Ans) : Ans := DR.rec (motive := fun _ => Ans) k s

def fltGoK (bs : List Nat) (sz n0 : Nat) (i : Nat) (o : Oper) (tm : Tr Value) (base : St) (pend : List (Nat × AObj)) (done since : Nat) (lastW : Option Nat) (past : List St) (evts : List Evt) (w : Bool) (k : DR → Ans) (fv : FV) : Ans :=
  let fin (v : Value) (pend : List (Nat × AObj)) : Ans := putK o.dst sz v tm fun tm' => natK (Nat.lor done (Nat.pow 2 i)) fun done' => natK (Nat.lor since (Nat.pow 2 i)) fun since' =>
        k { tm := tm', base, pend, done := done', since := since', lastW, past, evts := { i, o, wanted := w, tm, val := v, fv := some fv, seg := past.length } :: evts }
  FV.rec (motive := fun _ => Ans) (fun v => fin v pend) (fun mk ob => natK (Nat.add n0 i) fun n => fin (mk n) (pend ++ [(n, ob)])) (fun mk => natK (Nat.add n0 i) fun n => fin (mk n) pend) fv
def runFltK (ops : Array Oper) (bs : List Nat) (sz n0 : Nat) (i : Nat) (o : Oper) (s : DR) (k : DR → Ans) : Ans :=
  drK s fun tm base pend done since lastW past evts =>
    ifK (tb done i) .no (ifK (subMask (bs.getD i 0) done) (guK ops o tm fun w =>
      ifK w (fltK P o tm base (fltGoK bs sz n0 i o tm base pend done since lastW past evts w k)) (fltGoK bs sz n0 i o tm base pend done since lastW past evts w k (.val undef))) .no)

def runMaskK (ops : Array Oper) (bs : List Nat) (sz n0 : Nat) (mask : Nat) (l : List (Oper × Nat)) : DR → (DR → Ans) → Ans :=
  List.rec (motive := fun _ => DR → (DR → Ans) → Ans) (fun s k => k s)
    (fun p _ ih s k => Prod.rec (motive := fun _ => Ans) (fun o i => ifK (tb mask i) (drK s fun tm base pend done since lastW past evts => ifK (tb done i) (ih s k) (runFltK P ops bs sz n0 i o s fun s => ih s k)) (ih s k)) p) l

inductive WrB where
  | gen
  | call (f : FuncId) (args : Tr Value → (List Value → Ans) → Ans)
  | spec (g : List Value → St → (Value → St → Ans) → Ans) (args : Tr Value → (List Value → Ans) → Ans)
  | app (elem : TypeId) (size : Nat) (fx fy : Tr Value → (Value → Ans) → Ans)
  | store (size : Nat) (fa fx : Tr Value → (Value → Ans) → Ans)
  | copy (size : Nat) (fx fy : Tr Value → (Value → Ans) → Ans)
def wrB (o : Oper) : WrB := match o.op with
  | .call c => match c.callee with
    | .value (.func f) => XB.rec (motive := fun _ => WrB)
      (match P.func? f with
      | some fn => bif fn.body.isSome then LstB.rec (motive := fun _ => WrB) (fun a => .call f a) (lstB c.args.toList) else .gen
      | none => .gen) .gen
      (fun g => LstB.rec (motive := fun _ => WrB) (fun a => .spec g a) (lstB c.args.toList)) (XK f)
    | .builtin .append => match appT P c.argTypes, c.args.toList with
      | some (elem, size), [x, y] => GetB.rec (motive := fun _ => WrB) (fun fx => GetB.rec (motive := fun _ => WrB) (fun fy => .app elem size fx fy) (opdB y)) (opdB x)
      | _, _ => .gen
    | .builtin .copy => match copyT P c.argTypes, c.args.toList with
      | some size, [x, y] => GetB.rec (motive := fun _ => WrB) (fun fx => GetB.rec (motive := fun _ => WrB) (fun fy => .copy size fx fy) (opdB y)) (opdB x)
      | _, _ => .gen
    | _ => .gen
  | .store t a x => match tinfo P t with
    | .ok i => GetB.rec (motive := fun _ => WrB) (fun fa => GetB.rec (motive := fun _ => WrB) (fun fx => .store i.size fa fx) (opdB x)) (opdB a)
    | .error _ => .gen
  | _ => .gen

/- a call from within -/
abbrev CallK := FuncId → List Value → St → (CRes → Ans) → Ans
def outcomeK (callK : CallK) (r : Ret) (k : CRes → Ans) : Ans :=
  Ret.rec (motive := fun _ => Ans) (fun v σ => k (.ret v σ)) (fun _ => .no) (fun f args σ => callK f args σ k) (fun _ _ v σ => k (.ret v σ)) (fun _ _ _ => .no) (fun _ _ => .no) (fun _ => .no) (fun v σ => k (.panic [{ v, recovered := false }] σ)) r

def addPendK (l : List (Nat × AObj)) : Tr AObj → (Tr AObj → Ans) → Ans :=
  List.rec (motive := fun _ => Tr AObj → (Tr AObj → Ans) → Ans) (fun h k => k h) (fun p _ ih h k => Prod.rec (motive := fun _ => Ans) (fun a o => natK a fun a => setK h a o fun h => ih h k) p) l
/- a call of a function that is known, or an operation that is none -/
def wrtK (callK : CallK) (o : Oper) (tm : Tr Value) (σ : St) (k : CRes → Ans) : Ans :=
  WrB.rec (motive := fun _ => Ans) (bindE (awrt P X σ tm o) fun r => outcomeK callK r k)
    (fun f args => args tm fun vs => callK f vs σ k)
    (fun g args => args tm fun vs => g vs σ fun v σ => k (.ret v σ))
    (fun elem size fx fy => fx tm fun a => fy tm fun b => appendK P elem size a b σ (fun v σ => k (.ret v σ)) .no)
    (fun size fa fx => storeVK size fa fx tm σ fun σ => k (.ret undef σ))
    (fun size fx fy => fx tm fun a => fy tm fun b => copyK size a b σ (fun v σ => k (.ret v σ)) .no) (wrB P XK o)
def runWK (callK : CallK) (ops : Array Oper) (bs : List Nat) (sz n0 : Nat) (i : Nat) (o : Oper) (s : DR) (k : WR → Ans) : Ans :=
  drK s fun tm base pend done since lastW past evts =>
    guK ops o tm fun w => ifK w
      (ifK (tb done i) .no (ifK (subMask (bs.getD i 0) done && subMask since (bs.getD i 0) && lastOk (bs.getD i 0) lastW)
        (St.rec (motive := fun _ => Ans) (fun h nx => addPendK pend h fun h => wrtK P X XK callK o tm ⟨h, nx⟩ fun c => CRes.rec (motive := fun _ => Ans)
          (fun v σ => putK o.dst sz v tm fun tm' => natK (done ||| 2 ^ i) fun done' => k (.ok { tm := tm', base := σ, pend := [], done := done', since := 0, lastW := some i, past := base :: past, evts := { i, o, wanted := true, tm, val := v, fv := none, seg := past.length } :: evts }))
          (fun chain σ => k (.panic chain σ s i o)) c) base) .no))
      (runFltK P ops bs sz n0 i o s fun s => k (.ok s))

def runWsK (callK : CallK) (ops : Array Oper) (bs : List Nat) (sz n0 : Nat) (l : List (Oper × Nat)) (ws : List (Oper × Nat)) : DR → (WR → Ans) → Ans :=
  List.rec (motive := fun _ => DR → (WR → Ans) → Ans) (fun s k => runMaskK P ops bs sz n0 (2 ^ l.length - 1) l s fun s => k (.ok s))
    (fun p _ ih s k => Prod.rec (motive := fun _ => Ans) (fun o i => drK s fun tm base pend done since lastW past evts => ifK (tb done i) (ih s k) (runMaskK P ops bs sz n0 (bs.getD i 0) l s fun s =>
      runWK P X XK callK ops bs sz n0 i o s fun r => WR.rec (motive := fun _ => Ans) (fun s => ih s k) (fun c σ s i o => k (.panic c σ s i o)) r)) p) ws

/- 'checkEvts' -/
def recheckK (e : Evt) (fv : FV) (l : List St) (k : Ans) : Ans :=
  List.rec (motive := fun _ => Ans) k (fun σ _ ih => Evt.rec (motive := fun _ => Ans) (fun _ o _ tm _ _ _ => fltK P o tm σ fun f => FV.rec (motive := fun _ => Ans) (fun v => FV.rec (motive := fun _ => Ans) (fun w => ifK (valEq 20 v w) ih .no) (fun _ _ => .no) (fun _ => .no) fv) (fun _ _ => .no) (fun _ => .no) f) e) l
def checkK (bs : List Nat) (ws : List Nat) (past : List St) (l : List Evt) (k : Ans) : Ans :=
  List.rec (motive := fun _ => Ans) k (fun e _ ih => Evt.rec (motive := fun _ => Ans) (fun i o wanted _ _ fv seg => Option.rec (motive := fun _ => Ans) ih (fun fv => ifK wanted (ifK (noHeap o) ih (ifK (Nat.ble seg (countW ws (bs.getD i 0))) ih (recheckK P e fv ((past.take seg).drop (countW ws (bs.getD i 0))) ih))) ih) fv) e) l
def writesK (l : List Evt) : (List Nat → Ans) → Ans :=
  List.rec (motive := fun _ => (List Nat → Ans) → Ans) (fun k => k []) (fun e _ ih k => Evt.rec (motive := fun _ => Ans) (fun i _ _ _ _ fv _ => Option.rec (motive := fun _ => Ans) (ih fun ws => k (i :: ws)) (fun _ => ih k) fv) e) l
def checksK (bs : List Nat) (past : List St) (evts : List Evt) (k : Ans) : Ans :=
  List.rec (motive := fun _ => Ans) k (fun _ _ _ => writesK evts fun ws => checkK P bs ws past.reverse evts k) past

def drawnK (callK : CallK) (ops : Array Oper) (sz : Nat) (tm : Tr Value) (σ : St) (k : DRes → Ans) : Ans :=
  let l := ops.toList.zipIdx
  let bs := befores ops.toList
  ifK (drawOk ops.toList bs) (St.rec (motive := fun _ => Ans) (fun h n0 => natK (n0 + ops.size) fun n1 =>
    runWsK P X XK callK ops bs sz n0 l (l.filter isWr) { tm, base := { heap := h, next := n1 }, pend := [], done := 0, since := 0, lastW := none, past := [], evts := [] } fun r =>
      WR.rec (motive := fun _ => Ans)
        (fun s => drK s fun tm' base pend done _ _ past evts => ifK (Nat.beq done (2 ^ ops.size - 1)) (checksK P bs past evts (St.rec (motive := fun _ => Ans) (fun h nx => addPendK pend h fun h => k (.ok tm' ⟨h, nx⟩)) base)) .no)
        (fun c σp s p _ => runMaskK P ops bs sz n0 (freeMask bs p l) l s fun s' => drK s' fun _ _ _ _ _ _ past evts =>
          checksK P bs past evts (ifK (l.all (fun (_, i) => s'.done.testBit i || i == p || (bs.getD i 0).testBit p)) (k (.panic c (dropDsts tm ops.toList) σp)) .no)) r) σ) .no

def callsK (G : GoK) (d : Nat) : CallK := Nat.rec (motive := fun _ => CallK) (fun _ _ _ _ => .no)
  (fun d _ f args σ k => enterK P XK f args (fun tm sz body => G [.code body] tm σ { fn := f, sz, defers := [], kind := .normal, ro := none, cs := [], f0 := f, d, fin := .mk k false }) .no) d

def raiseK (c : Ctx) (chain : List PanicEntry) (tm : Tr Value) (σ : St) (G : GoK) : Ans :=
  unwK P X 1000 c { fr := raise { fn := c.fn, tmps := tm, sz := c.sz, todo := [], defers := c.defers, mode := .run, kind := c.kind, roundOf := c.ro } chain, cs := c.cs, σ } G

def rDrawn (ops : Array Oper) (k : List AItem) (tm : Tr Value) (σ : St) (c : Ctx) (G : GoK) : Ans :=
  Ctx.rec (motive := fun _ => Ans) (fun fn sz defers kind ro cs f0 d fin =>
    drawnK P X XK (callsK P XK G d) ops sz tm σ fun r => DRes.rec (motive := fun _ => Ans) (fun tm σ => G k tm σ ⟨fn, sz, defers, kind, ro, cs, f0, d, fin⟩) (fun ch tm σ => raiseK P X ⟨fn, sz, defers, kind, ro, cs, f0, d, fin⟩ ch tm σ G) r) c

/-! ### returns -/

inductive ResB where
  | no
  | mk (f : Tr Value → St → (Value → Ans) → Ans)
def resZero (_ : Tr Value) (_ : St) (k : Value → Ans) : Ans := k (.tuple #[])
def resOne (f : Tr Value → (Value → Ans) → Ans) (tm : Tr Value) (_ : St) (k : Value → Ans) : Ans := f tm k
def resGen (fn : Func) (tm : Tr Value) (σ : St) (k : Value → Ans) : Ans := bindE (resultsOf P σ tm fn.results.toList) fun vs => match vs with
  | [v] => k v
  | vs => k (.tuple vs.toArray)
def resTmps (ts : List ResultVar) : Tr Value → (List Value → Ans) → Ans :=
  List.rec (motive := fun _ => Tr Value → (List Value → Ans) → Ans) (fun _ k => k [])
    (fun r _ ih tm k => ResultVar.rec (motive := fun _ => Ans) (fun t => GetB.rec (motive := fun _ => Ans) (fun f => f tm fun v => ih tm fun vs => k (v :: vs)) (trGetB (pathOf (t + 1) t))) (fun _ _ => .no) r) ts
def resMany (ts : List ResultVar) (tm : Tr Value) (_ : St) (k : Value → Ans) : Ans := resTmps ts tm fun vs => k (.tuple ⟨vs⟩)
def isTmp (r : ResultVar) : Bool := match r with | .tmp _ => true | _ => false
def resB (fn : FuncId) : ResB := match P.func? fn with
  | none => .no
  | some f => match f.results.toList with
    | [] => .mk resZero
    | [.tmp t] => GetB.rec (motive := fun _ => ResB) (fun f => .mk (resOne f)) (trGetB (pathOf (t + 1) t))
    | a :: b :: l => bif (a :: b :: l).all isTmp then .mk (resMany (a :: b :: l)) else .mk (resGen P f)
    | _ => .mk (resGen P f)

def slowRet (c : Ctx) (todo : List AItem) (tm : Tr Value) (σ : St) (j : Option Code) (G : GoK) : Ans := stepK P X c (c.mst todo tm σ) (leave (c.mst todo tm σ) j) G
def frK (fr : AFrame) (k : FuncId → Tr Value → Nat → List AItem → List Deferred → FrameMode → CallKind → Option Nat → Ans) : Ans := AFrame.rec (motive := fun _ => Ans) k fr
def regK (todo : List AItem) (k : Array Oper → Oper → List Oper → List AItem → Ans) (e : Ans) : Ans :=
  List.rec (motive := fun _ => Ans) e (fun x tl _ => AItem.rec (motive := fun _ => Ans) (fun _ => e) (fun _ => e) (fun _ => e) (fun _ => e) (fun ops os => List.rec (motive := fun _ => Ans) e (fun o os _ => k ops o os tl) os) (fun _ => e) (fun _ => e) e x) todo
def normalK (kd : CallKind) (k e : Ans) : Ans := CallKind.rec (motive := fun _ => Ans) k e e e e kd
/- give a value to the frame below -/
def backK (cs : List AFrame) (v : Value) (σ : St) (f0 d : Nat) (fin : FinB) (G : GoK) (slow : Ans) : Ans :=
  List.rec (motive := fun _ => Ans) slow (fun fr cs' _ =>
    frK fr fun fn' tm' sz' todo' defers' mode' kind' ro' => regK todo' (fun ops o os k => modeK mode'
      (putK o.dst sz' v tm' fun tm' => G (.inReg ops os :: k) tm' σ ⟨fn', sz', defers', kind', ro', cs', f0, d, fin⟩) slow) slow) cs
def isNoneK (j : Option Code) : Bool := Option.rec (motive := fun _ => Bool) true (fun _ => false) j
/-- return from the frame: the todo is empty or begins with 'ret' -/
def retK (j : Option Code) (todo : List AItem) (tm : Tr Value) (σ : St) (c : Ctx) (G : GoK) : Ans :=
  Ctx.rec (motive := fun _ => Ans) (fun fn sz defers kind ro cs f0 d fin =>
    let slow : Ans := slowRet P X ⟨fn, sz, defers, kind, ro, cs, f0, d, fin⟩ todo tm σ j G
    Option.rec (motive := fun _ => Ans) (List.rec (motive := fun _ => Ans) (normalK kind
      (ResB.rec (motive := fun _ => Ans) slow (fun f => f tm σ fun v => List.rec (motive := fun _ => Ans) (ifK (Nat.beq fn f0) (finAt fin (.ret v σ)) .no) (fun _ _ _ => backK cs v σ f0 d fin G slow) cs) (resB P fn)) slow) (fun _ _ _ => slow) defers)
      (fun l => normalK kind (St.rec (motive := fun _ => Ans) (fun h nx => getK h l fun ob => optK ob fun ob => loopK ob fun _ _ lfn ltm lsz params assign body ld =>
        setK h l (.loop ⟨Bool.rec .done .ready (isNoneK j), j, lfn, ltm, lsz, params, assign, body, ld⟩) fun h => backK cs (.bool (isNoneK j)) ⟨h, nx⟩ f0 d fin G slow) σ) slow) ro) c
def beginK (k : List AItem) (tm : Tr Value) (σ : St) (c : Ctx) (G : GoK) : Ans :=
  Ctx.rec (motive := fun _ => Ans) (fun fn sz defers kind ro cs f0 d fin => optK ro fun l => St.rec (motive := fun _ => Ans) (fun h nx => getK h l fun ob => optK ob fun ob => loopK ob fun st pd lfn ltm lsz params assign body ld =>
    LoopState.rec (motive := fun _ => Ans) (setK h l (.loop ⟨.busy, pd, lfn, ltm, lsz, params, assign, body, ld⟩) fun h => G k tm ⟨h, nx⟩ ⟨fn, sz, defers, kind, ro, cs, f0, d, fin⟩) .no .no .no st) σ) c

/-! ### code -/

abbrev CF := List AItem → Tr Value → St → Ctx → GoK → Ans
inductive CB where
  | mk (f : CF)

def cSkip (k : List AItem) (tm : Tr Value) (σ : St) (c : Ctx) (G : GoK) : Ans := G k tm σ c
def cPush (x : AItem) (f : CF) (k : List AItem) (tm : Tr Value) (σ : St) (c : Ctx) (G : GoK) : Ans := f (x :: k) tm σ c G
def cCond (g : Tr Value → (Value → Ans) → Ans) (a b : CF) (k : List AItem) (tm : Tr Value) (σ : St) (c : Ctx) (G : GoK) : Ans := g tm fun v => vBool v (fun t => ifK t (a k tm σ c G) (b k tm σ c G)) .no
def cSlow (cd : Code) (k : List AItem) (tm : Tr Value) (σ : St) (c : Ctx) (G : GoK) : Ans := slowK P X c (c.mst (.code cd :: k) tm σ) G
def cExit (id : Nat) (k : List AItem) (tm : Tr Value) (σ : St) (c : Ctx) (G : GoK) : Ans := Option.rec (motive := fun _ => Ans) (slowK P X c (c.mst (.code (.exit id) :: k) tm σ) G) (fun k => G k tm σ c) (exitTo id k)
def cRet (k : List AItem) (tm : Tr Value) (σ : St) (c : Ctx) (G : GoK) : Ans := retK P X (some .ret) (.code .ret :: k) tm σ c G

def regionB (ops : Array Oper) (draw : Bool) : CB :=
  bif draw then .mk (rDrawn P X XK ops) else RB.rec (motive := fun _ => CB) (fun f => .mk f) (opsB P X XK ops ops.toList)

def codeB (c : Code) : CB :=
  Code.rec (motive := fun _ => CB)
    (.mk cSkip)
    (fun _ ops draw => regionB P X XK ops draw)
    (fun _ b iha _ => CB.rec (motive := fun _ => CB) (fun fa => .mk (cPush (.code b) fa)) iha)
    (fun x a b iha ihb => GetB.rec (motive := fun _ => CB) (fun g => CB.rec (motive := fun _ => CB) (fun fa => CB.rec (motive := fun _ => CB) (fun fb => .mk (cCond g fa fb)) ihb) iha) (opdB x))
    (fun id _ ih => CB.rec (motive := fun _ => CB) (fun f => .mk (cPush (.inBlock id) f)) ih)
    (fun b ih => CB.rec (motive := fun _ => CB) (fun f => .mk (cPush (.inLoop b) f)) ih)
    (fun f p a b _ _ => .mk (cSlow P X (.rangeFunc f p a b)))
    (fun id => .mk (cExit P X id))
    (fun b ih => CB.rec (motive := fun _ => CB) (fun f => .mk (cPush (.inScope b) f)) ih)
    (fun _ => .mk cSkip)
    (fun l => .mk (cSlow P X (.goto l)))
    (.mk (cRet P X))
    (fun _ => .mk fun _ _ _ _ _ => .no) c

def popK (todo : List AItem) (tm : Tr Value) (σ : St) (c : Ctx) (G : GoK) : Ans :=
  List.rec (motive := fun _ => Ans) (retK P X none [] tm σ c G)
    (fun x k _ => AItem.rec (motive := fun _ => Ans)
      (fun cd => CB.rec (motive := fun _ => Ans) (fun f => f k tm σ c G) (codeB P X XK cd))
      (fun _ => G k tm σ c)
      (fun b => CB.rec (motive := fun _ => Ans) (fun f => f (.inLoop b :: k) tm σ c G) (codeB P X XK b))
      (fun _ => G k tm σ c)
      (fun ops os => RB.rec (motive := fun _ => Ans) (fun f => f k tm σ c G) (opsB P X XK ops os))
      (fun l => slowK P X c (c.mst (.inRangeFunc l :: k) tm σ) G)
      (fun l => slowK P X c (c.mst (.endRangeFunc l :: k) tm σ) G)
      (beginK k tm σ c G) x) todo

/-- the machine: at most n items -/
def goK (n : Nat) : GoK := Nat.rec (motive := fun _ => GoK) (fun _ _ _ _ => .no) (fun _ ih todo tm σ c => popK P X XK todo tm σ c ih) n

def evalK (n d : Nat) (f : FuncId) (args : List Value) (σ : St) (fin : CRes → Ans) (br : Bool := false) : Ans :=
  bindE (enterFrame P f args .normal) fun a => goK P X XK n a.todo a.tmps σ { fn := a.fn, sz := a.sz, defers := a.defers, kind := a.kind, ro := a.roundOf, cs := [], f0 := f, d, fin := .mk fin br }
end

end
end Go.Ev

/- The operations in continuation-passing style answer as 'aflt' does. -/
namespace Go.Ev.K

theorem bindE_yes {α : Type} {x : E α} {k : α → Ans} (h : bindE x k = .yes) : ∃ a, x = .ok a ∧ k a = .yes := by
  cases x with
  | error e => cases h
  | ok a => exact ⟨a, rfl, h⟩
theorem ifK_yes {b : Bool} {t e : Ans} (h : ifK b t e = .yes) : (b = true ∧ t = .yes) ∨ (b = false ∧ e = .yes) := by
  cases b with
  | true => exact .inl ⟨rfl, h⟩
  | false => exact .inr ⟨rfl, h⟩
theorem ifK_no {b : Bool} {t : Ans} (h : ifK b t .no = .yes) : b = true ∧ t = .yes := by
  cases b with
  | true => exact ⟨rfl, h⟩
  | false => cases h
theorem ifK_non {b : Bool} {e : Ans} (h : ifK b .no e = .yes) : b = false ∧ e = .yes := by
  cases b with
  | true => cases h
  | false => exact ⟨rfl, h⟩
theorem optK_yes {α : Type} {o : Option α} {k : α → Ans} (h : optK o k = .yes) : ∃ a, o = some a ∧ k a = .yes := by
  cases o with
  | none => cases h
  | some a => exact ⟨a, rfl, h⟩
theorem natK_eq (n : Nat) (k : Nat → Ans) : natK n k = k n := by cases n <;> rfl
theorem intK_eq (n : Int) (k : Int → Ans) : intK n k = k n := by
  cases n <;> (simp only [intK]; exact natK_eq _ _)
theorem tb_eq (m i : Nat) : tb m i = m.testBit i := by
  simp only [tb, Nat.testBit]
  show Nat.beq ((m >>> i) &&& 1) 1 = (1 &&& (m >>> i) != 0)
  rw [Nat.and_comm 1]
  have h : (m >>> i) &&& 1 = (m >>> i) % 2 := Nat.and_one_is_mod _
  rw [h]
  rcases Nat.mod_two_eq_zero_or_one (m >>> i) with h | h <;> rw [h] <;> rfl

/-! ### tries -/


theorem trGet_ok : ∀ (n k : Nat), k < n → ∀ (t : Tr Value) (kk : Value → Ans), (trGetB (pathOf n k)).f t kk = .yes → ∃ v, t.get k = some v ∧ kk v = .yes := by
  intro n
  induction n with
  | zero => intro k h; omega
  | succ n ih =>
    intro k hk t kk h
    simp only [pathOf, cond_eq_ite, Nat.beq_eq] at h
    by_cases h0 : k = 0
    · subst h0
      rw [if_pos rfl] at h
      cases t with
      | nil => cases h
      | node l v r =>
        obtain ⟨a, ha, h⟩ := optK_yes (show optK v kk = .yes from h)
        exact ⟨a, by simp [Tr.get, ha], h⟩
    · rw [if_neg h0] at h
      by_cases ho : k % 2 = 1
      · rw [if_pos ho] at h
        have hb := ih (k / 2) (by omega)
        revert h
        simp only [trGetB]
        rw [show (List.rec (motive := fun _ => GetB) (GetB.mk trLeaf) (fun b _ ih => GetB.rec (motive := fun _ => GetB) (fun f => Bool.rec (motive := fun _ => GetB) (.mk (trRight f)) (.mk (trLeft f)) b) ih) (pathOf n (k / 2)) : GetB) = trGetB (pathOf n (k / 2)) from rfl]
        cases hg : trGetB (pathOf n (k / 2)) with
        | mk f =>
          rw [hg] at hb
          intro h
          cases t with
          | nil => cases h
          | node l v r =>
            obtain ⟨a, ha, h⟩ := hb l kk h
            exact ⟨a, by simp [Tr.get, cond_eq_ite, h0, ho, ha], h⟩
      · rw [if_neg ho] at h
        have hb := ih (k / 2 - 1) (by omega)
        revert h
        simp only [trGetB]
        rw [show (List.rec (motive := fun _ => GetB) (GetB.mk trLeaf) (fun b _ ih => GetB.rec (motive := fun _ => GetB) (fun f => Bool.rec (motive := fun _ => GetB) (.mk (trRight f)) (.mk (trLeft f)) b) ih) (pathOf n (k / 2 - 1)) : GetB) = trGetB (pathOf n (k / 2 - 1)) from rfl]
        cases hg : trGetB (pathOf n (k / 2 - 1)) with
        | mk f =>
          rw [hg] at hb
          intro h
          cases t with
          | nil => cases h
          | node l v r =>
            obtain ⟨a, ha, h⟩ := hb r kk h
            exact ⟨a, by simp [Tr.get, cond_eq_ite, h0, ho, ha], h⟩

theorem trPut_eq : ∀ (n k : Nat), k < n → ∀ (x : Value) (t : Tr Value) (kk : Tr Value → Ans), (trPutB (pathOf n k)).f x t kk = kk (Tr.setF n t k (some x)) := by
  intro n
  induction n with
  | zero => intro k h; omega
  | succ n ih =>
    intro k hk x t kk
    simp only [pathOf, cond_eq_ite, Nat.beq_eq]
    by_cases h0 : k = 0
    · subst h0
      rw [if_pos rfl]
      cases t with
      | nil => rfl
      | node l v r => rfl
    · rw [if_neg h0]
      by_cases ho : k % 2 = 1
      · rw [if_pos ho]
        have hb := ih (k / 2) (by omega)
        simp only [trPutB]
        rw [show (List.rec (motive := fun _ => PutB) (PutB.mk puLeaf) (fun b _ ih => PutB.rec (motive := fun _ => PutB) (fun f => Bool.rec (motive := fun _ => PutB) (.mk (puRight f)) (.mk (puLeft f)) b) ih) (pathOf n (k / 2)) : PutB) = trPutB (pathOf n (k / 2)) from rfl]
        cases hg : trPutB (pathOf n (k / 2)) with
        | mk f =>
          rw [hg] at hb
          simp only [PutB.f] at hb ⊢
          cases t with
          | nil => simp only [Tr.setF, cond_eq_ite, Nat.beq_eq, h0, ho, if_true, if_false]; exact hb x _ _
          | node l v r => simp only [Tr.setF, cond_eq_ite, Nat.beq_eq, h0, ho, if_true, if_false]; exact hb x _ _
      · rw [if_neg ho]
        have hb := ih (k / 2 - 1) (by omega)
        simp only [trPutB]
        rw [show (List.rec (motive := fun _ => PutB) (PutB.mk puLeaf) (fun b _ ih => PutB.rec (motive := fun _ => PutB) (fun f => Bool.rec (motive := fun _ => PutB) (.mk (puRight f)) (.mk (puLeft f)) b) ih) (pathOf n (k / 2 - 1)) : PutB) = trPutB (pathOf n (k / 2 - 1)) from rfl]
        cases hg : trPutB (pathOf n (k / 2 - 1)) with
        | mk f =>
          rw [hg] at hb
          simp only [PutB.f] at hb ⊢
          cases t with
          | nil => simp only [Tr.setF, cond_eq_ite, Nat.beq_eq, h0, ho, if_false]; exact hb x _ _
          | node l v r => simp only [Tr.setF, cond_eq_ite, Nat.beq_eq, h0, ho, if_false]; exact hb x _ _

theorem trPut_set (d : Nat) (x : Value) (t : Tr Value) (kk : Tr Value → Ans) : (trPutB (pathOf (d + 1) d)).f x t kk = kk (t.set d x) := trPut_eq (d + 1) d (Nat.lt_succ_self d) x t kk

def SetOk (d : Option Tmp) (f : Nat → Value → Tr Value → (Tr Value → Ans) → Ans) : Prop :=
  ∀ sz v tm k, f sz v tm k = .yes → ∃ tm', putTm tm sz d v = .ok tm' ∧ k tm' = .yes

theorem setB_ok {d : Option Tmp} {f : Nat → Value → Tr Value → (Tr Value → Ans) → Ans} (h : setB d = .mk f) : SetOk d f := by
  cases d with
  | none =>
    simp only [setB] at h; cases h
    intro sz v tm k h
    exact ⟨tm, rfl, h⟩
  | some d =>
    simp only [setB] at h
    cases hp : trPutB (pathOf (d + 1) d) with
    | mk g =>
      rw [hp] at h
      simp only [SetB.mk.injEq] at h; subst h
      intro sz v tm k h
      obtain ⟨h1, h2⟩ := ifK_no h
      have he := trPut_set d v tm k
      rw [hp] at he
      have h2' : k (tm.set d v) = .yes := by rw [← he]; exact h2
      exact ⟨tm.set d v, by simp [putTm, show d < sz from by simpa [Nat.blt_eq] using h1], h2'⟩

theorem pathN_eq : ∀ (n k : Nat), pathN n k = pathOf n k
  | 0, _ => rfl
  | n + 1, k => by
    show (Bool.rec (motive := fun _ => List Bool) (Bool.rec (motive := fun _ => List Bool) (false :: pathN n (Nat.sub (Nat.div k 2) 1)) (true :: pathN n (Nat.div k 2)) (Nat.beq (Nat.mod k 2) 1)) [] (Nat.beq k 0)) = _
    rw [pathN_eq n, pathN_eq n]
    simp only [pathOf]
    cases hb : Nat.beq k 0
    · show (Bool.rec (motive := fun _ => List Bool) _ _ (Nat.beq (k % 2) 1)) = _
      cases Nat.beq (k % 2) 1 <;> rfl
    · rfl

def GB.f {α : Type} : GB α → Tr α → (Option α → Ans) → Ans
  | .mk f => f
def PB.f {α : Type} : PB α → Option α → Tr α → (Tr α → Ans) → Ans
  | .mk f => f

theorem gB_eq {α : Type} : ∀ (n k : Nat), k < n → ∀ (t : Tr α) (kk : Option α → Ans), GB.f (gB (pathOf n k)) t kk = kk (t.get k) := by
  intro n
  induction n with
  | zero => intro k h; omega
  | succ n ih =>
    intro k hk t kk
    simp only [pathOf, cond_eq_ite, Nat.beq_eq]
    by_cases h0 : k = 0
    · subst h0
      rw [if_pos rfl]
      cases t <;> rfl
    · rw [if_neg h0]
      by_cases ho : k % 2 = 1
      · rw [if_pos ho]
        have hb := ih (k / 2) (by omega)
        show GB.f (GB.rec (motive := fun _ => GB α) (fun f => .mk (gLeft f)) (gB (pathOf n (k / 2)))) t kk = _
        cases hg : (gB (pathOf n (k / 2)) : GB α) with
        | mk f =>
          rw [hg] at hb
          cases t with
          | nil => rfl
          | node l v r => simp only [Tr.get, cond_eq_ite, Nat.beq_eq, h0, ho, if_true, if_false]; exact hb l kk
      · rw [if_neg ho]
        have hb := ih (k / 2 - 1) (by omega)
        show GB.f (GB.rec (motive := fun _ => GB α) (fun f => .mk (gRight f)) (gB (pathOf n (k / 2 - 1)))) t kk = _
        cases hg : (gB (pathOf n (k / 2 - 1)) : GB α) with
        | mk f =>
          rw [hg] at hb
          cases t with
          | nil => rfl
          | node l v r => simp only [Tr.get, cond_eq_ite, Nat.beq_eq, h0, ho, if_false]; exact hb r kk

theorem pB_eq {α : Type} : ∀ (n k : Nat), k < n → ∀ (x : Option α) (t : Tr α) (kk : Tr α → Ans), PB.f (pB (pathOf n k)) x t kk = kk (Tr.setF n t k x) := by
  intro n
  induction n with
  | zero => intro k h; omega
  | succ n ih =>
    intro k hk x t kk
    simp only [pathOf, cond_eq_ite, Nat.beq_eq]
    by_cases h0 : k = 0
    · subst h0
      rw [if_pos rfl]
      cases t <;> rfl
    · rw [if_neg h0]
      by_cases ho : k % 2 = 1
      · rw [if_pos ho]
        have hb := ih (k / 2) (by omega)
        show PB.f (PB.rec (motive := fun _ => PB α) (fun f => .mk (pLeft f)) (pB (pathOf n (k / 2)))) x t kk = _
        cases hg : (pB (pathOf n (k / 2)) : PB α) with
        | mk f =>
          rw [hg] at hb
          simp only [PB.f] at hb ⊢
          cases t with
          | nil => simp only [Tr.setF, cond_eq_ite, Nat.beq_eq, h0, ho, if_true, if_false]; exact hb x _ _
          | node l v r => simp only [Tr.setF, cond_eq_ite, Nat.beq_eq, h0, ho, if_true, if_false]; exact hb x _ _
      · rw [if_neg ho]
        have hb := ih (k / 2 - 1) (by omega)
        show PB.f (PB.rec (motive := fun _ => PB α) (fun f => .mk (pRight f)) (pB (pathOf n (k / 2 - 1)))) x t kk = _
        cases hg : (pB (pathOf n (k / 2 - 1)) : PB α) with
        | mk f =>
          rw [hg] at hb
          simp only [PB.f] at hb ⊢
          cases t with
          | nil => simp only [Tr.setF, cond_eq_ite, Nat.beq_eq, h0, ho, if_false]; exact hb x _ _
          | node l v r => simp only [Tr.setF, cond_eq_ite, Nat.beq_eq, h0, ho, if_false]; exact hb x _ _

theorem getK_eq {α : Type} (t : Tr α) (k : Nat) (kk : Option α → Ans) : getK t k kk = kk (t.get k) := by
  have := gB_eq (k + 1) k (Nat.lt_succ_self k) t kk
  rw [← this, ← pathN_eq]
  unfold getK
  cases (gB (pathN (k + 1) k) : GB α); rfl
theorem setK_eq {α : Type} (t : Tr α) (k : Nat) (x : α) (kk : Tr α → Ans) : setK t k x kk = kk (t.set k x) := by
  have := pB_eq (k + 1) k (Nat.lt_succ_self k) (some x) t kk
  unfold Tr.set
  rw [← this, ← pathN_eq]
  unfold setK
  cases (pB (pathN (k + 1) k) : PB α); rfl
theorem delK_eq {α : Type} (t : Tr α) (k : Nat) (kk : Tr α → Ans) : delK t k kk = kk (t.del k) := by
  have := pB_eq (k + 1) k (Nat.lt_succ_self k) none t kk
  unfold Tr.del
  rw [← this, ← pathN_eq]
  unfold delK
  cases (pB (pathN (k + 1) k) : PB α); rfl

/-! ### values -/

theorem vInt_yes {v : Value} {k : IntKind → Int → Ans} {e : Ans} (h : vInt v k e = .yes) : (∃ i n, v = .int i n ∧ k i n = .yes) ∨ ((∀ i n, v ≠ .int i n) ∧ e = .yes) := by
  cases v <;> first | exact .inl ⟨_, _, rfl, h⟩ | exact .inr ⟨by intros; simp, h⟩
theorem vInt_no {v : Value} {k : IntKind → Int → Ans} (h : vInt v k .no = .yes) : ∃ i n, v = .int i n ∧ k i n = .yes := by
  cases v <;> first | exact ⟨_, _, rfl, h⟩ | cases h
theorem vBool_no {v : Value} {k : Bool → Ans} (h : vBool v k .no = .yes) : ∃ b, v = .bool b ∧ k b = .yes := by
  cases v <;> first | exact ⟨_, rfl, h⟩ | cases h
theorem vPtr_yes {v : Value} {k : Option Addr → Ans} {e : Ans} (h : vPtr v k e = .yes) : (∃ a, v = .pointer a ∧ k a = .yes) ∨ ((∀ a, v ≠ .pointer a) ∧ e = .yes) := by
  cases v <;> first | exact .inl ⟨_, rfl, h⟩ | exact .inr ⟨by intros; simp, h⟩
theorem vPtr_no {v : Value} {k : Option Addr → Ans} (h : vPtr v k .no = .yes) : ∃ a, v = .pointer a ∧ k a = .yes := by
  cases v <;> first | exact ⟨_, rfl, h⟩ | cases h
theorem vSlice_no {v : Value} {k : Option Addr → Nat → Nat → Ans} (h : vSlice v k .no = .yes) : ∃ a n c, v = .slice a n c ∧ k a n c = .yes := by
  cases v <;> first | exact ⟨_, _, _, rfl, h⟩ | cases h
theorem vTuple_yes {v : Value} {k : Array Value → Ans} {b : Bool → Ans} (h : vTuple v k b .no = .yes) : (∃ vs, v = .tuple vs ∧ k vs = .yes) ∨ (∃ x, v = .bool x ∧ b x = .yes) := by
  cases v <;> first | exact .inl ⟨_, rfl, h⟩ | exact .inr ⟨_, rfl, h⟩ | cases h
theorem vAgg_yes {v : Value} {k : Array Value → Ans} {e : Ans} (h : vAgg v k e = .yes) : (∃ vs, v = .agg vs ∧ k vs = .yes) ∨ ((∀ vs, v ≠ .agg vs) ∧ e = .yes) := by
  cases v <;> first | exact .inl ⟨_, rfl, h⟩ | exact .inr ⟨by intros; simp, h⟩
theorem vOne_yes {v : Value} {k e : Ans} (h : vOne v k e = .yes) : (oneCell v = true ∧ k = .yes) ∨ (oneCell v = false ∧ e = .yes) := by
  cases v <;> first | exact .inl ⟨rfl, h⟩ | exact .inr ⟨rfl, h⟩
theorem vFunc_yes {v : Value} {k : Fn → Array Value → Array Value → Ans} {e : Ans} (h : vFunc v k e = .yes) : (∃ fn a b, v = .func fn a b ∧ k fn a b = .yes) ∨ ((∀ fn a b, v ≠ .func fn a b) ∧ e = .yes) := by
  cases v <;> first | exact .inl ⟨_, _, _, rfl, h⟩ | exact .inr ⟨by intros; simp, h⟩

def GetOk (f : Tr Value → (Value → Ans) → Ans) (g : Tr Value → E Value) : Prop := ∀ tm k, f tm k = .yes → ∃ v, g tm = .ok v ∧ k v = .yes

theorem opdB_ok {x : Operand} {f : Tr Value → (Value → Ans) → Ans} (h : opdB x = .mk f) : GetOk f (opd · x) := by
  cases x with
  | tmp t =>
    simp only [opdB] at h
    intro tm k hk
    have := trGet_ok (t + 1) t (Nat.lt_succ_self t) tm k (by rw [h]; exact hk)
    obtain ⟨v, hv, hk⟩ := this
    exact ⟨v, by simp [opd, hv], hk⟩
  | const v =>
    simp only [opdB] at h
    cases hp : plainV 20 v
    · rw [hp] at h; cases h; intro tm k hk; cases hk
    · rw [hp] at h; cases h; intro tm k hk; exact ⟨v, by simp [opd, hp], hk⟩
  | global g =>
    simp only [opdB] at h
    cases hp : Nat.blt g GMAX
    · rw [hp] at h; cases h; intro tm k hk; cases hk
    · rw [hp] at h; cases h; intro tm k hk; exact ⟨_, by simp [opd, show g < GMAX from by simpa [Nat.blt_eq] using hp], hk⟩
  | func f' =>
    simp only [opdB] at h; cases h; intro tm k hk; exact ⟨_, rfl, hk⟩

end Go.Ev.K

/- Whole numbers. -/
namespace Go.Ev.K

theorem wrap_lim {k : IntKind} {s : Nat} (h : Nat.blt s (limOf k) = true) : k.wrap (.ofNat s) = .ofNat s := by
  have h' : s < limOf k := by simpa [Nat.blt_eq] using h
  show k.wrap ((s : Nat) : Int) = ((s : Nat) : Int)
  cases k <;> simp only [limOf] at h' <;> simp [IntKind.wrap, IntKind.bits, IntKind.signed] <;> omega

theorem retNat_yes {k : IntKind} {s : Nat} {kk : Value → Ans} (h : retNat k s kk = .yes) : kk (.int k (k.wrap (.ofNat s))) = .yes := by
  simp only [retNat, natK_eq, intK_eq] at h
  rcases ifK_yes h with ⟨h1, h2⟩ | ⟨_, h2⟩
  · rw [wrap_lim h1]; exact h2
  · exact h2
theorem retInt_yes {k : IntKind} {n : Int} {kk : Value → Ans} (h : retInt k n kk = .yes) : kk (.int k (k.wrap n)) = .yes := by
  simp only [retInt, intK_eq] at h; exact h
theorem retBool_yes {b : Bool} {kk : Value → Ans} (h : retBool b kk = .yes) : kk (.bool b) = .yes := by cases b <;> exact h

theorem iEqb_eq (a b : Int) : iEqb a b = (a == b) := by
  cases a <;> cases b <;> simp only [iEqb]
  · rename_i m n; rw [Bool.eq_iff_iff]; simp; exact Int.ofNat_inj.symm
  · rename_i m n; symm; simp
  · rename_i m n; symm; simp
  · rename_i m n; rw [Bool.eq_iff_iff]; simp
theorem iLtb_eq (a b : Int) : iLtb a b = decide (a < b) := by
  cases a <;> cases b <;> simp only [iLtb] <;> rename_i m n
  · rw [Bool.eq_iff_iff, Nat.blt_eq, decide_eq_true_iff]; exact Int.ofNat_lt.symm
  · symm; rw [decide_eq_false_iff_not]; have : (Int.ofNat m) ≥ 0 := Int.natCast_nonneg m; have := Int.negSucc_lt_zero n; omega
  · symm; rw [decide_eq_true_iff]; have : (Int.ofNat n) ≥ 0 := Int.natCast_nonneg n; have := Int.negSucc_lt_zero m; omega
  · rw [Bool.eq_iff_iff, Nat.blt_eq, decide_eq_true_iff, Int.negSucc_eq, Int.negSucc_eq]; omega

def IntOk (op : BinOp) (f : IntKind → Int → Int → (Value → Ans) → Ans → Ans) : Prop :=
  ∀ (t : TypeId) (k : IntKind) (m n : Int) (kk : Value → Ans) (e : Ans), f k m n kk e = .yes → (∃ v, pureOf (Go.binOp op t (.int k m) (.int k n)) = .ok v ∧ kk v = .yes) ∨ e = .yes

theorem limOf_pow (k : IntKind) : ∃ j, limOf k = 2 ^ j ∧ j ≤ k.bits := by
  cases k
  · exact ⟨7, rfl, by decide⟩
  · exact ⟨15, rfl, by decide⟩
  · exact ⟨31, rfl, by decide⟩
  · exact ⟨63, rfl, by decide⟩
  · exact ⟨8, rfl, by decide⟩
  · exact ⟨16, rfl, by decide⟩
  · exact ⟨32, rfl, by decide⟩
  · exact ⟨64, rfl, by decide⟩

theorem bitsOf_eq (k : IntKind) : bitsOf k = k.bits := by cases k <;> rfl

theorem ofInt_nat {k : IntKind} {m : Nat} (h : m < limOf k) : (BitVec.ofInt k.bits (.ofNat m)).toNat = m := by
  obtain ⟨j, hj, hb⟩ := limOf_pow k
  have : m < 2 ^ k.bits := Nat.lt_of_lt_of_le (hj ▸ h) (Nat.pow_le_pow_right (by decide) hb)
  show (BitVec.ofInt k.bits ((m : Nat) : Int)).toNat = m
  rw [BitVec.ofInt_natCast, BitVec.toNat_ofNat, Nat.mod_eq_of_lt this]

theorem iNat_ok {op : BinOp} {g : Nat → Nat → Nat} (hlt : ∀ (j m n : Nat), m < 2 ^ j → n < 2 ^ j → g m n < 2 ^ j)
    (hop : ∀ (t : TypeId) (k : IntKind) (m n : Nat), m < limOf k → n < limOf k → Go.binOp op t (.int k (.ofNat m)) (.int k (.ofNat n)) = pure (.int k (k.wrap (.ofNat (g m n))))) : IntOk op (iNat g) := by
  intro t k m n kk e h
  cases m with
  | negSucc m => exact .inr h
  | ofNat m => cases n with
    | negSucc n => exact .inr h
    | ofNat n =>
      simp only [iNat] at h
      rcases ifK_yes h with ⟨h1, h⟩ | ⟨_, h⟩
      · rcases ifK_yes h with ⟨h2, h⟩ | ⟨_, h⟩
        · rw [natK_eq] at h
          have m1 : m < limOf k := by simpa [Nat.blt_eq] using h1
          have n1 : n < limOf k := by simpa [Nat.blt_eq] using h2
          refine .inl ⟨_, by rw [hop t k m n m1 n1]; rfl, ?_⟩
          obtain ⟨j, hj, _⟩ := limOf_pow k
          rw [wrap_lim (by rw [Nat.blt_eq, hj]; exact hlt j m n (hj ▸ m1) (hj ▸ n1))]
          exact h
        · exact .inr h
      · exact .inr h

theorem intB_ok {op : BinOp} (hs : isShift op = false) {f : IntKind → Int → Int → (Value → Ans) → Ans → Ans} (h : intB op = .mk f) : IntOk op f := by
  cases op <;> simp only [intB] at h <;> cases h
  case add =>
    intro t k m n kk e h
    refine .inl ⟨.int k (k.wrap (m + n)), by simp only [Go.binOp, ne_eq, not_true_eq_false, if_false, Op.intArith]; rfl, ?_⟩
    cases m with
    | ofNat m => cases n with
      | ofNat n => exact retNat_yes h
      | negSucc n => exact retInt_yes h
    | negSucc m => exact retInt_yes h
  case sub =>
    intro t k m n kk e h
    refine .inl ⟨.int k (k.wrap (m - n)), by simp only [Go.binOp, ne_eq, not_true_eq_false, if_false, Op.intArith]; rfl, ?_⟩
    cases m with
    | ofNat m => cases n with
      | ofNat n =>
        rcases ifK_yes (show ifK (Nat.ble n m) _ _ = .yes from h) with ⟨h1, h⟩ | ⟨_, h⟩
        · have : (Int.ofNat m - Int.ofNat n) = Int.ofNat (m - n) := by
            have : n ≤ m := by simpa using h1
            show ((m : Int) - (n : Int)) = ((m - n : Nat) : Int)
            omega
          rw [this]; exact retNat_yes h
        · exact retInt_yes h
      | negSucc n => exact retInt_yes h
    | negSucc m => exact retInt_yes h
  case mul =>
    intro t k m n kk e h
    refine .inl ⟨.int k (k.wrap (m * n)), by simp only [Go.binOp, ne_eq, not_true_eq_false, if_false, Op.intArith]; rfl, ?_⟩
    cases m with
    | ofNat m => cases n with
      | ofNat n => exact retNat_yes h
      | negSucc n => exact retInt_yes h
    | negSucc m => exact retInt_yes h
  case quo =>
    intro t k m n kk e h
    cases m with
    | negSucc m => exact .inr h
    | ofNat m => cases n with
      | negSucc n => exact .inr h
      | ofNat n =>
        obtain ⟨h1, h⟩ := ifK_non (show ifK (Nat.beq n 0) .no _ = .yes from h)
        have hn : n ≠ 0 := fun e => by subst e; cases h1
        refine .inl ⟨.int k (k.wrap ((Int.ofNat m).tdiv (Int.ofNat n))), ?_, ?_⟩
        · simp only [Go.binOp, ne_eq, not_true_eq_false, if_false, Op.intDiv]
          rw [if_neg (by simpa using hn)]; rfl
        · have : (Int.ofNat m).tdiv (Int.ofNat n) = Int.ofNat (m / n) := rfl
          rw [this]; exact retNat_yes h
  case rem =>
    intro t k m n kk e h
    cases m with
    | negSucc m => exact .inr h
    | ofNat m => cases n with
      | negSucc n => exact .inr h
      | ofNat n =>
        obtain ⟨h1, h⟩ := ifK_non (show ifK (Nat.beq n 0) .no _ = .yes from h)
        have hn : n ≠ 0 := fun e => by subst e; cases h1
        rw [natK_eq] at h
        refine .inl ⟨.int k ((Int.ofNat m).tmod (Int.ofNat n)), ?_, h⟩
        simp only [Go.binOp, ne_eq, not_true_eq_false, if_false, Op.intDiv]
        rw [if_neg (by simpa using hn)]; rfl
  case and =>
    refine iNat_ok (fun j m n h _ => Nat.lt_of_le_of_lt Nat.and_le_left h) fun t k m n hm hn => ?_
    simp only [Go.binOp, ne_eq, not_true_eq_false, if_false, Op.intBits, BitVec.toNat_and, ofInt_nat hm, ofInt_nat hn]; rfl
  case or =>
    refine iNat_ok (fun j m n h h' => Nat.or_lt_two_pow h h') fun t k m n hm hn => ?_
    simp only [Go.binOp, ne_eq, not_true_eq_false, if_false, Op.intBits, BitVec.toNat_or, ofInt_nat hm, ofInt_nat hn]; rfl
  case xor =>
    refine iNat_ok (fun j m n h h' => Nat.xor_lt_two_pow h h') fun t k m n hm hn => ?_
    simp only [Go.binOp, ne_eq, not_true_eq_false, if_false, Op.intBits, BitVec.toNat_xor, ofInt_nat hm, ofInt_nat hn]; rfl
  case andNot => intro t k m n kk e h; exact .inr h
  case shl => cases hs
  case shr => cases hs
  case eql =>
    intro t k m n kk e h
    refine .inl ⟨.bool (m == n), by simp [Go.binOp, Op.intCmp, pureOf]; rfl, ?_⟩
    rw [← iEqb_eq]; exact retBool_yes h
  case neq =>
    intro t k m n kk e h
    refine .inl ⟨.bool (m != n), by simp [Go.binOp, Op.intCmp, pureOf]; rfl, ?_⟩
    rcases ifK_yes (show ifK (iEqb m n) _ _ = .yes from h) with ⟨h1, h⟩ | ⟨h1, h⟩ <;> rw [iEqb_eq] at h1
    · rw [show (m != n) = !(m == n) from rfl, h1]; exact h
    · rw [show (m != n) = !(m == n) from rfl, h1]; exact h
  case lss =>
    intro t k m n kk e h
    refine .inl ⟨.bool (decide (m < n)), by simp [Go.binOp, Op.intCmp, pureOf]; rfl, ?_⟩
    rw [← iLtb_eq]; exact retBool_yes h
  case gtr =>
    intro t k m n kk e h
    refine .inl ⟨.bool (decide (n < m)), by simp [Go.binOp, Op.intCmp, pureOf]; rfl, ?_⟩
    rw [← iLtb_eq]; exact retBool_yes h
  case leq =>
    intro t k m n kk e h
    refine .inl ⟨.bool (decide (m ≤ n)), by simp [Go.binOp, Op.intCmp, pureOf]; rfl, ?_⟩
    rcases ifK_yes (show ifK (iLtb n m) _ _ = .yes from h) with ⟨h1, h⟩ | ⟨h1, h⟩ <;> rw [iLtb_eq] at h1
    · rw [show decide (m ≤ n) = false by simp at h1 ⊢; omega]; exact h
    · rw [show decide (m ≤ n) = true by simp at h1 ⊢; omega]; exact h
  case geq =>
    intro t k m n kk e h
    refine .inl ⟨.bool (decide (n ≤ m)), by simp [Go.binOp, Op.intCmp, pureOf]; rfl, ?_⟩
    rcases ifK_yes (show ifK (iLtb m n) _ _ = .yes from h) with ⟨h1, h⟩ | ⟨h1, h⟩ <;> rw [iLtb_eq] at h1
    · rw [show decide (n ≤ m) = false by simp at h1 ⊢; omega]; exact h
    · rw [show decide (n ≤ m) = true by simp at h1 ⊢; omega]; exact h

def ShiftOk (op : BinOp) (f : IntKind → Int → Int → (Value → Ans) → Ans → Ans) : Prop :=
  ∀ (t : TypeId) (k j : IntKind) (m n : Int) (kk : Value → Ans) (e : Ans), f k m n kk e = .yes → (∃ v, pureOf (Go.binOp op t (.int k m) (.int j n)) = .ok v ∧ kk v = .yes) ∨ e = .yes

theorem iShr_ok : ShiftOk .shr iShr := by
  intro t k j m n kk e h
  cases m with
  | negSucc m => exact .inr h
  | ofNat m => cases n with
    | negSucc n => exact .inr h
    | ofNat n =>
      have h := (natK_eq (Nat.div m (Nat.pow 2 (Nat.min n (bitsOf k)))) (fun s => kk (.int k (.ofNat s)))).symm.trans h
      refine .inl ⟨.int k ((Int.ofNat m).fdiv (2 ^ (min (Int.ofNat n).toNat k.bits))), ?_, ?_⟩
      · simp only [Go.binOp, Op.shift]
        rw [if_neg (by exact Int.not_lt.2 (Int.natCast_nonneg n))]; rfl
      · have : (Int.ofNat m).fdiv (2 ^ (min (Int.ofNat n).toNat k.bits)) = Int.ofNat (Nat.div m (Nat.pow 2 (Nat.min n (bitsOf k)))) := by
          rw [bitsOf_eq]
          have e1 : ((2 : Int) ^ (min n k.bits)) = ((2 ^ (min n k.bits) : Nat) : Int) := by simp
          show (Int.ofNat m).fdiv (2 ^ (min n k.bits)) = _
          rw [e1]
          cases m with
          | zero => rw [show Nat.div 0 (Nat.pow 2 (n.min k.bits)) = 0 from Nat.zero_div _]; exact Int.zero_fdiv _
          | succ m => rfl
        rw [this]; exact h

theorem iShl_ok : ShiftOk .shl iShl := by
  intro t k j m n kk e h
  cases m with
  | negSucc m => exact .inr h
  | ofNat m => cases n with
    | negSucc n => exact .inr h
    | ofNat n =>
      refine .inl ⟨.int k (k.wrap ((Int.ofNat m) * (2 ^ (min (Int.ofNat n).toNat k.bits)))), ?_, ?_⟩
      · simp only [Go.binOp, Op.shift]
        rw [if_neg (by exact Int.not_lt.2 (Int.natCast_nonneg n))]; rfl
      · have : (Int.ofNat m) * (2 ^ (min (Int.ofNat n).toNat k.bits)) = Int.ofNat (Nat.mul m (Nat.pow 2 (Nat.min n (bitsOf k)))) := by
          rw [bitsOf_eq]
          have e1 : ((2 : Int) ^ (min n k.bits)) = ((2 ^ (min n k.bits) : Nat) : Int) := by simp
          show (Int.ofNat m) * (2 ^ (min n k.bits)) = _
          rw [e1]; rfl
        rw [this]; exact retNat_yes h

end Go.Ev.K

/- What the operations that write nothing give is what 'aflt' gives. -/
namespace Go.Ev.K
variable {P : Tab}

def FltOk (P : Tab) (o : Oper) (f : Tr Value → St → (FV → Ans) → Ans) : Prop :=
  ∀ tm σ k, f tm σ k = .yes → ∃ fv, aflt P σ tm o = .ok fv ∧ k fv = .yes

theorem fGen_ok {o : Oper} {g : St → Tr Value → E FV} (h : ∀ σ tm, g σ tm = aflt P σ tm o) : FltOk P o (fGen g) := by
  intro tm σ k hk
  obtain ⟨fv, h1, h2⟩ := bindE_yes hk
  exact ⟨fv, by rw [← h]; exact h1, h2⟩

theorem fval_ok {x : E Value} {v : Value} (h : x = .ok v) : fval x = .ok (.val v) := by subst h; rfl

theorem fGen_of {o : Oper} {f : Tr Value → St → (FV → Ans) → Ans} (h : FltB.mk (fGen fun σ tm => aflt P σ tm o) = .mk f) : FltOk P o f := by
  cases h; exact fGen_ok fun _ _ => rfl

theorem with1_of {x : Operand} {g : (Tr Value → (Value → Ans) → Ans) → Tr Value → St → (FV → Ans) → Ans} {f : Tr Value → St → (FV → Ans) → Ans} (h : with1 x g = .mk f) : ∃ fx, GetOk fx (opd · x) ∧ f = g fx := by
  simp only [with1] at h
  cases hx : opdB x with
  | mk fx => rw [hx] at h; simp only [FltB.mk.injEq] at h; exact ⟨fx, opdB_ok hx, h.symm⟩
theorem with2_of {x y : Operand} {g : (Tr Value → (Value → Ans) → Ans) → (Tr Value → (Value → Ans) → Ans) → Tr Value → St → (FV → Ans) → Ans} {f : Tr Value → St → (FV → Ans) → Ans} (h : with2 x y g = .mk f) :
    ∃ fx fy, GetOk fx (opd · x) ∧ GetOk fy (opd · y) ∧ f = g fx fy := by
  simp only [with2] at h
  cases hx : opdB x with
  | mk fx => cases hy : opdB y with
    | mk fy => rw [hx, hy] at h; simp only [FltB.mk.injEq] at h; exact ⟨fx, fy, opdB_ok hx, opdB_ok hy, h.symm⟩

section
variable {dst : Option Tmp} {ty : TypeId} {pos : String} {after : Array Edge} {gd : Option (Nat × Bool)}

theorem move_ok {x : Operand} {fx : Tr Value → (Value → Ans) → Ans} (hx : GetOk fx (opd · x)) : FltOk P ⟨dst, .move x, ty, pos, after, gd⟩ (fMove fx) := by
  intro tm σ k h
  obtain ⟨v, h1, h2⟩ := hx _ _ h
  exact ⟨.val v, fval_ok h1, h2⟩
theorem assign_ok {x : Operand} {fx : Tr Value → (Value → Ans) → Ans} (hx : GetOk fx (opd · x)) : FltOk P ⟨dst, .assign x, ty, pos, after, gd⟩ (fMove fx) := by
  intro tm σ k h
  obtain ⟨v, h1, h2⟩ := hx _ _ h
  exact ⟨.val v, fval_ok h1, h2⟩

theorem pick_ok {c a b : Operand} {fc fa fb : Tr Value → (Value → Ans) → Ans} (hc : GetOk fc (opd · c)) (ha : GetOk fa (opd · a)) (hb : GetOk fb (opd · b)) : FltOk P ⟨dst, .pick c a b, ty, pos, after, gd⟩ (fPick fc fa fb) := by
  intro tm σ k h
  obtain ⟨v, h1, h⟩ := hc _ _ h
  obtain ⟨x, rfl, h⟩ := vBool_no h
  rcases ifK_yes h with ⟨rfl, h⟩ | ⟨rfl, h⟩
  · obtain ⟨v, h2, h⟩ := ha _ _ h
    exact ⟨.val v, ok_bind.2 ⟨_, h1, ok_bind.2 ⟨true, rfl, fval_ok h2⟩⟩, h⟩
  · obtain ⟨v, h2, h⟩ := hb _ _ h
    exact ⟨.val v, ok_bind.2 ⟨_, h1, ok_bind.2 ⟨false, rfl, fval_ok h2⟩⟩, h⟩

theorem box_ok {e : TypeId} {x : Operand} {fx : Tr Value → (Value → Ans) → Ans} (hx : GetOk fx (opd · x)) : FltOk P ⟨dst, .box e x, ty, pos, after, gd⟩ (fBox e fx) := by
  intro tm σ k h
  obtain ⟨v, h1, h⟩ := hx _ _ h
  refine ⟨.new ptrTo (rowOf e v.cells.toList false false), ok_bind.2 ⟨_, h1, rfl⟩, ?_⟩
  rcases vOne_yes h with ⟨ho, h⟩ | ⟨_, h⟩
  · have : rowOf e v.cells.toList false false = .cells (.node .nil (some v) .nil) [undef] 1 e false 0 false := by
      cases v <;> first | rfl | (simp [oneCell] at ho)
    rw [this]; exact h
  · exact h

theorem nil_ok {x : Operand} {fx : Tr Value → (Value → Ans) → Ans} (hx : GetOk fx (opd · x)) : FltOk P ⟨dst, .nilCheck x, ty, pos, after, gd⟩ (fNil fx) := by
  intro tm σ k h
  obtain ⟨v, h1, h⟩ := hx _ _ h
  rcases vPtr_yes h with ⟨a, rfl, h⟩ | ⟨hn, h⟩
  · obtain ⟨a, rfl, h⟩ := optK_yes h
    exact ⟨_, ok_bind.2 ⟨_, h1, rfl⟩, h⟩
  · split at h
    · exact ⟨_, ok_bind.2 ⟨_, h1, rfl⟩, h⟩
    · exact ⟨_, ok_bind.2 ⟨_, h1, rfl⟩, h⟩
    · cases h

theorem abin_of {P : Tab} {σ : St} {op : BinOp} {t : TypeId} {x y : Operand} {a b : Value} {k : FV → Ans} (h : bindE (abin P σ op t x y a b) (fun v => k (.val v)) = .yes) : ∃ v, abin P σ op t x y a b = .ok v ∧ k (.val v) = .yes := bindE_yes h

theorem binOp_of {op : BinOp} {t t' : TypeId} {x y : Operand} {tm : Tr Value} {σ : St} {a b v : Value} (ha : opd tm x = .ok a) (hb : opd tm y = .ok b) (hv : abin P σ op t x y a b = .ok v) : aflt P σ tm ⟨dst, .binOp op t x y t', ty, pos, after, gd⟩ = .ok (.val v) :=
  ok_bind.2 ⟨a, ha, ok_bind.2 ⟨b, hb, fval_ok hv⟩⟩

theorem kNum_inj {i j : IntKind} (h : Nat.beq (kNum i) (kNum j) = true) : i = j := by cases i <;> cases j <;> first | rfl | cases h

theorem bin_ok {op : BinOp} {t t' : TypeId} {x y : Operand} {fx fy : Tr Value → (Value → Ans) → Ans} {g : IntKind → Int → Int → (Value → Ans) → Ans → Ans} (hg : IntOk op g) (hx : GetOk fx (opd · x)) (hy : GetOk fy (opd · y)) :
    FltOk P ⟨dst, .binOp op t x y t', ty, pos, after, gd⟩ (fBin P g op t x y fx fy) := by
  intro tm σ k h
  obtain ⟨a, ha, h⟩ := hx _ _ h
  obtain ⟨b, hb, h⟩ := hy _ _ h
  rcases vInt_yes h with ⟨i, m, rfl, h⟩ | ⟨_, h⟩
  · obtain ⟨j, n, rfl, h⟩ := vInt_no h
    obtain ⟨hk, h⟩ := ifK_no h
    cases kNum_inj hk
    rcases hg t i m n _ _ h with ⟨v, hv, h⟩ | h
    · exact ⟨.val v, binOp_of ha hb hv, h⟩
    · obtain ⟨v, hv, h⟩ := abin_of h
      exact ⟨.val v, binOp_of ha hb hv, h⟩
  · obtain ⟨v, hv, h⟩ := abin_of h
    exact ⟨.val v, binOp_of ha hb hv, h⟩

theorem shift_ok {op : BinOp} {t t' : TypeId} {x y : Operand} {fx fy : Tr Value → (Value → Ans) → Ans} {g : IntKind → Int → Int → (Value → Ans) → Ans → Ans} (hg : ShiftOk op g) (hx : GetOk fx (opd · x)) (hy : GetOk fy (opd · y)) :
    FltOk P ⟨dst, .binOp op t x y t', ty, pos, after, gd⟩ (fShift P g op t x y fx fy) := by
  intro tm σ k h
  obtain ⟨a, ha, h⟩ := hx _ _ h
  obtain ⟨b, hb, h⟩ := hy _ _ h
  obtain ⟨i, m, rfl, h⟩ := vInt_no h
  obtain ⟨j, n, rfl, h⟩ := vInt_no h
  rcases hg t i j m n _ _ h with ⟨v, hv, h⟩ | h
  · exact ⟨.val v, binOp_of ha hb hv, h⟩
  · obtain ⟨v, hv, h⟩ := abin_of h
    exact ⟨.val v, binOp_of ha hb hv, h⟩

def eqOp : Bool → BinOp
  | true => .eql
  | false => .neq

theorem eqP_val {eq : Bool} {t : TypeId} (ht : isPtrT P t = true) {σ : St} {x y : Operand} {p q : Option Addr} (h : p.isNone || q.isNone) :
    abin P σ (eqOp eq) t x y (.pointer p) (.pointer q) = .ok (.bool (if p.isNone && q.isNone then eq else !eq)) := by
  obtain ⟨e, he⟩ : ∃ e, P.underlying t = some (.pointer e) := by
    unfold isPtrT at ht; split at ht
    · exact ⟨_, ‹_›⟩
    · cases ht
  have hu : und P t = .ok (.pointer e) := by simp [und, he]
  have h2 : aeq P 100 σ t (.pointer p) (.pointer q) = .ok (p.isNone && q.isNone) := by
    show aeq P (99 + 1) σ t (.pointer p) (.pointer q) = _
    unfold aeq
    refine ok_bind.2 ⟨_, hu, ?_⟩
    cases p with
    | none => rfl
    | some p => cases q with
      | none => rfl
      | some q => simp at h
  cases eq
  · show aeqBin P σ .neq t _ _ = _
    refine ok_bind.2 ⟨_, h2, ?_⟩
    cases p <;> cases q <;> rfl
  · show aeqBin P σ .eql t _ _ = _
    refine ok_bind.2 ⟨_, h2, ?_⟩
    cases p <;> cases q <;> rfl

theorem eqP_ok {eq : Bool} {t t' : TypeId} (ht : isPtrT P t = true) {x y : Operand} {fx fy : Tr Value → (Value → Ans) → Ans} (hx : GetOk fx (opd · x)) (hy : GetOk fy (opd · y)) :
    FltOk P ⟨dst, .binOp (eqOp eq) t x y t', ty, pos, after, gd⟩ (fEqP P eq (eqOp eq) t x y fx fy) := by
  intro tm σ k h
  obtain ⟨a, ha, h⟩ := hx _ _ h
  obtain ⟨b, hb, h⟩ := hy _ _ h
  obtain ⟨p, rfl, h⟩ := vPtr_no h
  obtain ⟨q, rfl, h⟩ := vPtr_no h
  cases p with
  | none => cases q with
    | none => exact ⟨_, binOp_of ha hb (eqP_val ht rfl), h⟩
    | some q => exact ⟨_, binOp_of ha hb (eqP_val ht rfl), h⟩
  | some p => cases q with
    | none => exact ⟨_, binOp_of ha hb (eqP_val ht rfl), h⟩
    | some q =>
      obtain ⟨v, hv, h⟩ := abin_of h
      exact ⟨.val v, binOp_of ha hb hv, h⟩

theorem eqS_val {eq : Bool} {t : TypeId} (ht : isSliceT P t = true) {σ : St} {x y : Operand} {p q : Option Addr} {n c n' c' : Nat} (h : p.isNone || q.isNone) :
    abin P σ (eqOp eq) t x y (.slice p n c) (.slice q n' c') = .ok (.bool (if p.isNone && q.isNone then eq else !eq)) := by
  obtain ⟨e, he⟩ : ∃ e, P.underlying t = some (.slice e) := by
    unfold isSliceT at ht; split at ht
    · exact ⟨_, ‹_›⟩
    · cases ht
  have hu : und P t = .ok (.slice e) := by simp [und, he]
  have h2 : aeq P 100 σ t (.slice p n c) (.slice q n' c') = .ok (p.isNone && q.isNone) := by
    show aeq P (99 + 1) σ t (.slice p n c) (.slice q n' c') = _
    unfold aeq
    refine ok_bind.2 ⟨_, hu, ?_⟩
    cases p with
    | none => rfl
    | some p => cases q with
      | none => rfl
      | some q => simp at h
  cases eq
  · show aeqBin P σ .neq t _ _ = _
    refine ok_bind.2 ⟨_, h2, ?_⟩
    cases p <;> cases q <;> rfl
  · show aeqBin P σ .eql t _ _ = _
    refine ok_bind.2 ⟨_, h2, ?_⟩
    cases p <;> cases q <;> rfl

theorem eqS_ok {eq : Bool} {t t' : TypeId} (ht : isSliceT P t = true) {x y : Operand} {fx fy : Tr Value → (Value → Ans) → Ans} (hx : GetOk fx (opd · x)) (hy : GetOk fy (opd · y)) :
    FltOk P ⟨dst, .binOp (eqOp eq) t x y t', ty, pos, after, gd⟩ (fEqS eq fx fy) := by
  intro tm σ k h
  obtain ⟨a, ha, h⟩ := hx _ _ h
  obtain ⟨b, hb, h⟩ := hy _ _ h
  obtain ⟨p, n, c, rfl, h⟩ := vSlice_no h
  obtain ⟨q, n', c', rfl, h⟩ := vSlice_no (show vSlice b _ .no = .yes from h)
  cases p with
  | none => cases q with
    | none => exact ⟨_, binOp_of ha hb (eqS_val ht rfl), h⟩
    | some q => exact ⟨_, binOp_of ha hb (eqS_val ht rfl), h⟩
  | some p => cases q with
    | none => exact ⟨_, binOp_of ha hb (eqS_val ht rfl), h⟩
    | some q => cases h

theorem not_ok {t : TypeId} {x : Operand} {fx : Tr Value → (Value → Ans) → Ans} (hx : GetOk fx (opd · x)) : FltOk P ⟨dst, .unOp .not t x, ty, pos, after, gd⟩ (fNot fx) := by
  intro tm σ k h
  obtain ⟨v, h1, h⟩ := hx _ _ h
  obtain ⟨b, rfl, h⟩ := vBool_no h
  refine ⟨.val (.bool !b), ok_bind.2 ⟨_, h1, fval_ok rfl⟩, ?_⟩
  rcases ifK_yes h with ⟨rfl, h⟩ | ⟨rfl, h⟩ <;> exact h

theorem cellK_eq (c : Tr Value) (d : List Value) (i : Nat) (k : Value → Ans) : cellK c d i k = k (getC c d i) := by
  simp only [cellK, getK_eq, getC]
  cases c.get i <;> rfl
theorem objK_yes {σ : St} {a : Nat} {k : AObj → Ans} (h : objK σ a k = .yes) : ∃ o, σ.heap.get a = some o ∧ k o = .yes := by
  have h' : getK σ.heap a (fun o => optK o k) = .yes := h
  rw [getK_eq] at h'
  exact optK_yes h'
theorem cellsK_yes {o : AObj} {k : Tr Value → List Value → Nat → TypeId → Bool → Nat → Bool → Ans} (h : cellsK o k = .yes) : ∃ c d m e x fz mk, o = .cells c d m e x fz mk ∧ k c d m e x fz mk = .yes := by
  cases o <;> first | exact ⟨_, _, _, _, _, _, _, rfl, h⟩ | cases h
theorem addrK_eq (a : Addr) (k : Nat → Nat → Option Nat → Ans) : addrK a k = k a.block a.off a.spot := rfl
theorem noneK_yes {o : Option Nat} {k : Ans} (h : noneK o k = .yes) : o = none ∧ k = .yes := by
  cases o with
  | none => exact ⟨rfl, h⟩
  | some _ => cases h
theorem ptrK_yes {v : Value} {k : Nat → Nat → Option Nat → Ans} (h : ptrK v k = .yes) : ∃ a, v = .pointer (some a) ∧ k a.block a.off a.spot = .yes := by
  obtain ⟨a, rfl, h⟩ := vPtr_no h
  obtain ⟨a, rfl, h⟩ := optK_yes h
  exact ⟨a, rfl, h⟩
theorem obj_of_get {σ : St} {a : Nat} {o : AObj} (h : σ.heap.get a = some o) : obj σ a = .ok o := by simp [obj, h]

theorem load_ok {t : TypeId} {d : TypeDesc} (hd : und P t = .ok d) (hn : isAggD d = false) {a : Operand} {fa : Tr Value → (Value → Ans) → Ans} (ha : GetOk fa (opd · a)) : FltOk P ⟨dst, .load t a, ty, pos, after, gd⟩ (fLoad1 fa) := by
  intro tm σ k h
  obtain ⟨v, h1, h⟩ := ha _ _ h
  obtain ⟨a, rfl, h⟩ := ptrK_yes h
  obtain ⟨hs, h⟩ := noneK_yes h
  obtain ⟨o, ho, h⟩ := objK_yes h
  obtain ⟨c, dd, m, e, x, fz, mk, rfl, h⟩ := cellsK_yes h
  obtain ⟨hb, h⟩ := ifK_no h
  rw [cellK_eq] at h
  have hb' : a.off < m := by simpa [Nat.blt_eq] using hb
  refine ⟨.val (getC c dd a.off), ok_bind.2 ⟨_, h1, ok_bind.2 ⟨a, rfl, fval_ok ?_⟩⟩, h⟩
  unfold loadVar
  refine ok_bind.2 ⟨d, hd, ?_⟩
  rw [hn, if_neg (by decide)]
  refine ok_bind.2 ⟨[getC c dd a.off], ?_, rfl⟩
  unfold loadCells
  rw [if_neg (by decide)]
  refine ok_bind.2 ⟨_, obj_of_get ho, ?_⟩
  simp only [if_pos (show a.off + 1 ≤ m ∧ a.spot = none from ⟨hb', hs⟩)]
  rfl

theorem addA_zero (a : Addr) : addA a 0 = a := rfl
theorem addA_pos (a : Addr) {n : Nat} (h : n ≠ 0) : addA a n = ⟨a.block, a.off + n, none⟩ := by simp [addA, h]
theorem addrAddK_eq (a : Addr) (n : Nat) (k : Addr → Ans) : addrAddK a n k = k (addA a n) := by
  cases n with
  | zero => rfl
  | succ n => show natK (Nat.add a.off (Nat.succ n)) (fun o => k ⟨a.block, o, none⟩) = _; rw [natK_eq, addA_pos a (by omega)]; rfl
theorem natOfK_yes {v : Value} {k : Nat → Ans} (h : natOfK v k = .yes) : ∃ i n, v = .int i (.ofNat n) ∧ k n = .yes := by
  obtain ⟨i, n, rfl, h⟩ := vInt_no h
  cases n with
  | ofNat n => exact ⟨i, n, rfl, h⟩
  | negSucc n => cases h

theorem fieldAddr_ok {s : TypeId} {x : Operand} {f : Nat} {fields : Array Field} {fl : Field} {i : TypeInfo} (hu : und P s = .ok (.struct fields)) (hf : fields[f]? = some fl) (hi : tinfo P fl.type = .ok i) (h0 : i.size ≠ 0)
    {fx : Tr Value → (Value → Ans) → Ans} (hx : GetOk fx (opd · x)) {tm : Tr Value} {σ : St} {a : Addr} (h1 : opd tm x = .ok (.pointer (some a))) :
    aflt P σ tm ⟨dst, .fieldAddr s x f, ty, pos, after, gd⟩ = .ok (.val (.pointer (some (addA a fl.offset)))) := by
  have := hx
  refine fval_ok ?_
  unfold aFieldAddr
  refine ok_bind.2 ⟨_, hu, ?_⟩
  simp only [hf]
  refine ok_bind.2 ⟨_, h1, ok_bind.2 ⟨a, rfl, ok_bind.2 ⟨addA a fl.offset, ?_, rfl⟩⟩⟩
  unfold fieldPlace
  refine ok_bind.2 ⟨i, hi, ?_⟩
  rw [if_neg h0]

theorem indexArr_ok {t : TypeId} {x ix : Operand} {len : Nat} {elem : TypeId} {i : TypeInfo} (hu : und P t = .ok (.array len elem)) (hi : tinfo P elem = .ok i) {fx fi : Tr Value → (Value → Ans) → Ans} (hx : GetOk fx (opd · x)) (hix : GetOk fi (opd · ix)) :
    FltOk P ⟨dst, .indexAddr t x ix, ty, pos, after, gd⟩ (fIndexArr len i.size fx fi) := by
  intro tm σ k h
  obtain ⟨iv, h1, h⟩ := hix _ _ h
  obtain ⟨ik, n, rfl, h⟩ := natOfK_yes h
  obtain ⟨v, h2, h⟩ := hx _ _ h
  obtain ⟨a, rfl, h⟩ := vPtr_no h
  obtain ⟨a, rfl, h⟩ := optK_yes h
  obtain ⟨hb, h⟩ := ifK_no h
  rw [addrAddK_eq] at h
  refine ⟨_, fval_ok ?_, h⟩
  unfold aIndexAddr
  refine ok_bind.2 ⟨_, h1, ok_bind.2 ⟨n, rfl, ok_bind.2 ⟨_, hu, ok_bind.2 ⟨_, h2, ?_⟩⟩⟩⟩
  refine ok_bind.2 ⟨i, hi, ?_⟩
  rw [if_pos (show n < len by simpa [Nat.blt_eq] using hb)]; rfl

theorem indexSl_ok {t : TypeId} {x ix : Operand} {elem : TypeId} {i : TypeInfo} (hu : und P t = .ok (.slice elem)) (hi : tinfo P elem = .ok i) {fx fi : Tr Value → (Value → Ans) → Ans} (hx : GetOk fx (opd · x)) (hix : GetOk fi (opd · ix)) :
    FltOk P ⟨dst, .indexAddr t x ix, ty, pos, after, gd⟩ (fIndexSl i.size fx fi) := by
  intro tm σ k h
  obtain ⟨iv, h1, h⟩ := hix _ _ h
  obtain ⟨ik, n, rfl, h⟩ := natOfK_yes h
  obtain ⟨v, h2, h⟩ := hx _ _ h
  obtain ⟨a, len, cap, rfl, h⟩ := vSlice_no h
  obtain ⟨a, rfl, h⟩ := optK_yes h
  obtain ⟨hb, h⟩ := ifK_no h
  rw [addrAddK_eq] at h
  refine ⟨_, fval_ok ?_, h⟩
  unfold aIndexAddr
  refine ok_bind.2 ⟨_, h1, ok_bind.2 ⟨n, rfl, ok_bind.2 ⟨_, hu, ok_bind.2 ⟨_, h2, ?_⟩⟩⟩⟩
  refine ok_bind.2 ⟨i, hi, ?_⟩
  rw [if_pos (show n < len by simpa [Nat.blt_eq] using hb)]; rfl

theorem extract_ok {t : Operand} {ix : Nat} {fx : Tr Value → (Value → Ans) → Ans} (hx : GetOk fx (opd · t)) : FltOk P ⟨dst, .extract t ix, ty, pos, after, gd⟩ (fExtract ix fx) := by
  intro tm σ k h
  obtain ⟨v, h1, h⟩ := hx _ _ h
  rcases vTuple_yes h with ⟨vs, rfl, h⟩ | ⟨_, rfl, h⟩
  · cases vs with
    | mk l =>
      obtain ⟨y, hy, h⟩ := optK_yes (show optK (l[ix]?) _ = .yes from h)
      refine ⟨.val y, ok_bind.2 ⟨_, h1, ?_⟩, h⟩
      have : (⟨l⟩ : Array Value)[ix]? = some y := by simpa using hy
      simp only [this]
  · cases h

theorem conv_ok {s d : TypeId} {x : Operand} {i k' : IntKind} (hs : und P s = .ok (.int i)) (hd : und P d = .ok (.int k')) {fx : Tr Value → (Value → Ans) → Ans} (hx : GetOk fx (opd · x)) : FltOk P ⟨dst, .convert s d x, ty, pos, after, gd⟩ (fConv k' fx) := by
  intro tm σ k h
  obtain ⟨v, h1, h⟩ := hx _ _ h
  obtain ⟨j, n, rfl, h⟩ := vInt_no h
  refine ⟨.val (.int k' (k'.wrap n)), ok_bind.2 ⟨_, h1, ?_⟩, ?_⟩
  · unfold convert
    exact ok_bind.2 ⟨_, hs, ok_bind.2 ⟨_, hd, rfl⟩⟩
  · cases n with
    | ofNat n => exact retNat_yes (show retNat k' n (fun v => k (.val v)) = .yes from h)
    | negSucc n => exact retInt_yes (show retInt k' (.negSucc n) (fun v => k (.val v)) = .yes from h)

theorem lenSl_ok {c : Call} {x : Operand} {t : TypeId} (hc : c.callee = .builtin .len) (ha : c.args.toList = [x]) (ht : c.argTypes[0]? = some t) (hs : isSliceT P t = true) {fx : Tr Value → (Value → Ans) → Ans} (hx : GetOk fx (opd · x)) :
    FltOk P ⟨dst, .call c, ty, pos, after, gd⟩ (fLenSl fx) := by
  intro tm σ k h
  obtain ⟨v, h1, h⟩ := hx _ _ h
  obtain ⟨a, n, cap, rfl, h⟩ := vSlice_no h
  obtain ⟨e, he⟩ : ∃ e, P.underlying t = some (.slice e) := by
    unfold isSliceT at hs; split at hs
    · exact ⟨_, ‹_›⟩
    · cases hs
  refine ⟨_, ?_, h⟩
  simp only [aflt, hc, looks, if_true, ha]
  refine ok_bind.2 ⟨[.slice a n cap], ok_bind.2 ⟨_, h1, rfl⟩, fval_ok ?_⟩
  simp only [aLook, ht]
  exact ok_bind.2 ⟨TypeDesc.slice e, by simp [und, he], rfl⟩
end

theorem fltB_ok {o : Oper} {f : Tr Value → St → (FV → Ans) → Ans} (h : fltB P o = .mk f) : FltOk P o f := by
  obtain ⟨dst, op, ty, pos, after, gd⟩ := o
  cases op <;> simp only [fltB] at h
  case move x => obtain ⟨fx, hx, rfl⟩ := with1_of h; exact move_ok hx
  case assign x => obtain ⟨fx, hx, rfl⟩ := with1_of h; exact assign_ok hx
  case pick c a b =>
    cases hc : opdB c with
    | mk fc =>
      rw [hc] at h
      obtain ⟨fa, fb, ha, hb, rfl⟩ := with2_of h
      exact pick_ok (opdB_ok hc) ha hb
  case alloc e =>
    split at h
    · rename_i z hz
      cases h
      intro tm σ k hk
      exact ⟨_, ok_bind.2 ⟨z, hz, rfl⟩, hk⟩
    · exact fGen_of h
  case box e x => obtain ⟨fx, hx, rfl⟩ := with1_of h; exact box_ok hx
  case build => cases h; exact fGen_ok fun _ _ => rfl
  case buildSlice => cases h; exact fGen_ok fun _ _ => rfl
  case load t a =>
    split at h
    · rename_i d hd
      cases hg : isAggD d
      · rw [hg] at h; obtain ⟨fx, hx, rfl⟩ := with1_of h; exact load_ok hd hg hx
      · rw [hg] at h; cases h; exact fGen_ok fun _ _ => rfl
    · exact fGen_of h
  case nilCheck x => obtain ⟨fx, hx, rfl⟩ := with1_of h; exact nil_ok hx
  case binOp op t x y t' =>
    cases hsh : isShift op
    · simp only [hsh, cond_false] at h
      have hI : ∀ {f}, IntB.rec (motive := fun _ => FltB) (fun f => with2 x y (fBin P f op t x y)) (intB op) = .mk f → FltOk P ⟨dst, .binOp op t x y t', ty, pos, after, gd⟩ f := by
        intro f h
        cases hi : intB op with
        | mk g =>
          rw [hi] at h
          obtain ⟨fx, fy, hx, hy, rfl⟩ := with2_of h
          exact bin_ok (intB_ok hsh hi) hx hy
      split at h
      · cases hp : isPtrT P t
        · rw [hp] at h; simp only [cond_false] at h
          cases hs : isSliceT P t
          · rw [hs] at h; exact hI h
          · rw [hs] at h; obtain ⟨fx, fy, hx, hy, rfl⟩ := with2_of h; exact eqS_ok (eq := true) hs hx hy
        · rw [hp] at h; obtain ⟨fx, fy, hx, hy, rfl⟩ := with2_of h; exact eqP_ok (eq := true) hp hx hy
      · cases hp : isPtrT P t
        · rw [hp] at h; simp only [cond_false] at h
          cases hs : isSliceT P t
          · rw [hs] at h; exact hI h
          · rw [hs] at h; obtain ⟨fx, fy, hx, hy, rfl⟩ := with2_of h; exact eqS_ok (eq := false) hs hx hy
        · rw [hp] at h; obtain ⟨fx, fy, hx, hy, rfl⟩ := with2_of h; exact eqP_ok (eq := false) hp hx hy
      · exact hI h
    · simp only [hsh, cond_true] at h
      obtain ⟨fx, fy, hx, hy, rfl⟩ := with2_of h
      cases op <;> simp only [isShift] at hsh <;> first | cases hsh | skip
      · exact shift_ok iShl_ok hx hy
      · exact shift_ok iShr_ok hx hy
  case unOp op t x =>
    split at h
    · obtain ⟨fx, hx, rfl⟩ := with1_of h; exact not_ok hx
    · exact fGen_of h
  case convert s d x =>
    split at h
    · obtain ⟨fx, hx, rfl⟩ := with1_of h; exact conv_ok ‹_› ‹_› hx
    · cases h; exact fGen_ok fun _ _ => rfl
  case makeInterface t x =>
    split at h
    · exact fGen_of h
    · rename_i d hne hd
      obtain ⟨fx, hx, rfl⟩ := with1_of h
      intro tm σ k hk
      obtain ⟨v, h1, hk⟩ := hx _ _ hk
      refine ⟨_, ok_bind.2 ⟨_, ‹_›, ?_⟩, hk⟩
      split
      · exact (hne _ rfl).elim
      · exact ok_bind.2 ⟨_, h1, rfl⟩
    · exact fGen_of h
  case makeMap => cases h; exact fGen_ok fun _ _ => rfl
  case makeSlice => cases h; exact fGen_ok fun _ _ => rfl
  case fieldAddr s x fi =>
    split at h
    · rename_i fields hu
      split at h
      · rename_i fl hf
        split at h
        · rename_i i hi
          cases h0 : Nat.beq i.size 0
          · have h0' : i.size ≠ 0 := fun e => by rw [e] at h0; cases h0
            simp only [h0, cond_false] at h
            cases h1 : Nat.beq fl.offset 0
            · rw [h1] at h
              obtain ⟨fx, hx, rfl⟩ := with1_of h
              intro tm σ k hk
              obtain ⟨v, h2, hk⟩ := hx _ _ hk
              obtain ⟨a, rfl, hk⟩ := ptrK_yes hk
              replace hk := (natK_eq (Nat.add a.off fl.offset) (fun o => k (.val (.pointer (some ⟨a.block, o, none⟩))))).symm.trans hk
              refine ⟨_, fieldAddr_ok hu hf hi h0' hx h2, ?_⟩
              rw [addA_pos a (fun e => by rw [e] at h1; cases h1)]; exact hk
            · rw [h1] at h
              obtain ⟨fx, hx, rfl⟩ := with1_of h
              intro tm σ k hk
              obtain ⟨v, h2, hk⟩ := hx _ _ hk
              obtain ⟨a, rfl, hk⟩ := vPtr_no hk
              obtain ⟨a, rfl, hk⟩ := optK_yes hk
              refine ⟨_, fieldAddr_ok hu hf hi h0' hx h2, ?_⟩
              rw [show fl.offset = 0 by simpa using h1]; exact hk
          · rw [h0] at h; exact fGen_of h
        · exact fGen_of h
      · exact fGen_of h
    · exact fGen_of h
  case indexAddr t x ix =>
    split at h
    · split at h
      · obtain ⟨fx, fy, hx, hy, rfl⟩ := with2_of h; exact indexArr_ok ‹_› ‹_› hx hy
      · exact fGen_of h
    · split at h
      · obtain ⟨fx, fy, hx, hy, rfl⟩ := with2_of h; exact indexSl_ok ‹_› ‹_› hx hy
      · exact fGen_of h
    · exact fGen_of h
  case field => cases h; exact fGen_ok fun _ _ => rfl
  case index => cases h; exact fGen_ok fun _ _ => rfl
  case lookup => cases h; exact fGen_ok fun _ _ => rfl
  case extract t ix => obtain ⟨fx, hx, rfl⟩ := with1_of h; exact extract_ok hx
  case call c =>
    split at h
    · rename_i hc
      split at h
      · rename_i x t ha ht
        cases hs : isSliceT P t
        · rw [hs] at h; exact fGen_of h
        · rw [hs] at h; obtain ⟨fx, hx, rfl⟩ := with1_of h; exact lenSl_ok hc ha ht hs hx
      · exact fGen_of h
    · exact fGen_of h
  all_goals exact fGen_of h

theorem fltK_yes {o : Oper} {tm : Tr Value} {σ : St} {k : FV → Ans} (h : fltK P o tm σ k = .yes) : ∃ fv, aflt P σ tm o = .ok fv ∧ k fv = .yes := by
  cases hf : fltB P o with
  | mk f =>
    simp only [fltK, hf] at h
    exact fltB_ok hf tm σ k h

end Go.Ev.K

/- The calls from within drawn regions, to a depth; what the machine in continuation-passing style has to show. -/
namespace Go.Ev.K

theorem gather_mono {α : Type} {g g' : α → E (List CRes)} : ∀ {l : List α} {rs : List CRes}, (∀ x ∈ l, ∀ r, g x = .ok r → g' x = .ok r) → gather (l.map g) = .ok rs → gather (l.map g') = .ok rs
  | [], _, _, h => h
  | x :: xs, rs, hg, h => by
    simp only [List.map_cons, gather, ok_bind, ok_inj] at h ⊢
    obtain ⟨a, ha, b, hb, rfl⟩ := h
    exact ⟨a, hg x List.mem_cons_self a ha, b, gather_mono (fun y hy => hg y (List.mem_cons_of_mem _ hy)) hb, rfl⟩

section
variable {P : Program} {X : Specs} {call : CallF} {f : FuncId}

theorem run_succ : ∀ {n : Nat} {m : MSt} {rs : List CRes}, run P X call f n m = .ok rs → run P X call f (n + 1) m = .ok rs
  | 0, _, _, h => by cases h
  | n + 1, m, rs, h => by
    rw [run] at h ⊢
    simp only [ok_bind] at h ⊢
    obtain ⟨s, hs, h⟩ := h
    refine ⟨s, hs, ?_⟩
    cases s with
    | next m' => exact run_succ h
    | branch l => exact gather_mono (fun m' _ r hr => run_succ hr) h
    | done r => exact h

theorem run_le {n n' : Nat} (hn : n ≤ n') {m : MSt} {rs : List CRes} (h : run P X call f n m = .ok rs) : run P X call f n' m = .ok rs := by
  induction hn with
  | refl => exact h
  | step _ ih => exact run_succ ih

theorem run_uniq {n n' : Nat} {m : MSt} {rs rs' : List CRes} (h : run P X call f n m = .ok rs) (h' : run P X call f n' m = .ok rs') : rs = rs' := by
  have a := run_le (Nat.le_max_left n n') h
  have b := run_le (Nat.le_max_right n n') h'
  rw [a] at b
  exact ok_inj.1 b
end

open Classical in
/-- calls to depth d: what a run to its end gives -/
noncomputable def callD (P : Program) (X : Specs) : Nat → CallF
  | 0 => fun _ _ _ => .error ""
  | d + 1 => fun f args σ =>
    if h : ∃ (r : CRes) (a : AFrame) (n : Nat), enterFrame P f args .normal = .ok a ∧ run P X (callD P X d) f n { fr := a, cs := [], σ } = .ok [r] then .ok h.choose else .error ""

variable {P : Program} {X : Specs}

theorem callD_spec {d : Nat} {f : FuncId} {args : List Value} {σ : St} {r : CRes} {a : AFrame} {n : Nat} (ha : enterFrame P f args .normal = .ok a) (hr : run P X (callD P X d) f n { fr := a, cs := [], σ } = .ok [r]) :
    callD P X (d + 1) f args σ = .ok r := by
  have h : ∃ (r : CRes) (a : AFrame) (n : Nat), enterFrame P f args .normal = .ok a ∧ run P X (callD P X d) f n { fr := a, cs := [], σ } = .ok [r] := ⟨r, a, n, ha, hr⟩
  simp only [callD]
  rw [dif_pos h]
  obtain ⟨a', n', ha', hr'⟩ := h.choose_spec
  rw [ha] at ha'; cases ha'
  have := run_uniq hr' hr
  simp only [List.cons.injEq, and_true] at this
  rw [this]

theorem callD_good (hX : SpecsOk P X) (hmix : P.follows .mixedOrders = true) : ∀ d, CallGood P (callD P X d)
  | 0 => fun f args σ r R w cargs h => by cases h
  | d + 1 => by
    intro f args σ r R w cargs h H ha
    simp only [callD] at h
    split at h
    case isFalse => cases h
    rename_i hex
    obtain ⟨a, n, he, hrs⟩ := hex.choose_spec
    simp only [ok_inj] at h
    rw [h] at hrs
    have := run_calls hX (drawn_good hX (callD_good hX hmix d) hmix) H ha he hrs
    cases r with
    | ret v σ' => exact this.mono fun e w' ⟨r, hr, he⟩ => by rw [List.mem_singleton.1 hr] at he; exact he
    | panic ch σ' => exact this.mono fun e w' ⟨r, hr, he⟩ => by rw [List.mem_singleton.1 hr] at he; exact he

def FinB.f : FinB → CRes → Ans
  | .mk f _ => f
def FinB.br : FinB → Bool
  | .mk _ b => b
theorem finAt_eq (b : FinB) (r : CRes) : finAt b r = FinB.f b r := by cases b; rfl
theorem brAt_yes {b : FinB} {k : Ans} (h : brAt b k = .yes) : FinB.br b = true ∧ k = .yes := by
  obtain ⟨f, br⟩ := b
  cases br with
  | true => exact ⟨rfl, h⟩
  | false => cases h
theorem andK_yes {a b : Ans} (h : andK a b = .yes) : a = .yes ∧ b = .yes := by
  cases a with
  | yes => exact ⟨rfl, h⟩
  | no => cases h

/-- from here on the run ends as 'fin' wants; in one way, unless it may part -/
def W (P : Program) (X : Specs) (d : Nat) (f0 : FuncId) (fin : FinB) (m : MSt) : Prop :=
  ∃ n rs, run P X (callD P X d) f0 n m = .ok rs ∧ (∀ r ∈ rs, FinB.f fin r = .yes) ∧ (FinB.br fin = false → ∃ r, rs = [r])

theorem W.next {d : Nat} {f0 : FuncId} {fin : FinB} {m m' : MSt} (h : astep P X (callD P X d) m = .ok (.next m')) (hw : W P X d f0 fin m') : W P X d f0 fin m := by
  obtain ⟨n, rs, h1, h2, h3⟩ := hw
  exact ⟨n + 1, rs, by rw [run]; exact ok_bind.2 ⟨_, h, h1⟩, h2, h3⟩
theorem W.done {d : Nat} {f0 : FuncId} {fin : FinB} {m : MSt} {r : CRes} (h : astep P X (callD P X d) m = .ok (.done r)) (hf : m.fr.fn = f0) (hr : finAt fin r = .yes) : W P X d f0 fin m :=
  ⟨1, [r], by rw [run]; exact ok_bind.2 ⟨_, h, by simp only [if_pos hf]⟩, fun r' hr' => by rw [List.mem_singleton.1 hr', ← finAt_eq]; exact hr, fun _ => ⟨r, rfl⟩⟩
theorem W.branch {d : Nat} {f0 : FuncId} {fin : FinB} {m : MSt} {l : List MSt} (h : astep P X (callD P X d) m = .ok (.branch l)) (hb : FinB.br fin = true) (hw : ∀ m' ∈ l, W P X d f0 fin m') : W P X d f0 fin m := by
  have key : ∀ l : List MSt, (∀ m' ∈ l, W P X d f0 fin m') → ∃ n rs, gather (l.map (run P X (callD P X d) f0 n)) = .ok rs ∧ ∀ r ∈ rs, FinB.f fin r = .yes := by
    intro l
    induction l with
    | nil => intro _; exact ⟨0, [], rfl, fun r hr => by cases hr⟩
    | cons m' l ih =>
      intro hl
      obtain ⟨n1, rs1, h1, h2, _⟩ := hl m' List.mem_cons_self
      obtain ⟨n2, rs2, h3, h4⟩ := ih fun x hx => hl x (List.mem_cons_of_mem _ hx)
      refine ⟨max n1 n2, rs1 ++ rs2, ?_, fun r hr => (List.mem_append.1 hr).elim (h2 r) (h4 r)⟩
      simp only [List.map_cons, gather]
      refine ok_bind.2 ⟨rs1, run_le (Nat.le_max_left _ _) h1, ok_bind.2 ⟨rs2, ?_, rfl⟩⟩
      exact gather_mono (fun x _ r hr => run_le (Nat.le_max_right _ _) hr) h3
  obtain ⟨n, rs, h1, h2⟩ := key l hw
  exact ⟨n + 1, rs, by rw [run]; exact ok_bind.2 ⟨_, h, h1⟩, h2, fun e => by rw [hb] at e; cases e⟩

def GoodG (P : Program) (X : Specs) (G : GoK) : Prop := ∀ todo tm σ c, G todo tm σ c = .yes → W P X c.d c.f0 c.fin (c.mst todo tm σ)

/-- a program's own ways of summaries -/
def XKOk (X : Specs) (XK : FuncId → XB) : Prop := ∀ f, match XK f with
  | .none => ∀ args σ, X f args σ = Option.none
  | .gen => True
  | .mk g => ∀ args σ k, g args σ k = .yes → ∃ v σ', (X f args σ = some (.ext v σ') ∨ X f args σ = some (.sum v σ')) ∧ k v σ' = .yes

/-! ### the slow road -/

theorem runWs_cerr {ops : Array Oper} {bs : List Nat} {sz n0 : Nat} {call : CallF} {l : List (Oper × Nat)} : ∀ {ws : List (Oper × Nat)} {s : DR} {r : WR}, runWs P X cerr ops bs sz n0 l ws s = .ok r → runWs P X call ops bs sz n0 l ws s = .ok r
  | [], _, _, h => h
  | (o, i) :: ws, s, r, h => by
    simp only [runWs] at h ⊢
    split at h
    · rename_i hd; rw [if_pos hd]; exact runWs_cerr h
    · rename_i hd
      rw [if_neg hd]
      simp only [ok_bind] at h ⊢
      obtain ⟨s1, h1, r1, h2, h⟩ := h
      refine ⟨s1, h1, r1, ?_, ?_⟩
      · simp only [runW, ok_bind] at h2 ⊢
        obtain ⟨w, hw, h2⟩ := h2
        refine ⟨w, hw, ?_⟩
        split at h2
        · rename_i hw'; rw [if_pos hw']; exact h2
        · rename_i hw'
          rw [if_neg hw']
          split at h2
          · cases h2
          rename_i hd2
          rw [if_neg hd2]
          split at h2
          · cases h2
          rename_i hd3
          rw [if_neg hd3]
          simp only [ok_bind] at h2 ⊢
          obtain ⟨ret, hret, c, hc, h2⟩ := h2
          refine ⟨ret, hret, c, ?_, h2⟩
          cases ret <;> first | exact hc | (simp only [outcome, cerr] at hc; cases hc)
      · cases r1 with
        | ok s => exact runWs_cerr h
        | panic => exact h

theorem exec_cerr {call : CallF} {m : MSt} {s : Step} (h : exec P X cerr m = .ok s) : exec P X call m = .ok s := by
  unfold exec at h ⊢
  split at h
  · exact h
  · split at h <;> try exact h
    split at h <;> try exact h
    split at h
    · rename_i hd
      simp only [ok_bind, hd, if_true] at h ⊢
      obtain ⟨r, hr, h⟩ := h
      refine ⟨r, ?_, h⟩
      simp only [drawn] at hr ⊢
      split at hr
      · cases hr
      rename_i h0
      rw [if_neg h0]
      simp only [ok_bind] at hr ⊢
      obtain ⟨w, hw, hr⟩ := hr
      exact ⟨w, runWs_cerr hw, hr⟩
    · rename_i hd
      rw [if_neg hd]; exact h

end Go.Ev.K

/- Operations of a region, one after the other. -/
namespace Go.Ev.K
variable {P : Program} {X : Specs} {XK : FuncId → XB}

abbrev Wc (P : Program) (X : Specs) (c : Ctx) (m : MSt) : Prop := W P X c.d c.f0 c.fin m

theorem mst_of {c : Ctx} {m : MSt} (h : m.fr.mode = .run) :
    Ctx.mst { fn := m.fr.fn, sz := m.fr.sz, defers := m.fr.defers, kind := m.fr.kind, ro := m.fr.roundOf, cs := m.cs, f0 := c.f0, d := c.d, fin := c.fin } m.fr.todo m.fr.tmps m.σ = m := by
  obtain ⟨⟨fn, tm, sz, todo, defers, mode, kind, ro⟩, cs, σ⟩ := m
  cases h; rfl

theorem modeK_yes {md : FrameMode} {k e : Ans} (h : modeK md k e = .yes) : (md = .run ∧ k = .yes) ∨ (md ≠ .run ∧ e = .yes) := by
  cases md with
  | run => exact .inl ⟨rfl, h⟩
  | returning => exact .inr ⟨by simp, h⟩
  | panicking ch => exact .inr ⟨by simp, h⟩

theorem astep_unw {call : CallF} {m : MSt} (h : m.fr.mode ≠ .run) : astep P X call m = unwind P X m := by
  unfold astep
  split
  · exact absurd ‹_› h
  · rfl

theorem finK_yes {c : Ctx} {m : MSt} {r : CRes} (h : finK c m r = .yes) : m.fr.fn = c.f0 ∧ finAt c.fin r = .yes := by
  obtain ⟨h1, h2⟩ := ifK_no h
  exact ⟨by simpa using h1, h2⟩

theorem unwK_ok {G : GoK} (hG : GoodG P X G) : ∀ (n : Nat) (c : Ctx) (m : MSt), unwK P X n c m G = .yes → Wc P X c m
  | 0, _, _, h => by cases h
  | n + 1, c, m, h => by
    rcases modeK_yes (show modeK m.fr.mode (goOn c m G) _ = .yes from h) with ⟨hm, h⟩ | ⟨hm, h⟩
    · have := hG _ _ _ _ h
      rw [mst_of hm] at this
      exact this
    · obtain ⟨s, hs, h⟩ := bindE_yes h
      cases s with
      | next m' => exact W.next (by rw [astep_unw hm]; exact hs) (unwK_ok hG n c m' h)
      | branch => cases h
      | done r =>
        obtain ⟨h1, h2⟩ := finK_yes (show finK c m r = .yes from h)
        exact W.done (by rw [astep_unw hm]; exact hs) h1 h2

theorem stepK_ok {G : GoK} (hG : GoodG P X G) {c : Ctx} {m : MSt} {s : E Step} (h : stepK P X c m s G = .yes) (hs : ∀ st, s = .ok st → astep P X (callD P X c.d) m = .ok st) : Wc P X c m := by
  obtain ⟨st, h1, h⟩ := bindE_yes h
  cases st with
  | next m' => exact W.next (hs _ h1) (unwK_ok hG 1000 c m' h)
  | branch l =>
    obtain ⟨hb, hl⟩ := brAt_yes (show brAt c.fin _ = .yes from h)
    refine W.branch (hs _ h1) hb ?_
    clear h1 h
    induction l with
    | nil => intro m' hm; cases hm
    | cons x xs ih =>
      obtain ⟨h2, h⟩ := andK_yes (show andK (unwK P X 1000 c x G) _ = .yes from hl)
      intro m' hm
      rcases List.mem_cons.1 hm with rfl | hm
      · exact unwK_ok hG 1000 c m' h2
      · exact ih h m' hm
  | done r =>
    obtain ⟨h2, h3⟩ := finK_yes (show finK c m r = .yes from h)
    exact W.done (hs _ h1) h2 h3

theorem astep_run {call : CallF} {m : MSt} (h : m.fr.mode = .run) : astep P X call m = exec P X call m := by
  unfold astep; rw [h]

theorem slowK_ok {G : GoK} (hG : GoodG P X G) {c : Ctx} {todo : List AItem} {tm : Tr Value} {σ : St} (h : slowK P X c (c.mst todo tm σ) G = .yes) : Wc P X c (c.mst todo tm σ) :=
  stepK_ok hG h fun st hst => by rw [astep_run rfl]; exact exec_cerr hst

/-! ### a region's operations -/

def RFOk (P : Program) (X : Specs) (ops : Array Oper) (os : List Oper) (rf : RF) : Prop :=
  ∀ k tm σ c G, GoodG P X G → rf k tm σ c G = .yes → Wc P X c (c.mst (.inReg ops os :: k) tm σ)
/-- .. given that the first is wanted -/
def RYOk (P : Program) (X : Specs) (ops : Array Oper) (o : Oper) (os : List Oper) (rf : RF) : Prop :=
  ∀ k tm σ c G, GoodG P X G → awanted ops tm o = .ok true → rf k tm σ c G = .yes → Wc P X c (c.mst (.inReg ops (o :: os) :: k) tm σ)

theorem rEnd_ok {ops : Array Oper} : RFOk P X ops [] rEnd := fun _ _ _ _ _ hG h => W.next rfl (hG _ _ _ _ h)

theorem step_oper {call : CallF} {ops : Array Oper} {o : Oper} {os : List Oper} {k : List AItem} {tm : Tr Value} {σ : St} {c : Ctx} : astep P X call (c.mst (.inReg ops (o :: os) :: k) tm σ) = execOper P X (c.mst (.inReg ops (o :: os) :: k) tm σ) ops o os k := rfl

theorem rSlow_ok {ops : Array Oper} {o : Oper} {os : List Oper} : RFOk P X ops (o :: os) (rSlow P X ops o os) := fun _ _ _ _ _ hG h => stepK_ok hG h fun _ hst => hst

theorem RFOk.wanted {ops : Array Oper} {o : Oper} {os : List Oper} {rf : RF} (h : RFOk P X ops (o :: os) rf) : RYOk P X ops o os rf := fun k tm σ c G hG _ => h k tm σ c G hG

theorem finish_reg {c : Ctx} {ops : Array Oper} {o : Oper} {os : List Oper} {k : List AItem} {tm tm' : Tr Value} {σ σ' : St} {v : Value} (h : putTm tm c.sz o.dst v = .ok tm') :
    finish (c.mst (.inReg ops (o :: os) :: k) tm σ).fr v = .ok (c.mst (.inReg ops os :: k) tm' σ').fr := by
  simp only [finish, Ctx.mst]
  exact ok_bind.2 ⟨tm', h, rfl⟩

/-- an operation that yields -/
theorem step_val {call : CallF} {ops : Array Oper} {o : Oper} {os : List Oper} {k : List AItem} {tm tm' : Tr Value} {σ σ' : St} {c : Ctx} {v : Value} (hw : awanted ops tm o = .ok true) (hv : ∃ f args, aop P X σ tm o = .ok (.val v σ') ∨ aop P X σ tm o = .ok (.callv f args v σ'))
    (hp : putTm tm c.sz o.dst v = .ok tm') : astep P X call (c.mst (.inReg ops (o :: os) :: k) tm σ) = .ok (.next (c.mst (.inReg ops os :: k) tm' σ')) := by
  rw [step_oper]
  unfold execOper
  refine ok_bind.2 ⟨true, hw, ?_⟩
  rw [if_pos rfl]
  obtain ⟨f, args, hv | hv⟩ := hv
  · exact ok_bind.2 ⟨_, hv, ok_bind.2 ⟨_, finish_reg (σ' := σ') hp, rfl⟩⟩
  · exact ok_bind.2 ⟨_, hv, ok_bind.2 ⟨_, finish_reg (σ' := σ') hp, rfl⟩⟩

theorem allocK_eq (σ : St) (o : AObj) (k : Nat → St → Ans) : allocK σ o k = k σ.next (alloc σ o) := by
  cases σ with
  | mk h n =>
    show natK n (fun n => setK h n o fun h => natK (Nat.succ n) fun n' => k n ⟨h, n'⟩) = _
    rw [natK_eq, setK_eq, natK_eq]; rfl
theorem nextK_eq (σ : St) (k : Nat → St → Ans) : nextK σ k = k σ.next { heap := σ.heap, next := σ.next + 1 } := by
  cases σ with
  | mk h n =>
    show natK n (fun n => natK (Nat.succ n) fun n' => k n ⟨h, n'⟩) = _
    rw [natK_eq, natK_eq]

theorem rFlt_ok {ops : Array Oper} {o : Oper} {os : List Oper} (hf : isFlt o = true) {f : Tr Value → St → (FV → Ans) → Ans} (hF : FltOk P o f) {s : Nat → Value → Tr Value → (Tr Value → Ans) → Ans} (hS : SetOk o.dst s) {rest : RF} (hR : RFOk P X ops os rest) :
    RYOk P X ops o os (rFlt f s rest) := by
  intro k tm σ c G hG hw h
  obtain ⟨fv, h1, h⟩ := hF _ _ _ h
  have haop : aop P X σ tm o = .ok (ofFV σ fv) := by
    unfold aop; rw [if_pos hf]; exact ok_bind.2 ⟨_, h1, rfl⟩
  cases fv with
  | val v =>
    obtain ⟨tm', hp, h⟩ := hS _ _ _ _ h
    exact W.next (step_val hw ⟨0, [], .inl haop⟩ hp) (hR _ _ _ _ _ hG h)
  | new mk ob =>
    have h := (allocK_eq σ ob (fun n σ => s c.sz (mk n) tm fun tm => rest k tm σ c G)).symm.trans h
    obtain ⟨tm', hp, h⟩ := hS _ _ _ _ h
    exact W.next (step_val hw ⟨0, [], .inl haop⟩ hp) (hR _ _ _ _ _ hG h)
  | dead mk =>
    have h := (nextK_eq σ (fun n σ => s c.sz (mk n) tm fun tm => rest k tm σ c G)).symm.trans h
    obtain ⟨tm', hp, h⟩ := hS _ _ _ _ h
    exact W.next (step_val hw ⟨0, [], .inl haop⟩ hp) (hR _ _ _ _ _ hG h)

/-! ### guards -/

def GuOk (ops : Array Oper) (o : Oper) (f : Tr Value → (Bool → Ans) → Ans) : Prop := ∀ tm k, f tm k = .yes → ∃ b, awanted ops tm o = .ok b ∧ k b = .yes

theorem guB_ok {ops : Array Oper} {o : Oper} {f : Tr Value → (Bool → Ans) → Ans} (h : guB ops o = .mk f) : GuOk ops o f := by
  unfold guB at h
  split at h
  · rename_i hg
    cases h
    intro tm k hk
    exact ⟨true, by simp [awanted, hg], hk⟩
  · rename_i j want hg
    split at h
    · cases h; intro tm k hk; cases hk
    · rename_i t ht
      cases hb : trGetB (pathOf (t + 1) t) with
      | mk g =>
        rw [hb] at h
        simp only [GuB.mk.injEq] at h; subst h
        intro tm k hk
        have := trGet_ok (t + 1) t (Nat.lt_succ_self t) tm (fun v => vTuple v (fun _ => k false) (fun b => ifK (Bool.rec (motive := fun _ => Bool) (!want) want b) (k true) (k false)) .no) (by rw [hb]; exact hk)
        obtain ⟨v, hv, hk⟩ := this
        rcases vTuple_yes hk with ⟨vs, rfl, hk⟩ | ⟨b, rfl, hk⟩
        · exact ⟨false, by simp [awanted, hg, ht, hv], hk⟩
        · refine ⟨b == want, by simp [awanted, hg, ht, hv], ?_⟩
          cases b <;> cases want <;> exact hk

theorem guK_yes {ops : Array Oper} {o : Oper} {tm : Tr Value} {k : Bool → Ans} (h : guK ops o tm k = .yes) : ∃ b, awanted ops tm o = .ok b ∧ k b = .yes := by
  cases hf : guB ops o with
  | mk f => simp only [guK, hf] at h; exact guB_ok hf tm k h
theorem putK_yes {d : Option Tmp} {sz : Nat} {v : Value} {tm : Tr Value} {k : Tr Value → Ans} (h : putK d sz v tm k = .yes) : ∃ tm', putTm tm sz d v = .ok tm' ∧ k tm' = .yes := by
  cases hf : setB d with
  | mk f => simp only [putK, hf] at h; exact setB_ok hf sz v tm k h

theorem rGuard_ok {ops : Array Oper} {o : Oper} {os : List Oper} {g : Tr Value → (Bool → Ans) → Ans} (hg : GuOk ops o g) {s : Nat → Value → Tr Value → (Tr Value → Ans) → Ans} (hS : SetOk o.dst s) {y rest : RF} (hY : RYOk P X ops o os y) (hR : RFOk P X ops os rest) :
    RFOk P X ops (o :: os) (rGuard g s y rest) := by
  intro k tm σ c G hG h
  obtain ⟨b, hb, h⟩ := hg _ _ h
  rcases ifK_yes h with ⟨rfl, h⟩ | ⟨rfl, h⟩
  · exact hY _ _ _ _ _ hG hb h
  · obtain ⟨tm', hp, h⟩ := hS _ _ _ _ h
    refine W.next (m' := c.mst (.inReg ops os :: k) tm' σ) ?_ (hR _ _ _ _ _ hG h)
    rw [step_oper]
    unfold execOper
    refine ok_bind.2 ⟨false, hb, ?_⟩
    rw [if_neg (by decide)]
    exact ok_bind.2 ⟨tm', hp, rfl⟩

theorem noGuard_wanted {ops : Array Oper} {tm : Tr Value} {o : Oper} (h : o.guard = none) : awanted ops tm o = .ok true := by simp [awanted, h]

/-! ### stores -/

theorem lenK_eq (l : List Value) : lenK l = l.length := by
  induction l with
  | nil => rfl
  | cons x xs ih => show Nat.succ (lenK xs) = _; rw [ih]; rfl
theorem setCellsK_eq : ∀ (vs : List Value) (c : Tr Value) (i : Nat) (k : Tr Value → Ans), setCellsK vs c i k = k (setCells c i vs)
  | [], _, _, _ => rfl
  | v :: vs, c, i, k => by
    show setK c i v (fun c => natK (Nat.succ i) fun i => setCellsK vs c i k) = _
    rw [setK_eq, natK_eq, setCellsK_eq vs]; rfl
theorem allOneK_yes : ∀ {vs : List Value} {k : Ans}, allOneK vs k = .yes → vs.all oneCell = true ∧ k = .yes
  | [], _, h => ⟨rfl, h⟩
  | v :: vs, k, h => by
    rcases vOne_yes (show vOne v (allOneK vs k) .no = .yes from h) with ⟨h1, h⟩ | ⟨_, h⟩
    · obtain ⟨h2, h⟩ := allOneK_yes h
      exact ⟨by simp [h1, h2], h⟩
    · cases h

theorem storeK_yes {σ : St} {a : Addr} {vs : List Value} {k : St → Ans} (hs : a.spot = none) (hne : vs ≠ []) (h : storeK σ a.block a.off vs k = .yes) : ∃ σ', storeCells σ a vs = .ok σ' ∧ k σ' = .yes := by
  cases σ with
  | mk hp n =>
    have h := (getK_eq hp a.block _).symm.trans (show getK hp a.block _ = .yes from h)
    obtain ⟨ob, ho, h⟩ := optK_yes h
    obtain ⟨c, d, m, e, x, fz, mk, rfl, h⟩ := cellsK_yes h
    obtain ⟨h1, h⟩ := ifK_no h
    obtain ⟨h2, h⟩ := ifK_no h
    obtain ⟨h3, h⟩ := allOneK_yes h
    rw [setCellsK_eq, setK_eq] at h
    have h1' : a.off + vs.length ≤ m := by rw [lenK_eq] at h1; simpa using h1
    have h2' : fz ≤ a.off := by simpa using h2
    refine ⟨_, ?_, h⟩
    unfold storeCells
    have : vs.isEmpty = false := by cases vs with
      | nil => exact absurd rfl hne
      | cons => rfl
    rw [this, if_neg (by decide)]
    refine ok_bind.2 ⟨_, obj_of_get ho, ?_⟩
    simp only
    rw [if_pos ⟨h1', h2', hs, h3⟩]

theorem storeVK_yes {t : TypeId} {i : TypeInfo} (hi : tinfo P t = .ok i) {a x : Operand} {fa fx : Tr Value → (Value → Ans) → Ans} (ha : GetOk fa (opd · a)) (hx : GetOk fx (opd · x)) {tm : Tr Value} {σ : St} {k : St → Ans}
    (h : storeVK i.size fa fx tm σ k = .yes) : ∃ σ', aStore P σ tm t a x = .ok (.val undef σ') ∧ k σ' = .yes := by
  obtain ⟨av, h1, h⟩ := ha _ _ h
  obtain ⟨v, h2, h⟩ := hx _ _ h
  obtain ⟨ad, rfl, h⟩ := ptrK_yes h
  obtain ⟨hs, h⟩ := noneK_yes h
  have key : ∀ σ', v.cells.size = i.size → storeCells σ ad v.cells.toList = .ok σ' → aStore P σ tm t a x = .ok (.val undef σ') := by
    intro σ' hsz hst
    unfold aStore
    refine ok_bind.2 ⟨_, h1, ok_bind.2 ⟨ad, rfl, ok_bind.2 ⟨v, h2, ok_bind.2 ⟨i, hi, ?_⟩⟩⟩⟩
    rw [if_neg (by simp [hsz])]
    exact ok_bind.2 ⟨σ', hst, rfl⟩
  rcases vAgg_yes h with ⟨vs, rfl, h⟩ | ⟨hna, h⟩
  · cases vs with
    | mk l =>
      obtain ⟨h3, h⟩ := ifK_no (show ifK (Nat.beq (lenK l) i.size) _ .no = .yes from h)
      obtain ⟨h4, h⟩ := ifK_non h
      have h3' : l.length = i.size := by rw [← lenK_eq]; simpa using h3
      have hne : l ≠ [] := fun e => by subst e; rw [← h3'] at h4; cases h4
      obtain ⟨σ', h5, h⟩ := storeK_yes hs hne h
      exact ⟨σ', key σ' (by simpa [Value.cells] using h3') h5, h⟩
  · obtain ⟨h3, h⟩ := ifK_no h
    have hc : v.cells = #[v] := by cases v <;> first | rfl | exact absurd rfl (hna _)
    obtain ⟨σ', h5, h⟩ := storeK_yes hs (by simp) h
    exact ⟨σ', key σ' (by rw [hc]; simpa using Eq.symm (by simpa using h3)) (by rw [hc]; exact h5), h⟩

theorem rStore_ok {ops : Array Oper} {dst : Option Tmp} {ty : TypeId} {pos : String} {after : Array Edge} {gd : Option (Nat × Bool)} {os : List Oper} {t : TypeId} {i : TypeInfo} (hi : tinfo P t = .ok i) {a x : Operand} {fa fx : Tr Value → (Value → Ans) → Ans} (ha : GetOk fa (opd · a)) (hx : GetOk fx (opd · x))
    {s : Nat → Value → Tr Value → (Tr Value → Ans) → Ans} (hS : SetOk dst s) {rest : RF} (hR : RFOk P X ops os rest) : RYOk P X ops ⟨dst, .store t a x, ty, pos, after, gd⟩ os (rStore i.size fa fx s rest) := by
  intro k tm σ c G hG hw h
  obtain ⟨σ', h1, h⟩ := storeVK_yes hi ha hx h
  obtain ⟨tm', hp, h⟩ := hS _ _ _ _ h
  refine W.next (step_val hw ⟨0, [], .inl ?_⟩ hp) (hR _ _ _ _ _ hG h)
  exact h1

end Go.Ev.K

/- Calls. -/
namespace Go.Ev.K
variable {P : Program} {X : Specs} {XK : FuncId → XB}

def ArgOk (xs : List Operand) (i : Nat) (f : Tr Value → Tr Value → (Tr Value → Ans) → Ans) : Prop :=
  ∀ tm acc k, f tm acc k = .yes → ∃ vs, opds tm xs = .ok vs ∧ vs.length = xs.length ∧ k (acc.ofListFrom vs i) = .yes

theorem argsB_ok : ∀ {xs : List Operand} {i : Nat} {f : Tr Value → Tr Value → (Tr Value → Ans) → Ans}, argsB xs i = .mk f → ArgOk xs i f
  | [], i, f, h => by
    cases h
    intro tm acc k hk
    exact ⟨[], rfl, rfl, hk⟩
  | x :: xs, i, f, h => by
    have h : GetB.rec (motive := fun _ => ArgB) (fun fx => PutB.rec (motive := fun _ => ArgB) (fun p => ArgB.rec (motive := fun _ => ArgB) (fun rest => .mk (argMore fx p rest)) (argsB xs (i + 1))) (trPutB (pathOf (i + 1) i))) (opdB x) = .mk f := h
    cases hx : opdB x with
    | mk fx => cases hp : trPutB (pathOf (i + 1) i) with
      | mk p => cases hr : argsB xs (i + 1) with
        | mk rest =>
          rw [hx, hp, hr] at h
          simp only [ArgB.mk.injEq] at h; subst h
          intro tm acc k hk
          obtain ⟨v, h1, hk⟩ := opdB_ok hx _ _ hk
          have he := trPut_set i v acc (fun acc => rest tm acc k)
          rw [hp] at he
          have hk : rest tm (acc.set i v) k = .yes := by rw [← he]; exact hk
          obtain ⟨vs, h2, h3, hk⟩ := argsB_ok hr _ _ _ hk
          exact ⟨v :: vs, ok_bind.2 ⟨v, h1, ok_bind.2 ⟨vs, h2, rfl⟩⟩, by simp [h3], hk⟩

def LstOk (xs : List Operand) (f : Tr Value → (List Value → Ans) → Ans) : Prop := ∀ tm k, f tm k = .yes → ∃ vs, opds tm xs = .ok vs ∧ k vs = .yes

theorem lstB_ok : ∀ {xs : List Operand} {f : Tr Value → (List Value → Ans) → Ans}, lstB xs = .mk f → LstOk xs f
  | [], f, h => by
    cases h
    intro tm k hk
    exact ⟨[], rfl, hk⟩
  | x :: xs, f, h => by
    have h : GetB.rec (motive := fun _ => LstB) (fun fx => LstB.rec (motive := fun _ => LstB) (fun rest => .mk (lstMore fx rest)) (lstB xs)) (opdB x) = .mk f := h
    cases hx : opdB x with
    | mk fx => cases hr : lstB xs with
      | mk rest =>
        rw [hx, hr] at h
        simp only [LstB.mk.injEq] at h; subst h
        intro tm k hk
        obtain ⟨v, h1, hk⟩ := opdB_ok hx _ _ hk
        obtain ⟨vs, h2, hk⟩ := lstB_ok hr _ _ hk
        exact ⟨v :: vs, ok_bind.2 ⟨v, h1, ok_bind.2 ⟨vs, h2, rfl⟩⟩, hk⟩

section
variable {dst : Option Tmp} {ty : TypeId} {pos : String} {after : Array Edge} {gd : Option (Nat × Bool)} {c : Call}

theorem call_notFlt (h : ∀ b, c.callee ≠ .builtin b) : isFlt ⟨dst, .call c, ty, pos, after, gd⟩ = false := by
  unfold isFlt
  cases hc : c.callee with
  | builtin b => exact absurd hc (h b)
  | value x => simp [hc]
  | invoke r n => simp [hc]

/-- the call of a function value -/
theorem awrt_fn {x : Operand} (hc : c.callee = .value x) {tm : Tr Value} {σ : St} {vs : List Value} {fn : Fn} {first captured : Array Value} (hx : opd tm x = .ok (.func fn first captured)) (hv : opds tm c.args.toList = .ok vs) :
    awrt P X σ tm ⟨dst, .call c, ty, pos, after, gd⟩ = invoke P X σ (.fn fn captured) (first.toList ++ vs) := by
  have hr : resolve tm c ty = .ok { target := .fn fn captured, args := (first.toList ++ vs).toArray } := by
    unfold resolve
    refine ok_bind.2 ⟨vs, hv, ?_⟩
    simp only [hc]
    exact ok_bind.2 ⟨_, hx, rfl⟩
  simp only [awrt, hr]
  try rfl

theorem awrt_func {f : FuncId} (hc : c.callee = .value (.func f)) {tm : Tr Value} {σ : St} {vs : List Value} (hv : opds tm c.args.toList = .ok vs) :
    awrt P X σ tm ⟨dst, .call c, ty, pos, after, gd⟩ = callFunc P X σ f vs := by
  rw [awrt_fn hc (fn := .func f) (first := #[]) (captured := #[]) rfl hv]
  simp [invoke]

theorem callFunc_enter {f : FuncId} {vs : List Value} {σ : St} (hx : X f vs σ = none) {fn : Func} (hf : P.funcs[f]? = some fn) {body : Code} (hb : fn.body = some body) : callFunc P X σ f vs = .ok (.enter f vs σ) := by
  unfold callFunc
  rw [hx]
  simp [hf, hb]

theorem enterFrame_of {f : FuncId} {vs : List Value} {fn : Func} (hf : P.funcs[f]? = some fn) {body : Code} (hb : fn.body = some body) {kind : CallKind} :
    enterFrame P f vs kind = .ok { fn := f, tmps := Tr.nil.ofListFrom vs 0, sz := max vs.length fn.ntmps, todo := [.code body], defers := [], mode := .run, kind, roundOf := none } := by
  unfold enterFrame
  simp [hf, hb]

theorem step_enter {call : CallF} {ops : Array Oper} {o : Oper} {os : List Oper} {k : List AItem} {tm : Tr Value} {σ σ' : St} {cx : Ctx} {f : FuncId} {vs : List Value} {a : AFrame} (hw : awanted ops tm o = .ok true) (hn : isFlt o = false) (hv : awrt P X σ tm o = .ok (.enter f vs σ'))
    (he : enterFrame P f vs .normal = .ok a) : astep P X call (cx.mst (.inReg ops (o :: os) :: k) tm σ) = .ok (.next { fr := a, cs := (cx.mst (.inReg ops (o :: os) :: k) tm σ).fr :: cx.cs, σ := σ' }) := by
  rw [step_oper]
  unfold execOper
  refine ok_bind.2 ⟨true, hw, ?_⟩
  rw [if_pos rfl]
  refine ok_bind.2 ⟨.enter f vs σ', ?_, ok_bind.2 ⟨a, he, rfl⟩⟩
  unfold aop
  rw [hn, if_neg (by decide)]
  exact hv

theorem rCall_ok {ops : Array Oper} {os : List Oper} {f : FuncId} (hc : c.callee = .value (.func f)) (hx : ∀ args σ, X f args σ = none) {fn : Func} (hf : P.funcs[f]? = some fn) {body : Code} (hb : fn.body = some body)
    {args : Tr Value → Tr Value → (Tr Value → Ans) → Ans} (ha : ArgOk c.args.toList 0 args) : RYOk P X ops ⟨dst, .call c, ty, pos, after, gd⟩ os (rCall f body (max c.args.toList.length fn.ntmps) args ops ⟨dst, .call c, ty, pos, after, gd⟩ os) := by
  intro k tm σ cx G hG hw h
  obtain ⟨vs, h1, h2, h⟩ := ha _ _ _ h
  cases cx with
  | mk cfn csz defers kind ro cs f0 d fin =>
    have hnf : isFlt ⟨dst, .call c, ty, pos, after, gd⟩ = false := call_notFlt (by rw [hc]; simp)
    refine W.next (step_enter hw hnf ((awrt_func hc h1).trans (callFunc_enter (hx vs σ) hf hb)) (enterFrame_of hf hb)) ?_
    rw [h2]
    exact hG _ _ _ _ h

theorem rSpec_ok {ops : Array Oper} {os : List Oper} {f : FuncId} (hc : c.callee = .value (.func f)) {g : List Value → St → (Value → St → Ans) → Ans} (hg : ∀ args σ k, g args σ k = .yes → ∃ v σ', (X f args σ = some (.ext v σ') ∨ X f args σ = some (.sum v σ')) ∧ k v σ' = .yes)
    {args : Tr Value → (List Value → Ans) → Ans} (ha : LstOk c.args.toList args) {s : Nat → Value → Tr Value → (Tr Value → Ans) → Ans} (hS : SetOk dst s) {rest : RF} (hR : RFOk P X ops os rest) :
    RYOk P X ops ⟨dst, .call c, ty, pos, after, gd⟩ os (rSpec g args s rest) := by
  intro k tm σ cx G hG hw h
  obtain ⟨vs, h1, h⟩ := ha _ _ h
  obtain ⟨v, σ', h2, h⟩ := hg _ _ _ h
  obtain ⟨tm', hp, h⟩ := hS _ _ _ _ h
  have hnf : isFlt ⟨dst, .call c, ty, pos, after, gd⟩ = false := call_notFlt (by rw [hc]; simp)
  have haop : aop P X σ tm ⟨dst, .call c, ty, pos, after, gd⟩ = callFunc P X σ f vs := by
    unfold aop; rw [hnf, if_neg (by decide)]; exact awrt_func hc h1
  refine W.next (step_val hw ⟨f, vs, ?_⟩ hp) (hR _ _ _ _ _ hG h)
  rcases h2 with h2 | h2
  · exact .inl (by rw [haop]; unfold callFunc; rw [h2])
  · exact .inr (by rw [haop]; unfold callFunc; rw [h2])

/-! ### functions that are known only now -/

theorem fillK_eq : ∀ (vs : List Value) (i : Nat) (acc : Tr Value) (k : Nat → Tr Value → Ans), fillK vs i acc k = k (i + vs.length) (acc.ofListFrom vs i)
  | [], _, _, _ => rfl
  | v :: vs, i, acc, k => by
    show PutB.rec (motive := fun _ => Ans) (fun p => p v acc fun acc => natK (Nat.succ i) fun i => fillK vs i acc k) (trPutB (pathOf (Nat.succ i) i)) = _
    have he := trPut_set i v acc (fun acc => natK (Nat.succ i) fun i => fillK vs i acc k)
    cases hp : trPutB (pathOf (i + 1) i) with
    | mk p =>
      rw [hp] at he
      refine Eq.trans (show _ = p v acc (fun acc => natK (Nat.succ i) fun i => fillK vs i acc k) from rfl) ?_
      refine Eq.trans he ?_
      rw [natK_eq, fillK_eq vs]
      simp only [List.length_cons, Tr.ofListFrom]
      congr 1
      omega

theorem entB_mk {f : FuncId} {body : Code} {n : Nat} (hXK : XKOk X XK) (h : entB P XK f = .mk body n) : (∀ args σ, X f args σ = none) ∧ ∃ fn, P.funcs[f]? = some fn ∧ fn.body = some body ∧ fn.ntmps = n := by
  unfold entB at h
  have hf := hXK f
  cases hx : XK f with
  | gen => rw [hx] at h; cases h
  | mk g => rw [hx] at h; cases h
  | none =>
    rw [hx] at h hf
    refine ⟨hf, ?_⟩
    simp only at h
    split at h
    · rename_i fn hfn
      split at h
      · rename_i b hb
        simp only [EntB.mk.injEq] at h
        exact ⟨fn, hfn, by rw [hb, h.1], h.2⟩
      · cases h
    · cases h

theorem enterK_yes (hXK : XKOk X XK) {f : FuncId} {vs : List Value} {k : Tr Value → Nat → Code → Ans} {e : Ans} (h : enterK P XK f vs k e = .yes) :
    (∃ body n fn, (∀ args σ, X f args σ = none) ∧ P.funcs[f]? = some fn ∧ fn.body = some body ∧ fn.ntmps = n ∧ k (Tr.nil.ofListFrom vs 0) (max vs.length n) body = .yes) ∨ e = .yes := by
  cases hb : entB P XK f with
  | no => simp only [enterK, hb] at h; exact .inr h
  | mk body n =>
    simp only [enterK, hb] at h
    obtain ⟨h1, fn, h2, h3, h4⟩ := entB_mk hXK hb
    rw [fillK_eq, natK_eq] at h
    simp only [Nat.zero_add] at h
    exact .inl ⟨body, n, fn, h1, h2, h3, h4, h⟩

theorem putParamsK_yes {sz : Nat} : ∀ {ts : List Tmp} {vs : List Value} {tm : Tr Value} {k : Tr Value → Ans}, putParamsK sz ts vs tm k = .yes → ∃ tm', putParams sz ts vs tm = .ok tm' ∧ k tm' = .yes
  | [], [], _, _, h => ⟨_, rfl, h⟩
  | [], _ :: _, _, _, h => by cases h
  | _ :: _, [], _, _, h => by cases h
  | t :: ts, v :: vs, tm, k, h => by
    have he := fun kk => trPut_set t v tm kk
    cases hp : trPutB (pathOf (t + 1) t) with
    | mk p =>
      have h : PutB.rec (motive := fun _ => Ans) (fun p => ifK (Nat.blt t sz) (p v tm fun tm => putParamsK sz ts vs tm k) .no) (trPutB (pathOf (t + 1) t)) = .yes := h
      rw [hp] at h
      obtain ⟨h1, h⟩ := ifK_no h
      rw [hp] at he
      have h : putParamsK sz ts vs (tm.set t v) k = .yes := (he (fun tm => putParamsK sz ts vs tm k)).symm.trans h
      obtain ⟨tm', h2, h⟩ := putParamsK_yes h
      refine ⟨tm', ?_, h⟩
      simp only [putParams]
      rw [if_pos (show t < sz by simpa [Nat.blt_eq] using h1)]
      exact h2

theorem loopK_yes {o : AObj} {k : LoopState → Option Code → FuncId → Tr Value → Nat → Array Tmp → Code → Code → Nat → Ans} (h : loopK o k = .yes) : ∃ l : ALoop, o = .loop l ∧ k l.state l.pending l.fn l.tmps l.sz l.params l.assign l.body l.defers = .yes := by
  cases o <;> first | exact ⟨_, rfl, h⟩ | cases h

theorem getLoop_of {σ : St} {l : Nat} {r : ALoop} (h : σ.heap.get l = some (.loop r)) : getLoop σ l = .ok r := by
  unfold getLoop
  exact ok_bind.2 ⟨_, obj_of_get h, rfl⟩

theorem rCallV_ok (hXK : XKOk X XK) {ops : Array Oper} {os : List Oper} {x : Operand} (hc : c.callee = .value x) {fx : Tr Value → (Value → Ans) → Ans} (hx : GetOk fx (opd · x)) {args : Tr Value → (List Value → Ans) → Ans} (ha : LstOk c.args.toList args) :
    RYOk P X ops ⟨dst, .call c, ty, pos, after, gd⟩ os (rCallV P X XK fx args ops ⟨dst, .call c, ty, pos, after, gd⟩ os) := by
  intro k tm σ cx G hG hw h
  have hnf : isFlt ⟨dst, .call c, ty, pos, after, gd⟩ = false := call_notFlt (by rw [hc]; simp)
  have hslow := fun h => rSlow_ok (P := P) (X := X) (ops := ops) (o := ⟨dst, .call c, ty, pos, after, gd⟩) (os := os) k tm σ cx G hG h
  obtain ⟨fv, h1, h⟩ := hx _ _ h
  rcases vFunc_yes h with ⟨fn, first, captured, rfl, h⟩ | ⟨_, h⟩
  · cases fn with
    | func f =>
      obtain ⟨vs, h2, h⟩ := ha _ _ h
      cases cx with
      | mk cfn csz defers kind ro cs f0 d fin =>
        rcases enterK_yes hXK h with ⟨body, n, g, g1, g2, g3, rfl, h⟩ | h
        · have hv : awrt P X σ tm ⟨dst, .call c, ty, pos, after, gd⟩ = .ok (.enter f (first.toList ++ vs ++ captured.toList) σ) := by
            rw [awrt_fn hc h1 h2]
            exact callFunc_enter (g1 _ _) g2 g3
          exact W.next (step_enter hw hnf hv (enterFrame_of g2 g3)) (hG _ _ _ _ h)
        · exact hslow h
    | method => exact hslow h
    | methodOf => exact hslow h
    | via => exact hslow h
    | yield l =>
      obtain ⟨vs, h2, h⟩ := ha _ _ h
      cases first with
      | mk fl => cases fl with
        | cons => exact hslow h
        | nil =>
          cases cx with
          | mk cfn csz defers kind ro cs f0 d fin =>
            obtain ⟨ob, ho, h⟩ := objK_yes h
            obtain ⟨r, rfl, h⟩ := loopK_yes h
            obtain ⟨tm', h3, h⟩ := putParamsK_yes h
            have hW := hG _ _ _ _ h
            refine W.next ?_ hW
            rw [step_oper]
            unfold execOper
            refine ok_bind.2 ⟨true, hw, ?_⟩
            rw [if_pos rfl]
            refine ok_bind.2 ⟨.round l vs σ, ?_, ok_bind.2 ⟨r, getLoop_of ho, ok_bind.2 ⟨tm', h3, rfl⟩⟩⟩
            unfold aop
            rw [hnf, if_neg (by decide)]
            exact (awrt_fn (P := P) (X := X) (σ := σ) hc h1 h2).trans rfl
  · exact hslow h
end

end Go.Ev.K

/- Append. -/
namespace Go.Ev.K
variable {P : Program} {X : Specs} {XK : FuncId → XB}

theorem listK_eq (c : Tr Value) (d : List Value) : ∀ (n i : Nat) (k : List Value → Ans), listK c d n i k = k (cellsFrom c d i n)
  | 0, _, _ => rfl
  | n + 1, i, k => by
    show cellK c d i (fun v => natK (Nat.succ i) fun i => listK c d n i fun vs => k (v :: vs)) = _
    rw [cellK_eq, natK_eq, listK_eq c d n]; rfl

theorem firstK_yes {h : Tr AObj} {nx n : Nat} {a : Option Addr} {k : List Value → Ans} (hk : firstK h n a k = .yes) :
    (n = 0 ∧ k [] = .yes) ∨ ∃ ad vs, a = some ad ∧ loadCells ⟨h, nx⟩ ad n = .ok vs ∧ k vs = .yes := by
  rcases ifK_yes hk with ⟨h1, hk⟩ | ⟨h1, hk⟩
  · exact .inl ⟨by simpa using h1, hk⟩
  · have hn : n ≠ 0 := fun e => by subst e; cases h1
    obtain ⟨ad, rfl, hk⟩ := optK_yes hk
    obtain ⟨hs, hk⟩ := noneK_yes (show noneK ad.spot _ = .yes from hk)
    rw [getK_eq] at hk
    obtain ⟨ob, ho, hk⟩ := optK_yes hk
    obtain ⟨c, d, m, e, x, fz, mk, rfl, hk⟩ := cellsK_yes hk
    obtain ⟨h2, hk⟩ := ifK_no hk
    rw [listK_eq] at hk
    refine .inr ⟨ad, _, rfl, ?_, hk⟩
    unfold loadCells
    rw [if_neg hn]
    refine ok_bind.2 ⟨_, obj_of_get (σ := ⟨h, nx⟩) ho, ?_⟩
    simp only
    rw [if_pos ⟨by simpa using h2, hs⟩]

theorem firstK_cells {h : Tr AObj} {nx n size : Nat} (hz : size ≠ 0) {a : Option Addr} {k : List Value → Ans} (hk : firstK h (Nat.mul n size) a k = .yes) (l c : Nat) :
    ∃ vs, firstCells ⟨h, nx⟩ size n (.slice a l c) = .ok vs ∧ k vs = .yes := by
  rcases firstK_yes (nx := nx) hk with ⟨h0, hk⟩ | ⟨ad, vs, rfl, h1, hk⟩
  · refine ⟨[], ?_, hk⟩
    have h0' : n * size = 0 := h0
    cases a with
    | none =>
      have : n = 0 := by rcases Nat.mul_eq_zero.1 h0' with h | h; exact h; exact absurd h hz
      simp [firstCells, this]
    | some ad => simp [firstCells, h0', loadCells]
  · exact ⟨vs, h1, hk⟩

theorem capK_yes {h : Tr AObj} {nx : Nat} {elem : TypeId} {i : TypeInfo} (hi : tinfo P elem = .ok i) {sCap : Nat} {a : Option Addr} {k : Nat → Ans} (hk : capK h i.size sCap a (Tab.of P).cellsOf k = .yes) :
    ∃ lo, capLow P ⟨h, nx⟩ elem a sCap = .ok lo ∧ k lo = .yes := by
  rcases ifK_yes hk with ⟨h1, hk⟩ | ⟨h1, hk⟩
  · exact ⟨sCap, by unfold capLow; rw [if_pos (by simpa [Nat.blt_eq] using h1)], hk⟩
  · have hn : ¬ sCap < BIG := fun e => by rw [show Nat.blt sCap BIG = true by simpa [Nat.blt_eq] using e] at h1; cases h1
    obtain ⟨ad, rfl, hk⟩ := optK_yes hk
    have hk := (getK_eq h ad.block _).symm.trans (show getK h ad.block _ = .yes from hk)
    obtain ⟨ob, ho, hk⟩ := optK_yes hk
    obtain ⟨c, d, m, e, x, fz, mk, rfl, hk⟩ := cellsK_yes hk
    obtain ⟨rfl, hk⟩ := ifK_no hk
    obtain ⟨h2, hk⟩ := ifK_no hk
    rw [natK_eq] at hk
    refine ⟨_, ?_, hk⟩
    unfold capLow
    rw [if_neg hn]
    refine ok_bind.2 ⟨_, obj_of_get (σ := ⟨h, nx⟩) ho, ok_bind.2 ⟨i, hi, ?_⟩⟩
    rw [if_pos (by simpa using h2)]; rfl

theorem rowK_eq (elem : TypeId) (vs : List Value) (k : AObj → Ans) : rowK elem vs k = k (rowOf elem vs true false) := by
  simp only [rowK, setCellsK_eq, lenK_eq, rowOf]

theorem growK_yes {h : Tr AObj} {nx : Nat} {elem : TypeId} {size sLen : Nat} (hz : size ≠ 0) {base : Option Addr} {new : List Value} {k : AObj → Ans} (hk : growK h elem size sLen base new k = .yes) (l c : Nat) :
    ∃ old, firstCells ⟨h, nx⟩ size sLen (.slice base l c) = .ok old ∧ k (growObj ⟨h, nx⟩ elem size base sLen old new) = .yes := by
  have slow : (∀ old, growObj ⟨h, nx⟩ elem size base sLen old new = rowOf elem (old ++ new) true false) → firstK h (Nat.mul sLen size) base (fun old => rowK elem (old ++ new) k) = .yes → ∃ old, firstCells ⟨h, nx⟩ size sLen (.slice base l c) = .ok old ∧ k (growObj ⟨h, nx⟩ elem size base sLen old new) = .yes := by
    intro hg hk
    obtain ⟨old, h1, hk⟩ := firstK_cells (nx := nx) hz hk l c
    exact ⟨old, h1, by rw [hg, ← rowK_eq elem (old ++ new) k]; exact hk⟩
  cases base with
  | none => exact slow (fun _ => rfl) hk
  | some a =>
    have hk' := (getK_eq h a.block _).symm.trans (show getK h a.block _ = .yes from hk)
    cases hg : h.get a.block with
    | none =>
      rw [hg] at hk'
      exact slow (fun _ => by simp only [growObj, hg]) hk'
    | some ob =>
      rw [hg] at hk'
      cases ob with
      | cells c' d m e x fz mk =>
        rcases ifK_yes (show ifK (Nat.beq a.off 0) _ _ = .yes from hk') with ⟨h0, hk'⟩ | ⟨h0, hk'⟩
        · obtain ⟨h1, hk'⟩ := ifK_no hk'
          obtain ⟨hs, hk'⟩ := noneK_yes hk'
          rw [setCellsK_eq, natK_eq] at hk'
          have h0' : a.off = 0 := by simpa using h0
          have h1' : sLen * size ≤ m := by simpa using h1
          have hob : ∀ old, growObj ⟨h, nx⟩ elem size (some a) sLen old new = .cells (setCells c' (sLen * size) new) d (sLen * size + new.length) elem true 0 false := by
            intro old; simp only [growObj, hg]; rw [if_pos h0']
          rw [lenK_eq] at hk'
          by_cases hne : sLen * size = 0
          · exact ⟨[], by simp [firstCells, loadCells, hne], by rw [hob]; exact hk'⟩
          · refine ⟨cellsFrom c' d a.off (sLen * size), ?_, by rw [hob]; exact hk'⟩
            show loadCells _ _ _ = _
            unfold loadCells
            rw [if_neg hne]
            refine ok_bind.2 ⟨_, obj_of_get (σ := ⟨h, nx⟩) hg, ?_⟩
            simp only
            rw [if_pos ⟨by omega, hs⟩]
        · refine slow (fun _ => ?_) hk'
          simp only [growObj, hg]
          rw [if_neg (fun e => by rw [e] at h0; cases h0)]
      | map => exact slow (fun _ => by simp only [growObj, hg]) hk'
      | stringIter => exact slow (fun _ => by simp only [growObj, hg]) hk'
      | mapIter => exact slow (fun _ => by simp only [growObj, hg]) hk'
      | loop => exact slow (fun _ => by simp only [growObj, hg]) hk'
      | deferred => exact slow (fun _ => by simp only [growObj, hg]) hk'

theorem appNewK_yes {h : Tr AObj} {nx size : Nat} (hz : size ≠ 0) {x : Value} {k : Nat → List Value → Ans} {e : Ans} (hk : appNewK h size x k e = .yes) :
    (∃ n new, lenOf x = .ok n ∧ firstCells ⟨h, nx⟩ size n x = .ok new ∧ k n new = .yes) ∨ e = .yes := by
  cases x <;> try exact .inr hk
  rename_i a n c
  have hk := (natK_eq n (fun n => firstK h (Nat.mul n size) a fun new => k n new)).symm.trans hk
  obtain ⟨new, h1, hk⟩ := firstK_cells (nx := nx) hz hk n c
  exact .inl ⟨n, new, rfl, h1, hk⟩

structure AppOk (P : Program) (ats : Array TypeId) (elem : TypeId) (size : Nat) : Prop where
  ex : ∃ t i z, ats[0]? = some t ∧ und P t = .ok (.slice elem) ∧ tinfo P elem = .ok i ∧ zerosArg P ats = .ok false ∧ zeroV P elem = .ok z ∧ i.size = size ∧ i.size ≠ 0 ∧ ¬ i.bytes > 100000 ∧ z.cells.size = i.size

theorem appT_ok {ats : Array TypeId} {elem : TypeId} {size : Nat} (h : appT P ats = some (elem, size)) : AppOk P ats elem size := by
  unfold appT at h
  split at h
  · cases h
  · rename_i t ht
    split at h
    · rename_i e hu
      split at h
      · rename_i i z hi hz hv
        split at h
        · cases h
        · rename_i hc
          simp only [Option.some.injEq, Prod.mk.injEq] at h
          obtain ⟨rfl, rfl⟩ := h
          exact ⟨t, i, z, ht, hu, hi, hz, hv, rfl, fun e => hc (.inl e), fun e => hc (.inr (.inl e)), Classical.byContradiction fun e => hc (.inr (.inr e))⟩
      · cases h
    · cases h

theorem appendK_yes {ats : Array TypeId} {elem : TypeId} {size : Nat} (hA : AppOk P ats elem size) {s x : Value} {σ : St} {k : Value → St → Ans} {e : Ans} (hk : appendK P elem size s x σ k e = .yes) :
    (∃ v σ', append_ P σ ats s x = .ok (v, σ') ∧ k v σ' = .yes) ∨ e = .yes := by
  obtain ⟨t, i, z, h0, hu, hi, hzs, hz, rfl, c1, c2, c3⟩ := hA.ex
  obtain ⟨h, nx⟩ := σ
  rcases appNewK_yes (nx := nx) c1 hk with ⟨n, new, hl, hf, hk⟩ | hk
  case inr => exact .inr hk
  refine .inl ?_
  obtain ⟨base, sLen, sCap, hsl, hk1⟩ := vSlice_no hk
  subst hsl
  clear hk
  have hk := (natK_eq (Nat.add sLen n) _).symm.trans hk1
  clear hk1
  obtain ⟨lo, hlo, hk⟩ := capK_yes (nx := nx) hi hk
  obtain ⟨hb, hk⟩ := ifK_no hk
  have hb' : sLen + n ≤ 1000000 := Nat.le_of_ble_eq_true hb
  have start : ∀ r : Value × St, (sLen + n ≤ lo → (base = none ∧ r = (.slice none (sLen + n) sCap, ⟨h, nx⟩)) ∨ ∃ a σ', base = some a ∧ storeCells ⟨h, nx⟩ (addA a (sLen * i.size)) new = .ok σ' ∧ r = (.slice base (sLen + n) sCap, σ')) →
      (¬ sLen + n ≤ lo → appendGrow P ⟨h, nx⟩ elem i base (.slice base sLen sCap) sLen sCap n new = .ok r) → append_ P ⟨h, nx⟩ ats (.slice base sLen sCap) x = .ok r := by
    intro r hr1 hr2
    unfold append_
    simp only [h0]
    refine ok_bind.2 ⟨_, hu, ?_⟩
    refine ok_bind.2 ⟨i, hi, ok_bind.2 ⟨false, hzs, ok_bind.2 ⟨(n, new), ?_, ok_bind.2 ⟨lo, hlo, ?_⟩⟩⟩⟩
    · unfold appended
      rw [if_neg (by decide)]
      exact ok_bind.2 ⟨n, hl, ok_bind.2 ⟨new, hf, rfl⟩⟩
    · rw [if_neg (show ¬ (i.size = 0 ∨ i.bytes > 100000 ∨ sLen + n > 1000000) by omega)]
      by_cases hle : sLen + n ≤ lo
      · rw [if_pos hle]
        rcases hr1 hle with ⟨rfl, rfl⟩ | ⟨a, σ', rfl, h2, rfl⟩
        · rfl
        · exact ok_bind.2 ⟨σ', h2, rfl⟩
      · rw [if_neg hle]; exact hr2 hle
  rcases ifK_yes hk with ⟨h1, hk⟩ | ⟨h1, hk⟩
  · have h1' : sLen + n ≤ lo := by simpa using h1
    cases base with
    | none => exact ⟨_, _, start _ (fun _ => .inl ⟨rfl, rfl⟩) (fun h => absurd h1' h), hk⟩
    | some a =>
      cases new with
      | nil => exact ⟨_, _, start (.slice (some a) (sLen + n) sCap, ⟨h, nx⟩) (fun _ => .inr ⟨a, _, rfl, rfl, rfl⟩) (fun h => absurd h1' h), hk⟩
      | cons v vs =>
        have hk := (addrAddK_eq a (Nat.mul sLen i.size) _).symm.trans (show addrAddK a (Nat.mul sLen i.size) _ = .yes from hk)
        obtain ⟨hs, hk⟩ := noneK_yes (show noneK (addA a (Nat.mul sLen i.size)).spot _ = .yes from hk)
        obtain ⟨σ', h2, hk⟩ := storeK_yes hs (by simp) hk
        exact ⟨_, _, start (.slice (some a) (sLen + n) sCap, σ') (fun _ => .inr ⟨a, σ', rfl, h2, rfl⟩) (fun h => absurd h1' h), hk⟩
  · have h1' : ¬ sLen + n ≤ lo := fun e => Bool.noConfusion ((Nat.ble_eq_true_of_le e).symm.trans h1)
    have hk := (natK_eq nx _).symm.trans hk
    obtain ⟨old, h2, hk⟩ := growK_yes (nx := nx) c1 hk sLen sCap
    rw [setK_eq, natK_eq] at hk
    rcases ifK_yes hk with ⟨h3, hk⟩ | ⟨h3, hk⟩
    · have h3' : sCap < BIG := by simpa [Nat.blt_eq] using h3
      refine ⟨_, _, start _ (fun h => absurd h h1') (fun _ => ?_), hk⟩
      unfold appendGrow
      refine ok_bind.2 ⟨old, h2, ok_bind.2 ⟨z, hz, ?_⟩⟩
      rw [if_neg (by simp [c3])]
      simp only [if_pos h3']; rfl
    · have h3' : ¬ sCap < BIG := fun e => by rw [show Nat.blt sCap BIG = true by simpa [Nat.blt_eq] using e] at h3; cases h3
      obtain ⟨a, rfl, hk⟩ := optK_yes hk
      have hk := (getK_eq h a.block _).symm.trans (show getK h a.block _ = .yes from hk)
      obtain ⟨ob, ho, hk⟩ := optK_yes hk
      obtain ⟨c, d, m, e', x', fz, mk, rfl, hk⟩ := cellsK_yes hk
      obtain ⟨rfl, hk⟩ := ifK_no hk
      obtain ⟨h4, hk⟩ := ifK_no hk
      obtain ⟨rfl, hk⟩ := ifK_non hk
      obtain ⟨h5, hk⟩ := ifK_no hk
      obtain ⟨h6, hk⟩ := ifK_no hk
      obtain ⟨h7, hk⟩ := allOneK_yes hk
      rw [delK_eq] at hk
      have h4' : fz = 0 := by simpa using h4
      have h5' : e' = elem := by simpa using h5
      have h6' : a.off = (sCap - BIG) * i.size := by simpa using h6
      have ho' : h.get a.block = some (.cells c d m elem true 0 false) := by rw [ho, h4', h5']
      refine ⟨_, _, start _ (fun h => absurd h h1') (fun _ => ?_), hk⟩
      unfold appendGrow
      refine ok_bind.2 ⟨old, h2, ok_bind.2 ⟨z, hz, ?_⟩⟩
      rw [if_neg (by simp [c3])]
      simp only [if_neg h3']
      refine ok_bind.2 ⟨_, obj_of_get (σ := ⟨h, nx⟩) ho', ?_⟩
      simp only
      rw [if_pos ⟨trivial, h6', h7⟩]; rfl

section
variable {dst : Option Tmp} {ty : TypeId} {pos : String} {after : Array Edge} {gd : Option (Nat × Bool)} {c : Call}

theorem awrt_append {x y : Operand} (hc : c.callee = .builtin .append) (ha : c.args.toList = [x, y]) {tm : Tr Value} {σ σ' : St} {a b v : Value} (h1 : opd tm x = .ok a) (h2 : opd tm y = .ok b) (h : append_ P σ c.argTypes a b = .ok (v, σ')) :
    awrt P X σ tm ⟨dst, .call c, ty, pos, after, gd⟩ = .ok (.val v σ') := by
  have hr : resolve tm c ty = .ok { target := .builtin .append c.argTypes ty #[], args := [a, b].toArray } := by
    unfold resolve
    refine ok_bind.2 ⟨[a, b], ?_, ?_⟩
    · rw [ha]; exact ok_bind.2 ⟨a, h1, ok_bind.2 ⟨[b], ok_bind.2 ⟨b, h2, rfl⟩, rfl⟩⟩
    · simp only [hc]
  simp only [awrt]
  refine ok_bind.2 ⟨_, hr, ?_⟩
  show builtin P σ .append c.argTypes [a, b] = _
  exact ok_bind.2 ⟨_, h, rfl⟩

theorem copyT_ok {ats : Array TypeId} {size : Nat} (h : copyT P ats = some size) : ∃ t elem i, ats[0]? = some t ∧ und P t = .ok (.slice elem) ∧ tinfo P elem = .ok i ∧ i.size = size ∧ i.size ≠ 0 := by
  unfold copyT at h
  split at h
  · cases h
  · rename_i t ht
    split at h
    · rename_i e hu
      split at h
      · rename_i i hi
        split at h
        · cases h
        · rename_i hc
          simp only [Option.some.injEq] at h
          exact ⟨t, e, i, ht, hu, hi, h, hc⟩
      · cases h
    · cases h

theorem copyK_yes {ats : Array TypeId} {size : Nat} (hA : copyT P ats = some size) {d s : Value} {σ : St} {k : Value → St → Ans} {e : Ans} (hk : copyK size d s σ k e = .yes) :
    (∃ v σ', copy_ P σ ats d s = .ok (v, σ') ∧ k v σ' = .yes) ∨ e = .yes := by
  obtain ⟨t, elem, i, h0, hu, hi, rfl, hz⟩ := copyT_ok hA
  by_cases hd : ∃ a n c, d = .slice a n c
  · obtain ⟨base, dLen, dc, rfl⟩ := hd
    cases s <;> try exact .inr hk
    rename_i a sl sc
    have hk := (natK_eq (Nat.min sl dLen) (fun n => copyInK i.size base a n σ k)).symm.trans hk
    obtain ⟨h, nx⟩ := σ
    obtain ⟨cells, h1, hk⟩ := firstK_cells (nx := nx) hz (show firstK h (Nat.mul (Nat.min sl dLen) i.size) a _ = .yes from hk) sl sc
    have start : ∀ r : Value × St, (match base with | some a => storeCells ⟨h, nx⟩ a cells | none => .ok ⟨h, nx⟩) = .ok r.2 → r.1 = goInt (Nat.min sl dLen) → copy_ P ⟨h, nx⟩ ats (.slice base dLen dc) (.slice a sl sc) = .ok r := by
      intro r hr hv
      unfold copy_
      simp only [h0]
      refine ok_bind.2 ⟨_, hu, ?_⟩
      refine ok_bind.2 ⟨i, hi, ok_bind.2 ⟨sl, rfl, ok_bind.2 ⟨cells, h1, ?_⟩⟩⟩
      cases base with
      | none => simp only [ok_inj] at hr; obtain ⟨v, σ'⟩ := r; simp only at hr hv; subst hr; subst hv; rfl
      | some ad => obtain ⟨v, σ'⟩ := r; simp only at hr hv; subst hv; exact ok_bind.2 ⟨_, hr, rfl⟩
    cases base with
    | none => exact .inl ⟨_, _, start (.int .i64 (.ofNat (Nat.min sl dLen)), ⟨h, nx⟩) rfl rfl, hk⟩
    | some ad =>
      cases cells with
      | nil => exact .inl ⟨_, _, start (.int .i64 (.ofNat (Nat.min sl dLen)), ⟨h, nx⟩) rfl rfl, hk⟩
      | cons v vs =>
        obtain ⟨hs, hk⟩ := noneK_yes (show noneK ad.spot _ = .yes from hk)
        obtain ⟨σ', h2, hk⟩ := storeK_yes hs (by simp) hk
        exact .inl ⟨_, _, start (.int .i64 (.ofNat (Nat.min sl dLen)), σ') h2 rfl, hk⟩
  · refine .inr ?_
    cases d <;> first | exact hk | exact absurd ⟨_, _, _, rfl⟩ hd

theorem awrt_copy {x y : Operand} (hc : c.callee = .builtin .copy) (ha : c.args.toList = [x, y]) {tm : Tr Value} {σ σ' : St} {a b v : Value} (h1 : opd tm x = .ok a) (h2 : opd tm y = .ok b) (h : copy_ P σ c.argTypes a b = .ok (v, σ')) :
    awrt P X σ tm ⟨dst, .call c, ty, pos, after, gd⟩ = .ok (.val v σ') := by
  have hr : resolve tm c ty = .ok { target := .builtin .copy c.argTypes ty #[], args := [a, b].toArray } := by
    unfold resolve
    refine ok_bind.2 ⟨[a, b], ?_, ?_⟩
    · rw [ha]; exact ok_bind.2 ⟨a, h1, ok_bind.2 ⟨[b], ok_bind.2 ⟨b, h2, rfl⟩, rfl⟩⟩
    · simp only [hc]
  simp only [awrt]
  refine ok_bind.2 ⟨_, hr, ?_⟩
  show builtin P σ .copy c.argTypes [a, b] = _
  exact ok_bind.2 ⟨_, h, rfl⟩

theorem rCopy_ok {ops : Array Oper} {os : List Oper} {x y : Operand} (hc : c.callee = .builtin .copy) (ha : c.args.toList = [x, y]) {size : Nat} (hA : copyT P c.argTypes = some size)
    {fx fy : Tr Value → (Value → Ans) → Ans} (hx : GetOk fx (opd · x)) (hy : GetOk fy (opd · y)) {s : Nat → Value → Tr Value → (Tr Value → Ans) → Ans} (hS : SetOk dst s) {rest : RF} (hR : RFOk P X ops os rest) :
    RYOk P X ops ⟨dst, .call c, ty, pos, after, gd⟩ os (rCopy P X size fx fy s rest ops ⟨dst, .call c, ty, pos, after, gd⟩ os) := by
  intro k tm σ cx G hG hw h
  obtain ⟨a, h1, h⟩ := hx _ _ h
  obtain ⟨b, h2, h⟩ := hy _ _ h
  rcases copyK_yes hA h with ⟨v, σ', h3, h⟩ | h
  · obtain ⟨tm', hp, h⟩ := hS _ _ _ _ h
    have hnf : isFlt ⟨dst, .call c, ty, pos, after, gd⟩ = false := by simp [isFlt, hc, looks]
    refine W.next (step_val hw ⟨0, [], .inl ?_⟩ hp) (hR _ _ _ _ _ hG h)
    unfold aop
    rw [hnf, if_neg (by decide)]
    exact awrt_copy hc ha h1 h2 h3
  · exact rSlow_ok _ _ _ _ _ hG h

theorem rAppend_ok {ops : Array Oper} {os : List Oper} {x y : Operand} (hc : c.callee = .builtin .append) (ha : c.args.toList = [x, y]) {elem : TypeId} {size : Nat} (hA : AppOk P c.argTypes elem size)
    {fx fy : Tr Value → (Value → Ans) → Ans} (hx : GetOk fx (opd · x)) (hy : GetOk fy (opd · y)) {s : Nat → Value → Tr Value → (Tr Value → Ans) → Ans} (hS : SetOk dst s) {rest : RF} (hR : RFOk P X ops os rest) :
    RYOk P X ops ⟨dst, .call c, ty, pos, after, gd⟩ os (rAppend P X elem size fx fy s rest ops ⟨dst, .call c, ty, pos, after, gd⟩ os) := by
  intro k tm σ cx G hG hw h
  obtain ⟨a, h1, h⟩ := hx _ _ h
  obtain ⟨b, h2, h⟩ := hy _ _ h
  rcases appendK_yes hA h with ⟨v, σ', h3, h⟩ | h
  · obtain ⟨tm', hp, h⟩ := hS _ _ _ _ h
    have hnf : isFlt ⟨dst, .call c, ty, pos, after, gd⟩ = false := by simp [isFlt, hc, looks]
    refine W.next (step_val hw ⟨0, [], .inl ?_⟩ hp) (hR _ _ _ _ _ hG h)
    unfold aop
    rw [hnf, if_neg (by decide)]
    exact awrt_append hc ha h1 h2 h3
  · exact rSlow_ok _ _ _ _ _ hG h
end

end Go.Ev.K

/- A region's list of operations. -/
namespace Go.Ev.K
variable {P : Program} {X : Specs} {XK : FuncId → XB}

def RB.f : RB → RF
  | .mk f => f

theorem callB_ok (hXK : XKOk X XK) {ops : Array Oper} {dst : Option Tmp} {ty : TypeId} {pos : String} {after : Array Edge} {gd : Option (Nat × Bool)} {c : Call} {os : List Oper} {rest y : RF} (hR : RFOk P X ops os rest)
    (h : callB P X XK ops ⟨dst, .call c, ty, pos, after, gd⟩ os rest c = .mk y) : RYOk P X ops ⟨dst, .call c, ty, pos, after, gd⟩ os y := by
  have hsl : ∀ {y : RF}, RB.mk (rSlow P X ops ⟨dst, .call c, ty, pos, after, gd⟩ os) = .mk y → RYOk P X ops ⟨dst, .call c, ty, pos, after, gd⟩ os y := by
    intro y h; cases h; exact rSlow_ok.wanted
  unfold callB at h
  split at h
  · rename_i f hc
    have hf := hXK f
    cases hx : XK f with
    | gen => rw [hx] at h; exact hsl h
    | none =>
      rw [hx] at h hf
      simp only at h
      split at h
      · rename_i fn hfn
        split at h
        · rename_i body hb
          cases ha : argsB c.args.toList 0 with
          | mk a =>
            rw [ha] at h
            simp only [RB.mk.injEq] at h; subst h
            exact rCall_ok hc hf hfn hb (argsB_ok ha)
        · exact hsl h
      · exact hsl h
    | mk g =>
      rw [hx] at h hf
      cases ha : lstB c.args.toList with
      | mk a => cases hs : setB dst with
        | mk s =>
          rw [ha] at h
          simp only [hs, RB.mk.injEq] at h; subst h
          exact rSpec_ok hc hf (lstB_ok ha) (setB_ok hs) hR
  · rename_i x _ hc
    cases hx : opdB x with
    | mk fx => cases ha : lstB c.args.toList with
      | mk a =>
        rw [hx, ha] at h
        simp only [RB.mk.injEq] at h; subst h
        exact rCallV_ok hXK hc (opdB_ok hx) (lstB_ok ha)
  · rename_i hc
    split at h
    · rename_i elem size x y' hA ha
      cases hx : opdB x with
      | mk fx => cases hy : opdB y' with
        | mk fy => cases hs : setB dst with
          | mk s =>
            rw [hx, hy] at h
            simp only [hs, RB.mk.injEq] at h; subst h
            exact rAppend_ok hc ha (appT_ok hA) (opdB_ok hx) (opdB_ok hy) (setB_ok hs) hR
    · exact hsl h
  · rename_i hc
    split at h
    · rename_i size x y' hA ha
      cases hx : opdB x with
      | mk fx => cases hy : opdB y' with
        | mk fy => cases hs : setB dst with
          | mk s =>
            rw [hx, hy] at h
            simp only [hs, RB.mk.injEq] at h; subst h
            exact rCopy_ok hc ha hA (opdB_ok hx) (opdB_ok hy) (setB_ok hs) hR
    · exact hsl h
  · exact hsl h

theorem wantedB_ok (hXK : XKOk X XK) {ops : Array Oper} {o : Oper} {os : List Oper} {rest y : RF} (hR : RFOk P X ops os rest) (h : wantedB P X XK ops o os rest = .mk y) : RYOk P X ops o os y := by
  have hsl : ∀ {y : RF}, RB.mk (rSlow P X ops o os) = .mk y → RYOk P X ops o os y := by
    intro y h; cases h; exact rSlow_ok.wanted
  unfold wantedB at h
  cases hf : isFlt o
  · rw [hf] at h
    simp only [cond_false] at h
    obtain ⟨dst, op, ty, pos, after, gd⟩ := o
    cases op <;> try exact hsl h
    case call c => exact callB_ok hXK hR h
    case store t a x =>
      simp only at h
      split at h
      · rename_i i hi
        cases ha : opdB a with
        | mk fa => cases hx : opdB x with
          | mk fx => cases hs : setB dst with
            | mk s =>
              rw [ha, hx, hs] at h
              simp only [RB.mk.injEq] at h; subst h
              exact rStore_ok hi (opdB_ok ha) (opdB_ok hx) (setB_ok hs) hR
      · exact hsl h
  · rw [hf] at h
    cases hF : fltB P o with
    | mk f => cases hs : setB o.dst with
      | mk s =>
        rw [hF, hs] at h
        simp only [cond_true, RB.mk.injEq] at h; subst h
        exact rFlt_ok hf (fltB_ok hF) (setB_ok hs) hR

theorem operB_ok (hXK : XKOk X XK) {ops : Array Oper} {o : Oper} {os : List Oper} {rest y : RF} (hR : RFOk P X ops os rest) (h : operB P X XK ops o os rest = .mk y) : RFOk P X ops (o :: os) y := by
  unfold operB at h
  cases hw : wantedB P X XK ops o os rest with
  | mk z =>
    rw [hw] at h
    have hz := wantedB_ok hXK hR hw
    simp only at h
    split at h
    · rename_i hg
      simp only [RB.mk.injEq] at h; subst h
      exact fun k tm σ c G hG h => hz k tm σ c G hG (noGuard_wanted hg) h
    · cases hgu : guB ops o with
      | mk g => cases hs : setB o.dst with
        | mk s =>
          rw [hgu, hs] at h
          simp only [RB.mk.injEq] at h; subst h
          exact rGuard_ok (guB_ok hgu) (setB_ok hs) hz hR

theorem opsB_ok (hXK : XKOk X XK) {ops : Array Oper} : ∀ {os : List Oper} {y : RF}, opsB P X XK ops os = .mk y → RFOk P X ops os y
  | [], y, h => by cases h; exact rEnd_ok
  | o :: os, y, h => by
    have h : RB.rec (motive := fun _ => RB) (fun rest => operB P X XK ops o os rest) (opsB P X XK ops os) = .mk y := h
    cases hr : opsB P X XK ops os with
    | mk rest =>
      rw [hr] at h
      exact operB_ok hXK (opsB_ok hXK hr) h

end Go.Ev.K

/- Regions whose order is drawn. -/
namespace Go.Ev.K
variable {P : Program} {X : Specs} {XK : FuncId → XB}

theorem drK_eq (s : DR) (k : Tr Value → St → List (Nat × AObj) → Nat → Nat → Option Nat → List St → List Evt → Ans) : drK s k = k s.tm s.base s.pend s.done s.since s.lastW s.past s.evts := rfl

theorem runFltK_yes {ops : Array Oper} {bs : List Nat} {sz n0 i : Nat} {o : Oper} {s : DR} {k : DR → Ans} (h : runFltK P ops bs sz n0 i o s k = .yes) : ∃ s', runFlt P ops bs sz n0 i o s = .ok s' ∧ k s' = .yes := by
  obtain ⟨tm, base, pend, done, since, lastW, past, evts⟩ := s
  obtain ⟨h1, h⟩ := ifK_non (show ifK (tb done i) .no _ = .yes from h)
  obtain ⟨h2, h⟩ := ifK_no h
  obtain ⟨w, hw, h⟩ := guK_yes h
  rw [tb_eq] at h1
  have key : ∀ (fv : FV), (if w = true then aflt P base tm o else .ok (.val undef)) = .ok fv → fltGoK bs sz n0 i o tm base pend done since lastW past evts w k fv = .yes → ∃ s', runFlt P ops bs sz n0 i o ⟨tm, base, pend, done, since, lastW, past, evts⟩ = .ok s' ∧ k s' = .yes := by
    intro fv hfv h
    have fin : ∀ (v : Value) (p : List (Nat × AObj)), v = fvVal n0 i fv → p = fvPend n0 i pend fv → (putK o.dst sz v tm fun tm' => natK (Nat.lor done (Nat.pow 2 i)) fun done' => natK (Nat.lor since (Nat.pow 2 i)) fun since' =>
        k { tm := tm', base, pend := p, done := done', since := since', lastW, past, evts := { i, o, wanted := w, tm, val := v, fv := some fv, seg := past.length } :: evts }) = .yes → ∃ s', runFlt P ops bs sz n0 i o ⟨tm, base, pend, done, since, lastW, past, evts⟩ = .ok s' ∧ k s' = .yes := by
      intro v p hv hp h
      obtain ⟨tm', h3, h⟩ := putK_yes h
      rw [natK_eq, natK_eq] at h
      refine ⟨_, ?_, h⟩
      unfold runFlt
      simp only [h1, h2, Bool.not_true, Bool.false_eq_true, if_false]
      refine ok_bind.2 ⟨w, hw, ?_⟩
      subst hv; subst hp
      cases w with
      | true => rw [if_pos rfl] at hfv ⊢; exact ok_bind.2 ⟨fv, hfv, ok_bind.2 ⟨tm', h3, rfl⟩⟩
      | false => rw [if_neg (by decide)] at hfv ⊢; exact ok_bind.2 ⟨fv, hfv, ok_bind.2 ⟨tm', h3, rfl⟩⟩
    cases fv with
    | val v => exact fin v pend rfl rfl h
    | new mk ob =>
      have h := (natK_eq (Nat.add n0 i) (fun n => putK o.dst sz (mk n) tm fun tm' => natK (Nat.lor done (Nat.pow 2 i)) fun done' => natK (Nat.lor since (Nat.pow 2 i)) fun since' =>
        k { tm := tm', base, pend := pend ++ [(n, ob)], done := done', since := since', lastW, past, evts := { i, o, wanted := w, tm, val := mk n, fv := some (.new mk ob), seg := past.length } :: evts })).symm.trans h
      exact fin _ _ rfl rfl h
    | dead mk =>
      have h := (natK_eq (Nat.add n0 i) (fun n => putK o.dst sz (mk n) tm fun tm' => natK (Nat.lor done (Nat.pow 2 i)) fun done' => natK (Nat.lor since (Nat.pow 2 i)) fun since' =>
        k { tm := tm', base, pend := pend, done := done', since := since', lastW, past, evts := { i, o, wanted := w, tm, val := mk n, fv := some (.dead mk), seg := past.length } :: evts })).symm.trans h
      exact fin _ _ rfl rfl h
  rcases ifK_yes h with ⟨hw', h⟩ | ⟨hw', h⟩
  · obtain ⟨fv, h3, h⟩ := fltK_yes h
    exact key fv (by rw [hw', if_pos rfl]; exact h3) h
  · exact key (.val undef) (by rw [hw', if_neg (by decide)]) h

theorem runMaskK_yes {ops : Array Oper} {bs : List Nat} {sz n0 mask : Nat} : ∀ {l : List (Oper × Nat)} {s : DR} {k : DR → Ans}, runMaskK P ops bs sz n0 mask l s k = .yes → ∃ s', runMask P ops bs sz n0 mask l s = .ok s' ∧ k s' = .yes
  | [], s, k, h => ⟨s, rfl, h⟩
  | (o, i) :: l, s, k, h => by
    have h : ifK (tb mask i) (ifK (tb s.done i) (runMaskK P ops bs sz n0 mask l s k) (runFltK P ops bs sz n0 i o s fun s => runMaskK P ops bs sz n0 mask l s k)) (runMaskK P ops bs sz n0 mask l s k) = .yes := h
    rw [tb_eq, tb_eq] at h
    unfold runMask
    rcases ifK_yes h with ⟨h1, h⟩ | ⟨h1, h⟩
    · rcases ifK_yes h with ⟨h2, h⟩ | ⟨h2, h⟩
      · rw [h1, h2, if_neg (by decide)]
        exact runMaskK_yes h
      · rw [h1, h2, if_pos (by decide)]
        obtain ⟨s1, h3, h⟩ := runFltK_yes h
        obtain ⟨s2, h4, h⟩ := runMaskK_yes h
        exact ⟨s2, ok_bind.2 ⟨s1, h3, h4⟩, h⟩
    · rw [h1, if_neg (by simp)]
      exact runMaskK_yes h

def CallKOk (callK : CallK) (call : CallF) : Prop := ∀ f args σ kk, callK f args σ kk = .yes → ∃ c, call f args σ = .ok c ∧ kk c = .yes

theorem outcomeK_yes {callK : CallK} {call : CallF} (hC : CallKOk callK call) {r : Ret} {k : CRes → Ans} (h : outcomeK callK r k = .yes) : ∃ c, outcome call r = .ok c ∧ k c = .yes := by
  cases r with
  | val v σ => exact ⟨_, rfl, h⟩
  | many => cases h
  | enter f args σ => exact hC _ _ _ _ h
  | callv f args v σ => exact ⟨_, rfl, h⟩
  | round => cases h
  | defer => cases h
  | recover => cases h
  | panic v σ => exact ⟨_, rfl, h⟩

theorem wrtK_yes (hXK : XKOk X XK) {callK : CallK} {call : CallF} (hC : CallKOk callK call) {o : Oper} {tm : Tr Value} {σ : St} {k : CRes → Ans} (h : wrtK P X XK callK o tm σ k = .yes) :
    ∃ r c, awrt P X σ tm o = .ok r ∧ outcome call r = .ok c ∧ k c = .yes := by
  have gen : bindE (awrt P X σ tm o) (fun r => outcomeK callK r k) = .yes → ∃ r c, awrt P X σ tm o = .ok r ∧ outcome call r = .ok c ∧ k c = .yes := by
    intro h
    obtain ⟨r, h1, h⟩ := bindE_yes h
    obtain ⟨c, h2, h⟩ := outcomeK_yes hC h
    exact ⟨r, c, h1, h2, h⟩
  cases hb : wrB P XK o with
  | gen => simp only [wrtK, hb] at h; exact gen h
  | call f args =>
    simp only [wrtK, hb] at h
    unfold wrB at hb
    obtain ⟨dst, op, ty, pos, after, gd⟩ := o
    cases op <;> simp only at hb <;> try (cases hb; done)
    case store t a x =>
      split at hb
      · cases ha : opdB a with
        | mk fa => cases hx : opdB x with
          | mk fx => rw [ha, hx] at hb; cases hb
      · cases hb
    case call c =>
      split at hb
      · rename_i f' hc
        have hf := hXK f'
        cases hx : XK f' with
        | gen => rw [hx] at hb; cases hb
        | mk g =>
          rw [hx] at hb
          cases ha : lstB c.args.toList with
          | mk a => rw [ha] at hb; cases hb
        | none =>
          rw [hx] at hb hf
          simp only at hb
          split at hb
          · rename_i fn hfn
            cases hbd : fn.body with
            | none => rw [hbd] at hb; cases hb
            | some body =>
              rw [hbd] at hb
              cases ha : lstB c.args.toList with
              | mk a =>
                rw [ha] at hb
                simp only [Option.isSome_some, cond_true, WrB.call.injEq] at hb
                obtain ⟨rfl, rfl⟩ := hb
                obtain ⟨vs, h1, h⟩ := lstB_ok ha _ _ h
                obtain ⟨r, h2, h⟩ := hC _ _ _ _ h
                exact ⟨_, r, (awrt_func hc h1).trans (callFunc_enter (hf vs σ) hfn hbd), h2, h⟩
          · cases hb
      · split at hb
        · rename_i elem size x y _ _
          cases hx : opdB x with
          | mk fx => cases hy : opdB y with
            | mk fy => rw [hx, hy] at hb; cases hb
        · cases hb
      · split at hb
        · rename_i size x y _ _
          cases hx : opdB x with
          | mk fx => cases hy : opdB y with
            | mk fy => rw [hx, hy] at hb; cases hb
        · cases hb
      · cases hb
  | spec g args =>
    simp only [wrtK, hb] at h
    unfold wrB at hb
    obtain ⟨dst, op, ty, pos, after, gd⟩ := o
    cases op <;> simp only at hb <;> try (cases hb; done)
    case store t a x =>
      split at hb
      · cases ha : opdB a with
        | mk fa => cases hx : opdB x with
          | mk fx => rw [ha, hx] at hb; cases hb
      · cases hb
    case call c =>
      split at hb
      · rename_i f' hc
        have hf := hXK f'
        cases hx : XK f' with
        | gen => rw [hx] at hb; cases hb
        | mk g' =>
          rw [hx] at hb hf
          cases ha : lstB c.args.toList with
          | mk a =>
            rw [ha] at hb
            simp only [WrB.spec.injEq] at hb
            obtain ⟨rfl, rfl⟩ := hb
            obtain ⟨vs, h1, h⟩ := lstB_ok ha _ _ h
            obtain ⟨v, σ', h2, h⟩ := hf _ _ _ h
            rcases h2 with h2 | h2
            · exact ⟨.val v σ', _, (awrt_func hc h1).trans (by unfold callFunc; rw [h2]), rfl, h⟩
            · exact ⟨.callv f' vs v σ', _, (awrt_func hc h1).trans (by unfold callFunc; rw [h2]), rfl, h⟩
        | none =>
          rw [hx] at hb
          simp only at hb
          split at hb
          · rename_i fn hfn
            cases hbd : fn.body with
            | none => rw [hbd] at hb; cases hb
            | some body =>
              rw [hbd] at hb
              cases ha : lstB c.args.toList with
              | mk a => rw [ha] at hb; cases hb
          · cases hb
      · split at hb
        · rename_i elem size x y _ _
          cases hx : opdB x with
          | mk fx => cases hy : opdB y with
            | mk fy => rw [hx, hy] at hb; cases hb
        · cases hb
      · split at hb
        · rename_i size x y _ _
          cases hx : opdB x with
          | mk fx => cases hy : opdB y with
            | mk fy => rw [hx, hy] at hb; cases hb
        · cases hb
      · cases hb
  | app elem size fx fy =>
    simp only [wrtK, hb] at h
    unfold wrB at hb
    obtain ⟨dst, op, ty, pos, after, gd⟩ := o
    cases op <;> simp only at hb <;> try (cases hb; done)
    case store t a x =>
      split at hb
      · cases ha : opdB a with
        | mk fa => cases hx : opdB x with
          | mk fx => rw [ha, hx] at hb; cases hb
      · cases hb
    case call c =>
      split at hb
      · rename_i f' hc
        cases hx : XK f' with
        | gen => rw [hx] at hb; cases hb
        | mk g' =>
          rw [hx] at hb
          cases ha : lstB c.args.toList with
          | mk a => rw [ha] at hb; cases hb
        | none =>
          rw [hx] at hb
          simp only at hb
          split at hb
          · rename_i fn hfn
            cases hbd : fn.body with
            | none => rw [hbd] at hb; cases hb
            | some body =>
              rw [hbd] at hb
              cases ha : lstB c.args.toList with
              | mk a => rw [ha] at hb; cases hb
          · cases hb
      · rename_i hc
        split at hb
        · rename_i elem' size' x y hA hargs
          cases hx : opdB x with
          | mk gx => cases hy : opdB y with
            | mk gy =>
              rw [hx, hy] at hb
              simp only [WrB.app.injEq] at hb
              obtain ⟨rfl, rfl, rfl, rfl⟩ := hb
              obtain ⟨a, h1, h⟩ := opdB_ok hx _ _ h
              obtain ⟨b, h2, h⟩ := opdB_ok hy _ _ h
              rcases appendK_yes (appT_ok hA) h with ⟨v, σ', h3, h⟩ | h
              · exact ⟨.val v σ', _, awrt_append hc hargs h1 h2 h3, rfl, h⟩
              · cases h
        · cases hb
      · split at hb
        · rename_i size x y _ _
          cases hx : opdB x with
          | mk fx => cases hy : opdB y with
            | mk fy => rw [hx, hy] at hb; cases hb
        · cases hb
      · cases hb
  | store size fa fx =>
    simp only [wrtK, hb] at h
    unfold wrB at hb
    obtain ⟨dst, op, ty, pos, after, gd⟩ := o
    cases op <;> simp only at hb <;> try (cases hb; done)
    case store t a x =>
      split at hb
      · rename_i i hi
        cases ha : opdB a with
        | mk ga => cases hx : opdB x with
          | mk gx =>
            rw [ha, hx] at hb
            simp only [WrB.store.injEq] at hb
            obtain ⟨rfl, rfl, rfl⟩ := hb
            obtain ⟨σ', h1, h⟩ := storeVK_yes hi (opdB_ok ha) (opdB_ok hx) h
            exact ⟨.val undef σ', _, h1, rfl, h⟩
      · cases hb
    case call c =>
      split at hb
      · rename_i f' hc
        cases hx : XK f' with
        | gen => rw [hx] at hb; cases hb
        | mk g' =>
          rw [hx] at hb
          cases ha : lstB c.args.toList with
          | mk a => rw [ha] at hb; cases hb
        | none =>
          rw [hx] at hb
          simp only at hb
          split at hb
          · rename_i fn hfn
            cases hbd : fn.body with
            | none => rw [hbd] at hb; cases hb
            | some body =>
              rw [hbd] at hb
              cases ha : lstB c.args.toList with
              | mk a => rw [ha] at hb; cases hb
          · cases hb
      · split at hb
        · rename_i elem size x y _ _
          cases hx : opdB x with
          | mk fx => cases hy : opdB y with
            | mk fy => rw [hx, hy] at hb; cases hb
        · cases hb
      · split at hb
        · rename_i size x y _ _
          cases hx : opdB x with
          | mk fx => cases hy : opdB y with
            | mk fy => rw [hx, hy] at hb; cases hb
        · cases hb
      · cases hb
  | copy size fx fy =>
    simp only [wrtK, hb] at h
    unfold wrB at hb
    obtain ⟨dst, op, ty, pos, after, gd⟩ := o
    cases op <;> simp only at hb <;> try (cases hb; done)
    case store t a x =>
      split at hb
      · cases ha : opdB a with
        | mk fa => cases hx : opdB x with
          | mk fx => rw [ha, hx] at hb; cases hb
      · cases hb
    case call c =>
      split at hb
      · rename_i f' hc
        cases hx : XK f' with
        | gen => rw [hx] at hb; cases hb
        | mk g' =>
          rw [hx] at hb
          cases ha : lstB c.args.toList with
          | mk a => rw [ha] at hb; cases hb
        | none =>
          rw [hx] at hb
          simp only at hb
          split at hb
          · rename_i fn hfn
            cases hbd : fn.body with
            | none => rw [hbd] at hb; cases hb
            | some body =>
              rw [hbd] at hb
              cases ha : lstB c.args.toList with
              | mk a => rw [ha] at hb; cases hb
          · cases hb
      · split at hb
        · rename_i elem size x y _ _
          cases hx : opdB x with
          | mk fx => cases hy : opdB y with
            | mk fy => rw [hx, hy] at hb; cases hb
        · cases hb
      · rename_i hc
        split at hb
        · rename_i size' x y hA hargs
          cases hx : opdB x with
          | mk gx => cases hy : opdB y with
            | mk gy =>
              rw [hx, hy] at hb
              simp only [WrB.copy.injEq] at hb
              obtain ⟨rfl, rfl, rfl⟩ := hb
              obtain ⟨a, h1, h⟩ := opdB_ok hx _ _ h
              obtain ⟨b, h2, h⟩ := opdB_ok hy _ _ h
              rcases copyK_yes hA h with ⟨v, σ', h3, h⟩ | h
              · exact ⟨.val v σ', _, awrt_copy hc hargs h1 h2 h3, rfl, h⟩
              · cases h
        · cases hb
      · cases hb

theorem addPendK_eq (nx : Nat) : ∀ (l : List (Nat × AObj)) (h : Tr AObj) (k : Tr AObj → Ans), addPendK l h k = k (addPend ⟨h, nx⟩ l).heap
  | [], _, _ => rfl
  | (a, o) :: l, h, k => by
    show natK a (fun a => setK h a o fun h => addPendK l h k) = _
    rw [natK_eq, setK_eq, addPendK_eq nx l]; rfl

theorem addPend_eta (h : Tr AObj) (nx : Nat) (l : List (Nat × AObj)) : (⟨(addPend ⟨h, nx⟩ l).heap, nx⟩ : St) = addPend ⟨h, nx⟩ l := by
  have := addPend_next l ⟨h, nx⟩
  cases hp : addPend ⟨h, nx⟩ l with
  | mk h' n' => rw [hp] at this; simp only at this; rw [this]

theorem runWK_yes (hXK : XKOk X XK) {callK : CallK} {call : CallF} (hC : CallKOk callK call) {ops : Array Oper} {bs : List Nat} {sz n0 i : Nat} {o : Oper} {s : DR} {k : WR → Ans} (h : runWK P X XK callK ops bs sz n0 i o s k = .yes) :
    ∃ r, runW P X call ops bs sz n0 i o s = .ok r ∧ k r = .yes := by
  obtain ⟨w, hw, h⟩ := guK_yes (show guK ops o s.tm _ = .yes from h)
  unfold runW
  rcases ifK_yes h with ⟨hw', h⟩ | ⟨hw', h⟩
  · obtain ⟨h1, h⟩ := ifK_non h
    obtain ⟨h2, h⟩ := ifK_no h
    rw [tb_eq] at h1
    obtain ⟨tm, ⟨hp, nx⟩, pend, done, since, lastW, past, evts⟩ := s
    have h := (addPendK_eq nx pend hp _).symm.trans (show addPendK pend hp _ = .yes from h)
    rw [addPend_eta] at h
    obtain ⟨r, c, h3, h4, h⟩ := wrtK_yes hXK hC h
    cases c with
    | ret v σ =>
      obtain ⟨tm', h5, h⟩ := putK_yes h
      rw [natK_eq] at h
      refine ⟨_, ok_bind.2 ⟨w, hw, ?_⟩, h⟩
      rw [hw']
      simp only [h1, h2, Bool.not_true, Bool.false_eq_true, if_false]
      exact ok_bind.2 ⟨r, h3, ok_bind.2 ⟨_, h4, ok_bind.2 ⟨tm', h5, rfl⟩⟩⟩
    | panic chain σ =>
      refine ⟨_, ok_bind.2 ⟨w, hw, ?_⟩, h⟩
      rw [hw']
      simp only [h1, h2, Bool.not_true, Bool.false_eq_true, if_false]
      exact ok_bind.2 ⟨r, h3, ok_bind.2 ⟨_, h4, rfl⟩⟩
  · obtain ⟨s', h1, h⟩ := runFltK_yes h
    refine ⟨.ok s', ok_bind.2 ⟨w, hw, ?_⟩, h⟩
    rw [hw', if_pos (by decide)]
    exact ok_bind.2 ⟨s', h1, rfl⟩

theorem runWsK_yes (hXK : XKOk X XK) {callK : CallK} {call : CallF} (hC : CallKOk callK call) {ops : Array Oper} {bs : List Nat} {sz n0 : Nat} {l : List (Oper × Nat)} : ∀ {ws : List (Oper × Nat)} {s : DR} {k : WR → Ans}, runWsK P X XK callK ops bs sz n0 l ws s k = .yes →
    ∃ r, runWs P X call ops bs sz n0 l ws s = .ok r ∧ k r = .yes
  | [], s, k, h => by
    obtain ⟨s', h1, h⟩ := runMaskK_yes (show runMaskK P ops bs sz n0 (2 ^ l.length - 1) l s _ = .yes from h)
    exact ⟨_, ok_bind.2 ⟨s', h1, rfl⟩, h⟩
  | (o, i) :: ws, s, k, h => by
    have h : ifK (tb s.done i) (runWsK P X XK callK ops bs sz n0 l ws s k) (runMaskK P ops bs sz n0 (bs.getD i 0) l s fun s => runWK P X XK callK ops bs sz n0 i o s fun r => WR.rec (motive := fun _ => Ans) (fun s => runWsK P X XK callK ops bs sz n0 l ws s k) (fun c σ s i o => k (.panic c σ s i o)) r) = .yes := h
    rw [tb_eq] at h
    unfold runWs
    rcases ifK_yes h with ⟨h1, h⟩ | ⟨h1, h⟩
    · rw [h1, if_pos rfl]
      exact runWsK_yes hXK hC h
    · rw [h1, if_neg (by decide)]
      obtain ⟨s1, h2, h⟩ := runMaskK_yes h
      obtain ⟨r, h3, h⟩ := runWK_yes hXK hC h
      cases r with
      | ok s2 =>
        obtain ⟨r, h4, h⟩ := runWsK_yes hXK hC h
        exact ⟨r, ok_bind.2 ⟨s1, h2, ok_bind.2 ⟨_, h3, h4⟩⟩, h⟩
      | panic c σ s i o => exact ⟨_, ok_bind.2 ⟨s1, h2, ok_bind.2 ⟨_, h3, rfl⟩⟩, h⟩

theorem recheckK_yes {e : Evt} {fv : FV} : ∀ {l : List St} {k : Ans}, recheckK P e fv l k = .yes → recheck P e fv l = .ok () ∧ k = .yes
  | [], _, h => ⟨rfl, h⟩
  | σ :: l, k, h => by
    obtain ⟨i, o, w, tm, v, fv', seg⟩ := e
    obtain ⟨f, h1, h⟩ := fltK_yes (show fltK P o tm σ _ = .yes from h)
    unfold recheck
    cases f with
    | val a => cases fv with
      | val b =>
        obtain ⟨h2, h⟩ := ifK_no (show ifK (valEq 20 a b) (recheckK P ⟨i, o, w, tm, v, fv', seg⟩ (.val b) l k) .no = .yes from h)
        obtain ⟨h3, h⟩ := recheckK_yes h
        exact ⟨ok_bind.2 ⟨_, h1, by simp only [h2, if_true]; exact h3⟩, h⟩
      | new => cases h
      | dead => cases h
    | new => cases h
    | dead => cases h

theorem checkK_yes {bs ws : List Nat} {past : List St} : ∀ {l : List Evt} {k : Ans}, checkK P bs ws past l k = .yes → checkEvts P bs ws past l = .ok () ∧ k = .yes
  | [], _, h => ⟨rfl, h⟩
  | ⟨i, o, w, tm, v, fv, seg⟩ :: l, k, h => by
    unfold checkEvts
    cases fv with
    | none => exact checkK_yes (l := l) (k := k) h
    | some fv =>
      have h : ifK w (ifK (noHeap o) (checkK P bs ws past l k) (ifK (Nat.ble seg (countW ws (bs.getD i 0))) (checkK P bs ws past l k) (recheckK P ⟨i, o, w, tm, v, some fv, seg⟩ fv ((past.take seg).drop (countW ws (bs.getD i 0))) (checkK P bs ws past l k)))) (checkK P bs ws past l k) = .yes := h
      rcases ifK_yes h with ⟨h1, h⟩ | ⟨h1, h⟩
      · rcases ifK_yes h with ⟨h2, h⟩ | ⟨h2, h⟩
        · obtain ⟨h3, h⟩ := checkK_yes h
          exact ⟨ok_bind.2 ⟨(), by simp [h1, h2], h3⟩, h⟩
        · rcases ifK_yes h with ⟨h4, h⟩ | ⟨h4, h⟩
          · obtain ⟨h3, h⟩ := checkK_yes h
            refine ⟨ok_bind.2 ⟨(), ?_, h3⟩, h⟩
            have : (past.take seg).drop (countW ws (bs.getD i 0)) = [] := by
              rw [List.drop_eq_nil_iff]
              have := Nat.le_of_ble_eq_true h4
              rw [List.length_take]; omega
            simp only [h1, h2, this, Bool.not_true, Bool.or_false, Bool.false_eq_true, if_false]
            rfl
          · obtain ⟨h5, h⟩ := recheckK_yes h
            obtain ⟨h3, h⟩ := checkK_yes h
            exact ⟨ok_bind.2 ⟨(), by simp only [h1, h2, Bool.not_true, Bool.or_false, Bool.false_eq_true, if_false]; rw [h1] at h5; exact h5, h3⟩, h⟩
      · obtain ⟨h3, h⟩ := checkK_yes h
        exact ⟨ok_bind.2 ⟨(), by simp [h1], h3⟩, h⟩

theorem writesK_eq : ∀ (l : List Evt) (k : List Nat → Ans), writesK l k = k (writesOf l)
  | [], _ => rfl
  | ⟨i, o, w, tm, v, fv, seg⟩ :: l, k => by
    cases fv with
    | none =>
      show writesK l (fun ws => k (i :: ws)) = _
      rw [writesK_eq l]; rfl
    | some fv =>
      show writesK l k = _
      rw [writesK_eq l]; rfl

theorem checkEvts_nil {bs ws : List Nat} : ∀ (l : List Evt), checkEvts P bs ws [] l = .ok ()
  | [] => rfl
  | ⟨i, o, w, tm, v, fv, seg⟩ :: l => by
    unfold checkEvts
    cases fv with
    | none => exact checkEvts_nil l
    | some fv =>
      refine ok_bind.2 ⟨(), ?_, checkEvts_nil l⟩
      simp only [List.take_nil, List.drop_nil]
      split <;> rfl

theorem checksK_yes {bs : List Nat} {past : List St} {evts : List Evt} {k : Ans} (h : checksK P bs past evts k = .yes) : checkEvts P bs (writesOf evts) past.reverse evts = .ok () ∧ k = .yes := by
  cases past with
  | nil => exact ⟨checkEvts_nil evts, h⟩
  | cons σ l =>
    have h : writesK evts (fun ws => checkK P bs ws (σ :: l).reverse evts k) = .yes := h
    rw [writesK_eq] at h
    exact checkK_yes h

theorem drawnK_yes (hXK : XKOk X XK) {callK : CallK} {call : CallF} (hC : CallKOk callK call) {ops : Array Oper} {sz : Nat} {tm : Tr Value} {σ : St} {k : DRes → Ans} (h : drawnK P X XK callK ops sz tm σ k = .yes) :
    ∃ r, drawn P X call ops sz tm σ = .ok r ∧ k r = .yes := by
  obtain ⟨hp, n0⟩ := σ
  obtain ⟨h0, h⟩ := ifK_no (show ifK (drawOk ops.toList (befores ops.toList)) _ .no = .yes from h)
  have h := (natK_eq (n0 + ops.size) _).symm.trans (show natK (n0 + ops.size) _ = .yes from h)
  obtain ⟨r, h1, h⟩ := runWsK_yes hXK hC h
  unfold drawn
  simp only [h0, Bool.not_true, Bool.false_eq_true, if_false]
  cases r with
  | ok s =>
    obtain ⟨tm', ⟨hb, nb⟩, pend, done, since, lastW, past, evts⟩ := s
    obtain ⟨h2, h⟩ := ifK_no (show ifK (Nat.beq done (2 ^ ops.size - 1)) _ .no = .yes from h)
    obtain ⟨h3, h⟩ := checksK_yes h
    have h := (addPendK_eq nb pend hb _).symm.trans (show addPendK pend hb _ = .yes from h)
    rw [addPend_eta] at h
    refine ⟨_, ok_bind.2 ⟨_, h1, ok_bind.2 ⟨(), h3, ?_⟩⟩, h⟩
    have : done = 2 ^ ops.size - 1 := by simpa using h2
    rw [if_pos (by simp [this])]
  | panic c σp s p o =>
    obtain ⟨s', h2, h⟩ := runMaskK_yes (show runMaskK P ops (befores ops.toList) sz n0 (freeMask (befores ops.toList) p ops.toList.zipIdx) ops.toList.zipIdx s _ = .yes from h)
    obtain ⟨h3, h⟩ := checksK_yes (show checksK P (befores ops.toList) s'.past s'.evts _ = .yes from h)
    obtain ⟨h4, h⟩ := ifK_no h
    refine ⟨_, ok_bind.2 ⟨_, h1, ok_bind.2 ⟨s', h2, ok_bind.2 ⟨(), h3, ?_⟩⟩⟩, h⟩
    rw [if_pos h4]

theorem callsK_ok (hXK : XKOk X XK) {G : GoK} (hG : GoodG P X G) : ∀ d, CallKOk (callsK P XK G d) (callD P X d)
  | 0 => fun f args σ kk h => by cases h
  | d + 1 => by
    intro f args σ kk h
    rcases enterK_yes hXK (show enterK P XK f args _ .no = .yes from h) with ⟨body, n, fn, _, h2, h3, rfl, h⟩ | h
    · obtain ⟨n, rs, h4, h5, h6⟩ := hG _ _ _ _ h
      obtain ⟨r, rfl⟩ := h6 rfl
      exact ⟨r, callD_spec (enterFrame_of h2 h3) h4, h5 r List.mem_cons_self⟩
    · cases h

theorem rDrawn_ok (hXK : XKOk X XK) {id : Nat} {ops : Array Oper} {k : List AItem} {tm : Tr Value} {σ : St} {c : Ctx} {G : GoK} (hG : GoodG P X G) (h : rDrawn P X XK ops k tm σ c G = .yes) : Wc P X c (c.mst (.code (.region id ops true) :: k) tm σ) := by
  obtain ⟨fn, sz, defers, kind, ro, cs, f0, d, fin⟩ := c
  obtain ⟨r, h1, h⟩ := drawnK_yes hXK (callsK_ok hXK hG d) (show drawnK P X XK (callsK P XK G d) ops sz tm σ _ = .yes from h)
  cases r with
  | ok tm' σ' =>
    refine W.next ?_ (hG _ _ _ _ h)
    rw [astep_run rfl]
    exact ok_bind.2 ⟨_, h1, rfl⟩
  | panic ch tm' σ' =>
    refine W.next ?_ (unwK_ok hG 1000 _ _ h)
    rw [astep_run rfl]
    exact ok_bind.2 ⟨_, h1, rfl⟩

end Go.Ev.K

/- THE MACHINE IN CONTINUATION-PASSING STYLE IS SOUND. -/
namespace Go.Ev.K
variable {P : Program} {X : Specs} {XK : FuncId → XB}

/-! ### returns -/

theorem resTmps_yes : ∀ {ts : List ResultVar} {tm : Tr Value} {σ : St} {k : List Value → Ans}, ts.all isTmp = true → resTmps ts tm k = .yes → ∃ vs, resultsOf P σ tm ts = .ok vs ∧ vs.length = ts.length ∧ k vs = .yes
  | [], tm, σ, k, _, h => ⟨[], rfl, rfl, h⟩
  | r :: ts, tm, σ, k, ha, h => by
    cases r with
    | cell a t => simp [isTmp] at ha
    | tmp t =>
      have ha' : ts.all isTmp = true := by simpa [isTmp] using ha
      have h : GetB.rec (motive := fun _ => Ans) (fun f => f tm fun v => resTmps ts tm fun vs => k (v :: vs)) (trGetB (pathOf (t + 1) t)) = .yes := h
      cases hb : trGetB (pathOf (t + 1) t) with
      | mk f =>
        rw [hb] at h
        have hx : opdB (.tmp t) = .mk f := hb
        obtain ⟨v, h1, h⟩ := opdB_ok hx _ _ h
        obtain ⟨vs, h2, h3, h⟩ := resTmps_yes (σ := σ) ha' h
        exact ⟨v :: vs, ok_bind.2 ⟨v, h1, ok_bind.2 ⟨vs, h2, rfl⟩⟩, by simp [h3], h⟩

theorem resB_ok {fn : FuncId} {f : Tr Value → St → (Value → Ans) → Ans} (h : resB P fn = .mk f) {tm : Tr Value} {σ : St} {k : Value → Ans} (hk : f tm σ k = .yes) {fr : AFrame} (h1 : fr.fn = fn) (h2 : fr.tmps = tm) :
    ∃ v, results P σ fr = .ok v ∧ k v = .yes := by
  subst h1; subst h2
  unfold resB at h
  split at h
  · cases h
  · rename_i fu hfu
    have hgen : ∀ {f : Tr Value → St → (Value → Ans) → Ans}, ResB.mk (resGen P fu) = .mk f → f fr.tmps σ k = .yes → ∃ v, results P σ fr = .ok v ∧ k v = .yes := by
      intro f h hk
      cases h
      obtain ⟨vs, h3, hk⟩ := bindE_yes hk
      unfold results
      rw [hfu]
      simp only
      split at hk
      · exact ⟨_, ok_bind.2 ⟨_, h3, rfl⟩, hk⟩
      · rename_i vs' hne
        refine ⟨_, ok_bind.2 ⟨_, h3, ?_⟩, hk⟩
        split
        · exact absurd rfl (hne _)
        · rfl
    split at h
    · rename_i hr
      cases h
      refine ⟨.tuple #[], ?_, hk⟩
      unfold results
      rw [hfu]
      simp only [hr]
      exact ok_bind.2 ⟨[], rfl, rfl⟩
    · rename_i t hr
      cases hb : trGetB (pathOf (t + 1) t) with
      | mk g =>
        rw [hb] at h
        simp only [ResB.mk.injEq] at h; subst h
        have hx : opdB (.tmp t) = .mk g := hb
        obtain ⟨v, h3, hk⟩ := opdB_ok hx _ _ hk
        refine ⟨v, ?_, hk⟩
        unfold results
        rw [hfu]
        simp only [hr]
        exact ok_bind.2 ⟨[v], ok_bind.2 ⟨v, h3, ok_bind.2 ⟨[], rfl, rfl⟩⟩, rfl⟩
    · rename_i a b l hr
      cases hall : (a :: b :: l).all isTmp
      · rw [hall] at h; exact hgen h hk
      · rw [hall] at h
        simp only [cond_true, ResB.mk.injEq] at h; subst h
        obtain ⟨vs, h3, h4, hk⟩ := resTmps_yes (P := P) (σ := σ) hall hk
        refine ⟨_, ?_, hk⟩
        unfold results
        rw [hfu]
        simp only [hr]
        refine ok_bind.2 ⟨vs, h3, ?_⟩
        split
        · simp at h4
        · rfl
    · exact hgen h hk

theorem regK_yes {todo : List AItem} {k : Array Oper → Oper → List Oper → List AItem → Ans} {e : Ans} (h : regK todo k e = .yes) : (∃ ops o os tl, todo = .inReg ops (o :: os) :: tl ∧ k ops o os tl = .yes) ∨ e = .yes := by
  cases todo with
  | nil => exact .inr h
  | cons x tl =>
    cases x with
    | inReg ops os =>
      cases os with
      | nil => exact .inr h
      | cons o os => exact .inl ⟨ops, o, os, tl, rfl, h⟩
    | _ => exact .inr h

theorem backK_yes {cs : List AFrame} {v : Value} {σ : St} {f0 d : Nat} {fin : FinB} {G : GoK} (hG : GoodG P X G) {slow : Ans} (h : backK cs v σ f0 d fin G slow = .yes) :
    (∃ c1 rest c', cs = c1 :: rest ∧ finish c1 v = .ok c' ∧ W P X d f0 fin { fr := c', cs := rest, σ }) ∨ slow = .yes := by
  cases cs with
  | nil => exact .inr h
  | cons c1 rest =>
    obtain ⟨fn, tm, sz, todo, defers, mode, kind, ro⟩ := c1
    rcases regK_yes (show regK todo _ slow = .yes from h) with ⟨ops, o, os, tl, rfl, h⟩ | h
    · rcases modeK_yes h with ⟨rfl, h⟩ | ⟨_, h⟩
      · obtain ⟨tm', h1, h⟩ := putK_yes h
        refine .inl ⟨_, rest, _, rfl, ?_, hG _ _ _ _ h⟩
        simp only [finish]
        exact ok_bind.2 ⟨tm', h1, rfl⟩
      · exact .inr h
    · exact .inr h

theorem normalK_yes {kd : CallKind} {k e : Ans} (h : normalK kd k e = .yes) : (kd = .normal ∧ k = .yes) ∨ e = .yes := by
  cases kd with
  | normal => exact .inl ⟨rfl, h⟩
  | _ => exact .inr h

theorem isNoneK_eq (j : Option Code) : isNoneK j = j.isNone := by cases j <;> rfl

theorem retK_ok {G : GoK} (hG : GoodG P X G) {j : Option Code} (hj : j = none ∨ j = some .ret) {todo : List AItem} {tm : Tr Value} {σ : St} {c : Ctx} (hl : ∀ call, astep P X call (c.mst todo tm σ) = leave (c.mst todo tm σ) j) (h : retK P X j todo tm σ c G = .yes) :
    Wc P X c (c.mst todo tm σ) := by
  obtain ⟨fn, sz, defers, kind, ro, cs, f0, d, fin⟩ := c
  have hslow : slowRet P X ⟨fn, sz, defers, kind, ro, cs, f0, d, fin⟩ todo tm σ j G = .yes → Wc P X ⟨fn, sz, defers, kind, ro, cs, f0, d, fin⟩ (Ctx.mst ⟨fn, sz, defers, kind, ro, cs, f0, d, fin⟩ todo tm σ) :=
    fun h => stepK_ok hG h fun st hst => by rw [hl]; exact hst
  cases ro with
  | none =>
    cases defers with
    | cons => exact hslow h
    | nil =>
      rcases normalK_yes (show normalK kind _ _ = .yes from h) with ⟨rfl, h⟩ | h
      · cases hr : resB P fn with
        | no => rw [hr] at h; exact hslow h
        | mk f =>
          rw [hr] at h
          let m1 : MSt := { fr := { fn, tmps := tm, sz, todo, defers := [], mode := .returning, kind := .normal, roundOf := none }, cs, σ }
          obtain ⟨v, h1, h⟩ := resB_ok hr (show f tm σ _ = .yes from h) (fr := m1.fr) rfl rfl
          have hstep : ∀ call, astep P X call (Ctx.mst ⟨fn, sz, [], .normal, none, cs, f0, d, fin⟩ todo tm σ) = .ok (.next m1) := by
            intro call
            rw [hl]
            rcases hj with rfl | rfl <;> rfl
          have hun : ∀ call st, doReturn m1 v = .ok st → astep P X call m1 = .ok st := by
            intro call st hst
            show unwind P X m1 = _
            exact ok_bind.2 ⟨v, h1, hst⟩
          cases cs with
          | nil =>
            obtain ⟨h2, h⟩ := ifK_no (show ifK (Nat.beq fn f0) (finAt fin (.ret v σ)) .no = .yes from h)
            exact W.next (hstep _) (W.done (hun _ _ rfl) (by simpa using h2) h)
          | cons c1 rest =>
            rcases backK_yes hG (show backK (c1 :: rest) v σ f0 d fin G _ = .yes from h) with ⟨c1', rest', c', he, hf, hw⟩ | h
            · cases he
              exact W.next (hstep _) (W.next (hun _ _ (ok_bind.2 ⟨c', hf, rfl⟩)) hw)
            · exact hslow h
      · exact hslow h
  | some l =>
    rcases normalK_yes (show normalK kind _ _ = .yes from h) with ⟨rfl, h⟩ | h
    · obtain ⟨hp, nx⟩ := σ
      have h := (getK_eq hp l _).symm.trans (show getK hp l _ = .yes from h)
      obtain ⟨ob, ho, h⟩ := optK_yes h
      obtain ⟨r, hre, h9⟩ := loopK_yes h
      subst hre
      have h := (setK_eq hp l _ _).symm.trans (show setK hp l _ _ = .yes from h9)
      clear h9
      rw [isNoneK_eq] at h
      have hst : (Bool.rec .done .ready j.isNone : LoopState) = if j.isNone then .ready else .done := by cases j <;> rfl
      rcases backK_yes hG h with ⟨c1, rest, c', rfl, hf, hw⟩ | h
      · refine W.next ?_ hw
        rw [hl]
        unfold leave
        simp only [Ctx.mst]
        refine ok_bind.2 ⟨r, getLoop_of (σ := ⟨hp, nx⟩) ho, ?_⟩
        simp only [doReturn]
        refine ok_bind.2 ⟨c', hf, ?_⟩
        rw [hst]
      · exact hslow h
    · exact hslow h

theorem beginK_ok {G : GoK} (hG : GoodG P X G) {k : List AItem} {tm : Tr Value} {σ : St} {c : Ctx} (h : beginK k tm σ c G = .yes) : Wc P X c (c.mst (.beginRound :: k) tm σ) := by
  obtain ⟨fn, sz, defers, kind, ro, cs, f0, d, fin⟩ := c
  obtain ⟨l, rfl, h⟩ := optK_yes (show optK ro _ = .yes from h)
  obtain ⟨hp, nx⟩ := σ
  have h := (getK_eq hp l _).symm.trans (show getK hp l _ = .yes from h)
  obtain ⟨ob, ho, h⟩ := optK_yes h
  obtain ⟨r, hre, h9⟩ := loopK_yes h
  subst hre
  clear h
  obtain ⟨st, pd, lfn, ltm, lsz, ps, a, b, ld⟩ := r
  cases st with
  | ready =>
    have h := (setK_eq hp l _ _).symm.trans (show setK hp l _ _ = .yes from h9)
    refine W.next ?_ (hG _ _ _ _ h)
    rw [astep_run rfl]
    have he : ∀ (call : CallF) (m : MSt), m.fr.todo = .beginRound :: k → exec P X call m = Ev.beginRound m k := by
      intro call m hm
      unfold exec
      rw [hm]
    rw [he _ _ rfl]
    unfold Ev.beginRound
    simp only [Ctx.mst]
    exact ok_bind.2 ⟨_, getLoop_of (σ := ⟨hp, nx⟩) ho, rfl⟩
  | busy => cases h9
  | done => cases h9
  | exhausted => cases h9

/-! ### code -/

def CFOk (P : Program) (X : Specs) (cd : Code) (f : CF) : Prop := ∀ k tm σ c G, GoodG P X G → f k tm σ c G = .yes → Wc P X c (c.mst (.code cd :: k) tm σ)

theorem codeB_ok (hXK : XKOk X XK) : ∀ {cd : Code} {f : CF}, codeB P X XK cd = .mk f → CFOk P X cd f := by
  intro cd
  induction cd with
  | skip => intro f h; cases h; exact fun k tm σ c G hG h => W.next rfl (hG _ _ _ _ h)
  | region id ops draw =>
    intro f h
    have h : regionB P X XK ops draw = .mk f := h
    unfold regionB at h
    cases draw with
    | true => cases h; exact fun k tm σ c G hG h => rDrawn_ok hXK hG h
    | false =>
      cases hr : opsB P X XK ops ops.toList with
      | mk r =>
        rw [hr] at h
        simp only [cond_false, CB.mk.injEq] at h; subst h
        exact fun k tm σ c G hG h => W.next rfl (opsB_ok hXK hr k tm σ c G hG h)
  | seq a b iha _ =>
    intro f h
    have h : CB.rec (motive := fun _ => CB) (fun fa => .mk (cPush (.code b) fa)) (codeB P X XK a) = .mk f := h
    cases ha : codeB P X XK a with
    | mk fa =>
      rw [ha] at h
      simp only [CB.mk.injEq] at h; subst h
      exact fun k tm σ c G hG h => W.next rfl (iha ha _ _ _ _ _ hG h)
  | cond x a b iha ihb =>
    intro f h
    have h : GetB.rec (motive := fun _ => CB) (fun g => CB.rec (motive := fun _ => CB) (fun fa => CB.rec (motive := fun _ => CB) (fun fb => .mk (cCond g fa fb)) (codeB P X XK b)) (codeB P X XK a)) (opdB x) = .mk f := h
    cases hx : opdB x with
    | mk g => cases ha : codeB P X XK a with
      | mk fa => cases hb : codeB P X XK b with
        | mk fb =>
          rw [hx, ha, hb] at h
          simp only [CB.mk.injEq] at h; subst h
          intro k tm σ c G hG h
          obtain ⟨v, h1, h⟩ := opdB_ok hx _ _ h
          obtain ⟨t, rfl, h2⟩ := vBool_no h
          rcases ifK_yes h2 with ⟨rfl, h⟩ | ⟨rfl, h⟩
          · refine W.next ?_ (iha ha k tm σ c G hG h)
            rw [astep_run rfl]
            exact ok_bind.2 ⟨_, h1, ok_bind.2 ⟨true, rfl, rfl⟩⟩
          · refine W.next ?_ (ihb hb k tm σ c G hG h)
            rw [astep_run rfl]
            exact ok_bind.2 ⟨_, h1, ok_bind.2 ⟨false, rfl, rfl⟩⟩
  | block id a iha =>
    intro f h
    have h : CB.rec (motive := fun _ => CB) (fun f => .mk (cPush (.inBlock id) f)) (codeB P X XK a) = .mk f := h
    cases ha : codeB P X XK a with
    | mk fa =>
      rw [ha] at h
      simp only [CB.mk.injEq] at h; subst h
      exact fun k tm σ c G hG h => W.next rfl (iha ha _ _ _ _ _ hG h)
  | loop a iha =>
    intro f h
    have h : CB.rec (motive := fun _ => CB) (fun f => .mk (cPush (.inLoop a) f)) (codeB P X XK a) = .mk f := h
    cases ha : codeB P X XK a with
    | mk fa =>
      rw [ha] at h
      simp only [CB.mk.injEq] at h; subst h
      exact fun k tm σ c G hG h => W.next rfl (iha ha _ _ _ _ _ hG h)
  | rangeFunc => intro f h; cases h; exact fun k tm σ c G hG h => slowK_ok hG h
  | exit id =>
    intro f h; cases h
    intro k tm σ c G hG h
    cases he : exitTo id k with
    | none =>
      simp only [cExit, he] at h
      exact slowK_ok hG h
    | some k' =>
      simp only [cExit, he] at h
      refine W.next ?_ (hG _ _ _ _ h)
      rw [astep_run rfl]
      show (match exitTo id k with | some k => setTodo _ k | none => leave _ (some (.exit id))) = _
      rw [he]; rfl
  | scope a iha =>
    intro f h
    have h : CB.rec (motive := fun _ => CB) (fun f => .mk (cPush (.inScope a) f)) (codeB P X XK a) = .mk f := h
    cases ha : codeB P X XK a with
    | mk fa =>
      rw [ha] at h
      simp only [CB.mk.injEq] at h; subst h
      exact fun k tm σ c G hG h => W.next rfl (iha ha _ _ _ _ _ hG h)
  | label => intro f h; cases h; exact fun k tm σ c G hG h => W.next rfl (hG _ _ _ _ h)
  | goto => intro f h; cases h; exact fun k tm σ c G hG h => slowK_ok hG h
  | ret => intro f h; cases h; exact fun k tm σ c G hG h => retK_ok hG (.inr rfl) (fun _ => rfl) h
  | refuse => intro f h; cases h; intro k tm σ c G hG h; cases h

theorem popK_ok (hXK : XKOk X XK) {todo : List AItem} {tm : Tr Value} {σ : St} {c : Ctx} {G : GoK} (hG : GoodG P X G) (h : popK P X XK todo tm σ c G = .yes) : Wc P X c (c.mst todo tm σ) := by
  cases todo with
  | nil => exact retK_ok hG (.inl rfl) (fun _ => rfl) h
  | cons x k =>
    cases x with
    | code cd =>
      cases hc : codeB P X XK cd with
      | mk f =>
        simp only [popK, hc] at h
        exact codeB_ok hXK hc k tm σ c G hG h
    | inBlock => exact W.next rfl (hG _ _ _ _ h)
    | inLoop b =>
      cases hc : codeB P X XK b with
      | mk f =>
        simp only [popK, hc] at h
        exact W.next rfl (codeB_ok hXK hc _ tm σ c G hG h)
    | inScope => exact W.next rfl (hG _ _ _ _ h)
    | inReg ops os =>
      cases hc : opsB P X XK ops os with
      | mk f =>
        simp only [popK, hc] at h
        exact opsB_ok hXK hc k tm σ c G hG h
    | inRangeFunc => exact slowK_ok hG h
    | endRangeFunc => exact slowK_ok hG h
    | beginRound => exact beginK_ok hG h

theorem goK_ok (hXK : XKOk X XK) : ∀ n, GoodG P X (goK P X XK n)
  | 0 => fun _ _ _ _ h => by cases h
  | n + 1 => fun _ _ _ _ h => popK_ok hXK (goK_ok hXK n) h

/-- all outcomes of a call -/
def EvalTo (P : Program) (X : Specs) (d : Nat) (f : FuncId) (args : List Value) (σ : St) (rs : List CRes) : Prop :=
  ∃ a n, enterFrame P f args .normal = .ok a ∧ run P X (callD P X d) f n { fr := a, cs := [], σ } = .ok rs

theorem evalK_to (hXK : XKOk X XK) {n d : Nat} {f : FuncId} {args : List Value} {σ : St} {fin : CRes → Ans} {br : Bool} (h : evalK P X XK n d f args σ fin br = .yes) :
    ∃ rs, EvalTo P X d f args σ rs ∧ (∀ r ∈ rs, fin r = .yes) ∧ (br = false → ∃ r, rs = [r]) := by
  obtain ⟨a, he, h⟩ := bindE_yes h
  obtain ⟨n', rs, h1, h2, h3⟩ := goK_ok hXK n _ _ _ _ h
  have hm : a.mode = .run := by
    unfold enterFrame at he
    split at he
    · split at he
      · cases he; rfl
      · cases he
    · cases he
  have hcs : Ctx.mst { fn := a.fn, sz := a.sz, defers := a.defers, kind := a.kind, ro := a.roundOf, cs := [], f0 := f, d := d, fin := .mk fin br } a.todo a.tmps σ = { fr := a, cs := [], σ } := by
    obtain ⟨fn, tm, sz, todo, defers, mode, kind, ro⟩ := a
    cases hm; rfl
  rw [hcs] at h1
  exact ⟨rs, ⟨a, n', he, h1⟩, h2, h3⟩

theorem EvalTo.calls (hX : SpecsOk P X) (hmix : P.follows .mixedOrders = true) {d : Nat} {f : FuncId} {args : List Value} {σ : St} {rs : List CRes} (h : EvalTo P X d f args σ rs) {cargs : Array Value} {R : Ren} {w : World} (H : HRel P R σ w.heap) (ha : LRel R args cargs.toList) :
    Calls P f cargs w fun e w' => ∃ r ∈ rs, EndOk P R σ w e w' r := by
  obtain ⟨a, n, he, h1⟩ := h
  exact run_calls hX (drawn_good hX (callD_good hX hmix d) hmix) H ha he h1

/-- THE VERIFIED EVALUATOR, in the kernel's form. -/
theorem evalK_calls (hX : SpecsOk P X) (hXK : XKOk X XK) (hmix : P.follows .mixedOrders = true) {n d : Nat} {f : FuncId} {args : List Value} {cargs : Array Value} {R : Ren} {σ : St} {w : World} (H : HRel P R σ w.heap) (ha : LRel R args cargs.toList)
    {fin : CRes → Ans} {br : Bool} (h : evalK P X XK n d f args σ fin br = .yes) : Calls P f cargs w fun e w' => ∃ r, fin r = .yes ∧ EndOk P R σ w e w' r := by
  obtain ⟨rs, h1, h2, _⟩ := evalK_to hXK h
  exact (h1.calls hX hmix H ha).mono fun e w' ⟨r, hr, hend⟩ => ⟨r, h2 r hr, hend⟩

end Go.Ev.K

/- Calls whose outcome is kept: of pure functions, and of functions in a given piece of the heap. -/
namespace Go.Ev.K
variable {P : Program} {X : Specs} {XK : FuncId → XB}

/-! ### plain values -/

theorem plain_eq {R : Ren} : ∀ (n : Nat) {v c : Value}, plainV n v = true → VRel R v c → c = v := by
  intro n
  induction n with
  | zero => intro v c h; simp [plainV] at h
  | succ n ih =>
    have harr : ∀ (xs ys : Array Value), (xs.toList.all (plainV n)) = true → LRel R xs.toList ys.toList → ys = xs := by
      intro xs ys h hl
      apply Array.ext'
      apply List.ext_getElem?
      intro i
      by_cases hi : i < xs.toList.length
      · have hx : xs.toList[i]? = some xs.toList[i] := List.getElem?_eq_getElem hi
        obtain ⟨y, hy, hr⟩ := hl.get hx
        rw [hy, hx, ih (List.all_eq_true.1 h _ (List.getElem_mem hi)) hr]
      · rw [List.getElem?_eq_none (by rw [← hl.1]; omega), List.getElem?_eq_none (by omega)]
    intro v c h hv
    cases hv with
    | bool => rfl
    | int => rfl
    | float => rfl
    | complex => rfl
    | string => rfl
    | nilPtr => rfl
    | ptr => simp [plainV] at h
    | nilSlice => rfl
    | slice => simp [plainV] at h
    | openSl => simp [plainV] at h
    | nilMap => rfl
    | map => simp [plainV] at h
    | nilChan => rfl
    | sym => simp [plainV] at h
    | func => simp [plainV] at h
    | nilFunc => rfl
    | iface t v w hv => rw [ih (by simpa [plainV] using h) hv]
    | nilIface => rfl
    | agg xs ys h1 h2 => rw [harr xs ys (by simpa [plainV] using h) ⟨by simpa using h1, fun i x y hx hy => h2 i x y (by simpa using hx) (by simpa using hy)⟩]
    | tuple xs ys h1 h2 => rw [harr xs ys (by simpa [plainV] using h) ⟨by simpa using h1, fun i x y hx hy => h2 i x y (by simpa using hx) (by simpa using hy)⟩]

theorem plain_list {R R' : Ren} {args : List Value} {cargs : List Value} (hp : args.all (plainV 20) = true) (h : LRel R args cargs) : LRel R' args cargs := by
  refine ⟨h.1, fun i x y hx hy => ?_⟩
  have hx' : plainV 20 x = true := List.all_eq_true.1 hp x (List.mem_of_getElem? hx)
  rw [plain_eq 20 hx' (h.2 i x y hx hy)]
  exact plain_rel R' 20 x hx'

/-- A PURE FUNCTION: what one run from an empty heap gives, it gives everywhere. -/
theorem pure_sum (hX : SpecsOk P X) (hmix : P.follows .mixedOrders = true) {d : Nat} {f : FuncId} {args : List Value} {V : Value} {rs : List CRes}
    (h : EvalTo P X d f args { heap := .nil, next := GMAX } rs) (hfin : ∀ r ∈ rs, ∃ σ', r = .ret V σ') (hV : plainV 20 V = true) (hp : args.all (plainV 20) = true)
    {R : Ren} {σ : St} {w : World} {cargs : Array Value} (H : HRel P R σ w.heap) (ha : LRel R args cargs.toList) : SumOk P R σ w f cargs V σ := by
  let R0 : Ren := { loc := fun a => if a < GMAX then R.loc a else none, sym := R.sym }
  have H0 : HRel P R0 { heap := .nil, next := GMAX } w.heap := by
    refine ⟨fun g hg => by simp only [R0, if_pos hg]; exact H.glob g hg, Nat.le_refl _, fun a ha => by simp only [R0]; rw [if_neg (Nat.not_lt.2 ha)], fun a b la lb ha => ?_, fun a o ha => ?_⟩
    · simp [Tr.get_nil] at ha
    · simp [Tr.get_nil] at ha
  refine (h.calls hX hmix H0 (plain_list (R' := R0) hp ha)).mono fun e w' ⟨r, hr, hend⟩ => ?_
  obtain ⟨σ', rfl⟩ := hfin r hr
  obtain ⟨R', c, rfl, hv, K⟩ := hend
  have hc := plain_eq 20 hV hv
  subst hc
  have hkeep : ∀ B, B < w.heap.size → w'.heap[B]? = w.heap[B]? := fun B hB => K.fr.keep B hB fun a l o ha => by simp [Tr.get_nil] at ha
  refine ⟨R, c, rfl, plain_rel R 20 c hV, ⟨⟨H.glob, H.low, H.dom, H.inj, fun a o ho => ?_⟩, ⟨R.le_refl, K.fr.size, fun B hB _ => hkeep B hB, fun a l o ha hl => .inr ⟨a, l, o, ha, hl, rfl, id⟩, Nat.le_refl _, fun a l h => .inl h⟩, K.keep⟩⟩
  obtain ⟨l, O, g1, g2, g3⟩ := H.obj a o ho
  exact ⟨l, O, g1, by rw [hkeep l.block (H.lt (by rw [ho]; rfl) g1)]; exact g2, g3⟩

/-! ### objects as text -/

/-- cells: one; n of the same; n whole numbers in a row -/
inductive Cl where
  | one (i : Nat) (v : Value)
  | rep (i n : Nat) (v : Value)
  | row (i n k : Nat)
inductive OT where
  | cells (d : List Value) (n : Nat) (elem : TypeId) (ext : Bool) (fz : Nat) (mk : Bool) (vs : List Cl)
  | map (es : List MapEntry) (clock : Nat)

def setPairs (c : Tr Value) : List (Nat × Value) → Tr Value
  | [] => c
  | (i, v) :: l => setPairs (c.set i v) l
def setRep (v : Value) : Nat → Nat → Tr Value → Tr Value
  | 0, _, c => c
  | n + 1, i, c => setRep v n (i + 1) (c.set i v)
def setRow : Nat → Nat → Nat → Tr Value → Tr Value
  | 0, _, _, c => c
  | n + 1, i, k, c => setRow n (i + 1) (k + 1) (c.set i (.int .i64 (.ofNat k)))
def setCl (c : Tr Value) : List Cl → Tr Value
  | [] => c
  | .one i v :: l => setCl (c.set i v) l
  | .rep i n v :: l => setCl (setRep v n i c) l
  | .row i n k :: l => setCl (setRow n i k c) l
def OT.obj : OT → AObj
  | .cells d n e x fz mk vs => .cells (setCl .nil vs) d n e x fz mk
  | .map es clock => .map es clock

noncomputable def setPairsK (l : List (Nat × Value)) : Tr Value → (Tr Value → Ans) → Ans :=
  List.rec (motive := fun _ => Tr Value → (Tr Value → Ans) → Ans) (fun c k => k c) (fun p _ ih c k => Prod.rec (motive := fun _ => Ans) (fun i v => setK c i v fun c => ih c k) p) l
noncomputable def setRepK (v : Value) (n : Nat) : Nat → Tr Value → (Tr Value → Ans) → Ans :=
  Nat.rec (motive := fun _ => Nat → Tr Value → (Tr Value → Ans) → Ans) (fun _ c k => k c) (fun _ ih i c k => setK c i v fun c => natK (Nat.succ i) fun i => ih i c k) n
noncomputable def setRowK (n : Nat) : Nat → Nat → Tr Value → (Tr Value → Ans) → Ans :=
  Nat.rec (motive := fun _ => Nat → Nat → Tr Value → (Tr Value → Ans) → Ans) (fun _ _ c k => k c) (fun _ ih i j c k => setK c i (.int .i64 (.ofNat j)) fun c => natK (Nat.succ i) fun i => natK (Nat.succ j) fun j => ih i j c k) n
noncomputable def setClK (l : List Cl) : Tr Value → (Tr Value → Ans) → Ans :=
  List.rec (motive := fun _ => Tr Value → (Tr Value → Ans) → Ans) (fun c k => k c) (fun p _ ih c k => Cl.rec (motive := fun _ => Ans) (fun i v => setK c i v fun c => ih c k) (fun i n v => setRepK v n i c fun c => ih c k) (fun i n j => setRowK n i j c fun c => ih c k) p) l
noncomputable def otK (t : OT) (k : AObj → Ans) : Ans :=
  OT.rec (motive := fun _ => Ans) (fun d n e x fz mk vs => setClK vs .nil fun c => k (.cells c d n e x fz mk)) (fun es clock => k (.map es clock)) t

theorem setPairsK_eq : ∀ (l : List (Nat × Value)) (c : Tr Value) (k : Tr Value → Ans), setPairsK l c k = k (setPairs c l)
  | [], _, _ => rfl
  | (i, v) :: l, c, k => by
    show setK c i v (fun c => setPairsK l c k) = _
    rw [setK_eq, setPairsK_eq l]; rfl
theorem setRepK_eq (v : Value) : ∀ (n i : Nat) (c : Tr Value) (k : Tr Value → Ans), setRepK v n i c k = k (setRep v n i c)
  | 0, _, _, _ => rfl
  | n + 1, i, c, k => by
    show setK c i v (fun c => natK (Nat.succ i) fun i => setRepK v n i c k) = _
    rw [setK_eq, natK_eq, setRepK_eq v n]; rfl
theorem setRowK_eq : ∀ (n i j : Nat) (c : Tr Value) (k : Tr Value → Ans), setRowK n i j c k = k (setRow n i j c)
  | 0, _, _, _, _ => rfl
  | n + 1, i, j, c, k => by
    show setK c i (.int .i64 (.ofNat j)) (fun c => natK (Nat.succ i) fun i => natK (Nat.succ j) fun j => setRowK n i j c k) = _
    rw [setK_eq, natK_eq, natK_eq, setRowK_eq n]; rfl
theorem setClK_eq : ∀ (l : List Cl) (c : Tr Value) (k : Tr Value → Ans), setClK l c k = k (setCl c l)
  | [], _, _ => rfl
  | .one i v :: l, c, k => by
    show setK c i v (fun c => setClK l c k) = _
    rw [setK_eq, setClK_eq l]; rfl
  | .rep i n v :: l, c, k => by
    show setRepK v n i c (fun c => setClK l c k) = _
    rw [setRepK_eq, setClK_eq l]; rfl
  | .row i n j :: l, c, k => by
    show setRowK n i j c (fun c => setClK l c k) = _
    rw [setRowK_eq, setClK_eq l]; rfl
theorem otK_eq (t : OT) (k : AObj → Ans) : otK t k = k t.obj := by
  cases t with
  | cells d n e x fz mk vs => exact setClK_eq vs .nil _
  | map es clock => rfl

/- equality, where it is -/
def valsEq : List Value → List Value → Bool
  | [], [] => true
  | a :: as, b :: bs => valEq 20 a b && valsEq as bs
  | _, _ => false
def optVEq : Option Value → Option Value → Bool
  | none, none => true
  | some a, some b => valEq 20 a b
  | _, _ => false
def trEq : Tr Value → Tr Value → Bool
  | .nil, .nil => true
  | .node l v r, .node l' v' r' => optVEq v v' && trEq l l' && trEq r r'
  | _, _ => false
def entsEq : List MapEntry → List MapEntry → Bool
  | [], [] => true
  | a :: as, b :: bs => valEq 20 a.key b.key && valEq 20 a.val b.val && a.born == b.born && entsEq as bs
  | _, _ => false
def objEq : AObj → AObj → Bool
  | .cells c d n e x fz mk, .cells c' d' n' e' x' fz' mk' => trEq c c' && valsEq d d' && n == n' && e == e' && x == x' && fz == fz' && mk == mk'
  | .map es k, .map es' k' => entsEq es es' && k == k'
  | _, _ => false

theorem valsEq_eq : ∀ {a b : List Value}, valsEq a b = true → a = b
  | [], [], _ => rfl
  | [], _ :: _, h => by cases h
  | _ :: _, [], h => by cases h
  | a :: as, b :: bs, h => by
    simp only [valsEq, Bool.and_eq_true] at h
    rw [valEq_eq 20 a b h.1, valsEq_eq h.2]
theorem optVEq_eq {a b : Option Value} (h : optVEq a b = true) : a = b := by
  cases a <;> cases b <;> first | rfl | cases h | (rw [valEq_eq 20 _ _ h])
theorem trEq_eq : ∀ {a b : Tr Value}, trEq a b = true → a = b
  | .nil, .nil, _ => rfl
  | .nil, .node .., h => by cases h
  | .node .., .nil, h => by cases h
  | .node l v r, .node l' v' r', h => by
    simp only [trEq, Bool.and_eq_true] at h
    rw [optVEq_eq h.1.1, trEq_eq h.1.2, trEq_eq h.2]
theorem entsEq_eq : ∀ {a b : List MapEntry}, entsEq a b = true → a = b
  | [], [], _ => rfl
  | [], _ :: _, h => by cases h
  | _ :: _, [], h => by cases h
  | ⟨k, v, n⟩ :: as, ⟨k', v', n'⟩ :: bs, h => by
    simp only [entsEq, Bool.and_eq_true, beq_iff_eq] at h
    obtain ⟨⟨⟨h1, h2⟩, h3⟩, h4⟩ := h
    rw [valEq_eq 20 _ _ h1, valEq_eq 20 _ _ h2, h3, entsEq_eq h4]
theorem objEq_eq {a b : AObj} (h : objEq a b = true) : a = b := by
  cases a with
  | cells c d n e x fz mk =>
    cases b with
    | cells c' d' n' e' x' fz' mk' =>
      simp only [objEq, Bool.and_eq_true, beq_iff_eq] at h
      obtain ⟨⟨⟨⟨⟨⟨h1, h2⟩, h3⟩, h4⟩, h5⟩, h6⟩, h7⟩ := h
      rw [trEq_eq h1, valsEq_eq h2, h3, h4, h5, h6, h7]
    | _ => cases h
  | map es k =>
    cases b with
    | map es' k' =>
      simp only [objEq, Bool.and_eq_true, beq_iff_eq] at h
      rw [entsEq_eq h.1, h.2]
    | _ => cases h
  | _ => cases h

/-! ### pieces of the heap -/

abbrev Piece := List (Nat × OT)

def setAll (h : Tr AObj) : Piece → Tr AObj
  | [] => h
  | (a, t) :: l => setAll (h.set a t.obj) l
def delAll (h : Tr AObj) : Piece → Tr AObj
  | [] => h
  | (a, _) :: l => delAll (h.del a) l

noncomputable def setAllK (l : Piece) : Tr AObj → (Tr AObj → Ans) → Ans :=
  List.rec (motive := fun _ => Tr AObj → (Tr AObj → Ans) → Ans) (fun h k => k h) (fun p _ ih h k => Prod.rec (motive := fun _ => Ans) (fun a t => otK t fun o => setK h a o fun h => ih h k) p) l
noncomputable def delAllK (l : Piece) : Tr AObj → (Tr AObj → Ans) → Ans :=
  List.rec (motive := fun _ => Tr AObj → (Tr AObj → Ans) → Ans) (fun h k => k h) (fun p _ ih h k => Prod.rec (motive := fun _ => Ans) (fun a _ => delK h a fun h => ih h k) p) l
noncomputable def allInK (l : Piece) (h : Tr AObj) (k : Ans) : Ans :=
  List.rec (motive := fun _ => Ans) k (fun p _ ih => Prod.rec (motive := fun _ => Ans) (fun a t => getK h a fun o => optK o fun o => otK t fun o' => ifK (objEq o o') ih .no) p) l

theorem setAllK_eq : ∀ (l : Piece) (h : Tr AObj) (k : Tr AObj → Ans), setAllK l h k = k (setAll h l)
  | [], _, _ => rfl
  | (a, t) :: l, h, k => by
    show otK t (fun o => setK h a o fun h => setAllK l h k) = _
    rw [otK_eq, setK_eq, setAllK_eq l]; rfl
theorem delAllK_eq : ∀ (l : Piece) (h : Tr AObj) (k : Tr AObj → Ans), delAllK l h k = k (delAll h l)
  | [], _, _ => rfl
  | (a, t) :: l, h, k => by
    show delK h a (fun h => delAllK l h k) = _
    rw [delK_eq, delAllK_eq l]; rfl

def AllIn (l : Piece) (h : Tr AObj) : Prop := ∀ p ∈ l, h.get p.1 = some p.2.obj

theorem allInK_yes : ∀ {l : Piece} {h : Tr AObj} {k : Ans}, allInK l h k = .yes → AllIn l h ∧ k = .yes
  | [], h, k, hk => ⟨fun p hp => (by cases hp), hk⟩
  | (a, t) :: l, h, k, hk => by
    have hk : getK h a (fun o => optK o fun o => otK t fun o' => ifK (objEq o o') (allInK l h k) .no) = .yes := hk
    rw [getK_eq] at hk
    obtain ⟨o, ho, hk⟩ := optK_yes hk
    rw [otK_eq] at hk
    obtain ⟨h1, hk⟩ := ifK_no hk
    obtain ⟨h2, hk⟩ := allInK_yes hk
    refine ⟨fun p hp => ?_, hk⟩
    rcases List.mem_cons.1 hp with rfl | hp
    · rw [ho, objEq_eq h1]
    · exact h2 p hp

theorem setAll_get : ∀ (l : Piece) (h : Tr AObj) (a : Nat) (o : AObj), (setAll h l).get a = some o → (∃ t, (a, t) ∈ l ∧ t.obj = o) ∨ h.get a = some o
  | [], h, a, o, hg => .inr hg
  | (b, t) :: l, h, a, o, hg => by
    rcases setAll_get l _ a o hg with ⟨t', h1, h2⟩ | h1
    · exact .inl ⟨t', List.mem_cons_of_mem _ h1, h2⟩
    · rw [Tr.get_set] at h1
      by_cases e : a = b
      · rw [if_pos e] at h1
        cases h1
        exact .inl ⟨t, by rw [e]; exact List.mem_cons_self, rfl⟩
      · rw [if_neg e] at h1; exact .inr h1
theorem delAll_get : ∀ (l : Piece) (h : Tr AObj) (a : Nat) (o : AObj), (delAll h l).get a = some o → h.get a = some o ∧ ∀ t, (a, t) ∉ l
  | [], h, a, o, hg => ⟨hg, fun t ht => by cases ht⟩
  | (b, t) :: l, h, a, o, hg => by
    obtain ⟨h1, h2⟩ := delAll_get l _ a o hg
    rw [Tr.get_del] at h1
    by_cases e : a = b
    · rw [if_pos e] at h1; cases h1
    · rw [if_neg e] at h1
      refine ⟨h1, fun t' ht' => ?_⟩
      rcases List.mem_cons.1 ht' with h3 | h3
      · cases h3; exact e rfl
      · exact h2 t' h3

/-- a kept call: in a heap that holds 'inn', the next number being 'n', f of these arguments gives V, and 'out' in place of 'inn' -/
structure Memo where
  f : FuncId
  args : List Value
  n : Nat
  inn : Piece
  V : Value
  out : Piece
  n' : Nat

def Memo.after (m : Memo) (σ : St) : St := { heap := setAll (delAll σ.heap m.inn) m.out, next := m.n' }
noncomputable def Memo.fin (m : Memo) (r : CRes) : Ans :=
  CRes.rec (motive := fun _ => Ans) (fun v σ => ifK (valEq 20 v m.V) (St.rec (motive := fun _ => Ans) (fun h n => ifK (Nat.ble n m.n') (allInK m.out h .yes) .no) σ) .no) (fun _ _ => .no) r
/-- the run that shows it -/
noncomputable def Memo.runK (m : Memo) (P : Tab) (X : Specs) (XK : FuncId → XB) (fuel d : Nat) (br : Bool) : Ans :=
  setAllK m.inn .nil fun h => evalK P X XK fuel d m.f m.args { heap := h, next := m.n } m.fin br

theorem Memo.fin_yes {m : Memo} {r : CRes} (h : m.fin r = .yes) : ∃ σ', r = .ret m.V σ' ∧ σ'.next ≤ m.n' ∧ AllIn m.out σ'.heap := by
  cases r with
  | panic => cases h
  | ret v σ =>
    obtain ⟨h1, h⟩ := ifK_no (show ifK (valEq 20 v m.V) _ .no = .yes from h)
    obtain ⟨hp, n⟩ := σ
    obtain ⟨h2, h⟩ := ifK_no (show ifK (Nat.ble n m.n') _ .no = .yes from h)
    exact ⟨_, by rw [valEq_eq 20 _ _ h1], Nat.le_of_ble_eq_true h2, (allInK_yes h).1⟩

theorem Kept.raise {R R' : Ren} {σ σ' : St} {w w' : World} (K : Kept P R σ w R' σ' w') {n : Nat} (hn : σ'.next ≤ n) : Kept P R σ w R' { heap := σ'.heap, next := n } w' :=
  ⟨⟨K.rel.glob, Nat.le_trans K.rel.low hn, fun a ha => K.rel.dom a (Nat.le_trans hn ha), K.rel.inj, K.rel.obj⟩, ⟨K.fr.le, K.fr.size, K.fr.keep, K.fr.orig, Nat.le_trans K.fr.next hn, K.fr.old⟩, K.keep⟩

theorem Memo.sum (hX : SpecsOk P X) (hXK : XKOk X XK) (hmix : P.follows .mixedOrders = true) {m : Memo} {fuel d : Nat} {br : Bool} (h : m.runK P X XK fuel d br = .yes)
    {R : Ren} {σ : St} {w : World} {cargs : Array Value} (hn : σ.next = m.n) (hin : AllIn m.inn σ.heap) (H : HRel P R σ w.heap) (ha : LRel R m.args cargs.toList) : SumOk P R σ w m.f cargs m.V (m.after σ) := by
  have h : evalK P X XK fuel d m.f m.args { heap := setAll .nil m.inn, next := m.n } m.fin br = .yes := by
    rw [← setAllK_eq m.inn .nil (fun h => evalK P X XK fuel d m.f m.args { heap := h, next := m.n } m.fin br)]; exact h
  have hsub : ∀ a o, (setAll .nil m.inn).get a = some o → σ.heap.get a = some o := by
    intro a o hg
    rcases setAll_get _ _ a o hg with ⟨t, h1, rfl⟩ | h1
    · exact hin _ h1
    · simp [Tr.get_nil] at h1
  have H0 : HRel P R { heap := setAll .nil m.inn, next := m.n } w.heap := H.sub hn.symm hsub
  refine (evalK_calls hX hXK hmix H0 ha h).mono fun e w' ⟨r, hr, hend⟩ => ?_
  obtain ⟨σ', rfl, hn', hout⟩ := Memo.fin_yes hr
  obtain ⟨R', c, rfl, hv, K⟩ := hend
  refine ⟨R', c, rfl, hv, Kept.merge H hn.symm hsub (Kept.raise K hn') rfl fun a o hg => ?_⟩
  rcases setAll_get _ _ a o hg with ⟨t, h1, rfl⟩ | h1
  · exact .inl (hout _ h1)
  · obtain ⟨h2, h3⟩ := delAll_get _ _ a o h1
    refine .inr ⟨h2, ?_⟩
    cases hg' : (setAll .nil m.inn).get a with
    | none => rfl
    | some o' =>
      rcases setAll_get _ _ a o' hg' with ⟨t, h4, _⟩ | h4
      · exact absurd h4 (h3 t)
      · simp [Tr.get_nil] at h4

/-! ### tables of summaries -/

structure Ent where
  g : List Value → St → Option Spec
  k : List Value → St → (Value → St → Ans) → Ans
  ok : ∀ args σ kk, k args σ kk = .yes → ∃ v σ', (g args σ = some (.ext v σ') ∨ g args σ = some (.sum v σ')) ∧ kk v σ' = .yes

noncomputable def findEnt (l : List (FuncId × Ent)) (f : FuncId) : Option Ent := List.rec (motive := fun _ => Option Ent) none (fun p _ ih => bif Nat.beq p.1 f then some p.2 else ih) l
noncomputable def ofEnts (l : List (FuncId × Ent)) : Specs := fun f args σ => match findEnt l f with
  | some e => e.g args σ
  | none => none
noncomputable def xkEnts (l : List (FuncId × Ent)) : FuncId → XB := fun f => Option.rec (motive := fun _ => XB) .none (fun e => .mk e.k) (findEnt l f)

theorem xkEnts_ok (l : List (FuncId × Ent)) : XKOk (ofEnts l) (xkEnts l) := by
  intro f
  unfold xkEnts ofEnts
  cases findEnt l f with
  | none => exact fun _ _ => rfl
  | some e => exact e.ok

/-- what an entry owes -/
def EntOk (P : Program) (f : FuncId) (e : Ent) : Prop := ∀ (args : List Value) (σ : St) (R : Ren) (w : World) (cargs : Array Value), HRel P R σ w.heap → LRel R args cargs.toList →
  (∀ v σ', e.g args σ = some (.ext v σ') → ValOk P R σ w (Go.callFunc f cargs) v σ') ∧ (∀ v σ', e.g args σ = some (.sum v σ') → SumOk P R σ w f cargs v σ' ∧ ∃ fn, P.funcs[f]? = some fn ∧ fn.body.isSome)

theorem callFunc_run_enter {f : FuncId} {fn : Func} (hf : P.funcs[f]? = some fn) (hb : fn.body.isSome) (hname : (fn.name == "runtime.NumGoroutine") = false) (cargs : Array Value) (w : World) : (Go.callFunc f cargs).run P w = .ok (.enter f cargs) w := by
  have hlt : f < P.funcs.size := (Array.getElem?_eq_some_iff.1 hf).1
  have he : P.funcs[f] = fn := (Array.getElem?_eq_some_iff.1 hf).2
  have hn' : fn.name ≠ "runtime.NumGoroutine" := by simpa using hname
  have hb'' : fn.body ≠ none := by intro e; rw [e] at hb; cases hb
  unfold Go.callFunc
  simp [hn', hb'', hlt, he]

theorem specs_ok {l : List (FuncId × Ent)} (hl : ∀ p ∈ l, EntOk P p.1 p.2) (hname : ∀ (f : FuncId) (fn : Func), P.funcs[f]? = some fn → fn.body.isSome → (fn.name == "runtime.NumGoroutine") = false) : SpecsOk P (ofEnts l) := by
  have hfind : ∀ f e, findEnt l f = some e → EntOk P f e := by
    clear hname
    intro f e
    induction l with
    | nil => intro h; cases h
    | cons p l ih =>
      intro h
      have h : (bif Nat.beq p.1 f then some p.2 else findEnt l f) = some e := h
      cases hb : Nat.beq p.1 f
      · rw [hb] at h
        exact ih (fun q hq => hl q (List.mem_cons_of_mem _ hq)) h
      · rw [hb] at h
        cases h
        have : p.1 = f := by simpa using hb
        rw [← this]
        exact hl p List.mem_cons_self
  refine ⟨fun f args v σ' σ R w cargs h H ha => ?_, fun f args v σ' σ R w cargs h H ha => ?_, hname⟩
  · unfold ofEnts at h
    split at h
    · rename_i e he
      exact (hfind f e he args σ R w cargs H ha).1 v σ' h
    · cases h
  · unfold ofEnts at h
    split at h
    · rename_i e he
      obtain ⟨h1, fn, h2, h3⟩ := (hfind f e he args σ R w cargs H ha).2 v σ' h
      exact ⟨callFunc_run_enter h2 h3 (hname f fn h2 h3) cargs w, h1⟩
    · cases h

/- an entry for kept calls -/
noncomputable def memosK (ms : List Memo) (args : List Value) (σ : St) (k : Value → St → Ans) : Ans :=
  List.rec (motive := fun _ => Ans) .no (fun m _ ih => St.rec (motive := fun _ => Ans) (fun h n => ifK (Nat.beq n m.n) (ifK (valsEq args m.args) (allInK m.inn h (delAllK m.inn h fun h => setAllK m.out h fun h => k m.V ⟨h, m.n'⟩)) .no) ih) σ) ms
open Classical in
noncomputable def memosG : List Memo → List Value → St → Option Spec
  | [], _, _ => none
  | m :: ms, args, σ => if σ.next = m.n ∧ args = m.args ∧ AllIn m.inn σ.heap then some (.sum m.V (m.after σ)) else memosG ms args σ

theorem memosK_ok : ∀ {ms : List Memo} {args : List Value} {σ : St} {k : Value → St → Ans}, memosK ms args σ k = .yes → ∃ v σ', (memosG ms args σ = some (.ext v σ') ∨ memosG ms args σ = some (.sum v σ')) ∧ k v σ' = .yes
  | [], _, _, _, h => by cases h
  | m :: ms, args, ⟨hp, n⟩, k, h => by
    have h : ifK (Nat.beq n m.n) (ifK (valsEq args m.args) (allInK m.inn hp (delAllK m.inn hp fun h => setAllK m.out h fun h => k m.V ⟨h, m.n'⟩)) .no) (memosK ms args ⟨hp, n⟩ k) = .yes := h
    rcases ifK_yes h with ⟨h1, h⟩ | ⟨h1, h⟩
    · obtain ⟨h2, h⟩ := ifK_no h
      obtain ⟨h3, h⟩ := allInK_yes h
      rw [delAllK_eq, setAllK_eq] at h
      refine ⟨m.V, m.after ⟨hp, n⟩, .inr ?_, h⟩
      unfold memosG
      rw [if_pos ⟨by simpa using h1, valsEq_eq h2, h3⟩]
    · obtain ⟨v, σ', h2, h⟩ := memosK_ok h
      refine ⟨v, σ', ?_, h⟩
      have hn : ¬ n = m.n := fun e => by subst e; simp at h1
      unfold memosG
      rw [if_neg (fun hh => hn hh.1)]
      exact h2

noncomputable def memosEnt (ms : List Memo) : Ent := { g := memosG ms, k := memosK ms, ok := fun _ _ _ h => memosK_ok h }

theorem memosEnt_ok (hX : SpecsOk P X) (hXK : XKOk X XK) (hmix : P.follows .mixedOrders = true) {f : FuncId} {fn : Func} (hfn : P.funcs[f]? = some fn) (hb : fn.body.isSome) {ms : List Memo} (hm : ∀ m ∈ ms, m.f = f ∧ ∃ fuel d br, m.runK P X XK fuel d br = .yes) : EntOk P f (memosEnt ms) := by
  intro args σ R w cargs H ha
  have key : ∀ s, memosG ms args σ = some s → ∃ m ∈ ms, s = .sum m.V (m.after σ) ∧ σ.next = m.n ∧ args = m.args ∧ AllIn m.inn σ.heap := by
    clear hm
    intro s
    induction ms with
    | nil => intro h; cases h
    | cons m ms ih =>
      intro h
      unfold memosG at h
      split at h
      · rename_i hc
        cases h
        exact ⟨m, List.mem_cons_self, rfl, hc⟩
      · obtain ⟨m', h1, h2⟩ := ih h
        exact ⟨m', List.mem_cons_of_mem _ h1, h2⟩
  refine ⟨fun v σ' h => ?_, fun v σ' h => ?_⟩
  · obtain ⟨m, _, h1, _⟩ := key _ h
    cases h1
  · obtain ⟨m, h0, h1, h2, h3, h4⟩ := key _ h
    cases h1
    obtain ⟨rfl, fuel, d, br, hr⟩ := hm m h0
    subst h3
    exact ⟨Memo.sum hX hXK hmix hr h2 h4 H ha, fn, hfn, hb⟩

/-! ### pure functions of one whole number -/

/- the table: a tree of the outcomes; outcomes are plain -/
noncomputable def pureK (kd : IntKind) (t : Tr Value) (args : List Value) (σ : St) (k : Value → St → Ans) : Ans :=
  List.rec (motive := fun _ => Ans) .no (fun v tl _ => List.rec (motive := fun _ => Ans) (vInt v (fun i n => ifK (Nat.beq (kNum i) (kNum kd)) (Int.rec (motive := fun _ => Ans) (fun n => getK t n fun o => optK o fun v => k v σ) (fun _ => .no) n) .no) .no) (fun _ _ _ => .no) tl) args
noncomputable def pureG (kd : IntKind) (t : Tr Value) (args : List Value) (σ : St) : Option Spec := match args with
  | [.int i (.ofNat n)] => if i = kd then (t.get n).map fun v => .sum v σ else none
  | _ => none

theorem pureK_ok {kd : IntKind} {t : Tr Value} {args : List Value} {σ : St} {k : Value → St → Ans} (h : pureK kd t args σ k = .yes) : ∃ v σ', (pureG kd t args σ = some (.ext v σ') ∨ pureG kd t args σ = some (.sum v σ')) ∧ k v σ' = .yes := by
  cases args with
  | nil => cases h
  | cons v tl => cases tl with
    | cons => cases h
    | nil =>
      obtain ⟨i, n, rfl, h1⟩ := vInt_no (show vInt v _ .no = .yes from h)
      obtain ⟨h2, h1⟩ := ifK_no h1
      cases n with
      | negSucc => cases h1
      | ofNat n =>
        have h3 := (getK_eq t n _).symm.trans (show getK t n _ = .yes from h1)
        obtain ⟨u, h4, h5⟩ := optK_yes h3
        exact ⟨u, σ, .inr (by simp [pureG, kNum_inj h2, h4]), h5⟩
noncomputable def pureEnt (kd : IntKind) (t : Tr Value) : Ent := { g := pureG kd t, k := pureK kd t, ok := fun _ _ _ h => pureK_ok h }

/-- one run after the other -/
noncomputable def pureRunK (P : Tab) (X : Specs) (XK : FuncId → XB) (fuel d : Nat) (f : FuncId) (kd : IntKind) (l : List (Nat × Value)) : Ans :=
  List.rec (motive := fun _ => Ans) .yes (fun p _ ih => Prod.rec (motive := fun _ => Ans) (fun n v => evalK P X XK fuel d f [.int kd (.ofNat n)] { heap := .nil, next := GMAX } (fun r => CRes.rec (motive := fun _ => Ans) (fun u _ => ifK (valEq 20 u v) (ifK (plainV 20 v) ih .no) .no) (fun _ _ => .no) r)) p) l

theorem pureRunK_yes (hXK : XKOk X XK) {fuel d : Nat} {f : FuncId} {kd : IntKind} : ∀ {l : List (Nat × Value)}, pureRunK P X XK fuel d f kd l = .yes →
    ∀ p ∈ l, ∃ rs, EvalTo P X d f [.int kd (.ofNat p.1)] { heap := .nil, next := GMAX } rs ∧ (∀ r ∈ rs, ∃ σ', r = .ret p.2 σ') ∧ plainV 20 p.2 = true
  | [], _, p, hp => by cases hp
  | (n, v) :: l, h, p, hp => by
    have h : evalK P X XK fuel d f [.int kd (.ofNat n)] { heap := .nil, next := GMAX } (fun r => CRes.rec (motive := fun _ => Ans) (fun u _ => ifK (valEq 20 u v) (ifK (plainV 20 v) (pureRunK P X XK fuel d f kd l) .no) .no) (fun _ _ => .no) r) = .yes := h
    obtain ⟨rs, h1, h2, h3⟩ := evalK_to hXK h
    obtain ⟨r, rfl⟩ := h3 rfl
    have h4 := h2 r List.mem_cons_self
    cases r with
    | panic => cases h4
    | ret u σ' =>
      obtain ⟨h5, h4⟩ := ifK_no (show ifK (valEq 20 u v) _ .no = .yes from h4)
      obtain ⟨h6, h4⟩ := ifK_no h4
      rcases List.mem_cons.1 hp with rfl | hp
      · exact ⟨_, h1, fun r hr => ⟨σ', by rw [List.mem_singleton.1 hr, valEq_eq 20 _ _ h5]⟩, h6⟩
      · exact pureRunK_yes hXK h4 p hp

theorem setPairs_get : ∀ (l : List (Nat × Value)) (c : Tr Value) (i : Nat) (v : Value), (setPairs c l).get i = some v → (i, v) ∈ l ∨ c.get i = some v
  | [], _, _, _, h => .inr h
  | (j, u) :: l, c, i, v, h => by
    rcases setPairs_get l _ i v h with h | h
    · exact .inl (List.mem_cons_of_mem _ h)
    · rw [Tr.get_set] at h
      by_cases e : i = j
      · rw [if_pos e] at h; cases h; rw [e]; exact .inl List.mem_cons_self
      · rw [if_neg e] at h; exact .inr h

theorem pureEnt_ok (hX : SpecsOk P X) (hXK : XKOk X XK) (hmix : P.follows .mixedOrders = true) {f : FuncId} {fn : Func} (hfn : P.funcs[f]? = some fn) (hb : fn.body.isSome) {kd : IntKind} {l : List (Nat × Value)} {fuel d : Nat}
    (h : pureRunK P X XK fuel d f kd l = .yes) : EntOk P f (pureEnt kd (setPairs .nil l)) := by
  intro args σ R w cargs H ha
  have key : ∀ s, pureG kd (setPairs .nil l) args σ = some s → ∃ p ∈ l, args = [.int kd (.ofNat p.1)] ∧ s = .sum p.2 σ := by
    intro s hs
    unfold pureG at hs
    split at hs
    · rename_i i n
      split at hs
      · rename_i he
        subst he
        cases hg : (setPairs .nil l).get n with
        | none => rw [hg] at hs; cases hs
        | some v =>
          rw [hg] at hs
          cases hs
          rcases setPairs_get _ _ _ _ hg with h1 | h1
          · exact ⟨_, h1, rfl, rfl⟩
          · simp [Tr.get_nil] at h1
      · cases hs
    · cases hs
  refine ⟨fun v σ' hs => ?_, fun v σ' hs => ?_⟩
  · obtain ⟨p, _, _, h2⟩ := key _ hs
    cases h2
  · obtain ⟨p, hp, rfl, h2⟩ := key _ hs
    cases h2
    obtain ⟨rs, h3, h4, h5⟩ := pureRunK_yes hXK h p hp
    exact ⟨pure_sum hX hmix h3 h4 h5 rfl H ha, fn, hfn, hb⟩

/-! ### maps.clone -/

noncomputable def cloneG (args : List Value) (σ : St) : Option Spec := match args with
  | [.iface t (.map (some r))] => match σ.heap.get r with
    | some (.map es clock) => some (.ext (.iface t (mapTo σ.next)) (alloc σ (.map es clock)))
    | _ => none
  | _ => none
noncomputable def cloneK (args : List Value) (σ : St) (k : Value → St → Ans) : Ans := optK (cloneG args σ) fun s => Spec.rec (motive := fun _ => Ans) k k s
theorem cloneK_ok {args : List Value} {σ : St} {kk : Value → St → Ans} (h : cloneK args σ kk = .yes) : ∃ v σ', (cloneG args σ = some (.ext v σ') ∨ cloneG args σ = some (.sum v σ')) ∧ kk v σ' = .yes := by
  obtain ⟨s, h1, h⟩ := optK_yes h
  cases s with
  | ext v σ' => exact ⟨v, σ', .inl h1, h⟩
  | sum v σ' => exact ⟨v, σ', .inr h1, h⟩
noncomputable def cloneEnt : Ent := { g := cloneG, k := cloneK, ok := fun _ _ _ h => cloneK_ok h }

theorem cloneEnt_ok {f : FuncId} {fn : Func} (hfn : P.funcs[f]? = some fn) (hname : (fn.name == "runtime.NumGoroutine") = false) (hb : fn.body.isNone = true) (hn : Extern.findNext fn = none) (he : Extern.find fn = some Extern.MapsClone.clone) : EntOk P f cloneEnt := by
  intro args σ R w cargs H ha
  refine ⟨fun v σ' hs => ?_, fun v σ' hs => ?_⟩
  · unfold cloneEnt at hs
    simp only [cloneG] at hs
    split at hs
    · rename_i t r
      split at hs
      · rename_i es clock hg
        cases hs
        obtain ⟨c, cs, hc, hv, hl⟩ := ha.of_cons
        have hcs := hl.of_nil
        subst hcs
        cases hv with
        | iface _ _ u hu =>
          cases hu with
          | map _ l hloc =>
            obtain ⟨l', O, g1, g2, g3⟩ := H.obj r _ hg
            rw [hloc] at g1; cases g1
            cases O <;> simp only [ORel] at g3
            rename_i ces cclock
            obtain ⟨g4, rfl⟩ := g3
            have hcargs : cargs = #[.iface t (.map (some l.block))] := Array.ext' (by simpa using hc)
            subst hcargs
            have hA := H.alloc (.map es cclock) (.map ces cclock) 0 ⟨g4.mono fun _ _ h => h.mono (Ren.le_add (H.dom _ (Nat.le_refl _)) _), rfl⟩
            refine ⟨_, { w with heap := w.heap.push (.map ces cclock) }, .inl ⟨.iface t (.map (some w.heap.size)), ?_, ?_⟩, hA.1, hA.2, ⟨rfl, rfl, rfl⟩⟩
            · rw [run_callFunc_extern hfn hname hb hn he]
              have h1 : (getObj l.block).run P w = .ok (.map ces cclock) w := getObj_map g2
              have h2 : (Extern.MapsClone.clone #[.iface t (.map (some l.block))]).run P w = .ok (.iface t (.map (some w.heap.size))) { w with heap := w.heap.push (.map ces cclock) } := by
                have e : Extern.MapsClone.clone #[.iface t (.map (some l.block))] = (do
                  let o ← getObj l.block
                  match o with
                  | .map entries clock => do
                    let r ← newObj (.map entries clock)
                    pure (.iface t (.map (some r)))
                  | _ => stuck "maps.clone: a map expected") := rfl
                rw [e]
                simp only [Sem.run_bind, h1, Result.andThen_ok, run_newObj, Sem.run_pure]
              rw [h2]; rfl
            · exact .iface _ _ _ (.map _ _ (Ren.add_loc _ _ _))
      · cases hs
    · cases hs
  · unfold cloneEnt at hs
    simp only [cloneG] at hs
    split at hs
    · split at hs <;> cases hs
    · cases hs

end Go.Ev.K

/- From a run in the kernel to a claim's words. -/
namespace Go.Ev.K
variable {P : Program} {X : Specs} {XK : FuncId → XB}

/-! ### data without references -/

def flatAll {H : Type} (go : TypeId → DataW H → Option (List Value)) (size : TypeId → Nat) : List Field → List (DataW H) → Nat → Option (List Value)
  | [], [], _ => some []
  | f :: fs, d :: ds, off => match go f.type d with
    | some vs => if f.offset = off ∧ size f.type = vs.length then (flatAll go size fs ds (off + vs.length)).map fun r => vs ++ r else none
    | none => none
  | _, _, _ => none
/-- the cells of a datum of whole numbers, truths and structs of these -/
def flat {H : Type} (P : Program) : Nat → TypeId → DataW H → Option (List Value)
  | 0, _, _ => none
  | n + 1, t, d => match P.underlying t, d with
    | some (.int k), .lit (.int k' v) => if k' = k then some [.int k v] else none
    | some .bool, .lit (.bool b) => some [.bool b]
    | some (.struct fs), .agg ds => (flatAll (flat P n) (P.cellsOf) fs.toList ds 0).bind fun vs => if vs.length = P.cellsOf t then some vs else none
    | _, _ => none

theorem mapM_some_cons {α β : Type} {g : α → Option β} {x : α} {l : List α} {r : List β} (h : (x :: l).mapM g = some r) : ∃ y ys, g x = some y ∧ l.mapM g = some ys ∧ r = y :: ys := by
  simp only [List.mapM_cons, Option.pure_def, Option.bind_eq_bind, Option.bind_eq_some_iff, Option.some.injEq] at h
  obtain ⟨y, hy, ys, hys, rfl⟩ := h
  exact ⟨y, ys, hy, hys, rfl⟩

theorem flat_trod {H : Type} {enc : TypeId × Value → H} {w : World} {base : Nat} {sp : Nat → Bool} {held : Bool} : ∀ (n : Nat) {fuel : Nat} {t : TypeId} {d : DataW H} {vs cs : List Value} {p : List MemPlace}, flat P n t d = some vs → DataW.trod enc P w base sp held fuel t cs = some (d, p) → cs = vs ∧ p = [] := by
  intro n
  induction n with
  | zero => intro fuel t d vs cs p h; cases h
  | succ n ih =>
    intro fuel t d vs cs p h ht
    cases fuel with
    | zero => simp [DataW.trod] at ht
    | succ fuel =>
      unfold flat at h
      split at h
      · rename_i k k' v hu
        split at h
        · rename_i hk
          subst hk
          cases h
          match cs with
          | [] => simp [DataW.trod, hu] at ht
          | _ :: _ :: _ => simp [DataW.trod, hu] at ht
          | [c] =>
            cases c <;> simp [DataW.trod, hu] at ht
            obtain ⟨⟨rfl, _⟩, ⟨rfl, rfl⟩, rfl⟩ := ht
            exact ⟨rfl, rfl⟩
        · cases h
      · rename_i b hu
        cases h
        match cs with
        | [] => simp [DataW.trod, hu] at ht
        | _ :: _ :: _ => simp [DataW.trod, hu] at ht
        | [c] =>
          cases c <;> simp [DataW.trod, hu] at ht
          obtain ⟨rfl, rfl⟩ := ht
          exact ⟨rfl, rfl⟩
      · rename_i fs ds hu
        have ht' : (if cs.length = P.cellsOf t then (fs.toList.mapM fun f => DataW.trod enc P w base sp held fuel f.type ((cs.drop f.offset).take (P.cellsOf f.type))).map fun xs => (DataW.agg (xs.map (·.1)), xs.flatMap (·.2)) else none) = some (.agg ds, p) := by
          rw [← ht]; simp only [DataW.trod, hu]
        have hlen : cs.length = P.cellsOf t := by
          by_cases hl : cs.length = P.cellsOf t
          · exact hl
          · rw [if_neg hl] at ht'; cases ht'
        rw [if_pos hlen] at ht'
        simp only [Option.map_eq_some_iff, Prod.mk.injEq, DataW.agg.injEq] at ht'
        obtain ⟨xs, hxs, hds, hp⟩ := ht'
        have key : ∀ (l : List Field) (ds : List (DataW H)) (xs : List (DataW H × List MemPlace)) (off : Nat) (vs : List Value), flatAll (flat P n) P.cellsOf l ds off = some vs →
            l.mapM (fun f => DataW.trod enc P w base sp held fuel f.type ((cs.drop f.offset).take (P.cellsOf f.type))) = some xs → xs.map (·.1) = ds → (cs.drop off).take vs.length = vs ∧ xs.flatMap (·.2) = [] := by
          intro l
          induction l with
          | nil =>
            intro ds xs off vs h1 h2 h3
            simp only [List.mapM_nil, Option.pure_def, Option.some.injEq] at h2
            subst h2
            simp only [List.map_nil] at h3
            subst h3
            cases h1
            exact ⟨by simp, rfl⟩
          | cons f l ihl =>
            intro ds xs off vs h1 h2 h3
            obtain ⟨y, ys, hy, hys, rfl⟩ := mapM_some_cons h2
            cases ds with
            | nil => simp at h3
            | cons d ds =>
              simp only [List.map_cons, List.cons.injEq] at h3
              obtain ⟨rfl, h3⟩ := h3
              unfold flatAll at h1
              split at h1
              · rename_i us hus
                split at h1
                · rename_i hc
                  obtain ⟨hoff, hsz⟩ := hc
                  simp only [Option.map_eq_some_iff] at h1
                  obtain ⟨r, hr, rfl⟩ := h1
                  obtain ⟨yd, yp⟩ := y
                  obtain ⟨h4, h5⟩ := ih hus hy
                  obtain ⟨h6, h7⟩ := ihl ds ys _ r hr hys h3
                  rw [hoff, hsz] at h4
                  refine ⟨?_, by rw [List.flatMap_cons, h7]; simp [h5]⟩
                  rw [List.length_append, List.take_add, h4, List.drop_drop, h6]
                · cases h1
              · cases h1
        simp only [Option.bind_eq_some_iff] at h
        obtain ⟨us, hus, h⟩ := h
        split at h
        · rename_i hl
          cases h
          obtain ⟨h4, h5⟩ := key fs.toList ds xs 0 vs hus hxs hds
          rw [List.drop_zero, List.take_of_length_le (by omega)] at h4
          exact ⟨h4, by rw [← hp]; exact h5⟩
        · cases h
      · cases h

/-! ### a run from variables that are only read -/

structure RoVar (R : Ren) (h : Array Obj) (a : Nat) (t : OT) : Prop where
  lt : a < GMAX
  ex : ∃ c d n e fz mk cs ty, t.obj = .cells c d n e false fz mk ∧ n ≤ fz ∧ h[a]? = some (.cells cs ty (0, 0)) ∧ ∀ i, i < n → ∃ v, cs[i]? = some v ∧ VRel R (getC c d i) v

theorem hrel_ro {L : Piece} {N : Nat} {R : Ren} {h : Array Obj} (hR : Glob R) (hN : GMAX ≤ N) (hd : ∀ a, N ≤ a → R.loc a = none) (hL : ∀ p ∈ L, RoVar R h p.1 p.2) : HRel P R { heap := setAll .nil L, next := N } h := by
  have hmem : ∀ a o, (setAll .nil L).get a = some o → ∃ t, (a, t) ∈ L ∧ t.obj = o := by
    intro a o hg
    rcases setAll_get L .nil a o hg with h1 | h1
    · exact h1
    · simp [Tr.get_nil] at h1
  refine ⟨hR, hN, hd, fun a b la lb ha hb hla hlb he => ?_, fun a o ha => ?_⟩
  · obtain ⟨oa, hoa⟩ := Option.isSome_iff_exists.1 ha
    obtain ⟨ob, hob⟩ := Option.isSome_iff_exists.1 hb
    obtain ⟨ta, h1, _⟩ := hmem a oa hoa
    obtain ⟨tb, h2, _⟩ := hmem b ob hob
    rw [hR a (hL _ h1).lt] at hla
    rw [hR b (hL _ h2).lt] at hlb
    cases hla; cases hlb
    exact he
  · obtain ⟨t, h1, rfl⟩ := hmem a o ha
    obtain ⟨c, d, n, e, fz, mk, cs, ty, h2, h3, h4, h5⟩ := (hL _ h1).ex
    refine ⟨⟨a, 0, 0⟩, .cells cs ty (0, 0), hR a (hL _ h1).lt, h4, ?_⟩
    rw [h2]
    refine ⟨.inr ⟨rfl, h3⟩, fun i hi => ?_, fun hx => (by cases hx), fun j _ _ hj => (by omega), fun _ hj => (by omega)⟩
    obtain ⟨v, h6, h7⟩ := h5 i hi
    exact ⟨v, by rw [Nat.zero_add]; exact h6, h7⟩

theorem ro_calls (hX : SpecsOk P X) (hXK : XKOk X XK) (hmix : P.follows .mixedOrders = true) {L : Piece} {N fuel d : Nat} {f : FuncId} {args : List Value} {cargs : Array Value} {R : Ren} {w : World} (H : HRel P R { heap := setAll .nil L, next := N } w.heap)
    (hro : ∀ p ∈ L, p.2.obj.ro = true) (ha : LRel R args cargs.toList) {fin : CRes → Ans} {br : Bool} {V : Value} (h : setAllK L .nil (fun h => evalK P X XK fuel d f args { heap := h, next := N } fin br) = .yes)
    (hfin : ∀ r, fin r = .yes → ∃ σ', r = .ret V σ') (hV : plainV 20 V = true) :
    Calls P f cargs w fun e w' => e = .returned V ∧ w.heap.size ≤ w'.heap.size ∧ (∀ B, B < w.heap.size → w'.heap[B]? = w.heap[B]?) ∧ WKeep w w' := by
  rw [setAllK_eq] at h
  refine (evalK_calls hX hXK hmix H ha h).mono fun e w' ⟨r, hr, hend⟩ => ?_
  obtain ⟨σ', rfl⟩ := hfin r hr
  obtain ⟨R', c, rfl, hv, K⟩ := hend
  refine ⟨by rw [plain_eq 20 hV hv], K.fr.size, fun B hB => K.fr.keep B hB fun a l o ho hno _ => ?_, K.keep⟩
  rcases setAll_get L .nil a o ho with ⟨t, h1, rfl⟩ | h1
  · rw [hro _ h1] at hno; cases hno
  · simp [Tr.get_nil] at h1

theorem keptBut_same {w w' : World} (hk : WKeep w w') (h : ∀ B, B < w.heap.size → w'.heap[B]? = w.heap[B]?) (may : MemPlace → Prop) : w.keptBut w' may := by
  refine ⟨hk.os, hk.output, fun i hi => ?_⟩
  rw [h i hi]
  cases hg : w.heap[i]? with
  | none => rfl
  | some o =>
    cases o with
    | cells c t fr => exact ⟨rfl, rfl, rfl, fun _ _ => rfl⟩
    | map es clock => exact .inr ⟨rfl, rfl⟩
    | _ => rfl

/-! ### laid variables -/

theorem laid_var {w : World} : ∀ {l : List (String × DataW Unit)} {ps : List MemPlace}, DataW.LaidVars P w l ps → ∀ {n : String} {d : DataW Unit}, (n, d) ∈ l →
    ∃ g t cs fuel p, P.globalNamed n = some g ∧ (P.globals[g]?).map (·.type) = some t ∧ w.var? P n = some cs ∧ DataW.trod (fun _ => ()) P w 0 (fun _ => true) false fuel t cs.toList = some (d, p) ∧ ∀ x ∈ MemPlace.row ⟨g, 0, none⟩ cs.size, x ∈ ps
  | [], _, _, _, _, hm => by cases hm
  | (n0, d0) :: r, ps, h, n, d, hm => by
    obtain ⟨g, t, cs, fuel, p, q, h1, h2, h3, h4, h5, rfl⟩ := h
    rcases List.mem_cons.1 hm with he | hm
    · cases he
      exact ⟨g, t, cs, fuel, p, h1, h2, h3, h4, fun x hx => by simp [hx]⟩
    · obtain ⟨g', t', cs', fuel', p', k1, k2, k3, k4, k5⟩ := laid_var h5 hm
      exact ⟨g', t', cs', fuel', p', k1, k2, k3, k4, fun x hx => by simp [k5 x hx]⟩

theorem laid_block {w : World} {l : List (String × DataW Unit)} (h : laidMet P l w) {n : String} {d : DataW Unit} (hm : (n, d) ∈ l) {g t : Nat} (hg : P.globalNamed n = some g) (ht : (P.globals[g]?).map (·.type) = some t) :
    ∃ cs fuel p, DataW.trod (fun _ => ()) P w 0 (fun _ => true) false fuel t cs.toList = some (d, p) ∧ (0 < cs.size → (∃ ty, w.heap[g]? = some (.cells cs ty (0, 0))) ∧ ∀ u v, w.cell? ⟨g, 0, none⟩ = some (.iface u v) → Value.okWide P w .any 0 u v) := by
  obtain ⟨ps, h1, _, h3⟩ := h
  obtain ⟨g', t', cs, fuel, p, k1, k2, k3, k4, k5⟩ := laid_var h1 hm
  obtain rfl := Option.some.inj (hg.symm.trans k1)
  obtain rfl := Option.some.inj (ht.symm.trans k2)
  refine ⟨cs, fuel, p, k4, fun hpos => ?_⟩
  have hmem : MemPlace.cell g 0 ∈ ps := k5 _ (by
    unfold MemPlace.row
    exact List.mem_map.2 ⟨0, List.mem_range.2 hpos, by simp⟩)
  obtain ⟨⟨c, ty, hb⟩, hok⟩ := h3 g 0 hmem
  refine ⟨⟨ty, ?_⟩, hok⟩
  unfold World.var? at k3
  rw [hg] at k3
  simp only [Option.bind_some, hb] at k3
  cases k3
  exact hb

/-- a variable of plain data -/
theorem RoVar.data {R : Ren} {w : World} {l : List (String × DataW Unit)} (h : laidMet P l w) {n : String} {d : DataW Unit} (hm : (n, d) ∈ l) {g t : Nat} (hg : P.globalNamed n = some g) (ht : (P.globals[g]?).map (·.type) = some t)
    {k : Nat} {vs : List Value} (hf : flat P k t d = some vs) (hlt : g < GMAX) (hp : vs.all (plainV 20) = true) (hpos : 0 < vs.length) {dd : List Value} {nn e fz : Nat} {mk : Bool} {pl : List Cl} (hn : nn ≤ fz) (hv : cellsFrom (setCl .nil pl) dd 0 nn = vs) :
    RoVar R w.heap g (.cells dd nn e false fz mk pl) := by
  obtain ⟨cs, fuel, p, h1, h2⟩ := laid_block h hm hg ht
  obtain ⟨h3, _⟩ := flat_trod k hf h1
  have hsz : 0 < cs.size := by rw [← Array.length_toList, h3]; exact hpos
  obtain ⟨⟨ty, hb⟩, _⟩ := h2 hsz
  refine ⟨hlt, ⟨_, _, _, _, _, _, cs, ty, rfl, hn, hb, fun i hi => ?_⟩⟩
  have hgi : vs[i]? = some (getC (setCl .nil pl) dd i) := by
    rw [← hv, cellsFrom_get, if_pos hi, Nat.zero_add]
  refine ⟨getC (setCl .nil pl) dd i, by rw [← Array.getElem?_toList, h3]; exact hgi, plain_rel R 20 _ (List.all_eq_true.1 hp _ (List.mem_of_getElem? hgi))⟩

theorem goesBy_false {c : OpenClaim} (hs : c.start = .entering) (h : (P.funcs.toList.any Func.goes) = false) : false = c.goesBy P := by
  have h' : ∀ (f : FuncId), ((P.funcs[f]?).any Func.goes) = false := by
    intro f
    cases hf : P.funcs[f]? with
    | none => rfl
    | some fn =>
      rw [List.any_eq_false] at h
      have := h fn (Array.mem_toList_iff.2 (Array.mem_of_getElem? hf))
      simpa using this
  have h2 : P.funcs.any Func.goes = false := by rw [← Array.any_toList]; exact h
  have hg : ∀ f, P.goes f = false := by
    intro f
    unfold Program.goes
    rw [h2, Bool.and_false, Bool.or_false, List.any_eq_false]
    intro g _
    rw [h' g]; decide
  symm
  unfold OpenClaim.goesBy Program.goesAt Program.goesFrom
  rw [hs]
  cases P.funcNamed c.func with
  | none => rfl
  | some f => simp [hg f]

/-- the end: the truth 'true' -/
noncomputable def finTrue (r : CRes) : Ans := CRes.rec (motive := fun _ => Ans) (fun v _ => vBool v (fun b => ifK b .yes .no) .no) (fun _ _ => .no) r
theorem finTrue_yes {r : CRes} (h : finTrue r = .yes) : ∃ σ', r = .ret (.bool true) σ' := by
  cases r with
  | panic => cases h
  | ret v σ =>
    obtain ⟨b, rfl, h⟩ := vBool_no (show vBool v _ .no = .yes from h)
    obtain ⟨rfl, _⟩ := ifK_no h
    exact ⟨σ, rfl⟩

end Go.Ev.K
