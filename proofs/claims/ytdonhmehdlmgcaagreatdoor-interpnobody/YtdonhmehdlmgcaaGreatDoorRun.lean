/- THE KEPT CALLS OF THE RUN (printed by a program of this claim): each is shown by a run of its own. -/
import Derived.Test.YtdonhmehdlmgcaaGreatDoorLibD
import Derived.KernelRfl
import Derived.Test.YtdonhmehdlmgcaaGreatDoorChecked
noncomputable section
namespace Go.Proofs.YtdonhmehdlmgcaaGreatDoor.Run
open Go Go.Ev Go.Ev.K Go.Proofs
def pI (n : Nat) : Value := .int .i64 (.ofNat n)
def nI (n : Nat) : Value := .int .i64 (.negSucc n)
def pP (b o : Nat) : Value := .pointer (some ⟨b, o, none⟩)
def pS (b o n c : Nat) : Value := .slice (some ⟨b, o, none⟩) n c
def tab378 : List (Nat × Value) := [(0, .tuple #[pI 0, pI 0])]
def tab461 : List (Nat × Value) := [(0, .tuple #[.int .u32 (.ofNat 0), pI 0]), (1, .tuple #[.int .u32 (.ofNat 15), pI 0]), (2, .tuple #[.int .u32 (.ofNat 51), pI 0]), (3, .tuple #[.int .u32 (.ofNat 60), pI 0]), (4, .tuple #[.int .u32 (.ofNat 85), pI 0]), (5, .tuple #[.int .u32 (.ofNat 90), pI 0]), (6, .tuple #[.int .u32 (.ofNat 102), pI 0]), (8, .tuple #[.int .u32 (.ofNat 150), pI 0]), (32, .tuple #[.int .u32 (.ofNat 1285), pI 0]), (33, .tuple #[.int .u32 (.ofNat 1290), pI 0]), (256, .tuple #[.int .u32 (.ofNat 8466), pI 0]), (513, .tuple #[.int .u32 (.ofNat 16667), pI 0]), (14336, .tuple #[.int .u32 (.ofNat 983040), pI 0]), (14340, .tuple #[.int .u32 (.ofNat 983125), pI 0]), (20480, .tuple #[.int .u32 (.ofNat 1310740), pI 0]), (24561, .tuple #[.int .u32 (.ofNat 1572632), pI 0]), (65536, .tuple #[.int .u32 (.ofNat 4259860), pI 0]), (65542, .tuple #[.int .u32 (.ofNat 4259954), pI 0]), (65794, .tuple #[.int .u32 (.ofNat 4268341), pI 0]), (67889, .tuple #[.int .u32 (.ofNat 4335372), pI 0]), (131078, .tuple #[.int .u32 (.ofNat 8454257), pI 0]), (131120, .tuple #[.int .u32 (.ofNat 8455697), pI 0]), (196611, .tuple #[.int .u32 (.ofNat 12582975), pI 0]), (197637, .tuple #[.int .u32 (.ofNat 12616014), pI 0]), (262912, .tuple #[.int .u32 (.ofNat 16867591), pI 0]), (327938, .tuple #[.int .u32 (.ofNat 20979764), pI 0]), (1996847, .tuple #[.int .u32 (.ofNat 127796475), pI 0]), (2927641, .tuple #[.int .u32 (.ofNat 187335582), pI 0]), (5456689, .tuple #[.int .u32 (.ofNat 349267465), pI 0]), (5536925, .tuple #[.int .u32 (.ofNat 354390733), pI 0]), (6915378, .tuple #[.int .u32 (.ofNat 442607395), pI 0]), (8865747, .tuple #[.int .u32 (.ofNat 567409209), pI 0]), (10186363, .tuple #[.int .u32 (.ofNat 651873963), pI 0])]
def ents0 : List (FuncId × Ent) := [(371, cloneEnt), (378, pureEnt .u32 (setPairs .nil tab378)), (461, pureEnt .i64 (setPairs .nil tab461))]
def m0 : Memo :=
  { f := 145, args := [pP 1019 0, pS 1263 0 1638 1638], n := 4544, n' := 81813, V := .tuple #[],
    inn := [(1007, .cells [.int .u32 (.ofNat 0)] 32768 402 false 0 false []),
      (1010, .cells [pI 0] 32768 3 false 0 false []),
      (1014, .cells [.tuple #[]] 8 192 false 0 false [.one 0 (pS 1007 0 32768 32768), .one 1 (pS 1010 0 32768 32768), .one 2 (pI 1073741824), .one 3 (pI 0), .one 4 (pI 0), .one 5 (.bool false), .one 6 (.bool false), .one 7 (pI 0)]),
      (1019, .cells [.tuple #[]] 10 253 false 0 false [.one 0 (pP 1014 0), .one 1 (pI 0), .one 2 (pI 1365), .one 3 (pI 1638), .one 4 (pI 0), .one 5 (pI 0), .one 6 (pS 1041 0 1365 1365), .one 7 (pS 1152 0 1638 1638), .one 8 (.slice none 0 0), .one 9 (pI 0)]),
      (1041, .cells [pI 0] 1365 3 false 0 false [.rep 0 1365 (nI 0)]),
      (1152, .cells [pI 0] 1638 3 false 0 false [.rep 0 1638 (nI 0)]),
      (1263, .cells [pI 0] 1638 3 false 0 false [.rep 0 1638 (pI 0)])],
    out := [(1007, .cells [.int .u32 (.ofNat 0)] 32768 402 false 0 false []),
      (1010, .cells [pI 0] 32768 3 false 0 false []),
      (1014, .cells [.tuple #[]] 8 192 false 0 false [.one 0 (pS 1007 0 32768 32768), .one 1 (pS 1010 0 32768 32768), .one 2 (pI 1073741824), .one 3 (pI 0), .one 4 (pI 0), .one 5 (.bool false), .one 6 (.bool false), .one 7 (pI 0)]),
      (1019, .cells [.tuple #[]] 10 253 false 0 false [.one 0 (pP 1014 0), .one 1 (pI 0), .one 2 (pI 1365), .one 3 (pI 1638), .one 4 (pI 0), .one 5 (pI 1), .one 6 (pS 1041 0 1365 1365), .one 7 (pS 1152 0 1638 1638), .one 8 (pS 38933 0 1638 18446744073709551616), .one 9 (pI 0)]),
      (1041, .cells [pI 0] 1365 3 false 0 false [.rep 0 1365 (nI 0)]),
      (1152, .cells [pI 0] 1638 3 false 0 false [.rep 0 1638 (nI 0)]),
      (1263, .cells [pI 0] 1638 3 false 0 false [.rep 0 1638 (pI 0)]),
      (38933, .cells [.tuple #[]] 1638 3 true 0 false [.row 0 1638 0])] }
def m1 : Memo :=
  { f := 83, args := [pP 1014 0], n := 1017, n' := 81863, V := .tuple #[pP 1019 0, pI 0],
    inn := [(1007, .cells [.int .u32 (.ofNat 0)] 32768 402 false 0 false []),
      (1010, .cells [pI 0] 32768 3 false 0 false []),
      (1014, .cells [.tuple #[]] 8 192 false 0 false [.one 0 (pS 1007 0 32768 32768), .one 1 (pS 1010 0 32768 32768), .one 2 (pI 1073741824), .one 3 (pI 0), .one 4 (pI 0), .one 5 (.bool false), .one 6 (.bool false), .one 7 (pI 0)])],
    out := [(1007, .cells [.int .u32 (.ofNat 0)] 32768 402 false 0 false []),
      (1010, .cells [pI 0] 32768 3 false 0 false []),
      (1014, .cells [.tuple #[]] 8 192 false 0 false [.one 0 (pS 1007 0 32768 32768), .one 1 (pS 1010 0 32768 32768), .one 2 (pI 1073741824), .one 3 (pI 0), .one 4 (pI 0), .one 5 (.bool false), .one 6 (.bool false), .one 7 (pI 0)]),
      (1019, .cells [.tuple #[]] 10 253 false 0 false [.one 0 (pP 1014 0), .one 1 (pI 0), .one 2 (pI 1365), .one 3 (pI 1638), .one 4 (pI 0), .one 5 (pI 1), .one 6 (pS 1041 0 1365 1365), .one 7 (pS 1152 0 1638 1638), .one 8 (pS 38933 0 1638 18446744073709551616), .one 9 (pI 0)]),
      (1041, .cells [pI 0] 1365 3 false 0 false [.rep 0 1365 (nI 0)]),
      (1152, .cells [pI 0] 1638 3 false 0 false [.rep 0 1638 (nI 0)]),
      (38933, .cells [.tuple #[]] 1638 3 true 0 false [.row 0 1638 0])] }
def m2 : Memo :=
  { f := 145, args := [pP 82767 0, pS 83011 0 1638 1638], n := 86292, n' := 163561, V := .tuple #[],
    inn := [(82755, .cells [.int .u32 (.ofNat 0)] 32768 402 false 0 false []),
      (82758, .cells [pI 0] 32768 3 false 0 false []),
      (82762, .cells [.tuple #[]] 8 192 false 0 false [.one 0 (pS 82755 0 32768 32768), .one 1 (pS 82758 0 32768 32768), .one 2 (pI 1073741824), .one 3 (pI 0), .one 4 (pI 0), .one 5 (.bool false), .one 6 (.bool false), .one 7 (pI 0)]),
      (82767, .cells [.tuple #[]] 10 253 false 0 false [.one 0 (pP 82762 0), .one 1 (pI 0), .one 2 (pI 1365), .one 3 (pI 1638), .one 4 (pI 0), .one 5 (pI 0), .one 6 (pS 82789 0 1365 1365), .one 7 (pS 82900 0 1638 1638), .one 8 (.slice none 0 0), .one 9 (pI 0)]),
      (82789, .cells [pI 0] 1365 3 false 0 false [.rep 0 1365 (nI 0)]),
      (82900, .cells [pI 0] 1638 3 false 0 false [.rep 0 1638 (nI 0)]),
      (83011, .cells [pI 0] 1638 3 false 0 false [.rep 0 1638 (pI 0)])],
    out := [(82755, .cells [.int .u32 (.ofNat 0)] 32768 402 false 0 false []),
      (82758, .cells [pI 0] 32768 3 false 0 false []),
      (82762, .cells [.tuple #[]] 8 192 false 0 false [.one 0 (pS 82755 0 32768 32768), .one 1 (pS 82758 0 32768 32768), .one 2 (pI 1073741824), .one 3 (pI 0), .one 4 (pI 0), .one 5 (.bool false), .one 6 (.bool false), .one 7 (pI 0)]),
      (82767, .cells [.tuple #[]] 10 253 false 0 false [.one 0 (pP 82762 0), .one 1 (pI 0), .one 2 (pI 1365), .one 3 (pI 1638), .one 4 (pI 0), .one 5 (pI 1), .one 6 (pS 82789 0 1365 1365), .one 7 (pS 82900 0 1638 1638), .one 8 (pS 120681 0 1638 18446744073709551616), .one 9 (pI 0)]),
      (82789, .cells [pI 0] 1365 3 false 0 false [.rep 0 1365 (nI 0)]),
      (82900, .cells [pI 0] 1638 3 false 0 false [.rep 0 1638 (nI 0)]),
      (83011, .cells [pI 0] 1638 3 false 0 false [.rep 0 1638 (pI 0)]),
      (120681, .cells [.tuple #[]] 1638 3 true 0 false [.row 0 1638 0])] }
def m3 : Memo :=
  { f := 83, args := [pP 82762 0], n := 82765, n' := 163611, V := .tuple #[pP 82767 0, pI 0],
    inn := [(82755, .cells [.int .u32 (.ofNat 0)] 32768 402 false 0 false []),
      (82758, .cells [pI 0] 32768 3 false 0 false []),
      (82762, .cells [.tuple #[]] 8 192 false 0 false [.one 0 (pS 82755 0 32768 32768), .one 1 (pS 82758 0 32768 32768), .one 2 (pI 1073741824), .one 3 (pI 0), .one 4 (pI 0), .one 5 (.bool false), .one 6 (.bool false), .one 7 (pI 0)])],
    out := [(82755, .cells [.int .u32 (.ofNat 0)] 32768 402 false 0 false []),
      (82758, .cells [pI 0] 32768 3 false 0 false []),
      (82762, .cells [.tuple #[]] 8 192 false 0 false [.one 0 (pS 82755 0 32768 32768), .one 1 (pS 82758 0 32768 32768), .one 2 (pI 1073741824), .one 3 (pI 0), .one 4 (pI 0), .one 5 (.bool false), .one 6 (.bool false), .one 7 (pI 0)]),
      (82767, .cells [.tuple #[]] 10 253 false 0 false [.one 0 (pP 82762 0), .one 1 (pI 0), .one 2 (pI 1365), .one 3 (pI 1638), .one 4 (pI 0), .one 5 (pI 1), .one 6 (pS 82789 0 1365 1365), .one 7 (pS 82900 0 1638 1638), .one 8 (pS 120681 0 1638 18446744073709551616), .one 9 (pI 0)]),
      (82789, .cells [pI 0] 1365 3 false 0 false [.rep 0 1365 (nI 0)]),
      (82900, .cells [pI 0] 1638 3 false 0 false [.rep 0 1638 (nI 0)]),
      (120681, .cells [.tuple #[]] 1638 3 true 0 false [.row 0 1638 0])] }
def m4 : Memo :=
  { f := 296, args := [.func (.func 445) #[] #[pP 171113 0]], n := 171114, n' := 171170, V := pS 171119 0 1 18446744073709551616,
    inn := [(171111, .map [⟨pI 1026, .agg #[pI 1026, pS 171099 0 48 18446744073709551616, .bool false], 0⟩] 1),
      (171113, .cells [.tuple #[]] 1 468 false 0 false [.one 0 (.map (some 171111))])],
    out := [(171111, .map [⟨pI 1026, .agg #[pI 1026, pS 171099 0 48 18446744073709551616, .bool false], 0⟩] 1),
      (171113, .cells [.tuple #[]] 1 468 false 0 false [.one 0 (.map (some 171111))]),
      (171119, .cells [.tuple #[]] 1 3 true 0 false [.one 0 (pI 1026)])] }
def m5 : Memo :=
  { f := 194, args := [.map (some 171173)], n := 171175, n' := 171226, V := pI 64,
    inn := [(171173, .map [⟨pI 1026, pS 171099 0 48 18446744073709551616, 0⟩] 1)],
    out := [(171173, .map [⟨pI 1026, pS 171099 0 48 18446744073709551616, 0⟩] 1)] }
def m6 : Memo :=
  { f := 296, args := [.func (.func 445) #[] #[pP 171275 0]], n := 171276, n' := 171349, V := pS 171283 0 2 18446744073709551616,
    inn := [(171272, .map [⟨pI 1026, .agg #[pI 1026, pS 171099 0 48 18446744073709551616, .bool false], 0⟩, ⟨pI 1027, .agg #[pI 1027, pS 171258 0 0 0, .bool false], 1⟩] 2),
      (171275, .cells [.tuple #[]] 1 468 false 0 false [.one 0 (.map (some 171272))])],
    out := [(171272, .map [⟨pI 1026, .agg #[pI 1026, pS 171099 0 48 18446744073709551616, .bool false], 0⟩, ⟨pI 1027, .agg #[pI 1027, pS 171258 0 0 0, .bool false], 1⟩] 2),
      (171275, .cells [.tuple #[]] 1 468 false 0 false [.one 0 (.map (some 171272))]),
      (171283, .cells [.tuple #[]] 2 3 true 0 false [.one 0 (pI 1026), .one 1 (pI 1027)])] }
def m7 : Memo :=
  { f := 194, args := [.map (some 171355)], n := 171358, n' := 171409, V := pI 80,
    inn := [(171355, .map [⟨pI 1026, pS 171099 0 48 18446744073709551616, 0⟩, ⟨pI 1027, pS 171258 0 0 0, 1⟩] 2)],
    out := [(171355, .map [⟨pI 1026, pS 171099 0 48 18446744073709551616, 0⟩, ⟨pI 1027, pS 171258 0 0 0, 1⟩] 2)] }
def m8 : Memo :=
  { f := 194, args := [.map (some 171441)], n := 171444, n' := 171495, V := pI 80,
    inn := [(171441, .map [⟨pI 1026, pS 171099 0 48 18446744073709551616, 0⟩, ⟨pI 1027, pS 171258 0 0 0, 1⟩] 2)],
    out := [(171441, .map [⟨pI 1026, pS 171099 0 48 18446744073709551616, 0⟩, ⟨pI 1027, pS 171258 0 0 0, 1⟩] 2)] }
def m9 : Memo :=
  { f := 296, args := [.func (.func 445) #[] #[pP 171501 0]], n := 171502, n' := 171575, V := pS 171509 0 2 18446744073709551616,
    inn := [(171498, .map [⟨pI 1026, .agg #[pI 1026, pS 171099 0 48 18446744073709551616, .bool false], 0⟩, ⟨pI 1027, .agg #[pI 1027, pS 171258 0 0 0, .bool false], 1⟩] 2),
      (171501, .cells [.tuple #[]] 1 468 false 0 false [.one 0 (.map (some 171498))])],
    out := [(171498, .map [⟨pI 1026, .agg #[pI 1026, pS 171099 0 48 18446744073709551616, .bool false], 0⟩, ⟨pI 1027, .agg #[pI 1027, pS 171258 0 0 0, .bool false], 1⟩] 2),
      (171501, .cells [.tuple #[]] 1 468 false 0 false [.one 0 (.map (some 171498))]),
      (171509, .cells [.tuple #[]] 2 3 true 0 false [.one 0 (pI 1026), .one 1 (pI 1027)])] }
def m10 : Memo :=
  { f := 22, args := [pP 163829 0, pS 165192 0 48 18446744073709551616], n := 165193, n' := 176247, V := .tuple #[pI 1, .agg #[pI 0, pI 0, pI 0]],
    inn := [(0, .cells [.tuple #[]] 1 140 false 1 false [.one 0 (.iface 594 (pP 900 0))]),
      (1, .cells [.tuple #[]] 2 77 false 2 false [.one 0 (pI 255), .one 1 (pI 0)]),
      (2, .cells [.tuple #[]] 2 77 false 2 false [.one 0 (pI 255), .one 1 (pI 1)]),
      (3, .cells [.tuple #[]] 2 77 false 2 false [.one 0 (pI 255), .one 1 (pI 0)]),
      (4, .cells [.tuple #[]] 3 93 false 3 false [.one 0 (pI 7), .one 1 (pI 0), .one 2 (pI 0)]),
      (5, .cells [.tuple #[]] 3 93 false 3 false [.one 0 (pI 1), .one 1 (pI 0), .one 2 (pI 0)]),
      (6, .cells [.tuple #[]] 3 93 false 3 false [.one 0 (pI 5), .one 1 (pI 255), .one 2 (pI 0)]),
      (7, .cells [.tuple #[]] 3 93 false 3 false [.one 0 (pI 6), .one 1 (pI 0), .one 2 (pI 0)]),
      (8, .cells [.tuple #[]] 3 93 false 3 false [.one 0 (pI 5), .one 1 (pI 255), .one 2 (pI 0)]),
      (82755, .cells [.int .u32 (.ofNat 0)] 32768 402 false 0 false []),
      (82758, .cells [pI 0] 32768 3 false 0 false []),
      (82762, .cells [.tuple #[]] 8 192 false 0 false [.one 0 (pS 82755 0 32768 32768), .one 1 (pS 82758 0 32768 32768), .one 2 (pI 1073741824), .one 3 (pI 0), .one 4 (pI 0), .one 5 (.bool false), .one 6 (.bool false), .one 7 (pI 0)]),
      (82767, .cells [.tuple #[]] 10 253 false 0 false [.one 0 (pP 82762 0), .one 1 (pI 0), .one 2 (pI 1365), .one 3 (pI 1638), .one 4 (pI 0), .one 5 (pI 1), .one 6 (pS 82789 0 1365 1365), .one 7 (pS 82900 0 1638 1638), .one 8 (pS 120681 0 1638 18446744073709551616), .one 9 (pI 0)]),
      (82789, .cells [pI 0] 1365 3 false 0 false [.rep 0 1365 (nI 0)]),
      (82900, .cells [pI 0] 1638 3 false 0 false [.rep 0 1638 (nI 0)]),
      (120681, .cells [.tuple #[]] 1638 3 true 0 false [.row 0 1638 0]),
      (163633, .cells [.tuple #[]] 1 262 false 0 false [.one 0 (pP 82767 0)]),
      (163679, .map [] 0),
      (163680, .cells [.tuple #[]] 6 203 false 0 false [.one 0 (pP 163633 0), .one 1 (pI 0), .one 2 (pI 0), .one 3 (.map (some 163679)), .one 4 (.bool false), .one 5 (.slice none 0 0)]),
      (163827, .map [] 0),
      (163828, .map [] 0),
      (163829, .cells [.tuple #[]] 3 128 false 0 false [.one 0 (pP 163680 0), .one 1 (.map (some 163827)), .one 2 (.map (some 163828))]),
      (165192, .cells [.tuple #[]] 48 5 true 0 false [.one 0 (.int .u8 (.ofNat 83)), .one 1 (.int .u8 (.ofNat 67)), .one 2 (.int .u8 (.ofNat 49)), .one 3 (.int .u8 (.ofNat 5)), .one 4 (.int .u8 (.ofNat 1)), .one 5 (.int .u8 (.ofNat 2)), .one 6 (.int .u8 (.ofNat 3)), .one 7 (.int .u8 (.ofNat 4)), .one 8 (.int .u8 (.ofNat 5)), .one 9 (.int .u8 (.ofNat 1)), .one 10 (.int .u8 (.ofNat 0)), .one 11 (.int .u8 (.ofNat 0)), .one 12 (.int .u8 (.ofNat 0)), .one 13 (.int .u8 (.ofNat 2)), .one 14 (.int .u8 (.ofNat 1)), .one 15 (.int .u8 (.ofNat 0)), .one 16 (.int .u8 (.ofNat 2)), .one 17 (.int .u8 (.ofNat 1)), .one 18 (.int .u8 (.ofNat 1)), .one 19 (.int .u8 (.ofNat 1)), .one 20 (.int .u8 (.ofNat 2)), .one 21 (.int .u8 (.ofNat 2)), .one 22 (.int .u8 (.ofNat 0)), .one 23 (.int .u8 (.ofNat 6)), .one 24 (.int .u8 (.ofNat 3)), .one 25 (.int .u8 (.ofNat 0)), .one 26 (.int .u8 (.ofNat 3)), .one 27 (.int .u8 (.ofNat 1)), .one 28 (.int .u8 (.ofNat 9)), .one 29 (.int .u8 (.ofNat 49)), .one 30 (.int .u8 (.ofNat 0)), .one 31 (.int .u8 (.ofNat 1)), .rep 32 4 (.int .u8 (.ofNat 0)), .one 36 (.int .u8 (.ofNat 1)), .one 37 (.int .u8 (.ofNat 0)), .one 38 (.int .u8 (.ofNat 6)), .one 39 (.int .u8 (.ofNat 1)), .one 40 (.int .u8 (.ofNat 0)), .one 41 (.int .u8 (.ofNat 0)), .one 42 (.int .u8 (.ofNat 105)), .one 43 (.int .u8 (.ofNat 133)), .one 44 (.int .u8 (.ofNat 50)), .one 45 (.int .u8 (.ofNat 0)), .one 46 (.int .u8 (.ofNat 0)), .one 47 (.int .u8 (.ofNat 0))])],
    out := [(0, .cells [.tuple #[]] 1 140 false 1 false [.one 0 (.iface 594 (pP 900 0))]),
      (1, .cells [.tuple #[]] 2 77 false 2 false [.one 0 (pI 255), .one 1 (pI 0)]),
      (2, .cells [.tuple #[]] 2 77 false 2 false [.one 0 (pI 255), .one 1 (pI 1)]),
      (3, .cells [.tuple #[]] 2 77 false 2 false [.one 0 (pI 255), .one 1 (pI 0)]),
      (4, .cells [.tuple #[]] 3 93 false 3 false [.one 0 (pI 7), .one 1 (pI 0), .one 2 (pI 0)]),
      (5, .cells [.tuple #[]] 3 93 false 3 false [.one 0 (pI 1), .one 1 (pI 0), .one 2 (pI 0)]),
      (6, .cells [.tuple #[]] 3 93 false 3 false [.one 0 (pI 5), .one 1 (pI 255), .one 2 (pI 0)]),
      (7, .cells [.tuple #[]] 3 93 false 3 false [.one 0 (pI 6), .one 1 (pI 0), .one 2 (pI 0)]),
      (8, .cells [.tuple #[]] 3 93 false 3 false [.one 0 (pI 5), .one 1 (pI 255), .one 2 (pI 0)]),
      (82755, .cells [.int .u32 (.ofNat 0)] 32768 402 false 0 false [.one 0 (.int .u32 (.ofNat 0)), .one 1 (.int .u32 (.ofNat 150)), .one 2 (.int .u32 (.ofNat 983125)), .one 3 (.int .u32 (.ofNat 8455697)), .one 4 (.int .u32 (.ofNat 349267465)), .one 5 (.int .u32 (.ofNat 20979764)), .one 6 (.int .u32 (.ofNat 12616014)), .one 7 (.int .u32 (.ofNat 4259860)), .one 8 (.int .u32 (.ofNat 16667)), .one 9 (.int .u32 (.ofNat 16667)), .one 10 (.int .u32 (.ofNat 4268341)), .one 11 (.int .u32 (.ofNat 8454257)), .one 12 (.int .u32 (.ofNat 12582975)), .one 13 (.int .u32 (.ofNat 4335372)), .one 14 (.int .u32 (.ofNat 8466)), .one 15 (.int .u32 (.ofNat 0)), .one 16 (.int .u32 (.ofNat 15)), .one 17 (.int .u32 (.ofNat 0)), .one 18 (.int .u32 (.ofNat 15)), .one 19 (.int .u32 (.ofNat 354390733)), .one 20 (.int .u32 (.ofNat 4259954)), .one 21 (.int .u32 (.ofNat 4259860)), .one 22 (.int .u32 (.ofNat 442607395)), .one 23 (.int .u32 (.ofNat 0)), .one 24 (.int .u32 (.ofNat 16867591)), .one 25 (.int .u32 (.ofNat 0)), .one 26 (.int .u32 (.ofNat 0)), .one 27 (.int .u32 (.ofNat 150)), .one 28 (.int .u32 (.ofNat 0)), .one 29 (.int .u32 (.ofNat 983040)), .rep 30 6 (.int .u32 (.ofNat 0)), .one 36 (.int .u32 (.ofNat 51)), .one 37 (.int .u32 (.ofNat 0)), .one 38 (.int .u32 (.ofNat 51)), .one 39 (.int .u32 (.ofNat 1572632)), .one 40 (.int .u32 (.ofNat 0)), .one 41 (.int .u32 (.ofNat 0)), .one 42 (.int .u32 (.ofNat 1310740)), .rep 43 15 (.int .u32 (.ofNat 0)), .one 58 (.int .u32 (.ofNat 60)), .one 59 (.int .u32 (.ofNat 127796475)), .one 60 (.int .u32 (.ofNat 0)), .one 61 (.int .u32 (.ofNat 983040)), .one 62 (.int .u32 (.ofNat 85)), .one 63 (.int .u32 (.ofNat 8455697)), .one 64 (.int .u32 (.ofNat 349267465)), .one 65 (.int .u32 (.ofNat 20979764)), .one 66 (.int .u32 (.ofNat 12616014)), .one 67 (.int .u32 (.ofNat 4259860)), .one 68 (.int .u32 (.ofNat 16667)), .one 69 (.int .u32 (.ofNat 16667)), .one 70 (.int .u32 (.ofNat 4268341)), .one 71 (.int .u32 (.ofNat 8454257)), .one 72 (.int .u32 (.ofNat 12582975)), .one 73 (.int .u32 (.ofNat 4335372)), .one 74 (.int .u32 (.ofNat 8466)), .one 75 (.int .u32 (.ofNat 0)), .one 76 (.int .u32 (.ofNat 1285)), .one 77 (.int .u32 (.ofNat 0)), .one 78 (.int .u32 (.ofNat 85)), .one 79 (.int .u32 (.ofNat 567409209)), .one 80 (.int .u32 (.ofNat 4259954)), .one 81 (.int .u32 (.ofNat 4259860)), .one 82 (.int .u32 (.ofNat 442607395)), .one 83 (.int .u32 (.ofNat 0)), .one 84 (.int .u32 (.ofNat 16867591)), .rep 85 11 (.int .u32 (.ofNat 0)), .one 96 (.int .u32 (.ofNat 1290)), .one 97 (.int .u32 (.ofNat 0)), .one 98 (.int .u32 (.ofNat 90)), .one 99 (.int .u32 (.ofNat 651873963)), .rep 100 18 (.int .u32 (.ofNat 0)), .one 118 (.int .u32 (.ofNat 102)), .one 119 (.int .u32 (.ofNat 187335582))]),
      (82758, .cells [pI 0] 32768 3 false 0 false [.rep 0 19 (pI 1), .one 19 (pI 2), .rep 20 19 (pI 1), .one 39 (pI 2), .rep 40 19 (pI 1), .one 59 (pI 2), .rep 60 19 (pI 1), .one 79 (pI 2), .rep 80 19 (pI 1), .one 99 (pI 2), .rep 100 19 (pI 1), .one 119 (pI 2)]),
      (82762, .cells [.tuple #[]] 8 192 false 0 false [.one 0 (pS 82755 0 32768 32768), .one 1 (pS 82758 0 32768 32768), .one 2 (pI 1073741824), .one 3 (pI 126), .one 4 (pI 0), .one 5 (.bool false), .one 6 (.bool false), .one 7 (pI 0)]),
      (82767, .cells [.tuple #[]] 10 253 false 0 false [.one 0 (pP 82762 0), .one 1 (pI 0), .one 2 (pI 1365), .one 3 (pI 1638), .one 4 (pI 6), .one 5 (pI 7), .one 6 (pS 82789 0 1365 1365), .one 7 (pS 82900 0 1638 1638), .one 8 (pS 176180 0 1633 18446744073709551616), .one 9 (pI 0)]),
      (82789, .cells [pI 0] 1365 3 false 0 false [.one 0 (pI 5), .one 1 (pI 0), .one 2 (pI 1), .rep 3 29 (nI 0), .one 32 (pI 3), .one 33 (pI 4), .rep 34 1331 (nI 0)]),
      (82900, .cells [pI 0] 1638 3 false 0 false [.one 0 (pI 1), .one 1 (pI 2), .one 2 (nI 0), .one 3 (pI 32), .one 4 (pI 33), .one 5 (pI 0), .rep 6 1632 (nI 0)]),
      (120681, .cells [.tuple #[]] 1638 3 true 0 false [.row 0 1638 0]),
      (163633, .cells [.tuple #[]] 1 262 false 0 false [.one 0 (pP 82767 0)]),
      (163679, .map [] 0),
      (163680, .cells [.tuple #[]] 6 203 false 0 false [.one 0 (pP 163633 0), .one 1 (pI 0), .one 2 (pI 56), .one 3 (.map (some 171495)), .one 4 (.bool false), .one 5 (.slice none 0 0)]),
      (163827, .map [] 0),
      (163828, .map [] 0),
      (163829, .cells [.tuple #[]] 3 128 false 0 false [.one 0 (pP 163680 0), .one 1 (.map (some 163827)), .one 2 (.map (some 163828))]),
      (165192, .cells [.tuple #[]] 48 5 true 0 false [.one 0 (.int .u8 (.ofNat 83)), .one 1 (.int .u8 (.ofNat 67)), .one 2 (.int .u8 (.ofNat 49)), .one 3 (.int .u8 (.ofNat 5)), .one 4 (.int .u8 (.ofNat 1)), .one 5 (.int .u8 (.ofNat 2)), .one 6 (.int .u8 (.ofNat 3)), .one 7 (.int .u8 (.ofNat 4)), .one 8 (.int .u8 (.ofNat 5)), .one 9 (.int .u8 (.ofNat 1)), .one 10 (.int .u8 (.ofNat 0)), .one 11 (.int .u8 (.ofNat 0)), .one 12 (.int .u8 (.ofNat 0)), .one 13 (.int .u8 (.ofNat 2)), .one 14 (.int .u8 (.ofNat 1)), .one 15 (.int .u8 (.ofNat 0)), .one 16 (.int .u8 (.ofNat 2)), .one 17 (.int .u8 (.ofNat 1)), .one 18 (.int .u8 (.ofNat 1)), .one 19 (.int .u8 (.ofNat 1)), .one 20 (.int .u8 (.ofNat 2)), .one 21 (.int .u8 (.ofNat 2)), .one 22 (.int .u8 (.ofNat 0)), .one 23 (.int .u8 (.ofNat 6)), .one 24 (.int .u8 (.ofNat 3)), .one 25 (.int .u8 (.ofNat 0)), .one 26 (.int .u8 (.ofNat 3)), .one 27 (.int .u8 (.ofNat 1)), .one 28 (.int .u8 (.ofNat 9)), .one 29 (.int .u8 (.ofNat 49)), .one 30 (.int .u8 (.ofNat 0)), .one 31 (.int .u8 (.ofNat 1)), .rep 32 4 (.int .u8 (.ofNat 0)), .one 36 (.int .u8 (.ofNat 1)), .one 37 (.int .u8 (.ofNat 0)), .one 38 (.int .u8 (.ofNat 6)), .one 39 (.int .u8 (.ofNat 1)), .one 40 (.int .u8 (.ofNat 0)), .one 41 (.int .u8 (.ofNat 0)), .one 42 (.int .u8 (.ofNat 105)), .one 43 (.int .u8 (.ofNat 133)), .one 44 (.int .u8 (.ofNat 50)), .one 45 (.int .u8 (.ofNat 0)), .one 46 (.int .u8 (.ofNat 0)), .one 47 (.int .u8 (.ofNat 0))]),
      (171099, .cells [.tuple #[]] 48 5 true 0 false [.one 0 (.int .u8 (.ofNat 83)), .one 1 (.int .u8 (.ofNat 67)), .one 2 (.int .u8 (.ofNat 49)), .one 3 (.int .u8 (.ofNat 5)), .one 4 (.int .u8 (.ofNat 1)), .one 5 (.int .u8 (.ofNat 2)), .one 6 (.int .u8 (.ofNat 3)), .one 7 (.int .u8 (.ofNat 4)), .one 8 (.int .u8 (.ofNat 5)), .one 9 (.int .u8 (.ofNat 1)), .one 10 (.int .u8 (.ofNat 0)), .one 11 (.int .u8 (.ofNat 0)), .one 12 (.int .u8 (.ofNat 0)), .one 13 (.int .u8 (.ofNat 2)), .one 14 (.int .u8 (.ofNat 1)), .one 15 (.int .u8 (.ofNat 0)), .one 16 (.int .u8 (.ofNat 2)), .one 17 (.int .u8 (.ofNat 1)), .one 18 (.int .u8 (.ofNat 1)), .one 19 (.int .u8 (.ofNat 1)), .one 20 (.int .u8 (.ofNat 2)), .one 21 (.int .u8 (.ofNat 2)), .one 22 (.int .u8 (.ofNat 0)), .one 23 (.int .u8 (.ofNat 6)), .one 24 (.int .u8 (.ofNat 3)), .one 25 (.int .u8 (.ofNat 0)), .one 26 (.int .u8 (.ofNat 3)), .one 27 (.int .u8 (.ofNat 1)), .one 28 (.int .u8 (.ofNat 9)), .one 29 (.int .u8 (.ofNat 49)), .one 30 (.int .u8 (.ofNat 0)), .one 31 (.int .u8 (.ofNat 1)), .rep 32 4 (.int .u8 (.ofNat 0)), .one 36 (.int .u8 (.ofNat 1)), .one 37 (.int .u8 (.ofNat 0)), .one 38 (.int .u8 (.ofNat 6)), .one 39 (.int .u8 (.ofNat 1)), .one 40 (.int .u8 (.ofNat 0)), .one 41 (.int .u8 (.ofNat 0)), .one 42 (.int .u8 (.ofNat 105)), .one 43 (.int .u8 (.ofNat 133)), .one 44 (.int .u8 (.ofNat 50)), .one 45 (.int .u8 (.ofNat 0)), .one 46 (.int .u8 (.ofNat 0)), .one 47 (.int .u8 (.ofNat 0))]),
      (171258, .cells [.tuple #[]] 0 5 false 0 false []),
      (171495, .map [⟨pI 1026, pS 171099 0 48 18446744073709551616, 0⟩, ⟨pI 1027, pS 171258 0 0 0, 1⟩] 2),
      (176180, .cells [.tuple #[]] 1633 3 true 0 false [.row 0 1632 6, .one 1632 (pI 2)])] }
def m11 : Memo :=
  { f := 17, args := [], n := 82736, n' := 179400, V := .bool true,
    inn := [(0, .cells [.tuple #[]] 1 140 false 1 false [.one 0 (.iface 594 (pP 900 0))]),
      (1, .cells [.tuple #[]] 2 77 false 2 false [.one 0 (pI 255), .one 1 (pI 0)]),
      (2, .cells [.tuple #[]] 2 77 false 2 false [.one 0 (pI 255), .one 1 (pI 1)]),
      (3, .cells [.tuple #[]] 2 77 false 2 false [.one 0 (pI 255), .one 1 (pI 0)]),
      (4, .cells [.tuple #[]] 3 93 false 3 false [.one 0 (pI 7), .one 1 (pI 0), .one 2 (pI 0)]),
      (5, .cells [.tuple #[]] 3 93 false 3 false [.one 0 (pI 1), .one 1 (pI 0), .one 2 (pI 0)]),
      (6, .cells [.tuple #[]] 3 93 false 3 false [.one 0 (pI 5), .one 1 (pI 255), .one 2 (pI 0)]),
      (7, .cells [.tuple #[]] 3 93 false 3 false [.one 0 (pI 6), .one 1 (pI 0), .one 2 (pI 0)]),
      (8, .cells [.tuple #[]] 3 93 false 3 false [.one 0 (pI 5), .one 1 (pI 255), .one 2 (pI 0)])],
    out := [(0, .cells [.tuple #[]] 1 140 false 1 false [.one 0 (.iface 594 (pP 900 0))]),
      (1, .cells [.tuple #[]] 2 77 false 2 false [.one 0 (pI 255), .one 1 (pI 0)]),
      (2, .cells [.tuple #[]] 2 77 false 2 false [.one 0 (pI 255), .one 1 (pI 1)]),
      (3, .cells [.tuple #[]] 2 77 false 2 false [.one 0 (pI 255), .one 1 (pI 0)]),
      (4, .cells [.tuple #[]] 3 93 false 3 false [.one 0 (pI 7), .one 1 (pI 0), .one 2 (pI 0)]),
      (5, .cells [.tuple #[]] 3 93 false 3 false [.one 0 (pI 1), .one 1 (pI 0), .one 2 (pI 0)]),
      (6, .cells [.tuple #[]] 3 93 false 3 false [.one 0 (pI 5), .one 1 (pI 255), .one 2 (pI 0)]),
      (7, .cells [.tuple #[]] 3 93 false 3 false [.one 0 (pI 6), .one 1 (pI 0), .one 2 (pI 0)]),
      (8, .cells [.tuple #[]] 3 93 false 3 false [.one 0 (pI 5), .one 1 (pI 255), .one 2 (pI 0)])] }
def ents1 : List (FuncId × Ent) := [(145, memosEnt [m0, m2])] ++ ents0
def ents2 : List (FuncId × Ent) := [(83, memosEnt [m1, m3]), (296, memosEnt [m4, m6, m9]), (194, memosEnt [m5, m7, m8])] ++ ents1
def ents3 : List (FuncId × Ent) := [(22, memosEnt [m10])] ++ ents2
def ents4 : List (FuncId × Ent) := [(17, memosEnt [m11])] ++ ents3
def glob : Piece := [(0, .cells [.tuple #[]] 1 140 false 1 false [.one 0 (.iface 594 (pP 900 0))]),
      (1, .cells [.tuple #[]] 2 77 false 2 false [.one 0 (pI 255), .one 1 (pI 0)]),
      (2, .cells [.tuple #[]] 2 77 false 2 false [.one 0 (pI 255), .one 1 (pI 1)]),
      (3, .cells [.tuple #[]] 2 77 false 2 false [.one 0 (pI 255), .one 1 (pI 0)]),
      (4, .cells [.tuple #[]] 3 93 false 3 false [.one 0 (pI 7), .one 1 (pI 0), .one 2 (pI 0)]),
      (5, .cells [.tuple #[]] 3 93 false 3 false [.one 0 (pI 1), .one 1 (pI 0), .one 2 (pI 0)]),
      (6, .cells [.tuple #[]] 3 93 false 3 false [.one 0 (pI 5), .one 1 (pI 255), .one 2 (pI 0)]),
      (7, .cells [.tuple #[]] 3 93 false 3 false [.one 0 (pI 6), .one 1 (pI 0), .one 2 (pI 0)]),
      (8, .cells [.tuple #[]] 3 93 false 3 false [.one 0 (pI 5), .one 1 (pI 255), .one 2 (pI 0)])]
def args0 : List Value := [.chan (some 0), .chan (some 1), .agg #[.chan (some 2), .chan (some 3)]]
end Go.Proofs.YtdonhmehdlmgcaaGreatDoor.Run
