/- What the assembler says, in plain Lean over lists of bytes: operands, lines, numbers, labels, programs. No program. -/
import Derived.Test.YtknkfimpflodeaaGreatDoorEEnc
import Derived.Lib.ParseIntB
import Derived.Lib.ItoaNum
import Derived.Lib.IndexMore
import Derived.Lib.Split
import Derived.Lib.Strings
import Derived.Lib.Join
import Derived.Lib.SlTrimSet
import Derived.Lib.TrailingZeros
namespace Go.Proofs.YtknkfimpflodeaaGreatDoor.P
open Go.RowKit
set_option linter.unusedVariables false
abbrev BL := List UInt8
/-- an instruction: op, rd, a, b, imm, csr, aq, rl -/
abbrev Ins := Int × Int × Int × Int × Int × Int × Bool × Bool
def ins0 : Ins := (0, 0, 0, 0, 0, 0, false, false)
def encI (i : Ins) : Int × Int := encS i.1 i.2.1 i.2.2.1 i.2.2.2.1 i.2.2.2.2.1 i.2.2.2.2.2.1 i.2.2.2.2.2.2.1 i.2.2.2.2.2.2.2
def rightI (i : Ins) : Bool := decide ((encI i).2 = 0)
/-- which operands an instruction has: rd, a, b, a number, a CSR -/
def ofS (op : Int) : Bool × Bool × Bool × Bool × Bool :=
 (rightI (op, 1, 0, 0, 0, 0, false, false), rightI (op, 0, 1, 0, 0, 0, false, false), rightI (op, 0, 0, 1, 0, 0, false, false),
  rightI (op, 0, 0, 0, 4, 0, false, false) || rightI (op, 0, 0, 0, 4096, 0, false, false), rightI (op, 0, 0, 0, 0, 1, false, false))
def farS (op : Int) : Bool := decide (op = 3) || (decide (5 ≤ op) && decide (op ≤ 10))
def nameS (op : Int) : BL := if 1 ≤ op ∧ op ≤ 113 then (rowAt (op - 1)).1.data.toList else []
def opOf (s : BL) : Int := opB tabP 1 s
where opB : List (ByteArray × Int × Int × Int) → Int → BL → Int
 | [], _, _ => 0
 | r :: t, op, s => if r.1.data.toList = s then op else opB t (op + 1) s
def joinS (l : List BL) : BL := Lib.join (l.filter (fun s => decide (s ≠ []))) [44, 32]
def regS (said : Bool) (n : Int) : BL := if said = true then 120 :: Lib.itoa n else []
def numT (said : Bool) (n : Int) : BL := if said = true then Lib.itoa n else []
def sufS (aq rl : Bool) : BL := if aq = true then (if rl = true then [46, 97, 113, 114, 108] else [46, 97, 113]) else (if rl = true then [46, 114, 108] else [])
def moreS (i : Ins) : BL :=
 joinS [regS (ofS i.1).1 i.2.1, regS (ofS i.1).2.1 i.2.2.1, regS (ofS i.1).2.2.1 i.2.2.2.1, numT (ofS i.1).2.2.2.1 i.2.2.2.2.1, numT (ofS i.1).2.2.2.2 i.2.2.2.2.2.1]
/-- an instruction's line -/
def printS (i : Ins) : BL × Int :=
 if (encI i).2 = 0 then (nameS i.1 ++ sufS i.2.2.2.2.2.2.1 i.2.2.2.2.2.2.2 ++ (if moreS i = [] then [] else 32 :: moreS i), 0) else ([], (encI i).2)
/-- a number in its one form -/
def numberS (s : BL) : Int × Bool :=
 match Lib.parseIntB 64 s with
 | .ok v => (v, decide (Lib.itoa v = s))
 | .range => (Lib.intSat 64 s, false)
 | _ => (0, false)
def registerS (s : BL) : Int × Bool :=
 if Lib.hasPrefix s [120] = true then ((numberS (s.drop 1)).1, (numberS (s.drop 1)).2 && decide (0 ≤ (numberS (s.drop 1)).1) && decide ((numberS (s.drop 1)).1 < 32)) else (0, false)
/-! reading a line -/
def sufStep (name : BL) (x : BL × Bool × Bool) (st : Int × Bool × Bool) : Int × Bool × Bool :=
 if st.1 = 0 ∧ Lib.hasSuffix name x.1 = true then (opOf (Lib.trimSuffix name x.1), x.2.1, x.2.2) else st
def opS (name : BL) : Int × Bool × Bool :=
 sufStep name ([46, 114, 108], false, true) (sufStep name ([46, 97, 113], true, false) (sufStep name ([46, 97, 113, 114, 108], true, true) (opOf name, false, false)))
/-- where the reading stands: is it the first operand; was there another behind the last one; is all well; what is left -/
abbrev St := Bool × Bool × Bool × BL
def nextS (st : St) : BL × St := ((Lib.cut st.2.2.2 [44, 32]).1, false, (Lib.cut st.2.2.2 [44, 32]).2.2, st.2.2.1 && (st.1 || st.2.1), (Lib.cut st.2.2.2 [44, 32]).2.1)
def wellS (good : Bool) (st : St) : St := (st.1, st.2.1, st.2.2.1 && good, st.2.2.2)
def takeS (said : Bool) (st : St) : Int × St :=
 if said = true then ((registerS (nextS st).1).1, wellS (registerS (nextS st).1).2 (nextS st).2) else (0, st)
/-- a label's name -/
def namedB (c : UInt8) : Bool := (decide (97 ≤ c) && decide (c ≤ 122)) || (decide (48 ≤ c) && decide (c ≤ 57)) || decide (c = 95)
def namedS (s : BL) : Bool :=
 decide (s.length ≤ 32) && (match s with | [] => false | c :: _ => decide (97 ≤ c) && decide (c ≤ 122)) && s.all namedB
/-- the number's operand: the number, the label, and where the reading stands then -/
def immS (said : Bool) (op : Int) (st : St) : Int × BL × St :=
 if said = true then
  (if farS op = true ∧ Lib.hasPrefix (nextS st).1 [64] = true then (0, (nextS st).1.drop 1, wellS (namedS ((nextS st).1.drop 1)) (nextS st).2)
   else ((numberS (nextS st).1).1, [], wellS (numberS (nextS st).1).2 (nextS st).2))
 else (0, [], st)
def csrS (said : Bool) (st : St) : Int × St :=
 if said = true then ((numberS (nextS st).1).1, wellS ((numberS (nextS st).1).2 && decide (0 ≤ (numberS (nextS st).1).1) && decide ((numberS (nextS st).1).1 < 4096)) (nextS st).2) else (0, st)
def anyS (x : Bool × Bool × Bool × Bool × Bool) : Bool := x.1 || x.2.1 || x.2.2.1 || x.2.2.2.1 || x.2.2.2.2
/-- a line: the instruction and the label; none: it is no instruction -/
def readS (line : BL) : Option (Ins × BL) :=
 let c := Lib.cut line [32]
 let o := opS c.1
 if o.1 = 0 then none else
 let x := ofS o.1
 if anyS x ≠ c.2.2 then none else
 let s0 : St := (true, c.2.2, true, c.2.1)
 let rd := takeS x.1 s0
 let a := takeS x.2.1 rd.2
 let b := takeS x.2.2.1 a.2
 let n := immS x.2.2.2.1 o.1 b.2
 let q := csrS x.2.2.2.2 n.2.2
 let i : Ins := (o.1, rd.1, a.1, b.1, n.1, q.1, o.2.1, o.2.2)
 if q.2.2.2.1 = false then none
 else if q.2.2.1 = true ∧ anyS x = true then none
 else if (encI i).2 = 0 then some (i, n.2.1) else none
def parseS (line : BL) : Ins × Int :=
 match readS line with
 | some (i, []) => (i, 0)
 | _ => (ins0, 100)
/-! numbers put into a register -/
def lowS (n : Int) : Int := (n + 2048) % 4096 - 2048
def i32S (n : Int) : Int := (n + 2147483648) % 4294967296 - 2147483648
def liS : Nat → Int → Int → List Ins
 | 0, _, _ => []
 | k + 1, rd, n =>
  if rd < 0 ∨ rd > 31 then []
  else if -2048 ≤ n ∧ n ≤ 2047 then [(22, rd, 0, 0, n, 0, false, false)]
  else if n = i32S n then (1, rd, 0, 0, i32S (n - lowS n), 0, false, false) :: (if lowS n = 0 then [] else [(31, rd, rd, 0, lowS n, 0, false, false)])
  else liS k rd (wrap64 (n - lowS n) / 2 ^ Lib.ctz 64 (wrap64 (n - lowS n) % 18446744073709551616).toNat) ++
   ((28, rd, rd, 0, (Lib.ctz 64 (wrap64 (n - lowS n) % 18446744073709551616).toNat : Int), 0, false, false) :: (if lowS n = 0 then [] else [(22, rd, rd, 0, lowS n, 0, false, false)]))
/-! what a line says that is no label: the instructions, the label to which it goes, is it la, a word as it stands, is it one -/
def splitS (s name : BL) : List BL × Bool := (Lib.split (Lib.trimPrefix s (name ++ [32])) [44, 32], Lib.hasPrefix s (name ++ [32]))
/-! programs -/
def lineS (s : BL) : BL := Lib.trimS (Lib.cut s [35]).1 [32, 9]
end Go.Proofs.YtknkfimpflodeaaGreatDoor.P
