import PyProof.Rows.All
import Wide.All
import OpenK.AllK
import Wide.FinOn
import HandS.ForMost
import HandS.TupAny
import HandS.TupMul
import HandS.IsInst
import HandS.Style
import HandS.Flow
import HandS.Deep
import HandS.Walk
import HandS.Zip
import HandS.Conv
import HandS.SortInts
import HandS.More
import HandS.Set
import HandS.Iter
import HandS.SetFor
import HandS.Strs
import KE.KRevSl
import HandS.Defaults
import HandS.Head0
import HandS.Head1
import HandS.Head2
import HandS.HeadEnd
import HandS.HeadHook1
import HandS.HeadHook2
import HandS.Words
import KE.BitLaws
import HandS.Text
import HandS.List
import KE.KStateDown
import Lean
import HandS.Base
import HandS.Call
import HandS.Ends
import HandS.WordsExc
import PySem.Challenge.RW_allrunstold_k09_whole_ways_of_programs
set_option Elab.async false
set_option linter.all false
set_option maxRecDepth 100000
set_option maxHeartbeats 0
namespace Mi
open PySem PySem.Spec PyProof.Rows L2

/-- a key of a dict -/
inductive DK where
  | i (i : Int) | s (s : List Nat)
  deriving DecidableEq
/-- plain data; dct: a dict, its keys and its values; ref: an object that the running defs may change, by its number -/
inductive D where
  | non | bl (b : Bool) | int (i : Int) | str (s : List Nat) | tup (xs : List D) | lst (xs : List D) | dct (ks : List DK) (xs : List D) | scr (xs : List D) | ref (i : Nat)
  deriving Inhabited
/-- an object that may be changed -/
inductive MO where
  | lst (xs : List D) | dct (ks : List DK) (xs : List D)
def MO.d : MO → D
  | .lst xs => .lst xs
  | .dct ks xs => .dct ks xs
def keyOf : D → Option DK
  | .int i => some (.i i)
  | .str s => some (.s s)
  | _ => none
/-- a dict's value at a key -/
def lookK : List DK → List D → DK → Option D
  | k' :: ks, x :: xs, k => if k' = k then some x else lookK ks xs k
  | _, _, _ => none
def setK : List DK → List D → DK → D → List D
  | k' :: ks, x :: xs, k, v => (if k' = k then v else x) :: setK ks xs k v
  | _, xs, _, _ => xs
/-- in its place, or at the end -/
def putKs (ks : List DK) (xs : List D) (k : DK) (v : D) : List DK × List D := if ks.contains k then (ks, setK ks xs k v) else (ks ++ [k], xs ++ [v])
abbrev Mem := List MO
abbrev Sl := List (Option D)

mutual
def D.okN : Nat → D → Bool
  | _, .non => true
  | _, .bl _ => true
  | _, .int _ => true
  | _, .str s => s.all (· < 0x110000)
  | n + 1, .tup xs => D.okNs n xs
  | n + 1, .lst xs => D.okNs n xs
  | _, _ => false
def D.okNs : Nat → List D → Bool
  | _, [] => true
  | n, x :: xs => D.okN n x && D.okNs n xs
end
mutual
/-- == of data -/
def D.eqv : D → D → Bool
  | .non, .non => true
  | .bl a, .bl b => a == b
  | .bl a, .int j => (if a then 1 else 0) == j
  | .int i, .bl b => i == (if b then 1 else 0)
  | .int i, .int j => i == j
  | .str x, .str y => x == y
  | .lst xs, .lst ys => D.eqvs xs ys
  | .tup xs, .tup ys => D.eqvs xs ys
  | _, _ => false
def D.eqvs : List D → List D → Bool
  | [], [] => true
  | x :: xs, y :: ys => D.eqv x y && D.eqvs xs ys
  | _, _ => false
end

/-- what a reference stands for -/
def rd (M : Mem) : D → D
  | .ref j => (match M[j]? with
    | some o => o.d
    | none => .ref j)
  | d => d
def seqOf (M : Mem) (d : D) : Option (List D) := match rd M d with
  | .tup xs => some xs
  | .lst xs => some xs
  | _ => none
def lstOf (M : Mem) (d : D) : Option (List D) := match rd M d with
  | .lst xs => some xs
  | _ => none
def truD (M : Mem) (d : D) : Option Bool := match rd M d with
  | .non => some false
  | .bl b => some b
  | .int i => some (i != 0)
  | .tup xs => some !xs.isEmpty
  | .lst xs => some !xs.isEmpty
  | .dct ks _ => some !ks.isEmpty
  | _ => none
def line : Nat := 16777216

def mulOk (i j : Int) : Bool := (decide (-18446744073709551616 < i) && decide (i < 18446744073709551616)) || (decide (-18446744073709551616 < j) && decide (j < 18446744073709551616))
def bin0 (op : Operator) (a b : D) : Option D := match op, a, b with
  | .Add, .int i, .int j => some (.int (i + j))
  | .Sub, .int i, .int j => some (.int (i - j))
  | .Mult, .int i, .int j => if mulOk i j then some (.int (i * j)) else none
  | .FloorDiv, .int i, .int j => if j ≠ 0 ∧ j.natAbs < 1073741824 then some (.int (i.fdiv j)) else none
  | .Mod, .int i, .int j => if j ≠ 0 then some (.int (i.fmod j)) else none
  | .Pow, .int i, .int j => if 0 ≤ j ∧ j ≤ 1000000 ∧ i.natAbs < 18446744073709551616 then some (.int (i ^ j.toNat)) else none
  | .LShift, .int i, .int j => if 0 ≤ j ∧ j ≤ 1000000 ∧ i.natAbs < 18446744073709551616 then some (.int (i * 2 ^ j.toNat)) else none
  | .RShift, .int i, .int j => if 0 ≤ j then some (.int (i / 2 ^ j.toNat)) else none
  | .BitAnd, .int i, .int j => some (.int (Builtin.bitAnd i j))
  | .BitOr, .int i, .int j => some (.int (Builtin.bitOr i j))
  | .BitXor, .int i, .int j => some (.int (Builtin.bitXor i j))
  | .Add, .str x, .str y => if x.length + y.length ≤ line then some (.str (x ++ y)) else none
  | .Add, .tup xs, .tup ys => if xs.length + ys.length ≤ line then some (.tup (xs ++ ys)) else none
  | .Add, .lst xs, .lst ys => if xs.length + ys.length ≤ line then some (.lst (xs ++ ys)) else none
  | .Mult, .tup xs, .int k => if !xs.isEmpty ∧ 2 ≤ k ∧ xs.length * k.toNat ≤ 1000000 then some (.tup (List.replicate k.toNat xs).flatten) else none
  | .Mult, .lst xs, .int k => if 0 ≤ k ∧ k < 4611686018427387904 ∧ xs.length * k.toNat ≤ line then some (.lst (List.replicate k.toNat xs).flatten) else none
  | _, _, _ => none
def binD (M : Mem) (op : Operator) (a b : D) : Option D := bin0 op (rd M a) (rd M b)

/-- flat values, for in -/
def flatD : D → Bool
  | .non => true
  | .bl _ => true
  | .int _ => true
  | .str _ => true
  | _ => false
def inD (M : Mem) (a b : D) : Option Bool := match rd M b with
  | .tup xs => if flatD a && xs.all flatD then some (xs.any fun x => D.eqv x a)
    else if D.okN 63 (rd M a) && D.okNs 63 xs then some (xs.any fun x => D.eqv x (rd M a)) else none
  | .lst xs => if flatD a && xs.all flatD then some (xs.any fun x => D.eqv x a)
    else if D.okN 63 (rd M a) && D.okNs 63 xs then some (xs.any fun x => D.eqv x (rd M a)) else none
  | .dct ks _ => (keyOf a).map fun k => ks.contains k
  | _ => none
def eqD (M : Mem) (a b : D) : Option Bool := if D.okN 64 (rd M a) && D.okN 64 (rd M b) then some (D.eqv (rd M a) (rd M b)) else none
def cmpD (M : Mem) (op : CmpOp) (a b : D) : Option Bool := match op with
  | .Eq => eqD M a b
  | .NotEq => (eqD M a b).map not
  | .In => inD M a b
  | .NotIn => (inD M a b).map not
  | .Lt => (match a, b with
    | .int i, .int j => some (decide (i < j))
    | _, _ => none)
  | .LtE => (match a, b with
    | .int i, .int j => some (decide (i ≤ j))
    | _, _ => none)
  | .Gt => (match a, b with
    | .int i, .int j => some (decide (j < i))
    | _, _ => none)
  | .GtE => (match a, b with
    | .int i, .int j => some (decide (j ≤ i))
    | _, _ => none)
  | .Is => (match a, b with
    | .bl i, .bl j => some (decide (i = j))
    | .non, .non => some true
    | _, .non => some false
    | _, _ => none)
  | .IsNot => (match a, b with
    | .bl i, .bl j => some !decide (i = j)
    | .non, .non => some false
    | _, .non => some true
    | _, _ => none)

/-- classes that isinstance is asked with -/
inductive Ty where
  | int | bool | str | tuple | list
  deriving DecidableEq
def isiD (M : Mem) (d : D) (t : Ty) : Option Bool := match rd M d with
  | .non => some false
  | .bl _ => some (t == .bool || t == .int)
  | .int _ => some (t == .int)
  | .str _ => some (t == .str)
  | .tup _ => some (t == .tuple)
  | .lst _ => some (t == .list)
  | _ => none
def dctOf (M : Mem) (d : D) : Option (List DK × List D) := match rd M d with
  | .dct ks xs => some (ks, xs)
  | _ => none
def ixD (M : Mem) (a b : D) : Option D := match dctOf M a with
  | some (ks, xs) => (keyOf b).bind (lookK ks xs)
  | none => match seqOf M a, b with
  | some xs, .int i => atI xs i
  | none, .int i => (match a with
    | .str z => if z.length ≤ line then (atI z i).map fun c => .str [c] else none
    | _ => none)
  | _, _ => none
def cutD {α : Type} (xs : List α) (lo hi : Option Int) : List α := (xs.drop (HT.sIx xs.length 0 lo)).take (HT.sIx xs.length xs.length hi - HT.sIx xs.length 0 lo)
def slD (M : Mem) (a : D) (lo hi : Option Int) : Option D := match rd M a with
  | .tup xs => some (.tup (cutD xs lo hi))
  | .lst xs => some (.lst (cutD xs lo hi))
  | _ => none

def revD (M : Mem) (d : D) : Option D := match rd M d with
  | .lst xs => some (.lst xs.reverse)
  | .tup xs => some (.tup xs.reverse)
  | _ => none

inductive Blt where
  | len | abs | int | min | max | tuple | list | all | sum | sorted | sset | dict | lrange | trange
  deriving DecidableEq
def intsOf : List D → Option (List Int)
  | [] => some []
  | .int i :: r => (intsOf r).map (i :: ·)
  | _ => none
def boolsOf : List D → Option (List Bool)
  | [] => some []
  | .bl i :: r => (boolsOf r).map (i :: ·)
  | _ => none
def insI (x : Int) : List Int → List Int
  | [] => [x]
  | y :: ys => if x ≤ y then x :: y :: ys else y :: insI x ys
def sortI : List Int → List Int
  | [] => []
  | x :: xs => insI x (sortI xs)
/-- each int once, in order -/
def onceI : List Int → List Int
  | [] => []
  | x :: xs => if (onceI xs).contains x then onceI xs else insI x (onceI xs)
def keysI : List DK → Option (List Int)
  | [] => some []
  | .i n :: r => (keysI r).map (n :: ·)
  | _ => none
/-- the pairs of a list, stored one after another -/
def fromPairs : List D → List DK → List D → Option (List DK × List D)
  | [], ks, xs => some (ks, xs)
  | .tup [k, v] :: r, ks, xs => (keyOf k).bind fun k => fromPairs r (putKs ks xs k v).1 (putKs ks xs k v).2
  | _, _, _ => none
/-- the ints a .. b - 1 -/
def rgD (a b : Int) : List D := (List.range (b - a).toNat).map fun i => .int (a + (i : Nat))
def rgOk (a b : Int) : Bool := decide (-4611686018427387904 ≤ a ∧ a < 4611686018427387904 ∧ -4611686018427387904 ≤ b ∧ b < 4611686018427387904 ∧ (b - a).toNat ≤ 16777216)
def bltD (M : Mem) : Blt → List D → Option D
  | .len, [.str z] => if z.length ≤ line then some (.int z.length) else none
  | .len, [d] => match dctOf M d with
    | some (ks, _) => some (.int ks.length)
    | none => (seqOf M d).map fun xs => .int xs.length
  | .abs, [.int i] => some (.int (if i < 0 then -i else i))
  | .int, [.int i] => some (.int i)
  | .int, [.bl b] => some (.int (if b then 1 else 0))
  | .min, [.int i, .int j] => some (.int (if j < i then j else i))
  | .max, [.int i, .int j] => some (.int (if j > i then j else i))
  | .min, [d] => (lstOf M d).bind fun xs => (intsOf xs).bind fun ns => ns.min?.map .int
  | .max, [d] => (lstOf M d).bind fun xs => (intsOf xs).bind fun ns => ns.max?.map .int
  | .tuple, [d] => (seqOf M d).map .tup
  | .list, [.scr xs] => some (.lst xs)
  | .list, [d] => (seqOf M d).map .lst
  | .all, [d] => (lstOf M d).bind fun xs => (boolsOf xs).map fun bs => .bl (bs.all id)
  | .sum, [d] => (lstOf M d).bind fun xs => (intsOf xs).map fun ns => .int ns.sum
  | .sorted, [d] => match dctOf M d with
    | some (ks, _) => (keysI ks).bind fun ns => if ns.length < 64 then some (.lst ((sortI ns).map .int)) else none
    | none => (lstOf M d).bind fun xs => (intsOf xs).map fun ns => .lst ((sortI ns).map .int)
  | .sset, [d] => (lstOf M d).bind fun xs => (intsOf xs).bind fun ns => if ns.length < 64 then some (.lst ((onceI ns).map .int)) else none
  | .dict, [d] => (lstOf M d).bind fun xs => (fromPairs xs [] []).map fun p => .dct p.1 p.2
  | .lrange, [.int a, .int b] => if rgOk a b then some (.lst (rgD a b)) else none
  | .trange, [.int a, .int b] => if rgOk a b then some (.tup (rgD a b)) else none
  | _, _ => none

inductive Mth where
  | append | pop
  deriving DecidableEq
def mthD (M : Mem) : Mth → D → List D → Option (D × Mem)
  | .append, .ref j, [d] => (match M[j]? with
    | some (.lst xs) => if xs.length < line then some (.non, M.set j (.lst (xs ++ [d]))) else none
    | _ => none)
  | .pop, .ref j, [] => (match M[j]? with
    | some (.lst xs) => (xs[xs.length - 1]?).map fun y => (y, M.set j (.lst xs.dropLast))
    | _ => none)
  | .pop, .ref j, [.int i] => (match M[j]? with
    | some (.lst xs) => if -9223372036854775808 ≤ i ∧ i < 9223372036854775808 then (seqIndex? i xs.length).bind fun k => (xs[k]?).map fun y => (y, M.set j (.lst (xs.eraseIdx k))) else none
    | _ => none)
  | _, _, _ => none

/-- targets -/
inductive MT where
  | nm (i : Nat) | tp (ts : MT) | nil | cons (t ts : MT)
/-- expressions (nil, cons: their lists; s..: what is walked) -/
inductive ME where
  | var (i : Nat) | cst (d : D)
  | bin (op : Operator) (a b : ME)
  | cmp (op : CmpOp) (a b : ME)
  | chain (op op' : CmpOp) (a b c : ME)
  | neg (a : ME)
  | not (a : ME) | and (a b : ME) | or (a b : ME) | ite (c a b : ME)
  | tup (es : ME) | lst (es : ME) | dsp (es : ME)
  | idx (a b : ME) | slice (a : ME) (lo hi : ME) | rev (a : ME)
  | call (f : Nat) (es : ME)
  | blt (b : Blt) (es : ME)
  | isi (a : ME) (t : Ty)
  | mth (m : Mth) (a es : ME)
  | comp (elt : ME) (t : MT) (src cond : ME) (own : List Nat)
  | none | nil | cons (e es : ME)
  | sSeq (e : ME) | sRange (a b : ME) | sZip (a b : ME) | sEnum (a : ME) | sDown (a b : ME)

/-- what a loop walks -/
inductive Src where
  | seq (d : D) | rng (lo hi : Int) | zip (a b : D) | enum (d : D) | down (hi lo : Int)
def Src.get (M : Mem) : Src → Nat → Option D
  | .seq d, k => (seqOf M d).bind (·[k]?)
  | .rng lo hi, k => if (k : Int) < hi - lo then some (.int (lo + k)) else .none
  | .zip a b, k => (seqOf M a).bind fun xs => (seqOf M b).bind fun ys => (xs[k]?).bind fun x => (ys[k]?).map fun y => .tup [x, y]
  | .enum d, k => (seqOf M d).bind fun xs => (xs[k]?).map fun x => .tup [.int k, x]
  | .down hi lo, k => if (k : Int) < hi - lo then some (.int (hi - k)) else .none
/-- how many turns, at the start -/
def Src.len (M : Mem) : Src → Option Nat
  | .seq d => (seqOf M d).map List.length
  | .rng lo hi => if -4611686018427387904 ≤ lo ∧ lo < 4611686018427387904 ∧ -4611686018427387904 ≤ hi ∧ hi < 4611686018427387904 then some (hi - lo).toNat else .none
  | .zip a b => (seqOf M a).bind fun xs => (seqOf M b).bind fun ys => match rd M a, rd M b with
    | .tup _, .tup _ => some (min xs.length ys.length)
    | .lst _, .lst _ => some (min xs.length ys.length)
    | _, _ => .none
  | .enum d => (lstOf M d).map List.length
  | .down hi lo => if -4611686018427387904 ≤ lo ∧ lo < 4611686018427387904 ∧ -4611686018427387904 ≤ hi ∧ hi < 4611686018427387904 then some (hi - lo).toNat else .none
/-- whether it is at its end behind n turns -/
def Src.done (M : Mem) (n : Nat) (s : Src) : Bool := decide (s.len M = some n)

/-- a walk's turns: n left, k behind; st: one turn -/
def turns {α : Type} (s : Src) (st : D → α → Option (α × Bool)) (mem : α → Mem) : Nat → Nat → α → Option (α × Bool)
  | 0, k, a => if s.done (mem a) k then some (a, true) else .none
  | n + 1, k, a => (s.get (mem a) k).bind fun d => (st d a).bind fun r => if r.2 then turns s st mem n (k + 1) r.1 else some r

def asgT : MT → List D → Sl → Option Sl
  | .nm i, [d], σ => some (σ.set i (some d))
  | .tp ts, [.tup xs], σ => asgT ts xs σ
  | .nil, [], σ => some σ
  | .cons t ts, x :: xs, σ => (asgT t [x] σ).bind (asgT ts xs)
  | _, _, _ => .none
def wipeS (σ : Sl) : List Nat → Sl
  | [] => σ
  | v :: vs => (wipeS σ vs).set v .none
/-- a slice's part -/
def partOf : List D → Option (Option Int)
  | [] => some .none
  | [.int i] => some (some i)
  | _ => .none

/-- a display's keys and values in turn -/
def evenD : List D → List DK → List D → Option (List DK × List D)
  | [], ks, xs => some (ks, xs)
  | k :: v :: r, ks, xs => (keyOf k).bind fun k => evenD r (putKs ks xs k v).1 (putKs ks xs k v).2
  | _, _, _ => none
abbrev CF := Nat → List D → Mem → Option (D × Mem)
mutual
def ev (cf : CF) : ME → Sl → Mem → Option (D × Mem)
  | .var i, σ, M => (σ[i]?).join.map (·, M)
  | .cst d, _, M => some (d, M)
  | .bin op a b, σ, M => (ev cf a σ M).bind fun x => (ev cf b σ x.2).bind fun y => (binD y.2 op x.1 y.1).map (·, y.2)
  | .cmp op a b, σ, M => (ev cf a σ M).bind fun x => (ev cf b σ x.2).bind fun y => (cmpD y.2 op x.1 y.1).map fun r => (.bl r, y.2)
  | .chain op op' a b c, σ, M => (ev cf a σ M).bind fun x => (ev cf b σ x.2).bind fun y => (cmpD y.2 op x.1 y.1).bind fun r =>
      if r then (ev cf c σ y.2).bind fun z => (cmpD z.2 op' y.1 z.1).map fun r => (.bl r, z.2) else some (.bl false, y.2)
  | .neg a, σ, M => (ev cf a σ M).bind fun x => match x.1 with
    | .int i => some (.int (-i), x.2)
    | _ => .none
  | .not a, σ, M => (ev cf a σ M).bind fun x => (truD x.2 x.1).map fun t => (.bl !t, x.2)
  | .and a b, σ, M => (ev cf a σ M).bind fun x => (truD x.2 x.1).bind fun t => if t then ev cf b σ x.2 else some x
  | .or a b, σ, M => (ev cf a σ M).bind fun x => (truD x.2 x.1).bind fun t => if t then some x else ev cf b σ x.2
  | .ite c a b, σ, M => (ev cf c σ M).bind fun x => (truD x.2 x.1).bind fun t => if t then ev cf a σ x.2 else ev cf b σ x.2
  | .tup es, σ, M => (evs cf es σ M).map fun x => (.tup x.1, x.2)
  | .lst es, σ, M => (evs cf es σ M).map fun x => (.lst x.1, x.2)
  | .dsp es, σ, M => (evs cf es σ M).bind fun x => (evenD x.1 [] []).map fun p => (.dct p.1 p.2, x.2)
  | .idx a b, σ, M => (ev cf a σ M).bind fun x => (ev cf b σ x.2).bind fun y => (ixD y.2 x.1 y.1).map (·, y.2)
  | .slice a lo hi, σ, M => (ev cf a σ M).bind fun x => (evs cf lo σ x.2).bind fun l => (evs cf hi σ l.2).bind fun h => (partOf l.1).bind fun lo' => (partOf h.1).bind fun hi' => (slD h.2 x.1 lo' hi').map (·, h.2)
  | .rev a, σ, M => (ev cf a σ M).bind fun x => (revD x.2 x.1).map (·, x.2)
  | .call f es, σ, M => (evs cf es σ M).bind fun x => cf f x.1 x.2
  | .blt b es, σ, M => (evs cf es σ M).bind fun x => (bltD x.2 b x.1).map (·, x.2)
  | .isi a t, σ, M => (ev cf a σ M).bind fun x => (isiD x.2 x.1 t).map fun r => (.bl r, x.2)
  | .mth m a es, σ, M => (ev cf a σ M).bind fun x => (lstOf x.2 x.1).bind fun _ => (evs cf es σ x.2).bind fun y => mthD y.2 m x.1 y.1
  | .comp elt t src cond own, σ, M => (evS cf src σ M).bind fun s => (s.1.len s.2).bind fun n => if n ≤ line then
      (turns s.1 (fun d a => (asgT t [d] (wipeS σ own)).bind fun σ2 => (ev cf cond σ2 a.2).bind fun c => (truD c.2 c.1).bind fun t =>
        if t then (ev cf elt σ2 c.2).map fun y => ((y.1 :: a.1, y.2), true) else some ((a.1, c.2), true)) (·.2) n 0 ([], s.2)).map fun r => (.lst r.1.1.reverse, r.1.2) else .none
  | .none, _, M => .none
  | .nil, _, M => .none
  | .cons _ _, _, M => .none
  | .sSeq _, _, M => .none
  | .sRange _ _, _, M => .none
  | .sZip _ _, _, M => .none
  | .sEnum _, _, M => .none
  | .sDown _ _, _, M => .none
termination_by structural e => e
def evs (cf : CF) : ME → Sl → Mem → Option (List D × Mem)
  | .nil, _, M => some ([], M)
  | .cons e es, σ, M => (ev cf e σ M).bind fun x => (evs cf es σ x.2).map fun y => (x.1 :: y.1, y.2)
  | _, _, _ => .none
termination_by structural e => e
def evS (cf : CF) : ME → Sl → Mem → Option (Src × Mem)
  | .sSeq e, σ, M => (ev cf e σ M).map fun x => (.seq x.1, x.2)
  | .sRange a b, σ, M => (ev cf a σ M).bind fun x => (ev cf b σ x.2).bind fun y => match x.1, y.1 with
    | .int i, .int j => some (.rng i j, y.2)
    | _, _ => .none
  | .sZip a b, σ, M => (ev cf a σ M).bind fun x => (ev cf b σ x.2).map fun y => (.zip x.1 y.1, y.2)
  | .sEnum e, σ, M => (ev cf e σ M).map fun x => (.enum x.1, x.2)
  | .sDown a b, σ, M => (ev cf a σ M).bind fun x => (ev cf b σ x.2).bind fun y => match x.1, y.1 with
    | .int i, .int j => some (.down i j, y.2)
    | _, _ => .none
  | _, _, _ => .none
termination_by structural e => e
end

/-- statements -/
inductive MS where
  | skip | seq (a b : MS)
  | asg (t : MT) (e : ME)
  | box (i : Nat) (e : ME)
  | parN (is : List Nat) (bs : List Bool) (es : ME)
  | seti (a b : ME) (e : ME)
  | expr (e : ME)
  | ret (e : ME)
  | iff (c : ME) (a b : MS)
  | whl (c : ME) (b : MS)
  | forr (t : MT) (src : ME) (b : MS)
  | brk | cont | never
inductive Out where
  | nx (σ : Sl) (M : Mem) | rt (d : D) (M : Mem) | bk (σ : Sl) (M : Mem) | ct (σ : Sl) (M : Mem)
/-- the most turns of a while -/
def wfuel : Nat := 1000000000000
def whlN (c : Sl → Mem → Option (D × Mem)) (b : Sl → Mem → Option Out) : Nat → Sl → Mem → Option Out
  | 0, _, _ => .none
  | n + 1, σ, M => (c σ M).bind fun x => (truD x.2 x.1).bind fun t => if t then (b σ x.2).bind fun o => match o with
    | .nx σ' M' => whlN c b n σ' M'
    | .ct σ' M' => whlN c b n σ' M'
    | .bk σ' M' => some (.nx σ' M')
    | .rt d M' => some (.rt d M') else some (.nx σ x.2)
/-- a for's turns -/
def forN (s : Src) (t : MT) (b : Sl → Mem → Option Out) : Nat → Nat → Sl → Mem → Option Out
  | 0, k, σ, M => if s.done M k then some (.nx σ M) else .none
  | n + 1, k, σ, M => (s.get M k).bind fun d => (asgT t [d] σ).bind fun σ1 => (b σ1 M).bind fun o => match o with
    | .nx σ' M' => forN s t b n (k + 1) σ' M'
    | .ct σ' M' => forN s t b n (k + 1) σ' M'
    | .bk σ' M' => some (.nx σ' M')
    | .rt d M' => some (.rt d M')
def boxD (b : Bool) (d : D) (M : Mem) : Option (D × Mem) := if b then (match d with
  | .lst xs => some (.ref M.length, M ++ [.lst xs])
  | .dct ks xs => some (.ref M.length, M ++ [.dct ks xs])
  | _ => .none) else some (d, M)
def boxs : List Bool → List D → Mem → Option (List D × Mem)
  | [], [], M => some ([], M)
  | b :: bs, d :: ds, M => (boxD b d M).bind fun x => (boxs bs ds x.2).map fun y => (x.1 :: y.1, y.2)
  | _, _, _ => .none
def setAll : Sl → List Nat → List D → Sl
  | σ, i :: is, d :: ds => setAll (σ.set i (some d)) is ds
  | σ, _, _ => σ
def exec (cf : CF) : MS → Sl → Mem → Option Out
  | .skip, σ, M => some (.nx σ M)
  | .seq a b, σ, M => (exec cf a σ M).bind fun o => match o with
    | .nx σ' M' => exec cf b σ' M'
    | o => some o
  | .asg t e, σ, M => (ev cf e σ M).bind fun x => (asgT t [x.1] σ).map fun σ' => .nx σ' x.2
  | .box i e, σ, M => (ev cf e σ M).bind fun x => (boxD true x.1 x.2).map fun y => .nx (σ.set i (some y.1)) y.2
  | .parN is bs es, σ, M => (evs cf es σ M).bind fun x => (boxs bs x.1 x.2).bind fun y => if y.1.length = is.length then some (.nx (setAll σ is y.1) y.2) else .none
  | .seti a b e, σ, M => (ev cf e σ M).bind fun v => (ev cf a σ v.2).bind fun x => (ev cf b σ x.2).bind fun y => match x.1, y.1 with
    | .ref j, k => (match y.2[j]? with
      | some (.lst xs) => (match k with
        | .int k => (ixN xs.length k).map fun m => .nx σ (y.2.set j (.lst (xs.set m v.1)))
        | _ => .none)
      | some (.dct ks xs) => (keyOf k).bind fun k => if ks.length < line then some (.nx σ (y.2.set j (.dct (putKs ks xs k v.1).1 (putKs ks xs k v.1).2))) else .none
      | .none => .none)
    | _, _ => .none
  | .expr e, σ, M => (ev cf e σ M).map fun x => .nx σ x.2
  | .ret e, σ, M => (ev cf e σ M).map fun x => .rt x.1 x.2
  | .iff c a b, σ, M => (ev cf c σ M).bind fun x => (truD x.2 x.1).bind fun t => if t then exec cf a σ x.2 else exec cf b σ x.2
  | .whl c b, σ, M => whlN (ev cf c) (exec cf b) wfuel σ M
  | .forr t src b, σ, M => (evS cf src σ M).bind fun s => (s.1.len s.2).bind fun n => forN s.1 t (exec cf b) n 0 σ s.2
  | .brk, σ, M => some (.bk σ M)
  | .cont, σ, M => some (.ct σ M)
  | .never, _, _ => .none

/-! ### defs -/
mutual
/-- no reference to what is at n or behind -/
def D.lo (n : Nat) : D → Bool
  | .ref i => decide (i < n)
  | .tup xs => D.los n xs
  | .lst xs => D.los n xs
  | .dct _ xs => D.los n xs
  | _ => true
def D.los (n : Nat) : List D → Bool
  | [] => true
  | x :: xs => D.lo n x && D.los n xs
end
mutual
/-- what a def hands back, with its own lists written out -/
def D.out (n : Nat) (M : Mem) (inn : List D → Option (List D)) : D → Option D
  | .ref i => if i < n then some (.ref i) else (match M[i]? with
    | some (.lst xs) => (inn xs).map .lst
    | some (.dct ks xs) => (inn xs).map (.dct ks)
    | .none => .none)
  | .tup xs => (D.outs n M inn xs).map .tup
  | .lst xs => (D.outs n M inn xs).map .lst
  | .dct ks xs => (D.outs n M inn xs).map (.dct ks)
  | d => some d
def D.outs (n : Nat) (M : Mem) (inn : List D → Option (List D)) : List D → Option (List D)
  | [] => some []
  | x :: xs => (D.out n M inn x).bind fun y => (D.outs n M inn xs).map (y :: ·)
end
def inn (n : Nat) (M : Mem) : Nat → List D → Option (List D)
  | 0, xs => if D.los n xs then some xs else .none
  | k + 1, xs => D.outs n M (inn n M k) xs
def MO.lo (n : Nat) : MO → Bool
  | .lst xs => D.los n xs
  | .dct _ xs => D.los n xs
structure Fn where
  ps : Nat
  slots : Nat
  fr : Bool
  body : MS
def D.isRef : D → Bool
  | .ref _ => true
  | _ => false
def fin (fr : Bool) (n : Nat) (d : D) (M : Mem) : Option (D × Mem) := if fr && d.isRef then .none else (D.out n M (inn n M 1) d).bind fun d' => if (M.take n).all (MO.lo n) then some (d', M.take n) else .none
def Fn.run (cf : CF) (f : Fn) (ds : List D) (M : Mem) : Option (D × Mem) :=
  if ds.length = f.ps then (exec cf f.body (ds.map some ++ List.replicate (f.slots - f.ps) .none) M).bind fun o => match o with
    | .nx _ M' => fin f.fr M.length .non M'
    | .rt d M' => fin f.fr M.length d M'
    | _ => .none
  else .none
/-- calls, by how deep they may go -/
def callD (fs : List Fn) : Nat → CF
  | 0, _, _, _ => .none
  | d + 1, f, ds, M => (fs[f]?).bind fun fn => fn.run (callD fs d) ds M
end Mi
namespace Mi
open PySem PySem.Spec PyProof.Rows L2

/-- what a def's text is read with: its names by slot, the defs by number, the module's constants; bx: the names whose lists are changed -/
structure CC where
  N : List Str
  fns : List Str
  con : List (Str × D)
  bx : List Str
def ixOf (N : List Str) (x : Str) : Option Nat := N.findIdx? (· == x)
def isVis (sc : Scope) (x : Str) : Bool := match sc.names.lookup x with
  | some .local => true
  | some .cell => true
  | some .free => true
  | _ => false
def isLoc (sc : Scope) (x : Str) : Bool := match sc.names.lookup x with
  | some .local => true
  | some .cell => true
  | _ => false
def isGl (sc : Scope) (x : Str) : Bool := match sc.names.lookup x with
  | some .globalImplicit => true
  | _ => false
def plainNm (x : Str) : Bool := !(x == ("__debug__" : Str)) && !(x == ("__classdict__" : Str))
def bltOf (x : Str) : Option Blt := if x == ("len" : Str) then some .len else if x == ("abs" : Str) then some .abs else if x == ("int" : Str) then some .int else if x == ("min" : Str) then some .min else if x == ("max" : Str) then some .max
  else if x == ("tuple" : Str) then some .tuple else if x == ("list" : Str) then some .list else if x == ("all" : Str) then some .all else if x == ("sum" : Str) then some .sum
  else if x == ("sorted" : Str) then some .sorted else if x == ("dict" : Str) then some .dict else none
def tyOf (x : Str) : Option Ty := if x == ("int" : Str) then some .int else if x == ("bool" : Str) then some .bool else if x == ("str" : Str) then some .str else if x == ("tuple" : Str) then some .tuple else if x == ("list" : Str) then some .list else none
def mthOf (x : Str) : Option Mth := if x == ("append" : Str) then some .append else if x == ("pop" : Str) then some .pop else none
def notStar : Expr → Bool
  | .Starred .. => false
  | _ => true
/-- a receiver that is no super() -/
def recvC : Expr → Bool
  | .Name .. => true
  | .Subscript .. => true
  | _ => false
/-- the names of a comprehension's block, by slot -/
def ownOf (N : List Str) (scope : Scope) : List (Str × Nat) := scope.names.filterMap fun y => match y.2 with
  | .local => (ixOf N y.1).map (y.1, ·)
  | .cell => (ixOf N y.1).map (y.1, ·)
  | _ => none

/-- a target; raw: the scope in which its names are bound -/
def cT : Nat → CC → Scope → Expr → Option MT
  | 0, _, _, _ => none
  | _ + 1, c, raw, .Name x _ => if isLoc raw x then (ixOf c.N x).map .nm else none
  | n + 1, c, raw, .Tuple es _ _ => (go n c raw es).map .tp
  | _, _, _, _ => none
where
  go : Nat → CC → Scope → List Expr → Option MT
  | 0, _, _, _ => none
  | _ + 1, _, _, [] => some .nil
  | n + 1, c, raw, e :: es => (cT n c raw e).bind fun t => (go n c raw es).map (.cons t ·)

def slotsT : MT → List Nat
  | .nm i => [i]
  | .tp ts => slotsT ts
  | .nil => []
  | .cons t ts => slotsT t ++ slotsT ts
/-- sorted(set(b)) -/
def setArg (c : CC) (sc : Scope) (f : Str) (a : Expr) (es : List Expr) : Option Expr := match a, es with
  | .Call (.Name g _) [b] [] _, [] => if (f == ("sorted" : Str)) && (g == ("set" : Str)) && isGl sc g && notStar b then some b else none
  | _, _ => none
/-- list(range(b)), tuple(range(b)) -/
def rgArg (c : CC) (sc : Scope) (f : Str) (a : Expr) (es : List Expr) : Option Expr := match a, es with
  | .Call (.Name g _) [b] [] _, [] => if ((f == ("list" : Str)) || (f == ("tuple" : Str))) && (g == ("range" : Str)) && isGl sc g && notStar b then some b else none
  | _, _ => none
mutual
def cE : Nat → CC → Scope → Expr → Option ME
  | 0, _, _, _ => none
  | n + 1, c, sc, e => match e with
    | .Constant (.int i) _ _ => some (.cst (.int i))
    | .Constant (.bool b) _ _ => some (.cst (.bl b))
    | .Constant .none _ _ => some (.cst .non)
    | .Constant (.str s) _ _ => some (.cst (.str s.cps.toList))
    | .Name x _ => if plainNm x then (if isVis sc x then (ixOf c.N x).map .var else if isGl sc x then (c.con.lookup x).map .cst else none) else none
    | .BinOp a op b _ => (cE n c sc a).bind fun a' => (cE n c sc b).map fun b' => .bin op a' b'
    | .UnaryOp .USub a _ => (cE n c sc a).map .neg
    | .UnaryOp .Not a _ => (cE n c sc a).map .not
    | .BoolOp _ [a] _ => cE n c sc a
    | .BoolOp .And (a :: b :: r) p => (cE n c sc a).bind fun a' => (cE n c sc (.BoolOp .And (b :: r) p)).map fun b' => .and a' b'
    | .BoolOp .Or (a :: b :: r) p => (cE n c sc a).bind fun a' => (cE n c sc (.BoolOp .Or (b :: r) p)).map fun b' => .or a' b'
    | .IfExp t a b _ => (cE n c sc t).bind fun t' => (cE n c sc a).bind fun a' => (cE n c sc b).map fun b' => .ite t' a' b'
    | .Compare a [op] [b] _ => (cE n c sc a).bind fun a' => (cE n c sc b).map fun b' => .cmp op a' b'
    | .Compare a [op, op'] [b, d] _ => (cE n c sc a).bind fun a' => (cE n c sc b).bind fun b' => (cE n c sc d).map fun d' => .chain op op' a' b' d'
    | .Tuple es _ _ => if es.length ≤ 65536 then (cEs n c sc es).map .tup else none
    | .List es _ => if es.length ≤ 65536 then (cEs n c sc es).map .lst else none
    | .Subscript a (.Slice lo hi none _) _ => (cE n c sc a).bind fun a' => (cO n c sc lo).bind fun l => (cO n c sc hi).map fun h => .slice a' l h
    | .Subscript a (.Slice none none (some (.UnaryOp .USub (.Constant (.int 1) _ _) _)) _) _ => (cE n c sc a).map .rev
    | .Subscript a b _ => (cE n c sc a).bind fun a' => (cE n c sc b).map fun b' => .idx a' b'
    | .Call (.Name f _) (a :: es) [] _ => if plainNm f && isGl sc f then (if f == ("isinstance" : Str) then (match es with
          | [.Name t _] => if plainNm t && isGl sc t && !(c.fns.contains t) && (c.con.lookup t).isNone then (cE n c sc a).bind fun a' => (tyOf t).map fun t' => .isi a' t' else none
          | _ => none)
        else match ixOf c.fns f with
          | some i => (cEs n c sc (a :: es)).map fun es' => .call i es'
          | none => (match setArg c sc f a es with
            | some b => (cE n c sc b).map fun b' => .blt .sset (.cons b' .nil)
            | none => (match rgArg c sc f a es with
              | some b => (cE n c sc b).map fun b' => .blt (if f == ("list" : Str) then .lrange else .trange) (.cons (.cst (.int 0)) (.cons b' .nil))
              | none => (bltOf f).bind fun b => (cEs n c sc (a :: es)).map fun es' => .blt b es'))) else none
    | .Call (.Name f _) [] [] _ => if plainNm f && isGl sc f then (ixOf c.fns f).map fun i => .call i .nil else none
    | .Call (.Attribute o m ap) [] [] p => if m == ("pop" : Str) && recvC o && (ap.endLine == p.line) then (cE n c sc o).map fun o' => .mth .pop o' .nil else none
    | .Call (.Attribute o m ap) [a] [] p => if m == ("append" : Str) && recvC o && (ap.endLine == p.line) then (cE n c sc o).bind fun o' => (cEs n c sc [a]).map fun a' => .mth .append o' a' else if m == ("pop" : Str) && recvC o && (ap.endLine == p.line) then (cE n c sc o).bind fun o' => (cEs n c sc [a]).map fun a' => .mth .pop o' a' else none
    | .Dict keys values _ => if keys.length ≤ 15 then (cD n c sc keys values).map .dsp else none
    | .ListComp elt [⟨tg, it, ifs, 0⟩] scope _ =>
      let own := ownOf c.N scope
      if blkC c.N sc scope own then (cS n c sc tg it).bind fun s => (cT n c scope tg).bind fun t => if (slotsT t).all fun i => (own.map (·.2)).contains i then (cC n c (relS scope sc) ifs).bind fun cd => (cE n c (relS scope sc) elt).map fun e' => .comp e' t s cd (own.map (·.2)) else none else none
    | _ => none
def cEs : Nat → CC → Scope → List Expr → Option ME
  | 0, _, _, _ => none
  | _ + 1, _, _, [] => some .nil
  | n + 1, c, sc, e :: es => if notStar e then (cE n c sc e).bind fun e' => (cEs n c sc es).map fun es' => .cons e' es' else none
/-- a display's keys and values in turn -/
def cD : Nat → CC → Scope → List (Option Expr) → List Expr → Option ME
  | 0, _, _, _, _ => none
  | _ + 1, _, _, [], [] => some .nil
  | n + 1, c, sc, some k :: ks, v :: vs => (cE n c sc k).bind fun k' => (cE n c sc v).bind fun v' => (cD n c sc ks vs).map fun es => .cons k' (.cons v' es)
  | _, _, _, _, _ => none
def cO : Nat → CC → Scope → Option Expr → Option ME
  | 0, _, _, _ => none
  | _ + 1, _, _, none => some .nil
  | n + 1, c, sc, some e => (cE n c sc e).map fun e' => .cons e' .nil
/-- a comprehension's tests: none, or one -/
def cC : Nat → CC → Scope → List Expr → Option ME
  | 0, _, _, _ => none
  | _ + 1, _, _, [] => some (.cst (.bl true))
  | n + 1, c, sc, [e] => cE n c sc e
  | _, _, _, _ => none
/-- what is walked, for a target -/
def cS : Nat → CC → Scope → Expr → Expr → Option ME
  | 0, _, _, _, _ => none
  | n + 1, c, sc, tg, e => match e with
    | .Call (.Name f _) [a] [] _ =>
      if plainNm f && isGl sc f && !(c.fns.contains f) && (f == ("range" : Str)) then (if notStar a then (cE n c sc a).map fun a' => .sRange (.cst (.int 0)) a' else none)
      else if plainNm f && isGl sc f && !(c.fns.contains f) && (f == ("enumerate" : Str)) then (match tg with
        | .Tuple .. => if notStar a then (cE n c sc a).map fun a' => .sEnum a' else none
        | _ => none)
      else (cE n c sc e).map .sSeq
    | .Call (.Name f _) [a, b] [] _ =>
      if plainNm f && isGl sc f && !(c.fns.contains f) && (f == ("range" : Str)) then (if notStar a && notStar b then (cE n c sc a).bind fun a' => (cE n c sc b).map fun b' => .sRange a' b' else none)
      else if plainNm f && isGl sc f && !(c.fns.contains f) && (f == ("zip" : Str)) then (match tg with
        | .Tuple .. => if notStar a && notStar b then (cE n c sc a).bind fun a' => (cE n c sc b).map fun b' => .sZip a' b' else none
        | _ => none)
      else (cE n c sc e).map .sSeq
    | .Call (.Name f _) [a, b, .UnaryOp .USub (.Constant (.int 1) _ _) _] [] _ => if plainNm f && isGl sc f && !(c.fns.contains f) && (f == ("range" : Str)) then (if notStar a && notStar b then (cE n c sc a).bind fun a' => (cE n c sc b).map fun b' => .sDown a' b' else none) else none
    | _ => (cE n c sc e).map .sSeq
end

/-- an expression whose list is a new one -/
def freshE (fr : Nat → Bool) : ME → Bool
  | .lst _ => true
  | .dsp _ => true
  | .comp _ _ _ _ _ => true
  | .rev _ => true
  | .slice _ _ _ => true
  | .bin .Add _ _ => true
  | .bin .Mult _ _ => true
  | .blt .list _ => true
  | .blt .sorted _ => true
  | .blt .dict _ => true
  | .blt .sset _ => true
  | .blt .lrange _ => true
  | .call f _ => fr f
  | _ => false
def isComp : Expr → Bool
  | .ListComp .. => true
  | .SetComp .. => true
  | .DictComp .. => true
  | _ => false
def isTup : Expr → Bool
  | .Tuple .. => true
  | _ => false
/-- the stores of a comprehension's value on one line are another form -/
def swC (sc : Scope) (e : Expr) (x : Str) (px : Pos) : Bool := match e with
  | .ListComp _ _ s _ => (sc.names.lookup x == some .local) && px.line == e.pos.line && !(s.names.any fun y => y.1 == x && (y.2 == .local || y.2 == .cell))
  | _ => false
def isNm : Expr → Bool
  | .Name .. => true
  | _ => false
def isLcl (sc : Scope) : Expr → Bool
  | .Name x _ => sc.names.lookup x == some .local
  | _ => false
/-- a tuple's parts are stored one after another, as for any tuple -/
def swN (sc : Scope) (ts vs : List Expr) : Bool :=
  (!(ts.length == 2 || ts.length == 3) || vs.length != ts.length) || !ts.all (isLcl sc) || vs.all (foldedForSure 8)
/-- plain locals of one line: stored from the right -/
def parC (sc : Scope) (xs : List (Str × Pos)) (vs : List Expr) : Bool :=
  (xs.all fun y => sc.names.lookup y.1 == some .local) && (match xs with
    | [(x, px), (y, py)] => px.line == py.line && !(x == y)
    | [(x, px), (y, py), (z, pz)] => px.line == py.line && px.line == pz.line && !(x == y) && !(x == z) && !(y == z)
    | _ => false) && vs.all notStar && !(vs.all (foldedForSure 8)) && !(vs.all (constantsAlone 8))
def parD (sc : Scope) (ts vs : List Expr) : Bool := match ts, vs with
  | [.Name x px, .Name y py], [a, b] => parC sc [(x, px), (y, py)] [a, b]
  | [.Name x px, .Name y py, .Name z pz], [a, b, d] => parC sc [(x, px), (y, py), (z, pz)] [a, b, d]
  | _, _ => false
def ixs (c : CC) (sc : Scope) : List Expr → Option (List Nat)
  | [] => some []
  | .Name x _ :: ts => if isLoc sc x then (ixOf c.N x).bind fun i => (ixs c sc ts).map (i :: ·) else none
  | _ => none
def wants (c : CC) : List Expr → List Bool
  | [] => []
  | .Name x _ :: ts => c.bx.contains x :: wants c ts
  | _ :: ts => false :: wants c ts
/-- what is boxed: a wanted new list -/
def flags (fr : Nat → Bool) : List Bool → ME → List Bool
  | w :: ws, .cons e es => (w && freshE fr e) :: flags fr ws es
  | _, _ => []
def cSt (fr : Nat → Bool) : Nat → CC → Scope → Stmt → Option MS
  | 0, _, _, _ => none
  | n + 1, c, sc, st => match st with
    | .Assign [.Name x px] e p => if !isLoc sc x then none else (ixOf c.N x).bind fun i => (cE n c sc e).bind fun e' => if c.bx.contains x then (if freshE fr e' then some (.box i e') else some (.asg (.nm i) e')) else some (.asg (.nm i) e')
    | .Assign [.Tuple ts k tp] (.Tuple vs k2 p2) _ =>
      if ts.all isNm then (if ts.length == vs.length && (decide (vs.length ≤ 65536) && (swN sc ts vs || parD sc ts vs)) then (ixs c sc ts).bind fun is => (cEs n c sc vs).map fun es => .parN is (flags fr (wants c ts) es) es else none)
      else if swN sc ts vs then (cT n c sc (.Tuple ts k tp)).bind fun t => (cE n c sc (.Tuple vs k2 p2)).map fun e' => .asg t e' else none
    | .Assign [.Tuple ts k tp] e _ => if isTup e || isComp e then none else (cT n c sc (.Tuple ts k tp)).bind fun t => (cE n c sc e).map fun e' => .asg t e'
    | .Assign [.Subscript a b _] e _ => (match b with
      | .Slice .. => none
      | _ => if isComp e then none else (cE n c sc e).bind fun e' => (cE n c sc a).bind fun a' => (cE n c sc b).map fun b' => .seti a' b' e')
    | .Expr e _ => if isComp e then none else (cE n c sc e).map .expr
    | .Return (some e) _ => (cE n c sc e).map .ret
    | .If t a b _ => (cE n c sc t).bind fun t' => (cSs n c sc a).bind fun a' => (cSs n c sc b).map fun b' => .iff t' a' b'
    | .While t b [] _ => (cE n c sc t).bind fun t' => (cSs n c sc b).map fun b' => .whl t' b'
    | .For tg it b [] _ => (cS n c sc tg it).bind fun s => (cT n c sc tg).bind fun t => (cSs n c sc b).map fun b' => .forr t s b'
    | .Break _ => some .brk
    | .Continue _ => some .cont
    | .Pass _ => some .skip
    | .Raise .. => some .never
    | _ => none
where
  cSs : Nat → CC → Scope → List Stmt → Option MS
  | 0, _, _, _ => none
  | _ + 1, _, _, [] => some .skip
  | n + 1, c, sc, s :: ss => (cSt fr n c sc s).bind fun s' => (cSs n c sc ss).map fun ss' => .seq s' ss'
end Mi
namespace Mi
open PySem PySem.Spec PyProof.Rows L2

/-! ### values and data -/
def KL (K : PySem.W.Frag) (a : Addr) (xs : List V) : Prop := ∃ (o : Obj) (its : Array Value) (n : Nat), K.lookup a = some o ∧ o.cls = .type "list" ∧ o.dict = none ∧ o.data = .seq its n ∧ its.size ≤ sizeLine ∧ Vals xs its.toList
abbrev FP := Addr → Prop
def DK.key : DK → Key
  | .i n => .inl n
  | .s x => .inr ⟨x.toArray⟩
mutual
/-- the value v is the data d: F: what nobody changes any more; r: where the references' objects stand -/
def Rep (K : PySem.W.Frag) (F : FP) (r : Nat → Addr) (n : Nat) (H : Hp) : V → D → Prop
  | v, .non => v = .non
  | v, .bl b => v = .bl b
  | v, .int i => v = .int i
  | v, .str s => v = .str ⟨s.toArray⟩
  | v, .tup ds => ∃ (p : Addr) (vs : List V), v = .ref p ∧ SqT K H p vs ∧ Reps K F r n H vs ds
  | v, .lst ds => ∃ (p : Addr) (vs : List V), v = .ref p ∧ F p ∧ H p = some (.lst vs) ∧ Reps K F r n H vs ds
  | v, .dct ks ds => ∃ (p : Addr) (kvs : List (Key × V)), v = .ref p ∧ F p ∧ H p = some (.dK kvs) ∧ kvs.map (·.1) = ks.map DK.key ∧ Reps K F r n H (kvs.map (·.2)) ds
  | v, .scr ds => ∃ (p : Addr) (ns : List Int), v = .ref p ∧ ((F p ∧ Rd H p (.lst (ns.map V.int))) ∨ KL K p (ns.map V.int)) ∧ ds = ns.map D.int
  | v, .ref i => i < n ∧ v = .ref (r i)
def Reps (K : PySem.W.Frag) (F : FP) (r : Nat → Addr) (n : Nat) (H : Hp) : List V → List D → Prop
  | [], [] => True
  | v :: vs, d :: ds => Rep K F r n H v d ∧ Reps K F r n H vs ds
  | _, _ => False
end
def tupO : HO → Bool
  | .tup _ => true
  | .frz _ _ => true
  | _ => false
/-- a step: G: what is kept besides, and is no data of ours (a list that is being made) -/
structure Ext (G F : FP) (r : Nat → Addr) (n : Nat) (H : Hp) (F' : FP) (r' : Nat → Addr) (n' : Nat) (H' : Hp) : Prop where
  hF : ∀ p, F p → F' p
  hr : ∀ i, i < n → r' i = r i
  hn : n ≤ n'
  kF : ∀ p, F p → H' p = H p
  kT : ∀ p o, H p = some o → tupO o = true → H' p = some o
  kG : ∀ p, G p → H' p = H p
section
variable {K : PySem.W.Frag} {G F F' F'' : FP} {r r' r'' : Nat → Addr} {n n' n'' : Nat} {H H' H'' : Hp}
theorem Ext.refl : Ext G F r n H F r n H := ⟨fun _ h => h, fun _ _ => rfl, Nat.le_refl _, fun _ _ => rfl, fun _ _ h _ => h, fun _ _ => rfl⟩
theorem Ext.trans (a : Ext G F r n H F' r' n' H') (b : Ext G F' r' n' H' F'' r'' n'' H'') : Ext G F r n H F'' r'' n'' H'' :=
  ⟨fun p h => b.hF p (a.hF p h), fun i h => (b.hr i (Nat.lt_of_lt_of_le h a.hn)).trans (a.hr i h), Nat.le_trans a.hn b.hn, fun p h => (b.kF p (a.hF p h)).trans (a.kF p h), fun p o h t => b.kT p o (a.kT p o h t) t, fun p h => (b.kG p h).trans (a.kG p h)⟩
theorem Ext.rdT (e : Ext G F r n H F' r' n' H') {p : Addr} {xs : List V} (h : SqT K H p xs) : SqT K H' p xs := by
  rcases h with h | h
  · rcases h with h | ⟨o, h⟩
    · exact .inl (.inl (e.kT p _ h rfl))
    · exact .inl (.inr ⟨o, e.kT p _ h rfl⟩)
  · exact .inr h
theorem Ext.rdL (e : Ext G F r n H F' r' n' H') {p : Addr} {xs : List V} (hF : F p) (h : Rd H p (.lst xs)) : Rd H' p (.lst xs) := by
  unfold Rd at *
  rw [e.kF p hF]
  exact h
mutual
theorem Rep.ext (e : Ext G F r n H F' r' n' H') : ∀ (d : D) (v : V), Rep K F r n H v d → Rep K F' r' n' H' v d
  | .non, _, h => h
  | .bl _, _, h => h
  | .int _, _, h => h
  | .str _, _, h => h
  | .tup ds, _, h => by
    obtain ⟨p, vs, hv, hs, hr⟩ := h
    exact ⟨p, vs, hv, e.rdT hs, Reps.ext e ds vs hr⟩
  | .lst ds, _, h => by
    obtain ⟨p, vs, hv, hF, hs, hr⟩ := h
    exact ⟨p, vs, hv, e.hF p hF, (e.kF p hF).trans hs, Reps.ext e ds vs hr⟩
  | .dct ks ds, _, h => by
    obtain ⟨p, kvs, hv, hF, hs, hk, hr⟩ := h
    exact ⟨p, kvs, hv, e.hF p hF, (e.kF p hF).trans hs, hk, Reps.ext e ds _ hr⟩
  | .scr ds, _, h => by
    obtain ⟨p, ns, hv, hs, hd⟩ := h
    refine ⟨p, ns, hv, ?_, hd⟩
    rcases hs with ⟨hF, hs⟩ | hs
    · exact .inl ⟨e.hF p hF, e.rdL hF hs⟩
    · exact .inr hs
  | .ref i, _, h => ⟨Nat.lt_of_lt_of_le h.1 e.hn, by rw [e.hr i h.1]; exact h.2⟩
theorem Reps.ext (e : Ext G F r n H F' r' n' H') : ∀ (ds : List D) (vs : List V), Reps K F r n H vs ds → Reps K F' r' n' H' vs ds
  | [], [], h => h
  | [], _ :: _, h => h.elim
  | _ :: _, [], h => h.elim
  | d :: ds, v :: vs, h => ⟨Rep.ext e d v h.1, Reps.ext e ds vs h.2⟩
end
end
section
variable {K : PySem.W.Frag} {F : FP} {r : Nat → Addr} {n : Nat} {H : Hp}
theorem Rep.non {v : V} (h : Rep K F r n H v .non) : v = .non := h
theorem Rep.bl {v : V} {b : Bool} (h : Rep K F r n H v (.bl b)) : v = .bl b := h
theorem Rep.int {v : V} {i : Int} (h : Rep K F r n H v (.int i)) : v = .int i := h
theorem Rep.str {v : V} {s : List Nat} (h : Rep K F r n H v (.str s)) : v = .str ⟨s.toArray⟩ := h
theorem Reps.len : ∀ {ds : List D} {vs : List V}, Reps K F r n H vs ds → vs.length = ds.length
  | [], [], _ => rfl
  | [], _ :: _, h => h.elim
  | _ :: _, [], h => h.elim
  | d :: ds, v :: vs, h => by
    show vs.length + 1 = ds.length + 1
    rw [Reps.len h.2]
theorem Reps.app : ∀ {ds es : List D} {vs us : List V}, Reps K F r n H vs ds → Reps K F r n H us es → Reps K F r n H (vs ++ us) (ds ++ es)
  | [], _, [], _, _, h => h
  | [], _, _ :: _, _, h, _ => h.elim
  | _ :: _, _, [], _, h, _ => h.elim
  | d :: ds, es, v :: vs, us, h, k => ⟨h.1, Reps.app h.2 k⟩
theorem Reps.get : ∀ {ds : List D} {vs : List V} {i : Nat} {d : D}, Reps K F r n H vs ds → ds[i]? = some d → ∃ v, vs[i]? = some v ∧ Rep K F r n H v d
  | [], _, i, d, _, e => by simp at e
  | _ :: _, [], _, _, h, _ => h.elim
  | d :: ds, v :: vs, 0, d', h, e => by
    have e' : d = d' := by simpa using e
    subst e'
    exact ⟨v, rfl, h.1⟩
  | d :: ds, v :: vs, i + 1, d', h, e => by
    obtain ⟨u, h1, h2⟩ := Reps.get (i := i) h.2 (by simpa using e)
    exact ⟨u, by simpa using h1, h2⟩
theorem Reps.get' : ∀ {ds : List D} {vs : List V} {i : Nat} {v : V}, Reps K F r n H vs ds → vs[i]? = some v → ∃ d, ds[i]? = some d ∧ Rep K F r n H v d
  | [], [], i, d, _, e => by simp at e
  | [], _ :: _, _, _, h, _ => h.elim
  | _ :: _, [], _, _, h, _ => h.elim
  | d :: ds, v :: vs, 0, d', h, e => by
    have e' : v = d' := by simpa using e
    subst e'
    exact ⟨d, rfl, h.1⟩
  | d :: ds, v :: vs, i + 1, d', h, e => by
    obtain ⟨u, h1, h2⟩ := Reps.get' (i := i) h.2 (by simpa using e)
    exact ⟨u, by simpa using h1, h2⟩
theorem Reps.none : ∀ {ds : List D} {vs : List V} {i : Nat}, Reps K F r n H vs ds → ds[i]? = Option.none → vs[i]? = Option.none := fun h e => by
  have := h.len
  have h2 := List.getElem?_eq_none_iff.mp e
  exact List.getElem?_eq_none_iff.mpr (by omega)
theorem Reps.take : ∀ {ds : List D} {vs : List V} (k : Nat), Reps K F r n H vs ds → Reps K F r n H (vs.take k) (ds.take k)
  | [], [], k, _ => by simp; exact trivial
  | [], _ :: _, _, h => h.elim
  | _ :: _, [], _, h => h.elim
  | _ :: _, _ :: _, 0, _ => trivial
  | d :: ds, v :: vs, k + 1, h => ⟨h.1, Reps.take k h.2⟩
theorem Reps.drop : ∀ {ds : List D} {vs : List V} (k : Nat), Reps K F r n H vs ds → Reps K F r n H (vs.drop k) (ds.drop k)
  | [], [], k, _ => by simp; exact trivial
  | [], _ :: _, _, h => h.elim
  | _ :: _, [], _, h => h.elim
  | _ :: _, _ :: _, 0, h => h
  | d :: ds, v :: vs, k + 1, h => Reps.drop k h.2
theorem Reps.rev {ds : List D} {vs : List V} (h : Reps K F r n H vs ds) : Reps K F r n H vs.reverse ds.reverse := by
  induction ds generalizing vs with
  | nil => cases vs with
    | nil => exact trivial
    | cons v vs => exact h.elim
  | cons d ds ih => cases vs with
    | nil => exact h.elim
    | cons v vs =>
      rw [List.reverse_cons, List.reverse_cons]
      exact (ih h.2).app ⟨h.1, trivial⟩
theorem Reps.set : ∀ {ds : List D} {vs : List V} {d : D} {v : V} (k : Nat), Reps K F r n H vs ds → Rep K F r n H v d → Reps K F r n H (vs.set k v) (ds.set k d)
  | [], [], _, _, k, _, _ => trivial
  | [], _ :: _, _, _, _, h, _ => h.elim
  | _ :: _, [], _, _, _, h, _ => h.elim
  | _ :: _, _ :: _, _, _, 0, h, k => ⟨k, h.2⟩
  | d :: ds, v :: vs, _, _, k + 1, h, q => ⟨h.1, Reps.set k h.2 q⟩
theorem Reps.rep {ds : List D} {vs : List V} (h : Reps K F r n H vs ds) : ∀ k : Nat, Reps K F r n H (List.replicate k vs).flatten (List.replicate k ds).flatten
  | 0 => trivial
  | k + 1 => by
    rw [List.replicate_succ, List.replicate_succ, List.flatten_cons, List.flatten_cons]
    exact h.app (Reps.rep h k)
theorem Reps.ints : ∀ (ns : List Int), Reps K F r n H (ns.map V.int) (ns.map D.int)
  | [] => trivial
  | i :: ns => ⟨rfl, Reps.ints ns⟩
theorem Reps.ofInts : ∀ {ns : List Int} {vs : List V}, Reps K F r n H vs (ns.map D.int) → vs = ns.map V.int
  | [], [], _ => rfl
  | [], _ :: _, h => h.elim
  | _ :: _, [], h => h.elim
  | i :: ns, v :: vs, h => by
    have h1 : v = V.int i := h.1
    rw [h1, Reps.ofInts (ns := ns) h.2, List.map_cons]
theorem Reps.ofBls : ∀ {ns : List Bool} {vs : List V}, Reps K F r n H vs (ns.map D.bl) → vs = ns.map V.bl
  | [], [], _ => rfl
  | [], _ :: _, h => h.elim
  | _ :: _, [], h => h.elim
  | i :: ns, v :: vs, h => by
    have h1 : v = V.bl i := h.1
    rw [h1, Reps.ofBls (ns := ns) h.2, List.map_cons]
end

/-! ### the objects -/
/-- what stands for an object's content -/
def OR (K : PySem.W.Frag) (F : FP) (r : Nat → Addr) (n : Nat) (H : Hp) (u : HO) : MO → Prop
  | .lst xs => ∃ vs, u = .lst vs ∧ Reps K F r n H vs xs
  | .dct ks xs => ∃ kvs : List (Key × V), u = .dK kvs ∧ kvs.map (·.1) = ks.map DK.key ∧ Reps K F r n H (kvs.map (·.2)) xs
theorem OR.ext {K : PySem.W.Frag} {G F F' : FP} {r r' : Nat → Addr} {n n' : Nat} {H H' : Hp} {u : HO} (e : Ext G F r n H F' r' n' H') : ∀ {o : MO}, OR K F r n H u o → OR K F' r' n' H' u o
  | .lst xs, h => by
    obtain ⟨vs, h1, h2⟩ := h
    exact ⟨vs, h1, h2.ext e xs vs⟩
  | .dct ks xs, h => by
    obtain ⟨kvs, h1, h2, h3⟩ := h
    exact ⟨kvs, h1, h2, h3.ext e xs _⟩
theorem OR.tup {K : PySem.W.Frag} {F : FP} {r : Nat → Addr} {n : Nat} {H : Hp} {u : HO} : ∀ {o : MO}, OR K F r n H u o → tupO u = false
  | .lst xs, h => by
    obtain ⟨vs, h1, h2⟩ := h
    rw [h1]
    rfl
  | .dct ks xs, h => by
    obtain ⟨kvs, h1, h2, h3⟩ := h
    rw [h1]
    rfl
structure RH (K : PySem.W.Frag) (G F : FP) (r : Nat → Addr) (M : Mem) (H : Hp) : Prop where
  obj : ∀ i o, M[i]? = some o → ∃ u, H (r i) = some u ∧ OR K F r M.length H u o
  inj : ∀ i j, i < M.length → j < M.length → r i = r j → i = j
  nf : ∀ i, i < M.length → ¬ F (r i)
  dom : ∀ p, F p → ∃ o, H p = some o
  gd : ∀ p, G p → ∃ o, H p = some o
  gF : ∀ p, G p → ¬ F p
  gr : ∀ i, i < M.length → ¬ G (r i)
/-- the slots -/
def RS (K : PySem.W.Frag) (F : FP) (r : Nat → Addr) (n : Nat) (H : Hp) (σD : Sl) (σ : L2.St) : Prop := σD.length = σ.length ∧ ∀ (i : Nat) (d : D), σD[i]? = some (some d) → ∃ v : V, σ[i]? = some (some v) ∧ Rep K F r n H v d
section
variable {K : PySem.W.Frag} {G F F' : FP} {r r' : Nat → Addr} {n n' : Nat} {M : Mem} {H H' : Hp} {σD : Sl} {σ : L2.St}
theorem RS.ext (e : Ext G F r n H F' r' n' H') (h : RS K F r n H σD σ) : RS K F' r' n' H' σD σ := ⟨h.1, fun i d q => by
  obtain ⟨v, h1, h2⟩ := h.2 i d q
  exact ⟨v, h1, h2.ext e⟩⟩
theorem RS.set (h : RS K F r n H σD σ) (i : Nat) {d : D} {v : V} (q : Rep K F r n H v d) : RS K F r n H (σD.set i (some d)) (σ.set i (some v)) := ⟨by rw [List.length_set, List.length_set]; exact h.1, fun j e hj => by
  by_cases c : i = j
  · subst c
    rw [List.getElem?_set] at hj
    simp only [if_true] at hj
    split at hj
    · rename_i hl
      have e' : d = e := by simpa using hj
      subst e'
      refine ⟨v, ?_, q⟩
      rw [List.getElem?_set]
      simp [← h.1, hl]
    · cases hj
  · rw [List.getElem?_set_ne c] at hj
    rw [List.getElem?_set_ne c]
    exact h.2 j e hj⟩
theorem RS.wipe (h : RS K F r n H σD σ) : ∀ vs : List Nat, RS K F r n H (wipeS σD vs) (L2.wipe σ vs)
  | [] => h
  | k :: vs => by
    obtain ⟨h1, h2⟩ := RS.wipe h vs
    refine ⟨by show ((wipeS σD vs).set k .none).length = ((L2.wipe σ vs).set k none).length; rw [List.length_set, List.length_set]; exact h1, fun j e hj => ?_⟩
    have hj' : ((wipeS σD vs).set k Option.none)[j]? = some (some e) := hj
    show ∃ v, ((L2.wipe σ vs).set k none)[j]? = some (some v) ∧ _
    by_cases c : k = j
    · subst c
      rw [List.getElem?_set] at hj'
      simp only [if_true] at hj'
      split at hj'
      · cases hj'
      · cases hj'
    · rw [List.getElem?_set_ne c] at hj'
      rw [List.getElem?_set_ne c]
      exact h2 j e hj'
theorem RH.at (h : RH K G F r M H) {i : Nat} (hi : i < M.length) : ∃ o u, M[i]? = some o ∧ H (r i) = some u ∧ OR K F r M.length H u o := by
  have e : M[i]? = some M[i] := List.getElem?_eq_getElem hi
  obtain ⟨u, h1, h2⟩ := h.obj i _ e
  exact ⟨_, u, e, h1, h2⟩
theorem RH.atL (h : RH K G F r M H) {i : Nat} {xs : List D} (e : M[i]? = some (.lst xs)) : ∃ vs, H (r i) = some (.lst vs) ∧ Reps K F r M.length H vs xs := by
  obtain ⟨u, h1, vs, h2, h3⟩ := h.obj i _ e
  subst h2
  exact ⟨vs, h1, h3⟩
theorem RH.atD (h : RH K G F r M H) {i : Nat} {ks : List DK} {xs : List D} (e : M[i]? = some (.dct ks xs)) : ∃ kvs : List (Key × V), H (r i) = some (.dK kvs) ∧ kvs.map (·.1) = ks.map DK.key ∧ Reps K F r M.length H (kvs.map (·.2)) xs := by
  obtain ⟨u, h1, kvs, h2, h3, h4⟩ := h.obj i _ e
  subst h2
  exact ⟨kvs, h1, h3, h4⟩
/-- a new object -/
theorem Ext.new {p : Addr} {o : HO} (hp : H p = none) (hd : ∀ q, F q → ∃ o, H q = some o) (hg : ∀ q, G q → ∃ o, H q = some o) : Ext G F r n H F r n (upd H p o) :=
  ⟨fun _ h => h, fun _ _ => rfl, Nat.le_refl _, fun q h => by
    obtain ⟨u, hu⟩ := hd q h
    exact upd_ne (ne_of_none hu hp), fun q u h _ => by rw [upd_ne (ne_of_none h hp)]; exact h, fun q h => by
    obtain ⟨u, hu⟩ := hg q h
    exact upd_ne (ne_of_none hu hp)⟩
theorem RH.new (h : RH K G F r M H) {p : Addr} {o : HO} (hp : H p = none) : RH K G F r M (upd H p o) where
  obj := fun i o' e => by
    obtain ⟨u, h1, h2⟩ := h.obj i o' e
    exact ⟨u, by rw [upd_ne (ne_of_none h1 hp)]; exact h1, h2.ext (Ext.new hp h.dom h.gd)⟩
  inj := h.inj
  nf := h.nf
  dom := fun q hq => by
    obtain ⟨u, hu⟩ := h.dom q hq
    exact ⟨u, by rw [upd_ne (ne_of_none hu hp)]; exact hu⟩
  gd := fun q hq => by
    obtain ⟨u, hu⟩ := h.gd q hq
    exact ⟨u, by rw [upd_ne (ne_of_none hu hp)]; exact hu⟩
  gF := h.gF
  gr := h.gr
theorem Ext.same (hF : ∀ p, F p → F' p) : Ext G F r n H F' r n H := ⟨hF, fun _ _ => rfl, Nat.le_refl _, fun _ _ => rfl, fun _ _ h _ => h, fun _ _ => rfl⟩
/-- from now on nobody changes what stands at p -/
abbrev FP.and (F : FP) (p : Addr) : FP := fun q => F q ∨ q = p
theorem RH.frz (h : RH K G F r M H) {p : Addr} {o : HO} (hp : H p = some o) (ne : ∀ i, i < M.length → r i ≠ p) (ng : ¬ G p) : RH K G (FP.and F p) r M H where
  obj := fun i o' e => by
    obtain ⟨u, h1, h2⟩ := h.obj i o' e
    exact ⟨u, h1, h2.ext (Ext.same (G := G) fun _ => .inl)⟩
  inj := h.inj
  nf := fun i hi q => q.elim (h.nf i hi) (ne i hi)
  dom := fun q hq => hq.elim (h.dom q) fun e => ⟨o, by rw [e]; exact hp⟩
  gd := h.gd
  gF := fun q hq z => z.elim (h.gF q hq) fun e => ng (e ▸ hq)
  gr := h.gr
/-- a reference's object is changed -/
theorem Ext.put (h : RH K G F r M H) {j : Nat} {o : HO} (hj : j < M.length) : Ext G F r M.length H F r M.length (upd H (r j) o) :=
  ⟨fun _ h => h, fun _ _ => rfl, Nat.le_refl _, fun q hq => upd_ne fun e => h.nf j hj (by rw [← e]; exact hq), fun q u hu ht => by
    obtain ⟨o', u', _, h1, h2⟩ := h.at hj
    exact (upd_ne (ne_of hu h1 fun e => by rw [e, h2.tup] at ht; cases ht)).trans hu, fun q hq => upd_ne fun e => h.gr j hj (e ▸ hq)⟩
theorem RH.put (h : RH K G F r M H) {j : Nat} {o : MO} {u : HO} (hj : j < M.length) (hx : OR K F r M.length H u o) : RH K G F r (M.set j o) (upd H (r j) u) where
  obj := fun i o' e => by
    rw [List.length_set]
    have E := Ext.put (o := u) h hj
    by_cases c : j = i
    · subst c
      rw [List.getElem?_set_self hj] at e
      have e' : o = o' := by simpa using e
      subst e'
      exact ⟨u, upd_same, hx.ext E⟩
    · rw [List.getElem?_set_ne c] at e
      obtain ⟨us, h1, h2⟩ := h.obj i o' e
      have hi : i < M.length := (List.getElem?_eq_some_iff.mp e).1
      exact ⟨us, by rw [upd_ne fun q => c (h.inj i j hi hj q).symm]; exact h1, h2.ext E⟩
  inj := fun a b ha hb => h.inj a b (by rwa [List.length_set] at ha) (by rwa [List.length_set] at hb)
  nf := fun a ha => h.nf a (by rwa [List.length_set] at ha)
  dom := fun q hq => by
    obtain ⟨u, hu⟩ := h.dom q hq
    exact ⟨u, (upd_ne fun e => h.nf j hj (by rw [← e]; exact hq)).trans hu⟩
  gd := fun q hq => by
    obtain ⟨u, hu⟩ := h.gd q hq
    exact ⟨u, (upd_ne fun e => h.gr j hj (by rw [← e]; exact hq)).trans hu⟩
  gF := h.gF
  gr := fun a ha => h.gr a (by rwa [List.length_set] at ha)
/-- a list that nobody else holds becomes a reference's object -/
def rBox (r : Nat → Addr) (n : Nat) (p : Addr) : Nat → Addr := fun i => if i = n then p else r i
theorem Ext.box (h : RH K G F r M H) {p : Addr} : Ext G F r M.length H F (rBox r M.length p) (M.length + 1) H :=
  ⟨fun _ h => h, fun i hi => if_neg (Nat.ne_of_lt hi), Nat.le_succ _, fun _ _ => rfl, fun _ _ h _ => h, fun _ _ => rfl⟩
theorem RH.box (h : RH K G F r M H) {p : Addr} {o : MO} {u : HO} (hp : H p = some u) (hF : ¬ F p) (ne : ∀ i, i < M.length → r i ≠ p) (ng : ¬ G p) (hx : OR K F r M.length H u o) : RH K G F (rBox r M.length p) (M ++ [o]) H where
  obj := fun i o' e => by
    rw [List.length_append]
    have E := Ext.box (p := p) h
    by_cases c : i = M.length
    · subst c
      rw [List.getElem?_append_right (Nat.le_refl _), Nat.sub_self] at e
      have e' : o = o' := by simpa using e
      subst e'
      refine ⟨u, ?_, hx.ext E⟩
      show H (if M.length = M.length then p else _) = _
      rw [if_pos rfl]
      exact hp
    · have hl : i < (M ++ [o]).length := (List.getElem?_eq_some_iff.mp e).1
      have hi : i < M.length := by
        rw [List.length_append, List.length_singleton] at hl
        omega
      rw [List.getElem?_append_left hi] at e
      obtain ⟨us, h1, h2⟩ := h.obj i o' e
      refine ⟨us, ?_, h2.ext E⟩
      show H (if i = M.length then p else r i) = _
      rw [if_neg c]
      exact h1
  inj := fun a b ha hb q => by
    rw [List.length_append, List.length_singleton] at ha hb
    have q' : (if a = M.length then p else r a) = (if b = M.length then p else r b) := q
    by_cases ca : a = M.length
    · by_cases cb : b = M.length
      · omega
      · rw [if_pos ca, if_neg cb] at q'
        exact absurd q'.symm (ne b (by omega))
    · by_cases cb : b = M.length
      · rw [if_neg ca, if_pos cb] at q'
        exact absurd q' (ne a (by omega))
      · rw [if_neg ca, if_neg cb] at q'
        exact h.inj a b (by omega) (by omega) q'
  nf := fun a ha q => by
    rw [List.length_append, List.length_singleton] at ha
    have q' : F (if a = M.length then p else r a) := q
    by_cases ca : a = M.length
    · rw [if_pos ca] at q'
      exact hF q'
    · rw [if_neg ca] at q'
      exact h.nf a (by omega) q'
  dom := h.dom
  gd := h.gd
  gF := h.gF
  gr := fun a ha q => by
    rw [List.length_append, List.length_singleton] at ha
    have q' : G (if a = M.length then p else r a) := q
    by_cases ca : a = M.length
    · rw [if_pos ca] at q'
      exact ng q'
    · rw [if_neg ca] at q'
      exact h.gr a (by omega) q'
end
end Mi
namespace Mi
open PySem PySem.Spec PyProof.Rows L2

/-- what a value is: fr: a list is a new one that nobody else holds -/
def RX (K : PySem.W.Frag) (fr : Bool) (G F : FP) (r : Nat → Addr) (n : Nat) (H : Hp) (v : V) (d : D) : Prop := match fr, d with
  | true, .lst ds => ∃ (p : Addr) (vs : List V), v = .ref p ∧ H p = some (.lst vs) ∧ Reps K F r n H vs ds ∧ ¬ F p ∧ (∀ i, i < n → r i ≠ p) ∧ ¬ G p
  | true, .dct ks ds => ∃ (p : Addr) (kvs : List (Key × V)), v = .ref p ∧ H p = some (.dK kvs) ∧ kvs.map (·.1) = ks.map DK.key ∧ Reps K F r n H (kvs.map (·.2)) ds ∧ ¬ F p ∧ (∀ i, i < n → r i ≠ p) ∧ ¬ G p
  | _, d => Rep K F r n H v d
/-- all ways on are wanted -/
def Fin (K : PySem.W.Frag) (fr : Bool) (G F : FP) (r : Nat → Addr) (n : Nat) (H : Hp) (M' : Mem) (d : D) (Q : VK) : Prop :=
  ∀ v F' r' H', Ext G F r n H F' r' M'.length H' → RH K G F' r' M' H' → RX K fr G F' r' M'.length H' v d → Q v H'
section
variable {K : PySem.W.Frag} {fr : Bool} {G F F' : FP} {r r' : Nat → Addr} {n n' : Nat} {M M' : Mem} {H H' : Hp} {v : V} {d : D} {Q : VK}
theorem RX.frz (h : RH K G F r M H) (x : RX K fr G F r M.length H v d) : ∃ F', (∀ p, F p → F' p) ∧ RH K G F' r M H ∧ Rep K F' r M.length H v d := by
  have same : Rep K F r M.length H v d → ∃ F', (∀ p, F p → F' p) ∧ RH K G F' r M H ∧ Rep K F' r M.length H v d := fun q => ⟨F, fun _ z => z, h, q⟩
  cases fr with
  | false => cases d <;> exact same x
  | true =>
    cases d with
    | lst ds =>
      obtain ⟨p, vs, hv, hp, hr, hF, hn, hg⟩ := x
      exact ⟨FP.and F p, fun _ => .inl, h.frz hp hn hg, p, vs, hv, .inr rfl, hp, hr.ext (Ext.same (G := G) fun _ => .inl) ds vs⟩
    | dct ks ds =>
      obtain ⟨p, kvs, hv, hp, hk, hr, hF, hn, hg⟩ := x
      exact ⟨FP.and F p, fun _ => .inl, h.frz hp hn hg, p, kvs, hv, .inr rfl, hp, hk, hr.ext (Ext.same (G := G) fun _ => .inl) ds _⟩
    | _ => exact same x
/-- the weaker end -/
theorem Fin.weak (q : Fin K false G F r n H M' d Q) : Fin K true G F r n H M' d Q := fun v F' r' H' e h x => by
  obtain ⟨F2, h1, h2, h3⟩ := RX.frz h x
  exact q v F2 r' H' (e.trans (Ext.same h1)) h2 (by cases d <;> exact h3)
theorem Fin.of (q : Fin K fr G F r n H M' d Q) : Fin K true G F r n H M' d Q := by
  cases fr with
  | true => exact q
  | false => exact q.weak
theorem Fin.ext (e : Ext G F r n H F' r' n' H') (q : Fin K fr G F r n H M' d Q) : Fin K fr G F' r' n' H' M' d Q := fun v F2 r2 H2 e2 h x => q v F2 r2 H2 (e.trans e2) h x
theorem Fin.bl {b : Bool} (h : RH K G F r M H) (q : Fin K fr G F r M.length H M (.bl b) Q) : Q (.bl b) H := q _ F r H Ext.refl h (by cases fr <;> rfl)
theorem Fin.int {i : Int} (h : RH K G F r M H) (q : Fin K fr G F r M.length H M (.int i) Q) : Q (.int i) H := q _ F r H Ext.refl h (by cases fr <;> rfl)
theorem Fin.non (h : RH K G F r M H) (q : Fin K fr G F r M.length H M .non Q) : Q .non H := q _ F r H Ext.refl h (by cases fr <;> rfl)
theorem Fin.str {s : List Nat} (h : RH K G F r M H) (q : Fin K fr G F r M.length H M (.str s) Q) : Q (.str ⟨s.toArray⟩) H := q _ F r H Ext.refl h (by cases fr <;> rfl)
theorem Fin.tupO {p : Addr} {vs : List V} {ds : List D} (h : RH K G F r M H) (q : Fin K fr G F r M.length H M (.tup ds) Q) (hs : SqT K H p vs) (hr : Reps K F r M.length H vs ds) : Q (.ref p) H :=
  q _ F r H Ext.refl h (by cases fr <;> exact ⟨p, vs, rfl, hs, hr⟩)
theorem Fin.tup {p : Addr} {vs : List V} {ds : List D} (h : RH K G F r M H) (q : Fin K fr G F r M.length H M (.tup ds) Q) (hr : Reps K F r M.length H vs ds) (hp : H p = none) : Q (.ref p) (upd H p (.tup vs)) :=
  q _ F r _ (Ext.new hp h.dom h.gd) (h.new hp) (by cases fr <;> exact ⟨p, vs, rfl, .of upd_same, hr.ext (Ext.new hp h.dom h.gd) ds vs⟩)
theorem new_apart {p : Addr} (h : RH K G F r M H) (hp : H p = none) : ¬ F p ∧ (∀ i, i < M.length → r i ≠ p) ∧ ¬ G p := by
  refine ⟨fun z => ?_, fun i hi e => ?_, fun z => ?_⟩
  · obtain ⟨o, ho⟩ := h.dom p z
    rw [hp] at ho
    cases ho
  · obtain ⟨o, u, _, h1, _⟩ := h.at hi
    rw [e, hp] at h1
    cases h1
  · obtain ⟨o, ho⟩ := h.gd p z
    rw [hp] at ho
    cases ho
theorem Fin.lst {p : Addr} {vs : List V} {ds : List D} (h : RH K G F r M H) (q : Fin K fr G F r M.length H M (.lst ds) Q) (hr : Reps K F r M.length H vs ds) (hp : H p = none) : Q (.ref p) (upd H p (.lst vs)) :=
  q.of _ F r _ (Ext.new hp h.dom h.gd) (h.new hp) ⟨p, vs, rfl, upd_same, hr.ext (Ext.new hp h.dom h.gd) ds vs, new_apart h hp⟩
theorem Fin.dct {p : Addr} {kvs : List (Key × V)} {ks : List DK} {ds : List D} (h : RH K G F r M H) (q : Fin K fr G F r M.length H M (.dct ks ds) Q) (hk : kvs.map (·.1) = ks.map DK.key) (hr : Reps K F r M.length H (kvs.map (·.2)) ds) (hp : H p = none) : Q (.ref p) (upd H p (.dK kvs)) :=
  q.of _ F r _ (Ext.new hp h.dom h.gd) (h.new hp) ⟨p, kvs, rfl, upd_same, hk, hr.ext (Ext.new hp h.dom h.gd) ds _, new_apart h hp⟩
theorem Fin.old (h : RH K G F r M H) (q : Fin K false G F r M.length H M d Q) (x : Rep K F r M.length H v d) : Q v H := q _ F r H Ext.refl h (by cases d <;> exact x)

/-- what is read: a list may be a reference's -/
def Rd0 (K : PySem.W.Frag) (F : FP) (r : Nat → Addr) (n : Nat) (H : Hp) (v : V) (d : D) : Prop := match d with
  | .lst ds => ∃ (p : Addr) (vs : List V), v = .ref p ∧ H p = some (.lst vs) ∧ Reps K F r n H vs ds
  | .dct ks ds => ∃ (p : Addr) (kvs : List (Key × V)), v = .ref p ∧ H p = some (.dK kvs) ∧ kvs.map (·.1) = ks.map DK.key ∧ Reps K F r n H (kvs.map (·.2)) ds
  | d => Rep K F r n H v d
theorem Rd0.dct {ks : List DK} {ds : List D} (h : Rd0 K F r n H v (.dct ks ds)) : ∃ (p : Addr) (kvs : List (Key × V)), v = .ref p ∧ H p = some (.dK kvs) ∧ kvs.map (·.1) = ks.map DK.key ∧ Reps K F r n H (kvs.map (·.2)) ds := h
theorem Rd0.int {i : Int} (h : Rd0 K F r n H v (.int i)) : v = .int i := h
theorem Rd0.str {s : List Nat} (h : Rd0 K F r n H v (.str s)) : v = .str ⟨s.toArray⟩ := h
theorem Rd0.bl {b : Bool} (h : Rd0 K F r n H v (.bl b)) : v = .bl b := h
theorem Rd0.non (h : Rd0 K F r n H v .non) : v = .non := h
theorem Rd0.tup {ds : List D} (h : Rd0 K F r n H v (.tup ds)) : ∃ (p : Addr) (vs : List V), v = .ref p ∧ SqT K H p vs ∧ Reps K F r n H vs ds := h
theorem Rd0.lst {ds : List D} (h : Rd0 K F r n H v (.lst ds)) : ∃ (p : Addr) (vs : List V), v = .ref p ∧ H p = some (.lst vs) ∧ Reps K F r n H vs ds := h
theorem rd_rep (h : RH K G F r M H) (x : Rep K F r M.length H v d) : Rd0 K F r M.length H v (rd M d) := by
  cases d with
  | ref i =>
    obtain ⟨hi, hv⟩ := x
    obtain ⟨o, u, e1, e2, e3⟩ := h.at hi
    have e : rd M (.ref i) = o.d := by
      unfold rd
      simp only [e1]
    rw [e]
    cases o with
    | lst xs =>
      obtain ⟨vs, h1, h2⟩ := e3
      subst h1
      exact ⟨_, vs, hv, e2, h2⟩
    | dct ks xs =>
      obtain ⟨kvs, h1, h2, h3⟩ := e3
      subst h1
      exact ⟨_, kvs, hv, e2, h2, h3⟩
  | lst ds =>
    obtain ⟨p, vs, hv, hF, hp, hr⟩ := x
    exact ⟨p, vs, hv, hp, hr⟩
  | dct ks ds =>
    obtain ⟨p, kvs, hv, hF, hp, hk, hr⟩ := x
    exact ⟨p, kvs, hv, hp, hk, hr⟩
  | _ => exact x
end

/-! ### dicts -/
theorem DK.inj {a b : DK} (h : a.key = b.key) : a = b := by
  cases a with
  | i n => cases b with
    | i m => cases h; rfl
    | s y => cases h
  | s x => cases b with
    | i m => cases h
    | s y =>
      have h1 : (⟨x.toArray⟩ : Str) = ⟨y.toArray⟩ := Sum.inr.inj h
      have h2 : x.toArray = y.toArray := congrArg Str.cps h1
      have h3 : x = y := by
        have := congrArg Array.toList h2
        simpa using this
      rw [h3]
section
variable {K : PySem.W.Frag} {F : FP} {r : Nat → Addr} {n : Nat} {H : Hp}
theorem key_val {d : D} {v : V} {k : DK} (h : Rep K F r n H v d) (e : keyOf d = some k) : v = kV k.key := by
  cases d <;> first | (cases e; done) | (cases e; exact h)
theorem dct_has {k : DK} : ∀ {ks : List DK} {kvs : List (Key × V)}, kvs.map (·.1) = ks.map DK.key → (valV kvs k.key).isSome = ks.contains k
  | [], [], _ => rfl
  | [], _ :: _, h => by cases h
  | _ :: _, [], h => by cases h
  | k' :: ks, p :: kvs, h => by
    obtain ⟨h1, h2⟩ := List.cons.inj (show p.1 :: kvs.map (·.1) = k'.key :: ks.map DK.key from h)
    by_cases c : k' = k
    · rw [valV_pos (by rw [h1, c])]
      subst c
      simp
    · rw [valV_neg (fun e => c (DK.inj (h1.symm.trans e))), dct_has h2, List.contains_cons]
      have : (k == k') = false := beq_eq_false_iff_ne.mpr fun e => c e.symm
      rw [this, Bool.false_or]
theorem dct_look {k : DK} : ∀ {ks : List DK} {kvs : List (Key × V)} {ds : List D} {d : D}, kvs.map (·.1) = ks.map DK.key → Reps K F r n H (kvs.map (·.2)) ds → lookK ks ds k = some d → ∃ v, valV kvs k.key = some v ∧ Rep K F r n H v d
  | [], _, _, _, _, _, e => by unfold lookK at e; cases e
  | _ :: _, [], _, _, h, _, _ => by cases h
  | k' :: ks, p :: kvs, [], _, h, h2, e => by unfold lookK at e; cases e
  | k' :: ks, p :: kvs, x :: ds, d, h, hr, e => by
    obtain ⟨h1, h2⟩ := List.cons.inj (show p.1 :: kvs.map (·.1) = k'.key :: ks.map DK.key from h)
    have hr : Rep K F r n H p.2 x ∧ Reps K F r n H (kvs.map (·.2)) ds := hr
    unfold lookK at e
    split at e
    · rename_i c
      cases e
      exact ⟨p.2, valV_pos (by rw [h1, c]), hr.1⟩
    · rename_i c
      rw [valV_neg (fun e => c (DK.inj (h1.symm.trans e)))]
      exact dct_look h2 hr.2 e
theorem put_any {k : DK} : ∀ {ks : List DK} {kvs : List (Key × V)}, kvs.map (·.1) = ks.map DK.key → (kvs.any fun kv => decide (kv.1 = k.key)) = ks.contains k := fun {ks kvs} h => by
  rw [valV_any]
  exact dct_has h
theorem set_map {k : DK} {v : V} {d : D} (q : Rep K F r n H v d) : ∀ {ks : List DK} {kvs : List (Key × V)} {ds : List D}, kvs.map (·.1) = ks.map DK.key → Reps K F r n H (kvs.map (·.2)) ds →
    (kvs.map fun kv => if kv.1 = k.key then (kv.1, v) else kv).map (·.1) = ks.map DK.key ∧ Reps K F r n H ((kvs.map fun kv => if kv.1 = k.key then (kv.1, v) else kv).map (·.2)) (setK ks ds k d)
  | [], [], [], _, h => ⟨rfl, h⟩
  | [], [], _ :: _, _, h => h.elim
  | [], _ :: _, _, h, _ => by cases h
  | _ :: _, [], _, h, _ => by cases h
  | k' :: ks, p :: kvs, [], _, h => h.elim
  | k' :: ks, p :: kvs, x :: ds, h, hr => by
    obtain ⟨h1, h2⟩ := List.cons.inj (show p.1 :: kvs.map (·.1) = k'.key :: ks.map DK.key from h)
    have hr : Rep K F r n H p.2 x ∧ Reps K F r n H (kvs.map (·.2)) ds := hr
    obtain ⟨i1, i2⟩ := set_map q h2 hr.2
    by_cases c : k' = k
    · have e : p.1 = k.key := by rw [h1, c]
      simp only [List.map_cons, if_pos e]
      refine ⟨by rw [i1, h1], ?_⟩
      show Reps K F r n H (v :: _) ((if k' = k then d else x) :: setK ks ds k d)
      rw [if_pos c]
      exact ⟨q, i2⟩
    · have e : ¬ p.1 = k.key := fun e => c (DK.inj (h1.symm.trans e))
      simp only [List.map_cons, if_neg e]
      refine ⟨by rw [i1, h1], ?_⟩
      show Reps K F r n H (p.2 :: _) ((if k' = k then d else x) :: setK ks ds k d)
      rw [if_neg c]
      exact ⟨hr.1, i2⟩
theorem dct_put {k : DK} {v : V} {d : D} {ks : List DK} {kvs : List (Key × V)} {ds : List D} (h : kvs.map (·.1) = ks.map DK.key) (hr : Reps K F r n H (kvs.map (·.2)) ds) (q : Rep K F r n H v d) :
    (putK kvs k.key v).map (·.1) = (putKs ks ds k d).1.map DK.key ∧ Reps K F r n H ((putK kvs k.key v).map (·.2)) (putKs ks ds k d).2 := by
  unfold putK putKs
  rw [put_any h]
  cases c : ks.contains k with
  | true =>
    simp only [if_true]
    exact set_map q h hr
  | false =>
    simp only [Bool.false_eq_true, if_false]
    rw [List.map_append, List.map_append, List.map_append, h]
    exact ⟨rfl, hr.app ⟨q, trivial⟩⟩
theorem dct_len {ks : List DK} {kvs : List (Key × V)} (h : kvs.map (·.1) = ks.map DK.key) : kvs.length = ks.length := by
  have := congrArg List.length h
  rwa [List.length_map, List.length_map] at this
end
theorem str_app (x y : List Nat) : (⟨x.toArray⟩ : Str) ++ ⟨y.toArray⟩ = ⟨(x ++ y).toArray⟩ := by
  show (⟨x.toArray ++ y.toArray⟩ : Str) = _
  simp
theorem line_eq : line = sizeLine := by decide
/-- a tuple, repeated -/
def rRepM (K : PySem.W.Frag) : R2 := fun x y H Q => ∃ l k xs, x = .ref l ∧ y = .int k ∧ SqT K H l xs ∧ xs ≠ [] ∧ 2 ≤ k ∧ xs.length * k.toNat ≤ 1000000 ∧ ∀ p, H p = none → Q (.ref p) (upd H p (.tup (List.replicate k.toNat xs).flatten))
theorem op_repM {X : Cx} : OpR X (binaryOp .Mult) (rRepM X.K) := by
  intro pins s σ H x y v u Q I rx ry h
  obtain ⟨l, k, xs, rfl, rfl, hT, hne, h1, h2, q⟩ := h
  cases rx
  obtain ⟨t, rfl⟩ := ry
  obtain ⟨its, r, ⟨⟨cls, dd, data, sl⟩, ho, hc, n, hd⟩, hs⟩ := I.tuple hT
  simp only at hc hd
  subst hc hd
  have hle : its.length = xs.length := r.length.symm
  have hn : its ≠ [] := fun e => hne (by
    rw [e] at hle
    exact List.eq_nil_of_length_eq_zero hle.symm)
  have hi : its.toArray.isEmpty = false := by
    cases its with
    | nil => exact absurd rfl hn
    | cons a b => rfl
  have hpos : 1 ≤ xs.length := by
    cases xs with
    | nil => exact absurd rfl hne
    | cons a b => exact Nat.succ_le_succ (Nat.zero_le _)
  have hk : k.toNat ≤ 1000000 := Nat.le_trans (Nat.le_mul_of_pos_left _ hpos) h2
  have hsz0 : its.toArray.size = xs.length := by rw [List.size_toArray, hle]
  have hm : ((its.toArray.size : Nat) : Int) * k ≤ 1000000 := by
    rw [hsz0]
    have a2 : k = (k.toNat : Int) := by omega
    rw [a2, ← Int.natCast_mul]
    omega
  have flen : (List.replicate k.toNat its).flatten.length ≤ sizeLine := by
    rw [PyProof.Rows.lm_len_rep_flat, hle, sizeLine_eq, Nat.mul_comm]
    omega
  have c0 : (decide (k < -(2 ^ 63)) || decide (k ≥ 2 ^ 63)) = false := by
    rw [decide_eq_false (by omega), decide_eq_false (by omega)] <;> rfl
  have c1 : (its.toArray.isEmpty || k == 1) = false := by
    rw [hi, Bool.false_or]
    exact beq_eq_false_iff_ne.mpr (by omega)
  have c2 : (decide (k ≤ 0) || its.toArray.isEmpty) = false := by
    rw [hi, Bool.or_false]
    exact decide_eq_false (by omega)
  have c4 : Builtin.Tuple.tupleTooMany (((its.toArray.size : Nat) : Int) * k) = false := by
    unfold Builtin.Tuple.tupleTooMany
    rw [sizeLine_eq]
    exact decide_eq_false (by omega)
  refine wpAny_binaryOp_repeat_ref (T := "tuple") (U := "int") (by decide) ⟨_, ho, rfl⟩ (fun s' => typeIs_int s' k t) noFill_tuple_mul F.fills_int_mul F.slot_int_rmul repeat_tuple F.slot_int_index.lookup
    (call_meets F.slot_int_rmul (typeIs_int s k t) F.entry_int_rmul (F.args_int_rmul_2 _ _) (int_rmul_tuple k t l its.toArray n dd sl)
      ⟨ho, rfl, ⟨_, ho, rfl⟩, call_meets F.slot_tuple_mul ⟨_, ho, rfl⟩ F.entry_tuple_mul (F.args_tuple_mul_2 _ _) (tuple_mulW l its.toArray n dd sl k t c0 c1 c2 (by omega) c4 (by rw [size_rep, List.size_toArray]; exact flen)) ⟨ho, ?_⟩⟩)
  rw [size_rep]
  refine ⟨.ref s.heap.objs.size, _, I.laid (t' := s.toks) (o := .tup (List.replicate k.toNat xs).flatten) (fun b ob q => Heap.get?_push_of_some _ q) (Nat.le_refl _) ?_, rfl, q _ (I.hok.fresh (Nat.le_refl _))⟩
  exact ⟨by rw [PyProof.Rows.lm_len_rep_flat, sizeLine_eq, Nat.mul_comm]; omega, _, r.rep k.toNat, IsTup.new _ _⟩
/-- a two-place operation by data -/
def rV2 (K : PySem.W.Frag) (g : Mem → D → D → Option D) : R2 := fun x y H Q => ∃ G F r M dx dy d, RH K G F r M H ∧ Rep K F r M.length H x dx ∧ Rep K F r M.length H y dy ∧ g M dx dy = some d ∧ Fin K true G F r M.length H M d Q
section
variable {X : Cx}
theorem op_bin {op : Operator} : OpR X (binaryOp op) (rV2 X.K fun M => binD M op) := by
  intro pins s σ H x y v u Q I rx ry h
  obtain ⟨G, F, r, M, dx, dy, d, hR, hx, hy, hg, hQ⟩ := h
  have hx' := rd_rep hR hx
  have hy' := rd_rep hR hy
  have hg' : bin0 op (rd M dx) (rd M dy) = some d := hg
  clear hg
  generalize rd M dx = a at hx' hg'
  generalize rd M dy = b at hy' hg'
  unfold bin0 at hg'
  split at hg'
  · -- int + int
    have e1 := Rd0.int hx'
    have e2 := Rd0.int hy'
    subst e1 e2
    cases hg'
    exact op_add pins s σ H _ _ v u Q I rx ry ⟨_, _, rfl, rfl, hQ.int hR⟩
  · have e1 := Rd0.int hx'
    have e2 := Rd0.int hy'
    subst e1 e2
    cases hg'
    exact op_sub pins s σ H _ _ v u Q I rx ry ⟨_, _, rfl, rfl, hQ.int hR⟩
  · have e1 := Rd0.int hx'
    have e2 := Rd0.int hy'
    subst e1 e2
    split at hg'
    · rename_i hc
      cases hg'
      refine op_mul pins s σ H _ _ v u Q I rx ry ⟨_, _, rfl, rfl, ?_, hQ.int hR⟩
      unfold mulOk at hc
      simp only [Bool.or_eq_true, Bool.and_eq_true, decide_eq_true_eq] at hc
      rcases hc with ⟨h1, h2⟩ | ⟨h1, h2⟩
      · exact .inl ⟨h1, h2⟩
      · exact .inr ⟨h1, h2⟩
    · cases hg'
  · have e1 := Rd0.int hx'
    have e2 := Rd0.int hy'
    subst e1 e2
    split at hg'
    · rename_i hc
      cases hg'
      exact op_fdivN pins s σ H _ _ v u Q I rx ry ⟨_, _, rfl, rfl, hc, hQ.int hR⟩
    · cases hg'
  · have e1 := Rd0.int hx'
    have e2 := Rd0.int hy'
    subst e1 e2
    split at hg'
    · rename_i hc
      cases hg'
      exact op_modN pins s σ H _ _ v u Q I rx ry ⟨_, _, rfl, rfl, hc, hQ.int hR⟩
    · cases hg'
  · have e1 := Rd0.int hx'
    have e2 := Rd0.int hy'
    subst e1 e2
    split at hg'
    · rename_i hc
      cases hg'
      exact op_pow pins s σ H _ _ v u Q I rx ry ⟨_, _, rfl, rfl, ⟨hc.1, hc.2.1, hc.2.2⟩, hQ.int hR⟩
    · cases hg'
  · have e1 := Rd0.int hx'
    have e2 := Rd0.int hy'
    subst e1 e2
    split at hg'
    · rename_i hc
      cases hg'
      exact op_shl pins s σ H _ _ v u Q I rx ry ⟨_, _, rfl, rfl, ⟨hc.1, hc.2.1, hc.2.2⟩, hQ.int hR⟩
    · cases hg'
  · have e1 := Rd0.int hx'
    have e2 := Rd0.int hy'
    subst e1 e2
    split at hg'
    · rename_i hc
      cases hg'
      exact op_shr pins s σ H _ _ v u Q I rx ry ⟨_, _, rfl, rfl, hc, hQ.int hR⟩
    · cases hg'
  · have e1 := Rd0.int hx'
    have e2 := Rd0.int hy'
    subst e1 e2
    cases hg'
    exact op_and pins s σ H _ _ v u Q I rx ry ⟨_, _, rfl, rfl, hQ.int hR⟩
  · have e1 := Rd0.int hx'
    have e2 := Rd0.int hy'
    subst e1 e2
    cases hg'
    exact op_or pins s σ H _ _ v u Q I rx ry ⟨_, _, rfl, rfl, hQ.int hR⟩
  · have e1 := Rd0.int hx'
    have e2 := Rd0.int hy'
    subst e1 e2
    cases hg'
    exact op_xor pins s σ H _ _ v u Q I rx ry ⟨_, _, rfl, rfl, hQ.int hR⟩
  · -- str + str
    rename_i p q
    have e1 := Rd0.str hx'
    have e2 := Rd0.str hy'
    subst e1 e2
    split at hg'
    · rename_i hc
      cases hg'
      refine op_add_str pins s σ H _ _ v u Q I rx ry ⟨_, _, rfl, rfl, ?_, ?_⟩
      · rw [← line_eq]
        simpa [Str.length] using hc
      · rw [str_app]
        exact hQ.str hR
    · cases hg'
  · -- tuple + tuple
    obtain ⟨pa, va, rfl, ha, ra⟩ := hx'
    obtain ⟨pb, vb, rfl, hb, rb⟩ := hy'
    split at hg'
    · rename_i hc
      cases hg'
      refine op_catA pins s σ H _ _ v u Q I rx ry ⟨_, _, va, vb, rfl, rfl, ha, hb, ?_, fun e => ?_, fun _ e => ?_, fun _ _ p hp => hQ.tup hR (ra.app rb) hp⟩
      · rw [ra.len, rb.len, ← line_eq]
        exact hc
      · subst e
        exact hQ.tupO hR hb (ra.app rb)
      · subst e
        have q := ra.app rb
        rw [List.append_nil] at q
        exact hQ.tupO hR ha q
    · cases hg'
  · -- list + list
    obtain ⟨pa, va, rfl, ha, ra⟩ := hx'
    obtain ⟨pb, vb, rfl, hb, rb⟩ := hy'
    split at hg'
    · rename_i hc
      cases hg'
      refine op_cat pins s σ H _ _ v u Q I rx ry ⟨_, _, va, vb, rfl, rfl, ha, hb, ?_, fun p hp => hQ.lst hR (ra.app rb) hp⟩
      rw [ra.len, rb.len, ← line_eq]
      exact hc
    · cases hg'
  · -- tuple * int
    obtain ⟨pa, va, rfl, ha, ra⟩ := hx'
    have e2 := Rd0.int hy'
    subst e2
    split at hg'
    · rename_i hc
      cases hg'
      obtain ⟨h1, h2, h3⟩ := hc
      refine op_repM pins s σ H _ _ v u Q I rx ry ⟨_, _, va, rfl, rfl, ha, ?_, h2, by rw [ra.len]; exact h3, fun p hp => hQ.tup hR (ra.rep _) hp⟩
      intro e
      subst e
      have e0 := List.eq_nil_of_length_eq_zero ra.len.symm
      rw [e0] at h1
      cases h1
    · cases hg'
  · obtain ⟨pa, va, rfl, ha, ra⟩ := hx'
    have e2 := Rd0.int hy'
    subst e2
    split at hg'
    · rename_i hc
      cases hg'
      obtain ⟨h1, h2, h3⟩ := hc
      refine op_rep pins s σ H _ _ v u Q I rx ry ⟨_, _, va, rfl, rfl, ha, by omega, by omega, by rw [ra.len, ← line_eq]; exact h3, fun p hp => hQ.lst hR (ra.rep _) hp⟩
    · cases hg'
  · cases hg'
end
end Mi
namespace Mi
open PySem PySem.Spec PyProof.Rows L2

/-! ### data of the library -/
mutual
def toPy : D → PyData
  | .non => .none
  | .bl b => .bool b
  | .int i => .int i
  | .str s => .str ⟨s.toArray⟩
  | .tup xs => .tuple (toPys xs)
  | .lst xs => .list (toPys xs)
  | _ => .none
def toPys : List D → List PyData
  | [] => []
  | x :: xs => toPy x :: toPys xs
end
theorem ba {a b : Bool} (h : (a && b) = true) : a = true ∧ b = true := Bool.and_eq_true_iff.mp h
section
variable {K : PySem.W.Frag} {G F : FP} {r : Nat → Addr} {n : Nat} {M : Mem} {H : Hp}
mutual
theorem dp_of : ∀ (k : Nat) (d : D) (v : V), D.okN k d = true → Rep K F r n H v d → Dp K H v (toPy d)
  | _, .non, _, _, h => by rw [Rep.non h]; exact .non
  | _, .bl _, _, _, h => by rw [Rep.bl h]; exact .bl _
  | _, .int _, _, _, h => by rw [Rep.int h]; exact .int _
  | _, .str _, _, _, h => by rw [Rep.str h]; exact .str _
  | k + 1, .tup xs, _, o, h => by
    obtain ⟨p, vs, rfl, hs, hr⟩ := h
    exact .tup hs (dps_of k xs vs o hr)
  | k + 1, .lst xs, _, o, h => by
    obtain ⟨p, vs, rfl, hF, hs, hr⟩ := h
    exact .lst (.of hs) (dps_of k xs vs o hr)
  | 0, .tup xs, _, o, h => by cases o
  | 0, .lst xs, _, o, h => by cases o
  | 0, .scr xs, _, o, h => by cases o
  | k + 1, .scr xs, _, o, h => by cases o
  | 0, .ref xs, _, o, h => by cases o
  | k + 1, .ref xs, _, o, h => by cases o
theorem dps_of : ∀ (k : Nat) (ds : List D) (vs : List V), D.okNs k ds = true → Reps K F r n H vs ds → DpAll K H vs (toPys ds)
  | _, [], [], _, _ => .nil
  | _, [], _ :: _, _, h => h.elim
  | _, _ :: _, [], _, h => h.elim
  | k, d :: ds, v :: vs, o, h => by
    obtain ⟨o1, o2⟩ := ba o
    exact .cons (dp_of k d v o1 h.1) (dps_of k ds vs o2 h.2)
end
theorem dp_rd {k : Nat} {d : D} {v : V} (o : D.okN k d = true) (h : Rd0 K F r n H v d) : Dp K H v (toPy d) := by
  cases d with
  | lst xs =>
    obtain ⟨p, vs, rfl, hs, hr⟩ := h
    cases k with
    | zero => cases o
    | succ k => exact .lst (.of hs) (dps_of k xs vs o hr)
  | dct ks xs => cases k <;> cases o
  | _ => exact dp_of (F := F) (r := r) (n := n) k _ v o h
end
mutual
theorem lay_of : ∀ (k : Nat) (d : D), D.okN k d = true → (toPy d).canLay0 = true ∧ (toPy d).depth ≤ k
  | _, .non, _ => ⟨rfl, Nat.zero_le _⟩
  | _, .bl _, _ => ⟨rfl, Nat.zero_le _⟩
  | _, .int _, _ => ⟨rfl, Nat.zero_le _⟩
  | k, .str s, o => by
    refine ⟨?_, Nat.zero_le _⟩
    have o' : s.all (· < 0x110000) = true := by cases k <;> exact o
    show PySem.PyData.strOk ⟨s.toArray⟩ = true
    unfold PySem.PyData.strOk
    simpa using o'
  | k + 1, .tup xs, o => by
    obtain ⟨h1, h2⟩ := lays_of k xs o
    exact ⟨h1, Nat.succ_le_succ h2⟩
  | k + 1, .lst xs, o => by
    obtain ⟨h1, h2⟩ := lays_of k xs o
    exact ⟨h1, Nat.succ_le_succ h2⟩
  | 0, .tup xs, o => by cases o
  | 0, .lst xs, o => by cases o
  | 0, .scr xs, o => by cases o
  | k + 1, .scr xs, o => by cases o
  | 0, .ref xs, o => by cases o
  | k + 1, .ref xs, o => by cases o
theorem lays_of : ∀ (k : Nat) (ds : List D), D.okNs k ds = true → PyData.canLayAll0 (toPys ds) = true ∧ PyData.depthAll (toPys ds) ≤ k
  | _, [], _ => ⟨rfl, Nat.zero_le _⟩
  | k, d :: ds, o => by
    obtain ⟨o1, o2⟩ := ba o
    obtain ⟨h1, h2⟩ := lay_of k d o1
    obtain ⟨h3, h4⟩ := lays_of k ds o2
    exact ⟨Bool.and_eq_true_iff.mpr ⟨h1, h3⟩, Nat.max_le.mpr ⟨h2, h4⟩⟩
end
theorem shaped_of {k : Nat} (hk : k ≤ 64) {d : D} (o : D.okN k d = true) : SeqAt.shaped (toPy d) = true := by
  obtain ⟨h1, h2⟩ := lay_of k d o
  exact Bool.and_eq_true_iff.mpr ⟨h1, decide_eq_true (by omega)⟩
theorem shapeds_of {k : Nat} (hk : k ≤ 63) {ds : List D} (o : D.okNs k ds = true) : SeqAt.shaped (.list (toPys ds)) = true := by
  obtain ⟨h1, h2⟩ := lays_of k ds o
  exact Bool.and_eq_true_iff.mpr ⟨h1, decide_eq_true (by show PyData.depthAll (toPys ds) + 1 ≤ 64; omega)⟩
theorem str_beq (x y : List Nat) : (x == y) = ((⟨x.toArray⟩ : Str) == ⟨y.toArray⟩) := by
  rw [Bool.eq_iff_iff]
  simp
mutual
theorem eqv_of : ∀ (k j : Nat) (a b : D), D.okN k a = true → D.okN j b = true → PyData.eqv (toPy a) (toPy b) = D.eqv a b
  | k, j, .non, b, _, o => by cases b <;> first | rfl | (cases j <;> cases o)
  | k, j, .bl _, b, _, o => by cases b <;> first | rfl | (cases j <;> cases o)
  | k, j, .int _, b, _, o => by cases b <;> first | rfl | (cases j <;> cases o)
  | k, j, .str x, b, _, o => by cases b <;> first | rfl | exact (str_beq _ _).symm | (cases j <;> cases o)
  | 0, j, .tup _, b, o, _ => by cases o
  | 0, j, .lst _, b, o, _ => by cases o
  | 0, j, .scr _, b, o, _ => by cases o
  | 0, j, .ref _, b, o, _ => by cases o
  | k + 1, j, .scr _, b, o, _ => by cases o
  | k + 1, j, .ref _, b, o, _ => by cases o
  | k + 1, 0, .tup xs, b, o, q => by cases b <;> first | rfl | cases q
  | k + 1, 0, .lst xs, b, o, q => by cases b <;> first | rfl | cases q
  | k + 1, j + 1, .tup xs, .tup ys, o, q => eqvs_of k j xs ys o q
  | k + 1, j + 1, .lst xs, .lst ys, o, q => eqvs_of k j xs ys o q
  | k + 1, j + 1, .tup xs, .non, o, q => rfl
  | k + 1, j + 1, .tup xs, .bl _, o, q => rfl
  | k + 1, j + 1, .tup xs, .int _, o, q => rfl
  | k + 1, j + 1, .tup xs, .str _, o, q => rfl
  | k + 1, j + 1, .tup xs, .lst _, o, q => rfl
  | k + 1, j + 1, .tup xs, .scr _, o, q => by cases q
  | k + 1, j + 1, .tup xs, .ref _, o, q => by cases q
  | k + 1, j + 1, .lst xs, .non, o, q => rfl
  | k + 1, j + 1, .lst xs, .bl _, o, q => rfl
  | k + 1, j + 1, .lst xs, .int _, o, q => rfl
  | k + 1, j + 1, .lst xs, .str _, o, q => rfl
  | k + 1, j + 1, .lst xs, .tup _, o, q => rfl
  | k + 1, j + 1, .lst xs, .scr _, o, q => by cases q
  | k + 1, j + 1, .lst xs, .ref _, o, q => by cases q
theorem eqvs_of : ∀ (k j : Nat) (a b : List D), D.okNs k a = true → D.okNs j b = true → PyData.eqvAll (toPys a) (toPys b) = D.eqvs a b
  | _, _, [], [], _, _ => rfl
  | _, _, [], _ :: _, _, _ => rfl
  | _, _, _ :: _, [], _, _ => rfl
  | k, j, x :: xs, y :: ys, o, q => by
    obtain ⟨o1, o2⟩ := ba o
    obtain ⟨q1, q2⟩ := ba q
    show (PyData.eqv (toPy x) (toPy y) && PyData.eqvAll (toPys xs) (toPys ys)) = (D.eqv x y && D.eqvs xs ys)
    rw [eqv_of k j x y o1 q1, eqvs_of k j xs ys o2 q2]
end
theorem any_eqv {k j : Nat} {a : D} (oa : D.okN j a = true) : ∀ (xs : List D), D.okNs k xs = true → ((toPys xs).any fun z => PyData.eqv z (toPy a)) = xs.any fun x => D.eqv x a
  | [], _ => rfl
  | x :: xs, o => by
    obtain ⟨o1, o2⟩ := ba o
    show (PyData.eqv (toPy x) (toPy a) || (toPys xs).any fun z => PyData.eqv z (toPy a)) = (D.eqv x a || xs.any fun x => D.eqv x a)
    rw [eqv_of k j x a o1 oa, any_eqv oa xs o2]

/-! ### comparisons -/
section
variable {K : PySem.W.Frag} {G F : FP} {r : Nat → Addr} {n : Nat} {M : Mem} {H : Hp} {v : V} {d : D}
theorem flat_of (f : flatD d = true) (h : Rep K F r n H v d) : flatV v = true := by
  cases d with
  | non => rw [Rep.non h]; rfl
  | bl b => rw [Rep.bl h]; rfl
  | int b => rw [Rep.int h]; rfl
  | str b => rw [Rep.str h]; rfl
  | _ => cases f
theorem eqV_of {w : V} {e : D} (f : flatD d = true) (g : flatD e = true) (h : Rep K F r n H v d) (k : Rep K F r n H w e) : eqV v w = D.eqv d e := by
  cases d with
  | non =>
    rw [Rep.non h]
    cases e with
    | non => rw [Rep.non k]; rfl
    | bl b => rw [Rep.bl k]; rfl
    | int b => rw [Rep.int k]; rfl
    | str b => rw [Rep.str k]; rfl
    | _ => cases g
  | bl b =>
    rw [Rep.bl h]
    cases e with
    | non => rw [Rep.non k]; rfl
    | bl b => rw [Rep.bl k]; rfl
    | int b => rw [Rep.int k]; rfl
    | str b => rw [Rep.str k]; rfl
    | _ => cases g
  | int b =>
    rw [Rep.int h]
    cases e with
    | non => rw [Rep.non k]; rfl
    | bl b => rw [Rep.bl k]; rfl
    | int b => rw [Rep.int k]; rfl
    | str b => rw [Rep.str k]; rfl
    | _ => cases g
  | str b =>
    rw [Rep.str h]
    cases e with
    | non => rw [Rep.non k]; rfl
    | bl b => rw [Rep.bl k]; rfl
    | int b => rw [Rep.int k]; rfl
    | str b => rw [Rep.str k]; exact (str_beq _ _).symm
    | _ => cases g
  | _ => cases f
theorem flats_of : ∀ {ds : List D} {vs : List V}, ds.all flatD = true → Reps K F r n H vs ds → vs.all flatV = true
  | [], [], _, _ => rfl
  | [], _ :: _, _, h => h.elim
  | _ :: _, [], _, h => h.elim
  | d :: ds, v :: vs, o, h => by
    obtain ⟨o1, o2⟩ := ba (show (flatD d && ds.all flatD) = true from o)
    show (flatV v && vs.all flatV) = true
    rw [flat_of o1 h.1, flats_of o2 h.2]
    rfl
theorem inV_of (f : flatD d = true) (h : Rep K F r n H v d) : ∀ {ds : List D} {vs : List V}, ds.all flatD = true → Reps K F r n H vs ds → inV v vs = ds.any fun x => D.eqv x d
  | [], [], _, _ => rfl
  | [], _ :: _, _, h => h.elim
  | _ :: _, [], _, h => h.elim
  | e :: ds, w :: vs, o, k => by
    obtain ⟨o1, o2⟩ := ba (show (flatD e && ds.all flatD) = true from o)
    show (eqV w v || inV v vs) = (D.eqv e d || ds.any fun x => D.eqv x d)
    rw [eqV_of o1 f k.1 h, inV_of f h o2 k.2]
end
def rC (K : PySem.W.Frag) (op : CmpOp) : R2 := fun x y H Q => ∃ G F r M dx dy b, RH K G F r M H ∧ Rep K F r M.length H x dx ∧ Rep K F r M.length H y dy ∧ cmpD M op dx dy = some b ∧ Q (.bl b) H
section
variable {X : Cx} {pins : List (Addr × Obj)} {s : Shared} {σ : L2.St} {H : Hp} {x y : V} {v u : Value} {Q : VK} {G F : FP} {r : Nat → Addr} {M : Mem} {dx dy : D} {b : Bool}
theorem eq_ok (hu : X.A.units + 64 < cLine) (I : L2.Inv X pins σ H s) (rx : L2.RelV x v) (ry : L2.RelV y u) (hR : RH X.K G F r M H) (hx : Rep X.K F r M.length H x dx) (hy : Rep X.K F r M.length H y dy) (hg : eqD M dx dy = some b) (q : Q (.bl b) H) :
    wpAny (model X.prog X.w) X.A (compareOp .Eq v u) (EP X pins σ Q) X.xe s := by
  unfold eqD at hg
  split at hg
  · rename_i hc
    obtain ⟨h1, h2⟩ := ba hc
    cases hg
    refine op_eqD hu pins s σ H x y v u Q I rx ry ⟨_, _, dp_rd h1 (rd_rep hR hx), dp_rd h2 (rd_rep hR hy), shaped_of (Nat.le_refl _) h1, shaped_of (Nat.le_refl _) h2, ?_⟩
    rw [eqv_of 64 64 _ _ h1 h2]
    exact q
  · cases hg
theorem ne_ok (hu : X.A.units + 64 < cLine) (I : L2.Inv X pins σ H s) (rx : L2.RelV x v) (ry : L2.RelV y u) (hR : RH X.K G F r M H) (hx : Rep X.K F r M.length H x dx) (hy : Rep X.K F r M.length H y dy) (hg : eqD M dx dy = some b) (q : Q (.bl !b) H) :
    wpAny (model X.prog X.w) X.A (compareOp .NotEq v u) (EP X pins σ Q) X.xe s := by
  unfold eqD at hg
  split at hg
  · rename_i hc
    obtain ⟨h1, h2⟩ := ba hc
    cases hg
    refine op_neD hu pins s σ H x y v u Q I rx ry ⟨_, _, dp_rd h1 (rd_rep hR hx), dp_rd h2 (rd_rep hR hy), shaped_of (Nat.le_refl _) h1, shaped_of (Nat.le_refl _) h2, ?_⟩
    rw [eqv_of 64 64 _ _ h1 h2]
    exact q
  · cases hg
theorem shapedt_of {k : Nat} (hk : k ≤ 63) {ds : List D} (o : D.okNs k ds = true) : SeqAt.shaped (.tuple (toPys ds)) = true := by
  obtain ⟨h1, h2⟩ := lays_of k ds o
  exact Bool.and_eq_true_iff.mpr ⟨h1, decide_eq_true (by show PyData.depthAll (toPys ds) + 1 ≤ 64; omega)⟩
def rInT (K : PySem.W.Frag) : R2 := fun x y H Q => ∃ d ds, Dp K H x d ∧ Dp K H y (.tuple ds) ∧ SeqAt.shaped d = true ∧ SeqAt.shaped (.tuple ds) = true ∧ Q (.bl (ds.any fun z => PyData.eqv z d)) H
def rNotInT (K : PySem.W.Frag) : R2 := fun x y H Q => ∃ d ds, Dp K H x d ∧ Dp K H y (.tuple ds) ∧ SeqAt.shaped d = true ∧ SeqAt.shaped (.tuple ds) = true ∧ Q (.bl (!ds.any fun z => PyData.eqv z d)) H
theorem op_inTD (hu : X.A.units + 65 < cLine) : OpR X (compareOp .In) (rInT X.K) := by
  intro pins s σ H x y v u Q I rx ry h
  obtain ⟨d, ds, hd, he, sd, se, q⟩ := h
  obtain ⟨as, r1⟩ := Dp.reads I d x v hd rx
  obtain ⟨bs, r2⟩ := Dp.reads I (.tuple ds) y u he ry
  exact SeqAt.in_tuple_reads r2 r1 (SeqAt.canLay_of_shaped se) (SeqAt.canLay_of_shaped sd) (room_in_shaped sd hu) ⟨.bl _, H, I, rfl, q⟩
theorem op_notInTD (hu : X.A.units + 65 < cLine) : OpR X (compareOp .NotIn) (rNotInT X.K) := by
  intro pins s σ H x y v u Q I rx ry h
  obtain ⟨d, ds, hd, he, sd, se, q⟩ := h
  obtain ⟨as, r1⟩ := Dp.reads I d x v hd rx
  obtain ⟨bs, r2⟩ := Dp.reads I (.tuple ds) y u he ry
  exact SeqAt.notIn_tuple_reads r2 r1 (SeqAt.canLay_of_shaped se) (SeqAt.canLay_of_shaped sd) (room_in_shaped sd hu) ⟨.bl _, H, I, rfl, q⟩
theorem mapO {α β : Type} {o : Option α} {f : α → β} {y : β} (h : o.map f = some y) : ∃ x, o = some x ∧ f x = y := Option.map_eq_some_iff.mp h
theorem in_ok {neg : Bool} (hu : X.A.units + 65 < cLine) (I : L2.Inv X pins σ H s) (rx : L2.RelV x v) (ry : L2.RelV y u) (hR : RH X.K G F r M H) (hx : Rep X.K F r M.length H x dx) (hy : Rep X.K F r M.length H y dy) (hg : inD M dx dy = some b) (q : Q (.bl (if neg then !b else b)) H) :
    wpAny (model X.prog X.w) X.A (compareOp (if neg then .NotIn else .In) v u) (EP X pins σ Q) X.xe s := by
  have flat : ∀ {p : Addr} {vs : List V} {ds : List D}, y = .ref p → (SqL X.K H p vs ∨ SqT X.K H p vs) → Reps X.K F r M.length H vs ds → flatD dx = true → ds.all flatD = true → b = (ds.any fun z => D.eqv z dx) →
      wpAny (model X.prog X.w) X.A (compareOp (if neg then .NotIn else .In) v u) (EP X pins σ Q) X.xe s := by
    intro p vs ds hy' hs hr f1 f2 hb
    have e : inV x vs = b := by rw [hb]; exact inV_of f1 hx f2 hr
    cases neg with
    | true => exact op_notIn_seq pins s σ H x y v u Q I rx ry ⟨p, vs, hy', hs, flat_of f1 hx, flats_of f2 hr, by rw [e]; exact q⟩
    | false => exact op_in_seq pins s σ H x y v u Q I rx ry ⟨p, vs, hy', hs, flat_of f1 hx, flats_of f2 hr, by rw [e]; exact q⟩
  have hy' := rd_rep hR hy
  unfold inD at hg
  generalize rd M dy = eb at hy' hg
  split at hg
  · obtain ⟨p, vs, e, hs, hr⟩ := hy'
    split at hg
    · rename_i hc
      obtain ⟨h1, h2⟩ := ba hc
      cases hg
      exact flat e (.inr hs) hr h1 h2 rfl
    · split at hg
      · rename_i hc
        obtain ⟨h1, h2⟩ := ba hc
        cases hg
        subst e
        have q1 := dp_rd h1 (rd_rep hR hx)
        have q2 : Dp X.K H (.ref p) (.tuple (toPys _)) := .tup hs (dps_of 63 _ vs h2 hr)
        have q3 := any_eqv h1 _ h2
        cases neg with
        | true => exact op_notInTD hu pins s σ H x _ v u Q I rx ry ⟨_, _, q1, q2, shaped_of (by decide) h1, shapedt_of (Nat.le_refl _) h2, by rw [q3]; exact q⟩
        | false => exact op_inTD hu pins s σ H x _ v u Q I rx ry ⟨_, _, q1, q2, shaped_of (by decide) h1, shapedt_of (Nat.le_refl _) h2, by rw [q3]; exact q⟩
      · cases hg
  · obtain ⟨p, vs, e, hs, hr⟩ := hy'
    split at hg
    · rename_i hc
      obtain ⟨h1, h2⟩ := ba hc
      cases hg
      exact flat e (.inl (.of hs)) hr h1 h2 rfl
    · split at hg
      · rename_i hc
        obtain ⟨h1, h2⟩ := ba hc
        cases hg
        subst e
        have q1 := dp_rd h1 (rd_rep hR hx)
        have q2 : Dp X.K H (.ref p) (.list (toPys _)) := .lst (.of hs) (dps_of 63 _ vs h2 hr)
        have q3 := any_eqv h1 _ h2
        cases neg with
        | true => exact op_notInD hu pins s σ H x _ v u Q I rx ry ⟨_, _, q1, q2, shaped_of (by decide) h1, shapeds_of (Nat.le_refl _) h2, by rw [q3]; exact q⟩
        | false => exact op_inD hu pins s σ H x _ v u Q I rx ry ⟨_, _, q1, q2, shaped_of (by decide) h1, shapeds_of (Nat.le_refl _) h2, by rw [q3]; exact q⟩
      · cases hg
  · obtain ⟨p, kvs, e, hs, hk, hr⟩ := hy'
    obtain ⟨k, h1, hg⟩ := mapO hg
    subst hg
    subst e
    have rx' : L2.RelV (kV k.key) v := by rw [← key_val hx h1]; exact rx
    have ry' : u = .ref p := ry
    subst ry'
    have hh := dct_has (k := k) hk
    cases neg with
    | true => exact d_notIn (by omega) I (DGet.k hs) rx' fun s' I' => ⟨.bl (!(valV kvs k.key).isSome), H, I', rfl, by rw [hh]; exact q⟩
    | false => exact d_in (by omega) I (DGet.k hs) rx' fun s' I' => ⟨.bl (valV kvs k.key).isSome, H, I', rfl, by rw [hh]; exact q⟩
  · cases hg
end
section
variable {X : Cx}
theorem nonV {K : PySem.W.Frag} {F : FP} {r : Nat → Addr} {n : Nat} {H : Hp} {v : V} {d : D} (h : Rep K F r n H v d) (ne : ∀ z, d = z → z ≠ .non) : decide (v = .non) = false := by
  apply decide_eq_false
  intro e
  subst e
  cases d with
  | non => exact ne _ rfl rfl
  | bl b => cases (Rep.bl h)
  | int b => cases (Rep.int h)
  | str b => cases (Rep.str h)
  | tup b => obtain ⟨_, _, e, _⟩ := h; cases e
  | lst b => obtain ⟨_, _, e, _⟩ := h; cases e
  | dct a b => obtain ⟨_, _, e, _⟩ := h; cases e
  | scr b => obtain ⟨_, _, e, _⟩ := h; cases e
  | ref b => obtain ⟨_, e⟩ := h; cases e
theorem op_cmp {op : CmpOp} (hu : X.A.units + 65 < cLine) : OpR X (compareOp op) (rC X.K op) := by
  intro pins s σ H x y v u Q I rx ry h
  obtain ⟨G, F, r, M, dx, dy, b, hR, hx, hy, hg, hQ⟩ := h
  have hu' : X.A.units + 64 < cLine := by omega
  cases op with
  | Eq => exact eq_ok hu' I rx ry hR hx hy hg hQ
  | NotEq =>
    have hg' : (eqD M dx dy).map not = some b := hg
    cases e : eqD M dx dy with
    | none => rw [e] at hg'; cases hg'
    | some c =>
      rw [e] at hg'
      cases hg'
      exact ne_ok hu' I rx ry hR hx hy e hQ
  | In => exact in_ok (neg := false) hu I rx ry hR hx hy hg hQ
  | NotIn =>
    have hg' : (inD M dx dy).map not = some b := hg
    cases e : inD M dx dy with
    | none => rw [e] at hg'; cases hg'
    | some c =>
      rw [e] at hg'
      cases hg'
      exact in_ok (neg := true) hu I rx ry hR hx hy e hQ
  | Lt =>
    cases dx <;> cases dy <;> first | cases hg | skip
    exact op_lt pins s σ H x y v u Q I rx ry ⟨_, _, Rep.int hx, Rep.int hy, hQ⟩
  | LtE =>
    cases dx <;> cases dy <;> first | cases hg | skip
    exact op_le pins s σ H x y v u Q I rx ry ⟨_, _, Rep.int hx, Rep.int hy, hQ⟩
  | Gt =>
    cases dx <;> cases dy <;> first | cases hg | skip
    exact op_gt pins s σ H x y v u Q I rx ry ⟨_, _, Rep.int hx, Rep.int hy, hQ⟩
  | GtE =>
    cases dx <;> cases dy <;> first | cases hg | skip
    exact op_ge pins s σ H x y v u Q I rx ry ⟨_, _, Rep.int hx, Rep.int hy, hQ⟩
  | Is =>
    cases dy with
    | non =>
      have e2 := Rep.non hy
      subst e2
      refine op_isN pins s σ H x _ v u Q I rx ry ⟨rfl, ?_⟩
      cases dx with
      | non =>
        cases hg
        rw [Rep.non hx]
        exact hQ
      | _ =>
        cases hg
        rw [nonV hx (by intro z e1 e2; subst e2; cases e1)]
        exact hQ
    | bl j =>
      cases dx <;> first | cases hg | skip
      exact op_isBl pins s σ H x y v u Q I rx ry ⟨_, _, Rep.bl hx, Rep.bl hy, hQ⟩
    | _ => cases dx <;> cases hg
  | IsNot =>
    cases dy with
    | non =>
      have e2 := Rep.non hy
      subst e2
      refine op_notN pins s σ H x _ v u Q I rx ry ⟨rfl, ?_⟩
      cases dx with
      | non =>
        cases hg
        rw [Rep.non hx]
        exact hQ
      | _ =>
        cases hg
        rw [nonV hx (by intro z e1 e2; subst e2; cases e1)]
        exact hQ
    | bl j =>
      cases dx <;> first | cases hg | skip
      exact op_notBl pins s σ H x y v u Q I rx ry ⟨_, _, Rep.bl hx, Rep.bl hy, hQ⟩
    | _ => cases dx <;> cases hg
end
end Mi
namespace Mi
open PySem PySem.Spec PyProof.Rows L2

section
variable {K : PySem.W.Frag} {G F : FP} {r : Nat → Addr} {n : Nat} {M : Mem} {H : Hp} {v : V} {d : D}
theorem seq_of {xs : List D} (h : RH K G F r M H) (x : Rep K F r M.length H v d) (e : seqOf M d = some xs) : ∃ (p : Addr) (vs : List V), v = .ref p ∧ Reps K F r M.length H vs xs ∧
    ((rd M d = .tup xs ∧ SqT K H p vs) ∨ (rd M d = .lst xs ∧ H p = some (.lst vs))) := by
  have x' := rd_rep h x
  unfold seqOf at e
  split at e
  · rename_i ys q
    cases e
    rw [q] at x'
    obtain ⟨p, vs, h1, h2, h3⟩ := x'
    exact ⟨p, vs, h1, h3, .inl ⟨q, h2⟩⟩
  · rename_i ys q
    cases e
    rw [q] at x'
    obtain ⟨p, vs, h1, h2, h3⟩ := x'
    exact ⟨p, vs, h1, h3, .inr ⟨q, h2⟩⟩
  · cases e
theorem lst_of {xs : List D} (h : RH K G F r M H) (x : Rep K F r M.length H v d) (e : lstOf M d = some xs) : ∃ (p : Addr) (vs : List V), v = .ref p ∧ Reps K F r M.length H vs xs ∧ rd M d = .lst xs ∧ H p = some (.lst vs) := by
  have x' := rd_rep h x
  unfold lstOf at e
  split at e
  · rename_i ys q
    cases e
    rw [q] at x'
    obtain ⟨p, vs, h1, h2, h3⟩ := x'
    exact ⟨p, vs, h1, h3, q, h2⟩
  · cases e
theorem isEmpty_reps {vs : List V} {ds : List D} (h : Reps K F r n H vs ds) : ds.isEmpty = vs.isEmpty := by
  cases ds with
  | nil => cases vs with
    | nil => rfl
    | cons v vs => exact h.elim
  | cons d ds => cases vs with
    | nil => exact h.elim
    | cons v vs => rfl
theorem empty_len {α β : Type} {a : List α} {b : List β} (h : a.length = b.length) : b.isEmpty = a.isEmpty := by
  cases a with
  | nil => rw [List.eq_nil_of_length_eq_zero h.symm]; rfl
  | cons x a => cases b with
    | nil => cases h
    | cons y b => rfl
theorem tru_of {t : Bool} (h : RH K G F r M H) (x : Rep K F r M.length H v d) (e : truD M d = some t) : TruV K v H t := by
  have x' := rd_rep h x
  unfold truD at e
  generalize rd M d = c at x' e
  split at e
  · cases e; rw [Rd0.non x']; rfl
  · cases e; rw [Rd0.bl x']; rfl
  · cases e; rw [Rd0.int x']; rfl
  · cases e
    obtain ⟨p, vs, rfl, h2, h3⟩ := x'
    exact .inr (.inl ⟨vs, h2, by rw [isEmpty_reps h3]⟩)
  · cases e
    obtain ⟨p, vs, rfl, h2, h3⟩ := x'
    exact .inl ⟨vs, .of h2, by rw [isEmpty_reps h3]⟩
  · cases e
    obtain ⟨p, kvs, rfl, h2, h3, h4⟩ := x'
    exact .inr (.inr ⟨kvs, h2, by rw [empty_len (dct_len h3)]⟩)
  · cases e
theorem atI_reps {vs : List V} {ds : List D} {i : Int} (h : Reps K F r n H vs ds) (e : atI ds i = some d) : ∃ v, atI vs i = some v ∧ Rep K F r n H v d := by
  unfold atI at *
  rw [h.len]
  cases q : ixN ds.length i with
  | none => rw [q] at e; cases e
  | some j =>
    rw [q] at e
    exact h.get e
theorem cut_reps {vs : List V} {ds : List D} (h : Reps K F r n H vs ds) (lo hi : Option Int) : Reps K F r n H (cutV vs lo hi) (cutD ds lo hi) := by
  unfold cutV cutD
  rw [h.len]
  exact (h.drop _).take _
theorem atI_str {z : List Nat} {i : Int} {c : Nat} (e : atI z i = some c) : atI (⟨z.toArray⟩ : Str).cps.toList i = some c := by
  show atI z.toArray.toList i = some c
  exact e
end
/-- a two-place operation whose value is an old one -/
def rV2o (K : PySem.W.Frag) (g : Mem → D → D → Option D) : R2 := fun x y H Q => ∃ G F r M dx dy d, RH K G F r M H ∧ Rep K F r M.length H x dx ∧ Rep K F r M.length H y dy ∧ g M dx dy = some d ∧ Fin K false G F r M.length H M d Q
section
variable {X : Cx}
theorem dct_of {ks : List DK} {ds : List D} {K : PySem.W.Frag} {G F : FP} {r : Nat → Addr} {M : Mem} {H : Hp} {v : V} {d : D} (h : RH K G F r M H) (x : Rep K F r M.length H v d) (e : dctOf M d = some (ks, ds)) : ∃ (p : Addr) (kvs : List (Key × V)), v = .ref p ∧ H p = some (.dK kvs) ∧ kvs.map (·.1) = ks.map DK.key ∧ Reps K F r M.length H (kvs.map (·.2)) ds := by
  have x' := rd_rep h x
  unfold dctOf at e
  split at e
  · rename_i q
    cases e
    rw [q] at x'
    exact x'
  · cases e
theorem ix_D (hu : X.A.units + 1 < cLine) : IxR X (rV2o X.K ixD) := by
  intro value slice pins s σ H x y v u Q I rx ry h hs
  obtain ⟨G, F, r, M, dx, dy, d, hR, hx, hy, hg, hQ⟩ := h
  unfold ixD at hg
  split at hg
  · rename_i ks ds e
    obtain ⟨p, kvs, rfl, h1, h2, h3⟩ := dct_of hR hx e
    cases ek : keyOf dy with
    | none => rw [ek] at hg; cases hg
    | some k =>
      rw [ek] at hg
      obtain ⟨w, hw, rw'⟩ := dct_look h2 h3 hg
      have ry' : L2.RelV (kV k.key) u := by rw [← key_val hy ek]; exact ry
      obtain rfl : v = Value.ref p := rx
      have g : DGet H p (kV k.key) (some w) := by rw [← hw]; exact DGet.k h1
      exact tail_any (dict_typeIs I g) slot_dict_getitem.lookup (d_getItem hu I g ry' fun w' s' I' rw2 => ⟨w, H, I', rw2, hQ.old hR rw'⟩) hs
  refine ix_seq value slice pins s σ H x y v u Q I rx ry ?_ hs
  split at hg
  · rename_i xs i e
    obtain ⟨p, vs, rfl, hr, hh⟩ := seq_of hR hx e
    obtain ⟨w, hw, rw'⟩ := atI_reps hr hg
    rcases hh with ⟨_, hh⟩ | ⟨_, hh⟩
    · exact .inr (.inl ⟨p, vs, _, w, rfl, Rep.int hy, hh, hw, hQ.old hR rw'⟩)
    · exact .inl ⟨p, vs, _, w, rfl, Rep.int hy, .of hh, hw, hQ.old hR rw'⟩
  · cases dx with
    | str z =>
      dsimp only at hg
      split at hg
      · rename_i hz
        cases e : atI z _ with
        | none => rw [e] at hg; cases hg
        | some c =>
          rw [e] at hg
          cases hg
          exact .inr (.inr ⟨_, _, c, Rep.str hx, Rep.int hy, by rw [← line_eq]; simpa [Str.length] using hz, atI_str e, hQ.str hR⟩)
      · cases hg
    | _ => cases hg
  · cases hg
def rSlD (K : PySem.W.Frag) : V → Option Int → Option Int → Hp → VK → Prop := fun x lo hi H Q => ∃ G F r M dx d, RH K G F r M H ∧ Rep K F r M.length H x dx ∧ slD M dx lo hi = some d ∧ Fin K true G F r M.length H M d Q
theorem whole_cut {α : Type} (xs : List α) (lo hi : Option Int) (h : HT.sIx xs.length 0 lo = 0 ∧ HT.sIx xs.length xs.length hi = xs.length) : cutD xs lo hi = xs := by
  unfold cutD
  rw [h.1, h.2]
  simp
theorem sl_D : SlR X (rSlD X.K) := by
  have sl : SlR X (fun x lo hi H Q => rSlA X.K x lo hi H Q ∨ rSlL X.K x lo hi H Q) := sl_tupA.or sl_list
  intro pins s σ H x v vl vu lo hi a Q I rx hs p1 p2 h
  refine sl pins s σ H x v vl vu lo hi a Q I rx hs p1 p2 ?_
  obtain ⟨G, F, r, M, dx, d, hR, hx, hg, hQ⟩ := h
  have hx' := rd_rep hR hx
  unfold slD at hg
  generalize rd M dx = c at hx' hg
  split at hg
  · cases hg
    obtain ⟨p, vs, rfl, h2, h3⟩ := hx'
    refine .inl ⟨p, vs, rfl, h2, fun e => ?_, fun e q hq => hQ.tup hR (cut_reps h3 lo hi) hq⟩
    rw [h3.len] at e
    rw [whole_cut _ _ _ e] at hQ
    exact hQ.tupO hR h2 h3
  · cases hg
    obtain ⟨p, vs, rfl, h2, h3⟩ := hx'
    exact .inr ⟨p, vs, rfl, .of h2, fun q hq => hQ.lst hR (cut_reps h3 lo hi) hq⟩
  · cases hg

/-! ### built-ins -/
def rB (K : PySem.W.Frag) (b : Blt) : List V → Hp → VK → Prop := fun xs H Q => ∃ G F r M ds d, RH K G F r M H ∧ Reps K F r M.length H xs ds ∧ bltD M b ds = some d ∧ Fin K true G F r M.length H M d Q
theorem reps1 {K : PySem.W.Frag} {F : FP} {r : Nat → Addr} {n : Nat} {H : Hp} {xs : List V} {d : D} (h : Reps K F r n H xs [d]) : ∃ x, xs = [x] ∧ Rep K F r n H x d := by
  match xs, h with
  | [x], h => exact ⟨x, rfl, h.1⟩
theorem reps2 {K : PySem.W.Frag} {F : FP} {r : Nat → Addr} {n : Nat} {H : Hp} {xs : List V} {d e : D} (h : Reps K F r n H xs [d, e]) : ∃ x y, xs = [x, y] ∧ Rep K F r n H x d ∧ Rep K F r n H y e := by
  match xs, h with
  | [x, y], h => exact ⟨x, y, rfl, h.1, h.2.1⟩
theorem intsOf_map : ∀ {xs : List D} {ns : List Int}, intsOf xs = some ns → xs = ns.map D.int
  | [], ns, e => by cases e; rfl
  | d :: xs, ns, e => by
    unfold intsOf at e
    split at e
    · rename_i q
      cases q
    · rename_i i r' q
      injection q with q1 q2
      subst q1 q2
      cases h : intsOf xs with
      | none => rw [h] at e; cases e
      | some ms =>
        rw [h] at e
        cases e
        rw [intsOf_map h]
        rfl
    · cases e
theorem boolsOf_map : ∀ {xs : List D} {ns : List Bool}, boolsOf xs = some ns → xs = ns.map D.bl
  | [], ns, e => by cases e; rfl
  | d :: xs, ns, e => by
    unfold boolsOf at e
    split at e
    · rename_i q
      cases q
    · rename_i i r' q
      injection q with q1 q2
      subst q1 q2
      cases h : boolsOf xs with
      | none => rw [h] at e; cases e
      | some ms =>
        rw [h] at e
        cases e
        rw [boolsOf_map h]
        rfl
    · cases e
theorem b_len : CallR X (.builtin "len") (rB X.K .len) := by
  intro pins s σ H xs us Q I ru h
  obtain ⟨G, F, r, M, ds, d, hR, hx0, hg, hQ⟩ := h
  unfold bltD at hg
  split at hg <;> first | cases (by assumption : Blt.len = _) | skip
  · refine call_len pins s σ H xs us Q I ru ?_
    obtain ⟨x, rfl, hx⟩ := reps1 hx0
    split at hg
    · rename_i hz
      cases hg
      rw [Rep.str hx]
      exact ⟨_, _, rfl, ⟨by rw [← line_eq]; simpa [Str.length] using hz, rfl⟩, by simpa [Str.length] using hQ.int hR⟩
    · cases hg
  · obtain ⟨x, rfl, hx⟩ := reps1 hx0
    split at hg
    · rename_i ks ys e
      cases hg
      obtain ⟨p, kvs, rfl, h1, h2, h3⟩ := dct_of hR hx e
      rw [Vals.ref1 ru]
      refine d_len I (.inl h1) fun t s' I' => ⟨.int kvs.length, H, I', ⟨t, rfl⟩, ?_⟩
      have hQ' : Fin X.K true G F r M.length H M (.int (kvs.length : Nat)) Q := by rw [dct_len h2]; exact hQ
      exact hQ'.int hR
    · refine call_len pins s σ H _ us Q I ru ?_
      obtain ⟨ys, e, hg⟩ := mapO hg
      cases hg
      obtain ⟨p, vs, rfl, hr, hh⟩ := seq_of hR hx e
      have hQ' : Fin X.K true G F r M.length H M (.int (vs.length : Nat)) Q := by rw [hr.len]; exact hQ
      rcases hh with ⟨_, hh⟩ | ⟨_, hh⟩
      · exact ⟨_, vs.length, rfl, .inr ⟨vs, hh, rfl⟩, hQ'.int hR⟩
      · exact ⟨_, vs.length, rfl, .inl ⟨vs, .of hh, rfl⟩, hQ'.int hR⟩
  · cases hg
theorem b_abs : CallR X (.builtin "abs") (rB X.K .abs) := by
  intro pins s σ H xs us Q I ru h
  obtain ⟨G, F, r, M, ds, d, hR, hx0, hg, hQ⟩ := h
  refine call_abs pins s σ H xs us Q I ru ?_
  unfold bltD at hg
  split at hg <;> first | cases (by assumption : Blt.abs = _) | skip
  · obtain ⟨x, rfl, hx⟩ := reps1 hx0
    cases hg
    exact ⟨_, by rw [Rep.int hx], hQ.int hR⟩
  · cases hg
theorem b_int : CallR X (.type "int") (rB X.K .int) := by
  intro pins s σ H xs us Q I ru h
  obtain ⟨G, F, r, M, ds, d, hR, hx0, hg, hQ⟩ := h
  refine call_int1 pins s σ H xs us Q I ru ?_
  unfold bltD at hg
  split at hg <;> first | cases (by assumption : Blt.int = _) | skip
  · obtain ⟨x, rfl, hx⟩ := reps1 hx0
    cases hg
    exact .inl ⟨_, by rw [Rep.int hx], hQ.int hR⟩
  · obtain ⟨x, rfl, hx⟩ := reps1 hx0
    cases hg
    exact .inr ⟨_, by rw [Rep.bl hx], hQ.int hR⟩
  · cases hg
theorem b_min (hc : X.calm = true) : CallR X (.builtin "min") (rB X.K .min) := by
  intro pins s σ H xs us Q I ru h
  obtain ⟨G, F, r, M, ds, d, hR, hx0, hg, hQ⟩ := h
  unfold bltD at hg
  split at hg <;> first | cases (by assumption : Blt.min = _) | skip
  · obtain ⟨x, y, rfl, hx, hy⟩ := reps2 hx0
    cases hg
    exact call_min2 hc pins s σ H _ us Q I ru ⟨_, _, by rw [Rep.int hx, Rep.int hy], hQ.int hR⟩
  · obtain ⟨x, rfl, hx⟩ := reps1 hx0
    cases e : lstOf M _ with
    | none => rw [e] at hg; cases hg
    | some ys =>
      rw [e] at hg
      cases e2 : intsOf ys with
      | none => simp only [Option.bind_some, e2] at hg; cases hg
      | some ns =>
        simp only [Option.bind_some, e2] at hg
        obtain ⟨p, vs, rfl, hr, _, hp⟩ := lst_of hR hx e
        rw [intsOf_map e2] at hr
        have hv := Reps.ofInts hr
        cases e3 : ns.min? with
        | none => rw [e3] at hg; cases hg
        | some m =>
          rw [e3] at hg
          cases hg
          refine cr_min hc pins s σ H _ us Q I ru ⟨p, ns, rfl, by rw [← hv]; exact .of hp, ?_, fun m' h1 h2 => ?_⟩
          · cases ns with
            | nil => cases e3
            | cons _ _ => exact Nat.succ_pos _
          · have e4 : ns.min? = some m' := List.min?_eq_some_iff.mpr ⟨h1, fun b hb => h2 b hb⟩
            rw [e3] at e4
            cases e4
            exact hQ.int hR
  · cases hg
theorem b_max (hc : X.calm = true) : CallR X (.builtin "max") (rB X.K .max) := by
  intro pins s σ H xs us Q I ru h
  obtain ⟨G, F, r, M, ds, d, hR, hx0, hg, hQ⟩ := h
  unfold bltD at hg
  split at hg <;> first | cases (by assumption : Blt.max = _) | skip
  · obtain ⟨x, y, rfl, hx, hy⟩ := reps2 hx0
    cases hg
    exact call_max2 hc pins s σ H _ us Q I ru ⟨_, _, by rw [Rep.int hx, Rep.int hy], hQ.int hR⟩
  · obtain ⟨x, rfl, hx⟩ := reps1 hx0
    cases e : lstOf M _ with
    | none => rw [e] at hg; cases hg
    | some ys =>
      rw [e] at hg
      cases e2 : intsOf ys with
      | none => simp only [Option.bind_some, e2] at hg; cases hg
      | some ns =>
        simp only [Option.bind_some, e2] at hg
        obtain ⟨p, vs, rfl, hr, _, hp⟩ := lst_of hR hx e
        rw [intsOf_map e2] at hr
        have hv := Reps.ofInts hr
        cases e3 : ns.max? with
        | none => rw [e3] at hg; cases hg
        | some m =>
          rw [e3] at hg
          cases hg
          refine cr_max hc pins s σ H _ us Q I ru ⟨p, ns, rfl, by rw [← hv]; exact .of hp, ?_, fun m' h1 h2 => ?_⟩
          · cases ns with
            | nil => cases e3
            | cons _ _ => exact Nat.succ_pos _
          · have e4 : ns.max? = some m' := List.max?_eq_some_iff.mpr ⟨h1, fun b hb => h2 b hb⟩
            rw [e3] at e4
            cases e4
            exact hQ.int hR
  · cases hg
theorem b_tuple : CallR X (.type "tuple") (rB X.K .tuple) := by
  intro pins s σ H xs us Q I ru h
  obtain ⟨G, F, r, M, ds, d, hR, hx0, hg, hQ⟩ := h
  refine call_tuple_of pins s σ H xs us Q I ru ?_
  unfold bltD at hg
  split at hg <;> first | cases (by assumption : Blt.tuple = _) | skip
  · obtain ⟨x, rfl, hx⟩ := reps1 hx0
    cases e : seqOf M _ with
    | none => rw [e] at hg; cases hg
    | some ys =>
      rw [e] at hg
      cases hg
      obtain ⟨p, vs, rfl, hr, hh⟩ := seq_of hR hx e
      rcases hh with ⟨_, hh⟩ | ⟨_, hh⟩
      · exact ⟨p, vs, rfl, .inr ⟨hh, hQ.tupO hR hh hr⟩⟩
      · exact ⟨p, vs, rfl, .inl ⟨.of hh, fun l hl => hQ.tup hR hr hl⟩⟩
  · cases hg
theorem b_list : CallR X (.type "list") (rB X.K .list) := by
  intro pins s σ H xs us Q I ru h
  obtain ⟨G, F, r, M, ds, d, hR, hx0, hg, hQ⟩ := h
  refine call_list_of pins s σ H xs us Q I ru ?_
  unfold bltD at hg
  split at hg <;> first | cases (by assumption : Blt.list = _) | skip
  · obtain ⟨x, rfl, hx⟩ := reps1 hx0
    cases hg
    obtain ⟨p, ns, rfl, hs, rfl⟩ := hx
    refine ⟨p, ns.map V.int, rfl, .inl ?_, fun l hl => hQ.lst hR (Reps.ints ns) hl⟩
    rcases hs with ⟨_, hs⟩ | hs
    · exact .inl hs
    · exact .inr hs
  · obtain ⟨x, rfl, hx⟩ := reps1 hx0
    cases e : seqOf M _ with
    | none => rw [e] at hg; cases hg
    | some ys =>
      rw [e] at hg
      cases hg
      obtain ⟨p, vs, rfl, hr, hh⟩ := seq_of hR hx e
      rcases hh with ⟨_, hh⟩ | ⟨_, hh⟩
      · exact ⟨p, vs, rfl, .inr hh, fun l hl => hQ.lst hR hr hl⟩
      · exact ⟨p, vs, rfl, .inl (.of hh), fun l hl => hQ.lst hR hr hl⟩
  · cases hg
theorem b_all (hc : X.calm = true) : CallR X (.builtin "all") (rB X.K .all) := by
  intro pins s σ H xs us Q I ru h
  obtain ⟨G, F, r, M, ds, d, hR, hx0, hg, hQ⟩ := h
  refine cr_all hc pins s σ H xs us Q I ru ?_
  unfold bltD at hg
  split at hg <;> first | cases (by assumption : Blt.all = _) | skip
  · obtain ⟨x, rfl, hx⟩ := reps1 hx0
    cases e : lstOf M _ with
    | none => rw [e] at hg; cases hg
    | some ys =>
      rw [e] at hg
      cases e2 : boolsOf ys with
      | none => simp only [Option.bind_some, e2] at hg; cases hg
      | some ns =>
        simp only [Option.bind_some, e2] at hg
        cases hg
        obtain ⟨p, vs, rfl, hr, _, hp⟩ := lst_of hR hx e
        rw [boolsOf_map e2] at hr
        have hv := Reps.ofBls hr
        exact ⟨p, ns, rfl, by rw [← hv]; exact .of hp, hQ.bl hR⟩
  · cases hg
theorem b_sum (hc : X.calm = true) : CallR X (.builtin "sum") (rB X.K .sum) := by
  intro pins s σ H xs us Q I ru h
  obtain ⟨G, F, r, M, ds, d, hR, hx0, hg, hQ⟩ := h
  refine cr_sum hc pins s σ H xs us Q I ru ?_
  unfold bltD at hg
  split at hg <;> first | cases (by assumption : Blt.sum = _) | skip
  · obtain ⟨x, rfl, hx⟩ := reps1 hx0
    cases e : lstOf M _ with
    | none => rw [e] at hg; cases hg
    | some ys =>
      rw [e] at hg
      cases e2 : intsOf ys with
      | none => simp only [Option.bind_some, e2] at hg; cases hg
      | some ns =>
        simp only [Option.bind_some, e2] at hg
        cases hg
        obtain ⟨p, vs, rfl, hr, _, hp⟩ := lst_of hR hx e
        rw [intsOf_map e2] at hr
        have hv := Reps.ofInts hr
        exact ⟨p, ns, rfl, by rw [← hv]; exact .of hp, hQ.int hR⟩
  · cases hg

/-! ### isinstance -/
def tyNm : Ty → String
  | .int => "int"
  | .bool => "bool"
  | .str => "str"
  | .tuple => "tuple"
  | .list => "list"
theorem kit_non (t : Ty) : kitB "NoneType" (tyNm t) = some false := by cases t <;> decide +kernel
theorem kit_bl (t : Ty) : kitB "bool" (tyNm t) = some (t == .bool || t == .int) := by cases t <;> decide +kernel
theorem kit_int (t : Ty) : kitB "int" (tyNm t) = some (t == .int) := by cases t <;> decide +kernel
theorem kit_str (t : Ty) : kitB "str" (tyNm t) = some (t == .str) := by cases t <;> decide +kernel
theorem kit_tup (t : Ty) : kitB "tuple" (tyNm t) = some (t == .tuple) := by cases t <;> decide +kernel
theorem kit_lst (t : Ty) : kitB "list" (tyNm t) = some (t == .list) := by cases t <;> decide +kernel
def rI1 (K : PySem.W.Frag) (t : Ty) : List V → Hp → VK → Prop := fun xs H Q => ∃ G F r M x d b, xs = [x, .ty (tyNm t)] ∧ RH K G F r M H ∧ Rep K F r M.length H x d ∧ isiD M d t = some b ∧ Q (.bl b) H
theorem b_isi (t : Ty) : CallR X (.builtin "isinstance") (rI1 X.K t) := by
  intro pins s σ H xs us Q I ru h
  obtain ⟨G, F, r, M, x, d, b, rfl, hR, hx, hg, hQ⟩ := h
  refine call_isi pins s σ H _ us Q I ru ?_
  have go : ∀ {a : String}, TyX X.K H x (.type a) → kitB a (tyNm t) = some b → rIsi X.K [x, .ty (tyNm t)] H Q := fun ty k => ⟨x, _, _, _, b, rfl, .ty _, ty, kit_ty k, hQ⟩
  have hx' := rd_rep hR hx
  unfold isiD at hg
  generalize rd M d = c at hx' hg
  split at hg
  · rw [Rd0.non hx'] at go ⊢
    exact go (.base .non) ((kit_non t).trans hg)
  · rw [Rd0.bl hx'] at go ⊢
    exact go (.base (.bl _)) ((kit_bl t).trans hg)
  · rw [Rd0.int hx'] at go ⊢
    exact go (.base (.int _)) ((kit_int t).trans hg)
  · rw [Rd0.str hx'] at go ⊢
    exact go (.base (.str _)) ((kit_str t).trans hg)
  · obtain ⟨p, vs, rfl, h2, h3⟩ := hx'
    refine go (a := "tuple") ?_ ((kit_tup t).trans hg)
    rcases h2 with (h2 | ⟨o, h2⟩) | ⟨o, its, n, h2, h4, _⟩
    · exact .base (.tup h2)
    · exact .fTuple h2
    · exact .kTuple h2 h4
  · obtain ⟨p, vs, rfl, h2, h3⟩ := hx'
    exact go (a := "list") (.base (.lst h2)) ((kit_lst t).trans hg)
  · cases hg

/-! ### sorted, dict -/
theorem insI_perm (x : Int) : ∀ l, (insI x l).Perm (x :: l)
  | [] => .refl _
  | y :: ys => by
    unfold insI
    split
    · exact .refl _
    · exact ((insI_perm x ys).cons y).trans (.swap x y ys)
theorem insI_sorted (x : Int) : ∀ l, l.Pairwise (· ≤ ·) → (insI x l).Pairwise (· ≤ ·)
  | [], _ => List.pairwise_singleton _ _
  | y :: ys, h => by
    have hy := List.pairwise_cons.mp h
    unfold insI
    split
    · rename_i c
      exact List.pairwise_cons.mpr ⟨fun z hz => by
        rcases List.mem_cons.mp hz with e | e
        · rw [e]; exact c
        · exact Int.le_trans c (hy.1 z e), h⟩
    · rename_i c
      refine List.pairwise_cons.mpr ⟨fun z hz => ?_, insI_sorted x ys hy.2⟩
      rcases List.mem_cons.mp ((insI_perm x ys).mem_iff.mp hz) with e | e
      · rw [e]; omega
      · exact hy.1 z e
theorem sortI_perm : ∀ l, (sortI l).Perm l
  | [] => .refl _
  | x :: xs => (insI_perm x _).trans ((sortI_perm xs).cons x)
theorem sortI_sorted : ∀ l, (sortI l).Pairwise (· ≤ ·)
  | [] => .nil
  | x :: xs => insI_sorted x _ (sortI_sorted xs)
theorem sorted_eq : ∀ {a b : List Int}, a.Perm b → a.Pairwise (· ≤ ·) → b.Pairwise (· ≤ ·) → a = b
  | [], b, h, _, _ => (List.Perm.nil_eq h)
  | x :: a, [], h, _, _ => absurd h.length_eq (by simp)
  | x :: a, y :: b, h, ha, hb => by
    have ha' := List.pairwise_cons.mp ha
    have hb' := List.pairwise_cons.mp hb
    have e : x = y := by
      have h1 : x ∈ y :: b := h.mem_iff.mp (List.mem_cons_self ..)
      have h2 : y ∈ x :: a := h.mem_iff.mpr (List.mem_cons_self ..)
      rcases List.mem_cons.mp h1 with e | e
      · exact e
      rcases List.mem_cons.mp h2 with e2 | e2
      · exact e2.symm
      have := ha'.1 y e2
      have := hb'.1 x e
      omega
    subst e
    rw [sorted_eq (List.Perm.cons_inv h) ha'.2 hb'.2]
theorem sortI_of {a b : List Int} (h : a.Perm b) (hs : a.Pairwise (· ≤ ·)) : a = sortI b := sorted_eq (h.trans (sortI_perm b).symm) hs (sortI_sorted b)
/-! each once, in order -/
theorem onceI_ok : ∀ l : List Int, (onceI l).Pairwise (· < ·) ∧ ∀ k, k ∈ onceI l ↔ k ∈ l
  | [] => ⟨.nil, fun _ => Iff.rfl⟩
  | x :: l => by
    obtain ⟨h1, h2⟩ := onceI_ok l
    unfold onceI
    split
    · rename_i c
      have c' : x ∈ onceI l := by simpa using c
      refine ⟨h1, fun k => ?_⟩
      rw [h2 k, List.mem_cons]
      constructor
      · exact .inr
      · rintro (e | e)
        · rw [e]; exact (h2 x).mp c'
        · exact e
    · rename_i c
      have c' : x ∉ onceI l := fun z => c (by simpa using z)
      refine ⟨?_, fun k => ?_⟩
      · have le : (insI x (onceI l)).Pairwise (· ≤ ·) := insI_sorted x _ (h1.imp fun h => Int.le_of_lt h)
        have nd : (insI x (onceI l)).Nodup := (insI_perm x _).nodup_iff.mpr (List.nodup_cons.mpr ⟨c', h1.imp fun h => Int.ne_of_lt h⟩)
        exact lt_of_le_nodup _ le nd
      · rw [(insI_perm x _).mem_iff, List.mem_cons, List.mem_cons, h2 k]
theorem onceI_of {a b : List Int} (hs : a.Pairwise (· < ·)) (h : ∀ k, k ∈ a ↔ k ∈ b) : a = onceI b := by
  obtain ⟨h1, h2⟩ := onceI_ok b
  refine sorted_eq ((List.perm_ext_iff_of_nodup (hs.imp fun h => Int.ne_of_lt h) (h1.imp fun h => Int.ne_of_lt h)).mpr fun k => ?_) (hs.imp fun h => Int.le_of_lt h) (h1.imp fun h => Int.le_of_lt h)
  rw [h k, h2 k]
theorem intsOf_eq : ∀ {ds : List D} {ns : List Int}, intsOf ds = some ns → ds = ns.map D.int
  | [], _, h => by unfold intsOf at h; cases h; rfl
  | d :: ds, ns, h => by
    cases d <;> first | (unfold intsOf at h; cases h; done) | skip
    unfold intsOf at h
    obtain ⟨r, h1, h2⟩ := mapO h
    subst h2
    rw [intsOf_eq h1]
    rfl
theorem keysI_eq : ∀ {ks : List DK} {ns : List Int}, keysI ks = some ns → ks = ns.map DK.i
  | [], _, h => by unfold keysI at h; cases h; rfl
  | k :: ks, ns, h => by
    cases k with
    | i n =>
      unfold keysI at h
      obtain ⟨r, h1, h2⟩ := mapO h
      subst h2
      rw [keysI_eq h1]
      rfl
    | s x => unfold keysI at h; cases h
theorem b_sorted (hc : X.calm = true) : CallR X (.builtin "sorted") (rB X.K .sorted) := by
  intro pins s σ H xs us Q I ru h
  obtain ⟨G, F, r, M, ds, d, hR, hx0, hg, hQ⟩ := h
  unfold bltD at hg
  split at hg <;> first | cases (by assumption : Blt.sorted = _) | skip
  · obtain ⟨x, rfl, hx⟩ := reps1 hx0
    split at hg
    · rename_i ks ys e
      obtain ⟨ns, e1, hg⟩ := Option.bind_eq_some_iff.mp hg
      split at hg
      · rename_i h64
        cases hg
        obtain ⟨p, kvs, rfl, h1, h2, h3⟩ := dct_of hR hx e
        refine call_sortedDI hc pins s σ H _ us Q I ru ⟨p, kvs, ns, rfl, .inl h1, ?_, h64, fun zs q hp hs hq => ?_⟩
        · rw [h2, keysI_eq e1, List.map_map]
          rfl
        · rw [sortI_of hp hs]
          exact hQ.lst hR (Reps.ints _) hq
      · cases hg
    · obtain ⟨ys, e, hg⟩ := Option.bind_eq_some_iff.mp hg
      obtain ⟨ns, e1, hg⟩ := mapO hg
      cases hg
      obtain ⟨p, vs, rfl, hr, _, hp⟩ := lst_of hR hx e
      rw [intsOf_eq e1] at hr
      have := hr.ofInts
      subst this
      refine cr_sortedI pins s σ H _ us Q I ru ⟨p, ns, rfl, .of hp, fun zs q hp hs hq => ?_⟩
      rw [sortI_of hp hs]
      exact hQ.lst hR (Reps.ints _) hq
  · cases hg
theorem pairs_ok {F : FP} {r : Nat → Addr} {M : Mem} {H : Hp} {K : PySem.W.Frag} : ∀ {xs : List D} {vs : List V} {ks : List DK} {ds : List D} {kvs : List (Key × V)} {p : List DK × List D}, Reps K F r M.length H vs xs → kvs.map (·.1) = ks.map DK.key → Reps K F r M.length H (kvs.map (·.2)) ds → fromPairs xs ks ds = some p →
    ∃ (ps : List Addr) (more : List (Key × V)), vs = ps.map V.ref ∧ Paired (fun p kv => SqT K H p [kV kv.1, kv.2]) ps more ∧ (mergeK kvs more).map (·.1) = p.1.map DK.key ∧ Reps K F r M.length H ((mergeK kvs more).map (·.2)) p.2
  | [], [], ks, ds, kvs, p, _, h2, h3, e => by
    unfold fromPairs at e
    cases e
    exact ⟨[], [], rfl, .nil, h2, h3⟩
  | [], _ :: _, _, _, _, _, h, _, _, _ => h.elim
  | _ :: _, [], _, _, _, _, h, _, _, _ => h.elim
  | x :: xs, v :: vs, ks, ds, kvs, p, h, h2, h3, e => by
    have sh : ∃ k y, x = .tup [k, y] := by
      unfold fromPairs at e
      split at e
      · rename_i z; cases z
      · rename_i z; cases z; exact ⟨_, _, rfl⟩
      · cases e
    obtain ⟨k, y, rfl⟩ := sh
    unfold fromPairs at e
    obtain ⟨kk, ek, e⟩ := Option.bind_eq_some_iff.mp e
    obtain ⟨⟨pa, us, hv, hs, hu⟩, hr⟩ := h
    match us, hu with
    | [a, b], ⟨ha, hb, _⟩ =>
      have ea := key_val ha ek
      obtain ⟨p1, p2⟩ := dct_put (k := kk) h2 h3 hb
      obtain ⟨ps, more, q1, q2, q3, q4⟩ := pairs_ok hr p1 p2 e
      subst ea
      exact ⟨pa :: ps, (kk.key, b) :: more, by rw [hv, q1]; rfl, .cons hs q2, q3, q4⟩
theorem b_dict (hc : X.calm = true) : CallR X (.type "dict") (rB X.K .dict) := by
  intro pins s σ H xs us Q I ru h
  obtain ⟨G, F, r, M, ds, d, hR, hx0, hg, hQ⟩ := h
  unfold bltD at hg
  split at hg <;> first | cases (by assumption : Blt.dict = _) | skip
  · obtain ⟨x, rfl, hx⟩ := reps1 hx0
    obtain ⟨ys, e, hg⟩ := Option.bind_eq_some_iff.mp hg
    obtain ⟨pr, e1, hg⟩ := mapO hg
    cases hg
    obtain ⟨p, vs, rfl, hr, _, hp⟩ := lst_of hR hx e
    obtain ⟨ps, more, q1, q2, q3, q4⟩ := pairs_ok (kvs := []) (ks := []) (ds := []) hr rfl trivial e1
    subst q1
    exact call_dictP hc pins s σ H _ us Q I ru ⟨p, ps, more, rfl, .of hp, q2, fun q hq => hQ.dct hR q3 q4 hq⟩
  · cases hg

/-! ### methods -/
def mthNm : Mth → String
  | .append => "list.append"
  | .pop => "list.pop"
def rM (K : PySem.W.Frag) (m : Mth) : V → List V → Hp → VK → Prop := fun x xs H Q => ∃ G F r M dx ds d M', RH K G F r M H ∧ Rep K F r M.length H x dx ∧ Reps K F r M.length H xs ds ∧ mthD M m dx ds = some (d, M') ∧ Fin K false G F r M.length H M' d Q
theorem dropLast_reps {K : PySem.W.Frag} {F : FP} {r : Nat → Addr} {n : Nat} {H : Hp} {vs : List V} {ds : List D} (h : Reps K F r n H vs ds) : Reps K F r n H vs.dropLast ds.dropLast := by
  rw [List.dropLast_eq_take, List.dropLast_eq_take, h.len]
  exact h.take _
theorem erase_reps {K : PySem.W.Frag} {F : FP} {r : Nat → Addr} {n : Nat} {H : Hp} : ∀ {vs : List V} {ds : List D} {k : Nat}, Reps K F r n H vs ds → Reps K F r n H (vs.eraseIdx k) (ds.eraseIdx k)
  | [], [], _, _ => trivial
  | [], _ :: _, _, h => h.elim
  | _ :: _, [], _, h => h.elim
  | v :: vs, d :: ds, 0, h => h.2
  | v :: vs, d :: ds, k + 1, h => ⟨h.1, erase_reps h.2⟩
theorem m_ok {m : Mth} : MtR X (mthNm m) (rM X.K m) := by
  intro pins s σ H x xs v us Q I rx ru h
  obtain ⟨G, F, r, M, dx, ds, d, M', hR, hx, hs, hg, hQ⟩ := h
  unfold mthD at hg
  split at hg
  · -- append
    rename_i j d0
    obtain ⟨y, rfl, hy⟩ := reps1 hs
    split at hg
    · rename_i ys e
      obtain ⟨vs, h1, h2⟩ := hR.atL e
      have hj : j < M.length := (List.getElem?_eq_some_iff.mp e).1
      split at hg
      · rename_i hz
        cases hg
        have hr2 : Reps X.K F r M.length H (vs ++ [y]) (ys ++ [d0]) := h2.app ⟨hy, trivial⟩
        refine mt_append pins s σ H x _ v us Q I rx ru ⟨r j, vs, y, hx.2, rfl, h1, by rw [h2.len, ← line_eq]; exact hz, ?_⟩
        refine hQ _ F r _ ?_ (hR.put hj ⟨_, rfl, hr2⟩) rfl
        rw [List.length_set]
        exact Ext.put hR hj
      · cases hg
    · cases hg
  · rename_i j
    have hs' : xs = [] := by
      match xs, hs with
      | [], _ => rfl
    subst hs'
    split at hg
    · rename_i ys e
      obtain ⟨vs, h1, h2⟩ := hR.atL e
      have hj : j < M.length := (List.getElem?_eq_some_iff.mp e).1
      cases q : ys[ys.length - 1]? with
      | none => rw [q] at hg; cases hg
      | some y =>
        rw [q] at hg
        cases hg
        obtain ⟨w, hw, hyr⟩ := h2.get q
        refine mt_pop pins s σ H x _ v us Q I rx ru ⟨r j, vs, w, hx.2, rfl, h1, by rw [h2.len]; exact hw, ?_⟩
        have E : Ext G F r M.length H F r (M.set j (.lst ys.dropLast)).length (upd H (r j) (.lst vs.dropLast)) := by
          rw [List.length_set]
          exact Ext.put hR hj
        refine hQ _ F r _ E (hR.put hj ⟨_, rfl, dropLast_reps h2⟩) ?_
        have hyr' := hyr.ext E
        cases d <;> exact hyr'
    · cases hg
  · -- pop(i)
    rename_i j i
    obtain ⟨y0, rfl, hy⟩ := reps1 hs
    have hi : y0 = V.int i := Rep.int hy
    subst hi
    split at hg
    · rename_i ys e
      obtain ⟨vs, h1, h2⟩ := hR.atL e
      have hj : j < M.length := (List.getElem?_eq_some_iff.mp e).1
      split at hg
      · rename_i hb
        obtain ⟨k, q0, hg⟩ := Option.bind_eq_some_iff.mp hg
        obtain ⟨y, q, hg⟩ := mapO hg
        cases hg
        obtain ⟨w, hw, hyr⟩ := h2.get q
        refine mt_popAt pins s σ H x _ v us Q I rx ru ⟨r j, vs, i, k, w, hx.2, rfl, h1, hb.1, hb.2, by rw [h2.len]; exact q0, hw, ?_⟩
        have E : Ext G F r M.length H F r (M.set j (.lst (ys.eraseIdx k))).length (upd H (r j) (.lst (vs.eraseIdx k))) := by
          rw [List.length_set]
          exact Ext.put hR hj
        refine hQ _ F r _ E (hR.put hj ⟨_, rfl, erase_reps h2⟩) ?_
        have hyr' := hyr.ext E
        cases d <;> exact hyr'
      · cases hg
    · cases hg
  · cases hg
end
end Mi
namespace Mi
open PySem PySem.Spec PyProof.Rows L2

/-! ### sorted(set(xs)) of a list of ints -/
/-- a set at its begin -/
def set0 (w : World) : Obj := { cls := .type "set", dict := none, data := .set #[] 0 (.fresh 0 0 (!w.params.followText "set-order")) }
section
variable {P : Program} {w : World} {A : Around} {E : Value → Shared → Prop} {s : Shared}
theorem set_of_list {l : Addr} {its : Array Value} (ns : List Int) {Q : Value → Shared → Prop} (calm : A.handled = none) (isL : s.heap.IsList l its) (areI : IntsAre its.toList ns) (few : ns.length + 1 < scanBound)
    (then_ : ∀ (g : Heap) (tk c : Nat), SetR w g s.heap.objs.size (fun j => decide (j ∈ ns)) c → c ≤ ns.length → (∀ b o, s.heap.get? b = some o → g.get? b = some o) → Q (.ref s.heap.objs.size) { s with heap := g, toks := tk }) :
    wpAny (model P w) A (call (.type "set") [.ref l]) Q E s := by
  have size : its.size = ns.length := by rw [← Array.length_toList, IntsAre.length areI]
  obtain ⟨cc, tt, mro⟩ := F.called_set.mro
  have a1 := F.called_set.made
  have a2 := F.called_set.sub
  have a3 := F.called_set.notType
  have a4 := F.called_set.canCreate
  have a5 := F.typeCall_set_1 (.ref l)
  refine wpAny_call (codeAny_of_tree (show wpAny _ _ (callAny (.type "set") _) _ _ _ from ?_))
  refine wpAny_pure ⟨Code.quiet_builtin _ (by decide +kernel), codeAny_builtin F.entry_type_call ?_⟩
  rw [Around.under_plain (weight_type_call_type "set" [.ref l] []) rfl]
  repeat (any_goals (first | assumption | wp_step))
  refine codeAny_mono (code_set_led1 (.ref l) (E := E) (Q₁ := fun o s₁ => o = .ref s.heap.objs.size ∧ s₁ = { s with heap := s.heap.push (set0 w) }) ⟨rfl, rfl⟩) fun r s₁ hr => ?_
  cases r with
  | error e => exact hr
  | ok fl =>
    cases fl with
    | ret o1 =>
      obtain ⟨rfl, rfl⟩ := hr
      have new : (s.heap.push (set0 w)).get? s.heap.objs.size = some (set0 w) := Heap.get?_push_size _ rfl
      have ty : Shared.TypeIs { s with heap := s.heap.push (set0 w) } (.ref s.heap.objs.size) "set" := ⟨_, new, rfl⟩
      have b1 := F.called_set.init.lookup
      have b2 := F.called_set.init.bind (.ref s.heap.objs.size)
      repeat (any_goals (first | assumption | wp_step))
      refine codeAny_mono (codeAny_call_builtin (R := PySem.wants (fun r s₂ => r = .none ∧ ∃ g tk c, s₂ = { s with heap := g, toks := tk } ∧ SetR w g s.heap.objs.size (fun j => decide (j ∈ ns)) c ∧ c ≤ ns.length ∧ (∀ b o, s.heap.get? b = some o → g.get? b = some o)) E) F.called_set.init.plain F.entry_set_init (check_set_init_1 ty ?_)) fun r₂ s₂ hr₂ => ?_
      · obtain ⟨⟨oc, od, odt, osl⟩, e1, e2, nl, e3⟩ := isL
        simp only at e2 e3
        subst e2
        subst e3
        have there : (s.heap.push (set0 w)).get? l = some { cls := .type "list", dict := od, data := .seq its nl, slots := osl } := Heap.get?_push_of_some _ e1
        have isL2 : (s.heap.push (set0 w)).IsList l its := ⟨_, there, rfl, nl, rfl⟩
        have c1 := PySem.F.sub_list_set
        have c2 := PySem.F.sub_list_frozenset
        have c3 : (Value.type "list" == Value.type "dict") = false := by decide
        unfold Builtin.«set.__init__» noKeywords Builtin.Frozenset.updateFrom
        generalize hI : pyIter = J
        wp_walk
        subst hI
        refine wpAny_pyIter_list isL2 (wpAny_bind (wpAny_runValue ?_))
        have lt : l < s.heap.objs.size := Heap.lt_size e1
        have sz : (s.heap.push (set0 w)).objs.size = s.heap.objs.size + 1 := Heap.size_push ..
        have ne : l ≠ (s.heap.push (set0 w)).objs.size  := by rw [sz]; exact Nat.ne_of_lt (Nat.lt_succ_of_lt lt)
        have out : s.heap.objs.size ∉ [(s.heap.push (set0 w)).objs.size, l] := fun z => by
          rcases List.mem_cons.mp z with z | z
          · rw [sz] at z; exact absurd z (Nat.ne_of_lt (Nat.lt_succ_self _))
          · exact absurd (List.mem_singleton.mp z) (Nat.ne_of_gt lt)
        have vals : ∀ (i : Nat) (v : Value), its[i]? = some v → ∃ k t, ns[i]? = some k ∧ v = .int k t := fun i v hv => by
          have hi : i < ns.length := by rw [← size]; exact (Array.getElem?_eq_some_iff.mp hv).1
          obtain ⟨t, e⟩ := PyProof.Rows.IntsAre.int_at areI i v (by rw [Array.getElem?_toList]; exact hv)
          exact ⟨ns[i], t, List.getElem?_eq_getElem hi, by rw [e, List.getD_eq_getElem?_getD, List.getElem?_eq_getElem hi] <;> rfl⟩
        refine set_update_ints ((Walks.list (by simp [calm]) _ l ne its).toS) s.heap.objs.size out ns size few vals (its.size - 0) 0 _ (by omega) (Nat.zero_le _) ⟨⟨_, Heap.get?_push_size _ rfl, rfl, rfl⟩, (isL2.push _)⟩ ?start ?stop
        case start =>
          exact ⟨0, Nat.le_refl 0, setR_new_at (Heap.get?_push_of_some _ new)⟩
        case stop =>
          intro s' c' moved hc' hS'
          obtain ⟨g, g2, d', tk', os'⟩ := s'
          obtain rfl : g2 = s.gens := moved.gens
          obtain rfl : d' = s.drawn := moved.drawn
          obtain rfl : os' = s.os := moved.os
          refine wpAny_pure (show wpAny _ _ (ret Value.none) _ _ _ from ?_)
          rw [size] at hc'
          refine wpAny_pure ⟨rfl, g, tk', c', rfl, hS', hc', fun b o e => ?_⟩
          have hb := Heap.lt_size e
          refine moved.heap b o (fun z => ?_) (Heap.get?_push_of_some _ (Heap.get?_push_of_some _ e))
          rcases List.mem_cons.mp z with z | z
          · exact absurd z (Nat.ne_of_lt hb)
          · have z := List.mem_singleton.mp z
            rw [sz] at z
            exact absurd z (Nat.ne_of_lt (Nat.lt_succ_of_lt hb))
      · cases r₂ with
        | error e => exact hr₂
        | ok f2 =>
          cases f2 with
          | ret r =>
            obtain ⟨rfl, g, tk, c, rfl, h1, h2, h3⟩ := hr₂
            repeat (any_goals (first | assumption | wp_step))
            exact then_ _ _ _ h1 h2 h3
          | _ => exact hr₂.elim
    | _ => exact hr.elim
end
/-- sorted(set(xs)) of fewer than 64 ints -/
def tSortedSetI (K : PySem.W.Frag) (ta : TE) : TE := fun σ H Q => ta σ H fun x H1 => ∃ (l : Addr) (ns : List Int), x = .ref l ∧ SqL K H1 l (ns.map V.int) ∧ ns.length < 64 ∧
  ∀ (out : List Int) (q : Addr), out.Pairwise (· < ·) → (∀ k : Int, k ∈ out ↔ k ∈ ns) → H1 q = none → Q (.ref q) (upd H1 q (.lst (out.map V.int)))
theorem pe_sortedSetI {X : Cx} {a : Expr} {ta : TE} {p p2 q pos : Pos} (hc : X.calm = true) (hg : Gl X "sorted") (hm : X.mg "sorted" = none) (hg2 : Gl X "set") (hm2 : X.mg "set" = none) (ha : PE X a ta)
    (na : starEach [a] X.env = (false, eval a X.env) :: starEach [] X.env := by rfl) : PE X (.Call (.Name "sorted" p) [.Call (.Name "set" p2) [a] [] q] [] pos) (tSortedSetI X.K ta) := by
  refine ⟨fun pins s σ H Q I h => Call_ (ld_blt I hg hm boot_sorted (PyProof.Rows.callWith_builtin1 (PyProof.Rows.args_cons ?_ rfl) rfl rfl))⟩
  refine Call_ (ld_blt I hg2 hm2 PyProof.Rows.boot_set (PyProof.Rows.callWith_type1 (PyProof.Rows.args_cons (thn (ha.run pins s σ H _ I h) fun v s1 ⟨x, H1, I1, r1, q1⟩ => PyProof.Rows.args_nil ?_) na) na rfl))
  obtain ⟨l, ns, rfl, hq, h64, q1⟩ := q1
  cases r1
  obtain ⟨its, rv, pl, hz⟩ := I1.list hq
  refine set_of_list ns (I1.ok.hd hc) pl.isList (by simpa using ints_of_vals rv) (by unfold scanBound; omega) fun g tk c R hcn keep => PyProof.Rows.args_nil ?_
  have I2 : Inv X pins σ H1 { s1 with heap := g, toks := tk } := I1.kept fun b o e => keep b o e
  have size : s1.heap.objs.size ≤ g.objs.size := by
    obtain ⟨o, _, _, _, ho, _⟩ := R
    exact Nat.le_of_lt (Heap.lt_size ho)
  refine sorted_set (s := { s1 with heap := g, toks := tk }) R (I1.ok.hd hc) (by omega) fun s' p out c2 ys k2 g2 o2 hp hget hi hs hm3 hl => ?_
  have free : H1 p = none := I2.hok.fresh hp
  have hlen : (ys.map V.int).length ≤ sizeLine := by rw [List.length_map, hl, sizeLine_eq]; omega
  have J : Inv X pins σ (upd H1 p (.lst (ys.map V.int))) { ({ s1 with heap := g, toks := tk } : Shared) with heap := s'.heap, gens := s'.gens, drawn := s'.drawn, toks := s'.toks } :=
    Inv.call (s := { s1 with heap := g, toks := tk }) I2 (ch := []) (Un.laid k2 hp free) (I2.hok.laid k2 hp ⟨hlen, out.toList, c2, vals_of_ints hi, hget⟩) (by rw [g2]; exact I2.bare) (fun _ z => nomatch z)
  have e : s' = { s1 with heap := s'.heap, gens := s'.gens, drawn := s'.drawn, toks := s'.toks } := by
    rcases s' with ⟨_, _, _, _, _⟩
    cases o2
    rfl
  rw [e]
  exact ⟨.ref p, _, J, rfl, q1 ys p hs (fun k => by rw [hm3 k]; simp) free⟩
/-! ### t[::-1] of a tuple -/
section
variable {P : Program} {w : World} {A : Around} {E : Value → Shared → Prop} {s : Shared}
theorem back_adjust (n : Nat) : Builtin.Slice.sliceAdjust none none (-1) (n : Int) = ((n : Int) - 1, -1) := rfl
theorem back_places (n : Nat) : Builtin.Slice.slicePlaces ((n : Int) - 1) (-1) (-1) = n := by
  unfold Builtin.Slice.slicePlaces
  rw [if_neg (by decide)]
  by_cases h : (n : Int) - 1 > -1
  · rw [if_pos h]
    have : ((n : Int) - 1 - (-1) - 1) / (- -1) = (n : Int) - 1 := by
      rw [show (- -1 : Int) = 1 from rfl, Int.ediv_one]
      omega
    rw [this]
    omega
  · rw [if_neg h]
    omega
theorem back_pick (xs : Array Value) : ((List.range xs.size).filterMap fun (k : Nat) => xs[(((xs.size : Int) - 1) + (k : Int) * (-1)).toNat]?).toArray = xs.toList.reverse.toArray := by
  have e : (fun (k : Nat) => xs[(((xs.size : Int) - 1) + (k : Int) * (-1)).toNat]?) = fun k => ((fun j : Nat => xs[j]?) ∘ fun k => xs.size - 1 - k) k := by
    funext k
    have q : (((xs.size : Int) - 1) + (k : Int) * (-1)).toNat = xs.size - 1 - k := by omega
    show xs[_]? = xs[xs.size - 1 - k]?
    rw [q]
  rw [e, ← List.filterMap_map, PySem.W.krv_range, List.filterMap_reverse, PySem.W.krv_all]
theorem sliceApplied_back {sl : Addr} {va vb vc : Value} {n : Nat} {Q : Int × Int × Nat → Shared → Prop} (hs : s.heap.IsSliceOf sl va vb vc) (p1 : IsPart va none) (p2 : IsPart vb none) (p3 : IsPart vc (some (-1)))
    (h : Q ((n : Int) - 1, -1, n) s) : wpAny (model P w) A (Builtin.Slice.sliceApplied (.ref sl) (pure (n : Int))) Q E s := by
  obtain ⟨ob, e1, e2, e3⟩ := id hs
  unfold Builtin.Slice.sliceApplied Builtin.Slice.sliceFields
  refine wpAny_bind (wpAny_bind (wpAny_field e1 e3 (x := va) rfl (wpAny_bind (wpAny_field e1 e3 (x := vb) rfl (wpAny_bind (wpAny_field e1 e3 (x := vc) rfl (wpAny_pure ?_)))))))
  refine wpAny_bind (HT.slicePart_ p3 ?_)
  show wpAny _ _ (if ((-1 : Int) == 0) = true then _ else _) _ _ s
  rw [if_neg (by decide)]
  refine wpAny_bind (HT.slicePart_ p1 (wpAny_bind (HT.slicePart_ p2 (wpAny_bind (wpAny_pure ?_)))))
  show wpAny _ _ (match Builtin.Slice.sliceAdjust none none (-1) (n : Int) with | (lo, hi) => pure (lo, (-1 : Int), Builtin.Slice.slicePlaces lo hi (-1))) _ _ s
  rw [back_adjust]
  show wpAny _ _ (pure ((n : Int) - 1, (-1 : Int), Builtin.Slice.slicePlaces ((n : Int) - 1) (-1) (-1))) _ _ s
  rw [back_places]
  exact wpAny_pure h
theorem tuple_back {t sl : Addr} {its : Array Value} {va vb vc : Value} {Q : Value → Shared → Prop} (ht : IsTup s.heap t its) (hs : s.heap.IsSliceOf sl va vb vc) (p1 : IsPart va none) (p2 : IsPart vb none) (p3 : IsPart vc (some (-1)))
    (h : Q (.ref s.heap.objs.size) { s with heap := s.heap.push { cls := .type "tuple", data := .seq its.toList.reverse.toArray } }) (hz : its.size ≤ sizeLine) : wpAny (model P w) A (getItem (.ref t) (.ref sl)) Q E s := by
  have fits : sizeOk (.seq its.toList.reverse.toArray) := by
    show its.toList.reverse.toArray.size ≤ sizeLine
    rw [List.size_toArray, List.length_reverse, Array.length_toList]
    exact hz
  obtain ⟨ob, e1, e2, e3⟩ := id hs
  have isS : s.TypeIs (.ref sl) "slice" := ⟨ob, e1, e2⟩
  unfold getItem
  try with_reducible refine wpAny_holding ?_
  first | refine wpAny_bind (wpAny_pure ?_) | skip
  refine wpAny_bind (wpAny_sequenceKey ht.typeIs (by decide) (wpAny_bind (wpAny_callSpecial?_slot (name := Str.ofString "__getitem__") ht.typeIs PyProof.Rows.slot_tuple_getitem (wpAny_call_entry PyProof.Rows.slot_tuple_getitem ht.typeIs entry_tuple_getitem ?_ (args_tuple_getitem _ _)))))
  refine wpAny_bind (m := Builtin.Tuple.tupleItemsOf (.ref t)) (PyProof.Rows.tupleItemsOf_ ht (wpAny_bind (wpAny_typeOf isS ?_)))
  rw [if_pos (by decide)]
  refine wpAny_bind (sliceApplied_back hs p1 p2 p3 ?_)
  have no : ¬ ((((its.size : Int) - 1) == 0 && (-1 : Int) == 1 && its.size == its.size) = true) := by simp
  show wpAny _ _ (if (((its.size : Int) - 1) == 0 && (-1 : Int) == 1 && its.size == its.size) = true then _ else _) _ _ s
  rw [if_neg no, back_pick]
  first
    | exact wpAny_bind (m := Builtin.Tuple.tupleExact _) (wpAny_newObj_type (wpAny_pure ⟨_, rfl, wpAny_pure h⟩) fits)
    | exact wpAny_bind (m := Builtin.Tuple.tupleExact _) (wpAny_newObj_type (wpAny_bind (wpAny_pure (wpAny_pure ⟨_, rfl, wpAny_pure h⟩))) fits)
    | exact wpAny_bind (wpAny_bind (m := Builtin.Tuple.tupleExact _) (wpAny_newObj_type (wpAny_pure (wpAny_pure ⟨_, rfl, wpAny_pure h⟩)) fits))
    | exact wpAny_bind (wpAny_bind (m := Builtin.Tuple.tupleExact _) (wpAny_newObj_type (wpAny_pure ⟨_, rfl, wpAny_pure h⟩) fits))
end
/-- xs[::-1], a list or a tuple -/
def tRevA (K : PySem.W.Frag) (te : TE) : TE := fun σ H Q => te σ H fun x H1 => ∃ a xs, x = .ref a ∧ ((SqL K H1 a xs ∧ ∀ p, H1 p = none → Q (.ref p) (upd H1 p (.lst xs.reverse))) ∨ (SqT K H1 a xs ∧ ∀ p, H1 p = none → Q (.ref p) (upd H1 p (.tup xs.reverse))))
theorem pe_revA {X : Cx} {e : Expr} {te : TE} {k : Nat} {p1 p2 p3 pos : Pos} (he : PE X e te) : PE X (.Subscript e (.Slice none none (some (.UnaryOp .USub (.Constant (.int 1) k p1) p2)) p3) pos) (tRevA X.K te) := by
  refine ⟨fun pins s σ H Q I h => Subscript_ (thn (he.run pins s σ H _ I h) fun v s1 ⟨x, H1, I1, r1, q1⟩ => ?_)⟩
  obtain ⟨a, xs, rfl, q⟩ := q1
  cases r1
  have step : PO X (some (.UnaryOp .USub (.Constant (.int 1) k p1) p2)) (tPart (tUn (rU fun i => .int (-i)) (tC (.int 1)))) := po_some (pe_un un_neg pe_int)
  refine wpAny_Slice (thn (po_none.run pins s1 σ H1 (fun o H2 => o = none ∧ H2 = H1) I1 ⟨rfl, rfl⟩) fun va s2 ⟨o1, H2, I2, pa, z1, z2⟩ => ?_)
  subst z1 z2
  refine thn (po_none.run pins s2 σ H2 (fun o H3 => o = none ∧ H3 = H2) I2 ⟨rfl, rfl⟩) fun vb s3 ⟨o2, H3, I3, pb, z1, z2⟩ => ?_
  subst z1 z2
  refine thn (step.run pins s3 σ H3 (fun o H4 => o = some (-1) ∧ H4 = H3) I3 ⟨1, rfl, -1, rfl, rfl, rfl⟩) fun vc s4 ⟨o3, H4, I4, pc, z1, z2⟩ => ?_
  subst z1 z2
  have J : Inv X pins σ H4 { s4 with heap := s4.heap.push { cls := .type "slice", data := .fields #[va, vb, vc] } } := I4.kept (t' := s4.toks) fun b ob q => Heap.get?_push_of_some _ q
  have go : ∀ {T : String} {id : String}, typeLookup (.type T) "__getitem__" = pure (some (.builtin id)) → Shared.TypeIs { s4 with heap := s4.heap.push { cls := .type "slice", data := .fields #[va, vb, vc] } } (.ref a) T →
      wpAny (model X.prog X.w) X.A (getItem (.ref a) (.ref s4.heap.objs.size)) (EP X pins σ Q) X.xe { s4 with heap := s4.heap.push { cls := .type "slice", data := .fields #[va, vb, vc] } } →
      wpAny (model X.prog X.w) X.A (subscriptTail e (.Slice none none (some (.UnaryOp .USub (.Constant (.int 1) k p1) p2)) p3) (.ref a) (.ref s4.heap.objs.size)) (EP X pins σ Q) X.xe { s4 with heap := s4.heap.push { cls := .type "slice", data := .fields #[va, vb, vc] } } := fun hl ht hg =>
    tail_any (ops := [.ref a, .ref s4.heap.objs.size]) ht hl hg (by with_unfolding_all rfl)
  rcases q with ⟨hx, q⟩ | ⟨hx, q⟩
  · obtain ⟨its, r, ht, hz⟩ := J.list hx
    have hn := r.length
    refine go PySem.slot_list_getitem.lookup ht.isList.typeIs (wpAny_getItem_list_slice ht.isList (Heap.IsSliceOf.new _ va vb vc) pa pb pc (by decide) ?_ (by rw [List.size_toArray]; omega))
    rw [PySem.W.krv_pick]
    exact ⟨.ref _, _, J.laid (t' := s4.toks) (o := .lst xs.reverse) (fun b ob q => Heap.get?_push_of_some _ q) (Nat.le_refl _) ⟨by rw [List.length_reverse]; exact hz, _, 0, r.reverse, Heap.get?_push_size _ rfl⟩, rfl, q _ (J.hok.fresh (Nat.le_refl _))⟩
  · obtain ⟨its, r, ht, hz⟩ := J.tuple hx
    have hn := r.length
    refine go PyProof.Rows.slot_tuple_getitem.lookup ht.typeIs (tuple_back ht (Heap.IsSliceOf.new _ va vb vc) pa pb pc ?_ (by rw [List.size_toArray]; omega))
    exact ⟨.ref _, _, J.laid (t' := s4.toks) (o := .tup xs.reverse) (fun b ob q => Heap.get?_push_of_some _ q) (Nat.le_refl _) (show ObjOk X.prog X.w _ _ _ (.tup xs.reverse) from ⟨by rw [List.length_reverse]; exact hz, its.reverse, r.reverse, IsTup.new _ _⟩), rfl, q _ (J.hok.fresh (Nat.le_refl _))⟩
end Mi
namespace Mi
open PySem PySem.Spec PyProof.Rows L2

abbrev EvF := Sl → Mem → Option (D × Mem)
def tM (K : PySem.W.Frag) (fr : Bool) (f : EvF) : TE := fun σ H Q => ∃ (G F : FP) (r : Nat → Addr) (σD : Sl) (M : Mem) (d : D) (M' : Mem), RH K G F r M H ∧ RS K F r M.length H σD σ ∧ f σD M = some (d, M') ∧ Fin K fr G F r M.length H M' d Q
def tMt (K : PySem.W.Frag) (f : Sl → Mem → Option (Bool × Mem)) : TT := fun σ H Q => ∃ (G F : FP) (r : Nat → Addr) (σD : Sl) (M : Mem) (b : Bool) (M' : Mem), RH K G F r M H ∧ RS K F r M.length H σD σ ∧ f σD M = some (b, M') ∧
  ∀ F' r' H', Ext G F r M.length H F' r' M'.length H' → RH K G F' r' M' H' → Q b H'
def tMs (K : PySem.W.Frag) (f : Sl → Mem → Option (List D × Mem)) : TA := fun σ H Q => ∃ (G F : FP) (r : Nat → Addr) (σD : Sl) (M : Mem) (ds : List D) (M' : Mem), RH K G F r M H ∧ RS K F r M.length H σD σ ∧ f σD M = some (ds, M') ∧
  ∀ vs F' r' H', Ext G F r M.length H F' r' M'.length H' → RH K G F' r' M' H' → Reps K F' r' M'.length H' vs ds → Q vs H'
def tMo (K : PySem.W.Frag) (f : Sl → Mem → Option (List D × Mem)) : TO := fun σ H Q => ∃ (G F : FP) (r : Nat → Addr) (σD : Sl) (M : Mem) (ds : List D) (o : Option Int) (M' : Mem), RH K G F r M H ∧ RS K F r M.length H σD σ ∧ f σD M = some (ds, M') ∧ partOf ds = some o ∧
  ∀ F' r' H', Ext G F r M.length H F' r' M'.length H' → RH K G F' r' M' H' → Q o H'
def evt (cf : CF) (e : ME) : Sl → Mem → Option (Bool × Mem) := fun σ M => (ev cf e σ M).bind fun x => (truD x.2 x.1).map (·, x.2)
theorem bindE {α β : Type} {o : Option α} {f : α → Option β} {y : β} (h : o.bind f = some y) : ∃ x, o = some x ∧ f x = some y := Option.bind_eq_some_iff.mp h
theorem mapE {α β : Type} {o : Option α} {f : α → β} {y : β} (h : o.map f = some y) : ∃ x, o = some x ∧ f x = y := Option.map_eq_some_iff.mp h
theorem RX.rep {K : PySem.W.Frag} {G F : FP} {r : Nat → Addr} {n : Nat} {H : Hp} {v : V} {d : D} (x : RX K false G F r n H v d) : Rep K F r n H v d := by cases d <;> exact x
section
variable {X : Cx} {e a b t : Expr} {f : EvF} {fr : Bool} {cf : CF} {ea eb ec : ME} {pos : Pos}
theorem pe_conv {t t' : TE} (h : PE X e t) (c : ∀ σ H Q, t' σ H Q → t σ H Q) : PE X e t' := ⟨fun pins s σ H Q I q => h.run pins s σ H Q I (c σ H Q q)⟩
theorem pt_conv {t t' : TT} (h : PT X e t) (c : ∀ σ H Q, t' σ H Q → t σ H Q) : PT X e t' := ⟨fun pins s σ H Q I q => h.run pins s σ H Q I (c σ H Q q)⟩
theorem pe_weak (h : PE X e (tM X.K fr f)) : PE X e (tM X.K false f) := pe_conv h fun σ H Q ⟨G, F, r, σD, M, d, M', hR, hS, he, hQ⟩ => ⟨G, F, r, σD, M, d, M', hR, hS, he, by
  cases fr with
  | false => exact hQ
  | true => exact hQ.weak⟩
theorem pe_up (h : PE X e (tM X.K true f)) : PE X e (tM X.K fr f) := by
  cases fr with
  | true => exact h
  | false => exact pe_weak h
/-- one after another -/
theorem two {fa fb : EvF} {σ : L2.St} {H : Hp} {Q : V → V → Hp → Prop} {G F : FP} {r : Nat → Addr} {σD : Sl} {M : Mem} {x y : D × Mem} (hR : RH X.K G F r M H) (hS : RS X.K F r M.length H σD σ) (e1 : fa σD M = some x) (e2 : fb σD x.2 = some y)
    (h : ∀ v u F' r' H', Ext G F r M.length H F' r' y.2.length H' → RH X.K G F' r' y.2 H' → Rep X.K F' r' y.2.length H' v x.1 → Rep X.K F' r' y.2.length H' u y.1 → Q v u H') :
    tM X.K false fa σ H fun v H1 => tM X.K false fb σ H1 fun u H2 => Q v u H2 :=
  ⟨G, F, r, σD, M, x.1, x.2, hR, hS, e1, fun v F1 r1 H1 E1 R1 x1 => ⟨G, F1, r1, σD, x.2, y.1, y.2, R1, hS.ext E1, e2, fun u F2 r2 H2 E2 R2 x2 => h v u F2 r2 H2 (E1.trans E2) R2 (x1.rep.ext E2) x2.rep⟩⟩
theorem s_var {i : Nat} {x : Str} (hN : X.N[i]? = some x) (hv : Vis X.env.scope x) (hd : (x == ("__debug__" : Str)) = false) (hcd : (x == ("__classdict__" : Str)) = false) : PE X (.Name x pos) (tM X.K false (ev cf (.var i))) :=
  pe_conv (pe_var hN hv hd hcd) fun σ H Q ⟨G, F, r, σD, M, d, M', hR, hS, he, hQ⟩ => by
    unfold ev at he
    obtain ⟨z, h1, h2⟩ := mapE he
    cases h2
    have h3 : σD[i]? = some (some d) := by
      cases q : σD[i]? with
      | none => rw [q] at h1; cases h1
      | some o => rw [q] at h1; cases o with
        | none => cases h1
        | some w => cases h1; rfl
    obtain ⟨v, h4, h5⟩ := hS.2 i d h3
    exact ⟨v, h4, hQ.old hR h5⟩
theorem s_cst {v : V} {d : D} (h : PE X e (tC v)) (hr : ∀ F r n H, Rep X.K F r n H v d) : PE X e (tM X.K false (ev cf (.cst d))) :=
  pe_conv h fun σ H Q ⟨G, F, r, σD, M, d', M', hR, hS, he, hQ⟩ => by
    unfold ev at he
    cases he
    exact hQ.old hR (hr _ _ _ _)
theorem s_bin {op : Operator} (ha : PE X a (tM X.K false (ev cf ea))) (hb : PE X b (tM X.K false (ev cf eb))) : PE X (.BinOp a op b pos) (tM X.K true (ev cf (.bin op ea eb))) :=
  pe_conv (pe_op op_bin ha hb) fun σ H Q ⟨G, F, r, σD, M, d, M', hR, hS, he, hQ⟩ => by
    unfold ev at he
    obtain ⟨x, e1, he⟩ := bindE he
    obtain ⟨y, e2, he⟩ := bindE he
    obtain ⟨z, e3, he⟩ := mapE he
    cases he
    exact two hR hS e1 e2 fun v u F' r' H' E R q1 q2 => ⟨G, F', r', y.2, x.1, y.1, d, R, q1, q2, e3, hQ.ext E⟩
theorem s_cmp {op : CmpOp} (hu : X.A.units + 65 < cLine) (hm : behindInMarks op b = false) (ha : PE X a (tM X.K false (ev cf ea))) (hb : PE X b (tM X.K false (ev cf eb))) : PE X (.Compare a [op] [b] pos) (tM X.K false (ev cf (.cmp op ea eb))) :=
  pe_conv (pe_cmpR (op_cmp hu) ha hb hm) fun σ H Q ⟨G, F, r, σD, M, d, M', hR, hS, he, hQ⟩ => by
    unfold ev at he
    obtain ⟨x, e1, he⟩ := bindE he
    obtain ⟨y, e2, he⟩ := bindE he
    obtain ⟨z, e3, he⟩ := mapE he
    cases he
    exact two hR hS e1 e2 fun v u F' r' H' E R q1 q2 => ⟨G, F', r', y.2, x.1, y.1, z, R, q1, q2, e3, (hQ.ext E).bl R⟩
theorem t_cmp {op : CmpOp} (hu : X.A.units + 65 < cLine) (hm : behindInMarks op b = false) (ha : PE X a (tM X.K false (ev cf ea))) (hb : PE X b (tM X.K false (ev cf eb))) : PT X (.Compare a [op] [b] pos) (tMt X.K (evt cf (.cmp op ea eb))) :=
  pt_conv (pt_cmpR (op_cmp hu) ha hb hm) fun σ H Q ⟨G, F, r, σD, M, d, M', hR, hS, he, hQ⟩ => by
    unfold evt ev at he
    obtain ⟨w, h0, he⟩ := bindE he
    obtain ⟨x, e1, h0⟩ := bindE h0
    obtain ⟨y, e2, h0⟩ := bindE h0
    obtain ⟨z, e3, h0⟩ := mapE h0
    cases h0
    cases he
    exact two hR hS e1 e2 fun v u F' r' H' E R q1 q2 => ⟨G, F', r', y.2, x.1, y.1, _, R, q1, q2, e3, _, rfl, hQ F' r' H' E R⟩
theorem s_chain {op op' : CmpOp} {c : Expr} (hu : X.A.units + 65 < cLine) (hm : behindInMarks op' c = false) (ha : PE X a (tM X.K false (ev cf ea))) (hb : PE X b (tM X.K false (ev cf eb))) (hc : PE X c (tM X.K false (ev cf ec))) : PE X (.Compare a [op, op'] [b, c] pos) (tM X.K false (ev cf (.chain op op' ea eb ec))) :=
  pe_conv (pe_chain (op_cmp hu) (op_cmp hu) ha hb hc hm) fun σ H Q ⟨G, F, r, σD, M, d, M', hR, hS, he, hQ⟩ => by
    unfold ev at he
    obtain ⟨x, e1, he⟩ := bindE he
    obtain ⟨y, e2, he⟩ := bindE he
    obtain ⟨z, e3, he⟩ := bindE he
    refine two hR hS e1 e2 fun v u F' r' H' E R q1 q2 => ⟨G, F', r', y.2, x.1, y.1, z, R, q1, q2, e3, z, rfl, ?_⟩
    cases z with
    | false =>
      rw [if_neg (by decide)] at he ⊢
      cases he
      exact (hQ.ext E).bl R
    | true =>
      rw [if_pos rfl] at he ⊢
      obtain ⟨w, e4, he⟩ := bindE he
      obtain ⟨k, e5, he⟩ := mapE he
      cases he
      exact ⟨G, F', r', σD, y.2, w.1, w.2, R, hS.ext E, e4, fun v3 F3 r3 H3 E3 R3 x3 => ⟨G, F3, r3, w.2, y.1, w.1, k, R3, q2.ext E3, x3.rep, e5, (hQ.ext (E.trans E3)).bl R3⟩⟩
theorem t_chain {op op' : CmpOp} {c : Expr} (hu : X.A.units + 65 < cLine) (hm : behindInMarks op' c = false) (ha : PE X a (tM X.K false (ev cf ea))) (hb : PE X b (tM X.K false (ev cf eb))) (hc : PE X c (tM X.K false (ev cf ec))) : PT X (.Compare a [op, op'] [b, c] pos) (tMt X.K (evt cf (.chain op op' ea eb ec))) :=
  pt_conv (pt_chain (op_cmp hu) (op_cmp hu) ha hb hc hm) fun σ H Q ⟨G, F, r, σD, M, d, M', hR, hS, he, hQ⟩ => by
    unfold evt ev at he
    obtain ⟨w0, h0, he⟩ := bindE he
    obtain ⟨x, e1, h0⟩ := bindE h0
    obtain ⟨y, e2, h0⟩ := bindE h0
    obtain ⟨z, e3, h0⟩ := bindE h0
    refine two hR hS e1 e2 fun v u F' r' H' E R q1 q2 => ⟨G, F', r', y.2, x.1, y.1, z, R, q1, q2, e3, z, rfl, ?_⟩
    cases z with
    | false =>
      rw [if_neg (by decide)] at h0 ⊢
      cases h0
      cases he
      exact ⟨_, rfl, hQ F' r' H' E R⟩
    | true =>
      rw [if_pos rfl] at h0 ⊢
      obtain ⟨w, e4, h0⟩ := bindE h0
      obtain ⟨k, e5, h0⟩ := mapE h0
      cases h0
      cases he
      exact ⟨G, F', r', σD, y.2, w.1, w.2, R, hS.ext E, e4, fun v3 F3 r3 H3 E3 R3 x3 => ⟨G, F3, r3, w.2, y.1, w.1, _, R3, q2.ext E3, x3.rep, e5, _, rfl, hQ F3 r3 H3 (E.trans E3) R3⟩⟩
theorem s_neg (ha : PE X a (tM X.K false (ev cf ea))) : PE X (.UnaryOp .USub a pos) (tM X.K false (ev cf (.neg ea))) :=
  pe_conv (pe_un un_neg ha) fun σ H Q ⟨G, F, r, σD, M, d, M', hR, hS, he, hQ⟩ => by
    unfold ev at he
    obtain ⟨x, e1, he⟩ := bindE he
    obtain ⟨xd, xm⟩ := x
    refine ⟨G, F, r, σD, M, xd, xm, hR, hS, e1, fun v F1 r1 H1 E1 R1 x1 => ?_⟩
    cases xd <;> first | cases he | skip
    exact ⟨_, Rep.int x1.rep, (hQ.ext E1).int R1⟩
theorem s_not (ha : PE X a (tM X.K false (ev cf ea))) : PE X (.UnaryOp .Not a pos) (tM X.K false (ev cf (.not ea))) :=
  pe_conv (pe_notT ha) fun σ H Q ⟨G, F, r, σD, M, d, M', hR, hS, he, hQ⟩ => by
    unfold ev at he
    obtain ⟨x, e1, he⟩ := bindE he
    obtain ⟨t, e2, he⟩ := mapE he
    cases he
    exact ⟨G, F, r, σD, M, x.1, x.2, hR, hS, e1, fun v F1 r1 H1 E1 R1 x1 => ⟨t, tru_of R1 x1.rep e2, (hQ.ext E1).bl R1⟩⟩
theorem t_not (ha : PT X a (tMt X.K (evt cf ea))) : PT X (.UnaryOp .Not a pos) (tMt X.K (evt cf (.not ea))) :=
  pt_conv (pt_not ha) fun σ H Q ⟨G, F, r, σD, M, d, M', hR, hS, he, hQ⟩ => by
    unfold evt ev at he
    obtain ⟨w0, h0, he⟩ := bindE he
    obtain ⟨x, e1, h0⟩ := bindE h0
    obtain ⟨t, e2, h0⟩ := mapE h0
    cases h0
    cases he
    refine ⟨G, F, r, σD, M, t, x.2, hR, hS, ?_, fun F1 r1 H1 E1 R1 => hQ F1 r1 H1 E1 R1⟩
    show ((ev cf ea σD M).bind fun x => (truD x.2 x.1).map (·, x.2)) = _
    rw [e1, Option.bind_some, e2]
    rfl
theorem s_and {rest : List Expr} (ha : PE X a (tM X.K false (ev cf ea))) (hb : PE X (.BoolOp .And (b :: rest) pos) (tM X.K false (ev cf eb))) : PE X (.BoolOp .And (a :: b :: rest) pos) (tM X.K false (ev cf (.and ea eb))) :=
  pe_conv (pe_andT ha hb) fun σ H Q ⟨G, F, r, σD, M, d, M', hR, hS, he, hQ⟩ => by
    unfold ev at he
    obtain ⟨x, e1, he⟩ := bindE he
    obtain ⟨t, e2, he⟩ := bindE he
    refine ⟨G, F, r, σD, M, x.1, x.2, hR, hS, e1, fun v F1 r1 H1 E1 R1 x1 => ⟨t, tru_of R1 x1.rep e2, ?_⟩⟩
    cases t with
    | false =>
      rw [if_neg (by decide)] at he ⊢
      cases he
      exact (hQ.ext E1).old R1 x1.rep
    | true =>
      rw [if_pos rfl] at he ⊢
      exact ⟨G, F1, r1, σD, x.2, d, M', R1, hS.ext E1, he, hQ.ext E1⟩
theorem s_or {rest : List Expr} (ha : PE X a (tM X.K false (ev cf ea))) (hb : PE X (.BoolOp .Or (b :: rest) pos) (tM X.K false (ev cf eb))) : PE X (.BoolOp .Or (a :: b :: rest) pos) (tM X.K false (ev cf (.or ea eb))) :=
  pe_conv (pe_orT ha hb) fun σ H Q ⟨G, F, r, σD, M, d, M', hR, hS, he, hQ⟩ => by
    unfold ev at he
    obtain ⟨x, e1, he⟩ := bindE he
    obtain ⟨t, e2, he⟩ := bindE he
    refine ⟨G, F, r, σD, M, x.1, x.2, hR, hS, e1, fun v F1 r1 H1 E1 R1 x1 => ⟨t, tru_of R1 x1.rep e2, ?_⟩⟩
    cases t with
    | true =>
      rw [if_pos rfl] at he ⊢
      cases he
      exact (hQ.ext E1).old R1 x1.rep
    | false =>
      rw [if_neg (by decide)] at he ⊢
      exact ⟨G, F1, r1, σD, x.2, d, M', R1, hS.ext E1, he, hQ.ext E1⟩
theorem w_and {rest : List Expr} (ha : PT X a (tMt X.K (evt cf ea))) (hb : PW X (.BoolOp .And (b :: rest) pos) (tMt X.K (evt cf eb))) : PW X (.BoolOp .And (a :: b :: rest) pos) (tMt X.K (evt cf (.and ea eb))) :=
  ⟨fun whole pins s σ H Q I ⟨G, F, r, σD, M, d, M', hR, hS, he, hQ⟩ => (pw_and ha hb).run whole pins s σ H Q I (by
    unfold evt ev at he
    obtain ⟨w0, h0, he⟩ := bindE he
    obtain ⟨x, e1, h0⟩ := bindE h0
    obtain ⟨t, e2, h0⟩ := bindE h0
    refine ⟨G, F, r, σD, M, t, x.2, hR, hS, ?_, fun F1 r1 H1 E1 R1 => ?_⟩
    · show ((ev cf ea σD M).bind fun x => (truD x.2 x.1).map (·, x.2)) = _
      rw [e1, Option.bind_some, e2]
      rfl
    cases t with
    | false =>
      rw [if_neg (by decide)] at h0 ⊢
      cases h0
      rw [e2] at he
      cases he
      exact hQ F1 r1 H1 E1 R1
    | true =>
      rw [if_pos rfl] at h0 ⊢
      refine ⟨G, F1, r1, σD, x.2, d, M', R1, hS.ext E1, ?_, fun F2 r2 H2 E2 R2 => hQ F2 r2 H2 (E1.trans E2) R2⟩
      show ((ev cf eb σD x.2).bind fun x => (truD x.2 x.1).map (·, x.2)) = _
      rw [h0]
      exact he)⟩
theorem w_or {rest : List Expr} (ha : PT X a (tMt X.K (evt cf ea))) (hb : PW X (.BoolOp .Or (b :: rest) pos) (tMt X.K (evt cf eb))) : PW X (.BoolOp .Or (a :: b :: rest) pos) (tMt X.K (evt cf (.or ea eb))) :=
  ⟨fun whole pins s σ H Q I ⟨G, F, r, σD, M, d, M', hR, hS, he, hQ⟩ => (pw_or ha hb).run whole pins s σ H Q I (by
    unfold evt ev at he
    obtain ⟨w0, h0, he⟩ := bindE he
    obtain ⟨x, e1, h0⟩ := bindE h0
    obtain ⟨t, e2, h0⟩ := bindE h0
    refine ⟨G, F, r, σD, M, t, x.2, hR, hS, ?_, fun F1 r1 H1 E1 R1 => ?_⟩
    · show ((ev cf ea σD M).bind fun x => (truD x.2 x.1).map (·, x.2)) = _
      rw [e1, Option.bind_some, e2]
      rfl
    cases t with
    | true =>
      rw [if_pos rfl] at h0 ⊢
      cases h0
      rw [e2] at he
      cases he
      exact hQ F1 r1 H1 E1 R1
    | false =>
      rw [if_neg (by decide)] at h0 ⊢
      refine ⟨G, F1, r1, σD, x.2, d, M', R1, hS.ext E1, ?_, fun F2 r2 H2 E2 R2 => hQ F2 r2 H2 (E1.trans E2) R2⟩
      show ((ev cf eb σD x.2).bind fun x => (truD x.2 x.1).map (·, x.2)) = _
      rw [h0]
      exact he)⟩
theorem evt_split {c : ME} {σ : Sl} {M : Mem} {x : D × Mem} {t : Bool} (e1 : ev cf c σ M = some x) (e2 : truD x.2 x.1 = some t) : evt cf c σ M = some (t, x.2) := by
  unfold evt
  rw [e1, Option.bind_some, e2]
  rfl
theorem s_ite (ht : PT X t (tMt X.K (evt cf ec))) (ha : PE X a (tM X.K false (ev cf ea))) (hb : PE X b (tM X.K false (ev cf eb))) : PE X (.IfExp t a b pos) (tM X.K false (ev cf (.ite ec ea eb))) :=
  pe_conv (pe_ifExp ht ha hb) fun σ H Q ⟨G, F, r, σD, M, d, M', hR, hS, he, hQ⟩ => by
    unfold ev at he
    obtain ⟨x, e1, he⟩ := bindE he
    obtain ⟨t, e2, he⟩ := bindE he
    refine ⟨G, F, r, σD, M, t, x.2, hR, hS, evt_split e1 e2, fun F1 r1 H1 E1 R1 => ?_⟩
    cases t with
    | true =>
      rw [if_pos rfl] at he ⊢
      exact ⟨G, F1, r1, σD, x.2, d, M', R1, hS.ext E1, he, hQ.ext E1⟩
    | false =>
      rw [if_neg (by decide)] at he ⊢
      exact ⟨G, F1, r1, σD, x.2, d, M', R1, hS.ext E1, he, hQ.ext E1⟩
theorem t_ite (ht : PT X t (tMt X.K (evt cf ec))) (ha : PT X a (tMt X.K (evt cf ea))) (hb : PT X b (tMt X.K (evt cf eb))) : PT X (.IfExp t a b pos) (tMt X.K (evt cf (.ite ec ea eb))) := by
  refine ⟨fun pins s σ H Q I ⟨G, F, r, σD, M, d, M', hR, hS, he, hQ⟩ => ?_⟩
  unfold evt ev at he
  obtain ⟨w0, h0, he⟩ := bindE he
  obtain ⟨x, e1, h0⟩ := bindE h0
  obtain ⟨t, e2, h0⟩ := bindE h0
  unfold PySem.isTrue
  refine wpAny_bind (thn (ht.run pins s σ H (fun b H1 => if b = true then tMt X.K (evt cf ea) σ H1 Q else tMt X.K (evt cf eb) σ H1 Q) I ⟨G, F, r, σD, M, t, x.2, hR, hS, evt_split e1 e2, fun F1 r1 H1 E1 R1 => ?_⟩) fun d s1 ⟨H1, I1, q1⟩ => ?_)
  · cases t with
    | true =>
      rw [if_pos rfl] at h0 ⊢
      refine ⟨G, F1, r1, σD, x.2, d, M', R1, hS.ext E1, ?_, fun F2 r2 H2 E2 R2 => hQ F2 r2 H2 (E1.trans E2) R2⟩
      unfold evt
      rw [h0]
      exact he
    | false =>
      rw [if_neg (by decide)] at h0 ⊢
      refine ⟨G, F1, r1, σD, x.2, d, M', R1, hS.ext E1, ?_, fun F2 r2 H2 E2 R2 => hQ F2 r2 H2 (E1.trans E2) R2⟩
      unfold evt
      rw [h0]
      exact he
  · cases d with
    | true => exact ha.run pins s1 σ H1 Q I1 q1
    | false => exact hb.run pins s1 σ H1 Q I1 q1
/-- any other expression as a test -/
theorem t_tru (h : PE X e (tM X.K false (ev cf ea))) (he : ∀ whole, isTrue e X.env whole = (do let v ← whole; standAt e.pos; holding [v] (truthy v))) : PT X e (tMt X.K (evt cf ea)) :=
  pt_conv (pt_truth h he) fun σ H Q ⟨G, F, r, σD, M, d, M', hR, hS, he, hQ⟩ => by
    unfold evt at he
    obtain ⟨x, e1, he⟩ := bindE he
    obtain ⟨t, e2, he⟩ := mapE he
    cases he
    exact ⟨G, F, r, σD, M, x.1, x.2, hR, hS, e1, fun v F1 r1 H1 E1 R1 x1 => ⟨_, tru_of R1 x1.rep e2, hQ F1 r1 H1 E1 R1⟩⟩
theorem s_tup {es : List Expr} {k : Nat} (hl : ∀ σ M ds M', evs cf ea σ M = some (ds, M') → ds.length ≤ sizeLine) (h : PA X es (tMs X.K (evs cf ea))) : PE X (.Tuple es k pos) (tM X.K false (ev cf (.tup ea))) :=
  pe_conv (pe_tup h) fun σ H Q ⟨G, F, r, σD, M, d, M', hR, hS, he, hQ⟩ => by
    unfold ev at he
    obtain ⟨x, e1, he⟩ := mapE he
    cases he
    exact ⟨G, F, r, σD, M, x.1, x.2, hR, hS, e1, fun vs F1 r1 H1 E1 R1 x1 => ⟨by rw [x1.len]; exact hl _ _ _ _ e1, fun p hp => (hQ.ext E1).tup R1 x1 hp⟩⟩
theorem s_lst {es : List Expr} (hl : ∀ σ M ds M', evs cf ea σ M = some (ds, M') → ds.length ≤ sizeLine) (h : PA X es (tMs X.K (evs cf ea))) : PE X (.List es pos) (tM X.K true (ev cf (.lst ea))) :=
  pe_conv (pe_lst h) fun σ H Q ⟨G, F, r, σD, M, d, M', hR, hS, he, hQ⟩ => by
    unfold ev at he
    obtain ⟨x, e1, he⟩ := mapE he
    cases he
    exact ⟨G, F, r, σD, M, x.1, x.2, hR, hS, e1, fun vs F1 r1 H1 E1 R1 x1 => ⟨by rw [x1.len]; exact hl _ _ _ _ e1, fun p hp => (hQ.ext E1).lst R1 x1 hp⟩⟩
theorem s_idx (hu : X.A.units + 1 < cLine) (hs : PlainIx b) (ha : PE X a (tM X.K false (ev cf ea))) (hb : PE X b (tM X.K false (ev cf eb))) : PE X (.Subscript a b pos) (tM X.K false (ev cf (.idx ea eb))) :=
  pe_conv (pe_ix (ix_D hu) ha hb hs) fun σ H Q ⟨G, F, r, σD, M, d, M', hR, hS, he, hQ⟩ => by
    unfold ev at he
    obtain ⟨x, e1, he⟩ := bindE he
    obtain ⟨y, e2, he⟩ := bindE he
    obtain ⟨z, e3, he⟩ := mapE he
    cases he
    exact two hR hS e1 e2 fun v u F' r' H' E R q1 q2 => ⟨G, F', r', y.2, x.1, y.1, d, R, q1, q2, e3, hQ.ext E⟩
theorem s_slice {lo hi : Option Expr} {l h : ME} {p2 : Pos} (ha : PE X a (tM X.K false (ev cf ea))) (hl : PO X lo (tMo X.K (evs cf l))) (hh : PO X hi (tMo X.K (evs cf h))) : PE X (.Subscript a (.Slice lo hi none p2) pos) (tM X.K true (ev cf (.slice ea l h))) :=
  pe_conv (pe_slice sl_D ha hl hh) fun σ H Q ⟨G, F, r, σD, M, d, M', hR, hS, he, hQ⟩ => by
    unfold ev at he
    obtain ⟨x, e1, he⟩ := bindE he
    obtain ⟨y, e2, he⟩ := bindE he
    obtain ⟨z, e3, he⟩ := bindE he
    obtain ⟨lo', e4, he⟩ := bindE he
    obtain ⟨hi', e5, he⟩ := bindE he
    obtain ⟨w, e6, he⟩ := mapE he
    cases he
    exact ⟨G, F, r, σD, M, x.1, x.2, hR, hS, e1, fun v F1 r1 H1 E1 R1 x1 => ⟨G, F1, r1, σD, x.2, y.1, lo', y.2, R1, hS.ext E1, e2, e4, fun F2 r2 H2 E2 R2 => ⟨G, F2, r2, σD, y.2, z.1, hi', z.2, R2, hS.ext (E1.trans E2), e3, e5, fun F3 r3 H3 E3 R3 =>
      ⟨G, F3, r3, z.2, x.1, d, R3, x1.rep.ext (E2.trans E3), e6, hQ.ext (E1.trans (E2.trans E3))⟩⟩⟩⟩
theorem s_rev {k : Nat} {p1 p2 p3 : Pos} (ha : PE X a (tM X.K false (ev cf ea))) : PE X (.Subscript a (.Slice none none (some (.UnaryOp .USub (.Constant (.int 1) k p1) p2)) p3) pos) (tM X.K true (ev cf (.rev ea))) :=
  pe_conv (pe_revA ha) fun σ H Q ⟨G, F, r, σD, M, d, M', hR, hS, he, hQ⟩ => by
    unfold ev at he
    obtain ⟨x, e1, he⟩ := bindE he
    obtain ⟨y, e2, he⟩ := mapE he
    cases he
    refine ⟨G, F, r, σD, M, x.1, x.2, hR, hS, e1, fun v F1 r1 H1 E1 R1 x1 => ?_⟩
    have hx' := rd_rep R1 x1.rep
    unfold revD at e2
    generalize rd x.2 x.1 = c at hx' e2
    split at e2
    · cases e2
      obtain ⟨p, vs, rfl, h2, h3⟩ := hx'
      exact ⟨p, vs, rfl, .inl ⟨.of h2, fun q hq => (hQ.ext E1).lst R1 h3.rev hq⟩⟩
    · cases e2
      obtain ⟨p, vs, rfl, h2, h3⟩ := hx'
      exact ⟨p, vs, rfl, .inr ⟨h2, fun q hq => (hQ.ext E1).tup R1 h3.rev hq⟩⟩
    · cases e2
theorem a_nil : PA X [] (tMs X.K (evs cf .nil)) := ⟨fun pos pins s σ H Q I ⟨G, F, r, σD, M, ds, M', hR, hS, he, hQ⟩ => pa_nil.run pos pins s σ H Q I (by
  unfold evs at he
  cases he
  exact hQ [] F r H Ext.refl hR trivial)⟩
theorem a_cons {es : List Expr} (hs : starEach (a :: es) X.env = (false, eval a X.env) :: starEach es X.env) (ha : PE X a (tM X.K false (ev cf ea))) (hb : PA X es (tMs X.K (evs cf eb))) : PA X (a :: es) (tMs X.K (evs cf (.cons ea eb))) :=
  ⟨fun pos pins s σ H Q I ⟨G, F, r, σD, M, ds, M', hR, hS, he, hQ⟩ => (pa_cons ha hb hs).run pos pins s σ H Q I (by
    unfold evs at he
    obtain ⟨x, e1, he⟩ := bindE he
    obtain ⟨y, e2, he⟩ := mapE he
    cases he
    exact ⟨G, F, r, σD, M, x.1, x.2, hR, hS, e1, fun v F1 r1 H1 E1 R1 x1 => ⟨G, F1, r1, σD, x.2, y.1, y.2, R1, hS.ext E1, e2, fun vs F2 r2 H2 E2 R2 x2 => hQ (v :: vs) F2 r2 H2 (E1.trans E2) R2 ⟨x1.rep.ext E2, x2⟩⟩⟩)⟩
theorem o_none : PO X none (tMo X.K (evs cf .nil)) := ⟨fun pins s σ H Q I ⟨G, F, r, σD, M, ds, o, M', hR, hS, he, hp, hQ⟩ => po_none.run pins s σ H Q I (by
  unfold evs at he
  cases he
  cases hp
  exact hQ F r H Ext.refl hR)⟩
theorem o_some (ha : PE X a (tM X.K false (ev cf ea))) : PO X (some a) (tMo X.K (evs cf (.cons ea .nil))) := ⟨fun pins s σ H Q I ⟨G, F, r, σD, M, ds, o, M', hR, hS, he, hp, hQ⟩ => (po_some ha).run pins s σ H Q I (by
  unfold evs at he
  obtain ⟨x, e1, he⟩ := bindE he
  obtain ⟨y, e2, he⟩ := mapE he
  unfold evs at e2
  cases e2
  cases he
  obtain ⟨xd, xm⟩ := x
  refine ⟨G, F, r, σD, M, xd, xm, hR, hS, e1, fun v F1 r1 H1 E1 R1 x1 => ?_⟩
  cases xd <;> first | cases hp | skip
  exact ⟨_, Rep.int x1.rep, hQ F1 r1 H1 E1 R1⟩)⟩
end
end Mi
namespace Mi
open PySem PySem.Spec PyProof.Rows L2

/-! ### calls -/
def spF (K : PySem.W.Frag) (fs : List Fn) (frf : Nat → Bool) (d i : Nat) : Sp := fun vs H Q _ => ∃ (G F : FP) (r : Nat → Addr) (M : Mem) (ds : List D) (res : D) (M' : Mem), RH K G F r M H ∧ Reps K F r M.length H vs ds ∧ callD fs d i ds M = some (res, M') ∧ Fin K (frf i) G F r M.length H M' res Q
theorem star_one {e : Expr} {es : List Expr} {env : Env} (h : notStar e = true) : starEach (e :: es) env = (false, eval e env) :: starEach es env := by
  cases e <;> first | rfl | cases h
theorem star_all {env : Env} : ∀ {es : List Expr}, es.all notStar = true → (starEach es env).any (·.1) = false
  | [], _ => rfl
  | e :: es, h => by
    obtain ⟨h1, h2⟩ := ba (show (notStar e && es.all notStar) = true from h)
    rw [star_one h1]
    show (false || (starEach es env).any (·.1)) = false
    rw [star_all h2]
    rfl
theorem back_any {pos : Pos} (l : List (Bool × Sem Value)) : (backTo pos l).any (·.1) = l.any (·.1) := by
  unfold backTo
  rw [List.any_map]
  rfl
section
variable {X : Cx} {e a b : Expr} {es : List Expr} {cf : CF} {ea eb : ME} {x : Str} {p pos : Pos}
theorem s_call {fs : List Fn} {frf : Nat → Bool} {d i : Nat} {fa : Addr} {fd : FuncData} {ps : List Str} (F : FnOk X.prog X.w X.K X.mg X.base CX0 d fa fd ps (spF X.K fs frf d i)) (hr : Room d X.A) (hg : Gl X x) (hm : X.mg x = some (.ref fa)) (hk : PySem.W.keepIn X.K (.ref fa) = true) (hb : Binds X.K fd ps [])
    (hdb : (x == ("__debug__" : Str)) = false) (ns : (e :: es).all notStar = true) (ha : PA X (e :: es) (tMs X.K (evs (callD fs d) ea))) : PE X (.Call (.Name x p) (e :: es) [] pos) (tM X.K (frf i) (ev (callD fs d) (.call i ea))) := by
  obtain ⟨n1, n2⟩ := ba (show (notStar e && es.all notStar) = true from ns)
  refine pe_conv (pe_call F hr hg hm hk hb (dvs := []) .nil (E := E0) pass0 ha hdb (star_one n1) (by rw [back_any]; exact star_all n2)) fun σ H Q ⟨G, F, r, σD, M, d', M', hR, hS, he, hQ⟩ => ?_
  unfold ev at he
  obtain ⟨y, e1, he⟩ := bindE he
  refine ⟨G, F, r, σD, M, y.1, y.2, hR, hS, e1, fun vs F1 r1 H1 E1 R1 x1 => ?_⟩
  show spF X.K fs frf d i (vs ++ []) H1 Q E0
  rw [List.append_nil]
  exact ⟨G, F1, r1, y.2, y.1, d', M', R1, x1, he, hQ.ext E1⟩
theorem s_call0 {fs : List Fn} {frf : Nat → Bool} {d i : Nat} {fa : Addr} {fd : FuncData} {ps : List Str} (F : FnOk X.prog X.w X.K X.mg X.base CX0 d fa fd ps (spF X.K fs frf d i)) (hr : Room d X.A) (hg : Gl X x) (hm : X.mg x = some (.ref fa)) (hk : PySem.W.keepIn X.K (.ref fa) = true) (hb : Binds X.K fd ps [])
    (hdb : (x == ("__debug__" : Str)) = false) : PE X (.Call (.Name x p) [] [] pos) (tM X.K (frf i) (ev (callD fs d) (.call i .nil))) := by
  refine pe_conv (pe_call0 F hr hg hm hk hb (dvs := []) .nil (E := E0) pass0 hdb) fun σ H Q ⟨G, F, r, σD, M, d', M', hR, hS, he, hQ⟩ => ?_
  unfold ev at he
  obtain ⟨y, e1, he⟩ := bindE he
  unfold evs at e1
  cases e1
  show spF X.K fs frf d i ([] ++ []) H Q E0
  exact ⟨G, F, r, M, [], d', M', hR, trivial, he, hQ⟩
theorem s_bltG {bl : Blt} (h : ∀ {t : TA}, PA X (e :: es) t → PE X (.Call (.Name x p) (e :: es) [] pos) (tCB (rB X.K bl) t)) (ha : PA X (e :: es) (tMs X.K (evs cf ea))) : PE X (.Call (.Name x p) (e :: es) [] pos) (tM X.K true (ev cf (.blt bl ea))) :=
  pe_conv (h ha) fun σ H Q ⟨G, F, r, σD, M, d, M', hR, hS, he, hQ⟩ => by
    unfold ev at he
    obtain ⟨y, e1, he⟩ := bindE he
    obtain ⟨z, e2, he⟩ := mapE he
    cases he
    exact ⟨G, F, r, σD, M, y.1, y.2, hR, hS, e1, fun vs F1 r1 H1 E1 R1 x1 => ⟨G, F1, r1, y.2, y.1, d, R1, x1, e2, hQ.ext E1⟩⟩
theorem s_blt {bl : Blt} (hc : X.calm = true) (hg : Gl X x) (hm : X.mg x = none) (hx : bltOf x = some bl) (ns : (e :: es).all notStar = true) (ha : PA X (e :: es) (tMs X.K (evs cf ea))) : PE X (.Call (.Name x p) (e :: es) [] pos) (tM X.K true (ev cf (.blt bl ea))) := by
  obtain ⟨n1, n2⟩ := ba (show (notStar e && es.all notStar) = true from ns)
  have hpl : (backTo pos (starEach es X.env)).any (·.1) = false := by rw [back_any]; exact star_all n2
  have B : ∀ {s : String} {id : String}, x = (Str.ofString s) → CallR X (.builtin id) (rB X.K bl) → bootBuiltins (Str.ofString s) = some (.builtin id) → (Str.ofString s) ≠ ("__name__" : Str) → ((Str.ofString s) == ("__debug__" : Str)) = false →
      PE X (.Call (.Name x p) (e :: es) [] pos) (tM X.K true (ev cf (.blt bl ea))) := fun hx hc hv h1 h2 => by
    subst hx
    exact s_bltG (fun h => pe_callB hc hg hm hv h h1 h2 (star_one n1) hpl) ha
  have T : ∀ {s : String} {id : String}, x = (Str.ofString s) → CallR X (.type id) (rB X.K bl) → bootBuiltins (Str.ofString s) = some (.type id) → (Str.ofString s) ≠ ("__name__" : Str) → ((Str.ofString s) == ("__debug__" : Str)) = false →
      PE X (.Call (.Name x p) (e :: es) [] pos) (tM X.K true (ev cf (.blt bl ea))) := fun hx hc hv h1 h2 => by
    subst hx
    exact s_bltG (fun h => pe_callTy hc hg hm hv h h1 h2 (star_one n1) hpl) ha
  unfold bltOf at hx
  split at hx
  · rename_i h; cases hx
    exact B (eq_of_beq h) b_len (by decide +kernel) (by decide +kernel) (by decide +kernel)
  split at hx
  · rename_i h; cases hx
    exact B (eq_of_beq h) b_abs (by decide +kernel) (by decide +kernel) (by decide +kernel)
  split at hx
  · rename_i h; cases hx
    exact T (eq_of_beq h) b_int (by decide +kernel) (by decide +kernel) (by decide +kernel)
  split at hx
  · rename_i h; cases hx
    exact B (eq_of_beq h) (b_min hc) (by decide +kernel) (by decide +kernel) (by decide +kernel)
  split at hx
  · rename_i h; cases hx
    exact B (eq_of_beq h) (b_max hc) (by decide +kernel) (by decide +kernel) (by decide +kernel)
  split at hx
  · rename_i h; cases hx
    exact T (eq_of_beq h) b_tuple (by decide +kernel) (by decide +kernel) (by decide +kernel)
  split at hx
  · rename_i h; cases hx
    exact T (eq_of_beq h) b_list (by decide +kernel) (by decide +kernel) (by decide +kernel)
  split at hx
  · rename_i h; cases hx
    exact B (eq_of_beq h) (b_all hc) (by decide +kernel) (by decide +kernel) (by decide +kernel)
  split at hx
  · rename_i h; cases hx
    exact B (eq_of_beq h) (b_sum hc) (by decide +kernel) (by decide +kernel) (by decide +kernel)
  split at hx
  · rename_i h; cases hx
    exact B (eq_of_beq h) (b_sorted hc) (by decide +kernel) (by decide +kernel) (by decide +kernel)
  split at hx
  · rename_i h; cases hx
    exact T (eq_of_beq h) (b_dict hc) (by decide +kernel) (by decide +kernel) (by decide +kernel)
  · cases hx
/-- the name of a built-in class as a value -/
theorem e_ty {t : Str} {ty : Ty} {pt : Pos} (hg : Gl X t) (hm : X.mg t = none) (ht : tyOf t = some ty) : PE X (.Name t pt) (tC (.ty (tyNm ty))) := by
  have go : ∀ {s : String}, t = Str.ofString s → bootBuiltins (Str.ofString s) = some (.type (tyNm ty)) → (Str.ofString s) ≠ ("__name__" : Str) → ((Str.ofString s) == ("__debug__" : Str)) = false → PE X (.Name t pt) (tC (.ty (tyNm ty))) := fun h hv h1 h2 => by
    subst h
    exact pe_bltn hg hm hv rfl h1 h2
  unfold tyOf at ht
  split at ht
  · rename_i h; cases ht
    exact go (eq_of_beq h) (by decide +kernel) (by decide +kernel) (by decide +kernel)
  split at ht
  · rename_i h; cases ht
    exact go (eq_of_beq h) (by decide +kernel) (by decide +kernel) (by decide +kernel)
  split at ht
  · rename_i h; cases ht
    exact go (eq_of_beq h) (by decide +kernel) (by decide +kernel) (by decide +kernel)
  split at ht
  · rename_i h; cases ht
    exact go (eq_of_beq h) (by decide +kernel) (by decide +kernel) (by decide +kernel)
  split at ht
  · rename_i h; cases ht
    exact go (eq_of_beq h) (by decide +kernel) (by decide +kernel) (by decide +kernel)
  · cases ht
theorem s_isi {t : Str} {ty : Ty} {pt : Pos} (hx : (x == ("isinstance" : Str)) = true) (hg : Gl X x) (hm : X.mg x = none) (hgt : Gl X t) (hmt : X.mg t = none) (ht : tyOf t = some ty) (n1 : notStar a = true) (ha : PE X a (tM X.K false (ev cf ea))) :
    PE X (.Call (.Name x p) [a, .Name t pt] [] pos) (tM X.K false (ev cf (.isi ea ty))) := by
  have e1 := eq_of_beq hx
  subst e1
  refine pe_conv (pe_callB (b_isi ty) hg hm (by decide +kernel) (pa_cons ha (pa_cons (e_ty hgt hmt ht) pa_nil rfl) (star_one n1)) (by decide +kernel) (by decide +kernel) (star_one n1) rfl) fun σ H Q ⟨G, F, r, σD, M, d, M', hR, hS, he, hQ⟩ => ?_
  unfold ev at he
  obtain ⟨y, e1, he⟩ := bindE he
  obtain ⟨z, e2, he⟩ := mapE he
  cases he
  exact ⟨G, F, r, σD, M, y.1, y.2, hR, hS, e1, fun v F1 r1 H1 E1 R1 x1 => ⟨G, F1, r1, y.2, v, y.1, z, rfl, R1, x1.rep, e2, (hQ.ext E1).bl R1⟩⟩
theorem tyV_lst {K : PySem.W.Frag} {G F : FP} {r : Nat → Addr} {M : Mem} {H : Hp} {v : V} {d : D} {xs : List D} (hR : RH K G F r M H) (h : Rep K F r M.length H v d) (hl : lstOf M d = some xs) : tyV K "list" v H := by
  obtain ⟨p, vs, h1, _, _, h2⟩ := lst_of hR h hl
  subst h1
  exact .inl ⟨rfl, vs, .of h2⟩
theorem s_pop {apos : Pos} (hbase : attributeBase a "pop" X.env (eval a X.env) = eval a X.env) (hl : (apos.endLine == pos.line) = true) (ha : PE X a (tM X.K false (ev cf ea))) : PE X (.Call (.Attribute a "pop" apos) [] [] pos) (tM X.K false (ev cf (.mth .pop ea .nil))) :=
  pe_conv (pe_bm0 PySem.F.plainAttrs_list PySem.F.slot_list_pop PySem.F.type_list_pop (m_ok (m := .pop)) ha hbase hl) fun σ H Q ⟨G, F, r, σD, M, d, M', hR, hS, he, hQ⟩ => by
    unfold ev at he
    obtain ⟨y, e1, he⟩ := bindE he
    obtain ⟨ys, e0, he⟩ := bindE he
    obtain ⟨z, e2, he⟩ := bindE he
    unfold evs at e2
    cases e2
    obtain ⟨yd, ym⟩ := y
    exact ⟨G, F, r, σD, M, yd, ym, hR, hS, e1, fun v F1 r1 H1 E1 R1 x1 => ⟨tyV_lst R1 x1.rep e0, G, F1, r1, ym, yd, [], d, M', R1, x1.rep, trivial, he, hQ.ext E1⟩⟩
theorem s_append {apos : Pos} (hbase : attributeBase a "append" X.env (eval a X.env) = eval a X.env) (hl : (apos.endLine == pos.line) = true) (n1 : notStar b = true) (ha : PE X a (tM X.K false (ev cf ea))) (hb : PA X [b] (tMs X.K (evs cf eb))) : PE X (.Call (.Attribute a "append" apos) [b] [] pos) (tM X.K false (ev cf (.mth .append ea eb))) := by
  have hs := star_one (es := []) (env := X.env) n1
  refine pe_conv (pe_bm PySem.F.plainAttrs_list PySem.F.slot_list_append PySem.F.type_list_append (m_ok (m := .append)) ha hb hbase (by rw [hs]; rfl) hl hs rfl) fun σ H Q ⟨G, F, r, σD, M, d, M', hR, hS, he, hQ⟩ => ?_
  unfold ev at he
  obtain ⟨y, e1, he⟩ := bindE he
  obtain ⟨ys, e0, he⟩ := bindE he
  obtain ⟨z, e2, he⟩ := bindE he
  obtain ⟨yd, ym⟩ := y
  exact ⟨G, F, r, σD, M, yd, ym, hR, hS, e1, fun v F1 r1 H1 E1 R1 x1 => ⟨tyV_lst R1 x1.rep e0, G, F1, r1, σD, ym, z.1, z.2, R1, hS.ext E1, e2, fun vs F2 r2 H2 E2 R2 x2 => ⟨G, F2, r2, z.2, yd, z.1, d, M', R2, x1.rep.ext E2, x2, he, hQ.ext (E1.trans E2)⟩⟩⟩
theorem s_popAt {apos : Pos} (hbase : attributeBase a "pop" X.env (eval a X.env) = eval a X.env) (hl : (apos.endLine == pos.line) = true) (n1 : notStar b = true) (ha : PE X a (tM X.K false (ev cf ea))) (hb : PA X [b] (tMs X.K (evs cf eb))) : PE X (.Call (.Attribute a "pop" apos) [b] [] pos) (tM X.K false (ev cf (.mth .pop ea eb))) := by
  have hs := star_one (es := []) (env := X.env) n1
  refine pe_conv (pe_bm PySem.F.plainAttrs_list PySem.F.slot_list_pop PySem.F.type_list_pop (m_ok (m := .pop)) ha hb hbase (by rw [hs]; rfl) hl hs rfl) fun σ H Q ⟨G, F, r, σD, M, d, M', hR, hS, he, hQ⟩ => ?_
  unfold ev at he
  obtain ⟨y, e1, he⟩ := bindE he
  obtain ⟨ys, e0, he⟩ := bindE he
  obtain ⟨z, e2, he⟩ := bindE he
  obtain ⟨yd, ym⟩ := y
  exact ⟨G, F, r, σD, M, yd, ym, hR, hS, e1, fun v F1 r1 H1 E1 R1 x1 => ⟨tyV_lst R1 x1.rep e0, G, F1, r1, σD, ym, z.1, z.2, R1, hS.ext E1, e2, fun vs F2 r2 H2 E2 R2 x2 => ⟨G, F2, r2, z.2, yd, z.1, d, M', R2, x1.rep.ext E2, x2, he, hQ.ext (E1.trans E2)⟩⟩⟩
/-- one argument -/
theorem evs_one {σD : Sl} {M : Mem} {y : List D × Mem} (h : evs cf (.cons ea .nil) σD M = some y) : ∃ v, ev cf ea σD M = some v ∧ y = ([v.1], v.2) := by
  unfold evs at h
  obtain ⟨v, h1, h⟩ := bindE h
  obtain ⟨u, h2, h⟩ := mapE h
  unfold evs at h2
  cases h2
  exact ⟨v, h1, h.symm⟩
/-- sorted(set(xs)) -/
theorem s_sset {g : Str} {p2 q : Pos} (hx : (x == ("sorted" : Str)) = true) (hy : (g == ("set" : Str)) = true) (hc : X.calm = true) (hg : Gl X x) (hm : X.mg x = none) (hg2 : Gl X g) (hm2 : X.mg g = none) (n1 : notStar a = true) (ha : PE X a (tM X.K false (ev cf ea))) :
    PE X (.Call (.Name x p) [.Call (.Name g p2) [a] [] q] [] pos) (tM X.K true (ev cf (.blt .sset (.cons ea .nil)))) := by
  have e1 := eq_of_beq hx
  have e2 := eq_of_beq hy
  subst e1
  subst e2
  refine pe_conv (pe_sortedSetI hc hg hm hg2 hm2 ha (star_one n1)) fun σ H Q ⟨G, F, r, σD, M, d, M', hR, hS, he, hQ⟩ => ?_
  unfold ev at he
  obtain ⟨y, e1, he⟩ := bindE he
  obtain ⟨z, e2, he⟩ := mapE he
  cases he
  obtain ⟨v, e3, rfl⟩ := evs_one e1
  obtain ⟨ys, h1, e2⟩ := bindE (show ((lstOf v.2 v.1).bind fun xs => (intsOf xs).bind fun ns => if ns.length < 64 then some (D.lst ((onceI ns).map .int)) else none) = some d from e2)
  obtain ⟨ns, h2, e2⟩ := bindE e2
  split at e2
  · rename_i h64
    cases e2
    refine ⟨G, F, r, σD, M, v.1, v.2, hR, hS, e3, fun w F1 r1 H1 E1 R1 x1 => ?_⟩
    obtain ⟨q', vs, rfl, hr, _, hp⟩ := lst_of R1 x1.rep h1
    rw [intsOf_eq h2] at hr
    have := hr.ofInts
    subst this
    refine ⟨q', ns, rfl, .of hp, h64, fun out t hs hk hn => ?_⟩
    rw [onceI_of hs hk]
    exact (hQ.ext E1).lst R1 (Reps.ints _) hn
  · cases e2
theorem rg_reps {K : PySem.W.Frag} {F : FP} {r : Nat → Addr} {n : Nat} {H : Hp} (lo hi : Int) : Reps K F r n H (rgV lo hi) (rgD lo hi) := by
  have e1 : rgV lo hi = ((List.range (hi - lo).toNat).map fun i => lo + ((i : Nat) : Int)).map V.int := by
    unfold rgV
    rw [List.map_map]
    rfl
  have e2 : rgD lo hi = ((List.range (hi - lo).toNat).map fun i => lo + ((i : Nat) : Int)).map D.int := by
    unfold rgD
    rw [List.map_map]
    rfl
  rw [e1, e2]
  exact Reps.ints _
/-- list(range(n)), tuple(range(n)) -/
theorem s_range {g : Str} {p2 q : Pos} (hx : ((x == ("list" : Str)) || (x == ("tuple" : Str))) = true) (hy : (g == ("range" : Str)) = true) (hc : X.calm = true) (hg : Gl X x) (hm : X.mg x = none) (hg2 : Gl X g) (hm2 : X.mg g = none) (n1 : notStar a = true) (ha : PE X a (tM X.K false (ev cf ea))) :
    PE X (.Call (.Name x p) [.Call (.Name g p2) [a] [] q] [] pos) (tM X.K true (ev cf (.blt (if x == ("list" : Str) then .lrange else .trange) (.cons (.cst (.int 0)) (.cons ea .nil))))) := by
  have e2 := eq_of_beq hy
  subst e2
  have two : ∀ {σD : Sl} {M : Mem} {y : List D × Mem}, evs cf (.cons (.cst (.int 0)) (.cons ea .nil)) σD M = some y → ∃ v, ev cf ea σD M = some v ∧ y = ([.int 0, v.1], v.2) := fun {σD M y} h => by
    unfold evs at h
    obtain ⟨v, h1, h⟩ := bindE h
    obtain ⟨u, h2, h⟩ := mapE h
    unfold ev at h1
    cases h1
    obtain ⟨v, h3, rfl⟩ := evs_one h2
    exact ⟨v, h3, h.symm⟩
  have bd : ∀ {i j : Int}, rgOk i j = true → RgOk i j := fun h => by
    have h := of_decide_eq_true h
    exact ⟨by omega, by omega, by omega, by omega, by omega⟩
  by_cases hl : (x == ("list" : Str)) = true
  · rw [if_pos hl]
    have e1 := eq_of_beq hl
    subst e1
    refine pe_conv (pe_listRg hc hg hm (prg_1 hg2 hm2 ha (star_one n1))) fun σ H Q ⟨G, F, r, σD, M, d, M', hR, hS, he, hQ⟩ => ?_
    unfold ev at he
    obtain ⟨y, e1, he⟩ := bindE he
    obtain ⟨z, e2, he⟩ := mapE he
    cases he
    obtain ⟨v, e3, rfl⟩ := two e1
    refine ⟨G, F, r, σD, M, v.1, v.2, hR, hS, e3, fun w F1 r1 H1 E1 R1 x1 => ?_⟩
    obtain ⟨dv, mv⟩ := v
    cases dv <;> first | cases e2 | skip
    rename_i i _
    have hi : w = V.int i := Rep.int x1.rep
    have e2 : (if rgOk 0 i then some (D.lst (rgD 0 i)) else none) = some d := e2
    split at e2
    · rename_i hb
      cases e2
      exact ⟨i, hi, bd hb, fun t hn => (hQ.ext E1).lst R1 (rg_reps 0 i) hn⟩
    · cases e2
  · rw [if_neg hl]
    have e1 : (x == ("tuple" : Str)) = true := by
      rcases Bool.or_eq_true_iff.mp hx with h | h
      · exact absurd h hl
      · exact h
    have e1 := eq_of_beq e1
    subst e1
    refine pe_conv (pe_tupRg hc hg hm (prg_1 hg2 hm2 ha (star_one n1))) fun σ H Q ⟨G, F, r, σD, M, d, M', hR, hS, he, hQ⟩ => ?_
    unfold ev at he
    obtain ⟨y, e1, he⟩ := bindE he
    obtain ⟨z, e2, he⟩ := mapE he
    cases he
    obtain ⟨v, e3, rfl⟩ := two e1
    refine ⟨G, F, r, σD, M, v.1, v.2, hR, hS, e3, fun w F1 r1 H1 E1 R1 x1 => ?_⟩
    obtain ⟨dv, mv⟩ := v
    cases dv <;> first | cases e2 | skip
    rename_i i _
    have hi : w = V.int i := Rep.int x1.rep
    have e2 : (if rgOk 0 i then some (D.tup (rgD 0 i)) else none) = some d := e2
    split at e2
    · rename_i hb
      cases e2
      exact ⟨i, hi, bd hb, fun t hn => (hQ.ext E1).tup R1 (rg_reps 0 i) hn⟩
    · cases e2
end

/-! ### what is walked -/
/-- J walks s, whatever stands by then -/
def JOk (K : PySem.W.Frag) (G : FP) (J : It) (s : Src) (F : FP) (r : Nat → Addr) (n : Nat) (H : Hp) : Prop := ∀ G2 F' r' M' H', Ext G F r n H F' r' M'.length H' → RH K G2 F' r' M' H' → ∀ k : Nat,
  (∀ d, s.get M' k = some d → J.go k H' ∧ ∀ x H2, J.yld k H' x H2 → Ext G2 F' r' M'.length H' F' r' M'.length H2 ∧ RH K G2 F' r' M' H2 ∧ Rep K F' r' M'.length H2 x d) ∧ (s.done M' k = true → J.stop k H')
def tI (K : PySem.W.Frag) (f : Sl → Mem → Option (Src × Mem)) : TI := fun σ H R => ∃ (G F : FP) (r : Nat → Addr) (σD : Sl) (M : Mem) (s : Src) (M' : Mem), RH K G F r M H ∧ RS K F r M.length H σD σ ∧ f σD M = some (s, M') ∧ (∃ n, s.len M' = some n) ∧
  ∀ J F' r' H', Ext G F r M.length H F' r' M'.length H' → RH K G F' r' M' H' → JOk K G J s F' r' M'.length H' → R J H'
section
variable {K : PySem.W.Frag} {G F : FP} {r : Nat → Addr} {n : Nat} {M : Mem} {H : Hp}
theorem rd_ref (M : Mem) (j : Nat) : rd M (.ref j) = match M[j]? with
  | some o => o.d
  | none => .ref j := rfl
theorem still_lst {M' : Mem} {d : D} {xs ys : List D} (e : rd M d = .lst xs) (h : seqOf M' d = some ys) : lstOf M' d = some ys := by
  cases d with
  | ref j =>
    unfold seqOf at h
    unfold lstOf
    rw [rd_ref] at h ⊢
    cases q : M'[j]? with
    | none => rw [q] at h; cases h
    | some o =>
      rw [q] at h
      cases o with
      | lst zs => exact h
      | dct ks zs => cases h
  | lst zs => exact h
  | _ => cases e
theorem still_tup {M' : Mem} {d : D} {xs ys : List D} (e : rd M d = .tup xs) (h : seqOf M' d = some ys) : rd M' d = .tup ys := by
  cases d with
  | ref j =>
    rw [rd_ref] at e
    cases q : M[j]? with
    | none => rw [q] at e; cases e
    | some o =>
      rw [q] at e
      cases o <;> cases e
  | tup zs => cases h; rfl
  | _ => cases e
/-- the list | tuple that is walked, as it stands now -/
theorem now_lst {G2 F' : FP} {r' : Nat → Addr} {M' : Mem} {H' : Hp} {p : Addr} {d : D} {xs ys : List D} (E : Ext G F r n H F' r' M'.length H') (R' : RH K G2 F' r' M' H') (hx : Rep K F r n H (.ref p) d) (e : rd M d = .lst xs) (h : seqOf M' d = some ys) :
    ∃ us, SqL K H' p us ∧ Reps K F' r' M'.length H' us ys := by
  obtain ⟨q, us, hq, hr, _, hp⟩ := lst_of R' (hx.ext E) (still_lst e h)
  cases hq
  exact ⟨us, .of hp, hr⟩
theorem now_tup {G2 F' : FP} {r' : Nat → Addr} {M' : Mem} {H' : Hp} {p : Addr} {d : D} {xs ys : List D} (E : Ext G F r n H F' r' M'.length H') (R' : RH K G2 F' r' M' H') (hx : Rep K F r n H (.ref p) d) (e : rd M d = .tup xs) (h : seqOf M' d = some ys) :
    ∃ us, SqT K H' p us ∧ Reps K F' r' M'.length H' us ys := by
  obtain ⟨q, us, hq, hr, hh⟩ := seq_of R' (hx.ext E) h
  cases hq
  rcases hh with ⟨_, h⟩ | ⟨k, _⟩
  · exact ⟨us, h, hr⟩
  · rw [still_tup e h] at k; cases k
theorem len_of {o : Option (List D)} {k : Nat} (h : decide (o.map List.length = some k) = true) : ∃ ys, o = some ys ∧ ys.length = k := by
  replace h := of_decide_eq_true h
  exact mapE h
theorem j_lst {p : Addr} {d : D} {xs : List D} (hx : Rep K F r n H (.ref p) d) (e : rd M d = .lst xs) : JOk K G (Itl K p) (.seq d) F r n H := by
  intro G2 F' r' M' H' E R' k
  refine ⟨fun d' hd => ?_, fun hd => ?_⟩
  · obtain ⟨ys, h0, hd'⟩ := bindE (show (seqOf M' d).bind (·[k]?) = some d' from hd)
    obtain ⟨us, hs, hr⟩ := now_lst E R' hx e h0
    obtain ⟨w, h1, h2⟩ := hr.get hd'
    refine ⟨⟨us, w, hs, h1⟩, fun x H2 ⟨hH, hy⟩ => ?_⟩
    subst hH
    have := hy us hs
    rw [h1] at this
    cases this
    exact ⟨Ext.refl, R', h2⟩
  · obtain ⟨ys, h0, hl⟩ := len_of (show decide ((seqOf M' d).map List.length = some k) = true from hd)
    obtain ⟨us, hs, hr⟩ := now_lst E R' hx e h0
    exact ⟨us, hs, by rw [hr.len, hl]; exact Nat.le_refl _⟩
theorem j_tup {p : Addr} {d : D} {xs : List D} (hx : Rep K F r n H (.ref p) d) (e : rd M d = .tup xs) : JOk K G (Itt K p) (.seq d) F r n H := by
  intro G2 F' r' M' H' E R' k
  refine ⟨fun d' hd => ?_, fun hd => ?_⟩
  · obtain ⟨ys, h0, hd'⟩ := bindE (show (seqOf M' d).bind (·[k]?) = some d' from hd)
    obtain ⟨us, hs, hr⟩ := now_tup E R' hx e h0
    obtain ⟨w, h1, h2⟩ := hr.get hd'
    refine ⟨⟨us, w, hs, h1⟩, fun x H2 ⟨hH, hy⟩ => ?_⟩
    subst hH
    have := hy us hs
    rw [h1] at this
    cases this
    exact ⟨Ext.refl, R', h2⟩
  · obtain ⟨ys, h0, hl⟩ := len_of (show decide ((seqOf M' d).map List.length = some k) = true from hd)
    obtain ⟨us, hs, hr⟩ := now_tup E R' hx e h0
    exact ⟨us, hs, by rw [hr.len, hl]; exact Nat.le_refl _⟩
theorem rng_done {M : Mem} {lo hi : Int} {k : Nat} (hd : (Src.rng lo hi).done M k = true) : (hi - lo).toNat = k := by
  replace hd := of_decide_eq_true hd
  dsimp only [Src.len] at hd
  split at hd
  · simpa using hd
  · simp at hd
theorem j_rng {lo hi : Int} : JOk K G (Itr lo (hi - lo).toNat) (.rng lo hi) F r n H := by
  intro G2 F' r' M' H' E R' k
  refine ⟨fun d' hd => ?_, fun hd => ?_⟩
  · dsimp only [Src.get] at hd
    split at hd
    · rename_i hk
      cases hd
      refine ⟨by show k < (hi - lo).toNat; omega, fun x H2 ⟨hH, hy⟩ => ?_⟩
      subst hH hy
      exact ⟨Ext.refl, R', rfl⟩
    · cases hd
  · show (hi - lo).toNat ≤ k
    rw [rng_done hd]
    exact Nat.le_refl _
theorem down_done {M : Mem} {lo hi : Int} {k : Nat} (hd : (Src.down hi lo).done M k = true) : (hi - lo).toNat = k := by
  replace hd := of_decide_eq_true hd
  dsimp only [Src.len] at hd
  split at hd
  · simpa using hd
  · simp at hd
theorem j_down {lo hi : Int} : JOk K G (Itc hi (-1) (hi - lo).toNat) (.down hi lo) F r n H := by
  intro G2 F' r' M' H' E R' k
  refine ⟨fun d' hd => ?_, fun hd => ?_⟩
  · dsimp only [Src.get] at hd
    split at hd
    · rename_i hk
      cases hd
      refine ⟨by show k < (hi - lo).toNat; omega, fun x H2 ⟨hH, hy⟩ => ?_⟩
      subst hH hy
      refine ⟨Ext.refl, R', ?_⟩
      show V.int (hi + (k : Nat) * (-1)) = V.int (hi - k)
      congr 1
      omega
    · cases hd
  · show (hi - lo).toNat ≤ k
    rw [down_done hd]
    exact Nat.le_refl _
theorem j_enum {p : Addr} {d : D} {xs : List D} (hx : Rep K F r n H (.ref p) d) (e : rd M d = .lst xs) : JOk K G (Ite K p) (.enum d) F r n H := by
  intro G2 F' r' M' H' E R' k
  refine ⟨fun d' hd => ?_, fun hd => ?_⟩
  · obtain ⟨ys, h0, hd'⟩ := bindE (show (seqOf M' d).bind _ = some d' from hd)
    obtain ⟨y, hy, hd⟩ := mapE (show (ys[k]?).map _ = some d' from hd')
    subst hd
    obtain ⟨us, hs, hr⟩ := now_lst E R' hx e h0
    obtain ⟨w, h1, h2⟩ := hr.get hy
    refine ⟨⟨us, w, hs, h1⟩, fun x H2 ⟨T, z, hx2, hT, hH, hz⟩ => ?_⟩
    have := hz us hs
    rw [h1] at this
    cases this
    subst hx2 hH
    have En : Ext G2 F' r' M'.length H' F' r' M'.length (upd H' T (.tup [.int (k : Nat), w])) := Ext.new hT R'.dom R'.gd
    exact ⟨En, R'.new hT, T, _, rfl, .of upd_same, rfl, h2.ext En, trivial⟩
  · obtain ⟨ys, h0, hl⟩ := len_of (show decide ((lstOf M' d).map List.length = some k) = true from hd)
    obtain ⟨q, us, hq, hr, _, hp⟩ := lst_of R' (hx.ext E) h0
    cases hq
    exact ⟨us, .of hp, by rw [hr.len, hl]; exact Nat.le_refl _⟩
theorem zip_len {M' : Mem} {d e : D} {k : Nat} (h : (Src.zip d e).done M' k = true) : ∃ us ws, seqOf M' d = some us ∧ seqOf M' e = some ws ∧ min us.length ws.length = k := by
  replace h := of_decide_eq_true h
  dsimp only [Src.len] at h
  obtain ⟨us, h1, h⟩ := bindE h
  obtain ⟨ws, h2, h⟩ := bindE h
  refine ⟨us, ws, h1, h2, ?_⟩
  split at h <;> first | (simpa using h) | cases h
theorem j_zipL {p q : Addr} {d e : D} {xs ys : List D} (hx : Rep K F r n H (.ref p) d) (hy : Rep K F r n H (.ref q) e) (e1 : rd M d = .lst xs) (e2 : rd M e = .lst ys) : JOk K G (Itz K p q) (.zip d e) F r n H := by
  intro G2 F' r' M' H' E R' k
  refine ⟨fun d' hd => ?_, fun hd => ?_⟩
  · obtain ⟨us, s1, hd⟩ := bindE (show (seqOf M' d).bind _ = some d' from hd)
    obtain ⟨ws, s2, hd⟩ := bindE hd
    obtain ⟨y, hy0, hd⟩ := bindE (show (us[k]?).bind _ = some d' from hd)
    obtain ⟨z, hz0, hd⟩ := mapE hd
    subst hd
    obtain ⟨vs, hs1, hr1⟩ := now_lst E R' hx e1 s1
    obtain ⟨zs, hs2, hr2⟩ := now_lst E R' hy e2 s2
    obtain ⟨w, h1, h2⟩ := hr1.get hy0
    obtain ⟨w2, h3, h4⟩ := hr2.get hz0
    refine ⟨⟨vs, zs, w, w2, hs1, hs2, h1, h3⟩, fun x H2 ⟨T, a, b, hx2, hT, hH, ha, hb⟩ => ?_⟩
    have := ha vs hs1
    rw [h1] at this
    cases this
    have := hb zs hs2
    rw [h3] at this
    cases this
    subst hx2 hH
    have En : Ext G2 F' r' M'.length H' F' r' M'.length (upd H' T (.tup [w, w2])) := Ext.new hT R'.dom R'.gd
    exact ⟨En, R'.new hT, T, _, rfl, .of upd_same, h2.ext En, h4.ext En, trivial⟩
  · obtain ⟨us, ws, s1, s2, hl⟩ := zip_len hd
    obtain ⟨vs, hs1, hr1⟩ := now_lst E R' hx e1 s1
    obtain ⟨zs, hs2, hr2⟩ := now_lst E R' hy e2 s2
    exact ⟨vs, zs, hs1, hs2, by rw [hr1.len, hr2.len]; omega⟩
theorem j_zipT {p q : Addr} {d e : D} {xs ys : List D} (hx : Rep K F r n H (.ref p) d) (hy : Rep K F r n H (.ref q) e) (e1 : rd M d = .tup xs) (e2 : rd M e = .tup ys) : JOk K G (RZ.ItzT K p q) (.zip d e) F r n H := by
  intro G2 F' r' M' H' E R' k
  refine ⟨fun d' hd => ?_, fun hd => ?_⟩
  · obtain ⟨us, s1, hd⟩ := bindE (show (seqOf M' d).bind _ = some d' from hd)
    obtain ⟨ws, s2, hd⟩ := bindE hd
    obtain ⟨y, hy0, hd⟩ := bindE (show (us[k]?).bind _ = some d' from hd)
    obtain ⟨z, hz0, hd⟩ := mapE hd
    subst hd
    obtain ⟨vs, hs1, hr1⟩ := now_tup E R' hx e1 s1
    obtain ⟨zs, hs2, hr2⟩ := now_tup E R' hy e2 s2
    obtain ⟨w, h1, h2⟩ := hr1.get hy0
    obtain ⟨w2, h3, h4⟩ := hr2.get hz0
    refine ⟨⟨vs, zs, w, w2, hs1, hs2, h1, h3⟩, fun x H2 ⟨T, a, b, hx2, hT, hH, ha, hb⟩ => ?_⟩
    have := ha vs hs1
    rw [h1] at this
    cases this
    have := hb zs hs2
    rw [h3] at this
    cases this
    subst hx2 hH
    have En : Ext G2 F' r' M'.length H' F' r' M'.length (upd H' T (.tup [w, w2])) := Ext.new hT R'.dom R'.gd
    exact ⟨En, R'.new hT, T, _, rfl, .of upd_same, h2.ext En, h4.ext En, trivial⟩
  · obtain ⟨us, ws, s1, s2, hl⟩ := zip_len hd
    obtain ⟨vs, hs1, hr1⟩ := now_tup E R' hx e1 s1
    obtain ⟨zs, hs2, hr2⟩ := now_tup E R' hy e2 s2
    exact ⟨vs, zs, hs1, hs2, by rw [hr1.len, hr2.len]; omega⟩
end
section
variable {X : Cx} {tg e a b : Expr} {cf : CF} {ea eb : ME} {x : Str} {p pos : Pos}
theorem i_seq (h : PE X e (tM X.K false (ev cf ea))) : PI X tg e (tI X.K (evS cf (.sSeq ea))) := by
  refine ⟨fun pins s σ H R I ⟨G, F, r, σD, M, sr, M', hR, hS, he, hl, hQ⟩ => ?_⟩
  unfold evS at he
  obtain ⟨y, e1, he⟩ := mapE he
  cases he
  obtain ⟨n, hn⟩ := hl
  dsimp only [Src.len] at hn
  obtain ⟨xs, e2, _⟩ := mapE hn
  have ds : (∃ xs, rd y.2 y.1 = .lst xs) ∨ ∃ xs, rd y.2 y.1 = .tup xs := by
    unfold seqOf at e2
    split at e2
    · exact .inr ⟨_, by assumption⟩
    · exact .inl ⟨_, by assumption⟩
    · cases e2
  rcases ds with ⟨ys, hy⟩ | ⟨ys, hy⟩
  · refine (pi_list h).run pins s σ H R I ⟨G, F, r, σD, M, y.1, y.2, hR, hS, e1, fun v F1 r1 H1 E1 R1 x1 => ?_⟩
    have e3 : lstOf y.2 y.1 = some ys := by unfold lstOf; rw [hy]
    obtain ⟨q, us, hq, hr, _, hp⟩ := lst_of R1 x1.rep e3
    subst hq
    exact ⟨q, rfl, ⟨us, .of hp⟩, hQ _ F1 r1 H1 E1 R1 (j_lst x1.rep hy)⟩
  · refine (pi_tup h).run pins s σ H R I ⟨G, F, r, σD, M, y.1, y.2, hR, hS, e1, fun v F1 r1 H1 E1 R1 x1 => ?_⟩
    have e3 : seqOf y.2 y.1 = some ys := by unfold seqOf; rw [hy]
    obtain ⟨q, us, hq, hr, hh⟩ := seq_of R1 x1.rep e3
    subst hq
    have hp : SqT X.K H1 q us := by
      rcases hh with ⟨_, h⟩ | ⟨h, _⟩
      · exact h
      · rw [hy] at h; cases h
    exact ⟨q, rfl, ⟨us, hp⟩, hQ _ F1 r1 H1 E1 R1 (j_tup x1.rep hy)⟩
theorem down_bounds {lo hi : Int} {M : Mem} (h : ∃ n, (Src.down hi lo).len M = some n) : -(2 ^ 62) ≤ hi ∧ hi < 2 ^ 62 ∧ -(2 ^ 62) ≤ lo ∧ lo < 2 ^ 62 := by
  obtain ⟨n, hn⟩ := h
  dsimp only [Src.len] at hn
  split at hn
  · rename_i hc
    exact ⟨hc.2.2.1, hc.2.2.2, hc.1, hc.2.1⟩
  · cases hn
theorem i_down {k : Nat} {p1 p2 : Pos} (hx : (x == ("range" : Str)) = true) (hg : Gl X x) (hm : X.mg x = none) (n1 : notStar a = true) (n2 : notStar b = true) (h : PE X a (tM X.K false (ev cf ea))) (h' : PE X b (tM X.K false (ev cf eb))) :
    PI X tg (.Call (.Name x p) [a, b, .UnaryOp .USub (.Constant (.int 1) k p1) p2] [] pos) (tI X.K (evS cf (.sDown ea eb))) := by
  have e1 := eq_of_beq hx
  subst e1
  refine ⟨fun pins s σ H R I ⟨G, F, r, σD, M, sr, M', hR, hS, he, hl, hQ⟩ => ?_⟩
  have hs := star_one (es := [.UnaryOp .USub (.Constant (.int 1) k p1) p2]) (env := X.env) n2
  have hs2 := star_one (es := [b, .UnaryOp .USub (.Constant (.int 1) k p1) p2]) (env := X.env) n1
  have hneg : PE X (.UnaryOp .USub (.Constant (.int 1) k p1) p2) (tUn (rU fun i => .int (-i)) (tC (.int 1))) := pe_un un_neg pe_int
  refine (pi_range3 hg hm (pa_cons h (pa_cons h' (pa_cons hneg pa_nil rfl) hs) hs2) hs2 (by rw [hs]; rfl)).run pins s σ H R I ?_
  unfold evS at he
  obtain ⟨y, e1, he⟩ := bindE he
  obtain ⟨z, e2, he⟩ := bindE he
  obtain ⟨yd, ym⟩ := y
  obtain ⟨zd, zm⟩ := z
  refine ⟨G, F, r, σD, M, yd, ym, hR, hS, e1, fun v F1 r1 H1 E1 R1 x1 => ⟨G, F1, r1, σD, ym, zd, zm, R1, hS.ext E1, e2, fun u F2 r2 H2 E2 R2 x2 => ?_⟩⟩
  cases yd <;> first | cases he | skip
  cases zd <;> first | cases he | skip
  obtain ⟨b1, b2, b3, b4⟩ := down_bounds hl
  exact ⟨1, rfl, _, _, -1, _, by rw [Rep.int x1.rep, Rep.int x2.rep], RgC.neg b1 b2 b3 b4, hQ _ F2 r2 H2 (E1.trans E2) R2 j_down⟩
theorem rng_bounds {lo hi : Int} {M : Mem} (h : ∃ n, (Src.rng lo hi).len M = some n) : -(2 ^ 62) ≤ lo ∧ lo < 2 ^ 62 ∧ -(2 ^ 62) ≤ hi ∧ hi < 2 ^ 62 := by
  obtain ⟨n, hn⟩ := h
  dsimp only [Src.len] at hn
  split at hn
  · rename_i hc
    exact hc
  · cases hn
theorem i_rng1 (hx : (x == ("range" : Str)) = true) (hg : Gl X x) (hm : X.mg x = none) (n1 : notStar a = true) (h : PE X a (tM X.K false (ev cf ea))) : PI X tg (.Call (.Name x p) [a] [] pos) (tI X.K (evS cf (.sRange (.cst (.int 0)) ea))) := by
  have e1 := eq_of_beq hx
  subst e1
  refine ⟨fun pins s σ H R I ⟨G, F, r, σD, M, sr, M', hR, hS, he, hl, hQ⟩ => ?_⟩
  have hs := star_one (es := []) (env := X.env) n1
  refine (pi_range1 hg hm (pa_cons h pa_nil hs) (by rw [hs]; rfl)).run pins s σ H R I ?_
  unfold evS at he
  obtain ⟨y, e1, he⟩ := bindE he
  obtain ⟨z, e2, he⟩ := bindE he
  unfold ev at e1
  cases e1
  obtain ⟨zd, zm⟩ := z
  refine ⟨G, F, r, σD, M, zd, zm, hR, hS, e2, fun v F1 r1 H1 E1 R1 x1 => ?_⟩
  cases zd <;> first | cases he | skip
  obtain ⟨_, _, h3, h4⟩ := rng_bounds hl
  have J := hQ _ F1 r1 H1 E1 R1 j_rng
  rw [Int.sub_zero] at J
  exact ⟨_, by rw [Rep.int x1.rep], h3, h4, J⟩
theorem i_rng2 (hx : (x == ("range" : Str)) = true) (hg : Gl X x) (hm : X.mg x = none) (n1 : notStar a = true) (n2 : notStar b = true) (h : PE X a (tM X.K false (ev cf ea))) (h' : PE X b (tM X.K false (ev cf eb))) : PI X tg (.Call (.Name x p) [a, b] [] pos) (tI X.K (evS cf (.sRange ea eb))) := by
  have e1 := eq_of_beq hx
  subst e1
  refine ⟨fun pins s σ H R I ⟨G, F, r, σD, M, sr, M', hR, hS, he, hl, hQ⟩ => ?_⟩
  have hs := star_one (es := []) (env := X.env) n2
  have hs2 := star_one (es := [b]) (env := X.env) n1
  refine (pi_range2 hg hm (pa_cons h (pa_cons h' pa_nil hs) hs2) (by rw [hs2, hs]; rfl) (by rw [hs]; rfl)).run pins s σ H R I ?_
  unfold evS at he
  obtain ⟨y, e1, he⟩ := bindE he
  obtain ⟨z, e2, he⟩ := bindE he
  obtain ⟨yd, ym⟩ := y
  obtain ⟨zd, zm⟩ := z
  refine ⟨G, F, r, σD, M, yd, ym, hR, hS, e1, fun v F1 r1 H1 E1 R1 x1 => ⟨G, F1, r1, σD, ym, zd, zm, R1, hS.ext E1, e2, fun u F2 r2 H2 E2 R2 x2 => ?_⟩⟩
  cases yd <;> first | cases he | skip
  cases zd <;> first | cases he | skip
  exact ⟨_, _, by rw [Rep.int x1.rep, Rep.int x2.rep], rng_bounds hl, hQ _ F2 r2 H2 (E1.trans E2) R2 j_rng⟩
theorem i_enum {elts : List Expr} {kk : Nat} {tpos : Pos} (hx : (x == ("enumerate" : Str)) = true) (hg : Gl X x) (hm : X.mg x = none) (n1 : notStar a = true) (h : PE X a (tM X.K false (ev cf ea))) : PI X (.Tuple elts kk tpos) (.Call (.Name x p) [a] [] pos) (tI X.K (evS cf (.sEnum ea))) := by
  have e1 := eq_of_beq hx
  subst e1
  refine ⟨fun pins s σ H R I ⟨G, F, r, σD, M, sr, M', hR, hS, he, hl, hQ⟩ => ?_⟩
  have hs := star_one (es := []) (env := X.env) n1
  refine (pi_enum hg hm (pa_cons h pa_nil hs) (by rw [hs]; rfl)).run pins s σ H R I ?_
  unfold evS at he
  obtain ⟨y, e1, he⟩ := mapE he
  cases he
  obtain ⟨n, hn⟩ := hl
  dsimp only [Src.len] at hn
  obtain ⟨xs, e2, _⟩ := mapE hn
  refine ⟨G, F, r, σD, M, y.1, y.2, hR, hS, e1, fun v F1 r1 H1 E1 R1 x1 => ?_⟩
  obtain ⟨q, us, hq, hr, hd, hp⟩ := lst_of R1 x1.rep e2
  subst hq
  exact ⟨q, us, rfl, .of hp, hQ _ F1 r1 H1 E1 R1 (j_enum x1.rep hd)⟩
theorem i_zip {elts : List Expr} {kk : Nat} {tpos : Pos} (hx : (x == ("zip" : Str)) = true) (hg : Gl X x) (hm : X.mg x = none) (n1 : notStar a = true) (n2 : notStar b = true) (h : PE X a (tM X.K false (ev cf ea))) (h' : PE X b (tM X.K false (ev cf eb))) : PI X (.Tuple elts kk tpos) (.Call (.Name x p) [a, b] [] pos) (tI X.K (evS cf (.sZip ea eb))) := by
  have e1 := eq_of_beq hx
  subst e1
  refine ⟨fun pins s σ H R I ⟨G, F, r, σD, M, sr, M', hR, hS, he, hl, hQ⟩ => ?_⟩
  have hs := star_one (es := []) (env := X.env) n2
  have hs2 := star_one (es := [b]) (env := X.env) n1
  refine (RZ.pi_zipA hg hm (pa_cons h (pa_cons h' pa_nil hs) hs2) hs2 (by rw [hs]; rfl)).run pins s σ H R I ?_
  unfold evS at he
  obtain ⟨y, e1, he⟩ := bindE he
  obtain ⟨z, e2, he⟩ := mapE he
  cases he
  refine ⟨G, F, r, σD, M, y.1, y.2, hR, hS, e1, fun v F1 r1 H1 E1 R1 x1 => ⟨G, F1, r1, σD, y.2, z.1, z.2, R1, hS.ext E1, e2, fun u F2 r2 H2 E2 R2 x2 => ?_⟩⟩
  have x1' := x1.rep.ext E2
  have x2' := x2.rep
  obtain ⟨n, hn⟩ := hl
  dsimp only [Src.len] at hn
  obtain ⟨xs, s1, hn⟩ := bindE hn
  obtain ⟨ys, s2, hn⟩ := bindE hn
  obtain ⟨pa, va, ea, ra, ha⟩ := seq_of R2 x1' s1
  obtain ⟨pb, vb, eb, rb, hb⟩ := seq_of R2 x2' s2
  subst ea eb
  rcases ha with ⟨ka, ha⟩ | ⟨ka, ha⟩
  · rcases hb with ⟨kb, hb⟩ | ⟨kb, hb⟩
    · exact ⟨pa, pb, va, vb, rfl, .inr ⟨ha, hb, hQ _ F2 r2 H2 (E1.trans E2) R2 (j_zipT x1' x2' ka kb)⟩⟩
    · rw [ka, kb] at hn
      cases hn
  · rcases hb with ⟨kb, hb⟩ | ⟨kb, hb⟩
    · rw [ka, kb] at hn
      cases hn
    · exact ⟨pa, pb, va, vb, rfl, .inl ⟨.of ha, .of hb, hQ _ F2 r2 H2 (E1.trans E2) R2 (j_zipL x1' x2' ka kb)⟩⟩
end
end Mi
namespace Mi
open PySem PySem.Spec PyProof.Rows L2

/-! ### targets -/
def tG (K : PySem.W.Frag) (t : MT) : TG := fun v σ H Q => ∃ (G F : FP) (r : Nat → Addr) (σD : Sl) (M : Mem) (d : D) (σD' : Sl), RH K G F r M H ∧ RS K F r M.length H σD σ ∧ Rep K F r M.length H v d ∧ asgT t [d] σD = some σD' ∧
  ∀ σ' : L2.St, RS K F r M.length H σD' σ' → σ'.length = σ.length → (∀ j : Nat, j ∉ slotsT t → σ'[j]? = σ[j]?) → Q σ' H
def tGs (K : PySem.W.Frag) (t : MT) : TGs := fun vs σ H Q => ∃ (G F : FP) (r : Nat → Addr) (σD : Sl) (M : Mem) (ds : List D) (σD' : Sl), RH K G F r M H ∧ RS K F r M.length H σD σ ∧ Reps K F r M.length H vs ds ∧ asgT t ds σD = some σD' ∧
  ∀ σ' : L2.St, RS K F r M.length H σD' σ' → σ'.length = σ.length → (∀ j : Nat, j ∉ slotsT t → σ'[j]? = σ[j]?) → Q σ' H
theorem asg_star {e : Expr} {es : List Expr} {env : Env} (h : notStar e = true) : assignEach (e :: es) env = (false, assign e env) :: assignEach es env := by
  cases e <;> first | rfl | cases h
theorem asg_len {env : Env} : ∀ {es : List Expr}, es.all notStar = true → (assignEach es env).length = es.length ∧ (assignEach es env).findIdx? (·.1) = none
  | [], _ => ⟨rfl, rfl⟩
  | e :: es, h => by
    obtain ⟨h1, h2⟩ := ba (show (notStar e && es.all notStar) = true from h)
    obtain ⟨h3, h4⟩ := asg_len (env := env) h2
    rw [asg_star h1]
    exact ⟨congrArg (· + 1) h3, by rw [List.findIdx?_cons]; simp [h4]⟩
theorem ix_get {N : List Str} {x : Str} {i : Nat} (h : ixOf N x = some i) : N[i]? = some x := by
  unfold ixOf at h
  obtain ⟨h1, h2, _⟩ := List.findIdx?_eq_some_iff_getElem.mp h
  rw [List.getElem?_eq_getElem h1]
  exact congrArg some (eq_of_beq h2)
theorem cT_star : ∀ {n : Nat} {c : CC} {raw : Scope} {e : Expr} {t : MT}, cT n c raw e = some t → notStar e = true
  | 0, _, _, _, _, h => by unfold cT at h; cases h
  | n + 1, _, _, e, _, h => by
    cases e <;> first | rfl | (unfold cT at h; cases h)
theorem cTgo_star : ∀ {n : Nat} {c : CC} {raw : Scope} {es : List Expr} {t : MT}, cT.go n c raw es = some t → es.all notStar = true
  | 0, _, _, _, _, h => by unfold cT.go at h; cases h
  | n + 1, _, _, [], _, _ => rfl
  | n + 1, c, raw, e :: es, t, h => by
    unfold cT.go at h
    obtain ⟨t1, h1, h2⟩ := bindE h
    obtain ⟨t2, h3, _⟩ := mapE h2
    show (notStar e && es.all notStar) = true
    rw [cT_star h1, cTgo_star h3]
    rfl
theorem loc_of {sc : Scope} {x : Str} (h : isLoc sc x = true) : Loc sc x := by
  unfold isLoc at h
  split at h
  · exact .inl (by assumption)
  · exact .inr (by assumption)
  · cases h
theorem vis_of {sc : Scope} {x : Str} (h : isVis sc x = true) : Vis sc x := by
  unfold isVis at h
  split at h
  · exact .inl (by assumption)
  · exact .inr (.inl (by assumption))
  · exact .inr (.inr (by assumption))
  · cases h
def lenT : MT → Nat
  | .nil => 0
  | .cons _ ts => lenT ts + 1
  | _ => 1
theorem asg_lenT : ∀ {t : MT} {ds : List D} {σ σ' : Sl}, asgT t ds σ = some σ' → ds.length = lenT t
  | .nm _, [d], _, _, _ => rfl
  | .nm _, [], _, _, h => by unfold asgT at h; cases h
  | .nm _, _ :: _ :: _, _, _, h => by unfold asgT at h; cases h
  | .tp _, [d], _, _, _ => rfl
  | .tp _, [], _, _, h => by unfold asgT at h; cases h
  | .tp _, _ :: _ :: _, _, _, h => by simp [asgT] at h
  | .nil, [], _, _, _ => rfl
  | .nil, _ :: _, _, _, h => by unfold asgT at h; cases h
  | .cons _ _, [], _, _, h => by unfold asgT at h; cases h
  | .cons t ts, d :: ds, _, _, h => by
    unfold asgT at h
    obtain ⟨σ1, _, h2⟩ := bindE h
    exact congrArg (· + 1) (asg_lenT h2)
theorem cTgo_len : ∀ {n : Nat} {c : CC} {raw : Scope} {es : List Expr} {t : MT}, cT.go n c raw es = some t → lenT t = es.length
  | 0, _, _, _, _, h => by unfold cT.go at h; cases h
  | n + 1, _, _, [], _, h => by unfold cT.go at h; cases h; rfl
  | n + 1, c, raw, e :: es, t, h => by
    unfold cT.go at h
    obtain ⟨t1, h1, h2⟩ := bindE h
    obtain ⟨t2, h3, h4⟩ := mapE h2
    subst h4
    exact congrArg (· + 1) (cTgo_len h3)
section
variable {X : Cx} {c : CC} {raw : Scope}
/-- names of raw may be stored -/
def TOk (X : Cx) (c : CC) (raw : Scope) : Prop := X.N = c.N ∧ X.N.Nodup ∧ X.calm = true ∧ ∀ x, isLoc raw x = true → Loc X.env.scope x ∧ (X.fn x = true ∨ X.env.scope.names.lookup x = some .local)
theorem g_nm {x : Str} {i : Nat} {pos : Pos} (hN : X.N.Nodup) (hi : X.N[i]? = some x) (hx : Loc X.env.scope x) (hf : X.fn x = true ∨ X.env.scope.names.lookup x = some .local) : PG X (.Name x pos) (tG X.K (.nm i)) :=
  ⟨fun pins s σ H v u Q I rv ⟨G, F, r, σD, M, d, σD', hR, hS, hv, ha, hQ⟩ => (pg_name hN hi hx hf).run pins s σ H v u Q I rv (by
    unfold asgT at ha
    cases ha
    exact hQ _ (hS.set i hv) (List.length_set ..) fun j hj => List.getElem?_set_ne fun e => hj (by rw [e]; exact List.mem_singleton.mpr rfl))⟩
theorem g_tp {es : List Expr} {k : Nat} {t : MT} {pos : Pos} (hc : X.calm = true) (hs : es.all notStar = true) (hn : lenT t = es.length) (h : PGs X es (tGs X.K t)) : PG X (.Tuple es k pos) (tG X.K (.tp t)) :=
  ⟨fun pins s σ H v u Q I rv ⟨G, F, r, σD, M, d, σD', hR, hS, hv, ha, hQ⟩ => by
    obtain ⟨h1, h2⟩ := asg_len (env := X.env) hs
    cases d <;> first | (unfold asgT at ha; cases ha; done) | skip
    rename_i xs
    unfold asgT at ha
    obtain ⟨p, vs, hp, hT, hr⟩ := hv
    exact (pg_tup hc h h1 h2).run pins s σ H v u Q I rv ⟨p, vs, hp, hT, by rw [hr.len, asg_lenT ha, hn], G, F, r, σD, M, xs, σD', hR, hS, hr, ha, hQ⟩⟩
theorem gs_nil : PGs X [] (tGs X.K .nil) := ⟨fun pins s σ H vs us Q I rv ⟨G, F, r, σD, M, ds, σD', hR, hS, hv, ha, hQ⟩ => pgs_nil.run pins s σ H vs us Q I rv (by
  cases ds with
  | nil =>
    unfold asgT at ha
    cases ha
    cases vs with
    | nil => exact ⟨rfl, hQ σ hS rfl fun _ _ => rfl⟩
    | cons v vs => exact hv.elim
  | cons d ds => unfold asgT at ha; cases ha)⟩
theorem gs_cons {e : Expr} {es : List Expr} {t ts : MT} (n1 : notStar e = true) (h1 : PG X e (tG X.K t)) (h2 : PGs X es (tGs X.K ts)) : PGs X (e :: es) (tGs X.K (.cons t ts)) := ⟨fun pins s σ H vs us Q I rv ⟨G, F, r, σD, M, ds, σD', hR, hS, hv, ha, hQ⟩ => (pgs_cons h1 h2 (by rw [asg_star n1]; rfl)).run pins s σ H vs us Q I rv (by
  cases ds with
  | nil => unfold asgT at ha; cases ha
  | cons d ds =>
    unfold asgT at ha
    obtain ⟨σ1, e1, e2⟩ := bindE ha
    cases vs with
    | nil => exact hv.elim
    | cons v vs =>
      refine ⟨v, vs, rfl, G, F, r, σD, M, d, σ1, hR, hS, hv.1, e1, fun σ2 hS2 hl2 hk2 => ⟨G, F, r, σ1, M, ds, σD', hR, hS2, hv.2, e2, fun σ3 hS3 hl3 hk3 => hQ σ3 hS3 (hl3.trans hl2) fun j hj => ?_⟩⟩
      have hj1 : j ∉ slotsT t := fun z => hj (List.mem_append_left _ z)
      have hj2 : j ∉ slotsT ts := fun z => hj (List.mem_append_right _ z)
      rw [hk3 j hj2, hk2 j hj1])⟩
theorem g_ok : ∀ (n : Nat), (∀ {e : Expr} {t : MT}, TOk X c raw → cT n c raw e = some t → PG X e (tG X.K t)) ∧ ∀ {es : List Expr} {t : MT}, TOk X c raw → cT.go n c raw es = some t → PGs X es (tGs X.K t)
  | 0 => ⟨fun _ h => (by unfold cT at h; cases h), fun _ h => (by unfold cT.go at h; cases h)⟩
  | n + 1 => by
    obtain ⟨ih1, ih2⟩ := g_ok n
    refine ⟨fun {e t} T h => ?_, fun {es t} T h => ?_⟩
    · cases e <;> first | (unfold cT at h; cases h; done) | skip
      · unfold cT at h
        split at h
        · rename_i hl
          obtain ⟨i, h1, h2⟩ := mapE h
          subst h2
          obtain ⟨q1, q2⟩ := T.2.2.2 _ hl
          exact g_nm T.2.1 (by rw [T.1]; exact ix_get h1) q1 q2
        · cases h
      · unfold cT at h
        obtain ⟨t', h1, h2⟩ := mapE h
        subst h2
        exact g_tp T.2.2.1 (cTgo_star h1) (cTgo_len h1) (ih2 T h1)
    · cases es with
      | nil =>
        unfold cT.go at h
        cases h
        exact gs_nil
      | cons e es =>
        unfold cT.go at h
        obtain ⟨t1, h1, h2⟩ := bindE h
        obtain ⟨t2, h3, h4⟩ := mapE h2
        subst h4
        exact gs_cons (cT_star h1) (ih1 T h1) (ih2 T h3)
end

/-! ### comprehensions -/
theorem wipe_get (σ : L2.St) : ∀ (vs : List Nat) (j : Nat), j < σ.length → (L2.wipe σ vs)[j]? = if j ∈ vs then some none else σ[j]?
  | [], j, h => by simp [L2.wipe]
  | v :: vs, j, h => by
    have ih := wipe_get σ vs j h
    show ((L2.wipe σ vs).set v none)[j]? = _
    have hl : (L2.wipe σ vs).length = σ.length := wipe_length σ vs
    by_cases c : v = j
    · subst c
      rw [List.getElem?_set_self (by rw [hl]; exact h)]
      simp
    · rw [List.getElem?_set_ne c, ih]
      have : (j ∈ v :: vs) ↔ j ∈ vs := by
        rw [List.mem_cons]
        exact ⟨fun z => z.elim (fun e => absurd e.symm c) id, .inr⟩
      simp only [this]
theorem wipe_same {σ σ' : L2.St} {vs ks : List Nat} (hl : σ'.length = σ.length) (hk : ∀ j : Nat, j ∉ ks → σ'[j]? = (L2.wipe σ vs)[j]?) (hs : ∀ j ∈ ks, j ∈ vs) : L2.wipe σ' vs = L2.wipe σ vs := by
  apply List.ext_getElem?
  intro j
  by_cases h : j < σ.length
  · rw [wipe_get σ' vs j (by rw [hl]; exact h), wipe_get σ vs j h]
    by_cases c : j ∈ vs
    · rw [if_pos c, if_pos c]
    · rw [if_neg c, if_neg c, hk j fun z => c (hs j z), wipe_get σ vs j h, if_neg c]
  · have h1 : (L2.wipe σ' vs).length = σ.length := (wipe_length σ' vs).trans hl
    have h2 : (L2.wipe σ vs).length = σ.length := wipe_length σ vs
    rw [List.getElem?_eq_none_iff.mpr (by omega), List.getElem?_eq_none_iff.mpr (by omega)]
abbrev FP.one (G : FP) (p : Addr) : FP := fun q => G q ∨ q = p
section
variable {K : PySem.W.Frag} {G F F' : FP} {r r' : Nat → Addr} {n n' : Nat} {M : Mem} {H H' : Hp} {p : Addr}
theorem RH.addG {o : HO} (h : RH K G F r M H) (hp : H p = some o) (nF : ¬ F p) (nr : ∀ i, i < M.length → r i ≠ p) : RH K (FP.one G p) F r M H :=
  ⟨h.obj, h.inj, h.nf, h.dom, fun q hq => hq.elim (h.gd q) fun e => ⟨o, by rw [e]; exact hp⟩, fun q hq hf => hq.elim (fun z => h.gF q z hf) fun e => nF (by rw [← e]; exact hf), fun i hi hq => hq.elim (h.gr i hi) (nr i hi)⟩
theorem RH.subG (h : RH K (FP.one G p) F r M H) : RH K G F r M H := ⟨h.obj, h.inj, h.nf, h.dom, fun q hq => h.gd q (.inl hq), fun q hq => h.gF q (.inl hq), fun i hi hq => h.gr i hi (.inl hq)⟩
theorem Ext.subG (e : Ext (FP.one G p) F r n H F' r' n' H') : Ext G F r n H F' r' n' H' := ⟨e.hF, e.hr, e.hn, e.kF, e.kT, fun q hq => e.kG q (.inl hq)⟩
/-- the list that is being made grows -/
theorem Ext.putG {u o : HO} (h : RH K (FP.one G p) F r M H) (hp : H p = some u) (ng : ¬ G p) (hu : tupO u = false := by rfl) : Ext G F r n H F r n (upd H p o) :=
  ⟨fun _ h => h, fun _ _ => rfl, Nat.le_refl _, fun q hq => upd_ne fun e => h.gF p (.inr rfl) (by rw [← e]; exact hq), fun q u' hu' ht => (upd_ne (ne_of hu' hp fun e => by rw [e, hu] at ht; cases ht)).trans hu', fun q hq => upd_ne fun e => ng (by rw [← e]; exact hq)⟩
theorem RH.putG {u o : HO} (h : RH K (FP.one G p) F r M H) (hp : H p = some u) (ng : ¬ G p) (hu : tupO u = false := by rfl) : RH K (FP.one G p) F r M (upd H p o) where
  obj := fun i o' e => by
    obtain ⟨us, h1, h2⟩ := h.obj i o' e
    have hi : i < M.length := (List.getElem?_eq_some_iff.mp e).1
    exact ⟨us, (upd_ne fun e => h.gr i hi (.inr e)).trans h1, h2.ext (Ext.putG h hp ng hu)⟩
  inj := h.inj
  nf := h.nf
  dom := fun q hq => by
    obtain ⟨u, hu⟩ := h.dom q hq
    exact ⟨u, (upd_ne fun e => h.gF p (.inr rfl) (by rw [← e]; exact hq)).trans hu⟩
  gd := fun q hq => by
    by_cases c : q = p
    · subst c
      exact ⟨o, upd_same⟩
    · obtain ⟨u, hu⟩ := h.gd q hq
      exact ⟨u, (upd_ne c).trans hu⟩
  gF := h.gF
  gr := h.gr
end
/-- a comprehension's turn -/
def cturn (cf : CF) (elt : ME) (t : MT) (cond : ME) (own : List Nat) (σ : Sl) (d : D) (a : List D × Mem) : Option ((List D × Mem) × Bool) :=
  (asgT t [d] (wipeS σ own)).bind fun σ2 => (ev cf cond σ2 a.2).bind fun c => (truD c.2 c.1).bind fun t => if t then (ev cf elt σ2 c.2).map fun y => ((y.1 :: a.1, y.2), true) else some ((a.1, c.2), true)
section
variable {X : Cx} {cf : CF} {iter tg elt : Expr} {ifs : List Expr} {scope : Scope} {own : List (Str × Nat)} {src cond ee : ME} {t : MT} {pos : Pos}
theorem lc_ok {σ : L2.St} {H : Hp} {Q : VK} (ht : ∀ j ∈ slotsT t, j ∈ own.map (·.2)) (h : tM X.K true (ev cf (.comp ee t src cond (own.map (·.2)))) σ H Q) :
    tLc (tI X.K (evS cf src)) (tG X.K t) (tMt X.K (evt cf cond)) (tM X.K false (ev cf ee)) (own.map (·.2)) σ H Q := by
  obtain ⟨G, F, r, σD, M, d, M', hR, hS, he, hQ⟩ := h
  unfold ev at he
  obtain ⟨s, e1, he⟩ := bindE he
  obtain ⟨n, e2, he⟩ := bindE he
  split at he
  · rename_i hz
    obtain ⟨res, e3, he⟩ := mapE he
    cases he
    refine ⟨G, F, r, σD, M, s.1, s.2, hR, hS, e1, ⟨n, e2⟩, fun J F1 r1 H1 E1 R1 J1 D hD => ?_⟩
    have ngD : ¬ G D := fun z => by
      obtain ⟨o, ho⟩ := R1.gd D z
      rw [hD] at ho
      cases ho
    have nFD : ¬ F1 D := fun z => by
      obtain ⟨o, ho⟩ := R1.dom D z
      rw [hD] at ho
      cases ho
    have nrD : ∀ i, i < s.2.length → r1 i ≠ D := fun i hi z => by
      obtain ⟨_, u, _, ho, _⟩ := R1.at hi
      rw [z, hD] at ho
      cases ho
    let Wst := fun (i : Nat) (H' : Hp) => ∃ F2 r2 a vs, i ≤ n ∧ turns s.1 (cturn cf ee t cond (own.map (·.2)) σD) (·.2) (n - i) i a = some res ∧ RH X.K (FP.one G D) F2 r2 a.2 H' ∧ Ext G F1 r1 s.2.length H1 F2 r2 a.2.length H' ∧ H' D = some (.lst vs) ∧
      Reps X.K F2 r2 a.2.length H' vs a.1.reverse ∧ a.1.length ≤ i
    refine ⟨fun i m H' => m = n - i ∧ Wst i H', ⟨n, rfl, F1, r1, ([], s.2), [], Nat.zero_le _, e3, (R1.new hD).addG upd_same nFD nrD, Ext.new hD R1.dom R1.gd, upd_same, trivial, Nat.zero_le _⟩, ?_⟩
    rintro i m H' ⟨rfl, F2, r2, a, vs, hin, hT, hR2, E2, hH, hv, hlen⟩
    obtain ⟨jgo, jst⟩ := J1 (FP.one G D) F2 r2 a.2 H' E2 hR2 i
    cases q : n - i with
    | zero =>
      rw [q] at hT
      unfold turns at hT
      split at hT
      · rename_i hd
        cases hT
        refine .inl ⟨jst hd, ?_⟩
        exact hQ _ F2 r2 H' (E1.trans E2) hR2.subG ⟨D, vs, rfl, hH, hv, hR2.gF D (.inr rfl), fun i hi z => hR2.gr i hi (.inr z), ngD⟩
      · cases hT
    | succ k =>
      rw [q] at hT
      unfold turns at hT
      obtain ⟨d, g1, hT⟩ := bindE hT
      obtain ⟨a2, g2, hT⟩ := bindE hT
      obtain ⟨jg, jy⟩ := jgo d g1
      unfold cturn at g2
      obtain ⟨σ2, g3, g2⟩ := bindE g2
      obtain ⟨c, g4, g2⟩ := bindE g2
      obtain ⟨tb, g5, g2⟩ := bindE g2
      refine .inr ⟨jg, fun H'' => Wst (i + 1) H'', fun H'' w => ⟨n - (i + 1), by omega, rfl, w⟩, fun x H3 hy => ?_⟩
      obtain ⟨E3, R3, x3⟩ := jy x H3 hy
      have hS3 : RS X.K F2 r2 a.2.length H3 (wipeS σD (own.map (·.2))) (L2.wipe σ (own.map (·.2))) := ((hS.ext E1).ext (E2.trans E3.subG)).wipe _
      refine ⟨FP.one G D, F2, r2, _, a.2, d, σ2, R3, hS3, x3, g3, fun σ' hS' hl' hk' => ⟨wipe_same (hl'.trans (wipe_length σ _)) hk' ht, ?_⟩⟩
      refine ⟨FP.one G D, F2, r2, σ2, a.2, tb, c.2, R3, hS', evt_split g4 g5, fun F4 r4 H4 E4 R4 => ?_⟩
      have H3D : H3 D = some (.lst vs) := (E3.kG D (.inr rfl)).trans hH
      have H4D : H4 D = some (.lst vs) := (E4.kG D (.inr rfl)).trans H3D
      cases tb with
      | false =>
        rw [if_neg (by decide)] at g2
        cases g2
        show Wst (i + 1) H4
        rw [if_pos rfl] at hT
        exact ⟨F4, r4, (a.1, c.2), vs, by omega, by rw [show n - (i + 1) = k by omega]; exact hT, R4, E2.trans (E3.subG.trans E4.subG), H4D, (hv.ext E3).ext E4, by show a.1.length ≤ i + 1; omega⟩
      | true =>
        rw [if_pos rfl] at g2
        obtain ⟨y, g6, g2⟩ := mapE g2
        cases g2
        rw [if_pos rfl] at hT
        refine ⟨FP.one G D, F4, r4, σ2, c.2, y.1, y.2, R4, hS'.ext E4, g6, fun v F5 r5 H5 E5 R5 x5 => ?_⟩
        have H5D : H5 D = some (.lst vs) := (E5.kG D (.inr rfl)).trans H4D
        have hv5 := ((hv.ext E3).ext E4).ext E5
        refine ⟨vs, H5D, ?_, F5, r5, (y.1 :: a.1, y.2), vs ++ [v], by omega, by rw [show n - (i + 1) = k by omega]; exact hT, R5.putG H5D ngD, E2.trans (E3.subG.trans (E4.subG.trans (E5.subG.trans (Ext.putG R5 H5D ngD)))), upd_same, ?_, by show a.1.length + 1 ≤ i + 1; omega⟩
        · rw [hv5.len, List.length_reverse, ← line_eq]
          omega
        · show Reps _ _ _ _ _ _ (y.1 :: a.1).reverse
          rw [List.reverse_cons]
          exact (hv5.app (show Reps X.K F5 r5 y.2.length H5 [v] [y.1] from ⟨x5.rep, trivial⟩)).ext (Ext.putG R5 H5D ngD) _ _
  · cases he
theorem s_comp (hc : X.calm = true) (hN : X.N.Nodup) (ht : ∀ j ∈ slotsT t, j ∈ own.map (·.2)) (hi : PI X tg iter (tI X.K (evS cf src))) (ok : BlkOk X.N X.env.scope scope own)
    (hg : ∀ (s : Shared) (H : Hp) (C : Addr) (cl : List (Str × Addr)) (fp : List Addr), PG (X.blk s H scope (compEnvC scope cl C X.env) fp) tg (tG X.K t))
    (hf : ∀ (s : Shared) (H : Hp) (C : Addr) (cl : List (Str × Addr)) (fp : List Addr), PTs (X.blk s H scope (compEnvC scope cl C X.env) fp) ifs (tMt X.K (evt cf cond)))
    (he : ∀ (s : Shared) (H : Hp) (C : Addr) (cl : List (Str × Addr)) (fp : List Addr), PE (X.blk s H scope (compEnvC scope cl C X.env) fp) elt (tM X.K false (ev cf ee)))
    (hs : ∀ x, foldedSetIterable iter X.env x = pure x) : PE X (.ListComp elt [⟨tg, iter, ifs, 0⟩] scope pos) (tM X.K true (ev cf (.comp ee t src cond (own.map (·.2))))) :=
  pe_conv (pe_lc hc hN hi ok hg hf he hs) fun σ H Q h => lc_ok ht h
end
end Mi
namespace Mi
open PySem PySem.Spec PyProof.Rows L2

/-! ### the texts' expressions -/
structure XOk (c : CC) (fs : List Fn) (frf : Nat → Bool) (d : Nat) (sc : Scope) (X : Cx) : Prop where
  N : X.N = c.N
  nd : c.N.Nodup
  sc : X.env.scope = sc
  calm : X.calm = true
  room : Room d X.A
  fn : ∀ (i : Nat) (x : Str), c.fns[i]? = some x → ∃ fa fd ps, X.mg x = some (.ref fa) ∧ PySem.W.keepIn X.K (.ref fa) = true ∧ Binds X.K fd ps [] ∧ FnOk X.prog X.w X.K X.mg X.base CX0 d fa fd ps (spF X.K fs frf d i)
  blt : ∀ x, (bltOf x).isSome = true → X.mg x = none
  ty : ∀ x, (tyOf x).isSome = true → X.mg x = none
  oth : ∀ x, (x == ("range" : Str) || x == ("zip" : Str) || x == ("enumerate" : Str) || x == ("isinstance" : Str) || x == ("set" : Str)) = true → X.mg x = none
  con : ∀ x dd, c.con.lookup x = some dd → ∃ v u, X.mg x = some u ∧ RelV v u ∧ ∀ F r n H, Rep X.K F r n H v dd
theorem XOk.un {c : CC} {fs : List Fn} {frf : Nat → Bool} {d : Nat} {sc : Scope} {X : Cx} (T : XOk c fs frf d sc X) : X.A.units + 65 < cLine := by have := T.room.un; omega
theorem gl_of {X : Cx} {sc : Scope} {x : Str} (hs : X.env.scope = sc) (h : isGl sc x = true) : Gl X x := by
  unfold isGl at h
  show X.env.scope.names.lookup x = _
  rw [hs]
  split at h
  · assumption
  · cases h
theorem plain_of {x : Str} (h : plainNm x = true) : (x == ("__debug__" : Str)) = false ∧ (x == ("__classdict__" : Str)) = false := by
  unfold plainNm at h
  obtain ⟨h1, h2⟩ := ba h
  exact ⟨by simpa using h1, by simpa using h2⟩
theorem recv_base {o : Expr} {a : Str} {env : Env} (h : recvC o = true) : attributeBase o a env (eval o env) = eval o env := by
  cases o <;> first | rfl | cases h
theorem iff_bool {b : Bool} {α : Type} {x : Option α} {y : α} (h : (if b = true then x else none) = some y) : b = true ∧ x = some y := by
  cases b with
  | true => exact ⟨rfl, by simpa using h⟩
  | false => simp at h
theorem mem_slots {t : MT} {own : List (Str × Nat)} (h : ((slotsT t).all fun i => (own.map (·.2)).contains i) = true) : ∀ j ∈ slotsT t, j ∈ own.map (·.2) := fun j hj => by
  have := List.all_eq_true.mp h j hj
  simpa using this
theorem set_of {c : CC} {sc : Scope} {f : Str} {a : Expr} {es : List Expr} {b : Expr} (h : setArg c sc f a es = some b) : ∃ g p2 q, a = .Call (.Name g p2) [b] [] q ∧ es = [] ∧ (f == ("sorted" : Str)) = true ∧ (g == ("set" : Str)) = true ∧ isGl sc g = true ∧ notStar b = true := by
  unfold setArg at h
  split at h
  · rename_i g p2 b' q
    obtain ⟨hc, h⟩ := iff_bool h
    cases h
    obtain ⟨hc, z4⟩ := ba hc
    obtain ⟨hc, z3⟩ := ba hc
    obtain ⟨z1, z2⟩ := ba hc
    exact ⟨g, p2, q, rfl, rfl, z1, z2, z3, z4⟩
  · cases h
theorem rg_of {c : CC} {sc : Scope} {f : Str} {a : Expr} {es : List Expr} {b : Expr} (h : rgArg c sc f a es = some b) : ∃ g p2 q, a = .Call (.Name g p2) [b] [] q ∧ es = [] ∧ ((f == ("list" : Str)) || (f == ("tuple" : Str))) = true ∧ (g == ("range" : Str)) = true ∧ isGl sc g = true ∧ notStar b = true := by
  unfold rgArg at h
  split at h
  · rename_i g p2 b' q
    obtain ⟨hc, h⟩ := iff_bool h
    cases h
    obtain ⟨hc, z4⟩ := ba hc
    obtain ⟨hc, z3⟩ := ba hc
    obtain ⟨z1, z2⟩ := ba hc
    exact ⟨g, p2, q, rfl, rfl, z1, z2, z3, z4⟩
  · cases h
section
variable {c : CC} {fs : List Fn} {frf : Nat → Bool} {d : Nat} {sc : Scope} {X : Cx}
/-- within a comprehension's block -/
theorem XOk.blk (T : XOk c fs frf d sc X) {s : Shared} {H : Hp} {scope : Scope} {C : Addr} {cl : List (Str × Addr)} {fp : List Addr} : XOk c fs frf d (relS scope sc) (X.blk s H scope (compEnvC scope cl C X.env) fp) where
  N := T.N
  nd := T.nd
  sc := by rw [← T.sc]; rfl
  calm := T.calm
  room := T.room
  fn := T.fn
  blt := T.blt
  ty := T.ty
  oth := T.oth
  con := T.con
theorem XOk.tgt (T : XOk c fs frf d sc X) {s : Shared} {H : Hp} {scope : Scope} {C : Addr} {cl : List (Str × Addr)} {fp : List Addr} : TOk (X.blk s H scope (compEnvC scope cl C X.env) fp) c scope := by
  refine ⟨T.N, by show X.N.Nodup; rw [T.N]; exact T.nd, T.calm, fun x hx => ?_⟩
  rcases loc_of hx with h | h
  · have h2 := lookup_relS_keep (sc := X.env.scope) (by decide) h
    exact ⟨.inl h2, .inr h2⟩
  · have h2 := lookup_relS_keep (sc := X.env.scope) (by decide) h
    exact ⟨.inr h2, .inl (by show (scope.names.lookup x == some NameKind.cell) = true; rw [h]; rfl)⟩
def Tri (X : Cx) (fs : List Fn) (frf : Nat → Bool) (d : Nat) (e : Expr) (me : ME) : Prop :=
  PE X e (tM X.K (freshE frf me) (ev (callD fs d) me)) ∧ PT X e (tMt X.K (evt (callD fs d) me)) ∧ ∀ op vs p, e = .BoolOp op vs p → PW X e (tMt X.K (evt (callD fs d) me))
theorem tri {e : Expr} {me : ME} (h : PE X e (tM X.K (freshE frf me) (ev (callD fs d) me))) (he : ∀ whole, isTrue e X.env whole = (do let v ← whole; standAt e.pos; holding [v] (truthy v))) (nb : ∀ op vs p, e ≠ .BoolOp op vs p) : Tri X fs frf d e me :=
  ⟨h, t_tru (pe_weak h) he, fun op vs p z => absurd z (nb op vs p)⟩
def pairUp : List V → List (V × V)
  | a :: b :: r => (a, b) :: pairUp r
  | _ => []
def PairsOk (K : PySem.W.Frag) (f : Sl → Mem → Option (List D × Mem)) (trs : List (TE × TE)) (n : Nat) : Prop :=
  ∀ (σ : L2.St) (H : Hp) (Q : List (V × V) → Hp → Prop) (G F : FP) (r : Nat → Addr) (σD : Sl) (M : Mem) (ds : List D) (M' : Mem), RH K G F r M H → RS K F r M.length H σD σ → f σD M = some (ds, M') →
    (∀ vs F' r' H', Ext G F r M.length H F' r' M'.length H' → RH K G F' r' M' H' → Reps K F' r' M'.length H' vs ds → ds.length = n → Q (pairUp vs) H') → tPairs trs σ H Q
theorem c_d {n : Nat} {c : CC} {fs : List Fn} {frf : Nat → Bool} {d : Nat} (ihE : ∀ {X sc e me}, XOk c fs frf d sc X → cE n c sc e = some me → PE X e (tM X.K false (ev (callD fs d) me)))
    (ih : ∀ {X sc pos keys values me}, XOk c fs frf d sc X → cD n c sc keys values = some me → ∃ trs, PPs X pos keys values trs ∧ keys.all (·.isSome) = true ∧ keys.length = values.length ∧ PairsOk X.K (evs (callD fs d) me) trs (2 * keys.length)) {X : Cx} {sc : Scope} {pos : Pos} {keys : List (Option Expr)} {values : List Expr} {me : ME} (T : XOk c fs frf d sc X) (h : cD (n + 1) c sc keys values = some me) :
    ∃ trs, PPs X pos keys values trs ∧ keys.all (·.isSome) = true ∧ keys.length = values.length ∧ PairsOk X.K (evs (callD fs d) me) trs (2 * keys.length) := by
  unfold cD at h
  split at h
  · rename_i z; cases z
  · cases h
    refine ⟨[], pps_nil, rfl, rfl, fun σ H Q G F r σD M ds M' hR hS he hQ => ?_⟩
    unfold evs at he
    cases he
    exact hQ [] F r H Ext.refl hR trivial rfl
  · rename_i z
    cases z
    obtain ⟨k', h1, h⟩ := bindE h
    obtain ⟨v', h2, h⟩ := bindE h
    obtain ⟨es, h3, h⟩ := mapE h
    subst h
    obtain ⟨trs, q1, q2, q3, q4⟩ := ih (pos := pos) T h3
    refine ⟨_, pps_cons (ihE T h1) (ihE T h2) q1, by simpa using q2, congrArg (· + 1) q3, fun σ H Q G F r σD M ds M' hR hS he hQ => ?_⟩
    unfold evs at he
    obtain ⟨x, e1, he⟩ := bindE he
    obtain ⟨y0, e2, he⟩ := mapE he
    cases he
    unfold evs at e2
    obtain ⟨y, e4, he⟩ := bindE e2
    obtain ⟨z, e3, he⟩ := mapE he
    cases he
    refine ⟨G, F, r, σD, M, x.1, x.2, hR, hS, e1, fun v F1 r1 H1 E1 R1 x1 => ⟨G, F1, r1, σD, x.2, y.1, y.2, R1, hS.ext E1, e4, fun u F2 r2 H2 E2 R2 y1 => ?_⟩⟩
    refine q4 σ H2 _ G F2 r2 σD y.2 z.1 z.2 R2 ((hS.ext E1).ext E2) e3 fun vs F3 r3 H3 E3 R3 z1 hl => ?_
    exact hQ (v :: u :: vs) F3 r3 H3 (E1.trans (E2.trans E3)) R3 ⟨(x1.rep.ext E2).ext E3, y1.rep.ext E3, z1⟩ (by rw [List.length_cons, List.length_cons, List.length_cons, hl]; omega)
  · cases h
theorem even_ok {K : PySem.W.Frag} {F : FP} {r : Nat → Addr} {n : Nat} {H : Hp} : ∀ (m : Nat) {xs : List D} {vs : List V} {ks : List DK} {ds : List D} {kvs : List (Key × V)} {p : List DK × List D}, xs.length ≤ m → Reps K F r n H vs xs → kvs.map (·.1) = ks.map DK.key → Reps K F r n H (kvs.map (·.2)) ds → evenD xs ks ds = some p →
    ∃ more : List (Key × V), pairUp vs = more.map (fun kv => (kV kv.1, kv.2)) ∧ 2 * more.length = xs.length ∧ (mergeK kvs more).map (·.1) = p.1.map DK.key ∧ Reps K F r n H ((mergeK kvs more).map (·.2)) p.2
  | _, [], [], ks, ds, kvs, p, _, _, h2, h3, e => by
    unfold evenD at e
    cases e
    exact ⟨[], rfl, rfl, h2, h3⟩
  | _, [], _ :: _, _, _, _, _, _, h, _, _, _ => h.elim
  | _, _ :: _, [], _, _, _, _, _, h, _, _, _ => h.elim
  | _, [x], _, _, _, _, _, _, _, _, _, e => by unfold evenD at e; cases e
  | _, _ :: _ :: _, [_], _, _, _, _, _, h, _, _, _ => h.2.elim
  | 0, _ :: _ :: _, _ :: _ :: _, _, _, _, _, hm, _, _, _, _ => absurd hm (by simp)
  | m + 1, x :: y :: xs, v :: u :: vs, ks, ds, kvs, p, hm, h, h2, h3, e => by
    unfold evenD at e
    obtain ⟨kk, ek, e⟩ := bindE e
    have ea := key_val h.1 ek
    obtain ⟨p1, p2⟩ := dct_put (k := kk) h2 h3 h.2.1
    obtain ⟨more, q1, q2, q3, q4⟩ := even_ok m (by simp only [List.length_cons] at hm; omega) h.2.2 p1 p2 e
    subst ea
    exact ⟨(kk.key, u) :: more, by show (kV kk.key, u) :: pairUp vs = _; rw [q1]; rfl, by simp only [List.length_cons]; omega, q3, q4⟩
theorem s_dsp0 {X : Cx} {cf : CF} {pos : Pos} : PE X (.Dict [] [] pos) (tM X.K true (ev cf (.dsp .nil))) :=
  pe_conv pe_dnewK fun σ H Q ⟨G, F, r, σD, M, d, M', hR, hS, he, hQ⟩ => fun p hp0 => by
    unfold ev at he
    obtain ⟨x, e1, he⟩ := bindE he
    obtain ⟨y, e2, he⟩ := mapE he
    unfold evs at e1
    cases e1
    unfold evenD at e2
    cases e2
    cases he
    exact hQ.dct (kvs := []) hR rfl trivial hp0
theorem cD_nil {n : Nat} {c : CC} {sc : Scope} {values : List Expr} {me : ME} (h : cD n c sc [] values = some me) : values = [] ∧ me = .nil := by
  cases n with
  | zero => unfold cD at h; cases h
  | succ n =>
    unfold cD at h
    split at h
    · cases h
    · cases h; exact ⟨rfl, rfl⟩
    · rename_i z; cases z
    · cases h
theorem s_dsp {X : Cx} {cf : CF} {es : ME} {pos : Pos} {keys : List (Option Expr)} {values : List Expr} {trs : List (TE × TE)} (h0 : keys ≠ []) (h : PPs X pos keys values trs) (hall : keys.all (·.isSome) = true) (hl : keys.length = values.length) (h15 : keys.length ≤ 15) (hp : PairsOk X.K (evs cf es) trs (2 * keys.length)) :
    PE X (.Dict keys values pos) (tM X.K true (ev cf (.dsp es))) := by
    refine pe_conv (pe_disp h hall hl h0 h15) fun σ H Q ⟨G, F, r, σD, M, d, M', hR, hS, he, hQ⟩ => fun p hp0 => ?_
    unfold ev at he
    obtain ⟨x, e1, he⟩ := bindE he
    obtain ⟨y, e2, he⟩ := mapE he
    cases he
    obtain ⟨a1, a2, a3⟩ := new_apart hR hp0
    have R0 : RH X.K (FP.one G p) F r M (upd H p (.dK [])) := (hR.new hp0).addG upd_same a1 a2
    have E0 : Ext G F r M.length H F r M.length (upd H p (.dK [])) := Ext.new hp0 hR.dom hR.gd
    refine hp σ _ _ (FP.one G p) F r σD M x.1 x.2 R0 (hS.ext E0) e1 fun vs F1 r1 H1 E1 R1 x1 hlen => ?_
    have hp1 : H1 p = some (.dK []) := (E1.kG p (.inr rfl)).trans upd_same
    obtain ⟨more, q1, q2, q3, q4⟩ := even_ok (kvs := []) (ks := []) (ds := []) x.1.length (Nat.le_refl _) x1 rfl trivial e2
    refine ⟨hp1, more, q1, by rw [hlen] at q2; omega, ?_⟩
    have E2 : Ext G F1 r1 x.2.length H1 F1 r1 x.2.length (upd H1 p (.dK (mergeK [] more))) := Ext.putG R1 hp1 a3
    have R2 : RH X.K (FP.one G p) F1 r1 x.2 (upd H1 p (.dK (mergeK [] more))) := R1.putG hp1 a3
    exact hQ _ F1 r1 _ (E0.trans (E1.subG.trans E2)) R2.subG ⟨p, _, rfl, upd_same, q3, q4.ext E2, R1.gF p (.inr rfl), fun i hi z => R1.gr i hi (.inr z), a3⟩
def COk (c : CC) (fs : List Fn) (frf : Nat → Bool) (d n : Nat) : Prop :=
  (∀ {X sc e me}, XOk c fs frf d sc X → cE n c sc e = some me → Tri X fs frf d e me) ∧
  (∀ {X sc es me}, XOk c fs frf d sc X → cEs n c sc es = some me → PA X es (tMs X.K (evs (callD fs d) me)) ∧ es.all notStar = true ∧ ∀ σ M ds M', evs (callD fs d) me σ M = some (ds, M') → ds.length = es.length) ∧
  (∀ {X sc o me}, XOk c fs frf d sc X → cO n c sc o = some me → PO X o (tMo X.K (evs (callD fs d) me))) ∧
  (∀ {X sc ifs me}, XOk c fs frf d sc X → cC n c sc ifs = some me → PTs X ifs (tMt X.K (evt (callD fs d) me))) ∧
  (∀ {X sc tg e me}, XOk c fs frf d sc X → cS n c sc tg e = some me → PI X tg e (tI X.K (evS (callD fs d) me)) ∧ ∀ env x, foldedSetIterable e env x = pure x) ∧
  (∀ {X sc pos keys values me}, XOk c fs frf d sc X → cD n c sc keys values = some me → ∃ trs, PPs X pos keys values trs ∧ keys.all (·.isSome) = true ∧ keys.length = values.length ∧ PairsOk X.K (evs (callD fs d) me) trs (2 * keys.length))
theorem noSlice {n : Nat} {lo hi st : Option Expr} {p : Pos} {me : ME} (h : cE n c sc (.Slice lo hi st p) = some me) : False := by
  cases n with
  | zero => unfold cE at h; cases h
  | succ n => unfold cE at h; cases h
theorem noSet {n : Nat} {es : List Expr} {k : Nat} {p : Pos} {me : ME} (h : cE n c sc (.Set es k p) = some me) : False := by
  cases n with
  | zero => unfold cE at h; cases h
  | succ n => unfold cE at h; cases h
theorem noStar {n : Nat} {e : Expr} {p : Pos} {me : ME} (h : cE n c sc (.Starred e p) = some me) : False := by
  cases n with
  | zero => unfold cE at h; cases h
  | succ n => unfold cE at h; cases h
theorem star_of {n : Nat} {e : Expr} {me : ME} (h : cE n c sc e = some me) : notStar e = true := by
  cases e <;> first | rfl | exact (noStar h).elim
theorem marks {n : Nat} {op : CmpOp} {e : Expr} {me : ME} (h : cE n c sc e = some me) : behindInMarks op e = false := by
  cases e <;> first | rfl | exact (noSet h).elim
theorem plainIx_of {n : Nat} {e : Expr} {me : ME} (h : cE n c sc e = some me) : PlainIx e := by
  cases e <;> first | (exact fun _ _ => rfl) | exact (noSlice h).elim
theorem fold_of {n : Nat} {e : Expr} {me : ME} (h : cE n c sc e = some me) : ∀ env x, foldedSetIterable e env x = pure x := by
  cases e <;> first | (exact fun _ _ => rfl) | exact (noSet h).elim
theorem c_zero : COk c fs frf d 0 :=
  ⟨fun _ h => (by unfold cE at h; cases h), fun _ h => (by unfold cEs at h; cases h), fun _ h => (by unfold cO at h; cases h), fun _ h => (by unfold cC at h; cases h), fun _ h => (by unfold cS at h; cases h), fun _ h => (by unfold cD at h; cases h)⟩
theorem c_es {n : Nat} (ih : COk c fs frf d n) {X : Cx} {sc : Scope} {es : List Expr} {me : ME} (T : XOk c fs frf d sc X) (h : cEs (n + 1) c sc es = some me) : PA X es (tMs X.K (evs (callD fs d) me)) ∧ es.all notStar = true ∧ ∀ σ M ds M', evs (callD fs d) me σ M = some (ds, M') → ds.length = es.length := by
  cases es with
  | nil =>
    unfold cEs at h
    cases h
    refine ⟨a_nil, rfl, fun σ M ds M' h => ?_⟩
    unfold evs at h
    cases h
    rfl
  | cons e es =>
    unfold cEs at h
    obtain ⟨n1, h⟩ := iff_bool h
    obtain ⟨e', h1, h⟩ := bindE h
    obtain ⟨es', h2, h⟩ := mapE h
    subst h
    obtain ⟨q1, _, _⟩ := ih.1 T h1
    obtain ⟨q2, q3, q4⟩ := ih.2.1 T h2
    refine ⟨a_cons (star_one n1) (pe_weak q1) q2, by show (notStar e && es.all notStar) = true; rw [n1, q3]; rfl, fun σ M ds M' h => ?_⟩
    unfold evs at h
    obtain ⟨x, _, h⟩ := bindE h
    obtain ⟨y, hy, h⟩ := mapE h
    cases h
    exact congrArg (· + 1) (q4 _ _ _ _ hy)
theorem c_o {n : Nat} (ih : COk c fs frf d n) {X : Cx} {sc : Scope} {o : Option Expr} {me : ME} (T : XOk c fs frf d sc X) (h : cO (n + 1) c sc o = some me) : PO X o (tMo X.K (evs (callD fs d) me)) := by
  cases o with
  | none =>
    unfold cO at h
    cases h
    exact o_none
  | some e =>
    unfold cO at h
    obtain ⟨e', h1, h⟩ := mapE h
    subst h
    exact o_some (pe_weak (ih.1 T h1).1)
theorem c_c {n : Nat} (ih : COk c fs frf d n) {X : Cx} {sc : Scope} {es : List Expr} {me : ME} (T : XOk c fs frf d sc X) (h : cC (n + 1) c sc es = some me) : PTs X es (tMt X.K (evt (callD fs d) me)) := by
  cases es with
  | nil =>
    unfold cC at h
    cases h
    refine ⟨fun pins s σ H Q I ⟨G, F, r, σD, M, b, M', hR, hS, he, hQ⟩ => pts_nil.run pins s σ H Q I ?_⟩
    cases he
    exact hQ F r H Ext.refl hR
  | cons e es =>
    cases es with
    | nil =>
      unfold cC at h
      exact pts_one (ih.1 T h).2.1
    | cons e2 es =>
      unfold cC at h
      cases h
theorem c_s {n : Nat} (ih : COk c fs frf d n) {X : Cx} {sc : Scope} {tg e : Expr} {me : ME} (T : XOk c fs frf d sc X) (h : cS (n + 1) c sc tg e = some me) : PI X tg e (tI X.K (evS (callD fs d) me)) ∧ ∀ env x, foldedSetIterable e env x = pure x := by
  have any : ∀ {me}, ((cE n c sc e).map ME.sSeq) = some me → PI X tg e (tI X.K (evS (callD fs d) me)) ∧ ∀ env x, foldedSetIterable e env x = pure x := fun h => by
    obtain ⟨e', h1, h⟩ := mapE h
    subst h
    exact ⟨i_seq (pe_weak (ih.1 T h1).1), fold_of h1⟩
  unfold cS at h
  split at h
  · split at h
    · rename_i hc
      obtain ⟨hc, hn⟩ := ba hc
      obtain ⟨hc, hnc⟩ := ba hc
      obtain ⟨hp, hg⟩ := ba hc
      obtain ⟨n1, h⟩ := iff_bool h
      obtain ⟨a', h1, h⟩ := mapE h
      subst h
      exact ⟨i_rng1 hn (gl_of T.sc hg) (T.oth _ (by rw [hn]; rfl)) n1 (pe_weak (ih.1 T h1).1), fun _ _ => rfl⟩
    · split at h
      · rename_i hc
        obtain ⟨hc, hn⟩ := ba hc
        obtain ⟨hc, hnc⟩ := ba hc
        obtain ⟨hp, hg⟩ := ba hc
        split at h
        · obtain ⟨n1, h⟩ := iff_bool h
          obtain ⟨a', h1, h⟩ := mapE h
          subst h
          exact ⟨i_enum hn (gl_of T.sc hg) (T.oth _ (by rw [hn]; simp)) n1 (pe_weak (ih.1 T h1).1), fun _ _ => rfl⟩
        · cases h
      · exact any h
  · split at h
    · rename_i hc
      obtain ⟨hc, hn⟩ := ba hc
      obtain ⟨hc, hnc⟩ := ba hc
      obtain ⟨hp, hg⟩ := ba hc
      obtain ⟨n12, h⟩ := iff_bool h
      obtain ⟨n1, n2⟩ := ba n12
      obtain ⟨a', h1, h⟩ := bindE h
      obtain ⟨b', h2, h⟩ := mapE h
      subst h
      exact ⟨i_rng2 hn (gl_of T.sc hg) (T.oth _ (by rw [hn]; rfl)) n1 n2 (pe_weak (ih.1 T h1).1) (pe_weak (ih.1 T h2).1), fun _ _ => rfl⟩
    · split at h
      · rename_i hc
        obtain ⟨hc, hn⟩ := ba hc
        obtain ⟨hc, hnc⟩ := ba hc
        obtain ⟨hp, hg⟩ := ba hc
        split at h
        · obtain ⟨n12, h⟩ := iff_bool h
          obtain ⟨n1, n2⟩ := ba n12
          obtain ⟨a', h1, h⟩ := bindE h
          obtain ⟨b', h2, h⟩ := mapE h
          subst h
          exact ⟨i_zip hn (gl_of T.sc hg) (T.oth _ (by rw [hn]; simp)) n1 n2 (pe_weak (ih.1 T h1).1) (pe_weak (ih.1 T h2).1), fun _ _ => rfl⟩
        · cases h
      · exact any h
  · split at h
    · rename_i hc
      obtain ⟨hc, hn⟩ := ba hc
      obtain ⟨hc, hnc⟩ := ba hc
      obtain ⟨hp, hg⟩ := ba hc
      obtain ⟨n12, h⟩ := iff_bool h
      obtain ⟨n1, n2⟩ := ba n12
      obtain ⟨a', h1, h⟩ := bindE h
      obtain ⟨b', h2, h⟩ := mapE h
      subst h
      exact ⟨i_down hn (gl_of T.sc hg) (T.oth _ (by rw [hn]; rfl)) n1 n2 (pe_weak (ih.1 T h1).1) (pe_weak (ih.1 T h2).1), fun _ _ => rfl⟩
    · cases h
  · exact any h
theorem c_e {n : Nat} (ih : COk c fs frf d n) {X : Cx} {sc : Scope} {e : Expr} {me : ME} (T : XOk c fs frf d sc X) (h : cE (n + 1) c sc e = some me) : Tri X fs frf d e me := by
  have E : ∀ {e me}, cE n c sc e = some me → PE X e (tM X.K false (ev (callD fs d) me)) := fun h => pe_weak (ih.1 T h).1
  unfold cE at h
  split at h
  · cases h
    exact tri (s_cst pe_int fun _ _ _ _ => rfl) (fun _ => rfl) (fun _ _ _ z => nomatch z)
  · cases h
    exact tri (s_cst pe_bl fun _ _ _ _ => rfl) (fun _ => rfl) (fun _ _ _ z => nomatch z)
  · cases h
    exact tri (s_cst pe_non fun _ _ _ _ => rfl) (fun _ => rfl) (fun _ _ _ z => nomatch z)
  · cases h
    exact tri (s_cst pe_str fun _ _ _ _ => rfl) (fun _ => rfl) (fun _ _ _ z => nomatch z)
  · rename_i x _
    obtain ⟨hp, h⟩ := iff_bool h
    obtain ⟨p1, p2⟩ := plain_of hp
    split at h
    · rename_i hv
      obtain ⟨i, h1, h⟩ := mapE h
      subst h
      exact tri (s_var (by rw [T.N]; exact ix_get h1) (by rw [T.sc]; exact vis_of hv) p1 p2) (fun _ => rfl) (fun _ _ _ z => nomatch z)
    · obtain ⟨hg, h⟩ := iff_bool h
      obtain ⟨dd, h1, h⟩ := mapE h
      subst h
      obtain ⟨v, u, hm, r, hr⟩ := T.con _ _ h1
      exact tri (s_cst (pe_glob (gl_of T.sc hg) hm r p1) hr) (fun _ => rfl) (fun _ _ _ z => nomatch z)
  · obtain ⟨a', h1, h⟩ := bindE h
    obtain ⟨b', h2, h⟩ := mapE h
    subst h
    exact tri (pe_up (s_bin (E h1) (E h2))) (fun _ => rfl) (fun _ _ _ z => nomatch z)
  · obtain ⟨a', h1, h⟩ := mapE h
    subst h
    exact tri (s_neg (E h1)) (fun _ => rfl) (fun _ _ _ z => nomatch z)
  · obtain ⟨a', h1, h⟩ := mapE h
    subst h
    exact ⟨s_not (E h1), t_not (ih.1 T h1).2.1, fun _ _ _ z => nomatch z⟩
  · rename_i op a _
    obtain ⟨q1, q2, _⟩ := ih.1 T h
    have w : PW X (.BoolOp op [a] ‹_›) (tMt X.K (evt (callD fs d) me)) := by
      cases op with
      | And => exact pw_and1 q2
      | Or => exact pw_or1 q2
    exact ⟨pe_one q1, w.pt, fun _ _ _ _ => w⟩
  · obtain ⟨a', h1, h⟩ := bindE h
    obtain ⟨b', h2, h⟩ := mapE h
    subst h
    have w := w_and (ih.1 T h1).2.1 ((ih.1 T h2).2.2 _ _ _ rfl)
    exact ⟨s_and (E h1) (E h2), w.pt, fun _ _ _ _ => w⟩
  · obtain ⟨a', h1, h⟩ := bindE h
    obtain ⟨b', h2, h⟩ := mapE h
    subst h
    have w := w_or (ih.1 T h1).2.1 ((ih.1 T h2).2.2 _ _ _ rfl)
    exact ⟨s_or (E h1) (E h2), w.pt, fun _ _ _ _ => w⟩
  · obtain ⟨t', h0, h⟩ := bindE h
    obtain ⟨a', h1, h⟩ := bindE h
    obtain ⟨b', h2, h⟩ := mapE h
    subst h
    exact ⟨s_ite (ih.1 T h0).2.1 (E h1) (E h2), t_ite (ih.1 T h0).2.1 (ih.1 T h1).2.1 (ih.1 T h2).2.1, fun _ _ _ z => nomatch z⟩
  · obtain ⟨a', h1, h⟩ := bindE h
    obtain ⟨b', h2, h⟩ := mapE h
    subst h
    exact ⟨s_cmp T.un (marks h2) (E h1) (E h2), t_cmp T.un (marks h2) (E h1) (E h2), fun _ _ _ z => nomatch z⟩
  · obtain ⟨a', h1, h⟩ := bindE h
    obtain ⟨b', h2, h⟩ := bindE h
    obtain ⟨d', h3, h⟩ := mapE h
    subst h
    exact ⟨s_chain T.un (marks h3) (E h1) (E h2) (E h3), t_chain T.un (marks h3) (E h1) (E h2) (E h3), fun _ _ _ z => nomatch z⟩
  · split at h
    · rename_i hl
      obtain ⟨a', h1, h⟩ := mapE h
      subst h
      obtain ⟨q1, q2, q3⟩ := ih.2.1 T h1
      exact tri (s_tup (fun σ M ds M' z => by rw [q3 σ M ds M' z]; exact Nat.le_trans hl (by decide)) q1) (fun _ => rfl) (fun _ _ _ z => nomatch z)
    · cases h
  · split at h
    · rename_i hl
      obtain ⟨a', h1, h⟩ := mapE h
      subst h
      obtain ⟨q1, q2, q3⟩ := ih.2.1 T h1
      exact tri (s_lst (fun σ M ds M' z => by rw [q3 σ M ds M' z]; exact Nat.le_trans hl (by decide)) q1) (fun _ => rfl) (fun _ _ _ z => nomatch z)
    · cases h
  · obtain ⟨a', h1, h⟩ := bindE h
    obtain ⟨l, h2, h⟩ := bindE h
    obtain ⟨r, h3, h⟩ := mapE h
    subst h
    exact tri (s_slice (E h1) (ih.2.2.1 T h2) (ih.2.2.1 T h3)) (fun _ => rfl) (fun _ _ _ z => nomatch z)
  · obtain ⟨a', h1, h⟩ := mapE h
    subst h
    exact tri (s_rev (E h1)) (fun _ => rfl) (fun _ _ _ z => nomatch z)
  · obtain ⟨a', h1, h⟩ := bindE h
    obtain ⟨b', h2, h⟩ := mapE h
    subst h
    exact tri (s_idx (by have := T.un; omega) (plainIx_of h2) (E h1) (E h2)) (fun _ => rfl) (fun _ _ _ z => nomatch z)
  · obtain ⟨hp, h⟩ := iff_bool h
    obtain ⟨hp, hg⟩ := ba hp
    split at h
    · rename_i hx
      split at h
      · obtain ⟨hc, h⟩ := iff_bool h
        have hgt := (ba (ba (ba hc).1).1).2
        obtain ⟨a', h1, h⟩ := bindE h
        obtain ⟨t', h2, h⟩ := mapE h
        subst h
        exact tri (s_isi hx (gl_of T.sc hg) (T.oth _ (by rw [hx]; simp)) (gl_of T.sc hgt) (T.ty _ (by rw [h2]; rfl)) h2 (star_of h1) (E h1)) (fun _ => rfl) (fun _ _ _ z => nomatch z)
      · cases h
    · split at h
      · rename_i i hi
        obtain ⟨es', h1, h⟩ := mapE h
        subst h
        obtain ⟨q1, q2, q3⟩ := ih.2.1 T h1
        obtain ⟨fa, fd, ps, f1, f2, f3, f4⟩ := T.fn _ _ (ix_get hi)
        exact tri (s_call f4 T.room (gl_of T.sc hg) f1 f2 f3 (plain_of hp).1 q2 q1) (fun _ => rfl) (fun _ _ _ z => nomatch z)
      · split at h
        · rename_i b hs
          obtain ⟨b', h1, h⟩ := mapE h
          subst h
          obtain ⟨g, p2, q, rfl, rfl, z1, z2, z3, z4⟩ := set_of hs
          exact tri (pe_up (s_sset z1 z2 T.calm (gl_of T.sc hg) (T.blt _ (by rw [eq_of_beq z1]; decide +kernel)) (gl_of T.sc z3) (T.oth _ (by rw [z2]; simp)) z4 (E h1))) (fun _ => rfl) (fun _ _ _ z => nomatch z)
        · split at h
          · rename_i b hs
            obtain ⟨b', h1, h⟩ := mapE h
            subst h
            obtain ⟨g, p2, q, rfl, rfl, z1, z2, z3, z4⟩ := rg_of hs
            exact tri (pe_up (s_range z1 z2 T.calm (gl_of T.sc hg) (T.blt _ (by
              rcases Bool.or_eq_true_iff.mp z1 with z | z
              · rw [eq_of_beq z]; decide +kernel
              · rw [eq_of_beq z]; decide +kernel)) (gl_of T.sc z3) (T.oth _ (by rw [z2]; simp)) z4 (E h1))) (fun _ => rfl) (fun _ _ _ z => nomatch z)
          · obtain ⟨b, h0, h⟩ := bindE h
            obtain ⟨es', h1, h⟩ := mapE h
            subst h
            obtain ⟨q1, q2, q3⟩ := ih.2.1 T h1
            exact tri (pe_up (s_blt T.calm (gl_of T.sc hg) (T.blt _ (by rw [h0]; rfl)) h0 q2 q1)) (fun _ => rfl) (fun _ _ _ z => nomatch z)
  · obtain ⟨hp, h⟩ := iff_bool h
    obtain ⟨hp, hg⟩ := ba hp
    obtain ⟨i, hi, h⟩ := mapE h
    subst h
    obtain ⟨fa, fd, ps, f1, f2, f3, f4⟩ := T.fn _ _ (ix_get hi)
    exact tri (s_call0 f4 T.room (gl_of T.sc hg) f1 f2 f3 (plain_of hp).1) (fun _ => rfl) (fun _ _ _ z => nomatch z)
  · obtain ⟨hc, h⟩ := iff_bool h
    obtain ⟨hc, hl⟩ := ba hc
    obtain ⟨hm, hr⟩ := ba hc
    obtain ⟨o', h1, h⟩ := mapE h
    subst h
    have em := eq_of_beq hm
    subst em
    exact tri (s_pop (recv_base hr) hl (E h1)) (fun _ => rfl) (fun _ _ _ z => nomatch z)
  · split at h
    · rename_i hc
      obtain ⟨hc, hl⟩ := ba hc
      obtain ⟨hm, hr⟩ := ba hc
      obtain ⟨o', h1, h⟩ := bindE h
      obtain ⟨a', h2, h⟩ := mapE h
      subst h
      have em := eq_of_beq hm
      subst em
      obtain ⟨q1, q2, q3⟩ := ih.2.1 T h2
      exact tri (s_append (recv_base hr) hl (ba q2).1 (E h1) q1) (fun _ => rfl) (fun _ _ _ z => nomatch z)
    · obtain ⟨hc, h⟩ := iff_bool h
      obtain ⟨hc, hl⟩ := ba hc
      obtain ⟨hm, hr⟩ := ba hc
      obtain ⟨o', h1, h⟩ := bindE h
      obtain ⟨a', h2, h⟩ := mapE h
      subst h
      have em := eq_of_beq hm
      subst em
      obtain ⟨q1, q2, q3⟩ := ih.2.1 T h2
      exact tri (s_popAt (recv_base hr) hl (ba q2).1 (E h1) q1) (fun _ => rfl) (fun _ _ _ z => nomatch z)
  · rename_i keys values pos
    split at h
    · rename_i h15
      obtain ⟨es, h1, h⟩ := mapE h
      subst h
      obtain ⟨trs, q1, q2, q3, q4⟩ := ih.2.2.2.2.2 (pos := pos) T h1
      by_cases h0 : keys = []
      · subst h0
        obtain ⟨z1, z2⟩ := cD_nil h1
        subst z1 z2
        exact tri s_dsp0 (fun _ => rfl) (fun _ _ _ z => nomatch z)
      · exact tri (s_dsp h0 q1 q2 q3 h15 q4) (fun _ => rfl) (fun _ _ _ z => nomatch z)
    · cases h
  · dsimp only at h
    obtain ⟨hb, h⟩ := iff_bool h
    obtain ⟨s', h1, h⟩ := bindE h
    obtain ⟨t', h2, h⟩ := bindE h
    obtain ⟨hsl, h⟩ := iff_bool h
    obtain ⟨cd, h3, h⟩ := bindE h
    obtain ⟨e', h4, h⟩ := mapE h
    subst h
    obtain ⟨i1, i2⟩ := ih.2.2.2.2.1 T h1
    exact tri (s_comp T.calm (by rw [T.N]; exact T.nd) (mem_slots hsl) i1 (by rw [T.N, T.sc]; exact blkOk_by hb) (fun s H C cl fp => (g_ok n).1 T.tgt h2) (fun s H C cl fp => ih.2.2.2.1 T.blk h3) (fun s H C cl fp => pe_weak (ih.1 T.blk h4).1) (i2 _)) (fun _ => rfl) (fun _ _ _ z => nomatch z)
  · cases h
theorem c_ok : ∀ n, COk c fs frf d n
  | 0 => c_zero
  | n + 1 => ⟨c_e (c_ok n), c_es (c_ok n), c_o (c_ok n), c_c (c_ok n), c_s (c_ok n), c_d (fun T h => pe_weak ((c_ok n).1 T h).1) (c_ok n).2.2.2.2.2⟩
end
end Mi
namespace Mi
open PySem PySem.Spec PyProof.Rows L2

/-! ### statements -/
/-- what is wanted behind a statement -/
def Post (K : PySem.W.Frag) (fr : Bool) (G F : FP) (r : Nat → Addr) (n : Nat) (H : Hp) (D : Ends) : Out → Prop
  | .nx σD' M' => ∀ σ' F' r' H', Ext G F r n H F' r' M'.length H' → RH K G F' r' M' H' → RS K F' r' M'.length H' σD' σ' → D.nx σ' H'
  | .bk σD' M' => ∀ σ' F' r' H', Ext G F r n H F' r' M'.length H' → RH K G F' r' M' H' → RS K F' r' M'.length H' σD' σ' → D.bk σ' H'
  | .ct σD' M' => ∀ σ' F' r' H', Ext G F r n H F' r' M'.length H' → RH K G F' r' M' H' → RS K F' r' M'.length H' σD' σ' → D.ct σ' H'
  | .rt d M' => Fin K fr G F r n H M' d D.rt
def tX (K : PySem.W.Frag) (fr : Bool) (f : Sl → Mem → Option Out) : TS := fun D σ H => ∃ (G F : FP) (r : Nat → Addr) (σD : Sl) (M : Mem) (o : Out), RH K G F r M H ∧ RS K F r M.length H σD σ ∧ f σD M = some o ∧ Post K fr G F r M.length H D o
theorem Post.ext {K : PySem.W.Frag} {fr : Bool} {G F F' : FP} {r r' : Nat → Addr} {n n' : Nat} {H H' : Hp} {D : Ends} {o : Out} (e : Ext G F r n H F' r' n' H') (h : Post K fr G F r n H D o) : Post K fr G F' r' n' H' D o := by
  cases o with
  | nx σD' M' => exact fun σ' F2 r2 H2 E2 => h σ' F2 r2 H2 (e.trans E2)
  | bk σD' M' => exact fun σ' F2 r2 H2 E2 => h σ' F2 r2 H2 (e.trans E2)
  | ct σD' M' => exact fun σ' F2 r2 H2 E2 => h σ' F2 r2 H2 (e.trans E2)
  | rt d M' => exact Fin.ext e h
theorem ps_conv {X : Cx} {st : Stmt} {t t' : TS} (h : PS X st t) (c : ∀ D σ H, t' D σ H → t D σ H) : PS X st t' := ⟨fun pins s σ H D I q => h.run pins s σ H D I (c D σ H q)⟩
theorem pss_conv {X : Cx} {st : List Stmt} {t t' : TS} (h : PSs X st t) (c : ∀ D σ H, t' D σ H → t D σ H) : PSs X st t' := ⟨fun pins s σ H D I q => h.run pins s σ H D I (c D σ H q)⟩
/-- returns of a new list alone -/
def retFr (frf : Nat → Bool) : MS → Bool
  | .seq a b => retFr frf a && retFr frf b
  | .ret e => freshE frf e
  | .iff _ a b => retFr frf a && retFr frf b
  | .whl _ b => retFr frf b
  | .forr _ _ b => retFr frf b
  | _ => true
section
variable {X : Cx} {cf : CF} {fr : Bool} {pos : Pos}
theorem x_skip {st : Stmt} (h : PS X st tNext) : PS X st (tX X.K fr (exec cf .skip)) := ps_conv h fun D σ H ⟨G, F, r, σD, M, o, hR, hS, he, hp⟩ => by
  unfold exec at he
  cases he
  exact hp σ F r H Ext.refl hR hS
theorem xs_nil : PSs X [] (tX X.K fr (exec cf .skip)) := pss_conv pss_nil fun D σ H ⟨G, F, r, σD, M, o, hR, hS, he, hp⟩ => by
  unfold exec at he
  cases he
  exact hp σ F r H Ext.refl hR hS
theorem xs_cons {st : Stmt} {rest : List Stmt} {a b : MS} (h1 : PS X st (tX X.K fr (exec cf a))) (h2 : PSs X rest (tX X.K fr (exec cf b))) : PSs X (st :: rest) (tX X.K fr (exec cf (.seq a b))) := pss_conv (pss_cons h1 h2) fun D σ H ⟨G, F, r, σD, M, o, hR, hS, he, hp⟩ => by
  unfold exec at he
  obtain ⟨o1, e1, he⟩ := bindE he
  refine ⟨G, F, r, σD, M, o1, hR, hS, e1, ?_⟩
  cases o1 with
  | nx σ1 M1 => exact fun σ' F' r' H' E' R' S' => ⟨G, F', r', σ1, M1, o, R', S', he, hp.ext E'⟩
  | bk σ1 M1 => cases he; exact hp
  | ct σ1 M1 => cases he; exact hp
  | rt d M1 => cases he; exact hp
theorem x_brk : PS X (.Break pos) (tX X.K fr (exec cf .brk)) := ps_conv ps_break fun D σ H ⟨G, F, r, σD, M, o, hR, hS, he, hp⟩ => by
  unfold exec at he
  cases he
  exact hp σ F r H Ext.refl hR hS
theorem x_cont : PS X (.Continue pos) (tX X.K fr (exec cf .cont)) := ps_conv ps_continue fun D σ H ⟨G, F, r, σD, M, o, hR, hS, he, hp⟩ => by
  unfold exec at he
  cases he
  exact hp σ F r H Ext.refl hR hS
theorem x_never {st : Stmt} : PS X st (tX X.K fr (exec cf .never)) := ps_conv ps_never fun D σ H ⟨G, F, r, σD, M, o, hR, hS, he, hp⟩ => by
  unfold exec at he
  cases he
theorem x_expr {e : Expr} {ea : ME} (he : PE X e (tM X.K false (ev cf ea))) (hs : swapsWith e none pos.line X.env = pure false) : PS X (.Expr e pos) (tX X.K fr (exec cf (.expr ea))) := ps_conv (ps_expr he hs) fun D σ H ⟨G, F, r, σD, M, o, hR, hS, he, hp⟩ => by
  unfold exec at he
  obtain ⟨x, e1, he⟩ := mapE he
  subst he
  exact ⟨G, F, r, σD, M, x.1, x.2, hR, hS, e1, fun v F1 r1 H1 E1 R1 _ => hp σ F1 r1 H1 E1 R1 (hS.ext E1)⟩
theorem x_ret {e : Expr} {ea : ME} (he : PE X e (tM X.K fr (ev cf ea))) : PS X (.Return (some e) pos) (tX X.K fr (exec cf (.ret ea))) := ps_conv (ps_ret he) fun D σ H ⟨G, F, r, σD, M, o, hR, hS, he, hp⟩ => by
  unfold exec at he
  obtain ⟨x, e1, he⟩ := mapE he
  subst he
  exact ⟨G, F, r, σD, M, x.1, x.2, hR, hS, e1, hp⟩
theorem x_if {c : Expr} {a b : List Stmt} {ec : ME} {ma mb : MS} (hc : PT X c (tMt X.K (evt cf ec))) (ha : PSs X a (tX X.K fr (exec cf ma))) (hb : PSs X b (tX X.K fr (exec cf mb))) : PS X (.If c a b pos) (tX X.K fr (exec cf (.iff ec ma mb))) := ps_conv (ps_if hc ha hb) fun D σ H ⟨G, F, r, σD, M, o, hR, hS, he, hp⟩ => by
  unfold exec at he
  obtain ⟨x, e1, he⟩ := bindE he
  obtain ⟨t, e2, he⟩ := bindE he
  refine ⟨G, F, r, σD, M, t, x.2, hR, hS, evt_split e1 e2, fun F1 r1 H1 E1 R1 => ?_⟩
  cases t with
  | true =>
    rw [if_pos rfl] at he ⊢
    exact ⟨G, F1, r1, σD, x.2, o, R1, hS.ext E1, he, hp.ext E1⟩
  | false =>
    rw [if_neg (by decide)] at he ⊢
    exact ⟨G, F1, r1, σD, x.2, o, R1, hS.ext E1, he, hp.ext E1⟩
theorem x_asg {st : Stmt} {ea : ME} {t : MT} (h : PS X st (tAsg (tM X.K false (ev cf ea)) (tG X.K t))) : PS X st (tX X.K fr (exec cf (.asg t ea))) := ps_conv h fun D σ H ⟨G, F, r, σD, M, o, hR, hS, he, hp⟩ => by
  unfold exec at he
  obtain ⟨x, e1, he⟩ := bindE he
  obtain ⟨σ', e2, he⟩ := mapE he
  subst he
  exact ⟨G, F, r, σD, M, x.1, x.2, hR, hS, e1, fun v F1 r1 H1 E1 R1 x1 => ⟨G, F1, r1, σD, x.2, x.1, σ', R1, hS.ext E1, x1.rep, e2, fun σ2 S2 _ _ => hp σ2 F1 r1 H1 E1 R1 S2⟩⟩
/-- a new list, a new dict becomes an object -/
theorem box_ok {K : PySem.W.Frag} {G F : FP} {r : Nat → Addr} {M M' : Mem} {H : Hp} {v : V} {d d' : D} (hR : RH K G F r M H) (hx : RX K true G F r M.length H v d) (he : boxD true d M = some (d', M')) :
    ∃ r', Ext G F r M.length H F r' M'.length H ∧ RH K G F r' M' H ∧ Rep K F r' M'.length H v d' ∧ ((∃ xs, d = .lst xs) ∨ ∃ ks xs, d = .dct ks xs) ∧ ∀ i, i < M'.length → M.length ≤ i → v = .ref (r' i) := by
  have go : ∀ (p : Addr) (u : HO) (o : MO), v = .ref p → H p = some u → OR K F r M.length H u o → ¬ F p → (∀ i, i < M.length → r i ≠ p) → ¬ G p → ∃ r', Ext G F r M.length H F r' (M ++ [o]).length H ∧ RH K G F r' (M ++ [o]) H ∧ Rep K F r' (M ++ [o]).length H v (.ref M.length) ∧ ∀ i, i < (M ++ [o]).length → M.length ≤ i → v = .ref (r' i) := by
    intro p u o hv hp hr hF hn hg
    have top : V.ref p = V.ref (rBox r M.length p M.length) := by
      show V.ref p = V.ref (if M.length = M.length then p else _)
      rw [if_pos rfl]
    refine ⟨rBox r M.length p, by rw [List.length_append]; exact Ext.box hR, hR.box hp hF hn hg hr, ⟨by rw [List.length_append]; exact Nat.lt_succ_self _, hv.trans top⟩, fun i h1 h2 => ?_⟩
    rw [List.length_append, List.length_singleton] at h1
    have : i = M.length := by omega
    rw [this]
    exact hv.trans top
  unfold boxD at he
  rw [if_pos rfl] at he
  cases d <;> first | (cases he; done) | skip
  · cases he
    obtain ⟨p, vs, hv, hp, hr, hF, hn, hg⟩ := hx
    obtain ⟨r', q1, q2, q3, q4⟩ := go p _ (.lst _) hv hp ⟨_, rfl, hr⟩ hF hn hg
    exact ⟨r', q1, q2, q3, .inl ⟨_, rfl⟩, q4⟩
  · cases he
    obtain ⟨p, kvs, hv, hp, hk, hr, hF, hn, hg⟩ := hx
    obtain ⟨r', q1, q2, q3, q4⟩ := go p _ (.dct _ _) hv hp ⟨_, rfl, hk, hr⟩ hF hn hg
    exact ⟨r', q1, q2, q3, .inr ⟨_, _, rfl⟩, q4⟩
theorem box_any {K : PySem.W.Frag} {b : Bool} {G F : FP} {r : Nat → Addr} {M M' : Mem} {H : Hp} {v : V} {d d' : D} (hR : RH K G F r M H) (hx : RX K b G F r M.length H v d) (he : boxD b d M = some (d', M')) :
    ∃ r', Ext G F r M.length H F r' M'.length H ∧ RH K G F r' M' H ∧ Rep K F r' M'.length H v d' ∧ ∀ i, i < M'.length → M.length ≤ i → b = true ∧ v = .ref (r' i) ∧ ((∃ xs, d = .lst xs) ∨ ∃ ks xs, d = .dct ks xs) := by
  cases b with
  | true =>
    obtain ⟨r', h1, h2, h3, h4, h5⟩ := box_ok hR hx he
    exact ⟨r', h1, h2, h3, fun i a b => ⟨rfl, h5 i a b, h4⟩⟩
  | false =>
    unfold boxD at he
    rw [if_neg (by decide)] at he
    cases he
    exact ⟨r, Ext.refl, hR, hx.rep, fun i a b => absurd a (Nat.not_lt.mpr b)⟩
theorem x_box {st : Stmt} {i : Nat} {ea : ME} (h : PS X st (tAsg (tM X.K true (ev cf ea)) (gName i))) : PS X st (tX X.K fr (exec cf (.box i ea))) := ps_conv h fun D σ H ⟨G, F, r, σD, M, o, hR, hS, he, hp⟩ => by
  unfold exec at he
  obtain ⟨x, e1, he⟩ := bindE he
  obtain ⟨y, e2, he⟩ := mapE he
  subst he
  refine ⟨G, F, r, σD, M, x.1, x.2, hR, hS, e1, fun v F1 r1 H1 E1 R1 x1 => ?_⟩
  obtain ⟨r2, E2, R2, x2, _⟩ := box_ok R1 x1 e2
  exact hp _ F1 r2 H1 (E1.trans E2) R2 ((hS.ext (E1.trans E2)).set i x2)
/-- held while others are reckoned -/
theorem RX.hold {K : PySem.W.Frag} {b : Bool} {G F : FP} {r : Nat → Addr} {M : Mem} {H : Hp} {v : V} {d : D} (hR : RH K G F r M H) (hx : RX K b G F r M.length H v d) :
    ∃ G' : FP, (∀ p, G p → G' p) ∧ (b = true → ∀ p, v = .ref p → ((∃ xs, d = .lst xs) ∨ ∃ ks xs, d = .dct ks xs) → G' p) ∧ RH K G' F r M H ∧ ∀ F2 r2 M2 H2, Ext G' F r M.length H F2 r2 (List.length M2) H2 → RH K G' F2 r2 M2 H2 → RX K b G F2 r2 (List.length M2) H2 v d := by
  have plain : Rep K F r M.length H v d → (b = false ∨ ¬ ((∃ xs, d = .lst xs) ∨ ∃ ks xs, d = .dct ks xs)) → ∃ G' : FP, (∀ p, G p → G' p) ∧ (b = true → ∀ p, v = .ref p → ((∃ xs, d = .lst xs) ∨ ∃ ks xs, d = .dct ks xs) → G' p) ∧ RH K G' F r M H ∧ ∀ F2 r2 M2 H2, Ext G' F r M.length H F2 r2 (List.length M2) H2 → RH K G' F2 r2 M2 H2 → RX K b G F2 r2 (List.length M2) H2 v d := fun q hb => by
    refine ⟨G, fun _ z => z, fun h p _ z => ?_, hR, fun F2 r2 M2 H2 E R => ?_⟩
    · rcases hb with hb | hb
      · rw [hb] at h; cases h
      · exact (hb z).elim
    have q2 := q.ext E
    rcases hb with hb | hb
    · subst hb
      cases d <;> exact q2
    · cases d <;> first | (exact (hb (.inl ⟨_, rfl⟩)).elim) | (exact (hb (.inr ⟨_, _, rfl⟩)).elim) | (cases b <;> exact q2)
  cases b with
  | false => exact plain hx.rep (.inl rfl)
  | true =>
    cases d with
    | lst xs =>
      obtain ⟨p, vs, hv, hp, hr, hF, hn, hg⟩ := hx
      refine ⟨FP.one G p, fun _ => .inl, fun _ q e _ => .inr (by rw [hv] at e; cases e; rfl), hR.addG hp hF hn, fun F2 r2 M2 H2 E R => ⟨p, vs, hv, (E.kG p (.inr rfl)).trans hp, hr.ext E, R.gF p (.inr rfl), fun i hi z => R.gr i hi (.inr z), hg⟩⟩
    | dct ks xs =>
      obtain ⟨p, kvs, hv, hp, hk, hr, hF, hn, hg⟩ := hx
      refine ⟨FP.one G p, fun _ => .inl, fun _ q e _ => .inr (by rw [hv] at e; cases e; rfl), hR.addG hp hF hn, fun F2 r2 M2 H2 E R => ⟨p, kvs, hv, (E.kG p (.inr rfl)).trans hp, hk, hr.ext E, R.gF p (.inr rfl), fun i hi z => R.gr i hi (.inr z), hg⟩⟩
    | _ => exact plain hx (.inr fun z => z.elim (fun ⟨_, z⟩ => nomatch z) fun ⟨_, _, z⟩ => nomatch z)
theorem RH.lessG {K : PySem.W.Frag} {G G' F : FP} {r : Nat → Addr} {M : Mem} {H : Hp} (g : ∀ p, G p → G' p) (h : RH K G' F r M H) : RH K G F r M H := ⟨h.obj, h.inj, h.nf, h.dom, fun q z => h.gd q (g q z), fun q z => h.gF q (g q z), fun i hi z => h.gr i hi (g _ z)⟩
theorem Ext.lessG {G G' F F' : FP} {r r' : Nat → Addr} {n n' : Nat} {H H' : Hp} (g : ∀ p, G p → G' p) (e : Ext G' F r n H F' r' n' H') : Ext G F r n H F' r' n' H' := ⟨e.hF, e.hr, e.hn, e.kF, e.kT, fun q z => e.kG q (g q z)⟩
theorem RX.lessG {K : PySem.W.Frag} {b : Bool} {G G' F : FP} {r : Nat → Addr} {n : Nat} {H : Hp} {v : V} {d : D} (g : ∀ p, G p → G' p) (h : RX K b G' F r n H v d) : RX K b G F r n H v d := by
  cases b with
  | false => exact h
  | true =>
    cases d with
    | lst xs =>
      obtain ⟨p, vs, h1, h2, h3, h4, h5, h6⟩ := h
      exact ⟨p, vs, h1, h2, h3, h4, h5, fun z => h6 (g p z)⟩
    | dct ks xs =>
      obtain ⟨p, kvs, h1, h2, hk, h3, h4, h5, h6⟩ := h
      exact ⟨p, kvs, h1, h2, hk, h3, h4, h5, fun z => h6 (g p z)⟩
    | _ => exact h
theorem RX.grow {K : PySem.W.Frag} {b : Bool} {G G' F : FP} {r r' : Nat → Addr} {n n' : Nat} {H : Hp} {v : V} {d : D} (E : Ext G F r n H F r' n' H) (hn : ∀ i, i < n' → n ≤ i → G' (r' i)) (h : RX K b G' F r n H v d) : RX K b G' F r' n' H v d := by
  cases b with
  | false => cases d <;> exact h.rep.ext E
  | true =>
    cases d with
    | lst xs =>
      obtain ⟨p, vs, h1, h2, h3, h4, h5, h6⟩ := h
      refine ⟨p, vs, h1, h2, h3.ext E, h4, fun i hi z => ?_, h6⟩
      by_cases c : i < n
      · rw [E.hr i c] at z
        exact h5 i c z
      · exact h6 (z ▸ hn i hi (Nat.le_of_not_lt c))
    | dct ks xs =>
      obtain ⟨p, kvs, h1, h2, hk, h3, h4, h5, h6⟩ := h
      refine ⟨p, kvs, h1, h2, hk, h3.ext E, h4, fun i hi z => ?_, h6⟩
      by_cases c : i < n
      · rw [E.hr i c] at z
        exact h5 i c z
      · exact h6 (z ▸ hn i hi (Nat.le_of_not_lt c))
    | _ => exact Rep.ext E _ _ h
/-- several values, each boxed or not, the new ones apart -/
def RXs (K : PySem.W.Frag) (F : FP) (r : Nat → Addr) (n : Nat) (H : Hp) : FP → List Bool → List V → List D → Prop
  | _, [], [], [] => True
  | G, b :: bs, v :: vs, d :: ds => RX K b G F r n H v d ∧ ∃ G' : FP, (∀ p, G p → G' p) ∧ (b = true → ∀ p, v = .ref p → ((∃ xs, d = .lst xs) ∨ ∃ ks xs, d = .dct ks xs) → G' p) ∧ RXs K F r n H G' bs vs ds
  | _, _, _, _ => False
theorem RXs.lessG {K : PySem.W.Frag} {F : FP} {r : Nat → Addr} {n : Nat} {H : Hp} {G G' : FP} (g : ∀ p, G p → G' p) : ∀ {bs : List Bool} {vs : List V} {ds : List D}, RXs K F r n H G' bs vs ds → RXs K F r n H G bs vs ds
  | [], [], [], h => h
  | b :: bs, v :: vs, d :: ds, ⟨h1, G2, h2, h3, h4⟩ => ⟨h1.lessG g, G2, fun p z => h2 p (g p z), h3, h4⟩
  | [], [], _ :: _, h => h.elim
  | [], _ :: _, _, h => h.elim
  | _ :: _, [], _, h => h.elim
  | _ :: _, _ :: _, [], h => h.elim
theorem RXs.grow {K : PySem.W.Frag} {F : FP} {r r' : Nat → Addr} {n n' : Nat} {H : Hp} {G0 : FP} (E : Ext G0 F r n H F r' n' H) : ∀ {bs : List Bool} {G : FP} {vs : List V} {ds : List D}, (∀ i, i < n' → n ≤ i → G (r' i)) → RXs K F r n H G bs vs ds → RXs K F r' n' H G bs vs ds
  | [], _, [], [], _, h => h
  | b :: bs, G, v :: vs, d :: ds, hn, ⟨h1, G2, h2, h3, h4⟩ => ⟨h1.grow E hn, G2, h2, h3, RXs.grow E (fun i a c => h2 _ (hn i a c)) h4⟩
  | [], _, [], _ :: _, _, h => h.elim
  | [], _, _ :: _, _, _, h => h.elim
  | _ :: _, _, [], _, _, h => h.elim
  | _ :: _, _, _ :: _, [], _, h => h.elim
theorem boxs_ok {K : PySem.W.Frag} {F : FP} {H : Hp} {G : FP} : ∀ {bs : List Bool} {vs : List V} {ds ds' : List D} {r : Nat → Addr} {M M' : Mem}, RH K G F r M H → RXs K F r M.length H G bs vs ds → boxs bs ds M = some (ds', M') →
    ∃ r', Ext G F r M.length H F r' M'.length H ∧ RH K G F r' M' H ∧ Reps K F r' M'.length H vs ds'
  | [], [], [], _, r, M, _, hR, _, e => by
    unfold boxs at e
    cases e
    exact ⟨r, Ext.refl, hR, trivial⟩
  | b :: bs, v :: vs, d :: ds, ds', r, M, M', hR, ⟨h1, G2, h2, h3, h4⟩, e => by
    unfold boxs at e
    obtain ⟨x, e1, e⟩ := bindE e
    obtain ⟨y, e2, e⟩ := mapE e
    cases e
    obtain ⟨r3, E3, R3, x3, n3⟩ := box_any hR h1 e1
    have h5 := RXs.grow E3 (fun k a c => (n3 k a c).elim fun p q => h3 p _ q.1 q.2) h4
    obtain ⟨r4, E4, R4, y4⟩ := boxs_ok R3 (h5.lessG h2) e2
    exact ⟨r4, E3.trans E4, R4, x3.ext E4, y4⟩
  | [], [], _ :: _, _, _, _, _, _, h, _ => h.elim
  | [], _ :: _, _, _, _, _, _, _, h, _ => h.elim
  | _ :: _, [], _, _, _, _, _, _, h, _ => h.elim
  | _ :: _, _ :: _, [], _, _, _, _, _, h, _ => h.elim
theorem RXs.len {K : PySem.W.Frag} {F : FP} {r : Nat → Addr} {n : Nat} {H : Hp} : ∀ {bs : List Bool} {G : FP} {vs : List V} {ds : List D}, RXs K F r n H G bs vs ds → vs.length = ds.length
  | [], _, [], [], h => rfl
  | b :: bs, G, v :: vs, d :: ds, ⟨h1, G2, h2, h3, h4⟩ => congrArg (· + 1) (RXs.len h4)
  | [], _, [], _ :: _, h => h.elim
  | [], _, _ :: _, _, h => h.elim
  | _ :: _, _, [], _, h => h.elim
  | _ :: _, _, _ :: _, [], h => h.elim
def tMf (K : PySem.W.Frag) (bs : List Bool) (f : Sl → Mem → Option (List D × Mem)) : TA := fun σ H Q => ∃ (G F : FP) (r : Nat → Addr) (σD : Sl) (M : Mem) (ds : List D) (M' : Mem), RH K G F r M H ∧ RS K F r M.length H σD σ ∧ f σD M = some (ds, M') ∧
  ∀ vs F' r' H', Ext G F r M.length H F' r' M'.length H' → RH K G F' r' M' H' → RXs K F' r' M'.length H' G bs vs ds → Q vs H'
theorem f_nil : PA X [] (tMf X.K [] (evs cf .nil)) := ⟨fun pos pins s σ H Q I ⟨G, F, r, σD, M, ds, M', hR, hS, he, hQ⟩ => pa_nil.run pos pins s σ H Q I (by
  unfold evs at he
  cases he
  exact hQ [] F r H Ext.refl hR trivial)⟩
theorem f_cons {a : Expr} {es : List Expr} {b : Bool} {bs : List Bool} {ea eb : ME} (hs : starEach (a :: es) X.env = (false, eval a X.env) :: starEach es X.env) (ha : PE X a (tM X.K b (ev cf ea))) (hb : PA X es (tMf X.K bs (evs cf eb))) : PA X (a :: es) (tMf X.K (b :: bs) (evs cf (.cons ea eb))) :=
  ⟨fun pos pins s σ H Q I ⟨G, F, r, σD, M, ds, M', hR, hS, he, hQ⟩ => (pa_cons ha hb hs).run pos pins s σ H Q I (by
    unfold evs at he
    obtain ⟨x, e1, he⟩ := bindE he
    obtain ⟨y, e2, he⟩ := mapE he
    cases he
    refine ⟨G, F, r, σD, M, x.1, x.2, hR, hS, e1, fun v F1 r1 H1 E1 R1 x1 => ?_⟩
    obtain ⟨G1, g1, i1, R1', hold1⟩ := RX.hold R1 x1
    refine ⟨G1, F1, r1, σD, x.2, y.1, y.2, R1', hS.ext E1, e2, fun vs F2 r2 H2 E2 R2 y1 => ?_⟩
    exact hQ (v :: vs) F2 r2 H2 (E1.trans (E2.lessG g1)) (R2.lessG g1) ⟨hold1 F2 r2 y.2 H2 E2 R2, G1, g1, i1, y1⟩)⟩
def setV : L2.St → List Nat → List V → L2.St
  | σ, i :: is, v :: vs => setV (σ.set i (some v)) is vs
  | σ, _, _ => σ
theorem RS.setAll {K : PySem.W.Frag} {F : FP} {r : Nat → Addr} {n : Nat} {H : Hp} : ∀ {is : List Nat} {vs : List V} {ds : List D} {σD : Sl} {σ : L2.St}, RS K F r n H σD σ → Reps K F r n H vs ds → RS K F r n H (setAll σD is ds) (setV σ is vs)
  | [], vs, ds, σD, σ, h, hr => by
    cases vs <;> cases ds <;> first | exact h | exact hr.elim
  | i :: is, [], [], σD, σ, h, _ => h
  | i :: is, [], _ :: _, σD, σ, h, hr => hr.elim
  | i :: is, _ :: _, [], σD, σ, h, hr => hr.elim
  | i :: is, v :: vs, d :: ds, σD, σ, h, hr => show RS K F r n H (Mi.setAll (σD.set i (some d)) is ds) (setV (σ.set i (some v)) is vs) from RS.setAll (h.set i hr.1) hr.2
theorem x_parN {st : Stmt} {is : List Nat} {bs : List Bool} {es : ME} (h : PS X st (fun D σ H => tMf X.K bs (evs cf es) σ H fun vs H1 => vs.length = is.length ∧ vs.length ≤ sizeLine ∧ D.nx (setV σ is vs) H1 ∧ ∀ p ys, H1 p = none → D.nx (setV σ is vs) (upd H1 p (.tup ys)))) (hsz : is.length ≤ sizeLine) : PS X st (tX X.K fr (exec cf (.parN is bs es))) := ps_conv h fun D σ H ⟨G, F, r, σD, M, o, hR, hS, he, hp⟩ => by
  unfold exec at he
  obtain ⟨x, e1, he⟩ := bindE he
  obtain ⟨y, e2, he⟩ := bindE he
  split at he
  · rename_i hl
    cases he
    refine ⟨G, F, r, σD, M, x.1, x.2, hR, hS, e1, fun vs F1 r1 H1 E1 R1 x1 => ?_⟩
    obtain ⟨r2, E2, R2, y2⟩ := boxs_ok R1 x1 e2
    have hlen : vs.length = is.length := by rw [y2.len, hl]
    refine ⟨hlen, by rw [hlen]; exact hsz, hp _ F1 r2 H1 (E1.trans E2) R2 ((hS.ext (E1.trans E2)).setAll y2), fun p ys hp0 => ?_⟩
    have E3 : Ext G F1 r2 y.2.length H1 F1 r2 y.2.length (upd H1 p (.tup ys)) := Ext.new hp0 R2.dom R2.gd
    exact hp _ F1 r2 _ (E1.trans (E2.trans E3)) (R2.new hp0) (((hS.ext (E1.trans E2)).ext E3).setAll (y2.ext E3))
  · cases he
/-- o[i] = v of a list, of a dict -/
def rSetA : V → V → V → Hp → (Hp → Prop) → Prop := fun o i v H Q => rSetL o i v H Q ∨ ∃ a H', o = .ref a ∧ DPut H a i v H' ∧ Q H'
theorem set_any (hu : X.A.units + 1 < cLine) : PSet X rSetA := by
  intro pins s σ H o i v ov iv u Q I ro ri rv h
  rcases h with h | ⟨a, H', rfl, hp, q⟩
  · exact set_list pins s σ H o i v ov iv u Q I ro ri rv h
  · obtain rfl : ov = Value.ref a := ro
    exact d_setItem hu I hp ri rv fun s' I' => ⟨H', I', q⟩
theorem x_seti {st : Stmt} {ea eb ee : ME} (h : PS X st (tAsg (tM X.K false (ev cf ee)) (gSub (tM X.K false (ev cf ea)) (tM X.K false (ev cf eb)) rSetA))) : PS X st (tX X.K fr (exec cf (.seti ea eb ee))) := ps_conv h fun D σ H ⟨G, F, r, σD, M, o, hR, hS, he, hp⟩ => by
  unfold exec at he
  obtain ⟨v, e1, he⟩ := bindE he
  obtain ⟨x, e2, he⟩ := bindE he
  obtain ⟨y, e3, he⟩ := bindE he
  obtain ⟨xd, xm⟩ := x
  obtain ⟨yd, ym⟩ := y
  refine ⟨G, F, r, σD, M, v.1, v.2, hR, hS, e1, fun w F1 r1 H1 E1 R1 v1 => ⟨G, F1, r1, σD, v.2, xd, xm, R1, hS.ext E1, e2, fun xo F2 r2 H2 E2 R2 x2 => ⟨G, F2, r2, σD, xm, yd, ym, R2, (hS.ext E1).ext E2, e3, fun yo F3 r3 H3 E3 R3 y3 => ?_⟩⟩⟩
  cases xd with
  | ref k =>
    obtain ⟨hk, hx⟩ := x2.rep.ext E3
    have hv := ((v1.rep.ext E2).ext E3)
    dsimp only at he
    split at he
    · rename_i xs m1
      obtain ⟨vs, m2, m3⟩ := R3.atL m1
      split at he
      · rename_i q
        obtain ⟨m, hm, he⟩ := mapE he
        subst he
        refine .inl ⟨r3 k, vs, q, m, hx, Rep.int y3.rep, m2, by rw [m3.len]; exact hm, ?_⟩
        have R4 := R3.put hk (o := .lst (xs.set m v.1)) (u := .lst (vs.set m w)) ⟨_, rfl, m3.set m hv⟩
        have E4 : Ext G F3 r3 ym.length H3 F3 r3 (ym.set k (.lst (xs.set m v.1))).length (upd H3 (r3 k) (.lst (vs.set m w))) := by rw [List.length_set]; exact Ext.put R3 hk
        have E := E1.trans (E2.trans (E3.trans E4))
        exact hp _ F3 r3 _ E R4 (hS.ext E)
      · cases he
    · rename_i ks xs m1
      obtain ⟨kvs, m2, m3, m4⟩ := R3.atD m1
      obtain ⟨kk, ek, he⟩ := bindE he
      split at he
      · rename_i hl
        cases he
        obtain ⟨p1, p2⟩ := dct_put (k := kk) m3 m4 hv
        refine .inr ⟨r3 k, upd H3 (r3 k) (.dK (putK kvs kk.key w)), hx, ?_, ?_⟩
        · rw [key_val y3.rep ek]
          exact DPut.k m2 (by rw [dct_len m3, ← line_eq]; exact hl)
        · have R4 := R3.put hk (o := .dct (putKs ks xs kk v.1).1 (putKs ks xs kk v.1).2) (u := .dK (putK kvs kk.key w)) ⟨_, rfl, p1, p2⟩
          have E4 : Ext G F3 r3 ym.length H3 F3 r3 (ym.set k (.dct (putKs ks xs kk v.1).1 (putKs ks xs kk v.1).2)).length (upd H3 (r3 k) (.dK (putK kvs kk.key w))) := by rw [List.length_set]; exact Ext.put R3 hk
          have E := E1.trans (E2.trans (E3.trans E4))
          exact hp _ F3 r3 _ E R4 (hS.ext E)
      · cases he
    · cases he
  | _ => cases he
theorem x_while {c : Expr} {b : List Stmt} {ec : ME} {mb : MS} (hp : PassesOwn (model X.prog X.w) X.A X.env X.xe) (hc : PT X c (tMt X.K (evt cf ec))) (hb : PSs X b (tX X.K fr (exec cf mb))) : PS X (.While c b [] pos) (tX X.K fr (exec cf (.whl ec mb))) := ps_conv (ps_while hp hc hb) fun D σ H ⟨G, F, r, σD, M, o, hR, hS, he, hpo⟩ => by
  unfold exec at he
  refine ⟨fun m σ H => ∃ F r σD M, RH X.K G F r M H ∧ RS X.K F r M.length H σD σ ∧ whlN (ev cf ec) (exec cf mb) m σD M = some o ∧ Post X.K fr G F r M.length H D o, ⟨wfuel, F, r, σD, M, hR, hS, he, hpo⟩, ?_⟩
  rintro m σ1 H1 ⟨F1, r1, σD1, M1, R1, S1, w1, p1⟩
  cases m with
  | zero => unfold whlN at w1; cases w1
  | succ m =>
    unfold whlN at w1
    obtain ⟨x, e1, w1⟩ := bindE w1
    obtain ⟨t, e2, w1⟩ := bindE w1
    refine ⟨G, F1, r1, σD1, M1, t, x.2, R1, S1, evt_split e1 e2, fun F2 r2 H2 E2 R2 => ?_⟩
    cases t with
    | false =>
      rw [if_neg (by decide)] at w1 ⊢
      cases w1
      exact p1 σ1 F2 r2 H2 E2 R2 (S1.ext E2)
    | true =>
      rw [if_pos rfl] at w1 ⊢
      obtain ⟨o1, e3, w1⟩ := bindE w1
      refine ⟨fun σ' H' => ∃ F r σD M, RH X.K G F r M H' ∧ RS X.K F r M.length H' σD σ' ∧ whlN (ev cf ec) (exec cf mb) m σD M = some o ∧ Post X.K fr G F r M.length H' D o, fun σ' H' w => ⟨m, Nat.lt_succ_self m, w⟩, G, F2, r2, σD1, x.2, o1, R2, S1.ext E2, e3, ?_⟩
      cases o1 with
      | nx σ3 M3 => exact fun σ' F' r' H' E' R' S' => ⟨F', r', σ3, M3, R', S', w1, p1.ext (E2.trans E')⟩
      | ct σ3 M3 => exact fun σ' F' r' H' E' R' S' => ⟨F', r', σ3, M3, R', S', w1, p1.ext (E2.trans E')⟩
      | bk σ3 M3 => cases w1; exact fun σ' F' r' H' E' R' S' => p1 σ' F' r' H' (E2.trans E') R' S'
      | rt d M3 => cases w1; exact Fin.ext E2 p1
theorem x_for {tg it : Expr} {b : List Stmt} {es : ME} {t : MT} {mb : MS} (hp : PassesOwn (model X.prog X.w) X.A X.env X.xe) (hc : X.calm = true) (hi : PI X tg it (tI X.K (evS cf es))) (hg : PG X tg (tG X.K t)) (hb : PSs X b (tX X.K fr (exec cf mb)))
    (hs : ∀ x, foldedSetIterable it X.env x = pure x) : PS X (.For tg it b [] pos) (tX X.K fr (exec cf (.forr t es mb))) := ps_conv (ps_for hp hc hi hg hb hs) fun D σ H ⟨G, F, r, σD, M, o, hR, hS, he, hpo⟩ => by
  unfold exec at he
  obtain ⟨s, e1, he⟩ := bindE he
  obtain ⟨n, e2, he⟩ := bindE he
  refine ⟨G, F, r, σD, M, s.1, s.2, hR, hS, e1, ⟨n, e2⟩, fun J F1 r1 H1 E1 R1 J1 => ?_⟩
  refine ⟨fun i m σ H => ∃ F r σD M, Ext G F1 r1 s.2.length H1 F r M.length H ∧ RH X.K G F r M H ∧ RS X.K F r M.length H σD σ ∧ forN s.1 t (exec cf mb) m i σD M = some o ∧ Post X.K fr G F r M.length H D o, ⟨n, F1, r1, σD, s.2, Ext.refl, R1, hS.ext E1, he, hpo.ext E1⟩, ?_⟩
  rintro i m σ2 H2 ⟨F2, r2, σD2, M2, E2, R2, S2, w2, p2⟩
  obtain ⟨jgo, jst⟩ := J1 G F2 r2 M2 H2 E2 R2 i
  cases m with
  | zero =>
    unfold forN at w2
    split at w2
    · rename_i hd
      cases w2
      exact .inl ⟨jst hd, p2 σ2 F2 r2 H2 Ext.refl R2 S2⟩
    · cases w2
  | succ m =>
    unfold forN at w2
    obtain ⟨d, f1, w2⟩ := bindE w2
    obtain ⟨σ3, f2, w2⟩ := bindE w2
    obtain ⟨o1, f3, w2⟩ := bindE w2
    obtain ⟨jg, jy⟩ := jgo d f1
    refine .inr ⟨jg, fun σ' H' => ∃ F r σD M, Ext G F1 r1 s.2.length H1 F r M.length H' ∧ RH X.K G F r M H' ∧ RS X.K F r M.length H' σD σ' ∧ forN s.1 t (exec cf mb) m (i + 1) σD M = some o ∧ Post X.K fr G F r M.length H' D o, fun σ' H' w => ⟨m, Nat.lt_succ_self m, w⟩, fun x H3 hy => ?_⟩
    obtain ⟨E3, R3, x3⟩ := jy x H3 hy
    refine ⟨G, F2, r2, σD2, M2, d, σ3, R3, S2.ext E3, x3, f2, fun σ4 S4 _ _ => ⟨G, F2, r2, σ3, M2, o1, R3, S4, f3, ?_⟩⟩
    cases o1 with
    | nx σ5 M5 => exact fun σ' F' r' H' E' R' S' => ⟨F', r', σ5, M5, E2.trans (E3.trans E'), R', S', w2, p2.ext (E3.trans E')⟩
    | ct σ5 M5 => exact fun σ' F' r' H' E' R' S' => ⟨F', r', σ5, M5, E2.trans (E3.trans E'), R', S', w2, p2.ext (E3.trans E')⟩
    | bk σ5 M5 => cases w2; exact fun σ' F' r' H' E' R' S' => p2 σ' F' r' H' (E3.trans E') R' S'
    | rt d5 M5 => cases w2; exact Fin.ext E3 p2
end
end Mi
namespace Mi
open PySem PySem.Spec PyProof.Rows L2

/-! ### stores -/
theorem fm_len {α β : Type} {f : α → Option β} : ∀ {xs : List α}, (xs.filterMap f).length = xs.length → ∀ x ∈ xs, (f x).isSome = true
  | [], _, x, hx => by cases hx
  | a :: xs, h, x, hx => by
    have le := List.length_filterMap_le f xs
    cases q : f a with
    | none =>
      rw [List.filterMap_cons_none q, List.length_cons] at h
      omega
    | some b =>
      rw [List.filterMap_cons_some q, List.length_cons, List.length_cons] at h
      rcases List.mem_cons.mp hx with e | e
      · rw [e, q]; rfl
      · exact fm_len (by omega) x e
theorem star_no {e : Expr} (z : (match e with
    | .Starred value pos => true
    | x => false) = true) (h : notStar e = true) : False := by
  cases e <;> first | (cases z; done) | cases h
theorem sw_tup {ts : List Expr} {k : Nat} {tp : Pos} {e : Expr} {env : Env} (h : isTup e = false) : swappedStores [.Tuple ts k tp] e env = pure none := by
  cases e <;> first | rfl | cases h
theorem sw_none {sc : Scope} {ts vs : List Expr} {k k2 : Nat} {tp p2 : Pos} {env : Env} (hs : env.scope = sc) (h : swN sc ts vs = true) : swappedStores [.Tuple ts k tp] (.Tuple vs k2 p2) env = pure none := by
  unfold swappedStores
  dsimp only
  unfold swN at h
  rcases Bool.or_eq_true _ _ ▸ h with h | h
  · rcases Bool.or_eq_true _ _ ▸ h with h | h
    · rw [if_pos (by rw [h]; rfl)]
    · split
      · rfl
      split
      · rfl
      split
      · rfl
      rename_i g
      exfalso
      have g' := fun z => g (Bool.or_eq_true _ _ ▸ Or.inl z)
      simp only [bne_iff_ne, ne_eq, Decidable.not_not] at g'
      have g2 := fm_len (Decidable.byContradiction g')
      have : ts.all (isLcl sc) = true := List.all_eq_true.mpr fun x hx => by
        have := g2 x hx
        cases x <;> first | (cases this; done) | skip
        rename_i y py
        dsimp only at this
        split at this
        · rename_i q
          have q1 := (ba q).1
          have e : env.kindOf y = sc.names.lookup y := by show env.scope.names.lookup y = _; rw [hs]
          rw [e] at q1
          exact q1
        · cases this
      rw [this] at h
      cases h
  · split
    · rfl
    split
    · rfl
    split
    · rfl
    first | rfl | rw [if_pos h]
theorem sw_2 {sc : Scope} {x y : Str} {px py : Pos} {a b : Expr} {k k2 : Nat} {tp p2 : Pos} {env : Env} (hs : env.scope = sc) (hk : env.blockKind = .function) (h : parC sc [(x, px), (y, py)] [a, b] = true) : swappedStores [.Tuple [.Name x px, .Name y py] k tp] (.Tuple [a, b] k2 p2) env = pure (some [x, y]) ∧ x ≠ y ∧ sc.names.lookup x = some .local ∧ sc.names.lookup y = some .local ∧ notStar a = true ∧ notStar b = true := by
  unfold parC at h
  simp only [Bool.and_eq_true, List.all_cons, List.all_nil, Bool.not_eq_true', beq_iff_eq] at h
  obtain ⟨⟨⟨⟨⟨h1, h2, _⟩, h3, h4⟩, h5, h6, _⟩, h7⟩, h8⟩ := h
  have kx : env.kindOf x = some .local := by show env.scope.names.lookup x = _; rw [hs]; exact h1
  have ky : env.kindOf y = some .local := by show env.scope.names.lookup y = _; rw [hs]; exact h2
  have h4' : (y == x) = false := by
    cases q : y == x with
    | false => rfl
    | true => rw [eq_of_beq q] at h4; simp at h4
  have hd : ([x, y].eraseDups).length = 2 := by simp [List.eraseDups_cons, h4']
  refine ⟨?_, fun e => by rw [e] at h4; simp at h4, h1, h2, h5, h6⟩
  unfold swappedStores
  dsimp only
  refine (if_neg ?_).trans ((if_neg ?_).trans ((if_neg ?_).trans ((if_neg ?_).trans ((if_neg ?_).trans ?_))))
  · rw [hk]; exact Bool.false_ne_true
  · intro q
    obtain ⟨e, he, hz⟩ := List.any_eq_true.mp q
    have hn : notStar e = true := by
      rcases List.mem_cons.mp he with e1 | e1
      · rw [e1]; exact h5
      · rw [List.mem_singleton.mp e1]; exact h6
    exact star_no hz hn
  · simp [kx, ky, h3, Expr.pos, hd]
  · show ¬ (foldedForSure 8 a && (foldedForSure 8 b && true)) = true
    rw [h7]; decide
  · show ¬ (constantsAlone 8 a && (constantsAlone 8 b && true)) = true
    rw [h8]; decide
  · simp [kx, ky, h3, Expr.pos]
theorem sw_3 {sc : Scope} {x y z : Str} {px py pz : Pos} {a b c : Expr} {k k2 : Nat} {tp p2 : Pos} {env : Env} (hs : env.scope = sc) (hk : env.blockKind = .function) (h : parC sc [(x, px), (y, py), (z, pz)] [a, b, c] = true) : swappedStores [.Tuple [.Name x px, .Name y py, .Name z pz] k tp] (.Tuple [a, b, c] k2 p2) env = pure (some [x, y, z]) ∧ (x ≠ y ∧ x ≠ z ∧ y ≠ z) ∧ sc.names.lookup x = some .local ∧ sc.names.lookup y = some .local ∧ sc.names.lookup z = some .local ∧ notStar a = true ∧ notStar b = true ∧ notStar c = true := by
  unfold parC at h
  simp only [Bool.and_eq_true, List.all_cons, List.all_nil, Bool.not_eq_true', beq_iff_eq] at h
  obtain ⟨⟨⟨⟨⟨h1, h2, h2', _⟩, ⟨⟨⟨h3, h3'⟩, h4⟩, h4a⟩, h4b⟩, h5, h6, h6', _⟩, h7⟩, h8⟩ := h
  have kx : env.kindOf x = some .local := by show env.scope.names.lookup x = _; rw [hs]; exact h1
  have ky : env.kindOf y = some .local := by show env.scope.names.lookup y = _; rw [hs]; exact h2
  have kz : env.kindOf z = some .local := by show env.scope.names.lookup z = _; rw [hs]; exact h2'
  have sy : ∀ {x y : Str}, (x == y) = false → (y == x) = false := fun {x y} h => by
    cases q : y == x with
    | false => rfl
    | true => rw [eq_of_beq q] at h; simp at h
  have hd : ([x, y, z].eraseDups).length = 3 := by simp [List.eraseDups_cons, sy h4, sy h4a, sy h4b]
  have nn : ∀ {x y : Str}, (x == y) = false → x ≠ y := fun h e => by rw [e] at h; simp at h
  refine ⟨?_, ⟨nn h4, nn h4a, nn h4b⟩, h1, h2, h2', h5, h6, h6'⟩
  unfold swappedStores
  dsimp only
  refine (if_neg ?_).trans ((if_neg ?_).trans ((if_neg ?_).trans ((if_neg ?_).trans ((if_neg ?_).trans ?_))))
  · rw [hk]; exact Bool.false_ne_true
  · intro q
    obtain ⟨e, he, hz⟩ := List.any_eq_true.mp q
    have hn : notStar e = true := by
      rcases List.mem_cons.mp he with e1 | e1
      · rw [e1]; exact h5
      rcases List.mem_cons.mp e1 with e1 | e1
      · rw [e1]; exact h6
      · rw [List.mem_singleton.mp e1]; exact h6'
    exact star_no hz hn
  · simp [kx, ky, kz, ← h3, ← h3', Expr.pos, hd]
  · show ¬ (foldedForSure 8 a && (foldedForSure 8 b && (foldedForSure 8 c && true))) = true
    rw [h7]; decide
  · show ¬ (constantsAlone 8 a && (constantsAlone 8 b && (constantsAlone 8 c && true))) = true
    rw [h8]; decide
  · simp [kx, ky, kz, ← h3, ← h3', Expr.pos]
theorem sw_off {e : Expr} {t : Option Expr} {l : Nat} {env : Env} (h : isComp e = false) : swapsWith e t l env = pure false := by
  cases e <;> first | rfl | cases h
theorem sw_offS {e t : Expr} {l : Nat} {env : Env} (h : isComp e = false) : swapsWithSole [t] e l env = pure false := sw_off h
theorem sw_lc {elt : Expr} {gs : List Comprehension} {scope sc : Scope} {pos py : Pos} {y : Str} {l : Nat} {env : Env} (hs : env.scope = sc) (h : swC sc (.ListComp elt gs scope pos) y py = false) : swapsWith (.ListComp elt gs scope pos) (some (.Name y py)) l env = pure false := by
  have e : swapsWith (.ListComp elt gs scope pos) (some (.Name y py)) l env = pure (env.blockKind == .function && env.kindOf y == some .local && py.line == pos.line && !(scope.names.any fun (n, k) => n == y && (k == .local || k == .cell))) := rfl
  rw [e]
  have h' : ((sc.names.lookup y == some .local) && py.line == pos.line && !(scope.names.any fun z => z.1 == y && (z.2 == .local || z.2 == .cell))) = false := h
  have k : env.kindOf y = sc.names.lookup y := by show env.scope.names.lookup y = _; rw [hs]
  rw [k]
  congr 1
  rw [Bool.and_assoc, Bool.and_assoc, ← Bool.and_assoc (sc.names.lookup y == some .local)]
  exact (congrArg (_ && ·) h').trans (Bool.and_false _)

/-! ### the texts' statements -/
structure SOk (c : CC) (fs : List Fn) (frf : Nat → Bool) (d : Nat) (sc : Scope) (X : Cx) : Prop where
  x : XOk c fs frf d sc X
  own : ∀ x, isLoc sc x = true → X.fn x = true
  pass : PassesOwn (model X.prog X.w) X.A X.env X.xe
  kind : sc.kind = .function
section
variable {c : CC} {fs : List Fn} {frf : Nat → Bool} {d : Nat} {sc : Scope} {X : Cx}
theorem SOk.bk (T : SOk c fs frf d sc X) : X.env.blockKind = .function := by
  have : X.env.scope.kind = .function := by rw [T.x.sc]; exact T.kind
  unfold Env.blockKind
  rw [this]
  rfl
theorem SOk.tok (T : SOk c fs frf d sc X) : TOk X c sc := ⟨T.x.N, by rw [T.x.N]; exact T.x.nd, T.x.calm, fun x hx => ⟨by rw [T.x.sc]; exact loc_of hx, .inl (T.own x hx)⟩⟩
theorem swC_of {e : Expr} {x : Str} {px : Pos} (h : swC sc e x px = true) : ∃ elt gs scope pos, e = .ListComp elt gs scope pos := by
  cases e <;> first | exact ⟨_, _, _, _, rfl⟩ | cases h
theorem gn_conv {K : PySem.W.Frag} {fr : Bool} {f : EvF} {i : Nat} {D : Ends} {σ : L2.St} {H : Hp} (h : tAsg (tM K false f) (tG K (.nm i)) D σ H) : tAsg (tM K fr f) (gName i) D σ H := by
  obtain ⟨G, F, r, σD, M, d, M', hR, hS, he, hQ⟩ := h
  have q : Fin K false G F r M.length H M' d fun x H1 => gName i x σ H1 D.nx := fun v F' r' H' E R x => by
    obtain ⟨G2, F2, r2, σ2, M2, d2, σ3, _, hS2, x2, ha, hk⟩ := hQ v F' r' H' E R x
    unfold asgT at ha
    cases ha
    exact hk _ (hS2.set i x2) (List.length_set ..) fun j hj => List.getElem?_set_ne fun e => hj (by rw [e]; exact List.mem_singleton.mpr rfl)
  exact ⟨G, F, r, σD, M, d, M', hR, hS, he, by cases fr with
    | false => exact q
    | true => exact q.weak⟩
theorem up_conv {K : PySem.W.Frag} {fr : Bool} {f : EvF} {i : Nat} {D : Ends} {σ : L2.St} {H : Hp} (h : tAsg (tM K fr f) (gName i) D σ H) : tAsg (tM K true f) (gName i) D σ H := by
  obtain ⟨G, F, r, σD, M, d, M', hR, hS, he, hQ⟩ := h
  exact ⟨G, F, r, σD, M, d, M', hR, hS, he, hQ.of⟩
/-- name = e -/
theorem st_name (T : SOk c fs frf d sc X) {n i : Nat} {x : Str} {e : Expr} {e' : ME} {px p : Pos} (hl : isLoc sc x = true) (hi : ixOf c.N x = some i) (h : cE n c sc e = some e') : PS X (.Assign [.Name x px] e p) (tAsg (tM X.K (freshE frf e') (ev (callD fs d) e')) (gName i)) := by
  have hN : X.N.Nodup := by rw [T.x.N]; exact T.x.nd
  have hi' : X.N[i]? = some x := by rw [T.x.N]; exact ix_get hi
  cases hc : swC sc e x px with
  | false =>
    refine ps_set hN hi' (by rw [T.x.sc]; exact loc_of hl) ((c_ok n).1 T.x h).1 ?_ (.inl (T.own x hl))
    cases q : isComp e with
    | false => exact sw_off q
    | true =>
      cases n with
      | zero => unfold cE at h; cases h
      | succ n =>
        cases e <;> first | (cases q; done) | (unfold cE at h; cases h; done) | skip
        exact sw_lc T.x.sc hc
  | true =>
    obtain ⟨elt, gs, scope, pos, rfl⟩ := swC_of hc
    have hc' : ((sc.names.lookup x == some .local) && px.line == pos.line && !(scope.names.any fun z => z.1 == x && (z.2 == .local || z.2 == .cell))) = true := hc
    obtain ⟨hc1, hc2⟩ := ba hc'
    obtain ⟨hc0, hc1⟩ := ba hc1
    have hc0 : X.env.scope.names.lookup x = some .local := by rw [T.x.sc]; exact eq_of_beq hc0
    have hk : X.env.scope.kind = .function := by rw [T.x.sc]; exact T.kind
    cases n with
    | zero => unfold cE at h; cases h
    | succ n =>
      obtain ⟨ihE, _, _, ihC, ihS, _⟩ := c_ok (c := c) (fs := fs) (frf := frf) (d := d) n
      unfold cE at h
      split at h <;> first | (cases h; done) | (rename_i z; cases z)
      dsimp only at h
      obtain ⟨hb, h⟩ := iff_bool h
      obtain ⟨s', h1, h⟩ := bindE h
      obtain ⟨t', h2, h⟩ := bindE h
      obtain ⟨hsl, h⟩ := iff_bool h
      obtain ⟨cd, h3, h⟩ := bindE h
      obtain ⟨e2, h4, h⟩ := mapE h
      subst h
      obtain ⟨i1, i2⟩ := ihS T.x h1
      refine ps_conv (ps_setLc (te := tM X.K false (ev (callD fs d) e2)) (tt := tMt X.K (evt (callD fs d) cd)) (g := tG X.K t') T.x.calm hN hi' hc0 (sw_true hk hc0 hc1 (by simpa using hc2)) i1 (by rw [T.x.N, T.x.sc]; exact blkOk_by hb) (fun s H C cl fp => (g_ok n).1 T.x.tgt h2) (fun s H C cl fp => ihC T.x.blk h3) (fun s H C cl fp => pe_weak (ihE T.x.blk h4).1) (i2 _)) fun D σ H q => ?_
      exact lc_ok (mem_slots hsl) q
theorem sub_assign {n : Nat} {o i : Expr} {me : ME} {pos : Pos} {env : Env} (h : cE n c sc i = some me) : ∀ v, assign (.Subscript o i pos) env v = (do
      let ov ← holding [v] (eval o env)
      let iv ← holding [v, ov] (eval i env)
      standAt pos
      holding [v, ov, iv] (setItem ov iv v)
      release [v, ov, iv] []) := by
  intro v
  cases i <;> first | rfl | exact (noSlice h).elim
theorem st_asg (T : SOk c fs frf d sc X) {n i : Nat} {x : Str} {e : Expr} {e' : ME} {px p : Pos} {fr : Bool} (hl : isLoc sc x = true) (hi : ixOf c.N x = some i) (h : cE n c sc e = some e') : PS X (.Assign [.Name x px] e p) (tX X.K fr (exec (callD fs d) (.asg (.nm i) e'))) :=
  x_asg (ps_conv (st_name T hl hi h) fun D σ H q => gn_conv q)
theorem st_box (T : SOk c fs frf d sc X) {n i : Nat} {x : Str} {e : Expr} {e' : ME} {px p : Pos} {fr : Bool} (hl : isLoc sc x = true) (hi : ixOf c.N x = some i) (h : cE n c sc e = some e') (hf : freshE frf e' = true) : PS X (.Assign [.Name x px] e p) (tX X.K fr (exec (callD fs d) (.box i e'))) := by
  have q := st_name T (p := p) (px := px) hl hi h
  rw [hf] at q
  exact x_box q
theorem ne_ix {N : List Str} {x y : Str} {i j : Nat} (hi : ixOf N x = some i) (hj : ixOf N y = some j) (h : x ≠ y) : i ≠ j := fun e => by
  subst e
  have h1 := ix_get hi
  have h2 := ix_get hj
  rw [h1] at h2
  exact h (Option.some.inj h2)
theorem pe_fr (T : SOk c fs frf d sc X) {n : Nat} {e : Expr} {e' : ME} (b : Bool) (h : cE n c sc e = some e') : PE X e (tM X.K (b && freshE frf e') (ev (callD fs d) e')) := by
  have q := ((c_ok n).1 T.x h).1
  cases b with
  | true => exact q
  | false => exact pe_weak q
theorem c_esf (T : SOk c fs frf d sc X) : ∀ (n : Nat) {es : List Expr} {me : ME} {ws : List Bool}, ws.length = es.length → cEs n c sc es = some me → PA X es (tMf X.K (flags frf ws me) (evs (callD fs d) me)) ∧ es.all notStar = true
  | 0, _, _, _, _, h => by unfold cEs at h; cases h
  | n + 1, [], me, ws, hl, h => by
    unfold cEs at h
    cases h
    have : ws = [] := List.eq_nil_of_length_eq_zero hl
    subst this
    exact ⟨f_nil, rfl⟩
  | n + 1, e :: es, me, [], hl, h => by cases hl
  | n + 1, e :: es, me, w :: ws, hl, h => by
    unfold cEs at h
    obtain ⟨n1, h⟩ := iff_bool h
    obtain ⟨e', h1, h⟩ := bindE h
    obtain ⟨es', h2, h⟩ := mapE h
    subst h
    obtain ⟨q1, q2⟩ := c_esf T n (ws := ws) (by simpa using hl) h2
    exact ⟨f_cons (star_one n1) (pe_fr T w h1) q1, by show (notStar e && es.all notStar) = true; rw [n1, q2]; rfl⟩
theorem wants_len {c : CC} : ∀ (ts : List Expr), (wants c ts).length = ts.length
  | [] => rfl
  | t :: ts => by
    cases t <;> exact congrArg (· + 1) (wants_len ts)
/-- plain names, one after another -/
theorem gs_names (T : SOk c fs frf d sc X) : ∀ {ts : List Expr} {is : List Nat}, ixs c sc ts = some is → ts.all notStar = true ∧ is.length = ts.length ∧ PGs X ts (fun vs σ H Q => vs.length = is.length ∧ Q (setV σ is vs) H)
  | [], is, h => by
    unfold ixs at h
    cases h
    refine ⟨rfl, rfl, ⟨fun pins s σ H vs us Q I rv ⟨hl, hq⟩ => pgs_nil.run pins s σ H vs us Q I rv ?_⟩⟩
    have : vs = [] := List.eq_nil_of_length_eq_zero hl
    subst this
    exact ⟨rfl, hq⟩
  | t :: ts, is, h => by
    cases t <;> first | (unfold ixs at h; cases h; done) | skip
    unfold ixs at h
    obtain ⟨hl, h⟩ := iff_bool h
    obtain ⟨i, hi, h⟩ := bindE h
    obtain ⟨is', h2, h⟩ := mapE h
    subst h
    obtain ⟨q1, q2, q3⟩ := gs_names T h2
    have hN : X.N.Nodup := by rw [T.x.N]; exact T.x.nd
    refine ⟨by show (true && ts.all notStar) = true; rw [q1]; rfl, congrArg (· + 1) q2, ⟨fun pins s σ H vs us Q I rv ⟨hl2, hq⟩ => (pgs_cons (pg_name hN (by rw [T.x.N]; exact ix_get hi) (by rw [T.x.sc]; exact loc_of hl) (.inl (T.own _ hl))) q3 rfl).run pins s σ H vs us Q I rv ?_⟩⟩
    cases vs with
    | nil => cases hl2
    | cons v vs => exact ⟨v, vs, rfl, by simpa using hl2, hq⟩
theorem isComp_tup {vs : List Expr} {k : Nat} {p : Pos} : isComp (.Tuple vs k p) = false := rfl
theorem st_par (T : SOk c fs frf d sc X) {n : Nat} {ts vs : List Expr} {k k2 : Nat} {tp p2 p : Pos} {is : List Nat} {es : ME} {fr : Bool} (hl : ts.length = vs.length) (hsz : vs.length ≤ 65536) (hc : (swN sc ts vs || parD sc ts vs) = true) (h1 : ixs c sc ts = some is) (h2 : cEs n c sc vs = some es) :
    PS X (.Assign [.Tuple ts k tp] (.Tuple vs k2 p2) p) (tX X.K fr (exec (callD fs d) (.parN is (flags frf (wants c ts) es) es))) := by
  obtain ⟨q1, q2, q3⟩ := gs_names T h1
  obtain ⟨r1, r2⟩ := c_esf T n (ws := wants c ts) ((wants_len ts).trans hl) h2
  have hN : X.N.Nodup := by rw [T.x.N]; exact T.x.nd
  have hz : is.length ≤ sizeLine := by rw [q2, hl]; exact Nat.le_trans hsz (by decide)
  refine x_parN ?_ hz
  rcases Bool.or_eq_true _ _ ▸ hc with hc | hc
  · obtain ⟨a1, a2⟩ := asg_len (env := X.env) q1
    refine ps_conv (ps_asg (pe_tup r1) (pg_tup (n := is.length) T.x.calm q3 (by rw [a1, q2]) a2) rfl (sw_none T.x.sc hc) rfl) fun D σ H ⟨G, F, r, σD, M, ds, M', hR, hS, he, hQ⟩ => ?_
    refine ⟨G, F, r, σD, M, ds, M', hR, hS, he, fun us F1 r1 H1 E1 R1 x1 => ?_⟩
    obtain ⟨b1, b2, b3, b4⟩ := hQ us F1 r1 H1 E1 R1 x1
    exact ⟨b2, fun p hp => ⟨p, us, rfl, .of upd_same, b1, b1, b4 p us hp⟩⟩
  · unfold parD at hc
    split at hc
    · rename_i x px y py a b
      obtain ⟨w1, w2, w3, w4, w5, w6⟩ := sw_2 T.x.sc T.bk hc
      unfold ixs at h1
      obtain ⟨_, h1⟩ := iff_bool h1
      obtain ⟨i, hi, h1⟩ := bindE h1
      obtain ⟨is', h1', h1⟩ := mapE h1
      unfold ixs at h1'
      obtain ⟨_, h1'⟩ := iff_bool h1'
      obtain ⟨j, hj, h1'⟩ := bindE h1'
      obtain ⟨is2, h3, h1'⟩ := mapE h1'
      unfold ixs at h3
      cases h3
      subst h1' h1
      refine ps_conv (ps_par T.x.calm hN (by rw [T.x.N]; exact ix_get hi) (by rw [T.x.N]; exact ix_get hj) (ne_ix hi hj w2) (by rw [T.x.sc]; exact w3) (by rw [T.x.sc]; exact w4) r1 w1 rfl) fun D σ H ⟨G, F, r, σD, M, ds, M', hR, hS, he, hQ⟩ => ?_
      refine ⟨G, F, r, σD, M, ds, M', hR, hS, he, fun us F1 r1 H1 E1 R1 x1 => ?_⟩
      obtain ⟨b1, b2, b3, b4⟩ := hQ us F1 r1 H1 E1 R1 x1
      match us, b1 with
      | [u, v], _ => exact ⟨u, v, rfl, b3⟩
    · rename_i x px y py z pz a b d
      obtain ⟨w1, ⟨w2, w2a, w2b⟩, w3, w4, w4a, w5, w6, w7⟩ := sw_3 T.x.sc T.bk hc
      unfold ixs at h1
      obtain ⟨_, h1⟩ := iff_bool h1
      obtain ⟨i, hi, h1⟩ := bindE h1
      obtain ⟨is', h1', h1⟩ := mapE h1
      unfold ixs at h1'
      obtain ⟨_, h1'⟩ := iff_bool h1'
      obtain ⟨j, hj, h1'⟩ := bindE h1'
      obtain ⟨is2, h3, h1'⟩ := mapE h1'
      unfold ixs at h3
      obtain ⟨_, h3⟩ := iff_bool h3
      obtain ⟨l, hl3, h3⟩ := bindE h3
      obtain ⟨is3, h4, h3⟩ := mapE h3
      unfold ixs at h4
      cases h4
      subst h3 h1' h1
      refine ps_conv (ps_par3 T.x.calm hN (by rw [T.x.N]; exact ix_get hi) (by rw [T.x.N]; exact ix_get hj) (by rw [T.x.N]; exact ix_get hl3) (ne_ix hi hj w2) (ne_ix hi hl3 w2a) (ne_ix hj hl3 w2b) (by rw [T.x.sc]; exact w3) (by rw [T.x.sc]; exact w4) (by rw [T.x.sc]; exact w4a) r1 w1 rfl) fun D σ H ⟨G, F, r, σD, M, ds, M', hR, hS, he, hQ⟩ => ?_
      refine ⟨G, F, r, σD, M, ds, M', hR, hS, he, fun us F1 r1 H1 E1 R1 x1 => ?_⟩
      obtain ⟨b1, b2, b3, b4⟩ := hQ us F1 r1 H1 E1 R1 x1
      match us, b1 with
      | [u, v, w], _ => exact ⟨u, v, w, rfl, b3⟩
    · cases hc
def StOk (c : CC) (fs : List Fn) (frf : Nat → Bool) (d n : Nat) : Prop :=
  (∀ {X sc fr st ms}, SOk c fs frf d sc X → (fr = true → retFr frf ms = true) → cSt frf n c sc st = some ms → PS X st (tX X.K fr (exec (callD fs d) ms))) ∧
  (∀ {X sc fr sts ms}, SOk c fs frf d sc X → (fr = true → retFr frf ms = true) → cSt.cSs frf n c sc sts = some ms → PSs X sts (tX X.K fr (exec (callD fs d) ms)))
theorem st_l {n : Nat} (ih : StOk c fs frf d n) {X : Cx} {sc : Scope} {fr : Bool} {sts : List Stmt} {ms : MS} (T : SOk c fs frf d sc X) (hr : fr = true → retFr frf ms = true) (h : cSt.cSs frf (n + 1) c sc sts = some ms) : PSs X sts (tX X.K fr (exec (callD fs d) ms)) := by
  cases sts with
  | nil =>
    unfold cSt.cSs at h
    cases h
    exact xs_nil
  | cons st sts =>
    unfold cSt.cSs at h
    obtain ⟨s', h1, h⟩ := bindE h
    obtain ⟨ss', h2, h⟩ := mapE h
    subst h
    exact xs_cons (ih.1 T (fun e => (ba (hr e)).1) h1) (ih.2 T (fun e => (ba (hr e)).2) h2)
theorem st_s {n : Nat} (ih : StOk c fs frf d n) {X : Cx} {sc : Scope} {fr : Bool} {st : Stmt} {ms : MS} (T : SOk c fs frf d sc X) (hr : fr = true → retFr frf ms = true) (h : cSt frf (n + 1) c sc st = some ms) : PS X st (tX X.K fr (exec (callD fs d) ms)) := by
  have E : ∀ {e me}, cE n c sc e = some me → PE X e (tM X.K false (ev (callD fs d) me)) := fun h => pe_weak ((c_ok n).1 T.x h).1
  have hN : X.N.Nodup := by rw [T.x.N]; exact T.x.nd
  unfold cSt at h
  split at h
  · -- name = e
    split at h
    · cases h
    rename_i hl
    simp only [Bool.not_eq_true', Bool.not_eq_false] at hl
    obtain ⟨i, hi, h⟩ := bindE h
    obtain ⟨e', h1, h⟩ := bindE h
    split at h
    · split at h
      · rename_i hf
        cases h
        exact st_box T hl hi h1 hf
      · cases h
        exact st_asg T hl hi h1
    · cases h
      exact st_asg T hl hi h1
  · -- tuple = tuple
    split at h
    · split at h
      · rename_i hc
        obtain ⟨hl, hc⟩ := ba hc
        obtain ⟨hsz, hc⟩ := ba hc
        obtain ⟨is, h1, h⟩ := bindE h
        obtain ⟨es, h2, h⟩ := mapE h
        subst h
        exact st_par T (eq_of_beq hl) (of_decide_eq_true hsz) hc h1 h2
      · cases h
    · split at h
      · rename_i hw
        obtain ⟨t, h1, h⟩ := bindE h
        obtain ⟨e', h2, h⟩ := mapE h
        subst h
        exact x_asg (ps_asg (E h2) ((g_ok n).1 T.tok h1) rfl (sw_none T.x.sc hw) rfl)
      · cases h
  · -- tuple = e
    split at h
    · cases h
    rename_i hc
    simp only [Bool.or_eq_true, not_or, Bool.not_eq_true] at hc
    obtain ⟨t, h1, h⟩ := bindE h
    obtain ⟨e', h2, h⟩ := mapE h
    subst h
    refine x_asg (ps_asg (E h2) ((g_ok n).1 T.tok h1) (sw_offS hc.2) ?_ rfl)
    exact sw_tup hc.1
  · -- o[i] = e
    split at h
    · cases h
    split at h
    · cases h
    rename_i hc
    obtain ⟨e', h1, h⟩ := bindE h
    obtain ⟨a', h2, h⟩ := bindE h
    obtain ⟨b', h3, h⟩ := mapE h
    subst h
    exact x_seti (ps_asg (E h1) (pg_sub (E h2) (E h3) (set_any (by have := T.x.un; omega)) (sub_assign h3)) (sw_offS (by simpa using hc)) rfl rfl)
  · -- e
    split at h
    · cases h
    rename_i hc
    obtain ⟨e', h1, h⟩ := mapE h
    subst h
    exact x_expr (E h1) (sw_off (by simpa using hc))
  · -- return e
    obtain ⟨e', h1, h⟩ := mapE h
    subst h
    refine x_ret ?_
    have q := ((c_ok n).1 T.x h1).1
    cases fr with
    | false => exact pe_weak q
    | true =>
      have hr : freshE frf e' = true := hr rfl
      rw [hr] at q
      exact q
  · -- if
    obtain ⟨t', h1, h⟩ := bindE h
    obtain ⟨a', h2, h⟩ := bindE h
    obtain ⟨b', h3, h⟩ := mapE h
    subst h
    exact x_if ((c_ok n).1 T.x h1).2.1 (ih.2 T (fun e => (ba (hr e)).1) h2) (ih.2 T (fun e => (ba (hr e)).2) h3)
  · -- while
    obtain ⟨t', h1, h⟩ := bindE h
    obtain ⟨b', h2, h⟩ := mapE h
    subst h
    exact x_while T.pass ((c_ok n).1 T.x h1).2.1 (ih.2 T (fun e => hr e) h2)
  · -- for
    obtain ⟨s', h1, h⟩ := bindE h
    obtain ⟨t', h2, h⟩ := bindE h
    obtain ⟨b', h3, h⟩ := mapE h
    subst h
    obtain ⟨i1, i2⟩ := (c_ok n).2.2.2.2.1 T.x h1
    exact x_for T.pass T.x.calm i1 ((g_ok n).1 T.tok h2) (ih.2 T (fun e => hr e) h3) (i2 _)
  · cases h
    exact x_brk
  · cases h
    exact x_cont
  · cases h
    exact x_skip ps_pass
  · cases h
    exact x_never
  · cases h
theorem st_zero : StOk c fs frf d 0 := ⟨fun _ _ h => (by unfold cSt at h; cases h), fun _ _ h => (by unfold cSt.cSs at h; cases h)⟩
theorem st_ok : ∀ n, StOk c fs frf d n
  | 0 => st_zero
  | n + 1 => ⟨st_s (st_ok n), st_l (st_ok n)⟩
end
end Mi
namespace Mi
open PySem PySem.Spec PyProof.Rows L2

/-! ### behind a def -/
section
variable {K : PySem.W.Frag} {F F' : FP} {r : Nat → Addr} {N n : Nat} {H : Hp}
mutual
theorem Rep.lo (hF : ∀ p, F p → F' p) : ∀ (d : D) (v : V), D.lo n d = true → Rep K F r N H v d → Rep K F' r n H v d
  | .non, _, _, h => h
  | .bl _, _, _, h => h
  | .int _, _, _, h => h
  | .str _, _, _, h => h
  | .tup ds, _, l, h => by
    obtain ⟨p, vs, hv, hs, hr⟩ := h
    exact ⟨p, vs, hv, hs, Reps.lo hF ds vs l hr⟩
  | .lst ds, _, l, h => by
    obtain ⟨p, vs, hv, hp, hs, hr⟩ := h
    exact ⟨p, vs, hv, hF p hp, hs, Reps.lo hF ds vs l hr⟩
  | .dct ks ds, _, l, h => by
    obtain ⟨p, kvs, hv, hp, hs, hk, hr⟩ := h
    exact ⟨p, kvs, hv, hF p hp, hs, hk, Reps.lo hF ds _ l hr⟩
  | .scr ds, _, _, h => by
    obtain ⟨p, ns, hv, hs, hd⟩ := h
    refine ⟨p, ns, hv, ?_, hd⟩
    rcases hs with ⟨hp, hs⟩ | hs
    · exact .inl ⟨hF p hp, hs⟩
    · exact .inr hs
  | .ref i, _, l, h => ⟨of_decide_eq_true l, h.2⟩
theorem Reps.lo (hF : ∀ p, F p → F' p) : ∀ (ds : List D) (vs : List V), D.los n ds = true → Reps K F r N H vs ds → Reps K F' r n H vs ds
  | [], [], _, h => h
  | [], _ :: _, _, h => h.elim
  | _ :: _, [], _, h => h.elim
  | d :: ds, v :: vs, l, h => ⟨Rep.lo hF d v (ba l).1 h.1, Reps.lo hF ds vs (ba l).2 h.2⟩
end
end
section
variable {K : PySem.W.Frag} {G F : FP} {r : Nat → Addr} {n : Nat} {M : Mem} {H : Hp}
/-- what is frozen too: the frame's own objects -/
def FP.own (F : FP) (r : Nat → Addr) (n N : Nat) : FP := fun p => F p ∨ ∃ i, n ≤ i ∧ i < N ∧ p = r i
def InnOk (K : PySem.W.Frag) (F : FP) (r : Nat → Addr) (n N : Nat) (H : Hp) (f : List D → Option (List D)) : Prop := ∀ xs ys vs, f xs = some ys → Reps K F r N H vs xs → Reps K (FP.own F r n N) r n H vs ys
mutual
theorem out_ok (R : RH K G F r M H) {f : List D → Option (List D)} (hf : InnOk K F r n M.length H f) : ∀ (d d' : D) (v : V), D.out n M f d = some d' → Rep K F r M.length H v d → Rep K (FP.own F r n M.length) r n H v d'
  | .non, _, _, e, h => by unfold D.out at e; cases e; exact h
  | .bl _, _, _, e, h => by unfold D.out at e; cases e; exact h
  | .int _, _, _, e, h => by unfold D.out at e; cases e; exact h
  | .str _, _, _, e, h => by unfold D.out at e; cases e; exact h
  | .tup ds, _, _, e, h => by
    unfold D.out at e
    obtain ⟨es, e1, e⟩ := mapE e
    cases e
    obtain ⟨p, vs, hv, hs, hr⟩ := h
    exact ⟨p, vs, hv, hs, outs_ok R hf ds es vs e1 hr⟩
  | .lst ds, _, _, e, h => by
    unfold D.out at e
    obtain ⟨es, e1, e⟩ := mapE e
    cases e
    obtain ⟨p, vs, hv, hp, hs, hr⟩ := h
    exact ⟨p, vs, hv, .inl hp, hs, outs_ok R hf ds es vs e1 hr⟩
  | .dct ks ds, _, _, e, h => by
    unfold D.out at e
    obtain ⟨es, e1, e⟩ := mapE e
    cases e
    obtain ⟨p, kvs, hv, hp, hs, hk, hr⟩ := h
    exact ⟨p, kvs, hv, .inl hp, hs, hk, outs_ok R hf ds es _ e1 hr⟩
  | .scr ds, _, _, e, h => by
    unfold D.out at e
    cases e
    exact Rep.lo (n := n) (fun _ => .inl) (.scr ds) _ rfl h
  | .ref i, _, _, e, h => by
    unfold D.out at e
    split at e
    · rename_i hi
      cases e
      exact ⟨hi, h.2⟩
    · rename_i hi
      split at e
      · rename_i xs hx
        obtain ⟨ys, e1, e⟩ := mapE e
        cases e
        obtain ⟨vs, h1, h2⟩ := R.atL hx
        exact ⟨r i, vs, h.2, .inr ⟨i, Nat.le_of_not_lt hi, h.1, rfl⟩, h1, hf xs ys vs e1 h2⟩
      · rename_i ks xs hx
        obtain ⟨ys, e1, e⟩ := mapE e
        cases e
        obtain ⟨kvs, h1, hk, h2⟩ := R.atD hx
        exact ⟨r i, kvs, h.2, .inr ⟨i, Nat.le_of_not_lt hi, h.1, rfl⟩, h1, hk, hf xs ys _ e1 h2⟩
      · cases e
theorem outs_ok (R : RH K G F r M H) {f : List D → Option (List D)} (hf : InnOk K F r n M.length H f) : ∀ (ds es : List D) (vs : List V), D.outs n M f ds = some es → Reps K F r M.length H vs ds → Reps K (FP.own F r n M.length) r n H vs es
  | [], _, [], e, _ => by unfold D.outs at e; cases e; exact trivial
  | [], _, _ :: _, _, h => h.elim
  | _ :: _, _, [], _, h => h.elim
  | d :: ds, _, v :: vs, e, h => by
    unfold D.outs at e
    obtain ⟨d', e1, e⟩ := bindE e
    obtain ⟨es', e2, e⟩ := mapE e
    cases e
    exact ⟨out_ok R hf d d' v e1 h.1, outs_ok R hf ds es' vs e2 h.2⟩
end
theorem inn_ok (R : RH K G F r M H) : ∀ k, InnOk K F r n M.length H (inn n M k)
  | 0, xs, ys, vs, e, h => by
    unfold inn at e
    split at e
    · rename_i l
      cases e
      exact Reps.lo (fun _ => .inl) _ _ l h
    · cases e
  | k + 1, xs, ys, vs, e, h => outs_ok R (inn_ok R k) xs ys vs e h
theorem take_ok (R : RH K G F r M H) (hn : n ≤ M.length) (hl : (M.take n).all (MO.lo n) = true) : RH K G (FP.own F r n M.length) r (M.take n) H := by
  have hlen : (M.take n).length = n := by rw [List.length_take]; exact Nat.min_eq_left hn
  refine ⟨fun i xs e => ?_, fun i j hi hj => R.inj i j (by omega) (by omega), fun i hi z => ?_, fun p z => ?_, R.gd, fun p hp z => ?_, fun i hi => R.gr i (by omega)⟩
  · have hi : i < n := by have := (List.getElem?_eq_some_iff.mp e).1; omega
    have lo : MO.lo n xs = true := List.all_eq_true.mp hl _ (List.mem_of_getElem? e)
    rw [List.getElem?_take_of_lt hi] at e
    obtain ⟨u, h1, h2⟩ := R.obj i xs e
    rw [hlen]
    refine ⟨u, h1, ?_⟩
    cases xs with
    | lst xs =>
      obtain ⟨vs, h3, h4⟩ := h2
      exact ⟨vs, h3, Reps.lo (fun _ => .inl) _ _ lo h4⟩
    | dct ks xs =>
      obtain ⟨kvs, h3, hk, h4⟩ := h2
      exact ⟨kvs, h3, hk, Reps.lo (fun _ => .inl) _ _ lo h4⟩
  · rcases z with z | ⟨j, h1, h2, h3⟩
    · exact R.nf i (by omega) z
    · have := R.inj i j (by omega) h2 h3
      omega
  · rcases z with z | ⟨j, h1, h2, h3⟩
    · exact R.dom p z
    · obtain ⟨xs, u, _, h4, _⟩ := R.at h2
      exact ⟨_, by rw [h3]; exact h4⟩
  · rcases z with z | ⟨j, h1, h2, h3⟩
    · exact R.gF p hp z
    · exact R.gr j h2 (h3 ▸ hp)
theorem fin_ok {fr : Bool} {F0 : FP} {r0 : Nat → Addr} {H0 : Hp} {d res : D} {v : V} {M' : Mem} {Q : VK} (E : Ext G F0 r0 n H0 F r M.length H) (R : RH K G F r M H) (x : RX K fr G F r M.length H v d) (e : fin fr n d M = some (res, M')) (q : Fin K fr G F0 r0 n H0 M' res Q) : Q v H := by
  unfold fin at e
  split at e
  · cases e
  rename_i nr
  obtain ⟨d', e1, e⟩ := bindE e
  split at e
  · rename_i hl
    cases e
    have hlen : (M.take n).length = n := by rw [List.length_take]; exact Nat.min_eq_left E.hn
    have E' : Ext G F0 r0 n H0 (FP.own F r n M.length) r (M.take n).length H := by
      rw [hlen]
      exact ⟨fun p h => .inl (E.hF p h), E.hr, Nat.le_refl _, E.kF, E.kT, E.kG⟩
    refine q v _ r H E' (take_ok R E.hn hl) ?_
    rw [hlen]
    have hf := inn_ok (n := n) R 1
    have plain : (fr = false ∨ ((∀ xs, d ≠ .lst xs) ∧ ∀ ks xs, d ≠ .dct ks xs)) → Rep K F r M.length H v d → RX K fr G (FP.own F r n M.length) r n H v res := fun c h => by
      have h2 := out_ok R hf d res v e1 h
      cases fr with
      | false => cases res <;> exact h2
      | true =>
        rcases c with c | c
        · cases c
        cases d with
        | ref i => exact (nr rfl).elim
        | lst xs => exact (c.1 xs rfl).elim
        | dct ks xs => exact (c.2 ks xs rfl).elim
        | tup xs =>
          unfold D.out at e1
          obtain ⟨ys, _, e1⟩ := mapE e1
          cases e1
          exact h2
        | _ =>
          unfold D.out at e1
          cases e1
          exact h2
    cases fr with
    | false => exact plain (.inl rfl) x.rep
    | true =>
      cases d with
      | lst xs =>
        unfold D.out at e1
        obtain ⟨ys, e2, e1⟩ := mapE e1
        cases e1
        obtain ⟨p, vs, h1, h2, h3, h4, h5, h6⟩ := x
        refine ⟨p, vs, h1, h2, outs_ok R hf xs ys vs e2 h3, fun z => ?_, fun i hi => h5 i (Nat.lt_of_lt_of_le hi E.hn), h6⟩
        rcases z with z | ⟨j, g1, g2, g3⟩
        · exact h4 z
        · exact h5 j g2 g3.symm
      | dct ks xs =>
        unfold D.out at e1
        obtain ⟨ys, e2, e1⟩ := mapE e1
        cases e1
        obtain ⟨p, kvs, h1, h2, hk, h3, h4, h5, h6⟩ := x
        refine ⟨p, kvs, h1, h2, hk, outs_ok R hf xs ys _ e2 h3, fun z => ?_, fun i hi => h5 i (Nat.lt_of_lt_of_le hi E.hn), h6⟩
        rcases z with z | ⟨j, g1, g2, g3⟩
        · exact h4 z
        · exact h5 j g2 g3.symm
      | _ => exact plain (.inr (And.intro (fun _ z => nomatch z) (fun _ _ z => nomatch z))) x
  · cases e
end

/-! ### the defs -/
/-- a def's names: the parameters first, none of them captured from outside -/
def scK (N ps : List Str) (sc : Scope) : Bool := (sc.kind == .function && !sc.isCoroutine && !sc.isGenerator) && (decide N.Nodup && decide (N.take ps.length = ps)) && (ps.all (isLoc sc) && sc.names.all fun y => !(y.2 == .free))
theorem scK_ok {N ps : List Str} {sc : Scope} (h : scK N ps sc = true) : FnScope N ps sc := by
  obtain ⟨h, h3⟩ := ba h
  obtain ⟨h1, h2⟩ := ba h
  obtain ⟨h1, h1c⟩ := ba h1
  obtain ⟨h1a, h1b⟩ := ba h1
  obtain ⟨h2a, h2b⟩ := ba h2
  obtain ⟨h3a, h3b⟩ := ba h3
  refine ⟨eq_of_beq h1a, by simpa using h1b, by simpa using h1c, of_decide_eq_true h2a, of_decide_eq_true h2b, fun x hx => loc_of (List.all_eq_true.mp h3a x hx), fun y hy e => ?_⟩
  have := List.all_eq_true.mp h3b y hy
  rw [e] at this
  cases this
/-- a def of the text with what its compiling needs -/
structure Df where
  x : Str
  pa : Arguments
  body : List Stmt
  sc : Scope
  ps : List Str
  N : List Str
  bx : List Str
structure DfOk (fns : List Str) (con : List (Str × D)) (frf : Nat → Bool) (i : Nat) (d : Df) (fn : Fn) : Prop where
  code : cSt.cSs frf 400 ⟨d.N, fns, con, d.bx⟩ d.sc d.body = some fn.body
  ps : fn.ps = d.ps.length
  slots : fn.slots = d.N.length
  scope : scK d.N d.ps d.sc = true
  fr : fn.fr = frf i
  ret : frf i = true → retFr frf fn.body = true
/-- the module's names as the walk needs them -/
structure MgOk (con : List (Str × D)) (K : PySem.W.Frag) (mg : Str → Option Value) : Prop where
  blt : ∀ x, (bltOf x).isSome = true → mg x = none
  ty : ∀ x, (tyOf x).isSome = true → mg x = none
  oth : ∀ x, (x == ("range" : Str) || x == ("zip" : Str) || x == ("enumerate" : Str) || x == ("isinstance" : Str) || x == ("set" : Str)) = true → mg x = none
  con : ∀ x dd, con.lookup x = some dd → ∃ v u, mg x = some u ∧ RelV v u ∧ ∀ F r n H, Rep K F r n H v dd
/-- a def as it stands -/
structure DfAt (K : PySem.W.Frag) (mg : Str → Option Value) (d : Df) (fa : Addr) (fd : FuncData) : Prop where
  fun_ : FunD K d.x d.x d.pa d.body d.sc [] [] fa fd
  mg : mg d.x = some (.ref fa)
  binds : Binds K fd d.ps []
section
variable {P : Program} {w : World} {K : PySem.W.Frag} {mg : Str → Option Value} {base : Heap} {fns : List Str} {con : List (Str × D)} {frf : Nat → Bool} {fs : List Fn} {ds : List Df}
theorem loc_all {sc : Scope} {x : Str} : isLoc sc x = true → (fun _ : Str => true) x = true := fun _ => rfl
theorem fn_ok (hc : ∀ (i : Nat) (d : Df), ds[i]? = some d → ∃ fn, fs[i]? = some fn ∧ DfOk fns con frf i d fn) (hn : fns = ds.map (·.x)) (hm : MgOk con K mg) (ha : ∀ (i : Nat) (d : Df), ds[i]? = some d → ∃ fa fd, DfAt K mg d fa fd) :
    ∀ (k i : Nat) (d : Df) (fa : Addr) (fd : FuncData), ds[i]? = some d → DfAt K mg d fa fd → FnOk P w K mg base CX0 k fa fd d.ps (spF K fs frf k i)
  | 0, i, d, fa, fd, hi, hd => by
    have no : ∀ vs H Q E, ¬ spF K fs frf 0 i vs H Q E := fun vs H Q E ⟨G, F, r, M, ds, res, M', _, _, e, _⟩ => by
      unfold callD at e
      cases e
    exact ⟨fun vs H Q E h => (no _ _ _ _ h).elim, fun A outer s H args us vs Q E _ _ _ _ h => (no _ _ _ _ h).elim⟩
  | k + 1, i, d, fa, fd, hi, hd => by
    obtain ⟨fn, hf, C⟩ := hc i d hi
    have S : FnScope d.N d.ps d.sc := scK_ok C.scope
    refine hd.fun_.ok S (fun vs H Q E ⟨G, F, r, M, es, res, M', hR, hr, he, hQ⟩ => ?_) (fun cdv A outer s H vs Q E hroom ⟨G, F, r, M, es, res, M', hR, hr, he, hQ⟩ => ?_)
    · unfold callD at he
      rw [hf, Option.bind_some] at he
      unfold Fn.run at he
      split at he
      · rename_i hl
        rw [hr.len, hl, C.ps]
      · cases he
    · unfold callD at he
      rw [hf, Option.bind_some] at he
      unfold Fn.run at he
      split at he
      · rename_i hl
        obtain ⟨o, e1, he⟩ := bindE he
        refine ⟨tX K (frf i) (exec (callD fs k) fn.body), PSs.nox ?_, ?_⟩
        · refine (st_ok (c := ⟨d.N, fns, con, d.bx⟩) (fs := fs) (frf := frf) (d := k) 400).2 (sc := d.sc) ⟨⟨rfl, S.nd, rfl, rfl, hroom, fun j x hj => ?_, hm.blt, hm.ty, hm.oth, hm.con⟩, fun _ _ => rfl, PassesOwn.never, S.kind⟩ C.ret C.code
          have hj : (ds.map (·.x))[j]? = some x := by rw [← hn]; exact hj
          rw [List.getElem?_map] at hj
          obtain ⟨d2, h1, h2⟩ := mapE hj
          obtain ⟨fa2, fd2, A2⟩ := ha j d2 h1
          subst h2
          exact ⟨fa2, fd2, d2.ps, A2.mg, A2.fun_.kp, A2.binds, fn_ok hc hn hm ha k j d2 fa2 fd2 h1 A2⟩
        · have hlen : vs.length = es.length := hr.len
          have hpl : d.ps.length ≤ d.N.length := by have := congrArg List.length S.pre; rw [List.length_take] at this; omega
          refine ⟨G, F, r, _, M, o, hR, ⟨?_, fun j e hj => ?_⟩, e1, ?_⟩
          · unfold L2.start
            rw [List.length_append, List.length_append, List.length_map, List.length_map, List.length_replicate, List.length_replicate, hlen, C.slots, hl]
          · have hj' : j < es.length := by
              by_cases c : j < es.length
              · exact c
              · rw [List.getElem?_append_right (by rw [List.length_map]; omega), List.getElem?_replicate] at hj
                split at hj <;> cases hj
            rw [List.getElem?_append_left (by rw [List.length_map]; exact hj'), List.getElem?_map] at hj
            obtain ⟨e', h1, h2⟩ := mapE hj
            cases h2
            obtain ⟨v, h3, h4⟩ := hr.get h1
            refine ⟨v, ?_, h4⟩
            unfold L2.start
            rw [List.getElem?_append_left (by rw [List.length_map]; omega), List.getElem?_map, h3]
            rfl
          · cases o with
            | nx σ' M2 =>
              intro σ2 F' r' H' E' R' S'
              have x : RX K (frf i) G F' r' M2.length H' .non .non := by cases frf i <;> rfl
              rw [C.fr] at he
              exact fin_ok E' R' x he hQ
            | rt e M2 =>
              intro v F' r' H' E' R' x
              rw [C.fr] at he
              exact fin_ok E' R' x he hQ
            | bk σ' M2 => cases he
            | ct σ' M2 => cases he
      · cases he
end
end Mi
namespace Mi
open PySem PySem.Spec PyProof.Rows L2

/-! ### the module's names by the head's facts -/
mutual
def conV (K : PySem.W.Frag) : Value → D → Bool
  | u, .non => (match u with | .none => true | _ => false)
  | u, .bl b => (match u with | .bool c => c == b | _ => false)
  | u, .int i => (match u with | .int j _ => decide (j = i) | _ => false)
  | u, .str s => (match u with | .str z _ => decide (z = ⟨s.toArray⟩) | _ => false)
  | u, .tup ds => (match u with
    | .ref a => (match K.lookup a with
      | some ⟨.type c, _, .seq its _, _⟩ => decide (c = "tuple") && (decide (its.size ≤ sizeLine) && conVs K its.toList ds)
      | _ => false)
    | _ => false)
  | _, _ => false
def conVs (K : PySem.W.Frag) : List Value → List D → Bool
  | [], [] => true
  | u :: us, d :: ds => conV K u d && conVs K us ds
  | _, _ => false
end
mutual
theorem conV_ok {K : PySem.W.Frag} : ∀ (d : D) (u : Value), conV K u d = true → ∃ v, RelV v u ∧ ∀ F r n H, Rep K F r n H v d
  | .non, u, h => by
    unfold conV at h
    split at h
    · exact ⟨.non, rfl, fun _ _ _ _ => rfl⟩
    · cases h
  | .bl b, u, h => by
    unfold conV at h
    split at h
    · have := eq_of_beq h
      subst this
      exact ⟨.bl _, rfl, fun _ _ _ _ => rfl⟩
    · cases h
  | .int i, u, h => by
    unfold conV at h
    split at h
    · have := of_decide_eq_true h
      subst this
      exact ⟨.int _, ⟨_, rfl⟩, fun _ _ _ _ => rfl⟩
    · cases h
  | .str s, u, h => by
    unfold conV at h
    split at h
    · have := of_decide_eq_true h
      subst this
      exact ⟨.str _, ⟨_, rfl⟩, fun _ _ _ _ => rfl⟩
    · cases h
  | .tup ds, u, h => by
    unfold conV at h
    split at h
    · rename_i a
      split at h
      · rename_i c od its n osl q
        obtain ⟨h1, h2⟩ := ba h
        obtain ⟨h3, h4⟩ := ba h2
        obtain ⟨vs, r1, r2⟩ := conVs_ok ds its.toList h4
        exact ⟨.ref a, rfl, fun F r n H => ⟨a, vs, rfl, .inr ⟨_, its, _, q, congrArg Value.type (of_decide_eq_true h1), rfl, of_decide_eq_true h3, r1⟩, r2 F r n H⟩⟩
      · cases h
    · cases h
  | .lst _, u, h => by unfold conV at h; cases h
  | .dct _ _, u, h => by unfold conV at h; cases h
  | .scr _, u, h => by unfold conV at h; cases h
  | .ref _, u, h => by unfold conV at h; cases h
theorem conVs_ok {K : PySem.W.Frag} : ∀ (ds : List D) (us : List Value), conVs K us ds = true → ∃ vs, Vals vs us ∧ ∀ F r n H, Reps K F r n H vs ds
  | [], [], _ => ⟨[], .nil, fun _ _ _ _ => trivial⟩
  | [], _ :: _, h => by unfold conVs at h; cases h
  | _ :: _, [], h => by unfold conVs at h; cases h
  | d :: ds, u :: us, h => by
    unfold conVs at h
    obtain ⟨h1, h2⟩ := ba h
    obtain ⟨v, a1, a2⟩ := conV_ok d u h1
    obtain ⟨vs, b1, b2⟩ := conVs_ok ds us h2
    exact ⟨v :: vs, .cons a1 b1, fun F r n H => ⟨a2 F r n H, b2 F r n H⟩⟩
end
def conOk (K : PySem.W.Frag) (p : Str × D) : Bool := match PySem.W.nsIn K mainGlobals p.1 with
  | some (some u) => conV K u p.2
  | _ => false
def bNames : List Str := ["len", "abs", "int", "min", "max", "tuple", "list", "all", "sum", "sorted", "dict", "bool", "str", "range", "zip", "enumerate", "isinstance", "set"]
def faOf (fns : List Str) : List He.Fa := fns.map He.Fa.glo ++ bNames.map He.Fa.free
def fnOf (ds : List Df) : List He.DefD := ds.map fun d => ⟨(d.x, none), d.x, d.x, d.pa, d.body, d.sc, [], []⟩
def obsM (fa : List He.Fa) (fn : List He.DefD) (con : List (Str × D)) (K : PySem.W.Frag) : He.AlD := ((He.obsD fa fn K).1 && con.all (conOk K), (He.obsD fa fn K).2)
def SaysM (fa : List He.Fa) (fn : List He.DefD) (con : List (Str × D)) (K : PySem.W.Frag) : Prop := obsM fa fn con K = He.valD fn
def obsMG (n : Nat) (fa : List He.Fa) (fn : List He.DefD) (con : List (Str × D)) (g : Addr → Option Obj) : He.AlD := obsM fa fn con (He.frG g (He.asD g n))
def hookM (n : Nat) (fa : List He.Fa) (fn : List He.DefD) (con : List (Str × D)) : PySem.W.Hook where
  α := He.AlD
  obs := fun s => obsMG n fa fn con s.heap.get?
  val := fun _ => He.valD fn
  says := fun _ h => ∃ K : PySem.W.Frag, K.In h ∧ SaysM fa fn con K
  of := fun _ _ e => ⟨_, He.frG_in, e⟩
  keeps := fun _ _ _ ⟨K, hK, c⟩ k => ⟨K, PySem.W.Frag.In.keeps hK k, c⟩
theorem obsMG_eq {n : Nat} {fa : List He.Fa} {fn : List He.DefD} {con : List (Str × D)} {g : Addr → Option Obj} {s : Shared} (h : ∀ a, g a = s.heap.get? a) : obsMG n fa fn con g = (hookM n fa fn con).obs s := by
  have e : g = s.heap.get? := funext h
  rw [e] <;> rfl
section
variable {fa : List He.Fa} {fn : List He.DefD} {con : List (Str × D)} {K : PySem.W.Frag}
theorem SaysM.d (c : SaysM fa fn con K) : He.SaysD fa fn K := by
  have e1 : ((He.obsD fa fn K).1 && con.all (conOk K)) = true := congrArg (fun z : He.AlD => z.1) c
  have e2 : (He.obsD fa fn K).2 = fn.map He.DefD.val := congrArg (fun z : He.AlD => z.2) c
  have e3 := (ba e1).1
  show He.obsD fa fn K = He.valD fn
  rw [show He.obsD fa fn K = ((He.obsD fa fn K).1, (He.obsD fa fn K).2) from rfl, e3, e2]
  rfl
theorem SaysM.cn (c : SaysM fa fn con K) : con.all (conOk K) = true := (ba (show ((He.obsD fa fn K).1 && con.all (conOk K)) = true from congrArg (fun z : He.AlD => z.1) c)).2
theorem lookup_mem {x : Str} {d : D} : ∀ {l : List (Str × D)}, l.lookup x = some d → (x, d) ∈ l
  | [], h => by cases h
  | (y, e) :: l, h => by
    rw [List.lookup_cons] at h
    split at h
    · rename_i q
      cases h
      rw [eq_of_beq q]
      exact List.mem_cons_self ..
    · exact List.mem_cons_of_mem _ (lookup_mem h)
theorem bNames_of {x : Str} (h : (bltOf x).isSome = true ∨ (tyOf x).isSome = true ∨ (x == ("range" : Str) || x == ("zip" : Str) || x == ("enumerate" : Str) || x == ("isinstance" : Str) || x == ("set" : Str)) = true) : x ∈ bNames := by
  have m : ∀ {s : Str}, (x == s) = true → s ∈ bNames → x ∈ bNames := fun e h => by rw [eq_of_beq e]; exact h
  rcases h with h | h | h
  · unfold bltOf at h
    repeat' (first | (split at h; · exact m (by assumption) (by decide +kernel)) | cases h)
  · unfold tyOf at h
    repeat' (first | (split at h; · exact m (by assumption) (by decide +kernel)) | cases h)
  · simp only [Bool.or_eq_true] at h
    rcases h with (((h | h) | h) | h) | h
    · exact m h (by decide +kernel)
    · exact m h (by decide +kernel)
    · exact m h (by decide +kernel)
    · exact m h (by decide +kernel)
    · exact m h (by decide +kernel)
variable {h : Heap} {mg : Str → Option Value} {fns : List Str} {ds : List Df}
theorem mg_ok (X : K.In h) (G : h.Ns mainGlobals mg) (c : SaysM (faOf fns) fn con K) : MgOk con K mg := by
  have fr : ∀ x, x ∈ bNames → mg x = none := fun x hx => He.free_ok X G (List.all_eq_true.mp (ba (show (((faOf fns).all fun f => f.ok K) && fn.all fun d => d.ok K) = true from congrArg (fun z : He.AlD => z.1) c.d)).1 _ (List.mem_append_right _ (List.mem_map_of_mem hx)))
  refine ⟨fun x hx => fr x (bNames_of (.inl hx)), fun x hx => fr x (bNames_of (.inr (.inl hx))), fun x hx => fr x (bNames_of (.inr (.inr hx))), fun x dd hx => ?_⟩
  have h1 := List.all_eq_true.mp c.cn _ (lookup_mem hx)
  unfold conOk at h1
  dsimp only at h1
  split at h1
  · rename_i u e
    obtain ⟨v, a1, a2⟩ := conV_ok dd u h1
    exact ⟨v, u, PySem.W.mg_of X G e, a1, a2⟩
  · cases h1
/-- how a def binds its parameters -/
def BindsP (d : Df) : Prop := ∀ (kV doc pm : Value) (an : Option Addr) (cdv ct : Value) (us : List Value), us.length = d.ps.length → bindArgs (PySem.W.fnOf d.x d.x d.pa d.body d.sc .none kV doc pm an cdv ct) ⟨us, []⟩ = pure (d.ps.zip us)
theorem at_ok (X : K.In h) (G : h.Ns mainGlobals mg) (c : SaysM (faOf (ds.map (·.x))) (fnOf ds) con K) (hb : ∀ d ∈ ds, BindsP d) (i : Nat) (d : Df) (hi : ds[i]? = some d) : ∃ fa fd, DfAt K mg d fa fd := by
  obtain ⟨fd, F⟩ := c.d.def_ i (d := ⟨(d.x, none), d.x, d.x, d.pa, d.body, d.sc, [], []⟩) (by unfold fnOf; rw [List.getElem?_map, hi]; rfl)
  have hm := List.mem_of_getElem? hi
  have g : mg d.x = some (.ref (He.ga K d.x)) := He.glo_ok X G (List.all_eq_true.mp (ba (show (((faOf (ds.map (·.x))).all fun f => f.ok K) && (fnOf ds).all fun d => d.ok K) = true from congrArg (fun z : He.AlD => z.1) c.d)).1 _ (List.mem_append_left _ (List.mem_map_of_mem (List.mem_map_of_mem hm))))
  exact ⟨_, fd, F, g, F.bindsN fun kV doc pm an cdv ct us hl => hb d hm kV doc pm an cdv ct us hl⟩
end
/-- the law's own promise -/
def spLaw (K : PySem.W.Frag) (n : Nat) : Sp := fun vs H Q _ => ∃ (a : Addr) (ns : List Int), vs = [.ref a] ∧ ns.length ≤ n ∧ SqL K H a (ns.map V.int) ∧ ∀ H', Q (.bl true) H'
theorem law_sp {K : PySem.W.Frag} {fs : List Fn} {frf : Nat → Bool} {k i n : Nat} (hl : ∀ ns : List Int, ns.length ≤ n → callD fs k i [.scr (ns.map D.int)] [] = some (.bl true, [])) : ∀ vs H Q E, spLaw K n vs H Q E → spF K fs frf k i vs H Q E := by
  intro vs H Q E ⟨a, ns, hv, hn, hS, hQ⟩
  have key : ∀ F : FP, (∀ p, F p → ∃ o, H p = some o) → ((F a ∧ Rd H a (.lst (ns.map V.int))) ∨ KL K a (ns.map V.int)) → spF K fs frf k i vs H Q E := fun F hd hs => by
    have hR : RH K (fun _ => False) F (fun _ => 0) [] H := ⟨fun i o e => (by cases e), fun i j hi _ => absurd hi (Nat.not_lt_zero _), fun i hi => absurd hi (Nat.not_lt_zero _), hd, fun _ z => z.elim, fun _ z => z.elim, fun i hi => absurd hi (Nat.not_lt_zero _)⟩
    refine ⟨fun _ => False, F, fun _ => 0, [], [.scr (ns.map D.int)], .bl true, [], hR, ?_, hl ns hn, fun v F' r' H' _ _ x => ?_⟩
    · rw [hv]
      exact ⟨⟨a, ns, rfl, hs, rfl⟩, trivial⟩
    · have : v = .bl true := by cases q : frf i <;> (rw [q] at x; exact x)
      rw [this]
      exact hQ H'
  rcases hS with hS | hS
  · refine key (fun p => p = a) (fun p hp => ?_) (.inl ⟨rfl, hS⟩)
    subst hp
    rcases hS with hS | ⟨o, hS⟩
    · exact ⟨_, hS⟩
    · exact ⟨_, hS⟩
  · obtain ⟨o, its, m, h1, h2, h3, h4, h5, h6⟩ := hS
    exact key (fun _ => False) (fun _ z => z.elim) (.inr ⟨o, its, m, h1, h2, h3, h4, h5, h6⟩)
end Mi
namespace Mi
open PySem PySem.Spec PyProof.Rows L2

/-! ### reckoning with Mini -/
def OkM (M : Mem) : Prop := M.all (MO.lo M.length) = true
mutual
/-- no reference within -/
def D.pure : D → Bool
  | .ref _ => false
  | .scr _ => false
  | .tup xs => D.pures xs
  | .lst xs => D.pures xs
  | .dct _ xs => D.pures xs
  | _ => true
def D.pures : List D → Bool
  | [] => true
  | x :: xs => D.pure x && D.pures xs
end
mutual
theorem pure_out {n : Nat} {M : Mem} {f : List D → Option (List D)} : ∀ d : D, d.pure = true → D.out n M f d = some d
  | .non, _ => rfl
  | .bl _, _ => rfl
  | .int _, _ => rfl
  | .str _, _ => rfl
  | .tup xs, h => by unfold D.out; rw [pures_out xs h]; rfl
  | .lst xs, h => by unfold D.out; rw [pures_out xs h]; rfl
  | .dct ks xs, h => by unfold D.out; rw [pures_out xs h]; rfl
  | .scr _, h => by cases h
  | .ref _, h => by cases h
theorem pures_out {n : Nat} {M : Mem} {f : List D → Option (List D)} : ∀ ds : List D, D.pures ds = true → D.outs n M f ds = some ds
  | [], _ => rfl
  | d :: ds, h => by
    have h' : (d.pure && D.pures ds) = true := h
    rw [Bool.and_eq_true] at h'
    unfold D.outs
    rw [pure_out d h'.1, Option.bind_some, pures_out ds h'.2]
    rfl
end
mutual
theorem pure_lo {n : Nat} : ∀ d : D, d.pure = true → D.lo n d = true
  | .non, _ => rfl
  | .bl _, _ => rfl
  | .int _, _ => rfl
  | .str _, _ => rfl
  | .tup xs, h => pures_lo xs h
  | .lst xs, h => pures_lo xs h
  | .dct _ xs, h => pures_lo xs h
  | .scr _, h => by cases h
  | .ref _, h => by cases h
theorem pures_lo {n : Nat} : ∀ ds : List D, D.pures ds = true → D.los n ds = true
  | [], _ => rfl
  | d :: ds, h => by
    have h' : (d.pure && D.pures ds) = true := h
    rw [Bool.and_eq_true] at h'
    show (D.lo n d && D.los n ds) = true
    rw [pure_lo d h'.1, pures_lo ds h'.2]
    rfl
end
theorem pure_ref {d : D} (h : d.pure = true) : d.isRef = false := by cases d <;> first | rfl | cases h
theorem fin_pure {fr : Bool} {M : Mem} {d : D} (hM : OkM M) (hd : d.pure = true) : fin fr M.length d M = some (d, M) := by
  unfold fin
  rw [pure_ref hd, Bool.and_false, if_neg (by decide), pure_out d hd, Option.bind_some, List.take_length, if_pos (show M.all (MO.lo M.length) = true from hM)]
theorem call_rt {fs : List Fn} {k i : Nat} {f : Fn} {ds : List D} {M M' : Mem} {d : D} {r : D × Mem} (hf : fs[i]? = some f) (hl : ds.length = f.ps) (he : exec (callD fs k) f.body (ds.map some ++ List.replicate (f.slots - f.ps) none) M = some (.rt d M')) (ho : fin f.fr M.length d M' = some r) :
    callD fs (k + 1) i ds M = some r := by
  show ((fs[i]?).bind fun fn => fn.run (callD fs k) ds M) = some r
  rw [hf, Option.bind_some]
  unfold Fn.run
  rw [if_pos hl, he]
  exact ho
theorem call_nx {fs : List Fn} {k i : Nat} {f : Fn} {ds : List D} {M M' : Mem} {σ : Sl} {r : D × Mem} (hf : fs[i]? = some f) (hl : ds.length = f.ps) (he : exec (callD fs k) f.body (ds.map some ++ List.replicate (f.slots - f.ps) none) M = some (.nx σ M')) (ho : fin f.fr M.length .non M' = some r) :
    callD fs (k + 1) i ds M = some r := by
  show ((fs[i]?).bind fun fn => fn.run (callD fs k) ds M) = some r
  rw [hf, Option.bind_some]
  unfold Fn.run
  rw [if_pos hl, he]
  exact ho
/-- a def that changes nothing -/
theorem call_pure {fs : List Fn} {k i : Nat} {f : Fn} {ds : List D} {M : Mem} {d : D} (hM : OkM M) (hd : d.pure = true) (hf : fs[i]? = some f) (hl : ds.length = f.ps) (he : exec (callD fs k) f.body (ds.map some ++ List.replicate (f.slots - f.ps) none) M = some (.rt d M)) :
    callD fs (k + 1) i ds M = some (d, M) := call_rt hf hl he (fin_pure hM hd)
theorem call_none {fs : List Fn} {k i : Nat} {f : Fn} {ds : List D} {M : Mem} {σ : Sl} (hM : OkM M) (hf : fs[i]? = some f) (hl : ds.length = f.ps) (he : exec (callD fs k) f.body (ds.map some ++ List.replicate (f.slots - f.ps) none) M = some (.nx σ M)) :
    callD fs (k + 1) i ds M = some (.non, M) := call_nx hf hl he (fin_pure hM rfl)
/-! ### the evaluator's equations, but those of comprehensions and loops -/
section
variable {cf : CF} {σ : Sl} {M : Mem} {a b c es lo hi : ME}
theorem ev_var {i : Nat} : ev cf (.var i) σ M = (σ[i]?).join.map (·, M) := rfl
theorem ev_cst {d : D} : ev cf (.cst d) σ M = some (d, M) := rfl
theorem ev_bin {op : Operator} : ev cf (.bin op a b) σ M = (ev cf a σ M).bind fun x => (ev cf b σ x.2).bind fun y => (binD y.2 op x.1 y.1).map (·, y.2) := rfl
theorem ev_cmp {op : CmpOp} : ev cf (.cmp op a b) σ M = (ev cf a σ M).bind fun x => (ev cf b σ x.2).bind fun y => (cmpD y.2 op x.1 y.1).map fun r => (.bl r, y.2) := rfl
theorem ev_chain {op op' : CmpOp} : ev cf (.chain op op' a b c) σ M = (ev cf a σ M).bind fun x => (ev cf b σ x.2).bind fun y => (cmpD y.2 op x.1 y.1).bind fun r => if r then (ev cf c σ y.2).bind fun z => (cmpD z.2 op' y.1 z.1).map fun r => (.bl r, z.2) else some (.bl false, y.2) := rfl
theorem ev_neg : ev cf (.neg a) σ M = (ev cf a σ M).bind fun x => match x.1 with
    | .int i => some (.int (-i), x.2)
    | _ => none := rfl
theorem ev_not : ev cf (.not a) σ M = (ev cf a σ M).bind fun x => (truD x.2 x.1).map fun t => (.bl !t, x.2) := rfl
theorem ev_and : ev cf (.and a b) σ M = (ev cf a σ M).bind fun x => (truD x.2 x.1).bind fun t => if t then ev cf b σ x.2 else some x := rfl
theorem ev_or : ev cf (.or a b) σ M = (ev cf a σ M).bind fun x => (truD x.2 x.1).bind fun t => if t then some x else ev cf b σ x.2 := rfl
theorem ev_ite : ev cf (.ite c a b) σ M = (ev cf c σ M).bind fun x => (truD x.2 x.1).bind fun t => if t then ev cf a σ x.2 else ev cf b σ x.2 := rfl
theorem ev_tup : ev cf (.tup es) σ M = (evs cf es σ M).map fun x => (.tup x.1, x.2) := rfl
theorem ev_lst : ev cf (.lst es) σ M = (evs cf es σ M).map fun x => (.lst x.1, x.2) := rfl
theorem ev_dsp : ev cf (.dsp es) σ M = (evs cf es σ M).bind fun x => (evenD x.1 [] []).map fun p => (.dct p.1 p.2, x.2) := rfl
theorem ev_idx : ev cf (.idx a b) σ M = (ev cf a σ M).bind fun x => (ev cf b σ x.2).bind fun y => (ixD y.2 x.1 y.1).map (·, y.2) := rfl
theorem ev_slice : ev cf (.slice a lo hi) σ M = (ev cf a σ M).bind fun x => (evs cf lo σ x.2).bind fun l => (evs cf hi σ l.2).bind fun h => (partOf l.1).bind fun lo' => (partOf h.1).bind fun hi' => (slD h.2 x.1 lo' hi').map (·, h.2) := rfl
theorem ev_rev : ev cf (.rev a) σ M = (ev cf a σ M).bind fun x => (revD x.2 x.1).map (·, x.2) := rfl
theorem ev_call {f : Nat} : ev cf (.call f es) σ M = (evs cf es σ M).bind fun x => cf f x.1 x.2 := rfl
theorem ev_blt {b : Blt} : ev cf (.blt b es) σ M = (evs cf es σ M).bind fun x => (bltD x.2 b x.1).map (·, x.2) := rfl
theorem ev_isi {t : Ty} : ev cf (.isi a t) σ M = (ev cf a σ M).bind fun x => (isiD x.2 x.1 t).map fun r => (.bl r, x.2) := rfl
theorem ev_mth {m : Mth} : ev cf (.mth m a es) σ M = (ev cf a σ M).bind fun x => (lstOf x.2 x.1).bind fun _ => (evs cf es σ x.2).bind fun y => mthD y.2 m x.1 y.1 := rfl
theorem evs_nil : evs cf .nil σ M = some ([], M) := rfl
theorem evs_cons : evs cf (.cons a es) σ M = (ev cf a σ M).bind fun x => (evs cf es σ x.2).map fun y => (x.1 :: y.1, y.2) := rfl
variable {s t : MS}
theorem ex_skip : exec cf .skip σ M = some (.nx σ M) := rfl
theorem ex_seq : exec cf (.seq s t) σ M = (exec cf s σ M).bind fun o => match o with
    | .nx σ' M' => exec cf t σ' M'
    | o => some o := rfl
theorem ex_asg {t : MT} : exec cf (.asg t a) σ M = (ev cf a σ M).bind fun x => (asgT t [x.1] σ).map fun σ' => .nx σ' x.2 := rfl
theorem ex_box {i : Nat} : exec cf (.box i a) σ M = (ev cf a σ M).bind fun x => (boxD true x.1 x.2).map fun y => .nx (σ.set i (some y.1)) y.2 := rfl
theorem ex_parN {is : List Nat} {bs : List Bool} : exec cf (.parN is bs es) σ M = (evs cf es σ M).bind fun x => (boxs bs x.1 x.2).bind fun y => if y.1.length = is.length then some (.nx (setAll σ is y.1) y.2) else none := rfl
theorem ex_seti : exec cf (.seti a b c) σ M = (ev cf c σ M).bind fun v => (ev cf a σ v.2).bind fun x => (ev cf b σ x.2).bind fun y => match x.1, y.1 with
    | .ref j, k => (match y.2[j]? with
      | some (.lst xs) => (match k with
        | .int k => (ixN xs.length k).map fun m => .nx σ (y.2.set j (.lst (xs.set m v.1)))
        | _ => none)
      | some (.dct ks xs) => (keyOf k).bind fun k => if ks.length < line then some (.nx σ (y.2.set j (.dct (putKs ks xs k v.1).1 (putKs ks xs k v.1).2))) else none
      | none => none)
    | _, _ => none := rfl
theorem ex_expr : exec cf (.expr a) σ M = (ev cf a σ M).map fun x => .nx σ x.2 := rfl
theorem ex_ret : exec cf (.ret a) σ M = (ev cf a σ M).map fun x => .rt x.1 x.2 := rfl
theorem ex_if : exec cf (.iff c s t) σ M = (ev cf c σ M).bind fun x => (truD x.2 x.1).bind fun b => if b then exec cf s σ x.2 else exec cf t σ x.2 := rfl
theorem ex_brk : exec cf .brk σ M = some (.bk σ M) := rfl
theorem ex_cont : exec cf .cont σ M = some (.ct σ M) := rfl
end
section
variable {x y : List Nat} {i j : Int} {a b : Bool} {xs ys : List D} {d e : D} {n : Nat}
theorem eqv_str : D.eqv (.str x) (.str y) = (x == y) := rfl
theorem eqv_int : D.eqv (.int i) (.int j) = (i == j) := rfl
theorem eqv_bl : D.eqv (.bl a) (.bl b) = (a == b) := rfl
theorem eqv_non : D.eqv .non .non = true := rfl
theorem eqv_si : D.eqv (.str x) (.int j) = false := rfl
theorem eqv_is : D.eqv (.int i) (.str y) = false := rfl
theorem eqv_tup : D.eqv (.tup xs) (.tup ys) = D.eqvs xs ys := rfl
theorem eqv_lst : D.eqv (.lst xs) (.lst ys) = D.eqvs xs ys := rfl
theorem eqv_tn : D.eqv (.tup xs) .non = false := rfl
theorem eqv_nt : D.eqv .non (.tup xs) = false := rfl
theorem eqvs_nil : D.eqvs [] [] = true := rfl
theorem eqvs_cons : D.eqvs (d :: xs) (e :: ys) = (D.eqv d e && D.eqvs xs ys) := rfl
theorem eqvs_nc : D.eqvs [] (e :: ys) = false := rfl
theorem eqvs_cn : D.eqvs (e :: ys) [] = false := rfl
theorem okN_non : D.okN n .non = true := by cases n <;> rfl
theorem okN_bl : D.okN n (.bl a) = true := by cases n <;> rfl
theorem okN_int : D.okN n (.int i) = true := by cases n <;> rfl
theorem okN_str : D.okN n (.str x) = x.all (· < 0x110000) := by cases n <;> rfl
theorem okN_tup : D.okN (n + 1) (.tup xs) = D.okNs n xs := rfl
theorem okN_lst : D.okN (n + 1) (.lst xs) = D.okNs n xs := rfl
theorem okNs_nil : D.okNs n [] = true := by cases n <;> rfl
theorem okNs_cons : D.okNs n (d :: xs) = (D.okN n d && D.okNs n xs) := by cases n <;> rfl
theorem okN_t64 : D.okN 64 (.tup xs) = D.okNs 63 xs := rfl
theorem okN_l64 : D.okN 64 (.lst xs) = D.okNs 63 xs := rfl
theorem okN_t63 : D.okN 63 (.tup xs) = D.okNs 62 xs := rfl
theorem okN_l63 : D.okN 63 (.lst xs) = D.okNs 62 xs := rfl
theorem okN_t62 : D.okN 62 (.tup xs) = D.okNs 61 xs := rfl
theorem okN_l62 : D.okN 62 (.lst xs) = D.okNs 61 xs := rfl
end
end Mi
namespace Mi
open PySem PySem.Spec PyProof.Rows L2

/-! ### walks -/
/-- the items of a walk, as long as the memory is this -/
structure Walk (s : Src) (M : Mem) (its : List D) : Prop where
  len : s.len M = some its.length
  get : ∀ (k : Nat) (x : D), its[k]? = some x → s.get M k = some x
theorem walk_seq {M : Mem} {d : D} {xs : List D} (h : seqOf M d = some xs) : Walk (.seq d) M xs := ⟨by show (seqOf M d).map List.length = _; rw [h]; rfl, fun k x hk => by show (seqOf M d).bind (·[k]?) = _; rw [h]; exact hk⟩
theorem walk_rng {M : Mem} {lo hi : Int} (h1 : -4611686018427387904 ≤ lo) (h2 : lo < 4611686018427387904) (h3 : -4611686018427387904 ≤ hi) (h4 : hi < 4611686018427387904) : Walk (.rng lo hi) M ((List.range (hi - lo).toNat).map fun k => .int (lo + (k : Nat))) := by
  refine ⟨?_, fun k x hk => ?_⟩
  · show (if _ then _ else _) = _
    rw [if_pos ⟨h1, h2, h3, h4⟩]
    simp
  · rw [List.getElem?_map] at hk
    obtain ⟨j, hj, rfl⟩ := Option.map_eq_some_iff.mp hk
    obtain ⟨hl, rfl⟩ := List.getElem?_eq_some_iff.mp hj
    rw [List.length_range] at hl
    rw [List.getElem_range]
    show (if _ then _ else _) = _
    rw [if_pos (by omega)]
theorem walk_enum {M : Mem} {d : D} {xs : List D} (h : lstOf M d = some xs) : Walk (.enum d) M (xs.zipIdx.map fun p => .tup [.int (p.2 : Nat), p.1]) := by
  have h' : seqOf M d = some xs := by
    unfold lstOf at h
    unfold seqOf
    split at h
    · rename_i q
      rw [q]
      exact h
    · cases h
  refine ⟨?_, fun k x hk => ?_⟩
  · show (lstOf M d).map List.length = _
    rw [h]
    simp
  · rw [List.getElem?_map] at hk
    obtain ⟨p, hp, rfl⟩ := Option.map_eq_some_iff.mp hk
    rw [List.getElem?_zipIdx] at hp
    obtain ⟨y, hy, rfl⟩ := Option.map_eq_some_iff.mp hp
    show (seqOf M d).bind (fun xs => (xs[k]?).map fun x => D.tup [.int k, x]) = _
    rw [h', Option.bind_some, hy]
    simp
theorem walk_zip {M : Mem} {d e : D} {xs ys : List D} (h : (rd M d = .lst xs ∧ rd M e = .lst ys) ∨ (rd M d = .tup xs ∧ rd M e = .tup ys)) : Walk (.zip d e) M ((xs.zip ys).map fun p => .tup [p.1, p.2]) := by
  have h1 : seqOf M d = some xs := by unfold seqOf; rcases h with h | h <;> rw [h.1]
  have h2 : seqOf M e = some ys := by unfold seqOf; rcases h with h | h <;> rw [h.2]
  refine ⟨?_, fun k x hk => ?_⟩
  · show ((seqOf M d).bind fun xs => (seqOf M e).bind fun ys => _) = _
    rw [h1, Option.bind_some, h2, Option.bind_some]
    rcases h with h | h <;> (rw [h.1, h.2]; simp)
  · rw [List.getElem?_map] at hk
    obtain ⟨p, hp, rfl⟩ := Option.map_eq_some_iff.mp hk
    obtain ⟨hx, hy⟩ := List.getElem?_zip_eq_some.mp hp
    show ((seqOf M d).bind fun xs => (seqOf M e).bind fun ys => (xs[k]?).bind fun x => (ys[k]?).map fun y => D.tup [x, y]) = _
    rw [h1, Option.bind_some, h2, Option.bind_some, hx, Option.bind_some, hy]
    rfl
theorem Walk.done {s : Src} {M : Mem} {its : List D} (w : Walk s M its) {n : Nat} : s.done M n = decide (its.length = n) := by
  unfold Src.done
  rw [w.len]
  by_cases c : its.length = n
  · simp [c]
  · simp [c]
/-- the turns of a walk over its items: I holds between them; the memory may change, the walk stays -/
theorem turns_ok {α : Type} {s : Src} {st : D → α → Option (α × Bool)} {mem : α → Mem} (its : List D) (I : Nat → α → Prop) (hw : ∀ k a, I k a → Walk s (mem a) its)
    (h : ∀ k a x, its[k]? = some x → I k a → ∃ a', st x a = some (a', true) ∧ I (k + 1) a') : ∀ (n k : Nat) (a : α), n + k = its.length → I k a → ∃ a', turns s st mem n k a = some (a', true) ∧ I its.length a'
  | 0, k, a, e, i => by
    refine ⟨a, ?_, by rw [← e, Nat.zero_add]; exact i⟩
    unfold turns
    rw [(hw k a i).done, if_pos (by simpa using (by omega : its.length = k))]
  | n + 1, k, a, e, i => by
    have hk : k < its.length := by omega
    have hx : its[k]? = some its[k] := List.getElem?_eq_getElem hk
    obtain ⟨a', h1, h2⟩ := h k a _ hx i
    obtain ⟨a2, h3, h4⟩ := turns_ok its I hw h n (k + 1) a' (by omega) h2
    refine ⟨a2, ?_, h4⟩
    unfold turns
    rw [(hw k a i).get k _ hx, Option.bind_some, h1, Option.bind_some]
    simp only [if_true]
    exact h3
/-- a comprehension: I of the memory between the turns, and of what is made so far (the last one first) -/
theorem comp_ok {cf : CF} {elt src cond : ME} {t : MT} {own : List Nat} {σ : Sl} {M M1 : Mem} {s : Src} (its : List D) (I : Nat → List D → Mem → Prop) (hs : evS cf src σ M = some (s, M1)) (hw : ∀ k a M', I k a M' → Walk s M' its) (hn : its.length ≤ line) (h0 : I 0 [] M1)
    (h : ∀ k a M' x, its[k]? = some x → I k a M' → ∃ σ2 c M2 p, asgT t [x] (wipeS σ own) = some σ2 ∧ ev cf cond σ2 M' = some (c, M2) ∧ truD M2 c = some p ∧ ((p = false ∧ I (k + 1) a M2) ∨ (p = true ∧ ∃ y M3, ev cf elt σ2 M2 = some (y, M3) ∧ I (k + 1) (y :: a) M3))) :
    ∃ a M', ev cf (.comp elt t src cond own) σ M = some (.lst a.reverse, M') ∧ I its.length a M' := by
  obtain ⟨⟨a, M'⟩, h1, h2⟩ := turns_ok (s := s) (mem := fun a : List D × Mem => a.2) (st := fun d a => (asgT t [d] (wipeS σ own)).bind fun σ2 => (ev cf cond σ2 a.2).bind fun c => (truD c.2 c.1).bind fun t =>
        if t then (ev cf elt σ2 c.2).map fun y => ((y.1 :: a.1, y.2), true) else some ((a.1, c.2), true)) its (fun k a => I k a.1 a.2) (fun k a i => hw k a.1 a.2 i) (fun k a x hx i => by
    obtain ⟨σ2, c, M2, p, e1, e2, e3, e4⟩ := h k a.1 a.2 x hx i
    rw [e1, Option.bind_some, e2, Option.bind_some, e3, Option.bind_some]
    rcases e4 with ⟨rfl, e4⟩ | ⟨rfl, y, M3, e5, e4⟩
    · exact ⟨(a.1, M2), rfl, e4⟩
    · refine ⟨(y :: a.1, M3), ?_, e4⟩
      simp only [if_true]
      rw [e5]
      rfl) its.length 0 ([], M1) (by omega) h0
  refine ⟨a, M', ?_, h2⟩
  show ((evS cf src σ M).bind fun s => (s.1.len s.2).bind fun n => if n ≤ line then _ else _) = _
  rw [hs, Option.bind_some]
  show ((s.len M1).bind fun n => if n ≤ line then _ else _) = _
  rw [(hw 0 [] M1 h0).len, Option.bind_some, if_pos hn]
  refine (congrArg (Option.map _) h1).trans rfl
/-- .. that changes nothing -/
theorem comp_pure {cf : CF} {elt src cond : ME} {t : MT} {own : List Nat} {σ : Sl} {M : Mem} {s : Src} (its : List D) (p : D → Bool) (g : D → D) (hs : evS cf src σ M = some (s, M)) (hw : Walk s M its) (hn : its.length ≤ line)
    (h : ∀ x ∈ its, ∃ σ2 c, asgT t [x] (wipeS σ own) = some σ2 ∧ ev cf cond σ2 M = some (c, M) ∧ truD M c = some (p x) ∧ (p x = true → ev cf elt σ2 M = some (g x, M))) :
    ev cf (.comp elt t src cond own) σ M = some (.lst ((its.filter p).map g), M) := by
  obtain ⟨a, M', h1, h2, h3⟩ := comp_ok (cf := cf) (elt := elt) (cond := cond) (t := t) (own := own) its (fun k a M' => M' = M ∧ a.reverse = ((its.take k).filter p).map g) hs (fun k a M' i => i.1 ▸ hw) hn ⟨rfl, rfl⟩ (fun k a M' x hx i => by
    obtain ⟨rfl, i⟩ := i
    obtain ⟨σ2, c, e1, e2, e3, e4⟩ := h x (List.mem_of_getElem? hx)
    refine ⟨σ2, c, M', p x, e1, e2, e3, ?_⟩
    have et : its.take (k + 1) = its.take k ++ [x] := by rw [List.take_succ, hx]; rfl
    cases q : p x with
    | false => exact .inl ⟨rfl, rfl, by rw [et, List.filter_append, List.map_append, i]; simp [q]⟩
    | true => exact .inr ⟨rfl, g x, M', e4 q, rfl, by rw [et, List.filter_append, List.map_append, List.reverse_cons, i]; simp [q]⟩)
  subst h2
  rw [List.take_length] at h3
  rw [h1, h3]
/-- .. without a test -/
theorem comp_map {cf : CF} {elt src cond : ME} {t : MT} {own : List Nat} {σ : Sl} {M : Mem} {s : Src} (its : List D) (g : D → D) (hs : evS cf src σ M = some (s, M)) (hw : Walk s M its) (hn : its.length ≤ line)
    (h : ∀ x ∈ its, ∃ σ2 c, asgT t [x] (wipeS σ own) = some σ2 ∧ ev cf cond σ2 M = some (c, M) ∧ truD M c = some true ∧ ev cf elt σ2 M = some (g x, M)) :
    ev cf (.comp elt t src cond own) σ M = some (.lst (its.map g), M) := by
  rw [comp_pure its (fun _ => true) g hs hw hn fun x hx => ?_, List.filter_eq_self.mpr fun _ _ => rfl]
  obtain ⟨σ2, c, h1, h2, h3, h4⟩ := h x hx
  exact ⟨σ2, c, h1, h2, h3, fun _ => h4⟩
/-- a for: I of the slots and the memory between the turns; no turn leaves it -/
theorem for_ok {s : Src} {t : MT} {b : Sl → Mem → Option Out} (its : List D) (I : Nat → Sl → Mem → Prop) (hw : ∀ k σ M, I k σ M → Walk s M its)
    (h : ∀ k σ M x, its[k]? = some x → I k σ M → ∃ σ1, asgT t [x] σ = some σ1 ∧ ∃ σ2 M2, (b σ1 M = some (.nx σ2 M2) ∨ b σ1 M = some (.ct σ2 M2)) ∧ I (k + 1) σ2 M2) : ∀ (n k : Nat) (σ : Sl) (M : Mem), n + k = its.length → I k σ M → ∃ σ' M', forN s t b n k σ M = some (.nx σ' M') ∧ I its.length σ' M'
  | 0, k, σ, M, e, i => by
    refine ⟨σ, M, ?_, by rw [← e, Nat.zero_add]; exact i⟩
    unfold forN
    rw [(hw k σ M i).done, if_pos (by simpa using (by omega : its.length = k))]
  | n + 1, k, σ, M, e, i => by
    have hk : k < its.length := by omega
    have hx : its[k]? = some its[k] := List.getElem?_eq_getElem hk
    obtain ⟨σ1, h1, σ2, M2, h2, h3⟩ := h k σ M _ hx i
    obtain ⟨σ', M', h4, h5⟩ := for_ok its I hw h n (k + 1) σ2 M2 (by omega) h3
    refine ⟨σ', M', ?_, h5⟩
    unfold forN
    rw [(hw k σ M i).get k _ hx, Option.bind_some, h1, Option.bind_some]
    rcases h2 with h2 | h2 <;> (rw [h2, Option.bind_some]; exact h4)
theorem exec_for {cf : CF} {t : MT} {src : ME} {b : MS} {σ σ' : Sl} {M M1 M' : Mem} {s : Src} {its : List D} (hs : evS cf src σ M = some (s, M1)) (hw : Walk s M1 its) (h : forN s t (exec cf b) its.length 0 σ M1 = some (.nx σ' M')) : exec cf (.forr t src b) σ M = some (.nx σ' M') := by
  show ((evS cf src σ M).bind fun s => (s.1.len s.2).bind fun n => forN s.1 t (exec cf b) n 0 σ s.2) = _
  rw [hs, Option.bind_some]
  show ((s.len M1).bind fun n => forN s t (exec cf b) n 0 σ M1) = _
  rw [hw.len, Option.bind_some]
  exact h
/-- a while: I with its measure; it ends by its test -/
theorem whl_ok {c : Sl → Mem → Option (D × Mem)} {b : Sl → Mem → Option Out} (I : Nat → Sl → Mem → Prop) (E : Sl → Mem → Prop)
    (h : ∀ m σ M, I m σ M → ∃ x M1 t, c σ M = some (x, M1) ∧ truD M1 x = some t ∧ ((t = false ∧ E σ M1) ∨ (t = true ∧ ∃ σ2 M2 m', (b σ M1 = some (.nx σ2 M2) ∨ b σ M1 = some (.ct σ2 M2)) ∧ m' < m ∧ I m' σ2 M2))) :
    ∀ (m n : Nat) (σ : Sl) (M : Mem), m < n → I m σ M → ∃ σ' M', whlN c b n σ M = some (.nx σ' M') ∧ E σ' M' := by
  intro m
  induction m using Nat.strongRecOn with
  | ind m ih =>
    intro n σ M hn i
    obtain ⟨n, rfl⟩ : ∃ j, n = j + 1 := ⟨n - 1, by omega⟩
    obtain ⟨x, M1, t, e1, e2, e3⟩ := h m σ M i
    unfold whlN
    rw [e1, Option.bind_some]
    show ∃ σ' M', (truD M1 x).bind _ = _ ∧ _
    rw [e2, Option.bind_some]
    rcases e3 with ⟨rfl, e3⟩ | ⟨rfl, σ2, M2, m', e4, hm, e3⟩
    · exact ⟨σ, M1, by simp, e3⟩
    · obtain ⟨σ', M', q1, q2⟩ := ih m' hm n σ2 M2 (by omega) e3
      refine ⟨σ', M', ?_, q2⟩
      simp only [if_true]
      rcases e4 with e4 | e4 <;> (rw [e4, Option.bind_some]; exact q1)
end Mi
namespace Mi
open PySem PySem.Spec PyProof.Rows L2

/-! ### memories that grow -/
mutual
theorem lo_up {n m : Nat} (h : n ≤ m) : ∀ d : D, D.lo n d = true → D.lo m d = true
  | .non, _ => rfl
  | .bl _, _ => rfl
  | .int _, _ => rfl
  | .str _, _ => rfl
  | .scr _, _ => rfl
  | .tup xs, l => los_up h xs l
  | .lst xs, l => los_up h xs l
  | .dct _ xs, l => los_up h xs l
  | .ref i, l => decide_eq_true (Nat.lt_of_lt_of_le (of_decide_eq_true l) h)
theorem los_up {n m : Nat} (h : n ≤ m) : ∀ ds : List D, D.los n ds = true → D.los m ds = true
  | [], _ => rfl
  | d :: ds, l => by
    have l' : (D.lo n d && D.los n ds) = true := l
    rw [Bool.and_eq_true] at l'
    show (D.lo m d && D.los m ds) = true
    rw [lo_up h d l'.1, los_up h ds l'.2]
    rfl
end
theorem MO.lo_up {n m : Nat} (h : n ≤ m) : ∀ {o : MO}, MO.lo n o = true → MO.lo m o = true
  | .lst xs, l => los_up h xs l
  | .dct _ xs, l => los_up h xs l
/-- objects without references -/
def MO.pure : MO → Bool
  | .lst xs => D.pures xs
  | .dct _ xs => D.pures xs
theorem MO.pure_lo {n : Nat} : ∀ {o : MO}, o.pure = true → MO.lo n o = true
  | .lst xs, h => pures_lo xs h
  | .dct _ xs, h => pures_lo xs h
theorem OkM.app {M : Mem} {o : MO} (h : OkM M) (ho : o.pure = true) : OkM (M ++ [o]) := by
  unfold OkM at *
  rw [List.all_append, Bool.and_eq_true]
  refine ⟨List.all_eq_true.mpr fun x hx => MO.lo_up (by simp) (List.all_eq_true.mp h x hx), ?_⟩
  simp [MO.pure_lo ho]
theorem app_get {M : Mem} {o : MO} : (M ++ [o])[M.length]? = some o := by simp
theorem app_set {M : Mem} {o o' : MO} : (M ++ [o]).set M.length o' = M ++ [o'] := by simp
theorem app_take {M : Mem} {o : MO} : (M ++ [o]).take M.length = M := by simp
/-- a while that may hand back -/
theorem whl_any {c : Sl → Mem → Option (D × Mem)} {b : Sl → Mem → Option Out} (I : Nat → Sl → Mem → Prop) (E : Out → Prop)
    (h : ∀ m σ M, I m σ M → ∃ x M1 t, c σ M = some (x, M1) ∧ truD M1 x = some t ∧ ((t = false ∧ E (.nx σ M1)) ∨ (t = true ∧ ((∃ σ2 M2 m', (b σ M1 = some (.nx σ2 M2) ∨ b σ M1 = some (.ct σ2 M2)) ∧ m' < m ∧ I m' σ2 M2) ∨ (∃ σ2 M2, b σ M1 = some (.bk σ2 M2) ∧ E (.nx σ2 M2)) ∨ ∃ d M2, b σ M1 = some (.rt d M2) ∧ E (.rt d M2))))) :
    ∀ (m n : Nat) (σ : Sl) (M : Mem), m < n → I m σ M → ∃ o, whlN c b n σ M = some o ∧ E o := by
  intro m
  induction m using Nat.strongRecOn with
  | ind m ih =>
    intro n σ M hn i
    obtain ⟨n, rfl⟩ : ∃ j, n = j + 1 := ⟨n - 1, by omega⟩
    obtain ⟨x, M1, t, e1, e2, e3⟩ := h m σ M i
    unfold whlN
    rw [e1, Option.bind_some]
    show ∃ o, (truD M1 x).bind _ = some o ∧ _
    rw [e2, Option.bind_some]
    rcases e3 with ⟨rfl, e3⟩ | ⟨rfl, e3⟩
    · exact ⟨_, rfl, e3⟩
    · simp only [if_true]
      rcases e3 with ⟨σ2, M2, m', e4, hm, e3⟩ | ⟨σ2, M2, e4, e3⟩ | ⟨d, M2, e4, e3⟩
      · obtain ⟨o, q1, q2⟩ := ih m' hm n σ2 M2 (by omega) e3
        refine ⟨o, ?_, q2⟩
        rcases e4 with e4 | e4 <;> (rw [e4, Option.bind_some]; exact q1)
      · rw [e4, Option.bind_some]
        exact ⟨_, rfl, e3⟩
      · rw [e4, Option.bind_some]
        exact ⟨_, rfl, e3⟩
end Mi
namespace Mi
open PySem PySem.Spec PyProof.Rows L2

/-! ### the evaluator by first-order steps: for simp, by value, with no binder on the way -/
section
variable {cf : CF} {σ : Sl} {M : Mem} {a b c es lo hi : ME} {x y v : D} {xs ys : List D} {n : Nat} {t : Bool} {i j : Int}
def k_pr (M : Mem) (o : Option D) : Option (D × Mem) := o.map (·, M)
theorem q_pr : k_pr M (some x) = some (x, M) := rfl
def k_bl (M : Mem) (o : Option Bool) : Option (D × Mem) := o.map fun r => (.bl r, M)
theorem q_bl : k_bl M (some t) = some (.bl t, M) := rfl
theorem q_var : ev cf (.var n) σ M = k_pr M (σ[n]?).join := rfl
theorem q_cst : ev cf (.cst x) σ M = some (x, M) := rfl
def k_bin1 (cf : CF) (op : Operator) (b : ME) (σ : Sl) (o : Option (D × Mem)) : Option (D × Mem) := o.bind fun x => (ev cf b σ x.2).bind fun y => (binD y.2 op x.1 y.1).map (·, y.2)
def k_bin2 (op : Operator) (x : D) (o : Option (D × Mem)) : Option (D × Mem) := o.bind fun y => (binD y.2 op x y.1).map (·, y.2)
theorem q_bin {op : Operator} : ev cf (.bin op a b) σ M = k_bin1 cf op b σ (ev cf a σ M) := rfl
theorem q_bin1 {op : Operator} : k_bin1 cf op b σ (some (x, M)) = k_bin2 op x (ev cf b σ M) := rfl
theorem q_bin2 {op : Operator} : k_bin2 op x (some (y, M)) = k_pr M (binD M op x y) := rfl
def k_cmp1 (cf : CF) (op : CmpOp) (b : ME) (σ : Sl) (o : Option (D × Mem)) : Option (D × Mem) := o.bind fun x => (ev cf b σ x.2).bind fun y => (cmpD y.2 op x.1 y.1).map fun r => (.bl r, y.2)
def k_cmp2 (op : CmpOp) (x : D) (o : Option (D × Mem)) : Option (D × Mem) := o.bind fun y => (cmpD y.2 op x y.1).map fun r => (.bl r, y.2)
theorem q_cmp {op : CmpOp} : ev cf (.cmp op a b) σ M = k_cmp1 cf op b σ (ev cf a σ M) := rfl
theorem q_cmp1 {op : CmpOp} : k_cmp1 cf op b σ (some (x, M)) = k_cmp2 op x (ev cf b σ M) := rfl
theorem q_cmp2 {op : CmpOp} : k_cmp2 op x (some (y, M)) = k_bl M (cmpD M op x y) := rfl
def k_ch1 (cf : CF) (op op' : CmpOp) (b c : ME) (σ : Sl) (o : Option (D × Mem)) : Option (D × Mem) := o.bind fun x => (ev cf b σ x.2).bind fun y => (cmpD y.2 op x.1 y.1).bind fun r => if r then (ev cf c σ y.2).bind fun z => (cmpD z.2 op' y.1 z.1).map fun r => (.bl r, z.2) else some (.bl false, y.2)
def k_ch2 (cf : CF) (op op' : CmpOp) (c : ME) (σ : Sl) (x : D) (o : Option (D × Mem)) : Option (D × Mem) := o.bind fun y => (cmpD y.2 op x y.1).bind fun r => if r then (ev cf c σ y.2).bind fun z => (cmpD z.2 op' y.1 z.1).map fun r => (.bl r, z.2) else some (.bl false, y.2)
def k_ch3 (cf : CF) (op' : CmpOp) (c : ME) (σ : Sl) (y : D) (M : Mem) (o : Option Bool) : Option (D × Mem) := o.bind fun r => if r then (ev cf c σ M).bind fun z => (cmpD z.2 op' y z.1).map fun r => (.bl r, z.2) else some (.bl false, M)
theorem q_ch {op op' : CmpOp} : ev cf (.chain op op' a b c) σ M = k_ch1 cf op op' b c σ (ev cf a σ M) := rfl
theorem q_ch1 {op op' : CmpOp} : k_ch1 cf op op' b c σ (some (x, M)) = k_ch2 cf op op' c σ x (ev cf b σ M) := rfl
theorem q_ch2 {op op' : CmpOp} : k_ch2 cf op op' c σ x (some (y, M)) = k_ch3 cf op' c σ y M (cmpD M op x y) := rfl
theorem q_ch3 {op' : CmpOp} : k_ch3 cf op' c σ y M (some t) = if t then k_cmp2 op' y (ev cf c σ M) else some (.bl false, M) := rfl
def k_neg (o : Option (D × Mem)) : Option (D × Mem) := o.bind fun x => match x.1 with
    | .int i => some (.int (-i), x.2)
    | _ => none
theorem q_neg : ev cf (.neg a) σ M = k_neg (ev cf a σ M) := rfl
theorem q_neg1 : k_neg (some (.int i, M)) = some (.int (-i), M) := rfl
def k_not1 (o : Option (D × Mem)) : Option (D × Mem) := o.bind fun x => (truD x.2 x.1).map fun t => (.bl !t, x.2)
def k_not2 (M : Mem) (o : Option Bool) : Option (D × Mem) := o.map fun t => (.bl !t, M)
theorem q_not : ev cf (.not a) σ M = k_not1 (ev cf a σ M) := rfl
theorem q_not1 : k_not1 (some (x, M)) = k_not2 M (truD M x) := rfl
theorem q_not2 : k_not2 M (some t) = some (.bl !t, M) := rfl
def k_and1 (cf : CF) (b : ME) (σ : Sl) (o : Option (D × Mem)) : Option (D × Mem) := o.bind fun x => (truD x.2 x.1).bind fun t => if t then ev cf b σ x.2 else some x
def k_and2 (cf : CF) (b : ME) (σ : Sl) (x : D) (M : Mem) (o : Option Bool) : Option (D × Mem) := o.bind fun t => if t then ev cf b σ M else some (x, M)
theorem q_and : ev cf (.and a b) σ M = k_and1 cf b σ (ev cf a σ M) := rfl
theorem q_and1 : k_and1 cf b σ (some (x, M)) = k_and2 cf b σ x M (truD M x) := rfl
theorem q_and2 : k_and2 cf b σ x M (some t) = if t then ev cf b σ M else some (x, M) := rfl
def k_or1 (cf : CF) (b : ME) (σ : Sl) (o : Option (D × Mem)) : Option (D × Mem) := o.bind fun x => (truD x.2 x.1).bind fun t => if t then some x else ev cf b σ x.2
def k_or2 (cf : CF) (b : ME) (σ : Sl) (x : D) (M : Mem) (o : Option Bool) : Option (D × Mem) := o.bind fun t => if t then some (x, M) else ev cf b σ M
theorem q_or : ev cf (.or a b) σ M = k_or1 cf b σ (ev cf a σ M) := rfl
theorem q_or1 : k_or1 cf b σ (some (x, M)) = k_or2 cf b σ x M (truD M x) := rfl
theorem q_or2 : k_or2 cf b σ x M (some t) = if t then some (x, M) else ev cf b σ M := rfl
def k_ite1 (cf : CF) (a b : ME) (σ : Sl) (o : Option (D × Mem)) : Option (D × Mem) := o.bind fun x => (truD x.2 x.1).bind fun t => if t then ev cf a σ x.2 else ev cf b σ x.2
def k_ite2 (cf : CF) (a b : ME) (σ : Sl) (M : Mem) (o : Option Bool) : Option (D × Mem) := o.bind fun t => if t then ev cf a σ M else ev cf b σ M
theorem q_ite : ev cf (.ite c a b) σ M = k_ite1 cf a b σ (ev cf c σ M) := rfl
theorem q_ite1 : k_ite1 cf a b σ (some (x, M)) = k_ite2 cf a b σ M (truD M x) := rfl
theorem q_ite2 : k_ite2 cf a b σ M (some t) = if t then ev cf a σ M else ev cf b σ M := rfl
def k_tup (o : Option (List D × Mem)) : Option (D × Mem) := o.map fun x => (.tup x.1, x.2)
def k_lst (o : Option (List D × Mem)) : Option (D × Mem) := o.map fun x => (.lst x.1, x.2)
theorem q_tup : ev cf (.tup es) σ M = k_tup (evs cf es σ M) := rfl
theorem q_tup1 : k_tup (some (xs, M)) = some (.tup xs, M) := rfl
theorem q_lst : ev cf (.lst es) σ M = k_lst (evs cf es σ M) := rfl
theorem q_lst1 : k_lst (some (xs, M)) = some (.lst xs, M) := rfl
def k_dsp (o : Option (List D × Mem)) : Option (D × Mem) := o.bind fun x => (evenD x.1 [] []).map fun p => (.dct p.1 p.2, x.2)
def k_dsp2 (M : Mem) (o : Option (List DK × List D)) : Option (D × Mem) := o.map fun p => (.dct p.1 p.2, M)
theorem q_dsp : ev cf (.dsp es) σ M = k_dsp (evs cf es σ M) := rfl
theorem q_dsp1 : k_dsp (some (xs, M)) = k_dsp2 M (evenD xs [] []) := rfl
theorem q_dsp2 {p : List DK × List D} : k_dsp2 M (some p) = some (.dct p.1 p.2, M) := rfl
def k_ix1 (cf : CF) (b : ME) (σ : Sl) (o : Option (D × Mem)) : Option (D × Mem) := o.bind fun x => (ev cf b σ x.2).bind fun y => (ixD y.2 x.1 y.1).map (·, y.2)
def k_ix2 (x : D) (o : Option (D × Mem)) : Option (D × Mem) := o.bind fun y => (ixD y.2 x y.1).map (·, y.2)
theorem q_idx : ev cf (.idx a b) σ M = k_ix1 cf b σ (ev cf a σ M) := rfl
theorem q_ix1 : k_ix1 cf b σ (some (x, M)) = k_ix2 x (ev cf b σ M) := rfl
theorem q_ix2 : k_ix2 x (some (y, M)) = k_pr M (ixD M x y) := rfl
def slP (M : Mem) (x : D) (l h : List D) : Option D := (partOf l).bind fun lo => (partOf h).bind fun hi => slD M x lo hi
def k_sl1 (cf : CF) (lo hi : ME) (σ : Sl) (o : Option (D × Mem)) : Option (D × Mem) := o.bind fun x => (evs cf lo σ x.2).bind fun l => (evs cf hi σ l.2).bind fun h => (slP h.2 x.1 l.1 h.1).map (·, h.2)
def k_sl2 (cf : CF) (hi : ME) (σ : Sl) (x : D) (o : Option (List D × Mem)) : Option (D × Mem) := o.bind fun l => (evs cf hi σ l.2).bind fun h => (slP h.2 x l.1 h.1).map (·, h.2)
def k_sl3 (x : D) (l : List D) (o : Option (List D × Mem)) : Option (D × Mem) := o.bind fun h => (slP h.2 x l h.1).map (·, h.2)
theorem q_slice : ev cf (.slice a lo hi) σ M = k_sl1 cf lo hi σ (ev cf a σ M) := by
  rw [ev_slice]
  unfold k_sl1 slP
  congr
  funext x
  congr
  funext l
  congr
  funext h
  cases partOf l.1 <;> cases partOf h.1 <;> rfl
theorem q_sl1 : k_sl1 cf lo hi σ (some (x, M)) = k_sl2 cf hi σ x (evs cf lo σ M) := rfl
theorem q_sl2 : k_sl2 cf hi σ x (some (xs, M)) = k_sl3 x xs (evs cf hi σ M) := rfl
theorem q_sl3 : k_sl3 x xs (some (ys, M)) = k_pr M (slP M x xs ys) := rfl
def slC (d : D) (lo hi : Option Int) : Option D := match d with
  | .tup xs => some (.tup (cutD xs lo hi))
  | .lst xs => some (.lst (cutD xs lo hi))
  | _ => none
theorem q_slP00 : slP M x [] [] = slC (rd M x) none none := rfl
theorem q_slP10 : slP M x [.int i] [] = slC (rd M x) (some i) none := rfl
theorem q_slP01 : slP M x [] [.int i] = slC (rd M x) none (some i) := rfl
theorem q_slP11 : slP M x [.int i] [.int j] = slC (rd M x) (some i) (some j) := rfl
theorem q_slCt {lo hi : Option Int} : slC (.tup xs) lo hi = some (.tup (cutD xs lo hi)) := rfl
theorem q_slCl {lo hi : Option Int} : slC (.lst xs) lo hi = some (.lst (cutD xs lo hi)) := rfl
def k_rev (o : Option (D × Mem)) : Option (D × Mem) := o.bind fun x => (revD x.2 x.1).map (·, x.2)
def revC (d : D) : Option D := match d with
  | .lst xs => some (.lst xs.reverse)
  | .tup xs => some (.tup xs.reverse)
  | _ => none
theorem q_rev : ev cf (.rev a) σ M = k_rev (ev cf a σ M) := rfl
theorem q_rev1 : k_rev (some (x, M)) = k_pr M (revD M x) := rfl
theorem q_revD : revD M x = revC (rd M x) := rfl
theorem q_revCl : revC (.lst xs) = some (.lst xs.reverse) := rfl
theorem q_revCt : revC (.tup xs) = some (.tup xs.reverse) := rfl
def k_call (cf : CF) (f : Nat) (o : Option (List D × Mem)) : Option (D × Mem) := o.bind fun x => cf f x.1 x.2
theorem q_call : ev cf (.call n es) σ M = k_call cf n (evs cf es σ M) := rfl
theorem q_call1 : k_call cf n (some (xs, M)) = cf n xs M := rfl
def k_blt (b : Blt) (o : Option (List D × Mem)) : Option (D × Mem) := o.bind fun x => (bltD x.2 b x.1).map (·, x.2)
theorem q_blt {b : Blt} : ev cf (.blt b es) σ M = k_blt b (evs cf es σ M) := rfl
theorem q_blt1 {b : Blt} : k_blt b (some (xs, M)) = k_pr M (bltD M b xs) := rfl
def k_isi (t : Ty) (o : Option (D × Mem)) : Option (D × Mem) := o.bind fun x => (isiD x.2 x.1 t).map fun r => (.bl r, x.2)
theorem q_isi {t : Ty} : ev cf (.isi a t) σ M = k_isi t (ev cf a σ M) := rfl
theorem q_isi1 {t : Ty} : k_isi t (some (x, M)) = k_bl M (isiD M x t) := rfl
def k_m1 (cf : CF) (m : Mth) (es : ME) (σ : Sl) (o : Option (D × Mem)) : Option (D × Mem) := o.bind fun x => (lstOf x.2 x.1).bind fun _ => (evs cf es σ x.2).bind fun y => mthD y.2 m x.1 y.1
def k_m2 (cf : CF) (m : Mth) (es : ME) (σ : Sl) (x : D) (M : Mem) (o : Option (List D)) : Option (D × Mem) := o.bind fun _ => (evs cf es σ M).bind fun y => mthD y.2 m x y.1
def k_m3 (m : Mth) (x : D) (o : Option (List D × Mem)) : Option (D × Mem) := o.bind fun y => mthD y.2 m x y.1
theorem q_mth {m : Mth} : ev cf (.mth m a es) σ M = k_m1 cf m es σ (ev cf a σ M) := rfl
theorem q_m1 {m : Mth} : k_m1 cf m es σ (some (x, M)) = k_m2 cf m es σ x M (lstOf M x) := rfl
theorem q_m2 {m : Mth} : k_m2 cf m es σ x M (some xs) = k_m3 m x (evs cf es σ M) := rfl
theorem q_m3 {m : Mth} : k_m3 m x (some (ys, M)) = mthD M m x ys := rfl
def k_c1 (cf : CF) (es : ME) (σ : Sl) (o : Option (D × Mem)) : Option (List D × Mem) := o.bind fun x => (evs cf es σ x.2).map fun y => (x.1 :: y.1, y.2)
def k_c2 (x : D) (o : Option (List D × Mem)) : Option (List D × Mem) := o.map fun y => (x :: y.1, y.2)
theorem q_nil : evs cf .nil σ M = some ([], M) := rfl
theorem q_cons : evs cf (.cons a es) σ M = k_c1 cf es σ (ev cf a σ M) := rfl
theorem q_c1 : k_c1 cf es σ (some (x, M)) = k_c2 x (evs cf es σ M) := rfl
theorem q_c2 : k_c2 x (some (xs, M)) = some (x :: xs, M) := rfl
def k_sSeq (o : Option (D × Mem)) : Option (Src × Mem) := o.map fun x => (.seq x.1, x.2)
theorem q_sSeq : evS cf (.sSeq a) σ M = k_sSeq (ev cf a σ M) := rfl
theorem q_sSeq1 : k_sSeq (some (x, M)) = some (.seq x, M) := rfl
def k_sEnum (o : Option (D × Mem)) : Option (Src × Mem) := o.map fun x => (.enum x.1, x.2)
theorem q_sEnum : evS cf (.sEnum a) σ M = k_sEnum (ev cf a σ M) := rfl
theorem q_sEnum1 : k_sEnum (some (x, M)) = some (.enum x, M) := rfl
def k_sR1 (cf : CF) (b : ME) (σ : Sl) (o : Option (D × Mem)) : Option (Src × Mem) := o.bind fun x => (ev cf b σ x.2).bind fun y => match x.1, y.1 with
    | .int i, .int j => some (.rng i j, y.2)
    | _, _ => none
def k_sR2 (i : Int) (o : Option (D × Mem)) : Option (Src × Mem) := o.bind fun y => match y.1 with
    | .int j => some (.rng i j, y.2)
    | _ => none
theorem q_sR : evS cf (.sRange a b) σ M = k_sR1 cf b σ (ev cf a σ M) := rfl
theorem q_sR1 : k_sR1 cf b σ (some (.int i, M)) = k_sR2 i (ev cf b σ M) := by
  show ((ev cf b σ M).bind _) = ((ev cf b σ M).bind _)
  congr
  funext y
  rcases y with ⟨d, M⟩
  cases d <;> rfl
theorem q_sR2 : k_sR2 i (some (.int j, M)) = some (.rng i j, M) := rfl
def k_sZ1 (cf : CF) (b : ME) (σ : Sl) (o : Option (D × Mem)) : Option (Src × Mem) := o.bind fun x => (ev cf b σ x.2).map fun y => (.zip x.1 y.1, y.2)
def k_sZ2 (x : D) (o : Option (D × Mem)) : Option (Src × Mem) := o.map fun y => (.zip x y.1, y.2)
theorem q_sZ : evS cf (.sZip a b) σ M = k_sZ1 cf b σ (ev cf a σ M) := rfl
theorem q_sZ1 : k_sZ1 cf b σ (some (x, M)) = k_sZ2 x (ev cf b σ M) := rfl
theorem q_sZ2 : k_sZ2 x (some (y, M)) = some (.zip x y, M) := rfl
end
section
variable {cf : CF} {σ σ' : Sl} {M : Mem} {a b c es : ME} {x y v : D} {xs ys : List D} {n : Nat} {t : Bool} {i j : Int} {s s' : MS}
def k_seq (cf : CF) (s' : MS) (o : Option Out) : Option Out := o.bind fun o => match o with
    | .nx σ' M' => exec cf s' σ' M'
    | o => some o
theorem q_seq : exec cf (.seq s s') σ M = k_seq cf s' (exec cf s σ M) := rfl
theorem q_seqn : k_seq cf s' (some (.nx σ M)) = exec cf s' σ M := rfl
theorem q_seqr : k_seq cf s' (some (.rt x M)) = some (.rt x M) := rfl
theorem q_seqb : k_seq cf s' (some (.bk σ M)) = some (.bk σ M) := rfl
theorem q_seqc : k_seq cf s' (some (.ct σ M)) = some (.ct σ M) := rfl
theorem q_skip : exec cf .skip σ M = some (.nx σ M) := rfl
theorem q_brk : exec cf .brk σ M = some (.bk σ M) := rfl
theorem q_cont : exec cf .cont σ M = some (.ct σ M) := rfl
def k_asg (t : MT) (σ : Sl) (o : Option (D × Mem)) : Option Out := o.bind fun x => (asgT t [x.1] σ).map fun σ' => .nx σ' x.2
def k_asg2 (M : Mem) (o : Option Sl) : Option Out := o.map fun σ' => .nx σ' M
theorem q_asg {t : MT} : exec cf (.asg t a) σ M = k_asg t σ (ev cf a σ M) := rfl
theorem q_asg1 {t : MT} : k_asg t σ (some (x, M)) = k_asg2 M (asgT t [x] σ) := rfl
theorem q_asg2 : k_asg2 M (some σ) = some (.nx σ M) := rfl
def k_at (ts : MT) (xs : List D) (o : Option Sl) : Option Sl := o.bind (asgT ts xs)
theorem q_at_nm : asgT (.nm n) [x] σ = some (σ.set n (some x)) := rfl
theorem q_at_tp {ts : MT} : asgT (.tp ts) [.tup xs] σ = asgT ts xs σ := rfl
theorem q_at_nil : asgT .nil [] σ = some σ := rfl
theorem q_at_cons {t ts : MT} : asgT (.cons t ts) (x :: xs) σ = k_at ts xs (asgT t [x] σ) := rfl
theorem q_at1 {ts : MT} : k_at ts xs (some σ) = asgT ts xs σ := rfl
def k_box (n : Nat) (σ : Sl) (o : Option (D × Mem)) : Option Out := o.bind fun x => (boxD true x.1 x.2).map fun y => .nx (σ.set n (some y.1)) y.2
def k_box2 (n : Nat) (σ : Sl) (o : Option (D × Mem)) : Option Out := o.map fun y => .nx (σ.set n (some y.1)) y.2
theorem q_box : exec cf (.box n a) σ M = k_box n σ (ev cf a σ M) := rfl
theorem q_box1 : k_box n σ (some (x, M)) = k_box2 n σ (boxD true x M) := rfl
theorem q_box2 : k_box2 n σ (some (x, M)) = some (.nx (σ.set n (some x)) M) := rfl
theorem q_bxl : boxD true (.lst xs) M = some (.ref M.length, M ++ [.lst xs]) := rfl
theorem q_bxd {ks : List DK} : boxD true (.dct ks xs) M = some (.ref M.length, M ++ [.dct ks xs]) := rfl
theorem q_bxf : boxD false x M = some (x, M) := rfl
def k_bs1 (bs : List Bool) (ds : List D) (o : Option (D × Mem)) : Option (List D × Mem) := o.bind fun x => (boxs bs ds x.2).map fun y => (x.1 :: y.1, y.2)
def k_par (is : List Nat) (bs : List Bool) (σ : Sl) (o : Option (List D × Mem)) : Option Out := o.bind fun x => (boxs bs x.1 x.2).bind fun y => if y.1.length = is.length then some (.nx (setAll σ is y.1) y.2) else none
def k_par2 (is : List Nat) (σ : Sl) (o : Option (List D × Mem)) : Option Out := o.bind fun y => if y.1.length = is.length then some (.nx (setAll σ is y.1) y.2) else none
theorem q_par {is : List Nat} {bs : List Bool} : exec cf (.parN is bs es) σ M = k_par is bs σ (evs cf es σ M) := rfl
theorem q_par1 {is : List Nat} {bs : List Bool} : k_par is bs σ (some (xs, M)) = k_par2 is σ (boxs bs xs M) := rfl
theorem q_par2 {is : List Nat} : k_par2 is σ (some (xs, M)) = if xs.length = is.length then some (.nx (setAll σ is xs) M) else none := rfl
theorem q_bs0 : boxs [] [] M = some ([], M) := rfl
theorem q_bs {bs : List Bool} : boxs (t :: bs) (x :: xs) M = k_bs1 bs xs (boxD t x M) := rfl
theorem q_bs1 {bs : List Bool} : k_bs1 bs xs (some (x, M)) = k_c2 x (boxs bs xs M) := rfl
def putO (M : Mem) (j : Nat) (k v : D) (o : Option MO) : Option Mem := match o with
      | some (.lst xs) => (match k with
        | .int k => (ixN xs.length k).map fun m => M.set j (.lst (xs.set m v))
        | _ => none)
      | some (.dct ks xs) => (keyOf k).bind fun k => if ks.length < line then some (M.set j (.dct (putKs ks xs k v).1 (putKs ks xs k v).2)) else none
      | none => none
def putL (M : Mem) (j : Nat) (xs : List D) (v : D) (o : Option Nat) : Option Mem := o.map fun m => M.set j (.lst (xs.set m v))
def putD (M : Mem) (x k v : D) : Option Mem := match x with
    | .ref j => putO M j k v M[j]?
    | _ => none
def k_st1 (cf : CF) (a b : ME) (σ : Sl) (o : Option (D × Mem)) : Option Out := o.bind fun v => (ev cf a σ v.2).bind fun x => (ev cf b σ x.2).bind fun y => (putD y.2 x.1 y.1 v.1).map (Out.nx σ)
def k_st2 (cf : CF) (b : ME) (σ : Sl) (v : D) (o : Option (D × Mem)) : Option Out := o.bind fun x => (ev cf b σ x.2).bind fun y => (putD y.2 x.1 y.1 v).map (Out.nx σ)
def k_st3 (σ : Sl) (v x : D) (o : Option (D × Mem)) : Option Out := o.bind fun y => (putD y.2 x y.1 v).map (Out.nx σ)
def k_st4 (σ : Sl) (o : Option Mem) : Option Out := o.map (Out.nx σ)
theorem q_seti : exec cf (.seti a b c) σ M = k_st1 cf a b σ (ev cf c σ M) := by
  rw [ex_seti]
  unfold k_st1
  congr
  funext v
  congr
  funext x
  congr
  funext y
  rcases x with ⟨x, M1⟩
  rcases y with ⟨y, M2⟩
  cases x with
  | ref j =>
    show (match M2[j]? with | some (.lst xs) => _ | some (.dct ks xs) => _ | none => _) = (putO M2 j y v.1 M2[j]?).map (Out.nx σ)
    cases M2[j]? with
    | none => rfl
    | some o =>
      cases o with
      | lst xs =>
        cases y with
        | int k =>
          show ((ixN xs.length k).map _) = (((ixN xs.length k).map _).map _)
          rw [Option.map_map]
          rfl
        | _ => rfl
      | dct ks xs =>
        show ((keyOf y).bind _) = ((keyOf y).bind _).map _
        cases keyOf y with
        | none => rfl
        | some k =>
          show (if _ then _ else _) = (if _ then _ else _ : Option Mem).map _
          split <;> rfl
  | _ => rfl
theorem q_st1 : k_st1 cf a b σ (some (v, M)) = k_st2 cf b σ v (ev cf a σ M) := rfl
theorem q_st2 : k_st2 cf b σ v (some (x, M)) = k_st3 σ v x (ev cf b σ M) := rfl
theorem q_st3 : k_st3 σ v x (some (y, M)) = k_st4 σ (putD M x y v) := rfl
theorem q_st4 : k_st4 σ (some M) = some (.nx σ M) := rfl
theorem q_putD {j : Nat} : putD M (.ref j) y v = putO M j y v M[j]? := rfl
theorem q_putL {j : Nat} : putO M j (.int i) v (some (.lst xs)) = putL M j xs v (ixN xs.length i) := rfl
theorem q_putL1 {j : Nat} : putL M j xs v (some n) = some (M.set j (.lst (xs.set n v))) := rfl
def putK (M : Mem) (j : Nat) (ks : List DK) (xs : List D) (v : D) (k : DK) : Option Mem := if ks.length < line then some (M.set j (.dct (putKs ks xs k v).1 (putKs ks xs k v).2)) else none
theorem q_putK {j : Nat} {ks : List DK} : putO M j (.int i) v (some (.dct ks xs)) = putK M j ks xs v (.i i) := rfl
theorem q_putKs {j : Nat} {ks : List DK} {z : List Nat} : putO M j (.str z) v (some (.dct ks xs)) = putK M j ks xs v (.s z) := rfl
theorem q_putK1 {j : Nat} {ks : List DK} {k : DK} (h : ks.length < line) : putK M j ks xs v k = some (M.set j (.dct (putKs ks xs k v).1 (putKs ks xs k v).2)) := if_pos h
def k_ex (σ : Sl) (o : Option (D × Mem)) : Option Out := o.map fun x => .nx σ x.2
theorem q_expr : exec cf (.expr a) σ M = k_ex σ (ev cf a σ M) := rfl
theorem q_ex1 : k_ex σ (some (x, M)) = some (.nx σ M) := rfl
def k_ret (o : Option (D × Mem)) : Option Out := o.map fun x => .rt x.1 x.2
theorem q_ret : exec cf (.ret a) σ M = k_ret (ev cf a σ M) := rfl
theorem q_ret1 : k_ret (some (x, M)) = some (.rt x M) := rfl
def k_if1 (cf : CF) (s s' : MS) (σ : Sl) (o : Option (D × Mem)) : Option Out := o.bind fun x => (truD x.2 x.1).bind fun b => if b then exec cf s σ x.2 else exec cf s' σ x.2
def k_if2 (cf : CF) (s s' : MS) (σ : Sl) (M : Mem) (o : Option Bool) : Option Out := o.bind fun b => if b then exec cf s σ M else exec cf s' σ M
theorem q_if : exec cf (.iff c s s') σ M = k_if1 cf s s' σ (ev cf c σ M) := rfl
theorem q_if1 : k_if1 cf s s' σ (some (x, M)) = k_if2 cf s s' σ M (truD M x) := rfl
theorem q_if2 : k_if2 cf s s' σ M (some t) = if t then exec cf s σ M else exec cf s' σ M := rfl
end
/-! leaves -/
section
variable {M : Mem} {x y : D} {xs ys : List D} {n : Nat} {t u : Bool} {i j : Int} {z z' : List Nat} {ks : List DK} {op : Operator}
theorem q_rd_non : rd M .non = .non := rfl
theorem q_rd_bl : rd M (.bl t) = .bl t := rfl
theorem q_rd_int : rd M (.int i) = .int i := rfl
theorem q_rd_str : rd M (.str z) = .str z := rfl
theorem q_rd_tup : rd M (.tup xs) = .tup xs := rfl
theorem q_rd_lst : rd M (.lst xs) = .lst xs := rfl
theorem q_rd_dct : rd M (.dct ks xs) = .dct ks xs := rfl
def rdO (n : Nat) (o : Option MO) : D := match o with
    | some o => o.d
    | none => .ref n
theorem q_rd_ref : rd M (.ref n) = rdO n M[n]? := rfl
theorem q_rdOl : rdO n (some (.lst xs)) = .lst xs := rfl
theorem q_rdOd : rdO n (some (.dct ks xs)) = .dct ks xs := rfl
def seqC (d : D) : Option (List D) := match d with
  | .tup xs => some xs
  | .lst xs => some xs
  | _ => none
def lstC (d : D) : Option (List D) := match d with
  | .lst xs => some xs
  | _ => none
def dctC (d : D) : Option (List DK × List D) := match d with
  | .dct ks xs => some (ks, xs)
  | _ => none
def truC (d : D) : Option Bool := match d with
  | .non => some false
  | .bl b => some b
  | .int i => some (i != 0)
  | .tup xs => some !xs.isEmpty
  | .lst xs => some !xs.isEmpty
  | .dct ks _ => some !ks.isEmpty
  | _ => none
theorem q_seqOf : seqOf M x = seqC (rd M x) := rfl
theorem q_seqCt : seqC (.tup xs) = some xs := rfl
theorem q_seqCl : seqC (.lst xs) = some xs := rfl
theorem q_lstOf : lstOf M x = lstC (rd M x) := rfl
theorem q_lstCl : lstC (.lst xs) = some xs := rfl
theorem q_dctOf : dctOf M x = dctC (rd M x) := rfl
theorem q_dctCd : dctC (.dct ks xs) = some (ks, xs) := rfl
theorem q_dctCt : dctC (.tup xs) = none := rfl
theorem q_dctCl : dctC (.lst xs) = none := rfl
theorem q_dctCs : dctC (.str z) = none := rfl
theorem q_truD : truD M x = truC (rd M x) := rfl
theorem q_truCb : truC (.bl t) = some t := rfl
theorem q_truCi : truC (.int i) = some (i != 0) := rfl
theorem q_truCn : truC .non = some false := rfl
theorem q_truCt : truC (.tup xs) = some !xs.isEmpty := rfl
theorem q_truCl : truC (.lst xs) = some !xs.isEmpty := rfl
theorem q_truCd : truC (.dct ks xs) = some !ks.isEmpty := rfl
def isiC (d : D) (t : Ty) : Option Bool := match d with
  | .non => some false
  | .bl _ => some (t == .bool || t == .int)
  | .int _ => some (t == .int)
  | .str _ => some (t == .str)
  | .tup _ => some (t == .tuple)
  | .lst _ => some (t == .list)
  | _ => none
theorem q_isiD {t : Ty} : isiD M x t = isiC (rd M x) t := rfl
theorem q_isiCn {t : Ty} : isiC .non t = some false := rfl
theorem q_isiCb {u : Ty} : isiC (.bl t) u = some (u == .bool || u == .int) := rfl
theorem q_isiCi {t : Ty} : isiC (.int i) t = some (t == .int) := rfl
theorem q_isiCs {t : Ty} : isiC (.str z) t = some (t == .str) := rfl
theorem q_isiCt {t : Ty} : isiC (.tup xs) t = some (t == .tuple) := rfl
theorem q_isiCl {t : Ty} : isiC (.lst xs) t = some (t == .list) := rfl
theorem q_binD : binD M op x y = bin0 op (rd M x) (rd M y) := rfl
theorem b_add : bin0 .Add (.int i) (.int j) = some (.int (i + j)) := rfl
theorem b_sub : bin0 .Sub (.int i) (.int j) = some (.int (i - j)) := rfl
theorem b_mul : bin0 .Mult (.int i) (.int j) = if mulOk i j then some (.int (i * j)) else none := rfl
theorem b_div : bin0 .FloorDiv (.int i) (.int j) = if j ≠ 0 ∧ j.natAbs < 1073741824 then some (.int (i.fdiv j)) else none := rfl
theorem b_mod : bin0 .Mod (.int i) (.int j) = if j ≠ 0 then some (.int (i.fmod j)) else none := rfl
theorem b_shl : bin0 .LShift (.int i) (.int j) = if 0 ≤ j ∧ j ≤ 1000000 ∧ i.natAbs < 18446744073709551616 then some (.int (i * 2 ^ j.toNat)) else none := rfl
theorem b_pow : bin0 .Pow (.int i) (.int j) = if 0 ≤ j ∧ j ≤ 1000000 ∧ i.natAbs < 18446744073709551616 then some (.int (i ^ j.toNat)) else none := rfl
theorem b_shr : bin0 .RShift (.int i) (.int j) = if 0 ≤ j then some (.int (i / 2 ^ j.toNat)) else none := rfl
theorem b_and : bin0 .BitAnd (.int i) (.int j) = some (.int (Builtin.bitAnd i j)) := rfl
theorem b_or : bin0 .BitOr (.int i) (.int j) = some (.int (Builtin.bitOr i j)) := rfl
theorem b_xor : bin0 .BitXor (.int i) (.int j) = some (.int (Builtin.bitXor i j)) := rfl
theorem b_adds : bin0 .Add (.str z) (.str z') = if z.length + z'.length ≤ line then some (.str (z ++ z')) else none := rfl
theorem b_addt : bin0 .Add (.tup xs) (.tup ys) = if xs.length + ys.length ≤ line then some (.tup (xs ++ ys)) else none := rfl
theorem b_addl : bin0 .Add (.lst xs) (.lst ys) = if xs.length + ys.length ≤ line then some (.lst (xs ++ ys)) else none := rfl
theorem b_mult : bin0 .Mult (.tup xs) (.int i) = if !xs.isEmpty ∧ 2 ≤ i ∧ xs.length * i.toNat ≤ 1000000 then some (.tup (List.replicate i.toNat xs).flatten) else none := rfl
theorem b_mull : bin0 .Mult (.lst xs) (.int i) = if 0 ≤ i ∧ i < 4611686018427387904 ∧ xs.length * i.toNat ≤ line then some (.lst (List.replicate i.toNat xs).flatten) else none := rfl
def eqC (a b : D) : Option Bool := if D.okN 64 a && D.okN 64 b then some (D.eqv a b) else none
def k_nb (o : Option Bool) : Option Bool := o.map not
theorem q_nb : k_nb (some t) = some !t := rfl
theorem q_eq : cmpD M .Eq x y = eqC (rd M x) (rd M y) := rfl
theorem q_ne : cmpD M .NotEq x y = k_nb (eqC (rd M x) (rd M y)) := rfl
theorem q_in : cmpD M .In x y = inD M x y := rfl
theorem q_nin : cmpD M .NotIn x y = k_nb (inD M x y) := rfl
theorem q_lt : cmpD M .Lt (.int i) (.int j) = some (decide (i < j)) := rfl
theorem q_le : cmpD M .LtE (.int i) (.int j) = some (decide (i ≤ j)) := rfl
theorem q_gt : cmpD M .Gt (.int i) (.int j) = some (decide (j < i)) := rfl
theorem q_ge : cmpD M .GtE (.int i) (.int j) = some (decide (j ≤ i)) := rfl
theorem q_isb : cmpD M .Is (.bl t) (.bl u) = some (decide (t = u)) := rfl
theorem q_isn : cmpD M .Is .non .non = some true := rfl
theorem q_isi' : cmpD M .Is (.int i) .non = some false := rfl
theorem q_ist : cmpD M .Is (.tup xs) .non = some false := rfl
theorem q_isl : cmpD M .Is (.lst xs) .non = some false := rfl
theorem q_iss : cmpD M .Is (.str z) .non = some false := rfl
theorem q_isbn : cmpD M .Is (.bl t) .non = some false := rfl
theorem q_isr : cmpD M .Is (.ref n) .non = some false := rfl
theorem q_isd : cmpD M .Is (.dct ks xs) .non = some false := rfl
theorem q_inb : cmpD M .IsNot (.bl t) (.bl u) = some !decide (t = u) := rfl
theorem q_inn : cmpD M .IsNot .non .non = some false := rfl
theorem q_ini : cmpD M .IsNot (.int i) .non = some true := rfl
theorem q_int : cmpD M .IsNot (.tup xs) .non = some true := rfl
theorem q_inl : cmpD M .IsNot (.lst xs) .non = some true := rfl
theorem q_ins : cmpD M .IsNot (.str z) .non = some true := rfl
theorem q_inr : cmpD M .IsNot (.ref n) .non = some true := rfl
theorem q_ind : cmpD M .IsNot (.dct ks xs) .non = some true := rfl
def eqS (x y : List Nat) : Option Bool := if x.all (· < 0x110000) && y.all (· < 0x110000) then some (x == y) else none
theorem q_eqii : eqC (.int i) (.int j) = some (decide (i = j)) := by
  unfold eqC
  rw [okN_int, okN_int, eqv_int]
  simp [BEq.beq]
theorem q_eqss : eqC (.str z) (.str z') = eqS z z' := by
  unfold eqC eqS
  rw [okN_str, okN_str, eqv_str]
theorem q_eqbb : eqC (.bl t) (.bl u) = some (t == u) := by
  unfold eqC
  rw [okN_bl, okN_bl, eqv_bl]
  simp
theorem q_eqsi : eqC (.str z) (.int i) = if z.all (· < 0x110000) then some false else none := by
  unfold eqC
  rw [okN_int, okN_str, eqv_si]
  simp
theorem q_eqtt : eqC (.tup xs) (.tup ys) = if D.okN 64 (.tup xs) && D.okN 64 (.tup ys) then some (D.eqv (.tup xs) (.tup ys)) else none := rfl
theorem q_eqll : eqC (.lst xs) (.lst ys) = if D.okN 64 (.lst xs) && D.okN 64 (.lst ys) then some (D.eqv (.lst xs) (.lst ys)) else none := rfl
theorem q_eqtn : eqC (.tup xs) .non = if D.okN 64 (.tup xs) && D.okN 64 .non then some (D.eqv (.tup xs) .non) else none := rfl
theorem q_eqnt : eqC .non (.tup xs) = if D.okN 64 .non && D.okN 64 (.tup xs) then some (D.eqv .non (.tup xs)) else none := rfl
theorem q_eqnn : eqC .non .non = some true := by
  unfold eqC
  rw [okN_non, eqv_non]
  rfl
def ixC (o : Option (List DK × List D)) (s : Option (List D)) (a b : D) : Option D := match o with
  | some (ks, xs) => (keyOf b).bind (lookK ks xs)
  | none => match s, b with
  | some xs, .int i => atI xs i
  | none, .int i => (match a with
    | .str z => if z.length ≤ line then (atI z i).map fun c => .str [c] else none
    | _ => none)
  | _, _ => none
theorem q_ixD : ixD M x y = ixC (dctOf M x) (seqOf M x) x y := rfl
theorem q_ixC : ixC none (some xs) x (.int i) = atI xs i := rfl
theorem q_ixK : ixC (some (ks, xs)) none x (.int i) = lookK ks xs (.i i) := rfl
theorem q_ixKs : ixC (some (ks, xs)) none x (.str z) = lookK ks xs (.s z) := rfl
theorem q_seqCd : seqC (.dct ks xs) = none := rfl
def lenC (d : D) : Option D := match d with
  | .tup xs => some (.int (xs : List D).length)
  | .lst xs => some (.int (xs : List D).length)
  | .dct ks _ => some (.int ks.length)
  | _ => none
theorem q_lent : bltD M .len [.tup xs] = some (.int (xs.length : Nat)) := rfl
theorem q_lenl : bltD M .len [.lst xs] = some (.int xs.length) := rfl
theorem q_lend : bltD M .len [.dct ks xs] = some (.int ks.length) := rfl
theorem q_lenr : bltD M .len [.ref n] = lenC (rd M (.ref n)) := by
  show (match dctOf M (.ref n) with
    | some (ks, _) => some (D.int ks.length)
    | none => (seqOf M (.ref n)).map fun xs : List D => D.int xs.length : Option D) = _
  unfold dctOf seqOf
  cases rd M (.ref n) <;> rfl
theorem q_lenCl : lenC (.lst xs) = some (.int xs.length) := rfl
theorem q_lenCd : lenC (.dct ks xs) = some (.int ks.length) := rfl
theorem q_abs : bltD M .abs [.int i] = some (.int (if i < 0 then -i else i)) := rfl
theorem q_bint : bltD M .int [.int i] = some (.int i) := rfl
theorem q_bintb : bltD M .int [.bl t] = some (.int (if t then 1 else 0)) := rfl
theorem q_bmin : bltD M .min [.int i, .int j] = some (.int (if j < i then j else i)) := rfl
theorem q_bmax : bltD M .max [.int i, .int j] = some (.int (if j > i then j else i)) := rfl
def k_bt (o : Option (List D)) : Option D := o.map .tup
def k_bll (o : Option (List D)) : Option D := o.map .lst
theorem q_btuple : bltD M .tuple [x] = k_bt (seqOf M x) := rfl
theorem q_bt1 : k_bt (some xs) = some (.tup xs) := rfl
theorem q_blistt : bltD M .list [.tup xs] = some (.lst xs) := rfl
theorem q_blistl : bltD M .list [.lst xs] = some (.lst xs) := rfl
theorem q_blists : bltD M .list [.scr xs] = some (.lst xs) := rfl
theorem q_blistr : bltD M .list [.ref n] = k_bll (seqOf M (.ref n)) := rfl
theorem q_bll1 : k_bll (some xs) = some (.lst xs) := rfl
def k_sset (o : Option (List D)) : Option D := o.bind fun xs => (intsOf xs).bind fun ns => if ns.length < 64 then some (.lst ((onceI ns).map .int)) else none
theorem q_sset : bltD M .sset [x] = k_sset (lstOf M x) := rfl
theorem q_sset1 : k_sset (some xs) = (intsOf xs).bind fun ns => if ns.length < 64 then some (.lst ((onceI ns).map .int)) else none := rfl
theorem q_lrange : bltD M .lrange [.int i, .int j] = if rgOk i j then some (.lst (rgD i j)) else none := rfl
theorem q_trange : bltD M .trange [.int i, .int j] = if rgOk i j then some (.tup (rgD i j)) else none := rfl
def appO (M : Mem) (n : Nat) (x : D) (o : Option MO) : Option (D × Mem) := match o with
    | some (.lst xs) => if xs.length < line then some (.non, M.set n (.lst (xs ++ [x]))) else none
    | _ => none
theorem q_app : mthD M .append (.ref n) [x] = appO M n x M[n]? := rfl
theorem q_app1 (h : xs.length < line) : appO M n x (some (.lst xs)) = some (.non, M.set n (.lst (xs ++ [x]))) := if_pos h
end
end Mi
namespace Mi
open PySem PySem.Spec PyProof.Rows L2
namespace K09
abbrev P0 : Program := PySem.Challenge.pw_allrunstold_k09_whole_ways_of_programs
def top (i : Nat) : Stmt := P0.main.body.getD i (.Pass ⟨0, 0, 0, 0⟩)
def fns : List Str := [("is_integer" : Str), ("is_whole" : Str), ("need_whole" : Str), ("is_tuple_of" : Str), ("is_one_of" : Str), ("fits_width" : Str), ("need_width" : Str), ("fits_word" : Str), ("are_words" : Str), ("rest_of" : Str), ("moved" : Str), ("operated" : Str), ("holds" : Str), ("is_register" : Str), ("are_registers" : Str), ("fits_order" : Str), ("fits_program" : Str), ("need_program" : Str), ("fits_inputs" : Str), ("need_inputs" : Str), ("with_item" : Str), ("stops" : Str), ("place_behind" : Str), ("next_in" : Str), ("first_in" : Str), ("run_in" : Str), ("next_places" : Str), ("all_next" : Str), ("met_from" : Str), ("way_in" : Str), ("need_place" : Str), ("leads_on" : Str), ("stops_of" : Str), ("reached_places" : Str), ("shortest_way" : Str), ("is_way" : Str), ("need_run" : Str), ("is_program" : Str), ("places_met" : Str), ("_law_cup" : Str), ("_law_roll" : Str), ("_law_some" : Str), ("_law_sort" : Str), ("_law_like" : Str), ("_law_program" : Str), ("_law_bent" : Str), ("_law_nexts" : Str), ("_law_web" : Str), ("_law_fewest" : Str), ("_law_is_way" : Str), ("_law_right" : Str), ("_law_written_right" : Str), ("law" : Str)]
def con : List (Str × D) := [("MOST_WIDTH", .int 8), ("REGISTERS", .int 4), ("FAULT", .str [102, 97, 117, 108, 116]), ("MOST_FAULT", .int 9), ("END", .str [101, 110, 100]), ("GO", .str [103, 111]), ("CELLS", .int 8), ("IF", .str [105, 102]), ("RELATIONS", .tup [.str [115, 97, 109, 101], .str [108, 101, 115, 115]]), ("DO", .str [100, 111]), ("OPERATIONS", .tup [.str [97, 100, 100], .str [115, 117, 98], .str [109, 117, 108], .str [97, 110, 100], .str [111, 114], .str [120, 111, 114], .str [108, 101, 102, 116], .str [114, 105, 103, 104, 116]]), ("PUT", .str [112, 117, 116]), ("MOST_PUT", .int 255), ("LONG", .tup [.tup [.str [112, 117, 116], .int 3], .tup [.str [99, 111, 112, 121], .int 3], .tup [.str [100, 111], .int 4], .tup [.str [108, 111, 97, 100], .int 3], .tup [.str [115, 116, 111, 114, 101], .int 3], .tup [.str [105, 102], .int 5], .tup [.str [103, 111], .int 2], .tup [.str [101, 110, 100], .int 1], .tup [.str [102, 97, 117, 108, 116], .int 2]]), ("MOST_ORDERS", .int 60), ("COPY", .str [99, 111, 112, 121]), ("LOAD", .str [108, 111, 97, 100]), ("STORE", .str [115, 116, 111, 114, 101]), ("MOST_STEPS", .int 100000)]
def frl : List Bool := [false, false, false, false, false, false, false, false, false, false, false, false, false, false, false, false, false, false, false, false, true, false, false, false, false, false, false, true, true, false, false, false, false, false, false, false, false, false, false, true, false, false, false, false, false, false, false, false, false, false, false, false, false]
def frf (i : Nat) : Bool := (frl[i]?).getD false
/-- is_integer -/
def b0 : MS := .seq (.ret (.and (.isi (.var 0) .int) (.not (.isi (.var 0) .bool)))) .skip
def d0 : Df := ⟨"is_integer", defArgs (top 10), defBody (top 10), defScope (top 10), [("value" : Str)], [("value" : Str)], []⟩
def f0 : Fn := ⟨1, 1, false, b0⟩
/-- is_whole -/
def b1 : MS := .seq (.ret (.and (.call 0 (.cons (.var 0) .nil)) (.chain .LtE .LtE (.var 1) (.var 0) (.var 2)))) .skip
def d1 : Df := ⟨"is_whole", defArgs (top 11), defBody (top 11), defScope (top 11), [("value" : Str), ("low" : Str), ("high" : Str)], [("value" : Str), ("low" : Str), ("high" : Str)], []⟩
def f1 : Fn := ⟨3, 3, false, b1⟩
/-- need_whole -/
def b2 : MS := .seq (.iff (.not (.call 1 (.cons (.var 0) (.cons (.var 1) (.cons (.var 2) .nil))))) (.seq .never .skip) .skip) .skip
def d2 : Df := ⟨"need_whole", defArgs (top 12), defBody (top 12), defScope (top 12), [("value" : Str), ("low" : Str), ("high" : Str)], [("value" : Str), ("low" : Str), ("high" : Str)], []⟩
def f2 : Fn := ⟨3, 3, false, b2⟩
/-- is_tuple_of -/
def b3 : MS := .seq (.ret (.and (.isi (.var 0) .tuple) (.chain .LtE .LtE (.var 1) (.blt .len (.cons (.var 0) .nil)) (.var 2)))) .skip
def d3 : Df := ⟨"is_tuple_of", defArgs (top 13), defBody (top 13), defScope (top 13), [("value" : Str), ("low" : Str), ("high" : Str)], [("value" : Str), ("low" : Str), ("high" : Str)], []⟩
def f3 : Fn := ⟨3, 3, false, b3⟩
/-- is_one_of -/
def b4 : MS := .seq (.ret (.and (.isi (.var 0) .str) (.cmp .In (.var 0) (.var 1)))) .skip
def d4 : Df := ⟨"is_one_of", defArgs (top 14), defBody (top 14), defScope (top 14), [("value" : Str), ("names" : Str)], [("value" : Str), ("names" : Str)], []⟩
def f4 : Fn := ⟨2, 2, false, b4⟩
/-- fits_width -/
def b5 : MS := .seq (.ret (.call 1 (.cons (.var 0) (.cons (.cst (.int 1)) (.cons (.cst (.int 8)) .nil))))) .skip
def d5 : Df := ⟨"fits_width", defArgs (top 15), defBody (top 15), defScope (top 15), [("value" : Str)], [("value" : Str)], []⟩
def f5 : Fn := ⟨1, 1, false, b5⟩
/-- need_width -/
def b6 : MS := .seq (.iff (.not (.call 5 (.cons (.var 0) .nil))) (.seq .never .skip) .skip) .skip
def d6 : Df := ⟨"need_width", defArgs (top 16), defBody (top 16), defScope (top 16), [("value" : Str)], [("value" : Str)], []⟩
def f6 : Fn := ⟨1, 1, false, b6⟩
/-- fits_word -/
def b7 : MS := .seq (.ret (.call 1 (.cons (.var 1) (.cons (.cst (.int 0)) (.cons (.bin .Sub (.bin .LShift (.cst (.int 1)) (.var 0)) (.cst (.int 1))) .nil))))) .skip
def d7 : Df := ⟨"fits_word", defArgs (top 17), defBody (top 17), defScope (top 17), [("width" : Str), ("value" : Str)], [("width" : Str), ("value" : Str)], []⟩
def f7 : Fn := ⟨2, 2, false, b7⟩
/-- are_words -/
def b8 : MS := .seq (.ret (.and (.call 3 (.cons (.var 1) (.cons (.var 2) (.cons (.var 2) .nil)))) (.blt .all (.cons (.comp (.call 7 (.cons (.var 0) (.cons (.var 3) .nil))) (.nm 3) (.sSeq (.var 1)) (.cst (.bl true)) [3]) .nil)))) .skip
def d8 : Df := ⟨"are_words", defArgs (top 18), defBody (top 18), defScope (top 18), [("width" : Str), ("value" : Str), ("many" : Str)], [("width" : Str), ("value" : Str), ("many" : Str), ("word" : Str)], []⟩
def f8 : Fn := ⟨3, 4, false, b8⟩
/-- rest_of -/
def b9 : MS := .seq (.ret (.bin .BitAnd (.var 1) (.bin .Sub (.bin .LShift (.cst (.int 1)) (.var 0)) (.cst (.int 1))))) .skip
def d9 : Df := ⟨"rest_of", defArgs (top 19), defBody (top 19), defScope (top 19), [("width" : Str), ("number" : Str)], [("width" : Str), ("number" : Str)], []⟩
def f9 : Fn := ⟨2, 2, false, b9⟩
/-- moved -/
def b10 : MS := .seq (.iff (.cmp .GtE (.var 3) (.var 0)) (.seq (.ret (.cst (.int 0))) .skip) .skip) (.seq (.ret (.ite (.cmp .Eq (.var 1) (.cst (.str [108, 101, 102, 116]))) (.call 9 (.cons (.var 0) (.cons (.bin .LShift (.var 2) (.var 3)) .nil))) (.bin .RShift (.var 2) (.var 3)))) .skip)
def d10 : Df := ⟨"moved", defArgs (top 20), defBody (top 20), defScope (top 20), [("width" : Str), ("operation" : Str), ("word" : Str), ("other" : Str)], [("width" : Str), ("operation" : Str), ("word" : Str), ("other" : Str)], []⟩
def f10 : Fn := ⟨4, 4, false, b10⟩
/-- operated -/
def b11 : MS := .seq (.iff (.cmp .In (.var 1) (.tup (.cons (.cst (.str [108, 101, 102, 116])) (.cons (.cst (.str [114, 105, 103, 104, 116])) .nil)))) (.seq (.ret (.call 10 (.cons (.var 0) (.cons (.var 1) (.cons (.var 2) (.cons (.var 3) .nil)))))) .skip) .skip) (.seq (.iff (.cmp .Eq (.var 1) (.cst (.str [97, 110, 100]))) (.seq (.ret (.bin .BitAnd (.var 2) (.var 3))) .skip) .skip) (.seq (.iff (.cmp .Eq (.var 1) (.cst (.str [111, 114]))) (.seq (.ret (.bin .BitOr (.var 2) (.var 3))) .skip) .skip) (.seq (.iff (.cmp .Eq (.var 1) (.cst (.str [120, 111, 114]))) (.seq (.ret (.bin .BitXor (.var 2) (.var 3))) .skip) .skip) (.seq (.asg (.nm 4) (.ite (.cmp .Eq (.var 1) (.cst (.str [97, 100, 100]))) (.bin .Add (.var 2) (.var 3)) (.ite (.cmp .Eq (.var 1) (.cst (.str [115, 117, 98]))) (.bin .Sub (.var 2) (.var 3)) (.bin .Mult (.var 2) (.var 3))))) (.seq (.ret (.call 9 (.cons (.var 0) (.cons (.var 4) .nil)))) .skip)))))
def d11 : Df := ⟨"operated", defArgs (top 21), defBody (top 21), defScope (top 21), [("width" : Str), ("operation" : Str), ("word" : Str), ("other" : Str)], [("width" : Str), ("operation" : Str), ("word" : Str), ("other" : Str), ("found" : Str)], []⟩
def f11 : Fn := ⟨4, 5, false, b11⟩
/-- holds -/
def b12 : MS := .seq (.ret (.ite (.cmp .Eq (.var 0) (.cst (.str [115, 97, 109, 101]))) (.cmp .Eq (.var 1) (.var 2)) (.cmp .Lt (.var 1) (.var 2)))) .skip
def d12 : Df := ⟨"holds", defArgs (top 22), defBody (top 22), defScope (top 22), [("relation" : Str), ("word" : Str), ("other" : Str)], [("relation" : Str), ("word" : Str), ("other" : Str)], []⟩
def f12 : Fn := ⟨3, 3, false, b12⟩
/-- is_register -/
def b13 : MS := .seq (.ret (.call 1 (.cons (.var 0) (.cons (.cst (.int 0)) (.cons (.bin .Sub (.cst (.int 4)) (.cst (.int 1))) .nil))))) .skip
def d13 : Df := ⟨"is_register", defArgs (top 40), defBody (top 40), defScope (top 40), [("value" : Str)], [("value" : Str)], []⟩
def f13 : Fn := ⟨1, 1, false, b13⟩
/-- are_registers -/
def b14 : MS := .seq (.ret (.blt .all (.cons (.comp (.call 13 (.cons (.var 1) .nil)) (.nm 1) (.sSeq (.var 0)) (.cst (.bl true)) [1]) .nil))) .skip
def d14 : Df := ⟨"are_registers", defArgs (top 41), defBody (top 41), defScope (top 41), [("values" : Str)], [("values" : Str), ("value" : Str)], []⟩
def f14 : Fn := ⟨1, 2, false, b14⟩
/-- fits_order -/
def b15 : MS := .seq (.iff (.or (.not (.call 3 (.cons (.var 1) (.cons (.cst (.int 1)) (.cons (.cst (.int 5)) .nil))))) (.or (.not (.isi (.idx (.var 1) (.cst (.int 0))) .str)) (.cmp .NotIn (.tup (.cons (.idx (.var 1) (.cst (.int 0))) (.cons (.blt .len (.cons (.var 1) .nil)) .nil))) (.cst (.tup [.tup [.str [112, 117, 116], .int 3], .tup [.str [99, 111, 112, 121], .int 3], .tup [.str [100, 111], .int 4], .tup [.str [108, 111, 97, 100], .int 3], .tup [.str [115, 116, 111, 114, 101], .int 3], .tup [.str [105, 102], .int 5], .tup [.str [103, 111], .int 2], .tup [.str [101, 110, 100], .int 1], .tup [.str [102, 97, 117, 108, 116], .int 2]]))))) (.seq (.ret (.cst (.bl false))) .skip) .skip) (.seq (.asg (.nm 2) (.idx (.var 1) (.cst (.int 0)))) (.seq (.iff (.cmp .Eq (.var 2) (.cst (.str [112, 117, 116]))) (.seq (.ret (.and (.call 13 (.cons (.idx (.var 1) (.cst (.int 1))) .nil)) (.call 1 (.cons (.idx (.var 1) (.cst (.int 2))) (.cons (.cst (.int 0)) (.cons (.cst (.int 255)) .nil)))))) .skip) .skip) (.seq (.iff (.cmp .Eq (.var 2) (.cst (.str [100, 111]))) (.seq (.ret (.and (.call 4 (.cons (.idx (.var 1) (.cst (.int 1))) (.cons (.cst (.tup [.str [97, 100, 100], .str [115, 117, 98], .str [109, 117, 108], .str [97, 110, 100], .str [111, 114], .str [120, 111, 114], .str [108, 101, 102, 116], .str [114, 105, 103, 104, 116]])) .nil))) (.call 14 (.cons (.slice (.var 1) (.cons (.cst (.int 2)) .nil) .nil) .nil)))) .skip) .skip) (.seq (.iff (.cmp .Eq (.var 2) (.cst (.str [105, 102]))) (.seq (.ret (.and (.call 4 (.cons (.idx (.var 1) (.cst (.int 1))) (.cons (.cst (.tup [.str [115, 97, 109, 101], .str [108, 101, 115, 115]])) .nil))) (.and (.call 14 (.cons (.slice (.var 1) (.cons (.cst (.int 2)) .nil) (.cons (.cst (.int 4)) .nil)) .nil)) (.call 1 (.cons (.idx (.var 1) (.cst (.int 4))) (.cons (.cst (.int 0)) (.cons (.bin .Sub (.var 0) (.cst (.int 1))) .nil))))))) .skip) .skip) (.seq (.iff (.cmp .Eq (.var 2) (.cst (.str [103, 111]))) (.seq (.ret (.call 1 (.cons (.idx (.var 1) (.cst (.int 1))) (.cons (.cst (.int 0)) (.cons (.bin .Sub (.var 0) (.cst (.int 1))) .nil))))) .skip) .skip) (.seq (.ret (.ite (.cmp .Eq (.var 2) (.cst (.str [102, 97, 117, 108, 116]))) (.call 1 (.cons (.idx (.var 1) (.cst (.int 1))) (.cons (.cst (.int 0)) (.cons (.cst (.int 9)) .nil)))) (.call 14 (.cons (.slice (.var 1) (.cons (.cst (.int 1)) .nil) .nil) .nil)))) .skip))))))
def d15 : Df := ⟨"fits_order", defArgs (top 42), defBody (top 42), defScope (top 42), [("many" : Str), ("value" : Str)], [("many" : Str), ("value" : Str), ("kind" : Str)], []⟩
def f15 : Fn := ⟨2, 3, false, b15⟩
/-- fits_program -/
def b16 : MS := .seq (.iff (.or (.not (.call 3 (.cons (.var 0) (.cons (.cst (.int 1)) (.cons (.cst (.int 60)) .nil))))) (.not (.blt .all (.cons (.comp (.call 15 (.cons (.blt .len (.cons (.var 0) .nil)) (.cons (.var 1) .nil))) (.nm 1) (.sSeq (.var 0)) (.cst (.bl true)) [1]) .nil)))) (.seq (.ret (.cst (.bl false))) .skip) .skip) (.seq (.ret (.cmp .In (.idx (.idx (.var 0) (.neg (.cst (.int 1)))) (.cst (.int 0))) (.tup (.cons (.cst (.str [103, 111])) (.cons (.cst (.str [101, 110, 100])) (.cons (.cst (.str [102, 97, 117, 108, 116])) .nil)))))) .skip)
def d16 : Df := ⟨"fits_program", defArgs (top 43), defBody (top 43), defScope (top 43), [("value" : Str)], [("value" : Str), ("order" : Str)], []⟩
def f16 : Fn := ⟨1, 2, false, b16⟩
/-- need_program -/
def b17 : MS := .seq (.iff (.not (.call 16 (.cons (.var 0) .nil))) (.seq .never .skip) .skip) .skip
def d17 : Df := ⟨"need_program", defArgs (top 44), defBody (top 44), defScope (top 44), [("value" : Str)], [("value" : Str)], []⟩
def f17 : Fn := ⟨1, 1, false, b17⟩
/-- fits_inputs -/
def b18 : MS := .seq (.ret (.and (.call 3 (.cons (.var 1) (.cons (.cst (.int 2)) (.cons (.cst (.int 2)) .nil)))) (.and (.call 8 (.cons (.var 0) (.cons (.idx (.var 1) (.cst (.int 0))) (.cons (.cst (.int 4)) .nil)))) (.call 8 (.cons (.var 0) (.cons (.idx (.var 1) (.cst (.int 1))) (.cons (.cst (.int 8)) .nil))))))) .skip
def d18 : Df := ⟨"fits_inputs", defArgs (top 45), defBody (top 45), defScope (top 45), [("width" : Str), ("value" : Str)], [("width" : Str), ("value" : Str)], []⟩
def f18 : Fn := ⟨2, 2, false, b18⟩
/-- need_inputs -/
def b19 : MS := .seq (.iff (.not (.call 18 (.cons (.var 0) (.cons (.var 1) .nil)))) (.seq .never .skip) .skip) .skip
def d19 : Df := ⟨"need_inputs", defArgs (top 46), defBody (top 46), defScope (top 46), [("width" : Str), ("value" : Str)], [("width" : Str), ("value" : Str)], []⟩
def f19 : Fn := ⟨2, 2, false, b19⟩
/-- with_item -/
def b20 : MS := .seq (.ret (.bin .Add (.bin .Add (.slice (.var 0) .nil (.cons (.var 1) .nil)) (.tup (.cons (.var 2) .nil))) (.slice (.var 0) (.cons (.bin .Add (.var 1) (.cst (.int 1))) .nil) .nil))) .skip
def d20 : Df := ⟨"with_item", defArgs (top 47), defBody (top 47), defScope (top 47), [("things" : Str), ("at" : Str), ("thing" : Str)], [("things" : Str), ("at" : Str), ("thing" : Str)], []⟩
def f20 : Fn := ⟨3, 3, true, b20⟩
/-- stops -/
def b21 : MS := .seq (.ret (.cmp .In (.idx (.var 0) (.cst (.int 0))) (.tup (.cons (.cst (.str [101, 110, 100])) (.cons (.cst (.str [102, 97, 117, 108, 116])) .nil))))) .skip
def d21 : Df := ⟨"stops", defArgs (top 48), defBody (top 48), defScope (top 48), [("order" : Str)], [("order" : Str)], []⟩
def f21 : Fn := ⟨1, 1, false, b21⟩
/-- place_behind -/
def b22 : MS := .seq (.iff (.cmp .Eq (.idx (.var 0) (.cst (.int 0))) (.cst (.str [103, 111]))) (.seq (.ret (.idx (.var 0) (.cst (.int 1)))) .skip) .skip) (.seq (.iff (.and (.cmp .Eq (.idx (.var 0) (.cst (.int 0))) (.cst (.str [105, 102]))) (.call 12 (.cons (.idx (.var 0) (.cst (.int 1))) (.cons (.idx (.var 2) (.idx (.var 0) (.cst (.int 2)))) (.cons (.idx (.var 2) (.idx (.var 0) (.cst (.int 3)))) .nil))))) (.seq (.ret (.idx (.var 0) (.cst (.int 4)))) .skip) .skip) (.seq (.ret (.bin .Add (.var 1) (.cst (.int 1)))) .skip))
def d22 : Df := ⟨"place_behind", defArgs (top 49), defBody (top 49), defScope (top 49), [("order" : Str), ("place" : Str), ("registers" : Str)], [("order" : Str), ("place" : Str), ("registers" : Str)], []⟩
def f22 : Fn := ⟨3, 3, false, b22⟩
/-- next_in -/
def b23 : MS := .seq (.asg (.tp (.cons (.nm 3) (.cons (.nm 4) (.cons (.nm 5) .nil)))) (.var 2)) (.seq (.asg (.nm 6) (.idx (.var 1) (.var 3))) (.seq (.asg (.nm 7) (.idx (.var 6) (.cst (.int 0)))) (.seq (.iff (.call 21 (.cons (.var 6) .nil)) (.seq (.ret (.cst .non)) .skip) .skip) (.seq (.asg (.nm 8) (.call 22 (.cons (.var 6) (.cons (.var 3) (.cons (.var 4) .nil))))) (.seq (.iff (.cmp .Eq (.var 7) (.cst (.str [112, 117, 116]))) (.seq (.asg (.nm 4) (.call 20 (.cons (.var 4) (.cons (.idx (.var 6) (.cst (.int 1))) (.cons (.call 9 (.cons (.var 0) (.cons (.idx (.var 6) (.cst (.int 2))) .nil))) .nil))))) .skip) (.seq (.iff (.cmp .Eq (.var 7) (.cst (.str [99, 111, 112, 121]))) (.seq (.asg (.nm 4) (.call 20 (.cons (.var 4) (.cons (.idx (.var 6) (.cst (.int 1))) (.cons (.idx (.var 4) (.idx (.var 6) (.cst (.int 2)))) .nil))))) .skip) (.seq (.iff (.cmp .Eq (.var 7) (.cst (.str [100, 111]))) (.seq (.asg (.nm 9) (.call 11 (.cons (.var 0) (.cons (.idx (.var 6) (.cst (.int 1))) (.cons (.idx (.var 4) (.idx (.var 6) (.cst (.int 2)))) (.cons (.idx (.var 4) (.idx (.var 6) (.cst (.int 3)))) .nil)))))) (.seq (.asg (.nm 4) (.call 20 (.cons (.var 4) (.cons (.idx (.var 6) (.cst (.int 2))) (.cons (.var 9) .nil))))) .skip)) (.seq (.iff (.cmp .Eq (.var 7) (.cst (.str [108, 111, 97, 100]))) (.seq (.asg (.nm 4) (.call 20 (.cons (.var 4) (.cons (.idx (.var 6) (.cst (.int 1))) (.cons (.idx (.var 5) (.bin .Mod (.idx (.var 4) (.idx (.var 6) (.cst (.int 2)))) (.cst (.int 8)))) .nil))))) .skip) (.seq (.iff (.cmp .Eq (.var 7) (.cst (.str [115, 116, 111, 114, 101]))) (.seq (.asg (.nm 5) (.call 20 (.cons (.var 5) (.cons (.bin .Mod (.idx (.var 4) (.idx (.var 6) (.cst (.int 2)))) (.cst (.int 8))) (.cons (.idx (.var 4) (.idx (.var 6) (.cst (.int 1)))) .nil))))) .skip) .skip) .skip)) .skip)) .skip)) .skip)) (.seq (.ret (.tup (.cons (.var 8) (.cons (.var 4) (.cons (.var 5) .nil))))) .skip))))))
def d23 : Df := ⟨"next_in", defArgs (top 50), defBody (top 50), defScope (top 50), [("width" : Str), ("program" : Str), ("state" : Str)], [("width" : Str), ("program" : Str), ("state" : Str), ("place" : Str), ("registers" : Str), ("cells" : Str), ("order" : Str), ("kind" : Str), ("there" : Str), ("made" : Str)], []⟩
def f23 : Fn := ⟨3, 10, false, b23⟩
/-- first_in -/
def b24 : MS := .seq (.ret (.tup (.cons (.cst (.int 0)) (.cons (.idx (.var 0) (.cst (.int 0))) (.cons (.idx (.var 0) (.cst (.int 1))) .nil))))) .skip
def d24 : Df := ⟨"first_in", defArgs (top 51), defBody (top 51), defScope (top 51), [("inputs" : Str)], [("inputs" : Str)], []⟩
def f24 : Fn := ⟨1, 1, false, b24⟩
/-- run_in -/
def b25 : MS := .seq (.parN [4, 5, 6] [false, false, true] (.cons (.call 24 (.cons (.var 2) .nil)) (.cons (.cst (.int 0)) (.cons (.dsp (.cons (.cst (.int 0)) (.cons (.cst (.bl true)) .nil))) .nil)))) (.seq (.whl (.cmp .Lt (.var 5) (.var 3)) (.seq (.asg (.nm 7) (.call 23 (.cons (.var 0) (.cons (.var 1) (.cons (.var 4) .nil))))) (.seq (.iff (.cmp .Is (.var 7) (.cst .non)) (.seq (.ret (.tup (.cons (.var 4) (.cons (.var 5) (.cons (.var 6) .nil))))) .skip) .skip) (.seq (.parN [4, 5] [false, false] (.cons (.var 7) (.cons (.bin .Add (.var 5) (.cst (.int 1))) .nil))) (.seq (.seti (.var 6) (.idx (.var 4) (.cst (.int 0))) (.cst (.bl true))) .skip))))) (.seq (.ret (.tup (.cons (.var 4) (.cons (.var 5) (.cons (.var 6) .nil))))) .skip))
def d25 : Df := ⟨"run_in", defArgs (top 52), defBody (top 52), defScope (top 52), [("width" : Str), ("program" : Str), ("inputs" : Str), ("most" : Str)], [("width" : Str), ("program" : Str), ("inputs" : Str), ("most" : Str), ("state" : Str), ("steps" : Str), ("met" : Str), ("there" : Str)], [("met" : Str)]⟩
def f25 : Fn := ⟨4, 8, false, b25⟩
/-- next_places -/
def b26 : MS := .seq (.asg (.nm 2) (.idx (.var 0) (.var 1))) (.seq (.iff (.call 21 (.cons (.var 2) .nil)) (.seq (.ret (.lst .nil)) .skip) .skip) (.seq (.iff (.cmp .Eq (.idx (.var 2) (.cst (.int 0))) (.cst (.str [103, 111]))) (.seq (.ret (.lst (.cons (.idx (.var 2) (.cst (.int 1))) .nil))) .skip) .skip) (.seq (.ret (.ite (.cmp .Eq (.idx (.var 2) (.cst (.int 0))) (.cst (.str [105, 102]))) (.blt .sset (.cons (.lst (.cons (.bin .Add (.var 1) (.cst (.int 1))) (.cons (.idx (.var 2) (.cst (.int 4))) .nil))) .nil)) (.lst (.cons (.bin .Add (.var 1) (.cst (.int 1))) .nil)))) .skip)))
def d26 : Df := ⟨"next_places", defArgs (top 54), defBody (top 54), defScope (top 54), [("program" : Str), ("place" : Str)], [("program" : Str), ("place" : Str), ("order" : Str)], []⟩
def f26 : Fn := ⟨2, 3, false, b26⟩
/-- all_next -/
def b27 : MS := .seq (.ret (.comp (.call 26 (.cons (.var 0) (.cons (.var 1) .nil))) (.nm 1) (.sRange (.cst (.int 0)) (.blt .len (.cons (.var 0) .nil))) (.cst (.bl true)) [1])) .skip
def d27 : Df := ⟨"all_next", defArgs (top 55), defBody (top 55), defScope (top 55), [("program" : Str)], [("program" : Str), ("place" : Str)], []⟩
def f27 : Fn := ⟨1, 2, true, b27⟩
/-- met_from -/
def b28 : MS := .seq (.parN [2, 3] [true, true] (.cons (.blt .dict (.cons (.comp (.tup (.cons (.var 4) (.cons (.cst (.bl true)) .nil))) (.nm 4) (.sSeq (.var 1)) (.cst (.bl true)) [4]) .nil)) (.cons (.blt .list (.cons (.var 1) .nil)) .nil))) (.seq (.whl (.cmp .NotEq (.var 3) (.lst .nil)) (.seq (.forr (.nm 4) (.sSeq (.idx (.var 0) (.mth .pop (.var 3) .nil))) (.seq (.iff (.cmp .NotIn (.var 4) (.var 2)) (.seq (.seti (.var 2) (.var 4) (.cst (.bl true))) (.seq (.expr (.mth .append (.var 3) (.cons (.var 4) .nil))) .skip)) .skip) .skip)) .skip)) (.seq (.ret (.blt .sorted (.cons (.var 2) .nil))) .skip))
def d28 : Df := ⟨"met_from", defArgs (top 56), defBody (top 56), defScope (top 56), [("nexts" : Str), ("begins" : Str)], [("nexts" : Str), ("begins" : Str), ("found" : Str), ("todo" : Str), ("place" : Str)], [("todo" : Str), ("found" : Str)]⟩
def f28 : Fn := ⟨2, 5, true, b28⟩
/-- way_in -/
def b29 : MS := .seq (.parN [3, 4] [true, true] (.cons (.dsp (.cons (.var 1) (.cons (.cst .non) .nil))) (.cons (.lst (.cons (.var 1) .nil)) .nil))) (.seq (.whl (.and (.cmp .NotEq (.var 4) (.lst .nil)) (.cmp .NotIn (.var 2) (.var 3))) (.seq (.asg (.nm 5) (.mth .pop (.var 4) (.cons (.cst (.int 0)) .nil))) (.seq (.forr (.nm 6) (.sSeq (.idx (.var 0) (.var 5))) (.seq (.iff (.cmp .NotIn (.var 6) (.var 3)) (.seq (.seti (.var 3) (.var 6) (.var 5)) (.seq (.expr (.mth .append (.var 4) (.cons (.var 6) .nil))) .skip)) .skip) .skip)) .skip))) (.seq (.iff (.cmp .NotIn (.var 2) (.var 3)) (.seq (.ret (.cst .non)) .skip) .skip) (.seq (.box 7 (.lst (.cons (.var 2) .nil))) (.seq (.whl (.cmp .IsNot (.idx (.var 3) (.idx (.var 7) (.neg (.cst (.int 1))))) (.cst .non)) (.seq (.expr (.mth .append (.var 7) (.cons (.idx (.var 3) (.idx (.var 7) (.neg (.cst (.int 1))))) .nil))) .skip)) (.seq (.ret (.blt .tuple (.cons (.rev (.var 7)) .nil))) .skip)))))
def d29 : Df := ⟨"way_in", defArgs (top 57), defBody (top 57), defScope (top 57), [("nexts" : Str), ("place" : Str), ("other" : Str)], [("nexts" : Str), ("place" : Str), ("other" : Str), ("ahead" : Str), ("line" : Str), ("here" : Str), ("later" : Str), ("found" : Str)], [("line" : Str), ("ahead" : Str), ("found" : Str)]⟩
def f29 : Fn := ⟨3, 8, false, b29⟩
/-- need_place -/
def b30 : MS := .seq (.expr (.call 2 (.cons (.var 1) (.cons (.cst (.int 0)) (.cons (.bin .Sub (.blt .len (.cons (.var 0) .nil)) (.cst (.int 1))) .nil))))) .skip
def d30 : Df := ⟨"need_place", defArgs (top 58), defBody (top 58), defScope (top 58), [("program" : Str), ("place" : Str)], [("program" : Str), ("place" : Str)], []⟩
def f30 : Fn := ⟨2, 2, false, b30⟩
/-- leads_on -/
def b31 : MS := .seq (.expr (.call 17 (.cons (.var 0) .nil))) (.seq (.expr (.call 30 (.cons (.var 0) (.cons (.var 1) .nil)))) (.seq (.ret (.blt .tuple (.cons (.call 26 (.cons (.var 0) (.cons (.var 1) .nil))) .nil))) .skip))
def d31 : Df := ⟨"leads_on", defArgs (top 59), defBody (top 59), defScope (top 59), [("program" : Str), ("place" : Str)], [("program" : Str), ("place" : Str)], []⟩
def f31 : Fn := ⟨2, 2, false, b31⟩
/-- stops_of -/
def b32 : MS := .seq (.expr (.call 17 (.cons (.var 0) .nil))) (.seq (.ret (.blt .tuple (.cons (.comp (.var 1) (.tp (.cons (.nm 1) (.cons (.nm 2) .nil))) (.sEnum (.call 27 (.cons (.var 0) .nil))) (.cmp .Eq (.var 2) (.lst .nil)) [1, 2]) .nil))) .skip)
def d32 : Df := ⟨"stops_of", defArgs (top 60), defBody (top 60), defScope (top 60), [("program" : Str)], [("program" : Str), ("place" : Str), ("line" : Str)], []⟩
def f32 : Fn := ⟨1, 3, false, b32⟩
/-- reached_places -/
def b33 : MS := .seq (.expr (.call 17 (.cons (.var 0) .nil))) (.seq (.ret (.blt .tuple (.cons (.call 28 (.cons (.call 27 (.cons (.var 0) .nil)) (.cons (.lst (.cons (.cst (.int 0)) .nil)) .nil))) .nil))) .skip)
def d33 : Df := ⟨"reached_places", defArgs (top 61), defBody (top 61), defScope (top 61), [("program" : Str)], [("program" : Str)], []⟩
def f33 : Fn := ⟨1, 1, false, b33⟩
/-- shortest_way -/
def b34 : MS := .seq (.expr (.call 17 (.cons (.var 0) .nil))) (.seq (.expr (.call 30 (.cons (.var 0) (.cons (.var 1) .nil)))) (.seq (.expr (.call 30 (.cons (.var 0) (.cons (.var 2) .nil)))) (.seq (.ret (.call 29 (.cons (.call 27 (.cons (.var 0) .nil)) (.cons (.var 1) (.cons (.var 2) .nil))))) .skip)))
def d34 : Df := ⟨"shortest_way", defArgs (top 62), defBody (top 62), defScope (top 62), [("program" : Str), ("place" : Str), ("other" : Str)], [("program" : Str), ("place" : Str), ("other" : Str)], []⟩
def f34 : Fn := ⟨3, 3, false, b34⟩
/-- is_way -/
def b35 : MS := .seq (.expr (.call 17 (.cons (.var 0) .nil))) (.seq (.iff (.or (.not (.isi (.var 1) .tuple)) (.cmp .Eq (.var 1) (.tup .nil))) (.seq (.ret (.cst (.bl false))) .skip) .skip) (.seq (.iff (.not (.blt .all (.cons (.comp (.call 1 (.cons (.var 3) (.cons (.cst (.int 0)) (.cons (.bin .Sub (.blt .len (.cons (.var 0) .nil)) (.cst (.int 1))) .nil)))) (.nm 3) (.sSeq (.var 1)) (.cst (.bl true)) [3]) .nil))) (.seq (.ret (.cst (.bl false))) .skip) .skip) (.seq (.asg (.nm 2) (.call 27 (.cons (.var 0) .nil))) (.seq (.ret (.blt .all (.cons (.comp (.cmp .In (.var 4) (.idx (.var 2) (.var 3))) (.tp (.cons (.nm 3) (.cons (.nm 4) .nil))) (.sZip (.var 1) (.slice (.var 1) (.cons (.cst (.int 1)) .nil) .nil)) (.cst (.bl true)) [3, 4]) .nil))) .skip))))
def d35 : Df := ⟨"is_way", defArgs (top 63), defBody (top 63), defScope (top 63), [("program" : Str), ("value" : Str)], [("program" : Str), ("value" : Str), ("nexts" : Str), ("place" : Str), ("other" : Str)], []⟩
def f35 : Fn := ⟨2, 5, false, b35⟩
/-- need_run -/
def b36 : MS := .seq (.expr (.call 6 (.cons (.var 0) .nil))) (.seq (.expr (.call 17 (.cons (.var 1) .nil))) (.seq (.expr (.call 19 (.cons (.var 0) (.cons (.var 2) .nil)))) (.seq (.expr (.call 2 (.cons (.var 3) (.cons (.cst (.int 0)) (.cons (.cst (.int 100000)) .nil))))) .skip)))
def d36 : Df := ⟨"need_run", defArgs (top 65), defBody (top 65), defScope (top 65), [("width" : Str), ("program" : Str), ("inputs" : Str), ("most" : Str)], [("width" : Str), ("program" : Str), ("inputs" : Str), ("most" : Str)], []⟩
def f36 : Fn := ⟨4, 4, false, b36⟩
/-- is_program -/
def b37 : MS := .seq (.ret (.call 16 (.cons (.var 0) .nil))) .skip
def d37 : Df := ⟨"is_program", defArgs (top 66), defBody (top 66), defScope (top 66), [("value" : Str)], [("value" : Str)], []⟩
def f37 : Fn := ⟨1, 1, false, b37⟩
/-- places_met -/
def b38 : MS := .seq (.expr (.call 36 (.cons (.var 0) (.cons (.var 1) (.cons (.var 2) (.cons (.var 3) .nil)))))) (.seq (.ret (.blt .tuple (.cons (.blt .sorted (.cons (.idx (.call 25 (.cons (.var 0) (.cons (.var 1) (.cons (.var 2) (.cons (.var 3) .nil))))) (.cst (.int 2))) .nil)) .nil))) .skip)
def d38 : Df := ⟨"places_met", defArgs (top 67), defBody (top 67), defScope (top 67), [("width" : Str), ("program" : Str), ("inputs" : Str), ("most" : Str)], [("width" : Str), ("program" : Str), ("inputs" : Str), ("most" : Str)], []⟩
def f38 : Fn := ⟨4, 4, false, b38⟩
/-- _law_cup -/
def b39 : MS := .seq (.asg (.nm 1) (.blt .abs (.cons (.idx (.bin .Add (.blt .list (.cons (.var 0) .nil)) (.lst (.cons (.cst (.int 0)) .nil))) (.cst (.int 0))) .nil))) (.seq (.ret (.lst (.cons (.ite (.cmp .GtE (.var 1) (.bin .Pow (.cst (.int 10)) (.cst (.int 18)))) (.bin .FloorDiv (.var 1) (.cst (.int 73))) (.cst (.int 0))) (.cons (.bin .Add (.bin .Mod (.blt .int (.cons (.bin .Add (.bin .Mult (.var 1) (.cst (.int 283))) (.cst (.int 3907))) .nil)) (.cst (.int 2077503167))) (.cst (.int 167))) .nil)))) .skip)
def d39 : Df := ⟨"_law_cup", defArgs (top 69), defBody (top 69), defScope (top 69), [("script" : Str)], [("script" : Str), ("cell" : Str)], []⟩
def f39 : Fn := ⟨1, 2, true, b39⟩
/-- _law_roll -/
def b40 : MS := .seq (.iff (.cmp .Gt (.idx (.var 0) (.cst (.int 0))) (.cst (.int 0))) (.seq (.asg (.nm 2) (.bin .Mod (.blt .int (.cons (.idx (.var 0) (.cst (.int 0))) .nil)) (.var 1))) (.seq (.seti (.var 0) (.cst (.int 0)) (.bin .FloorDiv (.idx (.var 0) (.cst (.int 0))) (.var 1))) (.seq (.ret (.var 2)) .skip))) .skip) (.seq (.seti (.var 0) (.cst (.int 1)) (.bin .Mod (.blt .int (.cons (.bin .Add (.bin .Mult (.idx (.var 0) (.cst (.int 1))) (.cst (.int 31051))) (.cst (.int 7993))) .nil)) (.cst (.int 2147483543)))) (.seq (.asg (.nm 3) (.bin .Mod (.blt .int (.cons (.bin .Mult (.idx (.var 0) (.cst (.int 1))) (.bin .Add (.idx (.var 0) (.cst (.int 1))) (.cst (.int 229)))) .nil)) (.cst (.int 2147483587)))) (.seq (.ret (.bin .Mod (.blt .int (.cons (.bin .FloorDiv (.var 3) (.cst (.int 821))) .nil)) (.var 1))) .skip)))
def d40 : Df := ⟨"_law_roll", defArgs (top 70), defBody (top 70), defScope (top 70), [("cup" : Str), ("many" : Str)], [("cup" : Str), ("many" : Str), ("found" : Str), ("deep" : Str)], [("cup" : Str)]⟩
def f40 : Fn := ⟨2, 4, false, b40⟩
/-- _law_some -/
def b41 : MS := .seq (.ret (.idx (.var 1) (.call 40 (.cons (.var 0) (.cons (.blt .len (.cons (.var 1) .nil)) .nil))))) .skip
def d41 : Df := ⟨"_law_some", defArgs (top 71), defBody (top 71), defScope (top 71), [("cup" : Str), ("things" : Str)], [("cup" : Str), ("things" : Str)], [("cup" : Str)]⟩
def f41 : Fn := ⟨2, 2, false, b41⟩
/-- _law_sort -/
def b42 : MS := .seq (.iff (.or (.cmp .Is (.var 0) (.cst .non)) (.isi (.var 0) .bool)) (.seq (.ret (.ite (.cmp .Is (.var 0) (.cst .non)) (.cst (.int 0)) (.cst (.int 1)))) .skip) .skip) (.seq (.iff (.or (.isi (.var 0) .int) (.isi (.var 0) .str)) (.seq (.ret (.ite (.isi (.var 0) .int) (.cst (.int 2)) (.cst (.int 3)))) .skip) .skip) (.seq (.ret (.ite (.isi (.var 0) .tuple) (.cst (.int 4)) (.ite (.isi (.var 0) .list) (.cst (.int 5)) (.cst (.int 6))))) .skip))
def d42 : Df := ⟨"_law_sort", defArgs (top 72), defBody (top 72), defScope (top 72), [("value" : Str)], [("value" : Str)], []⟩
def f42 : Fn := ⟨1, 1, false, b42⟩
/-- _law_like -/
def b43 : MS := .seq (.asg (.nm 2) (.call 42 (.cons (.var 1) .nil))) (.seq (.iff (.or (.cmp .NotEq (.call 42 (.cons (.var 0) .nil)) (.var 2)) (.cmp .Eq (.var 2) (.cst (.int 6)))) (.seq (.ret (.cst (.bl false))) .skip) .skip) (.seq (.iff (.cmp .In (.var 2) (.tup (.cons (.cst (.int 4)) (.cons (.cst (.int 5)) .nil)))) (.seq (.ret (.and (.cmp .Eq (.blt .len (.cons (.var 0) .nil)) (.blt .len (.cons (.var 1) .nil))) (.cmp .Eq (.comp (.cst (.int 1)) (.tp (.cons (.nm 3) (.cons (.nm 4) .nil))) (.sZip (.var 0) (.var 1)) (.not (.call 43 (.cons (.var 3) (.cons (.var 4) .nil)))) [3, 4]) (.lst .nil)))) .skip) .skip) (.seq (.ret (.cmp .Eq (.var 0) (.var 1))) .skip)))
def d43 : Df := ⟨"_law_like", defArgs (top 73), defBody (top 73), defScope (top 73), [("one" : Str), ("other" : Str)], [("one" : Str), ("other" : Str), ("sort" : Str), ("first" : Str), ("second" : Str)], []⟩
def f43 : Fn := ⟨2, 5, false, b43⟩
/-- _law_program -/
def b44 : MS := .seq (.parN [2, 3] [false, true] (.cons (.bin .Add (.cst (.int 1)) (.call 40 (.cons (.var 0) (.cons (.var 1) .nil)))) (.cons (.lst .nil) .nil))) (.seq (.forr (.nm 4) (.sRange (.cst (.int 0)) (.bin .Sub (.var 2) (.cst (.int 1)))) (.seq (.parN [5, 6, 7] [false, false, false] (.cons (.call 40 (.cons (.var 0) (.cons (.cst (.int 12)) .nil))) (.cons (.call 40 (.cons (.var 0) (.cons (.cst (.int 3)) .nil))) (.cons (.call 40 (.cons (.var 0) (.cons (.cst (.int 3)) .nil))) .nil)))) (.seq (.asg (.nm 8) (.ite (.cmp .Eq (.call 40 (.cons (.var 0) (.cons (.cst (.int 4)) .nil))) (.cst (.int 0))) (.call 40 (.cons (.var 0) (.cons (.var 2) .nil))) (.bin .Add (.bin .Add (.var 4) (.cst (.int 1))) (.call 40 (.cons (.var 0) (.cons (.bin .Sub (.bin .Sub (.var 2) (.var 4)) (.cst (.int 1))) .nil)))))) (.seq (.iff (.cmp .Lt (.var 5) (.cst (.int 2))) (.seq (.expr (.mth .append (.var 3) (.cons (.tup (.cons (.cst (.str [112, 117, 116])) (.cons (.var 6) (.cons (.call 40 (.cons (.var 0) (.cons (.cst (.int 6)) .nil))) .nil)))) .nil))) .skip) (.seq (.iff (.cmp .Lt (.var 5) (.cst (.int 5))) (.seq (.expr (.mth .append (.var 3) (.cons (.tup (.cons (.cst (.str [100, 111])) (.cons (.call 41 (.cons (.var 0) (.cons (.lst (.cons (.cst (.str [97, 100, 100])) (.cons (.cst (.str [115, 117, 98])) (.cons (.cst (.str [109, 117, 108])) (.cons (.cst (.str [97, 110, 100])) (.cons (.cst (.str [111, 114])) (.cons (.cst (.str [120, 111, 114])) (.cons (.cst (.str [108, 101, 102, 116])) (.cons (.cst (.str [114, 105, 103, 104, 116])) (.cons (.cst (.str [97, 100, 100])) (.cons (.cst (.str [115, 117, 98])) .nil))))))))))) .nil))) (.cons (.var 6) (.cons (.var 7) .nil))))) .nil))) .skip) (.seq (.iff (.cmp .Lt (.var 5) (.cst (.int 8))) (.seq (.expr (.mth .append (.var 3) (.cons (.tup (.cons (.cst (.str [105, 102])) (.cons (.call 41 (.cons (.var 0) (.cons (.lst (.cons (.cst (.str [115, 97, 109, 101])) (.cons (.cst (.str [108, 101, 115, 115])) .nil))) .nil))) (.cons (.var 6) (.cons (.var 7) (.cons (.var 8) .nil)))))) .nil))) .skip) (.seq (.iff (.cmp .Eq (.var 5) (.cst (.int 8))) (.seq (.expr (.mth .append (.var 3) (.cons (.tup (.cons (.cst (.str [99, 111, 112, 121])) (.cons (.var 6) (.cons (.var 7) .nil)))) .nil))) .skip) (.seq (.iff (.cmp .Eq (.var 5) (.cst (.int 9))) (.seq (.expr (.mth .append (.var 3) (.cons (.call 41 (.cons (.var 0) (.cons (.lst (.cons (.tup (.cons (.cst (.str [108, 111, 97, 100])) (.cons (.var 6) (.cons (.var 7) .nil)))) (.cons (.tup (.cons (.cst (.str [115, 116, 111, 114, 101])) (.cons (.var 6) (.cons (.var 7) .nil)))) .nil))) .nil))) .nil))) .skip) (.seq (.expr (.mth .append (.var 3) (.cons (.call 41 (.cons (.var 0) (.cons (.lst (.cons (.tup (.cons (.cst (.str [103, 111])) (.cons (.var 8) .nil))) (.cons (.tup (.cons (.cst (.str [102, 97, 117, 108, 116])) (.cons (.call 40 (.cons (.var 0) (.cons (.cst (.int 3)) .nil))) .nil))) (.cons (.tup (.cons (.cst (.str [112, 117, 116])) (.cons (.var 6) (.cons (.cst (.int 1)) .nil)))) (.cons (.tup (.cons (.cst (.str [100, 111])) (.cons (.cst (.str [115, 117, 98])) (.cons (.var 6) (.cons (.var 7) .nil))))) .nil))))) .nil))) .nil))) .skip)) .skip)) .skip)) .skip)) .skip)) .skip)))) (.seq (.ret (.blt .tuple (.cons (.bin .Add (.var 3) (.lst (.cons (.call 41 (.cons (.var 0) (.cons (.lst (.cons (.tup (.cons (.cst (.str [101, 110, 100])) .nil)) (.cons (.tup (.cons (.cst (.str [101, 110, 100])) .nil)) (.cons (.tup (.cons (.cst (.str [102, 97, 117, 108, 116])) (.cons (.cst (.int 1)) .nil))) .nil)))) .nil))) .nil))) .nil))) .skip))
def d44 : Df := ⟨"_law_program", defArgs (top 74), defBody (top 74), defScope (top 74), [("cup" : Str), ("most" : Str)], [("cup" : Str), ("most" : Str), ("many" : Str), ("found" : Str), ("place" : Str), ("way" : Str), ("r" : Str), ("s" : Str), ("far" : Str)], [("found" : Str), ("cup" : Str)]⟩
def f44 : Fn := ⟨2, 9, false, b44⟩
/-- _law_bent -/
def b45 : MS := .seq (.iff (.or (.not (.isi (.var 1) .tuple)) (.or (.cmp .Eq (.var 1) (.tup .nil)) (.cmp .Eq (.call 40 (.cons (.var 0) (.cons (.cst (.int 8)) .nil))) (.cst (.int 0))))) (.seq (.asg (.nm 2) (.lst (.cons (.cst .non) (.cons (.cst (.bl true)) (.cons (.cst (.bl false)) (.cons (.cst (.int 0)) (.cons (.cst (.int 1)) (.cons (.cst (.int 2)) (.cons (.cst (.int 3)) (.cons (.neg (.cst (.int 1))) (.cons (.cst (.str [])) (.cons (.cst (.str [49])) (.cons (.tup .nil) (.cons (.lst .nil) (.cons (.tup (.cons (.cst (.int 0)) (.cons (.cst (.int 1)) .nil))) (.cons (.tup (.cons (.cst (.int 0)) .nil)) .nil)))))))))))))))) (.seq (.iff (.cmp .Eq (.call 42 (.cons (.var 1) .nil)) (.cst (.int 2))) (.seq (.asg (.nm 2) (.bin .Add (.var 2) (.lst (.cons (.bin .Add (.var 1) (.cst (.int 1))) (.cons (.bin .Add (.var 1) (.cst (.int 1))) (.cons (.bin .Sub (.var 1) (.cst (.int 1))) .nil)))))) .skip) .skip) (.seq (.ret (.call 41 (.cons (.var 0) (.cons (.var 2) .nil)))) .skip))) .skip) (.seq (.parN [3, 4] [false, false] (.cons (.call 40 (.cons (.var 0) (.cons (.blt .len (.cons (.var 1) .nil)) .nil))) (.cons (.call 40 (.cons (.var 0) (.cons (.cst (.int 12)) .nil))) .nil))) (.seq (.iff (.cmp .Eq (.var 4) (.cst (.int 0))) (.seq (.ret (.bin .Add (.slice (.var 1) .nil (.cons (.var 3) .nil)) (.slice (.var 1) (.cons (.bin .Add (.var 3) (.cst (.int 1))) .nil) .nil))) .skip) .skip) (.seq (.iff (.cmp .Eq (.var 4) (.cst (.int 1))) (.seq (.ret (.bin .Add (.slice (.var 1) .nil (.cons (.bin .Add (.var 3) (.cst (.int 1))) .nil)) (.slice (.var 1) (.cons (.var 3) .nil) .nil))) .skip) .skip) (.seq (.iff (.cmp .Eq (.var 4) (.cst (.int 2))) (.seq (.ret (.blt .list (.cons (.var 1) .nil))) .skip) .skip) (.seq (.iff (.cmp .Eq (.var 4) (.cst (.int 3))) (.seq (.ret (.rev (.var 1))) .skip) .skip) (.seq (.ret (.bin .Add (.bin .Add (.slice (.var 1) .nil (.cons (.var 3) .nil)) (.tup (.cons (.call 45 (.cons (.var 0) (.cons (.idx (.var 1) (.var 3)) .nil))) .nil))) (.slice (.var 1) (.cons (.bin .Add (.var 3) (.cst (.int 1))) .nil) .nil))) .skip))))))
def d45 : Df := ⟨"_law_bent", defArgs (top 75), defBody (top 75), defScope (top 75), [("cup" : Str), ("value" : Str)], [("cup" : Str), ("value" : Str), ("some" : Str), ("at" : Str), ("way" : Str)], [("cup" : Str)]⟩
def f45 : Fn := ⟨2, 5, false, b45⟩
/-- _law_nexts -/
def b46 : MS := .seq (.asg (.nm 2) (.idx (.var 0) (.var 1))) (.seq (.iff (.cmp .In (.idx (.var 2) (.cst (.int 0))) (.tup (.cons (.cst (.str [101, 110, 100])) (.cons (.cst (.str [102, 97, 117, 108, 116])) .nil)))) (.seq (.ret (.lst .nil)) .skip) .skip) (.seq (.ret (.ite (.cmp .Eq (.idx (.var 2) (.cst (.int 0))) (.cst (.str [103, 111]))) (.lst (.cons (.idx (.var 2) (.cst (.int 1))) .nil)) (.ite (.cmp .Eq (.idx (.var 2) (.cst (.int 0))) (.cst (.str [105, 102]))) (.blt .sset (.cons (.lst (.cons (.idx (.var 2) (.cst (.int 4))) (.cons (.bin .Add (.var 1) (.cst (.int 1))) .nil))) .nil)) (.lst (.cons (.bin .Add (.var 1) (.cst (.int 1))) .nil))))) .skip))
def d46 : Df := ⟨"_law_nexts", defArgs (top 76), defBody (top 76), defScope (top 76), [("program" : Str), ("place" : Str)], [("program" : Str), ("place" : Str), ("order" : Str)], []⟩
def f46 : Fn := ⟨2, 3, false, b46⟩
/-- _law_web -/
def b47 : MS := .seq (.asg (.nm 1) (.comp (.call 46 (.cons (.var 0) (.cons (.var 3) .nil))) (.nm 3) (.sRange (.cst (.int 0)) (.blt .len (.cons (.var 0) .nil))) (.cst (.bl true)) [3])) (.seq (.forr (.nm 2) (.sRange (.cst (.int 0)) (.blt .len (.cons (.var 0) .nil))) (.seq (.asg (.nm 1) (.comp (.ite (.cmp .In (.var 2) (.var 4)) (.bin .Add (.var 4) (.comp (.var 3) (.nm 3) (.sSeq (.idx (.var 1) (.var 2))) (.cmp .NotIn (.var 3) (.var 4)) [3])) (.var 4)) (.nm 4) (.sSeq (.var 1)) (.cst (.bl true)) [4])) .skip)) (.seq (.ret (.var 1)) .skip))
def d47 : Df := ⟨"_law_web", defArgs (top 77), defBody (top 77), defScope (top 77), [("program" : Str)], [("program" : Str), ("leads" : Str), ("middle" : Str), ("place" : Str), ("line" : Str)], []⟩
def f47 : Fn := ⟨1, 5, false, b47⟩
/-- _law_fewest -/
def b48 : MS := .seq (.parN [3, 4] [false, false] (.cons (.lst (.cons (.var 1) .nil)) (.cons (.cst (.int 0)) .nil))) (.seq (.whl (.cmp .NotIn (.var 2) (.var 3)) (.seq (.parN [3, 4] [false, false] (.cons (.comp (.var 5) (.nm 5) (.sRange (.cst (.int 0)) (.blt .len (.cons (.var 0) .nil))) (.cmp .NotEq (.comp (.cst (.int 1)) (.nm 6) (.sSeq (.var 3)) (.cmp .In (.var 5) (.call 46 (.cons (.var 0) (.cons (.var 6) .nil)))) [6]) (.lst .nil)) [5]) (.cons (.bin .Add (.var 4) (.cst (.int 1))) .nil))) (.seq (.iff (.cmp .Gt (.var 4) (.blt .len (.cons (.var 0) .nil))) (.seq (.ret (.cst .non)) .skip) .skip) .skip))) (.seq (.ret (.var 4)) .skip))
def d48 : Df := ⟨"_law_fewest", defArgs (top 78), defBody (top 78), defScope (top 78), [("program" : Str), ("place" : Str), ("other" : Str)], [("program" : Str), ("place" : Str), ("other" : Str), ("line" : Str), ("steps" : Str), ("own" : Str), ("here" : Str)], []⟩
def f48 : Fn := ⟨3, 7, false, b48⟩
/-- _law_is_way -/
def b49 : MS := .seq (.iff (.or (.not (.isi (.var 1) .tuple)) (.or (.cmp .Eq (.var 1) (.tup .nil)) (.cmp .NotEq (.comp (.var 2) (.nm 2) (.sSeq (.var 1)) (.or (.cmp .NotEq (.call 42 (.cons (.var 2) .nil)) (.cst (.int 2))) (.not (.chain .LtE .Lt (.cst (.int 0)) (.var 2) (.blt .len (.cons (.var 0) .nil))))) [2]) (.lst .nil)))) (.seq (.ret (.cst (.bl false))) .skip) .skip) (.seq (.ret (.cmp .Eq (.comp (.cst (.int 1)) (.tp (.cons (.nm 2) (.cons (.nm 3) .nil))) (.sZip (.var 1) (.slice (.var 1) (.cons (.cst (.int 1)) .nil) .nil)) (.cmp .NotIn (.var 3) (.call 46 (.cons (.var 0) (.cons (.var 2) .nil)))) [2, 3]) (.lst .nil))) .skip)
def d49 : Df := ⟨"_law_is_way", defArgs (top 79), defBody (top 79), defScope (top 79), [("program" : Str), ("value" : Str)], [("program" : Str), ("value" : Str), ("place" : Str), ("other" : Str)], []⟩
def f49 : Fn := ⟨2, 4, false, b49⟩
/-- _law_right -/
def b50 : MS := .seq (.parN [2, 3] [false, false] (.cons (.call 47 (.cons (.var 1) .nil)) (.cons (.blt .lrange (.cons (.cst (.int 0)) (.cons (.blt .len (.cons (.var 1) .nil)) .nil))) .nil))) (.seq (.asg (.nm 4) (.lst (.cons (.comp (.call 31 (.cons (.var 1) (.cons (.var 7) .nil))) (.nm 7) (.sSeq (.var 3)) (.cst (.bl true)) [7]) (.cons (.call 32 (.cons (.var 1) .nil)) (.cons (.call 33 (.cons (.var 1) .nil)) (.cons (.call 37 (.cons (.var 1) .nil)) .nil)))))) (.seq (.asg (.nm 5) (.lst (.cons (.comp (.blt .tuple (.cons (.call 46 (.cons (.var 1) (.cons (.var 7) .nil))) .nil)) (.nm 7) (.sSeq (.var 3)) (.cst (.bl true)) [7]) (.cons (.blt .tuple (.cons (.comp (.var 7) (.nm 7) (.sSeq (.var 3)) (.cmp .In (.idx (.idx (.var 1) (.var 7)) (.cst (.int 0))) (.tup (.cons (.cst (.str [101, 110, 100])) (.cons (.cst (.str [102, 97, 117, 108, 116])) .nil)))) [7]) .nil)) .nil)))) (.seq (.iff (.not (.call 43 (.cons (.var 4) (.cons (.bin .Add (.var 5) (.lst (.cons (.blt .tuple (.cons (.comp (.var 7) (.nm 7) (.sSeq (.var 3)) (.or (.cmp .Eq (.var 7) (.cst (.int 0))) (.cmp .In (.var 7) (.idx (.var 2) (.cst (.int 0))))) [7]) .nil)) (.cons (.cst (.bl true)) .nil)))) .nil)))) (.seq (.ret (.cst (.bl false))) .skip) .skip) (.seq (.forr (.nm 6) (.sRange (.cst (.int 0)) (.cst (.int 5))) (.seq (.parN [7, 8] [false, false] (.cons (.call 41 (.cons (.var 0) (.cons (.var 3) .nil))) (.cons (.call 41 (.cons (.var 0) (.cons (.var 3) .nil))) .nil))) (.seq (.parN [4, 9] [false, false] (.cons (.call 34 (.cons (.var 1) (.cons (.var 7) (.cons (.var 8) .nil)))) (.cons (.call 48 (.cons (.var 1) (.cons (.var 7) (.cons (.var 8) .nil)))) .nil))) (.seq (.iff (.cmp .NotEq (.cmp .Is (.var 4) (.cst .non)) (.cmp .Is (.var 9) (.cst .non))) (.seq (.ret (.cst (.bl false))) .skip) .skip) (.seq (.iff (.and (.cmp .IsNot (.var 4) (.cst .non)) (.or (.not (.call 49 (.cons (.var 1) (.cons (.var 4) .nil)))) (.or (.cmp .NotEq (.blt .len (.cons (.var 4) .nil)) (.bin .Add (.var 9) (.cst (.int 1)))) (.cmp .NotEq (.tup (.cons (.idx (.var 4) (.cst (.int 0))) (.cons (.idx (.var 4) (.neg (.cst (.int 1)))) .nil))) (.tup (.cons (.var 7) (.cons (.var 8) .nil))))))) (.seq (.ret (.cst (.bl false))) .skip) .skip) (.seq (.asg (.nm 10) (.ite (.cmp .IsNot (.var 4) (.cst .non)) (.var 4) (.tup (.cons (.var 7) (.cons (.var 8) .nil))))) (.seq (.asg (.nm 11) (.lst (.cons (.var 10) (.cons (.rev (.var 10)) (.cons (.blt .list (.cons (.var 10) .nil)) (.cons (.bin .Add (.var 10) (.slice (.var 10) (.cons (.neg (.cst (.int 1))) .nil) .nil)) (.cons (.slice (.var 10) (.cons (.cst (.int 1)) .nil) .nil) (.cons (.bin .Add (.var 10) (.tup (.cons (.blt .len (.cons (.var 1) .nil)) .nil))) (.cons (.tup .nil) (.cons (.tup (.cons (.var 7) .nil)) (.cons (.cst .non) (.cons (.cst (.int 0)) .nil)))))))))))) (.seq (.asg (.nm 11) (.bin .Add (.var 11) (.lst (.cons (.tup (.cons (.cst (.bl true)) .nil)) (.cons (.tup (.cons (.neg (.cst (.int 1))) .nil)) (.cons (.call 45 (.cons (.var 0) (.cons (.var 10) .nil))) (.cons (.blt .tuple (.cons (.var 3) .nil)) .nil))))))) (.seq (.iff (.cmp .NotEq (.comp (.var 13) (.nm 13) (.sSeq (.var 11)) (.not (.call 43 (.cons (.call 35 (.cons (.var 1) (.cons (.var 13) .nil))) (.cons (.call 49 (.cons (.var 1) (.cons (.var 13) .nil))) .nil)))) [13]) (.lst .nil)) (.seq (.ret (.cst (.bl false))) .skip) .skip) .skip))))))))) (.seq (.asg (.nm 12) (.call 38 (.cons (.cst (.int 2)) (.cons (.var 1) (.cons (.tup (.cons (.tup (.cons (.call 40 (.cons (.var 0) (.cons (.cst (.int 4)) .nil))) (.cons (.cst (.int 1)) (.cons (.cst (.int 2)) (.cons (.cst (.int 3)) .nil))))) (.cons (.bin .Mult (.tup (.cons (.cst (.int 0)) .nil)) (.cst (.int 8))) .nil))) (.cons (.cst (.int 20)) .nil)))))) (.seq (.ret (.cmp .Eq (.comp (.var 7) (.nm 7) (.sSeq (.var 12)) (.cmp .NotIn (.var 7) (.call 33 (.cons (.var 1) .nil))) [7]) (.lst .nil))) .skip))))))
def d50 : Df := ⟨"_law_right", defArgs (top 80), defBody (top 80), defScope (top 80), [("cup" : Str), ("program" : Str)], [("cup" : Str), ("program" : Str), ("leads" : Str), ("places" : Str), ("told" : Str), ("due" : Str), ("turn" : Str), ("place" : Str), ("other" : Str), ("fewest" : Str), ("some" : Str), ("odds" : Str), ("met" : Str), ("odd" : Str)], [("cup" : Str)]⟩
def f50 : Fn := ⟨2, 14, false, b50⟩
/-- _law_written_right -/
def b51 : MS := .seq (.asg (.nm 0) (.tup (.cons (.tup (.cons (.cst (.str [112, 117, 116])) (.cons (.cst (.int 1)) (.cons (.cst (.int 1)) .nil)))) (.cons (.tup (.cons (.cst (.str [105, 102])) (.cons (.cst (.str [115, 97, 109, 101])) (.cons (.cst (.int 0)) (.cons (.cst (.int 2)) (.cons (.cst (.int 4)) .nil)))))) (.cons (.tup (.cons (.cst (.str [100, 111])) (.cons (.cst (.str [115, 117, 98])) (.cons (.cst (.int 0)) (.cons (.cst (.int 1)) .nil))))) (.cons (.tup (.cons (.cst (.str [103, 111])) (.cons (.cst (.int 1)) .nil))) (.cons (.tup (.cons (.cst (.str [101, 110, 100])) .nil)) .nil))))))) (.seq (.asg (.nm 1) (.tup (.cons (.tup (.cons (.cst (.str [105, 102])) (.cons (.cst (.str [108, 101, 115, 115])) (.cons (.cst (.int 0)) (.cons (.cst (.int 1)) (.cons (.cst (.int 3)) .nil)))))) (.cons (.tup (.cons (.cst (.str [103, 111])) (.cons (.cst (.int 3)) .nil))) (.cons (.tup (.cons (.cst (.str [102, 97, 117, 108, 116])) (.cons (.cst (.int 1)) .nil))) (.cons (.tup (.cons (.cst (.str [101, 110, 100])) .nil)) .nil)))))) (.seq (.asg (.nm 2) (.lst (.cons (.call 31 (.cons (.var 0) (.cons (.cst (.int 1)) .nil))) (.cons (.call 31 (.cons (.var 0) (.cons (.cst (.int 4)) .nil))) (.cons (.call 32 (.cons (.var 1) .nil)) (.cons (.call 33 (.cons (.var 1) .nil)) (.cons (.call 34 (.cons (.var 0) (.cons (.cst (.int 0)) (.cons (.cst (.int 4)) .nil)))) .nil))))))) (.seq (.asg (.nm 2) (.bin .Add (.var 2) (.lst (.cons (.call 34 (.cons (.var 0) (.cons (.cst (.int 4)) (.cons (.cst (.int 0)) .nil)))) (.cons (.call 34 (.cons (.var 0) (.cons (.cst (.int 3)) (.cons (.cst (.int 3)) .nil)))) (.cons (.call 35 (.cons (.var 0) (.cons (.tup (.cons (.cst (.int 2)) (.cons (.cst (.int 3)) (.cons (.cst (.int 1)) .nil)))) .nil))) (.cons (.call 35 (.cons (.var 0) (.cons (.tup .nil) .nil))) .nil))))))) (.seq (.iff (.not (.call 43 (.cons (.var 2) (.cons (.lst (.cons (.tup (.cons (.cst (.int 2)) (.cons (.cst (.int 4)) .nil))) (.cons (.tup .nil) (.cons (.tup (.cons (.cst (.int 2)) (.cons (.cst (.int 3)) .nil))) (.cons (.tup (.cons (.cst (.int 0)) (.cons (.cst (.int 1)) (.cons (.cst (.int 3)) .nil)))) (.cons (.tup (.cons (.cst (.int 0)) (.cons (.cst (.int 1)) (.cons (.cst (.int 4)) .nil)))) (.cons (.cst .non) (.cons (.tup (.cons (.cst (.int 3)) .nil)) (.cons (.cst (.bl true)) (.cons (.cst (.bl false)) .nil)))))))))) .nil)))) (.seq (.ret (.cst (.bl false))) .skip) .skip) (.seq (.asg (.nm 3) (.tup (.cons (.tup (.cons (.cst (.str [105, 102])) (.cons (.cst (.str [115, 97, 109, 101])) (.cons (.cst (.int 0)) (.cons (.cst (.int 1)) (.cons (.cst (.int 3)) .nil)))))) (.cons (.tup (.cons (.cst (.str [103, 111])) (.cons (.cst (.int 5)) .nil))) (.cons (.tup (.cons (.cst (.str [101, 110, 100])) .nil)) (.cons (.tup (.cons (.cst (.str [112, 117, 116])) (.cons (.cst (.int 0)) (.cons (.cst (.int 1)) .nil)))) (.cons (.tup (.cons (.cst (.str [112, 117, 116])) (.cons (.cst (.int 0)) (.cons (.cst (.int 2)) .nil)))) (.cons (.tup (.cons (.cst (.str [101, 110, 100])) .nil)) .nil)))))))) (.seq (.iff (.not (.call 43 (.cons (.lst (.cons (.call 34 (.cons (.var 3) (.cons (.cst (.int 0)) (.cons (.cst (.int 5)) .nil)))) (.cons (.call 34 (.cons (.var 3) (.cons (.cst (.int 3)) (.cons (.cst (.int 5)) .nil)))) .nil))) (.cons (.lst (.cons (.tup (.cons (.cst (.int 0)) (.cons (.cst (.int 1)) (.cons (.cst (.int 5)) .nil)))) (.cons (.tup (.cons (.cst (.int 3)) (.cons (.cst (.int 4)) (.cons (.cst (.int 5)) .nil)))) .nil))) .nil)))) (.seq (.ret (.cst (.bl false))) .skip) .skip) (.seq (.asg (.nm 2) (.lst (.cons (.call 31 (.cons (.tup (.cons (.tup (.cons (.cst (.str [105, 102])) (.cons (.cst (.str [115, 97, 109, 101])) (.cons (.cst (.int 0)) (.cons (.cst (.int 0)) (.cons (.cst (.int 1)) .nil)))))) (.cons (.tup (.cons (.cst (.str [101, 110, 100])) .nil)) .nil))) (.cons (.cst (.int 0)) .nil))) (.cons (.call 31 (.cons (.tup (.cons (.tup (.cons (.cst (.str [103, 111])) (.cons (.cst (.int 0)) .nil))) .nil)) (.cons (.cst (.int 0)) .nil))) (.cons (.call 35 (.cons (.tup (.cons (.tup (.cons (.cst (.str [103, 111])) (.cons (.cst (.int 0)) .nil))) .nil)) (.cons (.bin .Mult (.tup (.cons (.cst (.int 0)) .nil)) (.cst (.int 50))) .nil))) (.cons (.call 32 (.cons (.tup (.cons (.tup (.cons (.cst (.str [103, 111])) (.cons (.cst (.int 0)) .nil))) .nil)) .nil)) .nil)))))) (.seq (.ret (.call 43 (.cons (.var 2) (.cons (.lst (.cons (.tup (.cons (.cst (.int 1)) .nil)) (.cons (.tup (.cons (.cst (.int 0)) .nil)) (.cons (.cst (.bl true)) (.cons (.tup .nil) .nil))))) .nil)))) .skip))))))))
def d51 : Df := ⟨"_law_written_right", defArgs (top 81), defBody (top 81), defScope (top 81), [], [("loop" : Str), ("plain" : Str), ("told" : Str), ("both" : Str)], []⟩
def f51 : Fn := ⟨0, 4, false, b51⟩
/-- law -/
def b52 : MS := .seq (.iff (.not (.call 51 .nil)) (.seq (.ret (.cst (.bl false))) .skip) .skip) (.seq (.box 1 (.call 39 (.cons (.var 0) .nil))) (.seq (.forr (.nm 2) (.sSeq (.tup (.cons (.cst (.int 1)) (.cons (.cst (.int 4)) (.cons (.cst (.int 8)) (.cons (.cst (.int 14)) (.cons (.cst (.int 30)) .nil))))))) (.seq (.iff (.not (.call 50 (.cons (.var 1) (.cons (.call 44 (.cons (.var 1) (.cons (.var 2) .nil))) .nil)))) (.seq (.ret (.cst (.bl false))) .skip) .skip) .skip)) (.seq (.ret (.cst (.bl true))) .skip)))
def d52 : Df := ⟨"law", defArgs (top 82), defBody (top 82), defScope (top 82), [("script" : Str)], [("script" : Str), ("cup" : Str), ("most" : Str)], [("cup" : Str)]⟩
def f52 : Fn := ⟨1, 3, false, b52⟩
def ds : List Df := [d0, d1, d2, d3, d4, d5, d6, d7, d8, d9, d10, d11, d12, d13, d14, d15, d16, d17, d18, d19, d20, d21, d22, d23, d24, d25, d26, d27, d28, d29, d30, d31, d32, d33, d34, d35, d36, d37, d38, d39, d40, d41, d42, d43, d44, d45, d46, d47, d48, d49, d50, d51, d52]
def fs : List Fn := [f0, f1, f2, f3, f4, f5, f6, f7, f8, f9, f10, f11, f12, f13, f14, f15, f16, f17, f18, f19, f20, f21, f22, f23, f24, f25, f26, f27, f28, f29, f30, f31, f32, f33, f34, f35, f36, f37, f38, f39, f40, f41, f42, f43, f44, f45, f46, f47, f48, f49, f50, f51, f52]
theorem o0 : DfOk fns con frf 0 d0 f0 := ⟨by kernel_rfl, rfl, rfl, by kernel_rfl, rfl, by first | (intro _; rfl) | (intro h; cases h)⟩
theorem p0 : BindsP d0 := fun _ _ _ _ _ _ us hl => match us, hl with | [_], _ => rfl
theorem o1 : DfOk fns con frf 1 d1 f1 := ⟨by kernel_rfl, rfl, rfl, by kernel_rfl, rfl, by first | (intro _; rfl) | (intro h; cases h)⟩
theorem p1 : BindsP d1 := fun _ _ _ _ _ _ us hl => match us, hl with | [_, _, _], _ => rfl
theorem o2 : DfOk fns con frf 2 d2 f2 := ⟨by kernel_rfl, rfl, rfl, by kernel_rfl, rfl, by first | (intro _; rfl) | (intro h; cases h)⟩
theorem p2 : BindsP d2 := fun _ _ _ _ _ _ us hl => match us, hl with | [_, _, _], _ => rfl
theorem o3 : DfOk fns con frf 3 d3 f3 := ⟨by kernel_rfl, rfl, rfl, by kernel_rfl, rfl, by first | (intro _; rfl) | (intro h; cases h)⟩
theorem p3 : BindsP d3 := fun _ _ _ _ _ _ us hl => match us, hl with | [_, _, _], _ => rfl
theorem o4 : DfOk fns con frf 4 d4 f4 := ⟨by kernel_rfl, rfl, rfl, by kernel_rfl, rfl, by first | (intro _; rfl) | (intro h; cases h)⟩
theorem p4 : BindsP d4 := fun _ _ _ _ _ _ us hl => match us, hl with | [_, _], _ => rfl
theorem o5 : DfOk fns con frf 5 d5 f5 := ⟨by kernel_rfl, rfl, rfl, by kernel_rfl, rfl, by first | (intro _; rfl) | (intro h; cases h)⟩
theorem p5 : BindsP d5 := fun _ _ _ _ _ _ us hl => match us, hl with | [_], _ => rfl
theorem o6 : DfOk fns con frf 6 d6 f6 := ⟨by kernel_rfl, rfl, rfl, by kernel_rfl, rfl, by first | (intro _; rfl) | (intro h; cases h)⟩
theorem p6 : BindsP d6 := fun _ _ _ _ _ _ us hl => match us, hl with | [_], _ => rfl
theorem o7 : DfOk fns con frf 7 d7 f7 := ⟨by kernel_rfl, rfl, rfl, by kernel_rfl, rfl, by first | (intro _; rfl) | (intro h; cases h)⟩
theorem p7 : BindsP d7 := fun _ _ _ _ _ _ us hl => match us, hl with | [_, _], _ => rfl
theorem o8 : DfOk fns con frf 8 d8 f8 := ⟨by kernel_rfl, rfl, rfl, by kernel_rfl, rfl, by first | (intro _; rfl) | (intro h; cases h)⟩
theorem p8 : BindsP d8 := fun _ _ _ _ _ _ us hl => match us, hl with | [_, _, _], _ => rfl
theorem o9 : DfOk fns con frf 9 d9 f9 := ⟨by kernel_rfl, rfl, rfl, by kernel_rfl, rfl, by first | (intro _; rfl) | (intro h; cases h)⟩
theorem p9 : BindsP d9 := fun _ _ _ _ _ _ us hl => match us, hl with | [_, _], _ => rfl
theorem o10 : DfOk fns con frf 10 d10 f10 := ⟨by kernel_rfl, rfl, rfl, by kernel_rfl, rfl, by first | (intro _; rfl) | (intro h; cases h)⟩
theorem p10 : BindsP d10 := fun _ _ _ _ _ _ us hl => match us, hl with | [_, _, _, _], _ => rfl
theorem o11 : DfOk fns con frf 11 d11 f11 := ⟨by kernel_rfl, rfl, rfl, by kernel_rfl, rfl, by first | (intro _; rfl) | (intro h; cases h)⟩
theorem p11 : BindsP d11 := fun _ _ _ _ _ _ us hl => match us, hl with | [_, _, _, _], _ => rfl
theorem o12 : DfOk fns con frf 12 d12 f12 := ⟨by kernel_rfl, rfl, rfl, by kernel_rfl, rfl, by first | (intro _; rfl) | (intro h; cases h)⟩
theorem p12 : BindsP d12 := fun _ _ _ _ _ _ us hl => match us, hl with | [_, _, _], _ => rfl
theorem o13 : DfOk fns con frf 13 d13 f13 := ⟨by kernel_rfl, rfl, rfl, by kernel_rfl, rfl, by first | (intro _; rfl) | (intro h; cases h)⟩
theorem p13 : BindsP d13 := fun _ _ _ _ _ _ us hl => match us, hl with | [_], _ => rfl
theorem o14 : DfOk fns con frf 14 d14 f14 := ⟨by kernel_rfl, rfl, rfl, by kernel_rfl, rfl, by first | (intro _; rfl) | (intro h; cases h)⟩
theorem p14 : BindsP d14 := fun _ _ _ _ _ _ us hl => match us, hl with | [_], _ => rfl
theorem o15 : DfOk fns con frf 15 d15 f15 := ⟨by kernel_rfl, rfl, rfl, by kernel_rfl, rfl, by first | (intro _; rfl) | (intro h; cases h)⟩
theorem p15 : BindsP d15 := fun _ _ _ _ _ _ us hl => match us, hl with | [_, _], _ => rfl
theorem o16 : DfOk fns con frf 16 d16 f16 := ⟨by kernel_rfl, rfl, rfl, by kernel_rfl, rfl, by first | (intro _; rfl) | (intro h; cases h)⟩
theorem p16 : BindsP d16 := fun _ _ _ _ _ _ us hl => match us, hl with | [_], _ => rfl
theorem o17 : DfOk fns con frf 17 d17 f17 := ⟨by kernel_rfl, rfl, rfl, by kernel_rfl, rfl, by first | (intro _; rfl) | (intro h; cases h)⟩
theorem p17 : BindsP d17 := fun _ _ _ _ _ _ us hl => match us, hl with | [_], _ => rfl
theorem o18 : DfOk fns con frf 18 d18 f18 := ⟨by kernel_rfl, rfl, rfl, by kernel_rfl, rfl, by first | (intro _; rfl) | (intro h; cases h)⟩
theorem p18 : BindsP d18 := fun _ _ _ _ _ _ us hl => match us, hl with | [_, _], _ => rfl
theorem o19 : DfOk fns con frf 19 d19 f19 := ⟨by kernel_rfl, rfl, rfl, by kernel_rfl, rfl, by first | (intro _; rfl) | (intro h; cases h)⟩
theorem p19 : BindsP d19 := fun _ _ _ _ _ _ us hl => match us, hl with | [_, _], _ => rfl
theorem o20 : DfOk fns con frf 20 d20 f20 := ⟨by kernel_rfl, rfl, rfl, by kernel_rfl, rfl, by first | (intro _; rfl) | (intro h; cases h)⟩
theorem p20 : BindsP d20 := fun _ _ _ _ _ _ us hl => match us, hl with | [_, _, _], _ => rfl
theorem o21 : DfOk fns con frf 21 d21 f21 := ⟨by kernel_rfl, rfl, rfl, by kernel_rfl, rfl, by first | (intro _; rfl) | (intro h; cases h)⟩
theorem p21 : BindsP d21 := fun _ _ _ _ _ _ us hl => match us, hl with | [_], _ => rfl
theorem o22 : DfOk fns con frf 22 d22 f22 := ⟨by kernel_rfl, rfl, rfl, by kernel_rfl, rfl, by first | (intro _; rfl) | (intro h; cases h)⟩
theorem p22 : BindsP d22 := fun _ _ _ _ _ _ us hl => match us, hl with | [_, _, _], _ => rfl
theorem o23 : DfOk fns con frf 23 d23 f23 := ⟨by kernel_rfl, rfl, rfl, by kernel_rfl, rfl, by first | (intro _; rfl) | (intro h; cases h)⟩
theorem p23 : BindsP d23 := fun _ _ _ _ _ _ us hl => match us, hl with | [_, _, _], _ => rfl
theorem o24 : DfOk fns con frf 24 d24 f24 := ⟨by kernel_rfl, rfl, rfl, by kernel_rfl, rfl, by first | (intro _; rfl) | (intro h; cases h)⟩
theorem p24 : BindsP d24 := fun _ _ _ _ _ _ us hl => match us, hl with | [_], _ => rfl
theorem o25 : DfOk fns con frf 25 d25 f25 := ⟨by kernel_rfl, rfl, rfl, by kernel_rfl, rfl, by first | (intro _; rfl) | (intro h; cases h)⟩
theorem p25 : BindsP d25 := fun _ _ _ _ _ _ us hl => match us, hl with | [_, _, _, _], _ => rfl
theorem o26 : DfOk fns con frf 26 d26 f26 := ⟨by kernel_rfl, rfl, rfl, by kernel_rfl, rfl, by first | (intro _; rfl) | (intro h; cases h)⟩
theorem p26 : BindsP d26 := fun _ _ _ _ _ _ us hl => match us, hl with | [_, _], _ => rfl
theorem o27 : DfOk fns con frf 27 d27 f27 := ⟨by kernel_rfl, rfl, rfl, by kernel_rfl, rfl, by first | (intro _; rfl) | (intro h; cases h)⟩
theorem p27 : BindsP d27 := fun _ _ _ _ _ _ us hl => match us, hl with | [_], _ => rfl
theorem o28 : DfOk fns con frf 28 d28 f28 := ⟨by kernel_rfl, rfl, rfl, by kernel_rfl, rfl, by first | (intro _; rfl) | (intro h; cases h)⟩
theorem p28 : BindsP d28 := fun _ _ _ _ _ _ us hl => match us, hl with | [_, _], _ => rfl
theorem o29 : DfOk fns con frf 29 d29 f29 := ⟨by kernel_rfl, rfl, rfl, by kernel_rfl, rfl, by first | (intro _; rfl) | (intro h; cases h)⟩
theorem p29 : BindsP d29 := fun _ _ _ _ _ _ us hl => match us, hl with | [_, _, _], _ => rfl
theorem o30 : DfOk fns con frf 30 d30 f30 := ⟨by kernel_rfl, rfl, rfl, by kernel_rfl, rfl, by first | (intro _; rfl) | (intro h; cases h)⟩
theorem p30 : BindsP d30 := fun _ _ _ _ _ _ us hl => match us, hl with | [_, _], _ => rfl
theorem o31 : DfOk fns con frf 31 d31 f31 := ⟨by kernel_rfl, rfl, rfl, by kernel_rfl, rfl, by first | (intro _; rfl) | (intro h; cases h)⟩
theorem p31 : BindsP d31 := fun _ _ _ _ _ _ us hl => match us, hl with | [_, _], _ => rfl
theorem o32 : DfOk fns con frf 32 d32 f32 := ⟨by kernel_rfl, rfl, rfl, by kernel_rfl, rfl, by first | (intro _; rfl) | (intro h; cases h)⟩
theorem p32 : BindsP d32 := fun _ _ _ _ _ _ us hl => match us, hl with | [_], _ => rfl
theorem o33 : DfOk fns con frf 33 d33 f33 := ⟨by kernel_rfl, rfl, rfl, by kernel_rfl, rfl, by first | (intro _; rfl) | (intro h; cases h)⟩
theorem p33 : BindsP d33 := fun _ _ _ _ _ _ us hl => match us, hl with | [_], _ => rfl
theorem o34 : DfOk fns con frf 34 d34 f34 := ⟨by kernel_rfl, rfl, rfl, by kernel_rfl, rfl, by first | (intro _; rfl) | (intro h; cases h)⟩
theorem p34 : BindsP d34 := fun _ _ _ _ _ _ us hl => match us, hl with | [_, _, _], _ => rfl
theorem o35 : DfOk fns con frf 35 d35 f35 := ⟨by kernel_rfl, rfl, rfl, by kernel_rfl, rfl, by first | (intro _; rfl) | (intro h; cases h)⟩
theorem p35 : BindsP d35 := fun _ _ _ _ _ _ us hl => match us, hl with | [_, _], _ => rfl
theorem o36 : DfOk fns con frf 36 d36 f36 := ⟨by kernel_rfl, rfl, rfl, by kernel_rfl, rfl, by first | (intro _; rfl) | (intro h; cases h)⟩
theorem p36 : BindsP d36 := fun _ _ _ _ _ _ us hl => match us, hl with | [_, _, _, _], _ => rfl
theorem o37 : DfOk fns con frf 37 d37 f37 := ⟨by kernel_rfl, rfl, rfl, by kernel_rfl, rfl, by first | (intro _; rfl) | (intro h; cases h)⟩
theorem p37 : BindsP d37 := fun _ _ _ _ _ _ us hl => match us, hl with | [_], _ => rfl
theorem o38 : DfOk fns con frf 38 d38 f38 := ⟨by kernel_rfl, rfl, rfl, by kernel_rfl, rfl, by first | (intro _; rfl) | (intro h; cases h)⟩
theorem p38 : BindsP d38 := fun _ _ _ _ _ _ us hl => match us, hl with | [_, _, _, _], _ => rfl
theorem o39 : DfOk fns con frf 39 d39 f39 := ⟨by kernel_rfl, rfl, rfl, by kernel_rfl, rfl, by first | (intro _; rfl) | (intro h; cases h)⟩
theorem p39 : BindsP d39 := fun _ _ _ _ _ _ us hl => match us, hl with | [_], _ => rfl
theorem o40 : DfOk fns con frf 40 d40 f40 := ⟨by kernel_rfl, rfl, rfl, by kernel_rfl, rfl, by first | (intro _; rfl) | (intro h; cases h)⟩
theorem p40 : BindsP d40 := fun _ _ _ _ _ _ us hl => match us, hl with | [_, _], _ => rfl
theorem o41 : DfOk fns con frf 41 d41 f41 := ⟨by kernel_rfl, rfl, rfl, by kernel_rfl, rfl, by first | (intro _; rfl) | (intro h; cases h)⟩
theorem p41 : BindsP d41 := fun _ _ _ _ _ _ us hl => match us, hl with | [_, _], _ => rfl
theorem o42 : DfOk fns con frf 42 d42 f42 := ⟨by kernel_rfl, rfl, rfl, by kernel_rfl, rfl, by first | (intro _; rfl) | (intro h; cases h)⟩
theorem p42 : BindsP d42 := fun _ _ _ _ _ _ us hl => match us, hl with | [_], _ => rfl
theorem o43 : DfOk fns con frf 43 d43 f43 := ⟨by kernel_rfl, rfl, rfl, by kernel_rfl, rfl, by first | (intro _; rfl) | (intro h; cases h)⟩
theorem p43 : BindsP d43 := fun _ _ _ _ _ _ us hl => match us, hl with | [_, _], _ => rfl
theorem o44 : DfOk fns con frf 44 d44 f44 := ⟨by kernel_rfl, rfl, rfl, by kernel_rfl, rfl, by first | (intro _; rfl) | (intro h; cases h)⟩
theorem p44 : BindsP d44 := fun _ _ _ _ _ _ us hl => match us, hl with | [_, _], _ => rfl
theorem o45 : DfOk fns con frf 45 d45 f45 := ⟨by kernel_rfl, rfl, rfl, by kernel_rfl, rfl, by first | (intro _; rfl) | (intro h; cases h)⟩
theorem p45 : BindsP d45 := fun _ _ _ _ _ _ us hl => match us, hl with | [_, _], _ => rfl
theorem o46 : DfOk fns con frf 46 d46 f46 := ⟨by kernel_rfl, rfl, rfl, by kernel_rfl, rfl, by first | (intro _; rfl) | (intro h; cases h)⟩
theorem p46 : BindsP d46 := fun _ _ _ _ _ _ us hl => match us, hl with | [_, _], _ => rfl
theorem o47 : DfOk fns con frf 47 d47 f47 := ⟨by kernel_rfl, rfl, rfl, by kernel_rfl, rfl, by first | (intro _; rfl) | (intro h; cases h)⟩
theorem p47 : BindsP d47 := fun _ _ _ _ _ _ us hl => match us, hl with | [_], _ => rfl
theorem o48 : DfOk fns con frf 48 d48 f48 := ⟨by kernel_rfl, rfl, rfl, by kernel_rfl, rfl, by first | (intro _; rfl) | (intro h; cases h)⟩
theorem p48 : BindsP d48 := fun _ _ _ _ _ _ us hl => match us, hl with | [_, _, _], _ => rfl
theorem o49 : DfOk fns con frf 49 d49 f49 := ⟨by kernel_rfl, rfl, rfl, by kernel_rfl, rfl, by first | (intro _; rfl) | (intro h; cases h)⟩
theorem p49 : BindsP d49 := fun _ _ _ _ _ _ us hl => match us, hl with | [_, _], _ => rfl
theorem o50 : DfOk fns con frf 50 d50 f50 := ⟨by kernel_rfl, rfl, rfl, by kernel_rfl, rfl, by first | (intro _; rfl) | (intro h; cases h)⟩
theorem p50 : BindsP d50 := fun _ _ _ _ _ _ us hl => match us, hl with | [_, _], _ => rfl
theorem o51 : DfOk fns con frf 51 d51 f51 := ⟨by kernel_rfl, rfl, rfl, by kernel_rfl, rfl, by first | (intro _; rfl) | (intro h; cases h)⟩
theorem p51 : BindsP d51 := fun _ _ _ _ _ _ us hl => match us, hl with | [], _ => rfl
theorem o52 : DfOk fns con frf 52 d52 f52 := ⟨by kernel_rfl, rfl, rfl, by kernel_rfl, rfl, by first | (intro _; rfl) | (intro h; cases h)⟩
theorem p52 : BindsP d52 := fun _ _ _ _ _ _ us hl => match us, hl with | [_], _ => rfl
theorem fok : ∀ (i : Nat) (d : Df), ds[i]? = some d → ∃ fn, fs[i]? = some fn ∧ DfOk fns con frf i d fn
  | 0, _, h => by cases h; exact ⟨_, rfl, o0⟩
  | 1, _, h => by cases h; exact ⟨_, rfl, o1⟩
  | 2, _, h => by cases h; exact ⟨_, rfl, o2⟩
  | 3, _, h => by cases h; exact ⟨_, rfl, o3⟩
  | 4, _, h => by cases h; exact ⟨_, rfl, o4⟩
  | 5, _, h => by cases h; exact ⟨_, rfl, o5⟩
  | 6, _, h => by cases h; exact ⟨_, rfl, o6⟩
  | 7, _, h => by cases h; exact ⟨_, rfl, o7⟩
  | 8, _, h => by cases h; exact ⟨_, rfl, o8⟩
  | 9, _, h => by cases h; exact ⟨_, rfl, o9⟩
  | 10, _, h => by cases h; exact ⟨_, rfl, o10⟩
  | 11, _, h => by cases h; exact ⟨_, rfl, o11⟩
  | 12, _, h => by cases h; exact ⟨_, rfl, o12⟩
  | 13, _, h => by cases h; exact ⟨_, rfl, o13⟩
  | 14, _, h => by cases h; exact ⟨_, rfl, o14⟩
  | 15, _, h => by cases h; exact ⟨_, rfl, o15⟩
  | 16, _, h => by cases h; exact ⟨_, rfl, o16⟩
  | 17, _, h => by cases h; exact ⟨_, rfl, o17⟩
  | 18, _, h => by cases h; exact ⟨_, rfl, o18⟩
  | 19, _, h => by cases h; exact ⟨_, rfl, o19⟩
  | 20, _, h => by cases h; exact ⟨_, rfl, o20⟩
  | 21, _, h => by cases h; exact ⟨_, rfl, o21⟩
  | 22, _, h => by cases h; exact ⟨_, rfl, o22⟩
  | 23, _, h => by cases h; exact ⟨_, rfl, o23⟩
  | 24, _, h => by cases h; exact ⟨_, rfl, o24⟩
  | 25, _, h => by cases h; exact ⟨_, rfl, o25⟩
  | 26, _, h => by cases h; exact ⟨_, rfl, o26⟩
  | 27, _, h => by cases h; exact ⟨_, rfl, o27⟩
  | 28, _, h => by cases h; exact ⟨_, rfl, o28⟩
  | 29, _, h => by cases h; exact ⟨_, rfl, o29⟩
  | 30, _, h => by cases h; exact ⟨_, rfl, o30⟩
  | 31, _, h => by cases h; exact ⟨_, rfl, o31⟩
  | 32, _, h => by cases h; exact ⟨_, rfl, o32⟩
  | 33, _, h => by cases h; exact ⟨_, rfl, o33⟩
  | 34, _, h => by cases h; exact ⟨_, rfl, o34⟩
  | 35, _, h => by cases h; exact ⟨_, rfl, o35⟩
  | 36, _, h => by cases h; exact ⟨_, rfl, o36⟩
  | 37, _, h => by cases h; exact ⟨_, rfl, o37⟩
  | 38, _, h => by cases h; exact ⟨_, rfl, o38⟩
  | 39, _, h => by cases h; exact ⟨_, rfl, o39⟩
  | 40, _, h => by cases h; exact ⟨_, rfl, o40⟩
  | 41, _, h => by cases h; exact ⟨_, rfl, o41⟩
  | 42, _, h => by cases h; exact ⟨_, rfl, o42⟩
  | 43, _, h => by cases h; exact ⟨_, rfl, o43⟩
  | 44, _, h => by cases h; exact ⟨_, rfl, o44⟩
  | 45, _, h => by cases h; exact ⟨_, rfl, o45⟩
  | 46, _, h => by cases h; exact ⟨_, rfl, o46⟩
  | 47, _, h => by cases h; exact ⟨_, rfl, o47⟩
  | 48, _, h => by cases h; exact ⟨_, rfl, o48⟩
  | 49, _, h => by cases h; exact ⟨_, rfl, o49⟩
  | 50, _, h => by cases h; exact ⟨_, rfl, o50⟩
  | 51, _, h => by cases h; exact ⟨_, rfl, o51⟩
  | 52, _, h => by cases h; exact ⟨_, rfl, o52⟩
  | i + 53, _, h => by cases h
theorem bok : ∀ d ∈ ds, BindsP d := by
  intro d h
  simp only [ds, List.mem_cons, List.mem_nil_iff, or_false] at h
  rcases h with rfl | rfl | rfl | rfl | rfl | rfl | rfl | rfl | rfl | rfl | rfl | rfl | rfl | rfl | rfl | rfl | rfl | rfl | rfl | rfl | rfl | rfl | rfl | rfl | rfl | rfl | rfl | rfl | rfl | rfl | rfl | rfl | rfl | rfl | rfl | rfl | rfl | rfl | rfl | rfl | rfl | rfl | rfl | rfl | rfl | rfl | rfl | rfl | rfl | rfl | rfl | rfl | rfl
  · exact p0
  · exact p1
  · exact p2
  · exact p3
  · exact p4
  · exact p5
  · exact p6
  · exact p7
  · exact p8
  · exact p9
  · exact p10
  · exact p11
  · exact p12
  · exact p13
  · exact p14
  · exact p15
  · exact p16
  · exact p17
  · exact p18
  · exact p19
  · exact p20
  · exact p21
  · exact p22
  · exact p23
  · exact p24
  · exact p25
  · exact p26
  · exact p27
  · exact p28
  · exact p29
  · exact p30
  · exact p31
  · exact p32
  · exact p33
  · exact p34
  · exact p35
  · exact p36
  · exact p37
  · exact p38
  · exact p39
  · exact p40
  · exact p41
  · exact p42
  · exact p43
  · exact p44
  · exact p45
  · exact p46
  · exact p47
  · exact p48
  · exact p49
  · exact p50
  · exact p51
  · exact p52
theorem nok : fns = ds.map (·.x) := rfl
end K09
end Mi
namespace Mi
open PySem PySem.Spec PyProof.Rows L2

namespace K09
/-- iD as data -/
abbrev iD (R : List Int) : List D := R.map D.int
theorem atI_lt {α : Type} {xs : List α} {i : Nat} (h : i < xs.length) : atI xs (i : Int) = some xs[i] := by
  unfold atI ixN
  rw [if_pos (by omega), if_pos (by omega), Option.bind_some]
  simp [h]
theorem atI_get {α : Type} {xs : List α} {i : Nat} {x : α} (h : xs[i]? = some x) : atI xs (i : Int) = some x := by
  obtain ⟨hl, rfl⟩ := List.getElem?_eq_some_iff.mp h
  exact atI_lt hl
theorem boolsOf_true {α : Type} (xs : List α) : boolsOf (xs.map fun _ => D.bl true) = some (xs.map fun _ => true) := by
  induction xs with
  | nil => rfl
  | cons a xs ih =>
    show (boolsOf (xs.map fun _ => D.bl true)).map (true :: ·) = _
    rw [ih]
    rfl
theorem all_true {α : Type} {M : Mem} (xs : List α) : bltD M .all [.lst (xs.map fun _ => D.bl true)] = some (.bl true) := by
  have h : boolsOf (xs.map fun _ => D.bl true) = some (xs.map fun _ => true) := by
    induction xs with
    | nil => rfl
    | cons a xs ih =>
      show (boolsOf (xs.map fun _ => D.bl true)).map (true :: ·) = _
      rw [ih]
      rfl
  show (some (xs.map fun _ => D.bl true)).bind (fun xs => (boolsOf xs).map fun bs => D.bl (bs.all id)) = _
  rw [Option.bind_some, h]
  simp
theorem pures_all {xs : List D} (h : ∀ x ∈ xs, x.pure = true) : D.pures xs = true := by
  induction xs with
  | nil => rfl
  | cons a xs ih =>
    show (a.pure && D.pures xs) = true
    rw [h a (List.mem_cons_self ..), ih fun x hx => h x (List.mem_cons_of_mem _ hx)]
    rfl
theorem pures_ints (R : List Int) : D.pures (iD R) = true := pures_all fun x hx => by
  obtain ⟨i, _, rfl⟩ := List.mem_map.mp hx
  rfl
variable {k : Nat} {M : Mem}
theorem is_integer (hM : OkM M) {i : Int} : callD fs (k + 1) 0 [.int i] M = some (.bl true, M) := call_pure hM rfl rfl rfl rfl
theorem is_whole (hM : OkM M) {i lo hi : Int} : callD fs (k + 2) 1 [.int i, .int lo, .int hi] M = some (.bl (decide (lo ≤ i) && decide (i ≤ hi)), M) := by
  refine call_pure (f := f1) hM rfl rfl rfl ?_
  by_cases h : lo ≤ i <;> simp [f1, b1, ex_skip, ex_seq, ex_asg, ex_box, ex_parN, ex_seti, ex_expr, ex_ret, ex_if, ex_brk, ex_cont, ev_var, ev_cst, ev_bin, ev_cmp, ev_chain, ev_neg, ev_not, ev_and, ev_or, ev_ite, ev_tup, ev_lst, ev_dsp, ev_idx, ev_slice, ev_rev, ev_call, ev_blt, ev_isi, ev_mth, evs_nil, evs_cons, truD, rd, cmpD, binD, bin0, isiD, seqOf, lstOf, dctOf, bltD, ixD, slD, partOf, asgT, boxD, boxs, setAll, keyOf, inD, eqD, flatD, eqv_str, eqv_int, eqv_bl, eqv_non, eqv_si, eqv_is, eqv_tup, eqv_lst, eqv_tn, eqv_nt, eqvs_nil, eqvs_cons, eqvs_nc, eqvs_cn, okN_non, okN_bl, okN_int, okN_str, okN_t64, okN_l64, okN_t63, okN_l63, okN_t62, okN_l62, okNs_nil, okNs_cons, is_integer hM, h]
theorem need_whole (hM : OkM M) {i lo hi : Int} (h1 : lo ≤ i) (h2 : i ≤ hi) : callD fs (k + 3) 2 [.int i, .int lo, .int hi] M = some (.non, M) := by
  refine call_none (f := f2) (σ := [some (.int i), some (.int lo), some (.int hi)]) hM rfl rfl ?_
  simp [f2, b2, ex_skip, ex_seq, ex_asg, ex_box, ex_parN, ex_seti, ex_expr, ex_ret, ex_if, ex_brk, ex_cont, ev_var, ev_cst, ev_bin, ev_cmp, ev_chain, ev_neg, ev_not, ev_and, ev_or, ev_ite, ev_tup, ev_lst, ev_dsp, ev_idx, ev_slice, ev_rev, ev_call, ev_blt, ev_isi, ev_mth, evs_nil, evs_cons, truD, rd, cmpD, binD, bin0, isiD, seqOf, lstOf, dctOf, bltD, ixD, slD, partOf, asgT, boxD, boxs, setAll, keyOf, inD, eqD, flatD, eqv_str, eqv_int, eqv_bl, eqv_non, eqv_si, eqv_is, eqv_tup, eqv_lst, eqv_tn, eqv_nt, eqvs_nil, eqvs_cons, eqvs_nc, eqvs_cn, okN_non, okN_bl, okN_int, okN_str, okN_t64, okN_l64, okN_t63, okN_l63, okN_t62, okN_l62, okNs_nil, okNs_cons, is_whole hM, h1, h2]
theorem is_tuple_of (hM : OkM M) {xs : List D} {lo hi : Int} : callD fs (k + 1) 3 [.tup xs, .int lo, .int hi] M = some (.bl (decide (lo ≤ (xs.length : Nat)) && decide (((xs.length : Nat) : Int) ≤ hi)), M) := by
  refine call_pure (f := f3) hM rfl rfl rfl ?_
  by_cases h : lo ≤ (xs.length : Nat) <;> simp [f3, b3, ex_skip, ex_seq, ex_asg, ex_box, ex_parN, ex_seti, ex_expr, ex_ret, ex_if, ex_brk, ex_cont, ev_var, ev_cst, ev_bin, ev_cmp, ev_chain, ev_neg, ev_not, ev_and, ev_or, ev_ite, ev_tup, ev_lst, ev_dsp, ev_idx, ev_slice, ev_rev, ev_call, ev_blt, ev_isi, ev_mth, evs_nil, evs_cons, truD, rd, cmpD, binD, bin0, isiD, seqOf, lstOf, dctOf, bltD, ixD, slD, partOf, asgT, boxD, boxs, setAll, keyOf, inD, eqD, flatD, eqv_str, eqv_int, eqv_bl, eqv_non, eqv_si, eqv_is, eqv_tup, eqv_lst, eqv_tn, eqv_nt, eqvs_nil, eqvs_cons, eqvs_nc, eqvs_cn, okN_non, okN_bl, okN_int, okN_str, okN_t64, okN_l64, okN_t63, okN_l63, okN_t62, okN_l62, okNs_nil, okNs_cons, h]
theorem fits_width (hM : OkM M) {w : Nat} (h1 : 1 ≤ w) (h2 : w ≤ 8) : callD fs (k + 3) 5 [.int (w : Nat)] M = some (.bl true, M) := by
  refine call_pure (f := f5) hM rfl rfl rfl ?_
  simp [f5, b5, ex_skip, ex_seq, ex_asg, ex_box, ex_parN, ex_seti, ex_expr, ex_ret, ex_if, ex_brk, ex_cont, ev_var, ev_cst, ev_bin, ev_cmp, ev_chain, ev_neg, ev_not, ev_and, ev_or, ev_ite, ev_tup, ev_lst, ev_dsp, ev_idx, ev_slice, ev_rev, ev_call, ev_blt, ev_isi, ev_mth, evs_nil, evs_cons, truD, rd, cmpD, binD, bin0, isiD, seqOf, lstOf, dctOf, bltD, ixD, slD, partOf, asgT, boxD, boxs, setAll, keyOf, inD, eqD, flatD, eqv_str, eqv_int, eqv_bl, eqv_non, eqv_si, eqv_is, eqv_tup, eqv_lst, eqv_tn, eqv_nt, eqvs_nil, eqvs_cons, eqvs_nc, eqvs_cn, okN_non, okN_bl, okN_int, okN_str, okN_t64, okN_l64, okN_t63, okN_l63, okN_t62, okN_l62, okNs_nil, okNs_cons, is_whole hM]
  omega
theorem need_width (hM : OkM M) {w : Nat} (h1 : 1 ≤ w) (h2 : w ≤ 8) : callD fs (k + 4) 6 [.int (w : Nat)] M = some (.non, M) := by
  refine call_none (f := f6) (σ := [some (.int (w : Nat))]) hM rfl rfl ?_
  simp [f6, b6, ex_skip, ex_seq, ex_asg, ex_box, ex_parN, ex_seti, ex_expr, ex_ret, ex_if, ex_brk, ex_cont, ev_var, ev_cst, ev_bin, ev_cmp, ev_chain, ev_neg, ev_not, ev_and, ev_or, ev_ite, ev_tup, ev_lst, ev_dsp, ev_idx, ev_slice, ev_rev, ev_call, ev_blt, ev_isi, ev_mth, evs_nil, evs_cons, truD, rd, cmpD, binD, bin0, isiD, seqOf, lstOf, dctOf, bltD, ixD, slD, partOf, asgT, boxD, boxs, setAll, keyOf, inD, eqD, flatD, eqv_str, eqv_int, eqv_bl, eqv_non, eqv_si, eqv_is, eqv_tup, eqv_lst, eqv_tn, eqv_nt, eqvs_nil, eqvs_cons, eqvs_nc, eqvs_cn, okN_non, okN_bl, okN_int, okN_str, okN_t64, okN_l64, okN_t63, okN_l63, okN_t62, okN_l62, okNs_nil, okNs_cons, fits_width hM h1 h2]
theorem fits_word (hM : OkM M) {w : Nat} (h2 : w ≤ 8) {x : Int} (hx : 0 ≤ x) (hx2 : x < 2 ^ w) : callD fs (k + 3) 7 [.int (w : Nat), .int x] M = some (.bl true, M) := by
  refine call_pure (f := f7) hM rfl rfl rfl ?_
  have e : (w : Int) ≤ 1000000 := by omega
  have e2 : x ≤ 2 ^ w - 1 := by omega
  simp [f7, b7, ex_skip, ex_seq, ex_asg, ex_box, ex_parN, ex_seti, ex_expr, ex_ret, ex_if, ex_brk, ex_cont, ev_var, ev_cst, ev_bin, ev_cmp, ev_chain, ev_neg, ev_not, ev_and, ev_or, ev_ite, ev_tup, ev_lst, ev_dsp, ev_idx, ev_slice, ev_rev, ev_call, ev_blt, ev_isi, ev_mth, evs_nil, evs_cons, truD, rd, cmpD, binD, bin0, isiD, seqOf, lstOf, dctOf, bltD, ixD, slD, partOf, asgT, boxD, boxs, setAll, keyOf, inD, eqD, flatD, eqv_str, eqv_int, eqv_bl, eqv_non, eqv_si, eqv_is, eqv_tup, eqv_lst, eqv_tn, eqv_nt, eqvs_nil, eqvs_cons, eqvs_nc, eqvs_cn, okN_non, okN_bl, okN_int, okN_str, okN_t64, okN_l64, okN_t63, okN_l63, okN_t62, okN_l62, okNs_nil, okNs_cons, is_whole hM, e, hx, e2]
theorem are_words (hM : OkM M) {w : Nat} (h2 : w ≤ 8) {R : List Int} {n : Nat} (hl : R.length = n) (hn : n ≤ 8) (hR : ∀ x ∈ R, 0 ≤ x ∧ x < 2 ^ w) : callD fs (k + 4) 8 [.int (w : Nat), .tup (iD R), .int (n : Nat)] M = some (.bl true, M) := by
  refine call_pure (f := f8) hM rfl rfl rfl ?_
  have hc : ev (callD fs (k + 3)) (.comp (.call 7 (.cons (.var 0) (.cons (.var 3) .nil))) (.nm 3) (.sSeq (.var 1)) (.cst (.bl true)) [3]) [some (.int (w : Nat)), some (.tup (iD R)), some (.int (n : Nat)), none] M = some (.lst (R.map fun _ => .bl true), M) := by
    rw [comp_map (iD R) (fun _ => .bl true) rfl (walk_seq rfl) (by simp [iD, hl, line]; omega) fun x hx => ?_, iD, List.map_map]
    · rfl
    · obtain ⟨i, hi, rfl⟩ := List.mem_map.mp hx
      obtain ⟨a, b⟩ := hR i hi
      refine ⟨[some (.int (w : Nat)), some (.tup (iD R)), some (.int (n : Nat)), some (.int i)], .bl true, rfl, rfl, rfl, ?_⟩
      simp [ex_skip, ex_seq, ex_asg, ex_box, ex_parN, ex_seti, ex_expr, ex_ret, ex_if, ex_brk, ex_cont, ev_var, ev_cst, ev_bin, ev_cmp, ev_chain, ev_neg, ev_not, ev_and, ev_or, ev_ite, ev_tup, ev_lst, ev_dsp, ev_idx, ev_slice, ev_rev, ev_call, ev_blt, ev_isi, ev_mth, evs_nil, evs_cons, truD, rd, cmpD, binD, bin0, isiD, seqOf, lstOf, dctOf, bltD, ixD, slD, partOf, asgT, boxD, boxs, setAll, keyOf, inD, eqD, flatD, eqv_str, eqv_int, eqv_bl, eqv_non, eqv_si, eqv_is, eqv_tup, eqv_lst, eqv_tn, eqv_nt, eqvs_nil, eqvs_cons, eqvs_nc, eqvs_cn, okN_non, okN_bl, okN_int, okN_str, okN_t64, okN_l64, okN_t63, okN_l63, okN_t62, okN_l62, okNs_nil, okNs_cons, fits_word hM h2 a b]
  simp [f8, b8, ex_seq, ex_ret, ex_skip, ev_and, ev_call, ev_blt, ev_var, evs_cons, evs_nil, is_tuple_of hM, hc, truD, rd, hl, all_true]
theorem mask {w : Nat} (h1 : 1 ≤ w) (h2 : w ≤ 8) (x : Int) : Builtin.bitAnd x (2 ^ w - 1) = x % 2 ^ w := by
  have p1 : (2 : Int) ^ 1 = 2 := by decide
  have p2 : (2 : Int) ^ 2 = 4 := by decide
  have p3 : (2 : Int) ^ 3 = 8 := by decide
  have p4 : (2 : Int) ^ 4 = 16 := by decide
  have p5 : (2 : Int) ^ 5 = 32 := by decide
  have p6 : (2 : Int) ^ 6 = 64 := by decide
  have p7 : (2 : Int) ^ 7 = 128 := by decide
  have p8 : (2 : Int) ^ 8 = 256 := by decide
  rcases (by omega : w = 1 ∨ w = 2 ∨ w = 3 ∨ w = 4 ∨ w = 5 ∨ w = 6 ∨ w = 7 ∨ w = 8) with h | h | h | h | h | h | h | h <;> subst h
  · rw [p1]; exact bitAnd_m1 x
  · rw [p2]; exact bitAnd_m2 x
  · rw [p3]; exact bitAnd_m3 x
  · rw [p4]; exact bitAnd_m4 x
  · rw [p5]; exact bitAnd_m5 x
  · rw [p6]; exact bitAnd_m6 x
  · rw [p7]; exact bitAnd_m7 x
  · rw [p8]; exact bitAnd_m8 x
theorem rest_of (hM : OkM M) {w : Nat} (h1 : 1 ≤ w) (h2 : w ≤ 8) {x : Int} : callD fs (k + 1) 9 [.int (w : Nat), .int x] M = some (.int (x % 2 ^ w), M) := by
  refine call_pure (f := f9) hM rfl rfl rfl ?_
  have e : (w : Int) ≤ 1000000 := by omega
  have e2 : Builtin.bitAnd x (2 ^ w - 1) = x % 2 ^ w := mask h1 h2 x
  simp [f9, b9, ex_skip, ex_seq, ex_asg, ex_box, ex_parN, ex_seti, ex_expr, ex_ret, ex_if, ex_brk, ex_cont, ev_var, ev_cst, ev_bin, ev_cmp, ev_chain, ev_neg, ev_not, ev_and, ev_or, ev_ite, ev_tup, ev_lst, ev_dsp, ev_idx, ev_slice, ev_rev, ev_call, ev_blt, ev_isi, ev_mth, evs_nil, evs_cons, truD, rd, cmpD, binD, bin0, isiD, seqOf, lstOf, dctOf, bltD, ixD, slD, partOf, asgT, boxD, boxs, setAll, keyOf, inD, eqD, flatD, eqv_str, eqv_int, eqv_bl, eqv_non, eqv_si, eqv_is, eqv_tup, eqv_lst, eqv_tn, eqv_nt, eqvs_nil, eqvs_cons, eqvs_nc, eqvs_cn, okN_non, okN_bl, okN_int, okN_str, okN_t64, okN_l64, okN_t63, okN_l63, okN_t62, okN_l62, okNs_nil, okNs_cons, e, e2]
end K09
end Mi
namespace Mi
open PySem PySem.Spec PyProof.Rows L2

namespace K09
/-! ### the machine -/
def opNm (o : Nat) : List Nat := match o with
  | 0 => [97, 100, 100]
  | 1 => [115, 117, 98]
  | 2 => [109, 117, 108]
  | 3 => [97, 110, 100]
  | 4 => [111, 114]
  | 5 => [120, 111, 114]
  | 6 => [108, 101, 102, 116]
  | _ => [114, 105, 103, 104, 116]
def opV (w o : Nat) (a b : Int) : Int := match o with
  | 0 => (a + b) % 2 ^ w
  | 1 => (a - b) % 2 ^ w
  | 2 => (a * b) % 2 ^ w
  | 3 => Builtin.bitAnd a b
  | 4 => Builtin.bitOr a b
  | 5 => Builtin.bitXor a b
  | 6 => if (w : Int) ≤ b then 0 else (a * 2 ^ b.toNat) % 2 ^ w
  | _ => if (w : Int) ≤ b then 0 else a / 2 ^ b.toNat
def relNm (l : Bool) : List Nat := if l then [108, 101, 115, 115] else [115, 97, 109, 101]
def relV (l : Bool) (a b : Int) : Bool := if l then decide (a < b) else decide (a = b)
inductive Ord where
  | put (r n : Nat) | copy (r s : Nat) | op (o r s : Nat) | load (r s : Nat) | store (r s : Nat) | cond (l : Bool) (r s t : Nat) | go (t : Nat) | fin | fault (n : Nat)
abbrev nD (n : Nat) : D := .int (n : Nat)
def Ord.enc : Ord → D
  | .put r n => .tup [.str [112, 117, 116], nD r, nD n]
  | .copy r s => .tup [.str [99, 111, 112, 121], nD r, nD s]
  | .op o r s => .tup [.str [100, 111], .str (opNm o), nD r, nD s]
  | .load r s => .tup [.str [108, 111, 97, 100], nD r, nD s]
  | .store r s => .tup [.str [115, 116, 111, 114, 101], nD r, nD s]
  | .cond l r s t => .tup [.str [105, 102], .str (relNm l), nD r, nD s, nD t]
  | .go t => .tup [.str [103, 111], nD t]
  | .fin => .tup [.str [101, 110, 100]]
  | .fault n => .tup [.str [102, 97, 117, 108, 116], nD n]
def Ord.ok (many : Nat) : Ord → Prop
  | .put r n => r < 4 ∧ n < 256
  | .copy r s => r < 4 ∧ s < 4
  | .op o r s => o < 8 ∧ r < 4 ∧ s < 4
  | .load r s => r < 4 ∧ s < 4
  | .store r s => r < 4 ∧ s < 4
  | .cond _ r s t => r < 4 ∧ s < 4 ∧ t < many
  | .go t => t < many
  | .fin => True
  | .fault n => n < 10
def Ord.last : Ord → Bool
  | .go _ => true
  | .fin => true
  | .fault _ => true
  | _ => false
def Ord.stop : Ord → Bool
  | .fin => true
  | .fault _ => true
  | _ => false
theorem Ord.pure (o : Ord) : o.enc.pure = true := by cases o <;> rfl
/-- a program of at most 60 orders -/
structure POk (P : List Ord) : Prop where
  ne : 0 < P.length
  le : P.length ≤ 60
  ok : ∀ o ∈ P, o.ok P.length
  last : ∃ o, P[P.length - 1]? = some o ∧ o.last = true
abbrev pD (P : List Ord) : D := .tup (P.map Ord.enc)
/-- words -/
def WOk (w : Nat) (R : List Int) : Prop := ∀ x ∈ R, 0 ≤ x ∧ x < 2 ^ w
structure St where
  p : Nat
  R : List Int
  C : List Int
abbrev St.enc (s : St) : D := .tup [nD s.p, .tup (iD s.R), .tup (iD s.C)]
structure St.ok (w : Nat) (n : Nat) (s : St) : Prop where
  p : s.p < n
  lR : s.R.length = 4
  lC : s.C.length = 8
  R : WOk w s.R
  C : WOk w s.C
def gI (R : List Int) (r : Nat) : Int := R.getD r 0
def step (w : Nat) (P : List Ord) (s : St) : Option St := match P[s.p]? with
  | some (.put r n) => some ⟨s.p + 1, s.R.set r ((n : Int) % 2 ^ w), s.C⟩
  | some (.copy r q) => some ⟨s.p + 1, s.R.set r (gI s.R q), s.C⟩
  | some (.op o r q) => some ⟨s.p + 1, s.R.set r (opV w o (gI s.R r) (gI s.R q)), s.C⟩
  | some (.load r q) => some ⟨s.p + 1, s.R.set r (gI s.C (gI s.R q % 8).toNat), s.C⟩
  | some (.store r q) => some ⟨s.p + 1, s.R, s.C.set (gI s.R q % 8).toNat (gI s.R r)⟩
  | some (.cond l r q t) => some ⟨if relV l (gI s.R r) (gI s.R q) then t else s.p + 1, s.R, s.C⟩
  | some (.go t) => some ⟨t, s.R, s.C⟩
  | _ => none
theorem gI_get {R : List Int} {r : Nat} (h : r < R.length) : (iD R)[r]? = some (.int (gI R r)) := by
  unfold gI
  rw [List.getElem?_map, List.getD_eq_getElem?_getD, List.getElem?_eq_getElem h]
  rfl
theorem gI_at {R : List Int} {r : Nat} (h : r < R.length) : atI (iD R) ((r : Nat) : Int) = some (.int (gI R r)) := atI_get (gI_get h)
theorem gI_ok {w : Nat} {R : List Int} (h : WOk w R) {r : Nat} (hr : r < R.length) : 0 ≤ gI R r ∧ gI R r < 2 ^ w := by
  unfold gI
  rw [List.getD_eq_getElem?_getD, List.getElem?_eq_getElem hr]
  exact h _ (List.getElem_mem hr)
variable {k : Nat} {M : Mem}
theorem pow_pos {w : Nat} : (0 : Int) < 2 ^ w := Int.pow_pos (by decide)
theorem pow_256 {w : Nat} (h : w ≤ 8) : (2 : Int) ^ w ≤ 256 := by
  have : (2 : Nat) ^ w ≤ 2 ^ 8 := Nat.pow_le_pow_right (by decide) h
  have : ((2 : Nat) ^ w : Nat) ≤ (256 : Nat) := this
  exact_mod_cast this
theorem moved (hM : OkM M) {w : Nat} (h1 : 1 ≤ w) (h2 : w ≤ 8) {a b : Int} (ha : 0 ≤ a) (ha2 : a < 2 ^ w) (hb : 0 ≤ b) (hb2 : b < 2 ^ w) {o : Nat} (ho : o = 6 ∨ o = 7) : callD fs (k + 2) 10 [.int (w : Nat), .str (opNm o), .int a, .int b] M = some (.int (opV w o a b), M) := by
  refine call_pure (f := f10) hM rfl rfl rfl ?_
  have p := pow_256 h2
  have e1 : b ≤ 1000000 := by omega
  have e2 : a.natAbs < 18446744073709551616 := by omega
  rcases ho with rfl | rfl
  · by_cases c : (w : Int) ≤ b <;> simp [f10, b10, ex_skip, ex_seq, ex_asg, ex_box, ex_parN, ex_seti, ex_expr, ex_ret, ex_if, ex_brk, ex_cont, ev_var, ev_cst, ev_bin, ev_cmp, ev_chain, ev_neg, ev_not, ev_and, ev_or, ev_ite, ev_tup, ev_lst, ev_dsp, ev_idx, ev_slice, ev_rev, ev_call, ev_blt, ev_isi, ev_mth, evs_nil, evs_cons, truD, rd, cmpD, binD, bin0, isiD, seqOf, lstOf, dctOf, bltD, ixD, slD, partOf, asgT, boxD, boxs, setAll, keyOf, inD, eqD, flatD, eqv_str, eqv_int, eqv_bl, eqv_non, eqv_si, eqv_is, eqv_tup, eqv_lst, eqv_tn, eqv_nt, eqvs_nil, eqvs_cons, eqvs_nc, eqvs_cn, okN_non, okN_bl, okN_int, okN_str, okN_t64, okN_l64, okN_t63, okN_l63, okN_t62, okN_l62, okNs_nil, okNs_cons, opNm, opV, c, rest_of hM h1 h2, hb, e1, e2]
  · by_cases c : (w : Int) ≤ b <;> simp [f10, b10, ex_skip, ex_seq, ex_asg, ex_box, ex_parN, ex_seti, ex_expr, ex_ret, ex_if, ex_brk, ex_cont, ev_var, ev_cst, ev_bin, ev_cmp, ev_chain, ev_neg, ev_not, ev_and, ev_or, ev_ite, ev_tup, ev_lst, ev_dsp, ev_idx, ev_slice, ev_rev, ev_call, ev_blt, ev_isi, ev_mth, evs_nil, evs_cons, truD, rd, cmpD, binD, bin0, isiD, seqOf, lstOf, dctOf, bltD, ixD, slD, partOf, asgT, boxD, boxs, setAll, keyOf, inD, eqD, flatD, eqv_str, eqv_int, eqv_bl, eqv_non, eqv_si, eqv_is, eqv_tup, eqv_lst, eqv_tn, eqv_nt, eqvs_nil, eqvs_cons, eqvs_nc, eqvs_cn, okN_non, okN_bl, okN_int, okN_str, okN_t64, okN_l64, okN_t63, okN_l63, okN_t62, okN_l62, okNs_nil, okNs_cons, opNm, opV, c, rest_of hM h1 h2, hb, e1, e2]
theorem operated (hM : OkM M) {w : Nat} (h1 : 1 ≤ w) (h2 : w ≤ 8) {a b : Int} (ha : 0 ≤ a) (ha2 : a < 2 ^ w) (hb : 0 ≤ b) (hb2 : b < 2 ^ w) {o : Nat} (ho : o < 8) : callD fs (k + 3) 11 [.int (w : Nat), .str (opNm o), .int a, .int b] M = some (.int (opV w o a b), M) := by
  refine call_pure (f := f11) hM rfl rfl rfl ?_
  have p := pow_256 h2
  have hm : mulOk a b = true := by
    unfold mulOk
    simp
    omega
  rcases (by omega : o = 0 ∨ o = 1 ∨ o = 2 ∨ o = 3 ∨ o = 4 ∨ o = 5 ∨ o = 6 ∨ o = 7) with h | h | h | h | h | h | h | h <;> subst h
  · simp [f11, b11, ex_skip, ex_seq, ex_asg, ex_box, ex_parN, ex_seti, ex_expr, ex_ret, ex_if, ex_brk, ex_cont, ev_var, ev_cst, ev_bin, ev_cmp, ev_chain, ev_neg, ev_not, ev_and, ev_or, ev_ite, ev_tup, ev_lst, ev_dsp, ev_idx, ev_slice, ev_rev, ev_call, ev_blt, ev_isi, ev_mth, evs_nil, evs_cons, truD, rd, cmpD, binD, bin0, isiD, seqOf, lstOf, dctOf, bltD, ixD, slD, partOf, asgT, boxD, boxs, setAll, keyOf, inD, eqD, flatD, eqv_str, eqv_int, eqv_bl, eqv_non, eqv_si, eqv_is, eqv_tup, eqv_lst, eqv_tn, eqv_nt, eqvs_nil, eqvs_cons, eqvs_nc, eqvs_cn, okN_non, okN_bl, okN_int, okN_str, okN_t64, okN_l64, okN_t63, okN_l63, okN_t62, okN_l62, okNs_nil, okNs_cons, opNm, opV, rest_of hM h1 h2]
  · simp [f11, b11, ex_skip, ex_seq, ex_asg, ex_box, ex_parN, ex_seti, ex_expr, ex_ret, ex_if, ex_brk, ex_cont, ev_var, ev_cst, ev_bin, ev_cmp, ev_chain, ev_neg, ev_not, ev_and, ev_or, ev_ite, ev_tup, ev_lst, ev_dsp, ev_idx, ev_slice, ev_rev, ev_call, ev_blt, ev_isi, ev_mth, evs_nil, evs_cons, truD, rd, cmpD, binD, bin0, isiD, seqOf, lstOf, dctOf, bltD, ixD, slD, partOf, asgT, boxD, boxs, setAll, keyOf, inD, eqD, flatD, eqv_str, eqv_int, eqv_bl, eqv_non, eqv_si, eqv_is, eqv_tup, eqv_lst, eqv_tn, eqv_nt, eqvs_nil, eqvs_cons, eqvs_nc, eqvs_cn, okN_non, okN_bl, okN_int, okN_str, okN_t64, okN_l64, okN_t63, okN_l63, okN_t62, okN_l62, okNs_nil, okNs_cons, opNm, opV, rest_of hM h1 h2]
  · simp [f11, b11, ex_skip, ex_seq, ex_asg, ex_box, ex_parN, ex_seti, ex_expr, ex_ret, ex_if, ex_brk, ex_cont, ev_var, ev_cst, ev_bin, ev_cmp, ev_chain, ev_neg, ev_not, ev_and, ev_or, ev_ite, ev_tup, ev_lst, ev_dsp, ev_idx, ev_slice, ev_rev, ev_call, ev_blt, ev_isi, ev_mth, evs_nil, evs_cons, truD, rd, cmpD, binD, bin0, isiD, seqOf, lstOf, dctOf, bltD, ixD, slD, partOf, asgT, boxD, boxs, setAll, keyOf, inD, eqD, flatD, eqv_str, eqv_int, eqv_bl, eqv_non, eqv_si, eqv_is, eqv_tup, eqv_lst, eqv_tn, eqv_nt, eqvs_nil, eqvs_cons, eqvs_nc, eqvs_cn, okN_non, okN_bl, okN_int, okN_str, okN_t64, okN_l64, okN_t63, okN_l63, okN_t62, okN_l62, okNs_nil, okNs_cons, opNm, opV, rest_of hM h1 h2, hm]
  · simp [f11, b11, ex_skip, ex_seq, ex_asg, ex_box, ex_parN, ex_seti, ex_expr, ex_ret, ex_if, ex_brk, ex_cont, ev_var, ev_cst, ev_bin, ev_cmp, ev_chain, ev_neg, ev_not, ev_and, ev_or, ev_ite, ev_tup, ev_lst, ev_dsp, ev_idx, ev_slice, ev_rev, ev_call, ev_blt, ev_isi, ev_mth, evs_nil, evs_cons, truD, rd, cmpD, binD, bin0, isiD, seqOf, lstOf, dctOf, bltD, ixD, slD, partOf, asgT, boxD, boxs, setAll, keyOf, inD, eqD, flatD, eqv_str, eqv_int, eqv_bl, eqv_non, eqv_si, eqv_is, eqv_tup, eqv_lst, eqv_tn, eqv_nt, eqvs_nil, eqvs_cons, eqvs_nc, eqvs_cn, okN_non, okN_bl, okN_int, okN_str, okN_t64, okN_l64, okN_t63, okN_l63, okN_t62, okN_l62, okNs_nil, okNs_cons, opNm, opV]
  · simp [f11, b11, ex_skip, ex_seq, ex_asg, ex_box, ex_parN, ex_seti, ex_expr, ex_ret, ex_if, ex_brk, ex_cont, ev_var, ev_cst, ev_bin, ev_cmp, ev_chain, ev_neg, ev_not, ev_and, ev_or, ev_ite, ev_tup, ev_lst, ev_dsp, ev_idx, ev_slice, ev_rev, ev_call, ev_blt, ev_isi, ev_mth, evs_nil, evs_cons, truD, rd, cmpD, binD, bin0, isiD, seqOf, lstOf, dctOf, bltD, ixD, slD, partOf, asgT, boxD, boxs, setAll, keyOf, inD, eqD, flatD, eqv_str, eqv_int, eqv_bl, eqv_non, eqv_si, eqv_is, eqv_tup, eqv_lst, eqv_tn, eqv_nt, eqvs_nil, eqvs_cons, eqvs_nc, eqvs_cn, okN_non, okN_bl, okN_int, okN_str, okN_t64, okN_l64, okN_t63, okN_l63, okN_t62, okN_l62, okNs_nil, okNs_cons, opNm, opV]
  · simp [f11, b11, ex_skip, ex_seq, ex_asg, ex_box, ex_parN, ex_seti, ex_expr, ex_ret, ex_if, ex_brk, ex_cont, ev_var, ev_cst, ev_bin, ev_cmp, ev_chain, ev_neg, ev_not, ev_and, ev_or, ev_ite, ev_tup, ev_lst, ev_dsp, ev_idx, ev_slice, ev_rev, ev_call, ev_blt, ev_isi, ev_mth, evs_nil, evs_cons, truD, rd, cmpD, binD, bin0, isiD, seqOf, lstOf, dctOf, bltD, ixD, slD, partOf, asgT, boxD, boxs, setAll, keyOf, inD, eqD, flatD, eqv_str, eqv_int, eqv_bl, eqv_non, eqv_si, eqv_is, eqv_tup, eqv_lst, eqv_tn, eqv_nt, eqvs_nil, eqvs_cons, eqvs_nc, eqvs_cn, okN_non, okN_bl, okN_int, okN_str, okN_t64, okN_l64, okN_t63, okN_l63, okN_t62, okN_l62, okNs_nil, okNs_cons, opNm, opV]
  · have h := moved (k := k) hM h1 h2 ha ha2 hb hb2 (o := 6) (.inl rfl)
    simp only [opNm] at h ⊢
    simp [f11, b11, ex_skip, ex_seq, ex_asg, ex_box, ex_parN, ex_seti, ex_expr, ex_ret, ex_if, ex_brk, ex_cont, ev_var, ev_cst, ev_bin, ev_cmp, ev_chain, ev_neg, ev_not, ev_and, ev_or, ev_ite, ev_tup, ev_lst, ev_dsp, ev_idx, ev_slice, ev_rev, ev_call, ev_blt, ev_isi, ev_mth, evs_nil, evs_cons, truD, rd, cmpD, binD, bin0, isiD, seqOf, lstOf, dctOf, bltD, ixD, slD, partOf, asgT, boxD, boxs, setAll, keyOf, inD, eqD, flatD, eqv_str, eqv_int, eqv_bl, eqv_non, eqv_si, eqv_is, eqv_tup, eqv_lst, eqv_tn, eqv_nt, eqvs_nil, eqvs_cons, eqvs_nc, eqvs_cn, okN_non, okN_bl, okN_int, okN_str, okN_t64, okN_l64, okN_t63, okN_l63, okN_t62, okN_l62, okNs_nil, okNs_cons, h]
  · have h := moved (k := k) hM h1 h2 ha ha2 hb hb2 (o := 7) (.inr rfl)
    simp only [opNm] at h ⊢
    simp [f11, b11, ex_skip, ex_seq, ex_asg, ex_box, ex_parN, ex_seti, ex_expr, ex_ret, ex_if, ex_brk, ex_cont, ev_var, ev_cst, ev_bin, ev_cmp, ev_chain, ev_neg, ev_not, ev_and, ev_or, ev_ite, ev_tup, ev_lst, ev_dsp, ev_idx, ev_slice, ev_rev, ev_call, ev_blt, ev_isi, ev_mth, evs_nil, evs_cons, truD, rd, cmpD, binD, bin0, isiD, seqOf, lstOf, dctOf, bltD, ixD, slD, partOf, asgT, boxD, boxs, setAll, keyOf, inD, eqD, flatD, eqv_str, eqv_int, eqv_bl, eqv_non, eqv_si, eqv_is, eqv_tup, eqv_lst, eqv_tn, eqv_nt, eqvs_nil, eqvs_cons, eqvs_nc, eqvs_cn, okN_non, okN_bl, okN_int, okN_str, okN_t64, okN_l64, okN_t63, okN_l63, okN_t62, okN_l62, okNs_nil, okNs_cons, h]
theorem holds' (hM : OkM M) {l : Bool} {a b : Int} : callD fs (k + 1) 12 [.str (relNm l), .int a, .int b] M = some (.bl (relV l a b), M) := by
  refine call_pure (f := f12) hM rfl rfl rfl ?_
  cases l
  · by_cases c : a = b <;> simp [f12, b12, ex_skip, ex_seq, ex_asg, ex_box, ex_parN, ex_seti, ex_expr, ex_ret, ex_if, ex_brk, ex_cont, ev_var, ev_cst, ev_bin, ev_cmp, ev_chain, ev_neg, ev_not, ev_and, ev_or, ev_ite, ev_tup, ev_lst, ev_dsp, ev_idx, ev_slice, ev_rev, ev_call, ev_blt, ev_isi, ev_mth, evs_nil, evs_cons, truD, rd, cmpD, binD, bin0, isiD, seqOf, lstOf, dctOf, bltD, ixD, slD, partOf, asgT, boxD, boxs, setAll, keyOf, inD, eqD, flatD, eqv_str, eqv_int, eqv_bl, eqv_non, eqv_si, eqv_is, eqv_tup, eqv_lst, eqv_tn, eqv_nt, eqvs_nil, eqvs_cons, eqvs_nc, eqvs_cn, okN_non, okN_bl, okN_int, okN_str, okN_t64, okN_l64, okN_t63, okN_l63, okN_t62, okN_l62, okNs_nil, okNs_cons, relNm, relV, c]
  · simp [f12, b12, ex_skip, ex_seq, ex_asg, ex_box, ex_parN, ex_seti, ex_expr, ex_ret, ex_if, ex_brk, ex_cont, ev_var, ev_cst, ev_bin, ev_cmp, ev_chain, ev_neg, ev_not, ev_and, ev_or, ev_ite, ev_tup, ev_lst, ev_dsp, ev_idx, ev_slice, ev_rev, ev_call, ev_blt, ev_isi, ev_mth, evs_nil, evs_cons, truD, rd, cmpD, binD, bin0, isiD, seqOf, lstOf, dctOf, bltD, ixD, slD, partOf, asgT, boxD, boxs, setAll, keyOf, inD, eqD, flatD, eqv_str, eqv_int, eqv_bl, eqv_non, eqv_si, eqv_is, eqv_tup, eqv_lst, eqv_tn, eqv_nt, eqvs_nil, eqvs_cons, eqvs_nc, eqvs_cn, okN_non, okN_bl, okN_int, okN_str, okN_t64, okN_l64, okN_t63, okN_l63, okN_t62, okN_l62, okNs_nil, okNs_cons, relNm, relV]
end K09
end Mi
namespace Mi
open PySem PySem.Spec PyProof.Rows L2

namespace K09
theorem cut_front {α : Type} (xs : List α) (r : Nat) : cutD xs none (some (r : Int)) = xs.take r := by
  unfold cutD
  rw [HT.sIx_none, HT.sIx_nat, Nat.sub_zero, List.drop_zero]
  by_cases h : r ≤ xs.length
  · rw [Nat.min_eq_left h]
  · rw [Nat.min_eq_right (by omega), List.take_length, List.take_of_length_le (by omega)]
theorem cut_back {α : Type} (xs : List α) (r : Nat) : cutD xs (some (r : Int)) none = xs.drop r := by
  unfold cutD
  rw [HT.sIx_none, HT.sIx_nat]
  by_cases h : r ≤ xs.length
  · rw [Nat.min_eq_left h, List.take_of_length_le (by simp)]
  · rw [Nat.min_eq_right (by omega), List.drop_of_length_le (by omega), List.take_nil, List.drop_of_length_le (by omega)]
theorem cut_back1 {α : Type} (xs : List α) (r : Nat) : cutD xs (some ((r : Int) + 1)) none = xs.drop (r + 1) := cut_back xs (r + 1)
variable {k : Nat} {M : Mem}
theorem with_item (hM : OkM M) {R : List Int} {r : Nat} (hr : r < R.length) (hl : R.length ≤ 8) {v : Int} : callD fs (k + 1) 20 [.tup (iD R), nD r, .int v] M = some (.tup (iD (R.set r v)), M) := by
  refine call_pure (f := f20) hM (show D.pures (iD (R.set r v)) = true from pures_ints _) rfl rfl ?_
  have e : iD (R.set r v) = (iD R).take r ++ D.int v :: (iD R).drop (r + 1) := by
    rw [iD, List.map_set, List.set_eq_take_append_cons_drop, if_pos (by rw [List.length_map]; exact hr)]
  have h1 : min r R.length + 1 ≤ line := by simp [line]; omega
  have h2 : min r R.length + 1 + (R.length - (r + 1)) ≤ line := by simp [line]; omega
  rw [e]
  simp [f20, b20, ex_skip, ex_seq, ex_asg, ex_box, ex_parN, ex_seti, ex_expr, ex_ret, ex_if, ex_brk, ex_cont, ev_var, ev_cst, ev_bin, ev_cmp, ev_chain, ev_neg, ev_not, ev_and, ev_or, ev_ite, ev_tup, ev_lst, ev_dsp, ev_idx, ev_slice, ev_rev, ev_call, ev_blt, ev_isi, ev_mth, evs_nil, evs_cons, truD, rd, cmpD, binD, bin0, isiD, seqOf, lstOf, dctOf, bltD, ixD, slD, partOf, asgT, boxD, boxs, setAll, keyOf, inD, eqD, flatD, eqv_str, eqv_int, eqv_bl, eqv_non, eqv_si, eqv_is, eqv_tup, eqv_lst, eqv_tn, eqv_nt, eqvs_nil, eqvs_cons, eqvs_nc, eqvs_cn, okN_non, okN_bl, okN_int, okN_str, okN_t64, okN_l64, okN_t63, okN_l63, okN_t62, okN_l62, okNs_nil, okNs_cons, cut_front, cut_back1, h1, h2]
theorem is_register (hM : OkM M) {r : Nat} (hr : r < 4) : callD fs (k + 3) 13 [nD r] M = some (.bl true, M) := by
  refine call_pure (f := f13) hM rfl rfl rfl ?_
  simp [f13, b13, ex_skip, ex_seq, ex_asg, ex_box, ex_parN, ex_seti, ex_expr, ex_ret, ex_if, ex_brk, ex_cont, ev_var, ev_cst, ev_bin, ev_cmp, ev_chain, ev_neg, ev_not, ev_and, ev_or, ev_ite, ev_tup, ev_lst, ev_dsp, ev_idx, ev_slice, ev_rev, ev_call, ev_blt, ev_isi, ev_mth, evs_nil, evs_cons, truD, rd, cmpD, binD, bin0, isiD, seqOf, lstOf, dctOf, bltD, ixD, slD, partOf, asgT, boxD, boxs, setAll, keyOf, inD, eqD, flatD, eqv_str, eqv_int, eqv_bl, eqv_non, eqv_si, eqv_is, eqv_tup, eqv_lst, eqv_tn, eqv_nt, eqvs_nil, eqvs_cons, eqvs_nc, eqvs_cn, okN_non, okN_bl, okN_int, okN_str, okN_t64, okN_l64, okN_t63, okN_l63, okN_t62, okN_l62, okNs_nil, okNs_cons, is_whole hM]
  omega
theorem are_registers (hM : OkM M) {rs : List Nat} (hl : rs.length ≤ 4) (hr : ∀ r ∈ rs, r < 4) : callD fs (k + 4) 14 [.tup (rs.map nD)] M = some (.bl true, M) := by
  refine call_pure (f := f14) hM rfl rfl rfl ?_
  have hc : ev (callD fs (k + 3)) (.comp (.call 13 (.cons (.var 1) .nil)) (.nm 1) (.sSeq (.var 0)) (.cst (.bl true)) [1]) [some (.tup (rs.map nD)), none] M = some (.lst (rs.map fun _ => .bl true), M) := by
    rw [comp_map (rs.map nD) (fun _ => .bl true) rfl (walk_seq rfl) (by simp [line]; omega) fun x hx => ?_, List.map_map]
    · rfl
    · obtain ⟨i, hi, rfl⟩ := List.mem_map.mp hx
      refine ⟨[some (.tup (rs.map nD)), some (nD i)], .bl true, rfl, rfl, rfl, ?_⟩
      simp [ex_skip, ex_seq, ex_asg, ex_box, ex_parN, ex_seti, ex_expr, ex_ret, ex_if, ex_brk, ex_cont, ev_var, ev_cst, ev_bin, ev_cmp, ev_chain, ev_neg, ev_not, ev_and, ev_or, ev_ite, ev_tup, ev_lst, ev_dsp, ev_idx, ev_slice, ev_rev, ev_call, ev_blt, ev_isi, ev_mth, evs_nil, evs_cons, truD, rd, cmpD, binD, bin0, isiD, seqOf, lstOf, dctOf, bltD, ixD, slD, partOf, asgT, boxD, boxs, setAll, keyOf, inD, eqD, flatD, eqv_str, eqv_int, eqv_bl, eqv_non, eqv_si, eqv_is, eqv_tup, eqv_lst, eqv_tn, eqv_nt, eqvs_nil, eqvs_cons, eqvs_nc, eqvs_cn, okN_non, okN_bl, okN_int, okN_str, okN_t64, okN_l64, okN_t63, okN_l63, okN_t62, okN_l62, okNs_nil, okNs_cons, is_register hM (hr i hi)]
  simp [f14, b14, ex_seq, ex_ret, ex_skip, ev_blt, evs_cons, evs_nil, hc, all_true]
theorem is_one_of_op (hM : OkM M) {o : Nat} (ho : o < 8) : callD fs (k + 1) 4 [.str (opNm o), .tup [.str [97, 100, 100], .str [115, 117, 98], .str [109, 117, 108], .str [97, 110, 100], .str [111, 114], .str [120, 111, 114], .str [108, 101, 102, 116], .str [114, 105, 103, 104, 116]]] M = some (.bl true, M) := by
  refine call_pure (f := f4) hM rfl rfl rfl ?_
  rcases (by omega : o = 0 ∨ o = 1 ∨ o = 2 ∨ o = 3 ∨ o = 4 ∨ o = 5 ∨ o = 6 ∨ o = 7) with h | h | h | h | h | h | h | h <;> subst h <;> simp [f4, b4, ex_skip, ex_seq, ex_asg, ex_box, ex_parN, ex_seti, ex_expr, ex_ret, ex_if, ex_brk, ex_cont, ev_var, ev_cst, ev_bin, ev_cmp, ev_chain, ev_neg, ev_not, ev_and, ev_or, ev_ite, ev_tup, ev_lst, ev_dsp, ev_idx, ev_slice, ev_rev, ev_call, ev_blt, ev_isi, ev_mth, evs_nil, evs_cons, truD, rd, cmpD, binD, bin0, isiD, seqOf, lstOf, dctOf, bltD, ixD, slD, partOf, asgT, boxD, boxs, setAll, keyOf, inD, eqD, flatD, eqv_str, eqv_int, eqv_bl, eqv_non, eqv_si, eqv_is, eqv_tup, eqv_lst, eqv_tn, eqv_nt, eqvs_nil, eqvs_cons, eqvs_nc, eqvs_cn, okN_non, okN_bl, okN_int, okN_str, okN_t64, okN_l64, okN_t63, okN_l63, okN_t62, okN_l62, okNs_nil, okNs_cons, opNm]
theorem is_one_of_rel (hM : OkM M) {l : Bool} : callD fs (k + 1) 4 [.str (relNm l), .tup [.str [115, 97, 109, 101], .str [108, 101, 115, 115]]] M = some (.bl true, M) := by
  refine call_pure (f := f4) hM rfl rfl rfl ?_
  cases l <;> simp [f4, b4, ex_skip, ex_seq, ex_asg, ex_box, ex_parN, ex_seti, ex_expr, ex_ret, ex_if, ex_brk, ex_cont, ev_var, ev_cst, ev_bin, ev_cmp, ev_chain, ev_neg, ev_not, ev_and, ev_or, ev_ite, ev_tup, ev_lst, ev_dsp, ev_idx, ev_slice, ev_rev, ev_call, ev_blt, ev_isi, ev_mth, evs_nil, evs_cons, truD, rd, cmpD, binD, bin0, isiD, seqOf, lstOf, dctOf, bltD, ixD, slD, partOf, asgT, boxD, boxs, setAll, keyOf, inD, eqD, flatD, eqv_str, eqv_int, eqv_bl, eqv_non, eqv_si, eqv_is, eqv_tup, eqv_lst, eqv_tn, eqv_nt, eqvs_nil, eqvs_cons, eqvs_nc, eqvs_cn, okN_non, okN_bl, okN_int, okN_str, okN_t64, okN_l64, okN_t63, okN_l63, okN_t62, okN_l62, okNs_nil, okNs_cons, relNm]
theorem fits_order (hM : OkM M) {n : Nat} {o : Ord} (h : o.ok n) : callD fs (k + 5) 15 [nD n, o.enc] M = some (.bl true, M) := by
  refine call_pure (f := f15) hM rfl rfl rfl ?_
  have reg : ∀ {r : Nat}, r < 4 → callD fs (k + 4) 13 [nD r] M = some (.bl true, M) := fun h => is_register (k := k + 1) hM h
  have wh : ∀ {i lo hi : Int}, callD fs (k + 4) 1 [.int i, .int lo, .int hi] M = some (.bl (decide (lo ≤ i) && decide (i ≤ hi)), M) := is_whole (k := k + 2) hM
  have tu : ∀ {xs : List D} {lo hi : Int}, callD fs (k + 4) 3 [.tup xs, .int lo, .int hi] M = some (.bl (decide (lo ≤ (xs.length : Nat)) && decide (((xs.length : Nat) : Int) ≤ hi)), M) := is_tuple_of (k := k + 3) hM
  cases o with
  | put r m =>
    obtain ⟨ha, hb⟩ : r < 4 ∧ m < 256 := h
    have ht : (m : Int) ≤ 255 := by omega
    simp [f15, b15, ex_skip, ex_seq, ex_asg, ex_box, ex_parN, ex_seti, ex_expr, ex_ret, ex_if, ex_brk, ex_cont, ev_var, ev_cst, ev_bin, ev_cmp, ev_chain, ev_neg, ev_not, ev_and, ev_or, ev_ite, ev_tup, ev_lst, ev_dsp, ev_idx, ev_slice, ev_rev, ev_call, ev_blt, ev_isi, ev_mth, evs_nil, evs_cons, truD, rd, cmpD, binD, bin0, isiD, seqOf, lstOf, dctOf, bltD, ixD, slD, partOf, asgT, boxD, boxs, setAll, keyOf, inD, eqD, flatD, eqv_str, eqv_int, eqv_bl, eqv_non, eqv_si, eqv_is, eqv_tup, eqv_lst, eqv_tn, eqv_nt, eqvs_nil, eqvs_cons, eqvs_nc, eqvs_cn, okN_non, okN_bl, okN_int, okN_str, okN_t64, okN_l64, okN_t63, okN_l63, okN_t62, okN_l62, okNs_nil, okNs_cons, Ord.enc, tu, reg ha, wh, atI, ixN, ht]
  | copy r s =>
    have := are_registers (k := k) hM (rs := [r, s]) (by simp) (by simp [h.1, h.2])
    simp only [List.map] at this
    simp [f15, b15, ex_skip, ex_seq, ex_asg, ex_box, ex_parN, ex_seti, ex_expr, ex_ret, ex_if, ex_brk, ex_cont, ev_var, ev_cst, ev_bin, ev_cmp, ev_chain, ev_neg, ev_not, ev_and, ev_or, ev_ite, ev_tup, ev_lst, ev_dsp, ev_idx, ev_slice, ev_rev, ev_call, ev_blt, ev_isi, ev_mth, evs_nil, evs_cons, truD, rd, cmpD, binD, bin0, isiD, seqOf, lstOf, dctOf, bltD, ixD, slD, partOf, asgT, boxD, boxs, setAll, keyOf, inD, eqD, flatD, eqv_str, eqv_int, eqv_bl, eqv_non, eqv_si, eqv_is, eqv_tup, eqv_lst, eqv_tn, eqv_nt, eqvs_nil, eqvs_cons, eqvs_nc, eqvs_cn, okN_non, okN_bl, okN_int, okN_str, okN_t64, okN_l64, okN_t63, okN_l63, okN_t62, okN_l62, okNs_nil, okNs_cons, Ord.enc, tu, wh, atI, ixN, cutD, HT.sIx, this]
  | op o r s =>
    have := are_registers (k := k) hM (rs := [r, s]) (by simp) (by simp [h.2.1, h.2.2])
    simp only [List.map] at this
    simp [f15, b15, ex_skip, ex_seq, ex_asg, ex_box, ex_parN, ex_seti, ex_expr, ex_ret, ex_if, ex_brk, ex_cont, ev_var, ev_cst, ev_bin, ev_cmp, ev_chain, ev_neg, ev_not, ev_and, ev_or, ev_ite, ev_tup, ev_lst, ev_dsp, ev_idx, ev_slice, ev_rev, ev_call, ev_blt, ev_isi, ev_mth, evs_nil, evs_cons, truD, rd, cmpD, binD, bin0, isiD, seqOf, lstOf, dctOf, bltD, ixD, slD, partOf, asgT, boxD, boxs, setAll, keyOf, inD, eqD, flatD, eqv_str, eqv_int, eqv_bl, eqv_non, eqv_si, eqv_is, eqv_tup, eqv_lst, eqv_tn, eqv_nt, eqvs_nil, eqvs_cons, eqvs_nc, eqvs_cn, okN_non, okN_bl, okN_int, okN_str, okN_t64, okN_l64, okN_t63, okN_l63, okN_t62, okN_l62, okNs_nil, okNs_cons, Ord.enc, tu, wh, atI, ixN, cutD, HT.sIx, this, is_one_of_op (k := k + 3) hM h.1]
  | load r s =>
    have := are_registers (k := k) hM (rs := [r, s]) (by simp) (by simp [h.1, h.2])
    simp only [List.map] at this
    simp [f15, b15, ex_skip, ex_seq, ex_asg, ex_box, ex_parN, ex_seti, ex_expr, ex_ret, ex_if, ex_brk, ex_cont, ev_var, ev_cst, ev_bin, ev_cmp, ev_chain, ev_neg, ev_not, ev_and, ev_or, ev_ite, ev_tup, ev_lst, ev_dsp, ev_idx, ev_slice, ev_rev, ev_call, ev_blt, ev_isi, ev_mth, evs_nil, evs_cons, truD, rd, cmpD, binD, bin0, isiD, seqOf, lstOf, dctOf, bltD, ixD, slD, partOf, asgT, boxD, boxs, setAll, keyOf, inD, eqD, flatD, eqv_str, eqv_int, eqv_bl, eqv_non, eqv_si, eqv_is, eqv_tup, eqv_lst, eqv_tn, eqv_nt, eqvs_nil, eqvs_cons, eqvs_nc, eqvs_cn, okN_non, okN_bl, okN_int, okN_str, okN_t64, okN_l64, okN_t63, okN_l63, okN_t62, okN_l62, okNs_nil, okNs_cons, Ord.enc, tu, wh, atI, ixN, cutD, HT.sIx, this]
  | store r s =>
    have := are_registers (k := k) hM (rs := [r, s]) (by simp) (by simp [h.1, h.2])
    simp only [List.map] at this
    simp [f15, b15, ex_skip, ex_seq, ex_asg, ex_box, ex_parN, ex_seti, ex_expr, ex_ret, ex_if, ex_brk, ex_cont, ev_var, ev_cst, ev_bin, ev_cmp, ev_chain, ev_neg, ev_not, ev_and, ev_or, ev_ite, ev_tup, ev_lst, ev_dsp, ev_idx, ev_slice, ev_rev, ev_call, ev_blt, ev_isi, ev_mth, evs_nil, evs_cons, truD, rd, cmpD, binD, bin0, isiD, seqOf, lstOf, dctOf, bltD, ixD, slD, partOf, asgT, boxD, boxs, setAll, keyOf, inD, eqD, flatD, eqv_str, eqv_int, eqv_bl, eqv_non, eqv_si, eqv_is, eqv_tup, eqv_lst, eqv_tn, eqv_nt, eqvs_nil, eqvs_cons, eqvs_nc, eqvs_cn, okN_non, okN_bl, okN_int, okN_str, okN_t64, okN_l64, okN_t63, okN_l63, okN_t62, okN_l62, okNs_nil, okNs_cons, Ord.enc, tu, wh, atI, ixN, cutD, HT.sIx, this]
  | cond l r s t =>
    have := are_registers (k := k) hM (rs := [r, s]) (by simp) (by simp [h.1, h.2.1])
    simp only [List.map] at this
    have ht : (t : Int) ≤ (n : Int) - 1 := by have := h.2.2; omega
    simp [f15, b15, ex_skip, ex_seq, ex_asg, ex_box, ex_parN, ex_seti, ex_expr, ex_ret, ex_if, ex_brk, ex_cont, ev_var, ev_cst, ev_bin, ev_cmp, ev_chain, ev_neg, ev_not, ev_and, ev_or, ev_ite, ev_tup, ev_lst, ev_dsp, ev_idx, ev_slice, ev_rev, ev_call, ev_blt, ev_isi, ev_mth, evs_nil, evs_cons, truD, rd, cmpD, binD, bin0, isiD, seqOf, lstOf, dctOf, bltD, ixD, slD, partOf, asgT, boxD, boxs, setAll, keyOf, inD, eqD, flatD, eqv_str, eqv_int, eqv_bl, eqv_non, eqv_si, eqv_is, eqv_tup, eqv_lst, eqv_tn, eqv_nt, eqvs_nil, eqvs_cons, eqvs_nc, eqvs_cn, okN_non, okN_bl, okN_int, okN_str, okN_t64, okN_l64, okN_t63, okN_l63, okN_t62, okN_l62, okNs_nil, okNs_cons, Ord.enc, tu, wh, atI, ixN, cutD, HT.sIx, this, is_one_of_rel (k := k + 3) hM, ht]
  | go t =>
    have ht : (t : Int) ≤ (n : Int) - 1 := by have : t < n := h; omega
    simp [f15, b15, ex_skip, ex_seq, ex_asg, ex_box, ex_parN, ex_seti, ex_expr, ex_ret, ex_if, ex_brk, ex_cont, ev_var, ev_cst, ev_bin, ev_cmp, ev_chain, ev_neg, ev_not, ev_and, ev_or, ev_ite, ev_tup, ev_lst, ev_dsp, ev_idx, ev_slice, ev_rev, ev_call, ev_blt, ev_isi, ev_mth, evs_nil, evs_cons, truD, rd, cmpD, binD, bin0, isiD, seqOf, lstOf, dctOf, bltD, ixD, slD, partOf, asgT, boxD, boxs, setAll, keyOf, inD, eqD, flatD, eqv_str, eqv_int, eqv_bl, eqv_non, eqv_si, eqv_is, eqv_tup, eqv_lst, eqv_tn, eqv_nt, eqvs_nil, eqvs_cons, eqvs_nc, eqvs_cn, okN_non, okN_bl, okN_int, okN_str, okN_t64, okN_l64, okN_t63, okN_l63, okN_t62, okN_l62, okNs_nil, okNs_cons, Ord.enc, tu, wh, atI, ixN, ht]
  | fin =>
    have := are_registers (k := k) hM (rs := []) (by simp) (by simp)
    simp only [List.map] at this
    simp [f15, b15, ex_skip, ex_seq, ex_asg, ex_box, ex_parN, ex_seti, ex_expr, ex_ret, ex_if, ex_brk, ex_cont, ev_var, ev_cst, ev_bin, ev_cmp, ev_chain, ev_neg, ev_not, ev_and, ev_or, ev_ite, ev_tup, ev_lst, ev_dsp, ev_idx, ev_slice, ev_rev, ev_call, ev_blt, ev_isi, ev_mth, evs_nil, evs_cons, truD, rd, cmpD, binD, bin0, isiD, seqOf, lstOf, dctOf, bltD, ixD, slD, partOf, asgT, boxD, boxs, setAll, keyOf, inD, eqD, flatD, eqv_str, eqv_int, eqv_bl, eqv_non, eqv_si, eqv_is, eqv_tup, eqv_lst, eqv_tn, eqv_nt, eqvs_nil, eqvs_cons, eqvs_nc, eqvs_cn, okN_non, okN_bl, okN_int, okN_str, okN_t64, okN_l64, okN_t63, okN_l63, okN_t62, okN_l62, okNs_nil, okNs_cons, Ord.enc, tu, wh, atI, ixN, cutD, HT.sIx, this]
  | fault n =>
    have ht : (n : Int) ≤ 9 := by have : n < 10 := h; omega
    simp [f15, b15, ex_skip, ex_seq, ex_asg, ex_box, ex_parN, ex_seti, ex_expr, ex_ret, ex_if, ex_brk, ex_cont, ev_var, ev_cst, ev_bin, ev_cmp, ev_chain, ev_neg, ev_not, ev_and, ev_or, ev_ite, ev_tup, ev_lst, ev_dsp, ev_idx, ev_slice, ev_rev, ev_call, ev_blt, ev_isi, ev_mth, evs_nil, evs_cons, truD, rd, cmpD, binD, bin0, isiD, seqOf, lstOf, dctOf, bltD, ixD, slD, partOf, asgT, boxD, boxs, setAll, keyOf, inD, eqD, flatD, eqv_str, eqv_int, eqv_bl, eqv_non, eqv_si, eqv_is, eqv_tup, eqv_lst, eqv_tn, eqv_nt, eqvs_nil, eqvs_cons, eqvs_nc, eqvs_cn, okN_non, okN_bl, okN_int, okN_str, okN_t64, okN_l64, okN_t63, okN_l63, okN_t62, okN_l62, okNs_nil, okNs_cons, Ord.enc, tu, wh, atI, ixN, ht]
end K09
end Mi
namespace Mi
open PySem PySem.Spec PyProof.Rows L2

namespace K09
variable {k : Nat} {M : Mem}
theorem last_kind {o : Ord} (h : o.last = true) : ∃ s rest, o.enc = .tup (.str s :: rest) ∧ (s = [103, 111] ∨ s = [101, 110, 100] ∨ s = [102, 97, 117, 108, 116]) := by
  cases o <;> first | (cases h; done) | exact ⟨_, _, rfl, by simp⟩
theorem atI_last' {xs : List D} {x : D} (h : xs[xs.length - 1]? = some x) : atI xs (-1) = some x := by
  obtain ⟨hl, hx⟩ := List.getElem?_eq_some_iff.mp h
  unfold atI ixN
  rw [if_neg (by decide), if_pos (by omega), Option.bind_some]
  have : (-1 + (xs.length : Int)).toNat = xs.length - 1 := by omega
  rw [this]
  exact h
theorem fits_program (hM : OkM M) {P : List Ord} (h : POk P) : callD fs (k + 6) 16 [pD P] M = some (.bl true, M) := by
  refine call_pure (f := f16) hM rfl rfl rfl ?_
  have hne := h.ne
  have hle := h.le
  have hc : ev (callD fs (k + 5)) (.comp (.call 15 (.cons (.blt .len (.cons (.var 0) .nil)) (.cons (.var 1) .nil))) (.nm 1) (.sSeq (.var 0)) (.cst (.bl true)) [1]) [some (pD P), none] M = some (.lst (P.map fun _ => .bl true), M) := by
    rw [comp_map (P.map Ord.enc) (fun _ => .bl true) rfl (walk_seq rfl) (by simp [line]; omega) fun x hx => ?_, List.map_map]
    · rfl
    · obtain ⟨o, ho, rfl⟩ := List.mem_map.mp hx
      refine ⟨[some (pD P), some o.enc], .bl true, rfl, rfl, rfl, ?_⟩
      have := fits_order (k := k) hM (h.ok o ho)
      simp only [nD] at this
      simp [ex_skip, ex_seq, ex_asg, ex_box, ex_parN, ex_seti, ex_expr, ex_ret, ex_if, ex_brk, ex_cont, ev_var, ev_cst, ev_bin, ev_cmp, ev_chain, ev_neg, ev_not, ev_and, ev_or, ev_ite, ev_tup, ev_lst, ev_dsp, ev_idx, ev_slice, ev_rev, ev_call, ev_blt, ev_isi, ev_mth, evs_nil, evs_cons, truD, rd, cmpD, binD, bin0, isiD, seqOf, lstOf, dctOf, bltD, ixD, slD, partOf, asgT, boxD, boxs, setAll, keyOf, inD, eqD, flatD, eqv_str, eqv_int, eqv_bl, eqv_non, eqv_si, eqv_is, eqv_tup, eqv_lst, eqv_tn, eqv_nt, eqvs_nil, eqvs_cons, eqvs_nc, eqvs_cn, okN_non, okN_bl, okN_int, okN_str, okN_t64, okN_l64, okN_t63, okN_l63, okN_t62, okN_l62, okNs_nil, okNs_cons, this]
  obtain ⟨o, h1, h2⟩ := h.last
  obtain ⟨s, rest, h3, h4⟩ := last_kind h2
  have e1 : atI (P.map Ord.enc) (-1) = some (.tup (.str s :: rest)) := by
    rw [← h3]
    exact atI_last' (by rw [List.length_map, List.getElem?_map, h1]; rfl)
  have e2 : atI (D.str s :: rest) 0 = some (.str s) := atI_get (i := 0) rfl
  have e3 : (P.length : Int) ≤ 60 := by omega
  have e4 : (1 : Int) ≤ (P.length : Int) := by omega
  have e5 : D.okN 64 (.str s) = true := by rcases h4 with rfl | rfl | rfl <;> rfl
  rcases h4 with rfl | rfl | rfl <;> simp [f16, b16, ex_skip, ex_seq, ex_asg, ex_box, ex_parN, ex_seti, ex_expr, ex_ret, ex_if, ex_brk, ex_cont, ev_var, ev_cst, ev_bin, ev_cmp, ev_chain, ev_neg, ev_not, ev_and, ev_or, ev_ite, ev_tup, ev_lst, ev_dsp, ev_idx, ev_slice, ev_rev, ev_call, ev_blt, ev_isi, ev_mth, evs_nil, evs_cons, truD, rd, cmpD, binD, bin0, isiD, seqOf, lstOf, dctOf, bltD, ixD, slD, partOf, asgT, boxD, boxs, setAll, keyOf, inD, eqD, flatD, eqv_str, eqv_int, eqv_bl, eqv_non, eqv_si, eqv_is, eqv_tup, eqv_lst, eqv_tn, eqv_nt, eqvs_nil, eqvs_cons, eqvs_nc, eqvs_cn, okN_non, okN_bl, okN_int, okN_str, okN_t64, okN_l64, okN_t63, okN_l63, okN_t62, okN_l62, okNs_nil, okNs_cons, hc, boolsOf_true, is_tuple_of (k := k + 4) hM, e1, e2, e3, e4]
theorem need_program (hM : OkM M) {P : List Ord} (h : POk P) : callD fs (k + 7) 17 [pD P] M = some (.non, M) := by
  refine call_none (f := f17) (σ := [some (pD P)]) hM rfl rfl ?_
  simp [f17, b17, ex_skip, ex_seq, ex_asg, ex_box, ex_parN, ex_seti, ex_expr, ex_ret, ex_if, ex_brk, ex_cont, ev_var, ev_cst, ev_bin, ev_cmp, ev_chain, ev_neg, ev_not, ev_and, ev_or, ev_ite, ev_tup, ev_lst, ev_dsp, ev_idx, ev_slice, ev_rev, ev_call, ev_blt, ev_isi, ev_mth, evs_nil, evs_cons, truD, rd, cmpD, binD, bin0, isiD, seqOf, lstOf, dctOf, bltD, ixD, slD, partOf, asgT, boxD, boxs, setAll, keyOf, inD, eqD, flatD, eqv_str, eqv_int, eqv_bl, eqv_non, eqv_si, eqv_is, eqv_tup, eqv_lst, eqv_tn, eqv_nt, eqvs_nil, eqvs_cons, eqvs_nc, eqvs_cn, okN_non, okN_bl, okN_int, okN_str, okN_t64, okN_l64, okN_t63, okN_l63, okN_t62, okN_l62, okNs_nil, okNs_cons, fits_program hM h]
theorem fits_inputs (hM : OkM M) {w : Nat} (h2 : w ≤ 8) {R C : List Int} (lR : R.length = 4) (lC : C.length = 8) (hR : WOk w R) (hC : WOk w C) : callD fs (k + 5) 18 [nD w, .tup [.tup (iD R), .tup (iD C)]] M = some (.bl true, M) := by
  refine call_pure (f := f18) hM rfl rfl rfl ?_
  have a : callD fs (k + 4) 8 [.int (w : Nat), .tup (iD R), .int 4] M = some (.bl true, M) := are_words (k := k) hM h2 (n := 4) lR (by decide) hR
  have b : callD fs (k + 4) 8 [.int (w : Nat), .tup (iD C), .int 8] M = some (.bl true, M) := are_words (k := k) hM h2 (n := 8) lC (by decide) hC
  have e1 : ∀ {x y : D}, atI [x, y] 0 = some x := atI_get (i := 0) rfl
  have e2 : ∀ {x y : D}, atI [x, y] 1 = some y := atI_get (i := 1) rfl
  simp only [iD] at a b
  simp [f18, b18, ex_skip, ex_seq, ex_asg, ex_box, ex_parN, ex_seti, ex_expr, ex_ret, ex_if, ex_brk, ex_cont, ev_var, ev_cst, ev_bin, ev_cmp, ev_chain, ev_neg, ev_not, ev_and, ev_or, ev_ite, ev_tup, ev_lst, ev_dsp, ev_idx, ev_slice, ev_rev, ev_call, ev_blt, ev_isi, ev_mth, evs_nil, evs_cons, truD, rd, cmpD, binD, bin0, isiD, seqOf, lstOf, dctOf, bltD, ixD, slD, partOf, asgT, boxD, boxs, setAll, keyOf, inD, eqD, flatD, eqv_str, eqv_int, eqv_bl, eqv_non, eqv_si, eqv_is, eqv_tup, eqv_lst, eqv_tn, eqv_nt, eqvs_nil, eqvs_cons, eqvs_nc, eqvs_cn, okN_non, okN_bl, okN_int, okN_str, okN_t64, okN_l64, okN_t63, okN_l63, okN_t62, okN_l62, okNs_nil, okNs_cons, is_tuple_of (k := k + 3) hM, e1, e2, a, b]
theorem need_inputs (hM : OkM M) {w : Nat} (h2 : w ≤ 8) {R C : List Int} (lR : R.length = 4) (lC : C.length = 8) (hR : WOk w R) (hC : WOk w C) : callD fs (k + 6) 19 [nD w, .tup [.tup (iD R), .tup (iD C)]] M = some (.non, M) := by
  refine call_none (f := f19) (σ := [some (nD w), some (.tup [.tup (iD R), .tup (iD C)])]) hM rfl rfl ?_
  have := fits_inputs (k := k) hM h2 lR lC hR hC
  simp only [iD, nD] at this
  simp [f19, b19, ex_skip, ex_seq, ex_asg, ex_box, ex_parN, ex_seti, ex_expr, ex_ret, ex_if, ex_brk, ex_cont, ev_var, ev_cst, ev_bin, ev_cmp, ev_chain, ev_neg, ev_not, ev_and, ev_or, ev_ite, ev_tup, ev_lst, ev_dsp, ev_idx, ev_slice, ev_rev, ev_call, ev_blt, ev_isi, ev_mth, evs_nil, evs_cons, truD, rd, cmpD, binD, bin0, isiD, seqOf, lstOf, dctOf, bltD, ixD, slD, partOf, asgT, boxD, boxs, setAll, keyOf, inD, eqD, flatD, eqv_str, eqv_int, eqv_bl, eqv_non, eqv_si, eqv_is, eqv_tup, eqv_lst, eqv_tn, eqv_nt, eqvs_nil, eqvs_cons, eqvs_nc, eqvs_cn, okN_non, okN_bl, okN_int, okN_str, okN_t64, okN_l64, okN_t63, okN_l63, okN_t62, okN_l62, okNs_nil, okNs_cons, this]
theorem stops (hM : OkM M) {o : Ord} : callD fs (k + 1) 21 [o.enc] M = some (.bl o.stop, M) := by
  refine call_pure (f := f21) hM rfl rfl rfl ?_
  have e0 : ∀ {x : D} {xs : List D}, atI (x :: xs) 0 = some x := fun {x xs} => atI_get (i := 0) rfl
  cases o <;> simp [f21, b21, ex_skip, ex_seq, ex_asg, ex_box, ex_parN, ex_seti, ex_expr, ex_ret, ex_if, ex_brk, ex_cont, ev_var, ev_cst, ev_bin, ev_cmp, ev_chain, ev_neg, ev_not, ev_and, ev_or, ev_ite, ev_tup, ev_lst, ev_dsp, ev_idx, ev_slice, ev_rev, ev_call, ev_blt, ev_isi, ev_mth, evs_nil, evs_cons, truD, rd, cmpD, binD, bin0, isiD, seqOf, lstOf, dctOf, bltD, ixD, slD, partOf, asgT, boxD, boxs, setAll, keyOf, inD, eqD, flatD, eqv_str, eqv_int, eqv_bl, eqv_non, eqv_si, eqv_is, eqv_tup, eqv_lst, eqv_tn, eqv_nt, eqvs_nil, eqvs_cons, eqvs_nc, eqvs_cn, okN_non, okN_bl, okN_int, okN_str, okN_t64, okN_l64, okN_t63, okN_l63, okN_t62, okN_l62, okNs_nil, okNs_cons, Ord.enc, Ord.stop, e0]
theorem place_behind (hM : OkM M) {o : Ord} {n p : Nat} {R : List Int} (ho : o.ok n) (lR : R.length = 4) : callD fs (k + 2) 22 [o.enc, nD p, .tup (iD R)] M = some (nD (match o with
    | .go t => t
    | .cond l r s t => if relV l (gI R r) (gI R s) then t else p + 1
    | _ => p + 1), M) := by
  refine call_pure (f := f22) hM rfl rfl rfl ?_
  have e0 : ∀ {x : D} {xs : List D}, atI (x :: xs) 0 = some x := fun {x xs} => atI_get (i := 0) rfl
  have e1 : ∀ {x y : D} {xs : List D}, atI (x :: y :: xs) 1 = some y := fun {x y xs} => atI_get (i := 1) rfl
  have e2 : ∀ {x y z : D} {xs : List D}, atI (x :: y :: z :: xs) 2 = some z := fun {x y z xs} => atI_get (i := 2) rfl
  have e3 : ∀ {x y z u : D} {xs : List D}, atI (x :: y :: z :: u :: xs) 3 = some u := fun {x y z u xs} => atI_get (i := 3) rfl
  have e4 : ∀ {x y z u v : D} {xs : List D}, atI (x :: y :: z :: u :: v :: xs) 4 = some v := fun {x y z u v xs} => atI_get (i := 4) rfl
  cases o with
  | cond l r s t =>
    obtain ⟨h1, h2, h3⟩ := ho
    have a := gI_at (R := R) (r := r) (by omega)
    have b := gI_at (R := R) (r := s) (by omega)
    simp only [iD] at a b
    cases c : relV l (gI R r) (gI R s) <;> simp [f22, b22, ex_skip, ex_seq, ex_asg, ex_box, ex_parN, ex_seti, ex_expr, ex_ret, ex_if, ex_brk, ex_cont, ev_var, ev_cst, ev_bin, ev_cmp, ev_chain, ev_neg, ev_not, ev_and, ev_or, ev_ite, ev_tup, ev_lst, ev_dsp, ev_idx, ev_slice, ev_rev, ev_call, ev_blt, ev_isi, ev_mth, evs_nil, evs_cons, truD, rd, cmpD, binD, bin0, isiD, seqOf, lstOf, dctOf, bltD, ixD, slD, partOf, asgT, boxD, boxs, setAll, keyOf, inD, eqD, flatD, eqv_str, eqv_int, eqv_bl, eqv_non, eqv_si, eqv_is, eqv_tup, eqv_lst, eqv_tn, eqv_nt, eqvs_nil, eqvs_cons, eqvs_nc, eqvs_cn, okN_non, okN_bl, okN_int, okN_str, okN_t64, okN_l64, okN_t63, okN_l63, okN_t62, okN_l62, okNs_nil, okNs_cons, Ord.enc, e0, e1, e2, e3, e4, a, b, holds' (k := k) hM, c]
  | _ => simp [f22, b22, ex_skip, ex_seq, ex_asg, ex_box, ex_parN, ex_seti, ex_expr, ex_ret, ex_if, ex_brk, ex_cont, ev_var, ev_cst, ev_bin, ev_cmp, ev_chain, ev_neg, ev_not, ev_and, ev_or, ev_ite, ev_tup, ev_lst, ev_dsp, ev_idx, ev_slice, ev_rev, ev_call, ev_blt, ev_isi, ev_mth, evs_nil, evs_cons, truD, rd, cmpD, binD, bin0, isiD, seqOf, lstOf, dctOf, bltD, ixD, slD, partOf, asgT, boxD, boxs, setAll, keyOf, inD, eqD, flatD, eqv_str, eqv_int, eqv_bl, eqv_non, eqv_si, eqv_is, eqv_tup, eqv_lst, eqv_tn, eqv_nt, eqvs_nil, eqvs_cons, eqvs_nc, eqvs_cn, okN_non, okN_bl, okN_int, okN_str, okN_t64, okN_l64, okN_t63, okN_l63, okN_t62, okN_l62, okNs_nil, okNs_cons, Ord.enc, e0, e1]
end K09
end Mi
namespace Mi
open PySem PySem.Spec PyProof.Rows L2

namespace K09
variable {k : Nat} {M : Mem}
def optD : Option St → D
  | none => .non
  | some s => s.enc
theorem pures_rest (R C : List Int) (n : D) (hn : n.pure = true) : (D.tup [n, .tup (iD R), .tup (iD C)]).pure = true := by
  show (n.pure && (D.pures (iD R) && (D.pures (iD C) && true))) = true
  rw [hn, pures_ints, pures_ints]
  rfl
theorem St.pure (s : St) : s.enc.pure = true := pures_rest s.R s.C _ rfl
theorem optD_pure (o : Option St) : (optD o).pure = true := by
  cases o with
  | none => rfl
  | some s => exact s.pure
theorem mod8 {x : Int} : ((x % 8).toNat : Int) = x % 8 := by omega
theorem mod8_lt {x : Int} : (x % 8).toNat < 8 := by omega
theorem next_in (hM : OkM M) {w : Nat} (h1 : 1 ≤ w) (h2 : w ≤ 8) {P : List Ord} (hP : POk P) {s : St} (hs : s.ok w P.length) : callD fs (k + 4) 23 [nD w, pD P, s.enc] M = some (optD (step w P s), M) := by
  obtain ⟨p, R, C⟩ := s
  obtain ⟨hp, lR, lC, hR, hC⟩ := hs
  have hp : p < P.length := hp
  have lR : R.length = 4 := lR
  have lC : C.length = 8 := lC
  have hR : WOk w R := hR
  have hC : WOk w C := hC
  refine call_pure (f := f23) hM (optD_pure _) rfl rfl ?_
  have e0 : ∀ {x : D} {xs : List D}, atI (x :: xs) 0 = some x := fun {x xs} => atI_get (i := 0) rfl
  have e1 : ∀ {x y : D} {xs : List D}, atI (x :: y :: xs) 1 = some y := fun {x y xs} => atI_get (i := 1) rfl
  have e2 : ∀ {x y z : D} {xs : List D}, atI (x :: y :: z :: xs) 2 = some z := fun {x y z xs} => atI_get (i := 2) rfl
  have e3 : ∀ {x y z u : D} {xs : List D}, atI (x :: y :: z :: u :: xs) 3 = some u := fun {x y z u xs} => atI_get (i := 3) rfl
  have eP : atI (P.map Ord.enc) (p : Nat) = some (P[p]).enc := atI_get (by rw [List.getElem?_map, List.getElem?_eq_getElem hp]; rfl)
  have est : step w P ⟨p, R, C⟩ = step w P ⟨p, R, C⟩ := rfl
  have ok := hP.ok _ (List.getElem_mem hp)
  have hst := stops (k := k + 2) hM (o := P[p])
  have hpb := place_behind (k := k + 1) hM (o := P[p]) (n := P.length) (p := p) (R := R) ok lR
  have eg : P[p]? = some P[p] := List.getElem?_eq_getElem hp
  unfold step
  simp only [eg]
  generalize P[p] = o at eP ok hst hpb
  have rg : ∀ {r : Nat}, r < 4 → atI (R.map D.int) ((r : Nat) : Int) = some (.int (gI R r)) := fun h => gI_at (by omega)
  have cg : ∀ {x : Int}, atI (C.map D.int) (x % 8) = some (.int (gI C (x % 8).toNat)) := fun {x} => by
    have := gI_at (R := C) (r := (x % 8).toNat) (by rw [lC]; exact mod8_lt)
    rwa [mod8] at this
  have wi : ∀ {r : Nat} {v : Int}, r < 4 → callD fs (k + 3) 20 [.tup (R.map D.int), .int (r : Nat), .int v] M = some (.tup ((R.set r v).map D.int), M) := fun h => with_item (k := k + 2) hM (by omega) (by omega)
  have wc : ∀ {x v : Int}, callD fs (k + 3) 20 [.tup (C.map D.int), .int (x % 8), .int v] M = some (.tup ((C.set (x % 8).toNat v).map D.int), M) := fun {x v} => by
    have := with_item (k := k + 2) hM (R := C) (r := (x % 8).toNat) (v := v) (by rw [lC]; exact mod8_lt) (by omega)
    simp only [nD, mod8] at this
    exact this
  have fm : ∀ {x : Int}, Int.fmod x 8 = x % 8 := fun {x} => Int.fmod_eq_emod_of_nonneg x (by decide)
  simp only [nD, pD, iD, St.enc] at hst hpb ⊢
  cases o with
  | put r n =>
    simp only [Ord.enc, Ord.stop, nD] at hst hpb eP
    simp [f23, b23, ex_skip, ex_seq, ex_asg, ex_box, ex_parN, ex_seti, ex_expr, ex_ret, ex_if, ex_brk, ex_cont, ev_var, ev_cst, ev_bin, ev_cmp, ev_chain, ev_neg, ev_not, ev_and, ev_or, ev_ite, ev_tup, ev_lst, ev_dsp, ev_idx, ev_slice, ev_rev, ev_call, ev_blt, ev_isi, ev_mth, evs_nil, evs_cons, truD, rd, cmpD, binD, bin0, isiD, seqOf, lstOf, dctOf, bltD, ixD, slD, partOf, asgT, boxD, boxs, setAll, keyOf, inD, eqD, flatD, eqv_str, eqv_int, eqv_bl, eqv_non, eqv_si, eqv_is, eqv_tup, eqv_lst, eqv_tn, eqv_nt, eqvs_nil, eqvs_cons, eqvs_nc, eqvs_cn, okN_non, okN_bl, okN_int, okN_str, okN_t64, okN_l64, okN_t63, okN_l63, okN_t62, okN_l62, okNs_nil, okNs_cons, optD, e0, e1, e2, eP, hst, hpb, wi ok.1, rest_of (k := k + 2) hM h1 h2]
  | copy r q =>
    simp only [Ord.enc, Ord.stop, nD] at hst hpb eP
    simp [f23, b23, ex_skip, ex_seq, ex_asg, ex_box, ex_parN, ex_seti, ex_expr, ex_ret, ex_if, ex_brk, ex_cont, ev_var, ev_cst, ev_bin, ev_cmp, ev_chain, ev_neg, ev_not, ev_and, ev_or, ev_ite, ev_tup, ev_lst, ev_dsp, ev_idx, ev_slice, ev_rev, ev_call, ev_blt, ev_isi, ev_mth, evs_nil, evs_cons, truD, rd, cmpD, binD, bin0, isiD, seqOf, lstOf, dctOf, bltD, ixD, slD, partOf, asgT, boxD, boxs, setAll, keyOf, inD, eqD, flatD, eqv_str, eqv_int, eqv_bl, eqv_non, eqv_si, eqv_is, eqv_tup, eqv_lst, eqv_tn, eqv_nt, eqvs_nil, eqvs_cons, eqvs_nc, eqvs_cn, okN_non, okN_bl, okN_int, okN_str, okN_t64, okN_l64, okN_t63, okN_l63, okN_t62, okN_l62, okNs_nil, okNs_cons, optD, e0, e1, e2, eP, hst, hpb, wi ok.1, rg ok.2]
  | op o r q =>
    simp only [Ord.enc, Ord.stop, nD] at hst hpb eP
    have a := gI_ok hR (r := r) (by have := ok.2.1; omega)
    have b := gI_ok hR (r := q) (by have := ok.2.2; omega)
    have ho := operated (k := k) hM h1 h2 a.1 a.2 b.1 b.2 ok.1
    simp [f23, b23, ex_skip, ex_seq, ex_asg, ex_box, ex_parN, ex_seti, ex_expr, ex_ret, ex_if, ex_brk, ex_cont, ev_var, ev_cst, ev_bin, ev_cmp, ev_chain, ev_neg, ev_not, ev_and, ev_or, ev_ite, ev_tup, ev_lst, ev_dsp, ev_idx, ev_slice, ev_rev, ev_call, ev_blt, ev_isi, ev_mth, evs_nil, evs_cons, truD, rd, cmpD, binD, bin0, isiD, seqOf, lstOf, dctOf, bltD, ixD, slD, partOf, asgT, boxD, boxs, setAll, keyOf, inD, eqD, flatD, eqv_str, eqv_int, eqv_bl, eqv_non, eqv_si, eqv_is, eqv_tup, eqv_lst, eqv_tn, eqv_nt, eqvs_nil, eqvs_cons, eqvs_nc, eqvs_cn, okN_non, okN_bl, okN_int, okN_str, okN_t64, okN_l64, okN_t63, okN_l63, okN_t62, okN_l62, okNs_nil, okNs_cons, optD, e0, e1, e2, e3, eP, hst, hpb, wi ok.2.1, rg ok.2.1, rg ok.2.2, ho]
  | load r q =>
    simp only [Ord.enc, Ord.stop, nD] at hst hpb eP
    simp [f23, b23, ex_skip, ex_seq, ex_asg, ex_box, ex_parN, ex_seti, ex_expr, ex_ret, ex_if, ex_brk, ex_cont, ev_var, ev_cst, ev_bin, ev_cmp, ev_chain, ev_neg, ev_not, ev_and, ev_or, ev_ite, ev_tup, ev_lst, ev_dsp, ev_idx, ev_slice, ev_rev, ev_call, ev_blt, ev_isi, ev_mth, evs_nil, evs_cons, truD, rd, cmpD, binD, bin0, isiD, seqOf, lstOf, dctOf, bltD, ixD, slD, partOf, asgT, boxD, boxs, setAll, keyOf, inD, eqD, flatD, eqv_str, eqv_int, eqv_bl, eqv_non, eqv_si, eqv_is, eqv_tup, eqv_lst, eqv_tn, eqv_nt, eqvs_nil, eqvs_cons, eqvs_nc, eqvs_cn, okN_non, okN_bl, okN_int, okN_str, okN_t64, okN_l64, okN_t63, okN_l63, okN_t62, okN_l62, okNs_nil, okNs_cons, optD, e0, e1, e2, eP, hst, hpb, wi ok.1, rg ok.2, fm, cg]
  | store r q =>
    simp only [Ord.enc, Ord.stop, nD] at hst hpb eP
    simp [f23, b23, ex_skip, ex_seq, ex_asg, ex_box, ex_parN, ex_seti, ex_expr, ex_ret, ex_if, ex_brk, ex_cont, ev_var, ev_cst, ev_bin, ev_cmp, ev_chain, ev_neg, ev_not, ev_and, ev_or, ev_ite, ev_tup, ev_lst, ev_dsp, ev_idx, ev_slice, ev_rev, ev_call, ev_blt, ev_isi, ev_mth, evs_nil, evs_cons, truD, rd, cmpD, binD, bin0, isiD, seqOf, lstOf, dctOf, bltD, ixD, slD, partOf, asgT, boxD, boxs, setAll, keyOf, inD, eqD, flatD, eqv_str, eqv_int, eqv_bl, eqv_non, eqv_si, eqv_is, eqv_tup, eqv_lst, eqv_tn, eqv_nt, eqvs_nil, eqvs_cons, eqvs_nc, eqvs_cn, okN_non, okN_bl, okN_int, okN_str, okN_t64, okN_l64, okN_t63, okN_l63, okN_t62, okN_l62, okNs_nil, okNs_cons, optD, e0, e1, e2, eP, hst, hpb, rg ok.1, rg ok.2, fm, wc]
  | cond l r q t =>
    simp only [Ord.enc, Ord.stop, nD] at hst hpb eP
    simp [f23, b23, ex_skip, ex_seq, ex_asg, ex_box, ex_parN, ex_seti, ex_expr, ex_ret, ex_if, ex_brk, ex_cont, ev_var, ev_cst, ev_bin, ev_cmp, ev_chain, ev_neg, ev_not, ev_and, ev_or, ev_ite, ev_tup, ev_lst, ev_dsp, ev_idx, ev_slice, ev_rev, ev_call, ev_blt, ev_isi, ev_mth, evs_nil, evs_cons, truD, rd, cmpD, binD, bin0, isiD, seqOf, lstOf, dctOf, bltD, ixD, slD, partOf, asgT, boxD, boxs, setAll, keyOf, inD, eqD, flatD, eqv_str, eqv_int, eqv_bl, eqv_non, eqv_si, eqv_is, eqv_tup, eqv_lst, eqv_tn, eqv_nt, eqvs_nil, eqvs_cons, eqvs_nc, eqvs_cn, okN_non, okN_bl, okN_int, okN_str, okN_t64, okN_l64, okN_t63, okN_l63, okN_t62, okN_l62, okNs_nil, okNs_cons, optD, e0, e1, e2, eP, hst, hpb]
  | go t =>
    simp only [Ord.enc, Ord.stop, nD] at hst hpb eP
    simp [f23, b23, ex_skip, ex_seq, ex_asg, ex_box, ex_parN, ex_seti, ex_expr, ex_ret, ex_if, ex_brk, ex_cont, ev_var, ev_cst, ev_bin, ev_cmp, ev_chain, ev_neg, ev_not, ev_and, ev_or, ev_ite, ev_tup, ev_lst, ev_dsp, ev_idx, ev_slice, ev_rev, ev_call, ev_blt, ev_isi, ev_mth, evs_nil, evs_cons, truD, rd, cmpD, binD, bin0, isiD, seqOf, lstOf, dctOf, bltD, ixD, slD, partOf, asgT, boxD, boxs, setAll, keyOf, inD, eqD, flatD, eqv_str, eqv_int, eqv_bl, eqv_non, eqv_si, eqv_is, eqv_tup, eqv_lst, eqv_tn, eqv_nt, eqvs_nil, eqvs_cons, eqvs_nc, eqvs_cn, okN_non, okN_bl, okN_int, okN_str, okN_t64, okN_l64, okN_t63, okN_l63, okN_t62, okN_l62, okNs_nil, okNs_cons, optD, e0, e1, e2, eP, hst, hpb]
  | fin =>
    simp only [Ord.enc, Ord.stop, nD] at hst hpb eP
    simp [f23, b23, ex_skip, ex_seq, ex_asg, ex_box, ex_parN, ex_seti, ex_expr, ex_ret, ex_if, ex_brk, ex_cont, ev_var, ev_cst, ev_bin, ev_cmp, ev_chain, ev_neg, ev_not, ev_and, ev_or, ev_ite, ev_tup, ev_lst, ev_dsp, ev_idx, ev_slice, ev_rev, ev_call, ev_blt, ev_isi, ev_mth, evs_nil, evs_cons, truD, rd, cmpD, binD, bin0, isiD, seqOf, lstOf, dctOf, bltD, ixD, slD, partOf, asgT, boxD, boxs, setAll, keyOf, inD, eqD, flatD, eqv_str, eqv_int, eqv_bl, eqv_non, eqv_si, eqv_is, eqv_tup, eqv_lst, eqv_tn, eqv_nt, eqvs_nil, eqvs_cons, eqvs_nc, eqvs_cn, okN_non, okN_bl, okN_int, okN_str, okN_t64, okN_l64, okN_t63, okN_l63, okN_t62, okN_l62, okNs_nil, okNs_cons, optD, e0, e1, e2, eP, hst]
  | fault n =>
    simp only [Ord.enc, Ord.stop, nD] at hst hpb eP
    simp [f23, b23, ex_skip, ex_seq, ex_asg, ex_box, ex_parN, ex_seti, ex_expr, ex_ret, ex_if, ex_brk, ex_cont, ev_var, ev_cst, ev_bin, ev_cmp, ev_chain, ev_neg, ev_not, ev_and, ev_or, ev_ite, ev_tup, ev_lst, ev_dsp, ev_idx, ev_slice, ev_rev, ev_call, ev_blt, ev_isi, ev_mth, evs_nil, evs_cons, truD, rd, cmpD, binD, bin0, isiD, seqOf, lstOf, dctOf, bltD, ixD, slD, partOf, asgT, boxD, boxs, setAll, keyOf, inD, eqD, flatD, eqv_str, eqv_int, eqv_bl, eqv_non, eqv_si, eqv_is, eqv_tup, eqv_lst, eqv_tn, eqv_nt, eqvs_nil, eqvs_cons, eqvs_nc, eqvs_cn, okN_non, okN_bl, okN_int, okN_str, okN_t64, okN_l64, okN_t63, okN_l63, okN_t62, okN_l62, okNs_nil, okNs_cons, optD, e0, e1, e2, eP, hst]
end K09
end Mi
namespace Mi
open PySem PySem.Spec PyProof.Rows L2

namespace K09
variable {k : Nat} {M : Mem}
/-! ### runs -/
def endS (w : Nat) (P : List Ord) : Nat → St → St
  | 0, s => s
  | n + 1, s => match step w P s with
    | none => s
    | some s' => endS w P n s'
def stepsN (w : Nat) (P : List Ord) : Nat → St → Nat
  | 0, _ => 0
  | n + 1, s => match step w P s with
    | none => 0
    | some s' => stepsN w P n s' + 1
/-- the places behind the first -/
def tailP (w : Nat) (P : List Ord) : Nat → St → List Nat
  | 0, _ => []
  | n + 1, s => match step w P s with
    | none => []
    | some s' => s'.p :: tailP w P n s'
def dictOf (ps : List Nat) : List DK × List D := ps.foldl (fun a p => putKs a.1 a.2 (.i (p : Nat)) (.bl true)) ([], [])
theorem setK_true {k : DK} : ∀ {ks : List DK} {xs : List D}, (∀ x ∈ xs, x = .bl true) → ∀ x ∈ setK ks xs k (.bl true), x = .bl true
  | [], xs, h => by unfold setK; exact h
  | _ :: _, [], h => by unfold setK; exact h
  | k' :: ks, x :: xs, h => by
    unfold setK
    intro y hy
    rcases List.mem_cons.mp hy with e | e
    · rw [e]
      split
      · rfl
      · exact h x (List.mem_cons_self ..)
    · exact setK_true (fun z hz => h z (List.mem_cons_of_mem _ hz)) y e
theorem dict_true : ∀ (ps : List Nat) (a : List DK × List D), (∀ x ∈ a.2, x = .bl true) → ∀ x ∈ (ps.foldl (fun a p => putKs a.1 a.2 (.i (p : Nat)) (.bl true)) a).2, x = .bl true
  | [], a, h => h
  | p :: ps, a, h => by
    refine dict_true ps _ ?_
    show ∀ x ∈ (putKs a.1 a.2 (.i (p : Nat)) (.bl true)).2, x = .bl true
    unfold putKs
    split
    · exact setK_true h
    · intro x hx
      rcases List.mem_append.mp hx with e | e
      · exact h x e
      · simpa using e
theorem dict_pure (ps : List Nat) : D.pures (dictOf ps).2 = true := pures_all fun x hx => by
  rw [dict_true ps ([], []) (fun _ z => by cases z) x hx]
  rfl
theorem setK_len {k : DK} {v : D} : ∀ {ks : List DK} {xs : List D}, (setK ks xs k v).length = xs.length
  | [], _ => rfl
  | _ :: _, [] => rfl
  | k' :: ks, x :: xs => by
    show (setK ks xs k v).length + 1 = xs.length + 1
    rw [setK_len]
theorem putKs_len {ks : List DK} {xs : List D} {k : DK} {v : D} : (putKs ks xs k v).1.length ≤ ks.length + 1 := by
  unfold putKs
  split
  · exact Nat.le_succ _
  · simp
theorem dict_len : ∀ (ps : List Nat) (a : List DK × List D), (ps.foldl (fun a p => putKs a.1 a.2 (.i (p : Nat)) (.bl true)) a).1.length ≤ a.1.length + ps.length
  | [], a => Nat.le_refl _
  | p :: ps, a => by
    have h1 := dict_len ps (putKs a.1 a.2 (.i (p : Nat)) (.bl true))
    have h2 := putKs_len (ks := a.1) (xs := a.2) (k := .i (p : Nat)) (v := .bl true)
    rw [List.length_cons]
    exact Nat.le_trans h1 (by omega)
theorem dict_snoc (ps : List Nat) (p : Nat) : dictOf (ps ++ [p]) = putKs (dictOf ps).1 (dictOf ps).2 (.i (p : Nat)) (.bl true) := by
  unfold dictOf
  rw [List.foldl_append]
  rfl
theorem opV_ok {w o : Nat} {a b : Int} (ha : 0 ≤ a) (ha2 : a < 2 ^ w) (hb : 0 ≤ b) (hb2 : b < 2 ^ w) : 0 ≤ opV w o a b ∧ opV w o a b < 2 ^ w := by
  have p : (0 : Int) < 2 ^ w := pow_pos
  have md : ∀ x : Int, 0 ≤ x % 2 ^ w ∧ x % 2 ^ w < 2 ^ w := fun x => ⟨Int.emod_nonneg _ (by omega), Int.emod_lt_of_pos _ p⟩
  have c : ((2 ^ w : Nat) : Int) = 2 ^ w := by simp
  obtain ⟨x, rfl⟩ := Int.eq_ofNat_of_zero_le ha
  obtain ⟨y, rfl⟩ := Int.eq_ofNat_of_zero_le hb
  have hx : x < 2 ^ w := by omega
  have hy : y < 2 ^ w := by omega
  unfold opV
  split
  · exact md _
  · exact md _
  · exact md _
  · rw [bitAnd_pp ha hb, Int.toNat_natCast, Int.toNat_natCast]
    have := Nat.and_lt_two_pow x hy
    omega
  · rw [Bits.bitOr_pp ha hb, Int.toNat_natCast, Int.toNat_natCast]
    have := Nat.or_lt_two_pow hx hy
    omega
  · rw [Bits.bitXor_pp ha hb, Int.toNat_natCast, Int.toNat_natCast]
    have := Nat.xor_lt_two_pow hx hy
    omega
  · split
    · exact ⟨Int.le_refl _, p⟩
    · exact md _
  · split
    · exact ⟨Int.le_refl _, p⟩
    · have q : (0 : Int) < 2 ^ ((y : Int)).toNat := pow_pos
      exact ⟨Int.ediv_nonneg ha (by omega), Int.lt_of_le_of_lt (Int.ediv_le_self _ ha) ha2⟩
theorem WOk.set {w : Nat} {R : List Int} (h : WOk w R) {r : Nat} {v : Int} (hv : 0 ≤ v ∧ v < 2 ^ w) : WOk w (R.set r v) := fun x hx => by
  rcases List.mem_or_eq_of_mem_set hx with e | e
  · exact h x e
  · rw [e]; exact hv
theorem step_ok {w : Nat} {P : List Ord} (hP : POk P) {s s' : St} (hs : s.ok w P.length) (e : step w P s = some s') : s'.ok w P.length := by
  obtain ⟨p, R, C⟩ := s
  obtain ⟨hp, lR, lC, hR, hC⟩ := hs
  have hp : p < P.length := hp
  have lR : R.length = 4 := lR
  have lC : C.length = 8 := lC
  have hR : WOk w R := hR
  have hC : WOk w C := hC
  have ok := hP.ok _ (List.getElem_mem hp)
  obtain ⟨ol, e1, e2⟩ := hP.last
  have eg : P[p]? = some P[p] := List.getElem?_eq_getElem hp
  have nx : P[p].last = false → p + 1 < P.length := fun h => by
    by_cases c : p = P.length - 1
    · subst c
      rw [eg] at e1
      cases e1
      rw [e2] at h
      cases h
    · omega
  unfold step at e
  simp only [eg] at e
  generalize P[p] = o at ok nx e
  have p0 : (0 : Int) < 2 ^ w := pow_pos
  cases o with
  | put r n => cases e; exact ⟨nx rfl, by simp [lR], lC, hR.set ⟨Int.emod_nonneg _ (by omega), Int.emod_lt_of_pos _ p0⟩, hC⟩
  | copy r q => cases e; exact ⟨nx rfl, by simp [lR], lC, hR.set (gI_ok hR (by have := ok.2; omega)), hC⟩
  | op o r q =>
    cases e
    have a := gI_ok hR (r := r) (by have := ok.2.1; omega)
    have b := gI_ok hR (r := q) (by have := ok.2.2; omega)
    exact ⟨nx rfl, by simp [lR], lC, hR.set (opV_ok a.1 a.2 b.1 b.2), hC⟩
  | load r q => cases e; exact ⟨nx rfl, by simp [lR], lC, hR.set (gI_ok hC (by rw [lC]; exact mod8_lt)), hC⟩
  | store r q => cases e; exact ⟨nx rfl, lR, by simp [lC], hR, hC.set (gI_ok hR (by have := ok.1; omega))⟩
  | cond l r q t =>
    cases e
    refine ⟨?_, lR, lC, hR, hC⟩
    show (if relV l (gI R r) (gI R q) = true then t else p + 1) < P.length
    split
    · exact ok.2.2
    · exact nx rfl
  | go t => cases e; exact ⟨ok, lR, lC, hR, hC⟩
  | fin => cases e
  | fault n => cases e
end K09
end Mi
namespace Mi
open PySem PySem.Spec PyProof.Rows L2

namespace K09
variable {k : Nat} {M : Mem}
theorem e0 {x : D} {xs : List D} : atI (x :: xs) 0 = some x := atI_get (i := 0) rfl
theorem e1 {x y : D} {xs : List D} : atI (x :: y :: xs) 1 = some y := atI_get (i := 1) rfl
theorem e2 {x y z : D} {xs : List D} : atI (x :: y :: z :: xs) 2 = some z := atI_get (i := 2) rfl
theorem e3 {x y z u : D} {xs : List D} : atI (x :: y :: z :: u :: xs) 3 = some u := atI_get (i := 3) rfl
theorem e4 {x y z u v : D} {xs : List D} : atI (x :: y :: z :: u :: v :: xs) 4 = some v := atI_get (i := 4) rfl
def St.of (R C : List Int) : St := ⟨0, R, C⟩
theorem first_in (hM : OkM M) {R C : List Int} : callD fs (k + 1) 24 [.tup [.tup (iD R), .tup (iD C)]] M = some ((St.of R C).enc, M) := by
  refine call_pure (f := f24) hM (St.pure _) rfl rfl ?_
  simp [f24, b24, ex_skip, ex_seq, ex_asg, ex_box, ex_parN, ex_seti, ex_expr, ex_ret, ex_if, ex_brk, ex_cont, ev_var, ev_cst, ev_bin, ev_cmp, ev_chain, ev_neg, ev_not, ev_and, ev_or, ev_ite, ev_tup, ev_lst, ev_dsp, ev_idx, ev_slice, ev_rev, ev_call, ev_blt, ev_isi, ev_mth, evs_nil, evs_cons, truD, rd, cmpD, binD, bin0, isiD, seqOf, lstOf, dctOf, bltD, ixD, slD, partOf, asgT, boxD, boxs, setAll, keyOf, inD, eqD, flatD, eqv_str, eqv_int, eqv_bl, eqv_non, eqv_si, eqv_is, eqv_tup, eqv_lst, eqv_tn, eqv_nt, eqvs_nil, eqvs_cons, eqvs_nc, eqvs_cn, okN_non, okN_bl, okN_int, okN_str, okN_t64, okN_l64, okN_t63, okN_l63, okN_t62, okN_l62, okNs_nil, okNs_cons, e0, e1, St.of]
/-- how a run ends -/
def outD (P : List Ord) (s : St) : D := match P[s.p]? with
  | some .fin => .tup [.str [101, 110, 100], .tup (iD s.R), .tup (iD s.C)]
  | some (.fault n) => .tup [.str [102, 97, 117, 108, 116], nD n]
  | _ => .tup [.str [109, 111, 114, 101]]
theorem outD_pure (P : List Ord) (s : St) : (outD P s).pure = true := by
  unfold outD
  split
  · exact pures_rest s.R s.C _ rfl
  · rfl
  · rfl
/-- a run, as run_in tells it -/
def runD (w : Nat) (P : List Ord) (most : Nat) (s : St) : D := .tup [(endS w P most s).enc, nD (stepsN w P most s), .dct (dictOf (s.p :: tailP w P most s)).1 (dictOf (s.p :: tailP w P most s)).2]
theorem dict_first : dictOf [0] = ([.i 0], [.bl true]) := rfl
theorem run_in (hM : OkM M) {w : Nat} (h1 : 1 ≤ w) (h2 : w ≤ 8) {P : List Ord} (hP : POk P) {R C : List Int} (hs : (St.of R C).ok w P.length) {most : Nat} (hm : most ≤ 100000) :
    callD fs (k + 5) 25 [nD w, pD P, .tup [.tup (iD R), .tup (iD C)], nD most] M = some (runD w P most (St.of R C), M) := by
  let s0 := St.of R C
  let inp : D := .tup [.tup (iD R), .tup (iD C)]
  -- behind the loop
  let E : Out → Prop := fun o => (∃ z, o = .nx [some (nD w), some (pD P), some inp, some (nD most), some (endS w P most s0).enc, some (nD (stepsN w P most s0)), some (.ref M.length), z] (M ++ [.dct (dictOf (0 :: tailP w P most s0)).1 (dictOf (0 :: tailP w P most s0)).2])) ∨
    o = .rt (.tup [(endS w P most s0).enc, nD (stepsN w P most s0), .ref M.length]) (M ++ [.dct (dictOf (0 :: tailP w P most s0)).1 (dictOf (0 :: tailP w P most s0)).2])
  let I : Nat → Sl → Mem → Prop := fun m σ M' => ∃ (s : St) (ps : List Nat) (st : Nat) (z : Option D), s.ok w P.length ∧ st + m = most ∧ ps.length ≤ st + 1 ∧ endS w P most s0 = endS w P m s ∧ stepsN w P most s0 = st + stepsN w P m s ∧ 0 :: tailP w P most s0 = ps ++ tailP w P m s ∧
    σ = [some (nD w), some (pD P), some inp, some (nD most), some s.enc, some (nD st), some (.ref M.length), z] ∧ M' = M ++ [.dct (dictOf ps).1 (dictOf ps).2]
  have turn : ∀ m σ M', I m σ M' → ∃ x M1 t, ev (callD fs (k + 4)) (.cmp .Lt (.var 5) (.var 3)) σ M' = some (x, M1) ∧ truD M1 x = some t ∧ ((t = false ∧ E (.nx σ M1)) ∨ (t = true ∧ ((∃ σ2 M2 m', (exec (callD fs (k + 4)) (.seq (.asg (.nm 7) (.call 23 (.cons (.var 0) (.cons (.var 1) (.cons (.var 4) .nil))))) (.seq (.iff (.cmp .Is (.var 7) (.cst .non)) (.seq (.ret (.tup (.cons (.var 4) (.cons (.var 5) (.cons (.var 6) .nil))))) .skip) .skip) (.seq (.parN [4, 5] [false, false] (.cons (.var 7) (.cons (.bin .Add (.var 5) (.cst (.int 1))) .nil))) (.seq (.seti (.var 6) (.idx (.var 4) (.cst (.int 0))) (.cst (.bl true))) .skip)))) σ M1 = some (.nx σ2 M2) ∨ exec (callD fs (k + 4)) (.seq (.asg (.nm 7) (.call 23 (.cons (.var 0) (.cons (.var 1) (.cons (.var 4) .nil))))) (.seq (.iff (.cmp .Is (.var 7) (.cst .non)) (.seq (.ret (.tup (.cons (.var 4) (.cons (.var 5) (.cons (.var 6) .nil))))) .skip) .skip) (.seq (.parN [4, 5] [false, false] (.cons (.var 7) (.cons (.bin .Add (.var 5) (.cst (.int 1))) .nil))) (.seq (.seti (.var 6) (.idx (.var 4) (.cst (.int 0))) (.cst (.bl true))) .skip)))) σ M1 = some (.ct σ2 M2)) ∧ m' < m ∧ I m' σ2 M2) ∨ (∃ σ2 M2, exec (callD fs (k + 4)) (.seq (.asg (.nm 7) (.call 23 (.cons (.var 0) (.cons (.var 1) (.cons (.var 4) .nil))))) (.seq (.iff (.cmp .Is (.var 7) (.cst .non)) (.seq (.ret (.tup (.cons (.var 4) (.cons (.var 5) (.cons (.var 6) .nil))))) .skip) .skip) (.seq (.parN [4, 5] [false, false] (.cons (.var 7) (.cons (.bin .Add (.var 5) (.cst (.int 1))) .nil))) (.seq (.seti (.var 6) (.idx (.var 4) (.cst (.int 0))) (.cst (.bl true))) .skip)))) σ M1 = some (.bk σ2 M2) ∧ E (.nx σ2 M2)) ∨ ∃ d M2, exec (callD fs (k + 4)) (.seq (.asg (.nm 7) (.call 23 (.cons (.var 0) (.cons (.var 1) (.cons (.var 4) .nil))))) (.seq (.iff (.cmp .Is (.var 7) (.cst .non)) (.seq (.ret (.tup (.cons (.var 4) (.cons (.var 5) (.cons (.var 6) .nil))))) .skip) .skip) (.seq (.parN [4, 5] [false, false] (.cons (.var 7) (.cons (.bin .Add (.var 5) (.cst (.int 1))) .nil))) (.seq (.seti (.var 6) (.idx (.var 4) (.cst (.int 0))) (.cst (.bl true))) .skip)))) σ M1 = some (.rt d M2) ∧ E (.rt d M2)))) := by
    rintro m σ M' ⟨s, ps, st, z, ok, hst, hps, q1, q2, q3, rfl, rfl⟩
    have hM2 : OkM (M ++ [.dct (dictOf ps).1 (dictOf ps).2]) := hM.app (dict_pure ps)
    have nx := next_in (k := k) hM2 h1 h2 hP ok
    refine ⟨.bl (decide (st < most)), M ++ [.dct (dictOf ps).1 (dictOf ps).2], decide (st < most), by simp [ex_skip, ex_seq, ex_asg, ex_box, ex_parN, ex_seti, ex_expr, ex_ret, ex_if, ex_brk, ex_cont, ev_var, ev_cst, ev_bin, ev_cmp, ev_chain, ev_neg, ev_not, ev_and, ev_or, ev_ite, ev_tup, ev_lst, ev_dsp, ev_idx, ev_slice, ev_rev, ev_call, ev_blt, ev_isi, ev_mth, evs_nil, evs_cons, truD, rd, cmpD, binD, bin0, isiD, seqOf, lstOf, dctOf, bltD, ixD, slD, partOf, asgT, boxD, boxs, setAll, keyOf, inD, eqD, flatD, eqv_str, eqv_int, eqv_bl, eqv_non, eqv_si, eqv_is, eqv_tup, eqv_lst, eqv_tn, eqv_nt, eqvs_nil, eqvs_cons, eqvs_nc, eqvs_cn, okN_non, okN_bl, okN_int, okN_str, okN_t64, okN_l64, okN_t63, okN_l63, okN_t62, okN_l62, okNs_nil, okNs_cons], rfl, ?_⟩
    cases m with
    | zero =>
      refine .inl ⟨decide_eq_false (by omega), .inl ⟨z, ?_⟩⟩
      simp only [endS, stepsN, tailP, List.append_nil, Nat.add_zero] at q1 q2 q3
      rw [q1, q2, q3]
    | succ m =>
      refine .inr ⟨decide_eq_true (by omega), ?_⟩
      simp only [endS, stepsN, tailP] at q1 q2 q3
      cases e : step w P s with
      | none =>
        rw [e] at q1 q2 q3 nx
        simp only [List.append_nil, Nat.add_zero] at q1 q2 q3
        refine .inr (.inr ⟨.tup [s.enc, nD st, .ref M.length], M ++ [.dct (dictOf ps).1 (dictOf ps).2], ?_, .inr ?_⟩)
        · simp only [optD, nD, pD, iD, St.enc] at nx
          simp [ex_skip, ex_seq, ex_asg, ex_box, ex_parN, ex_seti, ex_expr, ex_ret, ex_if, ex_brk, ex_cont, ev_var, ev_cst, ev_bin, ev_cmp, ev_chain, ev_neg, ev_not, ev_and, ev_or, ev_ite, ev_tup, ev_lst, ev_dsp, ev_idx, ev_slice, ev_rev, ev_call, ev_blt, ev_isi, ev_mth, evs_nil, evs_cons, truD, rd, cmpD, binD, bin0, isiD, seqOf, lstOf, dctOf, bltD, ixD, slD, partOf, asgT, boxD, boxs, setAll, keyOf, inD, eqD, flatD, eqv_str, eqv_int, eqv_bl, eqv_non, eqv_si, eqv_is, eqv_tup, eqv_lst, eqv_tn, eqv_nt, eqvs_nil, eqvs_cons, eqvs_nc, eqvs_cn, okN_non, okN_bl, okN_int, okN_str, okN_t64, okN_l64, okN_t63, okN_l63, okN_t62, okN_l62, okNs_nil, okNs_cons, nx]
        · rw [q1, q2, q3]
      | some s' =>
        rw [e] at q1 q2 q3 nx
        simp only at q1 q2 q3
        refine .inl ⟨[some (nD w), some (pD P), some inp, some (nD most), some s'.enc, some (nD (st + 1)), some (.ref M.length), some s'.enc], M ++ [.dct (dictOf (ps ++ [s'.p])).1 (dictOf (ps ++ [s'.p])).2], m, .inl ?_, Nat.lt_succ_self m, s', ps ++ [s'.p], st + 1, some s'.enc, step_ok hP ok e, by omega, by simp; omega, q1, by rw [q2]; omega, by rw [q3]; simp, rfl, rfl⟩
        have hlen : (dictOf ps).1.length < line := by
          have h1 := dict_len ps ([], [])
          have h2 : (dictOf ps).1.length ≤ 0 + ps.length := h1
          simp only [line]
          omega
        simp only [optD, nD, pD, iD, St.enc] at nx
        rw [dict_snoc]
        simp [ex_skip, ex_seq, ex_asg, ex_box, ex_parN, ex_seti, ex_expr, ex_ret, ex_if, ex_brk, ex_cont, ev_var, ev_cst, ev_bin, ev_cmp, ev_chain, ev_neg, ev_not, ev_and, ev_or, ev_ite, ev_tup, ev_lst, ev_dsp, ev_idx, ev_slice, ev_rev, ev_call, ev_blt, ev_isi, ev_mth, evs_nil, evs_cons, truD, rd, cmpD, binD, bin0, isiD, seqOf, lstOf, dctOf, bltD, ixD, slD, partOf, asgT, boxD, boxs, setAll, keyOf, inD, eqD, flatD, eqv_str, eqv_int, eqv_bl, eqv_non, eqv_si, eqv_is, eqv_tup, eqv_lst, eqv_tn, eqv_nt, eqvs_nil, eqvs_cons, eqvs_nc, eqvs_cn, okN_non, okN_bl, okN_int, okN_str, okN_t64, okN_l64, okN_t63, okN_l63, okN_t62, okN_l62, okNs_nil, okNs_cons, nx, e0, app_get, app_set, hlen]
  have i0 : I most [some (nD w), some (pD P), some inp, some (nD most), some s0.enc, some (nD 0), some (.ref M.length), none] (M ++ [.dct [.i 0] [.bl true]]) := ⟨s0, [0], 0, none, hs, by omega, by simp, rfl, by omega, rfl, rfl, rfl⟩
  obtain ⟨o, ho, hE⟩ := whl_any I E turn most wfuel _ _ (by simp only [wfuel]; omega) i0
  have hfin : ∀ ps : List Nat, fin false M.length (.tup [(endS w P most s0).enc, nD (stepsN w P most s0), .ref M.length]) (M ++ [.dct (dictOf ps).1 (dictOf ps).2]) = some (.tup [(endS w P most s0).enc, nD (stepsN w P most s0), .dct (dictOf ps).1 (dictOf ps).2], M) := fun ps => by
    have a : (D.out M.length (M ++ [.dct (dictOf ps).1 (dictOf ps).2]) (inn M.length (M ++ [.dct (dictOf ps).1 (dictOf ps).2]) 1) (.tup [(endS w P most s0).enc, nD (stepsN w P most s0), .ref M.length])) = some (.tup [(endS w P most s0).enc, nD (stepsN w P most s0), .dct (dictOf ps).1 (dictOf ps).2]) := by
      have b1 := pure_out (n := M.length) (M := M ++ [.dct (dictOf ps).1 (dictOf ps).2]) (f := inn M.length (M ++ [.dct (dictOf ps).1 (dictOf ps).2]) 1) _ (St.pure (endS w P most s0))
      have b2 : inn M.length (M ++ [.dct (dictOf ps).1 (dictOf ps).2]) 1 (dictOf ps).2 = some (dictOf ps).2 := pures_out _ (dict_pure ps)
      simp only [D.out, D.outs] at b1 ⊢
      rw [b1]
      simp [app_get, b2]
    unfold fin
    rw [a]
    simp [D.isRef, app_take, show M.all (MO.lo M.length) = true from hM]
  have hbeg : evs (callD fs (k + 4)) (.cons (.call 24 (.cons (.var 2) .nil)) (.cons (.cst (.int 0)) (.cons (.dsp (.cons (.cst (.int 0)) (.cons (.cst (.bl true)) .nil))) .nil))) [some (nD w), some (pD P), some inp, some (nD most), none, none, none, none] M = some ([s0.enc, .int 0, .dct [.i 0] [.bl true]], M) := by
    have := first_in (k := k + 3) (M := M) hM (R := R) (C := C)
    simp only [iD, nD, St.enc] at this
    simp [ex_skip, ex_seq, ex_asg, ex_box, ex_parN, ex_seti, ex_expr, ex_ret, ex_if, ex_brk, ex_cont, ev_var, ev_cst, ev_bin, ev_cmp, ev_chain, ev_neg, ev_not, ev_and, ev_or, ev_ite, ev_tup, ev_lst, ev_dsp, ev_idx, ev_slice, ev_rev, ev_call, ev_blt, ev_isi, ev_mth, evs_nil, evs_cons, truD, rd, cmpD, binD, bin0, isiD, seqOf, lstOf, dctOf, bltD, ixD, slD, partOf, asgT, boxD, boxs, setAll, keyOf, inD, eqD, flatD, eqv_str, eqv_int, eqv_bl, eqv_non, eqv_si, eqv_is, eqv_tup, eqv_lst, eqv_tn, eqv_nt, eqvs_nil, eqvs_cons, eqvs_nc, eqvs_cn, okN_non, okN_bl, okN_int, okN_str, okN_t64, okN_l64, okN_t63, okN_l63, okN_t62, okN_l62, okNs_nil, okNs_cons, evenD, putKs, this, inp, s0]
  have hpar : exec (callD fs (k + 4)) (.parN [4, 5, 6] [false, false, true] (.cons (.call 24 (.cons (.var 2) .nil)) (.cons (.cst (.int 0)) (.cons (.dsp (.cons (.cst (.int 0)) (.cons (.cst (.bl true)) .nil))) .nil)))) [some (nD w), some (pD P), some inp, some (nD most), none, none, none, none] M = some (.nx [some (nD w), some (pD P), some inp, some (nD most), some s0.enc, some (nD 0), some (.ref M.length), none] (M ++ [.dct [.i 0] [.bl true]])) := by
    rw [ex_parN, hbeg]
    rfl
  rcases hE with ⟨z, hE⟩ | hE
  · subst hE
    refine call_rt (f := f25) rfl rfl (d := D.tup [(endS w P most s0).enc, nD (stepsN w P most s0), D.ref M.length]) (M' := M ++ [MO.dct (dictOf (0 :: tailP w P most s0)).1 (dictOf (0 :: tailP w P most s0)).2]) ?_ (hfin (0 :: tailP w P most s0))
    show exec (callD fs (k + 4)) b25 [some (nD w), some (pD P), some inp, some (nD most), none, none, none, none] M = _
    unfold b25
    rw [ex_seq, hpar]
    show exec (callD fs (k + 4)) (.seq _ _) _ _ = _
    rw [ex_seq]
    show (whlN _ _ wfuel _ _).bind _ = _
    rw [show whlN _ _ wfuel _ _ = _ from ho]
    simp [ex_skip, ex_seq, ex_asg, ex_box, ex_parN, ex_seti, ex_expr, ex_ret, ex_if, ex_brk, ex_cont, ev_var, ev_cst, ev_bin, ev_cmp, ev_chain, ev_neg, ev_not, ev_and, ev_or, ev_ite, ev_tup, ev_lst, ev_dsp, ev_idx, ev_slice, ev_rev, ev_call, ev_blt, ev_isi, ev_mth, evs_nil, evs_cons, truD, rd, cmpD, binD, bin0, isiD, seqOf, lstOf, dctOf, bltD, ixD, slD, partOf, asgT, boxD, boxs, setAll, keyOf, inD, eqD, flatD, eqv_str, eqv_int, eqv_bl, eqv_non, eqv_si, eqv_is, eqv_tup, eqv_lst, eqv_tn, eqv_nt, eqvs_nil, eqvs_cons, eqvs_nc, eqvs_cn, okN_non, okN_bl, okN_int, okN_str, okN_t64, okN_l64, okN_t63, okN_l63, okN_t62, okN_l62, okNs_nil, okNs_cons]
  · subst hE
    refine call_rt (f := f25) rfl rfl (d := D.tup [(endS w P most s0).enc, nD (stepsN w P most s0), D.ref M.length]) (M' := M ++ [MO.dct (dictOf (0 :: tailP w P most s0)).1 (dictOf (0 :: tailP w P most s0)).2]) ?_ (hfin (0 :: tailP w P most s0))
    show exec (callD fs (k + 4)) b25 [some (nD w), some (pD P), some inp, some (nD most), none, none, none, none] M = _
    unfold b25
    rw [ex_seq, hpar]
    show exec (callD fs (k + 4)) (.seq _ _) _ _ = _
    rw [ex_seq]
    show (whlN _ _ wfuel _ _).bind _ = _
    rw [show whlN _ _ wfuel _ _ = _ from ho]
    rfl
end K09
end Mi
namespace Mi
open PySem PySem.Spec PyProof.Rows L2

namespace K09
variable {k : Nat} {M : Mem}
/-- each place once -/
def keysOf (ps : List Nat) : List Nat := ps.foldl (fun a p => if a.contains p then a else a ++ [p]) []
theorem contains_map (a : List Nat) (p : Nat) : (a.map fun q => DK.i (q : Nat)).contains (DK.i (p : Nat)) = a.contains p := by
  induction a with
  | nil => rfl
  | cons q a ih =>
    rw [List.map_cons, List.contains_cons, List.contains_cons, ih]
    congr 1
    by_cases h : p = q
    · subst h
      rw [beq_self_eq_true, beq_self_eq_true]
    · have h2 : ¬ (DK.i (p : Int) = DK.i (q : Int)) := fun e => h (by have := DK.i.inj e; omega)
      rw [beq_eq_false_iff_ne.mpr h, beq_eq_false_iff_ne.mpr h2]
theorem keys_fold : ∀ (ps : List Nat) (a : List Nat) (b : List DK × List D), b.1 = a.map (fun q => DK.i (q : Nat)) →
    (ps.foldl (fun a p => putKs a.1 a.2 (.i (p : Nat)) (.bl true)) b).1 = (ps.foldl (fun a p => if a.contains p then a else a ++ [p]) a).map fun q => DK.i (q : Nat)
  | [], a, b, h => h
  | p :: ps, a, b, h => by
    refine keys_fold ps _ _ ?_
    show (putKs b.1 b.2 (.i (p : Nat)) (.bl true)).1 = _
    show _ = (if a.contains p = true then a else a ++ [p]).map fun q => DK.i (q : Nat)
    unfold putKs
    rw [h, contains_map]
    cases c : a.contains p with
    | true => rfl
    | false =>
      rw [if_neg (by decide), if_neg (by decide), List.map_append]
      rfl
theorem keys_eq (ps : List Nat) : (dictOf ps).1 = (keysOf ps).map fun q => DK.i (q : Nat) := keys_fold ps [] ([], []) rfl
theorem keys_fold_ok {n : Nat} : ∀ (ps a : List Nat), (∀ p ∈ ps, p < n) → a.Nodup → (∀ p ∈ a, p < n) → (ps.foldl (fun a p => if a.contains p then a else a ++ [p]) a).Nodup ∧ ∀ p ∈ ps.foldl (fun a p => if a.contains p then a else a ++ [p]) a, p < n
  | [], a, _, h1, h2 => ⟨h1, h2⟩
  | p :: ps, a, h, h1, h2 => by
    refine keys_fold_ok ps _ (fun q hq => h q (List.mem_cons_of_mem _ hq)) ?_ ?_
    · dsimp only
      split
      · exact h1
      · rename_i c
        have c' : p ∉ a := fun z => c (by simpa using z)
        rw [List.nodup_append]
        exact ⟨h1, by simp, fun x hx y hy e => c' (by rw [List.mem_singleton] at hy; rw [← hy, ← e]; exact hx)⟩
    · dsimp only
      split
      · exact h2
      · intro q hq
        rcases List.mem_append.mp hq with e | e
        · exact h2 q e
        · rw [List.mem_singleton] at e
          rw [e]
          exact h p (List.mem_cons_self ..)
theorem nodup_le : ∀ (n : Nat) (a : List Nat), a.Nodup → (∀ p ∈ a, p < n) → a.length ≤ n
  | 0, [], _, _ => Nat.le_refl _
  | 0, p :: a, _, h => absurd (h p (List.mem_cons_self ..)) (Nat.not_lt_zero _)
  | n + 1, a, h1, h2 => by
    have h3 := nodup_le n (a.erase n) (h1.erase n) fun p hp => by
      have h4 := h2 p (List.mem_of_mem_erase hp)
      have h5 : p ≠ n := fun e => by
        subst e
        exact (List.Nodup.not_mem_erase h1) hp
      omega
    have h6 : a.length ≤ (a.erase n).length + 1 := by
      rw [List.length_erase]
      split <;> omega
    omega
theorem keys_len {n : Nat} {ps : List Nat} (h : ∀ p ∈ ps, p < n) : (keysOf ps).length ≤ n := by
  obtain ⟨h1, h2⟩ := keys_fold_ok ps [] h List.nodup_nil (fun _ z => by cases z)
  exact nodup_le n _ h1 h2
theorem keysI_map (a : List Nat) : keysI (a.map fun q => DK.i (q : Nat)) = some (a.map fun q => ((q : Nat) : Int)) := by
  induction a with
  | nil => rfl
  | cons q a ih =>
    show (keysI (a.map fun q => DK.i (q : Nat))).map (((q : Nat) : Int) :: ·) = _
    rw [ih]
    rfl
/-- the places, in order -/
def placesD (ps : List Nat) : D := .tup ((sortI ((keysOf ps).map fun q => ((q : Nat) : Int))).map D.int)
theorem sorted_dict {M : Mem} {ps : List Nat} (h : ∀ p ∈ ps, p < 60) : bltD M .sorted [.dct (dictOf ps).1 (dictOf ps).2] = some (.lst ((sortI ((keysOf ps).map fun q => ((q : Nat) : Int))).map D.int)) := by
  show ((keysI (dictOf ps).1).bind fun ns => if ns.length < 64 then some (D.lst ((sortI ns).map .int)) else none) = _
  rw [keys_eq, keysI_map, Option.bind_some, if_pos (by have := keys_len h; simp; omega)]
theorem tail_ok {w : Nat} {P : List Ord} (hP : POk P) : ∀ (n : Nat) {s : St}, s.ok w P.length → ∀ p ∈ s.p :: tailP w P n s, p < 60
  | 0, s, hs, p, hp => by
    rw [show tailP w P 0 s = [] from rfl, List.mem_singleton] at hp
    rw [hp]
    exact Nat.lt_of_lt_of_le hs.p hP.le
  | n + 1, s, hs, p, hp => by
    rcases List.mem_cons.mp hp with e | e
    · rw [e]; exact Nat.lt_of_lt_of_le hs.p hP.le
    · unfold tailP at e
      cases q : step w P s with
      | none => rw [q] at e; cases e
      | some s' =>
        rw [q] at e
        exact tail_ok hP n (step_ok hP hs q) p e
theorem end_ok {w : Nat} {P : List Ord} (hP : POk P) : ∀ (n : Nat) {s : St}, s.ok w P.length → (endS w P n s).ok w P.length
  | 0, s, hs => hs
  | n + 1, s, hs => by
    unfold endS
    cases q : step w P s with
    | none => exact hs
    | some s' => exact end_ok hP n (step_ok hP hs q)
/-- inputs and program as the law's calls have them -/
structure Job (w : Nat) (P : List Ord) (R C : List Int) : Prop where
  w1 : 1 ≤ w
  w8 : w ≤ 8
  pk : POk P
  s : (St.of R C).ok w P.length
abbrev inD' (R C : List Int) : D := .tup [.tup (iD R), .tup (iD C)]
variable {w : Nat} {P : List Ord} {R C : List Int}
theorem need_run (hM : OkM M) (J : Job w P R C) {most : Nat} (hm : most ≤ 100000) : callD fs (k + 8) 36 [nD w, pD P, inD' R C, nD most] M = some (.non, M) := by
  refine call_none (f := f36) (σ := [some (nD w), some (pD P), some (inD' R C), some (nD most)]) hM rfl rfl ?_
  have a := need_width (k := k + 3) hM J.w1 J.w8
  have b := need_program (k := k) hM J.pk
  have c := need_inputs (k := k + 1) hM J.w8 J.s.lR J.s.lC J.s.R J.s.C
  have d : callD fs (k + 7) 2 [.int (most : Nat), .int 0, .int 100000] M = some (.non, M) := need_whole (k := k + 4) hM (by omega) (by omega)
  simp only [St.of, nD, pD, iD, inD'] at a b c d
  simp [f36, b36, ex_skip, ex_seq, ex_asg, ex_box, ex_parN, ex_seti, ex_expr, ex_ret, ex_if, ex_brk, ex_cont, ev_var, ev_cst, ev_bin, ev_cmp, ev_chain, ev_neg, ev_not, ev_and, ev_or, ev_ite, ev_tup, ev_lst, ev_dsp, ev_idx, ev_slice, ev_rev, ev_call, ev_blt, ev_isi, ev_mth, evs_nil, evs_cons, truD, rd, cmpD, binD, bin0, isiD, seqOf, lstOf, dctOf, bltD, ixD, slD, partOf, asgT, boxD, boxs, setAll, keyOf, inD, eqD, flatD, eqv_str, eqv_int, eqv_bl, eqv_non, eqv_si, eqv_is, eqv_tup, eqv_lst, eqv_tn, eqv_nt, eqvs_nil, eqvs_cons, eqvs_nc, eqvs_cn, okN_non, okN_bl, okN_int, okN_str, okN_t64, okN_l64, okN_t63, okN_l63, okN_t62, okN_l62, okNs_nil, okNs_cons, a, b, c, d]
theorem places_met (hM : OkM M) (J : Job w P R C) {most : Nat} (hm : most ≤ 100000) : callD fs (k + 9) 38 [nD w, pD P, inD' R C, nD most] M = some (placesD (0 :: tailP w P most (St.of R C)), M) := by
  refine call_pure (f := f38) hM (pures_ints _) rfl rfl ?_
  have a := need_run (k := k) hM J hm
  have b := run_in (k := k + 3) hM J.w1 J.w8 J.pk J.s hm
  have c := sorted_dict (M := M) (ps := 0 :: tailP w P most (St.of R C)) (tail_ok J.pk most J.s)
  have b2 : runD w P most (St.of R C) = .tup [(endS w P most (St.of R C)).enc, nD (stepsN w P most (St.of R C)), .dct (dictOf (0 :: tailP w P most (St.of R C))).1 (dictOf (0 :: tailP w P most (St.of R C))).2] := rfl
  rw [b2] at b
  simp only [nD, pD, iD, inD', St.enc] at a b
  simp [f38, b38, ex_seq, ex_expr, ex_ret, ex_skip, ev_blt, ev_call, ev_idx, ev_var, ev_cst, evs_cons, evs_nil, a, b, ixD, dctOf, rd, seqOf, e2, c]
  rfl
end K09
end Mi
namespace Mi
open PySem PySem.Spec PyProof.Rows L2

namespace K09
variable {k : Nat} {M : Mem} {w : Nat} {P : List Ord} {R C : List Int}
/-! ### the law's own defs -/
/-- the cup: two numbers, none below 0 -/
def cupM (a b : Int) (rest : Mem) : Mem := .lst [.int a, .int b] :: rest
theorem cup_ok {a b a' b' : Int} {rest : Mem} (h : OkM (cupM a b rest)) : OkM (cupM a' b' rest) := h
def OutOk (M M' : Mem) : Prop := M' = M
theorem roll_ok {a b many : Int} {rest : Mem} (hM : OkM (cupM a b rest)) (ha : 0 ≤ a) (hb : 0 ≤ b) (h0 : 0 < many) (h1 : many < 1000000) : ∃ r a' b', 0 ≤ r ∧ r < many ∧ 0 ≤ a' ∧ 0 ≤ b' ∧ callD fs (k + 1) 40 [.ref 0, .int many] (cupM a b rest) = some (.int r, cupM a' b' rest) := by
  have fm : ∀ {x y : Int}, 0 < y → x.fmod y = x % y := fun h => Int.fmod_eq_emod_of_nonneg _ (by omega)
  have fd : ∀ {x y : Int}, 0 < y → x.fdiv y = x / y := fun h => Int.fdiv_eq_ediv_of_nonneg _ (by omega)
  by_cases c : 0 < a
  · refine ⟨a % many, a / many, b, Int.emod_nonneg _ (by omega), Int.emod_lt_of_pos _ h0, Int.ediv_nonneg ha (by omega), hb, ?_⟩
    refine call_rt (f := f40) rfl rfl (d := .int (a % many)) (M' := cupM (a / many) b rest) ?_ (fin_pure (cup_ok hM) rfl)
    have e1 : many ≠ 0 := by omega
    have e2 : many.natAbs < 1073741824 := by omega
    simp [f40, b40, ex_skip, ex_seq, ex_asg, ex_box, ex_parN, ex_seti, ex_expr, ex_ret, ex_if, ex_brk, ex_cont, ev_var, ev_cst, ev_bin, ev_cmp, ev_chain, ev_neg, ev_not, ev_and, ev_or, ev_ite, ev_tup, ev_lst, ev_dsp, ev_idx, ev_slice, ev_rev, ev_call, ev_blt, ev_isi, ev_mth, evs_nil, evs_cons, truD, rd, cmpD, binD, bin0, isiD, seqOf, lstOf, dctOf, bltD, ixD, slD, partOf, asgT, boxD, boxs, setAll, keyOf, inD, eqD, flatD, eqv_str, eqv_int, eqv_bl, eqv_non, eqv_si, eqv_is, eqv_tup, eqv_lst, eqv_tn, eqv_nt, eqvs_nil, eqvs_cons, eqvs_nc, eqvs_cn, okN_non, okN_bl, okN_int, okN_str, okN_t64, okN_l64, okN_t63, okN_l63, okN_t62, okN_l62, okNs_nil, okNs_cons, cupM, MO.d, atI, ixN, c, e1, e2, fm h0, fd h0]
  · have e0 : a = 0 := by omega
    subst e0
    let b1 := (b * 31051 + 7993) % 2147483543
    have hb1 : 0 ≤ b1 := Int.emod_nonneg _ (by decide)
    have hb2 : b1 < 2147483543 := Int.emod_lt_of_pos _ (by decide)
    let d := b1 * (b1 + 229) % 2147483587
    have hd : 0 ≤ d := Int.emod_nonneg _ (by decide)
    refine ⟨d / 821 % many, 0, b1, Int.emod_nonneg _ (by omega), Int.emod_lt_of_pos _ h0, Int.le_refl _, hb1, ?_⟩
    refine call_rt (f := f40) rfl rfl (d := .int (d / 821 % many)) (M' := cupM 0 b1 rest) ?_ (fin_pure (cup_ok hM) rfl)
    have e1 : many ≠ 0 := by omega
    have m1 : mulOk b 31051 = true := by unfold mulOk; simp
    have m2 : mulOk b1 (b1 + 229) = true := by unfold mulOk; simp; omega
    have q1 : (b * 31051 + 7993).fmod 2147483543 = b1 := fm (by decide)
    have q2 : (b1 * (b1 + 229)).fmod 2147483587 = d := fm (by decide)
    have q3 : d.fdiv 821 = d / 821 := fd (by decide)
    simp [f40, b40, ex_skip, ex_seq, ex_asg, ex_box, ex_parN, ex_seti, ex_expr, ex_ret, ex_if, ex_brk, ex_cont, ev_var, ev_cst, ev_bin, ev_cmp, ev_chain, ev_neg, ev_not, ev_and, ev_or, ev_ite, ev_tup, ev_lst, ev_dsp, ev_idx, ev_slice, ev_rev, ev_call, ev_blt, ev_isi, ev_mth, evs_nil, evs_cons, truD, rd, cmpD, binD, bin0, isiD, seqOf, lstOf, dctOf, bltD, ixD, slD, partOf, asgT, boxD, boxs, setAll, keyOf, inD, eqD, flatD, eqv_str, eqv_int, eqv_bl, eqv_non, eqv_si, eqv_is, eqv_tup, eqv_lst, eqv_tn, eqv_nt, eqvs_nil, eqvs_cons, eqvs_nc, eqvs_cn, okN_non, okN_bl, okN_int, okN_str, okN_t64, okN_l64, okN_t63, okN_l63, okN_t62, okN_l62, okNs_nil, okNs_cons, cupM, MO.d, atI, ixN, e1, m1, m2, q1, q2, q3, fm h0]
end K09
end Mi
namespace Mi
open PySem PySem.Spec PyProof.Rows L2

mutual
/-- data that the law's own comparison takes -/
def D.lk : Nat → D → Bool
  | _, .non => true
  | _, .bl _ => true
  | _, .int _ => true
  | _, .str s => s.all (· < 0x110000)
  | n + 1, .tup xs => decide (xs.length ≤ line) && D.lks n xs
  | n + 1, .lst xs => decide (xs.length ≤ line) && D.lks n xs
  | _, _ => false
def D.lks : Nat → List D → Bool
  | _, [] => true
  | n, x :: xs => D.lk n x && D.lks n xs
end
theorem lks_all {n : Nat} : ∀ {xs : List D}, D.lks n xs = true → ∀ x ∈ xs, x.lk n = true
  | [], _, x, hx => by cases hx
  | y :: ys, h, x, hx => by
    have h' : (y.lk n && D.lks n ys) = true := by cases n <;> exact h
    rw [Bool.and_eq_true] at h'
    rcases List.mem_cons.mp hx with e | e
    · rw [e]; exact h'.1
    · exact lks_all h'.2 x e
namespace K09
variable {k : Nat} {M : Mem} {w : Nat} {P : List Ord} {R C : List Int}
theorem law_cup {ns : List Int} (hn : ns.length ≤ 63) : ∃ a b, 0 ≤ a ∧ 0 ≤ b ∧ callD fs (k + 1) 39 [.scr (ns.map D.int)] [] = some (.lst [.int a, .int b], []) := by
  have fm : ∀ {x y : Int}, 0 < y → x.fmod y = x % y := fun h => Int.fmod_eq_emod_of_nonneg _ (by omega)
  have fd : ∀ {x y : Int}, 0 < y → x.fdiv y = x / y := fun h => Int.fdiv_eq_ediv_of_nonneg _ (by omega)
  obtain ⟨x, hx⟩ : ∃ x, atI (ns.map D.int ++ [.int 0]) 0 = some (.int x) := by
    cases ns with
    | nil => exact ⟨0, atI_get (i := 0) rfl⟩
    | cons y ys => exact ⟨y, atI_get (i := 0) rfl⟩
  let cell : Int := if x < 0 then -x else x
  have hc : 0 ≤ cell := by show 0 ≤ (if x < 0 then -x else x); split <;> omega
  have hl : ns.length + 1 ≤ line := by simp only [line]; omega
  have m1 : mulOk cell 283 = true := by unfold mulOk; simp
  have q1 : (cell * 283 + 3907).fmod 2077503167 = (cell * 283 + 3907) % 2077503167 := fm (by decide)
  have q2 : cell.fdiv 73 = cell / 73 := fd (by decide)
  have q3 : 0 ≤ (cell * 283 + 3907) % 2077503167 := Int.emod_nonneg _ (by decide)
  have hcell : (if x < 0 then -x else x) = cell := rfl
  by_cases c : (1000000000000000000 : Int) ≤ cell
  · refine ⟨cell / 73, (cell * 283 + 3907) % 2077503167 + 167, Int.ediv_nonneg hc (by decide), by omega, ?_⟩
    refine call_rt (f := f39) rfl rfl (d := .lst [.int (cell / 73), .int ((cell * 283 + 3907) % 2077503167 + 167)]) (M' := []) ?_ rfl
    simp [f39, b39, ex_skip, ex_seq, ex_asg, ex_box, ex_parN, ex_seti, ex_expr, ex_ret, ex_if, ex_brk, ex_cont, ev_var, ev_cst, ev_bin, ev_cmp, ev_chain, ev_neg, ev_not, ev_and, ev_or, ev_ite, ev_tup, ev_lst, ev_dsp, ev_idx, ev_slice, ev_rev, ev_call, ev_blt, ev_isi, ev_mth, evs_nil, evs_cons, truD, rd, cmpD, binD, bin0, isiD, seqOf, lstOf, dctOf, bltD, ixD, slD, partOf, asgT, boxD, boxs, setAll, keyOf, inD, eqD, flatD, eqv_str, eqv_int, eqv_bl, eqv_non, eqv_si, eqv_is, eqv_tup, eqv_lst, eqv_tn, eqv_nt, eqvs_nil, eqvs_cons, eqvs_nc, eqvs_cn, okN_non, okN_bl, okN_int, okN_str, okN_t64, okN_l64, okN_t63, okN_l63, okN_t62, okN_l62, okNs_nil, okNs_cons, hx, hl, hcell, m1, q1, q2, c]
  · refine ⟨0, (cell * 283 + 3907) % 2077503167 + 167, Int.le_refl _, by omega, ?_⟩
    refine call_rt (f := f39) rfl rfl (d := .lst [.int 0, .int ((cell * 283 + 3907) % 2077503167 + 167)]) (M' := []) ?_ rfl
    simp [f39, b39, ex_skip, ex_seq, ex_asg, ex_box, ex_parN, ex_seti, ex_expr, ex_ret, ex_if, ex_brk, ex_cont, ev_var, ev_cst, ev_bin, ev_cmp, ev_chain, ev_neg, ev_not, ev_and, ev_or, ev_ite, ev_tup, ev_lst, ev_dsp, ev_idx, ev_slice, ev_rev, ev_call, ev_blt, ev_isi, ev_mth, evs_nil, evs_cons, truD, rd, cmpD, binD, bin0, isiD, seqOf, lstOf, dctOf, bltD, ixD, slD, partOf, asgT, boxD, boxs, setAll, keyOf, inD, eqD, flatD, eqv_str, eqv_int, eqv_bl, eqv_non, eqv_si, eqv_is, eqv_tup, eqv_lst, eqv_tn, eqv_nt, eqvs_nil, eqvs_cons, eqvs_nc, eqvs_cn, okN_non, okN_bl, okN_int, okN_str, okN_t64, okN_l64, okN_t63, okN_l63, okN_t62, okN_l62, okNs_nil, okNs_cons, hx, hl, hcell, m1, q1, q2, c]
def sortN : D → Int
  | .non => 0
  | .bl _ => 1
  | .int _ => 2
  | .str _ => 3
  | .tup _ => 4
  | .lst _ => 5
  | _ => 6
theorem law_sort (hM : OkM M) {d : D} {n : Nat} (hd : d.lk n = true) : callD fs (k + 1) 42 [d] M = some (.int (sortN d), M) := by
  refine call_pure (f := f42) hM rfl rfl rfl ?_
  cases d with
  | ref i => cases n <;> cases hd
  | scr i => cases n <;> cases hd
  | dct a b => cases n <;> cases hd
  | _ => rfl
theorem law_like (hM : OkM M) : ∀ (n : Nat) {d : D} {k : Nat}, n ≤ 60 → d.lk n = true → callD fs (k + n + 2) 43 [d, d] M = some (.bl true, M) := by
  intro n
  induction n with
  | zero =>
    intro d k hn hd
    refine call_pure (f := f43) hM rfl rfl rfl ?_
    have hs := law_sort (k := k) hM hd
    cases d with
    | non => simp [f43, b43, ex_skip, ex_seq, ex_asg, ex_box, ex_parN, ex_seti, ex_expr, ex_ret, ex_if, ex_brk, ex_cont, ev_var, ev_cst, ev_bin, ev_cmp, ev_chain, ev_neg, ev_not, ev_and, ev_or, ev_ite, ev_tup, ev_lst, ev_dsp, ev_idx, ev_slice, ev_rev, ev_call, ev_blt, ev_isi, ev_mth, evs_nil, evs_cons, truD, rd, cmpD, binD, bin0, isiD, seqOf, lstOf, dctOf, bltD, ixD, slD, partOf, asgT, boxD, boxs, setAll, keyOf, inD, eqD, flatD, eqv_str, eqv_int, eqv_bl, eqv_non, eqv_si, eqv_is, eqv_tup, eqv_lst, eqv_tn, eqv_nt, eqvs_nil, eqvs_cons, eqvs_nc, eqvs_cn, okN_non, okN_bl, okN_int, okN_str, okN_t64, okN_l64, okN_t63, okN_l63, okN_t62, okN_l62, okNs_nil, okNs_cons, hs, sortN]
    | bl b => simp [f43, b43, ex_skip, ex_seq, ex_asg, ex_box, ex_parN, ex_seti, ex_expr, ex_ret, ex_if, ex_brk, ex_cont, ev_var, ev_cst, ev_bin, ev_cmp, ev_chain, ev_neg, ev_not, ev_and, ev_or, ev_ite, ev_tup, ev_lst, ev_dsp, ev_idx, ev_slice, ev_rev, ev_call, ev_blt, ev_isi, ev_mth, evs_nil, evs_cons, truD, rd, cmpD, binD, bin0, isiD, seqOf, lstOf, dctOf, bltD, ixD, slD, partOf, asgT, boxD, boxs, setAll, keyOf, inD, eqD, flatD, eqv_str, eqv_int, eqv_bl, eqv_non, eqv_si, eqv_is, eqv_tup, eqv_lst, eqv_tn, eqv_nt, eqvs_nil, eqvs_cons, eqvs_nc, eqvs_cn, okN_non, okN_bl, okN_int, okN_str, okN_t64, okN_l64, okN_t63, okN_l63, okN_t62, okN_l62, okNs_nil, okNs_cons, hs, sortN]
    | int i => simp [f43, b43, ex_skip, ex_seq, ex_asg, ex_box, ex_parN, ex_seti, ex_expr, ex_ret, ex_if, ex_brk, ex_cont, ev_var, ev_cst, ev_bin, ev_cmp, ev_chain, ev_neg, ev_not, ev_and, ev_or, ev_ite, ev_tup, ev_lst, ev_dsp, ev_idx, ev_slice, ev_rev, ev_call, ev_blt, ev_isi, ev_mth, evs_nil, evs_cons, truD, rd, cmpD, binD, bin0, isiD, seqOf, lstOf, dctOf, bltD, ixD, slD, partOf, asgT, boxD, boxs, setAll, keyOf, inD, eqD, flatD, eqv_str, eqv_int, eqv_bl, eqv_non, eqv_si, eqv_is, eqv_tup, eqv_lst, eqv_tn, eqv_nt, eqvs_nil, eqvs_cons, eqvs_nc, eqvs_cn, okN_non, okN_bl, okN_int, okN_str, okN_t64, okN_l64, okN_t63, okN_l63, okN_t62, okN_l62, okNs_nil, okNs_cons, hs, sortN]
    | str s =>
      have h2 : s.all (· < 0x110000) = true := hd
      have h3 : ∀ x ∈ s, x < 1114112 := by simpa using h2
      simp [f43, b43, ex_skip, ex_seq, ex_asg, ex_box, ex_parN, ex_seti, ex_expr, ex_ret, ex_if, ex_brk, ex_cont, ev_var, ev_cst, ev_bin, ev_cmp, ev_chain, ev_neg, ev_not, ev_and, ev_or, ev_ite, ev_tup, ev_lst, ev_dsp, ev_idx, ev_slice, ev_rev, ev_call, ev_blt, ev_isi, ev_mth, evs_nil, evs_cons, truD, rd, cmpD, binD, bin0, isiD, seqOf, lstOf, dctOf, bltD, ixD, slD, partOf, asgT, boxD, boxs, setAll, keyOf, inD, eqD, flatD, eqv_str, eqv_int, eqv_bl, eqv_non, eqv_si, eqv_is, eqv_tup, eqv_lst, eqv_tn, eqv_nt, eqvs_nil, eqvs_cons, eqvs_nc, eqvs_cn, okN_non, okN_bl, okN_int, okN_str, okN_t64, okN_l64, okN_t63, okN_l63, okN_t62, okN_l62, okNs_nil, okNs_cons, hs, sortN]
      rw [if_pos h3]
      rfl
    | _ => cases hd
  | succ n ih =>
    intro d k hn hd
    refine call_pure (f := f43) hM rfl rfl rfl ?_
    have hs := law_sort (k := k + (n + 1)) hM hd
    have many : ∀ (xs : List D) (h : d = .tup xs ∨ d = .lst xs), decide (xs.length ≤ line) = true → D.lks n xs = true → ev (callD fs (k + (n + 1) + 1)) (.comp (.cst (.int 1)) (.tp (.cons (.nm 3) (.cons (.nm 4) .nil))) (.sZip (.var 0) (.var 1)) (.not (.call 43 (.cons (.var 3) (.cons (.var 4) .nil)))) [3, 4]) [some d, some d, some (.int (sortN d)), none, none] M = some (.lst [], M) := by
      intro xs h hl hk
      have hw : Walk (.zip d d) M ((xs.zip xs).map fun p => .tup [p.1, p.2]) := walk_zip (by rcases h with rfl | rfl <;> simp [rd])
      rw [comp_pure ((xs.zip xs).map fun p => .tup [p.1, p.2]) (fun _ => false) id rfl hw (by simpa using hl) fun x hx => ?_]
      · simp
      · obtain ⟨p, hp, rfl⟩ := List.mem_map.mp hx
        have e : p.1 = p.2 := by
          obtain ⟨i, hi⟩ := List.getElem?_of_mem hp
          obtain ⟨a, b⟩ := List.getElem?_zip_eq_some.mp hi
          rw [a] at b
          exact Option.some.inj b
        have hm : p.1 ∈ xs := (List.of_mem_zip hp).1
        have hi : callD fs (k + (n + 1) + 1) 43 [p.1, p.1] M = some (.bl true, M) := ih (k := k) (d := p.1) (by omega) (lks_all hk _ hm)
        refine ⟨[some d, some d, some (.int (sortN d)), some p.1, some p.2], .bl false, rfl, ?_, rfl, fun z => by cases z⟩
        rw [← e]
        simp [ex_skip, ex_seq, ex_asg, ex_box, ex_parN, ex_seti, ex_expr, ex_ret, ex_if, ex_brk, ex_cont, ev_var, ev_cst, ev_bin, ev_cmp, ev_chain, ev_neg, ev_not, ev_and, ev_or, ev_ite, ev_tup, ev_lst, ev_dsp, ev_idx, ev_slice, ev_rev, ev_call, ev_blt, ev_isi, ev_mth, evs_nil, evs_cons, truD, rd, cmpD, binD, bin0, isiD, seqOf, lstOf, dctOf, bltD, ixD, slD, partOf, asgT, boxD, boxs, setAll, keyOf, inD, eqD, flatD, eqv_str, eqv_int, eqv_bl, eqv_non, eqv_si, eqv_is, eqv_tup, eqv_lst, eqv_tn, eqv_nt, eqvs_nil, eqvs_cons, eqvs_nc, eqvs_cn, okN_non, okN_bl, okN_int, okN_str, okN_t64, okN_l64, okN_t63, okN_l63, okN_t62, okN_l62, okNs_nil, okNs_cons, hi]
    cases d with
    | non => simp [f43, b43, ex_skip, ex_seq, ex_asg, ex_box, ex_parN, ex_seti, ex_expr, ex_ret, ex_if, ex_brk, ex_cont, ev_var, ev_cst, ev_bin, ev_cmp, ev_chain, ev_neg, ev_not, ev_and, ev_or, ev_ite, ev_tup, ev_lst, ev_dsp, ev_idx, ev_slice, ev_rev, ev_call, ev_blt, ev_isi, ev_mth, evs_nil, evs_cons, truD, rd, cmpD, binD, bin0, isiD, seqOf, lstOf, dctOf, bltD, ixD, slD, partOf, asgT, boxD, boxs, setAll, keyOf, inD, eqD, flatD, eqv_str, eqv_int, eqv_bl, eqv_non, eqv_si, eqv_is, eqv_tup, eqv_lst, eqv_tn, eqv_nt, eqvs_nil, eqvs_cons, eqvs_nc, eqvs_cn, okN_non, okN_bl, okN_int, okN_str, okN_t64, okN_l64, okN_t63, okN_l63, okN_t62, okN_l62, okNs_nil, okNs_cons, hs, sortN]
    | bl b => simp [f43, b43, ex_skip, ex_seq, ex_asg, ex_box, ex_parN, ex_seti, ex_expr, ex_ret, ex_if, ex_brk, ex_cont, ev_var, ev_cst, ev_bin, ev_cmp, ev_chain, ev_neg, ev_not, ev_and, ev_or, ev_ite, ev_tup, ev_lst, ev_dsp, ev_idx, ev_slice, ev_rev, ev_call, ev_blt, ev_isi, ev_mth, evs_nil, evs_cons, truD, rd, cmpD, binD, bin0, isiD, seqOf, lstOf, dctOf, bltD, ixD, slD, partOf, asgT, boxD, boxs, setAll, keyOf, inD, eqD, flatD, eqv_str, eqv_int, eqv_bl, eqv_non, eqv_si, eqv_is, eqv_tup, eqv_lst, eqv_tn, eqv_nt, eqvs_nil, eqvs_cons, eqvs_nc, eqvs_cn, okN_non, okN_bl, okN_int, okN_str, okN_t64, okN_l64, okN_t63, okN_l63, okN_t62, okN_l62, okNs_nil, okNs_cons, hs, sortN]
    | int i => simp [f43, b43, ex_skip, ex_seq, ex_asg, ex_box, ex_parN, ex_seti, ex_expr, ex_ret, ex_if, ex_brk, ex_cont, ev_var, ev_cst, ev_bin, ev_cmp, ev_chain, ev_neg, ev_not, ev_and, ev_or, ev_ite, ev_tup, ev_lst, ev_dsp, ev_idx, ev_slice, ev_rev, ev_call, ev_blt, ev_isi, ev_mth, evs_nil, evs_cons, truD, rd, cmpD, binD, bin0, isiD, seqOf, lstOf, dctOf, bltD, ixD, slD, partOf, asgT, boxD, boxs, setAll, keyOf, inD, eqD, flatD, eqv_str, eqv_int, eqv_bl, eqv_non, eqv_si, eqv_is, eqv_tup, eqv_lst, eqv_tn, eqv_nt, eqvs_nil, eqvs_cons, eqvs_nc, eqvs_cn, okN_non, okN_bl, okN_int, okN_str, okN_t64, okN_l64, okN_t63, okN_l63, okN_t62, okN_l62, okNs_nil, okNs_cons, hs, sortN]
    | str s =>
      have h2 : s.all (· < 0x110000) = true := hd
      have h3 : ∀ x ∈ s, x < 1114112 := by simpa using h2
      simp [f43, b43, ex_skip, ex_seq, ex_asg, ex_box, ex_parN, ex_seti, ex_expr, ex_ret, ex_if, ex_brk, ex_cont, ev_var, ev_cst, ev_bin, ev_cmp, ev_chain, ev_neg, ev_not, ev_and, ev_or, ev_ite, ev_tup, ev_lst, ev_dsp, ev_idx, ev_slice, ev_rev, ev_call, ev_blt, ev_isi, ev_mth, evs_nil, evs_cons, truD, rd, cmpD, binD, bin0, isiD, seqOf, lstOf, dctOf, bltD, ixD, slD, partOf, asgT, boxD, boxs, setAll, keyOf, inD, eqD, flatD, eqv_str, eqv_int, eqv_bl, eqv_non, eqv_si, eqv_is, eqv_tup, eqv_lst, eqv_tn, eqv_nt, eqvs_nil, eqvs_cons, eqvs_nc, eqvs_cn, okN_non, okN_bl, okN_int, okN_str, okN_t64, okN_l64, okN_t63, okN_l63, okN_t62, okN_l62, okNs_nil, okNs_cons, hs, sortN]
      rw [if_pos h3]
      rfl
    | tup xs =>
      have h2 : (decide (xs.length ≤ line) && D.lks n xs) = true := hd
      rw [Bool.and_eq_true] at h2
      have hc := many xs (.inl rfl) h2.1 h2.2
      simp only [sortN] at hs hc
      simp [f43, b43, ex_skip, ex_seq, ex_asg, ex_box, ex_parN, ex_seti, ex_expr, ex_ret, ex_if, ex_brk, ex_cont, ev_var, ev_cst, ev_bin, ev_cmp, ev_chain, ev_neg, ev_not, ev_and, ev_or, ev_ite, ev_tup, ev_lst, ev_dsp, ev_idx, ev_slice, ev_rev, ev_call, ev_blt, ev_isi, ev_mth, evs_nil, evs_cons, truD, rd, cmpD, binD, bin0, isiD, seqOf, lstOf, dctOf, bltD, ixD, slD, partOf, asgT, boxD, boxs, setAll, keyOf, inD, eqD, flatD, eqv_str, eqv_int, eqv_bl, eqv_non, eqv_si, eqv_is, eqv_tup, eqv_lst, eqv_tn, eqv_nt, eqvs_nil, eqvs_cons, eqvs_nc, eqvs_cn, okN_non, okN_bl, okN_int, okN_str, okN_t64, okN_l64, okN_t63, okN_l63, okN_t62, okN_l62, okNs_nil, okNs_cons, hs, hc]
    | lst xs =>
      have h2 : (decide (xs.length ≤ line) && D.lks n xs) = true := hd
      rw [Bool.and_eq_true] at h2
      have hc := many xs (.inr rfl) h2.1 h2.2
      simp only [sortN] at hs hc
      simp [f43, b43, ex_skip, ex_seq, ex_asg, ex_box, ex_parN, ex_seti, ex_expr, ex_ret, ex_if, ex_brk, ex_cont, ev_var, ev_cst, ev_bin, ev_cmp, ev_chain, ev_neg, ev_not, ev_and, ev_or, ev_ite, ev_tup, ev_lst, ev_dsp, ev_idx, ev_slice, ev_rev, ev_call, ev_blt, ev_isi, ev_mth, evs_nil, evs_cons, truD, rd, cmpD, binD, bin0, isiD, seqOf, lstOf, dctOf, bltD, ixD, slD, partOf, asgT, boxD, boxs, setAll, keyOf, inD, eqD, flatD, eqv_str, eqv_int, eqv_bl, eqv_non, eqv_si, eqv_is, eqv_tup, eqv_lst, eqv_tn, eqv_nt, eqvs_nil, eqvs_cons, eqvs_nc, eqvs_cn, okN_non, okN_bl, okN_int, okN_str, okN_t64, okN_l64, okN_t63, okN_l63, okN_t62, okN_l62, okNs_nil, okNs_cons, hs, hc]
    | _ => cases hd
end K09
end Mi
namespace Mi
open PySem PySem.Spec PyProof.Rows L2

/-! ### memories that grow by pure objects -/
theorem ap0 {M : Mem} {a : MO} {l : Mem} : (M ++ a :: l)[M.length]? = some a := by simp
theorem ap1 {M : Mem} {a b : MO} {l : Mem} : (M ++ a :: b :: l)[M.length + 1]? = some b := by
  rw [List.getElem?_append_right (by omega)]
  simp
theorem st0 {M : Mem} {a x : MO} {l : Mem} : (M ++ a :: l).set M.length x = M ++ x :: l := by simp
theorem st1 {M : Mem} {a b x : MO} {l : Mem} : (M ++ a :: b :: l).set (M.length + 1) x = M ++ a :: x :: l := by
  rw [List.set_append_right _ _ (by omega)]
  simp
theorem fin_grow {fr : Bool} {M l : Mem} {d : D} (hM : OkM M) (hd : d.pure = true) : fin fr M.length d (M ++ l) = some (d, M) := by
  unfold fin
  rw [pure_ref hd, Bool.and_false, if_neg (by decide), pure_out d hd, Option.bind_some, List.take_left' rfl, if_pos (show M.all (MO.lo M.length) = true from hM)]
theorem OkM.grow {M : Mem} (h : OkM M) : ∀ {l : Mem}, (∀ o ∈ l, o.pure = true) → OkM (M ++ l) := by
  intro l hl
  unfold OkM at *
  rw [List.all_append, Bool.and_eq_true]
  exact ⟨List.all_eq_true.mpr fun x hx => MO.lo_up (by simp) (List.all_eq_true.mp h x hx), List.all_eq_true.mpr fun x hx => MO.pure_lo (hl x hx)⟩
theorem call_grow {fs : List Fn} {k i : Nat} {f : Fn} {ds : List D} {M l : Mem} {d : D} (hM : OkM M) (hd : d.pure = true) (hf : fs[i]? = some f) (hl : ds.length = f.ps) (he : exec (callD fs k) f.body (ds.map some ++ List.replicate (f.slots - f.ps) none) M = some (.rt d (M ++ l))) :
    callD fs (k + 1) i ds M = some (d, M) := call_rt hf hl he (fin_grow hM hd)
namespace K09
variable {k : Nat} {M : Mem} {w : Nat} {P : List Ord}
theorem ix_lt {α : Type} {xs : List α} {i : Nat} (h : i < xs.length) : ixN xs.length ((i : Nat) : Int) = some i := by
  unfold ixN
  rw [if_pos (by omega), if_pos (by omega)]
  simp
theorem ixN_lt {n i : Nat} (h : i < n) : ixN n ((i : Nat) : Int) = some i := by
  unfold ixN
  rw [if_pos (by omega), if_pos (by omega)]
  simp
theorem iD_set {R : List Int} {r : Nat} {v : Int} : (iD R).set r (.int v) = iD (R.set r v) := by rw [iD, iD, List.map_set]
theorem gI_nat {w : Nat} {R : List Int} (h : WOk w R) {r : Nat} (hr : r < R.length) : ∃ n : Nat, gI R r = (n : Int) ∧ n < 2 ^ w := by
  have g := gI_ok h hr
  obtain ⟨n, hn⟩ := Int.eq_ofNat_of_zero_le g.1
  refine ⟨n, hn, ?_⟩
  have := g.2
  rw [hn] at this
  exact_mod_cast this
end K09
end Mi
namespace Mi
open PySem PySem.Spec PyProof.Rows L2

namespace K09
/-! ### what is drawn -/
structure Cup where
  a : Int
  b : Int
  ha : 0 ≤ a
  hb : 0 ≤ b
def cM (c : Cup) (rest : Mem) : Mem := cupM c.a c.b rest
variable {k : Nat} {c c' : Cup} {rest l : Mem} {X Y : MO}
theorem cM_ok (h : OkM (cM c rest)) : OkM (cM c' rest) := h
theorem cM_len : (cM c rest).length = rest.length + 1 := rfl
theorem cM_app : cM c rest ++ l = cM c (rest ++ l) := rfl
theorem cM_get : (cM c (rest ++ X :: l))[rest.length + 1]? = some X := by
  show (_ :: (rest ++ X :: l))[rest.length + 1]? = _
  rw [List.getElem?_cons_succ]
  exact ap0
theorem cM_set : (cM c (rest ++ X :: l)).set (rest.length + 1) Y = cM c (rest ++ Y :: l) := by
  show (_ :: (rest ++ X :: l)).set (rest.length + 1) Y = _
  rw [List.set_cons_succ, st0]
  rfl
theorem cM_grow (h : OkM (cM c rest)) (hl : ∀ o ∈ l, o.pure = true) : OkM (cM c' (rest ++ l)) := (cM_ok (c' := c') h).grow hl
theorem cM_grow1 (h : OkM (cM c rest)) {xs : List D} (hl : D.pures xs = true) : OkM (cM c' (rest ++ [.lst xs])) := cM_grow h fun o ho => by
  rw [List.mem_singleton] at ho
  rw [ho]; exact hl
theorem fin_cM {fr : Bool} {d : D} (h : OkM (cM c rest)) (hd : d.pure = true) : fin fr (cM c rest).length d (cM c' rest) = some (d, cM c' rest) := fin_pure (M := cM c' rest) (cM_ok h) hd
theorem fin_cMg {fr : Bool} {d : D} (h : OkM (cM c rest)) (hd : d.pure = true) : fin fr (cM c rest).length d (cM c' rest ++ l) = some (d, cM c' rest) := fin_grow (M := cM c' rest) (cM_ok h) hd
theorem roll_n {many : Int} (c : Cup) (hM : OkM (cM c rest)) (h0 : 0 < many) (h1 : many < 1000000) : ∃ (r : Nat) (c' : Cup), (r : Int) < many ∧ callD fs (k + 1) 40 [.ref 0, .int many] (cM c rest) = some (.int (r : Nat), cM c' rest) := by
  obtain ⟨r, a', b', p1, p2, p3, p4, h⟩ := roll_ok (k := k) hM c.ha c.hb h0 h1
  obtain ⟨n, rfl⟩ := Int.eq_ofNat_of_zero_le p1
  exact ⟨n, ⟨a', b', p3, p4⟩, p2, h⟩
theorem some_of {xs : List D} (c : Cup) (hM : OkM (cM c rest)) (hx : D.pures xs = true) (h0 : 0 < xs.length) (h1 : xs.length < 1000000) : ∃ x ∈ xs, ∃ c' : Cup, callD fs (k + 2) 41 [.ref 0, .lst xs] (cM c rest) = some (x, cM c' rest) := by
  obtain ⟨r, c', hr, h⟩ := roll_n (k := k) (many := (xs.length : Nat)) c hM (by omega) (by omega)
  have hr' : r < xs.length := by omega
  have ha : atI xs ((r : Nat) : Int) = some xs[r] := atI_lt hr'
  have hp : xs[r].pure = true := by
    have : ∀ {ys : List D}, D.pures ys = true → ∀ y ∈ ys, y.pure = true := by
      intro ys
      induction ys with
      | nil => intro _ y hy; cases hy
      | cons z ys ih =>
        intro h y hy
        have h' : (z.pure && D.pures ys) = true := h
        rw [Bool.and_eq_true] at h'
        rcases List.mem_cons.mp hy with e | e
        · rw [e]; exact h'.1
        · exact ih h'.2 y e
    exact this hx _ (List.getElem_mem hr')
  refine ⟨xs[r], List.getElem_mem hr', c', ?_⟩
  refine call_rt (f := f41) (M' := cM c' rest) rfl rfl ?_ (fin_cM hM hp)
  generalize xs[r] = y at ha
  simp -implicitDefEqProofs [f41, b41, q_pr, q_bl, q_var, q_cst, q_bin, q_bin1, q_bin2, q_cmp, q_cmp1, q_cmp2, q_ch, q_ch1, q_ch2, q_ch3, q_neg, q_neg1, q_not, q_not1, q_not2, q_and, q_and1, q_and2, q_or, q_or1, q_or2, q_ite, q_ite1, q_ite2, q_tup, q_tup1, q_lst, q_lst1, q_dsp, q_dsp1, q_dsp2, q_idx, q_ix1, q_ix2, q_slice, q_sl1, q_sl2, q_sl3, q_slP00, q_slP10, q_slP01, q_slP11, q_slCt, q_slCl, q_rev, q_rev1, q_revD, q_revCl, q_revCt, q_call, q_call1, q_blt, q_blt1, q_isi, q_isi1, q_mth, q_m1, q_m2, q_m3, q_nil, q_cons, q_c1, q_c2, q_sSeq, q_sSeq1, q_sEnum, q_sEnum1, q_sR, q_sR1, q_sR2, q_sZ, q_sZ1, q_sZ2, q_seq, q_seqn, q_seqr, q_seqb, q_seqc, q_skip, q_brk, q_cont, q_asg, q_asg1, q_asg2, q_at_nm, q_at_tp, q_at_nil, q_at_cons, q_at1, q_box, q_box1, q_box2, q_bxl, q_bxd, q_bxf, q_par, q_par1, q_par2, q_bs0, q_bs, q_bs1, q_seti, q_st1, q_st2, q_st3, q_st4, q_putD, q_putL, q_putL1, q_putK, q_putKs, q_putK1, q_expr, q_ex1, q_ret, q_ret1, q_if, q_if1, q_if2, q_rd_non, q_rd_bl, q_rd_int, q_rd_str, q_rd_tup, q_rd_lst, q_rd_dct, q_rd_ref, q_rdOl, q_rdOd, q_seqOf, q_seqCt, q_seqCl, q_lstOf, q_lstCl, q_dctOf, q_dctCd, q_dctCt, q_dctCl, q_dctCs, q_truD, q_truCb, q_truCi, q_truCn, q_truCt, q_truCl, q_truCd, q_isiD, q_isiCn, q_isiCb, q_isiCi, q_isiCs, q_isiCt, q_isiCl, q_binD, b_add, b_sub, b_mul, b_div, b_mod, b_shl, b_pow, b_shr, b_and, b_or, b_xor, b_adds, b_addt, b_addl, b_mult, b_mull, q_nb, q_eq, q_ne, q_in, q_nin, q_lt, q_le, q_gt, q_ge, q_isb, q_isn, q_isi', q_ist, q_isl, q_iss, q_isbn, q_isr, q_isd, q_inb, q_inn, q_ini, q_int, q_inl, q_ins, q_inr, q_ind, q_eqii, q_eqss, q_eqbb, q_eqsi, q_eqtt, q_eqll, q_eqtn, q_eqnt, q_eqnn, q_ixD, q_ixC, q_ixK, q_ixKs, q_seqCd, q_lent, q_lenl, q_lend, q_lenr, q_lenCl, q_lenCd, q_abs, q_bint, q_bintb, q_bmin, q_bmax, q_btuple, q_bt1, q_blistt, q_blistl, q_blists, q_blistr, q_bll1, q_sset, q_sset1, q_lrange, q_trange, q_app, q_app1, flatD, eqv_str, eqv_int, eqv_bl, eqv_non, eqv_si, eqv_is, eqv_tup, eqv_lst, eqv_tn, eqv_nt, eqvs_nil, eqvs_cons, eqvs_nc, eqvs_cn, okN_non, okN_bl, okN_int, okN_str, okN_t64, okN_l64, okN_t63, okN_l63, okN_t62, okN_l62, okNs_nil, okNs_cons, eqS, setAll, inD, keyOf, h, ha]
theorem op_mem {x : D} (h : x ∈ ([.str [97, 100, 100], .str [115, 117, 98], .str [109, 117, 108], .str [97, 110, 100], .str [111, 114], .str [120, 111, 114], .str [108, 101, 102, 116], .str [114, 105, 103, 104, 116], .str [97, 100, 100], .str [115, 117, 98]] : List D)) : ∃ o, o < 8 ∧ x = .str (opNm o) := by
  rcases List.mem_cons.mp h with h | h
  · exact ⟨0, by decide, h⟩
  rcases List.mem_cons.mp h with h | h
  · exact ⟨1, by decide, h⟩
  rcases List.mem_cons.mp h with h | h
  · exact ⟨2, by decide, h⟩
  rcases List.mem_cons.mp h with h | h
  · exact ⟨3, by decide, h⟩
  rcases List.mem_cons.mp h with h | h
  · exact ⟨4, by decide, h⟩
  rcases List.mem_cons.mp h with h | h
  · exact ⟨5, by decide, h⟩
  rcases List.mem_cons.mp h with h | h
  · exact ⟨6, by decide, h⟩
  rcases List.mem_cons.mp h with h | h
  · exact ⟨7, by decide, h⟩
  rcases List.mem_cons.mp h with h | h
  · exact ⟨0, by decide, h⟩
  rcases List.mem_cons.mp h with h | h
  · exact ⟨1, by decide, h⟩
  cases h
theorem rel_mem {x : D} (h : x ∈ ([.str [115, 97, 109, 101], .str [108, 101, 115, 115]] : List D)) : ∃ b, x = .str (relNm b) := by
  rcases List.mem_cons.mp h with h | h
  · exact ⟨false, h⟩
  rcases List.mem_cons.mp h with h | h
  · exact ⟨true, h⟩
  cases h
theorem encs_pure (P : List Ord) : D.pures (P.map Ord.enc) = true := pures_all fun x hx => by
  obtain ⟨o, _, rfl⟩ := List.mem_map.mp hx
  exact o.pure
theorem prog_turn {P : List Ord} {many turn : Nat} (c : Cup) (hM : OkM (cM c rest)) (hX : P.length < 1000) (hm : many ≤ 100) (ht : turn + 1 < many) {z1 z5 z6 z7 z8 : Option D} :
    ∃ (o : Ord) (c' : Cup) (z5' z6' z7' z8' : Option D), o.ok many ∧ exec (callD fs (k + 2)) (.seq (.parN [5, 6, 7] [false, false, false] (.cons (.call 40 (.cons (.var 0) (.cons (.cst (.int 12)) .nil))) (.cons (.call 40 (.cons (.var 0) (.cons (.cst (.int 3)) .nil))) (.cons (.call 40 (.cons (.var 0) (.cons (.cst (.int 3)) .nil))) .nil)))) (.seq (.asg (.nm 8) (.ite (.cmp .Eq (.call 40 (.cons (.var 0) (.cons (.cst (.int 4)) .nil))) (.cst (.int 0))) (.call 40 (.cons (.var 0) (.cons (.var 2) .nil))) (.bin .Add (.bin .Add (.var 4) (.cst (.int 1))) (.call 40 (.cons (.var 0) (.cons (.bin .Sub (.bin .Sub (.var 2) (.var 4)) (.cst (.int 1))) .nil)))))) (.seq (.iff (.cmp .Lt (.var 5) (.cst (.int 2))) (.seq (.expr (.mth .append (.var 3) (.cons (.tup (.cons (.cst (.str [112, 117, 116])) (.cons (.var 6) (.cons (.call 40 (.cons (.var 0) (.cons (.cst (.int 6)) .nil))) .nil)))) .nil))) .skip) (.seq (.iff (.cmp .Lt (.var 5) (.cst (.int 5))) (.seq (.expr (.mth .append (.var 3) (.cons (.tup (.cons (.cst (.str [100, 111])) (.cons (.call 41 (.cons (.var 0) (.cons (.lst (.cons (.cst (.str [97, 100, 100])) (.cons (.cst (.str [115, 117, 98])) (.cons (.cst (.str [109, 117, 108])) (.cons (.cst (.str [97, 110, 100])) (.cons (.cst (.str [111, 114])) (.cons (.cst (.str [120, 111, 114])) (.cons (.cst (.str [108, 101, 102, 116])) (.cons (.cst (.str [114, 105, 103, 104, 116])) (.cons (.cst (.str [97, 100, 100])) (.cons (.cst (.str [115, 117, 98])) .nil))))))))))) .nil))) (.cons (.var 6) (.cons (.var 7) .nil))))) .nil))) .skip) (.seq (.iff (.cmp .Lt (.var 5) (.cst (.int 8))) (.seq (.expr (.mth .append (.var 3) (.cons (.tup (.cons (.cst (.str [105, 102])) (.cons (.call 41 (.cons (.var 0) (.cons (.lst (.cons (.cst (.str [115, 97, 109, 101])) (.cons (.cst (.str [108, 101, 115, 115])) .nil))) .nil))) (.cons (.var 6) (.cons (.var 7) (.cons (.var 8) .nil)))))) .nil))) .skip) (.seq (.iff (.cmp .Eq (.var 5) (.cst (.int 8))) (.seq (.expr (.mth .append (.var 3) (.cons (.tup (.cons (.cst (.str [99, 111, 112, 121])) (.cons (.var 6) (.cons (.var 7) .nil)))) .nil))) .skip) (.seq (.iff (.cmp .Eq (.var 5) (.cst (.int 9))) (.seq (.expr (.mth .append (.var 3) (.cons (.call 41 (.cons (.var 0) (.cons (.lst (.cons (.tup (.cons (.cst (.str [108, 111, 97, 100])) (.cons (.var 6) (.cons (.var 7) .nil)))) (.cons (.tup (.cons (.cst (.str [115, 116, 111, 114, 101])) (.cons (.var 6) (.cons (.var 7) .nil)))) .nil))) .nil))) .nil))) .skip) (.seq (.expr (.mth .append (.var 3) (.cons (.call 41 (.cons (.var 0) (.cons (.lst (.cons (.tup (.cons (.cst (.str [103, 111])) (.cons (.var 8) .nil))) (.cons (.tup (.cons (.cst (.str [102, 97, 117, 108, 116])) (.cons (.call 40 (.cons (.var 0) (.cons (.cst (.int 3)) .nil))) .nil))) (.cons (.tup (.cons (.cst (.str [112, 117, 116])) (.cons (.var 6) (.cons (.cst (.int 1)) .nil)))) (.cons (.tup (.cons (.cst (.str [100, 111])) (.cons (.cst (.str [115, 117, 98])) (.cons (.var 6) (.cons (.var 7) .nil))))) .nil))))) .nil))) .nil))) .skip)) .skip)) .skip)) .skip)) .skip)) .skip))) [some (.ref 0), z1, some (nD many), some (.ref (rest.length + 1)), some (nD turn), z5, z6, z7, z8] (cM c (rest ++ [.lst (P.map Ord.enc)])) =
      some (.nx [some (.ref 0), z1, some (nD many), some (.ref (rest.length + 1)), some (nD turn), z5', z6', z7', z8'] (cM c' (rest ++ [.lst ((P ++ [o]).map Ord.enc)]))) := by
  have hM2 : ∀ c : Cup, OkM (cM c (rest ++ [.lst (P.map Ord.enc)])) := fun c => cM_grow1 hM (encs_pure P)
  have hl : (P.map Ord.enc).length < line := by rw [List.length_map]; unfold line; omega
  obtain ⟨way, c1, hway, r1⟩ := roll_n (k := k + 1) (many := 12) c (hM2 c) (by decide) (by decide)
  obtain ⟨r, c2, hr, r2⟩ := roll_n (k := k + 1) (many := 3) c1 (hM2 c1) (by decide) (by decide)
  obtain ⟨s, c3, hs, r3⟩ := roll_n (k := k + 1) (many := 3) c2 (hM2 c2) (by decide) (by decide)
  have hr' : r < 4 := by omega
  have hs' : s < 4 := by omega
  have hA : exec (callD fs (k + 2)) (.parN [5, 6, 7] [false, false, false] (.cons (.call 40 (.cons (.var 0) (.cons (.cst (.int 12)) .nil))) (.cons (.call 40 (.cons (.var 0) (.cons (.cst (.int 3)) .nil))) (.cons (.call 40 (.cons (.var 0) (.cons (.cst (.int 3)) .nil))) .nil)))) [some (.ref 0), z1, some (nD many), some (.ref (rest.length + 1)), some (nD turn), z5, z6, z7, z8] (cM c (rest ++ [.lst (P.map Ord.enc)])) =
      some (.nx [some (.ref 0), z1, some (nD many), some (.ref (rest.length + 1)), some (nD turn), some (nD way), some (nD r), some (nD s), z8] (cM c3 (rest ++ [.lst (P.map Ord.enc)]))) := by
    simp -implicitDefEqProofs [q_pr, q_bl, q_var, q_cst, q_bin, q_bin1, q_bin2, q_cmp, q_cmp1, q_cmp2, q_ch, q_ch1, q_ch2, q_ch3, q_neg, q_neg1, q_not, q_not1, q_not2, q_and, q_and1, q_and2, q_or, q_or1, q_or2, q_ite, q_ite1, q_ite2, q_tup, q_tup1, q_lst, q_lst1, q_dsp, q_dsp1, q_dsp2, q_idx, q_ix1, q_ix2, q_slice, q_sl1, q_sl2, q_sl3, q_slP00, q_slP10, q_slP01, q_slP11, q_slCt, q_slCl, q_rev, q_rev1, q_revD, q_revCl, q_revCt, q_call, q_call1, q_blt, q_blt1, q_isi, q_isi1, q_mth, q_m1, q_m2, q_m3, q_nil, q_cons, q_c1, q_c2, q_sSeq, q_sSeq1, q_sEnum, q_sEnum1, q_sR, q_sR1, q_sR2, q_sZ, q_sZ1, q_sZ2, q_seq, q_seqn, q_seqr, q_seqb, q_seqc, q_skip, q_brk, q_cont, q_asg, q_asg1, q_asg2, q_at_nm, q_at_tp, q_at_nil, q_at_cons, q_at1, q_box, q_box1, q_box2, q_bxl, q_bxd, q_bxf, q_par, q_par1, q_par2, q_bs0, q_bs, q_bs1, q_seti, q_st1, q_st2, q_st3, q_st4, q_putD, q_putL, q_putL1, q_putK, q_putKs, q_putK1, q_expr, q_ex1, q_ret, q_ret1, q_if, q_if1, q_if2, q_rd_non, q_rd_bl, q_rd_int, q_rd_str, q_rd_tup, q_rd_lst, q_rd_dct, q_rd_ref, q_rdOl, q_rdOd, q_seqOf, q_seqCt, q_seqCl, q_lstOf, q_lstCl, q_dctOf, q_dctCd, q_dctCt, q_dctCl, q_dctCs, q_truD, q_truCb, q_truCi, q_truCn, q_truCt, q_truCl, q_truCd, q_isiD, q_isiCn, q_isiCb, q_isiCi, q_isiCs, q_isiCt, q_isiCl, q_binD, b_add, b_sub, b_mul, b_div, b_mod, b_shl, b_pow, b_shr, b_and, b_or, b_xor, b_adds, b_addt, b_addl, b_mult, b_mull, q_nb, q_eq, q_ne, q_in, q_nin, q_lt, q_le, q_gt, q_ge, q_isb, q_isn, q_isi', q_ist, q_isl, q_iss, q_isbn, q_isr, q_isd, q_inb, q_inn, q_ini, q_int, q_inl, q_ins, q_inr, q_ind, q_eqii, q_eqss, q_eqbb, q_eqsi, q_eqtt, q_eqll, q_eqtn, q_eqnt, q_eqnn, q_ixD, q_ixC, q_ixK, q_ixKs, q_seqCd, q_lent, q_lenl, q_lend, q_lenr, q_lenCl, q_lenCd, q_abs, q_bint, q_bintb, q_bmin, q_bmax, q_btuple, q_bt1, q_blistt, q_blistl, q_blists, q_blistr, q_bll1, q_sset, q_sset1, q_lrange, q_trange, q_app, q_app1, flatD, eqv_str, eqv_int, eqv_bl, eqv_non, eqv_si, eqv_is, eqv_tup, eqv_lst, eqv_tn, eqv_nt, eqvs_nil, eqvs_cons, eqvs_nc, eqvs_cn, okN_non, okN_bl, okN_int, okN_str, okN_t64, okN_l64, okN_t63, okN_l63, okN_t62, okN_l62, okNs_nil, okNs_cons, eqS, setAll, inD, keyOf, r1, r2, r3]
  obtain ⟨q, c4, hq, r4⟩ := roll_n (k := k + 1) (many := 4) c3 (hM2 c3) (by decide) (by decide)
  have hB : ∃ (far : Nat) (c5 : Cup), far < many ∧ exec (callD fs (k + 2)) (.asg (.nm 8) (.ite (.cmp .Eq (.call 40 (.cons (.var 0) (.cons (.cst (.int 4)) .nil))) (.cst (.int 0))) (.call 40 (.cons (.var 0) (.cons (.var 2) .nil))) (.bin .Add (.bin .Add (.var 4) (.cst (.int 1))) (.call 40 (.cons (.var 0) (.cons (.bin .Sub (.bin .Sub (.var 2) (.var 4)) (.cst (.int 1))) .nil)))))) [some (.ref 0), z1, some (nD many), some (.ref (rest.length + 1)), some (nD turn), some (nD way), some (nD r), some (nD s), z8] (cM c3 (rest ++ [.lst (P.map Ord.enc)])) =
      some (.nx [some (.ref 0), z1, some (nD many), some (.ref (rest.length + 1)), some (nD turn), some (nD way), some (nD r), some (nD s), some (nD far)] (cM c5 (rest ++ [.lst (P.map Ord.enc)]))) := by
    by_cases e : q = 0
    · subst e
      obtain ⟨far, c5, hf, r5⟩ := roll_n (k := k + 1) (many := (many : Nat)) c4 (hM2 c4) (by omega) (by omega)
      refine ⟨far, c5, by omega, ?_⟩
      simp -implicitDefEqProofs [q_pr, q_bl, q_var, q_cst, q_bin, q_bin1, q_bin2, q_cmp, q_cmp1, q_cmp2, q_ch, q_ch1, q_ch2, q_ch3, q_neg, q_neg1, q_not, q_not1, q_not2, q_and, q_and1, q_and2, q_or, q_or1, q_or2, q_ite, q_ite1, q_ite2, q_tup, q_tup1, q_lst, q_lst1, q_dsp, q_dsp1, q_dsp2, q_idx, q_ix1, q_ix2, q_slice, q_sl1, q_sl2, q_sl3, q_slP00, q_slP10, q_slP01, q_slP11, q_slCt, q_slCl, q_rev, q_rev1, q_revD, q_revCl, q_revCt, q_call, q_call1, q_blt, q_blt1, q_isi, q_isi1, q_mth, q_m1, q_m2, q_m3, q_nil, q_cons, q_c1, q_c2, q_sSeq, q_sSeq1, q_sEnum, q_sEnum1, q_sR, q_sR1, q_sR2, q_sZ, q_sZ1, q_sZ2, q_seq, q_seqn, q_seqr, q_seqb, q_seqc, q_skip, q_brk, q_cont, q_asg, q_asg1, q_asg2, q_at_nm, q_at_tp, q_at_nil, q_at_cons, q_at1, q_box, q_box1, q_box2, q_bxl, q_bxd, q_bxf, q_par, q_par1, q_par2, q_bs0, q_bs, q_bs1, q_seti, q_st1, q_st2, q_st3, q_st4, q_putD, q_putL, q_putL1, q_putK, q_putKs, q_putK1, q_expr, q_ex1, q_ret, q_ret1, q_if, q_if1, q_if2, q_rd_non, q_rd_bl, q_rd_int, q_rd_str, q_rd_tup, q_rd_lst, q_rd_dct, q_rd_ref, q_rdOl, q_rdOd, q_seqOf, q_seqCt, q_seqCl, q_lstOf, q_lstCl, q_dctOf, q_dctCd, q_dctCt, q_dctCl, q_dctCs, q_truD, q_truCb, q_truCi, q_truCn, q_truCt, q_truCl, q_truCd, q_isiD, q_isiCn, q_isiCb, q_isiCi, q_isiCs, q_isiCt, q_isiCl, q_binD, b_add, b_sub, b_mul, b_div, b_mod, b_shl, b_pow, b_shr, b_and, b_or, b_xor, b_adds, b_addt, b_addl, b_mult, b_mull, q_nb, q_eq, q_ne, q_in, q_nin, q_lt, q_le, q_gt, q_ge, q_isb, q_isn, q_isi', q_ist, q_isl, q_iss, q_isbn, q_isr, q_isd, q_inb, q_inn, q_ini, q_int, q_inl, q_ins, q_inr, q_ind, q_eqii, q_eqss, q_eqbb, q_eqsi, q_eqtt, q_eqll, q_eqtn, q_eqnt, q_eqnn, q_ixD, q_ixC, q_ixK, q_ixKs, q_seqCd, q_lent, q_lenl, q_lend, q_lenr, q_lenCl, q_lenCd, q_abs, q_bint, q_bintb, q_bmin, q_bmax, q_btuple, q_bt1, q_blistt, q_blistl, q_blists, q_blistr, q_bll1, q_sset, q_sset1, q_lrange, q_trange, q_app, q_app1, flatD, eqv_str, eqv_int, eqv_bl, eqv_non, eqv_si, eqv_is, eqv_tup, eqv_lst, eqv_tn, eqv_nt, eqvs_nil, eqvs_cons, eqvs_nc, eqvs_cn, okN_non, okN_bl, okN_int, okN_str, okN_t64, okN_l64, okN_t63, okN_l63, okN_t62, okN_l62, okNs_nil, okNs_cons, eqS, setAll, inD, keyOf, r4, r5]
    · obtain ⟨far, c5, hf, r5⟩ := roll_n (k := k + 1) (many := (many : Int) - (turn : Int) - 1) c4 (hM2 c4) (by omega) (by omega)
      refine ⟨turn + 1 + far, c5, by omega, ?_⟩
      have e' : ¬ ((q : Int) = 0) := by omega
      simp -implicitDefEqProofs [q_pr, q_bl, q_var, q_cst, q_bin, q_bin1, q_bin2, q_cmp, q_cmp1, q_cmp2, q_ch, q_ch1, q_ch2, q_ch3, q_neg, q_neg1, q_not, q_not1, q_not2, q_and, q_and1, q_and2, q_or, q_or1, q_or2, q_ite, q_ite1, q_ite2, q_tup, q_tup1, q_lst, q_lst1, q_dsp, q_dsp1, q_dsp2, q_idx, q_ix1, q_ix2, q_slice, q_sl1, q_sl2, q_sl3, q_slP00, q_slP10, q_slP01, q_slP11, q_slCt, q_slCl, q_rev, q_rev1, q_revD, q_revCl, q_revCt, q_call, q_call1, q_blt, q_blt1, q_isi, q_isi1, q_mth, q_m1, q_m2, q_m3, q_nil, q_cons, q_c1, q_c2, q_sSeq, q_sSeq1, q_sEnum, q_sEnum1, q_sR, q_sR1, q_sR2, q_sZ, q_sZ1, q_sZ2, q_seq, q_seqn, q_seqr, q_seqb, q_seqc, q_skip, q_brk, q_cont, q_asg, q_asg1, q_asg2, q_at_nm, q_at_tp, q_at_nil, q_at_cons, q_at1, q_box, q_box1, q_box2, q_bxl, q_bxd, q_bxf, q_par, q_par1, q_par2, q_bs0, q_bs, q_bs1, q_seti, q_st1, q_st2, q_st3, q_st4, q_putD, q_putL, q_putL1, q_putK, q_putKs, q_putK1, q_expr, q_ex1, q_ret, q_ret1, q_if, q_if1, q_if2, q_rd_non, q_rd_bl, q_rd_int, q_rd_str, q_rd_tup, q_rd_lst, q_rd_dct, q_rd_ref, q_rdOl, q_rdOd, q_seqOf, q_seqCt, q_seqCl, q_lstOf, q_lstCl, q_dctOf, q_dctCd, q_dctCt, q_dctCl, q_dctCs, q_truD, q_truCb, q_truCi, q_truCn, q_truCt, q_truCl, q_truCd, q_isiD, q_isiCn, q_isiCb, q_isiCi, q_isiCs, q_isiCt, q_isiCl, q_binD, b_add, b_sub, b_mul, b_div, b_mod, b_shl, b_pow, b_shr, b_and, b_or, b_xor, b_adds, b_addt, b_addl, b_mult, b_mull, q_nb, q_eq, q_ne, q_in, q_nin, q_lt, q_le, q_gt, q_ge, q_isb, q_isn, q_isi', q_ist, q_isl, q_iss, q_isbn, q_isr, q_isd, q_inb, q_inn, q_ini, q_int, q_inl, q_ins, q_inr, q_ind, q_eqii, q_eqss, q_eqbb, q_eqsi, q_eqtt, q_eqll, q_eqtn, q_eqnt, q_eqnn, q_ixD, q_ixC, q_ixK, q_ixKs, q_seqCd, q_lent, q_lenl, q_lend, q_lenr, q_lenCl, q_lenCd, q_abs, q_bint, q_bintb, q_bmin, q_bmax, q_btuple, q_bt1, q_blistt, q_blistl, q_blists, q_blistr, q_bll1, q_sset, q_sset1, q_lrange, q_trange, q_app, q_app1, flatD, eqv_str, eqv_int, eqv_bl, eqv_non, eqv_si, eqv_is, eqv_tup, eqv_lst, eqv_tn, eqv_nt, eqvs_nil, eqvs_cons, eqvs_nc, eqvs_cn, okN_non, okN_bl, okN_int, okN_str, okN_t64, okN_l64, okN_t63, okN_l63, okN_t62, okN_l62, okNs_nil, okNs_cons, eqS, setAll, inD, keyOf, r4, r5, e]
  obtain ⟨far, c5, hfar, hB⟩ := hB
  suffices hC : ∃ (o : Ord) (c' : Cup), o.ok many ∧ exec (callD fs (k + 2)) (.seq (.iff (.cmp .Lt (.var 5) (.cst (.int 2))) (.seq (.expr (.mth .append (.var 3) (.cons (.tup (.cons (.cst (.str [112, 117, 116])) (.cons (.var 6) (.cons (.call 40 (.cons (.var 0) (.cons (.cst (.int 6)) .nil))) .nil)))) .nil))) .skip) (.seq (.iff (.cmp .Lt (.var 5) (.cst (.int 5))) (.seq (.expr (.mth .append (.var 3) (.cons (.tup (.cons (.cst (.str [100, 111])) (.cons (.call 41 (.cons (.var 0) (.cons (.lst (.cons (.cst (.str [97, 100, 100])) (.cons (.cst (.str [115, 117, 98])) (.cons (.cst (.str [109, 117, 108])) (.cons (.cst (.str [97, 110, 100])) (.cons (.cst (.str [111, 114])) (.cons (.cst (.str [120, 111, 114])) (.cons (.cst (.str [108, 101, 102, 116])) (.cons (.cst (.str [114, 105, 103, 104, 116])) (.cons (.cst (.str [97, 100, 100])) (.cons (.cst (.str [115, 117, 98])) .nil))))))))))) .nil))) (.cons (.var 6) (.cons (.var 7) .nil))))) .nil))) .skip) (.seq (.iff (.cmp .Lt (.var 5) (.cst (.int 8))) (.seq (.expr (.mth .append (.var 3) (.cons (.tup (.cons (.cst (.str [105, 102])) (.cons (.call 41 (.cons (.var 0) (.cons (.lst (.cons (.cst (.str [115, 97, 109, 101])) (.cons (.cst (.str [108, 101, 115, 115])) .nil))) .nil))) (.cons (.var 6) (.cons (.var 7) (.cons (.var 8) .nil)))))) .nil))) .skip) (.seq (.iff (.cmp .Eq (.var 5) (.cst (.int 8))) (.seq (.expr (.mth .append (.var 3) (.cons (.tup (.cons (.cst (.str [99, 111, 112, 121])) (.cons (.var 6) (.cons (.var 7) .nil)))) .nil))) .skip) (.seq (.iff (.cmp .Eq (.var 5) (.cst (.int 9))) (.seq (.expr (.mth .append (.var 3) (.cons (.call 41 (.cons (.var 0) (.cons (.lst (.cons (.tup (.cons (.cst (.str [108, 111, 97, 100])) (.cons (.var 6) (.cons (.var 7) .nil)))) (.cons (.tup (.cons (.cst (.str [115, 116, 111, 114, 101])) (.cons (.var 6) (.cons (.var 7) .nil)))) .nil))) .nil))) .nil))) .skip) (.seq (.expr (.mth .append (.var 3) (.cons (.call 41 (.cons (.var 0) (.cons (.lst (.cons (.tup (.cons (.cst (.str [103, 111])) (.cons (.var 8) .nil))) (.cons (.tup (.cons (.cst (.str [102, 97, 117, 108, 116])) (.cons (.call 40 (.cons (.var 0) (.cons (.cst (.int 3)) .nil))) .nil))) (.cons (.tup (.cons (.cst (.str [112, 117, 116])) (.cons (.var 6) (.cons (.cst (.int 1)) .nil)))) (.cons (.tup (.cons (.cst (.str [100, 111])) (.cons (.cst (.str [115, 117, 98])) (.cons (.var 6) (.cons (.var 7) .nil))))) .nil))))) .nil))) .nil))) .skip)) .skip)) .skip)) .skip)) .skip)) .skip) [some (.ref 0), z1, some (nD many), some (.ref (rest.length + 1)), some (nD turn), some (nD way), some (nD r), some (nD s), some (nD far)] (cM c5 (rest ++ [.lst (P.map Ord.enc)])) =
      some (.nx [some (.ref 0), z1, some (nD many), some (.ref (rest.length + 1)), some (nD turn), some (nD way), some (nD r), some (nD s), some (nD far)] (cM c' (rest ++ [.lst ((P ++ [o]).map Ord.enc)]))) by
    obtain ⟨o, c', h1, h2⟩ := hC
    refine ⟨o, c', some (nD way), some (nD r), some (nD s), some (nD far), h1, ?_⟩
    rw [q_seq, hA, q_seqn]
    rw [ex_seq, hB]
    exact h2
  have hfin : ∀ o : Ord, (P ++ [o]).map Ord.enc = P.map Ord.enc ++ [o.enc] := fun o => by simp
  by_cases w1 : way < 2
  · obtain ⟨n, c6, hn, r6⟩ := roll_n (k := k + 1) (many := 6) c5 (hM2 c5) (by decide) (by decide)
    refine ⟨.put r n, c6, ⟨hr', by omega⟩, ?_⟩
    have w1' : (way : Int) < 2 := by omega
    rw [hfin]
    generalize P.map Ord.enc = Q at r6 hl
    simp -implicitDefEqProofs [q_pr, q_bl, q_var, q_cst, q_bin, q_bin1, q_bin2, q_cmp, q_cmp1, q_cmp2, q_ch, q_ch1, q_ch2, q_ch3, q_neg, q_neg1, q_not, q_not1, q_not2, q_and, q_and1, q_and2, q_or, q_or1, q_or2, q_ite, q_ite1, q_ite2, q_tup, q_tup1, q_lst, q_lst1, q_dsp, q_dsp1, q_dsp2, q_idx, q_ix1, q_ix2, q_slice, q_sl1, q_sl2, q_sl3, q_slP00, q_slP10, q_slP01, q_slP11, q_slCt, q_slCl, q_rev, q_rev1, q_revD, q_revCl, q_revCt, q_call, q_call1, q_blt, q_blt1, q_isi, q_isi1, q_mth, q_m1, q_m2, q_m3, q_nil, q_cons, q_c1, q_c2, q_sSeq, q_sSeq1, q_sEnum, q_sEnum1, q_sR, q_sR1, q_sR2, q_sZ, q_sZ1, q_sZ2, q_seq, q_seqn, q_seqr, q_seqb, q_seqc, q_skip, q_brk, q_cont, q_asg, q_asg1, q_asg2, q_at_nm, q_at_tp, q_at_nil, q_at_cons, q_at1, q_box, q_box1, q_box2, q_bxl, q_bxd, q_bxf, q_par, q_par1, q_par2, q_bs0, q_bs, q_bs1, q_seti, q_st1, q_st2, q_st3, q_st4, q_putD, q_putL, q_putL1, q_putK, q_putKs, q_putK1, q_expr, q_ex1, q_ret, q_ret1, q_if, q_if1, q_if2, q_rd_non, q_rd_bl, q_rd_int, q_rd_str, q_rd_tup, q_rd_lst, q_rd_dct, q_rd_ref, q_rdOl, q_rdOd, q_seqOf, q_seqCt, q_seqCl, q_lstOf, q_lstCl, q_dctOf, q_dctCd, q_dctCt, q_dctCl, q_dctCs, q_truD, q_truCb, q_truCi, q_truCn, q_truCt, q_truCl, q_truCd, q_isiD, q_isiCn, q_isiCb, q_isiCi, q_isiCs, q_isiCt, q_isiCl, q_binD, b_add, b_sub, b_mul, b_div, b_mod, b_shl, b_pow, b_shr, b_and, b_or, b_xor, b_adds, b_addt, b_addl, b_mult, b_mull, q_nb, q_eq, q_ne, q_in, q_nin, q_lt, q_le, q_gt, q_ge, q_isb, q_isn, q_isi', q_ist, q_isl, q_iss, q_isbn, q_isr, q_isd, q_inb, q_inn, q_ini, q_int, q_inl, q_ins, q_inr, q_ind, q_eqii, q_eqss, q_eqbb, q_eqsi, q_eqtt, q_eqll, q_eqtn, q_eqnt, q_eqnn, q_ixD, q_ixC, q_ixK, q_ixKs, q_seqCd, q_lent, q_lenl, q_lend, q_lenr, q_lenCl, q_lenCd, q_abs, q_bint, q_bintb, q_bmin, q_bmax, q_btuple, q_bt1, q_blistt, q_blistl, q_blists, q_blistr, q_bll1, q_sset, q_sset1, q_lrange, q_trange, q_app, q_app1, flatD, eqv_str, eqv_int, eqv_bl, eqv_non, eqv_si, eqv_is, eqv_tup, eqv_lst, eqv_tn, eqv_nt, eqvs_nil, eqvs_cons, eqvs_nc, eqvs_cn, okN_non, okN_bl, okN_int, okN_str, okN_t64, okN_l64, okN_t63, okN_l63, okN_t62, okN_l62, okNs_nil, okNs_cons, eqS, setAll, inD, keyOf, r6, w1, w1', cM_get, cM_set, hl, Ord.enc]
  have w1' : ¬ (way : Int) < 2 := by omega
  by_cases w2 : way < 5
  · obtain ⟨x, hx, c6, r6⟩ := some_of (k := k) (xs := [.str [97, 100, 100], .str [115, 117, 98], .str [109, 117, 108], .str [97, 110, 100], .str [111, 114], .str [120, 111, 114], .str [108, 101, 102, 116], .str [114, 105, 103, 104, 116], .str [97, 100, 100], .str [115, 117, 98]]) c5 (hM2 c5) rfl (by decide) (by decide)
    obtain ⟨o, ho, rfl⟩ := op_mem hx
    refine ⟨.op o r s, c6, ⟨ho, hr', hs'⟩, ?_⟩
    have w2' : (way : Int) < 5 := by omega
    rw [hfin]
    generalize P.map Ord.enc = Q at r6 hl
    simp -implicitDefEqProofs [q_pr, q_bl, q_var, q_cst, q_bin, q_bin1, q_bin2, q_cmp, q_cmp1, q_cmp2, q_ch, q_ch1, q_ch2, q_ch3, q_neg, q_neg1, q_not, q_not1, q_not2, q_and, q_and1, q_and2, q_or, q_or1, q_or2, q_ite, q_ite1, q_ite2, q_tup, q_tup1, q_lst, q_lst1, q_dsp, q_dsp1, q_dsp2, q_idx, q_ix1, q_ix2, q_slice, q_sl1, q_sl2, q_sl3, q_slP00, q_slP10, q_slP01, q_slP11, q_slCt, q_slCl, q_rev, q_rev1, q_revD, q_revCl, q_revCt, q_call, q_call1, q_blt, q_blt1, q_isi, q_isi1, q_mth, q_m1, q_m2, q_m3, q_nil, q_cons, q_c1, q_c2, q_sSeq, q_sSeq1, q_sEnum, q_sEnum1, q_sR, q_sR1, q_sR2, q_sZ, q_sZ1, q_sZ2, q_seq, q_seqn, q_seqr, q_seqb, q_seqc, q_skip, q_brk, q_cont, q_asg, q_asg1, q_asg2, q_at_nm, q_at_tp, q_at_nil, q_at_cons, q_at1, q_box, q_box1, q_box2, q_bxl, q_bxd, q_bxf, q_par, q_par1, q_par2, q_bs0, q_bs, q_bs1, q_seti, q_st1, q_st2, q_st3, q_st4, q_putD, q_putL, q_putL1, q_putK, q_putKs, q_putK1, q_expr, q_ex1, q_ret, q_ret1, q_if, q_if1, q_if2, q_rd_non, q_rd_bl, q_rd_int, q_rd_str, q_rd_tup, q_rd_lst, q_rd_dct, q_rd_ref, q_rdOl, q_rdOd, q_seqOf, q_seqCt, q_seqCl, q_lstOf, q_lstCl, q_dctOf, q_dctCd, q_dctCt, q_dctCl, q_dctCs, q_truD, q_truCb, q_truCi, q_truCn, q_truCt, q_truCl, q_truCd, q_isiD, q_isiCn, q_isiCb, q_isiCi, q_isiCs, q_isiCt, q_isiCl, q_binD, b_add, b_sub, b_mul, b_div, b_mod, b_shl, b_pow, b_shr, b_and, b_or, b_xor, b_adds, b_addt, b_addl, b_mult, b_mull, q_nb, q_eq, q_ne, q_in, q_nin, q_lt, q_le, q_gt, q_ge, q_isb, q_isn, q_isi', q_ist, q_isl, q_iss, q_isbn, q_isr, q_isd, q_inb, q_inn, q_ini, q_int, q_inl, q_ins, q_inr, q_ind, q_eqii, q_eqss, q_eqbb, q_eqsi, q_eqtt, q_eqll, q_eqtn, q_eqnt, q_eqnn, q_ixD, q_ixC, q_ixK, q_ixKs, q_seqCd, q_lent, q_lenl, q_lend, q_lenr, q_lenCl, q_lenCd, q_abs, q_bint, q_bintb, q_bmin, q_bmax, q_btuple, q_bt1, q_blistt, q_blistl, q_blists, q_blistr, q_bll1, q_sset, q_sset1, q_lrange, q_trange, q_app, q_app1, flatD, eqv_str, eqv_int, eqv_bl, eqv_non, eqv_si, eqv_is, eqv_tup, eqv_lst, eqv_tn, eqv_nt, eqvs_nil, eqvs_cons, eqvs_nc, eqvs_cn, okN_non, okN_bl, okN_int, okN_str, okN_t64, okN_l64, okN_t63, okN_l63, okN_t62, okN_l62, okNs_nil, okNs_cons, eqS, setAll, inD, keyOf, r6, w1, w1', w2, w2', cM_get, cM_set, hl, Ord.enc]
  have w2' : ¬ (way : Int) < 5 := by omega
  by_cases w3 : way < 8
  · obtain ⟨x, hx, c6, r6⟩ := some_of (k := k) (xs := [.str [115, 97, 109, 101], .str [108, 101, 115, 115]]) c5 (hM2 c5) rfl (by decide) (by decide)
    obtain ⟨o, rfl⟩ := rel_mem hx
    refine ⟨.cond o r s far, c6, ⟨hr', hs', hfar⟩, ?_⟩
    have w3' : (way : Int) < 8 := by omega
    rw [hfin]
    generalize P.map Ord.enc = Q at r6 hl
    simp -implicitDefEqProofs [q_pr, q_bl, q_var, q_cst, q_bin, q_bin1, q_bin2, q_cmp, q_cmp1, q_cmp2, q_ch, q_ch1, q_ch2, q_ch3, q_neg, q_neg1, q_not, q_not1, q_not2, q_and, q_and1, q_and2, q_or, q_or1, q_or2, q_ite, q_ite1, q_ite2, q_tup, q_tup1, q_lst, q_lst1, q_dsp, q_dsp1, q_dsp2, q_idx, q_ix1, q_ix2, q_slice, q_sl1, q_sl2, q_sl3, q_slP00, q_slP10, q_slP01, q_slP11, q_slCt, q_slCl, q_rev, q_rev1, q_revD, q_revCl, q_revCt, q_call, q_call1, q_blt, q_blt1, q_isi, q_isi1, q_mth, q_m1, q_m2, q_m3, q_nil, q_cons, q_c1, q_c2, q_sSeq, q_sSeq1, q_sEnum, q_sEnum1, q_sR, q_sR1, q_sR2, q_sZ, q_sZ1, q_sZ2, q_seq, q_seqn, q_seqr, q_seqb, q_seqc, q_skip, q_brk, q_cont, q_asg, q_asg1, q_asg2, q_at_nm, q_at_tp, q_at_nil, q_at_cons, q_at1, q_box, q_box1, q_box2, q_bxl, q_bxd, q_bxf, q_par, q_par1, q_par2, q_bs0, q_bs, q_bs1, q_seti, q_st1, q_st2, q_st3, q_st4, q_putD, q_putL, q_putL1, q_putK, q_putKs, q_putK1, q_expr, q_ex1, q_ret, q_ret1, q_if, q_if1, q_if2, q_rd_non, q_rd_bl, q_rd_int, q_rd_str, q_rd_tup, q_rd_lst, q_rd_dct, q_rd_ref, q_rdOl, q_rdOd, q_seqOf, q_seqCt, q_seqCl, q_lstOf, q_lstCl, q_dctOf, q_dctCd, q_dctCt, q_dctCl, q_dctCs, q_truD, q_truCb, q_truCi, q_truCn, q_truCt, q_truCl, q_truCd, q_isiD, q_isiCn, q_isiCb, q_isiCi, q_isiCs, q_isiCt, q_isiCl, q_binD, b_add, b_sub, b_mul, b_div, b_mod, b_shl, b_pow, b_shr, b_and, b_or, b_xor, b_adds, b_addt, b_addl, b_mult, b_mull, q_nb, q_eq, q_ne, q_in, q_nin, q_lt, q_le, q_gt, q_ge, q_isb, q_isn, q_isi', q_ist, q_isl, q_iss, q_isbn, q_isr, q_isd, q_inb, q_inn, q_ini, q_int, q_inl, q_ins, q_inr, q_ind, q_eqii, q_eqss, q_eqbb, q_eqsi, q_eqtt, q_eqll, q_eqtn, q_eqnt, q_eqnn, q_ixD, q_ixC, q_ixK, q_ixKs, q_seqCd, q_lent, q_lenl, q_lend, q_lenr, q_lenCl, q_lenCd, q_abs, q_bint, q_bintb, q_bmin, q_bmax, q_btuple, q_bt1, q_blistt, q_blistl, q_blists, q_blistr, q_bll1, q_sset, q_sset1, q_lrange, q_trange, q_app, q_app1, flatD, eqv_str, eqv_int, eqv_bl, eqv_non, eqv_si, eqv_is, eqv_tup, eqv_lst, eqv_tn, eqv_nt, eqvs_nil, eqvs_cons, eqvs_nc, eqvs_cn, okN_non, okN_bl, okN_int, okN_str, okN_t64, okN_l64, okN_t63, okN_l63, okN_t62, okN_l62, okNs_nil, okNs_cons, eqS, setAll, inD, keyOf, r6, w1, w1', w2, w2', w3, w3', cM_get, cM_set, hl, Ord.enc]
  have w3' : ¬ (way : Int) < 8 := by omega
  by_cases w4 : way = 8
  · refine ⟨.copy r s, c5, ⟨hr', hs'⟩, ?_⟩
    subst w4
    rw [hfin]
    generalize P.map Ord.enc = Q at hl
    simp -implicitDefEqProofs [q_pr, q_bl, q_var, q_cst, q_bin, q_bin1, q_bin2, q_cmp, q_cmp1, q_cmp2, q_ch, q_ch1, q_ch2, q_ch3, q_neg, q_neg1, q_not, q_not1, q_not2, q_and, q_and1, q_and2, q_or, q_or1, q_or2, q_ite, q_ite1, q_ite2, q_tup, q_tup1, q_lst, q_lst1, q_dsp, q_dsp1, q_dsp2, q_idx, q_ix1, q_ix2, q_slice, q_sl1, q_sl2, q_sl3, q_slP00, q_slP10, q_slP01, q_slP11, q_slCt, q_slCl, q_rev, q_rev1, q_revD, q_revCl, q_revCt, q_call, q_call1, q_blt, q_blt1, q_isi, q_isi1, q_mth, q_m1, q_m2, q_m3, q_nil, q_cons, q_c1, q_c2, q_sSeq, q_sSeq1, q_sEnum, q_sEnum1, q_sR, q_sR1, q_sR2, q_sZ, q_sZ1, q_sZ2, q_seq, q_seqn, q_seqr, q_seqb, q_seqc, q_skip, q_brk, q_cont, q_asg, q_asg1, q_asg2, q_at_nm, q_at_tp, q_at_nil, q_at_cons, q_at1, q_box, q_box1, q_box2, q_bxl, q_bxd, q_bxf, q_par, q_par1, q_par2, q_bs0, q_bs, q_bs1, q_seti, q_st1, q_st2, q_st3, q_st4, q_putD, q_putL, q_putL1, q_putK, q_putKs, q_putK1, q_expr, q_ex1, q_ret, q_ret1, q_if, q_if1, q_if2, q_rd_non, q_rd_bl, q_rd_int, q_rd_str, q_rd_tup, q_rd_lst, q_rd_dct, q_rd_ref, q_rdOl, q_rdOd, q_seqOf, q_seqCt, q_seqCl, q_lstOf, q_lstCl, q_dctOf, q_dctCd, q_dctCt, q_dctCl, q_dctCs, q_truD, q_truCb, q_truCi, q_truCn, q_truCt, q_truCl, q_truCd, q_isiD, q_isiCn, q_isiCb, q_isiCi, q_isiCs, q_isiCt, q_isiCl, q_binD, b_add, b_sub, b_mul, b_div, b_mod, b_shl, b_pow, b_shr, b_and, b_or, b_xor, b_adds, b_addt, b_addl, b_mult, b_mull, q_nb, q_eq, q_ne, q_in, q_nin, q_lt, q_le, q_gt, q_ge, q_isb, q_isn, q_isi', q_ist, q_isl, q_iss, q_isbn, q_isr, q_isd, q_inb, q_inn, q_ini, q_int, q_inl, q_ins, q_inr, q_ind, q_eqii, q_eqss, q_eqbb, q_eqsi, q_eqtt, q_eqll, q_eqtn, q_eqnt, q_eqnn, q_ixD, q_ixC, q_ixK, q_ixKs, q_seqCd, q_lent, q_lenl, q_lend, q_lenr, q_lenCl, q_lenCd, q_abs, q_bint, q_bintb, q_bmin, q_bmax, q_btuple, q_bt1, q_blistt, q_blistl, q_blists, q_blistr, q_bll1, q_sset, q_sset1, q_lrange, q_trange, q_app, q_app1, flatD, eqv_str, eqv_int, eqv_bl, eqv_non, eqv_si, eqv_is, eqv_tup, eqv_lst, eqv_tn, eqv_nt, eqvs_nil, eqvs_cons, eqvs_nc, eqvs_cn, okN_non, okN_bl, okN_int, okN_str, okN_t64, okN_l64, okN_t63, okN_l63, okN_t62, okN_l62, okNs_nil, okNs_cons, eqS, setAll, inD, keyOf, cM_get, cM_set, hl, Ord.enc]
  have w4' : ¬ (way : Int) = 8 := by omega
  by_cases w5 : way = 9
  · obtain ⟨x, hx, c6, r6⟩ := some_of (k := k) (xs := [.tup [.str [108, 111, 97, 100], nD r, nD s], .tup [.str [115, 116, 111, 114, 101], nD r, nD s]]) c5 (hM2 c5) rfl (by simp) (by simp)
    have hx' : ∃ o : Ord, o.ok many ∧ x = o.enc := by
      rcases List.mem_cons.mp hx with h | h
      · exact ⟨.load r s, ⟨hr', hs'⟩, h⟩
      rcases List.mem_cons.mp h with h | h
      · exact ⟨.store r s, ⟨hr', hs'⟩, h⟩
      cases h
    obtain ⟨o, ho, rfl⟩ := hx'
    refine ⟨o, c6, ho, ?_⟩
    subst w5
    rw [hfin]
    generalize P.map Ord.enc = Q at r6 hl
    generalize o.enc = oD at r6
    simp -implicitDefEqProofs [q_pr, q_bl, q_var, q_cst, q_bin, q_bin1, q_bin2, q_cmp, q_cmp1, q_cmp2, q_ch, q_ch1, q_ch2, q_ch3, q_neg, q_neg1, q_not, q_not1, q_not2, q_and, q_and1, q_and2, q_or, q_or1, q_or2, q_ite, q_ite1, q_ite2, q_tup, q_tup1, q_lst, q_lst1, q_dsp, q_dsp1, q_dsp2, q_idx, q_ix1, q_ix2, q_slice, q_sl1, q_sl2, q_sl3, q_slP00, q_slP10, q_slP01, q_slP11, q_slCt, q_slCl, q_rev, q_rev1, q_revD, q_revCl, q_revCt, q_call, q_call1, q_blt, q_blt1, q_isi, q_isi1, q_mth, q_m1, q_m2, q_m3, q_nil, q_cons, q_c1, q_c2, q_sSeq, q_sSeq1, q_sEnum, q_sEnum1, q_sR, q_sR1, q_sR2, q_sZ, q_sZ1, q_sZ2, q_seq, q_seqn, q_seqr, q_seqb, q_seqc, q_skip, q_brk, q_cont, q_asg, q_asg1, q_asg2, q_at_nm, q_at_tp, q_at_nil, q_at_cons, q_at1, q_box, q_box1, q_box2, q_bxl, q_bxd, q_bxf, q_par, q_par1, q_par2, q_bs0, q_bs, q_bs1, q_seti, q_st1, q_st2, q_st3, q_st4, q_putD, q_putL, q_putL1, q_putK, q_putKs, q_putK1, q_expr, q_ex1, q_ret, q_ret1, q_if, q_if1, q_if2, q_rd_non, q_rd_bl, q_rd_int, q_rd_str, q_rd_tup, q_rd_lst, q_rd_dct, q_rd_ref, q_rdOl, q_rdOd, q_seqOf, q_seqCt, q_seqCl, q_lstOf, q_lstCl, q_dctOf, q_dctCd, q_dctCt, q_dctCl, q_dctCs, q_truD, q_truCb, q_truCi, q_truCn, q_truCt, q_truCl, q_truCd, q_isiD, q_isiCn, q_isiCb, q_isiCi, q_isiCs, q_isiCt, q_isiCl, q_binD, b_add, b_sub, b_mul, b_div, b_mod, b_shl, b_pow, b_shr, b_and, b_or, b_xor, b_adds, b_addt, b_addl, b_mult, b_mull, q_nb, q_eq, q_ne, q_in, q_nin, q_lt, q_le, q_gt, q_ge, q_isb, q_isn, q_isi', q_ist, q_isl, q_iss, q_isbn, q_isr, q_isd, q_inb, q_inn, q_ini, q_int, q_inl, q_ins, q_inr, q_ind, q_eqii, q_eqss, q_eqbb, q_eqsi, q_eqtt, q_eqll, q_eqtn, q_eqnt, q_eqnn, q_ixD, q_ixC, q_ixK, q_ixKs, q_seqCd, q_lent, q_lenl, q_lend, q_lenr, q_lenCl, q_lenCd, q_abs, q_bint, q_bintb, q_bmin, q_bmax, q_btuple, q_bt1, q_blistt, q_blistl, q_blists, q_blistr, q_bll1, q_sset, q_sset1, q_lrange, q_trange, q_app, q_app1, flatD, eqv_str, eqv_int, eqv_bl, eqv_non, eqv_si, eqv_is, eqv_tup, eqv_lst, eqv_tn, eqv_nt, eqvs_nil, eqvs_cons, eqvs_nc, eqvs_cn, okN_non, okN_bl, okN_int, okN_str, okN_t64, okN_l64, okN_t63, okN_l63, okN_t62, okN_l62, okNs_nil, okNs_cons, eqS, setAll, inD, keyOf, r6, cM_get, cM_set, hl]
  have w5' : ¬ (way : Int) = 9 := by omega
  · obtain ⟨n, c6, hn, r6⟩ := roll_n (k := k + 1) (many := 3) c5 (hM2 c5) (by decide) (by decide)
    obtain ⟨x, hx, c7, r7⟩ := some_of (k := k) (xs := [.tup [.str [103, 111], nD far], .tup [.str [102, 97, 117, 108, 116], nD n], .tup [.str [112, 117, 116], nD r, .int 1], .tup [.str [100, 111], .str [115, 117, 98], nD r, nD s]]) c6 (hM2 c6) rfl (by simp) (by simp)
    have hx' : ∃ o : Ord, o.ok many ∧ x = o.enc := by
      rcases List.mem_cons.mp hx with h | h
      · exact ⟨.go far, hfar, h⟩
      rcases List.mem_cons.mp h with h | h
      · exact ⟨.fault n, (show n < 10 by omega), h⟩
      rcases List.mem_cons.mp h with h | h
      · exact ⟨.put r 1, ⟨hr', by decide⟩, h⟩
      rcases List.mem_cons.mp h with h | h
      · exact ⟨.op 1 r s, ⟨by decide, hr', hs'⟩, h⟩
      cases h
    obtain ⟨o, ho, rfl⟩ := hx'
    refine ⟨o, c7, ho, ?_⟩
    rw [hfin]
    generalize P.map Ord.enc = Q at r6 r7 hl
    generalize o.enc = oD at r7
    simp -implicitDefEqProofs [q_pr, q_bl, q_var, q_cst, q_bin, q_bin1, q_bin2, q_cmp, q_cmp1, q_cmp2, q_ch, q_ch1, q_ch2, q_ch3, q_neg, q_neg1, q_not, q_not1, q_not2, q_and, q_and1, q_and2, q_or, q_or1, q_or2, q_ite, q_ite1, q_ite2, q_tup, q_tup1, q_lst, q_lst1, q_dsp, q_dsp1, q_dsp2, q_idx, q_ix1, q_ix2, q_slice, q_sl1, q_sl2, q_sl3, q_slP00, q_slP10, q_slP01, q_slP11, q_slCt, q_slCl, q_rev, q_rev1, q_revD, q_revCl, q_revCt, q_call, q_call1, q_blt, q_blt1, q_isi, q_isi1, q_mth, q_m1, q_m2, q_m3, q_nil, q_cons, q_c1, q_c2, q_sSeq, q_sSeq1, q_sEnum, q_sEnum1, q_sR, q_sR1, q_sR2, q_sZ, q_sZ1, q_sZ2, q_seq, q_seqn, q_seqr, q_seqb, q_seqc, q_skip, q_brk, q_cont, q_asg, q_asg1, q_asg2, q_at_nm, q_at_tp, q_at_nil, q_at_cons, q_at1, q_box, q_box1, q_box2, q_bxl, q_bxd, q_bxf, q_par, q_par1, q_par2, q_bs0, q_bs, q_bs1, q_seti, q_st1, q_st2, q_st3, q_st4, q_putD, q_putL, q_putL1, q_putK, q_putKs, q_putK1, q_expr, q_ex1, q_ret, q_ret1, q_if, q_if1, q_if2, q_rd_non, q_rd_bl, q_rd_int, q_rd_str, q_rd_tup, q_rd_lst, q_rd_dct, q_rd_ref, q_rdOl, q_rdOd, q_seqOf, q_seqCt, q_seqCl, q_lstOf, q_lstCl, q_dctOf, q_dctCd, q_dctCt, q_dctCl, q_dctCs, q_truD, q_truCb, q_truCi, q_truCn, q_truCt, q_truCl, q_truCd, q_isiD, q_isiCn, q_isiCb, q_isiCi, q_isiCs, q_isiCt, q_isiCl, q_binD, b_add, b_sub, b_mul, b_div, b_mod, b_shl, b_pow, b_shr, b_and, b_or, b_xor, b_adds, b_addt, b_addl, b_mult, b_mull, q_nb, q_eq, q_ne, q_in, q_nin, q_lt, q_le, q_gt, q_ge, q_isb, q_isn, q_isi', q_ist, q_isl, q_iss, q_isbn, q_isr, q_isd, q_inb, q_inn, q_ini, q_int, q_inl, q_ins, q_inr, q_ind, q_eqii, q_eqss, q_eqbb, q_eqsi, q_eqtt, q_eqll, q_eqtn, q_eqnt, q_eqnn, q_ixD, q_ixC, q_ixK, q_ixKs, q_seqCd, q_lent, q_lenl, q_lend, q_lenr, q_lenCl, q_lenCd, q_abs, q_bint, q_bintb, q_bmin, q_bmax, q_btuple, q_bt1, q_blistt, q_blistl, q_blists, q_blistr, q_bll1, q_sset, q_sset1, q_lrange, q_trange, q_app, q_app1, flatD, eqv_str, eqv_int, eqv_bl, eqv_non, eqv_si, eqv_is, eqv_tup, eqv_lst, eqv_tn, eqv_nt, eqvs_nil, eqvs_cons, eqvs_nc, eqvs_cn, okN_non, okN_bl, okN_int, okN_str, okN_t64, okN_l64, okN_t63, okN_l63, okN_t62, okN_l62, okNs_nil, okNs_cons, eqS, setAll, inD, keyOf, r6, r7, w1, w1', w2, w2', w3, w3', w4, w4', w5, w5', cM_get, cM_set, hl]
theorem law_program {size : Nat} (c : Cup) (hM : OkM (cM c rest)) (h1 : 1 ≤ size) (h2 : size ≤ 60) : ∃ (P : List Ord) (c' : Cup), POk P ∧ callD fs (k + 3) 44 [.ref 0, nD size] (cM c rest) = some (pD P, cM c' rest) := by
  obtain ⟨m0, c1, hm0, r1⟩ := roll_n (k := k + 1) (many := (size : Nat)) c hM (by omega) (by omega)
  obtain ⟨many, hmany⟩ : ∃ many, many = 1 + m0 := ⟨_, rfl⟩
  have hm : many ≤ 60 := by omega
  have hA : exec (callD fs (k + 2)) (.parN [2, 3] [false, true] (.cons (.bin .Add (.cst (.int 1)) (.call 40 (.cons (.var 0) (.cons (.var 1) .nil)))) (.cons (.lst .nil) .nil))) [some (.ref 0), some (nD size), none, none, none, none, none, none, none] (cM c rest) = some (.nx [some (.ref 0), some (nD size), some (nD many), some (.ref (rest.length + 1)), none, none, none, none, none] (cM c1 (rest ++ [.lst []]))) := by
    subst hmany
    simp -implicitDefEqProofs [q_pr, q_bl, q_var, q_cst, q_bin, q_bin1, q_bin2, q_cmp, q_cmp1, q_cmp2, q_ch, q_ch1, q_ch2, q_ch3, q_neg, q_neg1, q_not, q_not1, q_not2, q_and, q_and1, q_and2, q_or, q_or1, q_or2, q_ite, q_ite1, q_ite2, q_tup, q_tup1, q_lst, q_lst1, q_dsp, q_dsp1, q_dsp2, q_idx, q_ix1, q_ix2, q_slice, q_sl1, q_sl2, q_sl3, q_slP00, q_slP10, q_slP01, q_slP11, q_slCt, q_slCl, q_rev, q_rev1, q_revD, q_revCl, q_revCt, q_call, q_call1, q_blt, q_blt1, q_isi, q_isi1, q_mth, q_m1, q_m2, q_m3, q_nil, q_cons, q_c1, q_c2, q_sSeq, q_sSeq1, q_sEnum, q_sEnum1, q_sR, q_sR1, q_sR2, q_sZ, q_sZ1, q_sZ2, q_seq, q_seqn, q_seqr, q_seqb, q_seqc, q_skip, q_brk, q_cont, q_asg, q_asg1, q_asg2, q_at_nm, q_at_tp, q_at_nil, q_at_cons, q_at1, q_box, q_box1, q_box2, q_bxl, q_bxd, q_bxf, q_par, q_par1, q_par2, q_bs0, q_bs, q_bs1, q_seti, q_st1, q_st2, q_st3, q_st4, q_putD, q_putL, q_putL1, q_putK, q_putKs, q_putK1, q_expr, q_ex1, q_ret, q_ret1, q_if, q_if1, q_if2, q_rd_non, q_rd_bl, q_rd_int, q_rd_str, q_rd_tup, q_rd_lst, q_rd_dct, q_rd_ref, q_rdOl, q_rdOd, q_seqOf, q_seqCt, q_seqCl, q_lstOf, q_lstCl, q_dctOf, q_dctCd, q_dctCt, q_dctCl, q_dctCs, q_truD, q_truCb, q_truCi, q_truCn, q_truCt, q_truCl, q_truCd, q_isiD, q_isiCn, q_isiCb, q_isiCi, q_isiCs, q_isiCt, q_isiCl, q_binD, b_add, b_sub, b_mul, b_div, b_mod, b_shl, b_pow, b_shr, b_and, b_or, b_xor, b_adds, b_addt, b_addl, b_mult, b_mull, q_nb, q_eq, q_ne, q_in, q_nin, q_lt, q_le, q_gt, q_ge, q_isb, q_isn, q_isi', q_ist, q_isl, q_iss, q_isbn, q_isr, q_isd, q_inb, q_inn, q_ini, q_int, q_inl, q_ins, q_inr, q_ind, q_eqii, q_eqss, q_eqbb, q_eqsi, q_eqtt, q_eqll, q_eqtn, q_eqnt, q_eqnn, q_ixD, q_ixC, q_ixK, q_ixKs, q_seqCd, q_lent, q_lenl, q_lend, q_lenr, q_lenCl, q_lenCd, q_abs, q_bint, q_bintb, q_bmin, q_bmax, q_btuple, q_bt1, q_blistt, q_blistl, q_blists, q_blistr, q_bll1, q_sset, q_sset1, q_lrange, q_trange, q_app, q_app1, flatD, eqv_str, eqv_int, eqv_bl, eqv_non, eqv_si, eqv_is, eqv_tup, eqv_lst, eqv_tn, eqv_nt, eqvs_nil, eqvs_cons, eqvs_nc, eqvs_cn, okN_non, okN_bl, okN_int, okN_str, okN_t64, okN_l64, okN_t63, okN_l63, okN_t62, okN_l62, okNs_nil, okNs_cons, eqS, setAll, inD, keyOf, r1, cM_len, cM_app]
  have e0 : ((many : Int) - 1 - 0).toNat = many - 1 := by omega
  have hw : ∀ M', Walk (.rng 0 ((many : Int) - 1)) M' ((List.range (many - 1)).map fun k => .int (0 + (k : Nat))) := fun M' => by
    have := walk_rng (M := M') (lo := 0) (hi := (many : Int) - 1) (by omega) (by omega) (by omega) (by omega)
    rwa [e0] at this
  have hlen : ((List.range (many - 1)).map fun k => D.int (0 + (k : Nat))).length = many - 1 := by simp
  obtain ⟨σ', M', hf, c2, P, z4, z5, z6, z7, z8, hPl, hPo, rfl, rfl⟩ := for_ok (s := .rng 0 ((many : Int) - 1)) (t := .nm 4) (b := exec (callD fs (k + 2)) (.seq (.parN [5, 6, 7] [false, false, false] (.cons (.call 40 (.cons (.var 0) (.cons (.cst (.int 12)) .nil))) (.cons (.call 40 (.cons (.var 0) (.cons (.cst (.int 3)) .nil))) (.cons (.call 40 (.cons (.var 0) (.cons (.cst (.int 3)) .nil))) .nil)))) (.seq (.asg (.nm 8) (.ite (.cmp .Eq (.call 40 (.cons (.var 0) (.cons (.cst (.int 4)) .nil))) (.cst (.int 0))) (.call 40 (.cons (.var 0) (.cons (.var 2) .nil))) (.bin .Add (.bin .Add (.var 4) (.cst (.int 1))) (.call 40 (.cons (.var 0) (.cons (.bin .Sub (.bin .Sub (.var 2) (.var 4)) (.cst (.int 1))) .nil)))))) (.seq (.iff (.cmp .Lt (.var 5) (.cst (.int 2))) (.seq (.expr (.mth .append (.var 3) (.cons (.tup (.cons (.cst (.str [112, 117, 116])) (.cons (.var 6) (.cons (.call 40 (.cons (.var 0) (.cons (.cst (.int 6)) .nil))) .nil)))) .nil))) .skip) (.seq (.iff (.cmp .Lt (.var 5) (.cst (.int 5))) (.seq (.expr (.mth .append (.var 3) (.cons (.tup (.cons (.cst (.str [100, 111])) (.cons (.call 41 (.cons (.var 0) (.cons (.lst (.cons (.cst (.str [97, 100, 100])) (.cons (.cst (.str [115, 117, 98])) (.cons (.cst (.str [109, 117, 108])) (.cons (.cst (.str [97, 110, 100])) (.cons (.cst (.str [111, 114])) (.cons (.cst (.str [120, 111, 114])) (.cons (.cst (.str [108, 101, 102, 116])) (.cons (.cst (.str [114, 105, 103, 104, 116])) (.cons (.cst (.str [97, 100, 100])) (.cons (.cst (.str [115, 117, 98])) .nil))))))))))) .nil))) (.cons (.var 6) (.cons (.var 7) .nil))))) .nil))) .skip) (.seq (.iff (.cmp .Lt (.var 5) (.cst (.int 8))) (.seq (.expr (.mth .append (.var 3) (.cons (.tup (.cons (.cst (.str [105, 102])) (.cons (.call 41 (.cons (.var 0) (.cons (.lst (.cons (.cst (.str [115, 97, 109, 101])) (.cons (.cst (.str [108, 101, 115, 115])) .nil))) .nil))) (.cons (.var 6) (.cons (.var 7) (.cons (.var 8) .nil)))))) .nil))) .skip) (.seq (.iff (.cmp .Eq (.var 5) (.cst (.int 8))) (.seq (.expr (.mth .append (.var 3) (.cons (.tup (.cons (.cst (.str [99, 111, 112, 121])) (.cons (.var 6) (.cons (.var 7) .nil)))) .nil))) .skip) (.seq (.iff (.cmp .Eq (.var 5) (.cst (.int 9))) (.seq (.expr (.mth .append (.var 3) (.cons (.call 41 (.cons (.var 0) (.cons (.lst (.cons (.tup (.cons (.cst (.str [108, 111, 97, 100])) (.cons (.var 6) (.cons (.var 7) .nil)))) (.cons (.tup (.cons (.cst (.str [115, 116, 111, 114, 101])) (.cons (.var 6) (.cons (.var 7) .nil)))) .nil))) .nil))) .nil))) .skip) (.seq (.expr (.mth .append (.var 3) (.cons (.call 41 (.cons (.var 0) (.cons (.lst (.cons (.tup (.cons (.cst (.str [103, 111])) (.cons (.var 8) .nil))) (.cons (.tup (.cons (.cst (.str [102, 97, 117, 108, 116])) (.cons (.call 40 (.cons (.var 0) (.cons (.cst (.int 3)) .nil))) .nil))) (.cons (.tup (.cons (.cst (.str [112, 117, 116])) (.cons (.var 6) (.cons (.cst (.int 1)) .nil)))) (.cons (.tup (.cons (.cst (.str [100, 111])) (.cons (.cst (.str [115, 117, 98])) (.cons (.var 6) (.cons (.var 7) .nil))))) .nil))))) .nil))) .nil))) .skip)) .skip)) .skip)) .skip)) .skip)) .skip)))) ((List.range (many - 1)).map fun k => .int (0 + (k : Nat)))
    (fun j σ M' => ∃ (c2 : Cup) (P : List Ord) (z4 z5 z6 z7 z8 : Option D), P.length = j ∧ (∀ o ∈ P, o.ok many) ∧ σ = [some (.ref 0), some (nD size), some (nD many), some (.ref (rest.length + 1)), z4, z5, z6, z7, z8] ∧ M' = cM c2 (rest ++ [.lst (P.map Ord.enc)])) (fun _ _ M' _ => hw M') (by
    rintro j σ M' x hx ⟨c2, P, z4, z5, z6, z7, z8, hPl, hPo, rfl, rfl⟩
    have hj : j < many - 1 := by
      have := (List.getElem?_eq_some_iff.mp hx).1
      rwa [hlen] at this
    have hx2 : x = nD j := by
      rw [List.getElem?_map, List.getElem?_range hj] at hx
      cases hx
      simp
    subst hx2
    refine ⟨_, rfl, ?_⟩
    obtain ⟨o, c3, z5', z6', z7', z8', ho, h⟩ := prog_turn (k := k) (P := P) (many := many) (turn := j) (z1 := some (nD size)) (z5 := z5) (z6 := z6) (z7 := z7) (z8 := z8) c2 (cM_ok hM) (by omega) (by omega) (by omega)
    exact ⟨_, _, .inl h, c3, P ++ [o], _, z5', z6', z7', z8', by simp [hPl], fun p hp => by
      rcases List.mem_append.mp hp with e | e
      · exact hPo p e
      · rw [List.mem_singleton] at e
        rw [e]; exact ho, rfl, rfl⟩) (many - 1) 0 [some (.ref 0), some (nD size), some (nD many), some (.ref (rest.length + 1)), none, none, none, none, none] (cM c1 (rest ++ [.lst []])) (by rw [hlen]; rfl) ⟨c1, [], none, none, none, none, none, rfl, (fun _ h => by cases h), rfl, rfl⟩
  rw [hlen] at hPl
  have hfor : exec (callD fs (k + 2)) (.forr (.nm 4) (.sRange (.cst (.int 0)) (.bin .Sub (.var 2) (.cst (.int 1)))) (.seq (.parN [5, 6, 7] [false, false, false] (.cons (.call 40 (.cons (.var 0) (.cons (.cst (.int 12)) .nil))) (.cons (.call 40 (.cons (.var 0) (.cons (.cst (.int 3)) .nil))) (.cons (.call 40 (.cons (.var 0) (.cons (.cst (.int 3)) .nil))) .nil)))) (.seq (.asg (.nm 8) (.ite (.cmp .Eq (.call 40 (.cons (.var 0) (.cons (.cst (.int 4)) .nil))) (.cst (.int 0))) (.call 40 (.cons (.var 0) (.cons (.var 2) .nil))) (.bin .Add (.bin .Add (.var 4) (.cst (.int 1))) (.call 40 (.cons (.var 0) (.cons (.bin .Sub (.bin .Sub (.var 2) (.var 4)) (.cst (.int 1))) .nil)))))) (.seq (.iff (.cmp .Lt (.var 5) (.cst (.int 2))) (.seq (.expr (.mth .append (.var 3) (.cons (.tup (.cons (.cst (.str [112, 117, 116])) (.cons (.var 6) (.cons (.call 40 (.cons (.var 0) (.cons (.cst (.int 6)) .nil))) .nil)))) .nil))) .skip) (.seq (.iff (.cmp .Lt (.var 5) (.cst (.int 5))) (.seq (.expr (.mth .append (.var 3) (.cons (.tup (.cons (.cst (.str [100, 111])) (.cons (.call 41 (.cons (.var 0) (.cons (.lst (.cons (.cst (.str [97, 100, 100])) (.cons (.cst (.str [115, 117, 98])) (.cons (.cst (.str [109, 117, 108])) (.cons (.cst (.str [97, 110, 100])) (.cons (.cst (.str [111, 114])) (.cons (.cst (.str [120, 111, 114])) (.cons (.cst (.str [108, 101, 102, 116])) (.cons (.cst (.str [114, 105, 103, 104, 116])) (.cons (.cst (.str [97, 100, 100])) (.cons (.cst (.str [115, 117, 98])) .nil))))))))))) .nil))) (.cons (.var 6) (.cons (.var 7) .nil))))) .nil))) .skip) (.seq (.iff (.cmp .Lt (.var 5) (.cst (.int 8))) (.seq (.expr (.mth .append (.var 3) (.cons (.tup (.cons (.cst (.str [105, 102])) (.cons (.call 41 (.cons (.var 0) (.cons (.lst (.cons (.cst (.str [115, 97, 109, 101])) (.cons (.cst (.str [108, 101, 115, 115])) .nil))) .nil))) (.cons (.var 6) (.cons (.var 7) (.cons (.var 8) .nil)))))) .nil))) .skip) (.seq (.iff (.cmp .Eq (.var 5) (.cst (.int 8))) (.seq (.expr (.mth .append (.var 3) (.cons (.tup (.cons (.cst (.str [99, 111, 112, 121])) (.cons (.var 6) (.cons (.var 7) .nil)))) .nil))) .skip) (.seq (.iff (.cmp .Eq (.var 5) (.cst (.int 9))) (.seq (.expr (.mth .append (.var 3) (.cons (.call 41 (.cons (.var 0) (.cons (.lst (.cons (.tup (.cons (.cst (.str [108, 111, 97, 100])) (.cons (.var 6) (.cons (.var 7) .nil)))) (.cons (.tup (.cons (.cst (.str [115, 116, 111, 114, 101])) (.cons (.var 6) (.cons (.var 7) .nil)))) .nil))) .nil))) .nil))) .skip) (.seq (.expr (.mth .append (.var 3) (.cons (.call 41 (.cons (.var 0) (.cons (.lst (.cons (.tup (.cons (.cst (.str [103, 111])) (.cons (.var 8) .nil))) (.cons (.tup (.cons (.cst (.str [102, 97, 117, 108, 116])) (.cons (.call 40 (.cons (.var 0) (.cons (.cst (.int 3)) .nil))) .nil))) (.cons (.tup (.cons (.cst (.str [112, 117, 116])) (.cons (.var 6) (.cons (.cst (.int 1)) .nil)))) (.cons (.tup (.cons (.cst (.str [100, 111])) (.cons (.cst (.str [115, 117, 98])) (.cons (.var 6) (.cons (.var 7) .nil))))) .nil))))) .nil))) .nil))) .skip)) .skip)) .skip)) .skip)) .skip)) .skip)))) [some (.ref 0), some (nD size), some (nD many), some (.ref (rest.length + 1)), none, none, none, none, none] (cM c1 (rest ++ [.lst []])) = _ := exec_for (s := .rng 0 ((many : Int) - 1)) rfl (hw _) (by rw [hlen]; exact hf)
  obtain ⟨x, hx, c3, r3⟩ := some_of (k := k) (xs := [.tup [.str [101, 110, 100]], .tup [.str [101, 110, 100]], .tup [.str [102, 97, 117, 108, 116], .int 1]]) c2 (cM_grow1 (c' := c2) hM (encs_pure P)) rfl (by decide) (by decide)
  have hx' : ∃ o : Ord, o.ok many ∧ o.last = true ∧ x = o.enc := by
    rcases List.mem_cons.mp hx with h | h
    · exact ⟨.fin, trivial, rfl, h⟩
    rcases List.mem_cons.mp h with h | h
    · exact ⟨.fin, trivial, rfl, h⟩
    rcases List.mem_cons.mp h with h | h
    · exact ⟨.fault 1, (show 1 < 10 by omega), rfl, h⟩
    cases h
  obtain ⟨o, ho, hol, rfl⟩ := hx'
  have hPk : POk (P ++ [o]) := by
    have hl : (P ++ [o]).length = many := by simp [hPl]; omega
    refine ⟨by omega, by omega, ?_, ⟨o, ?_, hol⟩⟩
    · rw [hl]
      intro p hp
      rcases List.mem_append.mp hp with e | e
      · exact hPo p e
      · rw [List.mem_singleton] at e
        rw [e]; exact ho
    · simp
  refine ⟨P ++ [o], c3, hPk, ?_⟩
  refine call_rt (f := f44) (d := pD (P ++ [o])) (M' := cM c3 rest ++ [.lst (P.map Ord.enc)]) rfl rfl ?_ (fin_cMg hM (encs_pure _))
  show exec (callD fs (k + 2)) b44 [some (.ref 0), some (nD size), none, none, none, none, none, none, none] (cM c rest) = _
  unfold b44
  rw [q_seq, hA, q_seqn]
  rw [q_seq, hfor, q_seqn]
  have hl1 : (P.map Ord.enc).length + 1 ≤ line := by rw [List.length_map]; unfold line; omega
  have hfin : (P ++ [o]).map Ord.enc = P.map Ord.enc ++ [o.enc] := by simp
  rw [pD, hfin, cM_app]
  generalize P.map Ord.enc = Q at r3 hl1
  generalize o.enc = oD at r3
  simp -implicitDefEqProofs [q_pr, q_bl, q_var, q_cst, q_bin, q_bin1, q_bin2, q_cmp, q_cmp1, q_cmp2, q_ch, q_ch1, q_ch2, q_ch3, q_neg, q_neg1, q_not, q_not1, q_not2, q_and, q_and1, q_and2, q_or, q_or1, q_or2, q_ite, q_ite1, q_ite2, q_tup, q_tup1, q_lst, q_lst1, q_dsp, q_dsp1, q_dsp2, q_idx, q_ix1, q_ix2, q_slice, q_sl1, q_sl2, q_sl3, q_slP00, q_slP10, q_slP01, q_slP11, q_slCt, q_slCl, q_rev, q_rev1, q_revD, q_revCl, q_revCt, q_call, q_call1, q_blt, q_blt1, q_isi, q_isi1, q_mth, q_m1, q_m2, q_m3, q_nil, q_cons, q_c1, q_c2, q_sSeq, q_sSeq1, q_sEnum, q_sEnum1, q_sR, q_sR1, q_sR2, q_sZ, q_sZ1, q_sZ2, q_seq, q_seqn, q_seqr, q_seqb, q_seqc, q_skip, q_brk, q_cont, q_asg, q_asg1, q_asg2, q_at_nm, q_at_tp, q_at_nil, q_at_cons, q_at1, q_box, q_box1, q_box2, q_bxl, q_bxd, q_bxf, q_par, q_par1, q_par2, q_bs0, q_bs, q_bs1, q_seti, q_st1, q_st2, q_st3, q_st4, q_putD, q_putL, q_putL1, q_putK, q_putKs, q_putK1, q_expr, q_ex1, q_ret, q_ret1, q_if, q_if1, q_if2, q_rd_non, q_rd_bl, q_rd_int, q_rd_str, q_rd_tup, q_rd_lst, q_rd_dct, q_rd_ref, q_rdOl, q_rdOd, q_seqOf, q_seqCt, q_seqCl, q_lstOf, q_lstCl, q_dctOf, q_dctCd, q_dctCt, q_dctCl, q_dctCs, q_truD, q_truCb, q_truCi, q_truCn, q_truCt, q_truCl, q_truCd, q_isiD, q_isiCn, q_isiCb, q_isiCi, q_isiCs, q_isiCt, q_isiCl, q_binD, b_add, b_sub, b_mul, b_div, b_mod, b_shl, b_pow, b_shr, b_and, b_or, b_xor, b_adds, b_addt, b_addl, b_mult, b_mull, q_nb, q_eq, q_ne, q_in, q_nin, q_lt, q_le, q_gt, q_ge, q_isb, q_isn, q_isi', q_ist, q_isl, q_iss, q_isbn, q_isr, q_isd, q_inb, q_inn, q_ini, q_int, q_inl, q_ins, q_inr, q_ind, q_eqii, q_eqss, q_eqbb, q_eqsi, q_eqtt, q_eqll, q_eqtn, q_eqnt, q_eqnn, q_ixD, q_ixC, q_ixK, q_ixKs, q_seqCd, q_lent, q_lenl, q_lend, q_lenr, q_lenCl, q_lenCd, q_abs, q_bint, q_bintb, q_bmin, q_bmax, q_btuple, q_bt1, q_blistt, q_blistl, q_blists, q_blistr, q_bll1, q_sset, q_sset1, q_lrange, q_trange, q_app, q_app1, flatD, eqv_str, eqv_int, eqv_bl, eqv_non, eqv_si, eqv_is, eqv_tup, eqv_lst, eqv_tn, eqv_nt, eqvs_nil, eqvs_cons, eqvs_nc, eqvs_cn, okN_non, okN_bl, okN_int, okN_str, okN_t64, okN_l64, okN_t63, okN_l63, okN_t62, okN_l62, okNs_nil, okNs_cons, eqS, setAll, inD, keyOf, r3, cM_get, hl1]
end K09
end Mi
namespace Mi
open PySem PySem.Spec PyProof.Rows L2

namespace K09
variable {k : Nat} {M : Mem} {w : Nat} {P : List Ord} {R C : List Int}
/-! places in order -/
theorem insI_perm (x : Int) : ∀ l : List Int, (insI x l).Perm (x :: l)
  | [] => .refl _
  | y :: l => by
    unfold insI
    split
    · exact .refl _
    · exact ((insI_perm x l).cons y).trans (.swap x y l)
theorem sortI_perm : ∀ l : List Int, (sortI l).Perm l
  | [] => .refl _
  | x :: l => (insI_perm x (sortI l)).trans ((sortI_perm l).cons x)
theorem insI_sorted {x : Int} : ∀ {l : List Int}, l.Pairwise (· ≤ ·) → (insI x l).Pairwise (· ≤ ·)
  | [], _ => by simp [insI]
  | y :: l, h => by
    unfold insI
    rw [List.pairwise_cons] at h
    split
    · rename_i c
      rw [List.pairwise_cons]
      refine ⟨fun z hz => ?_, by rw [List.pairwise_cons]; exact h⟩
      rcases List.mem_cons.mp hz with q | q
      · rw [q]; exact c
      · exact Int.le_trans c (h.1 z q)
    · rename_i c
      rw [List.pairwise_cons]
      refine ⟨fun z hz => ?_, insI_sorted h.2⟩
      have hz := (insI_perm x l).mem_iff.mp hz
      rcases List.mem_cons.mp hz with q | q
      · rw [q]; omega
      · exact h.1 z q
theorem sortI_sorted : ∀ l : List Int, (sortI l).Pairwise (· ≤ ·)
  | [] => .nil
  | x :: l => insI_sorted (sortI_sorted l)
theorem mem_keys_fold {q : Nat} : ∀ (ps a : List Nat), q ∈ ps.foldl (fun a p => if a.contains p then a else a ++ [p]) a ↔ q ∈ a ∨ q ∈ ps
  | [], a => by simp
  | p :: ps, a => by
    rw [List.foldl_cons, mem_keys_fold ps]
    by_cases c : a.contains p = true
    · rw [if_pos c]
      have c' : p ∈ a := by simpa using c
      constructor
      · rintro (h | h)
        · exact .inl h
        · exact .inr (List.mem_cons_of_mem _ h)
      · rintro (h | h)
        · exact .inl h
        · rcases List.mem_cons.mp h with e | e
          · rw [e]; exact .inl c'
          · exact .inr e
    · rw [if_neg c]
      simp [or_assoc]
theorem mem_keys {q : Nat} {ps : List Nat} : q ∈ keysOf ps ↔ q ∈ ps := by
  unfold keysOf
  rw [mem_keys_fold]
  simp
theorem keys_nodup (ps : List Nat) : (keysOf ps).Nodup := by
  have hb : ∃ n, ∀ p ∈ ps, p < n := by
    induction ps with
    | nil => exact ⟨0, fun _ h => by cases h⟩
    | cons p ps ih =>
      obtain ⟨n, h⟩ := ih
      refine ⟨max n (p + 1), fun q hq => ?_⟩
      rcases List.mem_cons.mp hq with e | e
      · omega
      · have := h q e
        omega
  obtain ⟨n, h⟩ := hb
  exact (keys_fold_ok ps [] h List.nodup_nil (fun _ z => by cases z)).1
theorem places_eq {ps qs : List Nat} (h : ∀ p, p ∈ ps ↔ p ∈ qs) (hq : qs.Pairwise (· < ·)) : placesD ps = .tup (qs.map nD) := by
  have hn : qs.Nodup := hq.imp (fun h => Nat.ne_of_lt h)
  have p1 : (keysOf ps).Perm qs := (List.perm_ext_iff_of_nodup (keys_nodup ps) hn).mpr fun a => by rw [mem_keys]; exact h a
  have p2 : (sortI ((keysOf ps).map fun q => ((q : Nat) : Int))).Perm (qs.map fun q => ((q : Nat) : Int)) := (sortI_perm _).trans (p1.map _)
  have s2 : (qs.map fun q => ((q : Nat) : Int)).Pairwise (· ≤ ·) := by
    rw [List.pairwise_map]
    exact hq.imp (fun h => by omega)
  have e : sortI ((keysOf ps).map fun q => ((q : Nat) : Int)) = qs.map fun q => ((q : Nat) : Int) := List.Perm.eq_of_pairwise (fun a b _ _ h1 h2 => Int.le_antisymm h1 h2) (sortI_sorted _) s2 p2
  unfold placesD
  rw [e, List.map_map]
  rfl
theorem sort_eq {F S : List Nat} (hF : F.Nodup) (h : ∀ p, p ∈ F ↔ p ∈ S) (hS : S.Pairwise (· < ·)) : sortI (F.map fun q => ((q : Nat) : Int)) = S.map fun q => ((q : Nat) : Int) := by
  have hn : S.Nodup := hS.imp (fun h => Nat.ne_of_lt h)
  have p1 : F.Perm S := (List.perm_ext_iff_of_nodup hF hn).mpr h
  have s2 : (S.map fun q => ((q : Nat) : Int)).Pairwise (· ≤ ·) := by
    rw [List.pairwise_map]
    exact hS.imp (fun h => by omega)
  exact List.Perm.eq_of_pairwise (fun a b _ _ h1 h2 => Int.le_antisymm h1 h2) (sortI_sorted _) s2 ((sortI_perm _).trans (p1.map _))
theorem sorted_eq_nat {A B : List Nat} (hA : A.Pairwise (· < ·)) (hB : B.Pairwise (· < ·)) (h : ∀ p, p ∈ A ↔ p ∈ B) : A = B :=
  List.Perm.eq_of_pairwise (le := fun a b => a ≤ b) (fun a b _ _ h1 h2 => Nat.le_antisymm h1 h2) (hA.imp fun h => Nat.le_of_lt h) (hB.imp fun h => Nat.le_of_lt h) ((List.perm_ext_iff_of_nodup (hA.imp fun h => Nat.ne_of_lt h) (hB.imp fun h => Nat.ne_of_lt h)).mpr h)
theorem range_sorted (n : Nat) (p : Nat → Bool) : ((List.range n).filter p).Pairwise (· < ·) := List.Pairwise.filter _ List.pairwise_lt_range
end K09
end Mi
namespace Mi
open PySem PySem.Spec PyProof.Rows L2

namespace K09
variable {k : Nat} {c c' : Cup} {rest l M : Mem} {w : Nat} {P : List Ord} {R C : List Int}
/-! ### data that the law compares -/
theorem lks_nil {n : Nat} : D.lks n [] = true := by cases n <;> rfl
theorem lks_cons {n : Nat} {d : D} {ds : List D} : D.lks n (d :: ds) = (d.lk n && D.lks n ds) := by cases n <;> rfl
theorem lk_int {n : Nat} {i : Int} : (D.int i).lk n = true := by cases n <;> rfl
theorem lk_non {n : Nat} : D.non.lk n = true := by cases n <;> rfl
theorem lk_str {n : Nat} {s : List Nat} : (D.str s).lk n = s.all (· < 0x110000) := by cases n <;> rfl
theorem lks_ints {n : Nat} : ∀ (R : List Int), D.lks n (iD R) = true
  | [] => lks_nil
  | i :: R => by
    show D.lks n (.int i :: iD R) = true
    rw [lks_cons, lk_int, lks_ints R]
    rfl
theorem lk_ints {n : Nat} {R : List Int} (h : R.length ≤ 1000) : (D.tup (iD R)).lk (n + 1) = true := by
  show (decide ((iD R).length ≤ line) && D.lks n (iD R)) = true
  rw [lks_ints, decide_eq_true (by rw [List.length_map]; unfold line; omega)]
  rfl
theorem lk_tup {n : Nat} {xs : List D} (h : xs.length ≤ 1000) (h2 : D.lks n xs = true) : (D.tup xs).lk (n + 1) = true := by
  show (decide (xs.length ≤ line) && D.lks n xs) = true
  rw [h2, decide_eq_true (by unfold line; omega)]
  rfl
theorem lk_lst {n : Nat} {xs : List D} (h : xs.length ≤ 1000) (h2 : D.lks n xs = true) : (D.lst xs).lk (n + 1) = true := by
  show (decide (xs.length ≤ line) && D.lks n xs) = true
  rw [h2, decide_eq_true (by unfold line; omega)]
  rfl
theorem st_lk {s : St} {n m : Nat} (h : s.ok w n) : s.enc.lk (m + 2) = true := by
  refine lk_tup (by simp) ?_
  rw [lks_cons, lks_cons, lks_cons, lks_nil, lk_int, lk_ints (by rw [h.lR]; decide), lk_ints (by rw [h.lC]; decide)]
  rfl
theorem opt_lk {o : Option St} {n m : Nat} (h : ∀ s, o = some s → s.ok w n) : (optD o).lk (m + 2) = true := by
  cases o with
  | none => exact lk_non
  | some s => exact st_lk (h s rfl)
theorem out_lk {s : St} {n m : Nat} (h : s.ok w n) : (outD P s).lk (m + 2) = true := by
  unfold outD
  split
  · refine lk_tup (by simp) ?_
    rw [lks_cons, lks_cons, lks_cons, lks_nil, lk_str, lk_ints (by rw [h.lR]; decide), lk_ints (by rw [h.lC]; decide)]
    rfl
  · refine lk_tup (by simp) ?_
    rw [lks_cons, lks_cons, lks_nil, lk_str, lk_int]
    rfl
  · refine lk_tup (by simp) ?_
    rw [lks_cons, lks_nil, lk_str]
    rfl
theorem sortI_len : ∀ (l : List Int), (sortI l).length = l.length
  | [] => rfl
  | x :: l => by
    have ins : ∀ (y : Int) (l : List Int), (insI y l).length = l.length + 1 := by
      intro y l
      induction l with
      | nil => rfl
      | cons z l ih =>
        unfold insI
        split
        · rfl
        · rw [List.length_cons, ih, List.length_cons]
    show (insI x (sortI l)).length = _
    rw [ins, sortI_len l]
    rfl
theorem places_lk {ps : List Nat} {m : Nat} (h : ∀ p ∈ ps, p < 60) : (placesD ps).lk (m + 1) = true := by
  refine lk_ints ?_
  rw [sortI_len, List.length_map]
  have := keys_len h
  omega
theorem like {d : D} (hM : OkM M) (h : d.lk 5 = true) : callD fs (k + 7) 43 [d, d] M = some (.bl true, M) := law_like hM 5 (by decide) h
end K09
end Mi
namespace Mi
open PySem PySem.Spec PyProof.Rows L2

namespace K09
variable {k : Nat} {M : Mem} {P : List Ord}
/-- the places to which one leads on -/
def nxt (P : List Ord) (p : Nat) : List Nat := match P[p]? with
  | some .fin => []
  | some (.fault _) => []
  | some (.go t) => [t]
  | some (.cond _ _ _ t) => if p + 1 = t then [t] else if p + 1 < t then [p + 1, t] else [t, p + 1]
  | some _ => [p + 1]
  | none => []
theorem nxt_lt (hP : POk P) (p q : Nat) (h : q ∈ nxt P p) : q < P.length := by
  unfold nxt at h
  cases e : P[p]? with
  | none => rw [e] at h; cases h
  | some o =>
    have hp : p < P.length := (List.getElem?_eq_some_iff.mp e).1
    have ok := hP.ok o (List.mem_of_getElem? e)
    obtain ⟨ol, e1, e2⟩ := hP.last
    have nx : o.last = false → p + 1 < P.length := fun z => by
      by_cases c : p = P.length - 1
      · rw [← c, e] at e1
        cases e1
        rw [e2] at z
        cases z
      · omega
    rw [e] at h
    cases o with
    | fin => cases h
    | fault n => cases h
    | go t => rw [List.mem_singleton] at h; rw [h]; exact ok
    | cond l r s t =>
      have a := nx rfl
      have b : t < P.length := ok.2.2
      dsimp only at h
      split at h
      · rw [List.mem_singleton] at h; omega
      · split at h <;> (simp only [List.mem_cons, List.not_mem_nil, or_false] at h; omega)
    | _ => rw [List.mem_singleton] at h; rw [h]; exact nx rfl
abbrev nL (l : List Nat) : D := .lst (l.map nD)
theorem nats_pure (l : List Nat) : D.pures (l.map nD) = true := pures_all fun x hx => by
  obtain ⟨i, _, rfl⟩ := List.mem_map.mp hx
  rfl
theorem once2 {a b : Nat} : onceI [(a : Int), (b : Int)] = (if a = b then [b] else if a < b then [a, b] else [b, a]).map fun n => ((n : Nat) : Int) := by
  have e1 : onceI [(b : Int)] = [(b : Int)] := rfl
  have e2 : onceI [(a : Int), (b : Int)] = if (onceI [(b : Int)]).contains (a : Int) then onceI [(b : Int)] else insI (a : Int) (onceI [(b : Int)]) := rfl
  rw [e2, e1]
  by_cases h : a = b
  · subst h
    rw [if_pos (by simp), if_pos rfl]
    rfl
  · have h' : ¬ ((a : Int) = (b : Int)) := by omega
    rw [if_neg (by simpa using h'), if_neg h]
    by_cases l : a < b
    · have : insI (a : Int) [(b : Int)] = [(a : Int), (b : Int)] := if_pos (by omega)
      rw [if_pos l, this]
      rfl
    · have : insI (a : Int) [(b : Int)] = [(b : Int), (a : Int)] := if_neg (by omega)
      rw [if_neg l, this]
      rfl
theorem once_nx {p t : Nat} : ((onceI [(p : Int) + 1, (t : Int)]).map D.int) = (if p + 1 = t then [t] else if p + 1 < t then [p + 1, t] else [t, p + 1]).map nD := by
  have := once2 (a := p + 1) (b := t)
  rw [show ((p + 1 : Nat) : Int) = (p : Int) + 1 by omega] at this
  rw [this, List.map_map]
  rfl
theorem once_nx2 {p t : Nat} : ((onceI [(t : Int), (p : Int) + 1]).map D.int) = (if p + 1 = t then [t] else if p + 1 < t then [p + 1, t] else [t, p + 1]).map nD := by
  have := once2 (a := t) (b := p + 1)
  rw [show ((p + 1 : Nat) : Int) = (p : Int) + 1 by omega] at this
  rw [this, List.map_map]
  by_cases h : p + 1 = t
  · subst h
    simp
  · have h' : ¬ t = p + 1 := fun e => h e.symm
    rw [if_neg h, if_neg h']
    by_cases l : p + 1 < t
    · rw [if_pos l, if_neg (by omega)]
      rfl
    · rw [if_neg l, if_pos (by omega)]
      rfl
theorem nxt_get {p : Nat} (hp : p < P.length) : ∃ o, P[p]? = some o ∧ atI (P.map Ord.enc) ((p : Nat) : Int) = some o.enc := ⟨P[p], List.getElem?_eq_getElem hp, atI_get (by rw [List.getElem?_map, List.getElem?_eq_getElem hp]; rfl)⟩
theorem next_places (hM : OkM M) {p : Nat} (hp : p < P.length) : callD fs (k + 2) 26 [pD P, nD p] M = some (nL (nxt P p), M) := by
  obtain ⟨o, e, eP⟩ := nxt_get hp
  refine call_pure (f := f26) hM (nats_pure _) rfl rfl ?_
  have st := stops (k := k) hM (o := o)
  unfold nxt
  rw [e]
  simp only [nD, pD] at *
  cases o with
  | cond l r s t =>
    have q : nL (if p + 1 = t then [t] else if p + 1 < t then [p + 1, t] else [t, p + 1]) = .lst ((onceI [(p : Int) + 1, (t : Int)]).map D.int) := by rw [once_nx]
    show _ = some (Out.rt (nL (if p + 1 = t then [t] else if p + 1 < t then [p + 1, t] else [t, p + 1])) M)
    rw [q]
    simp only [Ord.enc, Ord.stop, nD] at st eP
    generalize relNm l = rn at st eP
    simp -implicitDefEqProofs [f26, b26, q_pr, q_bl, q_var, q_cst, q_bin, q_bin1, q_bin2, q_cmp, q_cmp1, q_cmp2, q_ch, q_ch1, q_ch2, q_ch3, q_neg, q_neg1, q_not, q_not1, q_not2, q_and, q_and1, q_and2, q_or, q_or1, q_or2, q_ite, q_ite1, q_ite2, q_tup, q_tup1, q_lst, q_lst1, q_dsp, q_dsp1, q_dsp2, q_idx, q_ix1, q_ix2, q_slice, q_sl1, q_sl2, q_sl3, q_slP00, q_slP10, q_slP01, q_slP11, q_slCt, q_slCl, q_rev, q_rev1, q_revD, q_revCl, q_revCt, q_call, q_call1, q_blt, q_blt1, q_isi, q_isi1, q_mth, q_m1, q_m2, q_m3, q_nil, q_cons, q_c1, q_c2, q_sSeq, q_sSeq1, q_sEnum, q_sEnum1, q_sR, q_sR1, q_sR2, q_sZ, q_sZ1, q_sZ2, q_seq, q_seqn, q_seqr, q_seqb, q_seqc, q_skip, q_brk, q_cont, q_asg, q_asg1, q_asg2, q_at_nm, q_at_tp, q_at_nil, q_at_cons, q_at1, q_box, q_box1, q_box2, q_bxl, q_bxd, q_bxf, q_par, q_par1, q_par2, q_bs0, q_bs, q_bs1, q_seti, q_st1, q_st2, q_st3, q_st4, q_putD, q_putL, q_putL1, q_putK, q_putKs, q_putK1, q_expr, q_ex1, q_ret, q_ret1, q_if, q_if1, q_if2, q_rd_non, q_rd_bl, q_rd_int, q_rd_str, q_rd_tup, q_rd_lst, q_rd_dct, q_rd_ref, q_rdOl, q_rdOd, q_seqOf, q_seqCt, q_seqCl, q_lstOf, q_lstCl, q_dctOf, q_dctCd, q_dctCt, q_dctCl, q_dctCs, q_truD, q_truCb, q_truCi, q_truCn, q_truCt, q_truCl, q_truCd, q_isiD, q_isiCn, q_isiCb, q_isiCi, q_isiCs, q_isiCt, q_isiCl, q_binD, b_add, b_sub, b_mul, b_div, b_mod, b_shl, b_pow, b_shr, b_and, b_or, b_xor, b_adds, b_addt, b_addl, b_mult, b_mull, q_nb, q_eq, q_ne, q_in, q_nin, q_lt, q_le, q_gt, q_ge, q_isb, q_isn, q_isi', q_ist, q_isl, q_iss, q_isbn, q_isr, q_isd, q_inb, q_inn, q_ini, q_int, q_inl, q_ins, q_inr, q_ind, q_eqii, q_eqss, q_eqbb, q_eqsi, q_eqtt, q_eqll, q_eqtn, q_eqnt, q_eqnn, q_ixD, q_ixC, q_ixK, q_ixKs, q_seqCd, q_lent, q_lenl, q_lend, q_lenr, q_lenCl, q_lenCd, q_abs, q_bint, q_bintb, q_bmin, q_bmax, q_btuple, q_bt1, q_blistt, q_blistl, q_blists, q_blistr, q_bll1, q_sset, q_sset1, q_lrange, q_trange, q_app, q_app1, flatD, eqv_str, eqv_int, eqv_bl, eqv_non, eqv_si, eqv_is, eqv_tup, eqv_lst, eqv_tn, eqv_nt, eqvs_nil, eqvs_cons, eqvs_nc, eqvs_cn, okN_non, okN_bl, okN_int, okN_str, okN_t64, okN_l64, okN_t63, okN_l63, okN_t62, okN_l62, okNs_nil, okNs_cons, eqS, setAll, inD, keyOf, eP, st, e0, e1, e2, e3, e4, intsOf]
  | _ =>
    simp only [Ord.enc, Ord.stop, nD] at st eP
    simp -implicitDefEqProofs [f26, b26, q_pr, q_bl, q_var, q_cst, q_bin, q_bin1, q_bin2, q_cmp, q_cmp1, q_cmp2, q_ch, q_ch1, q_ch2, q_ch3, q_neg, q_neg1, q_not, q_not1, q_not2, q_and, q_and1, q_and2, q_or, q_or1, q_or2, q_ite, q_ite1, q_ite2, q_tup, q_tup1, q_lst, q_lst1, q_dsp, q_dsp1, q_dsp2, q_idx, q_ix1, q_ix2, q_slice, q_sl1, q_sl2, q_sl3, q_slP00, q_slP10, q_slP01, q_slP11, q_slCt, q_slCl, q_rev, q_rev1, q_revD, q_revCl, q_revCt, q_call, q_call1, q_blt, q_blt1, q_isi, q_isi1, q_mth, q_m1, q_m2, q_m3, q_nil, q_cons, q_c1, q_c2, q_sSeq, q_sSeq1, q_sEnum, q_sEnum1, q_sR, q_sR1, q_sR2, q_sZ, q_sZ1, q_sZ2, q_seq, q_seqn, q_seqr, q_seqb, q_seqc, q_skip, q_brk, q_cont, q_asg, q_asg1, q_asg2, q_at_nm, q_at_tp, q_at_nil, q_at_cons, q_at1, q_box, q_box1, q_box2, q_bxl, q_bxd, q_bxf, q_par, q_par1, q_par2, q_bs0, q_bs, q_bs1, q_seti, q_st1, q_st2, q_st3, q_st4, q_putD, q_putL, q_putL1, q_putK, q_putKs, q_putK1, q_expr, q_ex1, q_ret, q_ret1, q_if, q_if1, q_if2, q_rd_non, q_rd_bl, q_rd_int, q_rd_str, q_rd_tup, q_rd_lst, q_rd_dct, q_rd_ref, q_rdOl, q_rdOd, q_seqOf, q_seqCt, q_seqCl, q_lstOf, q_lstCl, q_dctOf, q_dctCd, q_dctCt, q_dctCl, q_dctCs, q_truD, q_truCb, q_truCi, q_truCn, q_truCt, q_truCl, q_truCd, q_isiD, q_isiCn, q_isiCb, q_isiCi, q_isiCs, q_isiCt, q_isiCl, q_binD, b_add, b_sub, b_mul, b_div, b_mod, b_shl, b_pow, b_shr, b_and, b_or, b_xor, b_adds, b_addt, b_addl, b_mult, b_mull, q_nb, q_eq, q_ne, q_in, q_nin, q_lt, q_le, q_gt, q_ge, q_isb, q_isn, q_isi', q_ist, q_isl, q_iss, q_isbn, q_isr, q_isd, q_inb, q_inn, q_ini, q_int, q_inl, q_ins, q_inr, q_ind, q_eqii, q_eqss, q_eqbb, q_eqsi, q_eqtt, q_eqll, q_eqtn, q_eqnt, q_eqnn, q_ixD, q_ixC, q_ixK, q_ixKs, q_seqCd, q_lent, q_lenl, q_lend, q_lenr, q_lenCl, q_lenCd, q_abs, q_bint, q_bintb, q_bmin, q_bmax, q_btuple, q_bt1, q_blistt, q_blistl, q_blists, q_blistr, q_bll1, q_sset, q_sset1, q_lrange, q_trange, q_app, q_app1, flatD, eqv_str, eqv_int, eqv_bl, eqv_non, eqv_si, eqv_is, eqv_tup, eqv_lst, eqv_tn, eqv_nt, eqvs_nil, eqvs_cons, eqvs_nc, eqvs_cn, okN_non, okN_bl, okN_int, okN_str, okN_t64, okN_l64, okN_t63, okN_l63, okN_t62, okN_l62, okNs_nil, okNs_cons, eqS, setAll, inD, keyOf, eP, st, e0, e1, e2, e3, e4]
theorem law_nexts (hM : OkM M) {p : Nat} (hp : p < P.length) : callD fs (k + 1) 46 [pD P, nD p] M = some (nL (nxt P p), M) := by
  obtain ⟨o, e, eP⟩ := nxt_get hp
  refine call_pure (f := f46) hM (nats_pure _) rfl rfl ?_
  unfold nxt
  rw [e]
  simp only [nD, pD] at *
  cases o with
  | cond l r s t =>
    have q : nL (if p + 1 = t then [t] else if p + 1 < t then [p + 1, t] else [t, p + 1]) = .lst ((onceI [(t : Int), (p : Int) + 1]).map D.int) := by rw [once_nx2]
    show _ = some (Out.rt (nL (if p + 1 = t then [t] else if p + 1 < t then [p + 1, t] else [t, p + 1])) M)
    rw [q]
    simp only [Ord.enc, nD] at eP
    generalize relNm l = rn at eP
    simp -implicitDefEqProofs [f46, b46, q_pr, q_bl, q_var, q_cst, q_bin, q_bin1, q_bin2, q_cmp, q_cmp1, q_cmp2, q_ch, q_ch1, q_ch2, q_ch3, q_neg, q_neg1, q_not, q_not1, q_not2, q_and, q_and1, q_and2, q_or, q_or1, q_or2, q_ite, q_ite1, q_ite2, q_tup, q_tup1, q_lst, q_lst1, q_dsp, q_dsp1, q_dsp2, q_idx, q_ix1, q_ix2, q_slice, q_sl1, q_sl2, q_sl3, q_slP00, q_slP10, q_slP01, q_slP11, q_slCt, q_slCl, q_rev, q_rev1, q_revD, q_revCl, q_revCt, q_call, q_call1, q_blt, q_blt1, q_isi, q_isi1, q_mth, q_m1, q_m2, q_m3, q_nil, q_cons, q_c1, q_c2, q_sSeq, q_sSeq1, q_sEnum, q_sEnum1, q_sR, q_sR1, q_sR2, q_sZ, q_sZ1, q_sZ2, q_seq, q_seqn, q_seqr, q_seqb, q_seqc, q_skip, q_brk, q_cont, q_asg, q_asg1, q_asg2, q_at_nm, q_at_tp, q_at_nil, q_at_cons, q_at1, q_box, q_box1, q_box2, q_bxl, q_bxd, q_bxf, q_par, q_par1, q_par2, q_bs0, q_bs, q_bs1, q_seti, q_st1, q_st2, q_st3, q_st4, q_putD, q_putL, q_putL1, q_putK, q_putKs, q_putK1, q_expr, q_ex1, q_ret, q_ret1, q_if, q_if1, q_if2, q_rd_non, q_rd_bl, q_rd_int, q_rd_str, q_rd_tup, q_rd_lst, q_rd_dct, q_rd_ref, q_rdOl, q_rdOd, q_seqOf, q_seqCt, q_seqCl, q_lstOf, q_lstCl, q_dctOf, q_dctCd, q_dctCt, q_dctCl, q_dctCs, q_truD, q_truCb, q_truCi, q_truCn, q_truCt, q_truCl, q_truCd, q_isiD, q_isiCn, q_isiCb, q_isiCi, q_isiCs, q_isiCt, q_isiCl, q_binD, b_add, b_sub, b_mul, b_div, b_mod, b_shl, b_pow, b_shr, b_and, b_or, b_xor, b_adds, b_addt, b_addl, b_mult, b_mull, q_nb, q_eq, q_ne, q_in, q_nin, q_lt, q_le, q_gt, q_ge, q_isb, q_isn, q_isi', q_ist, q_isl, q_iss, q_isbn, q_isr, q_isd, q_inb, q_inn, q_ini, q_int, q_inl, q_ins, q_inr, q_ind, q_eqii, q_eqss, q_eqbb, q_eqsi, q_eqtt, q_eqll, q_eqtn, q_eqnt, q_eqnn, q_ixD, q_ixC, q_ixK, q_ixKs, q_seqCd, q_lent, q_lenl, q_lend, q_lenr, q_lenCl, q_lenCd, q_abs, q_bint, q_bintb, q_bmin, q_bmax, q_btuple, q_bt1, q_blistt, q_blistl, q_blists, q_blistr, q_bll1, q_sset, q_sset1, q_lrange, q_trange, q_app, q_app1, flatD, eqv_str, eqv_int, eqv_bl, eqv_non, eqv_si, eqv_is, eqv_tup, eqv_lst, eqv_tn, eqv_nt, eqvs_nil, eqvs_cons, eqvs_nc, eqvs_cn, okN_non, okN_bl, okN_int, okN_str, okN_t64, okN_l64, okN_t63, okN_l63, okN_t62, okN_l62, okNs_nil, okNs_cons, eqS, setAll, inD, keyOf, eP, e0, e1, e2, e3, e4, intsOf]
  | _ =>
    simp only [Ord.enc, nD] at eP
    simp -implicitDefEqProofs [f46, b46, q_pr, q_bl, q_var, q_cst, q_bin, q_bin1, q_bin2, q_cmp, q_cmp1, q_cmp2, q_ch, q_ch1, q_ch2, q_ch3, q_neg, q_neg1, q_not, q_not1, q_not2, q_and, q_and1, q_and2, q_or, q_or1, q_or2, q_ite, q_ite1, q_ite2, q_tup, q_tup1, q_lst, q_lst1, q_dsp, q_dsp1, q_dsp2, q_idx, q_ix1, q_ix2, q_slice, q_sl1, q_sl2, q_sl3, q_slP00, q_slP10, q_slP01, q_slP11, q_slCt, q_slCl, q_rev, q_rev1, q_revD, q_revCl, q_revCt, q_call, q_call1, q_blt, q_blt1, q_isi, q_isi1, q_mth, q_m1, q_m2, q_m3, q_nil, q_cons, q_c1, q_c2, q_sSeq, q_sSeq1, q_sEnum, q_sEnum1, q_sR, q_sR1, q_sR2, q_sZ, q_sZ1, q_sZ2, q_seq, q_seqn, q_seqr, q_seqb, q_seqc, q_skip, q_brk, q_cont, q_asg, q_asg1, q_asg2, q_at_nm, q_at_tp, q_at_nil, q_at_cons, q_at1, q_box, q_box1, q_box2, q_bxl, q_bxd, q_bxf, q_par, q_par1, q_par2, q_bs0, q_bs, q_bs1, q_seti, q_st1, q_st2, q_st3, q_st4, q_putD, q_putL, q_putL1, q_putK, q_putKs, q_putK1, q_expr, q_ex1, q_ret, q_ret1, q_if, q_if1, q_if2, q_rd_non, q_rd_bl, q_rd_int, q_rd_str, q_rd_tup, q_rd_lst, q_rd_dct, q_rd_ref, q_rdOl, q_rdOd, q_seqOf, q_seqCt, q_seqCl, q_lstOf, q_lstCl, q_dctOf, q_dctCd, q_dctCt, q_dctCl, q_dctCs, q_truD, q_truCb, q_truCi, q_truCn, q_truCt, q_truCl, q_truCd, q_isiD, q_isiCn, q_isiCb, q_isiCi, q_isiCs, q_isiCt, q_isiCl, q_binD, b_add, b_sub, b_mul, b_div, b_mod, b_shl, b_pow, b_shr, b_and, b_or, b_xor, b_adds, b_addt, b_addl, b_mult, b_mull, q_nb, q_eq, q_ne, q_in, q_nin, q_lt, q_le, q_gt, q_ge, q_isb, q_isn, q_isi', q_ist, q_isl, q_iss, q_isbn, q_isr, q_isd, q_inb, q_inn, q_ini, q_int, q_inl, q_ins, q_inr, q_ind, q_eqii, q_eqss, q_eqbb, q_eqsi, q_eqtt, q_eqll, q_eqtn, q_eqnt, q_eqnn, q_ixD, q_ixC, q_ixK, q_ixKs, q_seqCd, q_lent, q_lenl, q_lend, q_lenr, q_lenCl, q_lenCd, q_abs, q_bint, q_bintb, q_bmin, q_bmax, q_btuple, q_bt1, q_blistt, q_blistl, q_blists, q_blistr, q_bll1, q_sset, q_sset1, q_lrange, q_trange, q_app, q_app1, flatD, eqv_str, eqv_int, eqv_bl, eqv_non, eqv_si, eqv_is, eqv_tup, eqv_lst, eqv_tn, eqv_nt, eqvs_nil, eqvs_cons, eqvs_nc, eqvs_cn, okN_non, okN_bl, okN_int, okN_str, okN_t64, okN_l64, okN_t63, okN_l63, okN_t62, okN_l62, okNs_nil, okNs_cons, eqS, setAll, inD, keyOf, eP, e0, e1, e2, e3, e4]
theorem rng_at {n j : Nat} {x : D} (h : ((List.range n).map fun k => D.int (0 + (k : Nat)))[j]? = some x) : j < n ∧ x = nD j := by
  have hj : j < n := by simpa using (List.getElem?_eq_some_iff.mp h).1
  rw [List.getElem?_map, List.getElem?_range hj] at h
  cases h
  exact ⟨hj, by simp⟩
theorem walk_range {M : Mem} {n : Nat} (hn : n < 1000000) : Walk (.rng 0 (n : Nat)) M ((List.range n).map fun k => .int (0 + (k : Nat))) := by
  have := walk_rng (M := M) (lo := 0) (hi := (n : Int)) (by omega) (by omega) (by omega) (by omega)
  have e0 : ((n : Int) - 0).toNat = n := by omega
  rwa [e0] at this
/-- a comprehension over range(n) that changes nothing -/
theorem comp_range {cf : CF} {elt src cond : ME} {v : Nat} {σ : Sl} {n : Nat} (hn : n ≤ 1000) (p : Nat → Bool) (g : Nat → D) (hs : evS cf src σ M = some (.rng 0 (n : Nat), M))
    (h : ∀ j, j < n → ∃ c, ev cf cond ((σ.set v none).set v (some (nD j))) M = some (c, M) ∧ truD M c = some (p j) ∧ (p j = true → ev cf elt ((σ.set v none).set v (some (nD j))) M = some (g j, M))) :
    ev cf (.comp elt (.nm v) src cond [v]) σ M = some (.lst (((List.range n).filter p).map g), M) := by
  rw [comp_pure ((List.range n).map fun k => .int (0 + (k : Nat))) (fun x => match x with
    | .int i => p i.toNat
    | _ => false) (fun x => match x with
    | .int i => g i.toNat
    | _ => .non) hs (walk_range (by omega)) (by simp [line]; omega) fun x hx => ?_]
  · have e1 : ((fun x : D => match x with
      | .int i => p i.toNat
      | _ => false) ∘ fun k : Nat => D.int (0 + (k : Nat))) = p := by
      funext j
      show p (0 + (j : Int)).toNat = p j
      congr 1
      omega
    have e2 : ((fun x : D => match x with
      | .int i => g i.toNat
      | _ => D.non) ∘ fun k : Nat => D.int (0 + (k : Nat))) = g := by
      funext j
      show g (0 + (j : Int)).toNat = g j
      congr 1
      omega
    rw [List.filter_map, List.map_map, e1, e2]
  · obtain ⟨j, hj, rfl⟩ := List.mem_map.mp hx
    rw [List.mem_range] at hj
    obtain ⟨c, h1, h2, h3⟩ := h j hj
    have e : D.int (0 + ((j : Nat) : Int)) = nD j := by simp
    rw [e]
    refine ⟨(σ.set v none).set v (some (nD j)), c, rfl, h1, ?_, fun z => ?_⟩
    · show truD M c = some (p ((j : Nat) : Int).toNat)
      rw [Int.toNat_natCast]
      exact h2
    · have z : p ((j : Nat) : Int).toNat = true := z
      rw [Int.toNat_natCast] at z
      show ev cf elt _ M = some (g ((j : Nat) : Int).toNat, M)
      rw [Int.toNat_natCast]
      exact h3 z
def nsD (P : List Ord) : D := .lst ((List.range P.length).map fun p => nL (nxt P p))
theorem nsD_pure : (nsD P).pure = true := pures_all fun x hx => by
  obtain ⟨p, _, rfl⟩ := List.mem_map.mp hx
  exact nats_pure _
theorem nsD_at {p : Nat} (hp : p < P.length) : atI ((List.range P.length).map fun p => nL (nxt P p)) ((p : Nat) : Int) = some (nL (nxt P p)) := atI_get (by rw [List.getElem?_map, List.getElem?_range hp]; rfl)
theorem filter_true {α : Type} (l : List α) : l.filter (fun _ => true) = l := List.filter_eq_self.mpr fun _ _ => rfl
theorem all_next (hM : OkM M) (hl : P.length ≤ 60) : callD fs (k + 3) 27 [pD P] M = some (nsD P, M) := by
  refine call_pure (f := f27) hM nsD_pure rfl rfl ?_
  have hc : ev (callD fs (k + 2)) (.comp (.call 26 (.cons (.var 0) (.cons (.var 1) .nil))) (.nm 1) (.sRange (.cst (.int 0)) (.blt .len (.cons (.var 0) .nil))) (.cst (.bl true)) [1]) [some (pD P), none] M = some (nsD P, M) := by
    rw [comp_range (n := P.length) (by omega) (fun _ => true) (fun p => nL (nxt P p)) ?_ fun j hj => ⟨.bl true, rfl, rfl, fun _ => ?_⟩, filter_true]
    · rfl
    · simp -implicitDefEqProofs [q_pr, q_bl, q_var, q_cst, q_bin, q_bin1, q_bin2, q_cmp, q_cmp1, q_cmp2, q_ch, q_ch1, q_ch2, q_ch3, q_neg, q_neg1, q_not, q_not1, q_not2, q_and, q_and1, q_and2, q_or, q_or1, q_or2, q_ite, q_ite1, q_ite2, q_tup, q_tup1, q_lst, q_lst1, q_dsp, q_dsp1, q_dsp2, q_idx, q_ix1, q_ix2, q_slice, q_sl1, q_sl2, q_sl3, q_slP00, q_slP10, q_slP01, q_slP11, q_slCt, q_slCl, q_rev, q_rev1, q_revD, q_revCl, q_revCt, q_call, q_call1, q_blt, q_blt1, q_isi, q_isi1, q_mth, q_m1, q_m2, q_m3, q_nil, q_cons, q_c1, q_c2, q_sSeq, q_sSeq1, q_sEnum, q_sEnum1, q_sR, q_sR1, q_sR2, q_sZ, q_sZ1, q_sZ2, q_seq, q_seqn, q_seqr, q_seqb, q_seqc, q_skip, q_brk, q_cont, q_asg, q_asg1, q_asg2, q_at_nm, q_at_tp, q_at_nil, q_at_cons, q_at1, q_box, q_box1, q_box2, q_bxl, q_bxd, q_bxf, q_par, q_par1, q_par2, q_bs0, q_bs, q_bs1, q_seti, q_st1, q_st2, q_st3, q_st4, q_putD, q_putL, q_putL1, q_putK, q_putKs, q_putK1, q_expr, q_ex1, q_ret, q_ret1, q_if, q_if1, q_if2, q_rd_non, q_rd_bl, q_rd_int, q_rd_str, q_rd_tup, q_rd_lst, q_rd_dct, q_rd_ref, q_rdOl, q_rdOd, q_seqOf, q_seqCt, q_seqCl, q_lstOf, q_lstCl, q_dctOf, q_dctCd, q_dctCt, q_dctCl, q_dctCs, q_truD, q_truCb, q_truCi, q_truCn, q_truCt, q_truCl, q_truCd, q_isiD, q_isiCn, q_isiCb, q_isiCi, q_isiCs, q_isiCt, q_isiCl, q_binD, b_add, b_sub, b_mul, b_div, b_mod, b_shl, b_pow, b_shr, b_and, b_or, b_xor, b_adds, b_addt, b_addl, b_mult, b_mull, q_nb, q_eq, q_ne, q_in, q_nin, q_lt, q_le, q_gt, q_ge, q_isb, q_isn, q_isi', q_ist, q_isl, q_iss, q_isbn, q_isr, q_isd, q_inb, q_inn, q_ini, q_int, q_inl, q_ins, q_inr, q_ind, q_eqii, q_eqss, q_eqbb, q_eqsi, q_eqtt, q_eqll, q_eqtn, q_eqnt, q_eqnn, q_ixD, q_ixC, q_ixK, q_ixKs, q_seqCd, q_lent, q_lenl, q_lend, q_lenr, q_lenCl, q_lenCd, q_abs, q_bint, q_bintb, q_bmin, q_bmax, q_btuple, q_bt1, q_blistt, q_blistl, q_blists, q_blistr, q_bll1, q_sset, q_sset1, q_lrange, q_trange, q_app, q_app1, flatD, eqv_str, eqv_int, eqv_bl, eqv_non, eqv_si, eqv_is, eqv_tup, eqv_lst, eqv_tn, eqv_nt, eqvs_nil, eqvs_cons, eqvs_nc, eqvs_cn, okN_non, okN_bl, okN_int, okN_str, okN_t64, okN_l64, okN_t63, okN_l63, okN_t62, okN_l62, okNs_nil, okNs_cons, eqS, setAll, inD, keyOf]
    · have := next_places (k := k) hM hj
      simp only [nD, pD] at this
      simp -implicitDefEqProofs [q_pr, q_bl, q_var, q_cst, q_bin, q_bin1, q_bin2, q_cmp, q_cmp1, q_cmp2, q_ch, q_ch1, q_ch2, q_ch3, q_neg, q_neg1, q_not, q_not1, q_not2, q_and, q_and1, q_and2, q_or, q_or1, q_or2, q_ite, q_ite1, q_ite2, q_tup, q_tup1, q_lst, q_lst1, q_dsp, q_dsp1, q_dsp2, q_idx, q_ix1, q_ix2, q_slice, q_sl1, q_sl2, q_sl3, q_slP00, q_slP10, q_slP01, q_slP11, q_slCt, q_slCl, q_rev, q_rev1, q_revD, q_revCl, q_revCt, q_call, q_call1, q_blt, q_blt1, q_isi, q_isi1, q_mth, q_m1, q_m2, q_m3, q_nil, q_cons, q_c1, q_c2, q_sSeq, q_sSeq1, q_sEnum, q_sEnum1, q_sR, q_sR1, q_sR2, q_sZ, q_sZ1, q_sZ2, q_seq, q_seqn, q_seqr, q_seqb, q_seqc, q_skip, q_brk, q_cont, q_asg, q_asg1, q_asg2, q_at_nm, q_at_tp, q_at_nil, q_at_cons, q_at1, q_box, q_box1, q_box2, q_bxl, q_bxd, q_bxf, q_par, q_par1, q_par2, q_bs0, q_bs, q_bs1, q_seti, q_st1, q_st2, q_st3, q_st4, q_putD, q_putL, q_putL1, q_putK, q_putKs, q_putK1, q_expr, q_ex1, q_ret, q_ret1, q_if, q_if1, q_if2, q_rd_non, q_rd_bl, q_rd_int, q_rd_str, q_rd_tup, q_rd_lst, q_rd_dct, q_rd_ref, q_rdOl, q_rdOd, q_seqOf, q_seqCt, q_seqCl, q_lstOf, q_lstCl, q_dctOf, q_dctCd, q_dctCt, q_dctCl, q_dctCs, q_truD, q_truCb, q_truCi, q_truCn, q_truCt, q_truCl, q_truCd, q_isiD, q_isiCn, q_isiCb, q_isiCi, q_isiCs, q_isiCt, q_isiCl, q_binD, b_add, b_sub, b_mul, b_div, b_mod, b_shl, b_pow, b_shr, b_and, b_or, b_xor, b_adds, b_addt, b_addl, b_mult, b_mull, q_nb, q_eq, q_ne, q_in, q_nin, q_lt, q_le, q_gt, q_ge, q_isb, q_isn, q_isi', q_ist, q_isl, q_iss, q_isbn, q_isr, q_isd, q_inb, q_inn, q_ini, q_int, q_inl, q_ins, q_inr, q_ind, q_eqii, q_eqss, q_eqbb, q_eqsi, q_eqtt, q_eqll, q_eqtn, q_eqnt, q_eqnn, q_ixD, q_ixC, q_ixK, q_ixKs, q_seqCd, q_lent, q_lenl, q_lend, q_lenr, q_lenCl, q_lenCd, q_abs, q_bint, q_bintb, q_bmin, q_bmax, q_btuple, q_bt1, q_blistt, q_blistl, q_blists, q_blistr, q_bll1, q_sset, q_sset1, q_lrange, q_trange, q_app, q_app1, flatD, eqv_str, eqv_int, eqv_bl, eqv_non, eqv_si, eqv_is, eqv_tup, eqv_lst, eqv_tn, eqv_nt, eqvs_nil, eqvs_cons, eqvs_nc, eqvs_cn, okN_non, okN_bl, okN_int, okN_str, okN_t64, okN_l64, okN_t63, okN_l63, okN_t62, okN_l62, okNs_nil, okNs_cons, eqS, setAll, inD, keyOf, this]
  simp only [f27, b27]
  show exec _ (.seq (.ret (.comp (.call 26 (.cons (.var 0) (.cons (.var 1) .nil))) (.nm 1) (.sRange (.cst (.int 0)) (.blt .len (.cons (.var 0) .nil))) (.cst (.bl true)) [1])) .skip) [some (pD P), none] M = _
  rw [q_seq, q_ret, hc, q_ret1, q_seqr]
theorem need_place (hM : OkM M) {p : Nat} (hp : p < P.length) : callD fs (k + 4) 30 [pD P, nD p] M = some (.non, M) := by
  refine call_none (f := f30) (σ := [some (pD P), some (nD p)]) hM rfl rfl ?_
  have := need_whole (k := k) hM (i := (p : Int)) (lo := 0) (hi := (P.length : Int) - 1) (by omega) (by omega)
  simp -implicitDefEqProofs [f30, b30, q_pr, q_bl, q_var, q_cst, q_bin, q_bin1, q_bin2, q_cmp, q_cmp1, q_cmp2, q_ch, q_ch1, q_ch2, q_ch3, q_neg, q_neg1, q_not, q_not1, q_not2, q_and, q_and1, q_and2, q_or, q_or1, q_or2, q_ite, q_ite1, q_ite2, q_tup, q_tup1, q_lst, q_lst1, q_dsp, q_dsp1, q_dsp2, q_idx, q_ix1, q_ix2, q_slice, q_sl1, q_sl2, q_sl3, q_slP00, q_slP10, q_slP01, q_slP11, q_slCt, q_slCl, q_rev, q_rev1, q_revD, q_revCl, q_revCt, q_call, q_call1, q_blt, q_blt1, q_isi, q_isi1, q_mth, q_m1, q_m2, q_m3, q_nil, q_cons, q_c1, q_c2, q_sSeq, q_sSeq1, q_sEnum, q_sEnum1, q_sR, q_sR1, q_sR2, q_sZ, q_sZ1, q_sZ2, q_seq, q_seqn, q_seqr, q_seqb, q_seqc, q_skip, q_brk, q_cont, q_asg, q_asg1, q_asg2, q_at_nm, q_at_tp, q_at_nil, q_at_cons, q_at1, q_box, q_box1, q_box2, q_bxl, q_bxd, q_bxf, q_par, q_par1, q_par2, q_bs0, q_bs, q_bs1, q_seti, q_st1, q_st2, q_st3, q_st4, q_putD, q_putL, q_putL1, q_putK, q_putKs, q_putK1, q_expr, q_ex1, q_ret, q_ret1, q_if, q_if1, q_if2, q_rd_non, q_rd_bl, q_rd_int, q_rd_str, q_rd_tup, q_rd_lst, q_rd_dct, q_rd_ref, q_rdOl, q_rdOd, q_seqOf, q_seqCt, q_seqCl, q_lstOf, q_lstCl, q_dctOf, q_dctCd, q_dctCt, q_dctCl, q_dctCs, q_truD, q_truCb, q_truCi, q_truCn, q_truCt, q_truCl, q_truCd, q_isiD, q_isiCn, q_isiCb, q_isiCi, q_isiCs, q_isiCt, q_isiCl, q_binD, b_add, b_sub, b_mul, b_div, b_mod, b_shl, b_pow, b_shr, b_and, b_or, b_xor, b_adds, b_addt, b_addl, b_mult, b_mull, q_nb, q_eq, q_ne, q_in, q_nin, q_lt, q_le, q_gt, q_ge, q_isb, q_isn, q_isi', q_ist, q_isl, q_iss, q_isbn, q_isr, q_isd, q_inb, q_inn, q_ini, q_int, q_inl, q_ins, q_inr, q_ind, q_eqii, q_eqss, q_eqbb, q_eqsi, q_eqtt, q_eqll, q_eqtn, q_eqnt, q_eqnn, q_ixD, q_ixC, q_ixK, q_ixKs, q_seqCd, q_lent, q_lenl, q_lend, q_lenr, q_lenCl, q_lenCd, q_abs, q_bint, q_bintb, q_bmin, q_bmax, q_btuple, q_bt1, q_blistt, q_blistl, q_blists, q_blistr, q_bll1, q_sset, q_sset1, q_lrange, q_trange, q_app, q_app1, flatD, eqv_str, eqv_int, eqv_bl, eqv_non, eqv_si, eqv_is, eqv_tup, eqv_lst, eqv_tn, eqv_nt, eqvs_nil, eqvs_cons, eqvs_nc, eqvs_cn, okN_non, okN_bl, okN_int, okN_str, okN_t64, okN_l64, okN_t63, okN_l63, okN_t62, okN_l62, okNs_nil, okNs_cons, eqS, setAll, inD, keyOf, this]
theorem tupN_pure (l : List Nat) : (D.tup (l.map nD)).pure = true := nats_pure l
theorem leads_on (hM : OkM M) (hP : POk P) {p : Nat} (hp : p < P.length) : callD fs (k + 8) 31 [pD P, nD p] M = some (.tup ((nxt P p).map nD), M) := by
  refine call_pure (f := f31) hM (tupN_pure _) rfl rfl ?_
  have a := need_program (k := k) hM hP
  have b := need_place (k := k + 3) hM hp
  have c := next_places (k := k + 5) hM hp
  generalize pD P = x at a b c
  simp -implicitDefEqProofs [f31, b31, q_pr, q_bl, q_var, q_cst, q_bin, q_bin1, q_bin2, q_cmp, q_cmp1, q_cmp2, q_ch, q_ch1, q_ch2, q_ch3, q_neg, q_neg1, q_not, q_not1, q_not2, q_and, q_and1, q_and2, q_or, q_or1, q_or2, q_ite, q_ite1, q_ite2, q_tup, q_tup1, q_lst, q_lst1, q_dsp, q_dsp1, q_dsp2, q_idx, q_ix1, q_ix2, q_slice, q_sl1, q_sl2, q_sl3, q_slP00, q_slP10, q_slP01, q_slP11, q_slCt, q_slCl, q_rev, q_rev1, q_revD, q_revCl, q_revCt, q_call, q_call1, q_blt, q_blt1, q_isi, q_isi1, q_mth, q_m1, q_m2, q_m3, q_nil, q_cons, q_c1, q_c2, q_sSeq, q_sSeq1, q_sEnum, q_sEnum1, q_sR, q_sR1, q_sR2, q_sZ, q_sZ1, q_sZ2, q_seq, q_seqn, q_seqr, q_seqb, q_seqc, q_skip, q_brk, q_cont, q_asg, q_asg1, q_asg2, q_at_nm, q_at_tp, q_at_nil, q_at_cons, q_at1, q_box, q_box1, q_box2, q_bxl, q_bxd, q_bxf, q_par, q_par1, q_par2, q_bs0, q_bs, q_bs1, q_seti, q_st1, q_st2, q_st3, q_st4, q_putD, q_putL, q_putL1, q_putK, q_putKs, q_putK1, q_expr, q_ex1, q_ret, q_ret1, q_if, q_if1, q_if2, q_rd_non, q_rd_bl, q_rd_int, q_rd_str, q_rd_tup, q_rd_lst, q_rd_dct, q_rd_ref, q_rdOl, q_rdOd, q_seqOf, q_seqCt, q_seqCl, q_lstOf, q_lstCl, q_dctOf, q_dctCd, q_dctCt, q_dctCl, q_dctCs, q_truD, q_truCb, q_truCi, q_truCn, q_truCt, q_truCl, q_truCd, q_isiD, q_isiCn, q_isiCb, q_isiCi, q_isiCs, q_isiCt, q_isiCl, q_binD, b_add, b_sub, b_mul, b_div, b_mod, b_shl, b_pow, b_shr, b_and, b_or, b_xor, b_adds, b_addt, b_addl, b_mult, b_mull, q_nb, q_eq, q_ne, q_in, q_nin, q_lt, q_le, q_gt, q_ge, q_isb, q_isn, q_isi', q_ist, q_isl, q_iss, q_isbn, q_isr, q_isd, q_inb, q_inn, q_ini, q_int, q_inl, q_ins, q_inr, q_ind, q_eqii, q_eqss, q_eqbb, q_eqsi, q_eqtt, q_eqll, q_eqtn, q_eqnt, q_eqnn, q_ixD, q_ixC, q_ixK, q_ixKs, q_seqCd, q_lent, q_lenl, q_lend, q_lenr, q_lenCl, q_lenCd, q_abs, q_bint, q_bintb, q_bmin, q_bmax, q_btuple, q_bt1, q_blistt, q_blistl, q_blists, q_blistr, q_bll1, q_sset, q_sset1, q_lrange, q_trange, q_app, q_app1, flatD, eqv_str, eqv_int, eqv_bl, eqv_non, eqv_si, eqv_is, eqv_tup, eqv_lst, eqv_tn, eqv_nt, eqvs_nil, eqvs_cons, eqvs_nc, eqvs_cn, okN_non, okN_bl, okN_int, okN_str, okN_t64, okN_l64, okN_t63, okN_l63, okN_t62, okN_l62, okNs_nil, okNs_cons, eqS, setAll, inD, keyOf, a, b, c]
theorem eqvs_nil_r {xs : List D} : D.eqvs xs [] = xs.isEmpty := by cases xs <;> rfl
theorem okNs_nats (n : Nat) (l : List Nat) : D.okNs n (l.map nD) = true := by
  induction l with
  | nil => exact okNs_nil
  | cons x l ih =>
    show D.okNs n (.int (x : Nat) :: l.map nD) = true
    rw [okNs_cons, okN_int, ih]
    rfl
theorem eq_nil {l : List Nat} : eqC (nL l) (.lst []) = some l.isEmpty := by
  unfold eqC
  show (if (D.okNs 63 (l.map nD) && D.okNs 63 []) = true then some (D.eqvs (l.map nD) []) else none) = _
  rw [okNs_nats, okNs_nil, eqvs_nil_r, List.isEmpty_map]
  rfl
theorem stops_of (hM : OkM M) (hP : POk P) : callD fs (k + 8) 32 [pD P] M = some (.tup (((List.range P.length).filter fun p => (nxt P p).isEmpty).map nD), M) := by
  refine call_pure (f := f32) hM (tupN_pure _) rfl rfl ?_
  have a := need_program (k := k) hM hP
  have b := all_next (k := k + 4) hM hP.le
  have hc : ev (callD fs (k + 7)) (.comp (.var 1) (.tp (.cons (.nm 1) (.cons (.nm 2) .nil))) (.sEnum (.call 27 (.cons (.var 0) .nil))) (.cmp .Eq (.var 2) (.lst .nil)) [1, 2]) [some (pD P), none, none] M = some (.lst (((List.range P.length).filter fun p => (nxt P p).isEmpty).map nD), M) := by
    have hs : evS (callD fs (k + 7)) (.sEnum (.call 27 (.cons (.var 0) .nil))) [some (pD P), none, none] M = some (.enum (nsD P), M) := by
      generalize pD P = x at b
      simp -implicitDefEqProofs [q_pr, q_bl, q_var, q_cst, q_bin, q_bin1, q_bin2, q_cmp, q_cmp1, q_cmp2, q_ch, q_ch1, q_ch2, q_ch3, q_neg, q_neg1, q_not, q_not1, q_not2, q_and, q_and1, q_and2, q_or, q_or1, q_or2, q_ite, q_ite1, q_ite2, q_tup, q_tup1, q_lst, q_lst1, q_dsp, q_dsp1, q_dsp2, q_idx, q_ix1, q_ix2, q_slice, q_sl1, q_sl2, q_sl3, q_slP00, q_slP10, q_slP01, q_slP11, q_slCt, q_slCl, q_rev, q_rev1, q_revD, q_revCl, q_revCt, q_call, q_call1, q_blt, q_blt1, q_isi, q_isi1, q_mth, q_m1, q_m2, q_m3, q_nil, q_cons, q_c1, q_c2, q_sSeq, q_sSeq1, q_sEnum, q_sEnum1, q_sR, q_sR1, q_sR2, q_sZ, q_sZ1, q_sZ2, q_seq, q_seqn, q_seqr, q_seqb, q_seqc, q_skip, q_brk, q_cont, q_asg, q_asg1, q_asg2, q_at_nm, q_at_tp, q_at_nil, q_at_cons, q_at1, q_box, q_box1, q_box2, q_bxl, q_bxd, q_bxf, q_par, q_par1, q_par2, q_bs0, q_bs, q_bs1, q_seti, q_st1, q_st2, q_st3, q_st4, q_putD, q_putL, q_putL1, q_putK, q_putKs, q_putK1, q_expr, q_ex1, q_ret, q_ret1, q_if, q_if1, q_if2, q_rd_non, q_rd_bl, q_rd_int, q_rd_str, q_rd_tup, q_rd_lst, q_rd_dct, q_rd_ref, q_rdOl, q_rdOd, q_seqOf, q_seqCt, q_seqCl, q_lstOf, q_lstCl, q_dctOf, q_dctCd, q_dctCt, q_dctCl, q_dctCs, q_truD, q_truCb, q_truCi, q_truCn, q_truCt, q_truCl, q_truCd, q_isiD, q_isiCn, q_isiCb, q_isiCi, q_isiCs, q_isiCt, q_isiCl, q_binD, b_add, b_sub, b_mul, b_div, b_mod, b_shl, b_pow, b_shr, b_and, b_or, b_xor, b_adds, b_addt, b_addl, b_mult, b_mull, q_nb, q_eq, q_ne, q_in, q_nin, q_lt, q_le, q_gt, q_ge, q_isb, q_isn, q_isi', q_ist, q_isl, q_iss, q_isbn, q_isr, q_isd, q_inb, q_inn, q_ini, q_int, q_inl, q_ins, q_inr, q_ind, q_eqii, q_eqss, q_eqbb, q_eqsi, q_eqtt, q_eqll, q_eqtn, q_eqnt, q_eqnn, q_ixD, q_ixC, q_ixK, q_ixKs, q_seqCd, q_lent, q_lenl, q_lend, q_lenr, q_lenCl, q_lenCd, q_abs, q_bint, q_bintb, q_bmin, q_bmax, q_btuple, q_bt1, q_blistt, q_blistl, q_blists, q_blistr, q_bll1, q_sset, q_sset1, q_lrange, q_trange, q_app, q_app1, flatD, eqv_str, eqv_int, eqv_bl, eqv_non, eqv_si, eqv_is, eqv_tup, eqv_lst, eqv_tn, eqv_nt, eqvs_nil, eqvs_cons, eqvs_nc, eqvs_cn, okN_non, okN_bl, okN_int, okN_str, okN_t64, okN_l64, okN_t63, okN_l63, okN_t62, okN_l62, okNs_nil, okNs_cons, eqS, setAll, inD, keyOf, b]
    have hw : Walk (.enum (nsD P)) M (((List.range P.length).map fun p => nL (nxt P p)).zipIdx.map fun p => .tup [.int (p.2 : Nat), p.1]) := walk_enum rfl
    have ez : (((List.range P.length).map fun p => nL (nxt P p)).zipIdx.map fun p => D.tup [.int (p.2 : Nat), p.1]) = (List.range P.length).map fun p => .tup [nD p, nL (nxt P p)] := by
      apply List.ext_getElem?
      intro i
      rw [List.getElem?_map, List.getElem?_zipIdx, List.getElem?_map, List.getElem?_map]
      by_cases hi : i < P.length
      · rw [List.getElem?_range hi]
        simp
      · rw [List.getElem?_eq_none (by simpa using hi)]
        rfl
    rw [ez] at hw
    rw [comp_pure ((List.range P.length).map fun p => .tup [nD p, nL (nxt P p)]) (fun x => match x with
      | .tup [_, .lst l] => l.isEmpty
      | _ => false) (fun x => match x with
      | .tup [y, _] => y
      | x => x) hs hw (by simp [line]; have := hP.le; omega) fun x hx => ?_]
    · have e1 : ((fun x : D => match x with
        | .tup [_, .lst l] => l.isEmpty
        | _ => false) ∘ fun p => D.tup [nD p, nL (nxt P p)]) = fun p => (nxt P p).isEmpty := by
        funext p
        show ((nxt P p).map nD).isEmpty = _
        rw [List.isEmpty_map]
      have e2 : ((fun x : D => match x with
        | .tup [y, _] => y
        | x => x) ∘ fun p => D.tup [nD p, nL (nxt P p)]) = nD := rfl
      rw [List.filter_map, List.map_map, e1, e2]
    · obtain ⟨p, _, rfl⟩ := List.mem_map.mp hx
      refine ⟨[some (pD P), some (nD p), some (nL (nxt P p))], .bl (nxt P p).isEmpty, rfl, ?_, ?_, fun _ => rfl⟩
      · have := eq_nil (l := nxt P p)
        simp only [nL] at this ⊢
        generalize (nxt P p).map nD = X at this
        simp -implicitDefEqProofs [q_cmp, q_var, q_pr, q_cmp1, q_lst, q_nil, q_lst1, q_cmp2, q_eq, q_rd_lst, this, q_bl]
      · show some (nxt P p).isEmpty = some ((nxt P p).map nD).isEmpty
        rw [List.isEmpty_map]
  unfold f32 b32
  show exec (callD fs (k + 7)) (.seq (.expr (.call 17 (.cons (.var 0) .nil))) (.seq (.ret (.blt .tuple (.cons (.comp (.var 1) (.tp (.cons (.nm 1) (.cons (.nm 2) .nil))) (.sEnum (.call 27 (.cons (.var 0) .nil))) (.cmp .Eq (.var 2) (.lst .nil)) [1, 2]) .nil))) .skip)) [some (pD P), none, none] M = _
  have h0 : exec (callD fs (k + 7)) (.expr (.call 17 (.cons (.var 0) .nil))) [some (pD P), none, none] M = some (.nx [some (pD P), none, none] M) := by
    generalize pD P = x at a
    simp -implicitDefEqProofs [q_pr, q_bl, q_var, q_cst, q_bin, q_bin1, q_bin2, q_cmp, q_cmp1, q_cmp2, q_ch, q_ch1, q_ch2, q_ch3, q_neg, q_neg1, q_not, q_not1, q_not2, q_and, q_and1, q_and2, q_or, q_or1, q_or2, q_ite, q_ite1, q_ite2, q_tup, q_tup1, q_lst, q_lst1, q_dsp, q_dsp1, q_dsp2, q_idx, q_ix1, q_ix2, q_slice, q_sl1, q_sl2, q_sl3, q_slP00, q_slP10, q_slP01, q_slP11, q_slCt, q_slCl, q_rev, q_rev1, q_revD, q_revCl, q_revCt, q_call, q_call1, q_blt, q_blt1, q_isi, q_isi1, q_mth, q_m1, q_m2, q_m3, q_nil, q_cons, q_c1, q_c2, q_sSeq, q_sSeq1, q_sEnum, q_sEnum1, q_sR, q_sR1, q_sR2, q_sZ, q_sZ1, q_sZ2, q_seq, q_seqn, q_seqr, q_seqb, q_seqc, q_skip, q_brk, q_cont, q_asg, q_asg1, q_asg2, q_at_nm, q_at_tp, q_at_nil, q_at_cons, q_at1, q_box, q_box1, q_box2, q_bxl, q_bxd, q_bxf, q_par, q_par1, q_par2, q_bs0, q_bs, q_bs1, q_seti, q_st1, q_st2, q_st3, q_st4, q_putD, q_putL, q_putL1, q_putK, q_putKs, q_putK1, q_expr, q_ex1, q_ret, q_ret1, q_if, q_if1, q_if2, q_rd_non, q_rd_bl, q_rd_int, q_rd_str, q_rd_tup, q_rd_lst, q_rd_dct, q_rd_ref, q_rdOl, q_rdOd, q_seqOf, q_seqCt, q_seqCl, q_lstOf, q_lstCl, q_dctOf, q_dctCd, q_dctCt, q_dctCl, q_dctCs, q_truD, q_truCb, q_truCi, q_truCn, q_truCt, q_truCl, q_truCd, q_isiD, q_isiCn, q_isiCb, q_isiCi, q_isiCs, q_isiCt, q_isiCl, q_binD, b_add, b_sub, b_mul, b_div, b_mod, b_shl, b_pow, b_shr, b_and, b_or, b_xor, b_adds, b_addt, b_addl, b_mult, b_mull, q_nb, q_eq, q_ne, q_in, q_nin, q_lt, q_le, q_gt, q_ge, q_isb, q_isn, q_isi', q_ist, q_isl, q_iss, q_isbn, q_isr, q_isd, q_inb, q_inn, q_ini, q_int, q_inl, q_ins, q_inr, q_ind, q_eqii, q_eqss, q_eqbb, q_eqsi, q_eqtt, q_eqll, q_eqtn, q_eqnt, q_eqnn, q_ixD, q_ixC, q_ixK, q_ixKs, q_seqCd, q_lent, q_lenl, q_lend, q_lenr, q_lenCl, q_lenCd, q_abs, q_bint, q_bintb, q_bmin, q_bmax, q_btuple, q_bt1, q_blistt, q_blistl, q_blists, q_blistr, q_bll1, q_sset, q_sset1, q_lrange, q_trange, q_app, q_app1, flatD, eqv_str, eqv_int, eqv_bl, eqv_non, eqv_si, eqv_is, eqv_tup, eqv_lst, eqv_tn, eqv_nt, eqvs_nil, eqvs_cons, eqvs_nc, eqvs_cn, okN_non, okN_bl, okN_int, okN_str, okN_t64, okN_l64, okN_t63, okN_l63, okN_t62, okN_l62, okNs_nil, okNs_cons, eqS, setAll, inD, keyOf, a]
  rw [q_seq, h0, q_seqn, q_seq, q_ret, q_blt, q_cons, hc, q_c1, q_nil, q_c2, q_blt1, q_btuple, q_seqOf, q_rd_lst, q_seqCl, q_bt1, q_pr, q_ret1, q_seqr]
end K09
end Mi
namespace Mi
open PySem PySem.Spec PyProof.Rows L2

namespace K09
/-! ### ways, in plain -/
section
variable {N : Nat → List Nat}
inductive TC (N : Nat → List Nat) : Nat → Nat → Prop
  | one {a b : Nat} : b ∈ N a → TC N a b
  | more {a b c : Nat} : b ∈ N a → TC N b c → TC N a c
theorem TC.trans {a b c : Nat} (h : TC N a b) : TC N b c → TC N a c := by
  induction h with
  | one e => exact fun h2 => .more e h2
  | more e _ ih => exact fun h2 => .more e (ih h2)
theorem TC.then {a b c : Nat} (h : TC N a b) (e : c ∈ N b) : TC N a c := h.trans (.one e)
inductive Via (N : Nat → List Nat) (m : Nat) : Nat → Nat → Prop
  | one {a b : Nat} : b ∈ N a → Via N m a b
  | mid {a b c : Nat} : Via N m a b → b < m → Via N m b c → Via N m a c
theorem via_split {m a c : Nat} (h : Via N (m + 1) a c) : Via N m a c ∨ (Via N m a m ∧ Via N m m c) := by
  induction h with
  | one e => exact .inl (.one e)
  | @mid a b c _ hb _ i1 i2 =>
    by_cases hm : b = m
    · rw [hm] at i1 i2
      refine .inr ⟨?_, ?_⟩
      · rcases i1 with i | i
        · exact i
        · exact i.1
      · rcases i2 with i | i
        · exact i
        · exact i.2
    · have hb : b < m := by omega
      rcases i1 with i1 | ⟨i1, i1'⟩ <;> rcases i2 with i2 | ⟨i2, i2'⟩
      · exact .inl (.mid i1 hb i2)
      · exact .inr ⟨.mid i1 hb i2, i2'⟩
      · exact .inr ⟨i1, .mid i1' hb i2⟩
      · exact .inr ⟨i1, i2'⟩
theorem via_up {m a c : Nat} (h : Via N m a c) : Via N (m + 1) a c := by
  induction h with
  | one e => exact .one e
  | mid _ hb _ i1 i2 => exact .mid i1 (by omega) i2
theorem via_zero {a c : Nat} : Via N 0 a c ↔ c ∈ N a := by
  constructor
  · intro h
    cases h with
    | one e => exact e
    | mid _ hb _ => omega
  · exact .one
theorem via_tc {m a c : Nat} (h : Via N m a c) : TC N a c := by
  induction h with
  | one e => exact .one e
  | mid _ _ _ i1 i2 => exact i1.trans i2
theorem tc_via {n a c : Nat} (hn : ∀ a b, b ∈ N a → b < n) (h : TC N a c) : Via N n a c := by
  induction h with
  | one e => exact .one e
  | more e _ ih => exact .mid (.one e) (hn _ _ e) ih
/-- by all ways over one place more -/
def web (N : Nat → List Nat) (n : Nat) : Nat → List (List Nat)
  | 0 => (List.range n).map N
  | m + 1 => (web N n m).map fun line => if line.contains m then line ++ ((web N n m).getD m []).filter (fun p => !line.contains p) else line
theorem web_ok {n : Nat} : ∀ m, m ≤ n → (web N n m).length = n ∧ ∀ i, i < n → ∃ line, (web N n m)[i]? = some line ∧ ∀ q, q ∈ line ↔ Via N m i q
  | 0, _ => by
    refine ⟨by simp [web], fun i hi => ⟨N i, ?_, fun q => via_zero.symm⟩⟩
    show ((List.range n).map N)[i]? = _
    rw [List.getElem?_map, List.getElem?_range hi]
    rfl
  | m + 1, hm => by
    obtain ⟨h1, h2⟩ := web_ok (n := n) m (by omega)
    obtain ⟨lm, e1, e2⟩ := h2 m (by omega)
    have eg : (web N n m).getD m [] = lm := by rw [List.getD_eq_getElem?_getD, e1]; rfl
    refine ⟨by simp [web, h1], fun i hi => ?_⟩
    obtain ⟨line, e3, e4⟩ := h2 i hi
    refine ⟨if line.contains m then line ++ lm.filter (fun p => !line.contains p) else line, ?_, fun q => ?_⟩
    · show ((web N n m).map _)[i]? = _
      rw [List.getElem?_map, e3, eg]
      rfl
    · have e5 : q ∈ (if line.contains m then line ++ lm.filter (fun p => !line.contains p) else line) ↔ q ∈ line ∨ (m ∈ line ∧ q ∈ lm) := by
        by_cases c : line.contains m = true
        · rw [if_pos c]
          have c' : m ∈ line := by simpa using c
          simp only [List.mem_append, List.mem_filter, Bool.not_eq_true', List.contains_eq_mem, decide_eq_false_iff_not]
          by_cases d : q ∈ line <;> simp [d, c']
        · rw [if_neg c]
          have c' : m ∉ line := fun z => c (by simpa using z)
          simp [c']
      rw [e5, e4, e4, e2]
      constructor
      · rintro (h | ⟨h, h'⟩)
        · exact via_up h
        · exact .mid (via_up h) (by omega) (via_up h')
      · exact via_split
theorem web_tc {n : Nat} (hn : ∀ a b, b ∈ N a → b < n) {i : Nat} (hi : i < n) : ∃ line, (web N n n)[i]? = some line ∧ ∀ q, q ∈ line ↔ TC N i q := by
  obtain ⟨line, h1, h2⟩ := (web_ok (N := N) n (Nat.le_refl n)).2 i hi
  exact ⟨line, h1, fun q => (h2 q).trans ⟨via_tc, tc_via hn⟩⟩
/-! ### by steps -/
def At (N : Nat → List Nat) (a : Nat) : Nat → Nat → Prop
  | 0, x => x = a
  | k + 1, x => ∃ y, At N a k y ∧ x ∈ N y
abbrev Ahead := List (Nat × Option Nat)
abbrev ky (A : Ahead) : List Nat := A.map (·.1)
/-- what is ahead, with how far it is; O: the places whose next ones may be lacking yet -/
structure Bf (N : Nat → List Nat) (n a : Nat) (dep : Nat → Nat) (A : Ahead) (Q : List Nat) (O : Nat → Prop) : Prop where
  nd : (ky A).Nodup
  lt : ∀ x ∈ ky A, x < n
  root : (a, none) ∈ A
  dep0 : dep a = 0
  par : ∀ x p, (x, some p) ∈ A → p ∈ ky A ∧ x ∈ N p ∧ dep x = dep p + 1
  non : ∀ x, (x, none) ∈ A → x = a
  q : ∀ x ∈ Q, x ∈ ky A
  qs : Q.Pairwise fun x y => dep x ≤ dep y
  lvl : ∀ q ∈ Q, ∀ x ∈ ky A, dep x ≤ dep q + 1
  cl : ∀ x ∈ ky A, ¬ O x → ∀ y ∈ N x, y ∈ ky A ∧ dep y ≤ dep x + 1
  sm : ∀ x ∈ ky A, dep x < A.length
/-- one place behind h looked at -/
def look (h : Nat) (s : Ahead × List Nat) (y : Nat) : Ahead × List Nat := if (ky s.1).contains y then s else (s.1 ++ [(y, some h)], s.2 ++ [y])
theorem Bf.look {n a h y : Nat} {dep : Nat → Nat} {A : Ahead} {Q : List Nat} (hn : ∀ a b, b ∈ N a → b < n) (B : Bf N n a dep A Q fun x => x ∈ Q ∨ x = h) (hk : h ∈ ky A) (h1 : ∀ x ∈ ky A, dep x ≤ dep h + 1) (h2 : ∀ q ∈ Q, dep h ≤ dep q) (hy : y ∈ N h) :
    ∃ dep', Bf N n a dep' (look h (A, Q) y).1 (look h (A, Q) y).2 (fun x => x ∈ (look h (A, Q) y).2 ∨ x = h) ∧ h ∈ ky (look h (A, Q) y).1 ∧ (∀ x ∈ ky (look h (A, Q) y).1, dep' x ≤ dep' h + 1) ∧ (∀ q ∈ (look h (A, Q) y).2, dep' h ≤ dep' q) ∧ y ∈ ky (look h (A, Q) y).1 ∧ ∀ x ∈ ky A, x ∈ ky (look h (A, Q) y).1 := by
  by_cases c : (ky A).contains y = true
  · have e : K09.look h (A, Q) y = (A, Q) := if_pos c
    rw [e]
    exact ⟨dep, B, hk, h1, h2, by simpa using c, fun _ z => z⟩
  · have e : K09.look h (A, Q) y = (A ++ [(y, some h)], Q ++ [y]) := if_neg c
    rw [e]
    have c' : y ∉ ky A := fun z => c (by simpa using z)
    have ek : ky (A ++ [(y, some h)]) = ky A ++ [y] := by simp [ky]
    let dep' : Nat → Nat := fun x => if x = y then dep h + 1 else dep x
    have dy : dep' y = dep h + 1 := if_pos rfl
    have dx : ∀ x ∈ ky A, dep' x = dep x := fun x hx => if_neg fun z : x = y => c' (by rw [← z]; exact hx)
    have dq : ∀ q ∈ Q, dep' q = dep q := fun q hq => dx q (B.q q hq)
    have dh : dep' h = dep h := dx h hk
    refine ⟨dep', ?_, ?_, ?_, ?_, ?_, ?_⟩
    · refine ⟨?_, ?_, ?_, ?_, ?_, ?_, ?_, ?_, ?_, ?_, ?_⟩
      · rw [ek, List.nodup_append]
        exact ⟨B.nd, by simp, fun x hx z hz e => c' (by rw [List.mem_singleton] at hz; rw [← hz, ← e]; exact hx)⟩
      · intro x hx
        rw [ek] at hx
        rcases List.mem_append.mp hx with z | z
        · exact B.lt x z
        · rw [List.mem_singleton] at z
          rw [z]; exact hn _ _ hy
      · exact List.mem_append_left _ B.root
      · rw [dx a (List.mem_map.mpr ⟨_, B.root, rfl⟩)]
        exact B.dep0
      · intro x p hx
        rw [ek]
        rcases List.mem_append.mp hx with z | z
        · obtain ⟨p1, p2, p3⟩ := B.par x p z
          exact ⟨List.mem_append_left _ p1, p2, by rw [dx x (List.mem_map.mpr ⟨_, z, rfl⟩), dx p p1]; exact p3⟩
        · rw [List.mem_singleton] at z
          cases z
          exact ⟨List.mem_append_left _ hk, hy, by rw [dy, dh]⟩
      · intro x hx
        rcases List.mem_append.mp hx with z | z
        · exact B.non x z
        · rw [List.mem_singleton] at z
          cases z
      · intro x hx
        rw [ek]
        rcases List.mem_append.mp hx with z | z
        · exact List.mem_append_left _ (B.q x z)
        · exact List.mem_append_right _ z
      · rw [List.pairwise_append]
        refine ⟨?_, by simp, fun q hq z hz => ?_⟩
        · exact B.qs.imp_of_mem fun {x y} hx hy h => by rw [dq x hx, dq y hy]; exact h
        · rw [List.mem_singleton] at hz
          rw [hz, dy, dq q hq]
          exact h1 q (B.q q hq)
      · intro q hq x hx
        rw [ek] at hx
        rcases List.mem_append.mp hq with z | z
        · rw [dq q z]
          rcases List.mem_append.mp hx with u | u
          · rw [dx x u]; exact B.lvl q z x u
          · rw [List.mem_singleton] at u
            rw [u, dy]
            have := h2 q z
            omega
        · rw [List.mem_singleton] at z
          rw [z, dy]
          rcases List.mem_append.mp hx with u | u
          · rw [dx x u]
            have := h1 x u
            omega
          · rw [List.mem_singleton] at u
            rw [u, dy]
            omega
      · intro x hx ho z hz
        rw [ek] at hx ⊢
        rcases List.mem_append.mp hx with u | u
        · obtain ⟨c1, c2⟩ := B.cl x u (fun w => ho (w.imp (List.mem_append_left _) id)) z hz
          exact ⟨List.mem_append_left _ c1, by rw [dx z c1, dx x u]; exact c2⟩
        · exact absurd (.inl (List.mem_append_right _ u)) ho
      · intro x hx
        rw [ek] at hx
        rw [List.length_append, List.length_singleton]
        rcases List.mem_append.mp hx with u | u
        · rw [dx x u]
          have := B.sm x u
          omega
        · rw [List.mem_singleton] at u
          rw [u, dy]
          have := B.sm h hk
          omega
    · rw [ek]; exact List.mem_append_left _ hk
    · intro x hx
      rw [ek] at hx
      rw [dh]
      rcases List.mem_append.mp hx with u | u
      · rw [dx x u]; exact h1 x u
      · rw [List.mem_singleton] at u
        rw [u, dy]
        omega
    · intro q hq
      rw [dh]
      rcases List.mem_append.mp hq with u | u
      · rw [dq q u]; exact h2 q u
      · rw [List.mem_singleton] at u
        rw [u, dy]
        omega
    · rw [ek]; exact List.mem_append_right _ (List.mem_singleton.mpr rfl)
    · intro x hx
      rw [ek]; exact List.mem_append_left _ hx
theorem Bf.looks {n a h : Nat} (hn : ∀ a b, b ∈ N a → b < n) : ∀ (ys : List Nat) {dep : Nat → Nat} {A : Ahead} {Q : List Nat}, Bf N n a dep A Q (fun x => x ∈ Q ∨ x = h) → h ∈ ky A → (∀ x ∈ ky A, dep x ≤ dep h + 1) → (∀ q ∈ Q, dep h ≤ dep q) → (∀ y ∈ ys, y ∈ N h) →
    ∃ dep', Bf N n a dep' (ys.foldl (K09.look h) (A, Q)).1 (ys.foldl (K09.look h) (A, Q)).2 (fun x => x ∈ (ys.foldl (K09.look h) (A, Q)).2 ∨ x = h) ∧ h ∈ ky (ys.foldl (K09.look h) (A, Q)).1 ∧ (∀ x ∈ ky (ys.foldl (K09.look h) (A, Q)).1, dep' x ≤ dep' h + 1) ∧ (∀ x ∈ ky A, x ∈ ky (ys.foldl (K09.look h) (A, Q)).1) ∧ ∀ y ∈ ys, y ∈ ky (ys.foldl (K09.look h) (A, Q)).1
  | [], dep, A, Q, B, hk, h1, h2, _ => ⟨dep, B, hk, h1, fun _ z => z, fun _ z => by cases z⟩
  | y :: ys, dep, A, Q, B, hk, h1, h2, hy => by
    obtain ⟨d1, B1, k1, p1, p2, p3, p4⟩ := B.look hn hk h1 h2 (hy y (List.mem_cons_self ..))
    obtain ⟨d2, B2, k2, r1, r2, r3⟩ := Bf.looks hn ys (A := (K09.look h (A, Q) y).1) (Q := (K09.look h (A, Q) y).2) B1 k1 p1 p2 (fun z hz => hy z (List.mem_cons_of_mem _ hz))
    refine ⟨d2, B2, k2, r1, fun x hx => r2 x (p4 x hx), fun z hz => ?_⟩
    rcases List.mem_cons.mp hz with e | e
    · rw [e]; exact r2 y p3
    · exact r3 z e
/-- the first of the queue done -/
theorem Bf.turn {n a h : Nat} {dep : Nat → Nat} {A : Ahead} {Q : List Nat} (hn : ∀ a b, b ∈ N a → b < n) (B : Bf N n a dep A (h :: Q) fun x => x ∈ h :: Q) :
    ∃ dep', Bf N n a dep' ((N h).foldl (K09.look h) (A, Q)).1 ((N h).foldl (K09.look h) (A, Q)).2 fun x => x ∈ ((N h).foldl (K09.look h) (A, Q)).2 := by
  have qs := List.pairwise_cons.mp B.qs
  have B0 : Bf N n a dep A Q (fun x => x ∈ Q ∨ x = h) := ⟨B.nd, B.lt, B.root, B.dep0, B.par, B.non, fun x hx => B.q x (List.mem_cons_of_mem _ hx), qs.2, fun q hq => B.lvl q (List.mem_cons_of_mem _ hq), fun x hx ho => B.cl x hx fun z => ho (by
    rcases List.mem_cons.mp z with e | e
    · exact .inr e
    · exact .inl e), B.sm⟩
  obtain ⟨d, B1, k1, r1, r2, r3⟩ := Bf.looks hn (N h) B0 (B.q h (List.mem_cons_self ..)) (B.lvl h (List.mem_cons_self ..)) qs.1 (fun _ z => z)
  refine ⟨d, B1.nd, B1.lt, B1.root, B1.dep0, B1.par, B1.non, B1.q, B1.qs, B1.lvl, fun x hx ho y hy => ?_, B1.sm⟩
  by_cases e : x = h
  · subst e
    exact ⟨r3 y hy, r1 y (r3 y hy)⟩
  · exact B1.cl x hx (fun z => z.elim ho e) y hy
theorem Bf.begin {n a : Nat} (ha : a < n) : Bf N n a (fun _ => 0) [(a, none)] [a] fun x => x ∈ [a] :=
  ⟨by simp [ky], fun x hx => by simp [ky] at hx; omega, by simp, rfl, fun x p h => by simp at h, fun x h => by simpa using h, fun x h => by simpa [ky] using h, by simp, fun _ _ _ _ => by omega, fun x hx ho => absurd (by simpa [ky] using hx) ho, fun x hx => by simp⟩
theorem Bf.at_ {n a : Nat} {dep : Nat → Nat} {A : Ahead} {Q : List Nat} {O : Nat → Prop} (B : Bf N n a dep A Q O) : ∀ (k x : Nat), dep x = k → x ∈ ky A → At N a k x := by
  intro k
  induction k with
  | zero =>
    intro x e hx
    obtain ⟨⟨x', v⟩, hv, rfl⟩ := List.mem_map.mp hx
    cases v with
    | none => exact B.non _ hv
    | some p =>
      have := (B.par _ _ hv).2.2
      dsimp only at e
      omega
  | succ k ih =>
    intro x e hx
    obtain ⟨⟨x', v⟩, hv, rfl⟩ := List.mem_map.mp hx
    dsimp only at e
    cases v with
    | none =>
      have := B.non _ hv
      subst this
      rw [B.dep0] at e
      cases e
    | some p =>
      obtain ⟨p1, p2, p3⟩ := B.par _ _ hv
      exact ⟨p, ih p (by omega) p1, p2⟩
theorem Bf.near {n a : Nat} {dep : Nat → Nat} {A : Ahead} {Q : List Nat} (B : Bf N n a dep A Q fun x => x ∈ Q) : ∀ (k x : Nat), At N a k x → (x ∈ ky A ∧ dep x ≤ k) ∨ ∃ q ∈ Q, dep q < k := by
  intro k
  induction k with
  | zero =>
    intro x h
    have h : x = a := h
    subst h
    exact .inl ⟨List.mem_map.mpr ⟨_, B.root, rfl⟩, by rw [B.dep0]; exact Nat.le_refl _⟩
  | succ k ih =>
    rintro x ⟨y, h1, h2⟩
    rcases ih y h1 with ⟨h3, h4⟩ | ⟨q, h3, h4⟩
    · by_cases c : y ∈ Q
      · exact .inr ⟨y, c, by omega⟩
      · obtain ⟨c1, c2⟩ := B.cl y h3 c x h2
        exact .inl ⟨c1, by omega⟩
    · exact .inr ⟨q, h3, by omega⟩
theorem Bf.none_ {n a b : Nat} {dep : Nat → Nat} {A : Ahead} (B : Bf N n a dep A [] fun x => x ∈ ([] : List Nat)) (hb : b ∉ ky A) (k : Nat) : ¬ At N a k b := fun h => by
  rcases B.near k b h with ⟨h, _⟩ | ⟨q, h, _⟩
  · exact hb h
  · cases h
theorem Bf.least {n a b : Nat} {dep : Nat → Nat} {A : Ahead} {Q : List Nat} (B : Bf N n a dep A Q fun x => x ∈ Q) (hb : b ∈ ky A) : At N a (dep b) b ∧ ∀ k, k < dep b → ¬ At N a k b := by
  refine ⟨B.at_ _ _ rfl hb, fun k hk h => ?_⟩
  rcases B.near k b h with ⟨_, h⟩ | ⟨q, h, h'⟩
  · omega
  · have := B.lvl q h b hb
    omega
/-- the way back from b: to z so far -/
structure Back (N : Nat → List Nat) (A : Ahead) (dep : Nat → Nat) (b : Nat) (xs : List Nat) (z : Nat) : Prop where
  first : xs[0]? = some b
  last : xs[xs.length - 1]? = some z
  ne : 0 < xs.length
  key : z ∈ ky A
  len : xs.length + dep z = dep b + 1
  adj : ∀ i u v, xs[i]? = some u → xs[i + 1]? = some v → u ∈ N v
  lt : ∀ x ∈ xs, x ∈ ky A
  dec : xs.Pairwise fun u v => dep v < dep u
  low : ∀ x ∈ xs, dep z ≤ dep x
theorem Back.step {n a b z p : Nat} {dep : Nat → Nat} {A : Ahead} {Q : List Nat} {O : Nat → Prop} (B : Bf N n a dep A Q O) {xs : List Nat} (K : Back N A dep b xs z) (h : (z, some p) ∈ A) : Back N A dep b (xs ++ [p]) p := by
  obtain ⟨p1, p2, p3⟩ := B.par _ _ h
  refine ⟨?_, by simp, by simp, p1, ?_, ?_, ?_, ?_, ?_⟩
  · rw [List.getElem?_append_left K.ne]; exact K.first
  · have := K.len
    rw [List.length_append, List.length_singleton]
    omega
  · intro i u v hu hv
    by_cases c : i + 1 < xs.length
    · rw [List.getElem?_append_left (by omega)] at hu
      rw [List.getElem?_append_left c] at hv
      exact K.adj i u v hu hv
    · have hi : i + 1 = xs.length := by
        have := (List.getElem?_eq_some_iff.mp hv).1
        rw [List.length_append, List.length_singleton] at this
        omega
      rw [List.getElem?_append_left (by omega)] at hu
      rw [List.getElem?_append_right (by omega), hi, Nat.sub_self] at hv
      have e1 : xs[xs.length - 1]? = some u := by rw [← hu]; congr 1; omega
      rw [K.last] at e1
      cases e1
      cases hv
      exact p2
  · intro x hx
    rcases List.mem_append.mp hx with e | e
    · exact K.lt x e
    · rw [List.mem_singleton] at e
      rw [e]; exact p1
  · rw [List.pairwise_append]
    refine ⟨K.dec, by simp, fun u hu v hv => ?_⟩
    rw [List.mem_singleton] at hv
    rw [hv]
    have := K.low u hu
    omega
  · intro x hx
    rcases List.mem_append.mp hx with e | e
    · have := K.low x e
      omega
    · rw [List.mem_singleton] at e
      rw [e]
      exact Nat.le_refl _
theorem Back.begin {A : Ahead} {dep : Nat → Nat} {b : Nat} (h : b ∈ ky A) : Back N A dep b [b] b := ⟨rfl, rfl, by simp, h, by simp; omega, fun i u v _ hv => by simp at hv, fun x hx => by rw [List.mem_singleton] at hx; rw [hx]; exact h, by simp, fun x hx => by rw [List.mem_singleton] at hx; rw [hx]; exact Nat.le_refl _⟩
theorem Back.le {n a b z : Nat} {dep : Nat → Nat} {A : Ahead} {Q : List Nat} {O : Nat → Prop} (B : Bf N n a dep A Q O) {xs : List Nat} (K : Back N A dep b xs z) : xs.length ≤ n := nodup_le n xs (K.dec.imp fun h e => by subst e; omega) fun x hx => B.lt x (K.lt x hx)
end
end K09
end Mi
namespace Mi
open PySem PySem.Spec PyProof.Rows L2

namespace K09
variable {k : Nat} {M : Mem} {P : List Ord} {n : Nat} {N : Nat → List Nat}
/-! ### dicts by their keys -/
abbrev kD (F : List Nat) : List DK := F.map fun q => DK.i (q : Nat)
theorem put_new {F : List Nat} {xs : List D} {p : Nat} {v : D} (h : p ∉ F) : putKs (kD F) xs (.i (p : Nat)) v = (kD (F ++ [p]), xs ++ [v]) := by
  unfold putKs
  rw [contains_map, if_neg (by simpa using h)]
  simp
/-- the found ones and those to do; O: the places whose next ones may be lacking yet -/
structure Df (N : Nat → List Nat) (n : Nat) (F T : List Nat) (O : Nat → Prop) : Prop where
  nd : F.Nodup
  lt : ∀ x ∈ F, x < n
  zero : 0 ∈ F
  sound : ∀ x ∈ F, x = 0 ∨ TC N 0 x
  t : ∀ x ∈ T, x ∈ F
  tl : T.length ≤ F.length
  cl : ∀ x ∈ F, ¬ O x → ∀ y ∈ N x, y ∈ F
def lookD (s : List Nat × List Nat) (y : Nat) : List Nat × List Nat := if s.1.contains y then s else (s.1 ++ [y], s.2 ++ [y])
theorem Df.look {h y : Nat} {F T : List Nat} (hn : ∀ a b, b ∈ N a → b < n) (B : Df N n F T fun x => x ∈ T ∨ x = h) (hk : h ∈ F) (hy : y ∈ N h) :
    Df N n (lookD (F, T) y).1 (lookD (F, T) y).2 (fun x => x ∈ (lookD (F, T) y).2 ∨ x = h) ∧ y ∈ (lookD (F, T) y).1 ∧ ∀ x ∈ F, x ∈ (lookD (F, T) y).1 := by
  by_cases c : F.contains y = true
  · have e : lookD (F, T) y = (F, T) := if_pos c
    rw [e]
    exact ⟨B, by simpa using c, fun _ z => z⟩
  · have e : lookD (F, T) y = (F ++ [y], T ++ [y]) := if_neg c
    rw [e]
    have c' : y ∉ F := fun z => c (by simpa using z)
    refine ⟨⟨?_, ?_, List.mem_append_left _ B.zero, ?_, ?_, by simpa using B.tl, ?_⟩, List.mem_append_right _ (List.mem_singleton.mpr rfl), fun x hx => List.mem_append_left _ hx⟩
    · rw [List.nodup_append]
      exact ⟨B.nd, by simp, fun x hx z hz e => c' (by rw [List.mem_singleton] at hz; rw [← hz, ← e]; exact hx)⟩
    · intro x hx
      rcases List.mem_append.mp hx with z | z
      · exact B.lt x z
      · rw [List.mem_singleton] at z
        rw [z]; exact hn _ _ hy
    · intro x hx
      rcases List.mem_append.mp hx with z | z
      · exact B.sound x z
      · rw [List.mem_singleton] at z
        rw [z]
        rcases B.sound h hk with q | q
        · rw [q] at hy; exact .inr (.one hy)
        · exact .inr (q.then hy)
    · intro x hx
      rcases List.mem_append.mp hx with z | z
      · exact List.mem_append_left _ (B.t x z)
      · exact List.mem_append_right _ z
    · intro x hx ho z hz
      rcases List.mem_append.mp hx with u | u
      · exact List.mem_append_left _ (B.cl x u (fun w => ho (w.imp (List.mem_append_left _) id)) z hz)
      · exact absurd (.inl (List.mem_append_right _ u)) ho
theorem Df.looks {h : Nat} (hn : ∀ a b, b ∈ N a → b < n) : ∀ (ys : List Nat) {F T : List Nat}, Df N n F T (fun x => x ∈ T ∨ x = h) → h ∈ F → (∀ y ∈ ys, y ∈ N h) →
    Df N n (ys.foldl lookD (F, T)).1 (ys.foldl lookD (F, T)).2 (fun x => x ∈ (ys.foldl lookD (F, T)).2 ∨ x = h) ∧ (∀ x ∈ F, x ∈ (ys.foldl lookD (F, T)).1) ∧ ∀ y ∈ ys, y ∈ (ys.foldl lookD (F, T)).1
  | [], F, T, B, hk, _ => ⟨B, fun _ z => z, fun _ z => by cases z⟩
  | y :: ys, F, T, B, hk, hy => by
    obtain ⟨B1, p3, p4⟩ := B.look hn hk (hy y (List.mem_cons_self ..))
    obtain ⟨B2, r2, r3⟩ := Df.looks hn ys (F := (lookD (F, T) y).1) (T := (lookD (F, T) y).2) B1 (p4 h hk) (fun z hz => hy z (List.mem_cons_of_mem _ hz))
    refine ⟨B2, fun x hx => r2 x (p4 x hx), fun z hz => ?_⟩
    rcases List.mem_cons.mp hz with e | e
    · rw [e]; exact r2 y p3
    · exact r3 z e
theorem Df.turn {h : Nat} {F T : List Nat} (hn : ∀ a b, b ∈ N a → b < n) (B : Df N n F (T ++ [h]) fun x => x ∈ T ++ [h]) : Df N n ((N h).foldl lookD (F, T)).1 ((N h).foldl lookD (F, T)).2 fun x => x ∈ ((N h).foldl lookD (F, T)).2 := by
  have hk : h ∈ F := B.t h (List.mem_append_right _ (List.mem_singleton.mpr rfl))
  have B0 : Df N n F T (fun x => x ∈ T ∨ x = h) := ⟨B.nd, B.lt, B.zero, B.sound, fun x hx => B.t x (List.mem_append_left _ hx), by have := B.tl; rw [List.length_append, List.length_singleton] at this; omega, fun x hx ho => B.cl x hx fun z => ho (by
    rcases List.mem_append.mp z with e | e
    · exact .inl e
    · exact .inr (List.mem_singleton.mp e))⟩
  obtain ⟨B1, r2, r3⟩ := Df.looks hn (N h) B0 hk (fun _ z => z)
  refine ⟨B1.nd, B1.lt, B1.zero, B1.sound, B1.t, B1.tl, fun x hx ho y hy => ?_⟩
  by_cases e : x = h
  · subst e
    exact r3 y hy
  · exact B1.cl x hx (fun z => z.elim ho e) y hy
theorem Df.all {F : List Nat} (B : Df N n F [] fun x => x ∈ ([] : List Nat)) (x : Nat) : x ∈ F ↔ x = 0 ∨ TC N 0 x := by
  refine ⟨B.sound x, ?_⟩
  have cl : ∀ {a b}, TC N a b → a ∈ F → b ∈ F := by
    intro a b h
    induction h with
    | one e => exact fun ha => B.cl _ ha (fun z => by cases z) _ e
    | more e _ ih => exact fun ha => ih (B.cl _ ha (fun z => by cases z) _ e)
  rintro (h | h)
  · rw [h]; exact B.zero
  · exact cl h B.zero
theorem lookD_len : ∀ (ys : List Nat) (s : List Nat × List Nat), (ys.foldl lookD s).1.length - s.1.length = (ys.foldl lookD s).2.length - s.2.length ∧ s.1.length ≤ (ys.foldl lookD s).1.length ∧ s.2.length ≤ (ys.foldl lookD s).2.length
  | [], s => by simp
  | y :: ys, s => by
    obtain ⟨h1, h2, h3⟩ := lookD_len ys (lookD s y)
    rw [List.foldl_cons]
    by_cases c : s.1.contains y = true
    · have e : lookD s y = s := if_pos c
      rw [e] at h1 h2 h3 ⊢
      exact ⟨h1, h2, h3⟩
    · have e : lookD s y = (s.1 ++ [y], s.2 ++ [y]) := if_neg c
      rw [e] at h1 h2 h3 ⊢
      simp only [List.length_append, List.length_singleton] at h1 h2 h3
      omega
/-- the two objects of met_from -/
abbrev mM (M : Mem) (s : List Nat × List Nat) : Mem := M ++ [.dct (kD s.1) (s.1.map fun _ => .bl true), .lst (s.2.map nD)]
theorem mM_ok (hM : OkM M) (s : List Nat × List Nat) : OkM (mM M s) := hM.grow fun o ho => by
  rcases List.mem_cons.mp ho with e | e
  · rw [e]
    exact pures_all fun x hx => by
      obtain ⟨_, _, rfl⟩ := List.mem_map.mp hx
      rfl
  · rw [List.mem_singleton] at e
    rw [e]; exact nats_pure _
theorem not_in {F : List Nat} {y : Nat} : (!(F.map fun q => DK.i (q : Nat)).contains (DK.i (y : Nat))) = !F.contains y := by rw [contains_map]
theorem met_look {cf : CF} {F T : List Nat} {y : Nat} (h1 : F.length < 1000) (h2 : T.length < 1000) {z0 z1 : Option D} :
    exec cf (.seq (.iff (.cmp .NotIn (.var 4) (.var 2)) (.seq (.seti (.var 2) (.var 4) (.cst (.bl true))) (.seq (.expr (.mth .append (.var 3) (.cons (.var 4) .nil))) .skip)) .skip) .skip) [z0, z1, some (.ref M.length), some (.ref (M.length + 1)), some (nD y)] (mM M (F, T)) = some (.nx [z0, z1, some (.ref M.length), some (.ref (M.length + 1)), some (nD y)] (mM M (lookD (F, T) y))) := by
  have q1 : (kD F).length < line := by rw [List.length_map]; unfold line; omega
  have q2 : (T.map nD).length < line := by rw [List.length_map]; unfold line; omega
  have cm : (kD F).contains (DK.i (y : Nat)) = F.contains y := contains_map F y
  by_cases c : F.contains y = true
  · have e : lookD (F, T) y = (F, T) := if_pos c
    rw [e]
    rw [c] at cm
    generalize hX : (F.map fun _ => D.bl true) = X
    generalize hT : T.map nD = TT at q2
    simp only [mM, hX, hT]
    generalize kD F = KF at cm q1
    have cm2 : DK.i ((y : Nat) : Int) ∈ KF := by simpa using cm
    simp -implicitDefEqProofs [q_pr, q_bl, q_var, q_cst, q_bin, q_bin1, q_bin2, q_cmp, q_cmp1, q_cmp2, q_ch, q_ch1, q_ch2, q_ch3, q_neg, q_neg1, q_not, q_not1, q_not2, q_and, q_and1, q_and2, q_or, q_or1, q_or2, q_ite, q_ite1, q_ite2, q_tup, q_tup1, q_lst, q_lst1, q_dsp, q_dsp1, q_dsp2, q_idx, q_ix1, q_ix2, q_slice, q_sl1, q_sl2, q_sl3, q_slP00, q_slP10, q_slP01, q_slP11, q_slCt, q_slCl, q_rev, q_rev1, q_revD, q_revCl, q_revCt, q_call, q_call1, q_blt, q_blt1, q_isi, q_isi1, q_mth, q_m1, q_m2, q_m3, q_nil, q_cons, q_c1, q_c2, q_sSeq, q_sSeq1, q_sEnum, q_sEnum1, q_sR, q_sR1, q_sR2, q_sZ, q_sZ1, q_sZ2, q_seq, q_seqn, q_seqr, q_seqb, q_seqc, q_skip, q_brk, q_cont, q_asg, q_asg1, q_asg2, q_at_nm, q_at_tp, q_at_nil, q_at_cons, q_at1, q_box, q_box1, q_box2, q_bxl, q_bxd, q_bxf, q_par, q_par1, q_par2, q_bs0, q_bs, q_bs1, q_seti, q_st1, q_st2, q_st3, q_st4, q_putD, q_putL, q_putL1, q_putK, q_putKs, q_putK1, q_expr, q_ex1, q_ret, q_ret1, q_if, q_if1, q_if2, q_rd_non, q_rd_bl, q_rd_int, q_rd_str, q_rd_tup, q_rd_lst, q_rd_dct, q_rd_ref, q_rdOl, q_rdOd, q_seqOf, q_seqCt, q_seqCl, q_lstOf, q_lstCl, q_dctOf, q_dctCd, q_dctCt, q_dctCl, q_dctCs, q_truD, q_truCb, q_truCi, q_truCn, q_truCt, q_truCl, q_truCd, q_isiD, q_isiCn, q_isiCb, q_isiCi, q_isiCs, q_isiCt, q_isiCl, q_binD, b_add, b_sub, b_mul, b_div, b_mod, b_shl, b_pow, b_shr, b_and, b_or, b_xor, b_adds, b_addt, b_addl, b_mult, b_mull, q_nb, q_eq, q_ne, q_in, q_nin, q_lt, q_le, q_gt, q_ge, q_isb, q_isn, q_isi', q_ist, q_isl, q_iss, q_isbn, q_isr, q_isd, q_inb, q_inn, q_ini, q_int, q_inl, q_ins, q_inr, q_ind, q_eqii, q_eqss, q_eqbb, q_eqsi, q_eqtt, q_eqll, q_eqtn, q_eqnt, q_eqnn, q_ixD, q_ixC, q_ixK, q_ixKs, q_seqCd, q_lent, q_lenl, q_lend, q_lenr, q_lenCl, q_lenCd, q_abs, q_bint, q_bintb, q_bmin, q_bmax, q_btuple, q_bt1, q_blistt, q_blistl, q_blists, q_blistr, q_bll1, q_sset, q_sset1, q_lrange, q_trange, q_app, q_app1, flatD, eqv_str, eqv_int, eqv_bl, eqv_non, eqv_si, eqv_is, eqv_tup, eqv_lst, eqv_tn, eqv_nt, eqvs_nil, eqvs_cons, eqvs_nc, eqvs_cn, okN_non, okN_bl, okN_int, okN_str, okN_t64, okN_l64, okN_t63, okN_l63, okN_t62, okN_l62, okNs_nil, okNs_cons, eqS, setAll, inD, keyOf, ap0, ap1, st0, st1, cm2]
  · have e : lookD (F, T) y = (F ++ [y], T ++ [y]) := if_neg c
    rw [e]
    have c' : y ∉ F := fun z => c (by simpa using z)
    have c2 : F.contains y = false := by simpa using c'
    rw [c2] at cm
    have pn := put_new (xs := F.map fun _ => D.bl true) (v := .bl true) c'
    have eX : ((F ++ [y]).map fun _ => D.bl true) = (F.map fun _ => D.bl true) ++ [.bl true] := by simp
    have eT : (T ++ [y]).map nD = T.map nD ++ [nD y] := by simp
    simp only [mM, eX, eT]
    generalize (F.map fun _ => D.bl true) = X at pn
    generalize T.map nD = TT at q2
    generalize kD (F ++ [y]) = KF2 at pn
    generalize kD F = KF at cm q1 pn
    have k1 := q_putK1 (M := M ++ [MO.dct KF X, MO.lst TT]) (j := M.length) (xs := X) (v := D.bl true) (k := DK.i (y : Nat)) q1
    rw [pn] at k1
    have cm2 : ¬ DK.i ((y : Nat) : Int) ∈ KF := by simpa using cm
    simp -implicitDefEqProofs [q_pr, q_bl, q_var, q_cst, q_bin, q_bin1, q_bin2, q_cmp, q_cmp1, q_cmp2, q_ch, q_ch1, q_ch2, q_ch3, q_neg, q_neg1, q_not, q_not1, q_not2, q_and, q_and1, q_and2, q_or, q_or1, q_or2, q_ite, q_ite1, q_ite2, q_tup, q_tup1, q_lst, q_lst1, q_dsp, q_dsp1, q_dsp2, q_idx, q_ix1, q_ix2, q_slice, q_sl1, q_sl2, q_sl3, q_slP00, q_slP10, q_slP01, q_slP11, q_slCt, q_slCl, q_rev, q_rev1, q_revD, q_revCl, q_revCt, q_call, q_call1, q_blt, q_blt1, q_isi, q_isi1, q_mth, q_m1, q_m2, q_m3, q_nil, q_cons, q_c1, q_c2, q_sSeq, q_sSeq1, q_sEnum, q_sEnum1, q_sR, q_sR1, q_sR2, q_sZ, q_sZ1, q_sZ2, q_seq, q_seqn, q_seqr, q_seqb, q_seqc, q_skip, q_brk, q_cont, q_asg, q_asg1, q_asg2, q_at_nm, q_at_tp, q_at_nil, q_at_cons, q_at1, q_box, q_box1, q_box2, q_bxl, q_bxd, q_bxf, q_par, q_par1, q_par2, q_bs0, q_bs, q_bs1, q_seti, q_st1, q_st2, q_st3, q_st4, q_putD, q_putL, q_putL1, q_putK, q_putKs, q_putK1, q_expr, q_ex1, q_ret, q_ret1, q_if, q_if1, q_if2, q_rd_non, q_rd_bl, q_rd_int, q_rd_str, q_rd_tup, q_rd_lst, q_rd_dct, q_rd_ref, q_rdOl, q_rdOd, q_seqOf, q_seqCt, q_seqCl, q_lstOf, q_lstCl, q_dctOf, q_dctCd, q_dctCt, q_dctCl, q_dctCs, q_truD, q_truCb, q_truCi, q_truCn, q_truCt, q_truCl, q_truCd, q_isiD, q_isiCn, q_isiCb, q_isiCi, q_isiCs, q_isiCt, q_isiCl, q_binD, b_add, b_sub, b_mul, b_div, b_mod, b_shl, b_pow, b_shr, b_and, b_or, b_xor, b_adds, b_addt, b_addl, b_mult, b_mull, q_nb, q_eq, q_ne, q_in, q_nin, q_lt, q_le, q_gt, q_ge, q_isb, q_isn, q_isi', q_ist, q_isl, q_iss, q_isbn, q_isr, q_isd, q_inb, q_inn, q_ini, q_int, q_inl, q_ins, q_inr, q_ind, q_eqii, q_eqss, q_eqbb, q_eqsi, q_eqtt, q_eqll, q_eqtn, q_eqnt, q_eqnn, q_ixD, q_ixC, q_ixK, q_ixKs, q_seqCd, q_lent, q_lenl, q_lend, q_lenr, q_lenCl, q_lenCd, q_abs, q_bint, q_bintb, q_bmin, q_bmax, q_btuple, q_bt1, q_blistt, q_blistl, q_blists, q_blistr, q_bll1, q_sset, q_sset1, q_lrange, q_trange, q_app, q_app1, flatD, eqv_str, eqv_int, eqv_bl, eqv_non, eqv_si, eqv_is, eqv_tup, eqv_lst, eqv_tn, eqv_nt, eqvs_nil, eqvs_cons, eqvs_nc, eqvs_cn, okN_non, okN_bl, okN_int, okN_str, okN_t64, okN_l64, okN_t63, okN_l63, okN_t62, okN_l62, okNs_nil, okNs_cons, eqS, setAll, inD, keyOf, ap0, ap1, st0, st1, cm2, k1, q2]
theorem get_last {T : List Nat} {h : Nat} : ((T ++ [h]).map nD)[((T ++ [h]).map nD).length - 1]? = some (nD h) := by simp
theorem drop_last {T : List Nat} {h : Nat} : ((T ++ [h]).map nD).dropLast = T.map nD := by simp
def popO (M : Mem) (j : Nat) (o : Option MO) : Option (D × Mem) := match o with
    | some (.lst xs) => (xs[xs.length - 1]?).map fun y => (y, M.set j (.lst xs.dropLast))
    | _ => none
theorem q_pop {j : Nat} : mthD M .pop (.ref j) [] = popO M j M[j]? := rfl
theorem popO_last {j : Nat} {T : List Nat} {h : Nat} : popO M j (some (.lst ((T ++ [h]).map nD))) = some (nD h, M.set j (.lst (T.map nD))) := by
  show (((T ++ [h]).map nD)[((T ++ [h]).map nD).length - 1]?).map _ = _
  rw [get_last, ← drop_last (T := T) (h := h)]
  rfl
theorem met_from (hM : OkM M) (hP : POk P) : ∃ S : List Nat, S.Pairwise (· < ·) ∧ (∀ x, x ∈ S ↔ x = 0 ∨ TC (nxt P) 0 x) ∧ callD fs (k + 1) 28 [nsD P, .lst [.int 0]] M = some (nL S, M) := by
  have hn := nxt_lt hP
  let I : Nat → Sl → Mem → Prop := fun m σ M' => ∃ (F T : List Nat) (z : Option D), Df (nxt P) P.length F T (fun x => x ∈ T) ∧ m = 2 * (P.length - F.length) + T.length ∧ σ = [some (nsD P), some (.lst [.int 0]), some (.ref M.length), some (.ref (M.length + 1)), z] ∧ M' = mM M (F, T)
  obtain ⟨σ', M', hw, F, z, B, rfl, rfl⟩ := whl_ok (c := ev (callD fs k) (.cmp .NotEq (.var 3) (.lst .nil))) (b := exec (callD fs k) (.seq (.forr (.nm 4) (.sSeq (.idx (.var 0) (.mth .pop (.var 3) .nil))) (.seq (.iff (.cmp .NotIn (.var 4) (.var 2)) (.seq (.seti (.var 2) (.var 4) (.cst (.bl true))) (.seq (.expr (.mth .append (.var 3) (.cons (.var 4) .nil))) .skip)) .skip) .skip)) .skip)) I
    (fun σ M' => ∃ (F : List Nat) (z : Option D), Df (nxt P) P.length F [] (fun x => x ∈ ([] : List Nat)) ∧ σ = [some (nsD P), some (.lst [.int 0]), some (.ref M.length), some (.ref (M.length + 1)), z] ∧ M' = mM M (F, [])) (by
    rintro m σ M' ⟨F, T, z, B, rfl, rfl, rfl⟩
    have hF : F.length ≤ P.length := nodup_le _ F B.nd B.lt
    have h60 := hP.le
    have hc : ev (callD fs k) (.cmp .NotEq (.var 3) (.lst .nil)) [some (nsD P), some (.lst [.int 0]), some (.ref M.length), some (.ref (M.length + 1)), z] (mM M (F, T)) = some (.bl !T.isEmpty, mM M (F, T)) := by
      have en := eq_nil (l := T)
      simp only [nL] at en
      generalize nsD P = x
      simp only [mM]
      generalize (F.map fun _ => D.bl true) = X
      generalize kD F = KF
      generalize T.isEmpty = b at en
      generalize T.map nD = TT at en
      simp -implicitDefEqProofs [q_var, q_cmp, q_cmp1, q_cmp2, q_lst, q_nil, q_lst1, q_pr, q_bl, q_ne, q_nb, q_rd_ref, q_rdOl, q_rd_lst, ap0, ap1, en]
    refine ⟨_, _, _, hc, rfl, ?_⟩
    rcases List.eq_nil_or_concat T with e | ⟨T', h, e⟩
    · subst e
      exact .inl ⟨rfl, F, z, B, rfl, rfl⟩
    · rw [List.concat_eq_append] at e
      subst e
      have hk : h ∈ F := B.t h (List.mem_append_right _ (List.mem_singleton.mpr rfl))
      have hlt : h < P.length := B.lt h hk
      have hlen := lookD_len (nxt P h) (F, T')
      have Bt := B.turn hn
      have hF2 : ((nxt P h).foldl lookD (F, T')).1.length ≤ P.length := nodup_le _ _ Bt.nd Bt.lt
      have hsrc : evS (callD fs k) (.sSeq (.idx (.var 0) (.mth .pop (.var 3) .nil))) [some (nsD P), some (.lst [.int 0]), some (.ref M.length), some (.ref (M.length + 1)), z] (mM M (F, T' ++ [h])) = some (.seq (nL (nxt P h)), mM M (F, T')) := by
        have ha := nsD_at (P := P) hlt
        unfold nsD
        generalize ((List.range P.length).map fun p => nL (nxt P p)) = x at ha
        generalize nL (nxt P h) = y at ha
        simp only [mM]
        generalize (F.map fun _ => D.bl true) = X
        generalize kD F = KF
        have hp := popO_last (M := M ++ [MO.dct KF X, MO.lst ((T' ++ [h]).map nD)]) (j := M.length + 1) (T := T') (h := h)
        generalize (T' ++ [h]).map nD = TT at hp
        generalize T'.map nD = TT' at hp
        simp -implicitDefEqProofs [q_pr, q_bl, q_var, q_cst, q_bin, q_bin1, q_bin2, q_cmp, q_cmp1, q_cmp2, q_ch, q_ch1, q_ch2, q_ch3, q_neg, q_neg1, q_not, q_not1, q_not2, q_and, q_and1, q_and2, q_or, q_or1, q_or2, q_ite, q_ite1, q_ite2, q_tup, q_tup1, q_lst, q_lst1, q_dsp, q_dsp1, q_dsp2, q_idx, q_ix1, q_ix2, q_slice, q_sl1, q_sl2, q_sl3, q_slP00, q_slP10, q_slP01, q_slP11, q_slCt, q_slCl, q_rev, q_rev1, q_revD, q_revCl, q_revCt, q_call, q_call1, q_blt, q_blt1, q_isi, q_isi1, q_mth, q_m1, q_m2, q_m3, q_nil, q_cons, q_c1, q_c2, q_sSeq, q_sSeq1, q_sEnum, q_sEnum1, q_sR, q_sR1, q_sR2, q_sZ, q_sZ1, q_sZ2, q_seq, q_seqn, q_seqr, q_seqb, q_seqc, q_skip, q_brk, q_cont, q_asg, q_asg1, q_asg2, q_at_nm, q_at_tp, q_at_nil, q_at_cons, q_at1, q_box, q_box1, q_box2, q_bxl, q_bxd, q_bxf, q_par, q_par1, q_par2, q_bs0, q_bs, q_bs1, q_seti, q_st1, q_st2, q_st3, q_st4, q_putD, q_putL, q_putL1, q_putK, q_putKs, q_putK1, q_expr, q_ex1, q_ret, q_ret1, q_if, q_if1, q_if2, q_rd_non, q_rd_bl, q_rd_int, q_rd_str, q_rd_tup, q_rd_lst, q_rd_dct, q_rd_ref, q_rdOl, q_rdOd, q_seqOf, q_seqCt, q_seqCl, q_lstOf, q_lstCl, q_dctOf, q_dctCd, q_dctCt, q_dctCl, q_dctCs, q_truD, q_truCb, q_truCi, q_truCn, q_truCt, q_truCl, q_truCd, q_isiD, q_isiCn, q_isiCb, q_isiCi, q_isiCs, q_isiCt, q_isiCl, q_binD, b_add, b_sub, b_mul, b_div, b_mod, b_shl, b_pow, b_shr, b_and, b_or, b_xor, b_adds, b_addt, b_addl, b_mult, b_mull, q_nb, q_eq, q_ne, q_in, q_nin, q_lt, q_le, q_gt, q_ge, q_isb, q_isn, q_isi', q_ist, q_isl, q_iss, q_isbn, q_isr, q_isd, q_inb, q_inn, q_ini, q_int, q_inl, q_ins, q_inr, q_ind, q_eqii, q_eqss, q_eqbb, q_eqsi, q_eqtt, q_eqll, q_eqtn, q_eqnt, q_eqnn, q_ixD, q_ixC, q_ixK, q_ixKs, q_seqCd, q_lent, q_lenl, q_lend, q_lenr, q_lenCl, q_lenCd, q_abs, q_bint, q_bintb, q_bmin, q_bmax, q_btuple, q_bt1, q_blistt, q_blistl, q_blists, q_blistr, q_bll1, q_sset, q_sset1, q_lrange, q_trange, q_app, q_app1, flatD, eqv_str, eqv_int, eqv_bl, eqv_non, eqv_si, eqv_is, eqv_tup, eqv_lst, eqv_tn, eqv_nt, eqvs_nil, eqvs_cons, eqvs_nc, eqvs_cn, okN_non, okN_bl, okN_int, okN_str, okN_t64, okN_l64, okN_t63, okN_l63, okN_t62, okN_l62, okNs_nil, okNs_cons, eqS, setAll, inD, keyOf, q_pop, ap0, ap1, st0, st1, hp, ha]
      have hw2 : ∀ M', Walk (.seq (nL (nxt P h))) M' ((nxt P h).map nD) := fun M' => walk_seq rfl
      obtain ⟨σ2, M2, hf, z2, rfl, rfl⟩ := for_ok (s := .seq (nL (nxt P h))) (t := .nm 4) (b := exec (callD fs k) (.seq (.iff (.cmp .NotIn (.var 4) (.var 2)) (.seq (.seti (.var 2) (.var 4) (.cst (.bl true))) (.seq (.expr (.mth .append (.var 3) (.cons (.var 4) .nil))) .skip)) .skip) .skip)) ((nxt P h).map nD)
        (fun j σ M' => ∃ z, σ = [some (nsD P), some (.lst [.int 0]), some (.ref M.length), some (.ref (M.length + 1)), z] ∧ M' = mM M (((nxt P h).take j).foldl lookD (F, T'))) (fun _ _ M' _ => hw2 M') (by
        rintro j σ M' x hx ⟨z, rfl, rfl⟩
        rw [List.getElem?_map] at hx
        obtain ⟨y, hy, rfl⟩ := Option.map_eq_some_iff.mp hx
        have hsub : ∀ w ∈ (nxt P h).take j, w ∈ nxt P h := fun w hw => List.mem_of_mem_take hw
        have Bj := (Df.looks hn ((nxt P h).take j) (F := F) (T := T') (h := h) ⟨B.nd, B.lt, B.zero, B.sound, fun x hx => B.t x (List.mem_append_left _ hx), by have := B.tl; rw [List.length_append, List.length_singleton] at this; omega, fun x hx ho => B.cl x hx fun z => ho (by
          rcases List.mem_append.mp z with e | e
          · exact .inl e
          · exact .inr (List.mem_singleton.mp e))⟩ hk hsub).1
        have l1 : (((nxt P h).take j).foldl lookD (F, T')).1.length ≤ P.length := nodup_le _ _ Bj.nd Bj.lt
        have l2 := lookD_len ((nxt P h).take j) (F, T')
        have l3 := Bj.tl
        have h60 := hP.le
        have e : (nxt P h).take (j + 1) = (nxt P h).take j ++ [y] := by rw [List.take_succ, hy]; rfl
        refine ⟨_, rfl, _, _, .inl (met_look (F := (((nxt P h).take j).foldl lookD (F, T')).1) (T := (((nxt P h).take j).foldl lookD (F, T')).2) (by omega) (by omega)), _, rfl, ?_⟩
        rw [e, List.foldl_append]
        rfl) ((nxt P h).map nD).length 0 [some (nsD P), some (.lst [.int 0]), some (.ref M.length), some (.ref (M.length + 1)), z] (mM M (F, T')) (by omega) ⟨z, rfl, rfl⟩
      rw [show ((nxt P h).map nD).length = (nxt P h).length by simp, List.take_length] at *
      have hfor : exec (callD fs k) (.forr (.nm 4) (.sSeq (.idx (.var 0) (.mth .pop (.var 3) .nil))) (.seq (.iff (.cmp .NotIn (.var 4) (.var 2)) (.seq (.seti (.var 2) (.var 4) (.cst (.bl true))) (.seq (.expr (.mth .append (.var 3) (.cons (.var 4) .nil))) .skip)) .skip) .skip)) [some (nsD P), some (.lst [.int 0]), some (.ref M.length), some (.ref (M.length + 1)), z] (mM M (F, T' ++ [h])) = _ := exec_for (its := (nxt P h).map nD) hsrc (hw2 _) (by simpa using hf)
      refine .inr ⟨by simp, _, _, 2 * (P.length - ((nxt P h).foldl lookD (F, T')).1.length) + ((nxt P h).foldl lookD (F, T')).2.length, .inl ?_, ?_, _, _, z2, Bt, rfl, rfl, rfl⟩
      · rw [q_seq, hfor, q_seqn]
        rfl
      · rw [List.length_append, List.length_singleton]
        simp only at hlen
        omega) _ wfuel [some (nsD P), some (.lst [.int 0]), some (.ref M.length), some (.ref (M.length + 1)), none] (mM M ([0], [0])) (by have := hP.le; unfold wfuel; simp; omega) ⟨[0], [0], none, ⟨by simp, fun x hx => by rw [List.mem_singleton] at hx; rw [hx]; exact hP.ne, by simp, fun x hx => .inl (List.mem_singleton.mp hx), fun _ z => z, by simp, fun x hx ho => absurd hx ho⟩, rfl, rfl, rfl⟩
  refine ⟨(List.range P.length).filter fun q => F.contains q, range_sorted _ _, fun x => ?_, ?_⟩
  · rw [← B.all x]
    simp only [List.mem_filter, List.mem_range, List.contains_eq_mem, decide_eq_true_eq]
    exact ⟨fun h => h.2, fun h => ⟨B.lt x h, h⟩⟩
  · have hF : F.length ≤ P.length := nodup_le _ F B.nd B.lt
    have h60 := hP.le
    have se := sort_eq (F := F) (S := (List.range P.length).filter fun q => F.contains q) B.nd (fun p => by
      simp only [List.mem_filter, List.mem_range, List.contains_eq_mem, decide_eq_true_eq]
      exact ⟨fun h => ⟨B.lt p h, h⟩, fun h => h.2⟩) (range_sorted _ _)
    generalize ((List.range P.length).filter fun q => F.contains q) = S at se
    refine call_grow (f := f28) (l := [.dct (kD F) (F.map fun _ => .bl true), .lst (([] : List Nat).map nD)]) hM (nats_pure S) rfl rfl ?_
    show exec (callD fs k) b28 [some (nsD P), some (.lst [.int 0]), none, none, none] M = _
    unfold b28
    have h0 : exec (callD fs k) (.parN [2, 3] [true, true] (.cons (.blt .dict (.cons (.comp (.tup (.cons (.var 4) (.cons (.cst (.bl true)) .nil))) (.nm 4) (.sSeq (.var 1)) (.cst (.bl true)) [4]) .nil)) (.cons (.blt .list (.cons (.var 1) .nil)) .nil))) [some (nsD P), some (.lst [.int 0]), none, none, none] M = some (.nx [some (nsD P), some (.lst [.int 0]), some (.ref M.length), some (.ref (M.length + 1)), none] (mM M ([0], [0]))) := by
      have hcm : ev (callD fs k) (.comp (.tup (.cons (.var 4) (.cons (.cst (.bl true)) .nil))) (.nm 4) (.sSeq (.var 1)) (.cst (.bl true)) [4]) [some (nsD P), some (.lst [.int 0]), none, none, none] M = some (.lst [.tup [.int 0, .bl true]], M) := rfl
      rw [q_par, q_cons, q_blt, q_cons, hcm]
      generalize nsD P = x
      simp -implicitDefEqProofs [q_pr, q_bl, q_var, q_cst, q_bin, q_bin1, q_bin2, q_cmp, q_cmp1, q_cmp2, q_ch, q_ch1, q_ch2, q_ch3, q_neg, q_neg1, q_not, q_not1, q_not2, q_and, q_and1, q_and2, q_or, q_or1, q_or2, q_ite, q_ite1, q_ite2, q_tup, q_tup1, q_lst, q_lst1, q_dsp, q_dsp1, q_dsp2, q_idx, q_ix1, q_ix2, q_slice, q_sl1, q_sl2, q_sl3, q_slP00, q_slP10, q_slP01, q_slP11, q_slCt, q_slCl, q_rev, q_rev1, q_revD, q_revCl, q_revCt, q_call, q_call1, q_blt, q_blt1, q_isi, q_isi1, q_mth, q_m1, q_m2, q_m3, q_nil, q_cons, q_c1, q_c2, q_sSeq, q_sSeq1, q_sEnum, q_sEnum1, q_sR, q_sR1, q_sR2, q_sZ, q_sZ1, q_sZ2, q_seq, q_seqn, q_seqr, q_seqb, q_seqc, q_skip, q_brk, q_cont, q_asg, q_asg1, q_asg2, q_at_nm, q_at_tp, q_at_nil, q_at_cons, q_at1, q_box, q_box1, q_box2, q_bxl, q_bxd, q_bxf, q_par, q_par1, q_par2, q_bs0, q_bs, q_bs1, q_seti, q_st1, q_st2, q_st3, q_st4, q_putD, q_putL, q_putL1, q_putK, q_putKs, q_putK1, q_expr, q_ex1, q_ret, q_ret1, q_if, q_if1, q_if2, q_rd_non, q_rd_bl, q_rd_int, q_rd_str, q_rd_tup, q_rd_lst, q_rd_dct, q_rd_ref, q_rdOl, q_rdOd, q_seqOf, q_seqCt, q_seqCl, q_lstOf, q_lstCl, q_dctOf, q_dctCd, q_dctCt, q_dctCl, q_dctCs, q_truD, q_truCb, q_truCi, q_truCn, q_truCt, q_truCl, q_truCd, q_isiD, q_isiCn, q_isiCb, q_isiCi, q_isiCs, q_isiCt, q_isiCl, q_binD, b_add, b_sub, b_mul, b_div, b_mod, b_shl, b_pow, b_shr, b_and, b_or, b_xor, b_adds, b_addt, b_addl, b_mult, b_mull, q_nb, q_eq, q_ne, q_in, q_nin, q_lt, q_le, q_gt, q_ge, q_isb, q_isn, q_isi', q_ist, q_isl, q_iss, q_isbn, q_isr, q_isd, q_inb, q_inn, q_ini, q_int, q_inl, q_ins, q_inr, q_ind, q_eqii, q_eqss, q_eqbb, q_eqsi, q_eqtt, q_eqll, q_eqtn, q_eqnt, q_eqnn, q_ixD, q_ixC, q_ixK, q_ixKs, q_seqCd, q_lent, q_lenl, q_lend, q_lenr, q_lenCl, q_lenCd, q_abs, q_bint, q_bintb, q_bmin, q_bmax, q_btuple, q_bt1, q_blistt, q_blistl, q_blists, q_blistr, q_bll1, q_sset, q_sset1, q_lrange, q_trange, q_app, q_app1, flatD, eqv_str, eqv_int, eqv_bl, eqv_non, eqv_si, eqv_is, eqv_tup, eqv_lst, eqv_tn, eqv_nt, eqvs_nil, eqvs_cons, eqvs_nc, eqvs_cn, okN_non, okN_bl, okN_int, okN_str, okN_t64, okN_l64, okN_t63, okN_l63, okN_t62, okN_l62, okNs_nil, okNs_cons, eqS, setAll, inD, keyOf, bltD, lstOf, rd, fromPairs, putKs, mM]
    have hl : exec (callD fs k) (.whl (.cmp .NotEq (.var 3) (.lst .nil)) (.seq (.forr (.nm 4) (.sSeq (.idx (.var 0) (.mth .pop (.var 3) .nil))) (.seq (.iff (.cmp .NotIn (.var 4) (.var 2)) (.seq (.seti (.var 2) (.var 4) (.cst (.bl true))) (.seq (.expr (.mth .append (.var 3) (.cons (.var 4) .nil))) .skip)) .skip) .skip)) .skip)) [some (nsD P), some (.lst [.int 0]), some (.ref M.length), some (.ref (M.length + 1)), none] (mM M ([0], [0])) = _ := hw
    rw [q_seq, h0, q_seqn, q_seq, hl, q_seqn]
    have hso : bltD (mM M (F, [])) .sorted [.ref M.length] = some (nL S) := by
      show (match dctOf (mM M (F, [])) (.ref M.length) with
        | some (ks, _) => (keysI ks).bind fun ns => if ns.length < 64 then some (D.lst ((sortI ns).map .int)) else none
        | none => _) = _
      have hd : dctOf (mM M (F, [])) (.ref M.length) = some (kD F, F.map fun _ => .bl true) := by
        unfold dctOf rd
        simp only [mM, ap0]
        rfl
      rw [hd]
      show (keysI (kD F)).bind _ = _
      rw [keysI_map, Option.bind_some, if_pos (by rw [List.length_map]; omega), se, List.map_map]
      rfl
    generalize nsD P = x
    obtain ⟨MM, hMM⟩ : ∃ MM, mM M (F, []) = MM := ⟨_, rfl⟩
    rw [show M ++ [MO.dct (kD F) (F.map fun _ => D.bl true), MO.lst (([] : List Nat).map nD)] = MM from hMM]
    rw [hMM] at hso ⊢
    simp -implicitDefEqProofs [q_seq, q_ret, q_blt, q_cons, q_var, q_pr, q_c1, q_nil, q_c2, q_blt1, q_ret1, q_seqr, hso]
end K09
end Mi
namespace Mi
open PySem PySem.Spec PyProof.Rows L2

namespace K09
variable {k : Nat} {M : Mem} {P : List Ord} {n : Nat} {N : Nat → List Nat}
/-! ### shortest ways -/
abbrev aD (A : Ahead) : List D := A.map fun p => match p.2 with
  | none => D.non
  | some q => nD q
theorem aD_pure (A : Ahead) : D.pures (aD A) = true := pures_all fun x hx => by
  obtain ⟨⟨p, q⟩, _, rfl⟩ := List.mem_map.mp hx
  cases q <;> rfl
/-- the objects of way_in -/
abbrev wM (M : Mem) (s : Ahead × List Nat) : Mem := M ++ [.dct (kD (ky s.1)) (aD s.1), .lst (s.2.map nD)]
theorem way_look {cf : CF} {h : Nat} {A : Ahead} {Q : List Nat} {y : Nat} (h1 : A.length < 1000) (h2 : Q.length < 1000) {z0 z1 z2 z7 : Option D} :
    exec cf (.seq (.iff (.cmp .NotIn (.var 6) (.var 3)) (.seq (.seti (.var 3) (.var 6) (.var 5)) (.seq (.expr (.mth .append (.var 4) (.cons (.var 6) .nil))) .skip)) .skip) .skip) [z0, z1, z2, some (.ref M.length), some (.ref (M.length + 1)), some (nD h), some (nD y), z7] (wM M (A, Q)) = some (.nx [z0, z1, z2, some (.ref M.length), some (.ref (M.length + 1)), some (nD h), some (nD y), z7] (wM M (look h (A, Q) y))) := by
  have q1 : (kD (ky A)).length < line := by rw [List.length_map, List.length_map]; unfold line; omega
  have q2 : (Q.map nD).length < line := by rw [List.length_map]; unfold line; omega
  have cm : (kD (ky A)).contains (DK.i (y : Nat)) = (ky A).contains y := contains_map (ky A) y
  by_cases c : (ky A).contains y = true
  · have e : look h (A, Q) y = (A, Q) := if_pos c
    rw [e]
    rw [c] at cm
    simp only [wM]
    generalize aD A = X
    generalize Q.map nD = TT at q2
    generalize kD (ky A) = KF at cm q1
    have cm2 : DK.i ((y : Nat) : Int) ∈ KF := by simpa using cm
    simp -implicitDefEqProofs [q_pr, q_bl, q_var, q_cst, q_bin, q_bin1, q_bin2, q_cmp, q_cmp1, q_cmp2, q_ch, q_ch1, q_ch2, q_ch3, q_neg, q_neg1, q_not, q_not1, q_not2, q_and, q_and1, q_and2, q_or, q_or1, q_or2, q_ite, q_ite1, q_ite2, q_tup, q_tup1, q_lst, q_lst1, q_dsp, q_dsp1, q_dsp2, q_idx, q_ix1, q_ix2, q_slice, q_sl1, q_sl2, q_sl3, q_slP00, q_slP10, q_slP01, q_slP11, q_slCt, q_slCl, q_rev, q_rev1, q_revD, q_revCl, q_revCt, q_call, q_call1, q_blt, q_blt1, q_isi, q_isi1, q_mth, q_m1, q_m2, q_m3, q_nil, q_cons, q_c1, q_c2, q_sSeq, q_sSeq1, q_sEnum, q_sEnum1, q_sR, q_sR1, q_sR2, q_sZ, q_sZ1, q_sZ2, q_seq, q_seqn, q_seqr, q_seqb, q_seqc, q_skip, q_brk, q_cont, q_asg, q_asg1, q_asg2, q_at_nm, q_at_tp, q_at_nil, q_at_cons, q_at1, q_box, q_box1, q_box2, q_bxl, q_bxd, q_bxf, q_par, q_par1, q_par2, q_bs0, q_bs, q_bs1, q_seti, q_st1, q_st2, q_st3, q_st4, q_putD, q_putL, q_putL1, q_putK, q_putKs, q_putK1, q_expr, q_ex1, q_ret, q_ret1, q_if, q_if1, q_if2, q_rd_non, q_rd_bl, q_rd_int, q_rd_str, q_rd_tup, q_rd_lst, q_rd_dct, q_rd_ref, q_rdOl, q_rdOd, q_seqOf, q_seqCt, q_seqCl, q_lstOf, q_lstCl, q_dctOf, q_dctCd, q_dctCt, q_dctCl, q_dctCs, q_truD, q_truCb, q_truCi, q_truCn, q_truCt, q_truCl, q_truCd, q_isiD, q_isiCn, q_isiCb, q_isiCi, q_isiCs, q_isiCt, q_isiCl, q_binD, b_add, b_sub, b_mul, b_div, b_mod, b_shl, b_pow, b_shr, b_and, b_or, b_xor, b_adds, b_addt, b_addl, b_mult, b_mull, q_nb, q_eq, q_ne, q_in, q_nin, q_lt, q_le, q_gt, q_ge, q_isb, q_isn, q_isi', q_ist, q_isl, q_iss, q_isbn, q_isr, q_isd, q_inb, q_inn, q_ini, q_int, q_inl, q_ins, q_inr, q_ind, q_eqii, q_eqss, q_eqbb, q_eqsi, q_eqtt, q_eqll, q_eqtn, q_eqnt, q_eqnn, q_ixD, q_ixC, q_ixK, q_ixKs, q_seqCd, q_lent, q_lenl, q_lend, q_lenr, q_lenCl, q_lenCd, q_abs, q_bint, q_bintb, q_bmin, q_bmax, q_btuple, q_bt1, q_blistt, q_blistl, q_blists, q_blistr, q_bll1, q_sset, q_sset1, q_lrange, q_trange, q_app, q_app1, flatD, eqv_str, eqv_int, eqv_bl, eqv_non, eqv_si, eqv_is, eqv_tup, eqv_lst, eqv_tn, eqv_nt, eqvs_nil, eqvs_cons, eqvs_nc, eqvs_cn, okN_non, okN_bl, okN_int, okN_str, okN_t64, okN_l64, okN_t63, okN_l63, okN_t62, okN_l62, okNs_nil, okNs_cons, eqS, setAll, inD, keyOf, ap0, ap1, st0, st1, cm2]
  · have e : look h (A, Q) y = (A ++ [(y, some h)], Q ++ [y]) := if_neg c
    rw [e]
    have c' : y ∉ ky A := fun z => c (by simpa using z)
    have c2 : (ky A).contains y = false := by simpa using c'
    rw [c2] at cm
    have pn := put_new (xs := aD A) (v := nD h) c'
    have eK : ky (A ++ [(y, some h)]) = ky A ++ [y] := by simp [ky]
    have eX : aD (A ++ [(y, some h)]) = aD A ++ [nD h] := by simp [aD]
    have eT : (Q ++ [y]).map nD = Q.map nD ++ [nD y] := by simp
    simp only [wM, eX, eT, eK]
    generalize aD A = X at pn
    generalize Q.map nD = TT at q2
    generalize kD (ky A ++ [y]) = KF2 at pn
    generalize kD (ky A) = KF at cm q1 pn
    have k1 := q_putK1 (M := M ++ [MO.dct KF X, MO.lst TT]) (j := M.length) (xs := X) (v := nD h) (k := DK.i (y : Nat)) q1
    rw [pn] at k1
    simp only [nD] at k1
    have cm2 : ¬ DK.i ((y : Nat) : Int) ∈ KF := by simpa using cm
    simp -implicitDefEqProofs [q_pr, q_bl, q_var, q_cst, q_bin, q_bin1, q_bin2, q_cmp, q_cmp1, q_cmp2, q_ch, q_ch1, q_ch2, q_ch3, q_neg, q_neg1, q_not, q_not1, q_not2, q_and, q_and1, q_and2, q_or, q_or1, q_or2, q_ite, q_ite1, q_ite2, q_tup, q_tup1, q_lst, q_lst1, q_dsp, q_dsp1, q_dsp2, q_idx, q_ix1, q_ix2, q_slice, q_sl1, q_sl2, q_sl3, q_slP00, q_slP10, q_slP01, q_slP11, q_slCt, q_slCl, q_rev, q_rev1, q_revD, q_revCl, q_revCt, q_call, q_call1, q_blt, q_blt1, q_isi, q_isi1, q_mth, q_m1, q_m2, q_m3, q_nil, q_cons, q_c1, q_c2, q_sSeq, q_sSeq1, q_sEnum, q_sEnum1, q_sR, q_sR1, q_sR2, q_sZ, q_sZ1, q_sZ2, q_seq, q_seqn, q_seqr, q_seqb, q_seqc, q_skip, q_brk, q_cont, q_asg, q_asg1, q_asg2, q_at_nm, q_at_tp, q_at_nil, q_at_cons, q_at1, q_box, q_box1, q_box2, q_bxl, q_bxd, q_bxf, q_par, q_par1, q_par2, q_bs0, q_bs, q_bs1, q_seti, q_st1, q_st2, q_st3, q_st4, q_putD, q_putL, q_putL1, q_putK, q_putKs, q_putK1, q_expr, q_ex1, q_ret, q_ret1, q_if, q_if1, q_if2, q_rd_non, q_rd_bl, q_rd_int, q_rd_str, q_rd_tup, q_rd_lst, q_rd_dct, q_rd_ref, q_rdOl, q_rdOd, q_seqOf, q_seqCt, q_seqCl, q_lstOf, q_lstCl, q_dctOf, q_dctCd, q_dctCt, q_dctCl, q_dctCs, q_truD, q_truCb, q_truCi, q_truCn, q_truCt, q_truCl, q_truCd, q_isiD, q_isiCn, q_isiCb, q_isiCi, q_isiCs, q_isiCt, q_isiCl, q_binD, b_add, b_sub, b_mul, b_div, b_mod, b_shl, b_pow, b_shr, b_and, b_or, b_xor, b_adds, b_addt, b_addl, b_mult, b_mull, q_nb, q_eq, q_ne, q_in, q_nin, q_lt, q_le, q_gt, q_ge, q_isb, q_isn, q_isi', q_ist, q_isl, q_iss, q_isbn, q_isr, q_isd, q_inb, q_inn, q_ini, q_int, q_inl, q_ins, q_inr, q_ind, q_eqii, q_eqss, q_eqbb, q_eqsi, q_eqtt, q_eqll, q_eqtn, q_eqnt, q_eqnn, q_ixD, q_ixC, q_ixK, q_ixKs, q_seqCd, q_lent, q_lenl, q_lend, q_lenr, q_lenCl, q_lenCd, q_abs, q_bint, q_bintb, q_bmin, q_bmax, q_btuple, q_bt1, q_blistt, q_blistl, q_blists, q_blistr, q_bll1, q_sset, q_sset1, q_lrange, q_trange, q_app, q_app1, flatD, eqv_str, eqv_int, eqv_bl, eqv_non, eqv_si, eqv_is, eqv_tup, eqv_lst, eqv_tn, eqv_nt, eqvs_nil, eqvs_cons, eqvs_nc, eqvs_cn, okN_non, okN_bl, okN_int, okN_str, okN_t64, okN_l64, okN_t63, okN_l63, okN_t62, okN_l62, okNs_nil, okNs_cons, eqS, setAll, inD, keyOf, ap0, ap1, st0, st1, cm2, k1, q2]
theorem look_len : ∀ (ys : List Nat) (h : Nat) (s : Ahead × List Nat), (ys.foldl (look h) s).1.length - s.1.length = (ys.foldl (look h) s).2.length - s.2.length ∧ s.1.length ≤ (ys.foldl (look h) s).1.length ∧ s.2.length ≤ (ys.foldl (look h) s).2.length
  | [], h, s => by simp
  | y :: ys, h, s => by
    obtain ⟨h1, h2, h3⟩ := look_len ys h (look h s y)
    rw [List.foldl_cons]
    by_cases c : (ky s.1).contains y = true
    · have e : look h s y = s := if_pos c
      rw [e] at h1 h2 h3 ⊢
      exact ⟨h1, h2, h3⟩
    · have e : look h s y = (s.1 ++ [(y, some h)], s.2 ++ [y]) := if_neg c
      rw [e] at h1 h2 h3 ⊢
      simp only [List.length_append, List.length_singleton] at h1 h2 h3
      omega
theorem seq0 {n : Nat} (h : 0 < n) : seqIndex? 0 n = some 0 := by
  unfold seqIndex?
  simp
  omega
def popA (M : Mem) (j : Nat) (i : Int) (o : Option MO) : Option (D × Mem) := match o with
    | some (.lst xs) => if -9223372036854775808 ≤ i ∧ i < 9223372036854775808 then (seqIndex? i xs.length).bind fun k => (xs[k]?).map fun y => (y, M.set j (.lst (xs.eraseIdx k))) else none
    | _ => none
theorem q_popA {j : Nat} {i : Int} : mthD M .pop (.ref j) [.int i] = popA M j i M[j]? := rfl
theorem popA_0 {j : Nat} {x : D} {xs : List D} : popA M j 0 (some (.lst (x :: xs))) = some (x, M.set j (.lst xs)) := by
  show (if -9223372036854775808 ≤ (0 : Int) ∧ (0 : Int) < 9223372036854775808 then (seqIndex? 0 (x :: xs).length).bind fun k => ((x :: xs)[k]?).map fun y => (y, M.set j (.lst ((x :: xs).eraseIdx k))) else none) = _
  rw [if_pos (by decide), seq0 (by simp)]
  rfl
theorem look_k : ∀ {A : Ahead} {z : Nat} {v : Option Nat}, (ky A).Nodup → (z, v) ∈ A → lookK (kD (ky A)) (aD A) (.i (z : Nat)) = some (match v with
    | none => D.non
    | some q => nD q)
  | [], _, _, _, h => by cases h
  | (y, w) :: A, z, v, nd, h => by
    have nd' := List.nodup_cons.mp (show (y :: ky A).Nodup from nd)
    show (if DK.i (y : Nat) = DK.i (z : Nat) then some _ else lookK (kD (ky A)) (aD A) (.i (z : Nat))) = _
    rcases List.mem_cons.mp h with e | e
    · cases e
      rw [if_pos rfl]
    · have hz : z ∈ ky A := List.mem_map.mpr ⟨_, e, rfl⟩
      have ne : ¬ (DK.i (y : Int) = DK.i (z : Int)) := fun q => by
        have : (y : Int) = (z : Int) := DK.i.inj q
        have : y = z := by omega
        exact nd'.1 (this ▸ hz)
      rw [if_neg ne]
      exact look_k nd'.2 e
/-- what shortest_way tells: a way as short as can be, or None -/
def WayD (P : List Ord) (a b : Nat) (d : D) : Prop := (d = .non ∧ ∀ k, ¬ At (nxt P) a k b) ∨ ∃ (xs : List Nat) (dist : Nat), d = .tup (xs.reverse.map nD) ∧ xs.length = dist + 1 ∧ xs.length ≤ P.length ∧ xs[0]? = some b ∧ xs[xs.length - 1]? = some a ∧ (∀ x ∈ xs, x < P.length) ∧ (∀ i u v, xs[i]? = some u → xs[i + 1]? = some v → u ∈ nxt P v) ∧ At (nxt P) a dist b ∧ ∀ k, k < dist → ¬ At (nxt P) a k b
theorem way_in (hM : OkM M) (hP : POk P) {a b : Nat} (ha : a < P.length) (hb : b < P.length) : ∃ d, WayD P a b d ∧ callD fs (k + 1) 29 [nsD P, nD a, nD b] M = some (d, M) := by
  have hn := nxt_lt hP
  have h60 := hP.le
  let I : Nat → Sl → Mem → Prop := fun m σ M' => ∃ (A : Ahead) (Q : List Nat) (dep : Nat → Nat) (z5 z6 : Option D), Bf (nxt P) P.length a dep A Q (fun x => x ∈ Q) ∧ Q.length ≤ A.length ∧ m = 2 * (P.length - A.length) + Q.length ∧ σ = [some (nsD P), some (nD a), some (nD b), some (.ref M.length), some (.ref (M.length + 1)), z5, z6, none] ∧ M' = wM M (A, Q)
  obtain ⟨σ', M', hw, A, Q, dep, z5, z6, B, hend, rfl, rfl⟩ := whl_ok (c := ev (callD fs k) (.and (.cmp .NotEq (.var 4) (.lst .nil)) (.cmp .NotIn (.var 2) (.var 3)))) (b := exec (callD fs k) (.seq (.asg (.nm 5) (.mth .pop (.var 4) (.cons (.cst (.int 0)) .nil))) (.seq (.forr (.nm 6) (.sSeq (.idx (.var 0) (.var 5))) (.seq (.iff (.cmp .NotIn (.var 6) (.var 3)) (.seq (.seti (.var 3) (.var 6) (.var 5)) (.seq (.expr (.mth .append (.var 4) (.cons (.var 6) .nil))) .skip)) .skip) .skip)) .skip))) I
    (fun σ M' => ∃ (A : Ahead) (Q : List Nat) (dep : Nat → Nat) (z5 z6 : Option D), Bf (nxt P) P.length a dep A Q (fun x => x ∈ Q) ∧ (Q = [] ∨ b ∈ ky A) ∧ σ = [some (nsD P), some (nD a), some (nD b), some (.ref M.length), some (.ref (M.length + 1)), z5, z6, none] ∧ M' = wM M (A, Q)) (by
    rintro m σ M' ⟨A, Q, dep, z5, z6, B, hq, rfl, rfl, rfl⟩
    have hA : A.length ≤ P.length := by have := nodup_le _ (ky A) B.nd B.lt; rwa [List.length_map] at this
    have hc : ev (callD fs k) (.and (.cmp .NotEq (.var 4) (.lst .nil)) (.cmp .NotIn (.var 2) (.var 3))) [some (nsD P), some (nD a), some (nD b), some (.ref M.length), some (.ref (M.length + 1)), z5, z6, none] (wM M (A, Q)) = some (.bl (!Q.isEmpty && !(ky A).contains b), wM M (A, Q)) := by
      have en := eq_nil (l := Q)
      have cm : (kD (ky A)).contains (DK.i (b : Nat)) = (ky A).contains b := contains_map (ky A) b
      simp only [nL] at en
      generalize nsD P = x
      simp only [wM]
      generalize aD A = X
      generalize kD (ky A) = KF at cm
      generalize (ky A).contains b = cb at cm
      generalize Q.isEmpty = bq at en
      generalize Q.map nD = TT at en
      have en2 : cmpD (M ++ [MO.dct KF X, MO.lst TT]) .NotEq (.ref (M.length + 1)) (.lst []) = some !bq := by
        rw [q_ne, q_rd_ref, ap1, q_rdOl, q_rd_lst, en]
        rfl
      have cm2 : cmpD (M ++ [MO.dct KF X, MO.lst TT]) .NotIn (nD b) (.ref M.length) = some !cb := by
        rw [q_nin]
        unfold inD
        rw [q_rd_ref, ap0, q_rdOd]
        show (some (KF.contains (DK.i (b : Nat)))).map not = _
        rw [cm]
        rfl
      cases bq <;> simp -implicitDefEqProofs [q_and, q_cmp, q_var, q_pr, q_cmp1, q_lst, q_nil, q_lst1, q_cmp2, en2, q_bl, q_and1, q_truD, q_rd_bl, q_truCb, q_and2, cm2]
    refine ⟨_, _, _, hc, rfl, ?_⟩
    by_cases hb' : b ∈ ky A
    · exact .inl ⟨by simp [hb'], A, Q, dep, z5, z6, B, .inr hb', rfl, rfl⟩
    cases Q with
    | nil => exact .inl ⟨rfl, A, [], dep, z5, z6, B, .inl rfl, rfl, rfl⟩
    | cons h T =>
      have hk : h ∈ ky A := B.q h (List.mem_cons_self ..)
      have hlt : h < P.length := B.lt h hk
      have hlen := look_len (nxt P h) h (A, T)
      obtain ⟨dep', Bt⟩ := B.turn hn
      have hF2 : ((nxt P h).foldl (look h) (A, T)).1.length ≤ P.length := by have := nodup_le _ _ Bt.nd Bt.lt; rwa [List.length_map] at this
      have h1 : exec (callD fs k) (.asg (.nm 5) (.mth .pop (.var 4) (.cons (.cst (.int 0)) .nil))) [some (nsD P), some (nD a), some (nD b), some (.ref M.length), some (.ref (M.length + 1)), z5, z6, none] (wM M (A, h :: T)) = some (.nx [some (nsD P), some (nD a), some (nD b), some (.ref M.length), some (.ref (M.length + 1)), some (nD h), z6, none] (wM M (A, T))) := by
        generalize nsD P = x
        have e : (h :: T).map nD = nD h :: T.map nD := rfl
        simp only [wM, e]
        generalize aD A = X
        generalize kD (ky A) = KF
        generalize T.map nD = TT
        simp -implicitDefEqProofs [q_pr, q_bl, q_var, q_cst, q_bin, q_bin1, q_bin2, q_cmp, q_cmp1, q_cmp2, q_ch, q_ch1, q_ch2, q_ch3, q_neg, q_neg1, q_not, q_not1, q_not2, q_and, q_and1, q_and2, q_or, q_or1, q_or2, q_ite, q_ite1, q_ite2, q_tup, q_tup1, q_lst, q_lst1, q_dsp, q_dsp1, q_dsp2, q_idx, q_ix1, q_ix2, q_slice, q_sl1, q_sl2, q_sl3, q_slP00, q_slP10, q_slP01, q_slP11, q_slCt, q_slCl, q_rev, q_rev1, q_revD, q_revCl, q_revCt, q_call, q_call1, q_blt, q_blt1, q_isi, q_isi1, q_mth, q_m1, q_m2, q_m3, q_nil, q_cons, q_c1, q_c2, q_sSeq, q_sSeq1, q_sEnum, q_sEnum1, q_sR, q_sR1, q_sR2, q_sZ, q_sZ1, q_sZ2, q_seq, q_seqn, q_seqr, q_seqb, q_seqc, q_skip, q_brk, q_cont, q_asg, q_asg1, q_asg2, q_at_nm, q_at_tp, q_at_nil, q_at_cons, q_at1, q_box, q_box1, q_box2, q_bxl, q_bxd, q_bxf, q_par, q_par1, q_par2, q_bs0, q_bs, q_bs1, q_seti, q_st1, q_st2, q_st3, q_st4, q_putD, q_putL, q_putL1, q_putK, q_putKs, q_putK1, q_expr, q_ex1, q_ret, q_ret1, q_if, q_if1, q_if2, q_rd_non, q_rd_bl, q_rd_int, q_rd_str, q_rd_tup, q_rd_lst, q_rd_dct, q_rd_ref, q_rdOl, q_rdOd, q_seqOf, q_seqCt, q_seqCl, q_lstOf, q_lstCl, q_dctOf, q_dctCd, q_dctCt, q_dctCl, q_dctCs, q_truD, q_truCb, q_truCi, q_truCn, q_truCt, q_truCl, q_truCd, q_isiD, q_isiCn, q_isiCb, q_isiCi, q_isiCs, q_isiCt, q_isiCl, q_binD, b_add, b_sub, b_mul, b_div, b_mod, b_shl, b_pow, b_shr, b_and, b_or, b_xor, b_adds, b_addt, b_addl, b_mult, b_mull, q_nb, q_eq, q_ne, q_in, q_nin, q_lt, q_le, q_gt, q_ge, q_isb, q_isn, q_isi', q_ist, q_isl, q_iss, q_isbn, q_isr, q_isd, q_inb, q_inn, q_ini, q_int, q_inl, q_ins, q_inr, q_ind, q_eqii, q_eqss, q_eqbb, q_eqsi, q_eqtt, q_eqll, q_eqtn, q_eqnt, q_eqnn, q_ixD, q_ixC, q_ixK, q_ixKs, q_seqCd, q_lent, q_lenl, q_lend, q_lenr, q_lenCl, q_lenCd, q_abs, q_bint, q_bintb, q_bmin, q_bmax, q_btuple, q_bt1, q_blistt, q_blistl, q_blists, q_blistr, q_bll1, q_sset, q_sset1, q_lrange, q_trange, q_app, q_app1, flatD, eqv_str, eqv_int, eqv_bl, eqv_non, eqv_si, eqv_is, eqv_tup, eqv_lst, eqv_tn, eqv_nt, eqvs_nil, eqvs_cons, eqvs_nc, eqvs_cn, okN_non, okN_bl, okN_int, okN_str, okN_t64, okN_l64, okN_t63, okN_l63, okN_t62, okN_l62, okNs_nil, okNs_cons, eqS, setAll, inD, keyOf, q_popA, ap0, ap1, st0, st1, popA_0]
      have hsrc : evS (callD fs k) (.sSeq (.idx (.var 0) (.var 5))) [some (nsD P), some (nD a), some (nD b), some (.ref M.length), some (.ref (M.length + 1)), some (nD h), z6, none] (wM M (A, T)) = some (.seq (nL (nxt P h)), wM M (A, T)) := by
        have ha := nsD_at (P := P) hlt
        unfold nsD
        generalize ((List.range P.length).map fun p => nL (nxt P p)) = x at ha
        generalize nL (nxt P h) = y at ha
        generalize wM M (A, T) = MM
        simp -implicitDefEqProofs [q_pr, q_bl, q_var, q_cst, q_bin, q_bin1, q_bin2, q_cmp, q_cmp1, q_cmp2, q_ch, q_ch1, q_ch2, q_ch3, q_neg, q_neg1, q_not, q_not1, q_not2, q_and, q_and1, q_and2, q_or, q_or1, q_or2, q_ite, q_ite1, q_ite2, q_tup, q_tup1, q_lst, q_lst1, q_dsp, q_dsp1, q_dsp2, q_idx, q_ix1, q_ix2, q_slice, q_sl1, q_sl2, q_sl3, q_slP00, q_slP10, q_slP01, q_slP11, q_slCt, q_slCl, q_rev, q_rev1, q_revD, q_revCl, q_revCt, q_call, q_call1, q_blt, q_blt1, q_isi, q_isi1, q_mth, q_m1, q_m2, q_m3, q_nil, q_cons, q_c1, q_c2, q_sSeq, q_sSeq1, q_sEnum, q_sEnum1, q_sR, q_sR1, q_sR2, q_sZ, q_sZ1, q_sZ2, q_seq, q_seqn, q_seqr, q_seqb, q_seqc, q_skip, q_brk, q_cont, q_asg, q_asg1, q_asg2, q_at_nm, q_at_tp, q_at_nil, q_at_cons, q_at1, q_box, q_box1, q_box2, q_bxl, q_bxd, q_bxf, q_par, q_par1, q_par2, q_bs0, q_bs, q_bs1, q_seti, q_st1, q_st2, q_st3, q_st4, q_putD, q_putL, q_putL1, q_putK, q_putKs, q_putK1, q_expr, q_ex1, q_ret, q_ret1, q_if, q_if1, q_if2, q_rd_non, q_rd_bl, q_rd_int, q_rd_str, q_rd_tup, q_rd_lst, q_rd_dct, q_rd_ref, q_rdOl, q_rdOd, q_seqOf, q_seqCt, q_seqCl, q_lstOf, q_lstCl, q_dctOf, q_dctCd, q_dctCt, q_dctCl, q_dctCs, q_truD, q_truCb, q_truCi, q_truCn, q_truCt, q_truCl, q_truCd, q_isiD, q_isiCn, q_isiCb, q_isiCi, q_isiCs, q_isiCt, q_isiCl, q_binD, b_add, b_sub, b_mul, b_div, b_mod, b_shl, b_pow, b_shr, b_and, b_or, b_xor, b_adds, b_addt, b_addl, b_mult, b_mull, q_nb, q_eq, q_ne, q_in, q_nin, q_lt, q_le, q_gt, q_ge, q_isb, q_isn, q_isi', q_ist, q_isl, q_iss, q_isbn, q_isr, q_isd, q_inb, q_inn, q_ini, q_int, q_inl, q_ins, q_inr, q_ind, q_eqii, q_eqss, q_eqbb, q_eqsi, q_eqtt, q_eqll, q_eqtn, q_eqnt, q_eqnn, q_ixD, q_ixC, q_ixK, q_ixKs, q_seqCd, q_lent, q_lenl, q_lend, q_lenr, q_lenCl, q_lenCd, q_abs, q_bint, q_bintb, q_bmin, q_bmax, q_btuple, q_bt1, q_blistt, q_blistl, q_blists, q_blistr, q_bll1, q_sset, q_sset1, q_lrange, q_trange, q_app, q_app1, flatD, eqv_str, eqv_int, eqv_bl, eqv_non, eqv_si, eqv_is, eqv_tup, eqv_lst, eqv_tn, eqv_nt, eqvs_nil, eqvs_cons, eqvs_nc, eqvs_cn, okN_non, okN_bl, okN_int, okN_str, okN_t64, okN_l64, okN_t63, okN_l63, okN_t62, okN_l62, okNs_nil, okNs_cons, eqS, setAll, inD, keyOf, ha]
      have hw2 : ∀ M', Walk (.seq (nL (nxt P h))) M' ((nxt P h).map nD) := fun M' => walk_seq rfl
      have qs := List.pairwise_cons.mp B.qs
      have B0 : Bf (nxt P) P.length a dep A T (fun x => x ∈ T ∨ x = h) := ⟨B.nd, B.lt, B.root, B.dep0, B.par, B.non, fun x hx => B.q x (List.mem_cons_of_mem _ hx), qs.2, fun q hq => B.lvl q (List.mem_cons_of_mem _ hq), fun x hx ho => B.cl x hx fun z => ho (by
        rcases List.mem_cons.mp z with e | e
        · exact .inr e
        · exact .inl e), B.sm⟩
      obtain ⟨σ2, M2, hf, z2, rfl, rfl⟩ := for_ok (s := .seq (nL (nxt P h))) (t := .nm 6) (b := exec (callD fs k) (.seq (.iff (.cmp .NotIn (.var 6) (.var 3)) (.seq (.seti (.var 3) (.var 6) (.var 5)) (.seq (.expr (.mth .append (.var 4) (.cons (.var 6) .nil))) .skip)) .skip) .skip)) ((nxt P h).map nD)
        (fun j σ M' => ∃ z, σ = [some (nsD P), some (nD a), some (nD b), some (.ref M.length), some (.ref (M.length + 1)), some (nD h), z, none] ∧ M' = wM M (((nxt P h).take j).foldl (look h) (A, T))) (fun _ _ M' _ => hw2 M') (by
        rintro j σ M' x hx ⟨z, rfl, rfl⟩
        rw [List.getElem?_map] at hx
        obtain ⟨y, hy, rfl⟩ := Option.map_eq_some_iff.mp hx
        have hsub : ∀ w ∈ (nxt P h).take j, w ∈ nxt P h := fun w hw => List.mem_of_mem_take hw
        obtain ⟨dj, Bj, _⟩ := Bf.looks hn ((nxt P h).take j) B0 hk (B.lvl h (List.mem_cons_self ..)) qs.1 hsub
        have l1 : (((nxt P h).take j).foldl (look h) (A, T)).1.length ≤ P.length := by have := nodup_le _ _ Bj.nd Bj.lt; rwa [List.length_map] at this
        have l2 := look_len ((nxt P h).take j) h (A, T)
        rw [List.length_cons] at hq
        try simp only at l2
        have e : (nxt P h).take (j + 1) = (nxt P h).take j ++ [y] := by rw [List.take_succ, hy]; rfl
        refine ⟨_, rfl, _, _, .inl (way_look (h := h) (A := (((nxt P h).take j).foldl (look h) (A, T)).1) (Q := (((nxt P h).take j).foldl (look h) (A, T)).2) (by omega) (by omega)), _, rfl, ?_⟩
        rw [e, List.foldl_append]
        rfl) ((nxt P h).map nD).length 0 [some (nsD P), some (nD a), some (nD b), some (.ref M.length), some (.ref (M.length + 1)), some (nD h), z6, none] (wM M (A, T)) (by omega) ⟨z6, rfl, rfl⟩
      rw [show ((nxt P h).map nD).length = (nxt P h).length by simp, List.take_length] at hf
      have hfor : exec (callD fs k) (.forr (.nm 6) (.sSeq (.idx (.var 0) (.var 5))) (.seq (.iff (.cmp .NotIn (.var 6) (.var 3)) (.seq (.seti (.var 3) (.var 6) (.var 5)) (.seq (.expr (.mth .append (.var 4) (.cons (.var 6) .nil))) .skip)) .skip) .skip)) [some (nsD P), some (nD a), some (nD b), some (.ref M.length), some (.ref (M.length + 1)), some (nD h), z6, none] (wM M (A, T)) = _ := exec_for (its := (nxt P h).map nD) hsrc (hw2 _) (by simpa using hf)
      try simp only at hlen
      rw [List.length_cons] at hq
      refine .inr ⟨by simp [hb'], [some (nsD P), some (nD a), some (nD b), some (.ref M.length), some (.ref (M.length + 1)), some (nD h), z2, none], wM M ((nxt P h).foldl (look h) (A, T)), 2 * (P.length - ((nxt P h).foldl (look h) (A, T)).1.length) + ((nxt P h).foldl (look h) (A, T)).2.length, .inl ?_, ?_, ((nxt P h).foldl (look h) (A, T)).1, ((nxt P h).foldl (look h) (A, T)).2, dep', some (nD h), z2, Bt, ?_, rfl, rfl, rfl⟩
      · rw [q_seq, h1, q_seqn, q_seq, hfor, q_seqn]
        rfl
      · rw [List.length_cons]
        omega
      · show ((nxt P h).foldl (look h) (A, T)).2.length ≤ ((nxt P h).foldl (look h) (A, T)).1.length
        omega) _ wfuel [some (nsD P), some (nD a), some (nD b), some (.ref M.length), some (.ref (M.length + 1)), none, none, none] (wM M ([(a, none)], [a])) (by unfold wfuel; simp; omega) ⟨[(a, none)], [a], fun _ => 0, none, none, Bf.begin ha, by simp, rfl, rfl, rfl⟩
  have h0 : exec (callD fs k) (.parN [3, 4] [true, true] (.cons (.dsp (.cons (.var 1) (.cons (.cst .non) .nil))) (.cons (.lst (.cons (.var 1) .nil)) .nil))) [some (nsD P), some (nD a), some (nD b), none, none, none, none, none] M = some (.nx [some (nsD P), some (nD a), some (nD b), some (.ref M.length), some (.ref (M.length + 1)), none, none, none] (wM M ([(a, none)], [a]))) := by
    generalize nsD P = x
    simp -implicitDefEqProofs [q_pr, q_bl, q_var, q_cst, q_bin, q_bin1, q_bin2, q_cmp, q_cmp1, q_cmp2, q_ch, q_ch1, q_ch2, q_ch3, q_neg, q_neg1, q_not, q_not1, q_not2, q_and, q_and1, q_and2, q_or, q_or1, q_or2, q_ite, q_ite1, q_ite2, q_tup, q_tup1, q_lst, q_lst1, q_dsp, q_dsp1, q_dsp2, q_idx, q_ix1, q_ix2, q_slice, q_sl1, q_sl2, q_sl3, q_slP00, q_slP10, q_slP01, q_slP11, q_slCt, q_slCl, q_rev, q_rev1, q_revD, q_revCl, q_revCt, q_call, q_call1, q_blt, q_blt1, q_isi, q_isi1, q_mth, q_m1, q_m2, q_m3, q_nil, q_cons, q_c1, q_c2, q_sSeq, q_sSeq1, q_sEnum, q_sEnum1, q_sR, q_sR1, q_sR2, q_sZ, q_sZ1, q_sZ2, q_seq, q_seqn, q_seqr, q_seqb, q_seqc, q_skip, q_brk, q_cont, q_asg, q_asg1, q_asg2, q_at_nm, q_at_tp, q_at_nil, q_at_cons, q_at1, q_box, q_box1, q_box2, q_bxl, q_bxd, q_bxf, q_par, q_par1, q_par2, q_bs0, q_bs, q_bs1, q_seti, q_st1, q_st2, q_st3, q_st4, q_putD, q_putL, q_putL1, q_putK, q_putKs, q_putK1, q_expr, q_ex1, q_ret, q_ret1, q_if, q_if1, q_if2, q_rd_non, q_rd_bl, q_rd_int, q_rd_str, q_rd_tup, q_rd_lst, q_rd_dct, q_rd_ref, q_rdOl, q_rdOd, q_seqOf, q_seqCt, q_seqCl, q_lstOf, q_lstCl, q_dctOf, q_dctCd, q_dctCt, q_dctCl, q_dctCs, q_truD, q_truCb, q_truCi, q_truCn, q_truCt, q_truCl, q_truCd, q_isiD, q_isiCn, q_isiCb, q_isiCi, q_isiCs, q_isiCt, q_isiCl, q_binD, b_add, b_sub, b_mul, b_div, b_mod, b_shl, b_pow, b_shr, b_and, b_or, b_xor, b_adds, b_addt, b_addl, b_mult, b_mull, q_nb, q_eq, q_ne, q_in, q_nin, q_lt, q_le, q_gt, q_ge, q_isb, q_isn, q_isi', q_ist, q_isl, q_iss, q_isbn, q_isr, q_isd, q_inb, q_inn, q_ini, q_int, q_inl, q_ins, q_inr, q_ind, q_eqii, q_eqss, q_eqbb, q_eqsi, q_eqtt, q_eqll, q_eqtn, q_eqnt, q_eqnn, q_ixD, q_ixC, q_ixK, q_ixKs, q_seqCd, q_lent, q_lenl, q_lend, q_lenr, q_lenCl, q_lenCd, q_abs, q_bint, q_bintb, q_bmin, q_bmax, q_btuple, q_bt1, q_blistt, q_blistl, q_blists, q_blistr, q_bll1, q_sset, q_sset1, q_lrange, q_trange, q_app, q_app1, flatD, eqv_str, eqv_int, eqv_bl, eqv_non, eqv_si, eqv_is, eqv_tup, eqv_lst, eqv_tn, eqv_nt, eqvs_nil, eqvs_cons, eqvs_nc, eqvs_cn, okN_non, okN_bl, okN_int, okN_str, okN_t64, okN_l64, okN_t63, okN_l63, okN_t62, okN_l62, okNs_nil, okNs_cons, eqS, setAll, inD, keyOf, evenD, putKs, wM]
  have hl : exec (callD fs k) (.whl (.and (.cmp .NotEq (.var 4) (.lst .nil)) (.cmp .NotIn (.var 2) (.var 3))) (.seq (.asg (.nm 5) (.mth .pop (.var 4) (.cons (.cst (.int 0)) .nil))) (.seq (.forr (.nm 6) (.sSeq (.idx (.var 0) (.var 5))) (.seq (.iff (.cmp .NotIn (.var 6) (.var 3)) (.seq (.seti (.var 3) (.var 6) (.var 5)) (.seq (.expr (.mth .append (.var 4) (.cons (.var 6) .nil))) .skip)) .skip) .skip)) .skip))) [some (nsD P), some (nD a), some (nD b), some (.ref M.length), some (.ref (M.length + 1)), none, none, none] (wM M ([(a, none)], [a])) = _ := hw
  by_cases hk : b ∈ ky A
  · -- there
    have hA : A.length ≤ P.length := by have := nodup_le _ (ky A) B.nd B.lt; rwa [List.length_map] at this
    have h1 : exec (callD fs k) (.iff (.cmp .NotIn (.var 2) (.var 3)) (.seq (.ret (.cst .non)) .skip) .skip) [some (nsD P), some (nD a), some (nD b), some (.ref M.length), some (.ref (M.length + 1)), z5, z6, none] (wM M (A, Q)) = some (.nx [some (nsD P), some (nD a), some (nD b), some (.ref M.length), some (.ref (M.length + 1)), z5, z6, none] (wM M (A, Q))) := by
      have cm : (kD (ky A)).contains (DK.i (b : Nat)) = (ky A).contains b := contains_map (ky A) b
      have cb : (ky A).contains b = true := by simpa using hk
      rw [cb] at cm
      generalize nsD P = x
      simp only [wM]
      generalize aD A = X
      generalize kD (ky A) = KF at cm
      generalize Q.map nD = TT
      have cm2 : DK.i ((b : Nat) : Int) ∈ KF := by simpa using cm
      simp -implicitDefEqProofs [q_pr, q_bl, q_var, q_cst, q_bin, q_bin1, q_bin2, q_cmp, q_cmp1, q_cmp2, q_ch, q_ch1, q_ch2, q_ch3, q_neg, q_neg1, q_not, q_not1, q_not2, q_and, q_and1, q_and2, q_or, q_or1, q_or2, q_ite, q_ite1, q_ite2, q_tup, q_tup1, q_lst, q_lst1, q_dsp, q_dsp1, q_dsp2, q_idx, q_ix1, q_ix2, q_slice, q_sl1, q_sl2, q_sl3, q_slP00, q_slP10, q_slP01, q_slP11, q_slCt, q_slCl, q_rev, q_rev1, q_revD, q_revCl, q_revCt, q_call, q_call1, q_blt, q_blt1, q_isi, q_isi1, q_mth, q_m1, q_m2, q_m3, q_nil, q_cons, q_c1, q_c2, q_sSeq, q_sSeq1, q_sEnum, q_sEnum1, q_sR, q_sR1, q_sR2, q_sZ, q_sZ1, q_sZ2, q_seq, q_seqn, q_seqr, q_seqb, q_seqc, q_skip, q_brk, q_cont, q_asg, q_asg1, q_asg2, q_at_nm, q_at_tp, q_at_nil, q_at_cons, q_at1, q_box, q_box1, q_box2, q_bxl, q_bxd, q_bxf, q_par, q_par1, q_par2, q_bs0, q_bs, q_bs1, q_seti, q_st1, q_st2, q_st3, q_st4, q_putD, q_putL, q_putL1, q_putK, q_putKs, q_putK1, q_expr, q_ex1, q_ret, q_ret1, q_if, q_if1, q_if2, q_rd_non, q_rd_bl, q_rd_int, q_rd_str, q_rd_tup, q_rd_lst, q_rd_dct, q_rd_ref, q_rdOl, q_rdOd, q_seqOf, q_seqCt, q_seqCl, q_lstOf, q_lstCl, q_dctOf, q_dctCd, q_dctCt, q_dctCl, q_dctCs, q_truD, q_truCb, q_truCi, q_truCn, q_truCt, q_truCl, q_truCd, q_isiD, q_isiCn, q_isiCb, q_isiCi, q_isiCs, q_isiCt, q_isiCl, q_binD, b_add, b_sub, b_mul, b_div, b_mod, b_shl, b_pow, b_shr, b_and, b_or, b_xor, b_adds, b_addt, b_addl, b_mult, b_mull, q_nb, q_eq, q_ne, q_in, q_nin, q_lt, q_le, q_gt, q_ge, q_isb, q_isn, q_isi', q_ist, q_isl, q_iss, q_isbn, q_isr, q_isd, q_inb, q_inn, q_ini, q_int, q_inl, q_ins, q_inr, q_ind, q_eqii, q_eqss, q_eqbb, q_eqsi, q_eqtt, q_eqll, q_eqtn, q_eqnt, q_eqnn, q_ixD, q_ixC, q_ixK, q_ixKs, q_seqCd, q_lent, q_lenl, q_lend, q_lenr, q_lenCl, q_lenCd, q_abs, q_bint, q_bintb, q_bmin, q_bmax, q_btuple, q_bt1, q_blistt, q_blistl, q_blists, q_blistr, q_bll1, q_sset, q_sset1, q_lrange, q_trange, q_app, q_app1, flatD, eqv_str, eqv_int, eqv_bl, eqv_non, eqv_si, eqv_is, eqv_tup, eqv_lst, eqv_tn, eqv_nt, eqvs_nil, eqvs_cons, eqvs_nc, eqvs_cn, okN_non, okN_bl, okN_int, okN_str, okN_t64, okN_l64, okN_t63, okN_l63, okN_t62, okN_l62, okNs_nil, okNs_cons, eqS, setAll, inD, keyOf, ap0, ap1, cm2]
    have h2 : exec (callD fs k) (.box 7 (.lst (.cons (.var 2) .nil))) [some (nsD P), some (nD a), some (nD b), some (.ref M.length), some (.ref (M.length + 1)), z5, z6, none] (wM M (A, Q)) = some (.nx [some (nsD P), some (nD a), some (nD b), some (.ref M.length), some (.ref (M.length + 1)), z5, z6, some (.ref (M.length + 2))] (wM M (A, Q) ++ [.lst ([b].map nD)])) := by
      generalize nsD P = x
      simp -implicitDefEqProofs [q_pr, q_bl, q_var, q_cst, q_bin, q_bin1, q_bin2, q_cmp, q_cmp1, q_cmp2, q_ch, q_ch1, q_ch2, q_ch3, q_neg, q_neg1, q_not, q_not1, q_not2, q_and, q_and1, q_and2, q_or, q_or1, q_or2, q_ite, q_ite1, q_ite2, q_tup, q_tup1, q_lst, q_lst1, q_dsp, q_dsp1, q_dsp2, q_idx, q_ix1, q_ix2, q_slice, q_sl1, q_sl2, q_sl3, q_slP00, q_slP10, q_slP01, q_slP11, q_slCt, q_slCl, q_rev, q_rev1, q_revD, q_revCl, q_revCt, q_call, q_call1, q_blt, q_blt1, q_isi, q_isi1, q_mth, q_m1, q_m2, q_m3, q_nil, q_cons, q_c1, q_c2, q_sSeq, q_sSeq1, q_sEnum, q_sEnum1, q_sR, q_sR1, q_sR2, q_sZ, q_sZ1, q_sZ2, q_seq, q_seqn, q_seqr, q_seqb, q_seqc, q_skip, q_brk, q_cont, q_asg, q_asg1, q_asg2, q_at_nm, q_at_tp, q_at_nil, q_at_cons, q_at1, q_box, q_box1, q_box2, q_bxl, q_bxd, q_bxf, q_par, q_par1, q_par2, q_bs0, q_bs, q_bs1, q_seti, q_st1, q_st2, q_st3, q_st4, q_putD, q_putL, q_putL1, q_putK, q_putKs, q_putK1, q_expr, q_ex1, q_ret, q_ret1, q_if, q_if1, q_if2, q_rd_non, q_rd_bl, q_rd_int, q_rd_str, q_rd_tup, q_rd_lst, q_rd_dct, q_rd_ref, q_rdOl, q_rdOd, q_seqOf, q_seqCt, q_seqCl, q_lstOf, q_lstCl, q_dctOf, q_dctCd, q_dctCt, q_dctCl, q_dctCs, q_truD, q_truCb, q_truCi, q_truCn, q_truCt, q_truCl, q_truCd, q_isiD, q_isiCn, q_isiCb, q_isiCi, q_isiCs, q_isiCt, q_isiCl, q_binD, b_add, b_sub, b_mul, b_div, b_mod, b_shl, b_pow, b_shr, b_and, b_or, b_xor, b_adds, b_addt, b_addl, b_mult, b_mull, q_nb, q_eq, q_ne, q_in, q_nin, q_lt, q_le, q_gt, q_ge, q_isb, q_isn, q_isi', q_ist, q_isl, q_iss, q_isbn, q_isr, q_isd, q_inb, q_inn, q_ini, q_int, q_inl, q_ins, q_inr, q_ind, q_eqii, q_eqss, q_eqbb, q_eqsi, q_eqtt, q_eqll, q_eqtn, q_eqnt, q_eqnn, q_ixD, q_ixC, q_ixK, q_ixKs, q_seqCd, q_lent, q_lenl, q_lend, q_lenr, q_lenCl, q_lenCd, q_abs, q_bint, q_bintb, q_bmin, q_bmax, q_btuple, q_bt1, q_blistt, q_blistl, q_blists, q_blistr, q_bll1, q_sset, q_sset1, q_lrange, q_trange, q_app, q_app1, flatD, eqv_str, eqv_int, eqv_bl, eqv_non, eqv_si, eqv_is, eqv_tup, eqv_lst, eqv_tn, eqv_nt, eqvs_nil, eqvs_cons, eqvs_nc, eqvs_cn, okN_non, okN_bl, okN_int, okN_str, okN_t64, okN_l64, okN_t63, okN_l63, okN_t62, okN_l62, okNs_nil, okNs_cons, eqS, setAll, inD, keyOf]
    let J : Nat → Sl → Mem → Prop := fun m σ M' => ∃ (xs : List Nat) (z : Nat), Back (nxt P) A dep b xs z ∧ m = dep z ∧ σ = [some (nsD P), some (nD a), some (nD b), some (.ref M.length), some (.ref (M.length + 1)), z5, z6, some (.ref (M.length + 2))] ∧ M' = wM M (A, Q) ++ [.lst (xs.map nD)]
    have hl2 : ∀ {xs : List Nat} {z : Nat}, xs[xs.length - 1]? = some z → atI (xs.map nD) (-1) = some (nD z) := fun {xs z} h => atI_last' (by rw [List.length_map, List.getElem?_map, h]; rfl)
    have hix : ∀ {xs : List Nat} {z : Nat} {v : Option Nat}, xs[xs.length - 1]? = some z → (z, v) ∈ A → ev (callD fs k) (.idx (.var 3) (.idx (.var 7) (.neg (.cst (.int 1))))) [some (nsD P), some (nD a), some (nD b), some (.ref M.length), some (.ref (M.length + 1)), z5, z6, some (.ref (M.length + 2))] (wM M (A, Q) ++ [.lst (xs.map nD)]) = some (match v with
        | none => D.non
        | some q => nD q, wM M (A, Q) ++ [.lst (xs.map nD)]) := fun {xs z v} h hv => by
      have a1 := hl2 h
      have a2 := look_k B.nd hv
      generalize (match v with
        | none => D.non
        | some q => nD q) = r at a2
      have ap2 : ∀ {x y w : MO}, (M ++ [x, y, w])[M.length + 2]? = some w := fun {x y w} => by
        rw [List.getElem?_append_right (by omega)]
        simp
      have ea : wM M (A, Q) ++ [.lst (xs.map nD)] = M ++ [.dct (kD (ky A)) (aD A), .lst (Q.map nD), .lst (xs.map nD)] := by simp [wM]
      rw [ea]
      generalize xs.map nD = X at a1
      generalize aD A = Y at a2
      generalize kD (ky A) = K at a2
      generalize Q.map nD = TT
      generalize nsD P = x
      simp only [nD] at a1
      simp -implicitDefEqProofs [q_pr, q_bl, q_var, q_cst, q_bin, q_bin1, q_bin2, q_cmp, q_cmp1, q_cmp2, q_ch, q_ch1, q_ch2, q_ch3, q_neg, q_neg1, q_not, q_not1, q_not2, q_and, q_and1, q_and2, q_or, q_or1, q_or2, q_ite, q_ite1, q_ite2, q_tup, q_tup1, q_lst, q_lst1, q_dsp, q_dsp1, q_dsp2, q_idx, q_ix1, q_ix2, q_slice, q_sl1, q_sl2, q_sl3, q_slP00, q_slP10, q_slP01, q_slP11, q_slCt, q_slCl, q_rev, q_rev1, q_revD, q_revCl, q_revCt, q_call, q_call1, q_blt, q_blt1, q_isi, q_isi1, q_mth, q_m1, q_m2, q_m3, q_nil, q_cons, q_c1, q_c2, q_sSeq, q_sSeq1, q_sEnum, q_sEnum1, q_sR, q_sR1, q_sR2, q_sZ, q_sZ1, q_sZ2, q_seq, q_seqn, q_seqr, q_seqb, q_seqc, q_skip, q_brk, q_cont, q_asg, q_asg1, q_asg2, q_at_nm, q_at_tp, q_at_nil, q_at_cons, q_at1, q_box, q_box1, q_box2, q_bxl, q_bxd, q_bxf, q_par, q_par1, q_par2, q_bs0, q_bs, q_bs1, q_seti, q_st1, q_st2, q_st3, q_st4, q_putD, q_putL, q_putL1, q_putK, q_putKs, q_putK1, q_expr, q_ex1, q_ret, q_ret1, q_if, q_if1, q_if2, q_rd_non, q_rd_bl, q_rd_int, q_rd_str, q_rd_tup, q_rd_lst, q_rd_dct, q_rd_ref, q_rdOl, q_rdOd, q_seqOf, q_seqCt, q_seqCl, q_lstOf, q_lstCl, q_dctOf, q_dctCd, q_dctCt, q_dctCl, q_dctCs, q_truD, q_truCb, q_truCi, q_truCn, q_truCt, q_truCl, q_truCd, q_isiD, q_isiCn, q_isiCb, q_isiCi, q_isiCs, q_isiCt, q_isiCl, q_binD, b_add, b_sub, b_mul, b_div, b_mod, b_shl, b_pow, b_shr, b_and, b_or, b_xor, b_adds, b_addt, b_addl, b_mult, b_mull, q_nb, q_eq, q_ne, q_in, q_nin, q_lt, q_le, q_gt, q_ge, q_isb, q_isn, q_isi', q_ist, q_isl, q_iss, q_isbn, q_isr, q_isd, q_inb, q_inn, q_ini, q_int, q_inl, q_ins, q_inr, q_ind, q_eqii, q_eqss, q_eqbb, q_eqsi, q_eqtt, q_eqll, q_eqtn, q_eqnt, q_eqnn, q_ixD, q_ixC, q_ixK, q_ixKs, q_seqCd, q_lent, q_lenl, q_lend, q_lenr, q_lenCl, q_lenCd, q_abs, q_bint, q_bintb, q_bmin, q_bmax, q_btuple, q_bt1, q_blistt, q_blistl, q_blists, q_blistr, q_bll1, q_sset, q_sset1, q_lrange, q_trange, q_app, q_app1, flatD, eqv_str, eqv_int, eqv_bl, eqv_non, eqv_si, eqv_is, eqv_tup, eqv_lst, eqv_tn, eqv_nt, eqvs_nil, eqvs_cons, eqvs_nc, eqvs_cn, okN_non, okN_bl, okN_int, okN_str, okN_t64, okN_l64, okN_t63, okN_l63, okN_t62, okN_l62, okNs_nil, okNs_cons, eqS, setAll, inD, keyOf, ap0, ap1, ap2, a1, a2]
    obtain ⟨σ', M', hw2, xs, K, rfl, rfl⟩ := whl_ok (c := ev (callD fs k) (.cmp .IsNot (.idx (.var 3) (.idx (.var 7) (.neg (.cst (.int 1))))) (.cst .non))) (b := exec (callD fs k) (.seq (.expr (.mth .append (.var 7) (.cons (.idx (.var 3) (.idx (.var 7) (.neg (.cst (.int 1))))) .nil))) .skip)) J
      (fun σ M' => ∃ (xs : List Nat), Back (nxt P) A dep b xs a ∧ σ = [some (nsD P), some (nD a), some (nD b), some (.ref M.length), some (.ref (M.length + 1)), z5, z6, some (.ref (M.length + 2))] ∧ M' = wM M (A, Q) ++ [.lst (xs.map nD)]) (by
      rintro m σ M' ⟨xs, z, K, rfl, rfl, rfl⟩
      obtain ⟨⟨z', v⟩, hv, rfl⟩ := List.mem_map.mp K.key
      have hi := hix K.last hv
      have hlen := K.le B
      cases v with
      | none =>
        refine ⟨.bl false, _, false, ?_, rfl, .inl ⟨rfl, xs, ?_, rfl, rfl⟩⟩
        · rw [q_cmp, hi]
          rfl
        · have := B.non _ hv
          dsimp only at K this
          rw [this] at K
          exact K
      | some p =>
        obtain ⟨p1, p2, p3⟩ := B.par _ _ hv
        refine ⟨.bl true, wM M (A, Q) ++ [.lst (xs.map nD)], true, ?_, rfl, .inr ⟨rfl, _, wM M (A, Q) ++ [.lst ((xs ++ [p]).map nD)], dep p, .inl ?_, (show dep p < dep z' by have p3 : dep z' = dep p + 1 := p3; omega), xs ++ [p], p, K.step B hv, rfl, rfl, rfl⟩⟩
        · rw [q_cmp, hi]
          rfl
        · have hz : (xs.map nD).length < line := by rw [List.length_map]; unfold line; omega
          have ap2 : ∀ {x y w : MO}, (M ++ [x, y, w])[M.length + 2]? = some w := fun {x y w} => by
            rw [List.getElem?_append_right (by omega)]
            simp
          have st2 : ∀ {x y w u : MO}, (M ++ [x, y, w]).set (M.length + 2) u = M ++ [x, y, u] := fun {x y w u} => by
            rw [List.set_append_right _ _ (by omega)]
            simp
          have ea : ∀ X : List D, wM M (A, Q) ++ [.lst X] = M ++ [.dct (kD (ky A)) (aD A), .lst (Q.map nD), .lst X] := fun X => by simp [wM]
          have ex : (xs ++ [p]).map nD = xs.map nD ++ [nD p] := by simp
          have hi2 : ∀ {z7 : Sl}, z7 = [some (nsD P), some (nD a), some (nD b), some (.ref M.length), some (.ref (M.length + 1)), z5, z6, some (.ref (M.length + 2))] → ev (callD fs k) (.idx (.var 3) (.idx (.var 7) (.neg (.cst (.int 1))))) z7 (M ++ [.dct (kD (ky A)) (aD A), .lst (Q.map nD), .lst (xs.map nD)]) = some (nD p, M ++ [.dct (kD (ky A)) (aD A), .lst (Q.map nD), .lst (xs.map nD)]) := fun {z7} e => by
            subst e
            rw [ea] at hi
            exact hi
          rw [ea, ea, ex]
          have hi3 := hi2 rfl
          generalize xs.map nD = X at hi3 hz
          generalize aD A = Y at hi3
          generalize kD (ky A) = K at hi3
          generalize Q.map nD = TT at hi3
          generalize nsD P = x at hi3
          have hcons : evs (callD fs k) (.cons (.idx (.var 3) (.idx (.var 7) (.neg (.cst (.int 1))))) .nil) [some x, some (nD a), some (nD b), some (.ref M.length), some (.ref (M.length + 1)), z5, z6, some (.ref (M.length + 2))] (M ++ [.dct K Y, .lst TT, .lst X]) = some ([nD p], M ++ [.dct K Y, .lst TT, .lst X]) := by
            rw [q_cons, hi3]
            rfl
          rw [q_seq, q_expr, q_mth]
          simp -implicitDefEqProofs [q_var, q_pr, q_m1, q_lstOf, q_rd_ref, q_rdOl, q_lstCl, q_m2, hcons, q_m3, q_app, ap2, st2, q_app1, hz, q_ex1, q_seqn, q_skip]) _ wfuel _ _ (by
        have := B.sm b hk
        unfold wfuel
        omega) ⟨[b], b, Back.begin hk, rfl, rfl, rfl⟩
    have hl3 : exec (callD fs k) (.whl (.cmp .IsNot (.idx (.var 3) (.idx (.var 7) (.neg (.cst (.int 1))))) (.cst .non)) (.seq (.expr (.mth .append (.var 7) (.cons (.idx (.var 3) (.idx (.var 7) (.neg (.cst (.int 1))))) .nil))) .skip)) [some (nsD P), some (nD a), some (nD b), some (.ref M.length), some (.ref (M.length + 1)), z5, z6, some (.ref (M.length + 2))] (wM M (A, Q) ++ [.lst ([b].map nD)]) = _ := hw2
    obtain ⟨t1, t2⟩ := B.least hk
    have hd0 : xs.length = dep b + 1 := by have := K.len; rw [B.dep0] at this; omega
    refine ⟨.tup (xs.reverse.map nD), .inr ⟨xs, dep b, rfl, hd0, K.le B, K.first, K.last, fun x hx => B.lt x (K.lt x hx), K.adj, t1, t2⟩, ?_⟩
    refine call_grow (f := f29) (l := [.dct (kD (ky A)) (aD A), .lst (Q.map nD), .lst (xs.map nD)]) hM (tupN_pure _) rfl rfl ?_
    show exec (callD fs k) b29 [some (nsD P), some (nD a), some (nD b), none, none, none, none, none] M = _
    unfold b29
    rw [q_seq, h0, q_seqn, q_seq, hl, q_seqn, q_seq, h1, q_seqn, q_seq, h2, q_seqn, q_seq, hl3, q_seqn]
    have ap2 : ∀ {x y w : MO}, (M ++ [x, y, w])[M.length + 2]? = some w := fun {x y w} => by
      rw [List.getElem?_append_right (by omega)]
      simp
    have ea : ∀ X : List D, wM M (A, Q) ++ [.lst X] = M ++ [.dct (kD (ky A)) (aD A), .lst (Q.map nD), .lst X] := fun X => by simp [wM]
    have er : xs.reverse.map nD = (xs.map nD).reverse := by rw [List.map_reverse]
    rw [ea, er]
    generalize xs.map nD = X
    generalize aD A = Y
    generalize kD (ky A) = K
    generalize Q.map nD = TT
    generalize nsD P = x
    simp -implicitDefEqProofs [q_pr, q_bl, q_var, q_cst, q_bin, q_bin1, q_bin2, q_cmp, q_cmp1, q_cmp2, q_ch, q_ch1, q_ch2, q_ch3, q_neg, q_neg1, q_not, q_not1, q_not2, q_and, q_and1, q_and2, q_or, q_or1, q_or2, q_ite, q_ite1, q_ite2, q_tup, q_tup1, q_lst, q_lst1, q_dsp, q_dsp1, q_dsp2, q_idx, q_ix1, q_ix2, q_slice, q_sl1, q_sl2, q_sl3, q_slP00, q_slP10, q_slP01, q_slP11, q_slCt, q_slCl, q_rev, q_rev1, q_revD, q_revCl, q_revCt, q_call, q_call1, q_blt, q_blt1, q_isi, q_isi1, q_mth, q_m1, q_m2, q_m3, q_nil, q_cons, q_c1, q_c2, q_sSeq, q_sSeq1, q_sEnum, q_sEnum1, q_sR, q_sR1, q_sR2, q_sZ, q_sZ1, q_sZ2, q_seq, q_seqn, q_seqr, q_seqb, q_seqc, q_skip, q_brk, q_cont, q_asg, q_asg1, q_asg2, q_at_nm, q_at_tp, q_at_nil, q_at_cons, q_at1, q_box, q_box1, q_box2, q_bxl, q_bxd, q_bxf, q_par, q_par1, q_par2, q_bs0, q_bs, q_bs1, q_seti, q_st1, q_st2, q_st3, q_st4, q_putD, q_putL, q_putL1, q_putK, q_putKs, q_putK1, q_expr, q_ex1, q_ret, q_ret1, q_if, q_if1, q_if2, q_rd_non, q_rd_bl, q_rd_int, q_rd_str, q_rd_tup, q_rd_lst, q_rd_dct, q_rd_ref, q_rdOl, q_rdOd, q_seqOf, q_seqCt, q_seqCl, q_lstOf, q_lstCl, q_dctOf, q_dctCd, q_dctCt, q_dctCl, q_dctCs, q_truD, q_truCb, q_truCi, q_truCn, q_truCt, q_truCl, q_truCd, q_isiD, q_isiCn, q_isiCb, q_isiCi, q_isiCs, q_isiCt, q_isiCl, q_binD, b_add, b_sub, b_mul, b_div, b_mod, b_shl, b_pow, b_shr, b_and, b_or, b_xor, b_adds, b_addt, b_addl, b_mult, b_mull, q_nb, q_eq, q_ne, q_in, q_nin, q_lt, q_le, q_gt, q_ge, q_isb, q_isn, q_isi', q_ist, q_isl, q_iss, q_isbn, q_isr, q_isd, q_inb, q_inn, q_ini, q_int, q_inl, q_ins, q_inr, q_ind, q_eqii, q_eqss, q_eqbb, q_eqsi, q_eqtt, q_eqll, q_eqtn, q_eqnt, q_eqnn, q_ixD, q_ixC, q_ixK, q_ixKs, q_seqCd, q_lent, q_lenl, q_lend, q_lenr, q_lenCl, q_lenCd, q_abs, q_bint, q_bintb, q_bmin, q_bmax, q_btuple, q_bt1, q_blistt, q_blistl, q_blists, q_blistr, q_bll1, q_sset, q_sset1, q_lrange, q_trange, q_app, q_app1, flatD, eqv_str, eqv_int, eqv_bl, eqv_non, eqv_si, eqv_is, eqv_tup, eqv_lst, eqv_tn, eqv_nt, eqvs_nil, eqvs_cons, eqvs_nc, eqvs_cn, okN_non, okN_bl, okN_int, okN_str, okN_t64, okN_l64, okN_t63, okN_l63, okN_t62, okN_l62, okNs_nil, okNs_cons, eqS, setAll, inD, keyOf, ap2]
  · -- not there
    have hQ : Q = [] := hend.resolve_right hk
    subst hQ
    refine ⟨.non, .inl ⟨rfl, B.none_ hk⟩, ?_⟩
    refine call_grow (f := f29) (l := [.dct (kD (ky A)) (aD A), .lst (([] : List Nat).map nD)]) hM rfl rfl rfl ?_
    show exec (callD fs k) b29 [some (nsD P), some (nD a), some (nD b), none, none, none, none, none] M = _
    unfold b29
    have h1 : exec (callD fs k) (.iff (.cmp .NotIn (.var 2) (.var 3)) (.seq (.ret (.cst .non)) .skip) .skip) [some (nsD P), some (nD a), some (nD b), some (.ref M.length), some (.ref (M.length + 1)), z5, z6, none] (wM M (A, [])) = some (.rt .non (wM M (A, []))) := by
      have cm : (kD (ky A)).contains (DK.i (b : Nat)) = (ky A).contains b := contains_map (ky A) b
      have cb : (ky A).contains b = false := by simpa using hk
      rw [cb] at cm
      generalize nsD P = x
      simp only [wM]
      generalize aD A = X
      generalize kD (ky A) = KF at cm
      have cm2 : ¬ DK.i ((b : Nat) : Int) ∈ KF := by simpa using cm
      simp -implicitDefEqProofs [q_pr, q_bl, q_var, q_cst, q_bin, q_bin1, q_bin2, q_cmp, q_cmp1, q_cmp2, q_ch, q_ch1, q_ch2, q_ch3, q_neg, q_neg1, q_not, q_not1, q_not2, q_and, q_and1, q_and2, q_or, q_or1, q_or2, q_ite, q_ite1, q_ite2, q_tup, q_tup1, q_lst, q_lst1, q_dsp, q_dsp1, q_dsp2, q_idx, q_ix1, q_ix2, q_slice, q_sl1, q_sl2, q_sl3, q_slP00, q_slP10, q_slP01, q_slP11, q_slCt, q_slCl, q_rev, q_rev1, q_revD, q_revCl, q_revCt, q_call, q_call1, q_blt, q_blt1, q_isi, q_isi1, q_mth, q_m1, q_m2, q_m3, q_nil, q_cons, q_c1, q_c2, q_sSeq, q_sSeq1, q_sEnum, q_sEnum1, q_sR, q_sR1, q_sR2, q_sZ, q_sZ1, q_sZ2, q_seq, q_seqn, q_seqr, q_seqb, q_seqc, q_skip, q_brk, q_cont, q_asg, q_asg1, q_asg2, q_at_nm, q_at_tp, q_at_nil, q_at_cons, q_at1, q_box, q_box1, q_box2, q_bxl, q_bxd, q_bxf, q_par, q_par1, q_par2, q_bs0, q_bs, q_bs1, q_seti, q_st1, q_st2, q_st3, q_st4, q_putD, q_putL, q_putL1, q_putK, q_putKs, q_putK1, q_expr, q_ex1, q_ret, q_ret1, q_if, q_if1, q_if2, q_rd_non, q_rd_bl, q_rd_int, q_rd_str, q_rd_tup, q_rd_lst, q_rd_dct, q_rd_ref, q_rdOl, q_rdOd, q_seqOf, q_seqCt, q_seqCl, q_lstOf, q_lstCl, q_dctOf, q_dctCd, q_dctCt, q_dctCl, q_dctCs, q_truD, q_truCb, q_truCi, q_truCn, q_truCt, q_truCl, q_truCd, q_isiD, q_isiCn, q_isiCb, q_isiCi, q_isiCs, q_isiCt, q_isiCl, q_binD, b_add, b_sub, b_mul, b_div, b_mod, b_shl, b_pow, b_shr, b_and, b_or, b_xor, b_adds, b_addt, b_addl, b_mult, b_mull, q_nb, q_eq, q_ne, q_in, q_nin, q_lt, q_le, q_gt, q_ge, q_isb, q_isn, q_isi', q_ist, q_isl, q_iss, q_isbn, q_isr, q_isd, q_inb, q_inn, q_ini, q_int, q_inl, q_ins, q_inr, q_ind, q_eqii, q_eqss, q_eqbb, q_eqsi, q_eqtt, q_eqll, q_eqtn, q_eqnt, q_eqnn, q_ixD, q_ixC, q_ixK, q_ixKs, q_seqCd, q_lent, q_lenl, q_lend, q_lenr, q_lenCl, q_lenCd, q_abs, q_bint, q_bintb, q_bmin, q_bmax, q_btuple, q_bt1, q_blistt, q_blistl, q_blists, q_blistr, q_bll1, q_sset, q_sset1, q_lrange, q_trange, q_app, q_app1, flatD, eqv_str, eqv_int, eqv_bl, eqv_non, eqv_si, eqv_is, eqv_tup, eqv_lst, eqv_tn, eqv_nt, eqvs_nil, eqvs_cons, eqvs_nc, eqvs_cn, okN_non, okN_bl, okN_int, okN_str, okN_t64, okN_l64, okN_t63, okN_l63, okN_t62, okN_l62, okNs_nil, okNs_cons, eqS, setAll, inD, keyOf, ap0, ap1, cm2]
    rw [q_seq, h0, q_seqn, q_seq, hl, q_seqn, q_seq, h1, q_seqr]
theorem shortest_way (hM : OkM M) (hP : POk P) {a b : Nat} (ha : a < P.length) (hb : b < P.length) : ∃ d, WayD P a b d ∧ callD fs (k + 8) 34 [pD P, nD a, nD b] M = some (d, M) := by
  obtain ⟨d, h, r⟩ := way_in (k := k + 6) hM hP ha hb
  have dp : d.pure = true := by
    rcases h with ⟨h, _⟩ | ⟨xs, _, h, _⟩
    · rw [h]; rfl
    · rw [h]; exact tupN_pure _
  refine ⟨d, h, call_pure (f := f34) hM dp rfl rfl ?_⟩
  have q1 := need_program (k := k) hM hP
  have q2 := need_place (k := k + 3) hM ha
  have q3 := need_place (k := k + 3) hM hb
  have q4 := all_next (k := k + 4) hM hP.le
  generalize pD P = x at q1 q2 q3 q4
  generalize nsD P = y at q4 r
  simp -implicitDefEqProofs [f34, b34, q_pr, q_bl, q_var, q_cst, q_bin, q_bin1, q_bin2, q_cmp, q_cmp1, q_cmp2, q_ch, q_ch1, q_ch2, q_ch3, q_neg, q_neg1, q_not, q_not1, q_not2, q_and, q_and1, q_and2, q_or, q_or1, q_or2, q_ite, q_ite1, q_ite2, q_tup, q_tup1, q_lst, q_lst1, q_dsp, q_dsp1, q_dsp2, q_idx, q_ix1, q_ix2, q_slice, q_sl1, q_sl2, q_sl3, q_slP00, q_slP10, q_slP01, q_slP11, q_slCt, q_slCl, q_rev, q_rev1, q_revD, q_revCl, q_revCt, q_call, q_call1, q_blt, q_blt1, q_isi, q_isi1, q_mth, q_m1, q_m2, q_m3, q_nil, q_cons, q_c1, q_c2, q_sSeq, q_sSeq1, q_sEnum, q_sEnum1, q_sR, q_sR1, q_sR2, q_sZ, q_sZ1, q_sZ2, q_seq, q_seqn, q_seqr, q_seqb, q_seqc, q_skip, q_brk, q_cont, q_asg, q_asg1, q_asg2, q_at_nm, q_at_tp, q_at_nil, q_at_cons, q_at1, q_box, q_box1, q_box2, q_bxl, q_bxd, q_bxf, q_par, q_par1, q_par2, q_bs0, q_bs, q_bs1, q_seti, q_st1, q_st2, q_st3, q_st4, q_putD, q_putL, q_putL1, q_putK, q_putKs, q_putK1, q_expr, q_ex1, q_ret, q_ret1, q_if, q_if1, q_if2, q_rd_non, q_rd_bl, q_rd_int, q_rd_str, q_rd_tup, q_rd_lst, q_rd_dct, q_rd_ref, q_rdOl, q_rdOd, q_seqOf, q_seqCt, q_seqCl, q_lstOf, q_lstCl, q_dctOf, q_dctCd, q_dctCt, q_dctCl, q_dctCs, q_truD, q_truCb, q_truCi, q_truCn, q_truCt, q_truCl, q_truCd, q_isiD, q_isiCn, q_isiCb, q_isiCi, q_isiCs, q_isiCt, q_isiCl, q_binD, b_add, b_sub, b_mul, b_div, b_mod, b_shl, b_pow, b_shr, b_and, b_or, b_xor, b_adds, b_addt, b_addl, b_mult, b_mull, q_nb, q_eq, q_ne, q_in, q_nin, q_lt, q_le, q_gt, q_ge, q_isb, q_isn, q_isi', q_ist, q_isl, q_iss, q_isbn, q_isr, q_isd, q_inb, q_inn, q_ini, q_int, q_inl, q_ins, q_inr, q_ind, q_eqii, q_eqss, q_eqbb, q_eqsi, q_eqtt, q_eqll, q_eqtn, q_eqnt, q_eqnn, q_ixD, q_ixC, q_ixK, q_ixKs, q_seqCd, q_lent, q_lenl, q_lend, q_lenr, q_lenCl, q_lenCd, q_abs, q_bint, q_bintb, q_bmin, q_bmax, q_btuple, q_bt1, q_blistt, q_blistl, q_blists, q_blistr, q_bll1, q_sset, q_sset1, q_lrange, q_trange, q_app, q_app1, flatD, eqv_str, eqv_int, eqv_bl, eqv_non, eqv_si, eqv_is, eqv_tup, eqv_lst, eqv_tn, eqv_nt, eqvs_nil, eqvs_cons, eqvs_nc, eqvs_cn, okN_non, okN_bl, okN_int, okN_str, okN_t64, okN_l64, okN_t63, okN_l63, okN_t62, okN_l62, okNs_nil, okNs_cons, eqS, setAll, inD, keyOf, q1, q2, q3, q4, r]
end K09
end Mi
namespace Mi
open PySem PySem.Spec PyProof.Rows L2

namespace K09
variable {k : Nat} {M : Mem} {P : List Ord}
/-! ### values of any kind -/
mutual
theorem lk_ok : ∀ (n : Nat) (d : D), d.lk n = true → d.okN n = true
  | _, .non, _ => okN_non
  | _, .bl _, _ => okN_bl
  | _, .int _, _ => okN_int
  | n, .str s, h => by rw [okN_str]; rw [lk_str] at h; exact h
  | n + 1, .tup xs, h => by
    have h : (decide (xs.length ≤ line) && D.lks n xs) = true := h
    rw [Bool.and_eq_true] at h
    exact lks_ok n xs h.2
  | n + 1, .lst xs, h => by
    have h : (decide (xs.length ≤ line) && D.lks n xs) = true := h
    rw [Bool.and_eq_true] at h
    exact lks_ok n xs h.2
  | 0, .tup _, h => by cases h
  | 0, .lst _, h => by cases h
  | 0, .dct _ _, h => by cases h
  | 0, .scr _, h => by cases h
  | 0, .ref _, h => by cases h
  | _ + 1, .dct _ _, h => by cases h
  | _ + 1, .scr _, h => by cases h
  | _ + 1, .ref _, h => by cases h
theorem lks_ok : ∀ (n : Nat) (ds : List D), D.lks n ds = true → D.okNs n ds = true
  | _, [], _ => okNs_nil
  | n, d :: ds, h => by
    rw [lks_cons, Bool.and_eq_true] at h
    rw [okNs_cons, lk_ok n d h.1, lks_ok n ds h.2]
    rfl
end
mutual
theorem lk_up : ∀ (n : Nat) (d : D), d.lk n = true → d.lk (n + 1) = true
  | _, .non, _ => lk_non
  | _, .bl _, _ => rfl
  | _, .int _, _ => lk_int
  | n, .str s, h => by rw [lk_str] at h ⊢; exact h
  | n + 1, .tup xs, h => by
    have h : (decide (xs.length ≤ line) && D.lks n xs) = true := h
    rw [Bool.and_eq_true] at h
    show (decide (xs.length ≤ line) && D.lks (n + 1) xs) = true
    rw [h.1, lks_up n xs h.2]
    rfl
  | n + 1, .lst xs, h => by
    have h : (decide (xs.length ≤ line) && D.lks n xs) = true := h
    rw [Bool.and_eq_true] at h
    show (decide (xs.length ≤ line) && D.lks (n + 1) xs) = true
    rw [h.1, lks_up n xs h.2]
    rfl
  | 0, .tup _, h => by cases h
  | 0, .lst _, h => by cases h
  | 0, .dct _ _, h => by cases h
  | 0, .scr _, h => by cases h
  | 0, .ref _, h => by cases h
  | _ + 1, .dct _ _, h => by cases h
  | _ + 1, .scr _, h => by cases h
  | _ + 1, .ref _, h => by cases h
theorem lks_up : ∀ (n : Nat) (ds : List D), D.lks n ds = true → D.lks (n + 1) ds = true
  | _, [], _ => lks_nil
  | n, d :: ds, h => by
    rw [lks_cons, Bool.and_eq_true] at h
    rw [lks_cons, lk_up n d h.1, lks_up n ds h.2]
    rfl
end
theorem lk_more {n : Nat} {d : D} (h : d.lk n = true) : ∀ m, d.lk (n + m) = true
  | 0 => h
  | m + 1 => lk_up _ d (lk_more h m)
theorem lks_more {n : Nat} {ds : List D} (h : D.lks n ds = true) : ∀ m, D.lks (n + m) ds = true
  | 0 => h
  | m + 1 => lks_up _ ds (lks_more h m)
mutual
theorem ok_pure : ∀ (n : Nat) (d : D), d.okN n = true → d.pure = true
  | _, .non, _ => rfl
  | _, .bl _, _ => rfl
  | _, .int _, _ => rfl
  | _, .str _, _ => rfl
  | n + 1, .tup xs, h => oks_pure n xs h
  | n + 1, .lst xs, h => oks_pure n xs h
  | 0, .tup _, h => by cases h
  | 0, .lst _, h => by cases h
  | 0, .dct _ _, h => by cases h
  | 0, .scr _, h => by cases h
  | 0, .ref _, h => by cases h
  | _ + 1, .dct _ _, h => by cases h
  | _ + 1, .scr _, h => by cases h
  | _ + 1, .ref _, h => by cases h
theorem oks_pure : ∀ (n : Nat) (ds : List D), D.okNs n ds = true → D.pures ds = true
  | _, [], _ => rfl
  | n, d :: ds, h => by
    rw [okNs_cons, Bool.and_eq_true] at h
    show (d.pure && D.pures ds) = true
    rw [ok_pure n d h.1, oks_pure n ds h.2]
    rfl
end
def isI : D → Bool
  | .int _ => true
  | _ => false
def inR (lo hi : Int) : D → Bool
  | .int i => decide (lo ≤ i) && decide (i ≤ hi)
  | _ => false
theorem int_any (hM : OkM M) {d : D} {n : Nat} (h : d.lk n = true) : callD fs (k + 1) 0 [d] M = some (.bl (isI d), M) := by
  refine call_pure (f := f0) hM rfl rfl rfl ?_
  cases d with
  | ref i => cases n <;> cases h
  | scr i => cases n <;> cases h
  | dct a b => cases n <;> cases h
  | _ => rfl
theorem whole_any (hM : OkM M) {d : D} {n : Nat} (h : d.lk n = true) {lo hi : Int} : callD fs (k + 2) 1 [d, .int lo, .int hi] M = some (.bl (inR lo hi d), M) := by
  refine call_pure (f := f1) hM rfl rfl rfl ?_
  have a := int_any (k := k) hM h
  cases d with
  | ref i => cases n <;> cases h
  | scr i => cases n <;> cases h
  | dct a b => cases n <;> cases h
  | int i =>
    simp only [isI] at a
    by_cases c : lo ≤ i <;> simp -implicitDefEqProofs [f1, b1, q_pr, q_bl, q_var, q_cst, q_bin, q_bin1, q_bin2, q_cmp, q_cmp1, q_cmp2, q_ch, q_ch1, q_ch2, q_ch3, q_neg, q_neg1, q_not, q_not1, q_not2, q_and, q_and1, q_and2, q_or, q_or1, q_or2, q_ite, q_ite1, q_ite2, q_tup, q_tup1, q_lst, q_lst1, q_dsp, q_dsp1, q_dsp2, q_idx, q_ix1, q_ix2, q_slice, q_sl1, q_sl2, q_sl3, q_slP00, q_slP10, q_slP01, q_slP11, q_slCt, q_slCl, q_rev, q_rev1, q_revD, q_revCl, q_revCt, q_call, q_call1, q_blt, q_blt1, q_isi, q_isi1, q_mth, q_m1, q_m2, q_m3, q_nil, q_cons, q_c1, q_c2, q_sSeq, q_sSeq1, q_sEnum, q_sEnum1, q_sR, q_sR1, q_sR2, q_sZ, q_sZ1, q_sZ2, q_seq, q_seqn, q_seqr, q_seqb, q_seqc, q_skip, q_brk, q_cont, q_asg, q_asg1, q_asg2, q_at_nm, q_at_tp, q_at_nil, q_at_cons, q_at1, q_box, q_box1, q_box2, q_bxl, q_bxd, q_bxf, q_par, q_par1, q_par2, q_bs0, q_bs, q_bs1, q_seti, q_st1, q_st2, q_st3, q_st4, q_putD, q_putL, q_putL1, q_putK, q_putKs, q_putK1, q_expr, q_ex1, q_ret, q_ret1, q_if, q_if1, q_if2, q_rd_non, q_rd_bl, q_rd_int, q_rd_str, q_rd_tup, q_rd_lst, q_rd_dct, q_rd_ref, q_rdOl, q_rdOd, q_seqOf, q_seqCt, q_seqCl, q_lstOf, q_lstCl, q_dctOf, q_dctCd, q_dctCt, q_dctCl, q_dctCs, q_truD, q_truCb, q_truCi, q_truCn, q_truCt, q_truCl, q_truCd, q_isiD, q_isiCn, q_isiCb, q_isiCi, q_isiCs, q_isiCt, q_isiCl, q_binD, b_add, b_sub, b_mul, b_div, b_mod, b_shl, b_pow, b_shr, b_and, b_or, b_xor, b_adds, b_addt, b_addl, b_mult, b_mull, q_nb, q_eq, q_ne, q_in, q_nin, q_lt, q_le, q_gt, q_ge, q_isb, q_isn, q_isi', q_ist, q_isl, q_iss, q_isbn, q_isr, q_isd, q_inb, q_inn, q_ini, q_int, q_inl, q_ins, q_inr, q_ind, q_eqii, q_eqss, q_eqbb, q_eqsi, q_eqtt, q_eqll, q_eqtn, q_eqnt, q_eqnn, q_ixD, q_ixC, q_ixK, q_ixKs, q_seqCd, q_lent, q_lenl, q_lend, q_lenr, q_lenCl, q_lenCd, q_abs, q_bint, q_bintb, q_bmin, q_bmax, q_btuple, q_bt1, q_blistt, q_blistl, q_blists, q_blistr, q_bll1, q_sset, q_sset1, q_lrange, q_trange, q_app, q_app1, flatD, eqv_str, eqv_int, eqv_bl, eqv_non, eqv_si, eqv_is, eqv_tup, eqv_lst, eqv_tn, eqv_nt, eqvs_nil, eqvs_cons, eqvs_nc, eqvs_cn, okN_non, okN_bl, okN_int, okN_str, okN_t64, okN_l64, okN_t63, okN_l63, okN_t62, okN_l62, okNs_nil, okNs_cons, eqS, setAll, inD, keyOf, a, inR, c]
  | _ =>
    simp only [isI] at a
    simp -implicitDefEqProofs [f1, b1, q_pr, q_bl, q_var, q_cst, q_bin, q_bin1, q_bin2, q_cmp, q_cmp1, q_cmp2, q_ch, q_ch1, q_ch2, q_ch3, q_neg, q_neg1, q_not, q_not1, q_not2, q_and, q_and1, q_and2, q_or, q_or1, q_or2, q_ite, q_ite1, q_ite2, q_tup, q_tup1, q_lst, q_lst1, q_dsp, q_dsp1, q_dsp2, q_idx, q_ix1, q_ix2, q_slice, q_sl1, q_sl2, q_sl3, q_slP00, q_slP10, q_slP01, q_slP11, q_slCt, q_slCl, q_rev, q_rev1, q_revD, q_revCl, q_revCt, q_call, q_call1, q_blt, q_blt1, q_isi, q_isi1, q_mth, q_m1, q_m2, q_m3, q_nil, q_cons, q_c1, q_c2, q_sSeq, q_sSeq1, q_sEnum, q_sEnum1, q_sR, q_sR1, q_sR2, q_sZ, q_sZ1, q_sZ2, q_seq, q_seqn, q_seqr, q_seqb, q_seqc, q_skip, q_brk, q_cont, q_asg, q_asg1, q_asg2, q_at_nm, q_at_tp, q_at_nil, q_at_cons, q_at1, q_box, q_box1, q_box2, q_bxl, q_bxd, q_bxf, q_par, q_par1, q_par2, q_bs0, q_bs, q_bs1, q_seti, q_st1, q_st2, q_st3, q_st4, q_putD, q_putL, q_putL1, q_putK, q_putKs, q_putK1, q_expr, q_ex1, q_ret, q_ret1, q_if, q_if1, q_if2, q_rd_non, q_rd_bl, q_rd_int, q_rd_str, q_rd_tup, q_rd_lst, q_rd_dct, q_rd_ref, q_rdOl, q_rdOd, q_seqOf, q_seqCt, q_seqCl, q_lstOf, q_lstCl, q_dctOf, q_dctCd, q_dctCt, q_dctCl, q_dctCs, q_truD, q_truCb, q_truCi, q_truCn, q_truCt, q_truCl, q_truCd, q_isiD, q_isiCn, q_isiCb, q_isiCi, q_isiCs, q_isiCt, q_isiCl, q_binD, b_add, b_sub, b_mul, b_div, b_mod, b_shl, b_pow, b_shr, b_and, b_or, b_xor, b_adds, b_addt, b_addl, b_mult, b_mull, q_nb, q_eq, q_ne, q_in, q_nin, q_lt, q_le, q_gt, q_ge, q_isb, q_isn, q_isi', q_ist, q_isl, q_iss, q_isbn, q_isr, q_isd, q_inb, q_inn, q_ini, q_int, q_inl, q_ins, q_inr, q_ind, q_eqii, q_eqss, q_eqbb, q_eqsi, q_eqtt, q_eqll, q_eqtn, q_eqnt, q_eqnn, q_ixD, q_ixC, q_ixK, q_ixKs, q_seqCd, q_lent, q_lenl, q_lend, q_lenr, q_lenCl, q_lenCd, q_abs, q_bint, q_bintb, q_bmin, q_bmax, q_btuple, q_bt1, q_blistt, q_blistl, q_blists, q_blistr, q_bll1, q_sset, q_sset1, q_lrange, q_trange, q_app, q_app1, flatD, eqv_str, eqv_int, eqv_bl, eqv_non, eqv_si, eqv_is, eqv_tup, eqv_lst, eqv_tn, eqv_nt, eqvs_nil, eqvs_cons, eqvs_nc, eqvs_cn, okN_non, okN_bl, okN_int, okN_str, okN_t64, okN_l64, okN_t63, okN_l63, okN_t62, okN_l62, okNs_nil, okNs_cons, eqS, setAll, inD, keyOf, a, inR]
theorem bools_map {α : Type} (f : α → Bool) : ∀ xs : List α, boolsOf (xs.map fun x => D.bl (f x)) = some (xs.map f)
  | [] => rfl
  | x :: xs => by
    show (boolsOf (xs.map fun x => D.bl (f x))).map (f x :: ·) = _
    rw [bools_map f xs]
    rfl
theorem all_map {α : Type} (f : α → Bool) (xs : List α) : bltD M .all [.lst (xs.map fun x => D.bl (f x))] = some (.bl (xs.all f)) := by
  show (some (xs.map fun x => D.bl (f x))).bind (fun xs => (boolsOf xs).map fun bs => D.bl (bs.all id)) = _
  rw [Option.bind_some, bools_map]
  simp [List.all_map]
theorem in_nats {j : Nat} {l : List Nat} : inD M (nD j) (nL l) = some (l.contains j) := by
  unfold inD
  show (if flatD (nD j) && (l.map nD).all flatD then some ((l.map nD).any fun x => D.eqv x (nD j)) else _) = _
  have h2 : ∀ l : List Nat, ((l.map nD).any fun x => D.eqv x (nD j)) = l.contains j := by
    intro l
    induction l with
    | nil => rfl
    | cons a l ih =>
      rw [List.map_cons, List.any_cons, ih, List.contains_cons]
      congr 1
      show ((a : Int) == (j : Int)) = (j == a)
      by_cases e : j = a
      · subst e
        rw [beq_self_eq_true, beq_self_eq_true]
      · have : ¬ ((a : Int) = (j : Int)) := by omega
        rw [beq_eq_false_iff_ne.mpr this, beq_eq_false_iff_ne.mpr e]
  have h1 : (l.map nD).all flatD = true := List.all_eq_true.mpr fun x hx => by
    obtain ⟨i, _, rfl⟩ := List.mem_map.mp hx
    rfl
  rw [h1, h2]
  rfl
def adjD (P : List Ord) : D → D → Bool
  | .int i, .int j => (nxt P i.toNat).contains j.toNat
  | _, _ => false
abbrev inP (P : List Ord) : D → Bool := inR 0 ((P.length : Int) - 1)
/-- whether a value is a way -/
def isW (P : List Ord) : D → Bool
  | .tup xs => !xs.isEmpty && (xs.all (inP P) && (xs.zip (xs.drop 1)).all fun p => adjD P p.1 p.2)
  | _ => false
theorem inP_nat {d : D} (h : inP P d = true) : ∃ i : Nat, d = nD i ∧ i < P.length := by
  cases d with
  | int i =>
    have h : (decide (0 ≤ i) && decide (i ≤ (P.length : Int) - 1)) = true := h
    rw [Bool.and_eq_true] at h
    have h1 := of_decide_eq_true h.1
    have h2 := of_decide_eq_true h.2
    obtain ⟨n, rfl⟩ := Int.eq_ofNat_of_zero_le h1
    exact ⟨n, rfl, by omega⟩
  | _ => cases h
theorem zip_drop_mem {α : Type} {xs : List α} {a b : α} (h : (a, b) ∈ xs.zip (xs.drop 1)) : a ∈ xs ∧ b ∈ xs := ⟨(List.of_mem_zip h).1, List.mem_of_mem_drop (List.of_mem_zip h).2⟩
theorem cut_1 {α : Type} (xs : List α) : cutD xs (some 1) none = xs.drop 1 := cut_back xs 1
theorem eq_tnil {xs : List D} (h : D.okNs 63 xs = true) : eqC (.tup xs) (.tup []) = some xs.isEmpty := by
  unfold eqC
  show (if (D.okNs 63 xs && D.okNs 63 []) = true then some (D.eqvs xs []) else none) = _
  rw [h, okNs_nil, eqvs_nil_r]
  rfl
theorem eq_lnil {xs : List D} (h : D.okNs 63 xs = true) : eqC (.lst xs) (.lst []) = some xs.isEmpty := by
  unfold eqC
  show (if (D.okNs 63 xs && D.okNs 63 []) = true then some (D.eqvs xs []) else none) = _
  rw [h, okNs_nil, eqvs_nil_r]
  rfl
theorem lks10 {xs : List D} (h : D.lks 10 xs = true) : D.okNs 63 xs = true := lks_ok 63 xs (lks_more h 53)
theorem is_way (hM : OkM M) (hP : POk P) {d : D} (h : d.lk 11 = true) : callD fs (k + 8) 35 [pD P, d] M = some (.bl (isW P d), M) := by
  refine call_pure (f := f35) hM rfl rfl rfl ?_
  have a := need_program (k := k) hM hP
  have h60 := hP.le
  have h0 : exec (callD fs (k + 7)) (.expr (.call 17 (.cons (.var 0) .nil))) [some (pD P), some d, none, none, none] M = some (.nx [some (pD P), some d, none, none, none] M) := by
    generalize pD P = x at a
    simp -implicitDefEqProofs [q_pr, q_bl, q_var, q_cst, q_bin, q_bin1, q_bin2, q_cmp, q_cmp1, q_cmp2, q_ch, q_ch1, q_ch2, q_ch3, q_neg, q_neg1, q_not, q_not1, q_not2, q_and, q_and1, q_and2, q_or, q_or1, q_or2, q_ite, q_ite1, q_ite2, q_tup, q_tup1, q_lst, q_lst1, q_dsp, q_dsp1, q_dsp2, q_idx, q_ix1, q_ix2, q_slice, q_sl1, q_sl2, q_sl3, q_slP00, q_slP10, q_slP01, q_slP11, q_slCt, q_slCl, q_rev, q_rev1, q_revD, q_revCl, q_revCt, q_call, q_call1, q_blt, q_blt1, q_isi, q_isi1, q_mth, q_m1, q_m2, q_m3, q_nil, q_cons, q_c1, q_c2, q_sSeq, q_sSeq1, q_sEnum, q_sEnum1, q_sR, q_sR1, q_sR2, q_sZ, q_sZ1, q_sZ2, q_seq, q_seqn, q_seqr, q_seqb, q_seqc, q_skip, q_brk, q_cont, q_asg, q_asg1, q_asg2, q_at_nm, q_at_tp, q_at_nil, q_at_cons, q_at1, q_box, q_box1, q_box2, q_bxl, q_bxd, q_bxf, q_par, q_par1, q_par2, q_bs0, q_bs, q_bs1, q_seti, q_st1, q_st2, q_st3, q_st4, q_putD, q_putL, q_putL1, q_putK, q_putKs, q_putK1, q_expr, q_ex1, q_ret, q_ret1, q_if, q_if1, q_if2, q_rd_non, q_rd_bl, q_rd_int, q_rd_str, q_rd_tup, q_rd_lst, q_rd_dct, q_rd_ref, q_rdOl, q_rdOd, q_seqOf, q_seqCt, q_seqCl, q_lstOf, q_lstCl, q_dctOf, q_dctCd, q_dctCt, q_dctCl, q_dctCs, q_truD, q_truCb, q_truCi, q_truCn, q_truCt, q_truCl, q_truCd, q_isiD, q_isiCn, q_isiCb, q_isiCi, q_isiCs, q_isiCt, q_isiCl, q_binD, b_add, b_sub, b_mul, b_div, b_mod, b_shl, b_pow, b_shr, b_and, b_or, b_xor, b_adds, b_addt, b_addl, b_mult, b_mull, q_nb, q_eq, q_ne, q_in, q_nin, q_lt, q_le, q_gt, q_ge, q_isb, q_isn, q_isi', q_ist, q_isl, q_iss, q_isbn, q_isr, q_isd, q_inb, q_inn, q_ini, q_int, q_inl, q_ins, q_inr, q_ind, q_eqii, q_eqss, q_eqbb, q_eqsi, q_eqtt, q_eqll, q_eqtn, q_eqnt, q_eqnn, q_ixD, q_ixC, q_ixK, q_ixKs, q_seqCd, q_lent, q_lenl, q_lend, q_lenr, q_lenCl, q_lenCd, q_abs, q_bint, q_bintb, q_bmin, q_bmax, q_btuple, q_bt1, q_blistt, q_blistl, q_blists, q_blistr, q_bll1, q_sset, q_sset1, q_lrange, q_trange, q_app, q_app1, flatD, eqv_str, eqv_int, eqv_bl, eqv_non, eqv_si, eqv_is, eqv_tup, eqv_lst, eqv_tn, eqv_nt, eqvs_nil, eqvs_cons, eqvs_nc, eqvs_cn, okN_non, okN_bl, okN_int, okN_str, okN_t64, okN_l64, okN_t63, okN_l63, okN_t62, okN_l62, okNs_nil, okNs_cons, eqS, setAll, inD, keyOf, a]
  show exec (callD fs (k + 7)) b35 [some (pD P), some d, none, none, none] M = _
  unfold b35
  rw [q_seq, h0, q_seqn]
  cases d with
  | ref i => cases h
  | scr i => cases h
  | dct a b => cases h
  | tup xs =>
    have h : (decide (xs.length ≤ line) && D.lks 10 xs) = true := h
    rw [Bool.and_eq_true] at h
    have hl : xs.length ≤ line := of_decide_eq_true h.1
    have en := eq_tnil (lks10 h.2)
    have h1 : exec (callD fs (k + 7)) (.iff (.or (.not (.isi (.var 1) .tuple)) (.cmp .Eq (.var 1) (.tup .nil))) (.seq (.ret (.cst (.bl false))) .skip) .skip) [some (pD P), some (.tup xs), none, none, none] M = if xs.isEmpty then some (.rt (.bl false) M) else some (.nx [some (pD P), some (.tup xs), none, none, none] M) := by
      generalize pD P = x
      simp -implicitDefEqProofs [q_if, q_or, q_not, q_isi, q_var, q_pr, q_isi1, q_isiD, q_rd_tup, q_isiCt, q_bl, q_not1, q_truD, q_rd_bl, q_truCb, q_not2, q_or1, q_or2, q_cmp, q_cmp1, q_tup, q_nil, q_tup1, q_cmp2, q_eq, en, q_if1, q_if2, q_seq, q_ret, q_cst, q_ret1, q_seqr, q_skip]
    by_cases he : xs.isEmpty = true
    · rw [if_pos he] at h1
      rw [q_seq, h1, q_seqr]
      simp [isW, he]
    · have he' : xs.isEmpty = false := by simpa using he
      rw [if_neg he] at h1
      have hc : ev (callD fs (k + 7)) (.comp (.call 1 (.cons (.var 3) (.cons (.cst (.int 0)) (.cons (.bin .Sub (.blt .len (.cons (.var 0) .nil)) (.cst (.int 1))) .nil)))) (.nm 3) (.sSeq (.var 1)) (.cst (.bl true)) [3]) [some (pD P), some (.tup xs), none, none, none] M = some (.lst (xs.map fun x => .bl (inP P x)), M) := by
        rw [comp_map xs (fun x => .bl (inP P x)) rfl (walk_seq rfl) hl fun x hx => ?_]
        have hx2 := lks_all h.2 x hx
        have w := whole_any (k := k + 5) hM hx2 (lo := 0) (hi := (P.length : Int) - 1)
        refine ⟨[some (pD P), some (.tup xs), none, some x, none], .bl true, rfl, rfl, rfl, ?_⟩
        simp -implicitDefEqProofs [q_pr, q_bl, q_var, q_cst, q_bin, q_bin1, q_bin2, q_cmp, q_cmp1, q_cmp2, q_ch, q_ch1, q_ch2, q_ch3, q_neg, q_neg1, q_not, q_not1, q_not2, q_and, q_and1, q_and2, q_or, q_or1, q_or2, q_ite, q_ite1, q_ite2, q_tup, q_tup1, q_lst, q_lst1, q_dsp, q_dsp1, q_dsp2, q_idx, q_ix1, q_ix2, q_slice, q_sl1, q_sl2, q_sl3, q_slP00, q_slP10, q_slP01, q_slP11, q_slCt, q_slCl, q_rev, q_rev1, q_revD, q_revCl, q_revCt, q_call, q_call1, q_blt, q_blt1, q_isi, q_isi1, q_mth, q_m1, q_m2, q_m3, q_nil, q_cons, q_c1, q_c2, q_sSeq, q_sSeq1, q_sEnum, q_sEnum1, q_sR, q_sR1, q_sR2, q_sZ, q_sZ1, q_sZ2, q_seq, q_seqn, q_seqr, q_seqb, q_seqc, q_skip, q_brk, q_cont, q_asg, q_asg1, q_asg2, q_at_nm, q_at_tp, q_at_nil, q_at_cons, q_at1, q_box, q_box1, q_box2, q_bxl, q_bxd, q_bxf, q_par, q_par1, q_par2, q_bs0, q_bs, q_bs1, q_seti, q_st1, q_st2, q_st3, q_st4, q_putD, q_putL, q_putL1, q_putK, q_putKs, q_putK1, q_expr, q_ex1, q_ret, q_ret1, q_if, q_if1, q_if2, q_rd_non, q_rd_bl, q_rd_int, q_rd_str, q_rd_tup, q_rd_lst, q_rd_dct, q_rd_ref, q_rdOl, q_rdOd, q_seqOf, q_seqCt, q_seqCl, q_lstOf, q_lstCl, q_dctOf, q_dctCd, q_dctCt, q_dctCl, q_dctCs, q_truD, q_truCb, q_truCi, q_truCn, q_truCt, q_truCl, q_truCd, q_isiD, q_isiCn, q_isiCb, q_isiCi, q_isiCs, q_isiCt, q_isiCl, q_binD, b_add, b_sub, b_mul, b_div, b_mod, b_shl, b_pow, b_shr, b_and, b_or, b_xor, b_adds, b_addt, b_addl, b_mult, b_mull, q_nb, q_eq, q_ne, q_in, q_nin, q_lt, q_le, q_gt, q_ge, q_isb, q_isn, q_isi', q_ist, q_isl, q_iss, q_isbn, q_isr, q_isd, q_inb, q_inn, q_ini, q_int, q_inl, q_ins, q_inr, q_ind, q_eqii, q_eqss, q_eqbb, q_eqsi, q_eqtt, q_eqll, q_eqtn, q_eqnt, q_eqnn, q_ixD, q_ixC, q_ixK, q_ixKs, q_seqCd, q_lent, q_lenl, q_lend, q_lenr, q_lenCl, q_lenCd, q_abs, q_bint, q_bintb, q_bmin, q_bmax, q_btuple, q_bt1, q_blistt, q_blistl, q_blists, q_blistr, q_bll1, q_sset, q_sset1, q_lrange, q_trange, q_app, q_app1, flatD, eqv_str, eqv_int, eqv_bl, eqv_non, eqv_si, eqv_is, eqv_tup, eqv_lst, eqv_tn, eqv_nt, eqvs_nil, eqvs_cons, eqvs_nc, eqvs_cn, okN_non, okN_bl, okN_int, okN_str, okN_t64, okN_l64, okN_t63, okN_l63, okN_t62, okN_l62, okNs_nil, okNs_cons, eqS, setAll, inD, keyOf, w]
      have h2 : exec (callD fs (k + 7)) (.iff (.not (.blt .all (.cons (.comp (.call 1 (.cons (.var 3) (.cons (.cst (.int 0)) (.cons (.bin .Sub (.blt .len (.cons (.var 0) .nil)) (.cst (.int 1))) .nil)))) (.nm 3) (.sSeq (.var 1)) (.cst (.bl true)) [3]) .nil))) (.seq (.ret (.cst (.bl false))) .skip) .skip) [some (pD P), some (.tup xs), none, none, none] M = if xs.all (inP P) then some (.nx [some (pD P), some (.tup xs), none, none, none] M) else some (.rt (.bl false) M) := by
        have ha := all_map (M := M) (inP P) xs
        rw [q_if, q_not, q_blt, q_cons, hc, q_c1, q_nil, q_c2, q_blt1, ha, q_pr, q_not1, q_truD, q_rd_bl, q_truCb, q_not2, q_if1, q_truD, q_rd_bl, q_truCb, q_if2]
        cases xs.all (inP P) <;> rfl
      rw [q_seq, h1, q_seqn, q_seq, h2]
      by_cases hi : xs.all (inP P) = true
      · rw [if_pos hi, q_seqn]
        have b := all_next (k := k + 4) hM hP.le
        have h3 : exec (callD fs (k + 7)) (.asg (.nm 2) (.call 27 (.cons (.var 0) .nil))) [some (pD P), some (.tup xs), none, none, none] M = some (.nx [some (pD P), some (.tup xs), some (nsD P), none, none] M) := by
          generalize pD P = x at b
          generalize nsD P = y at b
          simp -implicitDefEqProofs [q_pr, q_bl, q_var, q_cst, q_bin, q_bin1, q_bin2, q_cmp, q_cmp1, q_cmp2, q_ch, q_ch1, q_ch2, q_ch3, q_neg, q_neg1, q_not, q_not1, q_not2, q_and, q_and1, q_and2, q_or, q_or1, q_or2, q_ite, q_ite1, q_ite2, q_tup, q_tup1, q_lst, q_lst1, q_dsp, q_dsp1, q_dsp2, q_idx, q_ix1, q_ix2, q_slice, q_sl1, q_sl2, q_sl3, q_slP00, q_slP10, q_slP01, q_slP11, q_slCt, q_slCl, q_rev, q_rev1, q_revD, q_revCl, q_revCt, q_call, q_call1, q_blt, q_blt1, q_isi, q_isi1, q_mth, q_m1, q_m2, q_m3, q_nil, q_cons, q_c1, q_c2, q_sSeq, q_sSeq1, q_sEnum, q_sEnum1, q_sR, q_sR1, q_sR2, q_sZ, q_sZ1, q_sZ2, q_seq, q_seqn, q_seqr, q_seqb, q_seqc, q_skip, q_brk, q_cont, q_asg, q_asg1, q_asg2, q_at_nm, q_at_tp, q_at_nil, q_at_cons, q_at1, q_box, q_box1, q_box2, q_bxl, q_bxd, q_bxf, q_par, q_par1, q_par2, q_bs0, q_bs, q_bs1, q_seti, q_st1, q_st2, q_st3, q_st4, q_putD, q_putL, q_putL1, q_putK, q_putKs, q_putK1, q_expr, q_ex1, q_ret, q_ret1, q_if, q_if1, q_if2, q_rd_non, q_rd_bl, q_rd_int, q_rd_str, q_rd_tup, q_rd_lst, q_rd_dct, q_rd_ref, q_rdOl, q_rdOd, q_seqOf, q_seqCt, q_seqCl, q_lstOf, q_lstCl, q_dctOf, q_dctCd, q_dctCt, q_dctCl, q_dctCs, q_truD, q_truCb, q_truCi, q_truCn, q_truCt, q_truCl, q_truCd, q_isiD, q_isiCn, q_isiCb, q_isiCi, q_isiCs, q_isiCt, q_isiCl, q_binD, b_add, b_sub, b_mul, b_div, b_mod, b_shl, b_pow, b_shr, b_and, b_or, b_xor, b_adds, b_addt, b_addl, b_mult, b_mull, q_nb, q_eq, q_ne, q_in, q_nin, q_lt, q_le, q_gt, q_ge, q_isb, q_isn, q_isi', q_ist, q_isl, q_iss, q_isbn, q_isr, q_isd, q_inb, q_inn, q_ini, q_int, q_inl, q_ins, q_inr, q_ind, q_eqii, q_eqss, q_eqbb, q_eqsi, q_eqtt, q_eqll, q_eqtn, q_eqnt, q_eqnn, q_ixD, q_ixC, q_ixK, q_ixKs, q_seqCd, q_lent, q_lenl, q_lend, q_lenr, q_lenCl, q_lenCd, q_abs, q_bint, q_bintb, q_bmin, q_bmax, q_btuple, q_bt1, q_blistt, q_blistl, q_blists, q_blistr, q_bll1, q_sset, q_sset1, q_lrange, q_trange, q_app, q_app1, flatD, eqv_str, eqv_int, eqv_bl, eqv_non, eqv_si, eqv_is, eqv_tup, eqv_lst, eqv_tn, eqv_nt, eqvs_nil, eqvs_cons, eqvs_nc, eqvs_cn, okN_non, okN_bl, okN_int, okN_str, okN_t64, okN_l64, okN_t63, okN_l63, okN_t62, okN_l62, okNs_nil, okNs_cons, eqS, setAll, inD, keyOf, b]
        have hc2 : ev (callD fs (k + 7)) (.comp (.cmp .In (.var 4) (.idx (.var 2) (.var 3))) (.tp (.cons (.nm 3) (.cons (.nm 4) .nil))) (.sZip (.var 1) (.slice (.var 1) (.cons (.cst (.int 1)) .nil) .nil)) (.cst (.bl true)) [3, 4]) [some (pD P), some (.tup xs), some (nsD P), none, none] M = some (.lst ((xs.zip (xs.drop 1)).map fun p => .bl (adjD P p.1 p.2)), M) := by
          have hs : evS (callD fs (k + 7)) (.sZip (.var 1) (.slice (.var 1) (.cons (.cst (.int 1)) .nil) .nil)) [some (pD P), some (.tup xs), some (nsD P), none, none] M = some (.zip (.tup xs) (.tup (xs.drop 1)), M) := by
            generalize pD P = x
            generalize nsD P = y
            simp -implicitDefEqProofs [q_pr, q_bl, q_var, q_cst, q_bin, q_bin1, q_bin2, q_cmp, q_cmp1, q_cmp2, q_ch, q_ch1, q_ch2, q_ch3, q_neg, q_neg1, q_not, q_not1, q_not2, q_and, q_and1, q_and2, q_or, q_or1, q_or2, q_ite, q_ite1, q_ite2, q_tup, q_tup1, q_lst, q_lst1, q_dsp, q_dsp1, q_dsp2, q_idx, q_ix1, q_ix2, q_slice, q_sl1, q_sl2, q_sl3, q_slP00, q_slP10, q_slP01, q_slP11, q_slCt, q_slCl, q_rev, q_rev1, q_revD, q_revCl, q_revCt, q_call, q_call1, q_blt, q_blt1, q_isi, q_isi1, q_mth, q_m1, q_m2, q_m3, q_nil, q_cons, q_c1, q_c2, q_sSeq, q_sSeq1, q_sEnum, q_sEnum1, q_sR, q_sR1, q_sR2, q_sZ, q_sZ1, q_sZ2, q_seq, q_seqn, q_seqr, q_seqb, q_seqc, q_skip, q_brk, q_cont, q_asg, q_asg1, q_asg2, q_at_nm, q_at_tp, q_at_nil, q_at_cons, q_at1, q_box, q_box1, q_box2, q_bxl, q_bxd, q_bxf, q_par, q_par1, q_par2, q_bs0, q_bs, q_bs1, q_seti, q_st1, q_st2, q_st3, q_st4, q_putD, q_putL, q_putL1, q_putK, q_putKs, q_putK1, q_expr, q_ex1, q_ret, q_ret1, q_if, q_if1, q_if2, q_rd_non, q_rd_bl, q_rd_int, q_rd_str, q_rd_tup, q_rd_lst, q_rd_dct, q_rd_ref, q_rdOl, q_rdOd, q_seqOf, q_seqCt, q_seqCl, q_lstOf, q_lstCl, q_dctOf, q_dctCd, q_dctCt, q_dctCl, q_dctCs, q_truD, q_truCb, q_truCi, q_truCn, q_truCt, q_truCl, q_truCd, q_isiD, q_isiCn, q_isiCb, q_isiCi, q_isiCs, q_isiCt, q_isiCl, q_binD, b_add, b_sub, b_mul, b_div, b_mod, b_shl, b_pow, b_shr, b_and, b_or, b_xor, b_adds, b_addt, b_addl, b_mult, b_mull, q_nb, q_eq, q_ne, q_in, q_nin, q_lt, q_le, q_gt, q_ge, q_isb, q_isn, q_isi', q_ist, q_isl, q_iss, q_isbn, q_isr, q_isd, q_inb, q_inn, q_ini, q_int, q_inl, q_ins, q_inr, q_ind, q_eqii, q_eqss, q_eqbb, q_eqsi, q_eqtt, q_eqll, q_eqtn, q_eqnt, q_eqnn, q_ixD, q_ixC, q_ixK, q_ixKs, q_seqCd, q_lent, q_lenl, q_lend, q_lenr, q_lenCl, q_lenCd, q_abs, q_bint, q_bintb, q_bmin, q_bmax, q_btuple, q_bt1, q_blistt, q_blistl, q_blists, q_blistr, q_bll1, q_sset, q_sset1, q_lrange, q_trange, q_app, q_app1, flatD, eqv_str, eqv_int, eqv_bl, eqv_non, eqv_si, eqv_is, eqv_tup, eqv_lst, eqv_tn, eqv_nt, eqvs_nil, eqvs_cons, eqvs_nc, eqvs_cn, okN_non, okN_bl, okN_int, okN_str, okN_t64, okN_l64, okN_t63, okN_l63, okN_t62, okN_l62, okNs_nil, okNs_cons, eqS, setAll, inD, keyOf, cut_1]
          rw [comp_map ((xs.zip (xs.drop 1)).map fun p => .tup [p.1, p.2]) (fun x => match x with
            | .tup [u, v] => .bl (adjD P u v)
            | x => x) hs (walk_zip (.inr ⟨rfl, rfl⟩)) (by simp; omega) fun x hx => ?_]
          · rw [List.map_map]
            rfl
          · obtain ⟨⟨u, v⟩, hp, rfl⟩ := List.mem_map.mp hx
            obtain ⟨m1, m2⟩ := zip_drop_mem hp
            obtain ⟨i, rfl, hi1⟩ := inP_nat (List.all_eq_true.mp hi u m1)
            obtain ⟨j, rfl, hj1⟩ := inP_nat (List.all_eq_true.mp hi v m2)
            refine ⟨[some (pD P), some (.tup xs), some (nsD P), some (nD i), some (nD j)], .bl true, rfl, rfl, rfl, ?_⟩
            have ha := nsD_at (P := P) hi1
            have hin := in_nats (M := M) (j := j) (l := nxt P i)
            show _ = some (D.bl ((nxt P ((i : Nat) : Int).toNat).contains ((j : Nat) : Int).toNat), M)
            rw [Int.toNat_natCast, Int.toNat_natCast]
            unfold nsD
            generalize ((List.range P.length).map fun p => nL (nxt P p)) = Y at ha
            generalize (nxt P i).contains j = bb at hin
            generalize nL (nxt P i) = y at ha hin
            generalize pD P = x
            simp -implicitDefEqProofs [q_cmp, q_var, q_pr, q_cmp1, q_idx, q_ix1, q_ix2, q_ixD, q_dctOf, q_rd_lst, q_dctCl, q_seqOf, q_seqCl, q_ixC, ha, q_cmp2, q_in, hin, q_bl]
        rw [q_seq, h3, q_seqn, q_seq, q_ret, q_blt, q_cons, hc2, q_c1, q_nil, q_c2, q_blt1, all_map (M := M) (fun p : D × D => adjD P p.1 p.2), q_pr, q_ret1, q_seqr]
        simp only [isW, he', hi]
        rfl
      · have hi' : xs.all (inP P) = false := by simpa using hi
        rw [if_neg hi, q_seqr]
        simp only [isW, hi']
        simp
  | _ =>
    generalize pD P = x
    simp -implicitDefEqProofs [q_pr, q_bl, q_var, q_cst, q_bin, q_bin1, q_bin2, q_cmp, q_cmp1, q_cmp2, q_ch, q_ch1, q_ch2, q_ch3, q_neg, q_neg1, q_not, q_not1, q_not2, q_and, q_and1, q_and2, q_or, q_or1, q_or2, q_ite, q_ite1, q_ite2, q_tup, q_tup1, q_lst, q_lst1, q_dsp, q_dsp1, q_dsp2, q_idx, q_ix1, q_ix2, q_slice, q_sl1, q_sl2, q_sl3, q_slP00, q_slP10, q_slP01, q_slP11, q_slCt, q_slCl, q_rev, q_rev1, q_revD, q_revCl, q_revCt, q_call, q_call1, q_blt, q_blt1, q_isi, q_isi1, q_mth, q_m1, q_m2, q_m3, q_nil, q_cons, q_c1, q_c2, q_sSeq, q_sSeq1, q_sEnum, q_sEnum1, q_sR, q_sR1, q_sR2, q_sZ, q_sZ1, q_sZ2, q_seq, q_seqn, q_seqr, q_seqb, q_seqc, q_skip, q_brk, q_cont, q_asg, q_asg1, q_asg2, q_at_nm, q_at_tp, q_at_nil, q_at_cons, q_at1, q_box, q_box1, q_box2, q_bxl, q_bxd, q_bxf, q_par, q_par1, q_par2, q_bs0, q_bs, q_bs1, q_seti, q_st1, q_st2, q_st3, q_st4, q_putD, q_putL, q_putL1, q_putK, q_putKs, q_putK1, q_expr, q_ex1, q_ret, q_ret1, q_if, q_if1, q_if2, q_rd_non, q_rd_bl, q_rd_int, q_rd_str, q_rd_tup, q_rd_lst, q_rd_dct, q_rd_ref, q_rdOl, q_rdOd, q_seqOf, q_seqCt, q_seqCl, q_lstOf, q_lstCl, q_dctOf, q_dctCd, q_dctCt, q_dctCl, q_dctCs, q_truD, q_truCb, q_truCi, q_truCn, q_truCt, q_truCl, q_truCd, q_isiD, q_isiCn, q_isiCb, q_isiCi, q_isiCs, q_isiCt, q_isiCl, q_binD, b_add, b_sub, b_mul, b_div, b_mod, b_shl, b_pow, b_shr, b_and, b_or, b_xor, b_adds, b_addt, b_addl, b_mult, b_mull, q_nb, q_eq, q_ne, q_in, q_nin, q_lt, q_le, q_gt, q_ge, q_isb, q_isn, q_isi', q_ist, q_isl, q_iss, q_isbn, q_isr, q_isd, q_inb, q_inn, q_ini, q_int, q_inl, q_ins, q_inr, q_ind, q_eqii, q_eqss, q_eqbb, q_eqsi, q_eqtt, q_eqll, q_eqtn, q_eqnt, q_eqnn, q_ixD, q_ixC, q_ixK, q_ixKs, q_seqCd, q_lent, q_lenl, q_lend, q_lenr, q_lenCl, q_lenCd, q_abs, q_bint, q_bintb, q_bmin, q_bmax, q_btuple, q_bt1, q_blistt, q_blistl, q_blists, q_blistr, q_bll1, q_sset, q_sset1, q_lrange, q_trange, q_app, q_app1, flatD, eqv_str, eqv_int, eqv_bl, eqv_non, eqv_si, eqv_is, eqv_tup, eqv_lst, eqv_tn, eqv_nt, eqvs_nil, eqvs_cons, eqvs_nc, eqvs_cn, okN_non, okN_bl, okN_int, okN_str, okN_t64, okN_l64, okN_t63, okN_l63, okN_t62, okN_l62, okNs_nil, okNs_cons, eqS, setAll, inD, keyOf, isW]
theorem sort_any (hM : OkM M) {d : D} {n : Nat} (h : d.lk n = true) : callD fs (k + 1) 42 [d] M = some (.int (sortN d), M) := law_sort hM h
theorem lks_filter {n : Nat} {p : D → Bool} : ∀ {xs : List D}, D.lks n xs = true → D.lks n (xs.filter p) = true
  | [], h => h
  | x :: xs, h => by
    rw [lks_cons, Bool.and_eq_true] at h
    rw [List.filter_cons]
    split
    · rw [lks_cons, h.1, lks_filter h.2]
      rfl
    · exact lks_filter h.2
theorem filter_none {α : Type} {p : α → Bool} {xs : List α} : (xs.filter fun x => !p x).isEmpty = xs.all p := by
  induction xs with
  | nil => rfl
  | cons x xs ih =>
    rw [List.filter_cons, List.all_cons]
    cases h : p x <;> simp [ih]
theorem law_is_way (hM : OkM M) (hP : POk P) {d : D} (h : d.lk 11 = true) : callD fs (k + 3) 49 [pD P, d] M = some (.bl (isW P d), M) := by
  refine call_pure (f := f49) hM rfl rfl rfl ?_
  have h60 := hP.le
  show exec (callD fs (k + 2)) b49 [some (pD P), some d, none, none] M = _
  unfold b49
  cases d with
  | ref i => cases h
  | scr i => cases h
  | dct a b => cases h
  | tup xs =>
    have h : (decide (xs.length ≤ line) && D.lks 10 xs) = true := h
    rw [Bool.and_eq_true] at h
    have hl : xs.length ≤ line := of_decide_eq_true h.1
    have en := eq_tnil (lks10 h.2)
    have hc : ev (callD fs (k + 2)) (.comp (.var 2) (.nm 2) (.sSeq (.var 1)) (.or (.cmp .NotEq (.call 42 (.cons (.var 2) .nil)) (.cst (.int 2))) (.not (.chain .LtE .Lt (.cst (.int 0)) (.var 2) (.blt .len (.cons (.var 0) .nil))))) [2]) [some (pD P), some (.tup xs), none, none] M = some (.lst (xs.filter fun x => !inP P x), M) := by
      rw [comp_pure xs (fun x => !inP P x) id rfl (walk_seq rfl) hl fun x hx => ?_, List.map_id]
      have hx2 := lks_all h.2 x hx
      have w := sort_any (k := k + 1) hM hx2
      refine ⟨[some (pD P), some (.tup xs), some x, none], .bl (!inP P x), rfl, ?_, rfl, fun _ => rfl⟩
      cases x with
      | int i =>
        simp only [sortN] at w
        have e : inP P (.int i) = (decide (0 ≤ i) && decide (i < (P.length : Int))) := by
          show (decide (0 ≤ i) && decide (i ≤ (P.length : Int) - 1)) = _
          congr 1
          apply decide_eq_decide.mpr
          omega
        rw [e]
        by_cases c1 : 0 ≤ i
        · by_cases c2 : i < (P.length : Int)
          · simp -implicitDefEqProofs [q_pr, q_bl, q_var, q_cst, q_bin, q_bin1, q_bin2, q_cmp, q_cmp1, q_cmp2, q_ch, q_ch1, q_ch2, q_ch3, q_neg, q_neg1, q_not, q_not1, q_not2, q_and, q_and1, q_and2, q_or, q_or1, q_or2, q_ite, q_ite1, q_ite2, q_tup, q_tup1, q_lst, q_lst1, q_dsp, q_dsp1, q_dsp2, q_idx, q_ix1, q_ix2, q_slice, q_sl1, q_sl2, q_sl3, q_slP00, q_slP10, q_slP01, q_slP11, q_slCt, q_slCl, q_rev, q_rev1, q_revD, q_revCl, q_revCt, q_call, q_call1, q_blt, q_blt1, q_isi, q_isi1, q_mth, q_m1, q_m2, q_m3, q_nil, q_cons, q_c1, q_c2, q_sSeq, q_sSeq1, q_sEnum, q_sEnum1, q_sR, q_sR1, q_sR2, q_sZ, q_sZ1, q_sZ2, q_seq, q_seqn, q_seqr, q_seqb, q_seqc, q_skip, q_brk, q_cont, q_asg, q_asg1, q_asg2, q_at_nm, q_at_tp, q_at_nil, q_at_cons, q_at1, q_box, q_box1, q_box2, q_bxl, q_bxd, q_bxf, q_par, q_par1, q_par2, q_bs0, q_bs, q_bs1, q_seti, q_st1, q_st2, q_st3, q_st4, q_putD, q_putL, q_putL1, q_putK, q_putKs, q_putK1, q_expr, q_ex1, q_ret, q_ret1, q_if, q_if1, q_if2, q_rd_non, q_rd_bl, q_rd_int, q_rd_str, q_rd_tup, q_rd_lst, q_rd_dct, q_rd_ref, q_rdOl, q_rdOd, q_seqOf, q_seqCt, q_seqCl, q_lstOf, q_lstCl, q_dctOf, q_dctCd, q_dctCt, q_dctCl, q_dctCs, q_truD, q_truCb, q_truCi, q_truCn, q_truCt, q_truCl, q_truCd, q_isiD, q_isiCn, q_isiCb, q_isiCi, q_isiCs, q_isiCt, q_isiCl, q_binD, b_add, b_sub, b_mul, b_div, b_mod, b_shl, b_pow, b_shr, b_and, b_or, b_xor, b_adds, b_addt, b_addl, b_mult, b_mull, q_nb, q_eq, q_ne, q_in, q_nin, q_lt, q_le, q_gt, q_ge, q_isb, q_isn, q_isi', q_ist, q_isl, q_iss, q_isbn, q_isr, q_isd, q_inb, q_inn, q_ini, q_int, q_inl, q_ins, q_inr, q_ind, q_eqii, q_eqss, q_eqbb, q_eqsi, q_eqtt, q_eqll, q_eqtn, q_eqnt, q_eqnn, q_ixD, q_ixC, q_ixK, q_ixKs, q_seqCd, q_lent, q_lenl, q_lend, q_lenr, q_lenCl, q_lenCd, q_abs, q_bint, q_bintb, q_bmin, q_bmax, q_btuple, q_bt1, q_blistt, q_blistl, q_blists, q_blistr, q_bll1, q_sset, q_sset1, q_lrange, q_trange, q_app, q_app1, flatD, eqv_str, eqv_int, eqv_bl, eqv_non, eqv_si, eqv_is, eqv_tup, eqv_lst, eqv_tn, eqv_nt, eqvs_nil, eqvs_cons, eqvs_nc, eqvs_cn, okN_non, okN_bl, okN_int, okN_str, okN_t64, okN_l64, okN_t63, okN_l63, okN_t62, okN_l62, okNs_nil, okNs_cons, eqS, setAll, inD, keyOf, w, c1, c2]
          · simp -implicitDefEqProofs [q_pr, q_bl, q_var, q_cst, q_bin, q_bin1, q_bin2, q_cmp, q_cmp1, q_cmp2, q_ch, q_ch1, q_ch2, q_ch3, q_neg, q_neg1, q_not, q_not1, q_not2, q_and, q_and1, q_and2, q_or, q_or1, q_or2, q_ite, q_ite1, q_ite2, q_tup, q_tup1, q_lst, q_lst1, q_dsp, q_dsp1, q_dsp2, q_idx, q_ix1, q_ix2, q_slice, q_sl1, q_sl2, q_sl3, q_slP00, q_slP10, q_slP01, q_slP11, q_slCt, q_slCl, q_rev, q_rev1, q_revD, q_revCl, q_revCt, q_call, q_call1, q_blt, q_blt1, q_isi, q_isi1, q_mth, q_m1, q_m2, q_m3, q_nil, q_cons, q_c1, q_c2, q_sSeq, q_sSeq1, q_sEnum, q_sEnum1, q_sR, q_sR1, q_sR2, q_sZ, q_sZ1, q_sZ2, q_seq, q_seqn, q_seqr, q_seqb, q_seqc, q_skip, q_brk, q_cont, q_asg, q_asg1, q_asg2, q_at_nm, q_at_tp, q_at_nil, q_at_cons, q_at1, q_box, q_box1, q_box2, q_bxl, q_bxd, q_bxf, q_par, q_par1, q_par2, q_bs0, q_bs, q_bs1, q_seti, q_st1, q_st2, q_st3, q_st4, q_putD, q_putL, q_putL1, q_putK, q_putKs, q_putK1, q_expr, q_ex1, q_ret, q_ret1, q_if, q_if1, q_if2, q_rd_non, q_rd_bl, q_rd_int, q_rd_str, q_rd_tup, q_rd_lst, q_rd_dct, q_rd_ref, q_rdOl, q_rdOd, q_seqOf, q_seqCt, q_seqCl, q_lstOf, q_lstCl, q_dctOf, q_dctCd, q_dctCt, q_dctCl, q_dctCs, q_truD, q_truCb, q_truCi, q_truCn, q_truCt, q_truCl, q_truCd, q_isiD, q_isiCn, q_isiCb, q_isiCi, q_isiCs, q_isiCt, q_isiCl, q_binD, b_add, b_sub, b_mul, b_div, b_mod, b_shl, b_pow, b_shr, b_and, b_or, b_xor, b_adds, b_addt, b_addl, b_mult, b_mull, q_nb, q_eq, q_ne, q_in, q_nin, q_lt, q_le, q_gt, q_ge, q_isb, q_isn, q_isi', q_ist, q_isl, q_iss, q_isbn, q_isr, q_isd, q_inb, q_inn, q_ini, q_int, q_inl, q_ins, q_inr, q_ind, q_eqii, q_eqss, q_eqbb, q_eqsi, q_eqtt, q_eqll, q_eqtn, q_eqnt, q_eqnn, q_ixD, q_ixC, q_ixK, q_ixKs, q_seqCd, q_lent, q_lenl, q_lend, q_lenr, q_lenCl, q_lenCd, q_abs, q_bint, q_bintb, q_bmin, q_bmax, q_btuple, q_bt1, q_blistt, q_blistl, q_blists, q_blistr, q_bll1, q_sset, q_sset1, q_lrange, q_trange, q_app, q_app1, flatD, eqv_str, eqv_int, eqv_bl, eqv_non, eqv_si, eqv_is, eqv_tup, eqv_lst, eqv_tn, eqv_nt, eqvs_nil, eqvs_cons, eqvs_nc, eqvs_cn, okN_non, okN_bl, okN_int, okN_str, okN_t64, okN_l64, okN_t63, okN_l63, okN_t62, okN_l62, okNs_nil, okNs_cons, eqS, setAll, inD, keyOf, w, c1, c2]
        · simp -implicitDefEqProofs [q_pr, q_bl, q_var, q_cst, q_bin, q_bin1, q_bin2, q_cmp, q_cmp1, q_cmp2, q_ch, q_ch1, q_ch2, q_ch3, q_neg, q_neg1, q_not, q_not1, q_not2, q_and, q_and1, q_and2, q_or, q_or1, q_or2, q_ite, q_ite1, q_ite2, q_tup, q_tup1, q_lst, q_lst1, q_dsp, q_dsp1, q_dsp2, q_idx, q_ix1, q_ix2, q_slice, q_sl1, q_sl2, q_sl3, q_slP00, q_slP10, q_slP01, q_slP11, q_slCt, q_slCl, q_rev, q_rev1, q_revD, q_revCl, q_revCt, q_call, q_call1, q_blt, q_blt1, q_isi, q_isi1, q_mth, q_m1, q_m2, q_m3, q_nil, q_cons, q_c1, q_c2, q_sSeq, q_sSeq1, q_sEnum, q_sEnum1, q_sR, q_sR1, q_sR2, q_sZ, q_sZ1, q_sZ2, q_seq, q_seqn, q_seqr, q_seqb, q_seqc, q_skip, q_brk, q_cont, q_asg, q_asg1, q_asg2, q_at_nm, q_at_tp, q_at_nil, q_at_cons, q_at1, q_box, q_box1, q_box2, q_bxl, q_bxd, q_bxf, q_par, q_par1, q_par2, q_bs0, q_bs, q_bs1, q_seti, q_st1, q_st2, q_st3, q_st4, q_putD, q_putL, q_putL1, q_putK, q_putKs, q_putK1, q_expr, q_ex1, q_ret, q_ret1, q_if, q_if1, q_if2, q_rd_non, q_rd_bl, q_rd_int, q_rd_str, q_rd_tup, q_rd_lst, q_rd_dct, q_rd_ref, q_rdOl, q_rdOd, q_seqOf, q_seqCt, q_seqCl, q_lstOf, q_lstCl, q_dctOf, q_dctCd, q_dctCt, q_dctCl, q_dctCs, q_truD, q_truCb, q_truCi, q_truCn, q_truCt, q_truCl, q_truCd, q_isiD, q_isiCn, q_isiCb, q_isiCi, q_isiCs, q_isiCt, q_isiCl, q_binD, b_add, b_sub, b_mul, b_div, b_mod, b_shl, b_pow, b_shr, b_and, b_or, b_xor, b_adds, b_addt, b_addl, b_mult, b_mull, q_nb, q_eq, q_ne, q_in, q_nin, q_lt, q_le, q_gt, q_ge, q_isb, q_isn, q_isi', q_ist, q_isl, q_iss, q_isbn, q_isr, q_isd, q_inb, q_inn, q_ini, q_int, q_inl, q_ins, q_inr, q_ind, q_eqii, q_eqss, q_eqbb, q_eqsi, q_eqtt, q_eqll, q_eqtn, q_eqnt, q_eqnn, q_ixD, q_ixC, q_ixK, q_ixKs, q_seqCd, q_lent, q_lenl, q_lend, q_lenr, q_lenCl, q_lenCd, q_abs, q_bint, q_bintb, q_bmin, q_bmax, q_btuple, q_bt1, q_blistt, q_blistl, q_blists, q_blistr, q_bll1, q_sset, q_sset1, q_lrange, q_trange, q_app, q_app1, flatD, eqv_str, eqv_int, eqv_bl, eqv_non, eqv_si, eqv_is, eqv_tup, eqv_lst, eqv_tn, eqv_nt, eqvs_nil, eqvs_cons, eqvs_nc, eqvs_cn, okN_non, okN_bl, okN_int, okN_str, okN_t64, okN_l64, okN_t63, okN_l63, okN_t62, okN_l62, okNs_nil, okNs_cons, eqS, setAll, inD, keyOf, w, c1]
      | ref i => cases hx2
      | scr i => cases hx2
      | dct a b => cases hx2
      | _ =>
        simp only [sortN] at w
        simp -implicitDefEqProofs [q_pr, q_bl, q_var, q_cst, q_bin, q_bin1, q_bin2, q_cmp, q_cmp1, q_cmp2, q_ch, q_ch1, q_ch2, q_ch3, q_neg, q_neg1, q_not, q_not1, q_not2, q_and, q_and1, q_and2, q_or, q_or1, q_or2, q_ite, q_ite1, q_ite2, q_tup, q_tup1, q_lst, q_lst1, q_dsp, q_dsp1, q_dsp2, q_idx, q_ix1, q_ix2, q_slice, q_sl1, q_sl2, q_sl3, q_slP00, q_slP10, q_slP01, q_slP11, q_slCt, q_slCl, q_rev, q_rev1, q_revD, q_revCl, q_revCt, q_call, q_call1, q_blt, q_blt1, q_isi, q_isi1, q_mth, q_m1, q_m2, q_m3, q_nil, q_cons, q_c1, q_c2, q_sSeq, q_sSeq1, q_sEnum, q_sEnum1, q_sR, q_sR1, q_sR2, q_sZ, q_sZ1, q_sZ2, q_seq, q_seqn, q_seqr, q_seqb, q_seqc, q_skip, q_brk, q_cont, q_asg, q_asg1, q_asg2, q_at_nm, q_at_tp, q_at_nil, q_at_cons, q_at1, q_box, q_box1, q_box2, q_bxl, q_bxd, q_bxf, q_par, q_par1, q_par2, q_bs0, q_bs, q_bs1, q_seti, q_st1, q_st2, q_st3, q_st4, q_putD, q_putL, q_putL1, q_putK, q_putKs, q_putK1, q_expr, q_ex1, q_ret, q_ret1, q_if, q_if1, q_if2, q_rd_non, q_rd_bl, q_rd_int, q_rd_str, q_rd_tup, q_rd_lst, q_rd_dct, q_rd_ref, q_rdOl, q_rdOd, q_seqOf, q_seqCt, q_seqCl, q_lstOf, q_lstCl, q_dctOf, q_dctCd, q_dctCt, q_dctCl, q_dctCs, q_truD, q_truCb, q_truCi, q_truCn, q_truCt, q_truCl, q_truCd, q_isiD, q_isiCn, q_isiCb, q_isiCi, q_isiCs, q_isiCt, q_isiCl, q_binD, b_add, b_sub, b_mul, b_div, b_mod, b_shl, b_pow, b_shr, b_and, b_or, b_xor, b_adds, b_addt, b_addl, b_mult, b_mull, q_nb, q_eq, q_ne, q_in, q_nin, q_lt, q_le, q_gt, q_ge, q_isb, q_isn, q_isi', q_ist, q_isl, q_iss, q_isbn, q_isr, q_isd, q_inb, q_inn, q_ini, q_int, q_inl, q_ins, q_inr, q_ind, q_eqii, q_eqss, q_eqbb, q_eqsi, q_eqtt, q_eqll, q_eqtn, q_eqnt, q_eqnn, q_ixD, q_ixC, q_ixK, q_ixKs, q_seqCd, q_lent, q_lenl, q_lend, q_lenr, q_lenCl, q_lenCd, q_abs, q_bint, q_bintb, q_bmin, q_bmax, q_btuple, q_bt1, q_blistt, q_blistl, q_blists, q_blistr, q_bll1, q_sset, q_sset1, q_lrange, q_trange, q_app, q_app1, flatD, eqv_str, eqv_int, eqv_bl, eqv_non, eqv_si, eqv_is, eqv_tup, eqv_lst, eqv_tn, eqv_nt, eqvs_nil, eqvs_cons, eqvs_nc, eqvs_cn, okN_non, okN_bl, okN_int, okN_str, okN_t64, okN_l64, okN_t63, okN_l63, okN_t62, okN_l62, okNs_nil, okNs_cons, eqS, setAll, inD, keyOf, w, inR]
    have el := eq_lnil (lks10 (lks_filter (p := fun x => !inP P x) h.2))
    rw [filter_none] at el
    have h1 : exec (callD fs (k + 2)) (.iff (.or (.not (.isi (.var 1) .tuple)) (.or (.cmp .Eq (.var 1) (.tup .nil)) (.cmp .NotEq (.comp (.var 2) (.nm 2) (.sSeq (.var 1)) (.or (.cmp .NotEq (.call 42 (.cons (.var 2) .nil)) (.cst (.int 2))) (.not (.chain .LtE .Lt (.cst (.int 0)) (.var 2) (.blt .len (.cons (.var 0) .nil))))) [2]) (.lst .nil)))) (.seq (.ret (.cst (.bl false))) .skip) .skip) [some (pD P), some (.tup xs), none, none] M = if xs.isEmpty || !xs.all (inP P) then some (.rt (.bl false) M) else some (.nx [some (pD P), some (.tup xs), none, none] M) := by
      have hce : ev (callD fs (k + 2)) (.cmp .NotEq (.comp (.var 2) (.nm 2) (.sSeq (.var 1)) (.or (.cmp .NotEq (.call 42 (.cons (.var 2) .nil)) (.cst (.int 2))) (.not (.chain .LtE .Lt (.cst (.int 0)) (.var 2) (.blt .len (.cons (.var 0) .nil))))) [2]) (.lst .nil)) [some (pD P), some (.tup xs), none, none] M = some (.bl (!xs.all (inP P)), M) := by
        rw [q_cmp, hc, q_cmp1, q_lst, q_nil, q_lst1, q_cmp2, q_ne, q_rd_lst, q_rd_lst, el, q_nb, q_bl]
      rw [q_if, q_or, q_not, q_isi, q_var]
      show k_if1 _ _ _ _ (k_or1 _ _ _ (some (.bl false, M))) = _
      rw [q_or1, q_truD, q_rd_bl, q_truCb, q_or2, if_neg (by decide), q_or, q_cmp, q_var]
      show k_if1 _ _ _ _ (k_or1 _ _ _ (k_cmp1 _ _ _ _ (some (.tup xs, M)))) = _
      rw [q_cmp1, q_tup, q_nil, q_tup1, q_cmp2, q_eq, q_rd_tup, q_rd_tup, en, q_bl, q_or1, q_truD, q_rd_bl, q_truCb, q_or2, hce]
      cases xs.isEmpty <;> cases xs.all (inP P) <;> rfl
    rw [q_seq, h1]
    by_cases he : xs.isEmpty = true
    · rw [he]
      show k_seq _ _ (some (.rt (.bl false) M)) = _
      rw [q_seqr]
      simp [isW, he]
    · have he' : xs.isEmpty = false := by simpa using he
      by_cases hi : xs.all (inP P) = true
      · rw [he', hi]
        show k_seq _ _ (some (.nx _ M)) = _
        rw [q_seqn]
        have hs : evS (callD fs (k + 2)) (.sZip (.var 1) (.slice (.var 1) (.cons (.cst (.int 1)) .nil) .nil)) [some (pD P), some (.tup xs), none, none] M = some (.zip (.tup xs) (.tup (xs.drop 1)), M) := by
          generalize pD P = x
          simp -implicitDefEqProofs [q_pr, q_bl, q_var, q_cst, q_bin, q_bin1, q_bin2, q_cmp, q_cmp1, q_cmp2, q_ch, q_ch1, q_ch2, q_ch3, q_neg, q_neg1, q_not, q_not1, q_not2, q_and, q_and1, q_and2, q_or, q_or1, q_or2, q_ite, q_ite1, q_ite2, q_tup, q_tup1, q_lst, q_lst1, q_dsp, q_dsp1, q_dsp2, q_idx, q_ix1, q_ix2, q_slice, q_sl1, q_sl2, q_sl3, q_slP00, q_slP10, q_slP01, q_slP11, q_slCt, q_slCl, q_rev, q_rev1, q_revD, q_revCl, q_revCt, q_call, q_call1, q_blt, q_blt1, q_isi, q_isi1, q_mth, q_m1, q_m2, q_m3, q_nil, q_cons, q_c1, q_c2, q_sSeq, q_sSeq1, q_sEnum, q_sEnum1, q_sR, q_sR1, q_sR2, q_sZ, q_sZ1, q_sZ2, q_seq, q_seqn, q_seqr, q_seqb, q_seqc, q_skip, q_brk, q_cont, q_asg, q_asg1, q_asg2, q_at_nm, q_at_tp, q_at_nil, q_at_cons, q_at1, q_box, q_box1, q_box2, q_bxl, q_bxd, q_bxf, q_par, q_par1, q_par2, q_bs0, q_bs, q_bs1, q_seti, q_st1, q_st2, q_st3, q_st4, q_putD, q_putL, q_putL1, q_putK, q_putKs, q_putK1, q_expr, q_ex1, q_ret, q_ret1, q_if, q_if1, q_if2, q_rd_non, q_rd_bl, q_rd_int, q_rd_str, q_rd_tup, q_rd_lst, q_rd_dct, q_rd_ref, q_rdOl, q_rdOd, q_seqOf, q_seqCt, q_seqCl, q_lstOf, q_lstCl, q_dctOf, q_dctCd, q_dctCt, q_dctCl, q_dctCs, q_truD, q_truCb, q_truCi, q_truCn, q_truCt, q_truCl, q_truCd, q_isiD, q_isiCn, q_isiCb, q_isiCi, q_isiCs, q_isiCt, q_isiCl, q_binD, b_add, b_sub, b_mul, b_div, b_mod, b_shl, b_pow, b_shr, b_and, b_or, b_xor, b_adds, b_addt, b_addl, b_mult, b_mull, q_nb, q_eq, q_ne, q_in, q_nin, q_lt, q_le, q_gt, q_ge, q_isb, q_isn, q_isi', q_ist, q_isl, q_iss, q_isbn, q_isr, q_isd, q_inb, q_inn, q_ini, q_int, q_inl, q_ins, q_inr, q_ind, q_eqii, q_eqss, q_eqbb, q_eqsi, q_eqtt, q_eqll, q_eqtn, q_eqnt, q_eqnn, q_ixD, q_ixC, q_ixK, q_ixKs, q_seqCd, q_lent, q_lenl, q_lend, q_lenr, q_lenCl, q_lenCd, q_abs, q_bint, q_bintb, q_bmin, q_bmax, q_btuple, q_bt1, q_blistt, q_blistl, q_blists, q_blistr, q_bll1, q_sset, q_sset1, q_lrange, q_trange, q_app, q_app1, flatD, eqv_str, eqv_int, eqv_bl, eqv_non, eqv_si, eqv_is, eqv_tup, eqv_lst, eqv_tn, eqv_nt, eqvs_nil, eqvs_cons, eqvs_nc, eqvs_cn, okN_non, okN_bl, okN_int, okN_str, okN_t64, okN_l64, okN_t63, okN_l63, okN_t62, okN_l62, okNs_nil, okNs_cons, eqS, setAll, inD, keyOf, cut_1]
        have hc2 : ev (callD fs (k + 2)) (.comp (.cst (.int 1)) (.tp (.cons (.nm 2) (.cons (.nm 3) .nil))) (.sZip (.var 1) (.slice (.var 1) (.cons (.cst (.int 1)) .nil) .nil)) (.cmp .NotIn (.var 3) (.call 46 (.cons (.var 0) (.cons (.var 2) .nil)))) [2, 3]) [some (pD P), some (.tup xs), none, none] M = some (.lst (((xs.zip (xs.drop 1)).filter fun p => !adjD P p.1 p.2).map fun _ => .int 1), M) := by
          rw [comp_pure ((xs.zip (xs.drop 1)).map fun p => .tup [p.1, p.2]) (fun x => match x with
            | .tup [u, v] => !adjD P u v
            | _ => false) (fun _ => .int 1) hs (walk_zip (.inr ⟨rfl, rfl⟩)) (by simp; omega) fun x hx => ?_]
          · rw [List.filter_map, List.map_map]
            rfl
          · obtain ⟨⟨u, v⟩, hp, rfl⟩ := List.mem_map.mp hx
            obtain ⟨m1, m2⟩ := zip_drop_mem hp
            obtain ⟨i, rfl, hi1⟩ := inP_nat (List.all_eq_true.mp hi u m1)
            obtain ⟨j, rfl, hj1⟩ := inP_nat (List.all_eq_true.mp hi v m2)
            refine ⟨[some (pD P), some (.tup xs), some (nD i), some (nD j)], .bl (!(nxt P i).contains j), rfl, ?_, rfl, fun _ => rfl⟩
            have ha := law_nexts (k := k + 1) hM hi1
            have hin := in_nats (M := M) (j := j) (l := nxt P i)
            generalize (nxt P i).contains j = bb at hin
            generalize nL (nxt P i) = y at ha hin
            generalize pD P = x at ha
            simp -implicitDefEqProofs [q_cmp, q_var, q_pr, q_cmp1, q_call, q_cons, q_c1, q_nil, q_c2, q_call1, ha, q_cmp2, q_nin, hin, q_nb, q_bl]
        have okones : ∀ l : List (D × D), D.okNs 63 (l.map fun _ => D.int 1) = true := by
          intro l
          induction l with
          | nil => rfl
          | cons a l ih => exact ih
        have el2 := eq_lnil (okones ((xs.zip (xs.drop 1)).filter fun p => !adjD P p.1 p.2))
        rw [List.isEmpty_map, filter_none (p := fun p : D × D => adjD P p.1 p.2)] at el2
        rw [q_seq, q_ret, q_cmp, hc2, q_cmp1, q_lst, q_nil, q_lst1, q_cmp2, q_eq, q_rd_lst, q_rd_lst, el2, q_bl, q_ret1, q_seqr]
        simp only [isW, he', hi]
        rfl
      · have hi' : xs.all (inP P) = false := by simpa using hi
        rw [he', hi']
        show k_seq _ _ (some (.rt (.bl false) M)) = _
        rw [q_seqr]
        simp only [isW, hi']
        simp
  | _ =>
    generalize pD P = x
    simp -implicitDefEqProofs [q_pr, q_bl, q_var, q_cst, q_bin, q_bin1, q_bin2, q_cmp, q_cmp1, q_cmp2, q_ch, q_ch1, q_ch2, q_ch3, q_neg, q_neg1, q_not, q_not1, q_not2, q_and, q_and1, q_and2, q_or, q_or1, q_or2, q_ite, q_ite1, q_ite2, q_tup, q_tup1, q_lst, q_lst1, q_dsp, q_dsp1, q_dsp2, q_idx, q_ix1, q_ix2, q_slice, q_sl1, q_sl2, q_sl3, q_slP00, q_slP10, q_slP01, q_slP11, q_slCt, q_slCl, q_rev, q_rev1, q_revD, q_revCl, q_revCt, q_call, q_call1, q_blt, q_blt1, q_isi, q_isi1, q_mth, q_m1, q_m2, q_m3, q_nil, q_cons, q_c1, q_c2, q_sSeq, q_sSeq1, q_sEnum, q_sEnum1, q_sR, q_sR1, q_sR2, q_sZ, q_sZ1, q_sZ2, q_seq, q_seqn, q_seqr, q_seqb, q_seqc, q_skip, q_brk, q_cont, q_asg, q_asg1, q_asg2, q_at_nm, q_at_tp, q_at_nil, q_at_cons, q_at1, q_box, q_box1, q_box2, q_bxl, q_bxd, q_bxf, q_par, q_par1, q_par2, q_bs0, q_bs, q_bs1, q_seti, q_st1, q_st2, q_st3, q_st4, q_putD, q_putL, q_putL1, q_putK, q_putKs, q_putK1, q_expr, q_ex1, q_ret, q_ret1, q_if, q_if1, q_if2, q_rd_non, q_rd_bl, q_rd_int, q_rd_str, q_rd_tup, q_rd_lst, q_rd_dct, q_rd_ref, q_rdOl, q_rdOd, q_seqOf, q_seqCt, q_seqCl, q_lstOf, q_lstCl, q_dctOf, q_dctCd, q_dctCt, q_dctCl, q_dctCs, q_truD, q_truCb, q_truCi, q_truCn, q_truCt, q_truCl, q_truCd, q_isiD, q_isiCn, q_isiCb, q_isiCi, q_isiCs, q_isiCt, q_isiCl, q_binD, b_add, b_sub, b_mul, b_div, b_mod, b_shl, b_pow, b_shr, b_and, b_or, b_xor, b_adds, b_addt, b_addl, b_mult, b_mull, q_nb, q_eq, q_ne, q_in, q_nin, q_lt, q_le, q_gt, q_ge, q_isb, q_isn, q_isi', q_ist, q_isl, q_iss, q_isbn, q_isr, q_isd, q_inb, q_inn, q_ini, q_int, q_inl, q_ins, q_inr, q_ind, q_eqii, q_eqss, q_eqbb, q_eqsi, q_eqtt, q_eqll, q_eqtn, q_eqnt, q_eqnn, q_ixD, q_ixC, q_ixK, q_ixKs, q_seqCd, q_lent, q_lenl, q_lend, q_lenr, q_lenCl, q_lenCd, q_abs, q_bint, q_bintb, q_bmin, q_bmax, q_btuple, q_bt1, q_blistt, q_blistl, q_blists, q_blistr, q_bll1, q_sset, q_sset1, q_lrange, q_trange, q_app, q_app1, flatD, eqv_str, eqv_int, eqv_bl, eqv_non, eqv_si, eqv_is, eqv_tup, eqv_lst, eqv_tn, eqv_nt, eqvs_nil, eqvs_cons, eqvs_nc, eqvs_cn, okN_non, okN_bl, okN_int, okN_str, okN_t64, okN_l64, okN_t63, okN_l63, okN_t62, okN_l62, okNs_nil, okNs_cons, eqS, setAll, inD, keyOf, isW]
end K09
end Mi
namespace Mi
open PySem PySem.Spec PyProof.Rows L2

namespace K09
variable {k : Nat} {M : Mem} {P : List Ord}
/-! ### the law's own web -/
theorem nxt_nodup {p : Nat} : (nxt P p).Nodup := by
  unfold nxt
  split
  · exact List.nodup_nil
  · exact List.nodup_nil
  · simp
  · split
    · simp
    · split <;> simp <;> omega
  · simp
  · exact List.nodup_nil
theorem web_nd {N : Nat → List Nat} {n : Nat} (h1 : ∀ p, (N p).Nodup) (h2 : ∀ a b, b ∈ N a → b < n) : ∀ m, ∀ l ∈ web N n m, l.Nodup ∧ ∀ x ∈ l, x < n
  | 0, l, hl => by
    obtain ⟨p, _, rfl⟩ := List.mem_map.mp (show l ∈ (List.range n).map N from hl)
    exact ⟨h1 p, fun x hx => h2 p x hx⟩
  | m + 1, l, hl => by
    obtain ⟨l0, h0, rfl⟩ := List.mem_map.mp (show l ∈ (web N n m).map _ from hl)
    obtain ⟨a1, a2⟩ := web_nd h1 h2 m l0 h0
    split
    · have hg : ∀ x ∈ (web N n m).getD m [], x < n := by
        intro x hx
        rw [List.getD_eq_getElem?_getD] at hx
        cases e : (web N n m)[m]? with
        | none => rw [e] at hx; cases hx
        | some lm =>
          rw [e] at hx
          exact (web_nd h1 h2 m lm (List.mem_of_getElem? e)).2 x hx
      have hn : ((web N n m).getD m []).Nodup := by
        rw [List.getD_eq_getElem?_getD]
        cases e : (web N n m)[m]? with
        | none => exact List.nodup_nil
        | some lm => exact (web_nd h1 h2 m lm (List.mem_of_getElem? e)).1
      refine ⟨?_, fun x hx => ?_⟩
      · rw [List.nodup_append]
        refine ⟨a1, hn.filter _, fun x hx y hy e => ?_⟩
        rw [List.mem_filter] at hy
        have := hy.2
        rw [← e] at this
        simp [hx] at this
      · rcases List.mem_append.mp hx with z | z
        · exact a2 x z
        · exact hg x (List.mem_filter.mp z).1
    · exact ⟨a1, a2⟩
abbrev webD (P : List Ord) (m : Nat) : D := .lst ((web (nxt P) P.length m).map nL)
theorem webD_pure {m : Nat} : (webD P m).pure = true := pures_all fun x hx => by
  obtain ⟨l, _, rfl⟩ := List.mem_map.mp hx
  exact nats_pure l
theorem notin_nats {j : Nat} {l : List Nat} : cmpD M .NotIn (nD j) (nL l) = some !l.contains j := by
  rw [q_nin, in_nats]
  rfl
theorem filter_new {l : List Nat} : ∀ lm : List Nat, ((lm.map nD).filter fun y => inD M y (nL l) == some false) = (lm.filter fun q => !l.contains q).map nD
  | [] => rfl
  | q :: lm => by
    have e : (inD M (nD q) (nL l) == some false) = !l.contains q := by
      rw [in_nats]
      cases l.contains q <;> rfl
    rw [List.map_cons, List.filter_cons, List.filter_cons, e, filter_new lm]
    cases l.contains q <;> rfl
theorem web_succ {N : Nat → List Nat} {n m : Nat} : web N n (m + 1) = (web N n m).map fun l => if l.contains m then l ++ ((web N n m).getD m []).filter (fun p => !l.contains p) else l := rfl
/-- a comprehension over a list of places that changes nothing -/
theorem comp_nats {cf : CF} {elt src cond : ME} {v : Nat} {σ : Sl} {l : List Nat} {d : D} (hl : l.length ≤ 1000) (p : Nat → Bool) (g : Nat → D) (hs : evS cf src σ M = some (.seq d, M)) (hd : seqOf M d = some (l.map nD))
    (h : ∀ j ∈ l, ∃ c, ev cf cond ((σ.set v none).set v (some (nD j))) M = some (c, M) ∧ truD M c = some (p j) ∧ (p j = true → ev cf elt ((σ.set v none).set v (some (nD j))) M = some (g j, M))) :
    ev cf (.comp elt (.nm v) src cond [v]) σ M = some (.lst ((l.filter p).map g), M) := by
  rw [comp_pure (l.map nD) (fun x => match x with
    | .int i => p i.toNat
    | _ => false) (fun x => match x with
    | .int i => g i.toNat
    | _ => .non) hs (walk_seq hd) (by simp [line]; omega) fun x hx => ?_]
  · have e1 : ((fun x : D => match x with
      | .int i => p i.toNat
      | _ => false) ∘ nD) = p := by
      funext j
      show p (j : Int).toNat = p j
      rw [Int.toNat_natCast]
    have e2 : ((fun x : D => match x with
      | .int i => g i.toNat
      | _ => D.non) ∘ nD) = g := by
      funext j
      show g (j : Int).toNat = g j
      rw [Int.toNat_natCast]
    rw [List.filter_map, List.map_map, e1, e2]
  · obtain ⟨j, hj, rfl⟩ := List.mem_map.mp hx
    obtain ⟨c, h1, h2, h3⟩ := h j hj
    refine ⟨(σ.set v none).set v (some (nD j)), c, rfl, h1, ?_, fun z => ?_⟩
    · show truD M c = some (p ((j : Nat) : Int).toNat)
      rw [Int.toNat_natCast]
      exact h2
    · have z : p ((j : Nat) : Int).toNat = true := z
      rw [Int.toNat_natCast] at z
      show ev cf elt _ M = some (g ((j : Nat) : Int).toNat, M)
      rw [Int.toNat_natCast]
      exact h3 z
theorem law_web (hM : OkM M) (hP : POk P) : callD fs (k + 3) 47 [pD P] M = some (webD P P.length, M) := by
  have h60 := hP.le
  refine call_pure (f := f47) hM webD_pure rfl rfl ?_
  have hn := nxt_lt hP
  have h0 : exec (callD fs (k + 2)) (.asg (.nm 1) (.comp (.call 46 (.cons (.var 0) (.cons (.var 3) .nil))) (.nm 3) (.sRange (.cst (.int 0)) (.blt .len (.cons (.var 0) .nil))) (.cst (.bl true)) [3])) [some (pD P), none, none, none, none] M = some (.nx [some (pD P), some (webD P 0), none, none, none] M) := by
    have hc : ev (callD fs (k + 2)) (.comp (.call 46 (.cons (.var 0) (.cons (.var 3) .nil))) (.nm 3) (.sRange (.cst (.int 0)) (.blt .len (.cons (.var 0) .nil))) (.cst (.bl true)) [3]) [some (pD P), none, none, none, none] M = some (webD P 0, M) := by
      rw [comp_range (n := P.length) (by omega) (fun _ => true) (fun p => nL (nxt P p)) ?_ fun j hj => ⟨.bl true, rfl, rfl, fun _ => ?_⟩, filter_true]
      · show some (D.lst _, M) = some (D.lst ((List.map (nxt P) (List.range P.length)).map nL), M)
        rw [List.map_map]
        rfl
      · simp -implicitDefEqProofs [q_pr, q_bl, q_var, q_cst, q_bin, q_bin1, q_bin2, q_cmp, q_cmp1, q_cmp2, q_ch, q_ch1, q_ch2, q_ch3, q_neg, q_neg1, q_not, q_not1, q_not2, q_and, q_and1, q_and2, q_or, q_or1, q_or2, q_ite, q_ite1, q_ite2, q_tup, q_tup1, q_lst, q_lst1, q_dsp, q_dsp1, q_dsp2, q_idx, q_ix1, q_ix2, q_slice, q_sl1, q_sl2, q_sl3, q_slP00, q_slP10, q_slP01, q_slP11, q_slCt, q_slCl, q_rev, q_rev1, q_revD, q_revCl, q_revCt, q_call, q_call1, q_blt, q_blt1, q_isi, q_isi1, q_mth, q_m1, q_m2, q_m3, q_nil, q_cons, q_c1, q_c2, q_sSeq, q_sSeq1, q_sEnum, q_sEnum1, q_sR, q_sR1, q_sR2, q_sZ, q_sZ1, q_sZ2, q_seq, q_seqn, q_seqr, q_seqb, q_seqc, q_skip, q_brk, q_cont, q_asg, q_asg1, q_asg2, q_at_nm, q_at_tp, q_at_nil, q_at_cons, q_at1, q_box, q_box1, q_box2, q_bxl, q_bxd, q_bxf, q_par, q_par1, q_par2, q_bs0, q_bs, q_bs1, q_seti, q_st1, q_st2, q_st3, q_st4, q_putD, q_putL, q_putL1, q_putK, q_putKs, q_putK1, q_expr, q_ex1, q_ret, q_ret1, q_if, q_if1, q_if2, q_rd_non, q_rd_bl, q_rd_int, q_rd_str, q_rd_tup, q_rd_lst, q_rd_dct, q_rd_ref, q_rdOl, q_rdOd, q_seqOf, q_seqCt, q_seqCl, q_lstOf, q_lstCl, q_dctOf, q_dctCd, q_dctCt, q_dctCl, q_dctCs, q_truD, q_truCb, q_truCi, q_truCn, q_truCt, q_truCl, q_truCd, q_isiD, q_isiCn, q_isiCb, q_isiCi, q_isiCs, q_isiCt, q_isiCl, q_binD, b_add, b_sub, b_mul, b_div, b_mod, b_shl, b_pow, b_shr, b_and, b_or, b_xor, b_adds, b_addt, b_addl, b_mult, b_mull, q_nb, q_eq, q_ne, q_in, q_nin, q_lt, q_le, q_gt, q_ge, q_isb, q_isn, q_isi', q_ist, q_isl, q_iss, q_isbn, q_isr, q_isd, q_inb, q_inn, q_ini, q_int, q_inl, q_ins, q_inr, q_ind, q_eqii, q_eqss, q_eqbb, q_eqsi, q_eqtt, q_eqll, q_eqtn, q_eqnt, q_eqnn, q_ixD, q_ixC, q_ixK, q_ixKs, q_seqCd, q_lent, q_lenl, q_lend, q_lenr, q_lenCl, q_lenCd, q_abs, q_bint, q_bintb, q_bmin, q_bmax, q_btuple, q_bt1, q_blistt, q_blistl, q_blists, q_blistr, q_bll1, q_sset, q_sset1, q_lrange, q_trange, q_app, q_app1, flatD, eqv_str, eqv_int, eqv_bl, eqv_non, eqv_si, eqv_is, eqv_tup, eqv_lst, eqv_tn, eqv_nt, eqvs_nil, eqvs_cons, eqvs_nc, eqvs_cn, okN_non, okN_bl, okN_int, okN_str, okN_t64, okN_l64, okN_t63, okN_l63, okN_t62, okN_l62, okNs_nil, okNs_cons, eqS, setAll, inD, keyOf]
      · have := law_nexts (k := k + 1) hM hj
        simp only [nD, pD] at this
        simp -implicitDefEqProofs [q_pr, q_bl, q_var, q_cst, q_bin, q_bin1, q_bin2, q_cmp, q_cmp1, q_cmp2, q_ch, q_ch1, q_ch2, q_ch3, q_neg, q_neg1, q_not, q_not1, q_not2, q_and, q_and1, q_and2, q_or, q_or1, q_or2, q_ite, q_ite1, q_ite2, q_tup, q_tup1, q_lst, q_lst1, q_dsp, q_dsp1, q_dsp2, q_idx, q_ix1, q_ix2, q_slice, q_sl1, q_sl2, q_sl3, q_slP00, q_slP10, q_slP01, q_slP11, q_slCt, q_slCl, q_rev, q_rev1, q_revD, q_revCl, q_revCt, q_call, q_call1, q_blt, q_blt1, q_isi, q_isi1, q_mth, q_m1, q_m2, q_m3, q_nil, q_cons, q_c1, q_c2, q_sSeq, q_sSeq1, q_sEnum, q_sEnum1, q_sR, q_sR1, q_sR2, q_sZ, q_sZ1, q_sZ2, q_seq, q_seqn, q_seqr, q_seqb, q_seqc, q_skip, q_brk, q_cont, q_asg, q_asg1, q_asg2, q_at_nm, q_at_tp, q_at_nil, q_at_cons, q_at1, q_box, q_box1, q_box2, q_bxl, q_bxd, q_bxf, q_par, q_par1, q_par2, q_bs0, q_bs, q_bs1, q_seti, q_st1, q_st2, q_st3, q_st4, q_putD, q_putL, q_putL1, q_putK, q_putKs, q_putK1, q_expr, q_ex1, q_ret, q_ret1, q_if, q_if1, q_if2, q_rd_non, q_rd_bl, q_rd_int, q_rd_str, q_rd_tup, q_rd_lst, q_rd_dct, q_rd_ref, q_rdOl, q_rdOd, q_seqOf, q_seqCt, q_seqCl, q_lstOf, q_lstCl, q_dctOf, q_dctCd, q_dctCt, q_dctCl, q_dctCs, q_truD, q_truCb, q_truCi, q_truCn, q_truCt, q_truCl, q_truCd, q_isiD, q_isiCn, q_isiCb, q_isiCi, q_isiCs, q_isiCt, q_isiCl, q_binD, b_add, b_sub, b_mul, b_div, b_mod, b_shl, b_pow, b_shr, b_and, b_or, b_xor, b_adds, b_addt, b_addl, b_mult, b_mull, q_nb, q_eq, q_ne, q_in, q_nin, q_lt, q_le, q_gt, q_ge, q_isb, q_isn, q_isi', q_ist, q_isl, q_iss, q_isbn, q_isr, q_isd, q_inb, q_inn, q_ini, q_int, q_inl, q_ins, q_inr, q_ind, q_eqii, q_eqss, q_eqbb, q_eqsi, q_eqtt, q_eqll, q_eqtn, q_eqnt, q_eqnn, q_ixD, q_ixC, q_ixK, q_ixKs, q_seqCd, q_lent, q_lenl, q_lend, q_lenr, q_lenCl, q_lenCd, q_abs, q_bint, q_bintb, q_bmin, q_bmax, q_btuple, q_bt1, q_blistt, q_blistl, q_blists, q_blistr, q_bll1, q_sset, q_sset1, q_lrange, q_trange, q_app, q_app1, flatD, eqv_str, eqv_int, eqv_bl, eqv_non, eqv_si, eqv_is, eqv_tup, eqv_lst, eqv_tn, eqv_nt, eqvs_nil, eqvs_cons, eqvs_nc, eqvs_cn, okN_non, okN_bl, okN_int, okN_str, okN_t64, okN_l64, okN_t63, okN_l63, okN_t62, okN_l62, okNs_nil, okNs_cons, eqS, setAll, inD, keyOf, this]
    rw [q_asg, hc]
    rfl
  have hw : ∀ M', Walk (.rng 0 (P.length : Nat)) M' ((List.range P.length).map fun k => .int (0 + (k : Nat))) := fun M' => walk_range (by omega)
  obtain ⟨σ', M', hf, z2, z3, z4, rfl, hMM⟩ := for_ok (s := .rng 0 (P.length : Nat)) (t := .nm 2) (b := exec (callD fs (k + 2)) (.seq (.asg (.nm 1) (.comp (.ite (.cmp .In (.var 2) (.var 4)) (.bin .Add (.var 4) (.comp (.var 3) (.nm 3) (.sSeq (.idx (.var 1) (.var 2))) (.cmp .NotIn (.var 3) (.var 4)) [3])) (.var 4)) (.nm 4) (.sSeq (.var 1)) (.cst (.bl true)) [4])) .skip)) ((List.range P.length).map fun k => .int (0 + (k : Nat)))
    (fun m σ M' => ∃ z2 z3 z4, σ = [some (pD P), some (webD P m), z2, z3, z4] ∧ M' = M) (fun _ _ M' _ => hw M') (by
    rintro m σ M' x hx ⟨z2, z3, z4, rfl, hMM⟩
    have hMM := hMM.symm
    subst hMM
    obtain ⟨hm, rfl⟩ := rng_at hx
    obtain ⟨lm, e1, _⟩ := (web_ok (N := nxt P) (n := P.length) m (by omega)).2 m hm
    have nd := web_nd (N := nxt P) (n := P.length) (fun _ => nxt_nodup) hn m
    have eg : (web (nxt P) P.length m).getD m [] = lm := by rw [List.getD_eq_getElem?_getD, e1]; rfl
    obtain ⟨l1, l2⟩ := nd lm (List.mem_of_getElem? e1)
    have llm : lm.length ≤ P.length := nodup_le _ lm l1 l2
    have hat : atI ((web (nxt P) P.length m).map nL) ((m : Nat) : Int) = some (nL lm) := atI_get (by rw [List.getElem?_map, e1]; rfl)
    refine ⟨_, rfl, [some (pD P), some (webD P (m + 1)), some (nD m), z3, z4], M, .inl ?_, _, _, _, rfl, rfl⟩
    show exec (callD fs (k + 2)) (.seq (.asg (.nm 1) (.comp (.ite (.cmp .In (.var 2) (.var 4)) (.bin .Add (.var 4) (.comp (.var 3) (.nm 3) (.sSeq (.idx (.var 1) (.var 2))) (.cmp .NotIn (.var 3) (.var 4)) [3])) (.var 4)) (.nm 4) (.sSeq (.var 1)) (.cst (.bl true)) [4])) .skip) [some (pD P), some (webD P m), some (nD m), z3, z4] M = _
    have hlw : (web (nxt P) P.length m).length = P.length := (web_ok (N := nxt P) (n := P.length) m (by omega)).1
    have hc : ev (callD fs (k + 2)) (.comp (.ite (.cmp .In (.var 2) (.var 4)) (.bin .Add (.var 4) (.comp (.var 3) (.nm 3) (.sSeq (.idx (.var 1) (.var 2))) (.cmp .NotIn (.var 3) (.var 4)) [3])) (.var 4)) (.nm 4) (.sSeq (.var 1)) (.cst (.bl true)) [4]) [some (pD P), some (webD P m), some (nD m), z3, z4] M = some (webD P (m + 1), M) := by
      rw [comp_map ((web (nxt P) P.length m).map nL) (fun x => match x with
        | .lst xs => if inD M (nD m) (.lst xs) = some true then .lst (xs ++ (lm.map nD).filter fun y => inD M y (.lst xs) == some false) else .lst xs
        | x => x) rfl (walk_seq rfl) (by rw [List.length_map, hlw]; unfold line; omega) fun x hx => ?_]
      · refine congrArg (fun z => some (D.lst z, M)) ?_
        rw [web_succ, eg]
        generalize web (nxt P) P.length m = W
        rw [List.map_map, List.map_map]
        apply List.map_congr_left
        intro l _
        show (if inD M (nD m) (nL l) = some true then D.lst (l.map nD ++ (lm.map nD).filter fun y => inD M y (nL l) == some false) else nL l) = nL (if l.contains m then l ++ lm.filter (fun p => !l.contains p) else l)
        rw [in_nats]
        by_cases c : l.contains m = true
        · rw [c, if_pos rfl, if_pos rfl]
          rw [filter_new, ← List.map_append]
        · have c' : l.contains m = false := by simpa using c
          rw [c', if_neg (by simp), if_neg (by simp)]
      · obtain ⟨l, hl, rfl⟩ := List.mem_map.mp hx
        obtain ⟨n1, n2⟩ := nd l hl
        have ll : l.length ≤ P.length := nodup_le _ l n1 n2
        refine ⟨[some (pD P), some (webD P m), some (nD m), z3, some (nL l)], .bl true, rfl, rfl, rfl, ?_⟩
        show _ = some (if inD M (nD m) (nL l) = some true then D.lst (l.map nD ++ (lm.map nD).filter fun y => inD M y (nL l) == some false) else nL l, M)
        have hin := in_nats (M := M) (j := m) (l := l)
        by_cases c : l.contains m = true
        · rw [c] at hin
          have hc2 : ev (callD fs (k + 2)) (.comp (.var 3) (.nm 3) (.sSeq (.idx (.var 1) (.var 2))) (.cmp .NotIn (.var 3) (.var 4)) [3]) [some (pD P), some (webD P m), some (nD m), z3, some (nL l)] M = some (.lst ((lm.filter fun q => !l.contains q).map nD), M) := by
            refine comp_nats (l := lm) (d := nL lm) (by omega) _ nD ?_ rfl fun j hj => ⟨.bl (!l.contains j), ?_, rfl, fun _ => rfl⟩
            · generalize pD P = x
              simp only [webD]
              generalize (web (nxt P) P.length m).map nL = y at hat
              generalize nL lm = w at hat
              generalize nL l = u
              simp -implicitDefEqProofs [q_pr, q_bl, q_var, q_cst, q_bin, q_bin1, q_bin2, q_cmp, q_cmp1, q_cmp2, q_ch, q_ch1, q_ch2, q_ch3, q_neg, q_neg1, q_not, q_not1, q_not2, q_and, q_and1, q_and2, q_or, q_or1, q_or2, q_ite, q_ite1, q_ite2, q_tup, q_tup1, q_lst, q_lst1, q_dsp, q_dsp1, q_dsp2, q_idx, q_ix1, q_ix2, q_slice, q_sl1, q_sl2, q_sl3, q_slP00, q_slP10, q_slP01, q_slP11, q_slCt, q_slCl, q_rev, q_rev1, q_revD, q_revCl, q_revCt, q_call, q_call1, q_blt, q_blt1, q_isi, q_isi1, q_mth, q_m1, q_m2, q_m3, q_nil, q_cons, q_c1, q_c2, q_sSeq, q_sSeq1, q_sEnum, q_sEnum1, q_sR, q_sR1, q_sR2, q_sZ, q_sZ1, q_sZ2, q_seq, q_seqn, q_seqr, q_seqb, q_seqc, q_skip, q_brk, q_cont, q_asg, q_asg1, q_asg2, q_at_nm, q_at_tp, q_at_nil, q_at_cons, q_at1, q_box, q_box1, q_box2, q_bxl, q_bxd, q_bxf, q_par, q_par1, q_par2, q_bs0, q_bs, q_bs1, q_seti, q_st1, q_st2, q_st3, q_st4, q_putD, q_putL, q_putL1, q_putK, q_putKs, q_putK1, q_expr, q_ex1, q_ret, q_ret1, q_if, q_if1, q_if2, q_rd_non, q_rd_bl, q_rd_int, q_rd_str, q_rd_tup, q_rd_lst, q_rd_dct, q_rd_ref, q_rdOl, q_rdOd, q_seqOf, q_seqCt, q_seqCl, q_lstOf, q_lstCl, q_dctOf, q_dctCd, q_dctCt, q_dctCl, q_dctCs, q_truD, q_truCb, q_truCi, q_truCn, q_truCt, q_truCl, q_truCd, q_isiD, q_isiCn, q_isiCb, q_isiCi, q_isiCs, q_isiCt, q_isiCl, q_binD, b_add, b_sub, b_mul, b_div, b_mod, b_shl, b_pow, b_shr, b_and, b_or, b_xor, b_adds, b_addt, b_addl, b_mult, b_mull, q_nb, q_eq, q_ne, q_in, q_nin, q_lt, q_le, q_gt, q_ge, q_isb, q_isn, q_isi', q_ist, q_isl, q_iss, q_isbn, q_isr, q_isd, q_inb, q_inn, q_ini, q_int, q_inl, q_ins, q_inr, q_ind, q_eqii, q_eqss, q_eqbb, q_eqsi, q_eqtt, q_eqll, q_eqtn, q_eqnt, q_eqnn, q_ixD, q_ixC, q_ixK, q_ixKs, q_seqCd, q_lent, q_lenl, q_lend, q_lenr, q_lenCl, q_lenCd, q_abs, q_bint, q_bintb, q_bmin, q_bmax, q_btuple, q_bt1, q_blistt, q_blistl, q_blists, q_blistr, q_bll1, q_sset, q_sset1, q_lrange, q_trange, q_app, q_app1, flatD, eqv_str, eqv_int, eqv_bl, eqv_non, eqv_si, eqv_is, eqv_tup, eqv_lst, eqv_tn, eqv_nt, eqvs_nil, eqvs_cons, eqvs_nc, eqvs_cn, okN_non, okN_bl, okN_int, okN_str, okN_t64, okN_l64, okN_t63, okN_l63, okN_t62, okN_l62, okNs_nil, okNs_cons, eqS, setAll, inD, keyOf, hat]
            · have hin2 := notin_nats (M := M) (j := j) (l := l)
              show ev (callD fs (k + 2)) (.cmp .NotIn (.var 3) (.var 4)) [some (pD P), some (webD P m), some (nD m), some (nD j), some (nL l)] M = _
              generalize nL l = u at hin2
              simp -implicitDefEqProofs [q_cmp, q_var, q_pr, q_cmp1, q_cmp2, hin2, q_bl]
          have ef : ((lm.map nD).filter fun y => inD M y (nL l) == some false) = (lm.filter fun q => !l.contains q).map nD := by
            exact filter_new lm
          have hlen : (l.map nD).length + ((lm.filter fun q => !l.contains q).map nD).length ≤ line := by
            rw [List.length_map, List.length_map]
            have := List.length_filter_le (fun q => !l.contains q) lm
            unfold line
            omega
          rw [hin, if_pos rfl, ef]
          generalize pD P = x0 at hc2
          generalize webD P m = x1 at hc2
          have hq : ev (callD fs (k + 2)) (.cmp .In (.var 2) (.var 4)) [some x0, some x1, some (nD m), z3, some (nL l)] M = some (.bl true, M) := by
            generalize nL l = u at hin
            simp -implicitDefEqProofs [q_cmp, q_var, q_pr, q_cmp1, q_cmp2, q_in, hin, q_bl]
          have hv : ev (callD fs (k + 2)) (.var 4) [some x0, some x1, some (nD m), z3, some (nL l)] M = some (nL l, M) := rfl
          rw [q_ite, hq, q_ite1, q_truD, q_rd_bl, q_truCb, q_ite2, if_pos rfl, q_bin, hv, q_bin1, hc2, q_bin2, q_binD, q_rd_lst, q_rd_lst, b_addl, if_pos hlen, q_pr]
        · have c' : l.contains m = false := by simpa using c
          rw [c'] at hin
          rw [hin, if_neg (by simp)]
          generalize pD P = x0
          generalize webD P m = x1
          have hq : ev (callD fs (k + 2)) (.cmp .In (.var 2) (.var 4)) [some x0, some x1, some (nD m), z3, some (nL l)] M = some (.bl false, M) := by
            generalize nL l = u at hin
            simp -implicitDefEqProofs [q_cmp, q_var, q_pr, q_cmp1, q_cmp2, q_in, hin, q_bl]
          have hv : ev (callD fs (k + 2)) (.var 4) [some x0, some x1, some (nD m), z3, some (nL l)] M = some (nL l, M) := rfl
          rw [q_ite, hq, q_ite1, q_truD, q_rd_bl, q_truCb, q_ite2, if_neg (by decide), hv]
    rw [q_seq, q_asg, hc]
    rfl) P.length 0 [some (pD P), some (webD P 0), none, none, none] M (by simp) ⟨none, none, none, rfl, rfl⟩
  have hMM := hMM.symm
  subst hMM
  have hlen : ((List.range P.length).map fun k => D.int (0 + (k : Nat))).length = P.length := by rw [List.length_map, List.length_range]
  rw [hlen] at hf
  have hsrc : evS (callD fs (k + 2)) (.sRange (.cst (.int 0)) (.blt .len (.cons (.var 0) .nil))) [some (pD P), some (webD P 0), none, none, none] M = some (.rng 0 (P.length : Nat), M) := by
    generalize webD P 0 = x
    simp -implicitDefEqProofs [q_pr, q_bl, q_var, q_cst, q_bin, q_bin1, q_bin2, q_cmp, q_cmp1, q_cmp2, q_ch, q_ch1, q_ch2, q_ch3, q_neg, q_neg1, q_not, q_not1, q_not2, q_and, q_and1, q_and2, q_or, q_or1, q_or2, q_ite, q_ite1, q_ite2, q_tup, q_tup1, q_lst, q_lst1, q_dsp, q_dsp1, q_dsp2, q_idx, q_ix1, q_ix2, q_slice, q_sl1, q_sl2, q_sl3, q_slP00, q_slP10, q_slP01, q_slP11, q_slCt, q_slCl, q_rev, q_rev1, q_revD, q_revCl, q_revCt, q_call, q_call1, q_blt, q_blt1, q_isi, q_isi1, q_mth, q_m1, q_m2, q_m3, q_nil, q_cons, q_c1, q_c2, q_sSeq, q_sSeq1, q_sEnum, q_sEnum1, q_sR, q_sR1, q_sR2, q_sZ, q_sZ1, q_sZ2, q_seq, q_seqn, q_seqr, q_seqb, q_seqc, q_skip, q_brk, q_cont, q_asg, q_asg1, q_asg2, q_at_nm, q_at_tp, q_at_nil, q_at_cons, q_at1, q_box, q_box1, q_box2, q_bxl, q_bxd, q_bxf, q_par, q_par1, q_par2, q_bs0, q_bs, q_bs1, q_seti, q_st1, q_st2, q_st3, q_st4, q_putD, q_putL, q_putL1, q_putK, q_putKs, q_putK1, q_expr, q_ex1, q_ret, q_ret1, q_if, q_if1, q_if2, q_rd_non, q_rd_bl, q_rd_int, q_rd_str, q_rd_tup, q_rd_lst, q_rd_dct, q_rd_ref, q_rdOl, q_rdOd, q_seqOf, q_seqCt, q_seqCl, q_lstOf, q_lstCl, q_dctOf, q_dctCd, q_dctCt, q_dctCl, q_dctCs, q_truD, q_truCb, q_truCi, q_truCn, q_truCt, q_truCl, q_truCd, q_isiD, q_isiCn, q_isiCb, q_isiCi, q_isiCs, q_isiCt, q_isiCl, q_binD, b_add, b_sub, b_mul, b_div, b_mod, b_shl, b_pow, b_shr, b_and, b_or, b_xor, b_adds, b_addt, b_addl, b_mult, b_mull, q_nb, q_eq, q_ne, q_in, q_nin, q_lt, q_le, q_gt, q_ge, q_isb, q_isn, q_isi', q_ist, q_isl, q_iss, q_isbn, q_isr, q_isd, q_inb, q_inn, q_ini, q_int, q_inl, q_ins, q_inr, q_ind, q_eqii, q_eqss, q_eqbb, q_eqsi, q_eqtt, q_eqll, q_eqtn, q_eqnt, q_eqnn, q_ixD, q_ixC, q_ixK, q_ixKs, q_seqCd, q_lent, q_lenl, q_lend, q_lenr, q_lenCl, q_lenCd, q_abs, q_bint, q_bintb, q_bmin, q_bmax, q_btuple, q_bt1, q_blistt, q_blistl, q_blists, q_blistr, q_bll1, q_sset, q_sset1, q_lrange, q_trange, q_app, q_app1, flatD, eqv_str, eqv_int, eqv_bl, eqv_non, eqv_si, eqv_is, eqv_tup, eqv_lst, eqv_tn, eqv_nt, eqvs_nil, eqvs_cons, eqvs_nc, eqvs_cn, okN_non, okN_bl, okN_int, okN_str, okN_t64, okN_l64, okN_t63, okN_l63, okN_t62, okN_l62, okNs_nil, okNs_cons, eqS, setAll, inD, keyOf]
  have hfor : exec (callD fs (k + 2)) (.forr (.nm 2) (.sRange (.cst (.int 0)) (.blt .len (.cons (.var 0) .nil))) (.seq (.asg (.nm 1) (.comp (.ite (.cmp .In (.var 2) (.var 4)) (.bin .Add (.var 4) (.comp (.var 3) (.nm 3) (.sSeq (.idx (.var 1) (.var 2))) (.cmp .NotIn (.var 3) (.var 4)) [3])) (.var 4)) (.nm 4) (.sSeq (.var 1)) (.cst (.bl true)) [4])) .skip)) [some (pD P), some (webD P 0), none, none, none] M = some (.nx [some (pD P), some (webD P P.length), z2, z3, z4] M) := exec_for (s := .rng 0 (P.length : Nat)) (its := (List.range P.length).map fun k => .int (0 + (k : Nat))) hsrc (hw _) (by rw [hlen]; exact hf)
  show exec (callD fs (k + 2)) b47 [some (pD P), none, none, none, none] M = _
  unfold b47
  rw [q_seq, h0, q_seqn, q_seq, hfor, q_seqn]
  rfl
/-- what the law's fewest steps are -/
def FewD (P : List Ord) (a b : Nat) (d : D) : Prop := (d = .non ∧ ∀ k, k ≤ P.length → ¬ At (nxt P) a k b) ∨ ∃ s, d = nD s ∧ At (nxt P) a s b ∧ ∀ k, k < s → ¬ At (nxt P) a k b
theorem law_fewest (hM : OkM M) (hP : POk P) {a b : Nat} (ha : a < P.length) : ∃ d, FewD P a b d ∧ callD fs (k + 3) 48 [pD P, nD a, nD b] M = some (d, M) := by
  have h60 := hP.le
  have hn := nxt_lt hP
  let I : Nat → Sl → Mem → Prop := fun m σ M' => ∃ (s : Nat) (L : List Nat) (z5 z6 : Option D), m + s = P.length ∧ (∀ x, x ∈ L ↔ At (nxt P) a s x) ∧ (∀ x ∈ L, x < P.length) ∧ L.length ≤ P.length ∧ (∀ j, j < s → ¬ At (nxt P) a j b) ∧ σ = [some (pD P), some (nD a), some (nD b), some (nL L), some (nD s), z5, z6] ∧ M' = M
  obtain ⟨o, hw, hE⟩ := whl_any (c := ev (callD fs (k + 2)) (.cmp .NotIn (.var 2) (.var 3))) (b := exec (callD fs (k + 2)) (.seq (.parN [3, 4] [false, false] (.cons (.comp (.var 5) (.nm 5) (.sRange (.cst (.int 0)) (.blt .len (.cons (.var 0) .nil))) (.cmp .NotEq (.comp (.cst (.int 1)) (.nm 6) (.sSeq (.var 3)) (.cmp .In (.var 5) (.call 46 (.cons (.var 0) (.cons (.var 6) .nil)))) [6]) (.lst .nil)) [5]) (.cons (.bin .Add (.var 4) (.cst (.int 1))) .nil))) (.seq (.iff (.cmp .Gt (.var 4) (.blt .len (.cons (.var 0) .nil))) (.seq (.ret (.cst .non)) .skip) .skip) .skip))) I
    (fun o => (o = .rt .non M ∧ ∀ k, k ≤ P.length → ¬ At (nxt P) a k b) ∨ ∃ (s : Nat) (L : List Nat) (z5 z6 : Option D), o = .nx [some (pD P), some (nD a), some (nD b), some (nL L), some (nD s), z5, z6] M ∧ At (nxt P) a s b ∧ ∀ k, k < s → ¬ At (nxt P) a k b) (by
    rintro m σ M' ⟨s, L, z5, z6, hs, hL, hlt, hll, hno, rfl, hMM⟩
    have hMM := hMM.symm
    subst hMM
    have hin := notin_nats (M := M) (j := b) (l := L)
    have hc : ev (callD fs (k + 2)) (.cmp .NotIn (.var 2) (.var 3)) [some (pD P), some (nD a), some (nD b), some (nL L), some (nD s), z5, z6] M = some (.bl (!L.contains b), M) := by
      generalize pD P = x
      generalize nL L = y at hin
      simp -implicitDefEqProofs [q_cmp, q_var, q_pr, q_cmp1, q_cmp2, hin, q_bl]
    refine ⟨_, _, _, hc, rfl, ?_⟩
    by_cases hb : L.contains b = true
    · have hb' : b ∈ L := by simpa using hb
      exact .inl ⟨by rw [hb]; rfl, .inr ⟨s, L, z5, z6, rfl, (hL b).mp hb', hno⟩⟩
    · have hb' : b ∉ L := fun z => hb (by simpa using z)
      have hb2 : L.contains b = false := by simpa using hb
      have hno2 : ∀ j, j < s + 1 → ¬ At (nxt P) a j b := fun j hj h => by
        by_cases e : j = s
        · subst e
          exact hb' ((hL b).mpr h)
        · exact hno j (by omega) h
      let L2 : List Nat := (List.range P.length).filter fun own => !(L.filter fun here => (nxt P here).contains own).isEmpty
      have hL2 : ∀ x, x ∈ L2 ↔ At (nxt P) a (s + 1) x := by
        intro x
        simp only [L2, List.mem_filter, List.mem_range, Bool.not_eq_true', List.isEmpty_eq_false_iff]
        constructor
        · rintro ⟨_, h⟩
          obtain ⟨y, hy⟩ := List.exists_mem_of_ne_nil _ h
          rw [List.mem_filter] at hy
          exact ⟨y, (hL y).mp hy.1, by simpa using hy.2⟩
        · rintro ⟨y, h1, h2⟩
          refine ⟨hn _ _ h2, fun e => ?_⟩
          have : y ∈ L.filter fun here => (nxt P here).contains x := List.mem_filter.mpr ⟨(hL y).mpr h1, by simpa using h2⟩
          rw [e] at this
          cases this
      have hcomp : ev (callD fs (k + 2)) (.comp (.var 5) (.nm 5) (.sRange (.cst (.int 0)) (.blt .len (.cons (.var 0) .nil))) (.cmp .NotEq (.comp (.cst (.int 1)) (.nm 6) (.sSeq (.var 3)) (.cmp .In (.var 5) (.call 46 (.cons (.var 0) (.cons (.var 6) .nil)))) [6]) (.lst .nil)) [5]) [some (pD P), some (nD a), some (nD b), some (nL L), some (nD s), z5, z6] M = some (nL L2, M) := by
        refine comp_range (n := P.length) (by omega) _ nD (by simp -implicitDefEqProofs [q_pr, q_bl, q_var, q_cst, q_bin, q_bin1, q_bin2, q_cmp, q_cmp1, q_cmp2, q_ch, q_ch1, q_ch2, q_ch3, q_neg, q_neg1, q_not, q_not1, q_not2, q_and, q_and1, q_and2, q_or, q_or1, q_or2, q_ite, q_ite1, q_ite2, q_tup, q_tup1, q_lst, q_lst1, q_dsp, q_dsp1, q_dsp2, q_idx, q_ix1, q_ix2, q_slice, q_sl1, q_sl2, q_sl3, q_slP00, q_slP10, q_slP01, q_slP11, q_slCt, q_slCl, q_rev, q_rev1, q_revD, q_revCl, q_revCt, q_call, q_call1, q_blt, q_blt1, q_isi, q_isi1, q_mth, q_m1, q_m2, q_m3, q_nil, q_cons, q_c1, q_c2, q_sSeq, q_sSeq1, q_sEnum, q_sEnum1, q_sR, q_sR1, q_sR2, q_sZ, q_sZ1, q_sZ2, q_seq, q_seqn, q_seqr, q_seqb, q_seqc, q_skip, q_brk, q_cont, q_asg, q_asg1, q_asg2, q_at_nm, q_at_tp, q_at_nil, q_at_cons, q_at1, q_box, q_box1, q_box2, q_bxl, q_bxd, q_bxf, q_par, q_par1, q_par2, q_bs0, q_bs, q_bs1, q_seti, q_st1, q_st2, q_st3, q_st4, q_putD, q_putL, q_putL1, q_putK, q_putKs, q_putK1, q_expr, q_ex1, q_ret, q_ret1, q_if, q_if1, q_if2, q_rd_non, q_rd_bl, q_rd_int, q_rd_str, q_rd_tup, q_rd_lst, q_rd_dct, q_rd_ref, q_rdOl, q_rdOd, q_seqOf, q_seqCt, q_seqCl, q_lstOf, q_lstCl, q_dctOf, q_dctCd, q_dctCt, q_dctCl, q_dctCs, q_truD, q_truCb, q_truCi, q_truCn, q_truCt, q_truCl, q_truCd, q_isiD, q_isiCn, q_isiCb, q_isiCi, q_isiCs, q_isiCt, q_isiCl, q_binD, b_add, b_sub, b_mul, b_div, b_mod, b_shl, b_pow, b_shr, b_and, b_or, b_xor, b_adds, b_addt, b_addl, b_mult, b_mull, q_nb, q_eq, q_ne, q_in, q_nin, q_lt, q_le, q_gt, q_ge, q_isb, q_isn, q_isi', q_ist, q_isl, q_iss, q_isbn, q_isr, q_isd, q_inb, q_inn, q_ini, q_int, q_inl, q_ins, q_inr, q_ind, q_eqii, q_eqss, q_eqbb, q_eqsi, q_eqtt, q_eqll, q_eqtn, q_eqnt, q_eqnn, q_ixD, q_ixC, q_ixK, q_ixKs, q_seqCd, q_lent, q_lenl, q_lend, q_lenr, q_lenCl, q_lenCd, q_abs, q_bint, q_bintb, q_bmin, q_bmax, q_btuple, q_bt1, q_blistt, q_blistl, q_blists, q_blistr, q_bll1, q_sset, q_sset1, q_lrange, q_trange, q_app, q_app1, flatD, eqv_str, eqv_int, eqv_bl, eqv_non, eqv_si, eqv_is, eqv_tup, eqv_lst, eqv_tn, eqv_nt, eqvs_nil, eqvs_cons, eqvs_nc, eqvs_cn, okN_non, okN_bl, okN_int, okN_str, okN_t64, okN_l64, okN_t63, okN_l63, okN_t62, okN_l62, okNs_nil, okNs_cons, eqS, setAll, inD, keyOf]) fun own hown => ⟨.bl (!(L.filter fun here => (nxt P here).contains own).isEmpty), ?_, rfl, fun _ => rfl⟩
        show ev (callD fs (k + 2)) (.cmp .NotEq (.comp (.cst (.int 1)) (.nm 6) (.sSeq (.var 3)) (.cmp .In (.var 5) (.call 46 (.cons (.var 0) (.cons (.var 6) .nil)))) [6]) (.lst .nil)) [some (pD P), some (nD a), some (nD b), some (nL L), some (nD s), some (nD own), z6] M = _
        have hi : ev (callD fs (k + 2)) (.comp (.cst (.int 1)) (.nm 6) (.sSeq (.var 3)) (.cmp .In (.var 5) (.call 46 (.cons (.var 0) (.cons (.var 6) .nil)))) [6]) [some (pD P), some (nD a), some (nD b), some (nL L), some (nD s), some (nD own), z6] M = some (.lst ((L.filter fun here => (nxt P here).contains own).map fun _ => .int 1), M) := by
          refine comp_nats (l := L) (d := nL L) (by omega) _ _ rfl rfl fun j hj => ⟨.bl ((nxt P j).contains own), ?_, rfl, fun _ => rfl⟩
          show ev (callD fs (k + 2)) (.cmp .In (.var 5) (.call 46 (.cons (.var 0) (.cons (.var 6) .nil)))) [some (pD P), some (nD a), some (nD b), some (nL L), some (nD s), some (nD own), some (nD j)] M = _
          have h1 := law_nexts (k := k + 1) hM (hlt j hj)
          have h2 := in_nats (M := M) (j := own) (l := nxt P j)
          generalize (nxt P j).contains own = bb at h2
          generalize nL (nxt P j) = y at h1 h2
          generalize pD P = x at h1
          simp -implicitDefEqProofs [q_cmp, q_var, q_pr, q_cmp1, q_call, q_cons, q_c1, q_nil, q_c2, q_call1, h1, q_cmp2, q_in, h2, q_bl]
        have okones : ∀ l : List Nat, D.okNs 63 (l.map fun _ => D.int 1) = true := by
          intro l
          induction l with
          | nil => rfl
          | cons a l ih => exact ih
        have el := eq_lnil (okones (L.filter fun here => (nxt P here).contains own))
        rw [List.isEmpty_map] at el
        rw [q_cmp, hi, q_cmp1, q_lst, q_nil, q_lst1, q_cmp2, q_ne, q_rd_lst, q_rd_lst, el, q_nb, q_bl]
      have h1 : exec (callD fs (k + 2)) (.parN [3, 4] [false, false] (.cons (.comp (.var 5) (.nm 5) (.sRange (.cst (.int 0)) (.blt .len (.cons (.var 0) .nil))) (.cmp .NotEq (.comp (.cst (.int 1)) (.nm 6) (.sSeq (.var 3)) (.cmp .In (.var 5) (.call 46 (.cons (.var 0) (.cons (.var 6) .nil)))) [6]) (.lst .nil)) [5]) (.cons (.bin .Add (.var 4) (.cst (.int 1))) .nil))) [some (pD P), some (nD a), some (nD b), some (nL L), some (nD s), z5, z6] M = some (.nx [some (pD P), some (nD a), some (nD b), some (nL L2), some (nD (s + 1)), z5, z6] M) := by
        rw [q_par, q_cons, hcomp, q_c1, q_cons, q_bin, q_var]
        show k_par _ _ _ (k_c2 _ (k_c1 _ _ _ (k_bin1 _ _ _ _ (some (nD s, M))))) = _
        rfl
      have h2 : exec (callD fs (k + 2)) (.seq (.iff (.cmp .Gt (.var 4) (.blt .len (.cons (.var 0) .nil))) (.seq (.ret (.cst .non)) .skip) .skip) .skip) [some (pD P), some (nD a), some (nD b), some (nL L2), some (nD (s + 1)), z5, z6] M = if P.length < s + 1 then some (.rt .non M) else some (.nx [some (pD P), some (nD a), some (nD b), some (nL L2), some (nD (s + 1)), z5, z6] M) := by
        generalize nL L2 = y
        by_cases c : P.length < s + 1
        · have c2 : (P.length : Int) < (s : Int) + 1 := by omega
          simp -implicitDefEqProofs [q_pr, q_bl, q_var, q_cst, q_bin, q_bin1, q_bin2, q_cmp, q_cmp1, q_cmp2, q_ch, q_ch1, q_ch2, q_ch3, q_neg, q_neg1, q_not, q_not1, q_not2, q_and, q_and1, q_and2, q_or, q_or1, q_or2, q_ite, q_ite1, q_ite2, q_tup, q_tup1, q_lst, q_lst1, q_dsp, q_dsp1, q_dsp2, q_idx, q_ix1, q_ix2, q_slice, q_sl1, q_sl2, q_sl3, q_slP00, q_slP10, q_slP01, q_slP11, q_slCt, q_slCl, q_rev, q_rev1, q_revD, q_revCl, q_revCt, q_call, q_call1, q_blt, q_blt1, q_isi, q_isi1, q_mth, q_m1, q_m2, q_m3, q_nil, q_cons, q_c1, q_c2, q_sSeq, q_sSeq1, q_sEnum, q_sEnum1, q_sR, q_sR1, q_sR2, q_sZ, q_sZ1, q_sZ2, q_seq, q_seqn, q_seqr, q_seqb, q_seqc, q_skip, q_brk, q_cont, q_asg, q_asg1, q_asg2, q_at_nm, q_at_tp, q_at_nil, q_at_cons, q_at1, q_box, q_box1, q_box2, q_bxl, q_bxd, q_bxf, q_par, q_par1, q_par2, q_bs0, q_bs, q_bs1, q_seti, q_st1, q_st2, q_st3, q_st4, q_putD, q_putL, q_putL1, q_putK, q_putKs, q_putK1, q_expr, q_ex1, q_ret, q_ret1, q_if, q_if1, q_if2, q_rd_non, q_rd_bl, q_rd_int, q_rd_str, q_rd_tup, q_rd_lst, q_rd_dct, q_rd_ref, q_rdOl, q_rdOd, q_seqOf, q_seqCt, q_seqCl, q_lstOf, q_lstCl, q_dctOf, q_dctCd, q_dctCt, q_dctCl, q_dctCs, q_truD, q_truCb, q_truCi, q_truCn, q_truCt, q_truCl, q_truCd, q_isiD, q_isiCn, q_isiCb, q_isiCi, q_isiCs, q_isiCt, q_isiCl, q_binD, b_add, b_sub, b_mul, b_div, b_mod, b_shl, b_pow, b_shr, b_and, b_or, b_xor, b_adds, b_addt, b_addl, b_mult, b_mull, q_nb, q_eq, q_ne, q_in, q_nin, q_lt, q_le, q_gt, q_ge, q_isb, q_isn, q_isi', q_ist, q_isl, q_iss, q_isbn, q_isr, q_isd, q_inb, q_inn, q_ini, q_int, q_inl, q_ins, q_inr, q_ind, q_eqii, q_eqss, q_eqbb, q_eqsi, q_eqtt, q_eqll, q_eqtn, q_eqnt, q_eqnn, q_ixD, q_ixC, q_ixK, q_ixKs, q_seqCd, q_lent, q_lenl, q_lend, q_lenr, q_lenCl, q_lenCd, q_abs, q_bint, q_bintb, q_bmin, q_bmax, q_btuple, q_bt1, q_blistt, q_blistl, q_blists, q_blistr, q_bll1, q_sset, q_sset1, q_lrange, q_trange, q_app, q_app1, flatD, eqv_str, eqv_int, eqv_bl, eqv_non, eqv_si, eqv_is, eqv_tup, eqv_lst, eqv_tn, eqv_nt, eqvs_nil, eqvs_cons, eqvs_nc, eqvs_cn, okN_non, okN_bl, okN_int, okN_str, okN_t64, okN_l64, okN_t63, okN_l63, okN_t62, okN_l62, okNs_nil, okNs_cons, eqS, setAll, inD, keyOf, c, c2]
        · have c2 : ¬ (P.length : Int) < (s : Int) + 1 := by omega
          simp -implicitDefEqProofs [q_pr, q_bl, q_var, q_cst, q_bin, q_bin1, q_bin2, q_cmp, q_cmp1, q_cmp2, q_ch, q_ch1, q_ch2, q_ch3, q_neg, q_neg1, q_not, q_not1, q_not2, q_and, q_and1, q_and2, q_or, q_or1, q_or2, q_ite, q_ite1, q_ite2, q_tup, q_tup1, q_lst, q_lst1, q_dsp, q_dsp1, q_dsp2, q_idx, q_ix1, q_ix2, q_slice, q_sl1, q_sl2, q_sl3, q_slP00, q_slP10, q_slP01, q_slP11, q_slCt, q_slCl, q_rev, q_rev1, q_revD, q_revCl, q_revCt, q_call, q_call1, q_blt, q_blt1, q_isi, q_isi1, q_mth, q_m1, q_m2, q_m3, q_nil, q_cons, q_c1, q_c2, q_sSeq, q_sSeq1, q_sEnum, q_sEnum1, q_sR, q_sR1, q_sR2, q_sZ, q_sZ1, q_sZ2, q_seq, q_seqn, q_seqr, q_seqb, q_seqc, q_skip, q_brk, q_cont, q_asg, q_asg1, q_asg2, q_at_nm, q_at_tp, q_at_nil, q_at_cons, q_at1, q_box, q_box1, q_box2, q_bxl, q_bxd, q_bxf, q_par, q_par1, q_par2, q_bs0, q_bs, q_bs1, q_seti, q_st1, q_st2, q_st3, q_st4, q_putD, q_putL, q_putL1, q_putK, q_putKs, q_putK1, q_expr, q_ex1, q_ret, q_ret1, q_if, q_if1, q_if2, q_rd_non, q_rd_bl, q_rd_int, q_rd_str, q_rd_tup, q_rd_lst, q_rd_dct, q_rd_ref, q_rdOl, q_rdOd, q_seqOf, q_seqCt, q_seqCl, q_lstOf, q_lstCl, q_dctOf, q_dctCd, q_dctCt, q_dctCl, q_dctCs, q_truD, q_truCb, q_truCi, q_truCn, q_truCt, q_truCl, q_truCd, q_isiD, q_isiCn, q_isiCb, q_isiCi, q_isiCs, q_isiCt, q_isiCl, q_binD, b_add, b_sub, b_mul, b_div, b_mod, b_shl, b_pow, b_shr, b_and, b_or, b_xor, b_adds, b_addt, b_addl, b_mult, b_mull, q_nb, q_eq, q_ne, q_in, q_nin, q_lt, q_le, q_gt, q_ge, q_isb, q_isn, q_isi', q_ist, q_isl, q_iss, q_isbn, q_isr, q_isd, q_inb, q_inn, q_ini, q_int, q_inl, q_ins, q_inr, q_ind, q_eqii, q_eqss, q_eqbb, q_eqsi, q_eqtt, q_eqll, q_eqtn, q_eqnt, q_eqnn, q_ixD, q_ixC, q_ixK, q_ixKs, q_seqCd, q_lent, q_lenl, q_lend, q_lenr, q_lenCl, q_lenCd, q_abs, q_bint, q_bintb, q_bmin, q_bmax, q_btuple, q_bt1, q_blistt, q_blistl, q_blists, q_blistr, q_bll1, q_sset, q_sset1, q_lrange, q_trange, q_app, q_app1, flatD, eqv_str, eqv_int, eqv_bl, eqv_non, eqv_si, eqv_is, eqv_tup, eqv_lst, eqv_tn, eqv_nt, eqvs_nil, eqvs_cons, eqvs_nc, eqvs_cn, okN_non, okN_bl, okN_int, okN_str, okN_t64, okN_l64, okN_t63, okN_l63, okN_t62, okN_l62, okNs_nil, okNs_cons, eqS, setAll, inD, keyOf, c, c2]
      refine .inr ⟨by rw [hb2]; rfl, ?_⟩
      by_cases c : P.length < s + 1
      · rw [if_pos c] at h2
        refine .inr (.inr ⟨.non, M, ?_, .inl ⟨rfl, fun j hj => hno2 j (by omega)⟩⟩)
        rw [q_seq, h1, q_seqn, h2]
      · rw [if_neg c] at h2
        refine .inl ⟨[some (pD P), some (nD a), some (nD b), some (nL L2), some (nD (s + 1)), z5, z6], M, m - 1, .inl ?_, by omega, s + 1, L2, z5, z6, by omega, hL2, fun x hx => ?_, ?_, hno2, rfl, rfl⟩
        · rw [q_seq, h1, q_seqn, h2]
        · simp only [L2, List.mem_filter, List.mem_range] at hx
          exact hx.1
        · have := List.length_filter_le (fun own => !(L.filter fun here => (nxt P here).contains own).isEmpty) (List.range P.length)
          rwa [List.length_range] at this) P.length wfuel [some (pD P), some (nD a), some (nD b), some (nL [a]), some (nD 0), none, none] M (by unfold wfuel; omega) ⟨0, [a], none, none, by omega, fun x => by simp [At], fun x hx => by rw [List.mem_singleton] at hx; rw [hx]; exact ha, by simp; omega, fun j hj => by omega, rfl, rfl⟩
  have h0 : exec (callD fs (k + 2)) (.parN [3, 4] [false, false] (.cons (.lst (.cons (.var 1) .nil)) (.cons (.cst (.int 0)) .nil))) [some (pD P), some (nD a), some (nD b), none, none, none, none] M = some (.nx [some (pD P), some (nD a), some (nD b), some (nL [a]), some (nD 0), none, none] M) := rfl
  rcases hE with ⟨rfl, hE⟩ | ⟨s, L, z5, z6, rfl, h1, h2⟩
  · have hl : exec (callD fs (k + 2)) (.whl (.cmp .NotIn (.var 2) (.var 3)) (.seq (.parN [3, 4] [false, false] (.cons (.comp (.var 5) (.nm 5) (.sRange (.cst (.int 0)) (.blt .len (.cons (.var 0) .nil))) (.cmp .NotEq (.comp (.cst (.int 1)) (.nm 6) (.sSeq (.var 3)) (.cmp .In (.var 5) (.call 46 (.cons (.var 0) (.cons (.var 6) .nil)))) [6]) (.lst .nil)) [5]) (.cons (.bin .Add (.var 4) (.cst (.int 1))) .nil))) (.seq (.iff (.cmp .Gt (.var 4) (.blt .len (.cons (.var 0) .nil))) (.seq (.ret (.cst .non)) .skip) .skip) .skip))) [some (pD P), some (nD a), some (nD b), some (nL [a]), some (nD 0), none, none] M = _ := hw
    refine ⟨.non, .inl ⟨rfl, hE⟩, call_pure (f := f48) hM rfl rfl rfl ?_⟩
    show exec (callD fs (k + 2)) b48 [some (pD P), some (nD a), some (nD b), none, none, none, none] M = _
    unfold b48
    rw [q_seq, h0, q_seqn, q_seq, hl, q_seqr]
  · have hl : exec (callD fs (k + 2)) (.whl (.cmp .NotIn (.var 2) (.var 3)) (.seq (.parN [3, 4] [false, false] (.cons (.comp (.var 5) (.nm 5) (.sRange (.cst (.int 0)) (.blt .len (.cons (.var 0) .nil))) (.cmp .NotEq (.comp (.cst (.int 1)) (.nm 6) (.sSeq (.var 3)) (.cmp .In (.var 5) (.call 46 (.cons (.var 0) (.cons (.var 6) .nil)))) [6]) (.lst .nil)) [5]) (.cons (.bin .Add (.var 4) (.cst (.int 1))) .nil))) (.seq (.iff (.cmp .Gt (.var 4) (.blt .len (.cons (.var 0) .nil))) (.seq (.ret (.cst .non)) .skip) .skip) .skip))) [some (pD P), some (nD a), some (nD b), some (nL [a]), some (nD 0), none, none] M = _ := hw
    refine ⟨nD s, .inr ⟨s, rfl, h1, h2⟩, call_pure (f := f48) hM rfl rfl rfl ?_⟩
    show exec (callD fs (k + 2)) b48 [some (pD P), some (nD a), some (nD b), none, none, none, none] M = _
    unfold b48
    rw [q_seq, h0, q_seqn, q_seq, hl, q_seqn]
    rfl
end K09
end Mi
namespace Mi
open PySem PySem.Spec PyProof.Rows L2

namespace K09
variable {k : Nat} {M rest : Mem} {P : List Ord}
/-! ### values bent -/
theorem lks_nats (n : Nat) (l : List Nat) : D.lks n (l.map nD) = true := by
  induction l with
  | nil => exact lks_nil
  | cons a l ih => rw [List.map_cons, lks_cons, lk_int, ih]; rfl
theorem lks_app {n : Nat} {xs ys : List D} (h1 : D.lks n xs = true) (h2 : D.lks n ys = true) : D.lks n (xs ++ ys) = true := by
  induction xs with
  | nil => exact h2
  | cons a l ih =>
    rw [lks_cons, Bool.and_eq_true] at h1
    rw [List.cons_append, lks_cons, h1.1, ih h1.2]
    rfl
theorem lk_nats {n : Nat} {l : List Nat} (h : l.length ≤ 1000) : (D.tup (l.map nD)).lk (n + 1) = true := lk_tup (by rw [List.length_map]; exact h) (lks_nats n l)
theorem lk_natl {n : Nat} {l : List Nat} (h : l.length ≤ 1000) : (nL l).lk (n + 1) = true := lk_lst (by rw [List.length_map]; exact h) (lks_nats n l)
def someD : List D := [.non, .bl true, .bl false, .int 0, .int 1, .int 2, .int 3, .int (-1), .str [], .str [49], .tup [], .lst [], .tup [.int 0, .int 1], .tup [.int 0]]
theorem some_lk : D.lks 11 someD = true := by kernel_rfl
theorem bent_int (c : Cup) (hM : OkM (cM c rest)) {i : Nat} : ∃ (d : D) (c' : Cup), d.lk 10 = true ∧ callD fs (k + 3) 45 [.ref 0, nD i] (cM c rest) = some (d, cM c' rest) := by
  have hl : D.lks 10 (someD ++ ([.int (i + 1), .int (i + 1), .int (i - 1)] : List D)) = true := lks_app (by kernel_rfl) rfl
  obtain ⟨x, hx, c', r⟩ := some_of (k := k) c hM (oks_pure 63 _ (lks10 hl)) (show 0 < (someD ++ ([.int (i + 1), .int (i + 1), .int (i - 1)] : List D)).length by simp) (show (someD ++ ([.int (i + 1), .int (i + 1), .int (i - 1)] : List D)).length < 1000000 by simp [someD])
  have hxl := lks_all hl x hx
  have hxp : x.pure = true := ok_pure 63 x (lk_ok 63 x (lk_more hxl 53))
  refine ⟨x, c', hxl, call_rt (f := f45) (d := x) (M' := cM c' rest) rfl rfl ?_ (fin_cM hM hxp)⟩
  have hs := law_sort (k := k + 1) hM (d := nD i) (n := 0) rfl
  have e2 : sortN (nD i) = 2 := rfl
  rw [e2] at hs
  show exec (callD fs (k + 2)) b45 [some (.ref 0), some (nD i), none, none, none] (cM c rest) = _
  unfold b45
  unfold someD at r
  simp only [List.cons_append, List.nil_append] at r
  simp -implicitDefEqProofs [q_pr, q_bl, q_var, q_cst, q_bin, q_bin1, q_bin2, q_cmp, q_cmp1, q_cmp2, q_ch, q_ch1, q_ch2, q_ch3, q_neg, q_neg1, q_not, q_not1, q_not2, q_and, q_and1, q_and2, q_or, q_or1, q_or2, q_ite, q_ite1, q_ite2, q_tup, q_tup1, q_lst, q_lst1, q_dsp, q_dsp1, q_dsp2, q_idx, q_ix1, q_ix2, q_slice, q_sl1, q_sl2, q_sl3, q_slP00, q_slP10, q_slP01, q_slP11, q_slCt, q_slCl, q_rev, q_rev1, q_revD, q_revCl, q_revCt, q_call, q_call1, q_blt, q_blt1, q_isi, q_isi1, q_mth, q_m1, q_m2, q_m3, q_nil, q_cons, q_c1, q_c2, q_sSeq, q_sSeq1, q_sEnum, q_sEnum1, q_sR, q_sR1, q_sR2, q_sZ, q_sZ1, q_sZ2, q_seq, q_seqn, q_seqr, q_seqb, q_seqc, q_skip, q_brk, q_cont, q_asg, q_asg1, q_asg2, q_at_nm, q_at_tp, q_at_nil, q_at_cons, q_at1, q_box, q_box1, q_box2, q_bxl, q_bxd, q_bxf, q_par, q_par1, q_par2, q_bs0, q_bs, q_bs1, q_seti, q_st1, q_st2, q_st3, q_st4, q_putD, q_putL, q_putL1, q_putK, q_putKs, q_putK1, q_expr, q_ex1, q_ret, q_ret1, q_if, q_if1, q_if2, q_rd_non, q_rd_bl, q_rd_int, q_rd_str, q_rd_tup, q_rd_lst, q_rd_dct, q_rd_ref, q_rdOl, q_rdOd, q_seqOf, q_seqCt, q_seqCl, q_lstOf, q_lstCl, q_dctOf, q_dctCd, q_dctCt, q_dctCl, q_dctCs, q_truD, q_truCb, q_truCi, q_truCn, q_truCt, q_truCl, q_truCd, q_isiD, q_isiCn, q_isiCb, q_isiCi, q_isiCs, q_isiCt, q_isiCl, q_binD, b_add, b_sub, b_mul, b_div, b_mod, b_shl, b_pow, b_shr, b_and, b_or, b_xor, b_adds, b_addt, b_addl, b_mult, b_mull, q_nb, q_eq, q_ne, q_in, q_nin, q_lt, q_le, q_gt, q_ge, q_isb, q_isn, q_isi', q_ist, q_isl, q_iss, q_isbn, q_isr, q_isd, q_inb, q_inn, q_ini, q_int, q_inl, q_ins, q_inr, q_ind, q_eqii, q_eqss, q_eqbb, q_eqsi, q_eqtt, q_eqll, q_eqtn, q_eqnt, q_eqnn, q_ixD, q_ixC, q_ixK, q_ixKs, q_seqCd, q_lent, q_lenl, q_lend, q_lenr, q_lenCl, q_lenCd, q_abs, q_bint, q_bintb, q_bmin, q_bmax, q_btuple, q_bt1, q_blistt, q_blistl, q_blists, q_blistr, q_bll1, q_sset, q_sset1, q_lrange, q_trange, q_app, q_app1, flatD, eqv_str, eqv_int, eqv_bl, eqv_non, eqv_si, eqv_is, eqv_tup, eqv_lst, eqv_tn, eqv_nt, eqvs_nil, eqvs_cons, eqvs_nc, eqvs_cn, okN_non, okN_bl, okN_int, okN_str, okN_t64, okN_l64, okN_t63, okN_l63, okN_t62, okN_l62, okNs_nil, okNs_cons, eqS, setAll, inD, keyOf, hs, line, r]
theorem bent_tup (c : Cup) (hM : OkM (cM c rest)) {l : List Nat} (h0 : 0 < l.length) (h1 : l.length ≤ 100) : ∃ (d : D) (c' : Cup), d.lk 11 = true ∧ callD fs (k + 4) 45 [.ref 0, .tup (l.map nD)] (cM c rest) = some (d, cM c' rest) := by
  suffices H : ∃ (d : D) (c' : Cup), d.lk 11 = true ∧ exec (callD fs (k + 3)) b45 [some (.ref 0), some (.tup (l.map nD)), none, none, none] (cM c rest) = some (.rt d (cM c' rest)) by
    obtain ⟨d, c', hd, h⟩ := H
    exact ⟨d, c', hd, call_rt (f := f45) (d := d) (M' := cM c' rest) rfl rfl h (fin_cM hM (ok_pure 63 d (lk_ok 63 d (lk_more hd 52))))⟩
  have heq : eqC (.tup (l.map nD)) (.tup []) = some false := by
    rw [eq_tnil (okNs_nats 63 l)]
    cases l with
    | nil => exact absurd h0 (by simp)
    | cons a l => rfl
  obtain ⟨r8, c1, q8, h8⟩ := roll_n (k := k + 2) (many := 8) c hM (by decide) (by decide)
  have hM1 : OkM (cM c1 rest) := cM_ok hM
  by_cases z : r8 = 0
  · subst z
    obtain ⟨x, hx, c2, hr⟩ := some_of (k := k + 1) c1 hM1 (xs := someD) (by kernel_rfl) (by decide) (by decide)
    refine ⟨x, c2, lks_all some_lk x hx, ?_⟩
    have hs := law_sort (k := k + 2) hM1 (lk_nats (n := 10) (l := l) (by omega))
    have e4 : sortN (.tup (l.map nD)) = 4 := rfl
    rw [e4] at hs
    unfold b45
    unfold someD at hr
    generalize l.map nD = xs at *
    simp -implicitDefEqProofs [q_pr, q_bl, q_var, q_cst, q_bin, q_bin1, q_bin2, q_cmp, q_cmp1, q_cmp2, q_ch, q_ch1, q_ch2, q_ch3, q_neg, q_neg1, q_not, q_not1, q_not2, q_and, q_and1, q_and2, q_or, q_or1, q_or2, q_ite, q_ite1, q_ite2, q_tup, q_tup1, q_lst, q_lst1, q_dsp, q_dsp1, q_dsp2, q_idx, q_ix1, q_ix2, q_slice, q_sl1, q_sl2, q_sl3, q_slP00, q_slP10, q_slP01, q_slP11, q_slCt, q_slCl, q_rev, q_rev1, q_revD, q_revCl, q_revCt, q_call, q_call1, q_blt, q_blt1, q_isi, q_isi1, q_mth, q_m1, q_m2, q_m3, q_nil, q_cons, q_c1, q_c2, q_sSeq, q_sSeq1, q_sEnum, q_sEnum1, q_sR, q_sR1, q_sR2, q_sZ, q_sZ1, q_sZ2, q_seq, q_seqn, q_seqr, q_seqb, q_seqc, q_skip, q_brk, q_cont, q_asg, q_asg1, q_asg2, q_at_nm, q_at_tp, q_at_nil, q_at_cons, q_at1, q_box, q_box1, q_box2, q_bxl, q_bxd, q_bxf, q_par, q_par1, q_par2, q_bs0, q_bs, q_bs1, q_seti, q_st1, q_st2, q_st3, q_st4, q_putD, q_putL, q_putL1, q_putK, q_putKs, q_putK1, q_expr, q_ex1, q_ret, q_ret1, q_if, q_if1, q_if2, q_rd_non, q_rd_bl, q_rd_int, q_rd_str, q_rd_tup, q_rd_lst, q_rd_dct, q_rd_ref, q_rdOl, q_rdOd, q_seqOf, q_seqCt, q_seqCl, q_lstOf, q_lstCl, q_dctOf, q_dctCd, q_dctCt, q_dctCl, q_dctCs, q_truD, q_truCb, q_truCi, q_truCn, q_truCt, q_truCl, q_truCd, q_isiD, q_isiCn, q_isiCb, q_isiCi, q_isiCs, q_isiCt, q_isiCl, q_binD, b_add, b_sub, b_mul, b_div, b_mod, b_shl, b_pow, b_shr, b_and, b_or, b_xor, b_adds, b_addt, b_addl, b_mult, b_mull, q_nb, q_eq, q_ne, q_in, q_nin, q_lt, q_le, q_gt, q_ge, q_isb, q_isn, q_isi', q_ist, q_isl, q_iss, q_isbn, q_isr, q_isd, q_inb, q_inn, q_ini, q_int, q_inl, q_ins, q_inr, q_ind, q_eqii, q_eqss, q_eqbb, q_eqsi, q_eqtt, q_eqll, q_eqtn, q_eqnt, q_eqnn, q_ixD, q_ixC, q_ixK, q_ixKs, q_seqCd, q_lent, q_lenl, q_lend, q_lenr, q_lenCl, q_lenCd, q_abs, q_bint, q_bintb, q_bmin, q_bmax, q_btuple, q_bt1, q_blistt, q_blistl, q_blists, q_blistr, q_bll1, q_sset, q_sset1, q_lrange, q_trange, q_app, q_app1, flatD, eqv_str, eqv_int, eqv_bl, eqv_non, eqv_si, eqv_is, eqv_tup, eqv_lst, eqv_tn, eqv_nt, eqvs_nil, eqvs_cons, eqvs_nc, eqvs_cn, okN_non, okN_bl, okN_int, okN_str, okN_t64, okN_l64, okN_t63, okN_l63, okN_t62, okN_l62, okNs_nil, okNs_cons, eqS, setAll, inD, keyOf, hs, heq, h8, hr]
  · have hr8 : ((r8 : Nat) : Int) ≠ 0 := by omega
    obtain ⟨at_, c2, qa, ha⟩ := roll_n (k := k + 2) (many := ((l.map nD).length : Nat)) c1 hM1 (by rw [List.length_map]; omega) (by rw [List.length_map]; omega)
    have hM2 : OkM (cM c2 rest) := cM_ok hM
    obtain ⟨way, c3, qw, hw⟩ := roll_n (k := k + 2) (many := 12) c2 hM2 (by decide) (by decide)
    have hM3 : OkM (cM c3 rest) := cM_ok hM
    rw [List.length_map] at qa
    have qa : at_ < l.length := by omega
    have s0 : exec (callD fs (k + 3)) (.iff (.or (.not (.isi (.var 1) .tuple)) (.or (.cmp .Eq (.var 1) (.tup .nil)) (.cmp .Eq (.call 40 (.cons (.var 0) (.cons (.cst (.int 8)) .nil))) (.cst (.int 0))))) (.seq (.asg (.nm 2) (.lst (.cons (.cst .non) (.cons (.cst (.bl true)) (.cons (.cst (.bl false)) (.cons (.cst (.int 0)) (.cons (.cst (.int 1)) (.cons (.cst (.int 2)) (.cons (.cst (.int 3)) (.cons (.neg (.cst (.int 1))) (.cons (.cst (.str [])) (.cons (.cst (.str [49])) (.cons (.tup .nil) (.cons (.lst .nil) (.cons (.tup (.cons (.cst (.int 0)) (.cons (.cst (.int 1)) .nil))) (.cons (.tup (.cons (.cst (.int 0)) .nil)) .nil)))))))))))))))) (.seq (.iff (.cmp .Eq (.call 42 (.cons (.var 1) .nil)) (.cst (.int 2))) (.seq (.asg (.nm 2) (.bin .Add (.var 2) (.lst (.cons (.bin .Add (.var 1) (.cst (.int 1))) (.cons (.bin .Add (.var 1) (.cst (.int 1))) (.cons (.bin .Sub (.var 1) (.cst (.int 1))) .nil)))))) .skip) .skip) (.seq (.ret (.call 41 (.cons (.var 0) (.cons (.var 2) .nil)))) .skip))) .skip) [some (.ref 0), some (.tup (l.map nD)), none, none, none] (cM c rest) = some (.nx [some (.ref 0), some (.tup (l.map nD)), none, none, none] (cM c1 rest)) := by
      generalize l.map nD = xs at *
      simp -implicitDefEqProofs [q_pr, q_bl, q_var, q_cst, q_bin, q_bin1, q_bin2, q_cmp, q_cmp1, q_cmp2, q_ch, q_ch1, q_ch2, q_ch3, q_neg, q_neg1, q_not, q_not1, q_not2, q_and, q_and1, q_and2, q_or, q_or1, q_or2, q_ite, q_ite1, q_ite2, q_tup, q_tup1, q_lst, q_lst1, q_dsp, q_dsp1, q_dsp2, q_idx, q_ix1, q_ix2, q_slice, q_sl1, q_sl2, q_sl3, q_slP00, q_slP10, q_slP01, q_slP11, q_slCt, q_slCl, q_rev, q_rev1, q_revD, q_revCl, q_revCt, q_call, q_call1, q_blt, q_blt1, q_isi, q_isi1, q_mth, q_m1, q_m2, q_m3, q_nil, q_cons, q_c1, q_c2, q_sSeq, q_sSeq1, q_sEnum, q_sEnum1, q_sR, q_sR1, q_sR2, q_sZ, q_sZ1, q_sZ2, q_seq, q_seqn, q_seqr, q_seqb, q_seqc, q_skip, q_brk, q_cont, q_asg, q_asg1, q_asg2, q_at_nm, q_at_tp, q_at_nil, q_at_cons, q_at1, q_box, q_box1, q_box2, q_bxl, q_bxd, q_bxf, q_par, q_par1, q_par2, q_bs0, q_bs, q_bs1, q_seti, q_st1, q_st2, q_st3, q_st4, q_putD, q_putL, q_putL1, q_putK, q_putKs, q_putK1, q_expr, q_ex1, q_ret, q_ret1, q_if, q_if1, q_if2, q_rd_non, q_rd_bl, q_rd_int, q_rd_str, q_rd_tup, q_rd_lst, q_rd_dct, q_rd_ref, q_rdOl, q_rdOd, q_seqOf, q_seqCt, q_seqCl, q_lstOf, q_lstCl, q_dctOf, q_dctCd, q_dctCt, q_dctCl, q_dctCs, q_truD, q_truCb, q_truCi, q_truCn, q_truCt, q_truCl, q_truCd, q_isiD, q_isiCn, q_isiCb, q_isiCi, q_isiCs, q_isiCt, q_isiCl, q_binD, b_add, b_sub, b_mul, b_div, b_mod, b_shl, b_pow, b_shr, b_and, b_or, b_xor, b_adds, b_addt, b_addl, b_mult, b_mull, q_nb, q_eq, q_ne, q_in, q_nin, q_lt, q_le, q_gt, q_ge, q_isb, q_isn, q_isi', q_ist, q_isl, q_iss, q_isbn, q_isr, q_isd, q_inb, q_inn, q_ini, q_int, q_inl, q_ins, q_inr, q_ind, q_eqii, q_eqss, q_eqbb, q_eqsi, q_eqtt, q_eqll, q_eqtn, q_eqnt, q_eqnn, q_ixD, q_ixC, q_ixK, q_ixKs, q_seqCd, q_lent, q_lenl, q_lend, q_lenr, q_lenCl, q_lenCd, q_abs, q_bint, q_bintb, q_bmin, q_bmax, q_btuple, q_bt1, q_blistt, q_blistl, q_blists, q_blistr, q_bll1, q_sset, q_sset1, q_lrange, q_trange, q_app, q_app1, flatD, eqv_str, eqv_int, eqv_bl, eqv_non, eqv_si, eqv_is, eqv_tup, eqv_lst, eqv_tn, eqv_nt, eqvs_nil, eqvs_cons, eqvs_nc, eqvs_cn, okN_non, okN_bl, okN_int, okN_str, okN_t64, okN_l64, okN_t63, okN_l63, okN_t62, okN_l62, okNs_nil, okNs_cons, eqS, setAll, inD, keyOf, heq, h8, hr8, z]
    have s1 : exec (callD fs (k + 3)) (.parN [3, 4] [false, false] (.cons (.call 40 (.cons (.var 0) (.cons (.blt .len (.cons (.var 1) .nil)) .nil))) (.cons (.call 40 (.cons (.var 0) (.cons (.cst (.int 12)) .nil))) .nil))) [some (.ref 0), some (.tup (l.map nD)), none, none, none] (cM c1 rest) = some (.nx [some (.ref 0), some (.tup (l.map nD)), none, some (nD at_), some (nD way)] (cM c3 rest)) := by
      generalize l.map nD = xs at *
      simp -implicitDefEqProofs [q_pr, q_bl, q_var, q_cst, q_bin, q_bin1, q_bin2, q_cmp, q_cmp1, q_cmp2, q_ch, q_ch1, q_ch2, q_ch3, q_neg, q_neg1, q_not, q_not1, q_not2, q_and, q_and1, q_and2, q_or, q_or1, q_or2, q_ite, q_ite1, q_ite2, q_tup, q_tup1, q_lst, q_lst1, q_dsp, q_dsp1, q_dsp2, q_idx, q_ix1, q_ix2, q_slice, q_sl1, q_sl2, q_sl3, q_slP00, q_slP10, q_slP01, q_slP11, q_slCt, q_slCl, q_rev, q_rev1, q_revD, q_revCl, q_revCt, q_call, q_call1, q_blt, q_blt1, q_isi, q_isi1, q_mth, q_m1, q_m2, q_m3, q_nil, q_cons, q_c1, q_c2, q_sSeq, q_sSeq1, q_sEnum, q_sEnum1, q_sR, q_sR1, q_sR2, q_sZ, q_sZ1, q_sZ2, q_seq, q_seqn, q_seqr, q_seqb, q_seqc, q_skip, q_brk, q_cont, q_asg, q_asg1, q_asg2, q_at_nm, q_at_tp, q_at_nil, q_at_cons, q_at1, q_box, q_box1, q_box2, q_bxl, q_bxd, q_bxf, q_par, q_par1, q_par2, q_bs0, q_bs, q_bs1, q_seti, q_st1, q_st2, q_st3, q_st4, q_putD, q_putL, q_putL1, q_putK, q_putKs, q_putK1, q_expr, q_ex1, q_ret, q_ret1, q_if, q_if1, q_if2, q_rd_non, q_rd_bl, q_rd_int, q_rd_str, q_rd_tup, q_rd_lst, q_rd_dct, q_rd_ref, q_rdOl, q_rdOd, q_seqOf, q_seqCt, q_seqCl, q_lstOf, q_lstCl, q_dctOf, q_dctCd, q_dctCt, q_dctCl, q_dctCs, q_truD, q_truCb, q_truCi, q_truCn, q_truCt, q_truCl, q_truCd, q_isiD, q_isiCn, q_isiCb, q_isiCi, q_isiCs, q_isiCt, q_isiCl, q_binD, b_add, b_sub, b_mul, b_div, b_mod, b_shl, b_pow, b_shr, b_and, b_or, b_xor, b_adds, b_addt, b_addl, b_mult, b_mull, q_nb, q_eq, q_ne, q_in, q_nin, q_lt, q_le, q_gt, q_ge, q_isb, q_isn, q_isi', q_ist, q_isl, q_iss, q_isbn, q_isr, q_isd, q_inb, q_inn, q_ini, q_int, q_inl, q_ins, q_inr, q_ind, q_eqii, q_eqss, q_eqbb, q_eqsi, q_eqtt, q_eqll, q_eqtn, q_eqnt, q_eqnn, q_ixD, q_ixC, q_ixK, q_ixKs, q_seqCd, q_lent, q_lenl, q_lend, q_lenr, q_lenCl, q_lenCd, q_abs, q_bint, q_bintb, q_bmin, q_bmax, q_btuple, q_bt1, q_blistt, q_blistl, q_blists, q_blistr, q_bll1, q_sset, q_sset1, q_lrange, q_trange, q_app, q_app1, flatD, eqv_str, eqv_int, eqv_bl, eqv_non, eqv_si, eqv_is, eqv_tup, eqv_lst, eqv_tn, eqv_nt, eqvs_nil, eqvs_cons, eqvs_nc, eqvs_cn, okN_non, okN_bl, okN_int, okN_str, okN_t64, okN_l64, okN_t63, okN_l63, okN_t62, okN_l62, okNs_nil, okNs_cons, eqS, setAll, inD, keyOf, ha, hw]
    have hget : atI (l.map nD) ((at_ : Nat) : Int) = some (nD (l.getD at_ 0)) := atI_get (by rw [List.getElem?_map, List.getElem?_eq_getElem qa, List.getD_eq_getElem?_getD, List.getElem?_eq_getElem qa]; rfl)
    obtain ⟨x, c4, hx, hb⟩ := bent_int (k := k) c3 hM3 (i := l.getD at_ 0)
    have ef : ∀ r, (l.map nD).take r = (l.take r).map nD := fun r => List.map_take.symm
    have eb : ∀ r, (l.map nD).drop r = (l.drop r).map nD := fun r => List.map_drop.symm
    have er : (l.map nD).reverse = l.reverse.map nD := List.map_reverse.symm
    have cf1 : cutD (l.map nD) none (some ((at_ : Int) + 1)) = (l.map nD).take (at_ + 1) := cut_front _ (at_ + 1)
    have l1 : ((l.take at_).map nD).length + ((l.drop (at_ + 1)).map nD).length ≤ line := by simp [line]; omega
    have l2 : ((l.take (at_ + 1)).map nD).length + ((l.drop at_).map nD).length ≤ line := by simp [line]; omega
    have l3 : ((l.take at_).map nD).length + [x].length ≤ line := by simp [line]; omega
    have l4 : ((l.take at_).map nD ++ [x]).length + ((l.drop (at_ + 1)).map nD).length ≤ line := by simp [line]; omega
    unfold b45
    rw [q_seq, s0, q_seqn, q_seq, s1, q_seqn]
    have a1 : cutD (l.map nD) none (some (at_ : Int)) = (l.take at_).map nD := by rw [cut_front, ef]
    have a2 : cutD (l.map nD) (some (at_ : Int)) none = (l.drop at_).map nD := by rw [cut_back, eb]
    have a3 : cutD (l.map nD) (some ((at_ : Int) + 1)) none = (l.drop (at_ + 1)).map nD := by rw [cut_back1, eb]
    have a4 : cutD (l.map nD) none (some ((at_ : Int) + 1)) = (l.take (at_ + 1)).map nD := by rw [cf1, ef]
    have k1 : (D.tup ((l.take at_).map nD ++ (l.drop (at_ + 1)).map nD)).lk 11 = true := lk_tup (by simp; omega) (lks_app (lks_nats _ _) (lks_nats _ _))
    have k2 : (D.tup ((l.take (at_ + 1)).map nD ++ (l.drop at_).map nD)).lk 11 = true := lk_tup (by simp; omega) (lks_app (lks_nats _ _) (lks_nats _ _))
    have k3 : (D.tup (((l.take at_).map nD ++ [x]) ++ (l.drop (at_ + 1)).map nD)).lk 11 = true := lk_tup (by simp; omega) (lks_app (lks_app (lks_nats _ _) (by rw [lks_cons, hx, lks_nil]; rfl)) (lks_nats _ _))
    have k4 : (D.tup ((l.map nD).reverse)).lk 11 = true := by rw [er]; exact lk_nats (by simp; omega)
    have k5 : (nL l).lk 11 = true := lk_natl (by omega)
    generalize (l.take at_).map nD = f1 at *
    generalize (l.drop (at_ + 1)).map nD = f2 at *
    generalize (l.take (at_ + 1)).map nD = f3 at *
    generalize (l.drop at_).map nD = f4 at *
    generalize nD (l.getD at_ 0) = u at *
    by_cases w0 : way = 0
    · subst w0
      refine ⟨_, c3, k1, ?_⟩
      generalize l.map nD = xs at *
      simp -implicitDefEqProofs [q_pr, q_bl, q_var, q_cst, q_bin, q_bin1, q_bin2, q_cmp, q_cmp1, q_cmp2, q_ch, q_ch1, q_ch2, q_ch3, q_neg, q_neg1, q_not, q_not1, q_not2, q_and, q_and1, q_and2, q_or, q_or1, q_or2, q_ite, q_ite1, q_ite2, q_tup, q_tup1, q_lst, q_lst1, q_dsp, q_dsp1, q_dsp2, q_idx, q_ix1, q_ix2, q_slice, q_sl1, q_sl2, q_sl3, q_slP00, q_slP10, q_slP01, q_slP11, q_slCt, q_slCl, q_rev, q_rev1, q_revD, q_revCl, q_revCt, q_call, q_call1, q_blt, q_blt1, q_isi, q_isi1, q_mth, q_m1, q_m2, q_m3, q_nil, q_cons, q_c1, q_c2, q_sSeq, q_sSeq1, q_sEnum, q_sEnum1, q_sR, q_sR1, q_sR2, q_sZ, q_sZ1, q_sZ2, q_seq, q_seqn, q_seqr, q_seqb, q_seqc, q_skip, q_brk, q_cont, q_asg, q_asg1, q_asg2, q_at_nm, q_at_tp, q_at_nil, q_at_cons, q_at1, q_box, q_box1, q_box2, q_bxl, q_bxd, q_bxf, q_par, q_par1, q_par2, q_bs0, q_bs, q_bs1, q_seti, q_st1, q_st2, q_st3, q_st4, q_putD, q_putL, q_putL1, q_putK, q_putKs, q_putK1, q_expr, q_ex1, q_ret, q_ret1, q_if, q_if1, q_if2, q_rd_non, q_rd_bl, q_rd_int, q_rd_str, q_rd_tup, q_rd_lst, q_rd_dct, q_rd_ref, q_rdOl, q_rdOd, q_seqOf, q_seqCt, q_seqCl, q_lstOf, q_lstCl, q_dctOf, q_dctCd, q_dctCt, q_dctCl, q_dctCs, q_truD, q_truCb, q_truCi, q_truCn, q_truCt, q_truCl, q_truCd, q_isiD, q_isiCn, q_isiCb, q_isiCi, q_isiCs, q_isiCt, q_isiCl, q_binD, b_add, b_sub, b_mul, b_div, b_mod, b_shl, b_pow, b_shr, b_and, b_or, b_xor, b_adds, b_addt, b_addl, b_mult, b_mull, q_nb, q_eq, q_ne, q_in, q_nin, q_lt, q_le, q_gt, q_ge, q_isb, q_isn, q_isi', q_ist, q_isl, q_iss, q_isbn, q_isr, q_isd, q_inb, q_inn, q_ini, q_int, q_inl, q_ins, q_inr, q_ind, q_eqii, q_eqss, q_eqbb, q_eqsi, q_eqtt, q_eqll, q_eqtn, q_eqnt, q_eqnn, q_ixD, q_ixC, q_ixK, q_ixKs, q_seqCd, q_lent, q_lenl, q_lend, q_lenr, q_lenCl, q_lenCd, q_abs, q_bint, q_bintb, q_bmin, q_bmax, q_btuple, q_bt1, q_blistt, q_blistl, q_blists, q_blistr, q_bll1, q_sset, q_sset1, q_lrange, q_trange, q_app, q_app1, flatD, eqv_str, eqv_int, eqv_bl, eqv_non, eqv_si, eqv_is, eqv_tup, eqv_lst, eqv_tn, eqv_nt, eqvs_nil, eqvs_cons, eqvs_nc, eqvs_cn, okN_non, okN_bl, okN_int, okN_str, okN_t64, okN_l64, okN_t63, okN_l63, okN_t62, okN_l62, okNs_nil, okNs_cons, eqS, setAll, inD, keyOf, a1, a3, l1]
    by_cases w1 : way = 1
    · subst w1
      refine ⟨_, c3, k2, ?_⟩
      generalize l.map nD = xs at *
      simp -implicitDefEqProofs [q_pr, q_bl, q_var, q_cst, q_bin, q_bin1, q_bin2, q_cmp, q_cmp1, q_cmp2, q_ch, q_ch1, q_ch2, q_ch3, q_neg, q_neg1, q_not, q_not1, q_not2, q_and, q_and1, q_and2, q_or, q_or1, q_or2, q_ite, q_ite1, q_ite2, q_tup, q_tup1, q_lst, q_lst1, q_dsp, q_dsp1, q_dsp2, q_idx, q_ix1, q_ix2, q_slice, q_sl1, q_sl2, q_sl3, q_slP00, q_slP10, q_slP01, q_slP11, q_slCt, q_slCl, q_rev, q_rev1, q_revD, q_revCl, q_revCt, q_call, q_call1, q_blt, q_blt1, q_isi, q_isi1, q_mth, q_m1, q_m2, q_m3, q_nil, q_cons, q_c1, q_c2, q_sSeq, q_sSeq1, q_sEnum, q_sEnum1, q_sR, q_sR1, q_sR2, q_sZ, q_sZ1, q_sZ2, q_seq, q_seqn, q_seqr, q_seqb, q_seqc, q_skip, q_brk, q_cont, q_asg, q_asg1, q_asg2, q_at_nm, q_at_tp, q_at_nil, q_at_cons, q_at1, q_box, q_box1, q_box2, q_bxl, q_bxd, q_bxf, q_par, q_par1, q_par2, q_bs0, q_bs, q_bs1, q_seti, q_st1, q_st2, q_st3, q_st4, q_putD, q_putL, q_putL1, q_putK, q_putKs, q_putK1, q_expr, q_ex1, q_ret, q_ret1, q_if, q_if1, q_if2, q_rd_non, q_rd_bl, q_rd_int, q_rd_str, q_rd_tup, q_rd_lst, q_rd_dct, q_rd_ref, q_rdOl, q_rdOd, q_seqOf, q_seqCt, q_seqCl, q_lstOf, q_lstCl, q_dctOf, q_dctCd, q_dctCt, q_dctCl, q_dctCs, q_truD, q_truCb, q_truCi, q_truCn, q_truCt, q_truCl, q_truCd, q_isiD, q_isiCn, q_isiCb, q_isiCi, q_isiCs, q_isiCt, q_isiCl, q_binD, b_add, b_sub, b_mul, b_div, b_mod, b_shl, b_pow, b_shr, b_and, b_or, b_xor, b_adds, b_addt, b_addl, b_mult, b_mull, q_nb, q_eq, q_ne, q_in, q_nin, q_lt, q_le, q_gt, q_ge, q_isb, q_isn, q_isi', q_ist, q_isl, q_iss, q_isbn, q_isr, q_isd, q_inb, q_inn, q_ini, q_int, q_inl, q_ins, q_inr, q_ind, q_eqii, q_eqss, q_eqbb, q_eqsi, q_eqtt, q_eqll, q_eqtn, q_eqnt, q_eqnn, q_ixD, q_ixC, q_ixK, q_ixKs, q_seqCd, q_lent, q_lenl, q_lend, q_lenr, q_lenCl, q_lenCd, q_abs, q_bint, q_bintb, q_bmin, q_bmax, q_btuple, q_bt1, q_blistt, q_blistl, q_blists, q_blistr, q_bll1, q_sset, q_sset1, q_lrange, q_trange, q_app, q_app1, flatD, eqv_str, eqv_int, eqv_bl, eqv_non, eqv_si, eqv_is, eqv_tup, eqv_lst, eqv_tn, eqv_nt, eqvs_nil, eqvs_cons, eqvs_nc, eqvs_cn, okN_non, okN_bl, okN_int, okN_str, okN_t64, okN_l64, okN_t63, okN_l63, okN_t62, okN_l62, okNs_nil, okNs_cons, eqS, setAll, inD, keyOf, a2, a4, l2]
    by_cases w2 : way = 2
    · subst w2
      refine ⟨_, c3, k5, ?_⟩
      simp only [nL]
      generalize l.map nD = xs at *
      simp -implicitDefEqProofs [q_pr, q_bl, q_var, q_cst, q_bin, q_bin1, q_bin2, q_cmp, q_cmp1, q_cmp2, q_ch, q_ch1, q_ch2, q_ch3, q_neg, q_neg1, q_not, q_not1, q_not2, q_and, q_and1, q_and2, q_or, q_or1, q_or2, q_ite, q_ite1, q_ite2, q_tup, q_tup1, q_lst, q_lst1, q_dsp, q_dsp1, q_dsp2, q_idx, q_ix1, q_ix2, q_slice, q_sl1, q_sl2, q_sl3, q_slP00, q_slP10, q_slP01, q_slP11, q_slCt, q_slCl, q_rev, q_rev1, q_revD, q_revCl, q_revCt, q_call, q_call1, q_blt, q_blt1, q_isi, q_isi1, q_mth, q_m1, q_m2, q_m3, q_nil, q_cons, q_c1, q_c2, q_sSeq, q_sSeq1, q_sEnum, q_sEnum1, q_sR, q_sR1, q_sR2, q_sZ, q_sZ1, q_sZ2, q_seq, q_seqn, q_seqr, q_seqb, q_seqc, q_skip, q_brk, q_cont, q_asg, q_asg1, q_asg2, q_at_nm, q_at_tp, q_at_nil, q_at_cons, q_at1, q_box, q_box1, q_box2, q_bxl, q_bxd, q_bxf, q_par, q_par1, q_par2, q_bs0, q_bs, q_bs1, q_seti, q_st1, q_st2, q_st3, q_st4, q_putD, q_putL, q_putL1, q_putK, q_putKs, q_putK1, q_expr, q_ex1, q_ret, q_ret1, q_if, q_if1, q_if2, q_rd_non, q_rd_bl, q_rd_int, q_rd_str, q_rd_tup, q_rd_lst, q_rd_dct, q_rd_ref, q_rdOl, q_rdOd, q_seqOf, q_seqCt, q_seqCl, q_lstOf, q_lstCl, q_dctOf, q_dctCd, q_dctCt, q_dctCl, q_dctCs, q_truD, q_truCb, q_truCi, q_truCn, q_truCt, q_truCl, q_truCd, q_isiD, q_isiCn, q_isiCb, q_isiCi, q_isiCs, q_isiCt, q_isiCl, q_binD, b_add, b_sub, b_mul, b_div, b_mod, b_shl, b_pow, b_shr, b_and, b_or, b_xor, b_adds, b_addt, b_addl, b_mult, b_mull, q_nb, q_eq, q_ne, q_in, q_nin, q_lt, q_le, q_gt, q_ge, q_isb, q_isn, q_isi', q_ist, q_isl, q_iss, q_isbn, q_isr, q_isd, q_inb, q_inn, q_ini, q_int, q_inl, q_ins, q_inr, q_ind, q_eqii, q_eqss, q_eqbb, q_eqsi, q_eqtt, q_eqll, q_eqtn, q_eqnt, q_eqnn, q_ixD, q_ixC, q_ixK, q_ixKs, q_seqCd, q_lent, q_lenl, q_lend, q_lenr, q_lenCl, q_lenCd, q_abs, q_bint, q_bintb, q_bmin, q_bmax, q_btuple, q_bt1, q_blistt, q_blistl, q_blists, q_blistr, q_bll1, q_sset, q_sset1, q_lrange, q_trange, q_app, q_app1, flatD, eqv_str, eqv_int, eqv_bl, eqv_non, eqv_si, eqv_is, eqv_tup, eqv_lst, eqv_tn, eqv_nt, eqvs_nil, eqvs_cons, eqvs_nc, eqvs_cn, okN_non, okN_bl, okN_int, okN_str, okN_t64, okN_l64, okN_t63, okN_l63, okN_t62, okN_l62, okNs_nil, okNs_cons, eqS, setAll, inD, keyOf]
    by_cases w3 : way = 3
    · subst w3
      refine ⟨_, c3, k4, ?_⟩
      generalize l.map nD = xs at *
      simp -implicitDefEqProofs [q_pr, q_bl, q_var, q_cst, q_bin, q_bin1, q_bin2, q_cmp, q_cmp1, q_cmp2, q_ch, q_ch1, q_ch2, q_ch3, q_neg, q_neg1, q_not, q_not1, q_not2, q_and, q_and1, q_and2, q_or, q_or1, q_or2, q_ite, q_ite1, q_ite2, q_tup, q_tup1, q_lst, q_lst1, q_dsp, q_dsp1, q_dsp2, q_idx, q_ix1, q_ix2, q_slice, q_sl1, q_sl2, q_sl3, q_slP00, q_slP10, q_slP01, q_slP11, q_slCt, q_slCl, q_rev, q_rev1, q_revD, q_revCl, q_revCt, q_call, q_call1, q_blt, q_blt1, q_isi, q_isi1, q_mth, q_m1, q_m2, q_m3, q_nil, q_cons, q_c1, q_c2, q_sSeq, q_sSeq1, q_sEnum, q_sEnum1, q_sR, q_sR1, q_sR2, q_sZ, q_sZ1, q_sZ2, q_seq, q_seqn, q_seqr, q_seqb, q_seqc, q_skip, q_brk, q_cont, q_asg, q_asg1, q_asg2, q_at_nm, q_at_tp, q_at_nil, q_at_cons, q_at1, q_box, q_box1, q_box2, q_bxl, q_bxd, q_bxf, q_par, q_par1, q_par2, q_bs0, q_bs, q_bs1, q_seti, q_st1, q_st2, q_st3, q_st4, q_putD, q_putL, q_putL1, q_putK, q_putKs, q_putK1, q_expr, q_ex1, q_ret, q_ret1, q_if, q_if1, q_if2, q_rd_non, q_rd_bl, q_rd_int, q_rd_str, q_rd_tup, q_rd_lst, q_rd_dct, q_rd_ref, q_rdOl, q_rdOd, q_seqOf, q_seqCt, q_seqCl, q_lstOf, q_lstCl, q_dctOf, q_dctCd, q_dctCt, q_dctCl, q_dctCs, q_truD, q_truCb, q_truCi, q_truCn, q_truCt, q_truCl, q_truCd, q_isiD, q_isiCn, q_isiCb, q_isiCi, q_isiCs, q_isiCt, q_isiCl, q_binD, b_add, b_sub, b_mul, b_div, b_mod, b_shl, b_pow, b_shr, b_and, b_or, b_xor, b_adds, b_addt, b_addl, b_mult, b_mull, q_nb, q_eq, q_ne, q_in, q_nin, q_lt, q_le, q_gt, q_ge, q_isb, q_isn, q_isi', q_ist, q_isl, q_iss, q_isbn, q_isr, q_isd, q_inb, q_inn, q_ini, q_int, q_inl, q_ins, q_inr, q_ind, q_eqii, q_eqss, q_eqbb, q_eqsi, q_eqtt, q_eqll, q_eqtn, q_eqnt, q_eqnn, q_ixD, q_ixC, q_ixK, q_ixKs, q_seqCd, q_lent, q_lenl, q_lend, q_lenr, q_lenCl, q_lenCd, q_abs, q_bint, q_bintb, q_bmin, q_bmax, q_btuple, q_bt1, q_blistt, q_blistl, q_blists, q_blistr, q_bll1, q_sset, q_sset1, q_lrange, q_trange, q_app, q_app1, flatD, eqv_str, eqv_int, eqv_bl, eqv_non, eqv_si, eqv_is, eqv_tup, eqv_lst, eqv_tn, eqv_nt, eqvs_nil, eqvs_cons, eqvs_nc, eqvs_cn, okN_non, okN_bl, okN_int, okN_str, okN_t64, okN_l64, okN_t63, okN_l63, okN_t62, okN_l62, okNs_nil, okNs_cons, eqS, setAll, inD, keyOf]
    refine ⟨_, c4, k3, ?_⟩
    have i0 : ¬ (way : Int) = 0 := by omega
    have i1 : ¬ (way : Int) = 1 := by omega
    have i2 : ¬ (way : Int) = 2 := by omega
    have i3 : ¬ (way : Int) = 3 := by omega
    have l5 : f1.length + 1 ≤ line := l3
    have l6 : f1.length + 1 + f2.length ≤ line := by simpa using l4
    have l7 : f1.length + (f2.length + 1) ≤ line := by omega
    generalize l.map nD = xs at *
    simp -implicitDefEqProofs [q_pr, q_bl, q_var, q_cst, q_bin, q_bin1, q_bin2, q_cmp, q_cmp1, q_cmp2, q_ch, q_ch1, q_ch2, q_ch3, q_neg, q_neg1, q_not, q_not1, q_not2, q_and, q_and1, q_and2, q_or, q_or1, q_or2, q_ite, q_ite1, q_ite2, q_tup, q_tup1, q_lst, q_lst1, q_dsp, q_dsp1, q_dsp2, q_idx, q_ix1, q_ix2, q_slice, q_sl1, q_sl2, q_sl3, q_slP00, q_slP10, q_slP01, q_slP11, q_slCt, q_slCl, q_rev, q_rev1, q_revD, q_revCl, q_revCt, q_call, q_call1, q_blt, q_blt1, q_isi, q_isi1, q_mth, q_m1, q_m2, q_m3, q_nil, q_cons, q_c1, q_c2, q_sSeq, q_sSeq1, q_sEnum, q_sEnum1, q_sR, q_sR1, q_sR2, q_sZ, q_sZ1, q_sZ2, q_seq, q_seqn, q_seqr, q_seqb, q_seqc, q_skip, q_brk, q_cont, q_asg, q_asg1, q_asg2, q_at_nm, q_at_tp, q_at_nil, q_at_cons, q_at1, q_box, q_box1, q_box2, q_bxl, q_bxd, q_bxf, q_par, q_par1, q_par2, q_bs0, q_bs, q_bs1, q_seti, q_st1, q_st2, q_st3, q_st4, q_putD, q_putL, q_putL1, q_putK, q_putKs, q_putK1, q_expr, q_ex1, q_ret, q_ret1, q_if, q_if1, q_if2, q_rd_non, q_rd_bl, q_rd_int, q_rd_str, q_rd_tup, q_rd_lst, q_rd_dct, q_rd_ref, q_rdOl, q_rdOd, q_seqOf, q_seqCt, q_seqCl, q_lstOf, q_lstCl, q_dctOf, q_dctCd, q_dctCt, q_dctCl, q_dctCs, q_truD, q_truCb, q_truCi, q_truCn, q_truCt, q_truCl, q_truCd, q_isiD, q_isiCn, q_isiCb, q_isiCi, q_isiCs, q_isiCt, q_isiCl, q_binD, b_add, b_sub, b_mul, b_div, b_mod, b_shl, b_pow, b_shr, b_and, b_or, b_xor, b_adds, b_addt, b_addl, b_mult, b_mull, q_nb, q_eq, q_ne, q_in, q_nin, q_lt, q_le, q_gt, q_ge, q_isb, q_isn, q_isi', q_ist, q_isl, q_iss, q_isbn, q_isr, q_isd, q_inb, q_inn, q_ini, q_int, q_inl, q_ins, q_inr, q_ind, q_eqii, q_eqss, q_eqbb, q_eqsi, q_eqtt, q_eqll, q_eqtn, q_eqnt, q_eqnn, q_ixD, q_ixC, q_ixK, q_ixKs, q_seqCd, q_lent, q_lenl, q_lend, q_lenr, q_lenCl, q_lenCd, q_abs, q_bint, q_bintb, q_bmin, q_bmax, q_btuple, q_bt1, q_blistt, q_blistl, q_blists, q_blistr, q_bll1, q_sset, q_sset1, q_lrange, q_trange, q_app, q_app1, flatD, eqv_str, eqv_int, eqv_bl, eqv_non, eqv_si, eqv_is, eqv_tup, eqv_lst, eqv_tn, eqv_nt, eqvs_nil, eqvs_cons, eqvs_nc, eqvs_cn, okN_non, okN_bl, okN_int, okN_str, okN_t64, okN_l64, okN_t63, okN_l63, okN_t62, okN_l62, okNs_nil, okNs_cons, eqS, setAll, inD, keyOf, l5, l6, l7, i0, i1, i2, i3, w0, w1, w2, w3, a1, a3, hget, hb, l3, l4]
end K09
end Mi
namespace Mi
open PySem PySem.Spec PyProof.Rows L2

namespace K09
variable {k : Nat} {M rest : Mem} {P : List Ord}
/-! ### the places reached -/
theorem tc_lt (hP : POk P) {a b : Nat} (h : TC (nxt P) a b) : b < P.length := by
  induction h with
  | one e => exact nxt_lt hP _ _ e
  | more _ _ ih => exact ih
def reachL (P : List Ord) : List Nat := (List.range P.length).filter fun p => decide (p = 0) || ((web (nxt P) P.length P.length).getD 0 []).contains p
theorem web0 (hP : POk P) : ∃ l, (web (nxt P) P.length P.length)[0]? = some l ∧ (web (nxt P) P.length P.length).getD 0 [] = l ∧ ∀ q, q ∈ l ↔ TC (nxt P) 0 q := by
  obtain ⟨l, h1, h2⟩ := web_tc (N := nxt P) (n := P.length) (nxt_lt hP) (i := 0) hP.ne
  exact ⟨l, h1, by rw [List.getD_eq_getElem?_getD, h1]; rfl, h2⟩
theorem reachL_mem (hP : POk P) {x : Nat} : x ∈ reachL P ↔ x = 0 ∨ TC (nxt P) 0 x := by
  obtain ⟨l, h1, h2, h3⟩ := web0 hP
  unfold reachL
  rw [h2, List.mem_filter, List.mem_range, Bool.or_eq_true, decide_eq_true_eq, List.contains_iff_mem, h3]
  constructor
  · exact fun h => h.2
  · intro h
    refine ⟨?_, h⟩
    rcases h with rfl | h
    · exact hP.ne
    · exact tc_lt hP h
theorem reached (hM : OkM M) (hP : POk P) : callD fs (k + 8) 33 [pD P] M = some (.tup ((reachL P).map nD), M) := by
  obtain ⟨S, s1, s2, s3⟩ := met_from (k := k + 6) hM hP
  have e : S = reachL P := sorted_eq_nat s1 (range_sorted _ _) fun p => by rw [s2, reachL_mem hP]
  rw [e] at s3
  refine call_pure (f := f33) hM (tupN_pure _) rfl rfl ?_
  show exec (callD fs (k + 7)) b33 [some (pD P)] M = _
  unfold b33
  have h1 := need_program (k := k) hM hP
  have h2 := all_next (k := k + 4) hM hP.le
  generalize pD P = x at *
  generalize nsD P = y at *
  simp -implicitDefEqProofs [q_pr, q_bl, q_var, q_cst, q_bin, q_bin1, q_bin2, q_cmp, q_cmp1, q_cmp2, q_ch, q_ch1, q_ch2, q_ch3, q_neg, q_neg1, q_not, q_not1, q_not2, q_and, q_and1, q_and2, q_or, q_or1, q_or2, q_ite, q_ite1, q_ite2, q_tup, q_tup1, q_lst, q_lst1, q_dsp, q_dsp1, q_dsp2, q_idx, q_ix1, q_ix2, q_slice, q_sl1, q_sl2, q_sl3, q_slP00, q_slP10, q_slP01, q_slP11, q_slCt, q_slCl, q_rev, q_rev1, q_revD, q_revCl, q_revCt, q_call, q_call1, q_blt, q_blt1, q_isi, q_isi1, q_mth, q_m1, q_m2, q_m3, q_nil, q_cons, q_c1, q_c2, q_sSeq, q_sSeq1, q_sEnum, q_sEnum1, q_sR, q_sR1, q_sR2, q_sZ, q_sZ1, q_sZ2, q_seq, q_seqn, q_seqr, q_seqb, q_seqc, q_skip, q_brk, q_cont, q_asg, q_asg1, q_asg2, q_at_nm, q_at_tp, q_at_nil, q_at_cons, q_at1, q_box, q_box1, q_box2, q_bxl, q_bxd, q_bxf, q_par, q_par1, q_par2, q_bs0, q_bs, q_bs1, q_seti, q_st1, q_st2, q_st3, q_st4, q_putD, q_putL, q_putL1, q_putK, q_putKs, q_putK1, q_expr, q_ex1, q_ret, q_ret1, q_if, q_if1, q_if2, q_rd_non, q_rd_bl, q_rd_int, q_rd_str, q_rd_tup, q_rd_lst, q_rd_dct, q_rd_ref, q_rdOl, q_rdOd, q_seqOf, q_seqCt, q_seqCl, q_lstOf, q_lstCl, q_dctOf, q_dctCd, q_dctCt, q_dctCl, q_dctCs, q_truD, q_truCb, q_truCi, q_truCn, q_truCt, q_truCl, q_truCd, q_isiD, q_isiCn, q_isiCb, q_isiCi, q_isiCs, q_isiCt, q_isiCl, q_binD, b_add, b_sub, b_mul, b_div, b_mod, b_shl, b_pow, b_shr, b_and, b_or, b_xor, b_adds, b_addt, b_addl, b_mult, b_mull, q_nb, q_eq, q_ne, q_in, q_nin, q_lt, q_le, q_gt, q_ge, q_isb, q_isn, q_isi', q_ist, q_isl, q_iss, q_isbn, q_isr, q_isd, q_inb, q_inn, q_ini, q_int, q_inl, q_ins, q_inr, q_ind, q_eqii, q_eqss, q_eqbb, q_eqsi, q_eqtt, q_eqll, q_eqtn, q_eqnt, q_eqnn, q_ixD, q_ixC, q_ixK, q_ixKs, q_seqCd, q_lent, q_lenl, q_lend, q_lenr, q_lenCl, q_lenCd, q_abs, q_bint, q_bintb, q_bmin, q_bmax, q_btuple, q_bt1, q_blistt, q_blistl, q_blists, q_blistr, q_bll1, q_sset, q_sset1, q_lrange, q_trange, q_app, q_app1, flatD, eqv_str, eqv_int, eqv_bl, eqv_non, eqv_si, eqv_is, eqv_tup, eqv_lst, eqv_tn, eqv_nt, eqvs_nil, eqvs_cons, eqvs_nc, eqvs_cn, okN_non, okN_bl, okN_int, okN_str, okN_t64, okN_l64, okN_t63, okN_l63, okN_t62, okN_l62, okNs_nil, okNs_cons, eqS, setAll, inD, keyOf, h1, h2, s3]
theorem is_program (hM : OkM M) (hP : POk P) : callD fs (k + 7) 37 [pD P] M = some (.bl true, M) := by
  refine call_pure (f := f37) hM rfl rfl rfl ?_
  show exec (callD fs (k + 6)) b37 [some (pD P)] M = _
  unfold b37
  have h1 := fits_program (k := k) hM hP
  generalize pD P = x at *
  simp -implicitDefEqProofs [q_pr, q_bl, q_var, q_cst, q_bin, q_bin1, q_bin2, q_cmp, q_cmp1, q_cmp2, q_ch, q_ch1, q_ch2, q_ch3, q_neg, q_neg1, q_not, q_not1, q_not2, q_and, q_and1, q_and2, q_or, q_or1, q_or2, q_ite, q_ite1, q_ite2, q_tup, q_tup1, q_lst, q_lst1, q_dsp, q_dsp1, q_dsp2, q_idx, q_ix1, q_ix2, q_slice, q_sl1, q_sl2, q_sl3, q_slP00, q_slP10, q_slP01, q_slP11, q_slCt, q_slCl, q_rev, q_rev1, q_revD, q_revCl, q_revCt, q_call, q_call1, q_blt, q_blt1, q_isi, q_isi1, q_mth, q_m1, q_m2, q_m3, q_nil, q_cons, q_c1, q_c2, q_sSeq, q_sSeq1, q_sEnum, q_sEnum1, q_sR, q_sR1, q_sR2, q_sZ, q_sZ1, q_sZ2, q_seq, q_seqn, q_seqr, q_seqb, q_seqc, q_skip, q_brk, q_cont, q_asg, q_asg1, q_asg2, q_at_nm, q_at_tp, q_at_nil, q_at_cons, q_at1, q_box, q_box1, q_box2, q_bxl, q_bxd, q_bxf, q_par, q_par1, q_par2, q_bs0, q_bs, q_bs1, q_seti, q_st1, q_st2, q_st3, q_st4, q_putD, q_putL, q_putL1, q_putK, q_putKs, q_putK1, q_expr, q_ex1, q_ret, q_ret1, q_if, q_if1, q_if2, q_rd_non, q_rd_bl, q_rd_int, q_rd_str, q_rd_tup, q_rd_lst, q_rd_dct, q_rd_ref, q_rdOl, q_rdOd, q_seqOf, q_seqCt, q_seqCl, q_lstOf, q_lstCl, q_dctOf, q_dctCd, q_dctCt, q_dctCl, q_dctCs, q_truD, q_truCb, q_truCi, q_truCn, q_truCt, q_truCl, q_truCd, q_isiD, q_isiCn, q_isiCb, q_isiCi, q_isiCs, q_isiCt, q_isiCl, q_binD, b_add, b_sub, b_mul, b_div, b_mod, b_shl, b_pow, b_shr, b_and, b_or, b_xor, b_adds, b_addt, b_addl, b_mult, b_mull, q_nb, q_eq, q_ne, q_in, q_nin, q_lt, q_le, q_gt, q_ge, q_isb, q_isn, q_isi', q_ist, q_isl, q_iss, q_isbn, q_isr, q_isd, q_inb, q_inn, q_ini, q_int, q_inl, q_ins, q_inr, q_ind, q_eqii, q_eqss, q_eqbb, q_eqsi, q_eqtt, q_eqll, q_eqtn, q_eqnt, q_eqnn, q_ixD, q_ixC, q_ixK, q_ixKs, q_seqCd, q_lent, q_lenl, q_lend, q_lenr, q_lenCl, q_lenCd, q_abs, q_bint, q_bintb, q_bmin, q_bmax, q_btuple, q_bt1, q_blistt, q_blistl, q_blists, q_blistr, q_bll1, q_sset, q_sset1, q_lrange, q_trange, q_app, q_app1, flatD, eqv_str, eqv_int, eqv_bl, eqv_non, eqv_si, eqv_is, eqv_tup, eqv_lst, eqv_tn, eqv_nt, eqvs_nil, eqvs_cons, eqvs_nc, eqvs_cn, okN_non, okN_bl, okN_int, okN_str, okN_t64, okN_l64, okN_t63, okN_l63, okN_t62, okN_l62, okNs_nil, okNs_cons, eqS, setAll, inD, keyOf, h1]
theorem nxt_stop {p : Nat} {o : Ord} (h : P[p]? = some o) : (nxt P p).isEmpty = o.stop := by
  unfold nxt
  rw [h]
  cases o with
  | cond l r s t =>
    show (if p + 1 = t then [t] else if p + 1 < t then [p + 1, t] else [t, p + 1]).isEmpty = false
    split
    · rfl
    · split <;> rfl
  | _ => rfl
/-! ### the ways -/
theorem ways (hP : POk P) {a b : Nat} {d f : D} (h1 : WayD P a b d) (h2 : FewD P a b f) : (d = .non ∧ f = .non) ∨ ∃ (L : List Nat) (s : Nat), d = .tup (L.map nD) ∧ f = nD s ∧ L.length = s + 1 ∧ L.length ≤ P.length ∧ L[0]? = some a ∧ L[L.length - 1]? = some b ∧ isW P (.tup (L.map nD)) = true := by
  rcases h1 with ⟨rfl, n1⟩ | ⟨xs, dist, rfl, e1, e2, e3, e4, e5, e6, e7, e8⟩
  · rcases h2 with ⟨rfl, _⟩ | ⟨s, _, h, _⟩
    · exact .inl ⟨rfl, rfl⟩
    · exact absurd h (n1 s)
  · rcases h2 with ⟨_, n2⟩ | ⟨s, rfl, f1, f2⟩
    · exact absurd e7 (n2 dist (by omega))
    · have es : s = dist := by
        rcases Nat.lt_trichotomy s dist with h | h | h
        · exact absurd f1 (e8 s h)
        · exact h
        · exact absurd e7 (f2 dist h)
      subst es
      have lr : xs.reverse.length = xs.length := List.length_reverse
      refine .inr ⟨xs.reverse, s, rfl, rfl, by rw [lr, e1], by rw [lr]; exact e2, ?_, ?_, ?_⟩
      · rw [List.getElem?_reverse (by omega)]
        exact e4
      · rw [lr, List.getElem?_reverse (by omega), show xs.length - 1 - (xs.length - 1) = 0 by omega]
        exact e3
      · show (!(xs.reverse.map nD).isEmpty && ((xs.reverse.map nD).all (inP P) && ((xs.reverse.map nD).zip ((xs.reverse.map nD).drop 1)).all fun p => adjD P p.1 p.2)) = true
        have g1 : (xs.reverse.map nD).isEmpty = false := by
          rw [List.isEmpty_eq_false_iff]
          intro h
          have := congrArg List.length h
          simp at this
          subst this
          cases e1
        have g2 : (xs.reverse.map nD).all (inP P) = true := by
          rw [List.all_eq_true]
          intro x hx
          obtain ⟨j, hj, rfl⟩ := List.mem_map.mp hx
          have := e5 j (List.mem_reverse.mp hj)
          show (decide (0 ≤ (j : Int)) && decide ((j : Int) ≤ (P.length : Int) - 1)) = true
          rw [decide_eq_true (by omega), decide_eq_true (by omega)]
          rfl
        have g3 : (((xs.reverse.map nD).zip ((xs.reverse.map nD).drop 1)).all fun p => adjD P p.1 p.2) = true := by
          rw [List.all_eq_true]
          rintro ⟨u, v⟩ hx
          obtain ⟨i, hi⟩ := List.getElem?_of_mem hx
          rw [List.getElem?_zip_eq_some] at hi
          obtain ⟨hu, hv⟩ := hi
          rw [List.getElem?_drop, List.getElem?_map] at hv
          rw [List.getElem?_map] at hu
          obtain ⟨u', hu', rfl⟩ := Option.map_eq_some_iff.mp hu
          obtain ⟨v', hv', rfl⟩ := Option.map_eq_some_iff.mp hv
          have hb : 1 + i < xs.length := by
            have := (List.getElem?_eq_some_iff.mp hv').1
            rw [lr] at this
            exact this
          rw [List.getElem?_reverse (by omega)] at hu' hv'
          have := e6 (xs.length - 1 - (1 + i)) v' u' hv' (by rw [show xs.length - 1 - (1 + i) + 1 = xs.length - 1 - i by omega]; exact hu')
          show (nxt P ((u' : Nat) : Int).toNat).contains ((v' : Nat) : Int).toNat = true
          rw [Int.toNat_natCast, Int.toNat_natCast, List.contains_iff_mem]
          exact this
        rw [g1, g2, g3]
        rfl
end K09
end Mi
namespace Mi
open PySem PySem.Spec PyProof.Rows L2

namespace K09
variable {k : Nat} {M rest : Mem} {P : List Ord}
theorem lks_of {n : Nat} : ∀ {xs : List D}, (∀ x ∈ xs, x.lk n = true) → D.lks n xs = true
  | [], _ => lks_nil
  | x :: xs, h => by
    rw [lks_cons, h x List.mem_cons_self, lks_of fun y hy => h y (List.mem_cons_of_mem _ hy)]
    rfl
theorem cut_mem {α : Type} {xs : List α} {lo hi : Option Int} {x : α} (h : x ∈ cutD xs lo hi) : x ∈ xs := List.mem_of_mem_drop (List.mem_of_mem_take h)
theorem cut_len {α : Type} {xs : List α} {lo hi : Option Int} : (cutD xs lo hi).length ≤ xs.length := by
  unfold cutD
  rw [List.length_take, List.length_drop]
  omega
abbrev rgL (P : List Ord) : D := nL (List.range P.length)
/-- no odd value on which the two answers differ -/
theorem odd_ok (hM : OkM M) (hP : POk P) {xs : List D} (hx : ∀ x ∈ xs, x.lk 11 = true) (hl : xs.length ≤ 1000) {z0 z2 z3 z4 z5 z6 z7 z8 z9 z10 z12 z13 : Option D} :
    exec (callD fs (k + 9)) (.iff (.cmp .NotEq (.comp (.var 13) (.nm 13) (.sSeq (.var 11)) (.not (.call 43 (.cons (.call 35 (.cons (.var 1) (.cons (.var 13) .nil))) (.cons (.call 49 (.cons (.var 1) (.cons (.var 13) .nil))) .nil)))) [13]) (.lst .nil)) (.seq (.ret (.cst (.bl false))) .skip) .skip) [z0, some (pD P), z2, z3, z4, z5, z6, z7, z8, z9, z10, some (.lst xs), z12, z13] M = some (.nx [z0, some (pD P), z2, z3, z4, z5, z6, z7, z8, z9, z10, some (.lst xs), z12, z13] M) := by
  have hc : ev (callD fs (k + 9)) (.comp (.var 13) (.nm 13) (.sSeq (.var 11)) (.not (.call 43 (.cons (.call 35 (.cons (.var 1) (.cons (.var 13) .nil))) (.cons (.call 49 (.cons (.var 1) (.cons (.var 13) .nil))) .nil)))) [13]) [z0, some (pD P), z2, z3, z4, z5, z6, z7, z8, z9, z10, some (.lst xs), z12, z13] M = some (.lst [], M) := by
    rw [comp_pure xs (fun _ => false) (fun x => x) (s := .seq (.lst xs)) rfl (walk_seq rfl) (by unfold line; omega) fun x h => ⟨[z0, some (pD P), z2, z3, z4, z5, z6, z7, z8, z9, z10, some (.lst xs), z12, some x], .bl false, rfl, ?_, rfl, fun z => Bool.noConfusion z⟩]
    · rw [List.filter_eq_nil_iff.mpr (by simp)]
      rfl
    · have h1 := is_way (k := k + 1) hM hP (hx x h)
      have h2 := law_is_way (k := k + 6) hM hP (hx x h)
      have h3 := like (k := k + 2) (d := .bl (isW P x)) hM rfl
      generalize pD P = y at *
      generalize isW P x = t at *
      simp -implicitDefEqProofs [q_pr, q_bl, q_var, q_cst, q_bin, q_bin1, q_bin2, q_cmp, q_cmp1, q_cmp2, q_ch, q_ch1, q_ch2, q_ch3, q_neg, q_neg1, q_not, q_not1, q_not2, q_and, q_and1, q_and2, q_or, q_or1, q_or2, q_ite, q_ite1, q_ite2, q_tup, q_tup1, q_lst, q_lst1, q_dsp, q_dsp1, q_dsp2, q_idx, q_ix1, q_ix2, q_slice, q_sl1, q_sl2, q_sl3, q_slP00, q_slP10, q_slP01, q_slP11, q_slCt, q_slCl, q_rev, q_rev1, q_revD, q_revCl, q_revCt, q_call, q_call1, q_blt, q_blt1, q_isi, q_isi1, q_mth, q_m1, q_m2, q_m3, q_nil, q_cons, q_c1, q_c2, q_sSeq, q_sSeq1, q_sEnum, q_sEnum1, q_sR, q_sR1, q_sR2, q_sZ, q_sZ1, q_sZ2, q_seq, q_seqn, q_seqr, q_seqb, q_seqc, q_skip, q_brk, q_cont, q_asg, q_asg1, q_asg2, q_at_nm, q_at_tp, q_at_nil, q_at_cons, q_at1, q_box, q_box1, q_box2, q_bxl, q_bxd, q_bxf, q_par, q_par1, q_par2, q_bs0, q_bs, q_bs1, q_seti, q_st1, q_st2, q_st3, q_st4, q_putD, q_putL, q_putL1, q_putK, q_putKs, q_putK1, q_expr, q_ex1, q_ret, q_ret1, q_if, q_if1, q_if2, q_rd_non, q_rd_bl, q_rd_int, q_rd_str, q_rd_tup, q_rd_lst, q_rd_dct, q_rd_ref, q_rdOl, q_rdOd, q_seqOf, q_seqCt, q_seqCl, q_lstOf, q_lstCl, q_dctOf, q_dctCd, q_dctCt, q_dctCl, q_dctCs, q_truD, q_truCb, q_truCi, q_truCn, q_truCt, q_truCl, q_truCd, q_isiD, q_isiCn, q_isiCb, q_isiCi, q_isiCs, q_isiCt, q_isiCl, q_binD, b_add, b_sub, b_mul, b_div, b_mod, b_shl, b_pow, b_shr, b_and, b_or, b_xor, b_adds, b_addt, b_addl, b_mult, b_mull, q_nb, q_eq, q_ne, q_in, q_nin, q_lt, q_le, q_gt, q_ge, q_isb, q_isn, q_isi', q_ist, q_isl, q_iss, q_isbn, q_isr, q_isd, q_inb, q_inn, q_ini, q_int, q_inl, q_ins, q_inr, q_ind, q_eqii, q_eqss, q_eqbb, q_eqsi, q_eqtt, q_eqll, q_eqtn, q_eqnt, q_eqnn, q_ixD, q_ixC, q_ixK, q_ixKs, q_seqCd, q_lent, q_lenl, q_lend, q_lenr, q_lenCl, q_lenCd, q_abs, q_bint, q_bintb, q_bmin, q_bmax, q_btuple, q_bt1, q_blistt, q_blistl, q_blists, q_blistr, q_bll1, q_sset, q_sset1, q_lrange, q_trange, q_app, q_app1, flatD, eqv_str, eqv_int, eqv_bl, eqv_non, eqv_si, eqv_is, eqv_tup, eqv_lst, eqv_tn, eqv_nt, eqvs_nil, eqvs_cons, eqvs_nc, eqvs_cn, okN_non, okN_bl, okN_int, okN_str, okN_t64, okN_l64, okN_t63, okN_l63, okN_t62, okN_l62, okNs_nil, okNs_cons, eqS, setAll, inD, keyOf, h1, h2, h3]
  have he : eqC (.lst []) (.lst []) = some true := eq_lnil (xs := []) rfl
  generalize pD P = y at *
  rw [q_if, q_cmp, hc]
  simp -implicitDefEqProofs [q_pr, q_bl, q_var, q_cst, q_bin, q_bin1, q_bin2, q_cmp, q_cmp1, q_cmp2, q_ch, q_ch1, q_ch2, q_ch3, q_neg, q_neg1, q_not, q_not1, q_not2, q_and, q_and1, q_and2, q_or, q_or1, q_or2, q_ite, q_ite1, q_ite2, q_tup, q_tup1, q_lst, q_lst1, q_dsp, q_dsp1, q_dsp2, q_idx, q_ix1, q_ix2, q_slice, q_sl1, q_sl2, q_sl3, q_slP00, q_slP10, q_slP01, q_slP11, q_slCt, q_slCl, q_rev, q_rev1, q_revD, q_revCl, q_revCt, q_call, q_call1, q_blt, q_blt1, q_isi, q_isi1, q_mth, q_m1, q_m2, q_m3, q_nil, q_cons, q_c1, q_c2, q_sSeq, q_sSeq1, q_sEnum, q_sEnum1, q_sR, q_sR1, q_sR2, q_sZ, q_sZ1, q_sZ2, q_seq, q_seqn, q_seqr, q_seqb, q_seqc, q_skip, q_brk, q_cont, q_asg, q_asg1, q_asg2, q_at_nm, q_at_tp, q_at_nil, q_at_cons, q_at1, q_box, q_box1, q_box2, q_bxl, q_bxd, q_bxf, q_par, q_par1, q_par2, q_bs0, q_bs, q_bs1, q_seti, q_st1, q_st2, q_st3, q_st4, q_putD, q_putL, q_putL1, q_putK, q_putKs, q_putK1, q_expr, q_ex1, q_ret, q_ret1, q_if, q_if1, q_if2, q_rd_non, q_rd_bl, q_rd_int, q_rd_str, q_rd_tup, q_rd_lst, q_rd_dct, q_rd_ref, q_rdOl, q_rdOd, q_seqOf, q_seqCt, q_seqCl, q_lstOf, q_lstCl, q_dctOf, q_dctCd, q_dctCt, q_dctCl, q_dctCs, q_truD, q_truCb, q_truCi, q_truCn, q_truCt, q_truCl, q_truCd, q_isiD, q_isiCn, q_isiCb, q_isiCi, q_isiCs, q_isiCt, q_isiCl, q_binD, b_add, b_sub, b_mul, b_div, b_mod, b_shl, b_pow, b_shr, b_and, b_or, b_xor, b_adds, b_addt, b_addl, b_mult, b_mull, q_nb, q_eq, q_ne, q_in, q_nin, q_lt, q_le, q_gt, q_ge, q_isb, q_isn, q_isi', q_ist, q_isl, q_iss, q_isbn, q_isr, q_isd, q_inb, q_inn, q_ini, q_int, q_inl, q_ins, q_inr, q_ind, q_eqii, q_eqss, q_eqbb, q_eqsi, q_eqtt, q_eqll, q_eqtn, q_eqnt, q_eqnn, q_ixD, q_ixC, q_ixK, q_ixKs, q_seqCd, q_lent, q_lenl, q_lend, q_lenr, q_lenCl, q_lenCd, q_abs, q_bint, q_bintb, q_bmin, q_bmax, q_btuple, q_bt1, q_blistt, q_blistl, q_blists, q_blistr, q_bll1, q_sset, q_sset1, q_lrange, q_trange, q_app, q_app1, flatD, eqv_str, eqv_int, eqv_bl, eqv_non, eqv_si, eqv_is, eqv_tup, eqv_lst, eqv_tn, eqv_nt, eqvs_nil, eqvs_cons, eqvs_nc, eqvs_cn, okN_non, okN_bl, okN_int, okN_str, okN_t64, okN_l64, okN_t63, okN_l63, okN_t62, okN_l62, okNs_nil, okNs_cons, eqS, setAll, inD, keyOf, he]
theorem turn_end (c : Cup) (hM : OkM (cM c rest)) (hP : POk P) {L : List Nat} (h0 : 0 < L.length) (h1 : L.length ≤ 100) {a : Nat} {z2 z4 z5 z6 z8 z9 z11 z12 z13 : Option D} :
    ∃ (c' : Cup) (z11' : Option D), exec (callD fs (k + 9)) (.seq (.asg (.nm 11) (.lst (.cons (.var 10) (.cons (.rev (.var 10)) (.cons (.blt .list (.cons (.var 10) .nil)) (.cons (.bin .Add (.var 10) (.slice (.var 10) (.cons (.neg (.cst (.int 1))) .nil) .nil)) (.cons (.slice (.var 10) (.cons (.cst (.int 1)) .nil) .nil) (.cons (.bin .Add (.var 10) (.tup (.cons (.blt .len (.cons (.var 1) .nil)) .nil))) (.cons (.tup .nil) (.cons (.tup (.cons (.var 7) .nil)) (.cons (.cst .non) (.cons (.cst (.int 0)) .nil)))))))))))) (.seq (.asg (.nm 11) (.bin .Add (.var 11) (.lst (.cons (.tup (.cons (.cst (.bl true)) .nil)) (.cons (.tup (.cons (.neg (.cst (.int 1))) .nil)) (.cons (.call 45 (.cons (.var 0) (.cons (.var 10) .nil))) (.cons (.blt .tuple (.cons (.var 3) .nil)) .nil))))))) (.seq (.iff (.cmp .NotEq (.comp (.var 13) (.nm 13) (.sSeq (.var 11)) (.not (.call 43 (.cons (.call 35 (.cons (.var 1) (.cons (.var 13) .nil))) (.cons (.call 49 (.cons (.var 1) (.cons (.var 13) .nil))) .nil)))) [13]) (.lst .nil)) (.seq (.ret (.cst (.bl false))) .skip) .skip) .skip))) [some (.ref 0), some (pD P), z2, some (rgL P), z4, z5, z6, some (nD a), z8, z9, some (.tup (L.map nD)), z11, z12, z13] (cM c rest) = some (.nx [some (.ref 0), some (pD P), z2, some (rgL P), z4, z5, z6, some (nD a), z8, z9, some (.tup (L.map nD)), z11', z12, z13] (cM c' rest)) := by
  have h60 := hP.le
  obtain ⟨d, c', hd, hb⟩ := bent_tup (k := k + 5) c hM h0 h1
  have lx : (L.map nD).length = L.length := List.length_map _
  have cl : (cutD (L.map nD) (some (-1)) none).length ≤ (L.map nD).length := cut_len
  have l1 : (L.map nD).length + (cutD (L.map nD) (some (-1)) none).length ≤ line := by unfold line; omega
  have l2 : (L.map nD).length + 1 ≤ line := by unfold line; omega
  have cn : D.lks 10 (cutD (L.map nD) (some (-1)) none) = true := lks_of fun x hx => lks_all (lks_nats 10 L) x (cut_mem hx)
  have cd : D.lks 10 ((L.map nD).drop 1) = true := lks_of fun x hx => lks_all (lks_nats 10 L) x (List.mem_of_mem_drop hx)
  have c1 : cutD (L.map nD) (some 1) none = (L.map nD).drop 1 := cut_1 _
  let o5 : List D := [.tup (L.map nD), .tup (L.map nD).reverse, .lst (L.map nD), .tup (L.map nD ++ cutD (L.map nD) (some (-1)) none), .tup ((L.map nD).drop 1), .tup (L.map nD ++ [nD P.length]), .tup [], .tup [nD a], .non, .int 0]
  let o6 : List D := o5 ++ [.tup [.bl true], .tup [.int (-1)], d, .tup ((List.range P.length).map nD)]
  have hO : ∀ x ∈ o6, x.lk 11 = true := by
    refine lks_all ?_
    refine lks_app ?_ ?_
    · have k1 : (D.tup (L.map nD)).lk 11 = true := lk_nats (by omega)
      have k2 : (D.tup (L.map nD).reverse).lk 11 = true := by rw [← List.map_reverse]; exact lk_nats (by rw [List.length_reverse]; omega)
      have k3 : (D.lst (L.map nD)).lk 11 = true := lk_natl (l := L) (by omega)
      have k4 : (D.tup (L.map nD ++ cutD (L.map nD) (some (-1)) none)).lk 11 = true := lk_tup (by rw [List.length_append]; omega) (lks_app (lks_nats _ _) cn)
      have k5 : (D.tup ((L.map nD).drop 1)).lk 11 = true := lk_tup (by rw [List.length_drop]; omega) cd
      have k6 : (D.tup (L.map nD ++ [nD P.length])).lk 11 = true := lk_tup (by rw [List.length_append]; simp; omega) (lks_app (lks_nats _ _) (lks_nats 10 [P.length]))
      have k7 : (D.tup [nD a]).lk 11 = true := lk_nats (l := [a]) (by simp)
      show D.lks 11 [_, _, _, _, _, _, _, _, _, _] = true
      rw [lks_cons, lks_cons, lks_cons, lks_cons, lks_cons, lks_cons, lks_cons, lks_cons, k1, k2, k3, k4, k5, k6, k7]
      rfl
    · have k1 : (D.tup ((List.range P.length).map nD)).lk 11 = true := lk_nats (by rw [List.length_range]; omega)
      rw [lks_cons, lks_cons, lks_cons, lks_cons, hd, k1]
      rfl
  have s5 : exec (callD fs (k + 9)) (.asg (.nm 11) (.lst (.cons (.var 10) (.cons (.rev (.var 10)) (.cons (.blt .list (.cons (.var 10) .nil)) (.cons (.bin .Add (.var 10) (.slice (.var 10) (.cons (.neg (.cst (.int 1))) .nil) .nil)) (.cons (.slice (.var 10) (.cons (.cst (.int 1)) .nil) .nil) (.cons (.bin .Add (.var 10) (.tup (.cons (.blt .len (.cons (.var 1) .nil)) .nil))) (.cons (.tup .nil) (.cons (.tup (.cons (.var 7) .nil)) (.cons (.cst .non) (.cons (.cst (.int 0)) .nil)))))))))))) [some (.ref 0), some (pD P), z2, some (rgL P), z4, z5, z6, some (nD a), z8, z9, some (.tup (L.map nD)), z11, z12, z13] (cM c rest) = some (.nx [some (.ref 0), some (pD P), z2, some (rgL P), z4, z5, z6, some (nD a), z8, z9, some (.tup (L.map nD)), some (.lst o5), z12, z13] (cM c rest)) := by
    have ls : L.length + (cutD (L.map nD) (some (-1)) none).length ≤ line := by rw [← lx]; exact l1
    have l3 : L.length + 1 ≤ line := by rw [← lx]; exact l2
    simp -implicitDefEqProofs [q_pr, q_bl, q_var, q_cst, q_bin, q_bin1, q_bin2, q_cmp, q_cmp1, q_cmp2, q_ch, q_ch1, q_ch2, q_ch3, q_neg, q_neg1, q_not, q_not1, q_not2, q_and, q_and1, q_and2, q_or, q_or1, q_or2, q_ite, q_ite1, q_ite2, q_tup, q_tup1, q_lst, q_lst1, q_dsp, q_dsp1, q_dsp2, q_idx, q_ix1, q_ix2, q_slice, q_sl1, q_sl2, q_sl3, q_slP00, q_slP10, q_slP01, q_slP11, q_slCt, q_slCl, q_rev, q_rev1, q_revD, q_revCl, q_revCt, q_call, q_call1, q_blt, q_blt1, q_isi, q_isi1, q_mth, q_m1, q_m2, q_m3, q_nil, q_cons, q_c1, q_c2, q_sSeq, q_sSeq1, q_sEnum, q_sEnum1, q_sR, q_sR1, q_sR2, q_sZ, q_sZ1, q_sZ2, q_seq, q_seqn, q_seqr, q_seqb, q_seqc, q_skip, q_brk, q_cont, q_asg, q_asg1, q_asg2, q_at_nm, q_at_tp, q_at_nil, q_at_cons, q_at1, q_box, q_box1, q_box2, q_bxl, q_bxd, q_bxf, q_par, q_par1, q_par2, q_bs0, q_bs, q_bs1, q_seti, q_st1, q_st2, q_st3, q_st4, q_putD, q_putL, q_putL1, q_putK, q_putKs, q_putK1, q_expr, q_ex1, q_ret, q_ret1, q_if, q_if1, q_if2, q_rd_non, q_rd_bl, q_rd_int, q_rd_str, q_rd_tup, q_rd_lst, q_rd_dct, q_rd_ref, q_rdOl, q_rdOd, q_seqOf, q_seqCt, q_seqCl, q_lstOf, q_lstCl, q_dctOf, q_dctCd, q_dctCt, q_dctCl, q_dctCs, q_truD, q_truCb, q_truCi, q_truCn, q_truCt, q_truCl, q_truCd, q_isiD, q_isiCn, q_isiCb, q_isiCi, q_isiCs, q_isiCt, q_isiCl, q_binD, b_add, b_sub, b_mul, b_div, b_mod, b_shl, b_pow, b_shr, b_and, b_or, b_xor, b_adds, b_addt, b_addl, b_mult, b_mull, q_nb, q_eq, q_ne, q_in, q_nin, q_lt, q_le, q_gt, q_ge, q_isb, q_isn, q_isi', q_ist, q_isl, q_iss, q_isbn, q_isr, q_isd, q_inb, q_inn, q_ini, q_int, q_inl, q_ins, q_inr, q_ind, q_eqii, q_eqss, q_eqbb, q_eqsi, q_eqtt, q_eqll, q_eqtn, q_eqnt, q_eqnn, q_ixD, q_ixC, q_ixK, q_ixKs, q_seqCd, q_lent, q_lenl, q_lend, q_lenr, q_lenCl, q_lenCd, q_abs, q_bint, q_bintb, q_bmin, q_bmax, q_btuple, q_bt1, q_blistt, q_blistl, q_blists, q_blistr, q_bll1, q_sset, q_sset1, q_lrange, q_trange, q_app, q_app1, flatD, eqv_str, eqv_int, eqv_bl, eqv_non, eqv_si, eqv_is, eqv_tup, eqv_lst, eqv_tn, eqv_nt, eqvs_nil, eqvs_cons, eqvs_nc, eqvs_cn, okN_non, okN_bl, okN_int, okN_str, okN_t64, okN_l64, okN_t63, okN_l63, okN_t62, okN_l62, okNs_nil, okNs_cons, eqS, setAll, inD, keyOf, c1, ls, l3, o5]
  have s6 : exec (callD fs (k + 9)) (.asg (.nm 11) (.bin .Add (.var 11) (.lst (.cons (.tup (.cons (.cst (.bl true)) .nil)) (.cons (.tup (.cons (.neg (.cst (.int 1))) .nil)) (.cons (.call 45 (.cons (.var 0) (.cons (.var 10) .nil))) (.cons (.blt .tuple (.cons (.var 3) .nil)) .nil))))))) [some (.ref 0), some (pD P), z2, some (rgL P), z4, z5, z6, some (nD a), z8, z9, some (.tup (L.map nD)), some (.lst o5), z12, z13] (cM c rest) = some (.nx [some (.ref 0), some (pD P), z2, some (rgL P), z4, z5, z6, some (nD a), z8, z9, some (.tup (L.map nD)), some (.lst o6), z12, z13] (cM c' rest)) := by
    have hl : o5.length + 4 ≤ line := by show 10 + 4 ≤ line; unfold line; omega
    have h6 : o6 = o5 ++ [.tup [.bl true], .tup [.int (-1)], d, .tup ((List.range P.length).map nD)] := rfl
    rw [h6]
    generalize o5 = o at hl ⊢
    simp only [rgL, nL]
    generalize pD P = y
    generalize (List.range P.length).map nD = r
    generalize L.map nD = l at hb
    simp -implicitDefEqProofs [q_pr, q_bl, q_var, q_cst, q_bin, q_bin1, q_bin2, q_cmp, q_cmp1, q_cmp2, q_ch, q_ch1, q_ch2, q_ch3, q_neg, q_neg1, q_not, q_not1, q_not2, q_and, q_and1, q_and2, q_or, q_or1, q_or2, q_ite, q_ite1, q_ite2, q_tup, q_tup1, q_lst, q_lst1, q_dsp, q_dsp1, q_dsp2, q_idx, q_ix1, q_ix2, q_slice, q_sl1, q_sl2, q_sl3, q_slP00, q_slP10, q_slP01, q_slP11, q_slCt, q_slCl, q_rev, q_rev1, q_revD, q_revCl, q_revCt, q_call, q_call1, q_blt, q_blt1, q_isi, q_isi1, q_mth, q_m1, q_m2, q_m3, q_nil, q_cons, q_c1, q_c2, q_sSeq, q_sSeq1, q_sEnum, q_sEnum1, q_sR, q_sR1, q_sR2, q_sZ, q_sZ1, q_sZ2, q_seq, q_seqn, q_seqr, q_seqb, q_seqc, q_skip, q_brk, q_cont, q_asg, q_asg1, q_asg2, q_at_nm, q_at_tp, q_at_nil, q_at_cons, q_at1, q_box, q_box1, q_box2, q_bxl, q_bxd, q_bxf, q_par, q_par1, q_par2, q_bs0, q_bs, q_bs1, q_seti, q_st1, q_st2, q_st3, q_st4, q_putD, q_putL, q_putL1, q_putK, q_putKs, q_putK1, q_expr, q_ex1, q_ret, q_ret1, q_if, q_if1, q_if2, q_rd_non, q_rd_bl, q_rd_int, q_rd_str, q_rd_tup, q_rd_lst, q_rd_dct, q_rd_ref, q_rdOl, q_rdOd, q_seqOf, q_seqCt, q_seqCl, q_lstOf, q_lstCl, q_dctOf, q_dctCd, q_dctCt, q_dctCl, q_dctCs, q_truD, q_truCb, q_truCi, q_truCn, q_truCt, q_truCl, q_truCd, q_isiD, q_isiCn, q_isiCb, q_isiCi, q_isiCs, q_isiCt, q_isiCl, q_binD, b_add, b_sub, b_mul, b_div, b_mod, b_shl, b_pow, b_shr, b_and, b_or, b_xor, b_adds, b_addt, b_addl, b_mult, b_mull, q_nb, q_eq, q_ne, q_in, q_nin, q_lt, q_le, q_gt, q_ge, q_isb, q_isn, q_isi', q_ist, q_isl, q_iss, q_isbn, q_isr, q_isd, q_inb, q_inn, q_ini, q_int, q_inl, q_ins, q_inr, q_ind, q_eqii, q_eqss, q_eqbb, q_eqsi, q_eqtt, q_eqll, q_eqtn, q_eqnt, q_eqnn, q_ixD, q_ixC, q_ixK, q_ixKs, q_seqCd, q_lent, q_lenl, q_lend, q_lenr, q_lenCl, q_lenCd, q_abs, q_bint, q_bintb, q_bmin, q_bmax, q_btuple, q_bt1, q_blistt, q_blistl, q_blists, q_blistr, q_bll1, q_sset, q_sset1, q_lrange, q_trange, q_app, q_app1, flatD, eqv_str, eqv_int, eqv_bl, eqv_non, eqv_si, eqv_is, eqv_tup, eqv_lst, eqv_tn, eqv_nt, eqvs_nil, eqvs_cons, eqvs_nc, eqvs_cn, okN_non, okN_bl, okN_int, okN_str, okN_t64, okN_l64, okN_t63, okN_l63, okN_t62, okN_l62, okNs_nil, okNs_cons, eqS, setAll, inD, keyOf, hb, hl]
  refine ⟨c', some (.lst o6), ?_⟩
  rw [q_seq, s5, q_seqn, q_seq, s6, q_seqn, q_seq, odd_ok (k := k) (cM_ok hM) hP hO (by show 14 ≤ 1000; decide), q_seqn]
  rfl
/-- one turn of the law's loop -/
theorem turn_one (c : Cup) (hM : OkM (cM c rest)) (hP : POk P) {z2 z4 z5 z6 z7 z8 z9 z10 z11 z12 z13 : Option D} :
    ∃ (c' : Cup) (z4' z7' z8' z9' z10' z11' : Option D), exec (callD fs (k + 9)) (.seq (.parN [7, 8] [false, false] (.cons (.call 41 (.cons (.var 0) (.cons (.var 3) .nil))) (.cons (.call 41 (.cons (.var 0) (.cons (.var 3) .nil))) .nil))) (.seq (.parN [4, 9] [false, false] (.cons (.call 34 (.cons (.var 1) (.cons (.var 7) (.cons (.var 8) .nil)))) (.cons (.call 48 (.cons (.var 1) (.cons (.var 7) (.cons (.var 8) .nil)))) .nil))) (.seq (.iff (.cmp .NotEq (.cmp .Is (.var 4) (.cst .non)) (.cmp .Is (.var 9) (.cst .non))) (.seq (.ret (.cst (.bl false))) .skip) .skip) (.seq (.iff (.and (.cmp .IsNot (.var 4) (.cst .non)) (.or (.not (.call 49 (.cons (.var 1) (.cons (.var 4) .nil)))) (.or (.cmp .NotEq (.blt .len (.cons (.var 4) .nil)) (.bin .Add (.var 9) (.cst (.int 1)))) (.cmp .NotEq (.tup (.cons (.idx (.var 4) (.cst (.int 0))) (.cons (.idx (.var 4) (.neg (.cst (.int 1)))) .nil))) (.tup (.cons (.var 7) (.cons (.var 8) .nil))))))) (.seq (.ret (.cst (.bl false))) .skip) .skip) (.seq (.asg (.nm 10) (.ite (.cmp .IsNot (.var 4) (.cst .non)) (.var 4) (.tup (.cons (.var 7) (.cons (.var 8) .nil))))) (.seq (.asg (.nm 11) (.lst (.cons (.var 10) (.cons (.rev (.var 10)) (.cons (.blt .list (.cons (.var 10) .nil)) (.cons (.bin .Add (.var 10) (.slice (.var 10) (.cons (.neg (.cst (.int 1))) .nil) .nil)) (.cons (.slice (.var 10) (.cons (.cst (.int 1)) .nil) .nil) (.cons (.bin .Add (.var 10) (.tup (.cons (.blt .len (.cons (.var 1) .nil)) .nil))) (.cons (.tup .nil) (.cons (.tup (.cons (.var 7) .nil)) (.cons (.cst .non) (.cons (.cst (.int 0)) .nil)))))))))))) (.seq (.asg (.nm 11) (.bin .Add (.var 11) (.lst (.cons (.tup (.cons (.cst (.bl true)) .nil)) (.cons (.tup (.cons (.neg (.cst (.int 1))) .nil)) (.cons (.call 45 (.cons (.var 0) (.cons (.var 10) .nil))) (.cons (.blt .tuple (.cons (.var 3) .nil)) .nil))))))) (.seq (.iff (.cmp .NotEq (.comp (.var 13) (.nm 13) (.sSeq (.var 11)) (.not (.call 43 (.cons (.call 35 (.cons (.var 1) (.cons (.var 13) .nil))) (.cons (.call 49 (.cons (.var 1) (.cons (.var 13) .nil))) .nil)))) [13]) (.lst .nil)) (.seq (.ret (.cst (.bl false))) .skip) .skip) .skip)))))))) [some (.ref 0), some (pD P), z2, some (rgL P), z4, z5, z6, z7, z8, z9, z10, z11, z12, z13] (cM c rest) = some (.nx [some (.ref 0), some (pD P), z2, some (rgL P), z4', z5, z6, z7', z8', z9', z10', z11', z12, z13] (cM c' rest)) := by
  have h60 := hP.le
  have hne := hP.ne
  have lr : ((List.range P.length).map nD).length = P.length := by rw [List.length_map, List.length_range]
  obtain ⟨x, hx, c1, r1⟩ := some_of (k := k + 7) c hM (nats_pure (List.range P.length)) (by rw [lr]; exact hne) (by rw [lr]; omega)
  obtain ⟨y, hy, c2, r2⟩ := some_of (k := k + 7) c1 (cM_ok (c' := c1) hM) (nats_pure (List.range P.length)) (by rw [lr]; exact hne) (by rw [lr]; omega)
  obtain ⟨a, ha, rfl⟩ := List.mem_map.mp hx
  obtain ⟨b, hb, rfl⟩ := List.mem_map.mp hy
  rw [List.mem_range] at ha hb
  have hM2 : OkM (cM c2 rest) := cM_ok hM
  have s0 : exec (callD fs (k + 9)) (.parN [7, 8] [false, false] (.cons (.call 41 (.cons (.var 0) (.cons (.var 3) .nil))) (.cons (.call 41 (.cons (.var 0) (.cons (.var 3) .nil))) .nil))) [some (.ref 0), some (pD P), z2, some (rgL P), z4, z5, z6, z7, z8, z9, z10, z11, z12, z13] (cM c rest) = some (.nx [some (.ref 0), some (pD P), z2, some (rgL P), z4, z5, z6, some (nD a), some (nD b), z9, z10, z11, z12, z13] (cM c2 rest)) := by
    simp only [rgL, nL]
    generalize (List.range P.length).map nD = r at *
    generalize nD a = u at *
    generalize nD b = v at *
    generalize pD P = y at *
    simp -implicitDefEqProofs [q_pr, q_bl, q_var, q_cst, q_bin, q_bin1, q_bin2, q_cmp, q_cmp1, q_cmp2, q_ch, q_ch1, q_ch2, q_ch3, q_neg, q_neg1, q_not, q_not1, q_not2, q_and, q_and1, q_and2, q_or, q_or1, q_or2, q_ite, q_ite1, q_ite2, q_tup, q_tup1, q_lst, q_lst1, q_dsp, q_dsp1, q_dsp2, q_idx, q_ix1, q_ix2, q_slice, q_sl1, q_sl2, q_sl3, q_slP00, q_slP10, q_slP01, q_slP11, q_slCt, q_slCl, q_rev, q_rev1, q_revD, q_revCl, q_revCt, q_call, q_call1, q_blt, q_blt1, q_isi, q_isi1, q_mth, q_m1, q_m2, q_m3, q_nil, q_cons, q_c1, q_c2, q_sSeq, q_sSeq1, q_sEnum, q_sEnum1, q_sR, q_sR1, q_sR2, q_sZ, q_sZ1, q_sZ2, q_seq, q_seqn, q_seqr, q_seqb, q_seqc, q_skip, q_brk, q_cont, q_asg, q_asg1, q_asg2, q_at_nm, q_at_tp, q_at_nil, q_at_cons, q_at1, q_box, q_box1, q_box2, q_bxl, q_bxd, q_bxf, q_par, q_par1, q_par2, q_bs0, q_bs, q_bs1, q_seti, q_st1, q_st2, q_st3, q_st4, q_putD, q_putL, q_putL1, q_putK, q_putKs, q_putK1, q_expr, q_ex1, q_ret, q_ret1, q_if, q_if1, q_if2, q_rd_non, q_rd_bl, q_rd_int, q_rd_str, q_rd_tup, q_rd_lst, q_rd_dct, q_rd_ref, q_rdOl, q_rdOd, q_seqOf, q_seqCt, q_seqCl, q_lstOf, q_lstCl, q_dctOf, q_dctCd, q_dctCt, q_dctCl, q_dctCs, q_truD, q_truCb, q_truCi, q_truCn, q_truCt, q_truCl, q_truCd, q_isiD, q_isiCn, q_isiCb, q_isiCi, q_isiCs, q_isiCt, q_isiCl, q_binD, b_add, b_sub, b_mul, b_div, b_mod, b_shl, b_pow, b_shr, b_and, b_or, b_xor, b_adds, b_addt, b_addl, b_mult, b_mull, q_nb, q_eq, q_ne, q_in, q_nin, q_lt, q_le, q_gt, q_ge, q_isb, q_isn, q_isi', q_ist, q_isl, q_iss, q_isbn, q_isr, q_isd, q_inb, q_inn, q_ini, q_int, q_inl, q_ins, q_inr, q_ind, q_eqii, q_eqss, q_eqbb, q_eqsi, q_eqtt, q_eqll, q_eqtn, q_eqnt, q_eqnn, q_ixD, q_ixC, q_ixK, q_ixKs, q_seqCd, q_lent, q_lenl, q_lend, q_lenr, q_lenCl, q_lenCd, q_abs, q_bint, q_bintb, q_bmin, q_bmax, q_btuple, q_bt1, q_blistt, q_blistl, q_blists, q_blistr, q_bll1, q_sset, q_sset1, q_lrange, q_trange, q_app, q_app1, flatD, eqv_str, eqv_int, eqv_bl, eqv_non, eqv_si, eqv_is, eqv_tup, eqv_lst, eqv_tn, eqv_nt, eqvs_nil, eqvs_cons, eqvs_nc, eqvs_cn, okN_non, okN_bl, okN_int, okN_str, okN_t64, okN_l64, okN_t63, okN_l63, okN_t62, okN_l62, okNs_nil, okNs_cons, eqS, setAll, inD, keyOf, r1, r2]
  obtain ⟨d, hd, e1⟩ := shortest_way (k := k + 1) hM2 hP ha hb
  obtain ⟨f, hf, e2⟩ := law_fewest (k := k + 6) hM2 hP (b := b) ha
  have s1 : exec (callD fs (k + 9)) (.parN [4, 9] [false, false] (.cons (.call 34 (.cons (.var 1) (.cons (.var 7) (.cons (.var 8) .nil)))) (.cons (.call 48 (.cons (.var 1) (.cons (.var 7) (.cons (.var 8) .nil)))) .nil))) [some (.ref 0), some (pD P), z2, some (rgL P), z4, z5, z6, some (nD a), some (nD b), z9, z10, z11, z12, z13] (cM c2 rest) = some (.nx [some (.ref 0), some (pD P), z2, some (rgL P), some d, z5, z6, some (nD a), some (nD b), some f, z10, z11, z12, z13] (cM c2 rest)) := by
    generalize rgL P = r
    generalize nD a = u at *
    generalize nD b = v at *
    generalize pD P = y at *
    simp -implicitDefEqProofs [q_pr, q_bl, q_var, q_cst, q_bin, q_bin1, q_bin2, q_cmp, q_cmp1, q_cmp2, q_ch, q_ch1, q_ch2, q_ch3, q_neg, q_neg1, q_not, q_not1, q_not2, q_and, q_and1, q_and2, q_or, q_or1, q_or2, q_ite, q_ite1, q_ite2, q_tup, q_tup1, q_lst, q_lst1, q_dsp, q_dsp1, q_dsp2, q_idx, q_ix1, q_ix2, q_slice, q_sl1, q_sl2, q_sl3, q_slP00, q_slP10, q_slP01, q_slP11, q_slCt, q_slCl, q_rev, q_rev1, q_revD, q_revCl, q_revCt, q_call, q_call1, q_blt, q_blt1, q_isi, q_isi1, q_mth, q_m1, q_m2, q_m3, q_nil, q_cons, q_c1, q_c2, q_sSeq, q_sSeq1, q_sEnum, q_sEnum1, q_sR, q_sR1, q_sR2, q_sZ, q_sZ1, q_sZ2, q_seq, q_seqn, q_seqr, q_seqb, q_seqc, q_skip, q_brk, q_cont, q_asg, q_asg1, q_asg2, q_at_nm, q_at_tp, q_at_nil, q_at_cons, q_at1, q_box, q_box1, q_box2, q_bxl, q_bxd, q_bxf, q_par, q_par1, q_par2, q_bs0, q_bs, q_bs1, q_seti, q_st1, q_st2, q_st3, q_st4, q_putD, q_putL, q_putL1, q_putK, q_putKs, q_putK1, q_expr, q_ex1, q_ret, q_ret1, q_if, q_if1, q_if2, q_rd_non, q_rd_bl, q_rd_int, q_rd_str, q_rd_tup, q_rd_lst, q_rd_dct, q_rd_ref, q_rdOl, q_rdOd, q_seqOf, q_seqCt, q_seqCl, q_lstOf, q_lstCl, q_dctOf, q_dctCd, q_dctCt, q_dctCl, q_dctCs, q_truD, q_truCb, q_truCi, q_truCn, q_truCt, q_truCl, q_truCd, q_isiD, q_isiCn, q_isiCb, q_isiCi, q_isiCs, q_isiCt, q_isiCl, q_binD, b_add, b_sub, b_mul, b_div, b_mod, b_shl, b_pow, b_shr, b_and, b_or, b_xor, b_adds, b_addt, b_addl, b_mult, b_mull, q_nb, q_eq, q_ne, q_in, q_nin, q_lt, q_le, q_gt, q_ge, q_isb, q_isn, q_isi', q_ist, q_isl, q_iss, q_isbn, q_isr, q_isd, q_inb, q_inn, q_ini, q_int, q_inl, q_ins, q_inr, q_ind, q_eqii, q_eqss, q_eqbb, q_eqsi, q_eqtt, q_eqll, q_eqtn, q_eqnt, q_eqnn, q_ixD, q_ixC, q_ixK, q_ixKs, q_seqCd, q_lent, q_lenl, q_lend, q_lenr, q_lenCl, q_lenCd, q_abs, q_bint, q_bintb, q_bmin, q_bmax, q_btuple, q_bt1, q_blistt, q_blistl, q_blists, q_blistr, q_bll1, q_sset, q_sset1, q_lrange, q_trange, q_app, q_app1, flatD, eqv_str, eqv_int, eqv_bl, eqv_non, eqv_si, eqv_is, eqv_tup, eqv_lst, eqv_tn, eqv_nt, eqvs_nil, eqvs_cons, eqvs_nc, eqvs_cn, okN_non, okN_bl, okN_int, okN_str, okN_t64, okN_l64, okN_t63, okN_l63, okN_t62, okN_l62, okNs_nil, okNs_cons, eqS, setAll, inD, keyOf, e1, e2]
  rw [q_seq, s0, q_seqn, q_seq, s1, q_seqn]
  rcases ways hP hd hf with ⟨rfl, rfl⟩ | ⟨L, s, rfl, rfl, w1, w2, w3, w4, w5⟩
  · obtain ⟨c', z11', r⟩ := turn_end (k := k) c2 hM2 hP (L := [a, b]) (by simp) (by simp) (a := a) (z2 := z2) (z4 := some .non) (z5 := z5) (z6 := z6) (z8 := some (nD b)) (z9 := some .non) (z11 := z11) (z12 := z12) (z13 := z13)
    refine ⟨c', some .non, some (nD a), some (nD b), some .non, some (.tup ([a, b].map nD)), z11', ?_⟩
    have s2 : exec (callD fs (k + 9)) (.iff (.cmp .NotEq (.cmp .Is (.var 4) (.cst .non)) (.cmp .Is (.var 9) (.cst .non))) (.seq (.ret (.cst (.bl false))) .skip) .skip) [some (.ref 0), some (pD P), z2, some (rgL P), some .non, z5, z6, some (nD a), some (nD b), some .non, z10, z11, z12, z13] (cM c2 rest) = some (.nx [some (.ref 0), some (pD P), z2, some (rgL P), some .non, z5, z6, some (nD a), some (nD b), some .non, z10, z11, z12, z13] (cM c2 rest)) := by
      generalize rgL P = r
      generalize pD P = y
      simp -implicitDefEqProofs [q_pr, q_bl, q_var, q_cst, q_bin, q_bin1, q_bin2, q_cmp, q_cmp1, q_cmp2, q_ch, q_ch1, q_ch2, q_ch3, q_neg, q_neg1, q_not, q_not1, q_not2, q_and, q_and1, q_and2, q_or, q_or1, q_or2, q_ite, q_ite1, q_ite2, q_tup, q_tup1, q_lst, q_lst1, q_dsp, q_dsp1, q_dsp2, q_idx, q_ix1, q_ix2, q_slice, q_sl1, q_sl2, q_sl3, q_slP00, q_slP10, q_slP01, q_slP11, q_slCt, q_slCl, q_rev, q_rev1, q_revD, q_revCl, q_revCt, q_call, q_call1, q_blt, q_blt1, q_isi, q_isi1, q_mth, q_m1, q_m2, q_m3, q_nil, q_cons, q_c1, q_c2, q_sSeq, q_sSeq1, q_sEnum, q_sEnum1, q_sR, q_sR1, q_sR2, q_sZ, q_sZ1, q_sZ2, q_seq, q_seqn, q_seqr, q_seqb, q_seqc, q_skip, q_brk, q_cont, q_asg, q_asg1, q_asg2, q_at_nm, q_at_tp, q_at_nil, q_at_cons, q_at1, q_box, q_box1, q_box2, q_bxl, q_bxd, q_bxf, q_par, q_par1, q_par2, q_bs0, q_bs, q_bs1, q_seti, q_st1, q_st2, q_st3, q_st4, q_putD, q_putL, q_putL1, q_putK, q_putKs, q_putK1, q_expr, q_ex1, q_ret, q_ret1, q_if, q_if1, q_if2, q_rd_non, q_rd_bl, q_rd_int, q_rd_str, q_rd_tup, q_rd_lst, q_rd_dct, q_rd_ref, q_rdOl, q_rdOd, q_seqOf, q_seqCt, q_seqCl, q_lstOf, q_lstCl, q_dctOf, q_dctCd, q_dctCt, q_dctCl, q_dctCs, q_truD, q_truCb, q_truCi, q_truCn, q_truCt, q_truCl, q_truCd, q_isiD, q_isiCn, q_isiCb, q_isiCi, q_isiCs, q_isiCt, q_isiCl, q_binD, b_add, b_sub, b_mul, b_div, b_mod, b_shl, b_pow, b_shr, b_and, b_or, b_xor, b_adds, b_addt, b_addl, b_mult, b_mull, q_nb, q_eq, q_ne, q_in, q_nin, q_lt, q_le, q_gt, q_ge, q_isb, q_isn, q_isi', q_ist, q_isl, q_iss, q_isbn, q_isr, q_isd, q_inb, q_inn, q_ini, q_int, q_inl, q_ins, q_inr, q_ind, q_eqii, q_eqss, q_eqbb, q_eqsi, q_eqtt, q_eqll, q_eqtn, q_eqnt, q_eqnn, q_ixD, q_ixC, q_ixK, q_ixKs, q_seqCd, q_lent, q_lenl, q_lend, q_lenr, q_lenCl, q_lenCd, q_abs, q_bint, q_bintb, q_bmin, q_bmax, q_btuple, q_bt1, q_blistt, q_blistl, q_blists, q_blistr, q_bll1, q_sset, q_sset1, q_lrange, q_trange, q_app, q_app1, flatD, eqv_str, eqv_int, eqv_bl, eqv_non, eqv_si, eqv_is, eqv_tup, eqv_lst, eqv_tn, eqv_nt, eqvs_nil, eqvs_cons, eqvs_nc, eqvs_cn, okN_non, okN_bl, okN_int, okN_str, okN_t64, okN_l64, okN_t63, okN_l63, okN_t62, okN_l62, okNs_nil, okNs_cons, eqS, setAll, inD, keyOf]
    have s3 : exec (callD fs (k + 9)) (.iff (.and (.cmp .IsNot (.var 4) (.cst .non)) (.or (.not (.call 49 (.cons (.var 1) (.cons (.var 4) .nil)))) (.or (.cmp .NotEq (.blt .len (.cons (.var 4) .nil)) (.bin .Add (.var 9) (.cst (.int 1)))) (.cmp .NotEq (.tup (.cons (.idx (.var 4) (.cst (.int 0))) (.cons (.idx (.var 4) (.neg (.cst (.int 1)))) .nil))) (.tup (.cons (.var 7) (.cons (.var 8) .nil))))))) (.seq (.ret (.cst (.bl false))) .skip) .skip) [some (.ref 0), some (pD P), z2, some (rgL P), some .non, z5, z6, some (nD a), some (nD b), some .non, z10, z11, z12, z13] (cM c2 rest) = some (.nx [some (.ref 0), some (pD P), z2, some (rgL P), some .non, z5, z6, some (nD a), some (nD b), some .non, z10, z11, z12, z13] (cM c2 rest)) := by
      generalize rgL P = r
      generalize pD P = y
      simp -implicitDefEqProofs [q_pr, q_bl, q_var, q_cst, q_bin, q_bin1, q_bin2, q_cmp, q_cmp1, q_cmp2, q_ch, q_ch1, q_ch2, q_ch3, q_neg, q_neg1, q_not, q_not1, q_not2, q_and, q_and1, q_and2, q_or, q_or1, q_or2, q_ite, q_ite1, q_ite2, q_tup, q_tup1, q_lst, q_lst1, q_dsp, q_dsp1, q_dsp2, q_idx, q_ix1, q_ix2, q_slice, q_sl1, q_sl2, q_sl3, q_slP00, q_slP10, q_slP01, q_slP11, q_slCt, q_slCl, q_rev, q_rev1, q_revD, q_revCl, q_revCt, q_call, q_call1, q_blt, q_blt1, q_isi, q_isi1, q_mth, q_m1, q_m2, q_m3, q_nil, q_cons, q_c1, q_c2, q_sSeq, q_sSeq1, q_sEnum, q_sEnum1, q_sR, q_sR1, q_sR2, q_sZ, q_sZ1, q_sZ2, q_seq, q_seqn, q_seqr, q_seqb, q_seqc, q_skip, q_brk, q_cont, q_asg, q_asg1, q_asg2, q_at_nm, q_at_tp, q_at_nil, q_at_cons, q_at1, q_box, q_box1, q_box2, q_bxl, q_bxd, q_bxf, q_par, q_par1, q_par2, q_bs0, q_bs, q_bs1, q_seti, q_st1, q_st2, q_st3, q_st4, q_putD, q_putL, q_putL1, q_putK, q_putKs, q_putK1, q_expr, q_ex1, q_ret, q_ret1, q_if, q_if1, q_if2, q_rd_non, q_rd_bl, q_rd_int, q_rd_str, q_rd_tup, q_rd_lst, q_rd_dct, q_rd_ref, q_rdOl, q_rdOd, q_seqOf, q_seqCt, q_seqCl, q_lstOf, q_lstCl, q_dctOf, q_dctCd, q_dctCt, q_dctCl, q_dctCs, q_truD, q_truCb, q_truCi, q_truCn, q_truCt, q_truCl, q_truCd, q_isiD, q_isiCn, q_isiCb, q_isiCi, q_isiCs, q_isiCt, q_isiCl, q_binD, b_add, b_sub, b_mul, b_div, b_mod, b_shl, b_pow, b_shr, b_and, b_or, b_xor, b_adds, b_addt, b_addl, b_mult, b_mull, q_nb, q_eq, q_ne, q_in, q_nin, q_lt, q_le, q_gt, q_ge, q_isb, q_isn, q_isi', q_ist, q_isl, q_iss, q_isbn, q_isr, q_isd, q_inb, q_inn, q_ini, q_int, q_inl, q_ins, q_inr, q_ind, q_eqii, q_eqss, q_eqbb, q_eqsi, q_eqtt, q_eqll, q_eqtn, q_eqnt, q_eqnn, q_ixD, q_ixC, q_ixK, q_ixKs, q_seqCd, q_lent, q_lenl, q_lend, q_lenr, q_lenCl, q_lenCd, q_abs, q_bint, q_bintb, q_bmin, q_bmax, q_btuple, q_bt1, q_blistt, q_blistl, q_blists, q_blistr, q_bll1, q_sset, q_sset1, q_lrange, q_trange, q_app, q_app1, flatD, eqv_str, eqv_int, eqv_bl, eqv_non, eqv_si, eqv_is, eqv_tup, eqv_lst, eqv_tn, eqv_nt, eqvs_nil, eqvs_cons, eqvs_nc, eqvs_cn, okN_non, okN_bl, okN_int, okN_str, okN_t64, okN_l64, okN_t63, okN_l63, okN_t62, okN_l62, okNs_nil, okNs_cons, eqS, setAll, inD, keyOf]
    have s4 : exec (callD fs (k + 9)) (.asg (.nm 10) (.ite (.cmp .IsNot (.var 4) (.cst .non)) (.var 4) (.tup (.cons (.var 7) (.cons (.var 8) .nil))))) [some (.ref 0), some (pD P), z2, some (rgL P), some .non, z5, z6, some (nD a), some (nD b), some .non, z10, z11, z12, z13] (cM c2 rest) = some (.nx [some (.ref 0), some (pD P), z2, some (rgL P), some .non, z5, z6, some (nD a), some (nD b), some .non, some (.tup ([a, b].map nD)), z11, z12, z13] (cM c2 rest)) := by
      generalize rgL P = r
      generalize pD P = y
      simp -implicitDefEqProofs [q_pr, q_bl, q_var, q_cst, q_bin, q_bin1, q_bin2, q_cmp, q_cmp1, q_cmp2, q_ch, q_ch1, q_ch2, q_ch3, q_neg, q_neg1, q_not, q_not1, q_not2, q_and, q_and1, q_and2, q_or, q_or1, q_or2, q_ite, q_ite1, q_ite2, q_tup, q_tup1, q_lst, q_lst1, q_dsp, q_dsp1, q_dsp2, q_idx, q_ix1, q_ix2, q_slice, q_sl1, q_sl2, q_sl3, q_slP00, q_slP10, q_slP01, q_slP11, q_slCt, q_slCl, q_rev, q_rev1, q_revD, q_revCl, q_revCt, q_call, q_call1, q_blt, q_blt1, q_isi, q_isi1, q_mth, q_m1, q_m2, q_m3, q_nil, q_cons, q_c1, q_c2, q_sSeq, q_sSeq1, q_sEnum, q_sEnum1, q_sR, q_sR1, q_sR2, q_sZ, q_sZ1, q_sZ2, q_seq, q_seqn, q_seqr, q_seqb, q_seqc, q_skip, q_brk, q_cont, q_asg, q_asg1, q_asg2, q_at_nm, q_at_tp, q_at_nil, q_at_cons, q_at1, q_box, q_box1, q_box2, q_bxl, q_bxd, q_bxf, q_par, q_par1, q_par2, q_bs0, q_bs, q_bs1, q_seti, q_st1, q_st2, q_st3, q_st4, q_putD, q_putL, q_putL1, q_putK, q_putKs, q_putK1, q_expr, q_ex1, q_ret, q_ret1, q_if, q_if1, q_if2, q_rd_non, q_rd_bl, q_rd_int, q_rd_str, q_rd_tup, q_rd_lst, q_rd_dct, q_rd_ref, q_rdOl, q_rdOd, q_seqOf, q_seqCt, q_seqCl, q_lstOf, q_lstCl, q_dctOf, q_dctCd, q_dctCt, q_dctCl, q_dctCs, q_truD, q_truCb, q_truCi, q_truCn, q_truCt, q_truCl, q_truCd, q_isiD, q_isiCn, q_isiCb, q_isiCi, q_isiCs, q_isiCt, q_isiCl, q_binD, b_add, b_sub, b_mul, b_div, b_mod, b_shl, b_pow, b_shr, b_and, b_or, b_xor, b_adds, b_addt, b_addl, b_mult, b_mull, q_nb, q_eq, q_ne, q_in, q_nin, q_lt, q_le, q_gt, q_ge, q_isb, q_isn, q_isi', q_ist, q_isl, q_iss, q_isbn, q_isr, q_isd, q_inb, q_inn, q_ini, q_int, q_inl, q_ins, q_inr, q_ind, q_eqii, q_eqss, q_eqbb, q_eqsi, q_eqtt, q_eqll, q_eqtn, q_eqnt, q_eqnn, q_ixD, q_ixC, q_ixK, q_ixKs, q_seqCd, q_lent, q_lenl, q_lend, q_lenr, q_lenCl, q_lenCd, q_abs, q_bint, q_bintb, q_bmin, q_bmax, q_btuple, q_bt1, q_blistt, q_blistl, q_blists, q_blistr, q_bll1, q_sset, q_sset1, q_lrange, q_trange, q_app, q_app1, flatD, eqv_str, eqv_int, eqv_bl, eqv_non, eqv_si, eqv_is, eqv_tup, eqv_lst, eqv_tn, eqv_nt, eqvs_nil, eqvs_cons, eqvs_nc, eqvs_cn, okN_non, okN_bl, okN_int, okN_str, okN_t64, okN_l64, okN_t63, okN_l63, okN_t62, okN_l62, okNs_nil, okNs_cons, eqS, setAll, inD, keyOf]
    rw [q_seq, s2, q_seqn, q_seq, s3, q_seqn, q_seq, s4, q_seqn, r]
  · obtain ⟨c', z11', r⟩ := turn_end (k := k) c2 hM2 hP (L := L) (by omega) (by omega) (a := a) (z2 := z2) (z4 := some (.tup (L.map nD))) (z5 := z5) (z6 := z6) (z8 := some (nD b)) (z9 := some (nD s)) (z11 := z11) (z12 := z12) (z13 := z13)
    refine ⟨c', some (.tup (L.map nD)), some (nD a), some (nD b), some (nD s), some (.tup (L.map nD)), z11', ?_⟩
    have lw := law_is_way (k := k + 6) hM2 hP (lk_nats (n := 10) (l := L) (by omega))
    rw [w5] at lw
    have i0 : atI (L.map nD) 0 = some (nD a) := atI_get (i := 0) (by rw [List.getElem?_map, w3]; rfl)
    have i1 : atI (L.map nD) (-1) = some (nD b) := atI_last' (by rw [List.length_map, List.getElem?_map, w4]; rfl)
    have hlen : (L.map nD).length = s + 1 := by rw [List.length_map, w1]
    have s2 : exec (callD fs (k + 9)) (.iff (.cmp .NotEq (.cmp .Is (.var 4) (.cst .non)) (.cmp .Is (.var 9) (.cst .non))) (.seq (.ret (.cst (.bl false))) .skip) .skip) [some (.ref 0), some (pD P), z2, some (rgL P), some (.tup (L.map nD)), z5, z6, some (nD a), some (nD b), some (nD s), z10, z11, z12, z13] (cM c2 rest) = some (.nx [some (.ref 0), some (pD P), z2, some (rgL P), some (.tup (L.map nD)), z5, z6, some (nD a), some (nD b), some (nD s), z10, z11, z12, z13] (cM c2 rest)) := by
      generalize rgL P = r
      generalize pD P = y
      generalize L.map nD = l
      simp -implicitDefEqProofs [q_pr, q_bl, q_var, q_cst, q_bin, q_bin1, q_bin2, q_cmp, q_cmp1, q_cmp2, q_ch, q_ch1, q_ch2, q_ch3, q_neg, q_neg1, q_not, q_not1, q_not2, q_and, q_and1, q_and2, q_or, q_or1, q_or2, q_ite, q_ite1, q_ite2, q_tup, q_tup1, q_lst, q_lst1, q_dsp, q_dsp1, q_dsp2, q_idx, q_ix1, q_ix2, q_slice, q_sl1, q_sl2, q_sl3, q_slP00, q_slP10, q_slP01, q_slP11, q_slCt, q_slCl, q_rev, q_rev1, q_revD, q_revCl, q_revCt, q_call, q_call1, q_blt, q_blt1, q_isi, q_isi1, q_mth, q_m1, q_m2, q_m3, q_nil, q_cons, q_c1, q_c2, q_sSeq, q_sSeq1, q_sEnum, q_sEnum1, q_sR, q_sR1, q_sR2, q_sZ, q_sZ1, q_sZ2, q_seq, q_seqn, q_seqr, q_seqb, q_seqc, q_skip, q_brk, q_cont, q_asg, q_asg1, q_asg2, q_at_nm, q_at_tp, q_at_nil, q_at_cons, q_at1, q_box, q_box1, q_box2, q_bxl, q_bxd, q_bxf, q_par, q_par1, q_par2, q_bs0, q_bs, q_bs1, q_seti, q_st1, q_st2, q_st3, q_st4, q_putD, q_putL, q_putL1, q_putK, q_putKs, q_putK1, q_expr, q_ex1, q_ret, q_ret1, q_if, q_if1, q_if2, q_rd_non, q_rd_bl, q_rd_int, q_rd_str, q_rd_tup, q_rd_lst, q_rd_dct, q_rd_ref, q_rdOl, q_rdOd, q_seqOf, q_seqCt, q_seqCl, q_lstOf, q_lstCl, q_dctOf, q_dctCd, q_dctCt, q_dctCl, q_dctCs, q_truD, q_truCb, q_truCi, q_truCn, q_truCt, q_truCl, q_truCd, q_isiD, q_isiCn, q_isiCb, q_isiCi, q_isiCs, q_isiCt, q_isiCl, q_binD, b_add, b_sub, b_mul, b_div, b_mod, b_shl, b_pow, b_shr, b_and, b_or, b_xor, b_adds, b_addt, b_addl, b_mult, b_mull, q_nb, q_eq, q_ne, q_in, q_nin, q_lt, q_le, q_gt, q_ge, q_isb, q_isn, q_isi', q_ist, q_isl, q_iss, q_isbn, q_isr, q_isd, q_inb, q_inn, q_ini, q_int, q_inl, q_ins, q_inr, q_ind, q_eqii, q_eqss, q_eqbb, q_eqsi, q_eqtt, q_eqll, q_eqtn, q_eqnt, q_eqnn, q_ixD, q_ixC, q_ixK, q_ixKs, q_seqCd, q_lent, q_lenl, q_lend, q_lenr, q_lenCl, q_lenCd, q_abs, q_bint, q_bintb, q_bmin, q_bmax, q_btuple, q_bt1, q_blistt, q_blistl, q_blists, q_blistr, q_bll1, q_sset, q_sset1, q_lrange, q_trange, q_app, q_app1, flatD, eqv_str, eqv_int, eqv_bl, eqv_non, eqv_si, eqv_is, eqv_tup, eqv_lst, eqv_tn, eqv_nt, eqvs_nil, eqvs_cons, eqvs_nc, eqvs_cn, okN_non, okN_bl, okN_int, okN_str, okN_t64, okN_l64, okN_t63, okN_l63, okN_t62, okN_l62, okNs_nil, okNs_cons, eqS, setAll, inD, keyOf]
    have s3 : exec (callD fs (k + 9)) (.iff (.and (.cmp .IsNot (.var 4) (.cst .non)) (.or (.not (.call 49 (.cons (.var 1) (.cons (.var 4) .nil)))) (.or (.cmp .NotEq (.blt .len (.cons (.var 4) .nil)) (.bin .Add (.var 9) (.cst (.int 1)))) (.cmp .NotEq (.tup (.cons (.idx (.var 4) (.cst (.int 0))) (.cons (.idx (.var 4) (.neg (.cst (.int 1)))) .nil))) (.tup (.cons (.var 7) (.cons (.var 8) .nil))))))) (.seq (.ret (.cst (.bl false))) .skip) .skip) [some (.ref 0), some (pD P), z2, some (rgL P), some (.tup (L.map nD)), z5, z6, some (nD a), some (nD b), some (nD s), z10, z11, z12, z13] (cM c2 rest) = some (.nx [some (.ref 0), some (pD P), z2, some (rgL P), some (.tup (L.map nD)), z5, z6, some (nD a), some (nD b), some (nD s), z10, z11, z12, z13] (cM c2 rest)) := by
      generalize rgL P = r
      generalize pD P = y at *
      generalize L.map nD = l at *
      simp -implicitDefEqProofs [q_pr, q_bl, q_var, q_cst, q_bin, q_bin1, q_bin2, q_cmp, q_cmp1, q_cmp2, q_ch, q_ch1, q_ch2, q_ch3, q_neg, q_neg1, q_not, q_not1, q_not2, q_and, q_and1, q_and2, q_or, q_or1, q_or2, q_ite, q_ite1, q_ite2, q_tup, q_tup1, q_lst, q_lst1, q_dsp, q_dsp1, q_dsp2, q_idx, q_ix1, q_ix2, q_slice, q_sl1, q_sl2, q_sl3, q_slP00, q_slP10, q_slP01, q_slP11, q_slCt, q_slCl, q_rev, q_rev1, q_revD, q_revCl, q_revCt, q_call, q_call1, q_blt, q_blt1, q_isi, q_isi1, q_mth, q_m1, q_m2, q_m3, q_nil, q_cons, q_c1, q_c2, q_sSeq, q_sSeq1, q_sEnum, q_sEnum1, q_sR, q_sR1, q_sR2, q_sZ, q_sZ1, q_sZ2, q_seq, q_seqn, q_seqr, q_seqb, q_seqc, q_skip, q_brk, q_cont, q_asg, q_asg1, q_asg2, q_at_nm, q_at_tp, q_at_nil, q_at_cons, q_at1, q_box, q_box1, q_box2, q_bxl, q_bxd, q_bxf, q_par, q_par1, q_par2, q_bs0, q_bs, q_bs1, q_seti, q_st1, q_st2, q_st3, q_st4, q_putD, q_putL, q_putL1, q_putK, q_putKs, q_putK1, q_expr, q_ex1, q_ret, q_ret1, q_if, q_if1, q_if2, q_rd_non, q_rd_bl, q_rd_int, q_rd_str, q_rd_tup, q_rd_lst, q_rd_dct, q_rd_ref, q_rdOl, q_rdOd, q_seqOf, q_seqCt, q_seqCl, q_lstOf, q_lstCl, q_dctOf, q_dctCd, q_dctCt, q_dctCl, q_dctCs, q_truD, q_truCb, q_truCi, q_truCn, q_truCt, q_truCl, q_truCd, q_isiD, q_isiCn, q_isiCb, q_isiCi, q_isiCs, q_isiCt, q_isiCl, q_binD, b_add, b_sub, b_mul, b_div, b_mod, b_shl, b_pow, b_shr, b_and, b_or, b_xor, b_adds, b_addt, b_addl, b_mult, b_mull, q_nb, q_eq, q_ne, q_in, q_nin, q_lt, q_le, q_gt, q_ge, q_isb, q_isn, q_isi', q_ist, q_isl, q_iss, q_isbn, q_isr, q_isd, q_inb, q_inn, q_ini, q_int, q_inl, q_ins, q_inr, q_ind, q_eqii, q_eqss, q_eqbb, q_eqsi, q_eqtt, q_eqll, q_eqtn, q_eqnt, q_eqnn, q_ixD, q_ixC, q_ixK, q_ixKs, q_seqCd, q_lent, q_lenl, q_lend, q_lenr, q_lenCl, q_lenCd, q_abs, q_bint, q_bintb, q_bmin, q_bmax, q_btuple, q_bt1, q_blistt, q_blistl, q_blists, q_blistr, q_bll1, q_sset, q_sset1, q_lrange, q_trange, q_app, q_app1, flatD, eqv_str, eqv_int, eqv_bl, eqv_non, eqv_si, eqv_is, eqv_tup, eqv_lst, eqv_tn, eqv_nt, eqvs_nil, eqvs_cons, eqvs_nc, eqvs_cn, okN_non, okN_bl, okN_int, okN_str, okN_t64, okN_l64, okN_t63, okN_l63, okN_t62, okN_l62, okNs_nil, okNs_cons, eqS, setAll, inD, keyOf, lw, i0, i1, hlen]
    have s4 : exec (callD fs (k + 9)) (.asg (.nm 10) (.ite (.cmp .IsNot (.var 4) (.cst .non)) (.var 4) (.tup (.cons (.var 7) (.cons (.var 8) .nil))))) [some (.ref 0), some (pD P), z2, some (rgL P), some (.tup (L.map nD)), z5, z6, some (nD a), some (nD b), some (nD s), z10, z11, z12, z13] (cM c2 rest) = some (.nx [some (.ref 0), some (pD P), z2, some (rgL P), some (.tup (L.map nD)), z5, z6, some (nD a), some (nD b), some (nD s), some (.tup (L.map nD)), z11, z12, z13] (cM c2 rest)) := by
      generalize rgL P = r
      generalize pD P = y
      generalize L.map nD = l
      simp -implicitDefEqProofs [q_pr, q_bl, q_var, q_cst, q_bin, q_bin1, q_bin2, q_cmp, q_cmp1, q_cmp2, q_ch, q_ch1, q_ch2, q_ch3, q_neg, q_neg1, q_not, q_not1, q_not2, q_and, q_and1, q_and2, q_or, q_or1, q_or2, q_ite, q_ite1, q_ite2, q_tup, q_tup1, q_lst, q_lst1, q_dsp, q_dsp1, q_dsp2, q_idx, q_ix1, q_ix2, q_slice, q_sl1, q_sl2, q_sl3, q_slP00, q_slP10, q_slP01, q_slP11, q_slCt, q_slCl, q_rev, q_rev1, q_revD, q_revCl, q_revCt, q_call, q_call1, q_blt, q_blt1, q_isi, q_isi1, q_mth, q_m1, q_m2, q_m3, q_nil, q_cons, q_c1, q_c2, q_sSeq, q_sSeq1, q_sEnum, q_sEnum1, q_sR, q_sR1, q_sR2, q_sZ, q_sZ1, q_sZ2, q_seq, q_seqn, q_seqr, q_seqb, q_seqc, q_skip, q_brk, q_cont, q_asg, q_asg1, q_asg2, q_at_nm, q_at_tp, q_at_nil, q_at_cons, q_at1, q_box, q_box1, q_box2, q_bxl, q_bxd, q_bxf, q_par, q_par1, q_par2, q_bs0, q_bs, q_bs1, q_seti, q_st1, q_st2, q_st3, q_st4, q_putD, q_putL, q_putL1, q_putK, q_putKs, q_putK1, q_expr, q_ex1, q_ret, q_ret1, q_if, q_if1, q_if2, q_rd_non, q_rd_bl, q_rd_int, q_rd_str, q_rd_tup, q_rd_lst, q_rd_dct, q_rd_ref, q_rdOl, q_rdOd, q_seqOf, q_seqCt, q_seqCl, q_lstOf, q_lstCl, q_dctOf, q_dctCd, q_dctCt, q_dctCl, q_dctCs, q_truD, q_truCb, q_truCi, q_truCn, q_truCt, q_truCl, q_truCd, q_isiD, q_isiCn, q_isiCb, q_isiCi, q_isiCs, q_isiCt, q_isiCl, q_binD, b_add, b_sub, b_mul, b_div, b_mod, b_shl, b_pow, b_shr, b_and, b_or, b_xor, b_adds, b_addt, b_addl, b_mult, b_mull, q_nb, q_eq, q_ne, q_in, q_nin, q_lt, q_le, q_gt, q_ge, q_isb, q_isn, q_isi', q_ist, q_isl, q_iss, q_isbn, q_isr, q_isd, q_inb, q_inn, q_ini, q_int, q_inl, q_ins, q_inr, q_ind, q_eqii, q_eqss, q_eqbb, q_eqsi, q_eqtt, q_eqll, q_eqtn, q_eqnt, q_eqnn, q_ixD, q_ixC, q_ixK, q_ixKs, q_seqCd, q_lent, q_lenl, q_lend, q_lenr, q_lenCl, q_lenCd, q_abs, q_bint, q_bintb, q_bmin, q_bmax, q_btuple, q_bt1, q_blistt, q_blistl, q_blists, q_blistr, q_bll1, q_sset, q_sset1, q_lrange, q_trange, q_app, q_app1, flatD, eqv_str, eqv_int, eqv_bl, eqv_non, eqv_si, eqv_is, eqv_tup, eqv_lst, eqv_tn, eqv_nt, eqvs_nil, eqvs_cons, eqvs_nc, eqvs_cn, okN_non, okN_bl, okN_int, okN_str, okN_t64, okN_l64, okN_t63, okN_l63, okN_t62, okN_l62, okNs_nil, okNs_cons, eqS, setAll, inD, keyOf]
    rw [q_seq, s2, q_seqn, q_seq, s3, q_seqn, q_seq, s4, q_seqn, r]
end K09
end Mi
namespace Mi
open PySem PySem.Spec PyProof.Rows L2

namespace K09
variable {k : Nat} {M rest : Mem} {P : List Ord}
/-! ### the law on a program -/
theorem in_tups {j : Nat} {l : List Nat} : inD M (nD j) (.tup (l.map nD)) = some (l.contains j) := by
  have h := in_nats (M := M) (j := j) (l := l)
  unfold inD at h ⊢
  exact h
theorem step_nxt {w : Nat} {s s' : St} (h : step w P s = some s') : s'.p ∈ nxt P s.p := by
  unfold step at h
  unfold nxt
  cases e : P[s.p]? with
  | none => rw [e] at h; cases h
  | some o =>
    rw [e] at h
    cases o with
    | fin => cases h
    | fault n => cases h
    | cond l r q t =>
      obtain rfl := Option.some.inj h
      show (if relV l (gI s.R r) (gI s.R q) then t else s.p + 1) ∈ (if s.p + 1 = t then [t] else if s.p + 1 < t then [s.p + 1, t] else [t, s.p + 1])
      by_cases c : relV l (gI s.R r) (gI s.R q) = true
      · rw [if_pos c]
        split
        · simp
        · split <;> simp
      · rw [if_neg c]
        split
        · simp; omega
        · split <;> simp
    | _ =>
      obtain rfl := Option.some.inj h
      exact List.mem_singleton.mpr rfl
theorem tail_reach (hP : POk P) {w : Nat} : ∀ (n : Nat) {s : St}, s.p ∈ reachL P → ∀ p ∈ s.p :: tailP w P n s, p ∈ reachL P
  | 0, s, hs, p, hp => by
    rw [show tailP w P 0 s = [] from rfl, List.mem_singleton] at hp
    rw [hp]
    exact hs
  | n + 1, s, hs, p, hp => by
    rcases List.mem_cons.mp hp with e | e
    · rw [e]; exact hs
    · unfold tailP at e
      cases q : step w P s with
      | none => rw [q] at e; cases e
      | some s' =>
        rw [q] at e
        refine tail_reach hP n ?_ p e
        have h := step_nxt q
        rw [reachL_mem hP] at hs ⊢
        rcases hs with z | z
        · rw [z] at h
          exact .inr (.one h)
        · exact .inr (z.then h)
theorem like_list {n : Nat} {f : Nat → D} {l : List Nat} (h : ∀ x ∈ l, (f x).lk n = true) : D.lks n (l.map f) = true := lks_of fun x hx => by
  obtain ⟨j, hj, rfl⟩ := List.mem_map.mp hx
  exact h j hj
theorem nxt_len (hP : POk P) {p : Nat} : (nxt P p).length ≤ 60 := Nat.le_trans (nodup_le P.length _ nxt_nodup fun x hx => nxt_lt hP p x hx) hP.le
theorem job (hP : POk P) {r : Nat} (h : (r : Int) < 4) : Job 2 P [(r : Int), 1, 2, 3] [0, 0, 0, 0, 0, 0, 0, 0] := by
  refine ⟨by decide, by decide, hP, ⟨hP.ne, rfl, rfl, ?_, ?_⟩⟩
  · intro x hx
    rcases List.mem_cons.mp hx with e | hx
    · rw [e]; constructor <;> simp <;> omega
    have : ∀ x ∈ ([1, 2, 3] : List Int), 0 ≤ x ∧ x < 2 ^ 2 := by decide
    exact this x hx
  · have : ∀ x ∈ ([0, 0, 0, 0, 0, 0, 0, 0] : List Int), 0 ≤ x ∧ x < 2 ^ 2 := by decide
    exact this
theorem law_right (c : Cup) (hM : OkM (cM c rest)) (hP : POk P) : ∃ c' : Cup, callD fs (k + 10) 50 [.ref 0, pD P] (cM c rest) = some (.bl true, cM c' rest) := by
  suffices H : ∃ c' : Cup, exec (callD fs (k + 9)) b50 [some (.ref 0), some (pD P), none, none, none, none, none, none, none, none, none, none, none, none] (cM c rest) = some (.rt (.bl true) (cM c' rest)) by
    obtain ⟨c', h⟩ := H
    exact ⟨c', call_rt (f := f50) (d := .bl true) (M' := cM c' rest) rfl rfl h (fin_cM hM rfl)⟩
  have h60 := hP.le
  have lr : (List.range P.length).length ≤ 1000 := by rw [List.length_range]; omega
  obtain ⟨W, hW1, hW2, hW3⟩ := web0 hP
  have hAt : atI ((web (nxt P) P.length P.length).map nL) 0 = some (nL W) := atI_get (i := 0) (by rw [List.getElem?_map, hW1]; rfl)
  have s0 : exec (callD fs (k + 9)) (.parN [2, 3] [false, false] (.cons (.call 47 (.cons (.var 1) .nil)) (.cons (.blt .lrange (.cons (.cst (.int 0)) (.cons (.blt .len (.cons (.var 1) .nil)) .nil))) .nil))) [some (.ref 0), some (pD P), none, none, none, none, none, none, none, none, none, none, none, none] (cM c rest) = some (.nx [some (.ref 0), some (pD P), some (webD P P.length), some (rgL P), none, none, none, none, none, none, none, none, none, none] (cM c rest)) := by
    have h1 := law_web (k := k + 6) hM hP
    have h2 : bltD (cM c rest) .len [pD P] = some (.int (P.length : Nat)) := by simp -implicitDefEqProofs [q_pr, q_bl, q_var, q_cst, q_bin, q_bin1, q_bin2, q_cmp, q_cmp1, q_cmp2, q_ch, q_ch1, q_ch2, q_ch3, q_neg, q_neg1, q_not, q_not1, q_not2, q_and, q_and1, q_and2, q_or, q_or1, q_or2, q_ite, q_ite1, q_ite2, q_tup, q_tup1, q_lst, q_lst1, q_dsp, q_dsp1, q_dsp2, q_idx, q_ix1, q_ix2, q_slice, q_sl1, q_sl2, q_sl3, q_slP00, q_slP10, q_slP01, q_slP11, q_slCt, q_slCl, q_rev, q_rev1, q_revD, q_revCl, q_revCt, q_call, q_call1, q_blt, q_blt1, q_isi, q_isi1, q_mth, q_m1, q_m2, q_m3, q_nil, q_cons, q_c1, q_c2, q_sSeq, q_sSeq1, q_sEnum, q_sEnum1, q_sR, q_sR1, q_sR2, q_sZ, q_sZ1, q_sZ2, q_seq, q_seqn, q_seqr, q_seqb, q_seqc, q_skip, q_brk, q_cont, q_asg, q_asg1, q_asg2, q_at_nm, q_at_tp, q_at_nil, q_at_cons, q_at1, q_box, q_box1, q_box2, q_bxl, q_bxd, q_bxf, q_par, q_par1, q_par2, q_bs0, q_bs, q_bs1, q_seti, q_st1, q_st2, q_st3, q_st4, q_putD, q_putL, q_putL1, q_putK, q_putKs, q_putK1, q_expr, q_ex1, q_ret, q_ret1, q_if, q_if1, q_if2, q_rd_non, q_rd_bl, q_rd_int, q_rd_str, q_rd_tup, q_rd_lst, q_rd_dct, q_rd_ref, q_rdOl, q_rdOd, q_seqOf, q_seqCt, q_seqCl, q_lstOf, q_lstCl, q_dctOf, q_dctCd, q_dctCt, q_dctCl, q_dctCs, q_truD, q_truCb, q_truCi, q_truCn, q_truCt, q_truCl, q_truCd, q_isiD, q_isiCn, q_isiCb, q_isiCi, q_isiCs, q_isiCt, q_isiCl, q_binD, b_add, b_sub, b_mul, b_div, b_mod, b_shl, b_pow, b_shr, b_and, b_or, b_xor, b_adds, b_addt, b_addl, b_mult, b_mull, q_nb, q_eq, q_ne, q_in, q_nin, q_lt, q_le, q_gt, q_ge, q_isb, q_isn, q_isi', q_ist, q_isl, q_iss, q_isbn, q_isr, q_isd, q_inb, q_inn, q_ini, q_int, q_inl, q_ins, q_inr, q_ind, q_eqii, q_eqss, q_eqbb, q_eqsi, q_eqtt, q_eqll, q_eqtn, q_eqnt, q_eqnn, q_ixD, q_ixC, q_ixK, q_ixKs, q_seqCd, q_lent, q_lenl, q_lend, q_lenr, q_lenCl, q_lenCd, q_abs, q_bint, q_bintb, q_bmin, q_bmax, q_btuple, q_bt1, q_blistt, q_blistl, q_blists, q_blistr, q_bll1, q_sset, q_sset1, q_lrange, q_trange, q_app, q_app1, flatD, eqv_str, eqv_int, eqv_bl, eqv_non, eqv_si, eqv_is, eqv_tup, eqv_lst, eqv_tn, eqv_nt, eqvs_nil, eqvs_cons, eqvs_nc, eqvs_cn, okN_non, okN_bl, okN_int, okN_str, okN_t64, okN_l64, okN_t63, okN_l63, okN_t62, okN_l62, okNs_nil, okNs_cons, eqS, setAll, inD, keyOf]
    have h3 : bltD (cM c rest) .lrange [.int 0, .int (P.length : Nat)] = some (rgL P) := by
      rw [q_lrange, if_pos (by unfold rgOk; simp; omega)]
      unfold rgD
      simp
    generalize rgL P = r at *
    generalize webD P P.length = w at *
    generalize pD P = y at *
    simp -implicitDefEqProofs [q_par, q_par1, q_par2, q_bs0, q_bs, q_bs1, q_cons, q_nil, q_c1, q_c2, q_call, q_call1, q_var, q_pr, q_blt, q_blt1, q_cst, q_bxf, h1, h2, h3, setAll]
  have hR : ∀ (z4 z5 : Option D) (M : Mem), OkM M → ∀ (e : ME) (g : Nat → D), (∀ j, j < P.length → ev (callD fs (k + 9)) e [some (.ref 0), some (pD P), some (webD P P.length), some (rgL P), z4, z5, none, some (nD j), none, none, none, none, none, none] M = some (g j, M)) → ev (callD fs (k + 9)) (.comp e (.nm 7) (.sSeq (.var 3)) (.cst (.bl true)) [7]) [some (.ref 0), some (pD P), some (webD P P.length), some (rgL P), z4, z5, none, none, none, none, none, none, none, none] M = some (.lst ((List.range P.length).map g), M) := by
    intro z4 z5 M _ e g hg
    rw [comp_nats (l := List.range P.length) (d := rgL P) lr (fun _ => true) g rfl rfl fun j hj => ⟨.bl true, rfl, rfl, fun _ => hg j (List.mem_range.mp hj)⟩, filter_true]
  let T1 : D := .lst ((List.range P.length).map fun p => .tup ((nxt P p).map nD))
  let T2 : D := .tup (((List.range P.length).filter fun p => (nxt P p).isEmpty).map nD)
  let T3 : D := .tup ((reachL P).map nD)
  have s1 : exec (callD fs (k + 9)) (.asg (.nm 4) (.lst (.cons (.comp (.call 31 (.cons (.var 1) (.cons (.var 7) .nil))) (.nm 7) (.sSeq (.var 3)) (.cst (.bl true)) [7]) (.cons (.call 32 (.cons (.var 1) .nil)) (.cons (.call 33 (.cons (.var 1) .nil)) (.cons (.call 37 (.cons (.var 1) .nil)) .nil)))))) [some (.ref 0), some (pD P), some (webD P P.length), some (rgL P), none, none, none, none, none, none, none, none, none, none] (cM c rest) = some (.nx [some (.ref 0), some (pD P), some (webD P P.length), some (rgL P), some (.lst [T1, T2, T3, .bl true]), none, none, none, none, none, none, none, none, none] (cM c rest)) := by
    have hc := hR none none (cM c rest) hM (.call 31 (.cons (.var 1) (.cons (.var 7) .nil))) (fun p => .tup ((nxt P p).map nD)) fun j hj => by
      have h := leads_on (k := k + 1) hM hP hj
      generalize rgL P = r at *
      generalize webD P P.length = w at *
      generalize pD P = y at *
      generalize D.tup ((nxt P j).map nD) = t at *
      generalize nD j = u at *
      simp -implicitDefEqProofs [q_pr, q_bl, q_var, q_cst, q_bin, q_bin1, q_bin2, q_cmp, q_cmp1, q_cmp2, q_ch, q_ch1, q_ch2, q_ch3, q_neg, q_neg1, q_not, q_not1, q_not2, q_and, q_and1, q_and2, q_or, q_or1, q_or2, q_ite, q_ite1, q_ite2, q_tup, q_tup1, q_lst, q_lst1, q_dsp, q_dsp1, q_dsp2, q_idx, q_ix1, q_ix2, q_slice, q_sl1, q_sl2, q_sl3, q_slP00, q_slP10, q_slP01, q_slP11, q_slCt, q_slCl, q_rev, q_rev1, q_revD, q_revCl, q_revCt, q_call, q_call1, q_blt, q_blt1, q_isi, q_isi1, q_mth, q_m1, q_m2, q_m3, q_nil, q_cons, q_c1, q_c2, q_sSeq, q_sSeq1, q_sEnum, q_sEnum1, q_sR, q_sR1, q_sR2, q_sZ, q_sZ1, q_sZ2, q_seq, q_seqn, q_seqr, q_seqb, q_seqc, q_skip, q_brk, q_cont, q_asg, q_asg1, q_asg2, q_at_nm, q_at_tp, q_at_nil, q_at_cons, q_at1, q_box, q_box1, q_box2, q_bxl, q_bxd, q_bxf, q_par, q_par1, q_par2, q_bs0, q_bs, q_bs1, q_seti, q_st1, q_st2, q_st3, q_st4, q_putD, q_putL, q_putL1, q_putK, q_putKs, q_putK1, q_expr, q_ex1, q_ret, q_ret1, q_if, q_if1, q_if2, q_rd_non, q_rd_bl, q_rd_int, q_rd_str, q_rd_tup, q_rd_lst, q_rd_dct, q_rd_ref, q_rdOl, q_rdOd, q_seqOf, q_seqCt, q_seqCl, q_lstOf, q_lstCl, q_dctOf, q_dctCd, q_dctCt, q_dctCl, q_dctCs, q_truD, q_truCb, q_truCi, q_truCn, q_truCt, q_truCl, q_truCd, q_isiD, q_isiCn, q_isiCb, q_isiCi, q_isiCs, q_isiCt, q_isiCl, q_binD, b_add, b_sub, b_mul, b_div, b_mod, b_shl, b_pow, b_shr, b_and, b_or, b_xor, b_adds, b_addt, b_addl, b_mult, b_mull, q_nb, q_eq, q_ne, q_in, q_nin, q_lt, q_le, q_gt, q_ge, q_isb, q_isn, q_isi', q_ist, q_isl, q_iss, q_isbn, q_isr, q_isd, q_inb, q_inn, q_ini, q_int, q_inl, q_ins, q_inr, q_ind, q_eqii, q_eqss, q_eqbb, q_eqsi, q_eqtt, q_eqll, q_eqtn, q_eqnt, q_eqnn, q_ixD, q_ixC, q_ixK, q_ixKs, q_seqCd, q_lent, q_lenl, q_lend, q_lenr, q_lenCl, q_lenCd, q_abs, q_bint, q_bintb, q_bmin, q_bmax, q_btuple, q_bt1, q_blistt, q_blistl, q_blists, q_blistr, q_bll1, q_sset, q_sset1, q_lrange, q_trange, q_app, q_app1, flatD, eqv_str, eqv_int, eqv_bl, eqv_non, eqv_si, eqv_is, eqv_tup, eqv_lst, eqv_tn, eqv_nt, eqvs_nil, eqvs_cons, eqvs_nc, eqvs_cn, okN_non, okN_bl, okN_int, okN_str, okN_t64, okN_l64, okN_t63, okN_l63, okN_t62, okN_l62, okNs_nil, okNs_cons, eqS, setAll, inD, keyOf, h]
    have h2 := stops_of (k := k + 1) hM hP
    have h3 := reached (k := k + 1) hM hP
    have h4 := is_program (k := k + 2) hM hP
    rw [q_asg, q_lst, q_cons, hc]
    show _ = some (Out.nx [some (.ref 0), some (pD P), some (webD P P.length), some (rgL P), some (.lst [.lst ((List.range P.length).map fun p => .tup ((nxt P p).map nD)), .tup (((List.range P.length).filter fun p => (nxt P p).isEmpty).map nD), .tup ((reachL P).map nD), .bl true]), none, none, none, none, none, none, none, none, none] (cM c rest))
    generalize D.lst ((List.range P.length).map fun p => D.tup ((nxt P p).map nD)) = t1 at *
    generalize D.tup (((List.range P.length).filter fun p => (nxt P p).isEmpty).map nD) = t2 at *
    generalize D.tup ((reachL P).map nD) = t3 at *
    generalize rgL P = r at *
    generalize webD P P.length = w at *
    generalize pD P = y at *
    simp -implicitDefEqProofs [q_pr, q_bl, q_var, q_cst, q_bin, q_bin1, q_bin2, q_cmp, q_cmp1, q_cmp2, q_ch, q_ch1, q_ch2, q_ch3, q_neg, q_neg1, q_not, q_not1, q_not2, q_and, q_and1, q_and2, q_or, q_or1, q_or2, q_ite, q_ite1, q_ite2, q_tup, q_tup1, q_lst, q_lst1, q_dsp, q_dsp1, q_dsp2, q_idx, q_ix1, q_ix2, q_slice, q_sl1, q_sl2, q_sl3, q_slP00, q_slP10, q_slP01, q_slP11, q_slCt, q_slCl, q_rev, q_rev1, q_revD, q_revCl, q_revCt, q_call, q_call1, q_blt, q_blt1, q_isi, q_isi1, q_mth, q_m1, q_m2, q_m3, q_nil, q_cons, q_c1, q_c2, q_sSeq, q_sSeq1, q_sEnum, q_sEnum1, q_sR, q_sR1, q_sR2, q_sZ, q_sZ1, q_sZ2, q_seq, q_seqn, q_seqr, q_seqb, q_seqc, q_skip, q_brk, q_cont, q_asg, q_asg1, q_asg2, q_at_nm, q_at_tp, q_at_nil, q_at_cons, q_at1, q_box, q_box1, q_box2, q_bxl, q_bxd, q_bxf, q_par, q_par1, q_par2, q_bs0, q_bs, q_bs1, q_seti, q_st1, q_st2, q_st3, q_st4, q_putD, q_putL, q_putL1, q_putK, q_putKs, q_putK1, q_expr, q_ex1, q_ret, q_ret1, q_if, q_if1, q_if2, q_rd_non, q_rd_bl, q_rd_int, q_rd_str, q_rd_tup, q_rd_lst, q_rd_dct, q_rd_ref, q_rdOl, q_rdOd, q_seqOf, q_seqCt, q_seqCl, q_lstOf, q_lstCl, q_dctOf, q_dctCd, q_dctCt, q_dctCl, q_dctCs, q_truD, q_truCb, q_truCi, q_truCn, q_truCt, q_truCl, q_truCd, q_isiD, q_isiCn, q_isiCb, q_isiCi, q_isiCs, q_isiCt, q_isiCl, q_binD, b_add, b_sub, b_mul, b_div, b_mod, b_shl, b_pow, b_shr, b_and, b_or, b_xor, b_adds, b_addt, b_addl, b_mult, b_mull, q_nb, q_eq, q_ne, q_in, q_nin, q_lt, q_le, q_gt, q_ge, q_isb, q_isn, q_isi', q_ist, q_isl, q_iss, q_isbn, q_isr, q_isd, q_inb, q_inn, q_ini, q_int, q_inl, q_ins, q_inr, q_ind, q_eqii, q_eqss, q_eqbb, q_eqsi, q_eqtt, q_eqll, q_eqtn, q_eqnt, q_eqnn, q_ixD, q_ixC, q_ixK, q_ixKs, q_seqCd, q_lent, q_lenl, q_lend, q_lenr, q_lenCl, q_lenCd, q_abs, q_bint, q_bintb, q_bmin, q_bmax, q_btuple, q_bt1, q_blistt, q_blistl, q_blists, q_blistr, q_bll1, q_sset, q_sset1, q_lrange, q_trange, q_app, q_app1, flatD, eqv_str, eqv_int, eqv_bl, eqv_non, eqv_si, eqv_is, eqv_tup, eqv_lst, eqv_tn, eqv_nt, eqvs_nil, eqvs_cons, eqvs_nc, eqvs_cn, okN_non, okN_bl, okN_int, okN_str, okN_t64, okN_l64, okN_t63, okN_l63, okN_t62, okN_l62, okNs_nil, okNs_cons, eqS, setAll, inD, keyOf, h2, h3, h4]
  have s2 : exec (callD fs (k + 9)) (.asg (.nm 5) (.lst (.cons (.comp (.blt .tuple (.cons (.call 46 (.cons (.var 1) (.cons (.var 7) .nil))) .nil)) (.nm 7) (.sSeq (.var 3)) (.cst (.bl true)) [7]) (.cons (.blt .tuple (.cons (.comp (.var 7) (.nm 7) (.sSeq (.var 3)) (.cmp .In (.idx (.idx (.var 1) (.var 7)) (.cst (.int 0))) (.tup (.cons (.cst (.str [101, 110, 100])) (.cons (.cst (.str [102, 97, 117, 108, 116])) .nil)))) [7]) .nil)) .nil)))) [some (.ref 0), some (pD P), some (webD P P.length), some (rgL P), some (.lst [T1, T2, T3, .bl true]), none, none, none, none, none, none, none, none, none] (cM c rest) = some (.nx [some (.ref 0), some (pD P), some (webD P P.length), some (rgL P), some (.lst [T1, T2, T3, .bl true]), some (.lst [T1, T2]), none, none, none, none, none, none, none, none] (cM c rest)) := by
    have hc := hR (some (.lst [T1, T2, T3, .bl true])) none (cM c rest) hM (.blt .tuple (.cons (.call 46 (.cons (.var 1) (.cons (.var 7) .nil))) .nil)) (fun p => .tup ((nxt P p).map nD)) fun j hj => by
      have h := law_nexts (k := k + 8) hM hj
      simp only [nL] at h
      generalize D.lst [T1, T2, T3, .bl true] = t4 at *
      generalize rgL P = r at *
      generalize webD P P.length = w at *
      generalize pD P = y at *
      generalize (nxt P j).map nD = t at *
      generalize nD j = u at *
      simp -implicitDefEqProofs [q_pr, q_bl, q_var, q_cst, q_bin, q_bin1, q_bin2, q_cmp, q_cmp1, q_cmp2, q_ch, q_ch1, q_ch2, q_ch3, q_neg, q_neg1, q_not, q_not1, q_not2, q_and, q_and1, q_and2, q_or, q_or1, q_or2, q_ite, q_ite1, q_ite2, q_tup, q_tup1, q_lst, q_lst1, q_dsp, q_dsp1, q_dsp2, q_idx, q_ix1, q_ix2, q_slice, q_sl1, q_sl2, q_sl3, q_slP00, q_slP10, q_slP01, q_slP11, q_slCt, q_slCl, q_rev, q_rev1, q_revD, q_revCl, q_revCt, q_call, q_call1, q_blt, q_blt1, q_isi, q_isi1, q_mth, q_m1, q_m2, q_m3, q_nil, q_cons, q_c1, q_c2, q_sSeq, q_sSeq1, q_sEnum, q_sEnum1, q_sR, q_sR1, q_sR2, q_sZ, q_sZ1, q_sZ2, q_seq, q_seqn, q_seqr, q_seqb, q_seqc, q_skip, q_brk, q_cont, q_asg, q_asg1, q_asg2, q_at_nm, q_at_tp, q_at_nil, q_at_cons, q_at1, q_box, q_box1, q_box2, q_bxl, q_bxd, q_bxf, q_par, q_par1, q_par2, q_bs0, q_bs, q_bs1, q_seti, q_st1, q_st2, q_st3, q_st4, q_putD, q_putL, q_putL1, q_putK, q_putKs, q_putK1, q_expr, q_ex1, q_ret, q_ret1, q_if, q_if1, q_if2, q_rd_non, q_rd_bl, q_rd_int, q_rd_str, q_rd_tup, q_rd_lst, q_rd_dct, q_rd_ref, q_rdOl, q_rdOd, q_seqOf, q_seqCt, q_seqCl, q_lstOf, q_lstCl, q_dctOf, q_dctCd, q_dctCt, q_dctCl, q_dctCs, q_truD, q_truCb, q_truCi, q_truCn, q_truCt, q_truCl, q_truCd, q_isiD, q_isiCn, q_isiCb, q_isiCi, q_isiCs, q_isiCt, q_isiCl, q_binD, b_add, b_sub, b_mul, b_div, b_mod, b_shl, b_pow, b_shr, b_and, b_or, b_xor, b_adds, b_addt, b_addl, b_mult, b_mull, q_nb, q_eq, q_ne, q_in, q_nin, q_lt, q_le, q_gt, q_ge, q_isb, q_isn, q_isi', q_ist, q_isl, q_iss, q_isbn, q_isr, q_isd, q_inb, q_inn, q_ini, q_int, q_inl, q_ins, q_inr, q_ind, q_eqii, q_eqss, q_eqbb, q_eqsi, q_eqtt, q_eqll, q_eqtn, q_eqnt, q_eqnn, q_ixD, q_ixC, q_ixK, q_ixKs, q_seqCd, q_lent, q_lenl, q_lend, q_lenr, q_lenCl, q_lenCd, q_abs, q_bint, q_bintb, q_bmin, q_bmax, q_btuple, q_bt1, q_blistt, q_blistl, q_blists, q_blistr, q_bll1, q_sset, q_sset1, q_lrange, q_trange, q_app, q_app1, flatD, eqv_str, eqv_int, eqv_bl, eqv_non, eqv_si, eqv_is, eqv_tup, eqv_lst, eqv_tn, eqv_nt, eqvs_nil, eqvs_cons, eqvs_nc, eqvs_cn, okN_non, okN_bl, okN_int, okN_str, okN_t64, okN_l64, okN_t63, okN_l63, okN_t62, okN_l62, okNs_nil, okNs_cons, eqS, setAll, inD, keyOf, h]
    have hd : ev (callD fs (k + 9)) (.comp (.var 7) (.nm 7) (.sSeq (.var 3)) (.cmp .In (.idx (.idx (.var 1) (.var 7)) (.cst (.int 0))) (.tup (.cons (.cst (.str [101, 110, 100])) (.cons (.cst (.str [102, 97, 117, 108, 116])) .nil)))) [7]) [some (.ref 0), some (pD P), some (webD P P.length), some (rgL P), some (.lst [T1, T2, T3, .bl true]), none, none, none, none, none, none, none, none, none] (cM c rest) = some (.lst (((List.range P.length).filter fun p => (nxt P p).isEmpty).map nD), cM c rest) := by
      refine comp_nats (l := List.range P.length) (d := rgL P) lr (fun p => (nxt P p).isEmpty) nD rfl rfl fun j hj => ⟨.bl (nxt P j).isEmpty, ?_, rfl, fun _ => rfl⟩
      show ev (callD fs (k + 9)) (.cmp .In (.idx (.idx (.var 1) (.var 7)) (.cst (.int 0))) (.tup (.cons (.cst (.str [101, 110, 100])) (.cons (.cst (.str [102, 97, 117, 108, 116])) .nil)))) [some (.ref 0), some (pD P), some (webD P P.length), some (rgL P), some (.lst [T1, T2, T3, .bl true]), none, none, some (nD j), none, none, none, none, none, none] (cM c rest) = _
      obtain ⟨o, ho, ha⟩ := nxt_get (P := P) (List.mem_range.mp hj)
      rw [nxt_stop ho]
      generalize D.lst [T1, T2, T3, .bl true] = t4 at *
      generalize rgL P = r at *
      generalize webD P P.length = w at *
      have hk : ev (callD fs (k + 9)) (.idx (.var 1) (.var 7)) [some (.ref 0), some (pD P), some w, some r, some t4, none, none, some (nD j), none, none, none, none, none, none] (cM c rest) = some (o.enc, cM c rest) := by
        simp only [pD]
        generalize P.map Ord.enc = y at *
        simp -implicitDefEqProofs [q_pr, q_bl, q_var, q_cst, q_bin, q_bin1, q_bin2, q_cmp, q_cmp1, q_cmp2, q_ch, q_ch1, q_ch2, q_ch3, q_neg, q_neg1, q_not, q_not1, q_not2, q_and, q_and1, q_and2, q_or, q_or1, q_or2, q_ite, q_ite1, q_ite2, q_tup, q_tup1, q_lst, q_lst1, q_dsp, q_dsp1, q_dsp2, q_idx, q_ix1, q_ix2, q_slice, q_sl1, q_sl2, q_sl3, q_slP00, q_slP10, q_slP01, q_slP11, q_slCt, q_slCl, q_rev, q_rev1, q_revD, q_revCl, q_revCt, q_call, q_call1, q_blt, q_blt1, q_isi, q_isi1, q_mth, q_m1, q_m2, q_m3, q_nil, q_cons, q_c1, q_c2, q_sSeq, q_sSeq1, q_sEnum, q_sEnum1, q_sR, q_sR1, q_sR2, q_sZ, q_sZ1, q_sZ2, q_seq, q_seqn, q_seqr, q_seqb, q_seqc, q_skip, q_brk, q_cont, q_asg, q_asg1, q_asg2, q_at_nm, q_at_tp, q_at_nil, q_at_cons, q_at1, q_box, q_box1, q_box2, q_bxl, q_bxd, q_bxf, q_par, q_par1, q_par2, q_bs0, q_bs, q_bs1, q_seti, q_st1, q_st2, q_st3, q_st4, q_putD, q_putL, q_putL1, q_putK, q_putKs, q_putK1, q_expr, q_ex1, q_ret, q_ret1, q_if, q_if1, q_if2, q_rd_non, q_rd_bl, q_rd_int, q_rd_str, q_rd_tup, q_rd_lst, q_rd_dct, q_rd_ref, q_rdOl, q_rdOd, q_seqOf, q_seqCt, q_seqCl, q_lstOf, q_lstCl, q_dctOf, q_dctCd, q_dctCt, q_dctCl, q_dctCs, q_truD, q_truCb, q_truCi, q_truCn, q_truCt, q_truCl, q_truCd, q_isiD, q_isiCn, q_isiCb, q_isiCi, q_isiCs, q_isiCt, q_isiCl, q_binD, b_add, b_sub, b_mul, b_div, b_mod, b_shl, b_pow, b_shr, b_and, b_or, b_xor, b_adds, b_addt, b_addl, b_mult, b_mull, q_nb, q_eq, q_ne, q_in, q_nin, q_lt, q_le, q_gt, q_ge, q_isb, q_isn, q_isi', q_ist, q_isl, q_iss, q_isbn, q_isr, q_isd, q_inb, q_inn, q_ini, q_int, q_inl, q_ins, q_inr, q_ind, q_eqii, q_eqss, q_eqbb, q_eqsi, q_eqtt, q_eqll, q_eqtn, q_eqnt, q_eqnn, q_ixD, q_ixC, q_ixK, q_ixKs, q_seqCd, q_lent, q_lenl, q_lend, q_lenr, q_lenCl, q_lenCd, q_abs, q_bint, q_bintb, q_bmin, q_bmax, q_btuple, q_bt1, q_blistt, q_blistl, q_blists, q_blistr, q_bll1, q_sset, q_sset1, q_lrange, q_trange, q_app, q_app1, flatD, eqv_str, eqv_int, eqv_bl, eqv_non, eqv_si, eqv_is, eqv_tup, eqv_lst, eqv_tn, eqv_nt, eqvs_nil, eqvs_cons, eqvs_nc, eqvs_cn, okN_non, okN_bl, okN_int, okN_str, okN_t64, okN_l64, okN_t63, okN_l63, okN_t62, okN_l62, okNs_nil, okNs_cons, eqS, setAll, inD, keyOf, ha]
      rw [q_cmp, q_idx, hk]
      generalize pD P = y at *
      cases o <;> simp -implicitDefEqProofs [q_pr, q_bl, q_var, q_cst, q_bin, q_bin1, q_bin2, q_cmp, q_cmp1, q_cmp2, q_ch, q_ch1, q_ch2, q_ch3, q_neg, q_neg1, q_not, q_not1, q_not2, q_and, q_and1, q_and2, q_or, q_or1, q_or2, q_ite, q_ite1, q_ite2, q_tup, q_tup1, q_lst, q_lst1, q_dsp, q_dsp1, q_dsp2, q_idx, q_ix1, q_ix2, q_slice, q_sl1, q_sl2, q_sl3, q_slP00, q_slP10, q_slP01, q_slP11, q_slCt, q_slCl, q_rev, q_rev1, q_revD, q_revCl, q_revCt, q_call, q_call1, q_blt, q_blt1, q_isi, q_isi1, q_mth, q_m1, q_m2, q_m3, q_nil, q_cons, q_c1, q_c2, q_sSeq, q_sSeq1, q_sEnum, q_sEnum1, q_sR, q_sR1, q_sR2, q_sZ, q_sZ1, q_sZ2, q_seq, q_seqn, q_seqr, q_seqb, q_seqc, q_skip, q_brk, q_cont, q_asg, q_asg1, q_asg2, q_at_nm, q_at_tp, q_at_nil, q_at_cons, q_at1, q_box, q_box1, q_box2, q_bxl, q_bxd, q_bxf, q_par, q_par1, q_par2, q_bs0, q_bs, q_bs1, q_seti, q_st1, q_st2, q_st3, q_st4, q_putD, q_putL, q_putL1, q_putK, q_putKs, q_putK1, q_expr, q_ex1, q_ret, q_ret1, q_if, q_if1, q_if2, q_rd_non, q_rd_bl, q_rd_int, q_rd_str, q_rd_tup, q_rd_lst, q_rd_dct, q_rd_ref, q_rdOl, q_rdOd, q_seqOf, q_seqCt, q_seqCl, q_lstOf, q_lstCl, q_dctOf, q_dctCd, q_dctCt, q_dctCl, q_dctCs, q_truD, q_truCb, q_truCi, q_truCn, q_truCt, q_truCl, q_truCd, q_isiD, q_isiCn, q_isiCb, q_isiCi, q_isiCs, q_isiCt, q_isiCl, q_binD, b_add, b_sub, b_mul, b_div, b_mod, b_shl, b_pow, b_shr, b_and, b_or, b_xor, b_adds, b_addt, b_addl, b_mult, b_mull, q_nb, q_eq, q_ne, q_in, q_nin, q_lt, q_le, q_gt, q_ge, q_isb, q_isn, q_isi', q_ist, q_isl, q_iss, q_isbn, q_isr, q_isd, q_inb, q_inn, q_ini, q_int, q_inl, q_ins, q_inr, q_ind, q_eqii, q_eqss, q_eqbb, q_eqsi, q_eqtt, q_eqll, q_eqtn, q_eqnt, q_eqnn, q_ixD, q_ixC, q_ixK, q_ixKs, q_seqCd, q_lent, q_lenl, q_lend, q_lenr, q_lenCl, q_lenCd, q_abs, q_bint, q_bintb, q_bmin, q_bmax, q_btuple, q_bt1, q_blistt, q_blistl, q_blists, q_blistr, q_bll1, q_sset, q_sset1, q_lrange, q_trange, q_app, q_app1, flatD, eqv_str, eqv_int, eqv_bl, eqv_non, eqv_si, eqv_is, eqv_tup, eqv_lst, eqv_tn, eqv_nt, eqvs_nil, eqvs_cons, eqvs_nc, eqvs_cn, okN_non, okN_bl, okN_int, okN_str, okN_t64, okN_l64, okN_t63, okN_l63, okN_t62, okN_l62, okNs_nil, okNs_cons, eqS, setAll, inD, keyOf, Ord.enc, Ord.stop, e0]
    rw [q_asg, q_lst, q_cons, hc]
    show _ = some (Out.nx [some (.ref 0), some (pD P), some (webD P P.length), some (rgL P), some (.lst [T1, T2, T3, .bl true]), some (.lst [.lst ((List.range P.length).map fun p => .tup ((nxt P p).map nD)), .tup (((List.range P.length).filter fun p => (nxt P p).isEmpty).map nD)]), none, none, none, none, none, none, none, none] (cM c rest))
    rw [q_c1, q_cons, q_blt, q_cons, hd]
    generalize D.lst [T1, T2, T3, .bl true] = t4 at *
    generalize D.lst ((List.range P.length).map fun p => D.tup ((nxt P p).map nD)) = t1 at *
    generalize ((List.range P.length).filter fun p => (nxt P p).isEmpty).map nD = t2 at *
    generalize rgL P = r at *
    generalize webD P P.length = w at *
    generalize pD P = y at *
    simp -implicitDefEqProofs [q_pr, q_bl, q_var, q_cst, q_bin, q_bin1, q_bin2, q_cmp, q_cmp1, q_cmp2, q_ch, q_ch1, q_ch2, q_ch3, q_neg, q_neg1, q_not, q_not1, q_not2, q_and, q_and1, q_and2, q_or, q_or1, q_or2, q_ite, q_ite1, q_ite2, q_tup, q_tup1, q_lst, q_lst1, q_dsp, q_dsp1, q_dsp2, q_idx, q_ix1, q_ix2, q_slice, q_sl1, q_sl2, q_sl3, q_slP00, q_slP10, q_slP01, q_slP11, q_slCt, q_slCl, q_rev, q_rev1, q_revD, q_revCl, q_revCt, q_call, q_call1, q_blt, q_blt1, q_isi, q_isi1, q_mth, q_m1, q_m2, q_m3, q_nil, q_cons, q_c1, q_c2, q_sSeq, q_sSeq1, q_sEnum, q_sEnum1, q_sR, q_sR1, q_sR2, q_sZ, q_sZ1, q_sZ2, q_seq, q_seqn, q_seqr, q_seqb, q_seqc, q_skip, q_brk, q_cont, q_asg, q_asg1, q_asg2, q_at_nm, q_at_tp, q_at_nil, q_at_cons, q_at1, q_box, q_box1, q_box2, q_bxl, q_bxd, q_bxf, q_par, q_par1, q_par2, q_bs0, q_bs, q_bs1, q_seti, q_st1, q_st2, q_st3, q_st4, q_putD, q_putL, q_putL1, q_putK, q_putKs, q_putK1, q_expr, q_ex1, q_ret, q_ret1, q_if, q_if1, q_if2, q_rd_non, q_rd_bl, q_rd_int, q_rd_str, q_rd_tup, q_rd_lst, q_rd_dct, q_rd_ref, q_rdOl, q_rdOd, q_seqOf, q_seqCt, q_seqCl, q_lstOf, q_lstCl, q_dctOf, q_dctCd, q_dctCt, q_dctCl, q_dctCs, q_truD, q_truCb, q_truCi, q_truCn, q_truCt, q_truCl, q_truCd, q_isiD, q_isiCn, q_isiCb, q_isiCi, q_isiCs, q_isiCt, q_isiCl, q_binD, b_add, b_sub, b_mul, b_div, b_mod, b_shl, b_pow, b_shr, b_and, b_or, b_xor, b_adds, b_addt, b_addl, b_mult, b_mull, q_nb, q_eq, q_ne, q_in, q_nin, q_lt, q_le, q_gt, q_ge, q_isb, q_isn, q_isi', q_ist, q_isl, q_iss, q_isbn, q_isr, q_isd, q_inb, q_inn, q_ini, q_int, q_inl, q_ins, q_inr, q_ind, q_eqii, q_eqss, q_eqbb, q_eqsi, q_eqtt, q_eqll, q_eqtn, q_eqnt, q_eqnn, q_ixD, q_ixC, q_ixK, q_ixKs, q_seqCd, q_lent, q_lenl, q_lend, q_lenr, q_lenCl, q_lenCd, q_abs, q_bint, q_bintb, q_bmin, q_bmax, q_btuple, q_bt1, q_blistt, q_blistl, q_blists, q_blistr, q_bll1, q_sset, q_sset1, q_lrange, q_trange, q_app, q_app1, flatD, eqv_str, eqv_int, eqv_bl, eqv_non, eqv_si, eqv_is, eqv_tup, eqv_lst, eqv_tn, eqv_nt, eqvs_nil, eqvs_cons, eqvs_nc, eqvs_cn, okN_non, okN_bl, okN_int, okN_str, okN_t64, okN_l64, okN_t63, okN_l63, okN_t62, okN_l62, okNs_nil, okNs_cons, eqS, setAll, inD, keyOf]
  have s3 : exec (callD fs (k + 9)) (.iff (.not (.call 43 (.cons (.var 4) (.cons (.bin .Add (.var 5) (.lst (.cons (.blt .tuple (.cons (.comp (.var 7) (.nm 7) (.sSeq (.var 3)) (.or (.cmp .Eq (.var 7) (.cst (.int 0))) (.cmp .In (.var 7) (.idx (.var 2) (.cst (.int 0))))) [7]) .nil)) (.cons (.cst (.bl true)) .nil)))) .nil)))) (.seq (.ret (.cst (.bl false))) .skip) .skip) [some (.ref 0), some (pD P), some (webD P P.length), some (rgL P), some (.lst [T1, T2, T3, .bl true]), some (.lst [T1, T2]), none, none, none, none, none, none, none, none] (cM c rest) = some (.nx [some (.ref 0), some (pD P), some (webD P P.length), some (rgL P), some (.lst [T1, T2, T3, .bl true]), some (.lst [T1, T2]), none, none, none, none, none, none, none, none] (cM c rest)) := by
    have hd : ev (callD fs (k + 9)) (.comp (.var 7) (.nm 7) (.sSeq (.var 3)) (.or (.cmp .Eq (.var 7) (.cst (.int 0))) (.cmp .In (.var 7) (.idx (.var 2) (.cst (.int 0))))) [7]) [some (.ref 0), some (pD P), some (webD P P.length), some (rgL P), some (.lst [T1, T2, T3, .bl true]), some (.lst [T1, T2]), none, none, none, none, none, none, none, none] (cM c rest) = some (.lst ((reachL P).map nD), cM c rest) := by
      unfold reachL
      rw [hW2]
      refine comp_nats (l := List.range P.length) (d := rgL P) lr _ nD rfl rfl fun j hj => ⟨.bl (decide (j = 0) || W.contains j), ?_, rfl, fun _ => rfl⟩
      show ev (callD fs (k + 9)) (.or (.cmp .Eq (.var 7) (.cst (.int 0))) (.cmp .In (.var 7) (.idx (.var 2) (.cst (.int 0))))) [some (.ref 0), some (pD P), some (webD P P.length), some (rgL P), some (.lst [T1, T2, T3, .bl true]), some (.lst [T1, T2]), none, some (nD j), none, none, none, none, none, none] (cM c rest) = _
      have hi := in_nats (M := cM c rest) (j := j) (l := W)
      generalize D.lst [T1, T2, T3, .bl true] = t4 at *
      generalize D.lst [T1, T2] = t5 at *
      simp only [webD]
      generalize (web (nxt P) P.length P.length).map nL = w at *
      generalize nL W = v at *
      generalize W.contains j = t at *
      generalize rgL P = r at *
      generalize pD P = y at *
      by_cases z : j = 0
      · subst z
        simp -implicitDefEqProofs [q_or, q_or1, q_or2, q_cmp, q_cmp1, q_cmp2, q_var, q_pr, q_cst, q_eq, q_rd_int, q_eqii, q_bl, q_truD, q_rd_bl, q_truCb, q_idx, q_ix1, q_ix2, q_ixD, q_ixC, hAt, q_in, hi]
      · have z2 : ¬ (j : Int) = 0 := by omega
        simp -implicitDefEqProofs [q_or, q_or1, q_or2, q_cmp, q_cmp1, q_cmp2, q_var, q_pr, q_cst, q_eq, q_rd_int, q_eqii, q_bl, q_truD, q_rd_bl, q_truCb, q_idx, q_ix1, q_ix2, q_ixD, q_ixC, q_seqOf, q_seqCl, q_dctOf, q_dctCl, q_rd_lst, hAt, q_in, hi, z, z2]
    have hlk : (D.lst [T1, T2, T3, .bl true]).lk 5 = true := by
      have k1 : T1.lk 4 = true := lk_lst (by rw [List.length_map, List.length_range]; omega) (like_list fun x _ => lk_nats (n := 2) (by have := nxt_len hP (p := x); omega))
      have k2 : T2.lk 4 = true := lk_nats (by have := List.length_filter_le (fun p => (nxt P p).isEmpty) (List.range P.length); rw [List.length_range] at this; omega)
      have k3 : T3.lk 4 = true := lk_nats (by
        unfold reachL
        have := List.length_filter_le (fun p => decide (p = 0) || ((web (nxt P) P.length P.length).getD 0 []).contains p) (List.range P.length)
        rw [List.length_range] at this
        omega)
      refine lk_lst (by show 4 ≤ 1000; decide) ?_
      rw [lks_cons, lks_cons, lks_cons, lks_cons, k1, k2, k3]
      rfl
    have hl := like (k := k + 2) hM hlk
    have h3 : T3 = .tup ((reachL P).map nD) := rfl
    rw [h3] at hl ⊢
    rw [h3] at hd
    generalize (reachL P).map nD = t3 at *
    generalize T1 = t1 at *
    generalize T2 = t2 at *
    generalize rgL P = r at *
    generalize webD P P.length = w at *
    generalize pD P = y at *
    simp -implicitDefEqProofs [q_pr, q_bl, q_var, q_cst, q_bin, q_bin1, q_bin2, q_cmp, q_cmp1, q_cmp2, q_ch, q_ch1, q_ch2, q_ch3, q_neg, q_neg1, q_not, q_not1, q_not2, q_and, q_and1, q_and2, q_or, q_or1, q_or2, q_ite, q_ite1, q_ite2, q_tup, q_tup1, q_lst, q_lst1, q_dsp, q_dsp1, q_dsp2, q_idx, q_ix1, q_ix2, q_slice, q_sl1, q_sl2, q_sl3, q_slP00, q_slP10, q_slP01, q_slP11, q_slCt, q_slCl, q_rev, q_rev1, q_revD, q_revCl, q_revCt, q_call, q_call1, q_blt, q_blt1, q_isi, q_isi1, q_mth, q_m1, q_m2, q_m3, q_nil, q_cons, q_c1, q_c2, q_sSeq, q_sSeq1, q_sEnum, q_sEnum1, q_sR, q_sR1, q_sR2, q_sZ, q_sZ1, q_sZ2, q_seq, q_seqn, q_seqr, q_seqb, q_seqc, q_skip, q_brk, q_cont, q_asg, q_asg1, q_asg2, q_at_nm, q_at_tp, q_at_nil, q_at_cons, q_at1, q_box, q_box1, q_box2, q_bxl, q_bxd, q_bxf, q_par, q_par1, q_par2, q_bs0, q_bs, q_bs1, q_seti, q_st1, q_st2, q_st3, q_st4, q_putD, q_putL, q_putL1, q_putK, q_putKs, q_putK1, q_expr, q_ex1, q_ret, q_ret1, q_if, q_if1, q_if2, q_rd_non, q_rd_bl, q_rd_int, q_rd_str, q_rd_tup, q_rd_lst, q_rd_dct, q_rd_ref, q_rdOl, q_rdOd, q_seqOf, q_seqCt, q_seqCl, q_lstOf, q_lstCl, q_dctOf, q_dctCd, q_dctCt, q_dctCl, q_dctCs, q_truD, q_truCb, q_truCi, q_truCn, q_truCt, q_truCl, q_truCd, q_isiD, q_isiCn, q_isiCb, q_isiCi, q_isiCs, q_isiCt, q_isiCl, q_binD, b_add, b_sub, b_mul, b_div, b_mod, b_shl, b_pow, b_shr, b_and, b_or, b_xor, b_adds, b_addt, b_addl, b_mult, b_mull, q_nb, q_eq, q_ne, q_in, q_nin, q_lt, q_le, q_gt, q_ge, q_isb, q_isn, q_isi', q_ist, q_isl, q_iss, q_isbn, q_isr, q_isd, q_inb, q_inn, q_ini, q_int, q_inl, q_ins, q_inr, q_ind, q_eqii, q_eqss, q_eqbb, q_eqsi, q_eqtt, q_eqll, q_eqtn, q_eqnt, q_eqnn, q_ixD, q_ixC, q_ixK, q_ixKs, q_seqCd, q_lent, q_lenl, q_lend, q_lenr, q_lenCl, q_lenCd, q_abs, q_bint, q_bintb, q_bmin, q_bmax, q_btuple, q_bt1, q_blistt, q_blistl, q_blists, q_blistr, q_bll1, q_sset, q_sset1, q_lrange, q_trange, q_app, q_app1, flatD, eqv_str, eqv_int, eqv_bl, eqv_non, eqv_si, eqv_is, eqv_tup, eqv_lst, eqv_tn, eqv_nt, eqvs_nil, eqvs_cons, eqvs_nc, eqvs_cn, okN_non, okN_bl, okN_int, okN_str, okN_t64, okN_l64, okN_t63, okN_l63, okN_t62, okN_l62, okNs_nil, okNs_cons, eqS, setAll, inD, keyOf, hd, hl, line]
  generalize some (D.lst [T1, T2, T3, .bl true]) = z4 at s1 s2 s3
  generalize some (D.lst [T1, T2]) = z5 at s2 s3
  have hw : ∀ M', Walk (.rng 0 5) M' ((List.range 5).map fun k => .int (0 + (k : Nat))) := fun M' => walk_range (n := 5) (by decide)
  obtain ⟨σ', M', hf, c1, y4, y6, y7, y8, y9, y10, y11, rfl, rfl⟩ := for_ok (s := .rng 0 5) (t := .nm 6) (b := exec (callD fs (k + 9)) (.seq (.parN [7, 8] [false, false] (.cons (.call 41 (.cons (.var 0) (.cons (.var 3) .nil))) (.cons (.call 41 (.cons (.var 0) (.cons (.var 3) .nil))) .nil))) (.seq (.parN [4, 9] [false, false] (.cons (.call 34 (.cons (.var 1) (.cons (.var 7) (.cons (.var 8) .nil)))) (.cons (.call 48 (.cons (.var 1) (.cons (.var 7) (.cons (.var 8) .nil)))) .nil))) (.seq (.iff (.cmp .NotEq (.cmp .Is (.var 4) (.cst .non)) (.cmp .Is (.var 9) (.cst .non))) (.seq (.ret (.cst (.bl false))) .skip) .skip) (.seq (.iff (.and (.cmp .IsNot (.var 4) (.cst .non)) (.or (.not (.call 49 (.cons (.var 1) (.cons (.var 4) .nil)))) (.or (.cmp .NotEq (.blt .len (.cons (.var 4) .nil)) (.bin .Add (.var 9) (.cst (.int 1)))) (.cmp .NotEq (.tup (.cons (.idx (.var 4) (.cst (.int 0))) (.cons (.idx (.var 4) (.neg (.cst (.int 1)))) .nil))) (.tup (.cons (.var 7) (.cons (.var 8) .nil))))))) (.seq (.ret (.cst (.bl false))) .skip) .skip) (.seq (.asg (.nm 10) (.ite (.cmp .IsNot (.var 4) (.cst .non)) (.var 4) (.tup (.cons (.var 7) (.cons (.var 8) .nil))))) (.seq (.asg (.nm 11) (.lst (.cons (.var 10) (.cons (.rev (.var 10)) (.cons (.blt .list (.cons (.var 10) .nil)) (.cons (.bin .Add (.var 10) (.slice (.var 10) (.cons (.neg (.cst (.int 1))) .nil) .nil)) (.cons (.slice (.var 10) (.cons (.cst (.int 1)) .nil) .nil) (.cons (.bin .Add (.var 10) (.tup (.cons (.blt .len (.cons (.var 1) .nil)) .nil))) (.cons (.tup .nil) (.cons (.tup (.cons (.var 7) .nil)) (.cons (.cst .non) (.cons (.cst (.int 0)) .nil)))))))))))) (.seq (.asg (.nm 11) (.bin .Add (.var 11) (.lst (.cons (.tup (.cons (.cst (.bl true)) .nil)) (.cons (.tup (.cons (.neg (.cst (.int 1))) .nil)) (.cons (.call 45 (.cons (.var 0) (.cons (.var 10) .nil))) (.cons (.blt .tuple (.cons (.var 3) .nil)) .nil))))))) (.seq (.iff (.cmp .NotEq (.comp (.var 13) (.nm 13) (.sSeq (.var 11)) (.not (.call 43 (.cons (.call 35 (.cons (.var 1) (.cons (.var 13) .nil))) (.cons (.call 49 (.cons (.var 1) (.cons (.var 13) .nil))) .nil)))) [13]) (.lst .nil)) (.seq (.ret (.cst (.bl false))) .skip) .skip) .skip))))))))) ((List.range 5).map fun k => .int (0 + (k : Nat)))
    (fun _ σ' M' => ∃ (c' : Cup) (y4 y6 y7 y8 y9 y10 y11 : Option D), σ' = [some (.ref 0), some (pD P), some (webD P P.length), some (rgL P), y4, z5, y6, y7, y8, y9, y10, y11, none, none] ∧ M' = cM c' rest) (fun _ _ M' _ => hw M') (by
    rintro j σ' M' x hx ⟨c1, y4, y6, y7, y8, y9, y10, y11, rfl, rfl⟩
    obtain ⟨c2, x4, x7, x8, x9, x10, x11, r⟩ := turn_one (k := k) c1 (cM_ok hM) hP (z2 := some (webD P P.length)) (z4 := y4) (z5 := z5) (z6 := some x) (z7 := y7) (z8 := y8) (z9 := y9) (z10 := y10) (z11 := y11) (z12 := none) (z13 := none)
    exact ⟨_, rfl, _, _, .inl r, c2, x4, some x, x7, x8, x9, x10, x11, rfl, rfl⟩) 5 0 [some (.ref 0), some (pD P), some (webD P P.length), some (rgL P), z4, z5, none, none, none, none, none, none, none, none] (cM c rest) (by simp) ⟨c, z4, none, none, none, none, none, none, rfl, rfl⟩
  have s4 : exec (callD fs (k + 9)) (.forr (.nm 6) (.sRange (.cst (.int 0)) (.cst (.int 5))) (.seq (.parN [7, 8] [false, false] (.cons (.call 41 (.cons (.var 0) (.cons (.var 3) .nil))) (.cons (.call 41 (.cons (.var 0) (.cons (.var 3) .nil))) .nil))) (.seq (.parN [4, 9] [false, false] (.cons (.call 34 (.cons (.var 1) (.cons (.var 7) (.cons (.var 8) .nil)))) (.cons (.call 48 (.cons (.var 1) (.cons (.var 7) (.cons (.var 8) .nil)))) .nil))) (.seq (.iff (.cmp .NotEq (.cmp .Is (.var 4) (.cst .non)) (.cmp .Is (.var 9) (.cst .non))) (.seq (.ret (.cst (.bl false))) .skip) .skip) (.seq (.iff (.and (.cmp .IsNot (.var 4) (.cst .non)) (.or (.not (.call 49 (.cons (.var 1) (.cons (.var 4) .nil)))) (.or (.cmp .NotEq (.blt .len (.cons (.var 4) .nil)) (.bin .Add (.var 9) (.cst (.int 1)))) (.cmp .NotEq (.tup (.cons (.idx (.var 4) (.cst (.int 0))) (.cons (.idx (.var 4) (.neg (.cst (.int 1)))) .nil))) (.tup (.cons (.var 7) (.cons (.var 8) .nil))))))) (.seq (.ret (.cst (.bl false))) .skip) .skip) (.seq (.asg (.nm 10) (.ite (.cmp .IsNot (.var 4) (.cst .non)) (.var 4) (.tup (.cons (.var 7) (.cons (.var 8) .nil))))) (.seq (.asg (.nm 11) (.lst (.cons (.var 10) (.cons (.rev (.var 10)) (.cons (.blt .list (.cons (.var 10) .nil)) (.cons (.bin .Add (.var 10) (.slice (.var 10) (.cons (.neg (.cst (.int 1))) .nil) .nil)) (.cons (.slice (.var 10) (.cons (.cst (.int 1)) .nil) .nil) (.cons (.bin .Add (.var 10) (.tup (.cons (.blt .len (.cons (.var 1) .nil)) .nil))) (.cons (.tup .nil) (.cons (.tup (.cons (.var 7) .nil)) (.cons (.cst .non) (.cons (.cst (.int 0)) .nil)))))))))))) (.seq (.asg (.nm 11) (.bin .Add (.var 11) (.lst (.cons (.tup (.cons (.cst (.bl true)) .nil)) (.cons (.tup (.cons (.neg (.cst (.int 1))) .nil)) (.cons (.call 45 (.cons (.var 0) (.cons (.var 10) .nil))) (.cons (.blt .tuple (.cons (.var 3) .nil)) .nil))))))) (.seq (.iff (.cmp .NotEq (.comp (.var 13) (.nm 13) (.sSeq (.var 11)) (.not (.call 43 (.cons (.call 35 (.cons (.var 1) (.cons (.var 13) .nil))) (.cons (.call 49 (.cons (.var 1) (.cons (.var 13) .nil))) .nil)))) [13]) (.lst .nil)) (.seq (.ret (.cst (.bl false))) .skip) .skip) .skip))))))))) [some (.ref 0), some (pD P), some (webD P P.length), some (rgL P), z4, z5, none, none, none, none, none, none, none, none] (cM c rest) = some (.nx [some (.ref 0), some (pD P), some (webD P P.length), some (rgL P), y4, z5, y6, y7, y8, y9, y10, y11, none, none] (cM c1 rest)) := exec_for (its := (List.range 5).map fun k => .int (0 + (k : Nat))) rfl (hw _) hf
  obtain ⟨r4, c2, q4, hr⟩ := roll_n (k := k + 8) (many := 4) c1 (cM_ok hM) (by decide) (by decide)
  have hM2 : OkM (cM c2 rest) := cM_ok hM
  have J := job hP q4
  let ps : List Nat := 0 :: tailP 2 P 20 (St.of [(r4 : Int), 1, 2, 3] [0, 0, 0, 0, 0, 0, 0, 0])
  have hps : ∀ p ∈ ps, p < 60 := tail_ok hP 20 J.s
  have hre : ∀ p ∈ ps, p ∈ reachL P := tail_reach hP (w := 2) 20 (s := St.of [(r4 : Int), 1, 2, 3] [0, 0, 0, 0, 0, 0, 0, 0]) ((reachL_mem hP).mpr (.inl rfl))
  have hpl := places_met (k := k) hM2 J (most := 20) (by decide)
  have he : placesD ps = .tup (((List.range 60).filter fun p => ps.contains p).map nD) := places_eq (fun p => by
    rw [List.mem_filter, List.mem_range, List.contains_iff_mem]
    exact ⟨fun h => ⟨hps p h, h⟩, fun h => h.2⟩) (range_sorted 60 _)
  have hpl : callD fs (k + 9) 38 [nD 2, pD P, inD' [(r4 : Int), 1, 2, 3] [0, 0, 0, 0, 0, 0, 0, 0], nD 20] (cM c2 rest) = some (.tup (((List.range 60).filter fun p => ps.contains p).map nD), cM c2 rest) := by rw [← he]; exact hpl
  let qs := (List.range 60).filter fun p => ps.contains p
  have hpl : callD fs (k + 9) 38 [.int 2, pD P, .tup [.tup [.int (r4 : Int), .int 1, .int 2, .int 3], .tup [.int 0, .int 0, .int 0, .int 0, .int 0, .int 0, .int 0, .int 0]], .int 20] (cM c2 rest) = some (.tup (qs.map nD), cM c2 rest) := hpl
  have hq : ∀ p ∈ qs, p ∈ reachL P := fun p hp => by
    have := (List.mem_filter.mp hp).2
    rw [List.contains_iff_mem] at this
    exact hre p this
  have lq : qs.length ≤ 1000 := by
    have := List.length_filter_le (fun p => ps.contains p) (List.range 60)
    rw [List.length_range] at this
    show ((List.range 60).filter fun p => ps.contains p).length ≤ 1000
    omega
  generalize qs = qs at hpl hq lq
  have s5 : exec (callD fs (k + 9)) (.asg (.nm 12) (.call 38 (.cons (.cst (.int 2)) (.cons (.var 1) (.cons (.tup (.cons (.tup (.cons (.call 40 (.cons (.var 0) (.cons (.cst (.int 4)) .nil))) (.cons (.cst (.int 1)) (.cons (.cst (.int 2)) (.cons (.cst (.int 3)) .nil))))) (.cons (.bin .Mult (.tup (.cons (.cst (.int 0)) .nil)) (.cst (.int 8))) .nil))) (.cons (.cst (.int 20)) .nil)))))) [some (.ref 0), some (pD P), some (webD P P.length), some (rgL P), y4, z5, y6, y7, y8, y9, y10, y11, none, none] (cM c1 rest) = some (.nx [some (.ref 0), some (pD P), some (webD P P.length), some (rgL P), y4, z5, y6, y7, y8, y9, y10, y11, some (.tup (qs.map nD)), none] (cM c2 rest)) := by
    have hm : binD (cM c2 rest) .Mult (.tup [.int 0]) (.int 8) = some (.tup [.int 0, .int 0, .int 0, .int 0, .int 0, .int 0, .int 0, .int 0]) := rfl
    generalize webD P P.length = w at *
    generalize rgL P = r at *
    generalize pD P = y at *
    generalize qs.map nD = q at *
    simp -implicitDefEqProofs [q_pr, q_bl, q_var, q_cst, q_bin, q_bin1, q_bin2, q_cmp, q_cmp1, q_cmp2, q_ch, q_ch1, q_ch2, q_ch3, q_neg, q_neg1, q_not, q_not1, q_not2, q_and, q_and1, q_and2, q_or, q_or1, q_or2, q_ite, q_ite1, q_ite2, q_tup, q_tup1, q_lst, q_lst1, q_dsp, q_dsp1, q_dsp2, q_idx, q_ix1, q_ix2, q_slice, q_sl1, q_sl2, q_sl3, q_slP00, q_slP10, q_slP01, q_slP11, q_slCt, q_slCl, q_rev, q_rev1, q_revD, q_revCl, q_revCt, q_call, q_call1, q_blt, q_blt1, q_isi, q_isi1, q_mth, q_m1, q_m2, q_m3, q_nil, q_cons, q_c1, q_c2, q_sSeq, q_sSeq1, q_sEnum, q_sEnum1, q_sR, q_sR1, q_sR2, q_sZ, q_sZ1, q_sZ2, q_seq, q_seqn, q_seqr, q_seqb, q_seqc, q_skip, q_brk, q_cont, q_asg, q_asg1, q_asg2, q_at_nm, q_at_tp, q_at_nil, q_at_cons, q_at1, q_box, q_box1, q_box2, q_bxl, q_bxd, q_bxf, q_par, q_par1, q_par2, q_bs0, q_bs, q_bs1, q_seti, q_st1, q_st2, q_st3, q_st4, q_putD, q_putL, q_putL1, q_putK, q_putKs, q_putK1, q_expr, q_ex1, q_ret, q_ret1, q_if, q_if1, q_if2, q_rd_non, q_rd_bl, q_rd_int, q_rd_str, q_rd_tup, q_rd_lst, q_rd_dct, q_rd_ref, q_rdOl, q_rdOd, q_seqOf, q_seqCt, q_seqCl, q_lstOf, q_lstCl, q_dctOf, q_dctCd, q_dctCt, q_dctCl, q_dctCs, q_truD, q_truCb, q_truCi, q_truCn, q_truCt, q_truCl, q_truCd, q_isiD, q_isiCn, q_isiCb, q_isiCi, q_isiCs, q_isiCt, q_isiCl, q_binD, b_add, b_sub, b_mul, b_div, b_mod, b_shl, b_pow, b_shr, b_and, b_or, b_xor, b_adds, b_addt, b_addl, b_mult, b_mull, q_nb, q_eq, q_ne, q_in, q_nin, q_lt, q_le, q_gt, q_ge, q_isb, q_isn, q_isi', q_ist, q_isl, q_iss, q_isbn, q_isr, q_isd, q_inb, q_inn, q_ini, q_int, q_inl, q_ins, q_inr, q_ind, q_eqii, q_eqss, q_eqbb, q_eqsi, q_eqtt, q_eqll, q_eqtn, q_eqnt, q_eqnn, q_ixD, q_ixC, q_ixK, q_ixKs, q_seqCd, q_lent, q_lenl, q_lend, q_lenr, q_lenCl, q_lenCd, q_abs, q_bint, q_bintb, q_bmin, q_bmax, q_btuple, q_bt1, q_blistt, q_blistl, q_blists, q_blistr, q_bll1, q_sset, q_sset1, q_lrange, q_trange, q_app, q_app1, flatD, eqv_str, eqv_int, eqv_bl, eqv_non, eqv_si, eqv_is, eqv_tup, eqv_lst, eqv_tn, eqv_nt, eqvs_nil, eqvs_cons, eqvs_nc, eqvs_cn, okN_non, okN_bl, okN_int, okN_str, okN_t64, okN_l64, okN_t63, okN_l63, okN_t62, okN_l62, okNs_nil, okNs_cons, eqS, setAll, inD, keyOf, hr]
    simp -implicitDefEqProofs [List.replicate, q_pr, q_bl, q_var, q_cst, q_bin, q_bin1, q_bin2, q_cmp, q_cmp1, q_cmp2, q_ch, q_ch1, q_ch2, q_ch3, q_neg, q_neg1, q_not, q_not1, q_not2, q_and, q_and1, q_and2, q_or, q_or1, q_or2, q_ite, q_ite1, q_ite2, q_tup, q_tup1, q_lst, q_lst1, q_dsp, q_dsp1, q_dsp2, q_idx, q_ix1, q_ix2, q_slice, q_sl1, q_sl2, q_sl3, q_slP00, q_slP10, q_slP01, q_slP11, q_slCt, q_slCl, q_rev, q_rev1, q_revD, q_revCl, q_revCt, q_call, q_call1, q_blt, q_blt1, q_isi, q_isi1, q_mth, q_m1, q_m2, q_m3, q_nil, q_cons, q_c1, q_c2, q_sSeq, q_sSeq1, q_sEnum, q_sEnum1, q_sR, q_sR1, q_sR2, q_sZ, q_sZ1, q_sZ2, q_seq, q_seqn, q_seqr, q_seqb, q_seqc, q_skip, q_brk, q_cont, q_asg, q_asg1, q_asg2, q_at_nm, q_at_tp, q_at_nil, q_at_cons, q_at1, q_box, q_box1, q_box2, q_bxl, q_bxd, q_bxf, q_par, q_par1, q_par2, q_bs0, q_bs, q_bs1, q_seti, q_st1, q_st2, q_st3, q_st4, q_putD, q_putL, q_putL1, q_putK, q_putKs, q_putK1, q_expr, q_ex1, q_ret, q_ret1, q_if, q_if1, q_if2, q_rd_non, q_rd_bl, q_rd_int, q_rd_str, q_rd_tup, q_rd_lst, q_rd_dct, q_rd_ref, q_rdOl, q_rdOd, q_seqOf, q_seqCt, q_seqCl, q_lstOf, q_lstCl, q_dctOf, q_dctCd, q_dctCt, q_dctCl, q_dctCs, q_truD, q_truCb, q_truCi, q_truCn, q_truCt, q_truCl, q_truCd, q_isiD, q_isiCn, q_isiCb, q_isiCi, q_isiCs, q_isiCt, q_isiCl, q_binD, b_add, b_sub, b_mul, b_div, b_mod, b_shl, b_pow, b_shr, b_and, b_or, b_xor, b_adds, b_addt, b_addl, b_mult, b_mull, q_nb, q_eq, q_ne, q_in, q_nin, q_lt, q_le, q_gt, q_ge, q_isb, q_isn, q_isi', q_ist, q_isl, q_iss, q_isbn, q_isr, q_isd, q_inb, q_inn, q_ini, q_int, q_inl, q_ins, q_inr, q_ind, q_eqii, q_eqss, q_eqbb, q_eqsi, q_eqtt, q_eqll, q_eqtn, q_eqnt, q_eqnn, q_ixD, q_ixC, q_ixK, q_ixKs, q_seqCd, q_lent, q_lenl, q_lend, q_lenr, q_lenCl, q_lenCd, q_abs, q_bint, q_bintb, q_bmin, q_bmax, q_btuple, q_bt1, q_blistt, q_blistl, q_blists, q_blistr, q_bll1, q_sset, q_sset1, q_lrange, q_trange, q_app, q_app1, flatD, eqv_str, eqv_int, eqv_bl, eqv_non, eqv_si, eqv_is, eqv_tup, eqv_lst, eqv_tn, eqv_nt, eqvs_nil, eqvs_cons, eqvs_nc, eqvs_cn, okN_non, okN_bl, okN_int, okN_str, okN_t64, okN_l64, okN_t63, okN_l63, okN_t62, okN_l62, okNs_nil, okNs_cons, eqS, setAll, inD, keyOf, hpl]
  have s6 : ev (callD fs (k + 9)) (.comp (.var 7) (.nm 7) (.sSeq (.var 12)) (.cmp .NotIn (.var 7) (.call 33 (.cons (.var 1) .nil))) [7]) [some (.ref 0), some (pD P), some (webD P P.length), some (rgL P), y4, z5, y6, y7, y8, y9, y10, y11, some (.tup (qs.map nD)), none] (cM c2 rest) = some (.lst [], cM c2 rest) := by
    rw [comp_nats (l := qs) (d := .tup (qs.map nD)) lq (fun j => !(reachL P).contains j) nD rfl rfl fun j hj => ⟨.bl (!(reachL P).contains j), ?_, rfl, fun _ => rfl⟩]
    · rw [List.filter_eq_nil_iff.mpr fun j hj => ?_]
      · rfl
      · have := hq j hj
        simp [this]
    · show ev (callD fs (k + 9)) (.cmp .NotIn (.var 7) (.call 33 (.cons (.var 1) .nil))) [some (.ref 0), some (pD P), some (webD P P.length), some (rgL P), y4, z5, y6, some (nD j), y8, y9, y10, y11, some (.tup (qs.map nD)), none] (cM c2 rest) = _
      have h3 := reached (k := k + 1) hM2 hP
      have hi := in_tups (M := cM c2 rest) (j := j) (l := reachL P)
      generalize webD P P.length = w at *
      generalize rgL P = r at *
      generalize (reachL P).contains j = t at *
      generalize D.tup ((reachL P).map nD) = v at *
      generalize D.tup (qs.map nD) = q at *
      generalize pD P = y at *
      simp -implicitDefEqProofs [q_cmp, q_cmp1, q_cmp2, q_var, q_pr, q_call, q_call1, q_cons, q_c1, q_c2, q_nil, h3, q_nin, hi, q_nb, q_bl]
  have he : eqC (.lst []) (.lst []) = some true := eq_lnil (xs := []) rfl
  refine ⟨c2, ?_⟩
  unfold b50
  rw [q_seq, s0, q_seqn, q_seq, s1, q_seqn, q_seq, s2, q_seqn, q_seq, s3, q_seqn, q_seq, s4, q_seqn, q_seq, s5, q_seqn, q_seq, q_ret, q_cmp, s6]
  generalize webD P P.length = w at *
  generalize rgL P = r at *
  generalize D.tup (qs.map nD) = q at *
  generalize pD P = y at *
  simp -implicitDefEqProofs [q_pr, q_bl, q_var, q_cst, q_bin, q_bin1, q_bin2, q_cmp, q_cmp1, q_cmp2, q_ch, q_ch1, q_ch2, q_ch3, q_neg, q_neg1, q_not, q_not1, q_not2, q_and, q_and1, q_and2, q_or, q_or1, q_or2, q_ite, q_ite1, q_ite2, q_tup, q_tup1, q_lst, q_lst1, q_dsp, q_dsp1, q_dsp2, q_idx, q_ix1, q_ix2, q_slice, q_sl1, q_sl2, q_sl3, q_slP00, q_slP10, q_slP01, q_slP11, q_slCt, q_slCl, q_rev, q_rev1, q_revD, q_revCl, q_revCt, q_call, q_call1, q_blt, q_blt1, q_isi, q_isi1, q_mth, q_m1, q_m2, q_m3, q_nil, q_cons, q_c1, q_c2, q_sSeq, q_sSeq1, q_sEnum, q_sEnum1, q_sR, q_sR1, q_sR2, q_sZ, q_sZ1, q_sZ2, q_seq, q_seqn, q_seqr, q_seqb, q_seqc, q_skip, q_brk, q_cont, q_asg, q_asg1, q_asg2, q_at_nm, q_at_tp, q_at_nil, q_at_cons, q_at1, q_box, q_box1, q_box2, q_bxl, q_bxd, q_bxf, q_par, q_par1, q_par2, q_bs0, q_bs, q_bs1, q_seti, q_st1, q_st2, q_st3, q_st4, q_putD, q_putL, q_putL1, q_putK, q_putKs, q_putK1, q_expr, q_ex1, q_ret, q_ret1, q_if, q_if1, q_if2, q_rd_non, q_rd_bl, q_rd_int, q_rd_str, q_rd_tup, q_rd_lst, q_rd_dct, q_rd_ref, q_rdOl, q_rdOd, q_seqOf, q_seqCt, q_seqCl, q_lstOf, q_lstCl, q_dctOf, q_dctCd, q_dctCt, q_dctCl, q_dctCs, q_truD, q_truCb, q_truCi, q_truCn, q_truCt, q_truCl, q_truCd, q_isiD, q_isiCn, q_isiCb, q_isiCi, q_isiCs, q_isiCt, q_isiCl, q_binD, b_add, b_sub, b_mul, b_div, b_mod, b_shl, b_pow, b_shr, b_and, b_or, b_xor, b_adds, b_addt, b_addl, b_mult, b_mull, q_nb, q_eq, q_ne, q_in, q_nin, q_lt, q_le, q_gt, q_ge, q_isb, q_isn, q_isi', q_ist, q_isl, q_iss, q_isbn, q_isr, q_isd, q_inb, q_inn, q_ini, q_int, q_inl, q_ins, q_inr, q_ind, q_eqii, q_eqss, q_eqbb, q_eqsi, q_eqtt, q_eqll, q_eqtn, q_eqnt, q_eqnn, q_ixD, q_ixC, q_ixK, q_ixKs, q_seqCd, q_lent, q_lenl, q_lend, q_lenr, q_lenCl, q_lenCd, q_abs, q_bint, q_bintb, q_bmin, q_bmax, q_btuple, q_bt1, q_blistt, q_blistl, q_blists, q_blistr, q_bll1, q_sset, q_sset1, q_lrange, q_trange, q_app, q_app1, flatD, eqv_str, eqv_int, eqv_bl, eqv_non, eqv_si, eqv_is, eqv_tup, eqv_lst, eqv_tn, eqv_nt, eqvs_nil, eqvs_cons, eqvs_nc, eqvs_cn, okN_non, okN_bl, okN_int, okN_str, okN_t64, okN_l64, okN_t63, okN_l63, okN_t62, okN_l62, okNs_nil, okNs_cons, eqS, setAll, inD, keyOf, he]
theorem law_written_right : callD fs (k + 11) 51 [] [] = some (.bl true, []) := by kernel_rfl
theorem law_all {ns : List Int} (hn : ns.length ≤ 63) : callD fs (k + 12) 52 [.scr (ns.map D.int)] [] = some (.bl true, []) := by
  obtain ⟨a, b, ha, hb, r0⟩ := law_cup (k := k + 10) hn
  have hM : OkM (cM ⟨a, b, ha, hb⟩ []) := rfl
  have rw_ := law_written_right (k := k)
  have hw : ∀ M', Walk (.seq (.tup [.int 1, .int 4, .int 8, .int 14, .int 30])) M' [.int 1, .int 4, .int 8, .int 14, .int 30] := fun M' => walk_seq rfl
  obtain ⟨σ', M', hf, c1, z, rfl, rfl⟩ := for_ok (s := .seq (.tup [.int 1, .int 4, .int 8, .int 14, .int 30])) (t := .nm 2) (b := exec (callD fs (k + 11)) (.seq (.iff (.not (.call 50 (.cons (.var 1) (.cons (.call 44 (.cons (.var 1) (.cons (.var 2) .nil))) .nil)))) (.seq (.ret (.cst (.bl false))) .skip) .skip) .skip)) [.int 1, .int 4, .int 8, .int 14, .int 30]
    (fun _ σ' M' => ∃ (c' : Cup) (z : Option D), σ' = [some (.scr (ns.map D.int)), some (.ref 0), z] ∧ M' = cM c' []) (fun _ _ M' _ => hw M') (by
    rintro j σ' M' x hx ⟨c1, z, rfl, rfl⟩
    have hx2 : ∃ size : Nat, x = nD size ∧ 1 ≤ size ∧ size ≤ 60 := by
      have := List.mem_of_getElem? hx
      rcases List.mem_cons.mp this with h | h
      · exact ⟨1, h, by decide, by decide⟩
      rcases List.mem_cons.mp h with h | h
      · exact ⟨4, h, by decide, by decide⟩
      rcases List.mem_cons.mp h with h | h
      · exact ⟨8, h, by decide, by decide⟩
      rcases List.mem_cons.mp h with h | h
      · exact ⟨14, h, by decide, by decide⟩
      rcases List.mem_cons.mp h with h | h
      · exact ⟨30, h, by decide, by decide⟩
      cases h
    obtain ⟨size, rfl, s1, s2⟩ := hx2
    obtain ⟨P, c2, hP, r1⟩ := law_program (k := k + 8) c1 (cM_ok hM) s1 s2
    obtain ⟨c3, r2⟩ := law_right (k := k + 1) c2 (cM_ok hM) hP
    refine ⟨_, rfl, [some (.scr (ns.map D.int)), some (.ref 0), some (nD size)], cM c3 [], .inl ?_, c3, _, rfl, rfl⟩
    show exec _ _ [some (.scr (ns.map D.int)), some (.ref 0), some (nD size)] _ = _
    generalize pD P = y at *
    generalize nD size = u at *
    simp -implicitDefEqProofs [q_pr, q_bl, q_var, q_cst, q_bin, q_bin1, q_bin2, q_cmp, q_cmp1, q_cmp2, q_ch, q_ch1, q_ch2, q_ch3, q_neg, q_neg1, q_not, q_not1, q_not2, q_and, q_and1, q_and2, q_or, q_or1, q_or2, q_ite, q_ite1, q_ite2, q_tup, q_tup1, q_lst, q_lst1, q_dsp, q_dsp1, q_dsp2, q_idx, q_ix1, q_ix2, q_slice, q_sl1, q_sl2, q_sl3, q_slP00, q_slP10, q_slP01, q_slP11, q_slCt, q_slCl, q_rev, q_rev1, q_revD, q_revCl, q_revCt, q_call, q_call1, q_blt, q_blt1, q_isi, q_isi1, q_mth, q_m1, q_m2, q_m3, q_nil, q_cons, q_c1, q_c2, q_sSeq, q_sSeq1, q_sEnum, q_sEnum1, q_sR, q_sR1, q_sR2, q_sZ, q_sZ1, q_sZ2, q_seq, q_seqn, q_seqr, q_seqb, q_seqc, q_skip, q_brk, q_cont, q_asg, q_asg1, q_asg2, q_at_nm, q_at_tp, q_at_nil, q_at_cons, q_at1, q_box, q_box1, q_box2, q_bxl, q_bxd, q_bxf, q_par, q_par1, q_par2, q_bs0, q_bs, q_bs1, q_seti, q_st1, q_st2, q_st3, q_st4, q_putD, q_putL, q_putL1, q_putK, q_putKs, q_putK1, q_expr, q_ex1, q_ret, q_ret1, q_if, q_if1, q_if2, q_rd_non, q_rd_bl, q_rd_int, q_rd_str, q_rd_tup, q_rd_lst, q_rd_dct, q_rd_ref, q_rdOl, q_rdOd, q_seqOf, q_seqCt, q_seqCl, q_lstOf, q_lstCl, q_dctOf, q_dctCd, q_dctCt, q_dctCl, q_dctCs, q_truD, q_truCb, q_truCi, q_truCn, q_truCt, q_truCl, q_truCd, q_isiD, q_isiCn, q_isiCb, q_isiCi, q_isiCs, q_isiCt, q_isiCl, q_binD, b_add, b_sub, b_mul, b_div, b_mod, b_shl, b_pow, b_shr, b_and, b_or, b_xor, b_adds, b_addt, b_addl, b_mult, b_mull, q_nb, q_eq, q_ne, q_in, q_nin, q_lt, q_le, q_gt, q_ge, q_isb, q_isn, q_isi', q_ist, q_isl, q_iss, q_isbn, q_isr, q_isd, q_inb, q_inn, q_ini, q_int, q_inl, q_ins, q_inr, q_ind, q_eqii, q_eqss, q_eqbb, q_eqsi, q_eqtt, q_eqll, q_eqtn, q_eqnt, q_eqnn, q_ixD, q_ixC, q_ixK, q_ixKs, q_seqCd, q_lent, q_lenl, q_lend, q_lenr, q_lenCl, q_lenCd, q_abs, q_bint, q_bintb, q_bmin, q_bmax, q_btuple, q_bt1, q_blistt, q_blistl, q_blists, q_blistr, q_bll1, q_sset, q_sset1, q_lrange, q_trange, q_app, q_app1, flatD, eqv_str, eqv_int, eqv_bl, eqv_non, eqv_si, eqv_is, eqv_tup, eqv_lst, eqv_tn, eqv_nt, eqvs_nil, eqvs_cons, eqvs_nc, eqvs_cn, okN_non, okN_bl, okN_int, okN_str, okN_t64, okN_l64, okN_t63, okN_l63, okN_t62, okN_l62, okNs_nil, okNs_cons, eqS, setAll, inD, keyOf, r1, r2]) 5 0 [some (.scr (ns.map D.int)), some (.ref 0), none] (cM ⟨a, b, ha, hb⟩ []) rfl ⟨_, none, rfl, rfl⟩
  refine call_rt (f := f52) (d := .bl true) (M' := cM c1 []) rfl rfl ?_ rfl
  show exec (callD fs (k + 11)) b52 [some (.scr (ns.map D.int)), none, none] [] = _
  unfold b52
  have h0 : exec (callD fs (k + 11)) (.iff (.not (.call 51 .nil)) (.seq (.ret (.cst (.bl false))) .skip) .skip) [some (.scr (ns.map D.int)), none, none] [] = some (.nx [some (.scr (ns.map D.int)), none, none] []) := by
    generalize D.scr (ns.map D.int) = x at *
    simp -implicitDefEqProofs [q_pr, q_bl, q_var, q_cst, q_bin, q_bin1, q_bin2, q_cmp, q_cmp1, q_cmp2, q_ch, q_ch1, q_ch2, q_ch3, q_neg, q_neg1, q_not, q_not1, q_not2, q_and, q_and1, q_and2, q_or, q_or1, q_or2, q_ite, q_ite1, q_ite2, q_tup, q_tup1, q_lst, q_lst1, q_dsp, q_dsp1, q_dsp2, q_idx, q_ix1, q_ix2, q_slice, q_sl1, q_sl2, q_sl3, q_slP00, q_slP10, q_slP01, q_slP11, q_slCt, q_slCl, q_rev, q_rev1, q_revD, q_revCl, q_revCt, q_call, q_call1, q_blt, q_blt1, q_isi, q_isi1, q_mth, q_m1, q_m2, q_m3, q_nil, q_cons, q_c1, q_c2, q_sSeq, q_sSeq1, q_sEnum, q_sEnum1, q_sR, q_sR1, q_sR2, q_sZ, q_sZ1, q_sZ2, q_seq, q_seqn, q_seqr, q_seqb, q_seqc, q_skip, q_brk, q_cont, q_asg, q_asg1, q_asg2, q_at_nm, q_at_tp, q_at_nil, q_at_cons, q_at1, q_box, q_box1, q_box2, q_bxl, q_bxd, q_bxf, q_par, q_par1, q_par2, q_bs0, q_bs, q_bs1, q_seti, q_st1, q_st2, q_st3, q_st4, q_putD, q_putL, q_putL1, q_putK, q_putKs, q_putK1, q_expr, q_ex1, q_ret, q_ret1, q_if, q_if1, q_if2, q_rd_non, q_rd_bl, q_rd_int, q_rd_str, q_rd_tup, q_rd_lst, q_rd_dct, q_rd_ref, q_rdOl, q_rdOd, q_seqOf, q_seqCt, q_seqCl, q_lstOf, q_lstCl, q_dctOf, q_dctCd, q_dctCt, q_dctCl, q_dctCs, q_truD, q_truCb, q_truCi, q_truCn, q_truCt, q_truCl, q_truCd, q_isiD, q_isiCn, q_isiCb, q_isiCi, q_isiCs, q_isiCt, q_isiCl, q_binD, b_add, b_sub, b_mul, b_div, b_mod, b_shl, b_pow, b_shr, b_and, b_or, b_xor, b_adds, b_addt, b_addl, b_mult, b_mull, q_nb, q_eq, q_ne, q_in, q_nin, q_lt, q_le, q_gt, q_ge, q_isb, q_isn, q_isi', q_ist, q_isl, q_iss, q_isbn, q_isr, q_isd, q_inb, q_inn, q_ini, q_int, q_inl, q_ins, q_inr, q_ind, q_eqii, q_eqss, q_eqbb, q_eqsi, q_eqtt, q_eqll, q_eqtn, q_eqnt, q_eqnn, q_ixD, q_ixC, q_ixK, q_ixKs, q_seqCd, q_lent, q_lenl, q_lend, q_lenr, q_lenCl, q_lenCd, q_abs, q_bint, q_bintb, q_bmin, q_bmax, q_btuple, q_bt1, q_blistt, q_blistl, q_blists, q_blistr, q_bll1, q_sset, q_sset1, q_lrange, q_trange, q_app, q_app1, flatD, eqv_str, eqv_int, eqv_bl, eqv_non, eqv_si, eqv_is, eqv_tup, eqv_lst, eqv_tn, eqv_nt, eqvs_nil, eqvs_cons, eqvs_nc, eqvs_cn, okN_non, okN_bl, okN_int, okN_str, okN_t64, okN_l64, okN_t63, okN_l63, okN_t62, okN_l62, okNs_nil, okNs_cons, eqS, setAll, inD, keyOf, rw_]
  have h1 : exec (callD fs (k + 11)) (.box 1 (.call 39 (.cons (.var 0) .nil))) [some (.scr (ns.map D.int)), none, none] [] = some (.nx [some (.scr (ns.map D.int)), some (.ref 0), none] (cM ⟨a, b, ha, hb⟩ [])) := by
    generalize D.scr (ns.map D.int) = x at r0
    simp -implicitDefEqProofs [q_pr, q_bl, q_var, q_cst, q_bin, q_bin1, q_bin2, q_cmp, q_cmp1, q_cmp2, q_ch, q_ch1, q_ch2, q_ch3, q_neg, q_neg1, q_not, q_not1, q_not2, q_and, q_and1, q_and2, q_or, q_or1, q_or2, q_ite, q_ite1, q_ite2, q_tup, q_tup1, q_lst, q_lst1, q_dsp, q_dsp1, q_dsp2, q_idx, q_ix1, q_ix2, q_slice, q_sl1, q_sl2, q_sl3, q_slP00, q_slP10, q_slP01, q_slP11, q_slCt, q_slCl, q_rev, q_rev1, q_revD, q_revCl, q_revCt, q_call, q_call1, q_blt, q_blt1, q_isi, q_isi1, q_mth, q_m1, q_m2, q_m3, q_nil, q_cons, q_c1, q_c2, q_sSeq, q_sSeq1, q_sEnum, q_sEnum1, q_sR, q_sR1, q_sR2, q_sZ, q_sZ1, q_sZ2, q_seq, q_seqn, q_seqr, q_seqb, q_seqc, q_skip, q_brk, q_cont, q_asg, q_asg1, q_asg2, q_at_nm, q_at_tp, q_at_nil, q_at_cons, q_at1, q_box, q_box1, q_box2, q_bxl, q_bxd, q_bxf, q_par, q_par1, q_par2, q_bs0, q_bs, q_bs1, q_seti, q_st1, q_st2, q_st3, q_st4, q_putD, q_putL, q_putL1, q_putK, q_putKs, q_putK1, q_expr, q_ex1, q_ret, q_ret1, q_if, q_if1, q_if2, q_rd_non, q_rd_bl, q_rd_int, q_rd_str, q_rd_tup, q_rd_lst, q_rd_dct, q_rd_ref, q_rdOl, q_rdOd, q_seqOf, q_seqCt, q_seqCl, q_lstOf, q_lstCl, q_dctOf, q_dctCd, q_dctCt, q_dctCl, q_dctCs, q_truD, q_truCb, q_truCi, q_truCn, q_truCt, q_truCl, q_truCd, q_isiD, q_isiCn, q_isiCb, q_isiCi, q_isiCs, q_isiCt, q_isiCl, q_binD, b_add, b_sub, b_mul, b_div, b_mod, b_shl, b_pow, b_shr, b_and, b_or, b_xor, b_adds, b_addt, b_addl, b_mult, b_mull, q_nb, q_eq, q_ne, q_in, q_nin, q_lt, q_le, q_gt, q_ge, q_isb, q_isn, q_isi', q_ist, q_isl, q_iss, q_isbn, q_isr, q_isd, q_inb, q_inn, q_ini, q_int, q_inl, q_ins, q_inr, q_ind, q_eqii, q_eqss, q_eqbb, q_eqsi, q_eqtt, q_eqll, q_eqtn, q_eqnt, q_eqnn, q_ixD, q_ixC, q_ixK, q_ixKs, q_seqCd, q_lent, q_lenl, q_lend, q_lenr, q_lenCl, q_lenCd, q_abs, q_bint, q_bintb, q_bmin, q_bmax, q_btuple, q_bt1, q_blistt, q_blistl, q_blists, q_blistr, q_bll1, q_sset, q_sset1, q_lrange, q_trange, q_app, q_app1, flatD, eqv_str, eqv_int, eqv_bl, eqv_non, eqv_si, eqv_is, eqv_tup, eqv_lst, eqv_tn, eqv_nt, eqvs_nil, eqvs_cons, eqvs_nc, eqvs_cn, okN_non, okN_bl, okN_int, okN_str, okN_t64, okN_l64, okN_t63, okN_l63, okN_t62, okN_l62, okNs_nil, okNs_cons, eqS, setAll, inD, keyOf, r0]
    rfl
  have h2 : exec (callD fs (k + 11)) (.forr (.nm 2) (.sSeq (.tup (.cons (.cst (.int 1)) (.cons (.cst (.int 4)) (.cons (.cst (.int 8)) (.cons (.cst (.int 14)) (.cons (.cst (.int 30)) .nil))))))) (.seq (.iff (.not (.call 50 (.cons (.var 1) (.cons (.call 44 (.cons (.var 1) (.cons (.var 2) .nil))) .nil)))) (.seq (.ret (.cst (.bl false))) .skip) .skip) .skip)) [some (.scr (ns.map D.int)), some (.ref 0), none] (cM ⟨a, b, ha, hb⟩ []) = _ := exec_for (its := [.int 1, .int 4, .int 8, .int 14, .int 30]) rfl (hw _) hf
  rw [q_seq, h0, q_seqn, q_seq, h1, q_seqn, q_seq, h2, q_seqn]
  rfl
end K09
end Mi
namespace Mi
namespace K09
open PySem PySem.Spec PyProof.Rows L2
def lawI : Nat := P0.main.body.length - 1
def lawN : Nat := fns.length - 1
abbrev R : PySem.W.OpenRow := PySem.W.OpenLaw.row PySem.Challenge.rw_allrunstold_k09_whole_ways_of_programs
def fa : List He.Fa := faOf fns
def fn : List He.DefD := fnOf ds
abbrev hk : PySem.W.Hook := hookM 6 fa fn con
def ob (s : PySem.W.SharedT) : He.AlD := obsMG 6 fa fn con (HandSHeadRun.getT s)
theorem ob_eq (s : PySem.W.SharedT) : ob s = hk.obs s.abs := obsMG_eq (HandSHeadRun.getT_eq s)
def loose : List Str := (P0.main.scope.names.map (·.1)).filter fun x => x != "law" && x != "__name__"
theorem run (w : World) : HandSHeadRun.RunEq R (PySem.W.view R.prog [82]) hk ob 4000 loose w := by
  intro os
  kernel_rfl
end K09
end Mi
namespace Mi
namespace K09
open PySem PySem.Spec PyProof.Rows L2
theorem facts {k : Nat} (hl : ∀ ns : List Int, ns.length ≤ 63 → callD fs k 52 [.scr (ns.map D.int)] [] = some (.bl true, [])) {P : Program} {w : World} {K : PySem.W.Frag} {h : Heap} {mg : Str → Option Value} {f : Addr} (X : K.In h) (G : h.Ns mainGlobals mg) (hfa : mg ("law" : Str) = some (.ref f)) (c : SaysM fa fn con K) :
    ∃ fd : FuncData, (∀ (s : Shared) (v : Value), BindsTo s fd ⟨[v], []⟩ [("script", v)]) ∧ ∀ base : Heap, K.In base → base.Ns mainGlobals mg → FnOk P w K mg base CX0 k f fd ["script"] (spLaw K 63) := by
  have ha := at_ok (con := con) (ds := ds) X G c bok
  have hm := mg_ok (con := con) (fns := fns) X G c
  obtain ⟨fl, fd, A⟩ := ha 52 d52 rfl
  have e := hfa.symm.trans A.mg
  cases e
  have b := FunD.bindsA (ps := ["script"]) A.fun_ fun kV doc pm an cdv ct us hl => p52 kV doc pm an cdv ct us hl
  exact ⟨fd, fun s v => b s [v] rfl, fun base _ _ => (fn_ok (w := w) (P := P) (base := base) (frf := frf) (fs := fs) fok nok hm ha k 52 d52 _ fd rfl A).imp (law_sp hl)⟩
end K09
end Mi
open PySem PySem.W PySem.Calls PyProof.Rows
theorem Mi.K09.holds {k : Nat} (hr : L2.Room k callerA) (hl : ∀ ns : List Int, ns.length ≤ 63 → Mi.callD Mi.K09.fs k 52 [.scr (ns.map Mi.D.int)] [] = some (.bl true, [])) : PySem.Challenge.rw_allrunstold_k09_whole_ways_of_programs.Holds := by
  w_on; o_law
  refine HandSHeadRun.head_any (r := OpenLaw.row PySem.Challenge.rw_allrunstold_k09_whole_ways_of_programs) (q := view (OpenLaw.row PySem.Challenge.rw_allrunstold_k09_whole_ways_of_programs).prog [82]) (H := Mi.K09.hk) (ob := Mi.K09.ob) (M := 4000) (loose := Mi.K09.loose) (d := HandSHeadRun.topDef (OpenLaw.row PySem.Challenge.rw_allrunstold_k09_whole_ways_of_programs).prog 82) (kwd := []) Mi.K09.ob_eq
    (by kernel_rfl) (fun s => by kernel_rfl) Mi.K09.run (by kernel_rfl) (by kernel_rfl) (by kernel_rfl) (by rfl) (by first | assumption | decide +kernel) (by decide +kernel) ⟨rfl, rfl, rfl, rfl, rfl, by decide +kernel⟩ ?hw ?hc
  case hw => w_witness2
  case hc =>
    refine L2.walk_ofE (l := PySem.Challenge.rw_allrunstold_k09_whole_ways_of_programs) (n := 63) (k := k) (x := "script") (CX := L2.CX0) rfl (by decide) (by kernel_rfl) hr ?F (fun _ _ _ _ z => z)
    intro w mg fa h Y G hmg0
    obtain ⟨K, KX, c⟩ := Y
    have hmg : mg ("law" : PySem.Str) = some (.ref fa) := by
      have e : (HandSHeadRun.topDef (OpenLaw.row PySem.Challenge.rw_allrunstold_k09_whole_ways_of_programs).prog 82).name = ("law" : PySem.Str) := by kernel_rfl
      rw [← e]
      exact hmg0
    obtain ⟨fd, hb, hF⟩ := Mi.K09.facts hl (P := (PySem.Challenge.rw_allrunstold_k09_whole_ways_of_programs).prog) (w := w) KX G hmg c
    exact ⟨K, fd, Mi.spLaw K 63, KX, hb, fun H a ns hl2 _ hS => ⟨a, ns, rfl, hl2, hS, fun _ => rfl⟩, hF⟩
theorem PySem.Challenge.cw_allrunstold_k09_whole_ways_of_programs_holds : PySem.Challenge.rw_allrunstold_k09_whole_ways_of_programs.Holds :=
  Mi.K09.holds (k := 12) ⟨rfl, by decide, by decide⟩ fun ns hn => Mi.K09.law_all (k := 0) hn
