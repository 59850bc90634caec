import PyProof.Rows.All
import Wide.All
import OpenK.AllK
import Wide.FinOn
import HandS.ForMost
import HandS.ForExc
import HandS.TupAny
import HandS.Wide
import HandS.Deep
import HandS.NoneIn
import HandS.Flow
import HandS.Style
import HandS.IsInst
import HandS.Sort
import HandS.SortInts
import KE.SortData
import KE.DataMinMax
import HandS.Conv
import HandS.RaiseMore
import PyProof.ReprRoads
import HandS.Zip
import KE.GoesEnum
import HandS.Defaults
import HandS.Codes
import HandS.HeadHook1
import HandS.HeadHook2
import HandS.Ends
import HandS.Head0
import HandS.Head1
import HandS.Head2
import PySem.Challenge.RW_doneorundone_k72_whole_writes_and_waits
set_option Elab.async false
set_option linter.all false
set_option maxRecDepth 100000
set_option maxHeartbeats 0
section
/-! GSem: what the program's text means over plain data: values, cells, expressions, statements, defs. -/
namespace Gg
open PySem

/-- a value: plain data, or a list that may change (its place in the store), or the script (a list that is only read), or a tuple of data with such a list last -/
inductive LV where
  | d (x : PyData)
  | ref (k : Nat)
  | ro (xs : List PyData)
  | tr (pre : List PyData) (k : Nat)
inductive Cell where
  | dead
  | lst (xs : List LV)
abbrev Env := List (Option LV)
abbrev Sto := List Cell
abbrev EM := Env → Sto → Option (LV × Sto)
/-- what makes a new list: its items -/
abbrev LM := Env → Sto → Option (List LV × Sto)
inductive Out where
  | nx (e : Env) (m : Sto)
  | rt (v : LV) (m : Sto)
  | bk (e : Env) (m : Sto)
  | ct (e : Env) (m : Sto)
abbrev SM := Env → Sto → Option Out
/-- a target: where a value goes -/
abbrev TM := LV → Env → Sto → Option (Env × Sto)
/-- a def: the arguments, the lists handed over; the answer, the lists behind it, and a new one if the answer has one -/
abbrev Fn := List LV → List (List PyData) → Option (LV × List (List PyData))
/-- the longest list or tuple that is made here -/
def LINE : Nat := 1000000

def allD : List LV → Option (List PyData)
  | [] => some []
  | .d x :: r => (allD r).map (x :: ·)
  | _ :: _ => none
/-- a value read as data -/
def rdD (m : Sto) : LV → Option PyData
  | .d x => some x
  | .ref k => match m[k]? with
    | some (.lst xs) => (allD xs).map .list
    | _ => none
  | .ro _ => none
  | .tr _ _ => none
/-- .. or the script -/
def rdS (m : Sto) : LV → Option PyData
  | .ro xs => some (.list xs)
  | v => rdD m v

/-! ### data -/
def truthD : PyData → Option Bool
  | .none => some false
  | .bool b => some b
  | .int i => some (i != 0)
  | .str s => if s.length ≤ LINE then some ((s.length : Int) != 0) else none
  | .list xs => some (!xs.isEmpty)
  | .tuple xs => some (!xs.isEmpty)
  | .dict _ => none
def ixPos (n : Nat) (i : Int) : Option Nat :=
  if 0 ≤ i then (if i < n then some i.toNat else none) else if -(n : Int) ≤ i then some (i + n).toNat else none
def slPos (n d : Nat) : Option Int → Nat
  | none => d
  | some v => if v < 0 then (v + (n : Int)).toNat else min v.toNat n
def slPart {α : Type} (xs : List α) (lo hi : Option Int) : List α :=
  (xs.drop (slPos xs.length 0 lo)).take (slPos xs.length xs.length hi - slPos xs.length 0 lo)
/-- not far from 0 (said so that the kernel need not count) -/
def rngOk (i : Int) : Bool := Nat.ble i.natAbs 1000000
def mulFits (i j : Int) : Prop := i.natAbs.log2 + j.natAbs.log2 < 1000000
instance (i j : Int) : Decidable (mulFits i j) := inferInstanceAs (Decidable (_ < _))
abbrev B2 := PyData → PyData → Option PyData
def addD : B2
  | .int i, .int j => some (.int (i + j))
  | .str x, .str y => if x.length + y.length ≤ LINE then some (.str (x ++ y)) else none
  | .list xs, .list ys => if xs.length + ys.length ≤ LINE then some (.list (xs ++ ys)) else none
  | .tuple xs, .tuple ys => if xs.length + ys.length ≤ LINE then some (.tuple (xs ++ ys)) else none
  | _, _ => none
def subD : B2
  | .int i, .int j => some (.int (i - j))
  | _, _ => none
def mulD : B2
  | .int i, .int j => if mulFits i j then some (.int (i * j)) else none
  | .list xs, .int k => if xs.length * k.toNat ≤ LINE ∧ rngOk k = true then some (.list (List.replicate k.toNat xs).flatten) else none
  | _, _ => none
/-- whole division by a number above 0 -/
def fdivD : B2
  | .int i, .int j => if 0 < j ∧ j.natAbs.log2 < 9000 then some (.int (i / j)) else none
  | _, _ => none
def modD : B2
  | .int i, .int j => if 0 < j then some (.int (i % j)) else none
  | _, _ => none
/-- no dict within, not too deep -/
def plainD : Nat → PyData → Bool
  | 0, _ => false
  | _ + 1, .none => true
  | _ + 1, .bool _ => true
  | _ + 1, .int _ => true
  | _ + 1, .str s => PyData.strOk s
  | n + 1, .list xs => xs.all (plainD n)
  | n + 1, .tuple xs => xs.all (plainD n)
  | _ + 1, .dict _ => false
def DEEP : Nat := 60
def strsB : PyData → PyData → Option Bool
  | .str x, .str y => some (decide (x = y))
  | _, _ => none
/-- equal or not: two texts; two plain data -/
def eqB (a b : PyData) : Option Bool := match strsB a b with
  | some r => some r
  | none => if plainD DEEP a && plainD DEEP b then some (PyData.eqv a b) else none
def eqD : B2 := fun a b => (eqB a b).map .bool
def neD : B2 := fun a b => (eqB a b).map fun r => .bool (!r)
/-- x is None -/
def isNoneB : PyData → Bool
  | .none => true
  | _ => false
/-- they can be put in order: place by place of one kind -/
def ordB (x y : PyData) : Bool := PySem.W.alike x y && !isNoneB x && plainD DEEP x && plainD DEEP y
def cmpI (p : Int → Int → Bool) (q : PyData → PyData → Bool) : B2
  | .int i, .int j => some (.bool (p i j))
  | x, y => if ordB x y then some (.bool (q x y)) else none
def ltD : B2 := cmpI (fun i j => decide (i < j)) fun x y => PySem.W.dataLt x y
def leD : B2 := cmpI (fun i j => decide (i ≤ j)) fun x y => !PySem.W.dataLt y x
def gtD : B2 := cmpI (fun i j => decide (j < i)) fun x y => PySem.W.dataLt y x
def geD : B2 := cmpI (fun i j => decide (j ≤ i)) fun x y => !PySem.W.dataLt x y
/-- a flat value -/
def flatD : PyData → Bool
  | .none => true
  | .bool _ => true
  | .int _ => true
  | .str _ => true
  | _ => false
/-- x in y: among the items of a list of plain data; among those of a tuple of flat ones -/
def inB (x : PyData) : PyData → Option Bool
  | .list ys => if plainD DEEP x && plainD DEEP (.list ys) then some (ys.any fun z => PyData.eqv z x) else none
  | .tuple ys => if flatD x && ys.all flatD then some (ys.any fun z => PyData.eqv z x) else if plainD DEEP x && plainD DEEP (.tuple ys) then some (ys.any fun z => PyData.eqv z x) else none
  | _ => none
def inD : B2 := fun x y => (inB x y).map .bool
def notInD : B2 := fun x y => (inB x y).map fun b => .bool (!b)
def isD : B2
  | x, .none => some (.bool (isNoneB x))
  | _, _ => none
def isNotD : B2
  | x, .none => some (.bool (!isNoneB x))
  | _, _ => none
def negD : PyData → Option PyData
  | .int i => some (.int (-i))
  | _ => none
def ixD : B2
  | .list xs, .int i => (ixPos xs.length i).bind fun j => xs[j]?
  | .tuple xs, .int i => (ixPos xs.length i).bind fun j => xs[j]?
  | _, _ => none
def slD (lo hi : Option Int) : PyData → Option PyData
  | .list xs => some (.list (slPart xs lo hi))
  | .tuple xs => some (.tuple (slPart xs lo hi))
  | _ => none
def revD : PyData → Option PyData
  | .list xs => some (.list xs.reverse)
  | .tuple xs => some (.tuple xs.reverse)
  | _ => none
def intOf : PyData → Option Int
  | .int i => some i
  | _ => none
def intsOf : List PyData → Option (List Int)
  | [] => some []
  | .int i :: r => (intsOf r).map (i :: ·)
  | _ :: _ => none
def boolsOf : List PyData → Option (List Bool)
  | [] => some []
  | .bool i :: r => (boolsOf r).map (i :: ·)
  | _ :: _ => none
def maxI : Int → List Int → Int
  | a, [] => a
  | a, b :: r => maxI (max a b) r
def minI : Int → List Int → Int
  | a, [] => a
  | a, b :: r => minI (min a b) r
def insertI (x : Int) : List Int → List Int
  | [] => [x]
  | y :: r => if x ≤ y then x :: y :: r else y :: insertI x r
def sortI : List Int → List Int
  | [] => []
  | x :: r => insertI x (sortI r)
/-- alike: they can be put in order -/
def alikeL (xs : List PyData) : Bool := (xs.all fun x => xs.all fun y => PySem.W.alike x y) && xs.all (fun x => !isNoneB x) && xs.all (plainD DEEP)
/-- the first of the least, of the greatest -/
def minL : List PyData → Option PyData
  | [] => none
  | x :: xs => if alikeL (x :: xs) then some (PySem.W.minD x xs) else none
def maxL : List PyData → Option PyData
  | [] => none
  | x :: xs => if alikeL (x :: xs) then some (PySem.W.maxD x xs) else none
def tupB : PyData → Bool
  | .tuple (_ :: _) => true
  | _ => false
def noTup : PyData → Bool
  | .tuple _ => false
  | _ => true
def sortL (xs : List PyData) : Option PyData := if alikeL xs && (xs.all tupB || xs.all noTup) then some (.list (xs.mergeSort fun a b => !PySem.W.dataLt b a)) else none
/-! built-in functions -/
abbrev BF := List PyData → Option PyData
def bLen : BF
  | [.list xs] => some (.int xs.length)
  | [.tuple xs] => some (.int xs.length)
  | [.str s] => if s.length ≤ LINE then some (.int s.length) else none
  | _ => none
def bAbs : BF
  | [.int i] => some (.int (if i < 0 then -i else i))
  | _ => none
def bInt : BF
  | [.int i] => some (.int i)
  | [.bool b] => some (.int (if b then 1 else 0))
  | _ => none
def bMax : BF
  | [.int i, .int j] => some (.int (if j > i then j else i))
  | [.list xs] => match intsOf xs with
    | some (a :: r) => some (.int (maxI a r))
    | _ => maxL xs
  | [.tuple xs] => match intsOf xs with
    | some (a :: r) => some (.int (maxI a r))
    | _ => maxL xs
  | _ => none
def bMin : BF
  | [.int i, .int j] => some (.int (if j < i then j else i))
  | [.list xs] => match intsOf xs with
    | some (a :: r) => some (.int (minI a r))
    | _ => minL xs
  | [.tuple xs] => match intsOf xs with
    | some (a :: r) => some (.int (minI a r))
    | _ => minL xs
  | _ => none
def bSum : BF
  | [.list xs] => (intsOf xs).map fun ns => .int ns.sum
  | _ => none
def bAll : BF
  | [.list xs] => (boolsOf xs).map fun bs => .bool (bs.all id)
  | _ => none
def bAny : BF
  | [.list xs] => (boolsOf xs).map fun bs => .bool (bs.any id)
  | _ => none
def bTuple : BF
  | [.list xs] => some (.tuple xs)
  | [.tuple xs] => some (.tuple xs)
  | _ => none
/-- the text of data: not too long -/
def TEXT : Nat := 16000000
def showOk (x : PyData) : Bool := plainD DEEP x && PyData.showable x && decide ((PyData.shown x).length ≤ TEXT)
def bRepr : BF
  | [x] => if showOk x then some (.str (PyData.shown x)) else none
  | _ => none
def bSorted : BF
  | [.list xs] => match intsOf xs with
    | some ns => some (.list ((sortI ns).map .int))
    | none => sortL xs
  | _ => none
def isType (T : String) : PyData → Bool
  | .none => false
  | .bool _ => T == "int" || T == "bool"
  | .int _ => T == "int"
  | .str _ => T == "str"
  | .list _ => T == "list"
  | .tuple _ => T == "tuple"
  | .dict _ => T == "dict"

/-! ### expressions -/
def eVar (i : Nat) : EM := fun e m => match e[i]? with
  | some (some v) => some (v, m)
  | _ => none
def eCon (c : PyData) : EM := fun _ m => some (.d c, m)
def evalL : List EM → Env → Sto → Option (List LV × Sto)
  | [], _, m => some ([], m)
  | f :: fs, e, m => match f e m with
    | some (v, m1) => match evalL fs e m1 with
      | some (vs, m2) => some (v :: vs, m2)
      | none => none
    | none => none
/-- all of them, read as data behind the last one -/
def rdAll (m : Sto) : List LV → Option (List PyData)
  | [] => some []
  | v :: r => match rdD m v with
    | some x => (rdAll m r).map (x :: ·)
    | none => none
/-- data, and a list last -/
def trOf : List LV → Option (List PyData × Nat)
  | [.ref k] => some ([], k)
  | .d x :: r => (trOf r).map fun q => (x :: q.1, q.2)
  | _ => none
def tupV (vs : List LV) : Option LV := match allD vs with
  | some xs => some (.d (.tuple xs))
  | none => (trOf vs).map fun q => .tr q.1 q.2
def eTup (fs : List EM) : EM := fun e m => match evalL fs e m with
  | some (vs, m1) => (tupV vs).map fun x => (x, m1)
  | none => none
/-- x is None -/
def isNoneV : LV → Bool
  | .d .none => true
  | _ => false
def eIsN (neg : Bool) (fa : EM) : EM := fun e m => match fa e m with
  | some (a, m1) => some (.d (.bool (isNoneV a != neg)), m1)
  | none => none
def eBin (g : B2) (fa fb : EM) : EM := fun e m => match fa e m with
  | some (a, m1) => match fb e m1 with
    | some (b, m2) => match rdD m2 a, rdD m2 b with
      | some x, some y => (g x y).map fun z => (.d z, m2)
      | _, _ => none
    | none => none
  | none => none
def eUn (g : PyData → Option PyData) (fa : EM) : EM := fun e m => match fa e m with
  | some (a, m1) => match rdD m1 a with
    | some x => (g x).map fun z => (.d z, m1)
    | none => none
  | none => none
def truth (m : Sto) : LV → Option Bool
  | .ref k => match m[k]? with
    | some (.lst xs) => some (!xs.isEmpty)
    | _ => none
  | v => (rdD m v).bind truthD
def eAnd (fa fb : EM) : EM := fun e m => match fa e m with
  | some (a, m1) => match truth m1 a with
    | some true => fb e m1
    | some false => some (a, m1)
    | none => none
  | none => none
def eOr (fa fb : EM) : EM := fun e m => match fa e m with
  | some (a, m1) => match truth m1 a with
    | some true => some (a, m1)
    | some false => fb e m1
    | none => none
  | none => none
def eNot (fa : EM) : EM := fun e m => match fa e m with
  | some (a, m1) => (truth m1 a).map fun b => (.d (.bool (!b)), m1)
  | none => none
def eIte (fc fa fb : EM) : EM := fun e m => match fc e m with
  | some (a, m1) => match truth m1 a with
    | some true => fa e m1
    | some false => fb e m1
    | none => none
  | none => none
/-- a < b < c -/
def eChain (g h : B2) (fa fb fc : EM) : EM := fun e m => match fa e m with
  | some (a, m1) => match fb e m1 with
    | some (b, m2) => match rdD m2 a, rdD m2 b with
      | some x, some y => match g x y with
        | some (.bool true) => match fc e m2 with
          | some (c, m3) => match rdD m3 b, rdD m3 c with
            | some y', some z => (h y' z).map fun w => (.d w, m3)
            | _, _ => none
          | none => none
        | some (.bool false) => some (.d (.bool false), m2)
        | _ => none
      | _, _ => none
    | none => none
  | none => none
/-- an item -/
def ixV (m : Sto) (a i : LV) : Option LV := match a, i with
  | .ref k, .d (.int j) => match m[k]? with
    | some (.lst xs) => (ixPos xs.length j).bind fun p => xs[p]?
    | _ => none
  | .d x, .d y => (ixD x y).map .d
  | .tr pre k, .d (.int j) => (ixPos (pre.length + 1) j).bind fun p => (pre.map LV.d ++ [.ref k])[p]?
  | _, _ => none
def eIx (fa fi : EM) : EM := fun e m => match fa e m with
  | some (a, m1) => match fi e m1 with
    | some (i, m2) => (ixV m2 a i).map fun v => (v, m2)
    | none => none
  | none => none
/-- a slice's bound -/
def evalO : Option EM → Env → Sto → Option (Option Int × Sto)
  | none, _, m => some (none, m)
  | some f, e, m => match f e m with
    | some (.d (.int i), m1) => some (some i, m1)
    | _ => none
def eSl (fa : EM) (lo hi : Option EM) : EM := fun e m => match fa e m with
  | some (a, m1) => match evalO lo e m1 with
    | some (l, m2) => match evalO hi e m2 with
      | some (h, m3) => match rdS m3 a with
        | some x => (slD l h x).map fun z => (.d z, m3)
        | none => none
      | none => none
    | none => none
  | none => none
def eBi (g : BF) (fs : List EM) : EM := fun e m => match evalL fs e m with
  | some (vs, m1) => match rdAll m1 vs with
    | some xs => (g xs).map fun z => (.d z, m1)
    | none => none
  | none => none
/-- len(x): of a list that may change, too -/
def lenV (m : Sto) : LV → Option PyData
  | .ref k => match m[k]? with
    | some (.lst xs) => some (.int xs.length)
    | _ => none
  | v => (rdD m v).bind fun x => bLen [x]
def eLen (f : EM) : EM := fun e m => match f e m with
  | some (v, m1) => (lenV m1 v).map fun z => (.d z, m1)
  | none => none
/-- isinstance(x, T) -/
def eIsi (T : String) (fa : EM) : EM := fun e m => match fa e m with
  | some (a, m1) => match rdD m1 a with
    | some x => some (.d (.bool (isType T x)), m1)
    | none => none
  | none => none
/-! a call of a def: lists that may change are handed over by their contents -/
def refsOf : List LV → List Nat
  | [] => []
  | .ref k :: r => k :: refsOf r
  | _ :: r => refsOf r
def renum : Nat → List LV → List LV
  | _, [] => []
  | n, .ref _ :: r => .ref n :: renum (n + 1) r
  | n, x :: r => x :: renum n r
def flatCell (m : Sto) (k : Nat) : Option (List PyData) := match m[k]? with
  | some (.lst xs) => allD xs
  | _ => none
def flatCells (m : Sto) : List Nat → Option (List (List PyData))
  | [] => some []
  | k :: r => match flatCell m k with
    | some c => (flatCells m r).map (c :: ·)
    | none => none
def putBack : Sto → List Nat → List (List PyData) → Sto
  | m, k :: ks, c :: cs => putBack (m.set k (.lst (c.map .d))) ks cs
  | m, _, _ => m
def plainArg : LV → Bool
  | .tr _ _ => false
  | _ => true
/-- what the caller has behind a call -/
def backF (m : Sto) (ks : List Nat) (n : Nat) : LV → List (List PyData) → Option (LV × Sto)
  | .d x, cs' => if cs'.length = n then some (.d x, putBack m ks cs') else none
  | .ref k, cs' => if k = n ∧ cs'.length = n + 1 then match cs'[n]? with
      | some c => some (.ref m.length, putBack m ks (cs'.take n) ++ [.lst (c.map .d)])
      | none => none
    else none
  | .tr pre k, cs' => if k = n ∧ cs'.length = n + 1 then match cs'[n]? with
      | some c => some (.tr pre m.length, putBack m ks (cs'.take n) ++ [.lst (c.map .d)])
      | none => none
    else none
  | .ro _, _ => none
def callF (F : Fn) (vs : List LV) (m : Sto) : Option (LV × Sto) :=
  if vs.all plainArg = true ∧ (refsOf vs).Nodup then match flatCells m (refsOf vs) with
    | some cs => match F (renum 0 vs) cs with
      | some (r, cs') => backF m (refsOf vs) cs.length r cs'
      | none => none
    | none => none
  else none
def eCall (F : Fn) (fs : List EM) : EM := fun e m => match evalL fs e m with
  | some (vs, m1) => callF F vs m1
  | none => none
/-! ### what a loop walks -/
inductive Itm where
  | items (xs : List LV)
  | cell (k : Nat)
abbrev IM := Env → Sto → Option (Itm × Sto)
def iSeq (f : EM) : IM := fun e m => match f e m with
  | some (.d (.list xs), m1) => some (.items (xs.map .d), m1)
  | some (.d (.tuple xs), m1) => some (.items (xs.map .d), m1)
  | some (.ref k, m1) => match m1[k]? with
    | some (.lst _) => some (.cell k, m1)
    | _ => none
  | some (.ro xs, m1) => some (.items (xs.map .d), m1)
  | _ => none
def upTo (lo : Int) (n : Nat) : List LV := (List.range n).map fun i => .d (.int (lo + (i : Nat)))
def downFrom (lo : Int) (n : Nat) : List LV := (List.range n).map fun i => .d (.int (lo + (i : Nat) * (-1)))
def iRange (fs : List EM) : IM := fun e m => match evalL fs e m with
  | some ([.d (.int j)], m1) => if rngOk j then some (.items (upTo 0 j.toNat), m1) else none
  | some ([.d (.int i), .d (.int j)], m1) => if rngOk i && rngOk j then some (.items (upTo i (j - i).toNat), m1) else none
  | some ([.d (.int i), .d (.int j), .d (.int (-1))], m1) => if rngOk i && rngOk j then some (.items (downFrom i (i - j).toNat), m1) else none
  | _ => none
def pairD (i : Nat) (x : PyData) : LV := .d (.tuple [.int i, x])
def enumFrom : Nat → List PyData → List LV
  | _, [] => []
  | i, x :: r => pairD i x :: enumFrom (i + 1) r
def iEnum (f : EM) : IM := fun e m => match f e m with
  | some (.d (.list xs), m1) => some (.items (enumFrom 0 xs), m1)
  | some (.d (.tuple xs), m1) => some (.items (enumFrom 0 xs), m1)
  | _ => none
def zipD : List PyData → List PyData → List LV
  | x :: xs, y :: ys => .d (.tuple [x, y]) :: zipD xs ys
  | _, _ => []
def iZip (fa fb : EM) : IM := fun e m => match fa e m with
  | some (.d (.list xs), m1) => match fb e m1 with
    | some (.d (.list ys), m2) => some (.items (zipD xs ys), m2)
    | _ => none
  | some (.d (.tuple xs), m1) => match fb e m1 with
    | some (.d (.tuple ys), m2) => some (.items (zipD xs ys), m2)
    | _ => none
  | _ => none
/-! ### targets -/
def tName (i : Nat) : TM := fun v e m => some (e.set i (some v), m)
def toAll : List TM → List LV → Env → Sto → Option (Env × Sto)
  | [], [], e, m => some (e, m)
  | t :: ts, v :: vs, e, m => match t v e m with
    | some (e1, m1) => toAll ts vs e1 m1
    | none => none
  | _, _, _, _ => none
def tTup (ts : List TM) : TM := fun v e m => match v with
  | .d (.tuple xs) => toAll ts (xs.map .d) e m
  | .d (.list xs) => toAll ts (xs.map .d) e m
  | .ref k => match m[k]? with
    | some (.lst xs) => toAll ts xs e m
    | _ => none
  | .tr pre k => toAll ts (pre.map .d ++ [.ref k]) e m
  | _ => none
/-- a list's item is stored -/
def setItem (m : Sto) (o i v : LV) : Option Sto := match o, i with
  | .ref k, .d (.int j) => match m[k]? with
    | some (.lst xs) => (ixPos xs.length j).map fun p => m.set k (.lst (xs.set p v))
    | _ => none
  | _, _ => none
def tSub (fo fi : EM) : TM := fun v e m => match fo e m with
  | some (o, m1) => match fi e m1 with
    | some (i, m2) => (setItem m2 o i v).map fun m3 => (e, m3)
    | none => none
  | none => none
/-! ### new lists -/
def wipeE (e : Env) : List Nat → Env
  | [] => e
  | i :: r => (wipeE e r).set i none
def tests : List EM → Env → Sto → Option (Bool × Sto)
  | [], _, m => some (true, m)
  | f :: _, e, m => match f e m with
    | some (a, m1) => (truth m1 a).map fun b => (b, m1)
    | none => none
def compItems (f : LV → Env → Sto → Option (Option LV × Sto)) : List LV → Env → Sto → Option (List LV × Sto)
  | [], _, m => some ([], m)
  | x :: xs, e, m => match f x e m with
    | some (some y, m1) => (compItems f xs e m1).map fun r => (y :: r.1, r.2)
    | some (none, m1) => compItems f xs e m1
    | none => none
/-- over a list that may change: it must keep its length -/
def compCell (f : LV → Env → Sto → Option (Option LV × Sto)) (k n : Nat) : Nat → Env → Sto → Option (List LV × Sto)
  | 0, _, m => match m[k]? with
    | some (.lst xs) => if xs.length = n then some ([], m) else none
    | _ => none
  | j + 1, e, m => match m[k]? with
    | some (.lst xs) => if xs.length = n then match xs[n - (j + 1)]? with
        | some x => match f x e m with
          | some (some y, m1) => (compCell f k n j e m1).map fun r => (y :: r.1, r.2)
          | some (none, m1) => compCell f k n j e m1
          | none => none
        | none => none
      else none
    | _ => none
def cellLen (m : Sto) (k : Nat) : Option Nat := match m[k]? with
  | some (.lst xs) => some xs.length
  | _ => none
def compOver (f : LV → Env → Sto → Option (Option LV × Sto)) : Itm → Env → Sto → Option (List LV × Sto)
  | .items xs, e, m => if xs.length ≤ LINE then compItems f xs e m else none
  | .cell k, e, m => match cellLen m k with
    | some n => if n ≤ LINE then compCell f k n n e m else none
    | none => none
def compOne (fe : EM) (t : TM) (ifs : List EM) (own : List Nat) : LV → Env → Sto → Option (Option LV × Sto) := fun x e m => match t x (wipeE e own) m with
  | some (e1, m1) => match tests ifs e1 m1 with
    | some (true, m2) => (fe e1 m2).map fun r => (some r.1, r.2)
    | some (false, m2) => some (none, m2)
    | none => none
  | none => none
def lComp (fe : EM) (t : TM) (it : IM) (ifs : List EM) (own : List Nat) : LM := fun e m => match it e m with
  | some (i, m1) => compOver (compOne fe t ifs own) i e m1
  | none => none
def lDisp (fs : List EM) : LM := evalL fs
def itemsOf (m : Sto) : LV → Option (List LV)
  | .d (.list xs) => some (xs.map .d)
  | .d (.tuple xs) => some (xs.map .d)
  | .ref k => match m[k]? with
    | some (.lst xs) => some xs
    | _ => none
  | .ro xs => some (xs.map .d)
  | _ => none
/-- list(x) -/
def lOf (f : EM) : LM := fun e m => match f e m with
  | some (v, m1) => (itemsOf m1 v).map fun xs => (xs, m1)
  | none => none
/-- x[::-1] -/
def lRev (f : EM) : LM := fun e m => match f e m with
  | some (.d (.list xs), m1) => some (xs.reverse.map .d, m1)
  | some (.ref k, m1) => match m1[k]? with
    | some (.lst xs) => some (xs.reverse, m1)
    | _ => none
  | _ => none
/-- list(range(..)) -/
def lRng (f : IM) : LM := fun e m => match f e m with
  | some (.items xs, m1) => some (xs, m1)
  | _ => none
/-- [..] * n -/
def lRep (l : LM) (fn : EM) : LM := fun e m => match l e m with
  | some (xs, m1) => match fn e m1 with
    | some (.d (.int k), m2) => if xs.length * k.toNat ≤ LINE ∧ rngOk k = true then some ((List.replicate k.toNat xs).flatten, m2) else none
    | _ => none
  | none => none
def eLst (l : LM) : EM := fun e m => match l e m with
  | some (vs, m1) => (allD vs).map fun xs => (.d (.list xs), m1)
  | none => none
def eNew (l : LM) : EM := fun e m => match l e m with
  | some (vs, m1) => some (.ref m1.length, m1 ++ [.lst vs])
  | none => none
/-! a list that changes no more -/
def frzM (f : Sto → LV → Option (PyData × Sto)) : Sto → List LV → Option (List PyData × Sto)
  | m, [] => some ([], m)
  | m, x :: r => match f m x with
    | some (y, m1) => match frzM f m1 r with
      | some (ys, m2) => some (y :: ys, m2)
      | none => none
    | none => none
def frzV : Nat → Sto → LV → Option (PyData × Sto)
  | 0, m, v => match v with
    | .d x => some (x, m)
    | _ => none
  | n + 1, m, v => match v with
    | .d x => some (x, m)
    | .ref k => match m[k]? with
      | some (.lst xs) => match frzM (frzV n) m xs with
        | some (ys, m1) => match m1[k]? with
          | some (.lst _) => some (.list ys, m1.set k .dead)
          | _ => none
        | none => none
      | _ => none
    | _ => none
def FRZ : Nat := 4
def eFrz (i : Nat) : EM := fun e m => match e[i]? with
  | some (some v) => (frzV FRZ m v).map fun r => (.d r.1, r.2)
  | _ => none
/-! ### statements -/
def sPass : SM := fun e m => some (.nx e m)
def sBrk : SM := fun e m => some (.bk e m)
def sCnt : SM := fun e m => some (.ct e m)
def sNever : SM := fun _ _ => none
def sSeq (a b : SM) : SM := fun e m => match a e m with
  | some (.nx e1 m1) => b e1 m1
  | r => r
def sAsg (t : TM) (f : EM) : SM := fun e m => match f e m with
  | some (v, m1) => (t v e m1).map fun r => .nx r.1 r.2
  | none => none
def sPar (ts : List TM) (fs : List EM) : SM := fun e m => match evalL fs e m with
  | some (vs, m1) => (toAll ts vs e m1).map fun r => .nx r.1 r.2
  | none => none
/-- x += y and the like -/
def sAug (i : Nat) (g : B2) (f : EM) : SM := fun e m => match e[i]? with
  | some (some v) => match f e m with
    | some (w, m1) => match v, w with
      | .d x, .d y => (g x y).map fun z => .nx (e.set i (some (.d z))) m1
      | _, _ => none
    | none => none
  | _ => none
def sDrop (f : EM) : SM := fun e m => (f e m).map fun r => .nx e r.2
def sApp (fo fv : EM) : SM := fun e m => match fo e m with
  | some (.ref k, m1) => match m1[k]? with
    | some (.lst _) => match fv e m1 with
      | some (v, m2) => match m2[k]? with
        | some (.lst xs) => if xs.length ≤ LINE then some (.nx e (m2.set k (.lst (xs ++ [v])))) else none
        | _ => none
      | none => none
    | _ => none
  | _ => none
/-- a list's items -/
def listOf (m : Sto) : LV → Option (List LV)
  | .d (.list xs) => some (xs.map .d)
  | .ref k => match m[k]? with
    | some (.lst xs) => some xs
    | _ => none
  | _ => none
def sExt (fo fv : EM) : SM := fun e m => match fo e m with
  | some (.ref k, m1) => match m1[k]? with
    | some (.lst _) => match fv e m1 with
      | some (y, m2) => match m2[k]? with
        | some (.lst xs) => match listOf m2 y with
          | some ys => if xs.length + ys.length ≤ LINE then some (.nx e (m2.set k (.lst (xs ++ ys)))) else none
          | none => none
        | _ => none
      | none => none
    | _ => none
  | _ => none
def sIf (fc : EM) (a b : SM) : SM := fun e m => match fc e m with
  | some (v, m1) => match truth m1 v with
    | some true => a e m1
    | some false => b e m1
    | none => none
  | none => none
def sRet (f : EM) : SM := fun e m => (f e m).map fun r => .rt r.1 r.2
def sRetN : SM := fun _ m => some (.rt (.d .none) m)
def forItems (body : LV → SM) : List LV → SM
  | [], e, m => some (.nx e m)
  | x :: xs, e, m => match body x e m with
    | some (.nx e1 m1) => forItems body xs e1 m1
    | some (.ct e1 m1) => forItems body xs e1 m1
    | some (.bk e1 m1) => some (.nx e1 m1)
    | some (.rt v m1) => some (.rt v m1)
    | none => none
def forCell (body : LV → SM) (k n : Nat) : Nat → SM
  | 0, e, m => match cellLen m k with
    | some n' => if n' = n then some (.nx e m) else none
    | none => none
  | j + 1, e, m => match m[k]? with
    | some (.lst xs) => if xs.length = n then match xs[n - (j + 1)]? with
        | some x => match body x e m with
          | some (.nx e1 m1) => forCell body k n j e1 m1
          | some (.ct e1 m1) => forCell body k n j e1 m1
          | some (.bk e1 m1) => some (.nx e1 m1)
          | some (.rt v m1) => some (.rt v m1)
          | none => none
        | none => none
      else none
    | _ => none
def forOver (body : LV → SM) : Itm → SM
  | .items xs, e, m => forItems body xs e m
  | .cell k, e, m => match cellLen m k with
    | some n => forCell body k n n e m
    | none => none
def forBody (t : TM) (b : SM) : LV → SM := fun x e m => match t x e m with
  | some (e1, m1) => b e1 m1
  | none => none
def sFor (t : TM) (it : IM) (b : SM) : SM := fun e m => match it e m with
  | some (i, m1) => forOver (forBody t b) i e m1
  | none => none
/-- a while with a bound of its turns -/
def whileN (fc : EM) (b : SM) : Nat → SM
  | 0, _, _ => none
  | n + 1, e, m => match fc e m with
    | some (v, m1) => match truth m1 v with
      | some false => some (.nx e m1)
      | some true => match b e m1 with
        | some (.nx e1 m2) => whileN fc b n e1 m2
        | some (.ct e1 m2) => whileN fc b n e1 m2
        | some (.bk e1 m2) => some (.nx e1 m2)
        | some (.rt v m2) => some (.rt v m2)
        | none => none
      | none => none
    | none => none
open Classical in
noncomputable def sWhile (fc : EM) (b : SM) : SM := fun e m =>
  if h : ∃ n o, whileN fc b n e m = some o then some (Classical.choose (Classical.choose_spec h)) else none
/-! ### a def -/
def flatBack : Nat → Sto → Option (List (List PyData))
  | 0, _ => some []
  | n + 1, .lst xs :: r => match allD xs with
    | some c => (flatBack n r).map (c :: ·)
    | none => none
  | _ + 1, _ => none
def answer (k : Nat) : Option Out → Option (LV × List (List PyData))
  | some (.rt (.d x) m) => (flatBack k m).map fun cs => (.d x, cs)
  | some (.rt (.ref j) m) => if k ≤ j then match flatBack k m, flatCell m j with
      | some cs, some c => some (.ref k, cs ++ [c])
      | _, _ => none
    else none
  | some (.rt (.tr pre j) m) => if k ≤ j then match flatBack k m, flatCell m j with
      | some cs, some c => some (.tr pre k, cs ++ [c])
      | _, _ => none
    else none
  | some (.nx _ m) => (flatBack k m).map fun cs => (.d .none, cs)
  | _ => none
/-- a def's function, sealed: the kernel does not look within -/
noncomputable def sealF (F : Fn) : Fn := Classical.choose (⟨F, rfl⟩ : ∃ G : Fn, G = F)
theorem sealF_eq (F : Fn) : sealF F = F := Classical.choose_spec (⟨F, rfl⟩ : ∃ G : Fn, G = F)
theorem rng_ok {i : Int} (h : rngOk i = true) : -1000000 ≤ i ∧ i ≤ 1000000 := by
  have := Nat.le_of_ble_eq_true h
  omega
theorem rng_of {i : Int} (h : -1000000 ≤ i ∧ i ≤ 1000000) : rngOk i = true := Nat.ble_eq_true_of_le (by omega)
def mkFn (np n : Nat) (b : SM) : Fn := fun vs cs =>
  if vs.length = np then answer cs.length (b (vs.map some ++ List.replicate (n - np) none) (cs.map fun c => .lst (c.map .d))) else none
end Gg

end
section
/-! GRel: plain data as they stand in the abstract heap; what a step may change. -/
namespace Gg
open PySem L2

/-- where the lists that may change stand, and which lists change no more -/
structure Wd where
  m : List Addr
  F : Addr → Prop
mutual
inductive RP (K : PySem.W.Frag) (F : Addr → Prop) (H : Hp) : V → PyData → Prop
  | non : RP K F H .non .none
  | bl (b : Bool) : RP K F H (.bl b) (.bool b)
  | int (i : Int) : RP K F H (.int i) (.int i)
  | str (x : Str) : RP K F H (.str x) (.str x)
  | lst {a : Addr} {vs : List V} {xs : List PyData} : F a → H a = some (.lst vs) → RPs K F H vs xs → RP K F H (.ref a) (.list xs)
  | tup {a : Addr} {vs : List V} {xs : List PyData} : SqT K H a vs → RPs K F H vs xs → RP K F H (.ref a) (.tuple xs)
inductive RPs (K : PySem.W.Frag) (F : Addr → Prop) (H : Hp) : List V → List PyData → Prop
  | nil : RPs K F H [] []
  | cons {v : V} {vs : List V} {x : PyData} {xs : List PyData} : RP K F H v x → RPs K F H vs xs → RPs K F H (v :: vs) (x :: xs)
end
/-- the script: frozen, or an object of the module -/
def RoL (K : PySem.W.Frag) (H : Hp) (a : Addr) (vs : List V) : Prop := (∃ o, H a = some (.frz o (.lst vs))) ∨ SqL K (fun _ => none) a vs
def RL (K : PySem.W.Frag) (W : Wd) (H : Hp) (v : V) : LV → Prop
  | .d x => RP K W.F H v x
  | .ref k => ∃ a, W.m[k]? = some a ∧ v = .ref a
  | .ro xs => ∃ a vs, v = .ref a ∧ RoL K H a vs ∧ RPs K W.F H vs xs
  | .tr pre k => ∃ a us b, v = .ref a ∧ SqT K H a (us ++ [.ref b]) ∧ RPs K W.F H us pre ∧ W.m[k]? = some b
inductive RLs (K : PySem.W.Frag) (W : Wd) (H : Hp) : List V → List LV → Prop
  | nil : RLs K W H [] []
  | cons {v : V} {vs : List V} {x : LV} {xs : List LV} : RL K W H v x → RLs K W H vs xs → RLs K W H (v :: vs) (x :: xs)
def live (μ : Sto) (k : Nat) : Prop := ∃ xs : List LV, μ[k]? = some (Cell.lst xs)
structure Rel (K : PySem.W.Frag) (W : Wd) (H : Hp) (μ : Sto) : Prop where
  len : W.m.length = μ.length
  cell : ∀ (k : Nat) (a : Addr) (xs : List LV), W.m[k]? = some a → μ[k]? = some (Cell.lst xs) → ∃ vs, H a = some (HO.lst vs) ∧ RLs K W H vs xs
  inj : ∀ (j k : Nat) (a : Addr), live μ j → live μ k → W.m[j]? = some a → W.m[k]? = some a → j = k
  frz : ∀ a, W.F a → (∃ vs, H a = some (HO.lst vs)) ∧ ∀ k, live μ k → W.m[k]? ≠ some a
structure Ext (W : Wd) (H : Hp) (μ : Sto) (W' : Wd) (H' : Hp) (μ' : Sto) : Prop where
  pre : ∃ r, W'.m = W.m ++ r ∧ ∀ a ∈ r, H a = none
  F : ∀ a, W.F a → W'.F a
  dom : ∀ a, H' a = none → H a = none
  keep : ∀ a o, H a = some o → (∀ k, live μ k → W.m[k]? ≠ some a) → H' a = some o
  Fnew : ∀ a, W'.F a → W.F a ∨ H a = none ∨ ∃ k, live μ k ∧ W.m[k]? = some a
  lv : ∀ k, k < W.m.length → live μ' k → live μ k
def EnvOk (K : PySem.W.Frag) (W : Wd) (H : Hp) (σ : List (Option V)) (e : Env) : Prop :=
  σ.length = e.length ∧ ∀ (i : Nat) (lv : LV), e[i]? = some (some lv) → ∃ v, σ[i]? = some (some v) ∧ RL K W H v lv
/-- frozen lists and all that is no list stand as they stood -/
structure Keep (F : Addr → Prop) (H : Hp) (F' : Addr → Prop) (H' : Hp) : Prop where
  fr : ∀ a, F a → F' a
  l : ∀ a vs, F a → H a = some (HO.lst vs) → H' a = some (HO.lst vs)
  o : ∀ a o, H a = some o → (∀ vs, o ≠ HO.lst vs) → H' a = some o

section
variable {K : PySem.W.Frag} {W W1 W2 W' : Wd} {H H1 H2 H' : Hp} {μ μ1 μ2 μ' : Sto} {F F' : Addr → Prop} {σ : List (Option V)} {e : Env}
theorem Keep.sqT (k : Keep F H F' H') {a : Addr} {vs : List V} (h : SqT K H a vs) : SqT K H' a vs := by
  rcases h with (h | ⟨o, h⟩) | h
  · exact .inl (.inl (k.o _ _ h fun _ z => nomatch z))
  · exact .inl (.inr ⟨o, k.o _ _ h fun _ z => nomatch z⟩)
  · exact .inr h
theorem Keep.roL (k : Keep F H F' H') {a : Addr} {vs : List V} (h : RoL K H a vs) : RoL K H' a vs := by
  rcases h with ⟨o, h⟩ | h
  · exact .inl ⟨o, k.o _ _ h fun _ z => nomatch z⟩
  · exact .inr h
theorem RoL.sq {a : Addr} {vs : List V} (h : RoL K H a vs) : SqL K H a vs := by
  rcases h with ⟨o, h⟩ | (h | ⟨o, h⟩) | h
  · exact .inl (.inr ⟨o, h⟩)
  · cases h
  · cases h
  · exact .inr h
mutual
theorem RP.mono (k : Keep F H F' H') : ∀ {x : PyData} {v : V}, RP K F H v x → RP K F' H' v x
  | .none, _, .non => .non
  | .bool b, _, .bl _ => .bl b
  | .int i, _, .int _ => .int i
  | .str s, _, .str _ => .str s
  | .list _, _, .lst h1 h2 h3 => .lst (k.fr _ h1) (k.l _ _ h1 h2) (RPs.mono k h3)
  | .tuple _, _, .tup h1 h2 => .tup (k.sqT h1) (RPs.mono k h2)
theorem RPs.mono (k : Keep F H F' H') : ∀ {xs : List PyData} {vs : List V}, RPs K F H vs xs → RPs K F' H' vs xs
  | [], _, .nil => .nil
  | _ :: _, _, .cons a b => .cons (RP.mono k a) (RPs.mono k b)
end
theorem Rel.notLst (R : Rel K W H μ) {a : Addr} {o : HO} (h : H a = some o) (n : ∀ vs, o ≠ HO.lst vs) : ∀ k, live μ k → W.m[k]? ≠ some a := by
  intro k ⟨xs, hx⟩ hk
  obtain ⟨vs, h1, _⟩ := R.cell k a xs hk hx
  rw [h] at h1
  exact n vs (Option.some.inj h1)
theorem Ext.kp (E : Ext W H μ W' H' μ') (R : Rel K W H μ) : Keep W.F H W'.F H' where
  fr := E.F
  l := fun a vs hf h => E.keep a _ h (R.frz a hf).2
  o := fun a o h n => E.keep a o h (R.notLst h n)
theorem Ext.at (E : Ext W H μ W' H' μ') {k : Nat} {a : Addr} (h : W.m[k]? = some a) : W'.m[k]? = some a := by
  obtain ⟨r, e, _⟩ := E.pre
  rw [e, List.getElem?_append_left (List.getElem?_eq_some_iff.mp h).1]
  exact h
theorem RL.mono (E : Ext W H μ W' H' μ') (R : Rel K W H μ) {v : V} : ∀ {x : LV}, RL K W H v x → RL K W' H' v x
  | .d _, h => RP.mono (E.kp R) h
  | .ref _, ⟨a, h1, h2⟩ => ⟨a, E.at h1, h2⟩
  | .ro _, ⟨a, vs, h1, h2, h3⟩ => ⟨a, vs, h1, (E.kp R).roL h2, RPs.mono (E.kp R) h3⟩
  | .tr _ _, ⟨a, us, b, h1, h2, h3, h4⟩ => ⟨a, us, b, h1, (E.kp R).sqT h2, RPs.mono (E.kp R) h3, E.at h4⟩
theorem RLs.mono (E : Ext W H μ W' H' μ') (R : Rel K W H μ) : ∀ {vs : List V} {xs : List LV}, RLs K W H vs xs → RLs K W' H' vs xs
  | _, _, .nil => .nil
  | _, _, .cons a b => .cons (RL.mono E R a) (RLs.mono E R b)
theorem EnvOk.mono (E : Ext W H μ W' H' μ') (R : Rel K W H μ) (h : EnvOk K W H σ e) : EnvOk K W' H' σ e :=
  ⟨h.1, fun i lv q => let ⟨v, h1, h2⟩ := h.2 i lv q; ⟨v, h1, RL.mono E R h2⟩⟩
theorem Ext.refl : Ext W H μ W H μ := ⟨⟨[], by simp, by simp⟩, fun _ h => h, fun _ h => h, fun _ _ h _ => h, fun _ h => .inl h, fun _ _ h => h⟩
theorem Ext.trans (A : Ext W H μ W1 H1 μ1) (B : Ext W1 H1 μ1 W2 H2 μ2) : Ext W H μ W2 H2 μ2 := by
  obtain ⟨r, er, nr⟩ := A.pre
  obtain ⟨r2, er2, nr2⟩ := B.pre
  -- a thing that is no live list at first is none behind
  have stay : ∀ a o, H a = some o → (∀ k, live μ k → W.m[k]? ≠ some a) → H1 a = some o ∧ ∀ k, live μ1 k → W1.m[k]? ≠ some a := by
    intro a o h n
    refine ⟨A.keep a o h n, fun k lk hk => ?_⟩
    by_cases hl : k < W.m.length
    · rw [er, List.getElem?_append_left hl] at hk
      exact n k (A.lv k hl lk) hk
    · rw [er, List.getElem?_append_right (by omega)] at hk
      rw [nr a (List.mem_of_getElem? hk)] at h
      cases h
  have lv1 : ∀ a, (∃ k, live μ1 k ∧ W1.m[k]? = some a) → H a = none ∨ ∃ k, live μ k ∧ W.m[k]? = some a := by
    intro a ⟨k, lk, hk⟩
    by_cases hl : k < W.m.length
    · rw [er, List.getElem?_append_left hl] at hk
      exact .inr ⟨k, A.lv k hl lk, hk⟩
    · rw [er, List.getElem?_append_right (by omega)] at hk
      exact .inl (nr a (List.mem_of_getElem? hk))
  have lenW1 : W.m.length ≤ W1.m.length := by rw [er, List.length_append]; omega
  refine ⟨⟨r ++ r2, by rw [er2, er, List.append_assoc], fun a ha => ?_⟩, fun a h => B.F a (A.F a h), fun a h => A.dom a (B.dom a h), fun a o h n => ?_, fun a h => ?_, fun k hk lk => A.lv k hk (B.lv k (by omega) lk)⟩
  · rcases List.mem_append.mp ha with ha | ha
    · exact nr a ha
    · exact A.dom a (nr2 a ha)
  · obtain ⟨h1, n1⟩ := stay a o h n
    exact B.keep a o h1 n1
  · rcases B.Fnew a h with z | z | z
    · exact A.Fnew a z
    · exact .inr (.inl (A.dom a z))
    · exact .inr (lv1 a z)

/-! ### steps -/
theorem ext_new (o : HO) {p : Addr} (hp : H p = none) : Ext W H μ W (upd H p o) μ :=
  ⟨⟨[], by simp, by simp⟩, fun _ h => h, fun a h => by
    by_cases e : a = p
    · rw [e]; exact hp
    · rw [upd_ne e] at h; exact h, fun a o' h _ => by rw [upd_ne (ne_of_none h hp)]; exact h, fun _ h => .inl h, fun _ _ h => h⟩
theorem Rel.new (R : Rel K W H μ) (o : HO) {p : Addr} (hp : H p = none) : Rel K W (upd H p o) μ := by
  have E : Ext W H μ W (upd H p o) μ := ext_new o hp
  refine ⟨R.len, fun k a xs h1 h2 => ?_, R.inj, fun a h => ?_⟩
  · obtain ⟨vs, q1, q2⟩ := R.cell k a xs h1 h2
    exact ⟨vs, by rw [upd_ne (ne_of_none q1 hp)]; exact q1, RLs.mono E R q2⟩
  · obtain ⟨⟨vs, q1⟩, q2⟩ := R.frz a h
    exact ⟨⟨vs, by rw [upd_ne (ne_of_none q1 hp)]; exact q1⟩, q2⟩
/-- with one more list that changes no more -/
abbrev Wd.fz (W : Wd) (p : Addr) : Wd := ⟨W.m, fun a => W.F a ∨ a = p⟩
theorem ext_frz (vs : List V) {p : Addr} (hp : H p = none) : Ext W H μ (W.fz p) (upd H p (.lst vs)) μ := by
  have E : Ext W H μ W (upd H p (.lst vs)) μ := ext_new _ hp
  exact ⟨E.pre, fun _ h => .inl h, E.dom, E.keep, fun a h => h.elim .inl fun e => .inr (.inl (e ▸ hp)), E.lv⟩
theorem Rel.notNew (R : Rel K W H μ) {p : Addr} (hp : H p = none) : ∀ k, live μ k → W.m[k]? ≠ some p := by
  intro k ⟨xs, hx⟩ hk
  obtain ⟨vs, h1, _⟩ := R.cell k p xs hk hx
  rw [hp] at h1; cases h1
theorem Rel.newFrz (R : Rel K W H μ) (vs : List V) {p : Addr} (hp : H p = none) : Rel K (W.fz p) (upd H p (.lst vs)) μ := by
  have E : Ext W H μ (W.fz p) (upd H p (.lst vs)) μ := ext_frz vs hp
  refine ⟨R.len, fun k a xs h1 h2 => ?_, R.inj, fun a h => ?_⟩
  · obtain ⟨vs, q1, q2⟩ := R.cell k a xs h1 h2
    exact ⟨vs, by rw [upd_ne (ne_of_none q1 hp)]; exact q1, RLs.mono E R q2⟩
  · rcases h with h | h
    · obtain ⟨⟨vs, q1⟩, q2⟩ := R.frz a h
      exact ⟨⟨vs, by rw [upd_ne (ne_of_none q1 hp)]; exact q1⟩, q2⟩
    · subst h
      exact ⟨⟨vs, upd_same⟩, R.notNew hp⟩
/-- with one more list that may change -/
abbrev Wd.more (W : Wd) (p : Addr) : Wd := ⟨W.m ++ [p], W.F⟩
theorem live_lt {k : Nat} (h : live μ k) : k < μ.length := by
  obtain ⟨xs, h⟩ := h
  exact (List.getElem?_eq_some_iff.mp h).1
theorem ext_more (vs : List V) (xs : List LV) (R : Rel K W H μ) {p : Addr} (hp : H p = none) : Ext W H μ (W.more p) (upd H p (.lst vs)) (μ ++ [.lst xs]) := by
  have E : Ext W H μ W (upd H p (.lst vs)) μ := ext_new _ hp
  refine ⟨⟨[p], rfl, fun a h => ?_⟩, fun _ h => h, E.dom, E.keep, fun _ h => .inl h, fun k hk ⟨ys, h⟩ => ?_⟩
  · rw [List.mem_singleton] at h; rw [h]; exact hp
  · rw [List.getElem?_append_left (by rw [← R.len]; exact hk)] at h
    exact ⟨ys, h⟩
theorem Rel.newCell (R : Rel K W H μ) {vs : List V} {xs : List LV} {p : Addr} (hp : H p = none) (hv : RLs K W H vs xs) : Rel K (W.more p) (upd H p (.lst vs)) (μ ++ [.lst xs]) := by
  have E := ext_more vs xs R hp
  have old : ∀ {k : Nat} {a : Addr}, k < μ.length → (W.m ++ [p])[k]? = some a → W.m[k]? = some a := fun {k a} hk h => by
    rw [List.getElem?_append_left (by rw [R.len]; exact hk)] at h; exact h
  have oldm : ∀ {k : Nat} {ys : List LV}, k < μ.length → (μ ++ [Cell.lst xs])[k]? = some (Cell.lst ys) → μ[k]? = some (Cell.lst ys) := fun {k ys} hk h => by
    rw [List.getElem?_append_left hk] at h; exact h
  have last : ∀ {k : Nat}, k < (μ ++ [Cell.lst xs]).length → ¬ k < μ.length → k = μ.length := fun {k} h1 h2 => by
    rw [List.length_append] at h1; simp at h1; omega
  have hl : ∀ {k : Nat}, live (μ ++ [Cell.lst xs]) k → k < μ.length → live μ k := fun {k} ⟨ys, h⟩ hk => ⟨ys, oldm hk h⟩
  have atp : ∀ {k : Nat} {a : Addr}, k = μ.length → (W.m ++ [p])[k]? = some a → a = p := fun {k a} hk h => by
    rw [hk, ← R.len, List.getElem?_append_right (Nat.le_refl _), Nat.sub_self] at h
    exact (Option.some.inj h).symm
  refine ⟨by simp [R.len], fun k a ys h1 h2 => ?_, fun j k a hj hk h1 h2 => ?_, fun a h => ?_⟩
  · by_cases hk : k < μ.length
    · obtain ⟨ws, q1, q2⟩ := R.cell k a ys (old hk h1) (oldm hk h2)
      exact ⟨ws, by rw [upd_ne (ne_of_none q1 hp)]; exact q1, RLs.mono E R q2⟩
    · have ek := last (List.getElem?_eq_some_iff.mp h2).1 hk
      have ea := atp ek h1
      subst ea
      rw [ek, List.getElem?_append_right (Nat.le_refl _), Nat.sub_self] at h2
      have e2 : xs = ys := by
        have h3 : some (Cell.lst xs) = some (Cell.lst ys) := h2
        injection h3 with h3; injection h3
      subst e2
      exact ⟨vs, upd_same, RLs.mono E R hv⟩
  · by_cases a1 : j < μ.length
    · by_cases a2 : k < μ.length
      · exact R.inj j k a (hl hj a1) (hl hk a2) (old a1 h1) (old a2 h2)
      · have ea := atp (last (live_lt hk) a2) h2
        subst ea
        exact absurd (old a1 h1) (R.notNew hp j (hl hj a1))
    · have ea := atp (last (live_lt hj) a1) h1
      subst ea
      by_cases a2 : k < μ.length
      · exact absurd (old a2 h2) (R.notNew hp k (hl hk a2))
      · rw [last (live_lt hj) a1, last (live_lt hk) a2]
  · obtain ⟨⟨ws, q1⟩, q2⟩ := R.frz a h
    refine ⟨⟨ws, by rw [upd_ne (ne_of_none q1 hp)]; exact q1⟩, fun k lk hk => ?_⟩
    by_cases a2 : k < μ.length
    · exact q2 k (hl lk a2) (old a2 hk)
    · have ea := atp (last (live_lt lk) a2) hk
      rw [ea, hp] at q1; cases q1
theorem live_set {k j : Nat} {c : Cell} (h : live (μ.set k c) j) (h0 : live μ k) : live μ j := by
  by_cases e : k = j
  · subst e; exact h0
  · obtain ⟨xs, h⟩ := h
    rw [List.getElem?_set_ne e] at h
    exact ⟨xs, h⟩
theorem ext_set (R : Rel K W H μ) {vs' : List V} {xs xs' : List LV} {k : Nat} {a : Addr} (hk : W.m[k]? = some a) (hx : μ[k]? = some (Cell.lst xs)) : Ext W H μ W (upd H a (.lst vs')) (μ.set k (.lst xs')) := by
  obtain ⟨vs, h1, _⟩ := R.cell k a xs hk hx
  refine ⟨⟨[], by simp, by simp⟩, fun _ h => h, fun b h => ?_, fun b o h n => ?_, fun _ h => .inl h, fun j _ h => live_set h ⟨xs, hx⟩⟩
  · by_cases e : b = a
    · subst e; rw [upd_same] at h; cases h
    · rw [upd_ne e] at h; exact h
  · rw [upd_ne]
    · exact h
    · intro e; subst e; exact n k ⟨xs, hx⟩ hk
theorem Rel.setCell (R : Rel K W H μ) {vs' : List V} {xs xs' : List LV} {k : Nat} {a : Addr} (hk : W.m[k]? = some a) (hx : μ[k]? = some (Cell.lst xs)) (hv : RLs K W H vs' xs') : Rel K W (upd H a (.lst vs')) (μ.set k (.lst xs')) := by
  have E : Ext W H μ W (upd H a (.lst vs')) (μ.set k (.lst xs')) := ext_set R hk hx
  have kl := live_lt ⟨xs, hx⟩
  refine ⟨by rw [List.length_set]; exact R.len, fun j b ys h1 h2 => ?_, fun i j b hi hj => R.inj i j b (live_set hi ⟨xs, hx⟩) (live_set hj ⟨xs, hx⟩), fun b h => ?_⟩
  · by_cases e : k = j
    · subst e
      rw [hk] at h1; cases h1
      rw [List.getElem?_set_self kl] at h2
      injection h2 with h2; injection h2 with h2; subst h2
      exact ⟨vs', upd_same, RLs.mono E R hv⟩
    · rw [List.getElem?_set_ne e] at h2
      obtain ⟨ws, q1, q2⟩ := R.cell j b ys h1 h2
      refine ⟨ws, ?_, RLs.mono E R q2⟩
      rw [upd_ne]
      · exact q1
      · intro z; subst z; exact e (R.inj k j b ⟨xs, hx⟩ ⟨ys, h2⟩ hk h1)
  · obtain ⟨⟨ws, q1⟩, q2⟩ := R.frz b h
    refine ⟨⟨ws, ?_⟩, fun j lj => q2 j (live_set lj ⟨xs, hx⟩)⟩
    rw [upd_ne]
    · exact q1
    · intro z; subst z; exact q2 k ⟨xs, hx⟩ hk
theorem live_dead {k j : Nat} (h : live (μ.set k .dead) j) : live μ j ∧ j ≠ k := by
  obtain ⟨xs, h⟩ := h
  by_cases e : k = j
  · subst e
    by_cases hl : k < μ.length
    · rw [List.getElem?_set_self hl] at h; cases h
    · rw [List.getElem?_eq_none (by simpa using hl)] at h; cases h
  · rw [List.getElem?_set_ne e] at h
    exact ⟨⟨xs, h⟩, fun z => e z.symm⟩
theorem ext_dead {xs : List LV} {k : Nat} {a : Addr} (hk : W.m[k]? = some a) (hx : μ[k]? = some (Cell.lst xs)) : Ext W H μ (W.fz a) H (μ.set k .dead) :=
  ⟨⟨[], by simp, by simp⟩, fun _ h => .inl h, fun _ h => h, fun _ _ h _ => h, fun b h => h.elim .inl fun e => .inr (.inr ⟨k, ⟨xs, hx⟩, by rw [e]; exact hk⟩), fun j _ h => (live_dead h).1⟩
theorem Rel.dead (R : Rel K W H μ) {xs : List LV} {k : Nat} {a : Addr} (hk : W.m[k]? = some a) (hx : μ[k]? = some (Cell.lst xs)) : Rel K (W.fz a) H (μ.set k .dead) := by
  have E : Ext W H μ (W.fz a) H (μ.set k .dead) := ext_dead hk hx
  refine ⟨by rw [List.length_set]; exact R.len, fun j b ys h1 h2 => ?_, fun i j b hi hj => R.inj i j b (live_dead hi).1 (live_dead hj).1, fun b h => ?_⟩
  · have e : j ≠ k := (live_dead (μ := μ) ⟨ys, h2⟩).2
    rw [List.getElem?_set_ne (Ne.symm e)] at h2
    obtain ⟨ws, q1, q2⟩ := R.cell j b ys h1 h2
    exact ⟨ws, q1, RLs.mono E R q2⟩
  · rcases h with h | h
    · obtain ⟨⟨ws, q1⟩, q2⟩ := R.frz b h
      exact ⟨⟨ws, q1⟩, fun j lj => q2 j (live_dead lj).1⟩
    · subst h
      obtain ⟨ws, q1, _⟩ := R.cell k b xs hk hx
      refine ⟨⟨ws, q1⟩, fun j lj hj => ?_⟩
      exact (live_dead lj).2 (R.inj j k b (live_dead lj).1 ⟨xs, hx⟩ hj hk)
end
end Gg

end
section
/-! GExp: each expression of the text does what its meaning over data says. -/
namespace Gg
open PySem L2

section
variable {K : PySem.W.Frag} {W W1 W2 W' : Wd} {H H1 H2 H' : Hp} {μ μ1 μ2 μ' : Sto} {F F' : Addr → Prop} {σ : List (Option V)} {e : Env}
/-- a value that is read: a list's own place may be any -/
def RT (K : PySem.W.Frag) (F : Addr → Prop) (H : Hp) (v : V) : PyData → Prop
  | .list xs => ∃ a vs, v = .ref a ∧ H a = some (HO.lst vs) ∧ RPs K F H vs xs
  | x => RP K F H v x
/-- .. the script, too -/
def RS (K : PySem.W.Frag) (F : Addr → Prop) (H : Hp) (v : V) : PyData → Prop
  | .list xs => ∃ a vs, v = .ref a ∧ SqL K H a vs ∧ RPs K F H vs xs
  | x => RP K F H v x
inductive RTs (K : PySem.W.Frag) (F : Addr → Prop) (H : Hp) : List V → List PyData → Prop
  | nil : RTs K F H [] []
  | cons {v : V} {vs : List V} {x : PyData} {xs : List PyData} : RT K F H v x → RTs K F H vs xs → RTs K F H (v :: vs) (x :: xs)
theorem RP.rt {v : V} : ∀ {x : PyData}, RP K F H v x → RT K F H v x
  | .list _, .lst _ h2 h3 => ⟨_, _, rfl, h2, h3⟩
  | .none, h => h
  | .bool _, h => h
  | .int _, h => h
  | .str _, h => h
  | .tuple _, h => h
  | .dict _, h => h
theorem RT.rs {v : V} : ∀ {x : PyData}, RT K F H v x → RS K F H v x
  | .list _, ⟨a, vs, h1, h2, h3⟩ => ⟨a, vs, h1, .of h2, h3⟩
  | .none, h => h
  | .bool _, h => h
  | .int _, h => h
  | .str _, h => h
  | .tuple _, h => h
  | .dict _, h => h
theorem RPs.length : ∀ {vs : List V} {xs : List PyData}, RPs K F H vs xs → vs.length = xs.length
  | _, _, .nil => rfl
  | _, _, .cons _ t => by rw [List.length_cons, List.length_cons, RPs.length t]
theorem RPs.append : ∀ {vs ws : List V} {xs ys : List PyData}, RPs K F H vs xs → RPs K F H ws ys → RPs K F H (vs ++ ws) (xs ++ ys)
  | _, _, _, _, .nil, s => s
  | _, _, _, _, .cons a t, s => .cons a (RPs.append t s)
theorem RPs.get : ∀ {vs : List V} {xs : List PyData} {i : Nat} {x : PyData}, RPs K F H vs xs → xs[i]? = some x → ∃ v, vs[i]? = some v ∧ RP K F H v x
  | _, _, _, _, .nil, e => by simp at e
  | _, _, 0, _, .cons r _, e => by simp at e; subst e; exact ⟨_, rfl, r⟩
  | _, _, i + 1, x, .cons _ t, e => by
    obtain ⟨v, h1, h2⟩ := RPs.get (i := i) (x := x) t (by simpa using e)
    exact ⟨v, by simpa using h1, h2⟩
theorem RPs.take : ∀ {vs : List V} {xs : List PyData} (n : Nat), RPs K F H vs xs → RPs K F H (vs.take n) (xs.take n)
  | _, _, 0, _ => .nil
  | _, _, _ + 1, .nil => .nil
  | _, _, n + 1, .cons r t => .cons r (RPs.take n t)
theorem RPs.drop : ∀ {vs : List V} {xs : List PyData} (n : Nat), RPs K F H vs xs → RPs K F H (vs.drop n) (xs.drop n)
  | _, _, 0, r => r
  | _, _, _ + 1, .nil => .nil
  | _, _, n + 1, .cons _ t => RPs.drop n t
theorem RPs.revAux : ∀ {vs ws : List V} {xs ys : List PyData}, RPs K F H vs xs → RPs K F H ws ys → RPs K F H (vs.reverseAux ws) (xs.reverseAux ys)
  | _, _, _, _, .nil, s => s
  | _, _, _, _, .cons a t, s => by
    simp only [List.reverseAux_cons]
    exact RPs.revAux t (.cons a s)
theorem RPs.reverse {vs : List V} {xs : List PyData} (h : RPs K F H vs xs) : RPs K F H vs.reverse xs.reverse := by
  show RPs K F H (vs.reverseAux []) (xs.reverseAux [])
  exact RPs.revAux h .nil
theorem RPs.repl {vs : List V} {xs : List PyData} (h : RPs K F H vs xs) : ∀ n : Nat, RPs K F H (List.replicate n vs).flatten (List.replicate n xs).flatten
  | 0 => .nil
  | n + 1 => by
    rw [List.replicate_succ, List.replicate_succ, List.flatten_cons, List.flatten_cons]
    exact h.append (RPs.repl h n)
theorem RLs.length : ∀ {vs : List V} {xs : List LV}, RLs K W H vs xs → vs.length = xs.length
  | _, _, .nil => rfl
  | _, _, .cons _ t => by rw [List.length_cons, List.length_cons, RLs.length t]
theorem RLs.get : ∀ {vs : List V} {xs : List LV} {i : Nat} {x : LV}, RLs K W H vs xs → xs[i]? = some x → ∃ v, vs[i]? = some v ∧ RL K W H v x
  | _, _, _, _, .nil, e => by simp at e
  | _, _, 0, _, .cons r _, e => by simp at e; subst e; exact ⟨_, rfl, r⟩
  | _, _, i + 1, x, .cons _ t, e => by
    obtain ⟨v, h1, h2⟩ := RLs.get (i := i) (x := x) t (by simpa using e)
    exact ⟨v, by simpa using h1, h2⟩
theorem RLs.append : ∀ {vs ws : List V} {xs ys : List LV}, RLs K W H vs xs → RLs K W H ws ys → RLs K W H (vs ++ ws) (xs ++ ys)
  | _, _, _, _, .nil, s => s
  | _, _, _, _, .cons a t, s => .cons a (RLs.append t s)
theorem RLs.set : ∀ {vs : List V} {xs : List LV} {v : V} {x : LV} (i : Nat), RLs K W H vs xs → RL K W H v x → RLs K W H (vs.set i v) (xs.set i x)
  | _, _, _, _, _, .nil, _ => .nil
  | _, _, _, _, 0, .cons _ t, r => .cons r t
  | _, _, _, _, i + 1, .cons a t, r => .cons a (RLs.set i t r)
theorem RLs.repl {vs : List V} {xs : List LV} (h : RLs K W H vs xs) : ∀ n : Nat, RLs K W H (List.replicate n vs).flatten (List.replicate n xs).flatten
  | 0 => .nil
  | n + 1 => by
    rw [List.replicate_succ, List.replicate_succ, List.flatten_cons, List.flatten_cons]
    exact h.append (RLs.repl h n)
theorem RLs.all : ∀ {vs : List V} {xs : List LV} {ys : List PyData}, RLs K W H vs xs → allD xs = some ys → RPs K W.F H vs ys
  | _, _, _, .nil, h => by cases h; exact .nil
  | _, .d x :: xs, _, .cons r t, h => by
    unfold allD at h
    cases q : allD xs with
    | none => rw [q] at h; cases h
    | some zs => rw [q] at h; cases h; exact .cons r (RLs.all t q)
  | _, .ref _ :: _, _, .cons _ _, h => by cases h
  | _, .ro _ :: _, _, .cons _ _, h => by cases h
  | _, .tr _ _ :: _, _, .cons _ _, h => by cases h
theorem RPs.rls : ∀ {vs : List V} {xs : List PyData}, RPs K W.F H vs xs → RLs K W H vs (xs.map .d)
  | _, _, .nil => .nil
  | _, _, .cons a t => .cons a (RPs.rls t)
theorem rd_ok (R : Rel K W H μ) {v : V} : ∀ {lv : LV} {x : PyData}, RL K W H v lv → rdD μ lv = some x → RT K W.F H v x
  | .d y, x, h, q => by cases q; exact RP.rt h
  | .ref k, x, ⟨a, hk, ev⟩, q => by
    cases hx : μ[k]? with
    | none => simp only [rdD, hx] at q; cases q
    | some c =>
      cases c with
      | dead => simp only [rdD, hx] at q; cases q
      | lst xs =>
        simp only [rdD, hx] at q
        cases ha : allD xs with
        | none => rw [ha] at q; cases q
        | some ys =>
          rw [ha] at q; cases q
          obtain ⟨vs, h1, h2⟩ := R.cell k a xs hk hx
          exact ⟨a, vs, ev, h1, h2.all ha⟩
  | .ro _, _, _, q => by cases q
  | .tr _ _, _, _, q => by cases q
theorem rdS_ok (R : Rel K W H μ) {v : V} : ∀ {lv : LV} {x : PyData}, RL K W H v lv → rdS μ lv = some x → RS K W.F H v x
  | .d y, x, h, q => by have q : rdD μ (.d y) = some x := q; exact (rd_ok R (lv := .d y) h q).rs
  | .ref k, x, h, q => by have q : rdD μ (.ref k) = some x := q; exact (rd_ok R (lv := .ref k) h q).rs
  | .ro xs, x, h, q => by
    obtain ⟨a, vs, h1, h2, h3⟩ := h
    have q : some (PyData.list xs) = some x := q
    cases q; exact ⟨a, vs, h1, h2.sq, h3⟩
  | .tr pre k, x, _, q => by have q : rdD μ (.tr pre k) = some x := q; cases q
theorem rdAll_ok (R : Rel K W H μ) : ∀ {vs : List V} {ls : List LV} {xs : List PyData}, RLs K W H vs ls → rdAll μ ls = some xs → RTs K W.F H vs xs
  | _, _, _, .nil, q => by cases q; exact .nil
  | _, l :: ls, _, .cons a t, q => by
    unfold rdAll at q
    split at q
    · rename_i x hx
      cases hq : rdAll μ ls with
      | none => rw [hq] at q; cases q
      | some ys => rw [hq] at q; cases q; exact .cons (rd_ok R a hx) (rdAll_ok R t hq)
    · cases q
theorem line_le : LINE ≤ sizeLine := by decide
theorem line_le' {n : Nat} (h : n ≤ LINE) : n ≤ sizeLine := Nat.le_trans h line_le
theorem line_lt {n : Nat} (h : n ≤ LINE) : n < sizeLine := Nat.lt_of_le_of_lt h (by decide)
end

/-! ### the judgements -/
/-- what is wanted behind an expression that comes to r and leaves μ' -/
abbrev Post (K : PySem.W.Frag) (W : Wd) (H : Hp) (μ μ' : Sto) (r : LV) (Q : VK) : Prop := ∀ W' H' v, Ext W H μ W' H' μ' → Rel K W' H' μ' → RL K W' H' v r → Q v H'
def tE (K : PySem.W.Frag) (f : EM) : TE := fun σ H Q => ∃ W e μ r μ', Rel K W H μ ∧ EnvOk K W H σ e ∧ f e μ = some (r, μ') ∧ Post K W H μ μ' r Q
def tT (K : PySem.W.Frag) (f : EM) : TT := fun σ H Q => ∃ W e μ r μ' b, Rel K W H μ ∧ EnvOk K W H σ e ∧ f e μ = some (r, μ') ∧ truth μ' r = some b ∧ ∀ W' H', Ext W H μ W' H' μ' → Rel K W' H' μ' → Q b H'
def tA (K : PySem.W.Frag) (fs : List EM) : TA := fun σ H Q => ∃ W e μ rs μ', Rel K W H μ ∧ EnvOk K W H σ e ∧ evalL fs e μ = some (rs, μ') ∧ ∀ W' H' vs, Ext W H μ W' H' μ' → Rel K W' H' μ' → RLs K W' H' vs rs → Q vs H'
/-- a new list: it stands at p, in nobody's hands yet -/
def tL (K : PySem.W.Frag) (f : LM) : TE := fun σ H Q => ∃ W e μ rs μ', Rel K W H μ ∧ EnvOk K W H σ e ∧ f e μ = some (rs, μ') ∧
  ∀ W' H' vs, Ext W H μ W' H' μ' → Rel K W' H' μ' → RLs K W' H' vs rs → ∀ p, H' p = none → Q (.ref p) (upd H' p (.lst vs))
abbrev SE (X : Cx) (a : Expr) (f : EM) : Prop := PE X a (tE X.K f)
abbrev ST (X : Cx) (a : Expr) (f : EM) : Prop := PT X a (tT X.K f)
abbrev SA (X : Cx) (as : List Expr) (fs : List EM) : Prop := PA X as (tA X.K fs)
abbrev SL (X : Cx) (a : Expr) (f : LM) : Prop := PE X a (tL X.K f)
theorem _root_.L2.PE.imp {X : Cx} {a : Expr} {t t' : TE} (h : PE X a t) (w : ∀ σ H Q, t' σ H Q → t σ H Q) : PE X a t' := ⟨fun pins s σ H Q I q => h.run pins s σ H Q I (w σ H Q q)⟩
theorem _root_.L2.PT.imp {X : Cx} {a : Expr} {t t' : TT} (h : PT X a t) (w : ∀ σ H Q, t' σ H Q → t σ H Q) : PT X a t' := ⟨fun pins s σ H Q I q => h.run pins s σ H Q I (w σ H Q q)⟩
theorem _root_.L2.PW.imp {X : Cx} {a : Expr} {t t' : TT} (h : PW X a t) (w : ∀ σ H Q, t' σ H Q → t σ H Q) : PW X a t' := ⟨fun wh pins s σ H Q I q => h.run wh pins s σ H Q I (w σ H Q q)⟩
theorem _root_.L2.PA.imp {X : Cx} {a : List Expr} {t t' : TA} (h : PA X a t) (w : ∀ σ H Q, t' σ H Q → t σ H Q) : PA X a t' := ⟨fun pos pins s σ H Q I q => h.run pos pins s σ H Q I (w σ H Q q)⟩

section
variable {X : Cx} {a b c : Expr} {fa fb fc : EM} {pos : Pos}
/-! ### new things -/
theorem post_lst {K : PySem.W.Frag} {W : Wd} {H : Hp} {μ : Sto} {vs : List V} {xs : List PyData} {Q : VK} (R : Rel K W H μ) (h : RPs K W.F H vs xs) (q : Post K W H μ μ (.d (.list xs)) Q) : ∀ p, H p = none → Q (.ref p) (upd H p (.lst vs)) := by
  intro p hp
  have E := ext_frz (W := W) (μ := μ) vs hp
  exact q _ _ _ E (R.newFrz vs hp) (.lst (.inr rfl) upd_same (RPs.mono (E.kp R) h))
theorem post_tup {K : PySem.W.Frag} {W : Wd} {H : Hp} {μ : Sto} {vs : List V} {xs : List PyData} {Q : VK} (R : Rel K W H μ) (h : RPs K W.F H vs xs) (q : Post K W H μ μ (.d (.tuple xs)) Q) : ∀ p, H p = none → Q (.ref p) (upd H p (.tup vs)) := by
  intro p hp
  have E := ext_new (W := W) (μ := μ) (.tup vs) hp
  exact q _ _ _ E (R.new (.tup vs) hp) (.tup (.of upd_same) (RPs.mono (E.kp R) h))
theorem tr_of {K : PySem.W.Frag} {W : Wd} {H : Hp} : ∀ {vs : List V} {ls : List LV} {pre : List PyData} {k : Nat}, RLs K W H vs ls → trOf ls = some (pre, k) → ∃ us b, vs = us ++ [.ref b] ∧ RPs K W.F H us pre ∧ W.m[k]? = some b
  | _, _, _, _, .nil, h => by cases h
  | _, [.ref k], _, _, .cons a .nil, h => by
    cases h
    obtain ⟨b, hb, rfl⟩ := a
    exact ⟨[], b, rfl, .nil, hb⟩
  | _, .d x :: r, _, _, .cons (v := v) a t, h => by
    simp only [trOf] at h
    cases q : trOf r with
    | none => rw [q] at h; cases h
    | some p =>
      rw [q] at h; cases h
      obtain ⟨us, b, rfl, h2, h3⟩ := tr_of t q
      exact ⟨v :: us, b, rfl, .cons a h2, h3⟩
  | _, .ref _ :: _ :: _, _, _, .cons _ _, h => by cases h
  | _, .ro _ :: _, _, _, .cons _ _, h => by cases h
  | _, .tr _ _ :: _, _, _, .cons _ _, h => by cases h
theorem post_tupV {K : PySem.W.Frag} {W : Wd} {H : Hp} {μ : Sto} {vs : List V} {ls : List LV} {x : LV} {Q : VK} (R : Rel K W H μ) (h : RLs K W H vs ls) (ht : tupV ls = some x) (q : Post K W H μ μ x Q) : ∀ p, H p = none → Q (.ref p) (upd H p (.tup vs)) := by
  unfold tupV at ht
  split at ht
  · rename_i xs ha
    cases ht
    exact post_tup R (h.all ha) q
  · cases hq : trOf ls with
    | none => rw [hq] at ht; cases ht
    | some pk =>
      rw [hq] at ht; cases ht
      obtain ⟨us, b, rfl, h2, h3⟩ := tr_of h hq
      intro p hp
      have E := ext_new (W := W) (μ := μ) (.tup (us ++ [.ref b])) hp
      exact q _ _ _ E (R.new (.tup _) hp) ⟨p, us, b, rfl, .of upd_same, RPs.mono (E.kp R) h2, h3⟩
/-! ### names, constants -/
theorem se_var {i : Nat} {x : Str} (hN : X.N[i]? = some x) (hv : Vis X.env.scope x) (hd : (x == ("__debug__" : Str)) = false) (hcd : (x == ("__classdict__" : Str)) = false) : SE X (.Name x pos) (eVar i) := by
  refine (pe_var hN hv hd hcd).imp fun σ H Q ⟨W, e, μ, r, μ', R, E, hf, q⟩ => ?_
  unfold eVar at hf
  split at hf
  · rename_i h
    cases hf
    obtain ⟨v, h1, h2⟩ := E.2 i _ h
    exact ⟨v, h1, q _ _ _ .refl R h2⟩
  · cases hf
theorem se_int {i : Int} {j : Nat} : SE X (.Constant (.int i) j pos) (eCon (.int i)) := pe_int.imp fun σ H Q ⟨W, e, μ, r, μ', R, E, hf, q⟩ => by cases hf; exact q _ _ _ .refl R (.int i)
theorem se_bool {i : Bool} {j : Nat} : SE X (.Constant (.bool i) j pos) (eCon (.bool i)) := pe_bl.imp fun σ H Q ⟨W, e, μ, r, μ', R, E, hf, q⟩ => by cases hf; exact q _ _ _ .refl R (.bl i)
theorem se_none {j : Nat} : SE X (.Constant .none j pos) (eCon .none) := pe_non.imp fun σ H Q ⟨W, e, μ, r, μ', R, E, hf, q⟩ => by cases hf; exact q _ _ _ .refl R .non
theorem se_str {i : Str} {j : Nat} : SE X (.Constant (.str i) j pos) (eCon (.str i)) := pe_str.imp fun σ H Q ⟨W, e, μ, r, μ', R, E, hf, q⟩ => by cases hf; exact q _ _ _ .refl R (.str i)
/-- an object of the module that reads as data -/
def GV (K : PySem.W.Frag) (u : Value) (d : PyData) : Prop := ∃ v, RelV v u ∧ ∀ (F : Addr → Prop) (H : Hp), RP K F H v d
theorem se_glob {x : Str} {d : PyData} {u : Value} (hg : Gl X x) (hm : X.mg x = some u) (hu : GV X.K u d) (hd : (x == ("__debug__" : Str)) = false) : SE X (.Name x pos) (eCon d) := by
  obtain ⟨v, h1, h2⟩ := hu
  exact (pe_glob (v := v) hg hm h1 hd).imp fun σ H Q ⟨W, e, μ, r, μ', R, E, hf, q⟩ => by cases hf; exact q _ _ _ .refl R (h2 _ _)
/-! ### argument lists -/
def notStar : Expr → Bool
  | .Starred _ _ => false
  | _ => true
theorem star_cons {env : PySem.Env} {es : List Expr} (h : notStar a = true) : starEach (a :: es) env = (false, eval a env) :: starEach es env := by
  cases a <;> first | rfl | cases h
theorem sa_nil : SA X [] [] := pa_nil.imp fun σ H Q ⟨W, e, μ, r, μ', R, E, hf, q⟩ => by
  unfold evalL at hf; cases hf; exact q _ _ _ .refl R .nil
theorem sa_cons {as : List Expr} {fs : List EM} (hn : notStar a = true) (ha : SE X a fa) (hs : SA X as fs) : SA X (a :: as) (fa :: fs) := by
  refine (pa_cons ha hs (star_cons hn)).imp fun σ H Q ⟨W, e, μ, r, μ', R, E, hf, q⟩ => ?_
  unfold evalL at hf
  split at hf
  · rename_i v m1 h1
    split at hf
    · rename_i vs m2 h2
      cases hf
      refine ⟨W, e, μ, v, m1, R, E, h1, fun W1 H1 x E1 R1 rx => ⟨W1, e, m1, vs, _, R1, E.mono E1 R, h2, fun W2 H2 xs E2 R2 rxs => ?_⟩⟩
      exact q W2 H2 _ (E1.trans E2) R2 (.cons (rx.mono E2 R1) rxs)
    · cases hf
  · cases hf
theorem evalL_len : ∀ {fs : List EM} {e : Env} {m m' : Sto} {vs : List LV}, evalL fs e m = some (vs, m') → vs.length = fs.length
  | [], _, _, _, _, h => by unfold evalL at h; cases h; rfl
  | f :: fs, e, m, m', vs, h => by
    unfold evalL at h
    split at h
    · split at h
      · rename_i h2
        cases h
        rw [List.length_cons, List.length_cons, evalL_len h2]
      · cases h
    · cases h
/-! ### tuples, lists -/
theorem se_tup {as : List Expr} {fs : List EM} {k : Nat} (hs : SA X as fs) (hl : fs.length ≤ 1000) : SE X (.Tuple as k pos) (eTup fs) := by
  refine (pe_tup hs).imp fun σ H Q ⟨W, e, μ, r, μ', R, E, hf, q⟩ => ?_
  unfold eTup at hf
  split at hf
  · rename_i vs m1 h1
    cases ht : tupV vs with
    | none => rw [ht] at hf; cases hf
    | some x =>
      rw [ht] at hf; cases hf
      refine ⟨W, e, μ, vs, _, R, E, h1, fun W1 H1 us E1 R1 rs => ⟨?_, ?_⟩⟩
      · rw [rs.length, evalL_len h1]
        exact Nat.le_of_lt (small1000 hl)
      · exact post_tupV R1 rs ht fun W' H' v E2 R2 rv => q W' H' v (E1.trans E2) R2 rv
  · cases hf
theorem sl_disp {as : List Expr} {fs : List EM} (hs : SA X as fs) (hl : fs.length ≤ 1000) : SL X (.List as pos) (lDisp fs) := by
  refine (pe_lst hs).imp fun σ H Q ⟨W, e, μ, r, μ', R, E, hf, q⟩ => ?_
  refine ⟨W, e, μ, r, _, R, E, hf, fun W1 H1 us E1 R1 rs => ⟨?_, q W1 H1 us E1 R1 rs⟩⟩
  rw [rs.length, evalL_len hf]
  exact Nat.le_of_lt (small1000 hl)
theorem se_lst {l : LM} (h : SL X a l) : SE X a (eLst l) := by
  refine h.imp fun σ H Q ⟨W, e, μ, r, μ', R, E, hf, q⟩ => ?_
  unfold eLst at hf
  split at hf
  · rename_i vs m1 h1
    cases ha : allD vs with
    | none => rw [ha] at hf; cases hf
    | some xs =>
      rw [ha] at hf; cases hf
      refine ⟨W, e, μ, vs, _, R, E, h1, fun W1 H1 us E1 R1 rs => ?_⟩
      exact post_lst R1 (rs.all ha) fun W' H' v E2 R2 rv => q W' H' v (E1.trans E2) R2 rv
  · cases hf
theorem se_new {l : LM} (h : SL X a l) : SE X a (eNew l) := by
  refine h.imp fun σ H Q ⟨W, e, μ, r, μ', R, E, hf, q⟩ => ?_
  unfold eNew at hf
  split at hf
  · rename_i vs m1 h1
    cases hf
    refine ⟨W, e, μ, vs, _, R, E, h1, fun W1 H1 us E1 R1 rs p hp => ?_⟩
    have E2 := ext_more us vs R1 hp
    refine q _ _ _ (E1.trans E2) (R1.newCell hp rs) ⟨p, ?_, rfl⟩
    show (W1.m ++ [p])[m1.length]? = some p
    rw [← R1.len, List.getElem?_append_right (Nat.le_refl _), Nat.sub_self]
    rfl
  · cases hf
/-! ### operators -/
def OpS (X : Cx) (op : Value → Value → Sem Value) (g : B2) : Prop :=
  ∃ r : R2, OpR X op r ∧ ∀ (W : Wd) (H : Hp) (μ : Sto) (x y : V) (dx dy z : PyData) (Q : VK), Rel X.K W H μ → RT X.K W.F H x dx → RT X.K W.F H y dy → g dx dy = some z → Post X.K W H μ μ (.d z) Q → r x y H Q
theorem bin_core {r : R2} {g : B2} {σ : List (Option V)} {H : Hp} {Q : VK} (hs : ∀ (W : Wd) (H : Hp) (μ : Sto) (x y : V) (dx dy z : PyData) (Q : VK), Rel X.K W H μ → RT X.K W.F H x dx → RT X.K W.F H y dy → g dx dy = some z → Post X.K W H μ μ (.d z) Q → r x y H Q)
    (h : tE X.K (eBin g fa fb) σ H Q) : tOp r (tE X.K fa) (tE X.K fb) σ H Q := by
  obtain ⟨W, e, μ, r0, μ', R, E, hf, q⟩ := h
  unfold eBin at hf
  split at hf
  · rename_i a m1 h1
    split at hf
    · rename_i b m2 h2
      split at hf
      · rename_i x y hx hy
        cases hz : g x y with
        | none => rw [hz] at hf; cases hf
        | some z =>
          rw [hz] at hf; cases hf
          refine ⟨W, e, μ, a, m1, R, E, h1, fun W1 H1 u E1 R1 ru => ⟨W1, e, m1, b, _, R1, E.mono E1 R, h2, fun W2 H2 w E2 R2 rw' => ?_⟩⟩
          exact hs W2 H2 _ u w x y z Q R2 (rd_ok R2 (ru.mono E2 R1) hx) (rd_ok R2 rw' hy) hz fun W' H' v E3 R3 rv => q W' H' v ((E1.trans E2).trans E3) R3 rv
      · cases hf
    · cases hf
  · cases hf
theorem se_bin {op : Operator} {g : B2} (ho : OpS X (binaryOp op) g) (ha : SE X a fa) (hb : SE X b fb) : SE X (.BinOp a op b pos) (eBin g fa fb) := by
  obtain ⟨r, hr, hs⟩ := ho
  exact (pe_op hr ha hb).imp fun σ H Q h => bin_core hs h
theorem se_cmp {op : CmpOp} {g : B2} (ho : OpS X (compareOp op) g) (hm : behindInMarks op b = false) (ha : SE X a fa) (hb : SE X b fb) : SE X (.Compare a [op] [b] pos) (eBin g fa fb) := by
  obtain ⟨r, hr, hs⟩ := ho
  exact (pe_cmpR hr ha hb hm).imp fun σ H Q h => bin_core hs h
/-- as a test, where the answer is True or False -/
theorem tT_bin {r : R2} {g : B2} (hB : ∀ x y z, g x y = some z → ∃ b, z = .bool b) {σ : List (Option V)} {H : Hp} {Q : Bool → Hp → Prop} (h : tT X.K (eBin g fa fb) σ H Q) :
    tE X.K (eBin g fa fb) σ H fun x H' => ∃ k, x = .bl k ∧ Q k H' := by
  obtain ⟨W, e, μ, r0, μ', b, R, E, hf, ht, q⟩ := h
  refine ⟨W, e, μ, r0, μ', R, E, hf, fun W' H' v E' R' rv => ?_⟩
  have : ∃ k, r0 = .d (.bool k) := by
    unfold eBin at hf
    split at hf
    · split at hf
      · split at hf
        · rename_i x y _ _
          cases hz : g x y with
          | none => rw [hz] at hf; cases hf
          | some z => rw [hz] at hf; cases hf; obtain ⟨k, hk⟩ := hB _ _ _ hz; exact ⟨k, by rw [hk]⟩
        · cases hf
      · cases hf
    · cases hf
  obtain ⟨k, rfl⟩ := this
  have hk : k = b := Option.some.inj ht
  subst hk
  cases rv
  exact ⟨k, rfl, q W' H' E' R'⟩
theorem st_cmp {op : CmpOp} {g : B2} (ho : OpS X (compareOp op) g) (hB : ∀ x y z, g x y = some z → ∃ b, z = .bool b) (hm : behindInMarks op b = false) (ha : SE X a fa) (hb : SE X b fb) : ST X (.Compare a [op] [b] pos) (eBin g fa fb) := by
  obtain ⟨r, hr, hs⟩ := ho
  exact (pt_cmpR hr ha hb hm).imp fun σ H Q h => bin_core hs (tT_bin (r := r) hB h)
end
end Gg

end
section
/-! GOps: the operators of the text do what data say. -/
namespace Gg
open PySem L2

section
variable {K : PySem.W.Frag} {F : Addr → Prop} {H : Hp}
mutual
theorem RP.dp : ∀ {x : PyData} {v : V}, RP K F H v x → Dp K H v x
  | .none, _, .non => .non
  | .bool b, _, .bl _ => .bl b
  | .int i, _, .int _ => .int i
  | .str s, _, .str _ => .str s
  | .list _, _, .lst _ h2 h3 => .lst (.of h2) (RPs.dp h3)
  | .tuple _, _, .tup h1 h2 => .tup h1 (RPs.dp h2)
theorem RPs.dp : ∀ {xs : List PyData} {vs : List V}, RPs K F H vs xs → DpAll K H vs xs
  | [], _, .nil => .nil
  | _ :: _, _, .cons a b => .cons (RP.dp a) (RPs.dp b)
end
theorem RT.dp {v : V} : ∀ {x : PyData}, RT K F H v x → Dp K H v x
  | .list _, ⟨a, vs, h1, h2, h3⟩ => by rw [h1]; exact .lst (.of h2) h3.dp
  | .none, h => RP.dp h
  | .bool _, h => RP.dp h
  | .int _, h => RP.dp h
  | .str _, h => RP.dp h
  | .tuple _, h => RP.dp h
  | .dict _, h => RP.dp h
theorem plain_all {n : Nat} : ∀ {xs : List PyData}, (∀ x, plainD n x = true → PyData.canLay0 x = true ∧ PyData.depth x ≤ n) → xs.all (plainD n) = true → PyData.canLayAll0 xs = true ∧ PyData.depthAll xs ≤ n
  | [], _, _ => ⟨rfl, by simp [PyData.depthAll]⟩
  | x :: xs, h, q => by
    rw [List.all_cons, Bool.and_eq_true] at q
    obtain ⟨a1, a2⟩ := h x q.1
    obtain ⟨b1, b2⟩ := plain_all h q.2
    refine ⟨by simp only [PyData.canLayAll0, a1, b1, Bool.and_self], ?_⟩
    simp only [PyData.depthAll]
    omega
theorem plain_ok : ∀ (n : Nat) (x : PyData), plainD n x = true → PyData.canLay0 x = true ∧ PyData.depth x ≤ n
  | 0, _, h => by simp [plainD] at h
  | n + 1, .none, _ => ⟨rfl, by simp [PyData.depth]⟩
  | n + 1, .bool _, _ => ⟨rfl, by simp [PyData.depth]⟩
  | n + 1, .int _, _ => ⟨rfl, by simp [PyData.depth]⟩
  | n + 1, .str s, h => ⟨h, by simp [PyData.depth]⟩
  | n + 1, .list xs, h => by
    obtain ⟨a, b⟩ := plain_all (plain_ok n) (show xs.all (plainD n) = true from h)
    exact ⟨a, by simp only [PyData.depth]; omega⟩
  | n + 1, .tuple xs, h => by
    obtain ⟨a, b⟩ := plain_all (plain_ok n) (show xs.all (plainD n) = true from h)
    exact ⟨a, by simp only [PyData.depth]; omega⟩
  | n + 1, .dict _, h => by simp [plainD] at h
theorem plain_shaped {x : PyData} (h : plainD DEEP x = true) : SeqAt.shaped x = true := by
  obtain ⟨a, b⟩ := plain_ok _ x h
  have b' : PyData.depth x ≤ 60 := b
  unfold SeqAt.shaped
  rw [a, Bool.true_and, decide_eq_true_eq]
  omega
end

section
variable {X : Cx}
theorem OpS.of {op : Value → Value → Sem Value} {g : B2} {r : R2} (h : OpR X op r) (w : ∀ (W : Wd) (H : Hp) (μ : Sto) (x y : V) (dx dy z : PyData) (Q : VK), Rel X.K W H μ → RT X.K W.F H x dx → RT X.K W.F H y dy → g dx dy = some z → Post X.K W H μ μ (.d z) Q → r x y H Q) : OpS X op g := ⟨r, h, w⟩
theorem ops_int {op : Value → Value → Sem Value} {g : B2} {r : Int → Int → V} {s : Int → Int → PyData} (h : OpR X op (rI0 r)) (hg : ∀ x y z, g x y = some z → ∃ i j, x = .int i ∧ y = .int j ∧ z = s i j)
    (hr : ∀ (K : PySem.W.Frag) (F : Addr → Prop) (H : Hp) (i j : Int), RP K F H (r i j) (s i j)) : OpS X op g := by
  refine .of h fun W H μ x y dx dy z Q R rx ry q0 q => ?_
  obtain ⟨i, j, rfl, rfl, rfl⟩ := hg dx dy z q0
  cases rx; cases ry
  exact ⟨i, j, rfl, rfl, q _ _ _ .refl R (hr _ _ _ i j)⟩
theorem ops_add : OpS X (binaryOp .Add) addD := by
  refine .of (((op_add.or op_add_str).or op_cat).or op_catA) fun W H μ x y dx dy z Q R rx ry hg q => ?_
  unfold addD at hg
  split at hg
  · cases hg; cases rx; cases ry
    exact .inl (.inl (.inl ⟨_, _, rfl, rfl, q _ _ _ .refl R (.int _)⟩))
  · split at hg
    · rename_i hl
      cases hg; cases rx; cases ry
      exact .inl (.inl (.inr ⟨_, _, rfl, rfl, line_le' hl, q _ _ _ .refl R (.str _)⟩))
    · cases hg
  · split at hg
    · rename_i hl
      cases hg
      obtain ⟨a, vs, rfl, h1, h2⟩ := rx
      obtain ⟨b, ws, rfl, h3, h4⟩ := ry
      exact .inl (.inr ⟨a, b, vs, ws, rfl, rfl, h1, h3, by rw [h2.length, h4.length]; exact line_le' hl, post_lst R (h2.append h4) q⟩)
    · cases hg
  · split at hg
    · rename_i hl
      cases hg
      cases rx with
      | tup h1 h2 =>
        cases ry with
        | tup h3 h4 =>
          refine .inr ⟨_, _, _, _, rfl, rfl, h1, h3, by rw [h2.length, h4.length]; exact line_le' hl, fun e => ?_, fun _ e => ?_, fun _ _ => post_tup R (h2.append h4) q⟩
          · subst e
            cases h2
            exact q _ _ _ .refl R (.tup h3 h4)
          · subst e
            cases h4
            exact q _ _ _ .refl R (.tup h1 (by rw [List.append_nil]; exact h2))
    · cases hg
  · cases hg
theorem ops_sub : OpS X (binaryOp .Sub) subD := ops_int (s := fun i j => .int (i - j)) op_sub (fun x y z h => by
  unfold subD at h
  split at h
  · cases h; exact ⟨_, _, rfl, rfl, rfl⟩
  · cases h) fun _ _ _ _ _ => .int _
theorem ops_mul : OpS X (binaryOp .Mult) mulD := by
  refine .of (op_mulW.or op_rep) fun W H μ x y dx dy z Q R rx ry hg q => ?_
  unfold mulD at hg
  split at hg
  · split at hg
    · rename_i hl
      cases hg; cases rx; cases ry
      exact .inl ⟨_, _, rfl, rfl, hl, q _ _ _ .refl R (.int _)⟩
    · cases hg
  · split at hg
    · rename_i hl
      cases hg
      have hk := rng_ok hl.2
      obtain ⟨a, vs, rfl, h1, h2⟩ := rx
      cases ry
      exact .inr ⟨a, _, vs, rfl, rfl, h1, by omega, by omega, by rw [h2.length]; exact line_le' hl.1, post_lst R (h2.repl _) q⟩
    · cases hg
  · cases hg
theorem ops_fdiv : OpS X (binaryOp .FloorDiv) fdivD := by
  refine .of op_fdivW fun W H μ x y dx dy z Q R rx ry hg q => ?_
  unfold fdivD at hg
  split at hg
  · split at hg
    · rename_i hl
      cases hg; cases rx; cases ry
      exact ⟨_, _, rfl, rfl, hl, q _ _ _ .refl R (.int _)⟩
    · cases hg
  · cases hg
theorem ops_mod : OpS X (binaryOp .Mod) modD := by
  refine .of op_mod fun W H μ x y dx dy z Q R rx ry hg q => ?_
  unfold modD at hg
  split at hg
  · split at hg
    · rename_i hl
      cases hg; cases rx; cases ry
      exact ⟨_, _, rfl, rfl, hl, q _ _ _ .refl R (.int _)⟩
    · cases hg
  · cases hg
theorem strs_inv {a b : PyData} {r : Bool} (h : strsB a b = some r) : ∃ x y, a = .str x ∧ b = .str y ∧ r = decide (x = y) := by
  unfold strsB at h
  split at h
  · cases h; exact ⟨_, _, rfl, rfl, rfl⟩
  · cases h
theorem dec_str {x y : Str} : decide (V.str x = V.str y) = decide (x = y) := by
  rw [Bool.eq_iff_iff]; simp
theorem ops_eq (hu : X.A.units + 64 < cLine) : OpS X (compareOp .Eq) eqD := by
  refine .of (op_eq.or (op_eqD hu)) fun W H μ x y dx dy z Q R rx ry hg q => ?_
  unfold eqD eqB at hg
  split at hg
  · rename_i r hr
    cases hg
    obtain ⟨s, t, rfl, rfl, rfl⟩ := strs_inv hr
    cases rx; cases ry
    exact .inl ⟨rfl, q _ _ _ .refl R (by rw [dec_str]; exact .bl _)⟩
  · split at hg
    · rename_i h
      rw [Bool.and_eq_true] at h
      cases hg
      exact .inr ⟨dx, dy, rx.dp, ry.dp, plain_shaped h.1, plain_shaped h.2, q _ _ _ .refl R (.bl _)⟩
    · cases hg
theorem ops_ne (hu : X.A.units + 64 < cLine) : OpS X (compareOp .NotEq) neD := by
  refine .of (op_ne.or (op_neD hu)) fun W H μ x y dx dy z Q R rx ry hg q => ?_
  unfold neD eqB at hg
  split at hg
  · rename_i r hr
    cases hg
    obtain ⟨s, t, rfl, rfl, rfl⟩ := strs_inv hr
    cases rx; cases ry
    exact .inl ⟨rfl, q _ _ _ .refl R (by rw [dec_str]; exact .bl _)⟩
  · split at hg
    · rename_i h
      rw [Bool.and_eq_true] at h
      cases hg
      exact .inr ⟨dx, dy, rx.dp, ry.dp, plain_shaped h.1, plain_shaped h.2, q _ _ _ .refl R (.bl _)⟩
    · cases hg
theorem cmpI_inv {p : Int → Int → Bool} {r : PyData → PyData → Bool} {x y z : PyData} (h : cmpI p r x y = some z) : (∃ i j, x = .int i ∧ y = .int j ∧ z = .bool (p i j)) ∨ (ordB x y = true ∧ z = .bool (r x y)) := by
  unfold cmpI at h
  split at h
  · cases h; exact .inl ⟨_, _, rfl, rfl, rfl⟩
  · split at h
    · rename_i ho; cases h; exact .inr ⟨ho, rfl⟩
    · cases h
theorem isNone_ne {x : PyData} (h : (!isNoneB x) = true) : x ≠ .none := by
  intro e; subst e; cases h
theorem ord_ok {x y : PyData} (h : ordB x y = true) : PySem.W.alike x y = true ∧ x ≠ .none ∧ PyData.depth x ≤ 60 := by
  unfold ordB at h
  rw [Bool.and_eq_true, Bool.and_eq_true, Bool.and_eq_true] at h
  exact ⟨h.1.1.1, isNone_ne h.1.1.2, (plain_ok _ _ h.1.2).2⟩
/-- two data in order -/
def rOrd (K : PySem.W.Frag) (r : PyData → PyData → Bool) : R2 := fun x y H Q => ∃ d e, Dp K H x d ∧ Dp K H y e ∧ ordB d e = true ∧ Q (.bl (r d e)) H
theorem op_ord {op : CmpOp} {r : PyData → PyData → Bool} (hu : X.A.units + 65 < cLine)
    (h : ∀ {s : Shared} {a b : Value} {da db : PyData} {as bs : List Addr} {Q : Value → Shared → Prop}, Reads s.heap a da as → Reads s.heap b db bs → PySem.W.alike da db = true → da ≠ .none → X.A.units + min da.depth db.depth < cLine → Q (.bool (r da db)) s → wpAny (model X.prog X.w) X.A (compareOp op a b) Q X.xe s) :
    OpR X (compareOp op) (rOrd X.K r) := by
  intro pins s σ H x y v u Q I rx ry q
  obtain ⟨d, e, hd, he, o, q⟩ := q
  obtain ⟨as, r1⟩ := Dp.reads I d x v hd rx
  obtain ⟨bs, r2⟩ := Dp.reads I e y u he ry
  obtain ⟨o1, o2, o3⟩ := ord_ok o
  exact h r1 r2 o1 o2 (by have := Nat.min_le_left d.depth e.depth; omega) ⟨.bl _, H, I, rfl, q⟩
theorem ops_cmp {op : CmpOp} {p : Int → Int → Bool} {r : PyData → PyData → Bool} (h1 : OpR X (compareOp op) (rI0 fun i j => .bl (p i j))) (h2 : OpR X (compareOp op) (rOrd X.K r)) : OpS X (compareOp op) (cmpI p r) := by
  refine .of (h1.or h2) fun W H μ x y dx dy z Q R rx ry q0 q => ?_
  rcases cmpI_inv q0 with ⟨i, j, rfl, rfl, rfl⟩ | ⟨ho, rfl⟩
  · cases rx; cases ry
    exact .inl ⟨i, j, rfl, rfl, q _ _ _ .refl R (.bl _)⟩
  · exact .inr ⟨dx, dy, rx.dp, ry.dp, ho, q _ _ _ .refl R (.bl _)⟩
theorem ops_lt (hu : X.A.units + 65 < cLine) : OpS X (compareOp .Lt) ltD := ops_cmp op_lt (op_ord hu PySem.W.lt_data)
theorem ops_le (hu : X.A.units + 65 < cLine) : OpS X (compareOp .LtE) leD := ops_cmp op_le (op_ord hu PySem.W.le_data)
theorem ops_gt (hu : X.A.units + 65 < cLine) : OpS X (compareOp .Gt) gtD := ops_cmp op_gt (op_ord hu PySem.W.gt_data)
theorem ops_ge (hu : X.A.units + 65 < cLine) : OpS X (compareOp .GtE) geD := ops_cmp op_ge (op_ord hu PySem.W.ge_data)
theorem flat_v {K : PySem.W.Frag} {F : Addr → Prop} {H : Hp} {v : V} : ∀ {x : PyData}, RP K F H v x → flatD x = true → flatV v = true
  | .none, .non, _ => rfl
  | .bool _, .bl _, _ => rfl
  | .int _, .int _, _ => rfl
  | .str _, .str _, _ => rfl
theorem flat_rt {K : PySem.W.Frag} {F : Addr → Prop} {H : Hp} {v : V} : ∀ {x : PyData}, RT K F H v x → flatD x = true → RP K F H v x
  | .none, h, _ => h
  | .bool _, h, _ => h
  | .int _, h, _ => h
  | .str _, h, _ => h
theorem flat_all {K : PySem.W.Frag} {F : Addr → Prop} {H : Hp} : ∀ {vs : List V} {xs : List PyData}, RPs K F H vs xs → xs.all flatD = true → vs.all flatV = true
  | _, _, .nil, _ => rfl
  | _, _, .cons a t, h => by
    rw [List.all_cons, Bool.and_eq_true] at h
    rw [List.all_cons, flat_v a h.1, flat_all t h.2]
    rfl
theorem flat_eq {K : PySem.W.Frag} {F : Addr → Prop} {H : Hp} {v w : V} {x y : PyData} (hx : RP K F H v x) (hy : RP K F H w y) (fx : flatD x = true) (fy : flatD y = true) : eqV v w = PyData.eqv x y := by
  cases hx <;> first | (simp [flatD] at fx; done) | (cases hy <;> first | (simp [flatD] at fy; done) | rfl | (simp [eqV, PyData.eqv]))
theorem flat_any {K : PySem.W.Frag} {F : Addr → Prop} {H : Hp} {v : V} {x : PyData} (hx : RP K F H v x) (fx : flatD x = true) : ∀ {vs : List V} {xs : List PyData}, RPs K F H vs xs → xs.all flatD = true → inV v vs = xs.any fun z => PyData.eqv z x
  | _, _, .nil, _ => rfl
  | _, _, .cons a t, h => by
    rw [List.all_cons, Bool.and_eq_true] at h
    have := flat_any hx fx t h.2
    unfold inV at this ⊢
    rw [List.any_cons, List.any_cons, this, flat_eq a hx h.1 fx]
theorem in_core {W : Wd} {H : Hp} {μ : Sto} {x y : V} {dx dy : PyData} {b : Bool} {Q : Bool → Prop} (R : Rel X.K W H μ) (rx : RT X.K W.F H x dx) (ry : RT X.K W.F H y dy) (hg : inB dx dy = some b) (q : Q b) :
    (∃ p xs, y = .ref p ∧ (SqL X.K H p xs ∨ SqT X.K H p xs) ∧ flatV x = true ∧ xs.all flatV = true ∧ Q (inV x xs)) ∨
    (∃ d ds, Dp X.K H x d ∧ (Dp X.K H y (.list ds) ∧ SeqAt.shaped (.list ds) = true ∨ Dp X.K H y (.tuple ds) ∧ SeqAt.shaped (.tuple ds) = true) ∧ SeqAt.shaped d = true ∧ Q (ds.any fun z => PyData.eqv z d)) := by
  unfold inB at hg
  split at hg
  · split at hg
    · rename_i h
      rw [Bool.and_eq_true] at h
      cases hg
      exact .inr ⟨dx, _, rx.dp, .inl ⟨ry.dp, plain_shaped h.2⟩, plain_shaped h.1, q⟩
    · cases hg
  · split at hg
    · rename_i h
      rw [Bool.and_eq_true] at h
      cases hg
      have px := flat_rt rx h.1
      cases ry with
      | tup h1 h2 => exact .inl ⟨_, _, rfl, .inr h1, flat_v px h.1, flat_all h2 h.2, by rw [flat_any px h.1 h2 h.2]; exact q⟩
    · split at hg
      · rename_i h
        rw [Bool.and_eq_true] at h
        cases hg
        exact .inr ⟨dx, _, rx.dp, .inr ⟨ry.dp, plain_shaped h.2⟩, plain_shaped h.1, q⟩
      · cases hg
  · cases hg
/-- among the items of a list or a tuple of data -/
def rInT (K : PySem.W.Frag) (n : Bool) : R2 := fun x y H Q => ∃ d ds, Dp K H x d ∧ (Dp K H y (.list ds) ∧ SeqAt.shaped (.list ds) = true ∨ Dp K H y (.tuple ds) ∧ SeqAt.shaped (.tuple ds) = true) ∧ SeqAt.shaped d = true ∧ Q (.bl ((ds.any fun z => PyData.eqv z d) != n)) H
theorem op_inT (hu : X.A.units + 65 < cLine) : OpR X (compareOp .In) (rInT X.K false) := by
  intro pins s σ H x y v u Q I rx ry h
  obtain ⟨d, ds, hd, he, sd, q⟩ := h
  rw [Bool.bne_false] at q
  obtain ⟨as, r1⟩ := Dp.reads I d x v hd rx
  rcases he with ⟨he, se⟩ | ⟨he, se⟩
  · obtain ⟨bs, r2⟩ := Dp.reads I (.list ds) y u he ry
    exact SeqAt.in_list_reads r2 r1 (SeqAt.canLay_of_shaped se) (SeqAt.canLay_of_shaped sd) (PyProof.Rows.room_in_shaped sd hu) ⟨.bl _, H, I, rfl, q⟩
  · obtain ⟨bs, r2⟩ := Dp.reads I (.tuple ds) y u he ry
    exact SeqAt.in_tuple_reads r2 r1 (SeqAt.canLay_of_shaped se) (SeqAt.canLay_of_shaped sd) (PyProof.Rows.room_in_shaped sd hu) ⟨.bl _, H, I, rfl, q⟩
theorem op_notInT (hu : X.A.units + 65 < cLine) : OpR X (compareOp .NotIn) (rInT X.K true) := by
  intro pins s σ H x y v u Q I rx ry h
  obtain ⟨d, ds, hd, he, sd, q⟩ := h
  rw [Bool.bne_true] at q
  obtain ⟨as, r1⟩ := Dp.reads I d x v hd rx
  rcases he with ⟨he, se⟩ | ⟨he, se⟩
  · obtain ⟨bs, r2⟩ := Dp.reads I (.list ds) y u he ry
    exact SeqAt.notIn_list_reads r2 r1 (SeqAt.canLay_of_shaped se) (SeqAt.canLay_of_shaped sd) (PyProof.Rows.room_in_shaped sd hu) ⟨.bl _, H, I, rfl, q⟩
  · obtain ⟨bs, r2⟩ := Dp.reads I (.tuple ds) y u he ry
    exact SeqAt.notIn_tuple_reads r2 r1 (SeqAt.canLay_of_shaped se) (SeqAt.canLay_of_shaped sd) (PyProof.Rows.room_in_shaped sd hu) ⟨.bl _, H, I, rfl, q⟩
theorem ops_in (hu : X.A.units + 65 < cLine) : OpS X (compareOp .In) inD := by
  refine .of (op_in_seq.or (op_inT hu)) fun W H μ x y dx dy z Q R rx ry hg q => ?_
  unfold inD at hg
  cases hb : inB dx dy with
  | none => rw [hb] at hg; cases hg
  | some b =>
    rw [hb] at hg; cases hg
    rcases in_core (Q := fun b => Q (.bl b) H) R rx ry hb (q _ _ _ .refl R (.bl b)) with h | ⟨d, ds, h1, h2, h3, h4⟩
    · exact .inl h
    · exact .inr ⟨d, ds, h1, h2, h3, by rw [Bool.bne_false]; exact h4⟩
theorem ops_notIn (hu : X.A.units + 65 < cLine) : OpS X (compareOp .NotIn) notInD := by
  refine .of (op_notIn_seq.or (op_notInT hu)) fun W H μ x y dx dy z Q R rx ry hg q => ?_
  unfold notInD at hg
  cases hb : inB dx dy with
  | none => rw [hb] at hg; cases hg
  | some b =>
    rw [hb] at hg; cases hg
    rcases in_core (Q := fun b => Q (.bl (!b)) H) R rx ry hb (q _ _ _ .refl R (.bl (!b))) with h | ⟨d, ds, h1, h2, h3, h4⟩
    · exact .inl h
    · exact .inr ⟨d, ds, h1, h2, h3, by rw [Bool.bne_true]; exact h4⟩
theorem isNone_v {K : PySem.W.Frag} {F : Addr → Prop} {H : Hp} {v : V} : ∀ {x : PyData}, RT K F H v x → decide (v = V.non) = isNoneB x
  | .none, h => by cases h; rfl
  | .bool _, h => by cases h; rfl
  | .int _, h => by cases h; rfl
  | .str _, h => by cases h; rfl
  | .list _, ⟨_, _, e, _⟩ => by rw [e]; rfl
  | .tuple _, h => by cases h; rfl
  | .dict _, h => nomatch h
theorem ops_is : OpS X (compareOp .Is) isD := by
  refine .of op_isN fun W H μ x y dx dy z Q R rx ry hg q => ?_
  unfold isD at hg
  split at hg
  · cases hg; cases ry
    exact ⟨rfl, q _ _ _ .refl R (by rw [isNone_v rx]; exact .bl _)⟩
  · cases hg
theorem ops_isNot : OpS X (compareOp .IsNot) isNotD := by
  refine .of op_notN fun W H μ x y dx dy z Q R rx ry hg q => ?_
  unfold isNotD at hg
  split at hg
  · cases hg; cases ry
    exact ⟨rfl, q _ _ _ .refl R (by rw [isNone_v rx]; exact .bl _)⟩
  · cases hg
end
end Gg

end
section
/-! GExp2: truth, and, or, not, conditional expressions, items, slices, built-in functions. -/
namespace Gg
open PySem L2

section
variable {K : PySem.W.Frag} {F : Addr → Prop} {H : Hp}
theorem rps_empty {vs : List V} {xs : List PyData} (h : RPs K F H vs xs) : vs.isEmpty = xs.isEmpty := by cases h <;> rfl
theorem rls_empty {W : Wd} {vs : List V} {xs : List LV} (h : RLs K W H vs xs) : vs.isEmpty = xs.isEmpty := by cases h <;> rfl
theorem truth_ok {v : V} {b : Bool} : ∀ {x : PyData}, RT K F H v x → truthD x = some b → TruV K v H b
  | .none, h, q => by cases h; cases q; rfl
  | .bool _, h, q => by cases h; cases q; rfl
  | .int _, h, q => by cases h; cases q; rfl
  | .str s, h, q => by
    cases h
    simp only [truthD] at q
    split at q
    · rename_i hl; cases q; exact ⟨line_le' hl, rfl⟩
    · cases q
  | .list _, ⟨a, vs, e, h1, h2⟩, q => by
    subst e; cases q
    exact .inl ⟨vs, .of h1, by rw [rps_empty h2]⟩
  | .tuple _, h, q => by
    cases q
    cases h with
    | tup h1 h2 => exact .inr (.inl ⟨_, h1, by rw [rps_empty h2]⟩)
  | .dict _, h, q => nomatch h
end
section
variable {X : Cx} {a b c : Expr} {fa fb fc : EM} {pos p : Pos} {rest : List Expr}
theorem truthV {K : PySem.W.Frag} {W : Wd} {H : Hp} {μ : Sto} (R : Rel K W H μ) {v : V} {lv : LV} {b : Bool} (h : RL K W H v lv) (q : truth μ lv = some b) : TruV K v H b := by
  have plain : (rdD μ lv).bind truthD = some b → TruV K v H b := by
    intro q
    cases hx : rdD μ lv with
    | none => rw [hx] at q; cases q
    | some x => rw [hx] at q; exact truth_ok (rd_ok R h hx) q
  cases lv with
  | d x => exact plain q
  | ro xs => exact plain q
  | tr pre k => exact plain q
  | ref k =>
    simp only [truth] at q
    split at q
    · rename_i xs hx
      cases q
      obtain ⟨a, h2, rfl⟩ := h
      obtain ⟨vs, h3, h4⟩ := R.cell _ a _ h2 hx
      exact .inl ⟨vs, .of h3, by rw [rls_empty h4]⟩
    · cases q
/-- a test of any value -/
theorem st_plain (ha : SE X a fa) (he : ∀ whole, isTrue a X.env whole = (do let v ← whole; standAt a.pos; holding [v] (truthy v))) : ST X a fa := by
  refine (pt_truth ha he).imp fun σ H Q ⟨W, e, μ, r, μ', b, R, E, hf, ht, q⟩ => ?_
  exact ⟨W, e, μ, r, μ', R, E, hf, fun W' H' v E' R' rv => ⟨b, truthV R' rv ht, q W' H' E' R'⟩⟩
theorem se_and (ha : SE X a fa) (hb : SE X (.BoolOp .And (b :: rest) pos) fb) : SE X (.BoolOp .And (a :: b :: rest) pos) (eAnd fa fb) := by
  refine (pe_andT ha hb).imp fun σ H Q ⟨W, e, μ, r, μ', R, E, hf, q⟩ => ?_
  unfold eAnd at hf
  split at hf
  · rename_i v m1 h1
    refine ⟨W, e, μ, v, m1, R, E, h1, fun W1 H1 x E1 R1 rx => ?_⟩
    split at hf
    · rename_i ht
      exact ⟨true, truthV R1 rx ht, iteT ⟨W1, e, m1, r, μ', R1, E.mono E1 R, hf, fun W2 H2 y E2 R2 ry => q W2 H2 y (E1.trans E2) R2 ry⟩⟩
    · rename_i ht
      cases hf
      exact ⟨false, truthV R1 rx ht, iteF (q W1 H1 x E1 R1 rx)⟩
    · cases hf
  · cases hf
theorem se_or (ha : SE X a fa) (hb : SE X (.BoolOp .Or (b :: rest) pos) fb) : SE X (.BoolOp .Or (a :: b :: rest) pos) (eOr fa fb) := by
  refine (pe_orT ha hb).imp fun σ H Q ⟨W, e, μ, r, μ', R, E, hf, q⟩ => ?_
  unfold eOr at hf
  split at hf
  · rename_i v m1 h1
    refine ⟨W, e, μ, v, m1, R, E, h1, fun W1 H1 x E1 R1 rx => ?_⟩
    split at hf
    · rename_i ht
      cases hf
      exact ⟨true, truthV R1 rx ht, iteT (q W1 H1 x E1 R1 rx)⟩
    · rename_i ht
      exact ⟨false, truthV R1 rx ht, iteF ⟨W1, e, m1, r, μ', R1, E.mono E1 R, hf, fun W2 H2 y E2 R2 ry => q W2 H2 y (E1.trans E2) R2 ry⟩⟩
    · cases hf
  · cases hf
theorem se_one {op : BoolOp} (ha : SE X a fa) : SE X (.BoolOp op [a] pos) fa := pe_one ha
theorem se_not (ha : SE X a fa) : SE X (.UnaryOp .Not a pos) (eNot fa) := by
  refine (pe_notT ha).imp fun σ H Q ⟨W, e, μ, r, μ', R, E, hf, q⟩ => ?_
  unfold eNot at hf
  split at hf
  · rename_i v m1 h1
    cases ht : truth m1 v with
    | none => rw [ht] at hf; cases hf
    | some b =>
      rw [ht] at hf; cases hf
      exact ⟨W, e, μ, v, _, R, E, h1, fun W1 H1 x E1 R1 rx => ⟨b, truthV R1 rx ht, q W1 H1 _ E1 R1 (.bl _)⟩⟩
  · cases hf
/-! the same as tests -/
abbrev SW (X : Cx) (a : Expr) (f : EM) : Prop := PW X a (tT X.K f)
theorem sw_one_and (ha : ST X a fa) : SW X (.BoolOp .And [a] pos) fa := pw_and1 ha
theorem sw_one_or (ha : ST X a fa) : SW X (.BoolOp .Or [a] pos) fa := pw_or1 ha
theorem sw_and (ha : ST X a fa) (hb : SW X (.BoolOp .And (b :: rest) pos) fb) : SW X (.BoolOp .And (a :: b :: rest) pos) (eAnd fa fb) := by
  refine (pw_and ha hb).imp fun σ H Q ⟨W, e, μ, r, μ', bb, R, E, hf, hT, q⟩ => ?_
  unfold eAnd at hf
  split at hf
  · rename_i v m1 h1
    split at hf
    · rename_i ht
      exact ⟨W, e, μ, v, m1, true, R, E, h1, ht, fun W1 H1 E1 R1 => iteT ⟨W1, e, m1, r, μ', bb, R1, E.mono E1 R, hf, hT, fun W2 H2 E2 R2 => q W2 H2 (E1.trans E2) R2⟩⟩
    · rename_i ht
      cases hf
      rw [ht] at hT; cases hT
      exact ⟨W, e, μ, _, _, false, R, E, h1, ht, fun W1 H1 E1 R1 => iteF (q W1 H1 E1 R1)⟩
    · cases hf
  · cases hf
theorem sw_or (ha : ST X a fa) (hb : SW X (.BoolOp .Or (b :: rest) pos) fb) : SW X (.BoolOp .Or (a :: b :: rest) pos) (eOr fa fb) := by
  refine (pw_or ha hb).imp fun σ H Q ⟨W, e, μ, r, μ', bb, R, E, hf, hT, q⟩ => ?_
  unfold eOr at hf
  split at hf
  · rename_i v m1 h1
    split at hf
    · rename_i ht
      cases hf
      rw [ht] at hT; cases hT
      exact ⟨W, e, μ, _, _, true, R, E, h1, ht, fun W1 H1 E1 R1 => iteT (q W1 H1 E1 R1)⟩
    · rename_i ht
      exact ⟨W, e, μ, v, m1, false, R, E, h1, ht, fun W1 H1 E1 R1 => iteF ⟨W1, e, m1, r, μ', bb, R1, E.mono E1 R, hf, hT, fun W2 H2 E2 R2 => q W2 H2 (E1.trans E2) R2⟩⟩
    · cases hf
  · cases hf
theorem st_not (ha : ST X a fa) : ST X (.UnaryOp .Not a pos) (eNot fa) := by
  refine (pt_not ha).imp fun σ H Q ⟨W, e, μ, r, μ', bb, R, E, hf, hT, q⟩ => ?_
  unfold eNot at hf
  split at hf
  · rename_i v m1 h1
    cases ht : truth m1 v with
    | none => rw [ht] at hf; cases hf
    | some b =>
      rw [ht] at hf; cases hf
      have : (!b) = bb := Option.some.inj hT
      subst this
      exact ⟨W, e, μ, v, _, b, R, E, h1, ht, fun W1 H1 E1 R1 => q W1 H1 E1 R1⟩
  · cases hf
theorem se_ite (hc : ST X c fc) (ha : SE X a fa) (hb : SE X b fb) : SE X (.IfExp c a b pos) (eIte fc fa fb) := by
  refine (pe_ifExp hc ha hb).imp fun σ H Q ⟨W, e, μ, r, μ', R, E, hf, q⟩ => ?_
  unfold eIte at hf
  split at hf
  · rename_i v m1 h1
    split at hf
    · rename_i ht
      exact ⟨W, e, μ, v, m1, true, R, E, h1, ht, fun W1 H1 E1 R1 => iteT ⟨W1, e, m1, r, μ', R1, E.mono E1 R, hf, fun W2 H2 y E2 R2 ry => q W2 H2 y (E1.trans E2) R2 ry⟩⟩
    · rename_i ht
      exact ⟨W, e, μ, v, m1, false, R, E, h1, ht, fun W1 H1 E1 R1 => iteF ⟨W1, e, m1, r, μ', R1, E.mono E1 R, hf, fun W2 H2 y E2 R2 ry => q W2 H2 y (E1.trans E2) R2 ry⟩⟩
    · cases hf
  · cases hf
/-! ### a < b < c -/
theorem chain_core {r r' : R2} {g h : B2} {σ : List (Option V)} {H : Hp} {Q : VK}
    (hs : ∀ (W : Wd) (H : Hp) (μ : Sto) (x y : V) (dx dy z : PyData) (Q : VK), Rel X.K W H μ → RT X.K W.F H x dx → RT X.K W.F H y dy → g dx dy = some z → Post X.K W H μ μ (.d z) Q → r x y H Q)
    (hs' : ∀ (W : Wd) (H : Hp) (μ : Sto) (x y : V) (dx dy z : PyData) (Q : VK), Rel X.K W H μ → RT X.K W.F H x dx → RT X.K W.F H y dy → h dx dy = some z → Post X.K W H μ μ (.d z) Q → r' x y H Q)
    (w : tE X.K (eChain g h fa fb fc) σ H Q) : tChain r r' (tE X.K fa) (tE X.K fb) (tE X.K fc) σ H Q := by
  obtain ⟨W, e, μ, r0, μ', R, E, hf, q⟩ := w
  unfold eChain at hf
  split at hf
  · rename_i a m1 h1
    split at hf
    · rename_i b m2 h2
      split at hf
      · rename_i x y hx hy
        refine ⟨W, e, μ, a, m1, R, E, h1, fun W1 H1 u E1 R1 ru => ⟨W1, e, m1, b, m2, R1, E.mono E1 R, h2, fun W2 H2 w E2 R2 rw' => ?_⟩⟩
        have tx := rd_ok R2 (ru.mono E2 R1) hx
        have ty := rd_ok R2 rw' hy
        split at hf
        · rename_i hz
          refine hs W2 H2 m2 u w x y _ _ R2 tx ty hz fun W3 H3 v E3 R3 rv => ⟨true, by cases rv; rfl, iteT ?_⟩
          split at hf
          · rename_i c m3 h3
            split at hf
            · rename_i y' z' hy' hz'
              cases hw : h y' z' with
              | none => rw [hw] at hf; cases hf
              | some t =>
                rw [hw] at hf; cases hf
                refine ⟨W3, e, m2, c, _, R3, (E.mono E1 R).mono (E2.trans E3) R1, h3, fun W4 H4 k E4 R4 rk => ?_⟩
                exact hs' W4 H4 _ w k y' z' t Q R4 (rd_ok R4 (rw'.mono (E3.trans E4) R2) hy') (rd_ok R4 rk hz') hw fun W5 H5 v5 E5 R5 r5 => q W5 H5 v5 (((E1.trans E2).trans (E3.trans E4)).trans E5) R5 r5
            · cases hf
          · cases hf
        · rename_i hz
          cases hf
          refine hs W2 H2 _ u w x y _ _ R2 tx ty hz fun W3 H3 v E3 R3 rv => ⟨false, by cases rv; rfl, iteF ?_⟩
          exact q W3 H3 _ ((E1.trans E2).trans E3) R3 (.bl _)
        · cases hf
      · cases hf
    · cases hf
  · cases hf
theorem chain_bool {g h : B2} (hB : ∀ x y z, h x y = some z → ∃ b, z = .bool b) {e : Env} {μ μ' : Sto} {r : LV} (hf : eChain g h fa fb fc e μ = some (r, μ')) : ∃ k, r = .d (.bool k) := by
  unfold eChain at hf
  split at hf
  · split at hf
    · split at hf
      · split at hf
        · split at hf
          · split at hf
            · rename_i y' z' _ _
              cases hw : h y' z' with
              | none => rw [hw] at hf; cases hf
              | some t => rw [hw] at hf; cases hf; obtain ⟨k, hk⟩ := hB _ _ _ hw; exact ⟨k, by rw [hk]⟩
            · cases hf
          · cases hf
        · cases hf; exact ⟨_, rfl⟩
        · cases hf
      · cases hf
    · cases hf
  · cases hf
theorem marks2 {op op' : CmpOp} (h : behindInMarks op' c = false) : lastMarks [op, op'] [b, c] = false := h
theorem se_chain {op op' : CmpOp} {g h : B2} (ho : OpS X (compareOp op) g) (ho' : OpS X (compareOp op') h) (hm : behindInMarks op' c = false) (ha : SE X a fa) (hb : SE X b fb) (hc : SE X c fc) : SE X (.Compare a [op, op'] [b, c] pos) (eChain g h fa fb fc) := by
  obtain ⟨r, hr, hs⟩ := ho
  obtain ⟨r', hr', hs'⟩ := ho'
  exact (pe_chain hr hr' ha hb hc (marks2 hm)).imp fun σ H Q w => chain_core hs hs' w
theorem st_chain {op op' : CmpOp} {g h : B2} (ho : OpS X (compareOp op) g) (ho' : OpS X (compareOp op') h) (hB : ∀ x y z, h x y = some z → ∃ b, z = .bool b) (hm : behindInMarks op' c = false) (ha : SE X a fa) (hb : SE X b fb) (hc : SE X c fc) : ST X (.Compare a [op, op'] [b, c] pos) (eChain g h fa fb fc) := by
  obtain ⟨r, hr, hs⟩ := ho
  obtain ⟨r', hr', hs'⟩ := ho'
  refine (pt_chain hr hr' ha hb hc (marks2 hm)).imp fun σ H Q ⟨W, e, μ, r0, μ', bb, R, E, hf, hT, q⟩ => chain_core hs hs' ⟨W, e, μ, r0, μ', R, E, hf, fun W' H' v E' R' rv => ?_⟩
  obtain ⟨k, rfl⟩ := chain_bool hB hf
  have : k = bb := Option.some.inj hT
  subst this
  cases rv
  exact ⟨k, rfl, q W' H' E' R'⟩
/-! ### a number's sign -/
theorem se_neg (ha : SE X a fa) : SE X (.UnaryOp .USub a pos) (eUn negD fa) := by
  refine (pe_un un_neg ha).imp fun σ H Q ⟨W, e, μ, r, μ', R, E, hf, q⟩ => ?_
  unfold eUn at hf
  split at hf
  · rename_i v m1 h1
    split at hf
    · rename_i x hx
      cases hz : negD x with
      | none => rw [hz] at hf; cases hf
      | some z =>
        rw [hz] at hf; cases hf
        refine ⟨W, e, μ, v, _, R, E, h1, fun W1 H1 u E1 R1 ru => ?_⟩
        have t := rd_ok R1 ru hx
        cases x with
        | int i =>
          cases hz; cases t
          exact ⟨i, rfl, q _ _ _ E1 R1 (.int _)⟩
        | none => cases hz
        | bool _ => cases hz
        | str _ => cases hz
        | list _ => cases hz
        | tuple _ => cases hz
        | dict _ => cases hz
    · cases hf
  · cases hf
/-! ### items -/
def notSl : Expr → Bool
  | .Slice _ _ _ _ => false
  | _ => true
theorem plainIx_of (h : notSl b = true) : PlainIx b := by
  cases b <;> first | (exact fun _ _ => rfl) | cases h
theorem ixPos_eq (n : Nat) (i : Int) : ixPos n i = ixN n i := rfl
theorem se_ix (hn : notSl b = true) (ha : SE X a fa) (hb : SE X b fb) : SE X (.Subscript a b pos) (eIx fa fb) := by
  refine (pe_ix (ix_list.or ix_tup) ha hb (plainIx_of hn)).imp fun σ H Q ⟨W, e, μ, r, μ', R, E, hf, q⟩ => ?_
  unfold eIx at hf
  split at hf
  · rename_i u m1 h1
    split at hf
    · rename_i w m2 h2
      cases hz : ixV m2 u w with
      | none => rw [hz] at hf; cases hf
      | some z =>
        rw [hz] at hf; cases hf
        refine ⟨W, e, μ, u, m1, R, E, h1, fun W1 H1 x E1 R1 rx => ⟨W1, e, m1, w, _, R1, E.mono E1 R, h2, fun W2 H2 y E2 R2 ry => ?_⟩⟩
        have rx2 := rx.mono E2 R1
        have fin : ∀ {v : V}, RL X.K W2 H2 v r → Q v H2 := fun rv => q _ _ _ (E1.trans E2) R2 rv
        unfold ixV at hz
        split at hz
        · rename_i k j
          split at hz
          · rename_i xs hx
            cases hp : ixPos xs.length j with
            | none => rw [hp] at hz; cases hz
            | some p =>
              rw [hp] at hz
              have hz : xs[p]? = some r := hz
              obtain ⟨ad, hk, rfl⟩ := rx2
              obtain ⟨vs, hv, hl⟩ := R2.cell k ad xs hk hx
              obtain ⟨v, hv1, hv2⟩ := hl.get hz
              cases ry
              refine .inl ⟨ad, vs, j, v, rfl, rfl, .of hv, ?_, fin hv2⟩
              unfold atI
              rw [hl.length, ← ixPos_eq, hp]
              exact hv1
          · cases hz
        · rename_i dx dy
          cases hq : ixD dx dy with
          | none => rw [hq] at hz; cases hz
          | some z' =>
            rw [hq] at hz; cases hz
            unfold ixD at hq
            split at hq
            · rename_i xs i
              cases hp : ixPos xs.length i with
              | none => rw [hp] at hq; cases hq
              | some p =>
                rw [hp] at hq
                cases rx2 with
                | lst g1 g2 g3 =>
                  obtain ⟨v, hv1, hv2⟩ := g3.get hq
                  cases ry
                  refine .inl ⟨_, _, i, v, rfl, rfl, .of g2, ?_, fin hv2⟩
                  unfold atI
                  rw [g3.length, ← ixPos_eq, hp]
                  exact hv1
            · rename_i xs i
              cases hp : ixPos xs.length i with
              | none => rw [hp] at hq; cases hq
              | some p =>
                rw [hp] at hq
                cases rx2 with
                | tup g2 g3 =>
                  obtain ⟨v, hv1, hv2⟩ := g3.get hq
                  cases ry
                  refine .inr ⟨_, _, i, v, rfl, rfl, g2, ?_, fin hv2⟩
                  unfold atI
                  rw [g3.length, ← ixPos_eq, hp]
                  exact hv1
            · cases hq
        · rename_i pre k j
          cases hp : ixPos (pre.length + 1) j with
          | none => rw [hp] at hz; cases hz
          | some p =>
            rw [hp] at hz
            have hz : (pre.map LV.d ++ [.ref k])[p]? = some r := hz
            obtain ⟨ad, us, b, rfl, g2, g3, g4⟩ := rx2
            have all : RLs X.K W2 H2 (us ++ [.ref b]) (pre.map LV.d ++ [.ref k]) := g3.rls.append (.cons ⟨b, g4, rfl⟩ .nil)
            obtain ⟨v, hv1, hv2⟩ := all.get hz
            cases ry
            refine .inr ⟨_, _, j, v, rfl, rfl, g2, ?_, fin hv2⟩
            unfold atI
            rw [all.length, List.length_append, List.length_map, List.length_singleton, ← ixPos_eq, hp]
            exact hv1
        · cases hz
    · cases hf
  · cases hf
/-! ### x is None -/
theorem isNone_l {K : PySem.W.Frag} {W : Wd} {H : Hp} {v : V} : ∀ {x : LV}, RL K W H v x → decide (v = V.non) = isNoneV x
  | .d .none, h => by cases h; rfl
  | .d (.bool _), h => by cases h; rfl
  | .d (.int _), h => by cases h; rfl
  | .d (.str _), h => by cases h; rfl
  | .d (.list _), h => by cases h; rfl
  | .d (.tuple _), h => by cases h; rfl
  | .d (.dict _), h => by cases h
  | .ref _, ⟨_, _, e⟩ => by rw [e]; rfl
  | .ro _, ⟨_, _, e, _⟩ => by rw [e]; rfl
  | .tr _ _, ⟨_, _, _, e, _⟩ => by rw [e]; rfl
theorem isN_core {neg : Bool} {r : R2} (hr : ∀ (x : V) (H : Hp) (Q : VK), Q (.bl (decide (x = .non) != neg)) H → r x .non H Q) {σ : List (Option V)} {H : Hp} {Q : VK} (h : tE X.K (eIsN neg fa) σ H Q) : tOp r (tE X.K fa) (tC .non) σ H Q := by
  obtain ⟨W, e, μ, r0, μ', R, E, hf, q⟩ := h
  unfold eIsN at hf
  split at hf
  · rename_i a m1 h1
    cases hf
    refine ⟨W, e, μ, a, _, R, E, h1, fun W1 H1 u E1 R1 ru => ?_⟩
    refine hr u H1 Q (q _ _ _ E1 R1 ?_)
    rw [isNone_l ru]
    exact .bl _
  · cases hf
theorem isN_bool {neg : Bool} {σ : List (Option V)} {H : Hp} {Q : Bool → Hp → Prop} (h : tT X.K (eIsN neg fa) σ H Q) : tE X.K (eIsN neg fa) σ H fun x H' => ∃ k, x = .bl k ∧ Q k H' := by
  obtain ⟨W, e, μ, r0, μ', b, R, E, hf, ht, q⟩ := h
  refine ⟨W, e, μ, r0, μ', R, E, hf, fun W' H' v E' R' rv => ?_⟩
  unfold eIsN at hf
  split at hf
  · cases hf
    have hk := Option.some.inj ht
    subst hk
    cases rv
    exact ⟨_, rfl, q W' H' E' R'⟩
  · cases hf
theorem se_isN {j : Nat} (ha : SE X a fa) : SE X (.Compare a [.Is] [.Constant .none j p] pos) (eIsN false fa) :=
  (pe_cmpR op_isN ha pe_non rfl).imp fun σ H Q h => isN_core (fun x H Q q => ⟨rfl, by simpa using q⟩) h
theorem se_notN {j : Nat} (ha : SE X a fa) : SE X (.Compare a [.IsNot] [.Constant .none j p] pos) (eIsN true fa) :=
  (pe_cmpR op_notN ha pe_non rfl).imp fun σ H Q h => isN_core (fun x H Q q => ⟨rfl, by simpa using q⟩) h
theorem st_isN {j : Nat} (ha : SE X a fa) : ST X (.Compare a [.Is] [.Constant .none j p] pos) (eIsN false fa) :=
  (pt_cmpR op_isN ha pe_non rfl).imp fun σ H Q h => isN_core (fun x H Q q => ⟨rfl, by simpa using q⟩) (isN_bool h)
theorem st_notN {j : Nat} (ha : SE X a fa) : ST X (.Compare a [.IsNot] [.Constant .none j p] pos) (eIsN true fa) :=
  (pt_cmpR op_notN ha pe_non rfl).imp fun σ H Q h => isN_core (fun x H Q q => ⟨rfl, by simpa using q⟩) (isN_bool h)
/-! ### slices -/
abbrev SO (X : Cx) (a : Option Expr) (f : Option EM) : Prop := PO X a (fun σ H Q => ∃ W e μ r μ', Rel X.K W H μ ∧ EnvOk X.K W H σ e ∧ evalO f e μ = some (r, μ') ∧ ∀ W' H', Ext W H μ W' H' μ' → Rel X.K W' H' μ' → Q r H')
theorem so_none : SO X none none := by
  refine ⟨fun pins s σ H Q I ⟨W, e, μ, r, μ', R, E, hf, q⟩ => po_none.run pins s σ H Q I ?_⟩
  cases hf
  exact q W H .refl R
theorem so_some (ha : SE X a fa) : SO X (some a) (some fa) := by
  refine ⟨fun pins s σ H Q I ⟨W, e, μ, r, μ', R, E, hf, q⟩ => (po_some ha).run pins s σ H Q I ?_⟩
  simp only [evalO] at hf
  split at hf
  · rename_i i m1 h1
    cases hf
    exact ⟨W, e, μ, _, _, R, E, h1, fun W1 H1 x E1 R1 rx => ⟨i, by cases rx; rfl, q W1 H1 E1 R1⟩⟩
  · cases hf
theorem slPos_eq (n d : Nat) (o : Option Int) : slPos n d o = HT.sIx n d o := by cases o <;> rfl
theorem RPs.cut {K : PySem.W.Frag} {F : Addr → Prop} {H : Hp} {vs : List V} {xs : List PyData} (h : RPs K F H vs xs) (lo hi : Option Int) : RPs K F H (cutV vs lo hi) (slPart xs lo hi) := by
  unfold cutV slPart
  rw [← h.length, slPos_eq, slPos_eq]
  exact (h.drop _).take _
theorem cut_whole {vs : List V} {lo hi : Option Int} (h : HT.sIx vs.length 0 lo = 0 ∧ HT.sIx vs.length vs.length hi = vs.length) : cutV vs lo hi = vs := by
  unfold cutV
  rw [h.1, h.2]
  simp
theorem se_sl {lo hi : Option Expr} {fl fh : Option EM} {p2 : Pos} (ha : SE X a fa) (hl : SO X lo fl) (hh : SO X hi fh) : SE X (.Subscript a (.Slice lo hi none p2) pos) (eSl fa fl fh) := by
  refine (pe_slice (sl_list.or sl_tupA) ha hl hh).imp fun σ H Q ⟨W, e, μ, r, μ', R, E, hf, q⟩ => ?_
  unfold eSl at hf
  split at hf
  · rename_i u m1 h1
    split at hf
    · rename_i l m2 h2
      split at hf
      · rename_i h m3 h3
        split at hf
        · rename_i x hx
          cases hz : slD l h x with
          | none => rw [hz] at hf; cases hf
          | some z =>
            rw [hz] at hf; cases hf
            refine ⟨W, e, μ, u, m1, R, E, h1, fun W1 H1 v E1 R1 rv => ⟨W1, e, m1, l, m2, R1, E.mono E1 R, h2, fun W2 H2 E2 R2 => ⟨W2, e, m2, h, _, R2, (E.mono E1 R).mono E2 R1, h3, fun W3 H3 E3 R3 => ?_⟩⟩⟩
            have t := rdS_ok R3 (rv.mono (E2.trans E3) R1) hx
            have q' : Post X.K W3 H3 μ' μ' (.d z) Q := fun W4 H4 v4 E4 R4 r4 => q W4 H4 v4 ((E1.trans (E2.trans E3)).trans E4) R4 r4
            unfold slD at hz
            split at hz
            · cases hz
              obtain ⟨ad, vs, rfl, g1, g2⟩ := t
              exact .inl ⟨ad, vs, rfl, g1, post_lst R3 (g2.cut l h) q'⟩
            · cases hz
              cases t with
              | tup g1 g2 =>
                refine .inr ⟨_, _, rfl, g1, fun hw => ?_, fun _ => post_tup R3 (g2.cut l h) q'⟩
                exact q' _ _ _ .refl R3 (.tup g1 (by have := g2.cut l h; rw [cut_whole hw] at this; exact this))
            · cases hz
        · cases hf
      · cases hf
    · cases hf
  · cases hf
end
end Gg

end
section
/-! GCall: built-in functions, new lists. -/
namespace Gg
open PySem L2

section
variable {K : PySem.W.Frag} {F : Addr → Prop} {H : Hp}
theorem ints_v : ∀ {vs : List V} {xs : List PyData} {ns : List Int}, RPs K F H vs xs → intsOf xs = some ns → vs = ns.map V.int
  | _, _, _, .nil, h => by cases h; rfl
  | _, .int i :: xs, _, .cons a t, h => by
    simp only [intsOf] at h
    cases hq : intsOf xs with
    | none => rw [hq] at h; cases h
    | some ms =>
      rw [hq] at h; cases h; cases a
      rw [ints_v t hq]; rfl
  | _, .none :: _, _, .cons _ _, h => by cases h
  | _, .bool _ :: _, _, .cons _ _, h => by cases h
  | _, .str _ :: _, _, .cons _ _, h => by cases h
  | _, .list _ :: _, _, .cons _ _, h => by cases h
  | _, .tuple _ :: _, _, .cons _ _, h => by cases h
  | _, .dict _ :: _, _, .cons _ _, h => by cases h
theorem bools_v : ∀ {vs : List V} {xs : List PyData} {ns : List Bool}, RPs K F H vs xs → boolsOf xs = some ns → vs = ns.map V.bl
  | _, _, _, .nil, h => by cases h; rfl
  | _, .bool i :: xs, _, .cons a t, h => by
    simp only [boolsOf] at h
    cases hq : boolsOf xs with
    | none => rw [hq] at h; cases h
    | some ms =>
      rw [hq] at h; cases h; cases a
      rw [bools_v t hq]; rfl
  | _, .none :: _, _, .cons _ _, h => by cases h
  | _, .int _ :: _, _, .cons _ _, h => by cases h
  | _, .str _ :: _, _, .cons _ _, h => by cases h
  | _, .list _ :: _, _, .cons _ _, h => by cases h
  | _, .tuple _ :: _, _, .cons _ _, h => by cases h
  | _, .dict _ :: _, _, .cons _ _, h => by cases h
theorem v_ints : ∀ ns : List Int, RPs K F H (ns.map V.int) (ns.map PyData.int)
  | [] => .nil
  | n :: ns => .cons (.int n) (v_ints ns)
end
theorem maxI_spec : ∀ (r : List Int) (a : Int), (maxI a r = a ∨ maxI a r ∈ r) ∧ a ≤ maxI a r ∧ ∀ y ∈ r, y ≤ maxI a r
  | [], a => ⟨.inl rfl, Int.le_refl _, fun _ h => by cases h⟩
  | b :: r, a => by
    obtain ⟨h1, h2, h3⟩ := maxI_spec r (max a b)
    show (maxI (max a b) r = a ∨ maxI (max a b) r ∈ b :: r) ∧ a ≤ maxI (max a b) r ∧ ∀ y ∈ b :: r, y ≤ maxI (max a b) r
    refine ⟨?_, by omega, fun y hy => ?_⟩
    · rcases h1 with h1 | h1
      · by_cases hab : a ≤ b
        · exact .inr (by rw [h1, show max a b = b by omega]; exact List.mem_cons_self)
        · exact .inl (by rw [h1]; omega)
      · exact .inr (List.mem_cons_of_mem _ h1)
    · rcases List.mem_cons.mp hy with rfl | hy
      · omega
      · exact h3 y hy
theorem minI_spec : ∀ (r : List Int) (a : Int), (minI a r = a ∨ minI a r ∈ r) ∧ minI a r ≤ a ∧ ∀ y ∈ r, minI a r ≤ y
  | [], a => ⟨.inl rfl, Int.le_refl _, fun _ h => by cases h⟩
  | b :: r, a => by
    obtain ⟨h1, h2, h3⟩ := minI_spec r (min a b)
    show (minI (min a b) r = a ∨ minI (min a b) r ∈ b :: r) ∧ minI (min a b) r ≤ a ∧ ∀ y ∈ b :: r, minI (min a b) r ≤ y
    refine ⟨?_, by omega, fun y hy => ?_⟩
    · rcases h1 with h1 | h1
      · by_cases hab : b ≤ a
        · exact .inr (by rw [h1, show min a b = b by omega]; exact List.mem_cons_self)
        · exact .inl (by rw [h1]; omega)
      · exact .inr (List.mem_cons_of_mem _ h1)
    · rcases List.mem_cons.mp hy with rfl | hy
      · omega
      · exact h3 y hy
theorem insertI_perm (x : Int) : ∀ r : List Int, (insertI x r).Perm (x :: r)
  | [] => .refl _
  | y :: r => by
    simp only [insertI]
    split
    · exact .refl _
    · exact ((insertI_perm x r).cons y).trans (.swap x y r)
theorem sortI_perm : ∀ r : List Int, (sortI r).Perm r
  | [] => .refl _
  | x :: r => (insertI_perm x (sortI r)).trans ((sortI_perm r).cons x)
theorem insertI_sorted (x : Int) : ∀ r : List Int, r.Pairwise (· ≤ ·) → (insertI x r).Pairwise (· ≤ ·)
  | [], _ => List.pairwise_singleton _ _
  | y :: r, h => by
    simp only [insertI]
    have h' := List.pairwise_cons.mp h
    split
    · rename_i hxy
      refine List.pairwise_cons.mpr ⟨fun z hz => ?_, h⟩
      rcases List.mem_cons.mp hz with rfl | hz
      · exact hxy
      · exact Int.le_trans hxy (h'.1 z hz)
    · rename_i hxy
      refine List.pairwise_cons.mpr ⟨fun z hz => ?_, insertI_sorted x r h'.2⟩
      rcases List.mem_cons.mp ((insertI_perm x r).mem_iff.mp hz) with rfl | hz
      · omega
      · exact h'.1 z hz
theorem sortI_sorted : ∀ r : List Int, (sortI r).Pairwise (· ≤ ·)
  | [] => .nil
  | x :: r => insertI_sorted x _ (sortI_sorted r)
theorem sorted_unique : ∀ {a b : List Int}, a.Perm b → a.Pairwise (· ≤ ·) → b.Pairwise (· ≤ ·) → a = b
  | [], b, p, _, _ => by rw [List.nil_perm.mp p]
  | x :: a, b, p, ha, hb => by
    cases b with
    | nil => exact absurd p.symm (by simp)
    | cons y b =>
      have ha' := List.pairwise_cons.mp ha
      have hb' := List.pairwise_cons.mp hb
      have e : x = y := by
        have h1 : x ∈ y :: b := p.mem_iff.mp List.mem_cons_self
        have h2 : y ∈ x :: a := p.mem_iff.mpr List.mem_cons_self
        rcases List.mem_cons.mp h1 with h1 | h1
        · exact h1
        · rcases List.mem_cons.mp h2 with h2 | h2
          · exact h2.symm
          · have := hb'.1 x h1
            have := ha'.1 y h2
            omega
      subst e
      rw [sorted_unique (List.Perm.cons_inv p) ha'.2 hb'.2]

section
variable {X : Cx} {a b c : Expr} {fa fb fc : EM} {pos p : Pos} {as : List Expr} {fs : List EM} {x : Str}
/-! ### built-in functions by values -/
def BiS (X : Cx) (f : Value) (g : BF) : Prop :=
  ∃ r : List V → Hp → VK → Prop, CallR X f r ∧ ∀ (W : Wd) (H : Hp) (μ : Sto) (vs : List V) (xs : List PyData) (z : PyData) (Q : VK), Rel X.K W H μ → RTs X.K W.F H vs xs → g xs = some z → Post X.K W H μ μ (.d z) Q → r vs H Q
theorem BiS.of {f : Value} {g : BF} {r : List V → Hp → VK → Prop} (h : CallR X f r) (w : ∀ (W : Wd) (H : Hp) (μ : Sto) (vs : List V) (xs : List PyData) (z : PyData) (Q : VK), Rel X.K W H μ → RTs X.K W.F H vs xs → g xs = some z → Post X.K W H μ μ (.d z) Q → r vs H Q) : BiS X f g := ⟨r, h, w⟩
theorem bi_len : BiS X (.builtin "len") bLen := by
  refine .of (call_len_seq.or call_len_str) fun W H μ vs xs z Q R rx hg q => ?_
  unfold bLen at hg
  split at hg
  · cases hg
    cases rx with
    | cons h t =>
      cases t
      obtain ⟨a, ws, rfl, h1, h2⟩ := h
      exact .inl ⟨a, ws, rfl, .inl (.of h1), by rw [h2.length]; exact q _ _ _ .refl R (.int _)⟩
  · cases hg
    cases rx with
    | cons h t =>
      cases t
      cases h with
      | tup h1 h2 => exact .inl ⟨_, _, rfl, .inr h1, by rw [h2.length]; exact q _ _ _ .refl R (.int _)⟩
  · split at hg
    · rename_i hl
      cases hg
      cases rx with
      | cons h t =>
        cases t
        cases h
        exact .inr ⟨_, rfl, line_le' hl, q _ _ _ .refl R (.int _)⟩
    · cases hg
  · cases hg
theorem bi_abs : BiS X (.builtin "abs") bAbs := by
  refine .of call_abs fun W H μ vs xs z Q R rx hg q => ?_
  unfold bAbs at hg
  split at hg
  · cases hg
    cases rx with
    | cons h t => cases t; cases h; exact ⟨_, rfl, q _ _ _ .refl R (.int _)⟩
  · cases hg
theorem bi_int : BiS X (.type "int") bInt := by
  refine .of call_int1 fun W H μ vs xs z Q R rx hg q => ?_
  unfold bInt at hg
  split at hg
  · cases hg
    cases rx with
    | cons h t => cases t; cases h; exact .inl ⟨_, rfl, q _ _ _ .refl R (.int _)⟩
  · cases hg
    cases rx with
    | cons h t => cases t; cases h; exact .inr ⟨_, rfl, q _ _ _ .refl R (.int _)⟩
  · cases hg
/-! ### the least, the greatest, sorted: of data -/
theorem alike_ok {xs : List PyData} (h : alikeL xs = true) : PySem.W.AlikeAll xs ∧ PyData.depthAll xs ≤ 60 := by
  unfold alikeL at h
  rw [Bool.and_eq_true, Bool.and_eq_true] at h
  refine ⟨⟨fun x hx y hy => List.all_eq_true.mp (List.all_eq_true.mp h.1.1 x hx) y hy, fun x hx => isNone_ne (List.all_eq_true.mp h.1.2 x hx)⟩, (plain_all (plain_ok DEEP) h.2).2⟩
theorem alike_intsL (ns : List Int) : alikeL (ns.map .int) = true := by
  unfold alikeL
  rw [Bool.and_eq_true, Bool.and_eq_true]
  refine ⟨⟨?_, ?_⟩, ?_⟩ <;> simp [PySem.W.alike, isNoneB, plainD, DEEP]
theorem intsOf_eq : ∀ {xs : List PyData} {ns : List Int}, intsOf xs = some ns → xs = ns.map .int
  | [], _, h => by cases h; rfl
  | x :: xs, ns, h => by
    cases x <;> simp only [intsOf] at h <;> first | (cases h; done) | skip
    cases q : intsOf xs with
    | none => rw [q] at h; cases h
    | some ms => rw [q] at h; cases h; rw [intsOf_eq q]; rfl
theorem vals_at : ∀ {ws : List V} {us : List Value} {i : Nat} {u : Value}, Vals ws us → us[i]? = some u → ∃ w, ws[i]? = some w ∧ RelV w u
  | _, _, i, _, .nil, h => by simp at h
  | _, _, 0, _, .cons r _, h => by simp at h; subst h; exact ⟨_, rfl, r⟩
  | _, _, i + 1, _, .cons _ t, h => by
    obtain ⟨w, h1, h2⟩ := vals_at (i := i) t (by simpa using h)
    exact ⟨w, by simpa using h1, h2⟩
theorem rps_at {K : PySem.W.Frag} {F : Addr → Prop} {H : Hp} : ∀ {ws : List V} {xs : List PyData} {i : Nat} {w : V} {x : PyData}, RPs K F H ws xs → ws[i]? = some w → xs[i]? = some x → RP K F H w x
  | _, _, i, _, _, .nil, h, _ => by simp at h
  | _, _, 0, _, _, .cons r _, h, g => by simp at h g; subst h g; exact r
  | _, _, i + 1, _, _, .cons _ t, h, g => rps_at (i := i) t (by simpa using h) (by simpa using g)
def rBest (K : PySem.W.Frag) (f : PyData → List PyData → PyData) : List V → Hp → VK → Prop := fun vs H Q => ∃ (a : Addr) (ws : List V) (x : PyData) (xs : List PyData), vs = [.ref a] ∧ (SqL K H a ws ∨ SqT K H a ws) ∧ DpAll K H ws (x :: xs) ∧
  PySem.W.AlikeAll (x :: xs) ∧ PyData.depthAll (x :: xs) ≤ 60 ∧ ∀ (i : Nat) (w : V), ws[i]? = some w → (x :: xs)[i]? = some (f x xs) → Q w H
theorem max_at {s : Shared} {A : Around} {E : Value → Shared → Prop} {prog : Program} {w : World} {l : Addr} {vs : Array Value} {x : PyData} {xs : List PyData} {as : List Addr} {Q : Value → Shared → Prop} (hh : A.handled = none) (hl : s.heap.IsList l vs ∨ s.heap.IsTuple l vs)
    (hr : ReadsAll s.heap vs.toList (x :: xs) as) (ha : PySem.W.AlikeAll (x :: xs)) (hu : A.units + 1 + PyData.depthAll (x :: xs) < cLine)
    (h : ∀ (i : Nat) v h' tk, vs[i]? = some v → (x :: xs)[i]? = some (PySem.W.maxD x xs) → (∀ b o, s.heap.get? b = some o → h'.get? b = some o) → Q v { s with heap := h', toks := tk }) :
    wpAny (model prog w) A (call (.builtin "max") [.ref l]) Q E s := by
  have hn : vs.size = xs.length + 1 := PySem.W.readsAll_len hr
  have e1 : vs.size - 1 = xs.length := by omega
  have e2 := PySem.W.argBest_fold (fun a b => PySem.W.dataLt b a) PyData.none x xs xs.length (Nat.le_refl _)
  rw [List.take_length] at e2
  have fin : ∀ v, vs[argBest (fun i j => PySem.W.dataLt ((x :: xs).getD j .none) ((x :: xs).getD i .none)) (vs.size - 1)]? = some v → ∃ i : Nat, vs[i]? = some v ∧ (x :: xs)[i]? = some (PySem.W.maxD x xs) := by
    intro v hv
    rw [e1] at hv
    refine ⟨_, hv, ?_⟩
    have hlt : argBest (fun i j => PySem.W.dataLt ((x :: xs).getD j .none) ((x :: xs).getD i .none)) xs.length < (x :: xs).length := Nat.lt_succ_of_le e2.1
    have e3 := e2.2
    rw [List.getD_eq_getElem?_getD, List.getElem?_eq_getElem hlt] at e3
    rw [List.getElem?_eq_getElem hlt]
    exact congrArg some e3
  rcases hl with hl | hl
  · refine call_max_walkH (PySem.W.iter_listW (A := A.in1) hh hl fun s₂ e W st hfp hw hk => ?_)
    refine ⟨_, _, _, _, _, _, _, s.heap, _, rfl, W, st, hfp, by omega, hw, hk, PySem.W.cmpIn_gt (A := A.in1) hr ha (by show A.units + 1 + _ < _; exact hu), fun v s' hP m => ?_⟩
    obtain ⟨h', tk, rfl, hk'⟩ := PySem.W.moved_old e rfl m
    obtain ⟨i, i1, i2⟩ := fin v hP
    exact h i v h' tk i1 i2 hk'
  · refine call_max_walkH (PySem.W.iter_tupleW (A := A.in1) hh hl fun s₂ e W st hfp hw hk => ?_)
    refine ⟨_, _, _, _, _, _, _, s.heap, _, rfl, W, st, hfp, by omega, hw, hk, PySem.W.cmpIn_gt (A := A.in1) hr ha (by show A.units + 1 + _ < _; exact hu), fun v s' hP m => ?_⟩
    obtain ⟨h', tk, rfl, hk'⟩ := PySem.W.moved_old e rfl m
    obtain ⟨i, i1, i2⟩ := fin v hP
    exact h i v h' tk i1 i2 hk'
theorem cr_maxB (hc : X.calm = true) (hu : X.A.units + 65 < cLine) : CallR X (.builtin "max") (rBest X.K PySem.W.maxD) := by
  intro pins s σ H vs us Q I r h
  obtain ⟨a, ws, x, xs, rfl, hs, hd, ha, hdep, q⟩ := h
  rw [Vals.ref1 r]
  have go : ∀ {its : List Value}, Vals ws its → (s.heap.IsList a its.toArray ∨ s.heap.IsTuple a its.toArray) → wpAny (model X.prog X.w) X.A (call (.builtin "max") [.ref a]) (EP X pins σ Q) X.xe s := by
    intro its rv hl
    obtain ⟨as, hr⟩ := Dp.readsAll I (x :: xs) ws its hd rv
    refine max_at (I.ok.hd hc) hl hr ha (by omega) fun i v h' tk hv hx hk => ?_
    obtain ⟨w, hw, rw'⟩ := vals_at rv (by simpa using hv)
    exact ⟨w, H, I.kept (t' := tk) hk, rw', q i w hw hx⟩
  rcases hs with hs | hs
  · obtain ⟨its, rv, hl, _⟩ := I.list hs
    exact go rv (.inl hl.isList)
  · obtain ⟨its, rv, hl, _⟩ := I.tuple hs
    exact go rv (.inr hl)
theorem maxL_ints {i : Int} {r : List Int} : maxL ((i :: r).map .int) = some (.int (maxI i r)) := by
  have h : alikeL ((i :: r).map .int) = true := alike_intsL _
  show (if alikeL ((i :: r).map .int) then _ else _) = _
  rw [if_pos h, PySem.W.maxD_ints]
  congr 2
  induction r generalizing i with
  | nil => rfl
  | cons b r ih => show List.foldl max (max i b) r = maxI (max i b) r; exact ih (alike_intsL _)
theorem bi_max (hc : X.calm = true) (hu : X.A.units + 65 < cLine) : BiS X (.builtin "max") bMax := by
  refine .of (((call_max2 hc).or (cr_max hc)).or (cr_maxB hc hu)) fun W H μ vs xs z Q R rx hg q => ?_
  have data : ∀ {a : Addr} {ws : List V} {ys : List PyData}, (SqL X.K H a ws ∨ SqT X.K H a ws) → RPs X.K W.F H ws ys → maxL ys = some z → rBest X.K PySem.W.maxD [.ref a] H Q := by
    intro a ws ys h1 h2 hg
    cases ys with
    | nil => cases hg
    | cons x xs =>
      simp only [maxL] at hg
      split at hg
      · rename_i hk
        cases hg
        obtain ⟨k1, k2⟩ := alike_ok hk
        exact ⟨a, ws, x, xs, rfl, h1, h2.dp, k1, k2, fun i w hw hx => q _ _ _ .refl R (rps_at h2 hw hx)⟩
      · cases hg
  unfold bMax at hg
  split at hg
  · cases hg
    cases rx with
    | cons h t => cases t with | cons h2 t => cases t; cases h; cases h2; exact .inl (.inl ⟨_, _, rfl, q _ _ _ .refl R (.int _)⟩)
  · cases rx with
    | cons h t =>
      cases t
      obtain ⟨a, ws, rfl, h1, h2⟩ := h
      split at hg
      · rename_i i r hi
        cases hg
        rw [ints_v h2 hi] at h1
        refine .inl (.inr ⟨a, i :: r, rfl, .of h1, by simp, fun m hm hy => ?_⟩)
        have e : m = maxI i r := by
          obtain ⟨s1, s2, s3⟩ := maxI_spec r i
          have h1 : maxI i r ≤ m := by
            rcases s1 with s1 | s1
            · rw [s1]; exact hy i List.mem_cons_self
            · exact hy _ (List.mem_cons_of_mem _ s1)
          rcases List.mem_cons.mp hm with rfl | hm
          · omega
          · have := s3 m hm; omega
        rw [e]
        exact q _ _ _ .refl R (.int _)
      · exact .inr (data (.inl (.of h1)) h2 hg)
  · cases rx with
    | cons h t =>
      cases t
      cases h with
      | tup h1 h2 =>
        split at hg
        · rename_i i r hi
          refine .inr (data (.inr h1) h2 ?_)
          rw [intsOf_eq hi, maxL_ints]
          exact hg
        · exact .inr (data (.inr h1) h2 hg)
  · cases hg
theorem min_at {s : Shared} {A : Around} {E : Value → Shared → Prop} {prog : Program} {w : World} {l : Addr} {vs : Array Value} {x : PyData} {xs : List PyData} {as : List Addr} {Q : Value → Shared → Prop} (hh : A.handled = none) (hl : s.heap.IsList l vs ∨ s.heap.IsTuple l vs)
    (hr : ReadsAll s.heap vs.toList (x :: xs) as) (ha : PySem.W.AlikeAll (x :: xs)) (hu : A.units + 1 + PyData.depthAll (x :: xs) < cLine)
    (h : ∀ (i : Nat) v h' tk, vs[i]? = some v → (x :: xs)[i]? = some (PySem.W.minD x xs) → (∀ b o, s.heap.get? b = some o → h'.get? b = some o) → Q v { s with heap := h', toks := tk }) :
    wpAny (model prog w) A (call (.builtin "min") [.ref l]) Q E s := by
  have hn : vs.size = xs.length + 1 := PySem.W.readsAll_len hr
  have e1 : vs.size - 1 = xs.length := by omega
  have e2 := PySem.W.argBest_fold PySem.W.dataLt PyData.none x xs xs.length (Nat.le_refl _)
  rw [List.take_length] at e2
  have fin : ∀ v, vs[argBest (fun i j => PySem.W.dataLt ((x :: xs).getD i .none) ((x :: xs).getD j .none)) (vs.size - 1)]? = some v → ∃ i : Nat, vs[i]? = some v ∧ (x :: xs)[i]? = some (PySem.W.minD x xs) := by
    intro v hv
    rw [e1] at hv
    refine ⟨_, hv, ?_⟩
    have hlt : argBest (fun i j => PySem.W.dataLt ((x :: xs).getD i .none) ((x :: xs).getD j .none)) xs.length < (x :: xs).length := Nat.lt_succ_of_le e2.1
    have e3 := e2.2
    rw [List.getD_eq_getElem?_getD, List.getElem?_eq_getElem hlt] at e3
    rw [List.getElem?_eq_getElem hlt]
    exact congrArg some e3
  rcases hl with hl | hl
  · refine call_min_walkH (PySem.W.iter_listW (A := A.in1) hh hl fun s₂ e W st hfp hw hk => ?_)
    refine ⟨_, _, _, _, _, _, _, s.heap, _, rfl, W, st, hfp, by omega, hw, hk, PySem.W.cmpIn_lt (A := A.in1) hr ha (by show A.units + 1 + _ < _; exact hu), fun v s' hP m => ?_⟩
    obtain ⟨h', tk, rfl, hk'⟩ := PySem.W.moved_old e rfl m
    obtain ⟨i, i1, i2⟩ := fin v hP
    exact h i v h' tk i1 i2 hk'
  · refine call_min_walkH (PySem.W.iter_tupleW (A := A.in1) hh hl fun s₂ e W st hfp hw hk => ?_)
    refine ⟨_, _, _, _, _, _, _, s.heap, _, rfl, W, st, hfp, by omega, hw, hk, PySem.W.cmpIn_lt (A := A.in1) hr ha (by show A.units + 1 + _ < _; exact hu), fun v s' hP m => ?_⟩
    obtain ⟨h', tk, rfl, hk'⟩ := PySem.W.moved_old e rfl m
    obtain ⟨i, i1, i2⟩ := fin v hP
    exact h i v h' tk i1 i2 hk'
theorem cr_minB (hc : X.calm = true) (hu : X.A.units + 65 < cLine) : CallR X (.builtin "min") (rBest X.K PySem.W.minD) := by
  intro pins s σ H vs us Q I r h
  obtain ⟨a, ws, x, xs, rfl, hs, hd, ha, hdep, q⟩ := h
  rw [Vals.ref1 r]
  have go : ∀ {its : List Value}, Vals ws its → (s.heap.IsList a its.toArray ∨ s.heap.IsTuple a its.toArray) → wpAny (model X.prog X.w) X.A (call (.builtin "min") [.ref a]) (EP X pins σ Q) X.xe s := by
    intro its rv hl
    obtain ⟨as, hr⟩ := Dp.readsAll I (x :: xs) ws its hd rv
    refine min_at (I.ok.hd hc) hl hr ha (by omega) fun i v h' tk hv hx hk => ?_
    obtain ⟨w, hw, rw'⟩ := vals_at rv (by simpa using hv)
    exact ⟨w, H, I.kept (t' := tk) hk, rw', q i w hw hx⟩
  rcases hs with hs | hs
  · obtain ⟨its, rv, hl, _⟩ := I.list hs
    exact go rv (.inl hl.isList)
  · obtain ⟨its, rv, hl, _⟩ := I.tuple hs
    exact go rv (.inr hl)
theorem minL_ints {i : Int} {r : List Int} : minL ((i :: r).map .int) = some (.int (minI i r)) := by
  have h : alikeL ((i :: r).map .int) = true := alike_intsL _
  show (if alikeL ((i :: r).map .int) then _ else _) = _
  rw [if_pos h, PySem.W.minD_ints]
  congr 2
  induction r generalizing i with
  | nil => rfl
  | cons b r ih => show List.foldl min (min i b) r = minI (min i b) r; exact ih (alike_intsL _)
theorem bi_min (hc : X.calm = true) (hu : X.A.units + 65 < cLine) : BiS X (.builtin "min") bMin := by
  refine .of (((call_min2 hc).or (cr_min hc)).or (cr_minB hc hu)) fun W H μ vs xs z Q R rx hg q => ?_
  have data : ∀ {a : Addr} {ws : List V} {ys : List PyData}, (SqL X.K H a ws ∨ SqT X.K H a ws) → RPs X.K W.F H ws ys → minL ys = some z → rBest X.K PySem.W.minD [.ref a] H Q := by
    intro a ws ys h1 h2 hg
    cases ys with
    | nil => cases hg
    | cons x xs =>
      simp only [minL] at hg
      split at hg
      · rename_i hk
        cases hg
        obtain ⟨k1, k2⟩ := alike_ok hk
        exact ⟨a, ws, x, xs, rfl, h1, h2.dp, k1, k2, fun i w hw hx => q _ _ _ .refl R (rps_at h2 hw hx)⟩
      · cases hg
  unfold bMin at hg
  split at hg
  · cases hg
    cases rx with
    | cons h t => cases t with | cons h2 t => cases t; cases h; cases h2; exact .inl (.inl ⟨_, _, rfl, q _ _ _ .refl R (.int _)⟩)
  · cases rx with
    | cons h t =>
      cases t
      obtain ⟨a, ws, rfl, h1, h2⟩ := h
      split at hg
      · rename_i i r hi
        cases hg
        rw [ints_v h2 hi] at h1
        refine .inl (.inr ⟨a, i :: r, rfl, .of h1, by simp, fun m hm hy => ?_⟩)
        have e : m = minI i r := by
          obtain ⟨s1, s2, s3⟩ := minI_spec r i
          have h1 : m ≤ minI i r := by
            rcases s1 with s1 | s1
            · rw [s1]; exact hy i List.mem_cons_self
            · exact hy _ (List.mem_cons_of_mem _ s1)
          rcases List.mem_cons.mp hm with rfl | hm
          · omega
          · have := s3 m hm; omega
        rw [e]
        exact q _ _ _ .refl R (.int _)
      · exact .inr (data (.inl (.of h1)) h2 hg)
  · cases rx with
    | cons h t =>
      cases t
      cases h with
      | tup h1 h2 =>
        split at hg
        · rename_i i r hi
          refine .inr (data (.inr h1) h2 ?_)
          rw [intsOf_eq hi, minL_ints]
          exact hg
        · exact .inr (data (.inr h1) h2 hg)
  · cases hg
theorem bi_sum (hc : X.calm = true) : BiS X (.builtin "sum") bSum := by
  refine .of (cr_sum hc) fun W H μ vs xs z Q R rx hg q => ?_
  unfold bSum at hg
  split at hg
  · rename_i ys
    cases hi : intsOf ys with
    | none => rw [hi] at hg; cases hg
    | some ns =>
      rw [hi] at hg; cases hg
      cases rx with
      | cons h t =>
        cases t
        obtain ⟨a, ws, rfl, h1, h2⟩ := h
        rw [ints_v h2 hi] at h1
        exact ⟨a, ns, rfl, .of h1, q _ _ _ .refl R (.int _)⟩
  · cases hg
theorem bi_all (hc : X.calm = true) : BiS X (.builtin "all") bAll := by
  refine .of (cr_all hc) fun W H μ vs xs z Q R rx hg q => ?_
  unfold bAll at hg
  split at hg
  · rename_i ys
    cases hi : boolsOf ys with
    | none => rw [hi] at hg; cases hg
    | some ns =>
      rw [hi] at hg; cases hg
      cases rx with
      | cons h t =>
        cases t
        obtain ⟨a, ws, rfl, h1, h2⟩ := h
        rw [bools_v h2 hi] at h1
        exact ⟨a, ns, rfl, .of h1, q _ _ _ .refl R (.bl _)⟩
  · cases hg
theorem bi_any (hc : X.calm = true) : BiS X (.builtin "any") bAny := by
  refine .of (cr_any hc) fun W H μ vs xs z Q R rx hg q => ?_
  unfold bAny at hg
  split at hg
  · rename_i ys
    cases hi : boolsOf ys with
    | none => rw [hi] at hg; cases hg
    | some ns =>
      rw [hi] at hg; cases hg
      cases rx with
      | cons h t =>
        cases t
        obtain ⟨a, ws, rfl, h1, h2⟩ := h
        rw [bools_v h2 hi] at h1
        exact ⟨a, ns, rfl, .of h1, q _ _ _ .refl R (.bl _)⟩
  · cases hg
theorem bi_tuple : BiS X (.type "tuple") bTuple := by
  refine .of call_tuple_of fun W H μ vs xs z Q R rx hg q => ?_
  unfold bTuple at hg
  split at hg
  · cases hg
    cases rx with
    | cons h t =>
      cases t
      obtain ⟨a, ws, rfl, h1, h2⟩ := h
      exact ⟨a, ws, rfl, .inl ⟨.of h1, post_tup R h2 q⟩⟩
  · cases hg
    cases rx with
    | cons h t =>
      cases t
      cases h with
      | tup h1 h2 => exact ⟨_, _, rfl, .inr ⟨h1, q _ _ _ .refl R (.tup h1 h2)⟩⟩
  · cases hg
/-- sorted(l): the items in order, equal ones as they stood -/
def rSortedD (K : PySem.W.Frag) : List V → Hp → VK → Prop := fun vs H Q => ∃ (a : Addr) (ws : List V) (ds : List PyData), vs = [.ref a] ∧ SqL K H a ws ∧ DpAll K H ws ds ∧
  PySem.W.AlikeAll ds ∧ PySem.W.Sortable ds ∧ PyData.depthAll ds ≤ 60 ∧ ∀ (ws' : List V) (p : Addr), PySem.W.EachIs (fun w d => (w, d) ∈ ws.zip ds) ws' (ds.mergeSort fun a b => !PySem.W.dataLt b a) → H p = none → Q (.ref p) (upd H p (.lst ws'))
theorem each_zip {K : PySem.W.Frag} {F : Addr → Prop} {H : Hp} : ∀ {ws : List V} {ds : List PyData}, RPs K F H ws ds → ∀ q ∈ ws.zip ds, RP K F H q.1 q.2
  | _, _, .nil, q, h => by simp at h
  | _, _, .cons a t, q, h => by
    rw [List.zip_cons_cons] at h
    rcases List.mem_cons.mp h with rfl | h
    · exact a
    · exact each_zip t q h
theorem each_rps {K : PySem.W.Frag} {F : Addr → Prop} {H : Hp} {Z : V → PyData → Prop} (hZ : ∀ w d, Z w d → RP K F H w d) : ∀ {ws : List V} {ds : List PyData}, PySem.W.EachIs Z ws ds → RPs K F H ws ds
  | _, _, .nil => .nil
  | _, _, .cons a t => .cons (hZ _ _ a) (each_rps hZ t)
theorem each_vals {Z : V → PyData → Prop} : ∀ {us : List Value} {ds : List PyData}, PySem.W.EachIs (fun u d => ∃ w, RelV w u ∧ Z w d) us ds → ∃ ws, Vals ws us ∧ PySem.W.EachIs Z ws ds
  | _, _, .nil => ⟨[], .nil, .nil⟩
  | _, _, .cons ⟨w, h1, h2⟩ t => by
    obtain ⟨ws, k1, k2⟩ := each_vals t
    exact ⟨w :: ws, .cons h1 k1, .cons h2 k2⟩
theorem each_in : ∀ {ws : List V} {us : List Value} {ds : List PyData}, Vals ws us → ws.length = ds.length → ∀ {Z : V → PyData → Prop}, (∀ q ∈ ws.zip ds, Z q.1 q.2) → PySem.W.EachIs (fun u d => ∃ w, RelV w u ∧ Z w d) us ds
  | _, _, [], .nil, _, _, _ => .nil
  | _, _, d :: ds, .cons r t, e, Z, h => .cons ⟨_, r, h _ (by rw [List.zip_cons_cons]; exact List.mem_cons_self)⟩ (each_in t (by simpa using e) fun q hq => h q (by rw [List.zip_cons_cons]; exact List.mem_cons_of_mem _ hq))
theorem each_reads {h : Heap} : ∀ {us : List Value} {ds : List PyData} {as : List Addr}, ReadsAll h us ds as → PySem.W.EachIs (fun u d => ∃ as, Reads h u d as) us ds
  | _, _, _, .nil => .nil
  | _, _, _, .cons r t => .cons ⟨_, r⟩ (each_reads t)
theorem depth_mem : ∀ {ds : List PyData} {d : PyData}, d ∈ ds → PyData.depth d ≤ PyData.depthAll ds
  | x :: xs, d, h => by
    simp only [PyData.depthAll]
    rcases List.mem_cons.mp h with rfl | h
    · omega
    · have := depth_mem h; omega
theorem dp_len {K : PySem.W.Frag} {H : Hp} : ∀ {ws : List V} {ds : List PyData}, DpAll K H ws ds → ws.length = ds.length
  | _, _, .nil => rfl
  | _, _, .cons _ t => by rw [List.length_cons, List.length_cons, dp_len t]
theorem each_len {α β : Type} {Z : α → β → Prop} : ∀ {as : List α} {bs : List β}, PySem.W.EachIs Z as bs → as.length = bs.length
  | _, _, .nil => rfl
  | _, _, .cons _ t => by rw [List.length_cons, List.length_cons, each_len t]
theorem cr_sortedD (hu : X.A.units + 65 < cLine) : CallR X (.builtin "sorted") (rSortedD X.K) := by
  intro pins s σ H vs us Q I r h
  obtain ⟨a, ws, ds, rfl, hs, hd, ha, hk, hdep, q⟩ := h
  obtain ⟨its, rv, hl, hz⟩ := I.list hs
  rw [Vals.ref1 r]
  obtain ⟨as, hr⟩ := Dp.readsAll I ds ws its hd rv
  have hlen := dp_len hd
  have sq := sizeLine_eq
  have hal : PySem.W.AllAlike (ds.map id) := by rw [List.map_id]; exact fun d h1 d' h2 => ha.1 d h1 d' h2
  have hso : PySem.W.Sortable (ds.map id) := by rw [List.map_id]; exact hk
  refine PySem.W.sorted_data (R := fun u d => ∃ w, RelV w u ∧ (w, d) ∈ ws.zip ds) (enc := id) hl.isList (each_in (Z := fun w d => (w, d) ∈ ws.zip ds) rv hlen fun q hq => hq) (each_reads hr) hal hso (by rw [← hlen]; exact hz) (fun b hb => ?_) fun out h1 h2 => ?_
  · have := depth_mem hb
    show X.A.units + 2 + PyData.depth b < cLine
    omega
  · obtain ⟨ws', k1, k2⟩ := each_vals h2
    obtain ⟨ep, he'⟩ := PyProof.Rows.sortedAll_at s.heap its out.toArray
    have hlen' : ws'.length ≤ sizeLine := by rw [k1.length, h1, ← hlen]; exact hz
    exact ⟨.ref _, upd H (s.heap.objs.size + 1) (.lst ws'), I.laid (t' := s.toks) (fun _ _ => PyProof.Rows.sortedAll_old) (Nat.le_succ _) ⟨hlen', out, ep, k1, he'⟩, rfl, q ws' _ k2 (I.hok.fresh (Nat.le_succ _))⟩
theorem sortable_ok {xs : List PyData} (h : (xs.all tupB || xs.all noTup) = true) (ha : PySem.W.AlikeAll xs) : PySem.W.Sortable xs := by
  rw [Bool.or_eq_true] at h
  rcases h with h | h
  · refine .inl fun d hd => ?_
    have := List.all_eq_true.mp h d hd
    unfold tupB at this
    split at this
    · exact ⟨_, _, rfl⟩
    · cases this
  · refine .inr fun d hd => ⟨ha.2 d hd, fun ys e => ?_⟩
    have := List.all_eq_true.mp h d hd
    subst e
    cases this
theorem bi_sorted (hu : X.A.units + 65 < cLine) : BiS X (.builtin "sorted") bSorted := by
  refine .of (cr_sortedI.or (cr_sortedD hu)) fun W H μ vs xs z Q R rx hg q => ?_
  unfold bSorted at hg
  split at hg
  · rename_i ys
    cases rx with
    | cons h t =>
      cases t
      obtain ⟨a, ws, rfl, h1, h2⟩ := h
      split at hg
      · rename_i ns hi
        cases hg
        rw [ints_v h2 hi] at h1
        refine .inl ⟨a, ns, rfl, .of h1, fun ns' p hp hs hn => ?_⟩
        rw [sorted_unique (hp.trans (sortI_perm ns).symm) hs (sortI_sorted ns)]
        exact post_lst R (v_ints _) q p hn
      · unfold sortL at hg
        split at hg
        · rename_i hk
          cases hg
          rw [Bool.and_eq_true] at hk
          obtain ⟨k1, k2⟩ := alike_ok hk.1
          exact .inr ⟨a, ws, ys, rfl, .of h1, h2.dp, k1, sortable_ok hk.2 k1, k2, fun ws' p he hn => post_lst R (each_rps (fun w d hm => each_zip h2 (w, d) hm) he) q p hn⟩
        · cases hg
  · cases hg
/-! ### len -/
theorem se_len (hg : Gl X "len") (hm : X.mg "len" = none) (hna : notStar a = true) (ha : SE X a fa) : SE X (.Call (.Name "len" p) [a] [] pos) (eLen fa) := by
  refine (pe_callB (call_len_seq.or call_len_str) hg hm (by decide +kernel) (pa_cons ha pa_nil (star_cons hna)) (by decide) (by decide) (star_cons hna) rfl).imp fun σ H Q ⟨W, e, μ, r, μ', R, E, hf, q⟩ => ?_
  unfold eLen at hf
  split at hf
  · rename_i v m1 h1
    cases hz : lenV m1 v with
    | none => rw [hz] at hf; cases hf
    | some z =>
      rw [hz] at hf; cases hf
      refine ⟨W, e, μ, v, _, R, E, h1, fun W1 H1 u E1 R1 ru => ?_⟩
      have plain : ∀ x, RT X.K W1.F H1 u x → bLen [x] = some z → ((∃ p ys, [u] = [V.ref p] ∧ (SqL X.K H1 p ys ∨ SqT X.K H1 p ys) ∧ Q (.int ys.length) H1) ∨ ∃ x : Str, [u] = [V.str x] ∧ x.length ≤ sizeLine ∧ Q (.int x.length) H1) := by
        intro x rx hx
        unfold bLen at hx
        split at hx
        · rename_i ys e; cases hx; cases e
          obtain ⟨a, ws, rfl, h1, h2⟩ := rx
          exact .inl ⟨a, ws, rfl, .inl (.of h1), by rw [h2.length]; exact q _ _ _ E1 R1 (.int _)⟩
        · rename_i ys e; cases hx; cases e
          cases rx with
          | tup h1 h2 => exact .inl ⟨_, _, rfl, .inr h1, by rw [h2.length]; exact q _ _ _ E1 R1 (.int _)⟩
        · rename_i s e
          cases e
          split at hx
          · rename_i hl
            cases hx
            cases rx
            exact .inr ⟨_, rfl, line_le' hl, q _ _ _ E1 R1 (.int _)⟩
          · cases hx
        · cases hx
      have lift : ∀ lv, v = lv → (rdD μ' lv).bind (fun x => bLen [x]) = some z → ((∃ p ys, [u] = [V.ref p] ∧ (SqL X.K H1 p ys ∨ SqT X.K H1 p ys) ∧ Q (.int ys.length) H1) ∨ ∃ x : Str, [u] = [V.str x] ∧ x.length ≤ sizeLine ∧ Q (.int x.length) H1) := by
        intro lv e hb
        subst e
        cases hx : rdD μ' v with
        | none => rw [hx] at hb; cases hb
        | some x => rw [hx] at hb; exact plain x (rd_ok R1 ru hx) hb
      cases v with
      | d x => exact lift _ rfl hz
      | ro xs => exact lift _ rfl hz
      | tr pre k => exact lift _ rfl hz
      | ref k =>
        simp only [lenV] at hz
        split at hz
        · rename_i xs hx
          cases hz
          obtain ⟨ad, h2, rfl⟩ := ru
          obtain ⟨vs, h3, h4⟩ := R1.cell _ ad _ h2 hx
          exact .inl ⟨ad, vs, rfl, .inl (.of h3), by rw [h4.length]; exact q _ _ _ E1 R1 (.int _)⟩
        · cases hz
  · cases hf
def rRepr (K : PySem.W.Frag) : List V → Hp → VK → Prop := fun vs H Q => ∃ v d, vs = [v] ∧ Dp K H v d ∧ showOk d = true ∧ Q (.str (PyData.shown d)) H
theorem plain_noDict : ∀ (n : Nat) (d : PyData), plainD n d = true → PyData.hasDict d = false := by
  intro n
  induction n with
  | zero => intro d h; simp [plainD] at h
  | succ n ih =>
    have all : ∀ xs : List PyData, xs.all (plainD n) = true → PyData.hasDictAll xs = false := by
      intro xs
      induction xs with
      | nil => intro _; rfl
      | cons y ys ihy =>
        intro q
        rw [List.all_cons, Bool.and_eq_true] at q
        show (PyData.hasDict y || PyData.hasDictAll ys) = false
        rw [ih y q.1, ihy q.2]; rfl
    intro d h
    cases d with
    | none => rfl
    | bool _ => rfl
    | int _ => rfl
    | str _ => rfl
    | list xs => exact all xs h
    | tuple xs => exact all xs h
    | dict _ => simp [plainD] at h
theorem call_reprD (hg : X.A.guards = some []) (hu : X.A.units + 65 < cLine) : CallR X (.builtin "repr") (rRepr X.K) := by
  intro pins s σ H vs us Q I r h
  obtain ⟨v, d, rfl, hd, hs, q⟩ := h
  cases r with
  | cons rv rt =>
    rename_i u us'
    cases rt
    unfold showOk at hs
    rw [Bool.and_eq_true, Bool.and_eq_true, decide_eq_true_eq] at hs
    obtain ⟨⟨hp, hsh⟩, hlen⟩ := hs
    have hlen' : (PyData.shown d).length ≤ sizeLine := Nat.le_trans hlen (by decide)
    obtain ⟨as, rd⟩ := Dp.reads I d v u hd rv
    have hdep : PyData.depth d ≤ 60 := (plain_ok _ d hp).2
    have ref : ∀ {ad : Addr}, u = .ref ad → wpAny (model X.prog X.w) X.A (call (.builtin "repr") [u]) (EP X pins σ Q) X.xe s := by
      intro ad e
      subst e
      refine repr_of_reads' rd hsh (fun z => ?_) hg (by omega) (fun _ _ z => z) (fun h' t tk hk => ?_) hlen'
      · rw [plain_noDict _ d hp] at z; cases z
      · exact ⟨.str _, H, I.kept (t' := tk) hk, ⟨t, rfl⟩, q⟩
    cases hd with
    | non => cases rv; exact PySem.P.repr_of_none ⟨.str _, H, I.tok _, ⟨_, rfl⟩, q⟩
    | bl b => cases rv; exact PySem.P.repr_of_bool ⟨.str _, H, I.tok _, ⟨_, rfl⟩, by rw [PyData.shown_bool] at q; cases b <;> exact q⟩
    | int i => obtain ⟨t, rfl⟩ := rv; exact PySem.P.repr_of_int (of_decide_eq_true hsh) ⟨.str _, H, I.tok _, ⟨_, rfl⟩, q⟩
    | str y => obtain ⟨t, rfl⟩ := rv; exact PySem.P.repr_of_str ⟨.str _, H, I.tok _, ⟨_, rfl⟩, q⟩ hlen'
    | lst _ _ => exact ref rv
    | tup _ _ => exact ref rv
theorem bi_repr (hg : X.A.guards = some []) (hu : X.A.units + 65 < cLine) : BiS X (.builtin "repr") bRepr := by
  refine .of (call_reprD hg hu) fun W H μ vs xs z Q R rx hg q => ?_
  unfold bRepr at hg
  split at hg
  · split at hg
    · rename_i hok
      cases hg
      cases rx with
      | cons h t =>
        cases t
        exact ⟨_, _, rfl, h.dp, hok, q _ _ _ .refl R (.str _)⟩
    · cases hg
  · cases hg
/-! ### their calls -/
theorem star_none {env : PySem.Env} {pos : Pos} : ∀ {es : List Expr}, es.all notStar = true → (backTo pos (starEach es env)).any (·.1) = false
  | [], _ => rfl
  | a :: es, h => by
    rw [List.all_cons, Bool.and_eq_true] at h
    rw [star_cons h.1]
    show (false || (backTo pos (starEach es env)).any (·.1)) = false
    rw [star_none h.2]; rfl
theorem bi_core {r : List V → Hp → VK → Prop} {g : BF} {σ : List (Option V)} {H : Hp} {Q : VK}
    (hs : ∀ (W : Wd) (H : Hp) (μ : Sto) (vs : List V) (xs : List PyData) (z : PyData) (Q : VK), Rel X.K W H μ → RTs X.K W.F H vs xs → g xs = some z → Post X.K W H μ μ (.d z) Q → r vs H Q)
    (h : tE X.K (eBi g fs) σ H Q) : tCB r (tA X.K fs) σ H Q := by
  obtain ⟨W, e, μ, r0, μ', R, E, hf, q⟩ := h
  unfold eBi at hf
  split at hf
  · rename_i vs m1 h1
    split at hf
    · rename_i xs hx
      cases hz : g xs with
      | none => rw [hz] at hf; cases hf
      | some z =>
        rw [hz] at hf; cases hf
        refine ⟨W, e, μ, vs, _, R, E, h1, fun W1 H1 us E1 R1 rs => ?_⟩
        exact hs W1 H1 _ us xs z Q R1 (rdAll_ok R1 rs hx) hz fun W' H' v E2 R2 rv => q W' H' v (E1.trans E2) R2 rv
    · cases hf
  · cases hf
theorem se_biB {id : String} {g : BF} (hb : BiS X (.builtin id) g) (hg : Gl X x) (hm : X.mg x = none) (hv : bootBuiltins x = some (.builtin id)) (hn : x ≠ "__name__") (hdb : (x == ("__debug__" : Str)) = false)
    (hst : (a :: as).all notStar = true) (ha : SA X (a :: as) fs) : SE X (.Call (.Name x p) (a :: as) [] pos) (eBi g fs) := by
  obtain ⟨r, hr, hs⟩ := hb
  rw [List.all_cons, Bool.and_eq_true] at hst
  exact (pe_callB hr hg hm hv ha hn hdb (star_cons hst.1) (star_none hst.2)).imp fun σ H Q h => bi_core hs h
theorem se_biT {id : String} {g : BF} (hb : BiS X (.type id) g) (hg : Gl X x) (hm : X.mg x = none) (hv : bootBuiltins x = some (.type id)) (hn : x ≠ "__name__") (hdb : (x == ("__debug__" : Str)) = false)
    (hst : (a :: as).all notStar = true) (ha : SA X (a :: as) fs) : SE X (.Call (.Name x p) (a :: as) [] pos) (eBi g fs) := by
  obtain ⟨r, hr, hs⟩ := hb
  rw [List.all_cons, Bool.and_eq_true] at hst
  exact (pe_callTy hr hg hm hv ha hn hdb (star_cons hst.1) (star_none hst.2)).imp fun σ H Q h => bi_core hs h
/-! ### isinstance -/
def TYPES : List String := ["int", "bool", "str", "tuple", "list"]
def kindD : PyData → String
  | .none => "NoneType"
  | .bool _ => "bool"
  | .int _ => "int"
  | .str _ => "str"
  | .list _ => "list"
  | .tuple _ => "tuple"
  | .dict _ => "dict"
theorem kit_none : ∀ T ∈ TYPES, kitB "NoneType" T = some false := by decide +kernel
theorem kit_bool : ∀ T ∈ TYPES, kitB "bool" T = some (T == "int" || T == "bool") := by decide +kernel
theorem kit_int : ∀ T ∈ TYPES, kitB "int" T = some (T == "int") := by decide +kernel
theorem kit_str : ∀ T ∈ TYPES, kitB "str" T = some (T == "str") := by decide +kernel
theorem kit_list : ∀ T ∈ TYPES, kitB "list" T = some (T == "list") := by decide +kernel
theorem kit_tuple : ∀ T ∈ TYPES, kitB "tuple" T = some (T == "tuple") := by decide +kernel
theorem ty_ok {K : PySem.W.Frag} {F : Addr → Prop} {H : Hp} {v : V} {T : String} (hT : T ∈ TYPES) : ∀ {x : PyData}, RT K F H v x → ∃ t, TyX K H v t ∧ PySem.W.kitOne K t (.type T) = some (isType T x)
  | .none, h => by cases h; exact ⟨_, .base .non, kit_ty (kit_none T hT)⟩
  | .bool b, h => by cases h; exact ⟨_, .base (.bl b), kit_ty (kit_bool T hT)⟩
  | .int b, h => by cases h; exact ⟨_, .base (.int b), kit_ty (kit_int T hT)⟩
  | .str b, h => by cases h; exact ⟨_, .base (.str b), kit_ty (kit_str T hT)⟩
  | .list _, ⟨a, vs, e, h1, _⟩ => by subst e; exact ⟨_, .base (.lst h1), kit_ty (kit_list T hT)⟩
  | .tuple _, h => by
    cases h with
    | tup h1 h2 =>
      have k : ∀ K : PySem.W.Frag, PySem.W.kitOne K (.type "tuple") (.type T) = some (isType T (.tuple [])) := fun K => kit_ty (kit_tuple T hT)
      rcases h1 with (h1 | ⟨o, h1⟩) | ⟨o, its, n, h1, h3, _⟩
      · exact ⟨_, .base (.tup h1), k K⟩
      · exact ⟨_, .fTuple h1, k K⟩
      · exact ⟨_, .kTuple h1 h3, k K⟩
  | .dict _, h => nomatch h
theorem se_isi {T : String} {y : Str} {p2 : Pos} (hT : T ∈ TYPES) (ha : SE X a fa) (hna : notStar a = true) (hg : Gl X "isinstance") (hm : X.mg "isinstance" = none) (hgy : Gl X y) (hmy : X.mg y = none) (hvy : bootBuiltins y = some (.type T)) (hny : y ≠ "__name__") (hdy : (y == ("__debug__" : Str)) = false) :
    SE X (.Call (.Name "isinstance" p) [a, .Name y p2] [] pos) (eIsi T fa) := by
  have hy : PE X (.Name y p2) (tC (.ty T)) := pe_bltn (v := V.ty T) hgy hmy hvy rfl hny hdy
  refine (pe_callB call_isi hg hm (by decide +kernel) (pa_cons ha (pa_cons hy pa_nil rfl) (star_cons hna)) (by decide) (by decide) (star_cons hna) rfl).imp fun σ H Q ⟨W, e, μ, r, μ', R, E, hf, q⟩ => ?_
  unfold eIsi at hf
  split at hf
  · rename_i v m1 h1
    split at hf
    · rename_i x hx
      cases hf
      refine ⟨W, e, μ, v, _, R, E, h1, fun W1 H1 u E1 R1 ru => ?_⟩
      obtain ⟨t, ht, hk⟩ := ty_ok hT (rd_ok R1 ru hx)
      exact ⟨u, .ty T, t, .type T, _, rfl, .ty T, ht, hk, q _ _ _ E1 R1 (.bl _)⟩
    · cases hf
  · cases hf
/-! ### list(x), [..] * n -/
theorem sl_of (hg : Gl X "list") (hm : X.mg "list" = none) (hna : notStar a = true) (ha : SE X a fa) : SL X (.Call (.Name "list" p) [a] [] pos) (lOf fa) := by
  refine (pe_callTy call_list_of hg hm (by decide +kernel) (pa_cons ha pa_nil (star_cons hna)) (by decide) (by decide) (star_cons hna) rfl).imp fun σ H Q ⟨W, e, μ, r, μ', R, E, hf, q⟩ => ?_
  unfold lOf at hf
  split at hf
  · rename_i v m1 h1
    cases hx : itemsOf m1 v with
    | none => rw [hx] at hf; cases hf
    | some xs =>
      rw [hx] at hf; cases hf
      refine ⟨W, e, μ, v, _, R, E, h1, fun W1 H1 u E1 R1 ru => ?_⟩
      unfold itemsOf at hx
      split at hx
      · cases hx
        cases ru with
        | lst g1 g2 g3 => exact ⟨_, _, rfl, .inl (.of g2), q _ _ _ E1 R1 g3.rls⟩
      · cases hx
        cases ru with
        | tup g2 g3 => exact ⟨_, _, rfl, .inr g2, q _ _ _ E1 R1 g3.rls⟩
      · split at hx
        · rename_i k ys hk
          cases hx
          obtain ⟨ad, h2, rfl⟩ := ru
          obtain ⟨vs, h3, h4⟩ := R1.cell _ ad _ h2 hk
          exact ⟨ad, vs, rfl, .inl (.of h3), q _ _ _ E1 R1 h4⟩
        · cases hx
      · cases hx
        obtain ⟨ad, vs, rfl, h2, h3⟩ := ru
        exact ⟨ad, vs, rfl, .inl h2.sq, q _ _ _ E1 R1 h3.rls⟩
      · cases hx
  · cases hf
end
end Gg

end
section
/-! GFn: defs that are run while nothing is being shown (repr); calls of them. -/
namespace Gg
open PySem PySem.Spec PyProof.Rows L2

/-- a def keeps its promise, called while no repr is under way -/
structure FnG (P : Program) (w : World) (K : PySem.W.Frag) (mg : Str → Option Value) (base : Heap) (k : Nat) (f : Addr) (fd : FuncData) (ps : List Str) (sp : Sp) : Prop where
  len : ∀ vs H Q E, sp vs H Q E → vs.length = ps.length
  go : ∀ (Ar : Around) (os : List PySem.Env) (s : Shared) (H : Hp) (xs : Args) (us : List Value) (vs : List V) (Q : VK), Ar.guards = some [] → Room k Ar → Env0 P w K mg base Ar os s H → BindsTo s fd xs (ps.zip us) → Vals vs us → sp vs H Q E0 →
    codeAny (model P w) Ar (.call (.ref f) xs) (CR CX0 os P w H s Q E0) s
theorem FnG.mono {P : Program} {w : World} {K : PySem.W.Frag} {mg : Str → Option Value} {base : Heap} {j k : Nat} {f : Addr} {fd : FuncData} {ps : List Str} {sp : Sp} (F : FnG P w K mg base j f fd ps sp) (h : j ≤ k) : FnG P w K mg base k f fd ps sp :=
  ⟨F.len, fun Ar os s H xs us vs Q g r => F.go Ar os s H xs us vs Q g (r.mono h)⟩
section
variable {P : Program} {w : World} {K : PySem.W.Frag} {mg : Str → Option Value} {base : Heap}
/-- by its body -/
theorem fnG_of {x qual : Str} {st : Stmt} {f : Addr} {fd : FuncData} {N ps : List Str} {k : Nat} {sp : Sp} (Fu : Fun K x qual st f fd) (S : FnScope N ps (defScope st)) (len : ∀ vs H Q E, sp vs H Q E → vs.length = ps.length)
    (hb : ∀ (cv : Value) (Ar : Around) (os : List PySem.Env) (s : Shared) (H : Hp) (vs : List V) (Q : VK), Ar.guards = some [] → Room k (Ar.deeper (envOfC qual (defScope st) s.heap.objs.size f cv)) → sp vs H Q E0 →
      ∃ t, PSs (cxOf CX0 P w K mg base N qual (defScope st) f cv Ar os s H E0).nox (defBody st) t ∧ t { nx := fun _ H' => Q .non H', rt := Q } (start N vs) H) : FnG P w K mg base (k + 1) f fd ps sp := by
  obtain ⟨oc, od, kV, doc, pm, an, cv, ct, osl, rfl, look, code⟩ := Fu.ex
  refine ⟨len, fun Ar os s H xs us vs Q hgu hro en hbi rel hsp => ?_⟩
  have hlen := len _ _ _ _ hsp
  have kIn : K.In s.heap := en.mod.kin.keeps fun b o e => (en.bs b o e).1
  have noLim : s.heap.NoLimit := en.mod.nolimit.keeps fun b o e => (en.bs b o e).1
  have kinds : ∀ y ∈ ps.zip us, (defScope st).names.lookup y.1 = some .local ∨ ((defScope st).names.lookup y.1 = some .cell ∧ ((cellsFrom (s.heap.objs.size + 1) (defScope st).names []).lookup y.1).isSome = true) := by
    intro ⟨n, v⟩ hy
    rcases S.par n (List.of_mem_zip hy).1 with q | q
    · exact .inl q
    · exact .inr ⟨q, PySem.W.cellsFrom_some _ _ _ (.inl q)⟩
  refine codeAny_call_function hro.depth (kIn _ _ look) rfl S.co S.gen rfl (PySem.W.codeRec_of kIn code) (hbi _ _ _ _ ?_)
  refine wpAny_newFunctionEnv_cells S.kind kinds fun env henv s1 hx => ?_
  subst henv
  refine ⟨noLim.keeps hx.toInCall.keep, codeAny_func ?_⟩
  obtain ⟨t, ht, hq⟩ := hb cv Ar os s H vs Q hgu (hro.deeper _) hsp
  have J : Inv (cxOf CX0 P w K mg base N qual (defScope st) f cv Ar os s H E0) [] (start N vs) H s1 := inv_start S hro.hd en hlen rel hx
  refine wpAny_mono (ht.nox.run [] s1 (start N vs) H _ J hq) (fun fl s' hs => ?_) fun e s' hs => hs
  cases fl with
  | ret u =>
    obtain ⟨v, σ', H', J', rv, q⟩ := hs
    exact ⟨v, H', J'.os, J'.bare, J'.base, J'.hok, rv, q⟩
  | next =>
    obtain ⟨σ', H', J', q⟩ := hs
    exact ⟨V.non, H', J'.os, J'.bare, J'.base, J'.hok, rfl, q⟩
  | brk => obtain ⟨_, _, _, q⟩ := hs; exact q.elim
  | cont => obtain ⟨_, _, _, q⟩ := hs; exact q.elim
end
section
variable {X : Cx} {k : Nat} {f : Addr} {fd : FuncData} {ps : List Str} {sp : Sp}
theorem run_g {pins : List (Addr × Obj)} {σ : List (Option V)} {H : Hp} {s : Shared} {Q : VK} {us : List Value} {vs : List V} (F : FnG X.prog X.w X.K X.mg X.base k f fd ps sp) (hgu : X.A.guards = some []) (hro : Room k X.A) (hb : Binds X.K fd ps [])
    (I : Inv X pins σ H s) (r : Vals vs us) (h : sp vs H Q E0) : wpAny (model X.prog X.w) X.A (call (.ref f) us) (EP X pins σ Q) X.xe s := by
  have hl : (us ++ ([] : List Value)).length = ps.length := by rw [List.append_nil, ← r.length]; exact F.len _ _ _ _ h
  have hbi := hb s us I.kIn hl
  rw [List.append_nil] at hbi
  refine wpAny_call (codeAny_mono (F.go X.A X.stack s H ⟨us, []⟩ us vs Q hgu hro I.env0 hbi r h) fun res s' hq => ?_)
  cases res with
  | error e => exact False.elim hq
  | ok fl =>
    cases fl with
    | ret u => exact I.after hq
    | next => exact hq.elim
    | brk => exact hq.elim
    | cont => exact hq.elim
theorem pe_callG {x : Str} {e : Expr} {es : List Expr} {p pos : Pos} {t : TA} (F : FnG X.prog X.w X.K X.mg X.base k f fd ps sp) (hgu : X.A.guards = some []) (hro : Room k X.A) (hg : Gl X x) (hm : X.mg x = some (.ref f)) (hk : PySem.W.keepIn X.K (.ref f) = true) (hb : Binds X.K fd ps [])
    (ha : PA X (e :: es) t) (hdb : (x == ("__debug__" : Str)) = false) (he : starEach (e :: es) X.env = (false, eval e X.env) :: starEach es X.env) (hpl : (backTo pos (starEach es X.env)).any (·.1) = false) :
    PE X (.Call (.Name x p) (e :: es) [] pos) (fun σ H Q => t σ H fun vs H1 => sp vs H1 Q E0) := by
  refine ⟨fun pins s σ H Q I h => wpAny_Call_Name_kw (ld_glob I hg hm ?_ hdb)⟩
  exact PySem.W.callWith_K (h₀ := X.base) I.ok.mod.kin hk (thn (ha.run pos pins s σ H _ I h) fun us s1 ⟨vs, H1, I1, r, q⟩ => ⟨I1.kIn, run_g F hgu hro hb I1 r q⟩) he hpl
end
end Gg

end
section
/-! GUse: a call of a def, by what it means over data. -/
namespace Gg
open PySem L2

def cellsOf (cs : List (List PyData)) : Sto := cs.map fun c => Cell.lst (c.map .d)
/-- the promise: it answers as the function over data does -/
def spF (K : PySem.W.Frag) (F : Fn) (np : Nat) : Sp := fun vs H Q _ => ∃ (W : Wd) (ls : List LV) (cs : List (List PyData)) (r : LV) (cs' : List (List PyData)),
  vs.length = np ∧ RLs K W H vs ls ∧ Rel K W H (cellsOf cs) ∧ F ls cs = some (r, cs') ∧
  ∀ (W' : Wd) (H' : Hp) (v : V), Ext W H (cellsOf cs) W' H' (cellsOf cs') → Rel K W' H' (cellsOf cs') → RL K W' H' v r → Q v H'

section
variable {K : PySem.W.Frag} {W : Wd} {H H' : Hp} {μ : Sto}
theorem cells_get {cs : List (List PyData)} {i : Nat} {xs : List LV} (h : (cellsOf cs)[i]? = some (Cell.lst xs)) : ∃ c, cs[i]? = some c ∧ xs = c.map LV.d := by
  unfold cellsOf at h
  rw [List.getElem?_map] at h
  cases q : cs[i]? with
  | none => rw [q] at h; cases h
  | some c => rw [q] at h; cases h; exact ⟨c, rfl, rfl⟩
theorem cells_live {cs : List (List PyData)} {i : Nat} : live (cellsOf cs) i ↔ i < cs.length := by
  constructor
  · intro h
    have := live_lt h
    unfold cellsOf at this
    rwa [List.length_map] at this
  · intro h
    refine ⟨cs[i].map LV.d, ?_⟩
    unfold cellsOf
    rw [List.getElem?_map, List.getElem?_eq_getElem h]
    rfl
/-- the places that are handed over -/
inductive Ats (m : List Addr) : List Nat → List Addr → Prop
  | nil : Ats m [] []
  | cons {k : Nat} {a : Addr} {ks : List Nat} {as : List Addr} : m[k]? = some a → Ats m ks as → Ats m (k :: ks) (a :: as)
theorem Ats.len {m : List Addr} : ∀ {ks : List Nat} {as : List Addr}, Ats m ks as → as.length = ks.length
  | _, _, .nil => rfl
  | _, _, .cons _ t => by rw [List.length_cons, List.length_cons, Ats.len t]
theorem Ats.get {m : List Addr} : ∀ {ks : List Nat} {as : List Addr} {i : Nat} {a : Addr}, Ats m ks as → as[i]? = some a → ∃ k, ks[i]? = some k ∧ m[k]? = some a
  | _, _, _, _, .nil, h => by simp at h
  | _, _, 0, _, .cons h0 _, h => by simp at h; subst h; exact ⟨_, rfl, h0⟩
  | _, _, i + 1, _, .cons _ t, h => by
    obtain ⟨k, h1, h2⟩ := Ats.get (i := i) t (by simpa using h)
    exact ⟨k, by simpa using h1, h2⟩
theorem Ats.mem {m : List Addr} : ∀ {ks : List Nat} {as : List Addr} {i k : Nat}, Ats m ks as → ks[i]? = some k → ∃ a, as[i]? = some a ∧ m[k]? = some a
  | _, _, _, _, .nil, h => by simp at h
  | _, _, 0, _, .cons h0 _, h => by simp at h; subst h; exact ⟨_, rfl, h0⟩
  | _, _, i + 1, _, .cons _ t, h => by
    obtain ⟨k, h1, h2⟩ := Ats.mem (i := i) t (by simpa using h)
    exact ⟨k, by simpa using h1, h2⟩
theorem flat_len {ks : List Nat} : ∀ {cs : List (List PyData)}, flatCells μ ks = some cs → cs.length = ks.length := by
  induction ks with
  | nil => intro cs h; cases h; rfl
  | cons k ks ih =>
    intro cs h
    simp only [flatCells] at h
    split at h
    · cases q : flatCells μ ks with
      | none => rw [q] at h; cases h
      | some ds => rw [q] at h; cases h; rw [List.length_cons, List.length_cons, ih q]
    · cases h
theorem flat_get {ks : List Nat} : ∀ {cs : List (List PyData)} {i k : Nat}, flatCells μ ks = some cs → ks[i]? = some k → ∃ xs c, cs[i]? = some c ∧ μ[k]? = some (Cell.lst xs) ∧ allD xs = some c := by
  induction ks with
  | nil => intro cs i k h hk; simp at hk
  | cons j ks ih =>
    intro cs i k h hk
    simp only [flatCells] at h
    split at h
    · rename_i c hc
      cases q : flatCells μ ks with
      | none => rw [q] at h; cases h
      | some ds =>
        rw [q] at h; cases h
        cases i with
        | zero =>
          simp at hk; subst hk
          unfold flatCell at hc
          split at hc
          · rename_i xs hx; exact ⟨xs, c, rfl, hx, hc⟩
          · cases hc
        | succ i =>
          obtain ⟨xs, c', h1, h2, h3⟩ := ih q (by simpa using hk)
          exact ⟨xs, c', by simpa using h1, h2, h3⟩
    · cases h
theorem ats_of (R : Rel K W H μ) {ks : List Nat} : ∀ {cs : List (List PyData)}, flatCells μ ks = some cs → ∃ as, Ats W.m ks as := by
  induction ks with
  | nil => intro cs _; exact ⟨[], .nil⟩
  | cons k ks ih =>
    intro cs h
    obtain ⟨xs, c, _, hx, _⟩ := flat_get (i := 0) h rfl
    have hk : k < W.m.length := by rw [R.len]; exact live_lt ⟨xs, hx⟩
    simp only [flatCells] at h
    split at h
    · cases q : flatCells μ ks with
      | none => rw [q] at h; cases h
      | some ds =>
        obtain ⟨as, ha⟩ := ih q
        exact ⟨W.m[k] :: as, .cons (List.getElem?_eq_getElem hk) ha⟩
    · cases h
theorem renum_ok {as : List Addr} : ∀ {vs : List V} {rs : List LV} {pre rest : List Addr}, rs.all plainArg = true → RLs K W H vs rs → as = pre ++ rest → Ats W.m (refsOf rs) rest → RLs K ⟨as, W.F⟩ H vs (renum pre.length rs)
  | _, _, _, _, _, .nil, _, _ => .nil
  | _, .d x :: rs, pre, rest, p, .cons a t, e, h => .cons a (renum_ok (by simpa [plainArg] using p) t e h)
  | _, .ro x :: rs, pre, rest, p, .cons a t, e, h => .cons a (renum_ok (by simpa [plainArg] using p) t e h)
  | _, .tr _ _ :: rs, pre, rest, p, .cons a t, e, h => by rw [List.all_cons, Bool.and_eq_true] at p; cases p.1
  | _, .ref k :: rs, pre, _, p, .cons (v := v) a t, e, h => by
    simp only [refsOf] at h
    cases h with
    | @cons _ ad _ as' h0 h =>
      obtain ⟨b, hb, rfl⟩ := a
      rw [h0] at hb; cases hb
      have := renum_ok (as := as) (pre := pre ++ [ad]) (rest := as') (by simpa [plainArg] using p) t (by rw [e, List.append_assoc]; rfl) h
      rw [List.length_append] at this
      refine .cons ⟨ad, ?_, rfl⟩ this
      show as[pre.length]? = some ad
      rw [e, List.getElem?_append_right (Nat.le_refl _), Nat.sub_self]
      rfl
theorem put_len : ∀ {ks : List Nat} {cs : List (List PyData)} {μ : Sto}, (putBack μ ks cs).length = μ.length
  | [], [], _ => rfl
  | [], _ :: _, _ => rfl
  | _ :: _, [], _ => rfl
  | k :: ks, c :: cs, μ => by
    simp only [putBack]
    rw [put_len, List.length_set]
theorem put_out {k : Nat} : ∀ {ks : List Nat} {cs : List (List PyData)} {μ : Sto}, k ∉ ks → (putBack μ ks cs)[k]? = μ[k]?
  | [], [], _, _ => rfl
  | [], _ :: _, _, _ => rfl
  | _ :: _, [], _, _ => rfl
  | j :: ks, c :: cs, μ, h => by
    simp only [putBack]
    rw [put_out (fun z => h (List.mem_cons_of_mem _ z)), List.getElem?_set_ne (fun e => h (by rw [e]; exact List.mem_cons_self))]
theorem put_in {k : Nat} {c : List PyData} : ∀ {ks : List Nat} {cs : List (List PyData)} {μ : Sto} {i : Nat}, ks.Nodup → ks[i]? = some k → cs[i]? = some c → k < μ.length → (putBack μ ks cs)[k]? = some (Cell.lst (c.map LV.d))
  | [], _, _, _, _, h, _, _ => by simp at h
  | _ :: _, [], _, _, _, _, h, _ => by simp at h
  | j :: ks, d :: cs, μ, 0, nd, h1, h2, hl => by
    simp at h1 h2; subst h1; subst h2
    simp only [putBack]
    rw [put_out (List.nodup_cons.mp nd).1, List.getElem?_set_self hl]
  | j :: ks, d :: cs, μ, i + 1, nd, h1, h2, hl => by
    simp only [putBack]
    exact put_in (i := i) (List.nodup_cons.mp nd).2 (by simpa using h1) (by simpa using h2) (by rw [List.length_set]; exact hl)
/-- ahead of the call: the callee's own view -/
theorem rel_in (R : Rel K W H μ) {ks : List Nat} {cs : List (List PyData)} {as : List Addr} (nd : ks.Nodup) (hf : flatCells μ ks = some cs) (ha : Ats W.m ks as) : Rel K ⟨as, W.F⟩ H (cellsOf cs) := by
  have hl := flat_len hf
  refine ⟨?_, fun i a xs h1 h2 => ?_, fun i j a hi hj h1 h2 => ?_, fun a h => ⟨(R.frz a h).1, fun i hi h1 => ?_⟩⟩
  · unfold cellsOf; rw [List.length_map, hl]; exact ha.len
  · obtain ⟨c, hc, rfl⟩ := cells_get h2
    obtain ⟨k, hk1, hk2⟩ := ha.get h1
    obtain ⟨ys, c', g1, g2, g3⟩ := flat_get hf hk1
    rw [hc] at g1; cases g1
    obtain ⟨vs, q1, q2⟩ := R.cell k a ys hk2 g2
    have q3 : RPs K W.F H vs c := q2.all g3
    exact ⟨vs, q1, RPs.rls (W := ⟨as, W.F⟩) q3⟩
  · obtain ⟨k, hk1, hk2⟩ := ha.get h1
    obtain ⟨l, hl1, hl2⟩ := ha.get h2
    obtain ⟨ys, _, _, g2, _⟩ := flat_get hf hk1
    obtain ⟨zs, _, _, g3, _⟩ := flat_get hf hl1
    have e := R.inj k l a ⟨ys, g2⟩ ⟨zs, g3⟩ hk2 hl2
    subst e
    exact (List.getElem?_inj (List.getElem?_eq_some_iff.mp hk1).1 nd).mp (hk1.trans hl1.symm)
  · obtain ⟨k, hk1, hk2⟩ := ha.get h1
    obtain ⟨ys, _, _, g2, _⟩ := flat_get hf hk1
    exact (R.frz a h).2 k ⟨ys, g2⟩ hk2
/-- behind it: the caller's view -/
theorem ext_out (R : Rel K W H μ) {ks : List Nat} {cs cs' : List (List PyData)} {as : List Addr} {F' : Addr → Prop} (nd : ks.Nodup) (hf : flatCells μ ks = some cs) (ha : Ats W.m ks as) (hc : cs'.length = cs.length)
    (E : Ext ⟨as, W.F⟩ H (cellsOf cs) ⟨as, F'⟩ H' (cellsOf cs')) (R' : Rel K ⟨as, F'⟩ H' (cellsOf cs')) : Ext W H μ ⟨W.m, F'⟩ H' (putBack μ ks cs') ∧ Rel K ⟨W.m, F'⟩ H' (putBack μ ks cs') := by
  have hl := flat_len hf
  have lv : ∀ {i k : Nat}, ks[i]? = some k → live μ k := fun h => let ⟨ys, _, _, g2, _⟩ := flat_get hf h; ⟨ys, g2⟩
  have lvP : ∀ {k : Nat}, live (putBack μ ks cs') k → live μ k := by
    intro k h
    by_cases hk : k ∈ ks
    · obtain ⟨i, hi⟩ := List.getElem?_of_mem hk
      exact lv hi
    · obtain ⟨ys, h⟩ := h
      rw [put_out hk] at h
      exact ⟨ys, h⟩
  have notAs : ∀ {a : Addr} {k : Nat}, k ∉ ks → live μ k → W.m[k]? = some a → ∀ i, live (cellsOf cs) i → as[i]? ≠ some a := by
    intro a k hk lk hm i _ hi
    obtain ⟨j, hj1, hj2⟩ := ha.get hi
    have := R.inj j k a (lv hj1) lk hj2 hm
    subst this
    exact hk (List.mem_of_getElem? hj1)
  have E' : Ext W H μ ⟨W.m, F'⟩ H' (putBack μ ks cs') := by
    refine ⟨⟨[], by simp, by simp⟩, E.F, E.dom, fun a o h n => E.keep a o h fun i hi h1 => ?_, fun a h => ?_, fun k _ h => lvP h⟩
    · obtain ⟨j, hj1, hj2⟩ := ha.get h1
      exact n j (lv hj1) hj2
    · rcases E.Fnew a h with z | z | ⟨i, hi, h1⟩
      · exact .inl z
      · exact .inr (.inl z)
      · obtain ⟨j, hj1, hj2⟩ := ha.get h1
        exact .inr (.inr ⟨j, lv hj1, hj2⟩)
  refine ⟨E', by rw [put_len]; exact R.len, fun k a xs h1 h2 => ?_, fun i j a hi hj => R.inj i j a (lvP hi) (lvP hj), fun a h => ⟨(R'.frz a h).1, fun k hk h1 => ?_⟩⟩
  · by_cases hk : k ∈ ks
    · obtain ⟨i, hi⟩ := List.getElem?_of_mem hk
      have il : i < cs'.length := by rw [hc, hl]; exact (List.getElem?_eq_some_iff.mp hi).1
      have hp := put_in (c := cs'[i]) nd hi (List.getElem?_eq_getElem il) (live_lt (lv hi))
      rw [hp] at h2
      have e2 : xs = cs'[i].map LV.d := by
        have := Option.some.inj h2; injection this with this; exact this.symm
      obtain ⟨b, hb1, hb2⟩ := ha.mem hi
      rw [h1] at hb2; cases hb2
      have hcell : (cellsOf cs')[i]? = some (Cell.lst (cs'[i].map LV.d)) := by
        unfold cellsOf; rw [List.getElem?_map, List.getElem?_eq_getElem il]; rfl
      obtain ⟨vs, q1, q2⟩ := R'.cell i a _ hb1 hcell
      refine ⟨vs, q1, ?_⟩
      rw [e2]
      have allc : ∀ c : List PyData, allD (c.map LV.d) = some c := by
        intro c
        induction c with
        | nil => rfl
        | cons x c ih => simp only [List.map_cons, allD, ih]; rfl
      exact RPs.rls (W := ⟨W.m, F'⟩) (q2.all (allc _))
    · rw [put_out hk] at h2
      obtain ⟨vs, q1, q2⟩ := R.cell k a xs h1 h2
      exact ⟨vs, E.keep a _ q1 (notAs hk ⟨xs, h2⟩ h1), RLs.mono E' R q2⟩
  · by_cases hks : k ∈ ks
    · obtain ⟨i, hi⟩ := List.getElem?_of_mem hks
      obtain ⟨b, hb1, hb2⟩ := ha.mem hi
      have h1 : W.m[k]? = some a := h1
      rw [h1] at hb2; cases hb2
      have il : i < cs'.length := by rw [hc, hl]; exact (List.getElem?_eq_some_iff.mp hi).1
      exact (R'.frz a h).2 i (cells_live.mpr il) hb1
    · have lk := lvP hk
      rcases E.Fnew a h with z | z | ⟨i, hi, g1⟩
      · exact (R.frz a z).2 k lk h1
      · exact R.notNew z k lk h1
      · exact notAs hks lk h1 i hi g1
/-- one more list is the caller's -/
theorem Rel.adopt (R : Rel K W H μ) {b : Addr} {vs : List V} {c : List PyData} (hb : H b = some (.lst vs)) (hv : RPs K W.F H vs c) (n1 : ∀ k, live μ k → W.m[k]? ≠ some b) (n2 : ¬ W.F b) : Rel K (W.more b) H (μ ++ [.lst (c.map .d)]) := by
  have old : ∀ {k : Nat} {a : Addr}, k < μ.length → (W.m ++ [b])[k]? = some a → W.m[k]? = some a := fun {k a} hk h => by
    rw [List.getElem?_append_left (by rw [R.len]; exact hk)] at h; exact h
  have oldm : ∀ {k : Nat} {ys : List LV}, k < μ.length → (μ ++ [Cell.lst (c.map .d)])[k]? = some (Cell.lst ys) → μ[k]? = some (Cell.lst ys) := fun {k ys} hk h => by
    rw [List.getElem?_append_left hk] at h; exact h
  have last : ∀ {k : Nat}, k < (μ ++ [Cell.lst (c.map .d)]).length → ¬ k < μ.length → k = μ.length := fun {k} h1 h2 => by
    rw [List.length_append] at h1; simp at h1; omega
  have hl : ∀ {k : Nat}, live (μ ++ [Cell.lst (c.map .d)]) k → k < μ.length → live μ k := fun {k} ⟨ys, h⟩ hk => ⟨ys, oldm hk h⟩
  have atp : ∀ {k : Nat} {a : Addr}, k = μ.length → (W.m ++ [b])[k]? = some a → a = b := fun {k a} hk h => by
    rw [hk, ← R.len, List.getElem?_append_right (Nat.le_refl _), Nat.sub_self] at h
    exact (Option.some.inj h).symm
  have E : Ext W H μ (W.more b) H μ → True := fun _ => trivial
  have up : ∀ {us : List V} {ys : List LV}, RLs K W H us ys → RLs K (W.more b) H us ys := by
    intro us ys h
    induction h with
    | nil => exact .nil
    | @cons v vs x xs r _ ih =>
      refine .cons ?_ ih
      have at' : ∀ {k : Nat} {a : Addr}, W.m[k]? = some a → (W.m ++ [b])[k]? = some a := fun {k a} h => by
        rw [List.getElem?_append_left (List.getElem?_eq_some_iff.mp h).1]; exact h
      cases x with
      | d y => exact r
      | ref k => obtain ⟨a, h1, h2⟩ := r; exact ⟨a, at' h1, h2⟩
      | ro y => exact r
      | tr pre k => obtain ⟨a, us, b', h1, h2, h3, h4⟩ := r; exact ⟨a, us, b', h1, h2, h3, at' h4⟩
  refine ⟨by simp [R.len], fun k a ys h1 h2 => ?_, fun j k a hj hk h1 h2 => ?_, fun a h => ?_⟩
  · by_cases hk : k < μ.length
    · obtain ⟨ws, q1, q2⟩ := R.cell k a ys (old hk h1) (oldm hk h2)
      exact ⟨ws, q1, up q2⟩
    · have ek := last (List.getElem?_eq_some_iff.mp h2).1 hk
      have ea := atp ek h1
      subst ea
      rw [ek, List.getElem?_append_right (Nat.le_refl _), Nat.sub_self] at h2
      have e2 : c.map LV.d = ys := by
        have h3 : some (Cell.lst (c.map LV.d)) = some (Cell.lst ys) := h2
        injection h3 with h3; injection h3
      subst e2
      exact ⟨vs, hb, up hv.rls⟩
  · by_cases a1 : j < μ.length
    · by_cases a2 : k < μ.length
      · exact R.inj j k a (hl hj a1) (hl hk a2) (old a1 h1) (old a2 h2)
      · have ea := atp (last (live_lt hk) a2) h2
        subst ea
        exact absurd (old a1 h1) (n1 j (hl hj a1))
    · have ea := atp (last (live_lt hj) a1) h1
      subst ea
      by_cases a2 : k < μ.length
      · exact absurd (old a2 h2) (n1 k (hl hk a2))
      · rw [last (live_lt hj) a1, last (live_lt hk) a2]
  · refine ⟨(R.frz a h).1, fun k lk hk => ?_⟩
    by_cases a2 : k < μ.length
    · exact (R.frz a h).2 k (hl lk a2) (old a2 hk)
    · have ea := atp (last (live_lt lk) a2) hk
      rw [ea] at h; exact n2 h
theorem Ext.adopt {W0 : Wd} {H0 : Hp} {μ0 : Sto} (E : Ext W0 H0 μ0 W H μ) (R : Rel K W H μ) {b : Addr} {x : Cell} (hb : H0 b = none) : Ext W0 H0 μ0 (W.more b) H (μ ++ [x]) := by
  obtain ⟨r, er, nr⟩ := E.pre
  refine ⟨⟨r ++ [b], by show W.m ++ [b] = _; rw [er, List.append_assoc], fun a ha => ?_⟩, E.F, E.dom, E.keep, E.Fnew, fun k hk ⟨ys, h⟩ => E.lv k hk ⟨ys, ?_⟩⟩
  · rcases List.mem_append.mp ha with ha | ha
    · exact nr a ha
    · rw [List.mem_singleton.mp ha]; exact hb
  · have : k < μ.length := by rw [← R.len, er, List.length_append]; omega
    rw [List.getElem?_append_left this] at h
    exact h
theorem map_allD : ∀ c : List PyData, allD (c.map LV.d) = some c
  | [] => rfl
  | x :: c => by simp only [List.map_cons, allD, map_allD c]; rfl
/-- without the new list -/
theorem rel_pop {as : List Addr} {b : Addr} {F' : Addr → Prop} {cs' : List (List PyData)} {n : Nat} (hn : as.length = n) (hc : cs'.length = n + 1) (R : Rel K ⟨as ++ [b], F'⟩ H' (cellsOf cs')) : Rel K ⟨as, F'⟩ H' (cellsOf (cs'.take n)) := by
  have cl : (cs'.take n).length = n := by rw [List.length_take]; omega
  have at' : ∀ {k : Nat} {a : Addr}, as[k]? = some a → (as ++ [b])[k]? = some a := fun {k a} h => by
    rw [List.getElem?_append_left (List.getElem?_eq_some_iff.mp h).1]; exact h
  have lv : ∀ {k : Nat}, live (cellsOf (cs'.take n)) k → live (cellsOf cs') k := fun h => by
    rw [cells_live] at h ⊢; omega
  refine ⟨?_, fun k a xs h1 h2 => ?_, fun j k a hj hk h1 h2 => R.inj j k a (lv hj) (lv hk) (at' h1) (at' h2), fun a h => ⟨(R.frz a h).1, fun k hk h1 => (R.frz a h).2 k (lv hk) (at' h1)⟩⟩
  · show as.length = _
    unfold cellsOf
    rw [List.length_map, cl, hn]
  · obtain ⟨c, hc', rfl⟩ := cells_get h2
    have hk : k < n := by rw [← cl]; exact (List.getElem?_eq_some_iff.mp hc').1
    rw [List.getElem?_take_of_lt hk] at hc'
    have hcell : (cellsOf cs')[k]? = some (Cell.lst (c.map LV.d)) := by
      unfold cellsOf; rw [List.getElem?_map, hc']; rfl
    obtain ⟨vs, q1, q2⟩ := R.cell k a _ (at' h1) hcell
    exact ⟨vs, q1, RPs.rls (W := ⟨as, F'⟩) (q2.all (map_allD c))⟩
theorem ext_pop {as as0 : List Addr} {b : Addr} {F0 F' : Addr → Prop} {cs cs' : List (List PyData)} {n : Nat} (hcs : cs.length = n) (e0 : as0 = as) (hn : as.length = n)
    (E : Ext ⟨as0, F0⟩ H (cellsOf cs) ⟨as ++ [b], F'⟩ H' (cellsOf cs')) : Ext ⟨as0, F0⟩ H (cellsOf cs) ⟨as, F'⟩ H' (cellsOf (cs'.take n)) := by
  subst e0
  refine ⟨⟨[], by simp, by simp⟩, E.F, E.dom, E.keep, E.Fnew, fun k hk _ => ?_⟩
  rw [cells_live, hcs, ← hn]
  exact hk
end
/-! ### the rule -/
/-- a def of the text that may be called by its name -/
structure CallOk (X : Cx) (x : Str) (F : Fn) : Prop where
  ex : ∃ (k : Nat) (f : Addr) (fd : FuncData) (ps : List Str), FnG X.prog X.w X.K X.mg X.base k f fd ps (spF X.K F ps.length) ∧ Room k X.A ∧ X.mg x = some (.ref f) ∧ PySem.W.keepIn X.K (.ref f) = true ∧ Binds X.K fd ps [] ∧ ∀ ls cs r, F ls cs = some r → ls.length = ps.length
section
variable {X : Cx} {a : Expr} {as : List Expr} {fs : List EM} {pos p : Pos} {x : Str}
theorem se_call {F : Fn} (hc : CallOk X x F) (hgu : X.A.guards = some []) (hg : Gl X x) (hdb : (x == ("__debug__" : Str)) = false) (hst : (a :: as).all notStar = true) (ha : SA X (a :: as) fs) : SE X (.Call (.Name x p) (a :: as) [] pos) (eCall F fs) := by
  obtain ⟨k, f, fd, ps, hF, hr, hm, hk, hb, hnp⟩ := hc.ex
  rw [List.all_cons, Bool.and_eq_true] at hst
  refine (pe_callG hF hgu hr hg hm hk hb ha hdb (star_cons hst.1) (star_none hst.2)).imp fun σ H Q ⟨W, e, μ, r, μ', R, E, hf, q⟩ => ?_
  unfold eCall at hf
  split at hf
  · rename_i vs m1 h1
    refine ⟨W, e, μ, vs, m1, R, E, h1, fun W1 H1 us E1 R1 rs => ?_⟩
    have lenR : ∀ {n : Nat} {l : List LV}, (renum n l).length = l.length := by
      intro n l
      induction l generalizing n with
      | nil => rfl
      | cons y l ih => cases y <;> simp [renum, ih]
    unfold callF at hf
    split at hf
    · rename_i hp
      obtain ⟨hp, nd⟩ := hp
      split at hf
      · rename_i cs hcs
        split at hf
        · rename_i r1 cs' hq
          obtain ⟨ads, hads⟩ := ats_of R1 hcs
          have adl : ads.length = cs.length := by rw [hads.len, flat_len hcs]
          refine ⟨⟨ads, W1.F⟩, renum 0 vs, cs, r1, cs', ?_, renum_ok (pre := []) (rest := ads) hp rs rfl hads, rel_in R1 nd hcs hads, hq, fun W2 H2 v E2 R2 rv => ?_⟩
          · rw [rs.length, ← lenR (n := 0)]; exact hnp _ _ _ hq
          obtain ⟨m2, F2⟩ := W2
          obtain ⟨rr, er, nr⟩ := E2.pre
          have er : m2 = ads ++ rr := er
          have lenm : m2.length = cs'.length := by
            have := R2.len
            unfold cellsOf at this
            rwa [List.length_map] at this
          -- one new list
          have one : cs'.length = cs.length + 1 → ∃ b c, cs'[cs.length]? = some c ∧ m2[cs.length]? = some b ∧ Ext W H μ ⟨W1.m ++ [b], F2⟩ H2 (putBack m1 (refsOf vs) (cs'.take cs.length) ++ [.lst (c.map .d)]) ∧
              Rel X.K ⟨W1.m ++ [b], F2⟩ H2 (putBack m1 (refsOf vs) (cs'.take cs.length) ++ [.lst (c.map .d)]) ∧ (W1.m ++ [b])[m1.length]? = some b := by
            intro hl
            have lr : rr.length = 1 := by
              have := congrArg List.length er
              rw [List.length_append] at this; omega
            obtain ⟨b, rfl⟩ : ∃ b, rr = [b] := by
              match rr, lr with
              | [b], _ => exact ⟨b, rfl⟩
            subst er
            have hbn : H1 b = none := nr b (List.mem_singleton.mpr rfl)
            have E3 := ext_pop rfl rfl adl E2
            have R3 := rel_pop adl hl R2
            obtain ⟨E4, R4⟩ := ext_out R1 nd hcs hads (by rw [List.length_take]; omega) E3 R3
            have hi : cs.length < cs'.length := by omega
            have hm2 : (ads ++ [b])[cs.length]? = some b := by rw [← adl, List.getElem?_append_right (Nat.le_refl _), Nat.sub_self]; rfl
            have hcell : (cellsOf cs')[cs.length]? = some (Cell.lst ((cs'[cs.length]).map LV.d)) := by
              unfold cellsOf; rw [List.getElem?_map, List.getElem?_eq_getElem hi]; rfl
            obtain ⟨ws, g1, g2⟩ := R2.cell _ b _ hm2 hcell
            have n1 : ∀ j, live (putBack m1 (refsOf vs) (cs'.take cs.length)) j → W1.m[j]? ≠ some b := by
              intro j lj hj
              exact R1.notNew hbn j (E4.lv j (List.getElem?_eq_some_iff.mp hj).1 lj) hj
            have n2 : ¬ F2 b := fun hF => (R2.frz b hF).2 cs.length (cells_live.mpr hi) hm2
            have R5 := R4.adopt g1 (g2.all (map_allD _)) n1 n2
            have E5 := E4.adopt R4 (x := .lst ((cs'[cs.length]).map LV.d)) hbn
            refine ⟨b, cs'[cs.length], List.getElem?_eq_getElem hi, hm2, E1.trans E5, R5, ?_⟩
            rw [← R1.len, List.getElem?_append_right (Nat.le_refl _), Nat.sub_self]; rfl
          cases r1 with
          | d x =>
            simp only [backF] at hf
            split at hf
            · rename_i hl
              cases hf
              have e0 : rr = [] := by
                have := congrArg List.length er
                rw [List.length_append] at this
                exact List.length_eq_zero_iff.mp (by omega)
              subst e0
              rw [List.append_nil] at er
              subst er
              obtain ⟨E3, R3⟩ := ext_out R1 nd hcs hads hl E2 R2
              exact q _ _ _ (E1.trans E3) R3 rv
            · cases hf
          | ref j =>
            simp only [backF] at hf
            split at hf
            · rename_i hl
              obtain ⟨b, c, g1, g2, g3, g4, g5⟩ := one hl.2
              rw [g1] at hf
              cases hf
              obtain ⟨a, ha1, ha2⟩ := rv
              rw [hl.1] at ha1
              have ha1 : m2[cs.length]? = some a := ha1
              rw [g2] at ha1; cases ha1
              exact q _ _ _ g3 g4 ⟨b, g5, ha2⟩
            · cases hf
          | tr pre j =>
            simp only [backF] at hf
            split at hf
            · rename_i hl
              obtain ⟨b, c, g1, g2, g3, g4, g5⟩ := one hl.2
              rw [g1] at hf
              cases hf
              obtain ⟨a, us', b', ha1, ha2, ha3, ha4⟩ := rv
              rw [hl.1] at ha4
              have ha4 : m2[cs.length]? = some b' := ha4
              rw [g2] at ha4; cases ha4
              exact q _ _ _ g3 g4 ⟨a, us', b, ha1, ha2, ha3, g5⟩
            · cases hf
          | ro _ => cases hf
        · cases hf
      · cases hf
    · cases hf
  · cases hf
end
end Gg

end
section
/-! GEnum: enumerate over a tuple; a walk over a list or a tuple, whichever it is. -/
namespace Gg
open PySem PySem.Spec PyProof.Rows L2

set_option maxHeartbeats 1000000 in
theorem enum1_meets {u : Value} {ob : Obj} {Hh : Heap → Prop} (B : Begins u ob Hh) :
    Meets (Builtin.«enumerate.__new__» ⟨[.type "enumerate", u], []⟩) (fun _ R s => Hh s.heap ∧
      R (.ok (.ret (.ref (s.heap.push ob).objs.size))) { s with heap := (s.heap.push ob).push { cls := .type "enumerate", data := .fields #[.none, .bool false, .ref s.heap.objs.size, rawInt 0, .none, .none] } }) :=
  .of_wp fun prog w A R s hyp => by
    obtain ⟨hp, ge, dr, tk, os⟩ := s; obtain ⟨h1, h2⟩ := hyp
    have issub := sub_enumerate
    have step : ∀ {A' : Around} {E : Value → Shared → Prop} {Q : Value → Shared → Prop}, Q (.ref hp.objs.size) ⟨hp.push ob, ge, dr, tk, os⟩ → wpAny (model prog w) A' (pyIter u) Q E ⟨hp, ge, dr, tk, os⟩ :=
      fun q => B.iter prog w _ _ ⟨hp, ge, dr, tk, os⟩ _ h1 q
    wp_walk using step
    refine wpAny_stack_any fun stk => wpAny_pure ?_
    split
    · rename_i cc _ _ _ _ _
      cases (cc == Value.type "enumerate")
      · wp_walk using step
        exact ⟨_, rfl, h2⟩
      · wp_walk using step
        exact ⟨_, rfl, h2⟩
    · wp_walk using step
      exact ⟨_, rfl, h2⟩
section
variable {prog : Program} {w : World} {A : Around} {E : Value → Shared → Prop} {s : Shared}
theorem enum1_begins {u : Value} {ob : Obj} {Hh : Heap → Prop} {Q : Value → Shared → Prop} (B : Begins u ob Hh) (h1 : Hh s.heap)
    (h : ∀ h', IsEnum h' (s.heap.objs.size + 1) s.heap.objs.size 0 .none → h'.get? s.heap.objs.size = some ob → h'.objs.size = s.heap.objs.size + 2 →
      (∀ b o, s.heap.get? b = some o → h'.get? b = some o) → Q (.ref (s.heap.objs.size + 1)) { s with heap := h' }) : wpAny (model prog w) A (call (.type "enumerate") [u]) Q E s := by
  refine callType_new F.called_enumerate (by decide) (F.typeCall_enumerate_1 _) (F.newCall_enumerate_1 _) (fun obj => F.args_object_init_2 obj _) F.entry_enumerate_new (enum1_meets B) ⟨h1, ?_⟩
  have sz : (s.heap.push ob).objs.size = s.heap.objs.size + 1 := Heap.size_push ..
  show _ ∧ _
  rw [sz]
  have he : IsEnum ((s.heap.push ob).push { cls := .type "enumerate", data := .fields #[.none, .bool false, .ref s.heap.objs.size, rawInt 0, .none, .none] }) (s.heap.objs.size + 1) s.heap.objs.size 0 .none := by
    have hq := Heap.get?_push_size (s.heap.push ob) (o := { cls := .type "enumerate", data := .fields #[.none, .bool false, .ref s.heap.objs.size, rawInt 0, .none, .none] }) rfl
    rw [sz] at hq; exact hq
  exact ⟨⟨_, he, rfl⟩, h _ he (Heap.get?_push_of_some _ (Heap.get?_push_size _ B.free)) (by rw [Heap.size_push, sz]) fun b o x => Heap.get?_push_of_some _ (Heap.get?_push_of_some _ x)⟩
end
/-- the tuple at a, its items in new pairs with their places -/
def ItE (K : PySem.W.Frag) (a : Addr) : It :=
  ⟨fun i H => ∃ (xs : List V) (x : V), SqT K H a xs ∧ xs[i]? = some x, fun i H v H' => ∃ T x, v = .ref T ∧ H T = none ∧ H' = upd H T (.tup [.int (i : Nat), x]) ∧ ∀ xs, SqT K H a xs → xs[i]? = some x, fun i H => ∃ xs : List V, SqT K H a xs ∧ xs.length = i⟩
theorem turn_enumT {P : Program} {w : World} {K : PySem.W.Frag} {elts : List Expr} {kk : Nat} {tpos : Pos} (a e it : Addr) :
    Turn P w K (.Tuple elts kk tpos) (ItE K a) [e, it] e (fun i h => (∃ old, IsEnum h e it ((i : Nat) : Int) old) ∧ h.IsTupleIter it a i ∧ e ≠ it) where
  mem := by simp
  obj := by
    intro i h st b hb
    obtain ⟨⟨old, he⟩, ⟨o, ho, hc, hd⟩, _⟩ := st
    rcases (show b = e ∨ b = it by simpa using hb) with z | z
    · subst z; exact ⟨_, he, fun v q => nomatch q⟩
    · subst z; exact ⟨o, ho, fun v q => by rw [hd] at q; cases q⟩
  keep := fun i h h' st k => ⟨⟨st.1.choose, k e (by simp) _ st.1.choose_spec⟩, st.2.1.at fun o q => k it (by simp) o q, st.2.2⟩
  item := by
    intro X hP hw hK hc i pins s σ H E I hf st hg
    subst hP hw hK
    obtain ⟨⟨old, he⟩, hit, hne⟩ := st
    obtain ⟨xs, x, hq, hx⟩ := hg
    obtain ⟨its, rv, tp, _⟩ := I.tuple hq
    obtain ⟨u, hu, ru⟩ := rv.get hx
    have ht : s.heap.IsTuple a its.toArray := tp
    have el : e < s.heap.objs.size := Heap.lt_size he
    have il : it < s.heap.objs.size := by obtain ⟨_, q, _⟩ := hit; exact Heap.lt_size q
    have ha : a ≠ it := by
      rintro rfl
      obtain ⟨o1, e1, c1, _⟩ := hit
      obtain ⟨o2, e2, c2, _⟩ := ht
      rw [e1] at e2; cases e2
      rw [c1] at c2; exact absurd (Value.type.inj c2) (by decide)
    have hae : e ≠ a := by
      rintro rfl
      obtain ⟨o2, e2, c2, _⟩ := ht
      have q := Option.some.inj (he.symm.trans e2)
      rw [← q] at c2
      exact absurd (Value.type.inj c2) (by decide)
    have hi : i < its.toArray.size := by
      have := (List.getElem?_eq_some_iff.mp hu).1
      simpa using this
    refine wpAny_pyNext_enum_itemC (Draws.tuple (show X.A.in1.handled = none from I.ok.hd hc) it a ha its.toArray) he ⟨hit, ht⟩ hi hne (by simp [hne, hae]) fun y h' tk hy ho st' hT hsz hk => ?_
    have ey : y = u := by
      have h1 : its.toArray[i]? = some y := hy
      have h2 : its.toArray[i]? = some u := by simpa using hu
      exact Option.some.inj (h1.symm.trans h2)
    subst ey
    refine ⟨_, rfl, wpAny_letOwnedTupleGo_enum (s := { s with heap := h', toks := tk + 1 }) ho fun h'' he' sb => ?_⟩
    have hT2 : h''.get? s.heap.objs.size = some { cls := .type "tuple", data := .seq #[.int i tk, y] } := (sb.2 _ (Nat.ne_of_gt el)).trans hT
    have new : ObjOk X.prog X.w (upd H s.heap.objs.size (.tup [.int (i : Nat), x])) h'' s.heap.objs.size (.tup [.int (i : Nat), x]) :=
      ⟨show 2 ≤ sizeLine by decide, [.int i tk, y], .cons ⟨_, rfl⟩ (.cons ru .nil), ⟨_, hT2, rfl, _, rfl⟩⟩
    have I1 : Inv X pins σ (upd H s.heap.objs.size (.tup [.int (i : Nat), x])) { s with heap := h'', toks := tk + 1 } :=
      I.turnedNew (ch := [e, it]) (fun b ob hb q => (sb.2 b fun z => hb (by simp [z])).trans (hk b ob (fun z => hb (by simp [z])) (fun z => hb (by simp [z])) q)) hf (Nat.le_refl _) new
    refine ⟨.ref s.heap.objs.size, _, I1, rfl, ⟨_, x, rfl, I.hok.fresh (Nat.le_refl _), rfl, fun ys hy => by rw [I.tuple_inj hy hq]; exact hx⟩, ⟨⟨y, ?_⟩, st'.1.at fun o q => (sb.2 it (Ne.symm hne)).trans q, hne⟩, fun b hb => ?_⟩
    · rw [show ((i + 1 : Nat) : Int) = (i : Int) + 1 by omega]
      exact he'
    · have lt : b < s.heap.objs.size := by
        rcases (show b = e ∨ b = it by simpa using hb) with z | z
        · rw [z]; exact el
        · rw [z]; exact il
      rw [upd_ne (Nat.ne_of_lt lt)]
      exact (hf b hb).1
  done := by
    intro X hP hw hK hc i pins s σ H E I hf st hg
    subst hP hw hK
    obtain ⟨⟨old, he⟩, hit, hne⟩ := st
    obtain ⟨xs, hq, hx⟩ := hg
    obtain ⟨its, rv, tp, _⟩ := I.tuple hq
    have ht : s.heap.IsTuple a its.toArray := tp
    obtain ⟨f0, f1, f2, f3, f4, f5⟩ := hf it (by simp)
    have hl := rv.length
    have ha : a ≠ it := by
      rintro rfl
      obtain ⟨o1, e1, c1, _⟩ := hit
      obtain ⟨o2, e2, c2, _⟩ := ht
      rw [e1] at e2; cases e2
      rw [c1] at c2; exact absurd (Value.type.inj c2) (by decide)
    have hi : i = its.toArray.size := by rw [List.size_toArray]; omega
    exact wpAny_pyNext_enum_endD (Draws.tuple (show X.A.in1.handled = none from I.ok.hd hc) it a ha its.toArray) he (show s.heap.IsTupleIter it a its.toArray.size ∧ s.heap.IsTuple a its.toArray by rw [← hi]; exact ⟨hit, ht⟩) fun h' eb => ⟨rfl, I.turned (t' := s.toks) (fun b o hb q => eb b o hb q) f0 f1 f3 f4 f5⟩
  self := fun A i s Q E st h => wpAny_pyIter_enum st.1.choose_spec h
end Gg

end
section
/-! GLoop: targets; what a loop walks. -/
namespace Gg
open PySem L2

/-! ### targets -/
/-- stored at slots within L -/
def tG (K : PySem.W.Frag) (L : List Nat) (t : TM) : TG := fun v σ H Q => ∃ W lv e μ e' μ', Rel K W H μ ∧ EnvOk K W H σ e ∧ RL K W H v lv ∧ t lv e μ = some (e', μ') ∧
  ∀ W' H' σ', Ext W H μ W' H' μ' → Rel K W' H' μ' → EnvOk K W' H' σ' e' → (σ'.length = σ.length ∧ ∀ i : Nat, i ∉ L → σ'[i]? = σ[i]?) → Q σ' H'
def tGs (K : PySem.W.Frag) (L : List Nat) (ts : List TM) : TGs := fun vs σ H Q => ∃ W ls e μ e' μ', Rel K W H μ ∧ EnvOk K W H σ e ∧ RLs K W H vs ls ∧ toAll ts ls e μ = some (e', μ') ∧
  ∀ W' H' σ', Ext W H μ W' H' μ' → Rel K W' H' μ' → EnvOk K W' H' σ' e' → (σ'.length = σ.length ∧ ∀ i : Nat, i ∉ L → σ'[i]? = σ[i]?) → Q σ' H'
abbrev SG (X : Cx) (a : Expr) (L : List Nat) (t : TM) : Prop := PG X a (tG X.K L t)
abbrev SGs (X : Cx) (as : List Expr) (L : List Nat) (ts : List TM) : Prop := PGs X as (tGs X.K L ts)
theorem _root_.L2.PG.imp {X : Cx} {a : Expr} {t t' : TG} (h : PG X a t) (w : ∀ v σ H Q, t' v σ H Q → t v σ H Q) : PG X a t' := ⟨fun pins s σ H v u Q I r q => h.run pins s σ H v u Q I r (w v σ H Q q)⟩
theorem _root_.L2.PGs.imp {X : Cx} {a : List Expr} {t t' : TGs} (h : PGs X a t) (w : ∀ v σ H Q, t' v σ H Q → t v σ H Q) : PGs X a t' := ⟨fun pins s σ H v u Q I r q => h.run pins s σ H v u Q I r (w v σ H Q q)⟩
section
variable {K : PySem.W.Frag} {W : Wd} {H : Hp} {σ : List (Option V)} {e : Env}
theorem EnvOk.set {v : V} {lv : LV} (h : EnvOk K W H σ e) (r : RL K W H v lv) (i : Nat) : EnvOk K W H (σ.set i (some v)) (e.set i (some lv)) := by
  refine ⟨by rw [List.length_set, List.length_set]; exact h.1, fun j lw hj => ?_⟩
  by_cases c : i = j
  · subst c
    by_cases hl : i < e.length
    · rw [List.getElem?_set_self hl] at hj
      cases hj
      exact ⟨v, by rw [List.getElem?_set_self (by rw [h.1]; exact hl)], r⟩
    · rw [List.getElem?_eq_none (by rw [List.length_set]; omega)] at hj
      cases hj
  · rw [List.getElem?_set_ne c] at hj ⊢
    exact h.2 j lw hj
theorem rls_all {vs : List V} {xs : List PyData} (h : RPs K W.F H vs xs) : RLs K W H vs (xs.map .d) := RPs.rls h
end
section
variable {X : Cx} {a b o : Expr} {fo fi fa : EM} {pos : Pos} {i : Nat} {x : Str} {L L' : List Nat}
theorem sg_name (hN : X.N.Nodup) (hi : X.N[i]? = some x) (hx : Loc X.env.scope x) (hf : X.fn x = true ∨ X.env.scope.names.lookup x = some .local) : SG X (.Name x pos) [i] (tName i) := by
  refine (pg_name hN hi hx hf).imp fun v σ H Q ⟨W, lv, e, μ, e', μ', R, E, rv, ht, q⟩ => ?_
  cases ht
  refine q W H _ .refl R (E.set rv i) ⟨List.length_set, fun j hj => ?_⟩
  rw [List.getElem?_set_ne (fun z => hj (by rw [z]; exact List.mem_singleton.mpr rfl))]
theorem asg_cons {env : PySem.Env} {es : List Expr} (h : notStar a = true) : assignEach (a :: es) env = (false, assign a env) :: assignEach es env := by
  cases a <;> first | rfl | cases h
theorem asg_all {env : PySem.Env} : ∀ {es : List Expr}, es.all notStar = true → (assignEach es env).length = es.length ∧ (assignEach es env).findIdx? (·.1) = none
  | [], _ => ⟨rfl, rfl⟩
  | a :: es, h => by
    rw [List.all_cons, Bool.and_eq_true] at h
    obtain ⟨h1, h2⟩ := asg_all (env := env) h.2
    rw [asg_cons h.1]
    exact ⟨by rw [List.length_cons, List.length_cons, h1], by simp [List.findIdx?_cons, h2]⟩
theorem sgs_nil : SGs X [] [] [] := by
  refine pgs_nil.imp fun v σ H Q ⟨W, ls, e, μ, e', μ', R, E, rv, ht, q⟩ => ?_
  cases rv with
  | nil =>
    cases ht
    exact ⟨rfl, q W H σ .refl R E ⟨rfl, fun _ _ => rfl⟩⟩
  | cons a t => cases ht
theorem sgs_cons {as : List Expr} {t : TM} {ts : List TM} (hn : notStar a = true) (h1 : SG X a L t) (h2 : SGs X as L' ts) : SGs X (a :: as) (L ++ L') (t :: ts) := by
  refine (pgs_cons h1 h2 (by rw [asg_cons hn]; rfl)).imp fun v σ H Q ⟨W, ls, e, μ, e', μ', R, E, rv, ht, q⟩ => ?_
  cases rv with
  | nil => cases ht
  | @cons v0 vs lv ls r0 rs =>
    simp only [toAll] at ht
    split at ht
    · rename_i e1 m1 h1'
      refine ⟨v0, vs, rfl, W, lv, e, μ, e1, m1, R, E, r0, h1', fun W1 H1 σ1 E1 R1 ok1 ag1 => ?_⟩
      refine ⟨W1, ls, e1, m1, e', μ', R1, ok1, RLs.mono E1 R rs, ht, fun W2 H2 σ2 E2 R2 ok2 ag2 => ?_⟩
      refine q W2 H2 σ2 (E1.trans E2) R2 ok2 ⟨ag2.1.trans ag1.1, fun j hj => ?_⟩
      rw [ag2.2 j fun z => hj (List.mem_append_right _ z), ag1.2 j fun z => hj (List.mem_append_left _ z)]
    · cases ht
theorem toAll_len {ts : List TM} : ∀ {ls : List LV} {e e' : Env} {m m' : Sto}, toAll ts ls e m = some (e', m') → ls.length = ts.length := by
  induction ts with
  | nil => intro ls e e' m m' h; cases ls with | nil => rfl | cons _ _ => cases h
  | cons t ts ih =>
    intro ls e e' m m' h
    cases ls with
    | nil => cases h
    | cons l ls =>
      simp only [toAll] at h
      split at h
      · rw [List.length_cons, List.length_cons, ih h]
      · cases h
theorem sg_tup {as : List Expr} {ts : List TM} (hl : as.length = ts.length) (hn : as.all notStar = true) {k : Nat} (hc : X.calm = true) (h : SGs X as L ts) : SG X (.Tuple as k pos) L (tTup ts) := by
  have g1 := pg_tup (n := ts.length) (k := k) (pos := pos) hc h (by rw [(asg_all hn).1, hl]) (asg_all hn).2
  have g2 := pg_unl (n := ts.length) (k := k) (pos := pos) hc h (by rw [(asg_all hn).1, hl]) (asg_all hn).2
  refine ⟨fun pins s σ H v u Q I r q0 => ?_⟩
  obtain ⟨W, lv, e, μ, e', μ', R, E, rv, ht, q⟩ := q0
  unfold tTup at ht
  split at ht
  · rename_i xs
    cases rv with
    | tup h1 h2 =>
      have hlen := toAll_len ht
      rw [List.length_map] at hlen
      exact g1.run pins s σ H _ _ Q I r ⟨_, _, rfl, h1, by rw [h2.length]; exact hlen, W, _, e, μ, e', μ', R, E, h2.rls, ht, q⟩
  · rename_i xs
    cases rv with
    | lst h0 h1 h2 =>
      have hlen := toAll_len ht
      rw [List.length_map] at hlen
      exact g2.run pins s σ H _ _ Q I r ⟨_, _, rfl, .of h1, by rw [h2.length]; exact hlen, W, _, e, μ, e', μ', R, E, h2.rls, ht, q⟩
  · split at ht
    · rename_i j xs hx
      obtain ⟨ad, hk, rfl⟩ := rv
      obtain ⟨vs, h1, h2⟩ := R.cell _ ad _ hk hx
      have hlen := toAll_len ht
      exact g2.run pins s σ H _ _ Q I r ⟨ad, vs, rfl, .of h1, by rw [h2.length]; exact hlen, W, _, e, μ, e', μ', R, E, h2, ht, q⟩
    · cases ht
  · rename_i pre j
    obtain ⟨a, us, b, rfl, h1, h2, h3⟩ := rv
    have hlen := toAll_len ht
    have hls : RLs X.K W H (us ++ [V.ref b]) (pre.map LV.d ++ [LV.ref j]) := by
      have : ∀ {us : List V} {pre : List PyData}, RPs X.K W.F H us pre → RLs X.K W H (us ++ [V.ref b]) (pre.map LV.d ++ [LV.ref j]) := by
        intro us pre hp
        induction us generalizing pre with
        | nil => cases hp; exact .cons ⟨b, h3, rfl⟩ .nil
        | cons v us ih => cases hp with | cons a t => exact .cons a (ih t)
      exact this h2
    exact g1.run pins s σ H _ _ Q I r ⟨a, _, rfl, h1, by rw [hls.length]; exact hlen, W, _, e, μ, e', μ', R, E, hls, ht, q⟩
  · cases ht
/-- o[i] = v -/
theorem sg_sub (hn : notSl b = true) (ho : SE X o fo) (hi : SE X b fi) : SG X (.Subscript o b pos) [] (tSub fo fi) := by
  refine (pg_sub ho hi set_list (by intro _; cases b <;> first | rfl | cases hn)).imp fun v σ H Q ⟨W, lv, e, μ, e', μ', R, E, rv, ht, q⟩ => ?_
  unfold tSub at ht
  split at ht
  · rename_i u m1 h1
    split at ht
    · rename_i w m2 h2
      cases hz : setItem m2 u w lv with
      | none => rw [hz] at ht; cases ht
      | some m3 =>
        rw [hz] at ht; cases ht
        refine ⟨W, e, μ, u, m1, R, E, h1, fun W1 H1 y E1 R1 ry => ⟨W1, e, m1, w, m2, R1, E.mono E1 R, h2, fun W2 H2 z E2 R2 rz => ?_⟩⟩
        unfold setItem at hz
        split at hz
        · rename_i k j
          split at hz
          · rename_i xs hx
            cases hp : ixPos xs.length j with
            | none => rw [hp] at hz; cases hz
            | some p =>
              rw [hp] at hz; cases hz
              obtain ⟨ad, hk, rfl⟩ := ry.mono E2 R1
              obtain ⟨vs, hv, hl⟩ := R2.cell k ad xs hk hx
              cases rz
              have rv2 := (rv.mono E1 R).mono E2 R1
              refine ⟨ad, vs, j, p, rfl, rfl, hv, by rw [hl.length]; exact hp, ?_⟩
              have E3 := ext_set R2 (vs' := vs.set p v) (xs' := xs.set p lv) hk hx
              have R3 := R2.setCell hk hx (RLs.set p hl rv2)
              exact q _ _ _ ((E1.trans E2).trans E3) R3 (((E.mono E1 R).mono E2 R1).mono E3 R2) ⟨rfl, fun _ _ => rfl⟩
          · cases hz
        · cases hz
    · cases ht
  · cases ht
/-! ### what a loop walks -/
structure Walks (K : PySem.W.Frag) (W0 : Wd) (H0 : Hp) (μ0 : Sto) (J : It) (xs : List LV) : Prop where
  go : ∀ i W H μ, Ext W0 H0 μ0 W H μ → Rel K W H μ → i < xs.length → J.go i H
  yl : ∀ (i : Nat) W H μ v H' x, Ext W0 H0 μ0 W H μ → Rel K W H μ → xs[i]? = some x → J.yld i H v H' → ∃ W', Ext W H μ W' H' μ ∧ Rel K W' H' μ ∧ RL K W' H' v x
  st : ∀ W H μ, Ext W0 H0 μ0 W H μ → Rel K W H μ → J.stop xs.length H
def WalkOf (K : PySem.W.Frag) (W : Wd) (H : Hp) (μ : Sto) (J : It) : Itm → Prop
  | .items xs => Walks K W H μ J xs
  | .cell k => ∃ a, W.m[k]? = some a ∧ J = Itl K a
def tI (K : PySem.W.Frag) (f : IM) : TI := fun σ H R => ∃ W e μ i μ', Rel K W H μ ∧ EnvOk K W H σ e ∧ f e μ = some (i, μ') ∧ ∀ W' H' J, Ext W H μ W' H' μ' → Rel K W' H' μ' → WalkOf K W' H' μ' J i → R J H'
abbrev SI (X : Cx) (tg a : Expr) (f : IM) : Prop := PI X tg a (tI X.K f)
theorem _root_.L2.PI.imp {X : Cx} {tg a : Expr} {t t' : TI} (h : PI X tg a t) (w : ∀ σ H R, t' σ H R → t σ H R) : PI X tg a t' := ⟨fun pins s σ H R I q => h.run pins s σ H R I (w σ H R q)⟩
/-- a list or a tuple -/
theorem pi_both {tg l : Expr} {tl : TE} (hl : PE X l tl) : PI X tg l (fun σ H R => tl σ H fun x H1 => (∃ a xs, x = .ref a ∧ SqL X.K H1 a xs ∧ R (Itl X.K a) H1) ∨ ∃ a xs, x = .ref a ∧ SqT X.K H1 a xs ∧ R (Itt X.K a) H1) := by
  refine ⟨fun pins s σ H R I h => thn (hl.run pins s σ H _ I h) fun v s1 ⟨x, H1, I1, r1, q1⟩ => ?_⟩
  have fresh : ∀ b ∈ [s1.heap.objs.size], FpOk X pins H1 b := fun b hb => by
    obtain rfl : b = s1.heap.objs.size := by simpa using hb
    exact I1.fpOk (Nat.le_refl _) (I1.hok.fresh (Nat.le_refl _))
  rcases q1 with ⟨a, xs, rfl, hq, q⟩ | ⟨a, xs, rfl, hq, q⟩
  · cases r1
    obtain ⟨its, _, pl, _⟩ := I1.list hq
    exact wpAny_pyIter_list pl.isList ⟨_, [s1.heap.objs.size], _, _, H1, rfl, I1.kept (t' := s1.toks) fun b o z => Heap.get?_push_of_some _ z, turn_list a _, ⟨_, Heap.get?_push_size _ rfl, rfl, rfl⟩, fresh, q⟩
  · cases r1
    obtain ⟨its, _, pl, _⟩ := I1.tuple hq
    exact wpAny_pyIter_tuple (show s1.heap.IsTuple a its.toArray from pl) ⟨_, [s1.heap.objs.size], _, _, H1, rfl, I1.kept (t' := s1.toks) fun b o z => Heap.get?_push_of_some _ z, turn_tuple a _, ⟨_, Heap.get?_push_size _ rfl, rfl, rfl⟩, fresh, q⟩
theorem walks_list {K : PySem.W.Frag} {W0 : Wd} {H0 : Hp} {μ0 : Sto} {a : Addr} {vs : List V} {xs : List PyData} (R0 : Rel K W0 H0 μ0) (hF : W0.F a) (h : H0 a = some (HO.lst vs)) (r : RPs K W0.F H0 vs xs) : Walks K W0 H0 μ0 (Itl K a) (xs.map .d) := by
  have at_ : ∀ {W H μ}, Ext W0 H0 μ0 W H μ → H a = some (HO.lst vs) := fun E => (E.kp R0).l a vs hF h
  refine ⟨fun i W H μ E R hi => ?_, fun i W H μ v H' x E R hx hy => ?_, fun W H μ E R => ⟨vs, .of (at_ E), ?_⟩⟩
  · rw [List.length_map, ← r.length] at hi
    exact ⟨vs, vs[i], .of (at_ E), List.getElem?_eq_getElem hi⟩
  · obtain ⟨rfl, hy⟩ := hy
    rw [List.getElem?_map] at hx
    cases q : xs[i]? with
    | none => rw [q] at hx; cases hx
    | some y =>
      rw [q] at hx; cases hx
      obtain ⟨v', h1, h2⟩ := r.get q
      have h3 := hy vs (.of (at_ E))
      rw [h1] at h3; cases h3
      exact ⟨W, .refl, R, RP.mono (E.kp R0) h2⟩
  · rw [List.length_map, r.length]; exact Nat.le_refl _
theorem walks_ro {K : PySem.W.Frag} {W0 : Wd} {H0 : Hp} {μ0 : Sto} {a : Addr} {vs : List V} {xs : List PyData} (R0 : Rel K W0 H0 μ0) (h : RoL K H0 a vs) (r : RPs K W0.F H0 vs xs) : Walks K W0 H0 μ0 (Itl K a) (xs.map .d) := by
  have at_ : ∀ {W H μ}, Ext W0 H0 μ0 W H μ → RoL K H a vs := fun E => (E.kp R0).roL h
  refine ⟨fun i W H μ E R hi => ?_, fun i W H μ v H' x E R hx hy => ?_, fun W H μ E R => ⟨vs, (at_ E).sq, ?_⟩⟩
  · rw [List.length_map, ← r.length] at hi
    exact ⟨vs, vs[i], (at_ E).sq, List.getElem?_eq_getElem hi⟩
  · obtain ⟨rfl, hy⟩ := hy
    rw [List.getElem?_map] at hx
    cases q : xs[i]? with
    | none => rw [q] at hx; cases hx
    | some y =>
      rw [q] at hx; cases hx
      obtain ⟨v', h1, h2⟩ := r.get q
      have h3 := hy vs (at_ E).sq
      rw [h1] at h3; cases h3
      exact ⟨W, .refl, R, RP.mono (E.kp R0) h2⟩
  · rw [List.length_map, r.length]; exact Nat.le_refl _
theorem walks_tup {K : PySem.W.Frag} {W0 : Wd} {H0 : Hp} {μ0 : Sto} {a : Addr} {vs : List V} {xs : List PyData} (R0 : Rel K W0 H0 μ0) (h : SqT K H0 a vs) (r : RPs K W0.F H0 vs xs) : Walks K W0 H0 μ0 (Itt K a) (xs.map .d) := by
  have at_ : ∀ {W H μ}, Ext W0 H0 μ0 W H μ → SqT K H a vs := fun E => (E.kp R0).sqT h
  refine ⟨fun i W H μ E R hi => ?_, fun i W H μ v H' x E R hx hy => ?_, fun W H μ E R => ⟨vs, at_ E, ?_⟩⟩
  · rw [List.length_map, ← r.length] at hi
    exact ⟨vs, vs[i], at_ E, List.getElem?_eq_getElem hi⟩
  · obtain ⟨rfl, hy⟩ := hy
    rw [List.getElem?_map] at hx
    cases q : xs[i]? with
    | none => rw [q] at hx; cases hx
    | some y =>
      rw [q] at hx; cases hx
      obtain ⟨v', h1, h2⟩ := r.get q
      have h3 := hy vs (at_ E)
      rw [h1] at h3; cases h3
      exact ⟨W, .refl, R, RP.mono (E.kp R0) h2⟩
  · rw [List.length_map, r.length]; exact Nat.le_refl _
theorem si_seq {tg : Expr} (h : SE X a fa) : SI X tg a (iSeq fa) := by
  refine (pi_both h).imp fun σ H Rr ⟨W, e, μ, i, μ', R, E, hf, q⟩ => ?_
  unfold iSeq at hf
  split at hf
  · rename_i xs m1 h1
    cases hf
    refine ⟨W, e, μ, _, _, R, E, h1, fun W1 H1 x E1 R1 rx => ?_⟩
    cases rx with
    | lst g1 g2 g3 => exact .inl ⟨_, _, rfl, .of g2, q W1 H1 _ E1 R1 (walks_list R1 g1 g2 g3)⟩
  · rename_i xs m1 h1
    cases hf
    refine ⟨W, e, μ, _, _, R, E, h1, fun W1 H1 x E1 R1 rx => ?_⟩
    cases rx with
    | tup g2 g3 => exact .inr ⟨_, _, rfl, g2, q W1 H1 _ E1 R1 (walks_tup R1 g2 g3)⟩
  · rename_i k m1 h1
    split at hf
    · rename_i ys hy
      cases hf
      refine ⟨W, e, μ, _, _, R, E, h1, fun W1 H1 x E1 R1 rx => ?_⟩
      obtain ⟨ad, hk, rfl⟩ := rx
      obtain ⟨vs, h2, _⟩ := R1.cell _ ad ys hk hy
      exact .inl ⟨ad, vs, rfl, .of h2, q W1 H1 _ E1 R1 ⟨ad, hk, rfl⟩⟩
    · cases hf
  · rename_i xs m1 h1
    cases hf
    refine ⟨W, e, μ, _, _, R, E, h1, fun W1 H1 x E1 R1 rx => ?_⟩
    obtain ⟨ad, vs, rfl, h2, h3⟩ := rx
    exact .inl ⟨ad, vs, rfl, h2.sq, q W1 H1 _ E1 R1 (walks_ro R1 h2 h3)⟩
  · cases hf
/-! ### range -/
theorem walks_rng {K : PySem.W.Frag} {W0 : Wd} {H0 : Hp} {μ0 : Sto} (lo : Int) (n : Nat) : Walks K W0 H0 μ0 (Itr lo n) (upTo lo n) := by
  have len : (upTo lo n).length = n := by unfold upTo; rw [List.length_map, List.length_range]
  refine ⟨fun i W H μ E R hi => by rw [len] at hi; exact hi, fun i W H μ v H' x E R hx hy => ?_, fun W H μ E R => by rw [len]; exact Nat.le_refl _⟩
  obtain ⟨rfl, rfl⟩ := hy
  refine ⟨W, .refl, R, ?_⟩
  unfold upTo at hx
  rw [List.getElem?_map] at hx
  by_cases hi : i < n
  · rw [List.getElem?_range hi] at hx
    cases hx
    exact .int _
  · rw [List.getElem?_eq_none (by rw [List.length_range]; omega)] at hx
    cases hx
theorem walks_down {K : PySem.W.Frag} {W0 : Wd} {H0 : Hp} {μ0 : Sto} (lo : Int) (n : Nat) : Walks K W0 H0 μ0 (Itc lo (-1) n) (downFrom lo n) := by
  have len : (downFrom lo n).length = n := by unfold downFrom; rw [List.length_map, List.length_range]
  refine ⟨fun i W H μ E R hi => by rw [len] at hi; exact hi, fun i W H μ v H' x E R hx hy => ?_, fun W H μ E R => by rw [len]; exact Nat.le_refl _⟩
  obtain ⟨rfl, rfl⟩ := hy
  refine ⟨W, .refl, R, ?_⟩
  unfold downFrom at hx
  rw [List.getElem?_map] at hx
  by_cases hi : i < n
  · rw [List.getElem?_range hi] at hx
    cases hx
    exact .int _
  · rw [List.getElem?_eq_none (by rw [List.length_range]; omega)] at hx
    cases hx
theorem star1 {env : PySem.Env} (h : notStar a = true) : starEach [a] env = [(false, eval a env)] := star_cons h
theorem star2 {env : PySem.Env} (h : notStar a = true) (h' : notStar b = true) : starEach [a, b] env = [(false, eval a env), (false, eval b env)] := by rw [star_cons h, star_cons h']; rfl
theorem si_range1 {tg : Expr} {p : Pos} (hg : Gl X "range") (hm : X.mg "range" = none) (hn : notStar a = true) (h : SA X [a] [fa]) : SI X tg (.Call (.Name "range" p) [a] [] pos) (iRange [fa]) := by
  refine (pi_range1 hg hm h (star1 hn)).imp fun σ H Rr ⟨W, e, μ, i, μ', R, E, hf, q⟩ => ?_
  unfold iRange at hf
  split at hf
  · rename_i j m1 h1
    split at hf
    · rename_i hj
      cases hf
      refine ⟨W, e, μ, _, _, R, E, h1, fun W1 H1 vs E1 R1 rs => ?_⟩
      have := rng_ok hj
      cases rs with
      | cons r t =>
        cases t; cases r
        exact ⟨j, rfl, by omega, by omega, q W1 H1 _ E1 R1 (walks_rng 0 _)⟩
    · cases hf
  · rename_i i j m1 h1
    exact absurd (evalL_len h1) (by simp)
  · rename_i i j m1 h1
    exact absurd (evalL_len h1) (by simp)
  · cases hf
theorem si_range2 {tg : Expr} {p : Pos} {fb : EM} (hg : Gl X "range") (hm : X.mg "range" = none) (hn : notStar a = true) (hn' : notStar b = true) (h : SA X [a, b] [fa, fb]) : SI X tg (.Call (.Name "range" p) [a, b] [] pos) (iRange [fa, fb]) := by
  refine (pi_range2 hg hm h (star2 hn hn') (star1 hn')).imp fun σ H Rr ⟨W, e, μ, i, μ', R, E, hf, q⟩ => ?_
  unfold iRange at hf
  split at hf
  · rename_i j m1 h1
    exact absurd (evalL_len h1) (by simp)
  · rename_i i j m1 h1
    split at hf
    · rename_i hj
      rw [Bool.and_eq_true] at hj
      cases hf
      refine ⟨W, e, μ, _, _, R, E, h1, fun W1 H1 vs E1 R1 rs => ?_⟩
      have := rng_ok hj.1
      have := rng_ok hj.2
      cases rs with
      | cons r t =>
        cases t with
        | cons r2 t => cases t; cases r; cases r2; exact ⟨i, j, rfl, ⟨by omega, by omega, by omega, by omega⟩, q W1 H1 _ E1 R1 (walks_rng i _)⟩
    · cases hf
  · rename_i i j m1 h1
    exact absurd (evalL_len h1) (by simp)
  · cases hf
end
end Gg

end
section
/-! GLoop2: range with the step -1, enumerate, zip. -/
namespace Gg
open PySem L2 RZ

section
variable {X : Cx} {a b c o : Expr} {fa fb fc : EM} {pos p : Pos}
theorem si_range3 {tg : Expr} (hg : Gl X "range") (hm : X.mg "range" = none) (hn : [a, b, c].all notStar = true) (h : SA X [a, b, c] [fa, fb, fc]) : SI X tg (.Call (.Name "range" p) [a, b, c] [] pos) (iRange [fa, fb, fc]) := by
  rw [List.all_cons, Bool.and_eq_true] at hn
  refine (pi_range3 hg hm h (star_cons hn.1) (star_none hn.2)).imp fun σ H Rr ⟨W, e, μ, i, μ', R, E, hf, q⟩ => ?_
  unfold iRange at hf
  split at hf
  · rename_i j m1 h1
    exact absurd (evalL_len h1) (by simp)
  · rename_i i j m1 h1
    exact absurd (evalL_len h1) (by simp)
  · rename_i i j m1 h1
    split at hf
    · rename_i hj
      rw [Bool.and_eq_true] at hj
      cases hf
      refine ⟨W, e, μ, _, _, R, E, h1, fun W1 H1 vs E1 R1 rs => ?_⟩
      have := rng_ok hj.1
      have := rng_ok hj.2
      cases rs with
      | cons r t =>
        cases t with
        | cons r2 t =>
          cases t with
          | cons r3 t =>
            cases t; cases r; cases r2; cases r3
            exact ⟨i, j, -1, _, rfl, RgC.neg (by omega) (by omega) (by omega) (by omega), q W1 H1 _ E1 R1 (walks_down i _)⟩
    · cases hf
  · cases hf
/-! ### enumerate -/
theorem walks_enumT {K : PySem.W.Frag} {W0 : Wd} {H0 : Hp} {μ0 : Sto} {a : Addr} {vs : List V} {xs : List PyData} (R0 : Rel K W0 H0 μ0) (h : SqT K H0 a vs) (r : RPs K W0.F H0 vs xs) : Walks K W0 H0 μ0 (ItE K a) (enumFrom 0 xs) := by
  have at_ : ∀ {W H μ}, Ext W0 H0 μ0 W H μ → SqT K H a vs := fun E => (E.kp R0).sqT h
  have len : ∀ (ys : List PyData) (k : Nat), (enumFrom k ys).length = ys.length := by
    intro ys
    induction ys with
    | nil => intro k; rfl
    | cons y ys ih => intro k; simp only [enumFrom, List.length_cons, ih]
  have get : ∀ (ys : List PyData) (k i : Nat), (enumFrom k ys)[i]? = ys[i]?.map fun y => pairD (k + i) y := by
    intro ys
    induction ys with
    | nil => intro k i; simp [enumFrom]
    | cons y ys ih =>
      intro k i
      cases i with
      | zero => simp [enumFrom]
      | succ i => simp only [enumFrom, List.getElem?_cons_succ, ih]; congr 1; funext z; congr 1; omega
  refine ⟨fun i W H μ E R hi => ?_, fun i W H μ v H' x E R hx hy => ?_, fun W H μ E R => ⟨vs, at_ E, by rw [len]; exact r.length⟩⟩
  · rw [len, ← r.length] at hi
    exact ⟨vs, vs[i], at_ E, List.getElem?_eq_getElem hi⟩
  · obtain ⟨T, x', rfl, hT, rfl, hy⟩ := hy
    rw [get] at hx
    cases q : xs[i]? with
    | none => rw [q] at hx; cases hx
    | some y =>
      rw [q] at hx; cases hx
      obtain ⟨v', h1, h2⟩ := r.get q
      have h3 := hy vs (at_ E)
      rw [h1] at h3; cases h3
      have E2 : Ext W H μ W (upd H T (.tup [.int (i : Nat), x'])) μ := ext_new _ hT
      refine ⟨W, E2, R.new _ hT, .tup (.of upd_same) (.cons ?_ (.cons (RP.mono (E2.kp R) (RP.mono (E.kp R0) h2)) .nil))⟩
      rw [Nat.zero_add]
      exact .int _
theorem walks_enumL {K : PySem.W.Frag} {W0 : Wd} {H0 : Hp} {μ0 : Sto} {a : Addr} {vs : List V} {xs : List PyData} (R0 : Rel K W0 H0 μ0) (hF : W0.F a) (h : H0 a = some (HO.lst vs)) (r : RPs K W0.F H0 vs xs) : Walks K W0 H0 μ0 (Ite K a) (enumFrom 0 xs) := by
  have at_ : ∀ {W H μ}, Ext W0 H0 μ0 W H μ → SqL K H a vs := fun E => .of ((E.kp R0).l a vs hF h)
  have len : ∀ (ys : List PyData) (k : Nat), (enumFrom k ys).length = ys.length := by
    intro ys
    induction ys with
    | nil => intro k; rfl
    | cons y ys ih => intro k; simp only [enumFrom, List.length_cons, ih]
  have get : ∀ (ys : List PyData) (k i : Nat), (enumFrom k ys)[i]? = ys[i]?.map fun y => pairD (k + i) y := by
    intro ys
    induction ys with
    | nil => intro k i; simp [enumFrom]
    | cons y ys ih =>
      intro k i
      cases i with
      | zero => simp [enumFrom]
      | succ i => simp only [enumFrom, List.getElem?_cons_succ, ih]; congr 1; funext z; congr 1; omega
  refine ⟨fun i W H μ E R hi => ?_, fun i W H μ v H' x E R hx hy => ?_, fun W H μ E R => ⟨vs, at_ E, by rw [len, r.length]; exact Nat.le_refl _⟩⟩
  · rw [len, ← r.length] at hi
    exact ⟨vs, vs[i], at_ E, List.getElem?_eq_getElem hi⟩
  · obtain ⟨T, x', rfl, hT, rfl, hy⟩ := hy
    rw [get] at hx
    cases q : xs[i]? with
    | none => rw [q] at hx; cases hx
    | some y =>
      rw [q] at hx; cases hx
      obtain ⟨v', h1, h2⟩ := r.get q
      have h3 := hy vs (at_ E)
      rw [h1] at h3; cases h3
      have E2 : Ext W H μ W (upd H T (.tup [.int (i : Nat), x'])) μ := ext_new _ hT
      refine ⟨W, E2, R.new _ hT, .tup (.of upd_same) (.cons ?_ (.cons (RP.mono (E2.kp R) (RP.mono (E.kp R0) h2)) .nil))⟩
      rw [Nat.zero_add]
      exact .int _
section
open PyProof.Rows
/-- enumerate(list or tuple) -/
theorem pi_enumB {e : Expr} {te : TE} {tpos : Pos} {elts : List Expr} {kk : Nat} (hg : Gl X "enumerate") (hm : X.mg "enumerate" = none) (hn : notStar e = true) (he : PE X e te) :
    PI X (.Tuple elts kk tpos) (.Call (.Name "enumerate" p) [e] [] pos) (fun σ H R => te σ H fun x H1 => (∃ a xs, x = .ref a ∧ SqL X.K H1 a xs ∧ R (Ite X.K a) H1) ∨ ∃ a xs, x = .ref a ∧ SqT X.K H1 a xs ∧ R (ItE X.K a) H1) := by
  refine ⟨fun pins s σ H R I h => ?_⟩
  refine Call_ (ld_blt I hg hm boot_enumerate (PyProof.Rows.callWith_type1 (thn ((pa_cons he pa_nil (star_cons hn)).run pos pins s σ H (fun vs H1 => ∃ x, vs = [x] ∧ ((∃ a xs, x = .ref a ∧ SqL X.K H1 a xs ∧ R (Ite X.K a) H1) ∨ ∃ a xs, x = .ref a ∧ SqT X.K H1 a xs ∧ R (ItE X.K a) H1)) I ?_) fun us s1 ⟨vs, H1, I1, r1, q1⟩ => ?_) (star_cons hn) rfl))
  · show te σ H fun x H1 => _
    have key : (fun x H1 => (∃ a xs, x = V.ref a ∧ SqL X.K H1 a xs ∧ R (Ite X.K a) H1) ∨ ∃ a xs, x = V.ref a ∧ SqT X.K H1 a xs ∧ R (ItE X.K a) H1) =
        fun (x : V) (H1 : Hp) => ∃ y, [x] = [y] ∧ ((∃ a xs, y = V.ref a ∧ SqL X.K H1 a xs ∧ R (Ite X.K a) H1) ∨ ∃ a xs, y = V.ref a ∧ SqT X.K H1 a xs ∧ R (ItE X.K a) H1) := by
      funext x H1
      apply propext
      constructor
      · intro z; exact ⟨x, rfl, z⟩
      · rintro ⟨y, z, w⟩; cases z; exact w
    rw [key] at h
    exact h
  · obtain ⟨x, rfl, q1⟩ := q1
    cases r1 with
    | cons r rr =>
      cases rr
      have fr2 : ∀ b ∈ [s1.heap.objs.size + 1, s1.heap.objs.size], FpOk X pins H1 b := fun b hb => by
        have e' : b = s1.heap.objs.size + 1 ∨ b = s1.heap.objs.size := by simpa using hb
        have le : s1.heap.objs.size ≤ b := by
          rcases e' with z | z <;> rw [z]
          · exact Nat.le_succ _
          · exact Nat.le_refl _
        exact I1.fpOk le (I1.hok.fresh le)
      rcases q1 with ⟨a, xs, rfl, hq, q⟩ | ⟨a, xs, rfl, hq, q⟩
      · cases r
        obtain ⟨its, _, pl, _⟩ := I1.list hq
        refine call_enumerate_list pl.isList fun h' he' hit _ hk => wpAny_pyIter_enum he' ?_
        exact ⟨s1.heap.objs.size + 1, [s1.heap.objs.size + 1, s1.heap.objs.size], _, _, H1, rfl, I1.kept (t' := s1.toks) hk, turn_enum a (s1.heap.objs.size + 1) s1.heap.objs.size, ⟨⟨.none, he'⟩, hit, Nat.succ_ne_self _⟩, fr2, q⟩
      · cases r
        obtain ⟨its, _, pl, _⟩ := I1.tuple hq
        refine enum1_begins (begins_tuple a its.toArray) (show s1.heap.IsTuple a its.toArray from pl) fun h' he' hit _ hk => wpAny_pyIter_enum he' ?_
        exact ⟨s1.heap.objs.size + 1, [s1.heap.objs.size + 1, s1.heap.objs.size], _, _, H1, rfl, I1.kept (t' := s1.toks) hk, turn_enumT a (s1.heap.objs.size + 1) s1.heap.objs.size, ⟨⟨.none, he'⟩, ⟨_, hit, rfl, rfl⟩, Nat.succ_ne_self _⟩, fr2, q⟩
end
theorem si_enum {elts : List Expr} {kk : Nat} {tpos : Pos} (hg : Gl X "enumerate") (hm : X.mg "enumerate" = none) (hn : notStar a = true) (h : SE X a fa) : SI X (.Tuple elts kk tpos) (.Call (.Name "enumerate" p) [a] [] pos) (iEnum fa) := by
  refine (pi_enumB hg hm hn h).imp fun σ H Rr ⟨W, e, μ, i, μ', R, E, hf, q⟩ => ?_
  unfold iEnum at hf
  split at hf
  · rename_i xs m1 h1
    cases hf
    refine ⟨W, e, μ, _, _, R, E, h1, fun W1 H1 x E1 R1 rx => ?_⟩
    cases rx with
    | lst g1 g2 g3 => exact .inl ⟨_, _, rfl, .of g2, q W1 H1 _ E1 R1 (walks_enumL R1 g1 g2 g3)⟩
  · rename_i xs m1 h1
    cases hf
    refine ⟨W, e, μ, _, _, R, E, h1, fun W1 H1 x E1 R1 rx => ?_⟩
    cases rx with
    | tup g2 g3 => exact .inr ⟨_, _, rfl, g2, q W1 H1 _ E1 R1 (walks_enumT R1 g2 g3)⟩
  · cases hf
/-! ### zip -/
theorem zip_len : ∀ xs ys : List PyData, (zipD xs ys).length = min xs.length ys.length
  | [], ys => by simp [zipD]
  | _ :: _, [] => by simp [zipD]
  | x :: xs, y :: ys => by simp only [zipD, List.length_cons, zip_len xs ys]; omega
theorem zip_get : ∀ (xs ys : List PyData) (i : Nat) (v : LV), (zipD xs ys)[i]? = some v → ∃ x y, xs[i]? = some x ∧ ys[i]? = some y ∧ v = .d (.tuple [x, y])
  | [], ys, i, v, h => by simp [zipD] at h
  | _ :: _, [], i, v, h => by simp [zipD] at h
  | x :: xs, y :: ys, 0, v, h => by simp [zipD] at h; exact ⟨x, y, rfl, rfl, h.symm⟩
  | x :: xs, y :: ys, i + 1, v, h => by
    simp only [zipD, List.getElem?_cons_succ] at h
    obtain ⟨x', y', h1, h2, h3⟩ := zip_get xs ys i v h
    exact ⟨x', y', by simpa using h1, by simpa using h2, h3⟩
theorem walks_zipL {K : PySem.W.Frag} {W0 : Wd} {H0 : Hp} {μ0 : Sto} {a b : Addr} {vs ws : List V} {xs ys : List PyData} (R0 : Rel K W0 H0 μ0) (hF : W0.F a) (h : H0 a = some (HO.lst vs)) (r : RPs K W0.F H0 vs xs) (hF' : W0.F b) (h' : H0 b = some (HO.lst ws)) (r' : RPs K W0.F H0 ws ys) :
    Walks K W0 H0 μ0 (Itz K a b) (zipD xs ys) := by
  have at_ : ∀ {W H μ}, Ext W0 H0 μ0 W H μ → SqL K H a vs := fun E => .of ((E.kp R0).l a vs hF h)
  have at' : ∀ {W H μ}, Ext W0 H0 μ0 W H μ → SqL K H b ws := fun E => .of ((E.kp R0).l b ws hF' h')
  have l1 := r.length
  have l2 := r'.length
  refine ⟨fun i W H μ E R hi => ?_, fun i W H μ v H' x E R hx hy => ?_, fun W H μ E R => ⟨vs, ws, at_ E, at' E, ?_⟩⟩
  · rw [zip_len] at hi
    exact ⟨vs, ws, vs[i]'(by omega), ws[i]'(by omega), at_ E, at' E, List.getElem?_eq_getElem _, List.getElem?_eq_getElem _⟩
  · obtain ⟨T, x1, y1, rfl, hT, rfl, hy1, hy2⟩ := hy
    obtain ⟨x2, y2, g1, g2, rfl⟩ := zip_get _ _ _ _ hx
    obtain ⟨v', q1, q2⟩ := r.get g1
    obtain ⟨w', q3, q4⟩ := r'.get g2
    have z1 := hy1 vs (at_ E)
    have z2 := hy2 ws (at' E)
    rw [q1] at z1; cases z1
    rw [q3] at z2; cases z2
    have E2 : Ext W H μ W (upd H T (.tup [x1, y1])) μ := ext_new _ hT
    have k : ∀ {v : V} {x : PyData}, RP K W0.F H0 v x → RP K W.F (upd H T (.tup [x1, y1])) v x := fun z => RP.mono (E2.kp R) (RP.mono (E.kp R0) z)
    exact ⟨W, E2, R.new _ hT, .tup (.of upd_same) (.cons (k q2) (.cons (k q4) .nil))⟩
  · rw [zip_len]; omega
theorem walks_zipT {K : PySem.W.Frag} {W0 : Wd} {H0 : Hp} {μ0 : Sto} {a b : Addr} {vs ws : List V} {xs ys : List PyData} (R0 : Rel K W0 H0 μ0) (h : SqT K H0 a vs) (r : RPs K W0.F H0 vs xs) (h' : SqT K H0 b ws) (r' : RPs K W0.F H0 ws ys) :
    Walks K W0 H0 μ0 (ItzT K a b) (zipD xs ys) := by
  have at_ : ∀ {W H μ}, Ext W0 H0 μ0 W H μ → SqT K H a vs := fun E => (E.kp R0).sqT h
  have at' : ∀ {W H μ}, Ext W0 H0 μ0 W H μ → SqT K H b ws := fun E => (E.kp R0).sqT h'
  have l1 := r.length
  have l2 := r'.length
  refine ⟨fun i W H μ E R hi => ?_, fun i W H μ v H' x E R hx hy => ?_, fun W H μ E R => ⟨vs, ws, at_ E, at' E, ?_⟩⟩
  · rw [zip_len] at hi
    exact ⟨vs, ws, vs[i]'(by omega), ws[i]'(by omega), at_ E, at' E, List.getElem?_eq_getElem _, List.getElem?_eq_getElem _⟩
  · obtain ⟨T, x1, y1, rfl, hT, rfl, hy1, hy2⟩ := hy
    obtain ⟨x2, y2, g1, g2, rfl⟩ := zip_get _ _ _ _ hx
    obtain ⟨v', q1, q2⟩ := r.get g1
    obtain ⟨w', q3, q4⟩ := r'.get g2
    have z1 := hy1 vs (at_ E)
    have z2 := hy2 ws (at' E)
    rw [q1] at z1; cases z1
    rw [q3] at z2; cases z2
    have E2 : Ext W H μ W (upd H T (.tup [x1, y1])) μ := ext_new _ hT
    have k : ∀ {v : V} {x : PyData}, RP K W0.F H0 v x → RP K W.F (upd H T (.tup [x1, y1])) v x := fun z => RP.mono (E2.kp R) (RP.mono (E.kp R0) z)
    exact ⟨W, E2, R.new _ hT, .tup (.of upd_same) (.cons (k q2) (.cons (k q4) .nil))⟩
  · rw [zip_len]; omega
theorem si_zip {elts : List Expr} {kk : Nat} {tpos : Pos} (hg : Gl X "zip") (hm : X.mg "zip" = none) (hn : [a, b].all notStar = true) (ha : SE X a fa) (hb : SE X b fb) : SI X (.Tuple elts kk tpos) (.Call (.Name "zip" p) [a, b] [] pos) (iZip fa fb) := by
  rw [List.all_cons, Bool.and_eq_true, List.all_cons, Bool.and_eq_true] at hn
  refine (pi_zipA hg hm (pa_cons ha (pa_cons hb pa_nil (star_cons hn.2.1)) (star_cons hn.1)) (star_cons hn.1) (star_none (by rw [List.all_cons, hn.2.1]; rfl))).imp fun σ H Rr ⟨W, e, μ, i, μ', R, E, hf, q⟩ => ?_
  unfold iZip at hf
  split at hf
  · rename_i xs m1 h1
    split at hf
    · rename_i ys m2 h2
      cases hf
      refine ⟨W, e, μ, _, _, R, E, h1, fun W1 H1 x E1 R1 rx => ⟨W1, e, m1, _, _, R1, E.mono E1 R, h2, fun W2 H2 y E2 R2 ry => ?_⟩⟩
      have rx2 := RL.mono E2 R1 rx
      cases rx2 with
      | lst g1 g2 g3 =>
        cases ry with
        | lst g4 g5 g6 => exact ⟨_, _, _, _, rfl, .inl ⟨.of g2, .of g5, q W2 H2 _ (E1.trans E2) R2 (walks_zipL R2 g1 g2 g3 g4 g5 g6)⟩⟩
    · cases hf
  · rename_i xs m1 h1
    split at hf
    · rename_i ys m2 h2
      cases hf
      refine ⟨W, e, μ, _, _, R, E, h1, fun W1 H1 x E1 R1 rx => ⟨W1, e, m1, _, _, R1, E.mono E1 R, h2, fun W2 H2 y E2 R2 ry => ?_⟩⟩
      have rx2 := RL.mono E2 R1 rx
      cases rx2 with
      | tup g2 g3 =>
        cases ry with
        | tup g5 g6 => exact ⟨_, _, _, _, rfl, .inr ⟨g2, g5, q W2 H2 _ (E1.trans E2) R2 (walks_zipT R2 g2 g3 g5 g6)⟩⟩
    · cases hf
  · cases hf
end
end Gg

end
section
/-! GStm: statements. -/
namespace Gg
open PySem L2

/-- what is wanted behind a statement that comes to o -/
def Fin' (K : PySem.W.Frag) (W : Wd) (H : Hp) (μ : Sto) (D : Ends) : Out → Prop
  | .nx e' μ' => ∀ W' H' σ', Ext W H μ W' H' μ' → Rel K W' H' μ' → EnvOk K W' H' σ' e' → D.nx σ' H'
  | .rt v μ' => ∀ W' H' x, Ext W H μ W' H' μ' → Rel K W' H' μ' → RL K W' H' x v → D.rt x H'
  | .bk e' μ' => ∀ W' H' σ', Ext W H μ W' H' μ' → Rel K W' H' μ' → EnvOk K W' H' σ' e' → D.bk σ' H'
  | .ct e' μ' => ∀ W' H' σ', Ext W H μ W' H' μ' → Rel K W' H' μ' → EnvOk K W' H' σ' e' → D.ct σ' H'
def tS (K : PySem.W.Frag) (f : SM) : TS := fun D σ H => ∃ W e μ o, Rel K W H μ ∧ EnvOk K W H σ e ∧ f e μ = some o ∧ Fin' K W H μ D o
abbrev SS (X : Cx) (a : Stmt) (f : SM) : Prop := PS X a (tS X.K f)
abbrev SSs (X : Cx) (as : List Stmt) (f : SM) : Prop := PSs X as (tS X.K f)
theorem _root_.L2.PS.imp {X : Cx} {a : Stmt} {t t' : TS} (h : PS X a t) (w : ∀ D σ H, t' D σ H → t D σ H) : PS X a t' := ⟨fun pins s σ H D I q => h.run pins s σ H D I (w D σ H q)⟩
theorem _root_.L2.PSs.imp {X : Cx} {a : List Stmt} {t t' : TS} (h : PSs X a t) (w : ∀ D σ H, t' D σ H → t D σ H) : PSs X a t' := ⟨fun pins s σ H D I q => h.run pins s σ H D I (w D σ H q)⟩
section
variable {K : PySem.W.Frag} {W W1 : Wd} {H H1 : Hp} {μ μ1 : Sto} {D : Ends}
theorem Fin'.mono (E : Ext W H μ W1 H1 μ1) : ∀ {o : Out}, Fin' K W H μ D o → Fin' K W1 H1 μ1 D o
  | .nx _ _, h => fun W' H' σ' E' => h W' H' σ' (E.trans E')
  | .rt _ _, h => fun W' H' σ' E' => h W' H' σ' (E.trans E')
  | .bk _ _, h => fun W' H' σ' E' => h W' H' σ' (E.trans E')
  | .ct _ _, h => fun W' H' σ' E' => h W' H' σ' (E.trans E')
end
section
variable {X : Cx} {a b c o : Expr} {fa fb fc fo fv : EM} {pos p : Pos} {st : Stmt} {sts : List Stmt} {g h : SM}
theorem ss_pass : SS X (.Pass pos) sPass := ps_pass.imp fun D σ H ⟨W, e, μ, o, R, E, hf, q⟩ => by cases hf; exact q W H σ .refl R E
theorem ss_brk : SS X (.Break pos) sBrk := ps_break.imp fun D σ H ⟨W, e, μ, o, R, E, hf, q⟩ => by cases hf; exact q W H σ .refl R E
theorem ss_cnt : SS X (.Continue pos) sCnt := ps_continue.imp fun D σ H ⟨W, e, μ, o, R, E, hf, q⟩ => by cases hf; exact q W H σ .refl R E
theorem ss_never : SS X st sNever := ps_never.imp fun D σ H ⟨W, e, μ, o, R, E, hf, q⟩ => by cases hf
theorem sss_nil : SSs X [] sPass := pss_nil.imp fun D σ H ⟨W, e, μ, o, R, E, hf, q⟩ => by cases hf; exact q W H σ .refl R E
theorem sss_one (h1 : SS X st g) : SSs X [st] g := pss_one h1
theorem sss_cons (h1 : SS X st g) (h2 : SSs X sts h) : SSs X (st :: sts) (sSeq g h) := by
  refine (pss_cons h1 h2).imp fun D σ H ⟨W, e, μ, o, R, E, hf, q⟩ => ?_
  unfold sSeq at hf
  split at hf
  · rename_i e1 m1 h1
    exact ⟨W, e, μ, _, R, E, h1, fun W1 H1 σ1 E1 R1 ok1 => ⟨W1, e1, m1, o, R1, ok1, hf, q.mono E1⟩⟩
  · rename_i hn
    refine ⟨W, e, μ, o, R, E, hf, ?_⟩
    cases o with
    | nx e1 m1 => exact absurd hf (hn e1 m1)
    | rt _ _ => exact q
    | bk _ _ => exact q
    | ct _ _ => exact q
/-- no comprehension -/
def notComp : Expr → Bool
  | .ListComp _ _ _ _ => false
  | .SetComp _ _ _ _ => false
  | .DictComp _ _ _ _ _ => false
  | _ => true
theorem swaps_no {t : Option Expr} {l : Nat} {env : PySem.Env} (hn : notComp a = true) : swapsWith a t l env = pure false := by
  cases a <;> first | rfl | cases hn
theorem ss_drop (hn : notComp a = true) (ha : SE X a fa) : SS X (.Expr a pos) (sDrop fa) := by
  refine (ps_expr ha (swaps_no hn)).imp fun D σ H ⟨W, e, μ, o, R, E, hf, q⟩ => ?_
  unfold sDrop at hf
  cases hr : fa e μ with
  | none => rw [hr] at hf; cases hf
  | some r =>
    rw [hr] at hf; cases hf
    exact ⟨W, e, μ, r.1, r.2, R, E, hr, fun W1 H1 v E1 R1 _ => q W1 H1 σ E1 R1 (E.mono E1 R)⟩
theorem ss_ret (ha : SE X a fa) : SS X (.Return (some a) pos) (sRet fa) := by
  refine (ps_ret ha).imp fun D σ H ⟨W, e, μ, o, R, E, hf, q⟩ => ?_
  unfold sRet at hf
  cases hr : fa e μ with
  | none => rw [hr] at hf; cases hf
  | some r =>
    rw [hr] at hf; cases hf
    exact ⟨W, e, μ, r.1, r.2, R, E, hr, fun W1 H1 v E1 R1 rv => q W1 H1 v E1 R1 rv⟩
theorem ss_retN : SS X (.Return none pos) sRetN := ps_retN.imp fun D σ H ⟨W, e, μ, o, R, E, hf, q⟩ => by cases hf; exact q W H _ .refl R .non
theorem ss_if {as bs : List Stmt} (hc : ST X c fc) (ha : SSs X as g) (hb : SSs X bs h) : SS X (.If c as bs pos) (sIf fc g h) := by
  refine (ps_if hc ha hb).imp fun D σ H ⟨W, e, μ, o, R, E, hf, q⟩ => ?_
  unfold sIf at hf
  split at hf
  · rename_i v m1 h1
    split at hf
    · rename_i ht
      exact ⟨W, e, μ, v, m1, true, R, E, h1, ht, fun W1 H1 E1 R1 => iteT ⟨W1, e, m1, o, R1, E.mono E1 R, hf, q.mono E1⟩⟩
    · rename_i ht
      exact ⟨W, e, μ, v, m1, false, R, E, h1, ht, fun W1 H1 E1 R1 => iteF ⟨W1, e, m1, o, R1, E.mono E1 R, hf, q.mono E1⟩⟩
    · cases hf
  · cases hf
/-! ### target = value -/
def notTup : Expr → Bool
  | .Tuple _ _ _ => false
  | .List _ _ => false
  | _ => true
theorem stores_no {env : PySem.Env} (hn : notTup a = true ∨ notTup b = true) : swappedStores [a] b env = pure none := by
  rcases hn with hn | hn
  · cases a <;> first | rfl | cases hn
  · unfold swappedStores
    split
    · rename_i h
      split at h <;> first | (cases hn; done) | cases h
    · rfl
theorem asg_one (hs : notStar a = true) {env : PySem.Env} : (assignEach [a] env).map (·.2) = [assign a env] := by rw [asg_cons hs]; rfl
theorem ss_asg {t : TM} {L : List Nat} (hsw : swapsWith b (some a) pos.line X.env = pure false) (hn : notTup a = true ∨ notTup b = true) (hs : notStar a = true) (hg : SG X a L t) (hb : SE X b fb) : SS X (.Assign [a] b pos) (sAsg t fb) := by
  refine (ps_asg hb hg hsw (stores_no hn) (asg_one hs)).imp fun D σ H ⟨W, e, μ, o, R, E, hf, q⟩ => ?_
  unfold sAsg at hf
  split at hf
  · rename_i v m1 h1
    cases hr : t v e m1 with
    | none => rw [hr] at hf; cases hf
    | some r =>
      rw [hr] at hf; cases hf
      exact ⟨W, e, μ, v, m1, R, E, h1, fun W1 H1 x E1 R1 rx => ⟨W1, v, e, m1, r.1, r.2, R1, E.mono E1 R, rx, hr, fun W2 H2 σ2 E2 R2 ok2 _ => q W2 H2 σ2 (E1.trans E2) R2 ok2⟩⟩
  · cases hf
/-- (targets) = (values), through a tuple -/
theorem ss_tup {as bs : List Expr} {ts : List TM} {fs : List EM} {L : List Nat} {k k' : Nat} {p' : Pos} (hc : X.calm = true) (hl : as.length = ts.length) (hfl : fs.length ≤ 1000) (hn : as.all notStar = true) (hw : swappedStores [.Tuple as k p] (.Tuple bs k' p') X.env = pure none) (hg : SGs X as L ts) (hb : SA X bs fs) :
    SS X (.Assign [.Tuple as k p] (.Tuple bs k' p') pos) (sPar ts fs) := by
  have gT : PG X (.Tuple as k p) (gTup X.K ts.length (tGs X.K L ts)) := pg_tup hc hg (by rw [(asg_all hn).1, hl]) (asg_all hn).2
  refine (ps_asg (pe_tup hb) gT rfl hw rfl).imp fun D σ H ⟨W, e, μ, o, R, E, hf, q⟩ => ?_
  unfold sPar at hf
  split at hf
  · rename_i vs m1 h1
    cases hr : toAll ts vs e m1 with
    | none => rw [hr] at hf; cases hf
    | some r =>
      rw [hr] at hf; cases hf
      refine ⟨W, e, μ, vs, m1, R, E, h1, fun W1 H1 us E1 R1 rs => ⟨by rw [rs.length, evalL_len h1]; exact Nat.le_of_lt (small1000 hfl), fun ad had => ?_⟩⟩
      have E2 : Ext W1 H1 m1 W1 (upd H1 ad (.tup us)) m1 := ext_new _ had
      refine ⟨ad, us, rfl, .of upd_same, by rw [rs.length]; exact toAll_len hr, W1, vs, e, m1, r.1, r.2, R1.new _ had, (E.mono E1 R).mono E2 R1, RLs.mono E2 R1 rs, hr, fun W3 H3 σ3 E3 R3 ok3 _ => ?_⟩
      exact q W3 H3 σ3 ((E1.trans E2).trans E3) R3 ok3
  · cases hf
theorem ss_par2 {i j : Nat} {x y : Str} {px py pt pt2 : Pos} {kt k2 : Nat} {fs : List EM} (hc : X.calm = true) (hN : X.N.Nodup) (hi : X.N[i]? = some x) (hj : X.N[j]? = some y) (hij : i ≠ j) (hx : X.env.scope.names.lookup x = some .local) (hy : X.env.scope.names.lookup y = some .local)
    (hw : swappedStores [.Tuple [.Name x px, .Name y py] kt pt] (.Tuple [a, b] k2 pt2) X.env = pure (some [x, y])) (hb : SA X [a, b] fs) :
    SS X (.Assign [.Tuple [.Name x px, .Name y py] kt pt] (.Tuple [a, b] k2 pt2) pos) (sPar [tName i, tName j] fs) := by
  refine (ps_par hc hN hi hj hij hx hy hb hw rfl).imp fun D σ H ⟨W, e, μ, o, R, E, hf, q⟩ => ?_
  unfold sPar at hf
  split at hf
  · rename_i vs m1 h1
    cases hr : toAll [tName i, tName j] vs e m1 with
    | none => rw [hr] at hf; cases hf
    | some r =>
      rw [hr] at hf
      have hf := Option.some.inj hf
      subst hf
      refine ⟨W, e, μ, vs, m1, R, E, h1, fun W1 H1 us E1 R1 rs => ?_⟩
      have hlen := toAll_len hr
      obtain ⟨v1, v2, rfl⟩ : ∃ v1 v2, vs = [v1, v2] := by
        match vs, hlen with
        | [y1, y2], _ => exact ⟨y1, y2, rfl⟩
      have hr : some ((e.set i (some v1)).set j (some v2), m1) = some r := hr
      have hr := Option.some.inj hr
      subst hr
      cases rs with
      | cons r1 t =>
        cases t with
        | cons r2 t =>
          cases t
          exact ⟨_, _, rfl, q W1 H1 _ E1 R1 (((E.mono E1 R).set r1 i).set r2 j)⟩
  · cases hf
theorem ss_par3 {i j l : Nat} {x y z : Str} {px py pz pt pt2 : Pos} {kt k2 : Nat} {fs : List EM} (hc : X.calm = true) (hN : X.N.Nodup) (hi : X.N[i]? = some x) (hj : X.N[j]? = some y) (hl : X.N[l]? = some z) (hij : i ≠ j) (hil : i ≠ l) (hjl : j ≠ l)
    (hx : X.env.scope.names.lookup x = some .local) (hy : X.env.scope.names.lookup y = some .local) (hz : X.env.scope.names.lookup z = some .local)
    (hw : swappedStores [.Tuple [.Name x px, .Name y py, .Name z pz] kt pt] (.Tuple [a, b, c] k2 pt2) X.env = pure (some [x, y, z])) (hb : SA X [a, b, c] fs) :
    SS X (.Assign [.Tuple [.Name x px, .Name y py, .Name z pz] kt pt] (.Tuple [a, b, c] k2 pt2) pos) (sPar [tName i, tName j, tName l] fs) := by
  refine (ps_par3 hc hN hi hj hl hij hil hjl hx hy hz hb hw rfl).imp fun D σ H ⟨W, e, μ, o, R, E, hf, q⟩ => ?_
  unfold sPar at hf
  split at hf
  · rename_i vs m1 h1
    cases hr : toAll [tName i, tName j, tName l] vs e m1 with
    | none => rw [hr] at hf; cases hf
    | some r =>
      rw [hr] at hf
      have hf := Option.some.inj hf
      subst hf
      refine ⟨W, e, μ, vs, m1, R, E, h1, fun W1 H1 us E1 R1 rs => ?_⟩
      have hlen := toAll_len hr
      obtain ⟨v1, v2, v3, rfl⟩ : ∃ v1 v2 v3, vs = [v1, v2, v3] := by
        match vs, hlen with
        | [y1, y2, y3], _ => exact ⟨y1, y2, y3, rfl⟩
      have hr : some (((e.set i (some v1)).set j (some v2)).set l (some v3), m1) = some r := hr
      have hr := Option.some.inj hr
      subst hr
      cases rs with
      | cons r1 t =>
        cases t with
        | cons r2 t =>
          cases t with
          | cons r3 t =>
            cases t
            exact ⟨_, _, _, rfl, q W1 H1 _ E1 R1 ((((E.mono E1 R).set r1 i).set r2 j).set r3 l)⟩
  · cases hf
/-! ### x op= e -/
def IpS (X : Cx) (op : Operator) (g : B2) : Prop :=
  ∃ r : R2, OpR X (inplaceOp op) r ∧ ∀ (W : Wd) (H : Hp) (μ : Sto) (x y : V) (dx dy z : PyData) (Q : VK), Rel X.K W H μ → RP X.K W.F H x dx → RP X.K W.F H y dy → g dx dy = some z → Post X.K W H μ μ (.d z) Q → r x y H Q
def addI : B2
  | .int i, .int j => some (.int (i + j))
  | .str x, .str y => if x.length + y.length ≤ LINE then some (.str (x ++ y)) else none
  | _, _ => none
def mulI : B2
  | .int i, .int j => if -(2 ^ 64) < i ∧ i < 2 ^ 64 then some (.int (i * j)) else none
  | _, _ => none
theorem ips_add : IpS X .Add addI := by
  refine ⟨_, iop_add.or iop_add_str, fun W H μ x y dx dy z Q R rx ry hg q => ?_⟩
  unfold addI at hg
  split at hg
  · cases hg; cases rx; cases ry
    exact .inl ⟨_, _, rfl, rfl, q _ _ _ .refl R (.int _)⟩
  · split at hg
    · rename_i hl
      cases hg; cases rx; cases ry
      exact .inr ⟨_, _, rfl, rfl, line_le' hl, q _ _ _ .refl R (.str _)⟩
    · cases hg
  · cases hg
theorem ips_sub : IpS X .Sub subD := by
  refine ⟨_, iop_sub, fun W H μ x y dx dy z Q R rx ry hg q => ?_⟩
  unfold subD at hg
  split at hg
  · cases hg; cases rx; cases ry
    exact ⟨_, _, rfl, rfl, q _ _ _ .refl R (.int _)⟩
  · cases hg
theorem iop_mulW {X : Cx} : OpR X (inplaceOp .Mult) (rI CMulW fun i j => .int (i * j)) := opI fun _ _ _ _ _ _ _ hc q => PyProof.Rows.imul_int q hc.ok
def mulInt : B2
  | .int i, .int j => if mulFits i j then some (.int (i * j)) else none
  | _, _ => none
theorem ips_mul : IpS X .Mult mulInt := by
  refine ⟨_, iop_mulW, fun W H μ x y dx dy z Q R rx ry hg q => ?_⟩
  unfold mulInt at hg
  split at hg
  · split at hg
    · rename_i hl
      cases hg; cases rx; cases ry
      exact ⟨_, _, rfl, rfl, hl, q _ _ _ .refl R (.int _)⟩
    · cases hg
  · cases hg
theorem ss_try {h0 : ExceptHandler} {hs : List ExceptHandler} {ors : List Stmt} (hn : ∀ e s, ¬ X.xe e s) (hb : SSs X sts g) (ho : SSs X ors h) : SS X (.Try sts (h0 :: hs) ors [] pos) (sSeq g h) := by
  refine (ps_try_never hn hb ho).imp fun D σ H ⟨W, e, μ, o, R, E, hf, q⟩ => ?_
  unfold sSeq at hf
  split at hf
  · rename_i e1 m1 h1
    exact ⟨W, e, μ, _, R, E, h1, fun W1 H1 σ1 E1 R1 ok1 => ⟨W1, e1, m1, o, R1, ok1, hf, q.mono E1⟩⟩
  · rename_i hx
    refine ⟨W, e, μ, o, R, E, hf, ?_⟩
    cases o with
    | nx e1 m1 => exact absurd hf (hx e1 m1)
    | rt _ _ => exact q
    | bk _ _ => exact q
    | ct _ _ => exact q
theorem ss_aug {i : Nat} {x : Str} {op : Operator} {gb : B2} (ho : IpS X op gb) (hN : X.N.Nodup) (hi : X.N[i]? = some x) (hx : Loc X.env.scope x) (hf : X.fn x = true ∨ X.env.scope.names.lookup x = some .local) (hb : SE X b fb) : SS X (.AugAssign (.Name x p) op b pos) (sAug i gb fb) := by
  obtain ⟨r, hr, hs⟩ := ho
  have hp : PIp X op r := fun pins s σ H x y v u Q I r1 r2 q => hr pins s σ H x y v u Q I r1 r2 q
  refine (ps_aug hN hi hx hb hp hf).imp fun D σ H ⟨W, e, μ, o, R, E, hf, q⟩ => ?_
  unfold sAug at hf
  split at hf
  · rename_i hv
    split at hf
    · rename_i w m1 h1
      split at hf
      · rename_i dx dy
        cases hz : gb dx dy with
        | none => rw [hz] at hf; cases hf
        | some z =>
          rw [hz] at hf; cases hf
          obtain ⟨v, hv1, hv2⟩ := E.2 i _ hv
          refine ⟨v, hv1, W, e, μ, _, _, R, E, h1, fun W1 H1 y E1 R1 ry => ?_⟩
          exact hs W1 H1 _ v y dx dy z _ R1 (RL.mono E1 R hv2) ry hz fun W2 H2 u E2 R2 ru => q W2 H2 _ (E1.trans E2) R2 (((E.mono E1 R).mono E2 R1).set ru i)
      · cases hf
    · cases hf
  · cases hf
end
end Gg

end
section
/-! GFor: lists that grow; for, while. -/
namespace Gg
open PySem L2

section
variable {X : Cx} {a b c o : Expr} {fa fb fc fo fv : EM} {pos p apos cpos : Pos} {st : Stmt} {sts : List Stmt} {g h : SM}
/-! ### append, extend -/
def plainBase : Expr → Bool
  | .Name _ _ => true
  | .Subscript _ _ _ => true
  | _ => false
theorem base_ok {name : Str} {env : PySem.Env} (h : plainBase o = true) : attributeBase o name env (eval o env) = eval o env := by
  cases o <;> first | rfl | cases h
theorem few_ok {env : PySem.Env} (hn : notStar a = true) : ((backTo cpos (starEach [a] env)).all (fun x => !x.1) && (backToKw cpos (keywordEach [] env)).all (fun x => x.1.isSome) && decide ([a].length + ([] : List Keyword).length + (if ([] : List Keyword).isEmpty then 0 else 1) < 30)) = true := by
  rw [star_cons hn]; rfl
theorem ss_app (hb : plainBase o = true) (hn : notStar a = true) (hl : (apos.endLine == cpos.line) = true) (ho : SE X o fo) (ha : SE X a fv) : SS X (.Expr (.Call (.Attribute o "append" apos) [a] [] cpos) pos) (sApp fo fv) := by
  refine (ps_expr (pe_bm PySem.F.plainAttrs_list PySem.F.slot_list_append PySem.F.type_list_append mt_append ho (pa_cons ha pa_nil (star_cons hn)) (base_ok hb) (few_ok hn) hl (star_cons hn) rfl) (swaps_no rfl)).imp fun D σ H ⟨W, e, μ, oo, R, E, hf, q⟩ => ?_
  unfold sApp at hf
  split at hf
  · rename_i k m1 h1
    split at hf
    · rename_i zs hz0
      split at hf
      · rename_i v m2 h2
        split at hf
        · rename_i xs hx
          split at hf
          · rename_i hz
            cases hf
            refine ⟨W, e, μ, _, m1, R, E, h1, fun W1 H1 x E1 R1 rx => ?_⟩
            obtain ⟨ad, hk, rfl⟩ := rx
            obtain ⟨vs0, hv0, _⟩ := R1.cell k ad zs hk hz0
            refine ⟨.inl ⟨rfl, vs0, .of hv0⟩, W1, e, m1, v, m2, R1, E.mono E1 R, h2, fun W2 H2 y E2 R2 ry => ?_⟩
            have hk2 := E2.at hk
            obtain ⟨vs, hv, hvl⟩ := R2.cell k ad xs hk2 hx
            refine ⟨ad, vs, y, rfl, rfl, hv, by rw [hvl.length]; exact line_lt hz, ?_⟩
            have E3 := ext_set R2 (vs' := vs ++ [y]) (xs' := xs ++ [v]) hk2 hx
            have R3 := R2.setCell hk2 hx (hvl.append (.cons ry .nil))
            exact q _ _ σ ((E1.trans E2).trans E3) R3 (((E.mono E1 R).mono E2 R1).mono E3 R2)
          · cases hf
        · cases hf
      · cases hf
    · cases hf
  · cases hf
theorem ss_ext (hb : plainBase o = true) (hn : notStar a = true) (hl : (apos.endLine == cpos.line) = true) (ho : SE X o fo) (ha : SE X a fv) : SS X (.Expr (.Call (.Attribute o "extend" apos) [a] [] cpos) pos) (sExt fo fv) := by
  refine (ps_expr (pe_bm PySem.F.plainAttrs_list PySem.F.slot_list_extend PySem.F.type_list_extend mt_extend ho (pa_cons ha pa_nil (star_cons hn)) (base_ok hb) (few_ok hn) hl (star_cons hn) rfl) (swaps_no rfl)).imp fun D σ H ⟨W, e, μ, oo, R, E, hf, q⟩ => ?_
  unfold sExt at hf
  split at hf
  · rename_i k m1 h1
    split at hf
    · rename_i zs hz0
      split at hf
      · rename_i v m2 h2
        split at hf
        · rename_i xs hx
          split at hf
          · rename_i ys hys
            split at hf
            · rename_i hz
              cases hf
              refine ⟨W, e, μ, _, m1, R, E, h1, fun W1 H1 x E1 R1 rx => ?_⟩
              obtain ⟨ad, hk, rfl⟩ := rx
              obtain ⟨vs0, hv0, _⟩ := R1.cell k ad zs hk hz0
              refine ⟨.inl ⟨rfl, vs0, .of hv0⟩, W1, e, m1, v, m2, R1, E.mono E1 R, h2, fun W2 H2 y E2 R2 ry => ?_⟩
              have hk2 := E2.at hk
              obtain ⟨vs, hv, hvl⟩ := R2.cell k ad xs hk2 hx
              obtain ⟨b, ws, rfl, hb1, hb2⟩ : ∃ b ws, y = V.ref b ∧ H2 b = some (HO.lst ws) ∧ RLs X.K W2 H2 ws ys := by
                unfold listOf at hys
                split at hys
                · cases hys
                  cases ry with
                  | lst g1 g2 g3 => exact ⟨_, _, rfl, g2, g3.rls⟩
                · split at hys
                  · rename_i j ts hj
                    cases hys
                    obtain ⟨b, hb1, rfl⟩ := ry
                    obtain ⟨ws, hb2, hb3⟩ := R2.cell _ b _ hb1 hj
                    exact ⟨b, ws, rfl, hb2, hb3⟩
                  · cases hys
                · cases hys
              refine ⟨ad, b, vs, ws, rfl, rfl, hv, hb1, by rw [hvl.length, hb2.length]; exact line_le' hz, ?_⟩
              have E3 := ext_set R2 (vs' := vs ++ ws) (xs' := xs ++ ys) hk2 hx
              have R3 := R2.setCell hk2 hx (hvl.append hb2)
              exact q _ _ σ ((E1.trans E2).trans E3) R3 (((E.mono E1 R).mono E2 R1).mono E3 R2)
            · cases hf
          · cases hf
        · cases hf
      · cases hf
    · cases hf
  · cases hf
/-! ### for -/
theorem for_items {K : PySem.W.Frag} {L : List Nat} {t : TM} {f : SM} {D : Ends} {W1 : Wd} {H1 : Hp} {μ1 : Sto} {J : It} {xs : List LV} {o : Out} {σ0 : List (Option V)} {e0 : Env}
    (R1 : Rel K W1 H1 μ1) (ok0 : EnvOk K W1 H1 σ0 e0) (wk : Walks K W1 H1 μ1 J xs) (hf : forItems (forBody t f) xs e0 μ1 = some o) (q : Fin' K W1 H1 μ1 D o) :
    ∃ W : Nat → Nat → List (Option V) → Hp → Prop, (∃ m, W 0 m σ0 H1) ∧ ∀ i m σ H, W i m σ H →
      (J.stop i H ∧ D.nx σ H) ∨ (J.go i H ∧ ∃ N : List (Option V) → Hp → Prop, (∀ σ' H', N σ' H' → ∃ m', m' < m ∧ W (i + 1) m' σ' H') ∧ ∀ x H', J.yld i H x H' → tG K L t x σ H' fun σ2 H2 => tS K f { D with nx := N, ct := N, bk := D.nx } σ2 H2) := by
  refine ⟨fun i m σ H => ∃ W e μ, m = xs.length - i ∧ i ≤ xs.length ∧ Ext W1 H1 μ1 W H μ ∧ Rel K W H μ ∧ EnvOk K W H σ e ∧ forItems (forBody t f) (xs.drop i) e μ = some o, ⟨xs.length, W1, e0, μ1, by simp, Nat.zero_le _, .refl, R1, ok0, by simpa using hf⟩, ?_⟩
  rintro i m σ H ⟨W, e, μ, rfl, hi, E, R, ok, hr⟩
  by_cases hlt : i < xs.length
  · rw [List.drop_eq_getElem_cons hlt] at hr
    simp only [forItems] at hr
    refine .inr ⟨wk.go i W H μ E R hlt, fun σ' H' => ∃ W' e' μ', Ext W1 H1 μ1 W' H' μ' ∧ Rel K W' H' μ' ∧ EnvOk K W' H' σ' e' ∧ forItems (forBody t f) (xs.drop (i + 1)) e' μ' = some o, fun σ' H' ⟨W', e', μ', h1, h2, h3, h4⟩ => ⟨xs.length - (i + 1), by omega, W', e', μ', rfl, hlt, h1, h2, h3, h4⟩, fun v H' hy => ?_⟩
    obtain ⟨W', E', R', rv⟩ := wk.yl i W H μ v H' _ E R (List.getElem?_eq_getElem hlt) hy
    cases hb : forBody t f xs[i] e μ with
    | none => rw [hb] at hr; cases hr
    | some out =>
      rw [hb] at hr
      unfold forBody at hb
      split at hb
      · rename_i e1 m1 ht
        refine ⟨W', xs[i], e, μ, e1, m1, R', ok.mono E' R, rv, ht, fun W2 H2 σ2 E2 R2 ok2 _ => ⟨W2, e1, m1, out, R2, ok2, hb, ?_⟩⟩
        have EE := (E.trans E').trans E2
        cases out with
        | nx e2 m2 => exact fun W3 H3 σ3 E3 R3 ok3 => ⟨W3, e2, m2, EE.trans E3, R3, ok3, hr⟩
        | ct e2 m2 => exact fun W3 H3 σ3 E3 R3 ok3 => ⟨W3, e2, m2, EE.trans E3, R3, ok3, hr⟩
        | bk e2 m2 => cases hr; exact fun W3 H3 σ3 E3 R3 ok3 => q W3 H3 σ3 (EE.trans E3) R3 ok3
        | rt v2 m2 => cases hr; exact fun W3 H3 x3 E3 R3 r3 => q W3 H3 x3 (EE.trans E3) R3 r3
      · cases hb
  · have e1 : i = xs.length := by omega
    subst e1
    rw [List.drop_length] at hr
    simp only [forItems] at hr
    cases hr
    exact .inl ⟨wk.st W H μ E R, q W H σ E R ok⟩
theorem for_cell {K : PySem.W.Frag} {L : List Nat} {t : TM} {f : SM} {D : Ends} {W1 : Wd} {H1 : Hp} {μ1 : Sto} {a : Addr} {k n : Nat} {o : Out} {σ0 : List (Option V)} {e0 : Env}
    (R1 : Rel K W1 H1 μ1) (ok0 : EnvOk K W1 H1 σ0 e0) (hk : W1.m[k]? = some a) (hf : forCell (forBody t f) k n n e0 μ1 = some o) (q : Fin' K W1 H1 μ1 D o) :
    ∃ W : Nat → Nat → List (Option V) → Hp → Prop, (∃ m, W 0 m σ0 H1) ∧ ∀ i m σ H, W i m σ H →
      ((Itl K a).stop i H ∧ D.nx σ H) ∨ ((Itl K a).go i H ∧ ∃ N : List (Option V) → Hp → Prop, (∀ σ' H', N σ' H' → ∃ m', m' < m ∧ W (i + 1) m' σ' H') ∧ ∀ x H', (Itl K a).yld i H x H' → tG K L t x σ H' fun σ2 H2 => tS K f { D with nx := N, ct := N, bk := D.nx } σ2 H2) := by
  refine ⟨fun i m σ H => ∃ W e μ, i + m = n ∧ Ext W1 H1 μ1 W H μ ∧ Rel K W H μ ∧ EnvOk K W H σ e ∧ forCell (forBody t f) k n m e μ = some o, ⟨n, W1, e0, μ1, by omega, .refl, R1, ok0, hf⟩, ?_⟩
  rintro i m σ H ⟨W, e, μ, hi, E, R, ok, hr⟩
  have hk2 := E.at hk
  cases m with
  | zero =>
    simp only [forCell] at hr
    split at hr
    · rename_i n' hn
      split at hr
      · rename_i hnn
        cases hr
        unfold cellLen at hn
        split at hn
        · rename_i ys hy
          cases hn
          obtain ⟨vs, hv, hl⟩ := R.cell k a ys hk2 hy
          refine .inl ⟨⟨vs, .of hv, by rw [hl.length]; omega⟩, q W H σ E R ok⟩
        · cases hn
      · cases hr
    · cases hr
  | succ m =>
    simp only [forCell] at hr
    split at hr
    · rename_i ys hy
      split at hr
      · rename_i hyn
        have hix : n - (m + 1) = i := by omega
        rw [hix] at hr
        split at hr
        · rename_i x hx
          obtain ⟨vs, hv, hl⟩ := R.cell k a ys hk2 hy
          obtain ⟨v0, hv0, rv0⟩ := hl.get hx
          refine .inr ⟨⟨vs, v0, .of hv, hv0⟩, fun σ' H' => ∃ W' e' μ', Ext W1 H1 μ1 W' H' μ' ∧ Rel K W' H' μ' ∧ EnvOk K W' H' σ' e' ∧ forCell (forBody t f) k n m e' μ' = some o, fun σ' H' ⟨W', e', μ', h1, h2, h3, h4⟩ => ⟨m, by omega, W', e', μ', by omega, h1, h2, h3, h4⟩, fun v H' hyl => ?_⟩
          obtain ⟨rfl, hyl⟩ := hyl
          have ev := hyl vs (.of hv)
          rw [hv0] at ev; cases ev
          cases hb : forBody t f x e μ with
          | none => rw [hb] at hr; cases hr
          | some out =>
            rw [hb] at hr
            unfold forBody at hb
            split at hb
            · rename_i e1 m1 ht
              refine ⟨W, x, e, μ, e1, m1, R, ok, rv0, ht, fun W2 H2 σ2 E2 R2 ok2 _ => ⟨W2, e1, m1, out, R2, ok2, hb, ?_⟩⟩
              have EE := E.trans E2
              cases out with
              | nx e2 m2 => exact fun W3 H3 σ3 E3 R3 ok3 => ⟨W3, e2, m2, EE.trans E3, R3, ok3, hr⟩
              | ct e2 m2 => exact fun W3 H3 σ3 E3 R3 ok3 => ⟨W3, e2, m2, EE.trans E3, R3, ok3, hr⟩
              | bk e2 m2 => cases hr; exact fun W3 H3 σ3 E3 R3 ok3 => q W3 H3 σ3 (EE.trans E3) R3 ok3
              | rt v2 m2 => cases hr; exact fun W3 H3 x3 E3 R3 r3 => q W3 H3 x3 (EE.trans E3) R3 r3
            · cases hb
        · cases hr
      · cases hr
    · cases hr
theorem ss_for {tg it : Expr} {L : List Nat} {t : TM} {fi : IM} {f : SM} (hp : PassesOwn (model X.prog X.w) X.A X.env X.xe) (hc : X.calm = true) (hs : ∀ x, foldedSetIterable it X.env x = pure x) (hi : SI X tg it fi) (hg : SG X tg L t) (hb : SSs X sts f) :
    SS X (.For tg it sts [] pos) (sFor t fi f) := by
  refine (ps_for hp hc hi hg hb hs).imp fun D σ H ⟨W, e, μ, o, R, E, hf, q⟩ => ?_
  unfold sFor at hf
  split at hf
  · rename_i i m1 h1
    refine ⟨W, e, μ, i, m1, R, E, h1, fun W1 H1 J E1 R1 wk => ?_⟩
    cases i with
    | items xs => exact for_items R1 (E.mono E1 R) wk hf (q.mono E1)
    | cell k =>
      obtain ⟨ad, hk, rfl⟩ := wk
      simp only [forOver] at hf
      split at hf
      · exact for_cell R1 (E.mono E1 R) hk hf (q.mono E1)
      · cases hf
  · cases hf
/-! ### while -/
theorem ss_while {f : SM} (hp : PassesOwn (model X.prog X.w) X.A X.env X.xe) (hc : ST X c fc) (hb : SSs X sts f) : SS X (.While c sts [] pos) (sWhile fc f) := by
  refine (ps_while hp hc hb).imp fun D σ H ⟨W, e, μ, o, R, E, hf, q⟩ => ?_
  unfold sWhile at hf
  split at hf
  · rename_i hex
    obtain ⟨n, hn⟩ : ∃ n, whileN fc f n e μ = some o := by
      refine ⟨_, (Classical.choose_spec (Classical.choose_spec hex)).trans hf⟩
    refine ⟨fun m σx Hx => ∃ W1 e μ1, Ext W H μ W1 Hx μ1 ∧ Rel X.K W1 Hx μ1 ∧ EnvOk X.K W1 Hx σx e ∧ whileN fc f m e μ1 = some o, ⟨n, W, e, μ, .refl, R, E, hn⟩, ?_⟩
    rintro m σ' H' ⟨W1, e1, μ1, E1, R1, ok1, hr⟩
    cases m with
    | zero => cases hr
    | succ m =>
      simp only [whileN] at hr
      split at hr
      · rename_i v m1 h1
        split at hr
        · rename_i ht
          cases hr
          exact ⟨W1, e1, μ1, v, _, false, R1, ok1, h1, ht, fun W2 H2 E2 R2 => iteF (q W2 H2 σ' (E1.trans E2) R2 (ok1.mono E2 R1))⟩
        · rename_i ht
          refine ⟨W1, e1, μ1, v, m1, true, R1, ok1, h1, ht, fun W2 H2 E2 R2 => iteT ⟨fun σ'' H'' => ∃ W1 e μ1, Ext W H μ W1 H'' μ1 ∧ Rel X.K W1 H'' μ1 ∧ EnvOk X.K W1 H'' σ'' e ∧ whileN fc f m e μ1 = some o, fun σ'' H'' hN => ⟨m, by omega, hN⟩, ?_⟩⟩
          cases hb : f e1 m1 with
          | none => rw [hb] at hr; cases hr
          | some out =>
            rw [hb] at hr
            refine ⟨W2, e1, m1, out, R2, ok1.mono E2 R1, hb, ?_⟩
            have EE := E1.trans E2
            cases out with
            | nx e2 m2 => exact fun W3 H3 σ3 E3 R3 ok3 => ⟨W3, e2, m2, EE.trans E3, R3, ok3, hr⟩
            | ct e2 m2 => exact fun W3 H3 σ3 E3 R3 ok3 => ⟨W3, e2, m2, EE.trans E3, R3, ok3, hr⟩
            | bk e2 m2 => cases hr; exact fun W3 H3 σ3 E3 R3 ok3 => q W3 H3 σ3 (EE.trans E3) R3 ok3
            | rt v2 m2 => cases hr; exact fun W3 H3 x3 E3 R3 r3 => q W3 H3 x3 (EE.trans E3) R3 r3
        · cases hr
      · cases hr
  · cases hf
end
end Gg

end
section
/-! GComp: list comprehensions. -/
namespace Gg
open PySem L2

section
variable {K : PySem.W.Frag} {W W1 W' : Wd} {H H1 H' : Hp} {μ μ1 μ' : Sto} {D : Addr} {σ : List (Option V)} {e : Env}
/-- a list that nobody knows yet -/
def Loose (W : Wd) (μ : Sto) (D : Addr) : Prop := ¬ W.F D ∧ ∀ k, live μ k → W.m[k]? ≠ some D
theorem Loose.ext (l : Loose W μ D) {o : HO} (h : H D = some o) (E : Ext W H μ W' H' μ') : Loose W' μ' D ∧ H' D = some o := by
  obtain ⟨r, er, nr⟩ := E.pre
  refine ⟨⟨fun hF => ?_, fun k lk hk => ?_⟩, E.keep D o h l.2⟩
  · rcases E.Fnew D hF with z | z | ⟨k, lk, hk⟩
    · exact l.1 z
    · rw [h] at z; cases z
    · exact l.2 k lk hk
  · by_cases hl : k < W.m.length
    · rw [er, List.getElem?_append_left hl] at hk
      exact l.2 k (E.lv k hl lk) hk
    · rw [er, List.getElem?_append_right (by omega)] at hk
      rw [nr D (List.mem_of_getElem? hk)] at h
      cases h
theorem RL.keep {F' : Addr → Prop} (k : Keep W.F H F' H') {v : V} : ∀ {x : LV}, RL K W H v x → RL K ⟨W.m, F'⟩ H' v x
  | .d _, h => RP.mono k h
  | .ref _, ⟨a, h1, h2⟩ => ⟨a, h1, h2⟩
  | .ro _, ⟨a, vs, h1, h2, h3⟩ => ⟨a, vs, h1, k.roL h2, RPs.mono k h3⟩
  | .tr _ _, ⟨a, us, b, h1, h2, h3, h4⟩ => ⟨a, us, b, h1, k.sqT h2, RPs.mono k h3, h4⟩
theorem RLs.keep {F' : Addr → Prop} (k : Keep W.F H F' H') : ∀ {vs : List V} {xs : List LV}, RLs K W H vs xs → RLs K ⟨W.m, F'⟩ H' vs xs
  | _, _, .nil => .nil
  | _, _, .cons a b => .cons (RL.keep k a) (RLs.keep k b)
/-- the loose list is changed, or forgotten -/
theorem Loose.keepAt (l : Loose W μ D) {vs : List V} (h : H D = some (HO.lst vs)) (hc : ∀ b, b ≠ D → H' b = H b) : Keep W.F H W.F H' :=
  ⟨fun _ z => z, fun a ws hF ha => by rw [hc a fun e => l.1 (e ▸ hF)]; exact ha, fun a o ha n => by
    rw [hc a]
    · exact ha
    · intro e; subst e; rw [h] at ha; exact n vs (Option.some.inj ha).symm⟩
theorem Rel.loose (R : Rel K W H μ) (l : Loose W μ D) {vs : List V} (h : H D = some (HO.lst vs)) (hc : ∀ b, b ≠ D → H' b = H b) : Rel K W H' μ := by
  have k : Keep W.F H W.F H' := l.keepAt h hc
  refine ⟨R.len, fun j a xs h1 h2 => ?_, R.inj, fun a hF => ?_⟩
  · obtain ⟨ws, q1, q2⟩ := R.cell j a xs h1 h2
    refine ⟨ws, ?_, RLs.keep k q2⟩
    rw [hc a fun e => l.2 j ⟨xs, h2⟩ (e ▸ h1)]
    exact q1
  · obtain ⟨⟨ws, q1⟩, q2⟩ := R.frz a hF
    exact ⟨⟨ws, k.l a ws hF q1⟩, q2⟩
theorem Ext.loose (E : Ext W1 H1 μ1 W H μ) (hn : H1 D = none) (hc : ∀ b, b ≠ D → H' b = H b) : Ext W1 H1 μ1 W H' μ :=
  ⟨E.pre, E.F, fun a ha => by
    by_cases e : a = D
    · rw [e]; exact hn
    · exact E.dom a (by rw [← hc a e]; exact ha), fun a o h n => by
    rw [hc a (ne_of_none h hn)]
    exact E.keep a o h n, E.Fnew, E.lv⟩
def dropAt (H : Hp) (D : Addr) : Hp := fun b => if b = D then none else H b
theorem dropAt_same : dropAt H D D = none := by unfold dropAt; rw [if_pos rfl]
theorem dropAt_ne : ∀ b, b ≠ D → dropAt H D b = H b := fun b h => by unfold dropAt; rw [if_neg h]
theorem dropAt_upd {o : HO} (h : H D = some o) : upd (dropAt H D) D o = H := by
  funext b
  by_cases e : b = D
  · subst e; rw [upd_same, h]
  · rw [upd_ne e, dropAt_ne b e]
/-! ### the slots of a comprehension's own names -/
theorem EnvOk.wiped (h : EnvOk K W H σ e) : ∀ own : List Nat, EnvOk K W H (wipe σ own) (wipeE e own)
  | [] => h
  | i :: own => by
    have ih := EnvOk.wiped h own
    unfold wipe wipeE
    refine ⟨by rw [List.length_set, List.length_set]; exact ih.1, fun j lv hj => ?_⟩
    by_cases c : i = j
    · subst c
      by_cases hl : i < (wipeE e own).length
      · rw [List.getElem?_set_self hl] at hj; cases hj
      · rw [List.getElem?_eq_none (by rw [List.length_set]; omega)] at hj; cases hj
    · rw [List.getElem?_set_ne c] at hj ⊢
      exact ih.2 j lv hj
theorem wipe_get {i : Nat} : ∀ {own : List Nat} {σ : List (Option V)}, (wipe σ own)[i]? = if i ∈ own then (σ[i]?).map fun _ => none else σ[i]?
  | [], σ => by simp [wipe]
  | j :: own, σ => by
    unfold wipe
    by_cases c : j = i
    · subst c
      rw [if_pos List.mem_cons_self]
      by_cases hl : j < (wipe σ own).length
      · rw [List.getElem?_set_self hl]
        have : j < σ.length := by rw [wipe_length] at hl; exact hl
        rw [List.getElem?_eq_getElem this]; rfl
      · rw [List.getElem?_eq_none (by rw [List.length_set]; omega)]
        have : ¬ j < σ.length := by rw [wipe_length] at hl; exact hl
        rw [List.getElem?_eq_none (by omega)]; rfl
    · rw [List.getElem?_set_ne c, wipe_get]
      by_cases hi : i ∈ own
      · rw [if_pos hi, if_pos (List.mem_cons_of_mem _ hi)]
      · rw [if_neg hi, if_neg]
        intro z
        rcases List.mem_cons.mp z with z | z
        · exact c z.symm
        · exact hi z
theorem wipe_back {own L : List Nat} {σ σ2 : List (Option V)} (hL : ∀ i ∈ L, i ∈ own) (hl : σ2.length = σ.length) (h : ∀ i : Nat, i ∉ L → σ2[i]? = (wipe σ own)[i]?) : wipe σ2 own = wipe σ own := by
  apply List.ext_getElem?
  intro i
  rw [wipe_get, wipe_get]
  by_cases hi : i ∈ own
  · rw [if_pos hi, if_pos hi]
    by_cases hb : i < σ.length
    · rw [List.getElem?_eq_getElem hb, List.getElem?_eq_getElem (by omega)]; rfl
    · rw [List.getElem?_eq_none (by omega), List.getElem?_eq_none (by omega)]
  · rw [if_neg hi, if_neg hi, h i fun z => hi (hL i z), wipe_get, if_neg hi]
end
/-! ### the tests -/
def tTs (K : PySem.W.Frag) (fs : List EM) : TT := fun σ H Q => ∃ W e μ b μ', Rel K W H μ ∧ EnvOk K W H σ e ∧ tests fs e μ = some (b, μ') ∧ ∀ W' H', Ext W H μ W' H' μ' → Rel K W' H' μ' → Q b H'
abbrev STs (X : Cx) (as : List Expr) (fs : List EM) : Prop := PTs X as (tTs X.K fs)
theorem _root_.L2.PTs.imp {X : Cx} {a : List Expr} {t t' : TT} (h : PTs X a t) (w : ∀ σ H Q, t' σ H Q → t σ H Q) : PTs X a t' := ⟨fun pins s σ H Q I q => h.run pins s σ H Q I (w σ H Q q)⟩
section
variable {X : Cx} {a b c o : Expr} {fa fb fc fe : EM} {pos p : Pos}
theorem sts_nil : STs X [] [] := pts_nil.imp fun σ H Q ⟨W, e, μ, b, μ', R, E, hf, q⟩ => by cases hf; exact q W H .refl R
theorem sts_one (hc : ST X c fc) : STs X [c] [fc] := by
  refine (pts_one hc).imp fun σ H Q ⟨W, e, μ, b, μ', R, E, hf, q⟩ => ?_
  simp only [tests] at hf
  split at hf
  · rename_i v m1 h1
    cases ht : truth m1 v with
    | none => rw [ht] at hf; cases hf
    | some k =>
      rw [ht] at hf; cases hf
      exact ⟨W, e, μ, v, _, _, R, E, h1, ht, q⟩
  · cases hf
/-! ### a turn -/
theorem comp_turn {K : PySem.W.Frag} {W W1 W' : Wd} {H H1 H' : Hp} {μ μ1 m1 : Sto} {D : Addr} {σ : List (Option V)} {e : Env} {vs : List V} {acc : List LV} {v : V} {x : LV} {oy : Option LV} {t : TM} {ifs : List EM} {own L : List Nat}
    (hn : H1 D = none) (E : Ext W1 H1 μ1 W H μ) (R : Rel K W H μ) (l : Loose W μ D) (hD : H D = some (HO.lst vs)) (ra : RLs K W H vs acc) (hz : acc.length < LINE) (E' : Ext W H μ W' H' μ) (R' : Rel K W' H' μ) (rv : RL K W' H' v x)
    (hf : compOne fe t ifs own x e μ = some (oy, m1)) (hL : ∀ i ∈ L, i ∈ own) (ok : EnvOk K W H σ e) (Nx : Hp → Prop)
    (hN : ∀ W4 H4 vs', Ext W1 H1 μ1 W4 H4 m1 → Rel K W4 H4 m1 → Loose W4 m1 D → H4 D = some (HO.lst vs') → RLs K W4 H4 vs' (acc ++ oy.toList) → EnvOk K W4 H4 σ e → Nx H4) :
    tG K L t v (wipe σ own) H' fun σ2 H2 => wipe σ2 own = wipe σ own ∧ tTs K ifs σ2 H2 fun b H3 => if b = true then tE K fe σ2 H3 fun y H4 => ∃ acc, H4 D = some (HO.lst acc) ∧ acc.length < sizeLine ∧ Nx (upd H4 D (.lst (acc ++ [y]))) else Nx H3 := by
  unfold compOne at hf
  split at hf
  · rename_i e1 m2 ht
    have okw := (ok.mono E' R).wiped own
    refine ⟨W', x, wipeE e own, μ, e1, m2, R', okw, rv, ht, fun W2 H2 σ2 E2 R2 ok2 ag => ⟨?_, ?_⟩⟩
    · exact wipe_back hL (by rw [ag.1, wipe_length]) ag.2
    · split at hf
      · rename_i m3 hT
        cases hy : fe e1 m3 with
        | none => rw [hy] at hf; cases hf
        | some r =>
          rw [hy] at hf; cases hf
          refine ⟨W2, e1, m2, true, m3, R2, ok2, hT, fun W3 H3 E3 R3 => iteT ⟨W3, e1, m3, r.1, r.2, R3, ok2.mono E3 R2, hy, fun W4 H4 y E4 R4 ry => ?_⟩⟩
          have EE := E'.trans (E2.trans (E3.trans E4))
          obtain ⟨l4, hD4⟩ := l.ext hD EE
          have ra4 := RLs.mono EE R ra
          have hc : ∀ b, b ≠ D → upd H4 D (HO.lst (vs ++ [y])) b = H4 b := fun b hb => upd_ne hb
          have k4 : Keep W4.F H4 W4.F (upd H4 D (HO.lst (vs ++ [y]))) := l4.keepAt hD4 hc
          refine ⟨vs, hD4, by rw [ra.length]; exact line_lt (Nat.le_of_lt hz), ?_⟩
          have envk : EnvOk K W4 (upd H4 D (HO.lst (vs ++ [y]))) σ e := by
            have ok4 := ok.mono EE R
            exact ⟨ok4.1, fun i lv hi => let ⟨u, u1, u2⟩ := ok4.2 i lv hi; ⟨u, u1, RL.keep k4 u2⟩⟩
          exact hN W4 _ (vs ++ [y]) ((E.trans EE).loose hn hc) (R4.loose l4 hD4 hc) l4 upd_same (RLs.keep k4 (ra4.append (.cons ry .nil))) envk
      · rename_i m3 hT
        cases hf
        refine ⟨W2, e1, m2, false, _, R2, ok2, hT, fun W3 H3 E3 R3 => iteF ?_⟩
        have EE := E'.trans (E2.trans E3)
        obtain ⟨l4, hD4⟩ := l.ext hD EE
        exact hN W3 H3 vs (E.trans EE) R3 l4 hD4 (by simpa using RLs.mono EE R ra) (ok.mono EE R)
      · cases hf
  · cases hf
/-! ### the loop -/
theorem comp_items {K : PySem.W.Frag} {W1 : Wd} {H1 : Hp} {μ1 μ' : Sto} {J : It} {D : Addr} {σ : List (Option V)} {e : Env} {xs rs : List LV} {t : TM} {ifs : List EM} {own L : List Nat} {Q : VK}
    (hn : H1 D = none) (R1 : Rel K W1 H1 μ1) (ok1 : EnvOk K W1 H1 σ e) (wk : Walks K W1 H1 μ1 J xs) (hlen : xs.length ≤ LINE) (hL : ∀ i ∈ L, i ∈ own) (hf : compItems (compOne fe t ifs own) xs e μ1 = some (rs, μ'))
    (q : ∀ W H vs, Ext W1 H1 μ1 W H μ' → Rel K W H μ' → RLs K W H vs rs → H D = none → Q (.ref D) (upd H D (.lst vs))) :
    ∃ Wn : Nat → Nat → Hp → Prop, (∃ m, Wn 0 m (upd H1 D (.lst []))) ∧ ∀ i m H, Wn i m H → (J.stop i H ∧ Q (.ref D) H) ∨ (J.go i H ∧ ∃ Nx : Hp → Prop, (∀ H', Nx H' → ∃ m', m' < m ∧ Wn (i + 1) m' H') ∧
      ∀ x H', J.yld i H x H' → tG K L t x (wipe σ own) H' fun σ2 H2 => wipe σ2 own = wipe σ own ∧ tTs K ifs σ2 H2 fun b H3 => if b = true then tE K fe σ2 H3 fun y H4 => ∃ acc, H4 D = some (HO.lst acc) ∧ acc.length < sizeLine ∧ Nx (upd H4 D (.lst (acc ++ [y]))) else Nx H3) := by
  have E0 : Ext W1 H1 μ1 W1 (upd H1 D (.lst [])) μ1 := ext_new _ hn
  have l0 : Loose W1 μ1 D := ⟨fun hF => (by obtain ⟨⟨vs, h⟩, _⟩ := R1.frz D hF; rw [hn] at h; cases h), R1.notNew hn⟩
  refine ⟨fun i m H => ∃ W μ acc vs rest, m = xs.length - i ∧ i ≤ xs.length ∧ Ext W1 H1 μ1 W H μ ∧ Rel K W H μ ∧ Loose W μ D ∧ H D = some (HO.lst vs) ∧ RLs K W H vs acc ∧ EnvOk K W H σ e ∧ compItems (compOne fe t ifs own) (xs.drop i) e μ = some (rest, μ') ∧ rs = acc ++ rest ∧ acc.length ≤ i,
    ⟨xs.length, W1, μ1, [], [], rs, by simp, Nat.zero_le _, E0, R1.new _ hn, l0, upd_same, .nil, ok1.mono E0 R1, by simpa using hf, rfl, Nat.le_refl _⟩, ?_⟩
  rintro i m H ⟨W, μ, acc, vs, rest, rfl, hi, E, R, l, hD, ra, ok, hr, er, ha⟩
  by_cases hlt : i < xs.length
  · rw [List.drop_eq_getElem_cons hlt] at hr
    simp only [compItems] at hr
    refine .inr ⟨wk.go i W H μ E R hlt, fun H' => ∃ W μ acc vs rest, Ext W1 H1 μ1 W H' μ ∧ Rel K W H' μ ∧ Loose W μ D ∧ H' D = some (HO.lst vs) ∧ RLs K W H' vs acc ∧ EnvOk K W H' σ e ∧ compItems (compOne fe t ifs own) (xs.drop (i + 1)) e μ = some (rest, μ') ∧ rs = acc ++ rest ∧ acc.length ≤ i + 1,
      fun H' ⟨W, μ, acc, vs, rest, h1, h2, h3, h4, h5, h6, h7, h8, h9⟩ => ⟨xs.length - (i + 1), by omega, W, μ, acc, vs, rest, rfl, hlt, h1, h2, h3, h4, h5, h6, h7, h8, h9⟩, fun v H' hy => ?_⟩
    obtain ⟨W', E', R', rv⟩ := wk.yl i W H μ v H' _ E R (List.getElem?_eq_getElem hlt) hy
    cases hc : compOne fe t ifs own xs[i] e μ with
    | none => rw [hc] at hr; cases hr
    | some r =>
      obtain ⟨oy, m1⟩ := r
      rw [hc] at hr
      refine comp_turn hn E R l hD ra (by omega) E' R' rv hc hL ok _ fun W4 H4 vs' E4 R4 l4 hD4 ra4 ok4 => ?_
      cases oy with
      | none => exact ⟨W4, m1, acc, vs', rest, E4, R4, l4, hD4, by simpa using ra4, ok4, hr, er, by omega⟩
      | some y =>
        simp only at hr
        cases hz : compItems (compOne fe t ifs own) (xs.drop (i + 1)) e m1 with
        | none => rw [hz] at hr; cases hr
        | some r2 =>
          rw [hz] at hr; cases hr
          refine ⟨W4, m1, acc ++ [y], vs', r2.1, E4, R4, l4, hD4, ra4, ok4, hz, by rw [er, List.append_assoc]; rfl, by rw [List.length_append]; simp; omega⟩
  · have e1 : i = xs.length := by omega
    subst e1
    rw [List.drop_length] at hr
    simp only [compItems] at hr
    cases hr
    have hdc : ∀ b, b ≠ D → dropAt H D b = H b := fun b hb => dropAt_ne b hb
    have kd : Keep W.F H W.F (dropAt H D) := l.keepAt hD hdc
    refine .inl ⟨wk.st W H _ E R, ?_⟩
    have := q W (dropAt H D) vs (E.loose hn hdc) (R.loose l hD hdc) (by rw [er, List.append_nil]; exact RLs.keep kd ra) dropAt_same
    rw [dropAt_upd hD] at this
    exact this
theorem comp_cell {K : PySem.W.Frag} {W1 : Wd} {H1 : Hp} {μ1 μ' : Sto} {a D : Addr} {σ : List (Option V)} {e : Env} {k n : Nat} {rs : List LV} {t : TM} {ifs : List EM} {own L : List Nat} {Q : VK}
    (hn : H1 D = none) (R1 : Rel K W1 H1 μ1) (ok1 : EnvOk K W1 H1 σ e) (hk : W1.m[k]? = some a) (hlen : n ≤ LINE) (hL : ∀ i ∈ L, i ∈ own) (hf : compCell (compOne fe t ifs own) k n n e μ1 = some (rs, μ'))
    (q : ∀ W H vs, Ext W1 H1 μ1 W H μ' → Rel K W H μ' → RLs K W H vs rs → H D = none → Q (.ref D) (upd H D (.lst vs))) :
    ∃ Wn : Nat → Nat → Hp → Prop, (∃ m, Wn 0 m (upd H1 D (.lst []))) ∧ ∀ i m H, Wn i m H → ((Itl K a).stop i H ∧ Q (.ref D) H) ∨ ((Itl K a).go i H ∧ ∃ Nx : Hp → Prop, (∀ H', Nx H' → ∃ m', m' < m ∧ Wn (i + 1) m' H') ∧
      ∀ x H', (Itl K a).yld i H x H' → tG K L t x (wipe σ own) H' fun σ2 H2 => wipe σ2 own = wipe σ own ∧ tTs K ifs σ2 H2 fun b H3 => if b = true then tE K fe σ2 H3 fun y H4 => ∃ acc, H4 D = some (HO.lst acc) ∧ acc.length < sizeLine ∧ Nx (upd H4 D (.lst (acc ++ [y]))) else Nx H3) := by
  have E0 : Ext W1 H1 μ1 W1 (upd H1 D (.lst [])) μ1 := ext_new _ hn
  have l0 : Loose W1 μ1 D := ⟨fun hF => (by obtain ⟨⟨vs, h⟩, _⟩ := R1.frz D hF; rw [hn] at h; cases h), R1.notNew hn⟩
  refine ⟨fun i m H => ∃ W μ acc vs rest, i + m = n ∧ Ext W1 H1 μ1 W H μ ∧ Rel K W H μ ∧ Loose W μ D ∧ H D = some (HO.lst vs) ∧ RLs K W H vs acc ∧ EnvOk K W H σ e ∧ compCell (compOne fe t ifs own) k n m e μ = some (rest, μ') ∧ rs = acc ++ rest ∧ acc.length ≤ i,
    ⟨n, W1, μ1, [], [], rs, by omega, E0, R1.new _ hn, l0, upd_same, .nil, ok1.mono E0 R1, hf, rfl, Nat.le_refl _⟩, ?_⟩
  rintro i m H ⟨W, μ, acc, vs, rest, hi, E, R, l, hD, ra, ok, hr, er, ha⟩
  have hk2 := E.at hk
  cases m with
  | zero =>
    simp only [compCell] at hr
    split at hr
    · rename_i ys hy
      split at hr
      · rename_i hyn
        cases hr
        obtain ⟨ws, hv, hl⟩ := R.cell k a ys hk2 hy
        have hdc : ∀ b, b ≠ D → dropAt H D b = H b := fun b hb => dropAt_ne b hb
        have kd : Keep W.F H W.F (dropAt H D) := l.keepAt hD hdc
        refine .inl ⟨⟨ws, .of hv, by rw [hl.length]; omega⟩, ?_⟩
        have := q W (dropAt H D) vs (E.loose hn hdc) (R.loose l hD hdc) (by rw [er, List.append_nil]; exact RLs.keep kd ra) dropAt_same
        rw [dropAt_upd hD] at this
        exact this
      · cases hr
    · cases hr
  | succ m =>
    simp only [compCell] at hr
    split at hr
    · rename_i ys hy
      split at hr
      · rename_i hyn
        have hix : n - (m + 1) = i := by omega
        rw [hix] at hr
        split at hr
        · rename_i x hx
          obtain ⟨ws, hv, hl⟩ := R.cell k a ys hk2 hy
          obtain ⟨v0, hv0, rv0⟩ := hl.get hx
          refine .inr ⟨⟨ws, v0, .of hv, hv0⟩, fun H' => ∃ W μ acc vs rest, Ext W1 H1 μ1 W H' μ ∧ Rel K W H' μ ∧ Loose W μ D ∧ H' D = some (HO.lst vs) ∧ RLs K W H' vs acc ∧ EnvOk K W H' σ e ∧ compCell (compOne fe t ifs own) k n m e μ = some (rest, μ') ∧ rs = acc ++ rest ∧ acc.length ≤ i + 1,
            fun H' ⟨W, μ, acc, vs, rest, h1, h2, h3, h4, h5, h6, h7, h8, h9⟩ => ⟨m, by omega, W, μ, acc, vs, rest, by omega, h1, h2, h3, h4, h5, h6, h7, h8, h9⟩, fun v H' hyl => ?_⟩
          obtain ⟨rfl, hyl⟩ := hyl
          have ev := hyl ws (.of hv)
          rw [hv0] at ev; cases ev
          cases hc : compOne fe t ifs own x e μ with
          | none => rw [hc] at hr; cases hr
          | some r =>
            obtain ⟨oy, m1⟩ := r
            rw [hc] at hr
            refine comp_turn hn E R l hD ra (by omega) .refl R rv0 hc hL ok _ fun W4 H4 vs' E4 R4 l4 hD4 ra4 ok4 => ?_
            cases oy with
            | none => exact ⟨W4, m1, acc, vs', rest, E4, R4, l4, hD4, by simpa using ra4, ok4, hr, er, by omega⟩
            | some y =>
              simp only at hr
              cases hz : compCell (compOne fe t ifs own) k n m e m1 with
              | none => rw [hz] at hr; cases hr
              | some r2 =>
                rw [hz] at hr; cases hr
                refine ⟨W4, m1, acc ++ [y], vs', r2.1, E4, R4, l4, hD4, ra4, ok4, hz, by rw [er, List.append_assoc]; rfl, by rw [List.length_append]; simp; omega⟩
        · cases hr
      · cases hr
    · cases hr
theorem comp_core {tl : Unit} {fi : IM} {t : TM} {ifs : List EM} {own L : List Nat} (hL : ∀ i ∈ L, i ∈ own) {σ : List (Option V)} {H : Hp} {Q : VK} (h : tL X.K (lComp fe t fi ifs own) σ H Q) : tLc (tI X.K fi) (tG X.K L t) (tTs X.K ifs) (tE X.K fe) own σ H Q := by
  obtain ⟨W, e, μ, rs, μ', R, E, hf, q⟩ := h
  unfold lComp at hf
  split at hf
  · rename_i i m1 h1
    refine ⟨W, e, μ, i, m1, R, E, h1, fun W1 H1 J E1 R1 wk D hD => ?_⟩
    cases i with
    | items xs =>
      simp only [compOver] at hf
      split at hf
      · rename_i hlen
        exact comp_items hD R1 (E.mono E1 R) wk hlen hL hf fun W2 H2 vs E2 R2 rr hn2 => q W2 H2 vs (E1.trans E2) R2 rr D hn2
      · cases hf
    | cell k =>
      obtain ⟨ad, hk, rfl⟩ := wk
      simp only [compOver] at hf
      split at hf
      · split at hf
        · rename_i hlen
          exact comp_cell hD R1 (E.mono E1 R) hk hlen hL hf fun W2 H2 vs E2 R2 rr hn2 => q W2 H2 vs (E1.trans E2) R2 rr D hn2
        · cases hf
      · cases hf
  · cases hf
theorem sl_comp {tg it : Expr} {as : List Expr} {scope : Scope} {names : List (Str × Nat)} {fi : IM} {t : TM} {ifs : List EM} {L : List Nat} (hc : X.calm = true) (hN : X.N.Nodup) (hi : SI X tg it fi) (ok : BlkOk X.N X.env.scope scope names) (hs : ∀ x, foldedSetIterable it X.env x = pure x)
    (hL : ∀ i ∈ L, i ∈ names.map (·.2))
    (hg : ∀ (s : Shared) (H : Hp) (C : Addr) (cl : List (Str × Addr)) (fp : List Addr), SG (X.blk s H scope (compEnvC scope cl C X.env) fp) tg L t)
    (ht : ∀ (s : Shared) (H : Hp) (C : Addr) (cl : List (Str × Addr)) (fp : List Addr), STs (X.blk s H scope (compEnvC scope cl C X.env) fp) as ifs)
    (he : ∀ (s : Shared) (H : Hp) (C : Addr) (cl : List (Str × Addr)) (fp : List Addr), SE (X.blk s H scope (compEnvC scope cl C X.env) fp) a fe) :
    SL X (.ListComp a [⟨tg, it, as, 0⟩] scope pos) (lComp fe t fi ifs (names.map (·.2))) :=
  (pe_lc hc hN hi ok hg ht he hs).imp fun σ H Q h => comp_core (tl := ()) hL h
/-- name = [..] -/
theorem ss_setComp {i : Nat} {y : Str} {py spos : Pos} {tg it : Expr} {as : List Expr} {scope : Scope} {names : List (Str × Nat)} {fi : IM} {t : TM} {ifs : List EM} {L : List Nat} {g : EM} (hc : X.calm = true) (hN : X.N.Nodup) (hy : X.N[i]? = some y) (hyl : X.env.scope.names.lookup y = some .local)
    (hsw : swapsWith (.ListComp a [⟨tg, it, as, 0⟩] scope pos) (some (.Name y py)) spos.line X.env = pure true) (hi : SI X tg it fi) (ok : BlkOk X.N X.env.scope scope names) (hs : ∀ x, foldedSetIterable it X.env x = pure x)
    (hL : ∀ i ∈ L, i ∈ names.map (·.2))
    (hg : ∀ (s : Shared) (H : Hp) (C : Addr) (cl : List (Str × Addr)) (fp : List Addr), SG (X.blk s H scope (compEnvC scope cl C X.env) fp) tg L t)
    (ht : ∀ (s : Shared) (H : Hp) (C : Addr) (cl : List (Str × Addr)) (fp : List Addr), STs (X.blk s H scope (compEnvC scope cl C X.env) fp) as ifs)
    (he : ∀ (s : Shared) (H : Hp) (C : Addr) (cl : List (Str × Addr)) (fp : List Addr), SE (X.blk s H scope (compEnvC scope cl C X.env) fp) a fe)
    (hgl : g = eLst (lComp fe t fi ifs (names.map (·.2))) ∨ g = eNew (lComp fe t fi ifs (names.map (·.2)))) :
    SS X (.Assign [.Name y py] (.ListComp a [⟨tg, it, as, 0⟩] scope pos) spos) (sAsg (tName i) g) := by
  refine (ps_setLc (g := tG X.K L t) (tt := tTs X.K ifs) (te := tE X.K fe) hc hN hy hyl hsw hi ok hg ht he hs).imp fun D σ H ⟨W, e, μ, o, R, E, hf, q⟩ => ?_
  show tLc (tI X.K fi) (tG X.K L t) (tTs X.K ifs) (tE X.K fe) (names.map (·.2)) σ H fun x H1 => D.nx (σ.set i (some x)) H1
  unfold sAsg at hf
  split at hf
  · rename_i v m1 h1
    cases hr : tName i v e m1 with
    | none => cases hr
    | some r =>
      rw [hr] at hf; cases hf
      cases hr
      have fin : ∀ W' H' x, Ext W H μ W' H' m1 → Rel X.K W' H' m1 → RL X.K W' H' x v → D.nx (σ.set i (some x)) H' := fun W' H' x E' R' rx => q W' H' _ E' R' ((E.mono E' R).set rx i)
      refine comp_core (tl := ()) hL ?_
      rcases hgl with rfl | rfl
      · unfold eLst at h1
        split at h1
        · rename_i vs m2 h2
          cases ha : allD vs with
          | none => rw [ha] at h1; cases h1
          | some xs =>
            rw [ha] at h1; cases h1
            exact ⟨W, e, μ, vs, _, R, E, h2, fun W1 H1 us E1 R1 rs => post_lst (Q := fun x H1 => D.nx (σ.set i (some x)) H1) R1 (rs.all ha) fun W' H' u E2 R2 ru => fin W' H' u (E1.trans E2) R2 ru⟩
        · cases h1
      · unfold eNew at h1
        split at h1
        · rename_i vs m2 h2
          cases h1
          refine ⟨W, e, μ, vs, _, R, E, h2, fun W1 H1 us E1 R1 rs p hp => ?_⟩
          have E2 := ext_more us vs R1 hp
          refine fin _ _ _ (E1.trans E2) (R1.newCell hp rs) ⟨p, ?_, rfl⟩
          show (W1.m ++ [p])[m2.length]? = some p
          rw [← R1.len, List.getElem?_append_right (Nat.le_refl _), Nat.sub_self]
          rfl
        · cases h1
  · cases hf
end
end Gg

end
section
/-! GMore: x[::-1], list(range(..)), [..] * n, a list that changes no more. -/
namespace Gg
section
open PySem PySem.Spec PyProof.Rows L2 HT
variable {prog : Program} {w : World} {A : Around} {E : Value → Shared → Prop} {s : Shared}
theorem adj_rev (n : Nat) : Builtin.Slice.sliceAdjust none none (-1) (n : Int) = ((n : Int) - 1, -1) := rfl
theorem places_rev (n : Nat) : Builtin.Slice.slicePlaces ((n : Int) - 1) (-1) (-1) = n := by
  unfold Builtin.Slice.slicePlaces
  rw [if_neg (by decide)]
  by_cases h : (n : Int) - 1 > -1
  · rw [if_pos h, show (-(-1) : Int) = 1 by decide, Int.ediv_one]; omega
  · rw [if_neg h]; omega
theorem pick_rev (xs : Array Value) : ((List.range xs.size).filterMap fun (k : Nat) => xs[((xs.size : Int) - 1 + (k : Int) * (-1)).toNat]?).toArray = xs.toList.reverse.toArray := by
  congr 1
  have key : ∀ l : List Value, ∀ n, n ≤ l.length → (List.range n).filterMap (fun k => l[n - 1 - k]?) = (l.take n).reverse := by
    intro l n
    induction n with
    | zero => intro _; rfl
    | succ n ih =>
      intro hn
      rw [List.range_succ_eq_map, List.filterMap_cons, List.filterMap_map]
      have e0 : l[n + 1 - 1 - 0]? = some l[n] := by
        rw [show n + 1 - 1 - 0 = n by omega]; exact List.getElem?_eq_getElem (by omega)
      rw [e0]
      have e1 : ((fun k => l[n + 1 - 1 - k]?) ∘ Nat.succ) = fun k => l[n - 1 - k]? := by
        funext k
        show l[n + 1 - 1 - (k + 1)]? = l[n - 1 - k]?
        congr 1; omega
      have e2 : l.take (n + 1) = l.take n ++ [l[n]] := by
        rw [List.take_add_one, List.getElem?_eq_getElem (show n < l.length by omega)]; rfl
      rw [e1, ih (by omega), e2, List.reverse_append]
      rfl
  have h2 := key xs.toList xs.size (by simp)
  rw [show xs.toList.take xs.size = xs.toList by rw [List.take_of_length_le]; simp] at h2
  rw [← h2]
  have fcongr : ∀ {f g : Nat → Option Value} {l : List Nat}, (∀ k ∈ l, f k = g k) → l.filterMap f = l.filterMap g := by
    intro f g l
    induction l with
    | nil => intro _; rfl
    | cons a l ih =>
      intro hh
      rw [List.filterMap_cons, List.filterMap_cons, hh a List.mem_cons_self, ih fun k hk => hh k (List.mem_cons_of_mem _ hk)]
  refine fcongr fun k hk => ?_
  have := List.mem_range.mp hk
  rw [show ((xs.size : Int) - 1 + (k : Int) * (-1)).toNat = xs.size - 1 - k by omega]
  simp
theorem applied_rev {sl : Addr} {vl vu vt : Value} {n : Nat} {Q : Int × Int × Nat → Shared → Prop} (hs : s.heap.IsSliceOf sl vl vu vt) (pl : IsPart vl none) (pu : IsPart vu none) (pt : IsPart vt (some (-1)))
    (h : Q ((n : Int) - 1, -1, n) s) : wpAny (model prog w) A (Builtin.Slice.sliceApplied (.ref sl) (pure (n : Int))) Q E s := by
  obtain ⟨ob, hob, hcl, hda⟩ := id hs
  unfold Builtin.Slice.sliceApplied Builtin.Slice.sliceFields
  refine wpAny_bind (wpAny_bind (wpAny_field hob hda (x := vl) rfl (wpAny_bind (wpAny_field hob hda (x := vu) rfl (wpAny_bind (wpAny_field hob hda (x := vt) rfl (wpAny_pure ?_)))))))
  refine wpAny_bind (slicePart_ pt ?_)
  show wpAny _ _ (if ((-1 : Int) == 0) = true then _ else _) _ _ s
  rw [if_neg (by decide)]
  refine wpAny_bind (slicePart_ pl (wpAny_bind (slicePart_ pu (wpAny_bind (wpAny_pure ?_)))))
  show wpAny _ _ (match Builtin.Slice.sliceAdjust none none (-1) (n : Int) with | (lo, hi) => pure (lo, (-1 : Int), Builtin.Slice.slicePlaces lo hi (-1))) _ _ s
  rw [adj_rev]
  show wpAny _ _ (pure ((n : Int) - 1, (-1 : Int), Builtin.Slice.slicePlaces ((n : Int) - 1) (-1) (-1))) _ _ s
  rw [places_rev]
  exact wpAny_pure h
theorem tup_rev {t sl : Addr} {items : Array Value} {vl vu vt : Value} {Q : Value → Shared → Prop} (ht : IsTup s.heap t items) (hs : s.heap.IsSliceOf sl vl vu vt) (pl : IsPart vl none) (pu : IsPart vu none) (pt : IsPart vt (some (-1)))
    (h : Q (.ref s.heap.objs.size) { s with heap := s.heap.push { cls := .type "tuple", data := .seq items.toList.reverse.toArray } }) (hz : items.size ≤ sizeLine) : wpAny (model prog w) A (getItem (.ref t) (.ref sl)) Q E s := by
  have fits : sizeOk (.seq items.toList.reverse.toArray) := by
    show items.toList.reverse.toArray.size ≤ sizeLine
    rw [List.size_toArray, List.length_reverse, Array.length_toList]; exact hz
  obtain ⟨ob, hob, hcl, hda⟩ := id hs
  have tySl : s.TypeIs (.ref sl) "slice" := ⟨ob, hob, hcl⟩
  unfold getItem
  try with_reducible refine wpAny_holding ?_
  first | refine wpAny_bind (wpAny_pure ?_) | skip
  refine wpAny_bind (wpAny_sequenceKey ht.typeIs (by decide) ?_)
  refine wpAny_bind (wpAny_callSpecial?_slot (name := Str.ofString "__getitem__") ht.typeIs slot_tuple_getitem (wpAny_call_entry slot_tuple_getitem ht.typeIs entry_tuple_getitem ?_ (args_tuple_getitem _ _)))
  show wpAny _ _ (Builtin.Tuple.tupleItemsOf (.ref t) >>= _) _ _ s
  refine wpAny_bind (tupleItemsOf_ ht (wpAny_bind (wpAny_typeOf tySl ?_)))
  rw [if_pos (by decide)]
  refine wpAny_bind (applied_rev hs pl pu pt ?_)
  have hno : ¬ (((items.size : Int) - 1 == 0 && (-1 : Int) == 1 && items.size == items.size) = true) := by
    intro q
    rw [Bool.and_eq_true, Bool.and_eq_true] at q
    exact absurd q.1.2 (by decide)
  show wpAny _ _ (if ((items.size : Int) - 1 == 0 && (-1 : Int) == 1 && items.size == items.size) = true then _ else _) _ _ s
  rw [if_neg hno, pick_rev]
  first
    | exact wpAny_bind (m := Builtin.Tuple.tupleExact _) (wpAny_newObj_type (wpAny_pure ⟨_, rfl, wpAny_pure h⟩) fits)
    | exact wpAny_bind (wpAny_bind (m := Builtin.Tuple.tupleExact _) (wpAny_newObj_type (wpAny_pure (wpAny_pure ⟨_, rfl, wpAny_pure h⟩)) fits))
    | exact wpAny_bind (m := Builtin.Tuple.tupleExact _) (wpAny_newObj_type (wpAny_bind (wpAny_pure (wpAny_pure ⟨_, rfl, wpAny_pure h⟩))) fits)
theorem pe_rev {X : Cx} {a : PySem.Expr} {ta : TE} {k : Nat} {p1 p2 p3 pos : Pos} (ha : PE X a ta) : PE X (.Subscript a (.Slice none none (some (.UnaryOp .USub (.Constant (.int 1) k p1) p2)) p3) pos)
    (fun σ H Q => ta σ H fun x H1 => (∃ ad xs, x = .ref ad ∧ SqL X.K H1 ad xs ∧ ∀ p, H1 p = none → Q (.ref p) (upd H1 p (.lst xs.reverse))) ∨ ∃ ad xs, x = .ref ad ∧ SqT X.K H1 ad xs ∧ ∀ p, H1 p = none → Q (.ref p) (upd H1 p (.tup xs.reverse))) := by
  refine ⟨fun pins s σ H Q I h => Subscript_ (thn (ha.run pins s σ H _ I h) fun v s1 ⟨x, H1, I1, r1, q1⟩ => ?_)⟩
  have step : PO X (some (.UnaryOp .USub (.Constant (.int 1) k p1) p2)) (tPart (tUn (rU fun i => .int (-i)) (tC (.int 1)))) := po_some (pe_un un_neg pe_int)
  refine wpAny_Slice (thn (po_none.run pins s1 σ H1 (fun oo Hx => oo = none ∧ Hx = H1) I1 ⟨rfl, rfl⟩) fun vl s2 ⟨l, H2, I2, pl, el, e2⟩ => ?_)
  subst el e2
  refine thn (po_none.run pins s2 σ H2 (fun oo Hx => oo = none ∧ Hx = H2) I2 ⟨rfl, rfl⟩) fun vu s3 ⟨u, H3, I3, pu, eu, e3⟩ => ?_
  subst eu e3
  refine thn (step.run pins s3 σ H3 (fun oo Hx => oo = some (-1) ∧ Hx = H3) I3 ⟨1, rfl, -1, rfl, rfl, rfl⟩) fun vt s4 ⟨oo, H4, I4, pt, eo, e4⟩ => ?_
  subst eo e4
  have I5 : Inv X pins σ H4 { s4 with heap := s4.heap.push { cls := .type "slice", data := .fields #[vl, vu, vt] } } := I4.kept (t' := s4.toks) fun b ob q => Heap.get?_push_of_some _ q
  rcases q1 with ⟨ad, xs, rfl, hx, q⟩ | ⟨ad, xs, rfl, hx, q⟩
  · cases r1
    obtain ⟨its, r, ht, hz⟩ := I5.list hx
    have hlen := r.length
    show wpAny (model X.prog X.w) X.A (subscriptTail a (.Slice none none (some (.UnaryOp .USub (.Constant (.int 1) k p1) p2)) p3) (.ref ad) (.ref s4.heap.objs.size)) _ _ _
    refine tail_any (ops := [.ref ad, .ref s4.heap.objs.size]) ht.isList.typeIs PySem.slot_list_getitem.lookup ?_ (by with_unfolding_all rfl)
    refine wpAny_getItem_list_slice ht.isList (Heap.IsSliceOf.new _ vl vu vt) pl pu pt (by decide) ?_ (by rw [List.size_toArray]; omega)
    rw [PySem.W.krv_pick]
    exact ⟨.ref _, _, I5.lnew (t' := s4.toks) (its := its.reverse) r.reverse (by rw [List.length_reverse]; exact hz), rfl, q _ I5.fresh⟩
  · cases r1
    obtain ⟨its, r, ht, hz⟩ := I5.tuple hx
    have hlen := r.length
    show wpAny (model X.prog X.w) X.A (subscriptTail a (.Slice none none (some (.UnaryOp .USub (.Constant (.int 1) k p1) p2)) p3) (.ref ad) (.ref s4.heap.objs.size)) _ _ _
    refine tail_any (ops := [.ref ad, .ref s4.heap.objs.size]) ht.typeIs slot_tuple_getitem.lookup ?_ (by with_unfolding_all rfl)
    refine tup_rev ht (Heap.IsSliceOf.new _ vl vu vt) pl pu pt ?_ (by rw [List.size_toArray]; omega)
    refine ⟨.ref _, _, I5.laid (t' := s4.toks) (o := .tup xs.reverse) (fun b ob q => Heap.get?_push_of_some _ q) (Nat.le_refl _) ?_, rfl, q _ I5.fresh⟩
    exact ⟨by rw [List.length_reverse]; exact hz, _, r.reverse, ⟨_, Heap.get?_push_size _ rfl, rfl, _, rfl⟩⟩
end
open PySem L2
section
variable {K : PySem.W.Frag} {W : Wd} {H : Hp} {μ : Sto}
variable {X : Cx} {a b c o : Expr} {fa fb fc fe : EM} {pos p : Pos}
theorem se_rev {k : Nat} {p1 p2 p3 : Pos} (ha : SE X a fa) : SE X (.Subscript a (.Slice none none (some (.UnaryOp .USub (.Constant (.int 1) k p1) p2)) p3) pos) (eUn revD fa) := by
  refine (pe_rev ha).imp fun σ H Q ⟨W, e, μ, r, μ', R, E, hf, q⟩ => ?_
  unfold eUn at hf
  split at hf
  · rename_i v m1 h1
    split at hf
    · rename_i x hx
      cases hz : revD x with
      | none => rw [hz] at hf; cases hf
      | some z =>
        rw [hz] at hf; cases hf
        refine ⟨W, e, μ, v, _, R, E, h1, fun W1 H1 u E1 R1 ru => ?_⟩
        have t := rd_ok R1 ru hx
        have q' : Post X.K W1 H1 μ' μ' (.d z) Q := fun W4 H4 v4 E4 R4 r4 => q W4 H4 v4 (E1.trans E4) R4 r4
        unfold revD at hz
        split at hz
        · cases hz
          obtain ⟨ad, vs, rfl, g1, g2⟩ := t
          exact .inl ⟨ad, vs, rfl, .of g1, post_lst R1 g2.reverse q'⟩
        · cases hz
          cases t with
          | tup g1 g2 => exact .inr ⟨_, _, rfl, g1, post_tup R1 g2.reverse q'⟩
        · cases hz
    · cases hf
  · cases hf
theorem RLs.reverse {vs : List V} {xs : List LV} (h : RLs K W H vs xs) : RLs K W H vs.reverse xs.reverse := by
  induction h with
  | nil => exact .nil
  | cons a _ ih => rw [List.reverse_cons, List.reverse_cons]; exact ih.append (.cons a .nil)
/-- as a new list -/
theorem sl_rev {k : Nat} {p1 p2 p3 : Pos} (ha : SE X a fa) : SL X (.Subscript a (.Slice none none (some (.UnaryOp .USub (.Constant (.int 1) k p1) p2)) p3) pos) (lRev fa) := by
  refine (pe_rev ha).imp fun σ H Q ⟨W, e, μ, r, μ', R, E, hf, q⟩ => ?_
  unfold lRev at hf
  split at hf
  · rename_i xs m1 h1
    cases hf
    refine ⟨W, e, μ, _, _, R, E, h1, fun W1 H1 u E1 R1 ru => ?_⟩
    cases ru with
    | lst g1 g2 g3 => exact .inl ⟨_, _, rfl, .of g2, q W1 H1 _ E1 R1 (RPs.rls g3.reverse)⟩
  · rename_i k m1 h1
    split at hf
    · rename_i xs hx
      cases hf
      refine ⟨W, e, μ, _, _, R, E, h1, fun W1 H1 u E1 R1 ru => ?_⟩
      obtain ⟨ad, hk, rfl⟩ := ru
      obtain ⟨vs, g1, g2⟩ := R1.cell _ ad xs hk hx
      exact .inl ⟨ad, vs, rfl, .of g1, q W1 H1 _ E1 R1 g2.reverse⟩
    · cases hf
  · cases hf
/-! ### a list that changes no more -/
theorem setSame (R : Rel K W H μ) {k : Nat} {ad : Addr} {vs : List V} {xs ys : List LV} (hk : W.m[k]? = some ad) (hx : μ[k]? = some (Cell.lst xs)) (hv : H ad = some (.lst vs)) (r : RLs K W H vs ys) : Rel K W H (μ.set k (.lst ys)) ∧ Ext W H μ W H (μ.set k (.lst ys)) := by
  have e : upd H ad (.lst vs) = H := by
    funext b
    by_cases h : b = ad
    · rw [h, upd_same, hv]
    · rw [upd_ne h]
  have R' := R.setCell hk hx (vs' := vs) (xs' := ys) r
  have E' := ext_set R hk hx (vs' := vs) (xs' := ys)
  rw [e] at R' E'
  exact ⟨R', E'⟩
/-- all is read at the heap as it stands -/
def FrzOk (K : PySem.W.Frag) (f : Sto → LV → Option (PyData × Sto)) : Prop := ∀ (W : Wd) (H : Hp) (μ μ' : Sto) (v : V) (x : LV) (y : PyData), Rel K W H μ → RL K W H v x → f μ x = some (y, μ') → ∃ F', Ext W H μ ⟨W.m, F'⟩ H μ' ∧ Rel K ⟨W.m, F'⟩ H μ' ∧ RP K F' H v y
theorem frzM_ok {K : PySem.W.Frag} {f : Sto → LV → Option (PyData × Sto)} (hf : FrzOk K f) : ∀ {vs : List V} {xs : List LV} (W : Wd) (H : Hp) (μ μ' : Sto) (ys : List PyData), Rel K W H μ → RLs K W H vs xs → frzM f μ xs = some (ys, μ') → ∃ F', Ext W H μ ⟨W.m, F'⟩ H μ' ∧ Rel K ⟨W.m, F'⟩ H μ' ∧ RPs K F' H vs ys
  | _, _, W, H, μ, μ', ys, R, .nil, h => by cases h; exact ⟨W.F, .refl, R, .nil⟩
  | _, _, W, H, μ, μ', ys, R, .cons a t, h => by
    simp only [frzM] at h
    split at h
    · rename_i y m1 h1
      split at h
      · rename_i zs m2 h2
        cases h
        obtain ⟨F1, E1, R1, r1⟩ := hf W H μ m1 _ _ y R a h1
        obtain ⟨F2, E2, R2, r2⟩ := frzM_ok hf ⟨W.m, F1⟩ H m1 _ zs R1 (RLs.mono E1 R t) h2
        exact ⟨F2, E1.trans E2, R2, .cons (RP.mono (E2.kp R1) r1) r2⟩
      · cases h
    · cases h
theorem frzV_ok {K : PySem.W.Frag} : ∀ n, FrzOk K (frzV n)
  | 0, W, H, μ, μ', v, x, y, R, r, h => by
    cases x with
    | d z => cases h; exact ⟨W.F, .refl, R, r⟩
    | ref k => cases h
    | ro _ => cases h
    | tr _ _ => cases h
  | n + 1, W, H, μ, μ', v, x, y, R, r, h => by
    cases x with
    | d z => cases h; exact ⟨W.F, .refl, R, r⟩
    | ro _ => cases h
    | tr _ _ => cases h
    | ref k =>
      simp only [frzV] at h
      split at h
      · rename_i xs hx
        split at h
        · rename_i ys m1 h1
          split at h
          · rename_i zs hz
            cases h
            obtain ⟨ad, hk, rfl⟩ := r
            obtain ⟨vs, g1, g2⟩ := R.cell k ad xs hk hx
            obtain ⟨F1, E1, R1, r1⟩ := frzM_ok (frzV_ok n) W H μ m1 ys R g2 h1
            obtain ⟨R2, E2⟩ := setSame R1 (ys := ys.map .d) hk hz g1 (RPs.rls (W := ⟨W.m, F1⟩) r1)
            have hx2 : (m1.set k (.lst (ys.map LV.d)))[k]? = some (Cell.lst (ys.map LV.d)) := List.getElem?_set_self (live_lt ⟨zs, hz⟩)
            have E3 := ext_dead (H := H) (W := ⟨W.m, F1⟩) hk hx2
            have R3 := R2.dead hk hx2
            have es : (m1.set k (.lst (ys.map LV.d))).set k .dead = m1.set k .dead := by rw [List.set_set]
            rw [es] at E3 R3
            exact ⟨_, (E1.trans E2).trans E3, R3, .lst (.inr rfl) g1 (RPs.mono (E3.kp R2) (RPs.mono (E2.kp R1) r1))⟩
          · cases h
        · cases h
      · cases h
theorem se_frz {i : Nat} {x : Str} (hN : X.N[i]? = some x) (hv : Vis X.env.scope x) (hd : (x == ("__debug__" : Str)) = false) (hcd : (x == ("__classdict__" : Str)) = false) : SE X (.Name x pos) (eFrz i) := by
  refine (pe_var hN hv hd hcd).imp fun σ H Q ⟨W, e, μ, r, μ', R, E, hf, q⟩ => ?_
  unfold eFrz at hf
  split at hf
  · rename_i v hk
    cases hz : frzV FRZ μ v with
    | none => rw [hz] at hf; cases hf
    | some z =>
      rw [hz] at hf; cases hf
      obtain ⟨u, h1, h2⟩ := E.2 i _ hk
      obtain ⟨F', E1, R1, r1⟩ := frzV_ok FRZ W H μ z.2 u v z.1 R h2 hz
      exact ⟨u, h1, q ⟨W.m, F'⟩ H u E1 R1 r1⟩
  · cases hf
/-! ### [..] * n -/
theorem sl_rep {l : LM} (ha : SL X a l) (hb : SE X b fb) : SL X (.BinOp a .Mult b pos) (lRep l fb) := by
  refine (pe_op op_rep ha hb).imp fun σ H Q ⟨W, e, μ, rs, μ', R, E, hf, q⟩ => ?_
  unfold lRep at hf
  split at hf
  · rename_i xs m1 h1
    split at hf
    · rename_i k m2 h2
      split at hf
      · rename_i hz
        cases hf
        refine ⟨W, e, μ, xs, m1, R, E, h1, fun W1 H1 us E1 R1 rr p hp => ?_⟩
        have E2 : Ext W1 H1 m1 W1 (upd H1 p (.lst us)) m1 := ext_new _ hp
        have R2 : Rel X.K W1 (upd H1 p (.lst us)) m1 := R1.new _ hp
        have l0 : Loose W1 m1 p := ⟨fun hF => (by obtain ⟨⟨vs, h⟩, _⟩ := R1.frz p hF; rw [hp] at h; cases h), R1.notNew hp⟩
        refine ⟨W1, e, m1, _, _, R2, (E.mono E1 R).mono E2 R1, h2, fun W3 H3 y E3 R3 ry => ?_⟩
        cases ry
        obtain ⟨l3, hp3⟩ := l0.ext upd_same E3
        have rr3 := RLs.mono (E2.trans E3) R1 rr
        have hk := rng_ok hz.2
        refine ⟨p, _, us, rfl, rfl, hp3, by omega, by omega, by rw [rr.length]; exact line_le' hz.1, fun p' hp' => ?_⟩
        exact q W3 H3 _ (E1.trans (E2.trans E3)) R3 (rr3.repl _) p' hp'
      · cases hf
    · cases hf
  · cases hf
/-! ### list(range(..)) -/
def tRg (K : PySem.W.Frag) (f : IM) : List (Option V) → Hp → (Int → Int → Hp → Prop) → Prop := fun σ H Q => ∃ W e μ xs μ', Rel K W H μ ∧ EnvOk K W H σ e ∧ f e μ = some (Itm.items xs, μ') ∧ ∀ W' H' i j, Ext W H μ W' H' μ' → Rel K W' H' μ' → rngOk i = true → rngOk j = true → xs = upTo i (j - i).toNat → Q i j H'
theorem ints_up {K : PySem.W.Frag} {W : Wd} {H : Hp} (lo : Int) (n : Nat) : RLs K W H ((List.range n).map fun i => V.int (lo + (i : Nat))) (upTo lo n) := by
  unfold upTo
  induction List.range n with
  | nil => exact .nil
  | cons k l ih => exact .cons (.int _) ih
theorem sl_range1 {q p' : Pos} (hc : X.calm = true) (hgl : Gl X "list") (hml : X.mg "list" = none) (hg : Gl X "range") (hm : X.mg "range" = none) (hn : notStar a = true) (ha : SE X a fa) : SL X (.Call (.Name "list" p) [.Call (.Name "range" q) [a] [] p'] [] pos) (lRng (iRange [fa])) := by
  refine (pe_listRg hc hgl hml (prg_1 hg hm ha (star_cons hn)) (star_cons rfl)).imp fun σ H Q ⟨W, e, μ, rs, μ', R, E, hf, q⟩ => ?_
  unfold lRng at hf
  split at hf
  · rename_i xs m1 h1
    cases hf
    unfold iRange at h1
    split at h1
    · rename_i j m2 h2
      split at h1
      · rename_i hj
        cases h1
        unfold evalL at h2
        split at h2
        · rename_i v m3 h3
          simp only [evalL] at h2
          cases h2
          have := rng_ok hj
          refine ⟨W, e, μ, _, _, R, E, h3, fun W1 H1 x E1 R1 rx => ⟨j, by cases rx; rfl, ⟨by omega, by omega, by omega, by omega, by omega⟩, fun p hp => ?_⟩⟩
          have := q W1 H1 (rgV 0 j) E1 R1 (by unfold rgV; rw [Int.sub_zero]; exact ints_up 0 _) p hp
          exact this
        · cases h2
      · cases h1
    · rename_i h2; exact absurd (evalL_len h2) (by simp)
    · rename_i h2; exact absurd (evalL_len h2) (by simp)
    · cases h1
  · cases hf
theorem sl_range2 {q p' : Pos} (hc : X.calm = true) (hgl : Gl X "list") (hml : X.mg "list" = none) (hg : Gl X "range") (hm : X.mg "range" = none) (hn : notStar a = true) (hn' : notStar b = true) (ha : SE X a fa) (hb : SE X b fb) : SL X (.Call (.Name "list" p) [.Call (.Name "range" q) [a, b] [] p'] [] pos) (lRng (iRange [fa, fb])) := by
  refine (pe_listRg hc hgl hml (prg_2 hg hm ha hb (star_cons hn) (star_cons hn') (star_none (by rw [List.all_cons, hn']; rfl))) (star_cons rfl)).imp fun σ H Q ⟨W, e, μ, rs, μ', R, E, hf, q⟩ => ?_
  unfold lRng at hf
  split at hf
  · rename_i xs m1 h1
    cases hf
    unfold iRange at h1
    split at h1
    · rename_i h2; exact absurd (evalL_len h2) (by simp)
    · rename_i i j m2 h2
      split at h1
      · rename_i hj
        rw [Bool.and_eq_true] at hj
        cases h1
        unfold evalL at h2
        split at h2
        · rename_i v m3 h3
          split at h2
          · rename_i vs m4 h4
            cases h2
            unfold evalL at h4
            split at h4
            · rename_i v5 m5 h5
              simp only [evalL] at h4
              cases h4
              have := rng_ok hj.1
              have := rng_ok hj.2
              refine ⟨W, e, μ, _, _, R, E, h3, fun W1 H1 x E1 R1 rx => ⟨W1, e, _, _, _, R1, E.mono E1 R, h5, fun W2 H2 y E2 R2 ry => ⟨i, j, by cases rx; rfl, by cases ry; rfl, ⟨by omega, by omega, by omega, by omega, by omega⟩, fun p hp => ?_⟩⟩⟩
              exact q W2 H2 (rgV i j) (E1.trans E2) R2 (ints_up i _) p hp
            · cases h4
          · cases h2
        · cases h2
      · cases h1
    · rename_i h2; exact absurd (evalL_len h2) (by simp)
    · cases h1
  · cases hf
end
end Gg

end
section
/-! GCmp: from the text's syntax to its meaning over data. -/
namespace Gg
open PySem L2

/-- where one reads: the def's names by slot, the scope, the names whose cells are the frame's own, the defs and whole numbers of the module, the names that hold lists that may change (how deep), how deep the answer is a new list (0: it changes no more) -/
structure Cc where
  N : List Str
  sc : Scope
  fnl : List Str
  fns : List (Str × Fn)
  glb : List (Str × PyData)
  mu : List (Str × Nat)
  ret : Nat
def ixOf (x : Str) : List Str → Option Nat
  | [] => none
  | y :: r => if y = x then some 0 else (ixOf x r).map (· + 1)
def kindB (sc : Scope) (x : Str) (k : NameKind) : Bool := decide (sc.names.lookup x = some k)
def visB (sc : Scope) (x : Str) : Bool := kindB sc x .local || kindB sc x .cell || kindB sc x .free
def locB (sc : Scope) (x : Str) : Bool := kindB sc x .local || kindB sc x .cell
def glB (sc : Scope) (x : Str) : Bool := kindB sc x .globalImplicit
def plainNm (x : Str) : Bool := !(x == ("__debug__" : Str)) && !(x == ("__classdict__" : Str))
def slot (c : Cc) (x : Str) : Option Nat := if visB c.sc x && plainNm x then ixOf x c.N else none
def conOf : Const → Option EM
  | .int i => some (eCon (.int i))
  | .bool b => some (eCon (.bool b))
  | .none => some (eCon .none)
  | .str s => some (eCon (.str s))
  | _ => none
def bopOf : Operator → Option B2
  | .Add => some addD
  | .Sub => some subD
  | .Mult => some mulD
  | .FloorDiv => some fdivD
  | .Mod => some modD
  | _ => none
def cmpOf : CmpOp → Option B2
  | .Eq => some eqD
  | .NotEq => some neD
  | .Lt => some ltD
  | .LtE => some leD
  | .Gt => some gtD
  | .GtE => some geD
  | .In => some inD
  | .NotIn => some notInD
  | .Is => some isD
  | .IsNot => some isNotD
def BUILTINS : List Str := ["len", "abs", "max", "min", "sum", "all", "any", "sorted", "repr", "tuple", "int", "list", "isinstance", "range", "enumerate", "zip", "bool", "str"]
/-- a built-in function: is it a class; its name; what it does -/
def biOf (x : Str) : Option (Bool × String × BF) :=
  if x = "len" then some (false, "len", bLen) else if x = "abs" then some (false, "abs", bAbs) else if x = "max" then some (false, "max", bMax)
  else if x = "min" then some (false, "min", bMin) else if x = "sum" then some (false, "sum", bSum) else if x = "all" then some (false, "all", bAll)
  else if x = "any" then some (false, "any", bAny) else if x = "sorted" then some (false, "sorted", bSorted) else if x = "repr" then some (false, "repr", bRepr)
  else if x = "tuple" then some (true, "tuple", bTuple) else if x = "int" then some (true, "int", bInt) else none
def tyOf (x : Str) : Option String :=
  if x = "int" then some "int" else if x = "bool" then some "bool" else if x = "str" then some "str" else if x = "tuple" then some "tuple" else if x = "list" then some "list" else none
def ownOf (N : List Str) (scope : Scope) : List (Str × Nat) := scope.names.filterMap fun (x, k) => if k = .local ∨ k = .cell then (ixOf x N).map fun i => (x, i) else none
def blkCc (c : Cc) (scope : Scope) : Cc := { c with sc := relS scope c.sc, fnl := (scope.names.filter fun y => decide (scope.names.lookup y.1 = some .cell)).map (·.1) }
def notSet : PySem.Expr → Bool
  | .Set _ _ _ => false
  | _ => true
def isTup : PySem.Expr → Bool
  | .Tuple _ _ _ => true
  | _ => false
/-- f(..): the name and the arguments of a plain call -/
def callNm : PySem.Expr → Option (Str × List PySem.Expr)
  | .Call (.Name f _) as [] _ => some (f, as)
  | _ => none
mutual
def compE : Nat → Cc → PySem.Expr → Option EM
  | 0, _, _ => none
  | n + 1, c, e => match e with
    | .Name x _ => match slot c x with
      | some i => some (eVar i)
      | none => if glB c.sc x && plainNm x then (c.glb.lookup x).map fun i => eCon i else none
    | .Constant k _ _ => conOf k
    | .Tuple es _ _ => if es.length ≤ 1000 && es.all notStar then (compEs n c es).map eTup else none
    | .List _ _ => (compL n c 1 e).map eLst
    | .ListComp _ _ _ _ => (compL n c 1 e).map eLst
    | .BinOp a op b _ => match bopOf op, compE n c a, compE n c b with
      | some g, some fa, some fb => some (eBin g fa fb)
      | _, _, _ => none
    | .UnaryOp .USub a _ => (compE n c a).map (eUn negD)
    | .UnaryOp .Not a _ => (compE n c a).map eNot
    | .BoolOp op vs _ => compB n c op vs
    | .Compare a ops bs _ => compC n c a ops bs
    | .IfExp t a b _ => match compT n c t, compE n c a, compE n c b with
      | some ft, some fa, some fb => some (eIte ft fa fb)
      | _, _, _ => none
    | .Subscript a (.Slice lo hi none _) _ => match compE n c a, compO n c lo, compO n c hi with
      | some fa, some fl, some fh => some (eSl fa fl fh)
      | _, _, _ => none
    | .Subscript a (.Slice none none (some (.UnaryOp .USub (.Constant (.int 1) _ _) _)) _) _ => (compE n c a).map (eUn revD)
    | .Subscript a i _ => if notSl i then match compE n c a, compE n c i with
        | some fa, some fi => some (eIx fa fi)
        | _, _ => none
      else none
    | .Call (.Name f _) as [] _ =>
      if glB c.sc f && as.all notStar && !as.isEmpty && plainNm f then
        if f = "list" then (compL n c 1 e).map eLst
        else if f = "len" then match as with
          | [a] => (compE n c a).map eLen
          | _ => none
        else if f = "isinstance" then match as with
          | [a, .Name y _] => match tyOf y, compE n c a with
            | some T, some fa => if glB c.sc y then some (eIsi T fa) else none
            | _, _ => none
          | _ => none
        else match biOf f with
          | some (_, _, g) => (compEs n c as).map (eBi g)
          | none => match c.fns.lookup f with
            | some F => (compEs n c as).map (eCall F)
            | none => none
      else none
    | _ => none
/-- and, or as values -/
def compB : Nat → Cc → BoolOp → List PySem.Expr → Option EM
  | 0, _, _, _ => none
  | n + 1, c, op, vs => match vs with
    | [a] => compE n c a
    | a :: b :: r => match compE n c a, compB n c op (b :: r) with
      | some fa, some fb => some (match op with | .And => eAnd fa fb | .Or => eOr fa fb)
      | _, _ => none
    | [] => none
/-- .. as tests -/
def compW : Nat → Cc → BoolOp → List PySem.Expr → Option EM
  | 0, _, _, _ => none
  | n + 1, c, op, vs => match vs with
    | [a] => compT n c a
    | a :: b :: r => match compT n c a, compW n c op (b :: r) with
      | some fa, some fb => some (match op with | .And => eAnd fa fb | .Or => eOr fa fb)
      | _, _ => none
    | [] => none
/-- a comparison -/
def compC : Nat → Cc → PySem.Expr → List CmpOp → List PySem.Expr → Option EM
  | 0, _, _, _, _ => none
  | n + 1, c, a, ops, bs => match ops, bs with
    | [.Is], [.Constant .none _ _] => (compE n c a).map (eIsN false)
    | [.IsNot], [.Constant .none _ _] => (compE n c a).map (eIsN true)
    | [op], [b] => if behindInMarks op b then none else match cmpOf op, compE n c a, compE n c b with
      | some g, some fa, some fb => some (eBin g fa fb)
      | _, _, _ => none
    | [op, op'], [b, d] => if behindInMarks op' d then none else match cmpOf op, cmpOf op', compE n c a, compE n c b, compE n c d with
      | some g, some h, some fa, some fb, some fd => some (eChain g h fa fb fd)
      | _, _, _, _, _ => none
    | _, _ => none
/-- a test -/
def compT : Nat → Cc → PySem.Expr → Option EM
  | 0, _, _ => none
  | n + 1, c, e => match e with
    | .BoolOp op vs _ => compW n c op vs
    | .UnaryOp .Not a _ => (compT n c a).map eNot
    | .Compare a ops bs _ => compC n c a ops bs
    | .IfExp _ _ _ _ => none
    | e => compE n c e
def compO : Nat → Cc → Option PySem.Expr → Option (Option EM)
  | 0, _, _ => none
  | n + 1, c, o => match o with
    | none => some none
    | some e => (compE n c e).map some
def compEs : Nat → Cc → List PySem.Expr → Option (List EM)
  | 0, _, _ => none
  | n + 1, c, es => match es with
    | [] => some []
    | e :: r => match compE n c e, compEs n c r with
      | some f, some fs => some (f :: fs)
      | _, _ => none
/-- a value that may be a new list that may change: d deep -/
def compV : Nat → Cc → Nat → PySem.Expr → Option EM
  | 0, _, _, _ => none
  | n + 1, c, d, e => if d = 0 then compE n c e else match compL n c d e with
    | some l => some (eNew l)
    | none => compE n c e
def compVs : Nat → Cc → Nat → List PySem.Expr → Option (List EM)
  | 0, _, _, _ => none
  | n + 1, c, d, es => match es with
    | [] => some []
    | e :: r => match compV n c d e, compVs n c d r with
      | some f, some fs => some (f :: fs)
      | _, _ => none
def compTs : Nat → Cc → List PySem.Expr → Option (List EM)
  | 0, _, _ => none
  | n + 1, c, es => match es with
    | [] => some []
    | [e] => (compT n c e).map ([·])
    | _ => none
/-- a new list -/
def compL : Nat → Cc → Nat → PySem.Expr → Option LM
  | 0, _, _, _ => none
  | n + 1, c, d, e => match e with
    | .List es _ => if es.length ≤ 1000 && es.all notStar then (compVs n c (d - 1) es).map lDisp else none
    | .ListComp elt [⟨tg, it, ifs, 0⟩] scope _ =>
      if blkC c.N c.sc scope (ownOf c.N scope) && notSet it then
        match compI n c tg it, compG n (blkCc c scope) tg, compTs n (blkCc c scope) ifs, compV n (blkCc c scope) (d - 1) elt with
        | some fi, some (t, L), some fs, some fe => if L.all fun i => decide (i ∈ (ownOf c.N scope).map (·.2)) then some (lComp fe t fi fs ((ownOf c.N scope).map (·.2))) else none
        | _, _, _, _ => none
      else none
    | .Call (.Name f _) [a] [] _ =>
      if f = "list" && glB c.sc f && notStar a then match callNm a with
        | some (g, as) => if g = "range" then (if glB c.sc g && as.all notStar then match as with
            | [x] => (compE n c x).map fun fx => lRng (iRange [fx])
            | [x, y] => match compE n c x, compE n c y with
              | some fx, some fy => some (lRng (iRange [fx, fy]))
              | _, _ => none
            | _ => none else none) else (compE n c a).map lOf
        | none => (compE n c a).map lOf
      else none
    | .BinOp a .Mult b _ => match compL n c d a, compE n c b with
      | some l, some fb => some (lRep l fb)
      | _, _ => none
    | .Subscript a (.Slice none none (some (.UnaryOp .USub (.Constant (.int 1) _ _) _)) _) _ => (compE n c a).map lRev
    | _ => none
/-- what a loop walks -/
def compI : Nat → Cc → PySem.Expr → PySem.Expr → Option IM
  | 0, _, _, _ => none
  | n + 1, c, tg, it => match callNm it with
    | some (f, as) =>
      if f = "range" then (if glB c.sc f && as.all notStar then match as with
        | [x] => (compE n c x).map fun fx => iRange [fx]
        | [x, y] => match compE n c x, compE n c y with
          | some fx, some fy => some (iRange [fx, fy])
          | _, _ => none
        | [x, y, z] => match compE n c x, compE n c y, compE n c z with
          | some fx, some fy, some fz => some (iRange [fx, fy, fz])
          | _, _, _ => none
        | _ => none else none)
      else if f = "enumerate" then (if glB c.sc f && as.all notStar && isTup tg then match as with
        | [x] => (compE n c x).map iEnum
        | _ => none else none)
      else if f = "zip" then (if glB c.sc f && as.all notStar && isTup tg then match as with
        | [x, y] => match compE n c x, compE n c y with
          | some fx, some fy => some (iZip fx fy)
          | _, _ => none
        | _ => none else none)
      else (compE n c it).map iSeq
    | none => (compE n c it).map iSeq
/-- a target, with the slots that it stores -/
def compG : Nat → Cc → PySem.Expr → Option (TM × List Nat)
  | 0, _, _ => none
  | n + 1, c, e => match e with
    | .Name x _ => if locB c.sc x && (decide (x ∈ c.fnl) || kindB c.sc x .local) then (ixOf x c.N).map fun i => (tName i, [i]) else none
    | .Tuple es _ _ => if es.all notStar then match compGs n c es with
        | some (ts, L) => some (tTup ts, L)
        | none => none
      else none
    | .Subscript o i _ => if notSl i then match compE n c o, compE n c i with
        | some fo, some fi => some (tSub fo fi, [])
        | _, _ => none
      else none
    | _ => none
def compGs : Nat → Cc → List PySem.Expr → Option (List TM × List Nat)
  | 0, _, _ => none
  | n + 1, c, es => match es with
    | [] => some ([], [])
    | e :: r => match compG n c e, compGs n c r with
      | some (t, L), some (ts, L') => some (t :: ts, L ++ L')
      | _, _ => none
end
end Gg

end
section
/-! GSnd: what is compiled is what the text does. -/
namespace Gg
open PySem L2

/-- where the compiled meaning holds -/
structure Facts (X : Cx) (c : Cc) : Prop where
  nN : X.N = c.N
  nd : X.N.Nodup
  sc : X.env.scope = c.sc
  calm : X.calm = true
  gu : X.A.guards = some []
  un : X.A.units + 65 < cLine
  fn : ∀ x ∈ c.fnl, X.fn x = true
  bl : ∀ x ∈ BUILTINS, X.mg x = none
  gl : ∀ x i, c.glb.lookup x = some i → ∃ u, X.mg x = some u ∧ GV X.K u i
  fns : ∀ x F, c.fns.lookup x = some F → CallOk X x F
section
variable {X : Cx} {c : Cc}
theorem ix_ok {x : Str} : ∀ {N : List Str} {i : Nat}, ixOf x N = some i → N[i]? = some x
  | y :: r, i, h => by
    simp only [ixOf] at h
    split at h
    · rename_i e; cases h; rw [e]; rfl
    · cases q : ixOf x r with
      | none => rw [q] at h; cases h
      | some j => rw [q] at h; cases h; simpa using ix_ok q
theorem kind_ok {sc : Scope} {x : Str} {k : NameKind} (h : kindB sc x k = true) : sc.names.lookup x = some k := of_decide_eq_true h
theorem Facts.vis (F : Facts X c) {x : Str} (h : visB c.sc x = true) : Vis X.env.scope x := by
  rw [F.sc]
  unfold visB at h
  rw [Bool.or_eq_true, Bool.or_eq_true] at h
  rcases h with (h | h) | h
  · exact .inl (kind_ok h)
  · exact .inr (.inl (kind_ok h))
  · exact .inr (.inr (kind_ok h))
theorem Facts.loc (F : Facts X c) {x : Str} (h : locB c.sc x = true) : Loc X.env.scope x := by
  rw [F.sc]
  unfold locB at h
  rw [Bool.or_eq_true] at h
  rcases h with h | h
  · exact .inl (kind_ok h)
  · exact .inr (kind_ok h)
theorem Facts.glo (F : Facts X c) {x : Str} (h : glB c.sc x = true) : Gl X x := by
  show X.env.kindOf x = some .globalImplicit
  unfold Env.kindOf
  rw [F.sc]
  exact kind_ok h
theorem nm_ok {x : Str} (h : plainNm x = true) : (x == ("__debug__" : Str)) = false ∧ (x == ("__classdict__" : Str)) = false := by
  unfold plainNm at h
  rw [Bool.and_eq_true, Bool.not_eq_true', Bool.not_eq_true'] at h
  exact h
theorem Facts.blk (F : Facts X c) {scope : Scope} {s : Shared} {H : Hp} {C : Addr} {cl : List (Str × Addr)} {fp : List Addr} : Facts (X.blk s H scope (compEnvC scope cl C X.env) fp) (blkCc c scope) where
  nN := F.nN
  nd := F.nd
  sc := by show relS scope X.env.scope = relS scope c.sc; rw [F.sc]
  calm := F.calm
  gu := F.gu
  un := F.un
  fn := by
    intro x hx
    obtain ⟨y, hy, rfl⟩ := List.mem_map.mp hx
    have := of_decide_eq_true (List.mem_filter.mp hy).2
    show (scope.names.lookup y.1 == some .cell) = true
    rw [this]; rfl
  bl := F.bl
  gl := F.gl
  fns := fun x G h => ⟨(F.fns x G h).ex⟩
theorem blt_name {x : Str} (h : x ∈ BUILTINS) : x ≠ "__name__" ∧ (x == ("__debug__" : Str)) = false := by
  have : ∀ y ∈ BUILTINS, y ≠ "__name__" ∧ (y == ("__debug__" : Str)) = false := by decide +kernel
  exact this x h
theorem con_ok {k : Const} {f : EM} {j : Nat} {pos : Pos} (h : conOf k = some f) : SE X (.Constant k j pos) f := by
  unfold conOf at h
  split at h
  · cases h; exact se_int
  · cases h; exact se_bool
  · cases h; exact se_none
  · cases h; exact se_str
  · cases h
theorem bop_ok {op : Operator} {g : B2} (h : bopOf op = some g) : OpS X (binaryOp op) g := by
  unfold bopOf at h
  split at h
  · cases h; exact ops_add
  · cases h; exact ops_sub
  · cases h; exact ops_mul
  · cases h; exact ops_fdiv
  · cases h; exact ops_mod
  · cases h
theorem cmpI_bool {p : Int → Int → Bool} {r : PyData → PyData → Bool} (x y z : PyData) (h : cmpI p r x y = some z) : ∃ b, z = .bool b := by
  rcases cmpI_inv h with ⟨i, j, _, _, h⟩ | ⟨_, h⟩ <;> exact ⟨_, h⟩
theorem cmp_ok (F : Facts X c) {op : CmpOp} {g : B2} (h : cmpOf op = some g) : OpS X (compareOp op) g ∧ ∀ x y z, g x y = some z → ∃ b, z = .bool b := by
  have hu := F.un
  unfold cmpOf at h
  split at h
  · cases h; exact ⟨ops_eq (by omega), fun x y z q => by unfold eqD at q; cases r : eqB x y <;> rw [r] at q <;> cases q; exact ⟨_, rfl⟩⟩
  · cases h; exact ⟨ops_ne (by omega), fun x y z q => by unfold neD at q; cases r : eqB x y <;> rw [r] at q <;> cases q; exact ⟨_, rfl⟩⟩
  · cases h; exact ⟨ops_lt hu, cmpI_bool⟩
  · cases h; exact ⟨ops_le hu, cmpI_bool⟩
  · cases h; exact ⟨ops_gt hu, cmpI_bool⟩
  · cases h; exact ⟨ops_ge hu, cmpI_bool⟩
  · cases h; exact ⟨ops_in hu, fun x y z q => by unfold inD at q; cases r : inB x y <;> rw [r] at q <;> cases q; exact ⟨_, rfl⟩⟩
  · cases h; exact ⟨ops_notIn hu, fun x y z q => by unfold notInD at q; cases r : inB x y <;> rw [r] at q <;> cases q; exact ⟨_, rfl⟩⟩
  · cases h; exact ⟨ops_is, fun x y z q => by unfold isD at q; split at q <;> cases q; exact ⟨_, rfl⟩⟩
  · cases h; exact ⟨ops_isNot, fun x y z q => by unfold isNotD at q; split at q <;> cases q; exact ⟨_, rfl⟩⟩
/-- a built-in function's call -/
theorem bi_ok (F : Facts X c) {x : Str} {b : Bool} {id : String} {g : BF} (h : biOf x = some (b, id, g)) :
    x ∈ BUILTINS ∧ ((b = false ∧ BiS X (.builtin id) g ∧ bootBuiltins x = some (.builtin id)) ∨ (b = true ∧ BiS X (.type id) g ∧ bootBuiltins x = some (.type id))) := by
  unfold biOf at h
  split at h
  · rename_i e; subst e; cases h; exact ⟨by decide +kernel, .inl ⟨rfl, bi_len, by decide +kernel⟩⟩
  split at h
  · rename_i e; subst e; cases h; exact ⟨by decide +kernel, .inl ⟨rfl, bi_abs, by decide +kernel⟩⟩
  split at h
  · rename_i e; subst e; cases h; exact ⟨by decide +kernel, .inl ⟨rfl, bi_max F.calm F.un, by decide +kernel⟩⟩
  split at h
  · rename_i e; subst e; cases h; exact ⟨by decide +kernel, .inl ⟨rfl, bi_min F.calm F.un, by decide +kernel⟩⟩
  split at h
  · rename_i e; subst e; cases h; exact ⟨by decide +kernel, .inl ⟨rfl, bi_sum F.calm, by decide +kernel⟩⟩
  split at h
  · rename_i e; subst e; cases h; exact ⟨by decide +kernel, .inl ⟨rfl, bi_all F.calm, by decide +kernel⟩⟩
  split at h
  · rename_i e; subst e; cases h; exact ⟨by decide +kernel, .inl ⟨rfl, bi_any F.calm, by decide +kernel⟩⟩
  split at h
  · rename_i e; subst e; cases h; exact ⟨by decide +kernel, .inl ⟨rfl, bi_sorted F.un, by decide +kernel⟩⟩
  split at h
  · rename_i e; subst e; cases h; exact ⟨by decide +kernel, .inl ⟨rfl, bi_repr F.gu F.un, by decide +kernel⟩⟩
  split at h
  · rename_i e; subst e; cases h; exact ⟨by decide +kernel, .inr ⟨rfl, bi_tuple, by decide +kernel⟩⟩
  split at h
  · rename_i e; subst e; cases h; exact ⟨by decide +kernel, .inr ⟨rfl, bi_int, by decide +kernel⟩⟩
  · cases h
theorem ty_of_ok {x : Str} {T : String} (h : tyOf x = some T) : x ∈ BUILTINS ∨ x = "bool" ∨ x = "str" := by
  unfold tyOf at h
  split at h
  · rename_i e; subst e; exact .inl (by decide +kernel)
  split at h
  · rename_i e; subst e; exact .inr (.inl rfl)
  split at h
  · rename_i e; subst e; exact .inr (.inr rfl)
  split at h
  · rename_i e; subst e; exact .inl (by decide +kernel)
  split at h
  · rename_i e; subst e; exact .inl (by decide +kernel)
  · cases h
theorem ty_boot {x : Str} {T : String} (h : tyOf x = some T) : T ∈ TYPES ∧ bootBuiltins x = some (.type T) ∧ x ∈ BUILTINS := by
  unfold tyOf at h
  split at h
  · rename_i e; subst e; cases h; exact ⟨by decide, by decide +kernel, by decide +kernel⟩
  split at h
  · rename_i e; subst e; cases h; exact ⟨by decide, by decide +kernel, by decide +kernel⟩
  split at h
  · rename_i e; subst e; cases h; exact ⟨by decide, by decide +kernel, by decide +kernel⟩
  split at h
  · rename_i e; subst e; cases h; exact ⟨by decide, by decide +kernel, by decide +kernel⟩
  split at h
  · rename_i e; subst e; cases h; exact ⟨by decide, by decide +kernel, by decide +kernel⟩
  · cases h
theorem set_ok {e : PySem.Expr} {env : PySem.Env} (h : notSet e = true) : ∀ x, foldedSetIterable e env x = pure x := by
  intro x
  cases e <;> first | rfl | cases h
end
/-- all that is compiled with n is sound -/
structure Snd (n : Nat) : Prop where
  E : ∀ {c e f}, compE n c e = some f → ∀ {X}, Facts X c → SE X e f
  B : ∀ {c op vs f}, compB n c op vs = some f → ∀ {X pos}, Facts X c → SE X (.BoolOp op vs pos) f
  W : ∀ {c op vs f}, compW n c op vs = some f → ∀ {X pos}, Facts X c → SW X (.BoolOp op vs pos) f
  C : ∀ {c a ops bs f}, compC n c a ops bs = some f → ∀ {X pos}, Facts X c → SE X (.Compare a ops bs pos) f ∧ ST X (.Compare a ops bs pos) f
  T : ∀ {c e f}, compT n c e = some f → ∀ {X}, Facts X c → ST X e f
  O : ∀ {c o f}, compO n c o = some f → ∀ {X}, Facts X c → SO X o f
  Es : ∀ {c es fs}, compEs n c es = some fs → es.all notStar = true → ∀ {X}, Facts X c → SA X es fs ∧ fs.length = es.length
  V : ∀ {c d e f}, compV n c d e = some f → ∀ {X}, Facts X c → SE X e f
  Vs : ∀ {c d es fs}, compVs n c d es = some fs → es.all notStar = true → ∀ {X}, Facts X c → SA X es fs ∧ fs.length = es.length
  Ts : ∀ {c es fs}, compTs n c es = some fs → ∀ {X}, Facts X c → STs X es fs
  L : ∀ {c d e l}, compL n c d e = some l → ∀ {X}, Facts X c → SL X e l
  I : ∀ {c tg it fi}, compI n c tg it = some fi → ∀ {X}, Facts X c → SI X tg it fi
  G : ∀ {c e t L}, compG n c e = some (t, L) → ∀ {X}, Facts X c → SG X e L t
  Gs : ∀ {c es ts L}, compGs n c es = some (ts, L) → es.all notStar = true → ∀ {X}, Facts X c → SGs X es L ts ∧ es.length = ts.length
end Gg

end
section
/-! GSnd2: the step from n to n + 1. -/
namespace Gg
open PySem L2
section
variable {n : Nat} {c : Cc} {X : Cx}
theorem sndB (ih : Snd n) {op : BoolOp} {vs : List PySem.Expr} {f : EM} (h : compB (n + 1) c op vs = some f) {pos : Pos} (F : Facts X c) : SE X (.BoolOp op vs pos) f := by
  simp only [compB] at h
  split at h
  · exact se_one (ih.E h F)
  · split at h
    · rename_i fa fb ha hb
      cases op with
      | And => cases h; exact se_and (ih.E ha F) (ih.B hb F)
      | Or => cases h; exact se_or (ih.E ha F) (ih.B hb F)
    · cases h
  · cases h
theorem sndW (ih : Snd n) {op : BoolOp} {vs : List PySem.Expr} {f : EM} (h : compW (n + 1) c op vs = some f) {pos : Pos} (F : Facts X c) : SW X (.BoolOp op vs pos) f := by
  simp only [compW] at h
  split at h
  · cases op with
    | And => exact sw_one_and (ih.T h F)
    | Or => exact sw_one_or (ih.T h F)
  · split at h
    · rename_i fa fb ha hb
      cases op with
      | And => cases h; exact sw_and (ih.T ha F) (ih.W hb F)
      | Or => cases h; exact sw_or (ih.T ha F) (ih.W hb F)
    · cases h
  · cases h
theorem sndC (ih : Snd n) {a : PySem.Expr} {ops : List CmpOp} {bs : List PySem.Expr} {f : EM} (h : compC (n + 1) c a ops bs = some f) {pos : Pos} (F : Facts X c) : SE X (.Compare a ops bs pos) f ∧ ST X (.Compare a ops bs pos) f := by
  simp only [compC] at h
  split at h
  · cases q : compE n c a with
    | none => rw [q] at h; cases h
    | some g => rw [q] at h; cases h; exact ⟨se_isN (ih.E q F), st_isN (ih.E q F)⟩
  · cases q : compE n c a with
    | none => rw [q] at h; cases h
    | some g => rw [q] at h; cases h; exact ⟨se_notN (ih.E q F), st_notN (ih.E q F)⟩
  · split at h
    · cases h
    · rename_i hm
      have hm := Bool.eq_false_iff.mpr hm
      split at h
      · rename_i g fa fb hg ha hb
        cases h
        obtain ⟨ho, hB⟩ := cmp_ok F hg
        exact ⟨se_cmp ho hm (ih.E ha F) (ih.E hb F), st_cmp ho hB hm (ih.E ha F) (ih.E hb F)⟩
      · cases h
  · split at h
    · cases h
    · rename_i hm
      have hm := Bool.eq_false_iff.mpr hm
      split at h
      · rename_i g g' fa fb fd hg hg' ha hb hd
        cases h
        obtain ⟨ho, _⟩ := cmp_ok F hg
        obtain ⟨ho', hB⟩ := cmp_ok F hg'
        exact ⟨se_chain ho ho' hm (ih.E ha F) (ih.E hb F) (ih.E hd F), st_chain ho ho' hB hm (ih.E ha F) (ih.E hb F) (ih.E hd F)⟩
      · cases h
  · cases h
theorem sndT (ih : Snd n) {e : PySem.Expr} {f : EM} (h : compT (n + 1) c e = some f) (F : Facts X c) : ST X e f := by
  unfold compT at h
  split at h
  · exact PW.pt (ih.W h F)
  · cases q : compT n c _ with
    | none => rw [q] at h; cases h
    | some g => rw [q] at h; cases h; exact st_not (ih.T q F)
  · exact (ih.C h F).2
  · cases h
  · rename_i h1 h2 h3 h4
    refine st_plain (ih.E h F) fun whole => ?_
    cases e <;> first | rfl | (exact absurd rfl (h1 _ _ _)) | (exact absurd rfl (h3 _ _ _ _)) | (exact absurd rfl (h4 _ _ _ _)) | skip
    rename_i op a pos
    cases op <;> first | rfl | (exact absurd rfl (h2 _ _))
theorem sndO (ih : Snd n) {o : Option PySem.Expr} {f : Option EM} (h : compO (n + 1) c o = some f) (F : Facts X c) : SO X o f := by
  simp only [compO] at h
  split at h
  · cases h; exact so_none
  · cases q : compE n c _ with
    | none => rw [q] at h; cases h
    | some g => rw [q] at h; cases h; exact so_some (ih.E q F)
theorem sndEs (ih : Snd n) {es : List PySem.Expr} {fs : List EM} (h : compEs (n + 1) c es = some fs) (hn : es.all notStar = true) (F : Facts X c) : SA X es fs ∧ fs.length = es.length := by
  simp only [compEs] at h
  split at h
  · cases h; exact ⟨sa_nil, rfl⟩
  · rw [List.all_cons, Bool.and_eq_true] at hn
    split at h
    · rename_i f fs' he hr
      cases h
      obtain ⟨h1, h2⟩ := ih.Es hr hn.2 F
      exact ⟨sa_cons hn.1 (ih.E he F) h1, by rw [List.length_cons, List.length_cons, h2]⟩
    · cases h
theorem sndV (ih : Snd n) {d : Nat} {e : PySem.Expr} {f : EM} (h : compV (n + 1) c d e = some f) (F : Facts X c) : SE X e f := by
  simp only [compV] at h
  split at h
  · exact ih.E h F
  · split at h
    · rename_i l hl
      cases h
      exact se_new (ih.L hl F)
    · exact ih.E h F
theorem sndVs (ih : Snd n) {d : Nat} {es : List PySem.Expr} {fs : List EM} (h : compVs (n + 1) c d es = some fs) (hn : es.all notStar = true) (F : Facts X c) : SA X es fs ∧ fs.length = es.length := by
  simp only [compVs] at h
  split at h
  · cases h; exact ⟨sa_nil, rfl⟩
  · rw [List.all_cons, Bool.and_eq_true] at hn
    split at h
    · rename_i f fs' he hr
      cases h
      obtain ⟨h1, h2⟩ := ih.Vs hr hn.2 F
      exact ⟨sa_cons hn.1 (ih.V he F) h1, by rw [List.length_cons, List.length_cons, h2]⟩
    · cases h
theorem sndTs (ih : Snd n) {es : List PySem.Expr} {fs : List EM} (h : compTs (n + 1) c es = some fs) (F : Facts X c) : STs X es fs := by
  simp only [compTs] at h
  split at h
  · cases h; exact sts_nil
  · cases q : compT n c _ with
    | none => rw [q] at h; cases h
    | some g => rw [q] at h; cases h; exact sts_one (ih.T q F)
  · cases h
theorem sndG (ih : Snd n) {e : PySem.Expr} {t : TM} {L : List Nat} (h : compG (n + 1) c e = some (t, L)) (F : Facts X c) : SG X e L t := by
  simp only [compG] at h
  split at h
  · split at h
    · rename_i hk
      rw [Bool.and_eq_true, Bool.or_eq_true] at hk
      cases q : ixOf _ c.N with
      | none => rw [q] at h; cases h
      | some i =>
        rw [q] at h; cases h
        refine sg_name F.nd (by rw [F.nN]; exact ix_ok q) (F.loc hk.1) ?_
        rcases hk.2 with k | k
        · exact .inl (F.fn _ (of_decide_eq_true k))
        · exact .inr (by rw [F.sc]; exact kind_ok k)
    · cases h
  · split at h
    · rename_i hn
      split at h
      · rename_i ts L' hs
        cases h
        obtain ⟨h1, h2⟩ := ih.Gs hs hn F
        exact sg_tup h2 hn F.calm h1
      · cases h
    · cases h
  · split at h
    · rename_i hn
      split at h
      · rename_i fo fi ho hi
        cases h
        exact sg_sub hn (ih.E ho F) (ih.E hi F)
      · cases h
    · cases h
  · cases h
theorem sndGs (ih : Snd n) {es : List PySem.Expr} {ts : List TM} {L : List Nat} (h : compGs (n + 1) c es = some (ts, L)) (hn : es.all notStar = true) (F : Facts X c) : SGs X es L ts ∧ es.length = ts.length := by
  simp only [compGs] at h
  split at h
  · cases h; exact ⟨sgs_nil, rfl⟩
  · rw [List.all_cons, Bool.and_eq_true] at hn
    split at h
    · rename_i t L1 ts' L2 he hr
      cases h
      obtain ⟨h1, h2⟩ := ih.Gs hr hn.2 F
      exact ⟨sgs_cons hn.1 (ih.G he F) h1, by rw [List.length_cons, List.length_cons, h2]⟩
    · cases h
theorem call_eq {e : PySem.Expr} {f : Str} {as : List PySem.Expr} (h : callNm e = some (f, as)) : ∃ p pos, e = .Call (.Name f p) as [] pos := by
  unfold callNm at h
  split at h
  · cases h; exact ⟨_, _, rfl⟩
  · cases h
theorem tup_eq {e : PySem.Expr} (h : isTup e = true) : ∃ es k p, e = .Tuple es k p := by
  cases e <;> first | exact ⟨_, _, _, rfl⟩ | cases h
theorem sndI (ih : Snd n) {tg it : PySem.Expr} {fi : IM} (h : compI (n + 1) c tg it = some fi) (F : Facts X c) : SI X tg it fi := by
  have plain : ∀ {g : Option IM}, g = (compE n c it).map iSeq → g = some fi → SI X tg it fi := by
    intro g hg hs
    rw [hg] at hs
    cases q : compE n c it with
    | none => rw [q] at hs; cases hs
    | some f => rw [q] at hs; cases hs; exact si_seq (ih.E q F)
  have rg : ("range" : Str) ∈ BUILTINS := by decide +kernel
  have en : ("enumerate" : Str) ∈ BUILTINS := by decide +kernel
  have zp : ("zip" : Str) ∈ BUILTINS := by decide +kernel
  simp only [compI] at h
  split at h
  · rename_i f as hc
    obtain ⟨p, pos, rfl⟩ := call_eq hc
    split at h
    · rename_i e; subst e
      split at h
      · rename_i hk
        rw [Bool.and_eq_true] at hk
        have hg := F.glo hk.1
        have hm := F.bl _ rg
        split at h
        · rename_i x
          cases q : compE n c x with
          | none => rw [q] at h; cases h
          | some fx =>
            rw [q] at h; cases h
            have hn := hk.2
            rw [List.all_cons, Bool.and_eq_true] at hn
            exact si_range1 hg hm hn.1 (sa_cons hn.1 (ih.E q F) sa_nil)
        · rename_i x y
          split at h
          · rename_i fx fy hx hy
            cases h
            have hn := hk.2
            rw [List.all_cons, Bool.and_eq_true, List.all_cons, Bool.and_eq_true] at hn
            exact si_range2 hg hm hn.1 hn.2.1 (sa_cons hn.1 (ih.E hx F) (sa_cons hn.2.1 (ih.E hy F) sa_nil))
          · cases h
        · rename_i x y z
          split at h
          · rename_i fx fy fz hx hy hz
            cases h
            have hn := hk.2
            have hn' := hn
            rw [List.all_cons, Bool.and_eq_true, List.all_cons, Bool.and_eq_true, List.all_cons, Bool.and_eq_true] at hn
            exact si_range3 hg hm hn' (sa_cons hn.1 (ih.E hx F) (sa_cons hn.2.1 (ih.E hy F) (sa_cons hn.2.2.1 (ih.E hz F) sa_nil)))
          · cases h
        · cases h
      · cases h
    split at h
    · rename_i e; subst e
      split at h
      · rename_i hk
        rw [Bool.and_eq_true, Bool.and_eq_true] at hk
        have hg := F.glo hk.1.1
        have hm := F.bl _ en
        obtain ⟨es, k, p', rfl⟩ := tup_eq hk.2
        split at h
        · rename_i x
          cases q : compE n c x with
          | none => rw [q] at h; cases h
          | some fx =>
            rw [q] at h; cases h
            have hn := hk.1.2
            rw [List.all_cons, Bool.and_eq_true] at hn
            exact si_enum hg hm hn.1 (ih.E q F)
        · cases h
      · cases h
    split at h
    · rename_i e; subst e
      split at h
      · rename_i hk
        rw [Bool.and_eq_true, Bool.and_eq_true] at hk
        have hg := F.glo hk.1.1
        have hm := F.bl _ zp
        obtain ⟨es, k, p', rfl⟩ := tup_eq hk.2
        split at h
        · rename_i x y
          split at h
          · rename_i fx fy hx hy
            cases h
            exact si_zip hg hm hk.1.2 (ih.E hx F) (ih.E hy F)
          · cases h
        · cases h
      · cases h
    · exact plain rfl h
  · exact plain rfl h
theorem own_ok : ∀ {N : List Str} {scope : Scope}, True := trivial
theorem sndL (ih : Snd n) {d : Nat} {e : PySem.Expr} {l : LM} (h : compL (n + 1) c d e = some l) (F : Facts X c) : SL X e l := by
  have ls : ("list" : Str) ∈ BUILTINS := by decide +kernel
  have rg : ("range" : Str) ∈ BUILTINS := by decide +kernel
  unfold compL at h
  split at h
  · split at h
    · rename_i hk
      rw [Bool.and_eq_true, decide_eq_true_eq] at hk
      cases q : compVs n c (d - 1) _ with
      | none => rw [q] at h; cases h
      | some fs =>
        rw [q] at h; cases h
        obtain ⟨h1, h2⟩ := ih.Vs q hk.2 F
        exact sl_disp h1 (by rw [h2]; exact hk.1)
    · cases h
  · rename_i elt tg it ifs scope pos
    split at h
    · rename_i hk
      rw [Bool.and_eq_true] at hk
      split at h
      · rename_i fi t L fs fe hi hg hT he
        split at h
        · rename_i hL
          cases h
          have hL' : ∀ i ∈ L, i ∈ (ownOf c.N scope).map (·.2) := fun i hi => of_decide_eq_true (List.all_eq_true.mp hL i hi)
          exact sl_comp F.calm F.nd (ih.I hi F) (by rw [F.nN, F.sc]; exact blkOk_by hk.1) (set_ok hk.2) hL' (fun s H C cl fp => ih.G hg F.blk) (fun s H C cl fp => ih.Ts hT F.blk) (fun s H C cl fp => ih.V he F.blk)
        · cases h
      · cases h
    · cases h
  · rename_i f p a pos
    split at h
    · rename_i hk
      rw [Bool.and_eq_true, Bool.and_eq_true, decide_eq_true_eq] at hk
      obtain ⟨⟨rfl, hgl⟩, hna⟩ := hk
      have hg := F.glo hgl
      have hm := F.bl _ ls
      have plain : ∀ {g : Option LM}, g = (compE n c a).map lOf → g = some l → SL X (.Call (.Name "list" p) [a] [] pos) l := by
        intro g hg' hs
        rw [hg'] at hs
        cases q : compE n c a with
        | none => rw [q] at hs; cases hs
        | some f => rw [q] at hs; cases hs; exact sl_of hg hm hna (ih.E q F)
      split at h
      · rename_i g as hc
        obtain ⟨p2, pos2, rfl⟩ := call_eq hc
        split at h
        · rename_i e; subst e
          split at h
          · rename_i hk
            rw [Bool.and_eq_true] at hk
            have hg2 := F.glo hk.1
            have hm2 := F.bl _ rg
            split at h
            · rename_i x
              cases q : compE n c x with
              | none => rw [q] at h; cases h
              | some fx =>
                rw [q] at h; cases h
                have hn := hk.2
                rw [List.all_cons, Bool.and_eq_true] at hn
                exact sl_range1 F.calm hg hm hg2 hm2 hn.1 (ih.E q F)
            · rename_i x y
              split at h
              · rename_i fx fy hx hy
                cases h
                have hn := hk.2
                rw [List.all_cons, Bool.and_eq_true, List.all_cons, Bool.and_eq_true] at hn
                exact sl_range2 F.calm hg hm hg2 hm2 hn.1 hn.2.1 (ih.E hx F) (ih.E hy F)
              · cases h
            · cases h
          · cases h
        · exact plain rfl h
      · exact plain rfl h
    · cases h
  · split at h
    · rename_i l' fb hl hb
      cases h
      exact sl_rep (ih.L hl F) (ih.E hb F)
    · cases h
  · cases q : compE n c _ with
    | none => rw [q] at h; cases h
    | some g => rw [q] at h; cases h; exact sl_rev (ih.E q F)
  · cases h
theorem sndE (ih : Snd n) {e : PySem.Expr} {f : EM} (h : compE (n + 1) c e = some f) (F : Facts X c) : SE X e f := by
  have isi : ("isinstance" : Str) ∈ BUILTINS := by decide +kernel
  have ln : ("len" : Str) ∈ BUILTINS := by decide +kernel
  unfold compE at h
  split at h
  · rename_i x pos
    split at h
    · rename_i i hi
      cases h
      unfold slot at hi
      split at hi
      · rename_i hk
        rw [Bool.and_eq_true] at hk
        obtain ⟨n1, n2⟩ := nm_ok hk.2
        exact se_var (by rw [F.nN]; exact ix_ok hi) (F.vis hk.1) n1 n2
      · cases hi
    · split at h
      · rename_i hk
        rw [Bool.and_eq_true] at hk
        cases q : c.glb.lookup x with
        | none => rw [q] at h; cases h
        | some i =>
          rw [q] at h; cases h
          obtain ⟨u, hu, ht⟩ := F.gl x i q
          exact se_glob (F.glo hk.1) hu ht (nm_ok hk.2).1
      · cases h
  · exact con_ok h
  · split at h
    · rename_i hk
      rw [Bool.and_eq_true, decide_eq_true_eq] at hk
      cases q : compEs n c _ with
      | none => rw [q] at h; cases h
      | some fs =>
        rw [q] at h; cases h
        obtain ⟨h1, h2⟩ := ih.Es q hk.2 F
        exact se_tup h1 (by rw [h2]; exact hk.1)
    · cases h
  · cases q : compL n c 1 _ with
    | none => rw [q] at h; cases h
    | some l => rw [q] at h; cases h; exact se_lst (ih.L q F)
  · cases q : compL n c 1 _ with
    | none => rw [q] at h; cases h
    | some l => rw [q] at h; cases h; exact se_lst (ih.L q F)
  · split at h
    · rename_i g fa fb hg ha hb
      cases h
      exact se_bin (bop_ok hg) (ih.E ha F) (ih.E hb F)
    · cases h
  · cases q : compE n c _ with
    | none => rw [q] at h; cases h
    | some g => rw [q] at h; cases h; exact se_neg (ih.E q F)
  · cases q : compE n c _ with
    | none => rw [q] at h; cases h
    | some g => rw [q] at h; cases h; exact se_not (ih.E q F)
  · exact ih.B h F
  · exact (ih.C h F).1
  · split at h
    · rename_i ft fa fb ht ha hb
      cases h
      exact se_ite (ih.T ht F) (ih.E ha F) (ih.E hb F)
    · cases h
  · split at h
    · rename_i fa fl fh ha hl hh
      cases h
      exact se_sl (ih.E ha F) (ih.O hl F) (ih.O hh F)
    · cases h
  · cases q : compE n c _ with
    | none => rw [q] at h; cases h
    | some g => rw [q] at h; cases h; exact se_rev (ih.E q F)
  · split at h
    · rename_i hn
      split at h
      · rename_i fa fi ha hi
        cases h
        exact se_ix hn (ih.E ha F) (ih.E hi F)
      · cases h
    · cases h
  · rename_i f p as pos
    split at h
    · rename_i hk
      rw [Bool.and_eq_true, Bool.and_eq_true, Bool.and_eq_true, Bool.not_eq_true'] at hk
      obtain ⟨⟨⟨hgl, hst⟩, hne⟩, hpl⟩ := hk
      have hg := F.glo hgl
      split at h
      · cases q : compL n c 1 (.Call (.Name f p) as [] pos) with
        | none => rw [q] at h; cases h
        | some l => rw [q] at h; cases h; exact se_lst (ih.L q F)
      split at h
      · rename_i e; subst e
        split at h
        · rename_i a
          cases q : compE n c a with
          | none => rw [q] at h; cases h
          | some fa =>
            rw [q] at h; cases h
            rw [List.all_cons, Bool.and_eq_true] at hst
            exact se_len hg (F.bl _ ln) hst.1 (ih.E q F)
        · cases h
      split at h
      · rename_i e; subst e
        split at h
        · rename_i a y py
          split at h
          · rename_i T fa hT ha
            split at h
            · rename_i hgy
              cases h
              obtain ⟨t1, t2, t3⟩ := ty_boot hT
              obtain ⟨n1, n2⟩ := blt_name t3
              rw [List.all_cons, Bool.and_eq_true] at hst
              exact se_isi t1 (ih.E ha F) hst.1 hg (F.bl _ isi) (F.glo hgy) (F.bl _ t3) t2 n1 n2
            · cases h
          · cases h
        · cases h
      · cases as with
        | nil => cases hne
        | cons a as =>
          split at h
          · rename_i b id g hb
            cases q : compEs n c (a :: as) with
            | none => rw [q] at h; cases h
            | some fs =>
              rw [q] at h; cases h
              obtain ⟨hB, hb2⟩ := bi_ok F hb
              obtain ⟨n1, n2⟩ := blt_name hB
              obtain ⟨h1, _⟩ := ih.Es q hst F
              rcases hb2 with ⟨_, s, bt⟩ | ⟨_, s, bt⟩
              · exact se_biB s hg (F.bl _ hB) bt n1 n2 hst h1
              · exact se_biT s hg (F.bl _ hB) bt n1 n2 hst h1
          · split at h
            · rename_i G hG
              cases q : compEs n c (a :: as) with
              | none => rw [q] at h; cases h
              | some fs =>
                rw [q] at h; cases h
                obtain ⟨h1, _⟩ := ih.Es q hst F
                exact se_call (F.fns f G hG) F.gu hg (nm_ok hpl).1 hst h1
            · cases h
    · cases h
  · cases h
end
theorem snd : ∀ n, Snd n
  | 0 => by constructor <;> intros <;> (rename_i h _; first | (cases h; done) | skip) <;> first | contradiction | (simp_all [compE, compB, compW, compC, compT, compO, compEs, compV, compVs, compTs, compL, compI, compG, compGs])
  | n + 1 =>
    have ih := snd n
    ⟨fun h _ F => sndE ih h F, fun h _ _ F => sndB ih h F, fun h _ _ F => sndW ih h F, fun h _ _ F => sndC ih h F, fun h _ F => sndT ih h F, fun h _ F => sndO ih h F, fun h hn _ F => sndEs ih h hn F, fun h _ F => sndV ih h F, fun h hn _ F => sndVs ih h hn F, fun h _ F => sndTs ih h F, fun h _ F => sndL ih h F, fun h _ F => sndI ih h F, fun h _ F => sndG ih h F, fun h hn _ F => sndGs ih h hn F⟩
end Gg

end
section
/-! GCmpS: statements compiled; that they are sound. -/
namespace Gg
open PySem L2

def starred : PySem.Expr → Bool
  | .Starred _ _ => true
  | _ => false
def swName (sc : Scope) (line : Nat) : PySem.Expr → Option Str
  | .Name id pos => if sc.names.lookup id == some .local && pos.line == line then some id else none
  | _ => none
def swNames (sc : Scope) (ts : List PySem.Expr) : List Str := ts.filterMap (swName sc ((ts.head?.map (·.pos.line)).getD 0))
/-- (ts) = (vs): are the stores exchanged, and whose -/
def swapKind (sc : Scope) (ts vs : List PySem.Expr) : Option (Option (List Str)) :=
  if (!(ts.length == 2 || ts.length == 3) || vs.length != ts.length) = true then some none
  else if vs.any starred = true then some none
  else if ((swNames sc ts).length != ts.length || (swNames sc ts).eraseDups.length != (swNames sc ts).length) = true then some none
  else if vs.all (foldedForSure 8) = true then some none
  else if vs.all (constantsAlone 8) = true then none
  else some (some (swNames sc ts))
theorem swap_of {env : PySem.Env} {ts vs : List PySem.Expr} {k k' : Nat} {p p' : Pos} {r : Option (List Str)} (hk : env.scope.kind = .function) (h : swapKind env.scope ts vs = some r) : swappedStores [.Tuple ts k p] (.Tuple vs k' p') env = pure r := by
  have hb : env.blockKind = .function := by unfold Env.blockKind; rw [hk]; rfl
  have e : swappedStores [.Tuple ts k p] (.Tuple vs k' p') env = (if (!(ts.length == 2 || ts.length == 3) || vs.length != ts.length || env.blockKind != .function) = true then pure none
    else if vs.any starred = true then pure none
    else if ((swNames env.scope ts).length != ts.length || (swNames env.scope ts).eraseDups.length != (swNames env.scope ts).length) = true then pure none
    else if vs.all (foldedForSure 8) = true then pure none
    else if vs.all (constantsAlone 8) = true then (do
      let _ : PUnit ← unsupported "assign.tuple-of-constant-expressions:order-of-the-stores"
      pure (some (swNames env.scope ts)))
    else pure (some (swNames env.scope ts))) := rfl
  rw [e, hb]
  have f : ((!(ts.length == 2 || ts.length == 3) || vs.length != ts.length || (ScopeKind.function != ScopeKind.function)) : Bool) = (!(ts.length == 2 || ts.length == 3) || vs.length != ts.length) := by
    have : (ScopeKind.function != ScopeKind.function) = false := rfl
    rw [this, Bool.or_false]
  rw [f]
  unfold swapKind at h
  split at h
  · rename_i c; rw [if_pos c]; cases h; rfl
  rename_i c; rw [if_neg c]
  split at h
  · rename_i c; rw [if_pos c]; cases h; rfl
  rename_i c; rw [if_neg c]
  split at h
  · rename_i c; rw [if_pos c]; cases h; rfl
  rename_i c; rw [if_neg c]
  split at h
  · rename_i c; rw [if_pos c]; cases h; rfl
  rename_i c; rw [if_neg c]
  split at h
  · cases h
  rename_i c; rw [if_neg c]
  cases h; rfl

/-! ### the compiled statements -/
def isFn (sc : Scope) : Bool := match sc.kind with
  | .function => true
  | _ => false
def muOf (c : Cc) (x : Str) : Nat := (c.mu.lookup x).getD 0
def baseMu (c : Cc) : PySem.Expr → Nat
  | .Name x _ => muOf c x
  | .Subscript o _ _ => baseMu c o - 1
  | _ => 0
def ipOf : Operator → Option B2
  | .Add => some addI
  | .Sub => some subD
  | .Mult => some mulInt
  | _ => none
/-- y = [..]: is the store ahead of letting the names go -/
def swB (sc : Scope) (y : Str) (py pos : Pos) (scope : Scope) : Bool :=
  isFn sc && kindB sc y .local && py.line == pos.line && !(scope.names.any fun (n, k) => n == y && (k == .local || k == .cell))
def notLc : PySem.Expr → Bool
  | .ListComp _ _ _ _ => false
  | _ => true
/-- surely not exchanged with what is within -/
def swNo (sc : Scope) (a b : PySem.Expr) : Bool := notComp b || (match a, b with
  | .Name y py, .ListComp _ _ scope pos => isFn sc && !(kindB sc y .local && py.line == pos.line && !(scope.names.any fun (n, k) => n == y && (k == .local || k == .cell)))
  | .Subscript _ _ _, .ListComp _ _ _ _ => true
  | .Tuple _ _ _, .ListComp _ _ _ _ => true
  | _, _ => false)
/-- an answer that changes no more -/
def compF : Nat → Cc → PySem.Expr → Option EM
  | 0, _, _ => none
  | n + 1, c, e => match e with
    | .Name x _ => if muOf c x = 0 then compE n c e else (slot c x).map eFrz
    | .IfExp t a b _ => match compT n c t, compF n c a, compF n c b with
      | some ft, some fa, some fb => some (eIte ft fa fb)
      | _, _, _ => none
    | e => compE n c e
def compFs : Nat → Cc → List PySem.Expr → Option (List EM)
  | 0, _, _ => none
  | n + 1, c, es => match es with
    | [] => some []
    | e :: r => match compF n c e, compFs n c r with
      | some f, some fs => some (f :: fs)
      | _, _ => none
def compR (n : Nat) (c : Cc) (e : PySem.Expr) : Option EM := match e with
  | .Tuple es _ _ => if es.length ≤ 1000 && es.all notStar then (if c.ret = 0 then compFs n c es else compVs n c c.ret es).map eTup else none
  | e => if c.ret = 0 then compF n c e else compV n c c.ret e
/-- the values for targets -/
def compAs : Nat → Cc → List PySem.Expr → List PySem.Expr → Option (List EM)
  | 0, _, _, _ => none
  | n + 1, c, ts, vs => match ts, vs with
    | [], [] => some []
    | t :: ts, v :: vs => match compV n c (baseMu c t) v, compAs n c ts vs with
      | some f, some fs => some (f :: fs)
      | _, _ => none
    | _, _ => none
def compA (n : Nat) (c : Cc) (tg v : PySem.Expr) : Option SM := match tg, v with
  | .Tuple ts _ _, .Tuple vs _ _ =>
    if ts.all notStar && vs.all notStar && decide (vs.length ≤ 1000) && isFn c.sc then match swapKind c.sc ts vs with
      | none => none
      | some none => match compGs n c ts, compAs n c ts vs with
        | some (tt, _), some fs => some (sPar tt fs)
        | _, _ => none
      | some (some nm) => match ts, vs, compAs n c ts vs with
        | [.Name x _, .Name y _], [_, _], some fs => if nm = [x, y] then match ixOf x c.N, ixOf y c.N with
            | some i, some j => if i ≠ j ∧ kindB c.sc x .local = true ∧ kindB c.sc y .local = true then some (sPar [tName i, tName j] fs) else none
            | _, _ => none
          else none
        | [.Name x _, .Name y _, .Name z _], [_, _, _], some fs => if nm = [x, y, z] then match ixOf x c.N, ixOf y c.N, ixOf z c.N with
            | some i, some j, some k => if i ≠ j ∧ i ≠ k ∧ j ≠ k ∧ kindB c.sc x .local = true ∧ kindB c.sc y .local = true ∧ kindB c.sc z .local = true then some (sPar [tName i, tName j, tName k] fs) else none
            | _, _, _ => none
          else none
        | _, _, _ => none
    else none
  | .Name y py, .ListComp elt [⟨tg, it, ifs, 0⟩] scope lp =>
    if swB c.sc y py lp scope then
      if blkC c.N c.sc scope (ownOf c.N scope) && notSet it then
        match ixOf y c.N, compI n c tg it, compG n (blkCc c scope) tg, compTs n (blkCc c scope) ifs, compV n (blkCc c scope) (muOf c y - 1) elt with
        | some i, some fi, some (t, L), some fs, some fe => if L.all fun i => decide (i ∈ (ownOf c.N scope).map (·.2)) then
            some (sAsg (tName i) (if muOf c y = 0 then eLst (lComp fe t fi fs ((ownOf c.N scope).map (·.2))) else eNew (lComp fe t fi fs ((ownOf c.N scope).map (·.2))))) else none
        | _, _, _, _, _ => none
      else none
    else if swNo c.sc (.Name y py) v then match compG n c (.Name y py), compV n c (muOf c y) v with
      | some (t, _), some f => some (sAsg t f)
      | _, _ => none
    else none
  | tg, v => if swNo c.sc tg v && (notTup tg || notTup v) && notStar tg then match compG n c tg, compV n c (baseMu c tg) v with
      | some (t, _), some f => some (sAsg t f)
      | _, _ => none
    else none
mutual
noncomputable def compS : Nat → Cc → Stmt → Option SM
  | 0, _, _ => none
  | n + 1, c, st => match st with
    | .Pass _ => some sPass
    | .Break _ => some sBrk
    | .Continue _ => some sCnt
    | .Raise _ _ _ => some sNever
    | .Return none _ => some sRetN
    | .Return (some e) _ => (compR n c e).map sRet
    | .Expr (.Call (.Attribute o m apos) [a] [] cpos) _ =>
      if plainBase o && notStar a && (apos.endLine == cpos.line) then
        if m = "append" then match compE n c o, compV n c (baseMu c o - 1) a with
          | some fo, some fa => some (sApp fo fa)
          | _, _ => none
        else if m = "extend" then match compE n c o, compV n c (baseMu c o) a with
          | some fo, some fa => some (sExt fo fa)
          | _, _ => none
        else none
      else none
    | .Expr e _ => if notComp e then (compE n c e).map sDrop else none
    | .If t as bs _ => match compT n c t, compSs n c as, compSs n c bs with
      | some ft, some fa, some fb => some (sIf ft fa fb)
      | _, _, _ => none
    | .For tg it body [] _ => if notSet it then match compI n c tg it, compG n c tg, compSs n c body with
        | some fi, some (t, _), some fb => some (sFor t fi fb)
        | _, _, _ => none
      else none
    | .While t body [] _ => match compT n c t, compSs n c body with
      | some ft, some fb => some (sWhile ft fb)
      | _, _ => none
    | .Assign [tg] v _ => compA n c tg v
    | .AugAssign (.Name x _) op b _ => match ipOf op, ixOf x c.N, compE n c b with
      | some g, some i, some fb => if locB c.sc x && (decide (x ∈ c.fnl) || kindB c.sc x .local) then some (sAug i g fb) else none
      | _, _, _ => none
    | .Try body (_ :: _) ors [] _ => match compSs n c body, compSs n c ors with
      | some fa, some fb => some (sSeq fa fb)
      | _, _ => none
    | _ => none
noncomputable def compSs : Nat → Cc → List Stmt → Option SM
  | 0, _, _ => none
  | n + 1, c, sts => match sts with
    | [] => some sPass
    | [st] => compS n c st
    | st :: r => match compS n c st, compSs n c r with
      | some f, some g => some (sSeq f g)
      | _, _ => none
end
/-! ### they are sound -/
structure FactsS (X : Cx) (c : Cc) : Prop extends Facts X c where
  no : ∀ e s, ¬ X.xe e s
theorem FactsS.own {X : Cx} {c : Cc} (F : FactsS X c) : PassesOwn (model X.prog X.w) X.A X.env X.xe := fun e s h => (F.no e s h).elim
section
variable {n : Nat} {c : Cc} {X : Cx}
theorem isFn_ok (F : Facts X c) (h : isFn c.sc = true) : X.env.scope.kind = .function := by
  rw [F.sc]
  unfold isFn at h
  split at h
  · rename_i e; exact e
  · cases h
theorem swNo_ok (F : Facts X c) {a b : PySem.Expr} (h : swNo c.sc a b = true) {l : Nat} : swapsWith b (some a) l X.env = pure false := by
  unfold swNo at h
  rw [Bool.or_eq_true] at h
  rcases h with h | h
  · exact swaps_no h
  · split at h
    · rename_i y py elt gs scope pos
      rw [Bool.and_eq_true, Bool.not_eq_true'] at h
      have e : swapsWith (.ListComp elt gs scope pos) (some (.Name y py)) l X.env = pure (X.env.blockKind == .function && X.env.kindOf y == some .local && py.line == pos.line && !(scope.names.any fun (n, k) => n == y && (k == .local || k == .cell))) := rfl
      rw [e]
      congr 1
      rw [← h.2]
      have e1 : (X.env.blockKind == .function) = true := by
        unfold Env.blockKind
        rw [isFn_ok F h.1]; rfl
      have e2 : (X.env.kindOf y == some .local) = kindB c.sc y .local := by
        unfold Env.kindOf kindB
        rw [F.sc]
        cases hq : c.sc.names.lookup y with
        | none => rfl
        | some k => cases k <;> rfl
      rw [e1, e2, Bool.true_and]
    · rfl
    · rfl
    · cases h
theorem ip_ok {op : Operator} {g : B2} (h : ipOf op = some g) : IpS X op g := by
  unfold ipOf at h
  split at h
  · cases h; exact ips_add
  · cases h; exact ips_sub
  · cases h; exact ips_mul
  · cases h
theorem slot_ok (F : Facts X c) {x : Str} {i : Nat} (h : slot c x = some i) : X.N[i]? = some x ∧ Vis X.env.scope x ∧ (x == ("__debug__" : Str)) = false ∧ (x == ("__classdict__" : Str)) = false := by
  unfold slot at h
  split at h
  · rename_i hk
    rw [Bool.and_eq_true] at hk
    exact ⟨by rw [F.nN]; exact ix_ok h, F.vis hk.1, nm_ok hk.2⟩
  · cases h
theorem sndF : ∀ {n : Nat} {e : PySem.Expr} {f : EM}, compF n c e = some f → Facts X c → SE X e f
  | 0, _, _, h, _ => by cases h
  | n + 1, e, f, h, F => by
    unfold compF at h
    split at h
    · split at h
      · exact (snd n).E h F
      · rename_i x p _
        cases q : slot c x with
        | none => rw [q] at h; cases h
        | some i =>
          rw [q] at h; cases h
          obtain ⟨h1, h2, h3, h4⟩ := slot_ok F q
          exact se_frz h1 h2 h3 h4
    · split at h
      · rename_i ft fa fb ht ha hb
        cases h
        exact se_ite ((snd n).T ht F) (sndF ha F) (sndF hb F)
      · cases h
    · exact (snd n).E h F
theorem sndFs : ∀ {n : Nat} {es : List PySem.Expr} {fs : List EM}, compFs n c es = some fs → es.all notStar = true → Facts X c → SA X es fs ∧ fs.length = es.length
  | 0, _, _, h, _, _ => by cases h
  | n + 1, es, fs, h, hn, F => by
    simp only [compFs] at h
    split at h
    · cases h; exact ⟨sa_nil, rfl⟩
    · rw [List.all_cons, Bool.and_eq_true] at hn
      split at h
      · rename_i f fs' he hr
        cases h
        obtain ⟨h1, h2⟩ := sndFs hr hn.2 F
        exact ⟨sa_cons hn.1 (sndF he F) h1, by rw [List.length_cons, List.length_cons, h2]⟩
      · cases h
theorem sndR {e : PySem.Expr} {f : EM} (h : compR n c e = some f) (F : Facts X c) : SE X e f := by
  unfold compR at h
  split at h
  · split at h
    · rename_i hk
      rw [Bool.and_eq_true, decide_eq_true_eq] at hk
      split at h
      · cases q : compFs n c _ with
        | none => rw [q] at h; cases h
        | some fs =>
          rw [q] at h; cases h
          obtain ⟨h1, h2⟩ := sndFs q hk.2 F
          exact se_tup h1 (by rw [h2]; exact hk.1)
      · cases q : compVs n c c.ret _ with
        | none => rw [q] at h; cases h
        | some fs =>
          rw [q] at h; cases h
          obtain ⟨h1, h2⟩ := (snd n).Vs q hk.2 F
          exact se_tup h1 (by rw [h2]; exact hk.1)
    · cases h
  · split at h
    · exact sndF h F
    · exact (snd n).V h F
theorem sndAs : ∀ {n : Nat} {ts vs : List PySem.Expr} {fs : List EM}, compAs n c ts vs = some fs → vs.all notStar = true → Facts X c → SA X vs fs ∧ fs.length = vs.length
  | 0, _, _, _, h, _, _ => by cases h
  | n + 1, ts, vs, fs, h, hn, F => by
    simp only [compAs] at h
    split at h
    · cases h; exact ⟨sa_nil, rfl⟩
    · rw [List.all_cons, Bool.and_eq_true] at hn
      split at h
      · rename_i f fs' he hr
        cases h
        obtain ⟨h1, h2⟩ := sndAs hr hn.2 F
        exact ⟨sa_cons hn.1 ((snd n).V he F) h1, by rw [List.length_cons, List.length_cons, h2]⟩
      · cases h
    · cases h
theorem sndA {tg v : PySem.Expr} {f : SM} (h : compA n c tg v = some f) (F : FactsS X c) {pos : Pos} : SS X (.Assign [tg] v pos) f := by
  have loc : ∀ {x : Str}, kindB c.sc x .local = true → X.env.scope.names.lookup x = some .local := fun h => by rw [F.sc]; exact kind_ok h
  unfold compA at h
  split at h
  · rename_i ts kt pt vs kv pv
    split at h
    · rename_i hk
      rw [Bool.and_eq_true, Bool.and_eq_true, Bool.and_eq_true, decide_eq_true_eq] at hk
      obtain ⟨⟨⟨nt, nv⟩, hl⟩, hfn⟩ := hk
      have kf := isFn_ok F.toFacts hfn
      split at h
      · cases h
      · rename_i hs
        have hw : swappedStores [.Tuple ts kt pt] (.Tuple vs kv pv) X.env = pure none := swap_of kf (by rw [F.sc]; exact hs)
        split at h
        · rename_i tt L fs hg ha
          cases h
          obtain ⟨g1, g2⟩ := (snd n).Gs hg nt F.toFacts
          obtain ⟨a1, a2⟩ := sndAs ha nv F.toFacts
          exact ss_tup F.calm g2 (by rw [a2]; exact hl) nt hw g1 a1
        · cases h
      · rename_i nm hs
        have hw : swappedStores [.Tuple ts kt pt] (.Tuple vs kv pv) X.env = pure (some nm) := swap_of kf (by rw [F.sc]; exact hs)
        split at h
        · split at h
          · rename_i _ ha e
            subst e
            split at h
            · rename_i i j hi hj
              split at h
              · rename_i hc
                cases h
                obtain ⟨a1, a2⟩ := sndAs ha nv F.toFacts
                exact ss_par2 F.calm F.nd (by rw [F.nN]; exact ix_ok hi) (by rw [F.nN]; exact ix_ok hj) hc.1 (loc hc.2.1) (loc hc.2.2) hw a1
              · cases h
            · cases h
          · cases h
        · split at h
          · rename_i _ ha e
            subst e
            split at h
            · rename_i i j k hi hj hk
              split at h
              · rename_i hc
                cases h
                obtain ⟨a1, a2⟩ := sndAs ha nv F.toFacts
                exact ss_par3 F.calm F.nd (by rw [F.nN]; exact ix_ok hi) (by rw [F.nN]; exact ix_ok hj) (by rw [F.nN]; exact ix_ok hk) hc.1 hc.2.1 hc.2.2.1 (loc hc.2.2.2.1) (loc hc.2.2.2.2.1) (loc hc.2.2.2.2.2) hw a1
              · cases h
            · cases h
          · cases h
        · cases h
    · cases h
  · rename_i y py elt tg it ifs scope lp
    split at h
    · rename_i hsw
      unfold swB at hsw
      rw [Bool.and_eq_true, Bool.and_eq_true, Bool.and_eq_true, Bool.not_eq_true'] at hsw
      obtain ⟨⟨⟨s1, s2⟩, s3⟩, s4⟩ := hsw
      split at h
      · rename_i hk
        rw [Bool.and_eq_true] at hk
        split at h
        · rename_i i fi t L fs fe hi hit hg hT he
          split at h
          · rename_i hL
            cases h
            have hL' : ∀ i ∈ L, i ∈ (ownOf c.N scope).map (·.2) := fun i hi => of_decide_eq_true (List.all_eq_true.mp hL i hi)
            refine ss_setComp F.calm F.nd (by rw [F.nN]; exact ix_ok hi) (loc s2) (sw_true (isFn_ok F.toFacts s1) (loc s2) s3 s4) ((snd n).I hit F.toFacts) (by rw [F.nN, F.sc]; exact blkOk_by hk.1) (set_ok hk.2) hL'
              (fun s H C cl fp => (snd n).G hg F.toFacts.blk) (fun s H C cl fp => (snd n).Ts hT F.toFacts.blk) (fun s H C cl fp => (snd n).V he F.toFacts.blk) ?_
            split
            · exact .inl rfl
            · exact .inr rfl
          · cases h
        · cases h
      · cases h
    · split at h
      · rename_i hno
        split at h
        · rename_i t L f hg hv
          cases h
          exact ss_asg (swNo_ok F.toFacts hno) (.inl rfl) rfl ((snd n).G hg F.toFacts) ((snd n).V hv F.toFacts)
        · cases h
      · cases h
  · split at h
    · rename_i hk
      rw [Bool.and_eq_true, Bool.and_eq_true, Bool.or_eq_true] at hk
      split at h
      · rename_i t L f hg hv
        cases h
        exact ss_asg (swNo_ok F.toFacts hk.1.1) hk.1.2 hk.2 ((snd n).G hg F.toFacts) ((snd n).V hv F.toFacts)
      · cases h
    · cases h
theorem sndS : ∀ n : Nat, (∀ {c : Cc} {st : Stmt} {f : SM}, compS n c st = some f → ∀ {X : Cx}, FactsS X c → SS X st f) ∧ (∀ {c : Cc} {sts : List Stmt} {f : SM}, compSs n c sts = some f → ∀ {X : Cx}, FactsS X c → SSs X sts f)
  | 0 => ⟨fun h => (by unfold compS at h; exact nomatch h), fun h => (by unfold compSs at h; exact nomatch h)⟩
  | n + 1 => by
    obtain ⟨ihS, ihB⟩ := sndS n
    refine ⟨fun {c st f} h {X} F => ?_, fun {c sts f} h {X} F => ?_⟩
    · unfold compS at h
      split at h
      · cases h; exact ss_pass
      · cases h; exact ss_brk
      · cases h; exact ss_cnt
      · cases h; exact ss_never
      · cases h; exact ss_retN
      · cases q : compR n c _ with
        | none => rw [q] at h; cases h
        | some g => rw [q] at h; cases h; exact ss_ret (sndR q F.toFacts)
      · rename_i o m apos a cpos pos
        split at h
        · rename_i hk
          rw [Bool.and_eq_true, Bool.and_eq_true] at hk
          split at h
          · rename_i e; subst e
            split at h
            · rename_i fo fa ho ha
              cases h
              exact ss_app hk.1.1 hk.1.2 hk.2 ((snd n).E ho F.toFacts) ((snd n).V ha F.toFacts)
            · cases h
          · split at h
            · rename_i e; subst e
              split at h
              · rename_i fo fa ho ha
                cases h
                exact ss_ext hk.1.1 hk.1.2 hk.2 ((snd n).E ho F.toFacts) ((snd n).V ha F.toFacts)
              · cases h
            · cases h
        · cases h
      · split at h
        · rename_i hk
          cases q : compE n c _ with
          | none => rw [q] at h; cases h
          | some g => rw [q] at h; cases h; exact ss_drop hk ((snd n).E q F.toFacts)
        · cases h
      · split at h
        · rename_i ft fa fb ht ha hb
          cases h
          exact ss_if ((snd n).T ht F.toFacts) (ihB ha F) (ihB hb F)
        · cases h
      · split at h
        · rename_i hk
          split at h
          · rename_i fi t L fb hi hg hb
            cases h
            exact ss_for F.own F.calm (set_ok hk) ((snd n).I hi F.toFacts) ((snd n).G hg F.toFacts) (ihB hb F)
          · cases h
        · cases h
      · split at h
        · rename_i ft fb ht hb
          cases h
          exact ss_while F.own ((snd n).T ht F.toFacts) (ihB hb F)
        · cases h
      · exact sndA h F
      · split at h
        · rename_i g i fb hg hi hb
          split at h
          · rename_i hk
            cases h
            rw [Bool.and_eq_true, Bool.or_eq_true] at hk
            refine ss_aug (ip_ok hg) F.nd (by rw [F.nN]; exact ix_ok hi) (F.loc hk.1) ?_ ((snd n).E hb F.toFacts)
            rcases hk.2 with k | k
            · exact .inl (F.fn _ (of_decide_eq_true k))
            · exact .inr (by rw [F.sc]; exact kind_ok k)
          · cases h
        · cases h
      · split at h
        · rename_i fa fb ha hb
          cases h
          exact ss_try F.no (ihB ha F) (ihB hb F)
        · cases h
      · cases h
    · simp only [compSs] at h
      split at h
      · cases h; exact sss_nil
      · exact sss_one (ihS h F)
      · split at h
        · rename_i f g hf hg
          cases h
          exact sss_cons (ihS hf F) (ihB hg F)
        · cases h
end
end Gg

end
section
/-! GTop: a def of the text is the function over data that its text compiles to. -/
namespace Gg
open PySem PySem.Spec PyProof.Rows L2

section
variable {K : PySem.W.Frag} {W : Wd} {H : Hp} {μ : Sto}
theorem cells_of : ∀ {ks : List Nat} {cs : List (List PyData)}, cs.length = ks.length → (∀ (i k : Nat) (c : List PyData), ks[i]? = some k → cs[i]? = some c → flatCell μ k = some c) → flatCells μ ks = some cs
  | [], [], _, _ => rfl
  | [], _ :: _, h, _ => by cases h
  | _ :: _, [], h, _ => by cases h
  | k :: ks, c :: cs, h, g => by
    simp only [flatCells]
    rw [g 0 k c rfl rfl]
    simp only []
    rw [cells_of (cs := cs) (by simpa using h) fun i k' c' h1 h2 => g (i + 1) k' c' (by simpa using h1) (by simpa using h2)]
    rfl
theorem back_get : ∀ {n : Nat} {μ : Sto} {cs : List (List PyData)}, flatBack n μ = some cs → cs.length = n ∧ ∀ i c, cs[i]? = some c → flatCell μ i = some c
  | 0, _, _, h => by
    unfold flatBack at h; cases h
    exact ⟨rfl, fun i c h => by simp at h⟩
  | n + 1, [], _, h => by unfold flatBack at h; cases h
  | n + 1, .dead :: _, _, h => by unfold flatBack at h; cases h
  | n + 1, .lst xs :: r, cs, h => by
    unfold flatBack at h
    split at h
    · rename_i c hc
      cases q : flatBack n r with
      | none => rw [q] at h; cases h
      | some ds =>
        rw [q] at h; cases h
        obtain ⟨h1, h2⟩ := back_get q
        refine ⟨by rw [List.length_cons, h1], fun i c' h => ?_⟩
        cases i with
        | zero => simp at h; subst h; exact hc
        | succ i =>
          have := h2 i c' (by simpa using h)
          unfold flatCell at this ⊢
          rwa [List.getElem?_cons_succ]
    · cases h
theorem ats_range {m : List Addr} : ∀ {n : Nat} (k : Nat), k + n ≤ m.length → Ats m (List.range' k n) ((m.drop k).take n)
  | 0, _, _ => .nil
  | n + 1, k, h => by
    have hk : k < m.length := by omega
    rw [List.range'_succ, List.drop_eq_getElem_cons hk, List.take_succ_cons]
    exact .cons (List.getElem?_eq_getElem hk) (ats_range (k + 1) (by omega))
theorem Ats.snoc {m : List Addr} {k : Nat} {a : Addr} (h : m[k]? = some a) : ∀ {ks : List Nat} {as : List Addr}, Ats m ks as → Ats m (ks ++ [k]) (as ++ [a])
  | _, _, .nil => .cons h .nil
  | _, _, .cons h0 t => .cons h0 (Ats.snoc h t)
/-- of the frame's cells only those of the caller, and the answer's one, stay -/
theorem keep_cells {W' : Wd} {H' : Hp} {cs cs' : List (List PyData)} (R0 : W.m.length = cs.length) (E : Ext W H (cellsOf cs) W' H' μ) (R : Rel K W' H' μ) (hb : flatBack cs.length μ = some cs') :
    Ext W H (cellsOf cs) ⟨W.m, W'.F⟩ H' (cellsOf cs') ∧ Rel K ⟨W.m, W'.F⟩ H' (cellsOf cs') ∧
    ∀ j c, cs.length ≤ j → flatCell μ j = some c → ∃ b, W'.m[j]? = some b ∧ Ext W H (cellsOf cs) ⟨W.m ++ [b], W'.F⟩ H' (cellsOf (cs' ++ [c])) ∧ Rel K ⟨W.m ++ [b], W'.F⟩ H' (cellsOf (cs' ++ [c])) := by
  obtain ⟨l1, l2⟩ := back_get hb
  obtain ⟨r, er, nr⟩ := E.pre
  have hl : cs.length ≤ W'.m.length := by rw [er, List.length_append]; omega
  have hat : Ats W'.m (List.range' 0 cs.length) W.m := by
    have := ats_range (m := W'.m) (n := cs.length) 0 (by omega)
    rwa [List.drop_zero, er, List.take_append_of_le_length (by omega), ← R0, List.take_length, ← er, R0] at this
  have hf : flatCells μ (List.range' 0 cs.length) = some cs' := cells_of (by rw [l1]; simp) fun i k c h1 h2 => by
    have e : k = i := by
      have hi : i < (List.range' 0 cs.length).length := (List.getElem?_eq_some_iff.mp h1).1
      rw [List.length_range'] at hi
      rw [List.getElem?_range' hi] at h1
      cases h1; omega
    rw [e]; exact l2 i c h2
  have nd : (List.range' 0 cs.length).Nodup := List.nodup_range'
  refine ⟨⟨⟨[], by simp, by simp⟩, E.F, E.dom, E.keep, E.Fnew, fun k hk _ => by rw [cells_live]; omega⟩, rel_in R nd hf hat, fun j c hj hc => ?_⟩
  have hjl : j < W'.m.length := by
    rw [R.len]
    unfold flatCell at hc
    split at hc
    · rename_i xs hx; exact live_lt ⟨xs, hx⟩
    · cases hc
  have hfj : flatCells μ (List.range' 0 cs.length ++ [j]) = some (cs' ++ [c]) := cells_of (by simp [l1]) fun i k d h1 h2 => by
    by_cases hi : i < cs.length
    · rw [List.getElem?_append_left (by simpa using hi)] at h1
      rw [List.getElem?_append_left (by omega)] at h2
      obtain ⟨xs, c', g1, g2, g3⟩ := flat_get hf h1
      rw [h2] at g1; cases g1
      unfold flatCell; rw [g2]; exact g3
    · rw [List.getElem?_append_right (by simpa using hi)] at h1
      rw [List.getElem?_append_right (by omega)] at h2
      have e : i - cs'.length = 0 := by
        cases q : i - cs'.length with
        | zero => rfl
        | succ z => rw [q] at h2; simp at h2
      rw [e] at h2
      have e2 : i - (List.range' 0 cs.length).length = 0 := by rw [List.length_range']; omega
      rw [e2] at h1
      cases h1; cases h2; exact hc
  have hatj := Ats.snoc (List.getElem?_eq_getElem hjl) hat
  have ndj : (List.range' 0 cs.length ++ [j]).Nodup := by
    rw [List.nodup_append]
    refine ⟨nd, by simp, fun a ha b hb => ?_⟩
    rw [List.mem_singleton] at hb
    have := List.mem_range'.mp ha
    omega
  refine ⟨W'.m[j], List.getElem?_eq_getElem hjl, ⟨⟨[W'.m[j]], rfl, fun a ha => ?_⟩, E.F, E.dom, E.keep, E.Fnew, fun k hk _ => by rw [cells_live]; omega⟩, rel_in R ndj hfj hatj⟩
  rw [List.mem_singleton] at ha
  subst ha
  refine nr _ ?_
  have hm : ∀ (m : List Addr) (h : j < m.length), m = W.m ++ r → m[j] ∈ r := by
    intro m h e
    subst e
    rw [List.getElem_append_right (by omega)]
    exact List.getElem_mem _
  exact hm _ hjl er
theorem env_start {N : List Str} {vs : List V} {ls : List LV} (h : RLs K W H vs ls) : EnvOk K W H (L2.start N vs) (ls.map some ++ List.replicate (N.length - vs.length) none) := by
  have hl := h.length
  refine ⟨by unfold L2.start; simp [hl], fun i lv hi => ?_⟩
  by_cases hlt : i < ls.length
  · rw [List.getElem?_append_left (by simpa using hlt), List.getElem?_map] at hi
    cases q : ls[i]? with
    | none => rw [q] at hi; cases hi
    | some x =>
      rw [q] at hi
      have hi : some (some x) = some (some lv) := hi
      cases hi
      obtain ⟨v, h1, h2⟩ := h.get q
      refine ⟨v, ?_, h2⟩
      unfold L2.start
      rw [List.getElem?_append_left (by rw [List.length_map, hl]; exact hlt), List.getElem?_map, h1]
      rfl
  · rw [List.getElem?_append_right (by simpa using hlt), List.getElem?_replicate] at hi
    split at hi <;> cases hi
/-- the def's promise, from its statements -/
theorem body_sp {N : List Str} {np : Nat} {b : SM} {vs : List V} {Q : VK} {E : XK} (h : spF K (mkFn np N.length b) np vs H Q E) : tS K b { nx := fun _ H' => Q .non H', rt := Q } (L2.start N vs) H := by
  obtain ⟨W, ls, cs, r, cs', hnp, rs, R, hF, q⟩ := h
  unfold mkFn at hF
  have hl := rs.length
  rw [if_pos (by omega)] at hF
  have lenW : W.m.length = cs.length := by
    have := R.len
    unfold cellsOf at this
    rwa [List.length_map] at this
  cases ho : b (ls.map some ++ List.replicate (N.length - np) none) (cellsOf cs) with
  | none =>
    have ho' := ho
    unfold cellsOf at ho'
    rw [ho'] at hF
    cases hF
  | some o =>
    have ho' := ho
    unfold cellsOf at ho'
    rw [ho'] at hF
    refine ⟨W, _, _, o, R, ?_, ho, ?_⟩
    · have := env_start (N := N) rs
      rwa [hnp] at this
    · cases o with
      | bk _ _ => cases hF
      | ct _ _ => cases hF
      | nx e m =>
        simp only [answer] at hF
        cases hb : flatBack cs.length m with
        | none => rw [hb] at hF; cases hF
        | some c2 =>
          rw [hb] at hF; cases hF
          intro W' H' σ' E' R' ok'
          obtain ⟨k1, k2, _⟩ := keep_cells lenW E' R' hb
          exact q _ _ _ k1 k2 .non
      | rt v m =>
        cases v with
        | d x =>
          simp only [answer] at hF
          cases hb : flatBack cs.length m with
          | none => rw [hb] at hF; cases hF
          | some c2 =>
            rw [hb] at hF; cases hF
            intro W' H' u E' R' ru
            obtain ⟨k1, k2, _⟩ := keep_cells lenW E' R' hb
            exact q _ _ _ k1 k2 ru
        | ro _ => cases hF
        | ref j =>
          simp only [answer] at hF
          split at hF
          · rename_i hj
            split at hF
            · rename_i c2 c hb hc
              cases hF
              intro W' H' u E' R' ru
              obtain ⟨_, _, k3⟩ := keep_cells lenW E' R' hb
              obtain ⟨bb, g1, g2, g3⟩ := k3 j c hj hc
              obtain ⟨a, a1, a2⟩ := ru
              rw [g1] at a1; cases a1
              refine q _ _ _ g2 g3 ⟨bb, ?_, a2⟩
              show (W.m ++ [bb])[cs.length]? = some bb
              rw [← lenW, List.getElem?_append_right (Nat.le_refl _), Nat.sub_self]; rfl
            · cases hF
          · cases hF
        | tr pre j =>
          simp only [answer] at hF
          split at hF
          · rename_i hj
            split at hF
            · rename_i c2 c hb hc
              cases hF
              intro W' H' u E' R' ru
              obtain ⟨_, _, k3⟩ := keep_cells lenW E' R' hb
              obtain ⟨bb, g1, g2, g3⟩ := k3 j c hj hc
              obtain ⟨a, us, b', a1, a2, a3, a4⟩ := ru
              rw [g1] at a4; cases a4
              refine q _ _ _ g2 g3 ⟨a, us, bb, a1, a2, a3, ?_⟩
              show (W.m ++ [bb])[cs.length]? = some bb
              rw [← lenW, List.getElem?_append_right (Nat.le_refl _), Nat.sub_self]; rfl
            · cases hF
          · cases hF
end
/-! ### the defs of the module -/
/-- a def that may be called by its name -/
structure CalG (P : Program) (w : World) (K : PySem.W.Frag) (mg : Str → Option Value) (base : Heap) (k : Nat) (x : Str) (F : Fn) : Prop where
  ex : ∃ (f : Addr) (fd : FuncData) (ps : List Str), FnG P w K mg base k f fd ps (spF K F ps.length) ∧ mg x = some (.ref f) ∧ PySem.W.keepIn K (.ref f) = true ∧ Binds K fd ps [] ∧ ∀ ls cs r, F ls cs = some r → ls.length = ps.length
theorem CalG.mono {P : Program} {w : World} {K : PySem.W.Frag} {mg : Str → Option Value} {base : Heap} {j k : Nat} {x : Str} {F : Fn} (h : CalG P w K mg base j x F) (hk : j ≤ k) : CalG P w K mg base k x F := by
  obtain ⟨f, fd, ps, h1, h2⟩ := h.ex
  exact ⟨f, fd, ps, h1.mono hk, h2⟩
def AllCal (P : Program) (w : World) (K : PySem.W.Frag) (mg : Str → Option Value) (base : Heap) (k : Nat) : List (Str × Fn) → Prop
  | [] => True
  | p :: r => CalG P w K mg base k p.1 p.2 ∧ AllCal P w K mg base k r
theorem AllCal.at {P : Program} {w : World} {K : PySem.W.Frag} {mg : Str → Option Value} {base : Heap} {k : Nat} {x : Str} {F : Fn} : ∀ {l : List (Str × Fn)}, AllCal P w K mg base k l → l.lookup x = some F → CalG P w K mg base k x F
  | (y, G) :: r, h, e => by
    rw [List.lookup_cons] at e
    split at e
    · rename_i hx
      cases e
      have hx : x = y := eq_of_beq hx
      rw [hx]; exact h.1
    · exact AllCal.at h.2 e
/-- what the module's names stand for -/
structure ModF (K : PySem.W.Frag) (mg : Str → Option Value) (glb : List (Str × PyData)) : Prop where
  bl : ∀ x ∈ BUILTINS, mg x = none
  gl : ∀ x d, glb.lookup x = some d → ∃ u, mg x = some u ∧ GV K u d
def fnCc (N : List Str) (sc : Scope) (fns : List (Str × Fn)) (glb : List (Str × PyData)) (mu : List (Str × Nat)) (ret : Nat) : Cc := ⟨N, sc, N, fns, glb, mu, ret⟩
theorem fng_by {P : Program} {w : World} {K : PySem.W.Frag} {mg : Str → Option Value} {base : Heap} {x qual : Str} {params : Arguments} {body : List Stmt} {scope : Scope} {f : Addr} {fd : FuncData} {N ps : List Str} {fns : List (Str × Fn)} {glb : List (Str × PyData)} {mu : List (Str × Nat)} {ret k n : Nat} {b : SM} {G : Fn}
    (hG : G = mkFn ps.length N.length b) (F : FunD K x qual params body scope [] [] f fd) (hm : mg x = some (.ref f)) (M : ModF K mg glb) (hs : C8.scC N ps scope = true)
    (hc : compSs n (fnCc N scope fns glb mu ret) body = some b) (A : AllCal P w K mg base k fns) : FnG P w K mg base (k + 1) f fd ps (spF K G ps.length) := by
  subst hG
  have S := C8.fnScope_by hs
  obtain ⟨oc, od, dV, kV, doc, pm, an, cdv, ct, osl, e, lk, hcd, hD, _⟩ := F.ex
  refine ⟨?_, ?_⟩
  · intro vs H Q E h
    obtain ⟨W, ls, cs, r, cs', hnp, _⟩ := h
    exact hnp
  · intro Ar os s H xs us vs Q hgu hro en hbi rel hsp
    subst e
    have hlen : vs.length = ps.length := by obtain ⟨W, ls, cs, r, cs', hnp, _⟩ := hsp; exact hnp
    have kIn : K.In s.heap := en.mod.kin.keeps fun b o e => (en.bs b o e).1
    have noLim : s.heap.NoLimit := en.mod.nolimit.keeps fun b o e => (en.bs b o e).1
    have kinds : ∀ y ∈ ps.zip us, scope.names.lookup y.1 = some .local ∨ (scope.names.lookup y.1 = some .cell ∧ ((cellsFrom (s.heap.objs.size + 1) scope.names []).lookup y.1).isSome = true) := by
      intro ⟨n, v⟩ hy
      rcases S.par n (List.of_mem_zip hy).1 with q | q
      · exact .inl q
      · exact .inr ⟨q, PySem.W.cellsFrom_some _ _ _ (.inl q)⟩
    refine codeAny_call_function hro.depth (kIn _ _ lk) rfl S.co S.gen rfl (PySem.W.codeRec_of kIn hcd) (hbi _ _ _ _ ?_)
    refine wpAny_newFunctionEnv_cells S.kind kinds fun env henv s1 hx => ?_
    subst henv
    refine ⟨noLim.keeps hx.toInCall.keep, codeAny_func ?_⟩
    have J : Inv (cxOf CX0 P w K mg base N qual scope f cdv Ar os s H E0) [] (L2.start N vs) H s1 := inv_start S hro.hd en hlen rel hx
    have Fa : FactsS (cxOf CX0 P w K mg base N qual scope f cdv Ar os s H E0).nox (fnCc N scope fns glb mu ret) :=
      { nN := rfl, nd := S.nd, sc := rfl, calm := rfl, gu := hgu
        un := by have := hro.un; show Ar.units + 3 + 65 < cLine; omega
        fn := fun _ _ => rfl, bl := M.bl
        gl := M.gl
        fns := fun y G h => by
          obtain ⟨f2, fd2, ps2, h1, h2, h3, h4, h5⟩ := (A.at h).ex
          exact ⟨k, f2, fd2, ps2, h1, hro.deeper _, h2, h3, h4, h5⟩
        no := fun _ _ h => h }
    have ht := (sndS n).2 hc Fa
    refine wpAny_mono (ht.nox.run [] s1 (L2.start N vs) H _ J (body_sp hsp)) (fun fl s' hs => ?_) fun e s' hs => hs
    cases fl with
    | ret u =>
      obtain ⟨v, σ', H', J', rv, q⟩ := hs
      exact ⟨v, H', J'.os, J'.bare, J'.base, J'.hok, rv, q⟩
    | next =>
      obtain ⟨σ', H', J', q⟩ := hs
      exact ⟨V.non, H', J'.os, J'.bare, J'.base, J'.hok, rfl, q⟩
    | brk => obtain ⟨_, _, _, q⟩ := hs; exact q.elim
    | cont => obtain ⟨_, _, _, q⟩ := hs; exact q.elim
theorem cal_by {P : Program} {w : World} {K : PySem.W.Frag} {mg : Str → Option Value} {base : Heap} {x qual : Str} {params : Arguments} {body : List Stmt} {scope : Scope} {f : Addr} {fd : FuncData} {N ps : List Str} {fns : List (Str × Fn)} {glb : List (Str × PyData)} {mu : List (Str × Nat)} {ret k n : Nat} {b : SM} {G : Fn}
    (hG : G = mkFn ps.length N.length b) (F : FunD K x qual params body scope [] [] f fd) (hm : mg x = some (.ref f)) (M : ModF K mg glb) (hs : C8.scC N ps scope = true) (hb : ∀ (kV doc pm : Value) (an : Option Addr) (cdv ct : Value) (us : List Value), us.length = ps.length → bindArgs (PySem.W.fnOf x qual params body scope .none kV doc pm an cdv ct) ⟨us, []⟩ = pure (ps.zip us))
    (hc : compSs n (fnCc N scope fns glb mu ret) body = some b) (A : AllCal P w K mg base k fns) : CalG P w K mg base (k + 1) x G := by
  subst hG
  refine ⟨f, fd, ps, fng_by rfl F hm M hs hc A, hm, F.kp, F.bindsN hb, fun ls cs r h => ?_⟩
  unfold mkFn at h
  split at h
  · rename_i e; exact e
  · cases h
end Gg

end
section
/-! GHook: constants of the module: whole numbers, texts, tuples of these. -/
namespace Gg
open PySem PySem.Spec PyProof.Rows L2

mutual
/-- a module's object reads as data -/
def cB (K : PySem.W.Frag) : Value → PyData → Bool
  | .none, .none => true
  | .bool b, .bool c => decide (b = c)
  | .int i _, .int j => decide (i = j)
  | .str s _, .str t => decide (s = t)
  | .ref a, .tuple xs => match K.lookup a with
    | some ⟨.type c, _, .seq its _, _⟩ => decide (c = "tuple") && (decide (its.size ≤ sizeLine) && cBs K its.toList xs)
    | _ => false
  | _, _ => false
def cBs (K : PySem.W.Frag) : List Value → List PyData → Bool
  | [], [] => true
  | u :: us, x :: xs => cB K u x && cBs K us xs
  | _, _ => false
end
mutual
theorem cB_ok {K : PySem.W.Frag} : ∀ {x : PyData} {u : Value}, cB K u x = true → GV K u x
  | .none, u, h => by
    cases u <;> simp only [cB] at h <;> first | (cases h; done) | exact ⟨.non, rfl, fun _ _ => .non⟩
  | .bool b, u, h => by
    cases u <;> simp only [cB] at h <;> first | (cases h; done) | skip
    have e := of_decide_eq_true h
    subst e
    exact ⟨.bl _, rfl, fun _ _ => .bl _⟩
  | .int b, u, h => by
    cases u <;> simp only [cB] at h <;> first | (cases h; done) | skip
    have e := of_decide_eq_true h
    subst e
    exact ⟨.int _, ⟨_, rfl⟩, fun _ _ => .int _⟩
  | .str b, u, h => by
    cases u <;> simp only [cB] at h <;> first | (cases h; done) | skip
    have e := of_decide_eq_true h
    subst e
    exact ⟨.str _, ⟨_, rfl⟩, fun _ _ => .str _⟩
  | .list _, u, h => by cases u <;> simp only [cB] at h <;> cases h
  | .dict _, u, h => by cases u <;> simp only [cB] at h <;> cases h
  | .tuple xs, u, h => by
    cases u with
    | ref a =>
      simp only [cB] at h
      split at h
      · rename_i c d its n sl q
        rw [Bool.and_eq_true, Bool.and_eq_true] at h
        obtain ⟨vs, h1, h2⟩ := cBs_ok h.2.2
        exact ⟨.ref a, rfl, fun F H => .tup (.inr ⟨_, its, n, q, congrArg Value.type (of_decide_eq_true h.1), rfl, of_decide_eq_true h.2.1, h1⟩) (h2 F H)⟩
      · cases h
    | _ => simp only [cB] at h <;> cases h
theorem cBs_ok {K : PySem.W.Frag} : ∀ {xs : List PyData} {us : List Value}, cBs K us xs = true → ∃ vs, Vals vs us ∧ ∀ (F : Addr → Prop) (H : Hp), RPs K F H vs xs
  | [], [], _ => ⟨[], .nil, fun _ _ => .nil⟩
  | [], _ :: _, h => by simp only [cBs] at h; cases h
  | _ :: _, [], h => by simp only [cBs] at h; cases h
  | x :: xs, u :: us, h => by
    simp only [cBs] at h
    rw [Bool.and_eq_true] at h
    obtain ⟨v, h1, h2⟩ := cB_ok h.1
    obtain ⟨vs, h3, h4⟩ := cBs_ok h.2
    exact ⟨v :: vs, .cons h1 h3, fun F H => .cons (h2 F H) (h4 F H)⟩
end
def consB (cs : List (Str × PyData)) (K : PySem.W.Frag) : Bool := cs.all fun q => match PySem.W.nsIn K mainGlobals q.1 with
  | some (some u) => cB K u q.2
  | _ => false
theorem cons_at {K : PySem.W.Frag} {h : Heap} {mg : Str → Option Value} (X : K.In h) (G : h.Ns mainGlobals mg) : ∀ {cs : List (Str × PyData)}, consB cs K = true → ∀ x d, cs.lookup x = some d → ∃ u, mg x = some u ∧ GV K u d
  | [], _, x, d, e => by cases e
  | (y, z) :: r, c, x, d, e => by
    unfold consB at c
    rw [List.all_cons, Bool.and_eq_true] at c
    rw [List.lookup_cons] at e
    split at e
    · rename_i hx
      have hx := eq_of_beq hx
      subst hx
      cases e
      have c1 := c.1
      simp only at c1
      split at c1
      · rename_i u q
        exact ⟨u, PySem.W.mg_of X G q, cB_ok c1⟩
      · cases c1
    · exact cons_at X G c.2 x d e
/-! what is looked up in the module, once and for all -/
abbrev AlC : Type := He.AlD × Bool
def obsC (n : Nat) (fa : List He.Fa) (fn : List He.DefD) (cs : List (Str × PyData)) (g : Addr → Option Obj) : AlC :=
  (He.obsD fa fn (He.frG g (He.asD g n)), consB cs (He.frG g (He.asD g n)))
def hookC (n : Nat) (fa : List He.Fa) (fn : List He.DefD) (cs : List (Str × PyData)) : PySem.W.Hook where
  α := AlC
  obs := fun t => obsC n fa fn cs t.heap.get?
  val := fun _ => (He.valD fn, true)
  says := fun _ hp => ∃ K : PySem.W.Frag, K.In hp ∧ He.SaysD fa fn K ∧ consB cs K = true
  of := fun _ _ e => ⟨_, He.frG_in, congrArg (fun z : AlC => z.1) e, congrArg (fun z : AlC => z.2) e⟩
  keeps := fun _ _ _ ⟨K, kin, c1, c2⟩ k => ⟨K, PySem.W.Frag.In.keeps kin k, c1, c2⟩
theorem obsC_eq {n : Nat} {fa : List He.Fa} {fn : List He.DefD} {cs : List (Str × PyData)} {g : Addr → Option Obj} {t : Shared} (h : ∀ a, g a = t.heap.get? a) : obsC n fa fn cs g = (hookC n fa fn cs).obs t := by
  have e : g = t.heap.get? := funext h
  subst e
  rfl
end Gg

end
section
/-! GLaw: the law's def, called as the statement calls it. -/
namespace Gg
open PySem PySem.Spec PyProof.Rows L2

/-- the script, seen by the law's def -/
theorem law_sp {K : PySem.W.Frag} {F : Fn} {H : Hp} {a : Addr} {ns : List Int} (hF : F [.ro (ns.map .int)] [] = some (.d (.bool true), [])) (hO : Only H) (hS : SqL K H a (ns.map V.int)) {E : XK} : spF K F 1 [.ref a] H (fun v _ => v = .bl true) E := by
  have ro : RoL K H a (ns.map V.int) := by
    rcases hS with (h | ⟨o, h⟩) | h
    · rcases hO a with z | ⟨o, xs, z⟩
      · rw [h] at z; cases z
      · rw [h] at z; cases z
    · exact .inl ⟨o, h⟩
    · exact .inr (.inr h)
  have rp : RPs K (fun _ => False) H (ns.map V.int) (ns.map PyData.int) := by
    clear hF hS ro
    induction ns with
    | nil => exact .nil
    | cons i r ih => exact .cons (.int i) ih
  refine ⟨⟨[], fun _ => False⟩, [.ro (ns.map .int)], [], _, [], rfl, .cons ⟨a, _, rfl, ro, rp⟩ .nil, ?_, hF, fun W' H' v _ _ rv => ?_⟩
  · exact ⟨rfl, fun k b xs h => (by cases h), fun i j b hi => (by obtain ⟨xs, hi⟩ := hi; cases hi), fun b h => h.elim⟩
  · cases rv; rfl
theorem law_run {P : Program} {w : World} {K : PySem.W.Frag} {mg mb : Str → Option Value} {k : Nat} {fL aL : Addr} {fdL : FuncData} {x : Str} {F : Fn} {sh : Shared} {us : List Value} {ns : List Int}
    (kIn : K.In sh.heap) (gNs : sh.heap.Ns mainGlobals mg) (bNs : sh.heap.Ns builtinsNs mb) (bBoot : ∀ x : Str, x ≠ "__name__" → mb x = bootBuiltins x) (noLim : sh.heap.NoLimit) (noGen : sh.gens = #[])
    (hObj : sh.heap.get? aL = some { cls := .type "list", data := .seq us.toArray }) (hInts : IntsAre us ns) (hLen : ns.length ≤ sizeLine) (room : Room k callerA)
    (hFn : ∀ base : Heap, K.In base → base.Ns mainGlobals mg → FnG P w K mg base k fL fdL [x] (spF K F 1)) (hBind : ∀ (s : Shared) (u : Value), BindsTo s fdL ⟨[u], []⟩ [(x, u)])
    (hF : F [.ro (ns.map .int)] [] = some (.d (.bool true), [])) :
    codeAny (model P w) callerA (.call (.ref fL) ⟨[.ref aL], []⟩) (fun r s' => r = .ok (.ret (.bool true)) ∧ OldK sh.heap s'.heap ∧ s'.os = sh.os ∧ AllBare s'.gens) sh := by
  have rVals := vals_ints hInts
  have lenUs := hInts.length
  have main : ∀ Hh : Hp, Only Hh → SqL K Hh aL (ns.map V.int) → HOk P w Hh sh.heap → (∀ b, Hh b ≠ none → b = aL) → (Hh aL ≠ none → K.lookup aL = none) →
      codeAny (model P w) callerA (.call (.ref fL) ⟨[.ref aL], []⟩) (fun r s' => r = .ok (.ret (.bool true)) ∧ OldK sh.heap s'.heap ∧ s'.os = sh.os ∧ AllBare s'.gens) sh := by
    intro Hh only seq okH onlyA notK
    have under : ∀ {b : Addr} {o : Obj}, sh.heap.get? b = some o → Hh b = none → (hidT sh.heap Hh).get? b = some o := fun e n => hidT_get e n
    have isA : ∀ {b : Addr}, Hh b ≠ none → b = aL := fun z => onlyA _ z
    have noDict : ∀ {b : Addr} {o : Obj} {es : Array DictEntry} {ep : Nat}, sh.heap.get? b = some o → o.data = .dict es ep → Hh b = none := by
      intro b o es ep e d
      cases q : Hh b with
      | none => rfl
      | some u =>
        obtain rfl : b = aL := isA (by rw [q]; simp)
        rw [hObj] at e; cases e
        exact absurd (show Data.seq us.toArray _ = Data.dict es ep from d) (fun z => by cases z)
    have nsUp : ∀ {b : Addr} {m : Str → Option Value}, sh.heap.Ns b m → (hidT sh.heap Hh).Ns b m := fun {b m} ⟨o, es, ep, e, d, r⟩ => ⟨o, es, ep, under e (noDict e d), d, r⟩
    have kUp : K.In (hidT sh.heap Hh) := by
      intro b o e
      refine under (kIn b o e) ?_
      cases q : Hh b with
      | none => rfl
      | some u =>
        obtain rfl : b = aL := isA (by rw [q]; simp)
        rw [notK (by rw [q]; simp)] at e; cases e
    have md : Mod K mg (hidT sh.heap Hh) := ⟨kUp, nsUp gNs, ⟨mb, nsUp bNs, bBoot⟩, let ⟨mc, h1, h2⟩ := noLim; ⟨mc, nsUp h1, h2⟩⟩
    have env : Env0 P w K mg (hidT sh.heap Hh) callerA [] sh Hh := ⟨rfl, md, fun b o e => of_hidT e, Nat.le_of_eq (hidT_size _ _), trivial, fun b z => absurd (show b ∈ ([] : List Addr) from z) (by simp), okH, .of_eq noGen⟩
    refine codeAny_mono ((hFn _ kUp (nsUp gNs)).go callerA [] sh Hh ⟨[.ref aL], []⟩ [.ref aL] [.ref aL] _ rfl room env (hBind sh (.ref aL)) (.cons rfl .nil) (law_sp hF only seq)) fun res s' got => ?_
    cases res with
    | error e => exact got.elim
    | ok fl =>
      cases fl with
      | next => exact got.elim
      | brk => exact got.elim
      | cont => exact got.elim
      | ret u =>
        obtain ⟨v, H', os, bare, un, ok2, rv, isT⟩ := got
        have isT : v = .bl true := isT
        subst isT
        obtain rfl : u = Value.bool true := rv
        refine ⟨rfl, OldK.of_keep fun b o e => ?_, os, bare⟩
        cases q : Hh b with
        | none => exact un.keep b o e q (fun z => absurd (show b ∈ ([] : List Addr) from z) (by simp)) (by simp)
        | some ob =>
          rcases only b with z | ⟨ob2, xs, z⟩
          · rw [q] at z; cases z
          · obtain ⟨e1, _⟩ := okH b _ z
            obtain ⟨e2, _⟩ := ok2 b _ (un.frzs b ob2 _ z)
            rw [e] at e1; cases e1
            exact e2
  cases inK : K.lookup aL with
  | some o =>
    have e := kIn aL o inK
    rw [hObj] at e
    cases e
    refine main (fun _ => none) (fun _ => .inl rfl) (.inr ⟨_, us.toArray, _, inK, rfl, rfl, rfl, by rw [List.size_toArray, lenUs]; exact hLen, by simpa using rVals⟩) (fun b u z => ?_) (fun b z => absurd rfl z) fun z => absurd rfl z
    exact nomatch (show (none : Option HO) = some u from z)
  | none =>
    have same : ∀ {b : Addr} {c : HO}, (if b = aL then some c else (none : Option HO)) ≠ none → b = aL := fun {b c} z => by
      by_cases e : b = aL
      · exact e
      · exact absurd (if_neg e) z
    refine main (fun b => if b = aL then some (.frz { cls := .type "list", data := .seq us.toArray } (.lst (ns.map V.int))) else none) (fun b => ?_) (.inl (.inr ⟨{ cls := .type "list", data := .seq us.toArray }, if_pos rfl⟩)) (fun b u z => ?_) (fun b z => same z) fun _ => inK
    · by_cases e : b = aL
      · exact .inr ⟨_, _, if_pos e⟩
      · exact .inl (if_neg e)
    · have z : (if b = aL then some (HO.frz { cls := .type "list", data := .seq us.toArray } (.lst (ns.map V.int))) else none) = some u := z
      obtain rfl : b = aL := same (by rw [z]; simp)
      rw [if_pos rfl] at z; cases z
      exact ⟨hObj, by rw [List.length_map]; exact hLen, us, _, rVals, hObj⟩
/-- a law, by what its def answers to every script -/
theorem walk_law {l : PySem.W.OpenLaw} {n k : Nat} {q : Program} {loose : List Str} {XP : (Str → Option Value) → Heap → Prop} {YP : World → Heap → Prop} {d : DefRec} {x : Str} {F : Fn}
    (hmost : l.most = some n) (hsize : n ≤ sizeLine) (hdfl : d.params.defaults = []) (room : Room k callerA)
    (defs : ∀ (w : World) (mg : Str → Option Value) (fL : Addr) (h : Heap), YP w h → h.Ns mainGlobals mg → mg d.name = some (.ref fL) →
      ∃ (K : PySem.W.Frag) (fdL : FuncData), K.In h ∧ (∀ (s : Shared) (u : Value), BindsTo s fdL ⟨[u], []⟩ [(x, u)]) ∧ ∀ base : Heap, K.In base → base.Ns mainGlobals mg → FnG l.prog w K mg base k fL fdL [x] (spF K F 1))
    (hF : ∀ ns : List Int, ns.length ≤ n → F [.ro (ns.map .int)] [] = some (.d (.bool true), [])) :
    PySem.W.WalkO q loose XP YP l.row.toRowW d [] (fun f vs => PySem.call f vs) := by
  refine Att.attach_call hmost hdfl fun w s0 sh mg mb fL o pm cd doc aL us ns G Y ho hd hcd hmg hObj hInts hLen hgen => ?_
  obtain ⟨K, fdL, kIn, hBind, hFn⟩ := defs w mg fL _ Y G.T.g hmg
  exact law_run kIn G.T.g G.T.b G.T.builtins G.T.nolimit hgen hObj hInts (Nat.le_trans hLen hsize) room hFn hBind (hF ns hLen)
end Gg

end
section
/-! GEval: reckoning with the functions over data: what simp may do, and rules for loops. -/
namespace Gg
open PySem

section
variable {e : Env} {m : Sto} {fa fb fc : EM} {fs : List EM} {g h : B2}
@[simp] theorem ev_con {c : PyData} : eCon c e m = some (.d c, m) := rfl
@[simp] theorem ev_var {i : Nat} {v : LV} (q : e[i]? = some (some v)) : eVar i e m = some (v, m) := by unfold eVar; simp only [q]
@[simp] theorem evl_nil : evalL [] e m = some ([], m) := rfl
@[simp] theorem evl_cons {f : EM} : evalL (f :: fs) e m = (f e m).bind fun a => (evalL fs e a.2).map fun b => (a.1 :: b.1, b.2) := by
  show (match f e m with
    | some (v, m1) => match evalL fs e m1 with
      | some (vs, m2) => some (v :: vs, m2)
      | none => none
    | none => none) = _
  rcases f e m with _ | ⟨a, m1⟩
  · rfl
  · show (match evalL fs e m1 with
      | some (vs, m2) => some (a :: vs, m2)
      | none => none) = (evalL fs e m1).map _
    rcases evalL fs e m1 with _ | ⟨b, m2⟩ <;> rfl
@[simp] theorem ev_tup : eTup fs e m = (evalL fs e m).bind fun a => (tupV a.1).map fun x => (x, a.2) := by
  unfold eTup; rcases evalL fs e m with _ | ⟨a, m1⟩ <;> rfl
@[simp] theorem allD_nil : allD [] = some [] := rfl
@[simp] theorem allD_d {x : PyData} {r : List LV} : allD (.d x :: r) = (allD r).map (x :: ·) := rfl
@[simp] theorem allD_ref {k : Nat} {r : List LV} : allD (.ref k :: r) = none := rfl
@[simp] theorem allD_map : ∀ c : List PyData, allD (c.map LV.d) = some c
  | [] => rfl
  | x :: c => by rw [List.map_cons, allD_d, allD_map c]; rfl
@[simp] theorem trOf_ref {k : Nat} : trOf [.ref k] = some ([], k) := rfl
@[simp] theorem trOf_d {x : PyData} {r : List LV} : trOf (.d x :: r) = (trOf r).map fun q => (x :: q.1, q.2) := rfl
@[simp] theorem tupV_ev {vs : List LV} : tupV vs = match allD vs with
  | some xs => some (.d (.tuple xs))
  | none => (trOf vs).map fun q => .tr q.1 q.2 := rfl
@[simp] theorem rdD_d {x : PyData} : rdD m (.d x) = some x := rfl
@[simp] theorem rdD_ref {k : Nat} {xs : List LV} (q : m[k]? = some (.lst xs)) : rdD m (.ref k) = (allD xs).map .list := by unfold rdD; simp only [q]
@[simp] theorem rdS_d {x : PyData} : rdS m (.d x) = some x := rfl
@[simp] theorem rdS_ref {k : Nat} : rdS m (.ref k) = rdD m (.ref k) := rfl
@[simp] theorem rdS_ro {xs : List PyData} : rdS m (.ro xs) = some (.list xs) := rfl
@[simp] theorem rdAll_nil : rdAll m [] = some [] := rfl
@[simp] theorem rdAll_cons {v : LV} {r : List LV} : rdAll m (v :: r) = (rdD m v).bind fun x => (rdAll m r).map (x :: ·) := by
  show (match rdD m v with
    | some x => (rdAll m r).map (x :: ·)
    | none => none) = _
  cases rdD m v <;> rfl
@[simp] theorem ev_bin : eBin g fa fb e m = (fa e m).bind fun a => (fb e a.2).bind fun b => (rdD b.2 a.1).bind fun x => (rdD b.2 b.1).bind fun y => (g x y).map fun z => (.d z, b.2) := by
  unfold eBin
  rcases fa e m with _ | ⟨a, m1⟩
  · rfl
  · show (match fb e m1 with
      | some (b, m2) => match rdD m2 a, rdD m2 b with
        | some x, some y => (g x y).map fun z => (LV.d z, m2)
        | _, _ => none
      | none => none) = (fb e m1).bind fun b => (rdD b.2 a).bind fun x => (rdD b.2 b.1).bind fun y => (g x y).map fun z => (LV.d z, b.2)
    rcases fb e m1 with _ | ⟨b, m2⟩
    · rfl
    · show (match rdD m2 a, rdD m2 b with
        | some x, some y => (g x y).map fun z => (LV.d z, m2)
        | _, _ => none) = (rdD m2 a).bind fun x => (rdD m2 b).bind fun y => (g x y).map fun z => (LV.d z, m2)
      cases rdD m2 a <;> cases rdD m2 b <;> rfl
@[simp] theorem ev_un {u : PyData → Option PyData} : eUn u fa e m = (fa e m).bind fun a => (rdD a.2 a.1).bind fun x => (u x).map fun z => (.d z, a.2) := by
  unfold eUn
  rcases fa e m with _ | ⟨a, m1⟩
  · rfl
  · show (match rdD m1 a with
      | some x => (u x).map fun z => (LV.d z, m1)
      | none => none) = (rdD m1 a).bind fun x => (u x).map fun z => (LV.d z, m1)
    cases rdD m1 a <;> rfl
@[simp] theorem truth_d {x : PyData} : truth m (.d x) = truthD x := rfl
@[simp] theorem truth_ref {k : Nat} {xs : List LV} (q : m[k]? = some (.lst xs)) : truth m (.ref k) = some (!xs.isEmpty) := by
  show (match m[k]? with
    | some (.lst xs) => some (!xs.isEmpty)
    | _ => none) = _
  simp only [q]
@[simp] theorem ev_len : eLen fa e m = (fa e m).bind fun a => (lenV a.2 a.1).map fun z => (.d z, a.2) := by
  unfold eLen; rcases fa e m with _ | ⟨a, m1⟩ <;> rfl
@[simp] theorem lenV_l {xs : List PyData} : lenV m (.d (.list xs)) = some (.int xs.length) := rfl
@[simp] theorem lenV_t {xs : List PyData} : lenV m (.d (.tuple xs)) = some (.int xs.length) := rfl
@[simp] theorem lenV_r {k : Nat} {xs : List LV} (q : m[k]? = some (.lst xs)) : lenV m (.ref k) = some (.int xs.length) := by
  show (match m[k]? with
    | some (.lst xs) => some (PyData.int xs.length)
    | _ => none) = _
  simp only [q]
@[simp] theorem truthD_bool {b : Bool} : truthD (.bool b) = some b := rfl
@[simp] theorem truthD_int {i : Int} : truthD (.int i) = some (i != 0) := rfl
@[simp] theorem truthD_none : truthD .none = some false := rfl
@[simp] theorem truthD_list {xs : List PyData} : truthD (.list xs) = some (!xs.isEmpty) := rfl
@[simp] theorem truthD_tup {xs : List PyData} : truthD (.tuple xs) = some (!xs.isEmpty) := rfl
@[simp] theorem ev_and : eAnd fa fb e m = (fa e m).bind fun r => (truth r.2 r.1).bind fun t => if t = true then fb e r.2 else some r := by
  unfold eAnd
  rcases fa e m with _ | ⟨a, m1⟩
  · rfl
  · show _ = (truth m1 a).bind fun t => if t = true then fb e m1 else some (a, m1)
    simp only []
    rcases truth m1 a with _ | _ | _ <;> rfl
@[simp] theorem ev_or : eOr fa fb e m = (fa e m).bind fun r => (truth r.2 r.1).bind fun t => if t = true then some r else fb e r.2 := by
  unfold eOr
  rcases fa e m with _ | ⟨a, m1⟩
  · rfl
  · show _ = (truth m1 a).bind fun t => if t = true then some (a, m1) else fb e m1
    simp only []
    rcases truth m1 a with _ | _ | _ <;> rfl
@[simp] theorem ev_not : eNot fa e m = (fa e m).bind fun r => (truth r.2 r.1).map fun b => (.d (.bool (!b)), r.2) := by
  unfold eNot
  rcases fa e m with _ | ⟨a, m1⟩ <;> rfl
@[simp] theorem ev_ite : eIte fc fa fb e m = (fc e m).bind fun r => (truth r.2 r.1).bind fun t => if t = true then fa e r.2 else fb e r.2 := by
  unfold eIte
  rcases fc e m with _ | ⟨a, m1⟩
  · rfl
  · show _ = (truth m1 a).bind fun t => if t = true then fa e m1 else fb e m1
    simp only []
    rcases truth m1 a with _ | _ | _ <;> rfl
def boolOf : Option PyData → Option Bool
  | some (.bool b) => some b
  | _ => none
@[simp] theorem boolOf_b {b : Bool} : boolOf (some (.bool b)) = some b := rfl
@[simp] theorem ev_chain : eChain g h fa fb fc e m = (fa e m).bind fun a => (fb e a.2).bind fun b => (rdD b.2 a.1).bind fun x => (rdD b.2 b.1).bind fun y => (boolOf (g x y)).bind fun t =>
    if t = true then (fc e b.2).bind fun c => (rdD c.2 b.1).bind fun y' => (rdD c.2 c.1).bind fun z => (h y' z).map fun w => (.d w, c.2) else some (.d (.bool false), b.2) := by
  unfold eChain
  rcases fa e m with _ | ⟨a, m1⟩
  · rfl
  simp only [Option.bind_some]
  rcases fb e m1 with _ | ⟨b, m2⟩
  · rfl
  simp only [Option.bind_some]
  rcases rdD m2 a with _ | x
  · rfl
  rcases rdD m2 b with _ | y
  · rfl
  simp only [Option.bind_some]
  rcases g x y with _ | w
  · rfl
  cases w with
  | bool t =>
    cases t with
    | false => rfl
    | true =>
      simp only [boolOf, Option.bind_some, if_pos]
      rcases fc e m2 with _ | ⟨c, m3⟩
      · rfl
      simp only [Option.bind_some]
      rcases rdD m3 b with _ | y' <;> rcases rdD m3 c with _ | z <;> rfl
  | _ => rfl
@[simp] theorem isNoneV_d {x : PyData} : isNoneV (.d x) = isNoneB x := by cases x <;> rfl
@[simp] theorem isNoneV_tr {p : List PyData} {k : Nat} : isNoneV (.tr p k) = false := rfl
@[simp] theorem isNoneB_none : isNoneB .none = true := rfl
@[simp] theorem isNoneB_int {i : Int} : isNoneB (.int i) = false := rfl
@[simp] theorem isNoneB_tup {xs : List PyData} : isNoneB (.tuple xs) = false := rfl
@[simp] theorem isNoneB_list {xs : List PyData} : isNoneB (.list xs) = false := rfl
@[simp] theorem isNoneB_str {x : Str} : isNoneB (.str x) = false := rfl
@[simp] theorem isNoneB_bool {x : Bool} : isNoneB (.bool x) = false := rfl
@[simp] theorem ev_isN {n : Bool} : eIsN n fa e m = (fa e m).map fun a => (.d (.bool (isNoneV a.1 != n)), a.2) := by
  unfold eIsN; rcases fa e m with _ | ⟨a, m1⟩ <;> rfl
@[simp] theorem ev_ix {fi : EM} : eIx fa fi e m = (fa e m).bind fun a => (fi e a.2).bind fun i => (ixV i.2 a.1 i.1).map fun v => (v, i.2) := by
  unfold eIx
  rcases fa e m with _ | ⟨a, m1⟩
  · rfl
  · simp only [Option.bind_some]
    rcases fi e m1 with _ | ⟨b, m2⟩ <;> rfl
@[simp] theorem ixV_dd {x y : PyData} : ixV m (.d x) (.d y) = (ixD x y).map .d := rfl
@[simp] theorem ixV_ref {k : Nat} {j : Int} {xs : List LV} (q : m[k]? = some (.lst xs)) : ixV m (.ref k) (.d (.int j)) = (ixPos xs.length j).bind fun p => xs[p]? := by unfold ixV; simp only [q]
@[simp] theorem ixV_tr {p : List PyData} {k : Nat} {j : Int} : ixV m (.tr p k) (.d (.int j)) = (ixPos (p.length + 1) j).bind fun i => (p.map LV.d ++ [.ref k])[i]? := rfl
@[simp] theorem ixD_list {xs : List PyData} {i : Int} : ixD (.list xs) (.int i) = (ixPos xs.length i).bind fun j => xs[j]? := rfl
@[simp] theorem ixD_tup {xs : List PyData} {i : Int} : ixD (.tuple xs) (.int i) = (ixPos xs.length i).bind fun j => xs[j]? := rfl
theorem ixPos_nat {n k : Nat} (q : k < n) : ixPos n (k : Int) = some k := by
  unfold ixPos
  rw [if_pos (by omega), if_pos (by omega)]; rfl
theorem ixPos_of {n : Nat} {i : Int} (h0 : 0 ≤ i) (h1 : i < n) : ixPos n i = some i.toNat := by
  unfold ixPos
  rw [if_pos h0, if_pos h1]
theorem ixPos_neg {n : Nat} {i : Int} (h0 : i < 0) (h1 : -(n : Int) ≤ i) : ixPos n i = some (i + n).toNat := by
  unfold ixPos
  rw [if_neg (by omega), if_pos h1]
@[simp] theorem evo_none : evalO none e m = some (none, m) := rfl
/-- a whole number -/
def intV : LV → Option Int
  | .d (.int i) => some i
  | _ => none
@[simp] theorem intV_i {i : Int} : intV (.d (.int i)) = some i := rfl
@[simp] theorem evo_some {f : EM} : evalO (some f) e m = (f e m).bind fun a => (intV a.1).map fun i => (some i, a.2) := by
  show (match f e m with
    | some (.d (.int i), m1) => some (some i, m1)
    | _ => none) = _
  rcases f e m with _ | ⟨a, m1⟩
  · rfl
  · cases a with
    | d x => cases x <;> rfl
    | _ => rfl
@[simp] theorem ev_sl {lo hi : Option EM} : eSl fa lo hi e m = (fa e m).bind fun a => (evalO lo e a.2).bind fun l => (evalO hi e l.2).bind fun h => (rdS h.2 a.1).bind fun x => (slD l.1 h.1 x).map fun z => (.d z, h.2) := by
  unfold eSl
  rcases fa e m with _ | ⟨a, m1⟩
  · rfl
  simp only [Option.bind_some]
  rcases evalO lo e m1 with _ | ⟨l, m2⟩
  · rfl
  simp only [Option.bind_some]
  rcases evalO hi e m2 with _ | ⟨h, m3⟩
  · rfl
  simp only [Option.bind_some]
  cases rdS m3 a <;> rfl
@[simp] theorem slD_list {lo hi : Option Int} {xs : List PyData} : slD lo hi (.list xs) = some (.list (slPart xs lo hi)) := rfl
@[simp] theorem slD_tup {lo hi : Option Int} {xs : List PyData} : slD lo hi (.tuple xs) = some (.tuple (slPart xs lo hi)) := rfl
@[simp] theorem ev_bi {b : BF} : eBi b fs e m = (evalL fs e m).bind fun a => (rdAll a.2 a.1).bind fun xs => (b xs).map fun z => (.d z, a.2) := by
  unfold eBi
  rcases evalL fs e m with _ | ⟨a, m1⟩
  · rfl
  · simp only [Option.bind_some]
    cases rdAll m1 a <;> rfl
@[simp] theorem ev_isi {T : String} : eIsi T fa e m = (fa e m).bind fun a => (rdD a.2 a.1).map fun x => (.d (.bool (isType T x)), a.2) := by
  unfold eIsi
  rcases fa e m with _ | ⟨a, m1⟩
  · rfl
  · simp only [Option.bind_some]
    cases rdD m1 a <;> rfl
@[simp] theorem ev_lst {l : LM} : eLst l e m = (l e m).bind fun a => (allD a.1).map fun xs => (.d (.list xs), a.2) := by
  unfold eLst; rcases l e m with _ | ⟨a, m1⟩ <;> rfl
@[simp] theorem ev_new {l : LM} : eNew l e m = (l e m).map fun a => (.ref a.2.length, a.2 ++ [.lst a.1]) := by
  unfold eNew; rcases l e m with _ | ⟨a, m1⟩ <;> rfl
@[simp] theorem ev_disp : lDisp fs e m = evalL fs e m := rfl
@[simp] theorem ev_lof {f : EM} : lOf f e m = (f e m).bind fun a => (itemsOf a.2 a.1).map fun xs => (xs, a.2) := by
  unfold lOf; rcases f e m with _ | ⟨a, m1⟩ <;> rfl
@[simp] theorem items_list {xs : List PyData} : itemsOf m (.d (.list xs)) = some (xs.map .d) := rfl
@[simp] theorem items_tup {xs : List PyData} : itemsOf m (.d (.tuple xs)) = some (xs.map .d) := rfl
@[simp] theorem items_ro {xs : List PyData} : itemsOf m (.ro xs) = some (xs.map .d) := rfl
@[simp] theorem items_ref {k : Nat} {xs : List LV} (q : m[k]? = some (.lst xs)) : itemsOf m (.ref k) = some xs := by unfold itemsOf; simp only [q]
def revV (m : Sto) : LV → Option (List LV)
  | .d (.list xs) => some (xs.reverse.map .d)
  | .ref k => match m[k]? with
    | some (.lst xs) => some xs.reverse
    | _ => none
  | _ => none
@[simp] theorem revV_l {xs : List PyData} : revV m (.d (.list xs)) = some (xs.reverse.map .d) := rfl
@[simp] theorem revV_r {k : Nat} {xs : List LV} (q : m[k]? = some (.lst xs)) : revV m (.ref k) = some xs.reverse := by unfold revV; simp only [q]
@[simp] theorem ev_lrev {f : EM} : lRev f e m = (f e m).bind fun a => (revV a.2 a.1).map fun xs => (xs, a.2) := by
  unfold lRev
  rcases f e m with _ | ⟨a, m1⟩
  · rfl
  · cases a with
    | d x => cases x <;> rfl
    | ref k =>
      simp only [Option.bind_some, revV]
      rcases m1[k]? with _ | _ | _ <;> rfl
    | _ => rfl
@[simp] theorem ev_lrng {f : IM} : lRng f e m = match f e m with
  | some (.items xs, m1) => some (xs, m1)
  | _ => none := rfl
@[simp] theorem ev_lrep {l : LM} {fn : EM} : lRep l fn e m = (l e m).bind fun a => (fn e a.2).bind fun b => (intV b.1).bind fun k => if a.1.length * k.toNat ≤ LINE ∧ rngOk k = true then some ((List.replicate k.toNat a.1).flatten, b.2) else none := by
  unfold lRep
  rcases l e m with _ | ⟨a, m1⟩
  · rfl
  · simp only [Option.bind_some]
    rcases fn e m1 with _ | ⟨b, m2⟩
    · rfl
    · cases b with
      | d x => cases x <;> rfl
      | _ => rfl
@[simp] theorem line_v : LINE = 1000000 := rfl
@[simp] theorem sealF_s {F : Fn} : sealF F = F := sealF_eq F
/-! data -/
@[simp] theorem addD_ii {i j : Int} : addD (.int i) (.int j) = some (.int (i + j)) := rfl
@[simp] theorem subD_ii {i j : Int} : subD (.int i) (.int j) = some (.int (i - j)) := rfl
@[simp] theorem addD_ll {x y : List PyData} : addD (.list x) (.list y) = if x.length + y.length ≤ LINE then some (.list (x ++ y)) else none := rfl
@[simp] theorem addD_tt {x y : List PyData} : addD (.tuple x) (.tuple y) = if x.length + y.length ≤ LINE then some (.tuple (x ++ y)) else none := rfl
@[simp] theorem mulD_ii {i j : Int} : mulD (.int i) (.int j) = if mulFits i j then some (.int (i * j)) else none := rfl
@[simp] theorem fdivD_ii {i j : Int} : fdivD (.int i) (.int j) = if 0 < j ∧ j.natAbs.log2 < 9000 then some (.int (i / j)) else none := rfl
@[simp] theorem modD_ii {i j : Int} : modD (.int i) (.int j) = if 0 < j then some (.int (i % j)) else none := rfl

@[simp] theorem ltD_ii {i j : Int} : ltD (.int i) (.int j) = some (.bool (decide (i < j))) := rfl
@[simp] theorem leD_ii {i j : Int} : leD (.int i) (.int j) = some (.bool (decide (i ≤ j))) := rfl
@[simp] theorem gtD_ii {i j : Int} : gtD (.int i) (.int j) = some (.bool (decide (j < i))) := rfl
@[simp] theorem geD_ii {i j : Int} : geD (.int i) (.int j) = some (.bool (decide (j ≤ i))) := rfl
@[simp] theorem negD_i {i : Int} : negD (.int i) = some (.int (-i)) := rfl
@[simp] theorem revD_l {x : List PyData} : revD (.list x) = some (.list x.reverse) := rfl
@[simp] theorem revD_t {x : List PyData} : revD (.tuple x) = some (.tuple x.reverse) := rfl
@[simp] theorem bLen_l {x : List PyData} : bLen [.list x] = some (.int x.length) := rfl
@[simp] theorem bLen_t {x : List PyData} : bLen [.tuple x] = some (.int x.length) := rfl
@[simp] theorem bTuple_l {x : List PyData} : bTuple [.list x] = some (.tuple x) := rfl
@[simp] theorem bTuple_t {x : List PyData} : bTuple [.tuple x] = some (.tuple x) := rfl
@[simp] theorem bInt_i {i : Int} : bInt [.int i] = some (.int i) := rfl
@[simp] theorem bInt_b {b : Bool} : bInt [.bool b] = some (.int (if b then 1 else 0)) := rfl
@[simp] theorem bAbs_i {i : Int} : bAbs [.int i] = some (.int (if i < 0 then -i else i)) := rfl
@[simp] theorem bMax_ii {i j : Int} : bMax [.int i, .int j] = some (.int (if j > i then j else i)) := rfl
@[simp] theorem bMin_ii {i j : Int} : bMin [.int i, .int j] = some (.int (if j < i then j else i)) := rfl
@[simp] theorem bMax_iii {a : Int} {r : List Int} : bMax [.list (.int a :: r.map .int)] = some (.int (maxI a r)) := by
  show (match intsOf ((a :: r).map .int) with
    | some (a :: r) => some (PyData.int (maxI a r))
    | _ => maxL _) = _
  have : ∀ l : List Int, intsOf (l.map .int) = some l := by
    intro l
    induction l with
    | nil => rfl
    | cons i r ih => rw [List.map_cons]; unfold intsOf; rw [ih]; rfl
  rw [this]
@[simp] theorem bMin_iii {a : Int} {r : List Int} : bMin [.list (.int a :: r.map .int)] = some (.int (minI a r)) := by
  show (match intsOf ((a :: r).map .int) with
    | some (a :: r) => some (PyData.int (minI a r))
    | _ => minL _) = _
  have : ∀ l : List Int, intsOf (l.map .int) = some l := by
    intro l
    induction l with
    | nil => rfl
    | cons i r ih => rw [List.map_cons]; unfold intsOf; rw [ih]; rfl
  rw [this]
@[simp] theorem isi_tuple_t {x : List PyData} : isType "tuple" (.tuple x) = true := rfl
@[simp] theorem isi_int_i {i : Int} : isType "int" (.int i) = true := rfl
@[simp] theorem isi_bool_i {i : Int} : isType "bool" (.int i) = false := rfl
@[simp] theorem isi_str_s {x : Str} : isType "str" (.str x) = true := rfl
theorem intsOf_map : ∀ l : List Int, intsOf (l.map .int) = some l
  | [] => rfl
  | i :: r => by rw [List.map_cons]; unfold intsOf; rw [intsOf_map r]; rfl
theorem boolsOf_map : ∀ l : List Bool, boolsOf (l.map .bool) = some l
  | [] => rfl
  | i :: r => by rw [List.map_cons]; unfold boolsOf; rw [boolsOf_map r]; rfl
theorem bAll_map {α : Type} {f : α → Bool} (l : List α) : bAll [.list (l.map fun x => .bool (f x))] = some (.bool (l.all f)) := by
  have e : (l.map fun x => PyData.bool (f x)) = (l.map f).map .bool := by rw [List.map_map]; rfl
  rw [e]
  show (boolsOf ((l.map f).map .bool)).map (fun bs => PyData.bool (bs.all id)) = _
  rw [boolsOf_map]
  show some (PyData.bool ((l.map f).all id)) = _
  rw [List.all_map]; rfl
/-! statements -/
@[simp] theorem st_pass : sPass e m = some (.nx e m) := rfl
@[simp] theorem st_brk : sBrk e m = some (.bk e m) := rfl
@[simp] theorem st_cnt : sCnt e m = some (.ct e m) := rfl
@[simp] theorem st_never : sNever e m = none := rfl
/-- what comes behind -/
def seqK (r : Option Out) (b : SM) : Option Out := match r with
  | some (.nx e1 m1) => b e1 m1
  | r => r
@[simp] theorem st_seq {a b : SM} : sSeq a b e m = seqK (a e m) b := rfl
@[simp] theorem sk_nx {b : SM} : seqK (some (.nx e m)) b = b e m := rfl
@[simp] theorem sk_rt {b : SM} {v : LV} : seqK (some (.rt v m)) b = some (.rt v m) := rfl
@[simp] theorem sk_bk {b : SM} : seqK (some (.bk e m)) b = some (.bk e m) := rfl
@[simp] theorem sk_ct {b : SM} : seqK (some (.ct e m)) b = some (.ct e m) := rfl
@[simp] theorem sk_no {b : SM} : seqK none b = none := rfl
@[simp] theorem sk_ite {p : Prop} [Decidable p] {x y : Option Out} {b : SM} : seqK (if p then x else y) b = if p then seqK x b else seqK y b := by split <;> rfl
@[simp] theorem sk_map {α : Type} {o : Option α} {f : α → Out} {b : SM} : seqK (o.map f) b = o.bind fun x => seqK (some (f x)) b := by cases o <;> rfl
@[simp] theorem st_asg {t : TM} {f : EM} : sAsg t f e m = (f e m).bind fun a => (t a.1 e a.2).map fun r => .nx r.1 r.2 := by
  unfold sAsg; rcases f e m with _ | ⟨a, m1⟩ <;> rfl
@[simp] theorem st_par {ts : List TM} : sPar ts fs e m = (evalL fs e m).bind fun a => (toAll ts a.1 e a.2).map fun r => .nx r.1 r.2 := by
  unfold sPar; rcases evalL fs e m with _ | ⟨a, m1⟩ <;> rfl
@[simp] theorem st_aug {i : Nat} {f : EM} {x : PyData} (q : e[i]? = some (some (.d x))) : sAug i g f e m = match f e m with
  | some (.d y, m1) => (g x y).map fun z => .nx (e.set i (some (.d z))) m1
  | _ => none := by
  unfold sAug
  simp only [q]
  cases f e m with
  | none => rfl
  | some r =>
    obtain ⟨w, m1⟩ := r
    cases w <;> rfl
@[simp] theorem st_drop {f : EM} : sDrop f e m = (f e m).map fun r => .nx e r.2 := rfl
/-- a list that may change: its place, its items -/
def lstV (m : Sto) : LV → Option (Nat × List LV)
  | .ref k => match m[k]? with
    | some (.lst xs) => some (k, xs)
    | _ => none
  | _ => none
@[simp] theorem lstV_r {k : Nat} {xs : List LV} (q : m[k]? = some (.lst xs)) : lstV m (.ref k) = some (k, xs) := by unfold lstV; simp only [q]
@[simp] theorem st_app {fo fv : EM} : sApp fo fv e m = (fo e m).bind fun a => (lstV a.2 a.1).bind fun l => (fv e a.2).bind fun v => (lstV v.2 (.ref l.1)).bind fun l2 => if l2.2.length ≤ LINE then some (.nx e (v.2.set l.1 (.lst (l2.2 ++ [v.1])))) else none := by
  unfold sApp
  rcases fo e m with _ | ⟨a, m1⟩
  · rfl
  cases a with
  | ref k =>
    simp only [Option.bind_some, lstV]
    rcases m1[k]? with _ | _ | xs
    · rfl
    · rfl
    simp only [Option.bind_some]
    rcases fv e m1 with _ | ⟨v, m2⟩
    · rfl
    simp only [Option.bind_some]
    rcases m2[k]? with _ | _ | ys <;> rfl
  | _ => rfl
@[simp] theorem st_ext {fo fv : EM} : sExt fo fv e m = (fo e m).bind fun a => (lstV a.2 a.1).bind fun l => (fv e a.2).bind fun v => (lstV v.2 (.ref l.1)).bind fun l2 => (listOf v.2 v.1).bind fun ys => if l2.2.length + ys.length ≤ LINE then some (.nx e (v.2.set l.1 (.lst (l2.2 ++ ys)))) else none := by
  unfold sExt
  rcases fo e m with _ | ⟨a, m1⟩
  · rfl
  cases a with
  | ref k =>
    simp only [Option.bind_some, lstV]
    rcases m1[k]? with _ | _ | xs
    · rfl
    · rfl
    simp only [Option.bind_some]
    rcases fv e m1 with _ | ⟨v, m2⟩
    · rfl
    simp only [Option.bind_some]
    rcases m2[k]? with _ | _ | ys
    · rfl
    · rfl
    simp only [Option.bind_some]
    cases listOf m2 v <;> rfl
  | _ => rfl
@[simp] theorem listOf_d {xs : List PyData} : listOf m (.d (.list xs)) = some (xs.map .d) := rfl
@[simp] theorem listOf_ref {k : Nat} {xs : List LV} (q : m[k]? = some (.lst xs)) : listOf m (.ref k) = some xs := by unfold listOf; simp only [q]
@[simp] theorem st_if {a b : SM} : sIf fc a b e m = (fc e m).bind fun r => (truth r.2 r.1).bind fun t => if t = true then a e r.2 else b e r.2 := by
  unfold sIf
  rcases fc e m with _ | ⟨v, m1⟩
  · rfl
  · simp only [Option.bind_some]
    rcases truth m1 v with _ | _ | _ <;> rfl
@[simp] theorem st_ret {f : EM} : sRet f e m = (f e m).map fun r => .rt r.1 r.2 := rfl
@[simp] theorem st_retN : sRetN e m = some (.rt (.d .none) m) := rfl
@[simp] theorem tg_name {i : Nat} {v : LV} : tName i v e m = some (e.set i (some v), m) := rfl
@[simp] theorem tg_tup {ts : List TM} {xs : List PyData} : tTup ts (.d (.tuple xs)) e m = toAll ts (xs.map .d) e m := rfl
@[simp] theorem tg_lst {ts : List TM} {xs : List PyData} : tTup ts (.d (.list xs)) e m = toAll ts (xs.map .d) e m := rfl
@[simp] theorem tg_tr {ts : List TM} {pre : List PyData} {k : Nat} : tTup ts (.tr pre k) e m = toAll ts (pre.map .d ++ [.ref k]) e m := rfl
@[simp] theorem tg_ref {ts : List TM} {k : Nat} {xs : List LV} (q : m[k]? = some (.lst xs)) : tTup ts (.ref k) e m = toAll ts xs e m := by
  show (match m[k]? with
    | some (.lst xs) => toAll ts xs e m
    | _ => none) = _
  simp only [q]
@[simp] theorem ta_nil : toAll [] [] e m = some (e, m) := rfl
@[simp] theorem ta_cons {t : TM} {ts : List TM} {v : LV} {vs : List LV} : toAll (t :: ts) (v :: vs) e m = (t v e m).bind fun r => toAll ts vs r.1 r.2 := by
  show (match t v e m with
    | some (e1, m1) => toAll ts vs e1 m1
    | none => none) = _
  rcases t v e m with _ | ⟨a, m1⟩ <;> rfl
@[simp] theorem tg_sub {fo fi : EM} {v : LV} : tSub fo fi v e m = (fo e m).bind fun o => (fi e o.2).bind fun i => (setItem i.2 o.1 i.1 v).map fun m3 => (e, m3) := by
  unfold tSub
  rcases fo e m with _ | ⟨a, m1⟩
  · rfl
  · simp only [Option.bind_some]
    rcases fi e m1 with _ | ⟨b, m2⟩ <;> rfl
@[simp] theorem setItem_ev {k : Nat} {j : Int} {v : LV} {xs : List LV} (q : m[k]? = some (.lst xs)) : setItem m (.ref k) (.d (.int j)) v = (ixPos xs.length j).map fun p => m.set k (.lst (xs.set p v)) := by unfold setItem; simp only [q]
@[simp] theorem wipe_nil : wipeE e [] = e := rfl
@[simp] theorem wipe_cons {i : Nat} {r : List Nat} : wipeE e (i :: r) = (wipeE e r).set i none := rfl
/-! calls -/
@[simp] theorem ev_call {F : Fn} : eCall F fs e m = (evalL fs e m).bind fun a => callF F a.1 a.2 := by
  unfold eCall; rcases evalL fs e m with _ | ⟨a, m1⟩ <;> rfl
@[simp] theorem refs_nil : refsOf [] = [] := rfl
@[simp] theorem refs_d {x : PyData} {r : List LV} : refsOf (.d x :: r) = refsOf r := rfl
@[simp] theorem refs_ro {x : List PyData} {r : List LV} : refsOf (.ro x :: r) = refsOf r := rfl
@[simp] theorem refs_ref {k : Nat} {r : List LV} : refsOf (.ref k :: r) = k :: refsOf r := rfl
@[simp] theorem ren_nil {n : Nat} : renum n [] = [] := rfl
@[simp] theorem ren_d {n : Nat} {x : PyData} {r : List LV} : renum n (.d x :: r) = .d x :: renum n r := rfl
@[simp] theorem ren_ro {n : Nat} {x : List PyData} {r : List LV} : renum n (.ro x :: r) = .ro x :: renum n r := rfl
@[simp] theorem ren_ref {n k : Nat} {r : List LV} : renum n (.ref k :: r) = .ref n :: renum (n + 1) r := rfl
@[simp] theorem plain_d {x : PyData} : plainArg (.d x) = true := rfl
@[simp] theorem plain_ro {x : List PyData} : plainArg (.ro x) = true := rfl
@[simp] theorem plain_ref {k : Nat} : plainArg (.ref k) = true := rfl
@[simp] theorem fcs_nil : flatCells m [] = some [] := rfl
@[simp] theorem fcs_cons {k : Nat} {r : List Nat} : flatCells m (k :: r) = (flatCell m k).bind fun c => (flatCells m r).map (c :: ·) := by
  show (match flatCell m k with
    | some c => (flatCells m r).map (c :: ·)
    | none => none) = _
  cases flatCell m k <;> rfl
@[simp] theorem fc_ev {k : Nat} {xs : List LV} (q : m[k]? = some (.lst xs)) : flatCell m k = allD xs := by unfold flatCell; simp only [q]
@[simp] theorem put_nil {cs : List (List PyData)} : putBack m [] cs = m := by cases cs <;> rfl
@[simp] theorem put_nil' {ks : List Nat} : putBack m ks [] = m := by cases ks <;> rfl
@[simp] theorem put_cons {k : Nat} {ks : List Nat} {c : List PyData} {cs : List (List PyData)} : putBack m (k :: ks) (c :: cs) = putBack (m.set k (.lst (c.map .d))) ks cs := rfl
@[simp] theorem call_ev {F : Fn} {vs : List LV} : callF F vs m = if vs.all plainArg = true ∧ (refsOf vs).Nodup then (flatCells m (refsOf vs)).bind fun cs => (F (renum 0 vs) cs).bind fun r => backF m (refsOf vs) cs.length r.1 r.2 else none := by
  unfold callF
  split
  · rcases flatCells m (refsOf vs) with _ | cs
    · rfl
    · simp only [Option.bind_some]
      rcases F (renum 0 vs) cs with _ | ⟨a, b⟩ <;> rfl
  · rfl
@[simp] theorem back_d {ks : List Nat} {n : Nat} {x : PyData} {cs' : List (List PyData)} : backF m ks n (.d x) cs' = if cs'.length = n then some (.d x, putBack m ks cs') else none := rfl
@[simp] theorem back_ref {ks : List Nat} {n k : Nat} {cs' : List (List PyData)} : backF m ks n (.ref k) cs' = if k = n ∧ cs'.length = n + 1 then (cs'[n]?).map fun c => (.ref m.length, putBack m ks (cs'.take n) ++ [.lst (c.map .d)]) else none := by
  show (if k = n ∧ cs'.length = n + 1 then match cs'[n]? with
      | some c => some (LV.ref m.length, putBack m ks (cs'.take n) ++ [.lst (c.map .d)])
      | none => none
    else none) = _
  split
  · cases cs'[n]? <;> rfl
  · rfl
@[simp] theorem back_tr {ks : List Nat} {n k : Nat} {pre : List PyData} {cs' : List (List PyData)} : backF m ks n (.tr pre k) cs' = if k = n ∧ cs'.length = n + 1 then (cs'[n]?).map fun c => (.tr pre m.length, putBack m ks (cs'.take n) ++ [.lst (c.map .d)]) else none := by
  show (if k = n ∧ cs'.length = n + 1 then match cs'[n]? with
      | some c => some (LV.tr pre m.length, putBack m ks (cs'.take n) ++ [.lst (c.map .d)])
      | none => none
    else none) = _
  split
  · cases cs'[n]? <;> rfl
  · rfl
@[simp] theorem fb_zero : flatBack 0 m = some [] := by unfold flatBack; rfl
@[simp] theorem fb_succ {n : Nat} {xs : List LV} {r : Sto} : flatBack (n + 1) (.lst xs :: r) = (allD xs).bind fun c => (flatBack n r).map (c :: ·) := by
  show (match allD xs with
    | some c => (flatBack n r).map (c :: ·)
    | none => none) = _
  cases allD xs <;> rfl
@[simp] theorem map_ite {α β : Type} {p : Prop} [Decidable p] {x y : Option α} {f : α → β} : (if p then x else y).map f = if p then x.map f else y.map f := by split <;> rfl
@[simp] theorem bind_ite {α β : Type} {p : Prop} [Decidable p] {x y : Option α} {f : α → Option β} : (if p then x else y).bind f = if p then x.bind f else y.bind f := by split <;> rfl
@[simp] theorem an_ite {p : Prop} [Decidable p] {x y : Option Out} {k : Nat} : answer k (if p then x else y) = if p then answer k x else answer k y := by split <;> rfl
@[simp] theorem an_no {k : Nat} : answer k none = none := rfl
@[simp] theorem an_d {k : Nat} {x : PyData} : answer k (some (.rt (.d x) m)) = (flatBack k m).map fun cs => (.d x, cs) := rfl
@[simp] theorem an_nx {k : Nat} : answer k (some (.nx e m)) = (flatBack k m).map fun cs => (.d .none, cs) := rfl
@[simp] theorem an_ref {k j : Nat} : answer k (some (.rt (.ref j) m)) = if k ≤ j then (flatBack k m).bind fun cs => (flatCell m j).map fun c => (.ref k, cs ++ [c]) else none := by
  show (if k ≤ j then match flatBack k m, flatCell m j with
      | some cs, some c => some (LV.ref k, cs ++ [c])
      | _, _ => none
    else none) = _
  split
  · cases flatBack k m <;> cases flatCell m j <;> rfl
  · rfl
@[simp] theorem an_tr {k j : Nat} {pre : List PyData} : answer k (some (.rt (.tr pre j) m)) = if k ≤ j then (flatBack k m).bind fun cs => (flatCell m j).map fun c => (.tr pre k, cs ++ [c]) else none := by
  show (if k ≤ j then match flatBack k m, flatCell m j with
      | some cs, some c => some (LV.tr pre k, cs ++ [c])
      | _, _ => none
    else none) = _
  split
  · cases flatBack k m <;> cases flatCell m j <;> rfl
  · rfl
end
end Gg

end
section
/-! GData: equal data, indexes, slices. -/
namespace Gg
open PySem

/-- data without True, False and dicts, not too deep -/
def gd : Nat → PyData → Bool
  | 0, _ => false
  | _ + 1, .none => true
  | _ + 1, .bool _ => false
  | _ + 1, .int _ => true
  | _ + 1, .str s => PyData.strOk s
  | n + 1, .list xs => xs.all (gd n)
  | n + 1, .tuple xs => xs.all (gd n)
  | _ + 1, .dict _ => false
theorem gd_plain : ∀ (n : Nat) (x : PyData), gd n x = true → plainD n x = true
  | 0, _, h => by cases h
  | n + 1, .none, _ => rfl
  | n + 1, .bool _, _ => rfl
  | n + 1, .int _, _ => rfl
  | n + 1, .str s, h => h
  | n + 1, .list xs, h => by
    have h : xs.all (gd n) = true := h
    show xs.all (plainD n) = true
    rw [List.all_eq_true] at h ⊢
    exact fun x hx => gd_plain n x (h x hx)
  | n + 1, .tuple xs, h => by
    have h : xs.all (gd n) = true := h
    show xs.all (plainD n) = true
    rw [List.all_eq_true] at h ⊢
    exact fun x hx => gd_plain n x (h x hx)
  | n + 1, .dict _, h => by cases h
theorem gd_mono : ∀ (n : Nat) (x : PyData) (k : Nat), n ≤ k → gd n x = true → gd k x = true
  | 0, _, _, _, h => by cases h
  | n + 1, x, 0, hk, _ => by omega
  | n + 1, x, k + 1, hk, h => by
    cases x with
    | list xs =>
      have h : xs.all (gd n) = true := h
      show xs.all (gd k) = true
      rw [List.all_eq_true] at h ⊢
      exact fun x hx => gd_mono n x k (by omega) (h x hx)
    | tuple xs =>
      have h : xs.all (gd n) = true := h
      show xs.all (gd k) = true
      rw [List.all_eq_true] at h ⊢
      exact fun x hx => gd_mono n x k (by omega) (h x hx)
    | none => rfl
    | bool _ => cases h
    | int _ => rfl
    | str s => exact h
    | dict _ => cases h
mutual
theorem eqv_iff : ∀ (n : Nat) (x y : PyData), gd n x = true → gd n y = true → (PyData.eqv x y = true ↔ x = y)
  | 0, _, _, h, _ => by cases h
  | n + 1, x, y, hx, hy => by
    cases x <;> cases y <;> first | (cases hx; done) | (cases hy; done) | skip
    all_goals try (simp [PyData.eqv]; done)
    · rename_i xs ys
      have hx : xs.all (gd n) = true := hx
      have hy : ys.all (gd n) = true := hy
      rw [List.all_eq_true] at hx hy
      have := eqvAll_iff n xs ys hx hy
      simp only [PyData.eqv, this, PyData.list.injEq]
    · rename_i xs ys
      have hx : xs.all (gd n) = true := hx
      have hy : ys.all (gd n) = true := hy
      rw [List.all_eq_true] at hx hy
      have := eqvAll_iff n xs ys hx hy
      simp only [PyData.eqv, this, PyData.tuple.injEq]
theorem eqvAll_iff : ∀ (n : Nat) (xs ys : List PyData), (∀ x ∈ xs, gd n x = true) → (∀ y ∈ ys, gd n y = true) → (PyData.eqvAll xs ys = true ↔ xs = ys)
  | n, [], [], _, _ => by simp [PyData.eqvAll]
  | n, [], _ :: _, _, _ => by simp [PyData.eqvAll]
  | n, _ :: _, [], _, _ => by simp [PyData.eqvAll]
  | n, x :: xs, y :: ys, hx, hy => by
    have h1 := eqv_iff n x y (hx x List.mem_cons_self) (hy y List.mem_cons_self)
    have h2 := eqvAll_iff n xs ys (fun z hz => hx z (List.mem_cons_of_mem _ hz)) (fun z hz => hy z (List.mem_cons_of_mem _ hz))
    simp only [PyData.eqvAll, Bool.and_eq_true, h1, h2, List.cons.injEq]
end
theorem eqB_of {x y : PyData} {p : Prop} [Decidable p] (hx : gd DEEP x = true) (hy : gd DEEP y = true) (h : x = y ↔ p) : eqB x y = some (decide p) := by
  have hv := eqv_iff _ x y hx hy
  unfold eqB
  split
  · rename_i r hr
    unfold strsB at hr
    split at hr
    · rename_i s t
      cases hr
      congr 1
      rw [Bool.eq_iff_iff, decide_eq_true_eq, decide_eq_true_eq, ← h]
      simp
    · cases hr
  · rw [gd_plain _ _ hx, gd_plain _ _ hy]
    simp only [Bool.and_self, if_true]
    congr 1
    rw [Bool.eq_iff_iff, hv, h, decide_eq_true_eq]
theorem eqB_ss {i j : Str} : eqB (.str i) (.str j) = some (decide (i = j)) := rfl
theorem eqD_same {x : PyData} (h : gd DEEP x = true) : eqD x x = some (.bool true) := by
  unfold eqD
  rw [eqB_of (p := True) h h ⟨fun _ => trivial, fun _ => rfl⟩]; rfl
theorem neD_same {x : PyData} (h : gd DEEP x = true) : neD x x = some (.bool false) := by
  unfold neD
  rw [eqB_of (p := True) h h ⟨fun _ => trivial, fun _ => rfl⟩]; rfl
theorem eqD_diff {x y : PyData} (hx : gd DEEP x = true) (hy : gd DEEP y = true) (h : x ≠ y) : eqD x y = some (.bool false) := by
  unfold eqD
  rw [eqB_of (p := False) hx hy ⟨h, False.elim⟩]; rfl
theorem neD_diff {x y : PyData} (hx : gd DEEP x = true) (hy : gd DEEP y = true) (h : x ≠ y) : neD x y = some (.bool true) := by
  unfold neD
  rw [eqB_of (p := False) hx hy ⟨h, False.elim⟩]; rfl
/-- two texts -/
theorem eqD_txt {i : Str} : eqD (.str i) (.str i) = some (.bool true) := by
  unfold eqD; rw [eqB_ss, decide_eq_true rfl]; rfl
theorem eqD_dec {x y : PyData} {p : Prop} [Decidable p] (hx : gd DEEP x = true) (hy : gd DEEP y = true) (h : x = y ↔ p) : eqD x y = some (.bool (decide p)) := by
  by_cases q : p
  · rw [h.mpr q, eqD_same hy, decide_eq_true q]
  · rw [eqD_diff hx hy (fun z => q (h.mp z)), decide_eq_false q]
theorem neD_dec {x y : PyData} {p : Prop} [Decidable p] (hx : gd DEEP x = true) (hy : gd DEEP y = true) (h : x = y ↔ p) : neD x y = some (.bool (!decide p)) := by
  by_cases q : p
  · rw [h.mpr q, neD_same hy, decide_eq_true q]; rfl
  · rw [neD_diff hx hy (fun z => q (h.mp z)), decide_eq_false q]; rfl
@[simp] theorem eqD_ii {i j : Int} : eqD (.int i) (.int j) = some (.bool (decide (i = j))) := eqD_dec rfl rfl (by simp)
@[simp] theorem neD_ii {i j : Int} : neD (.int i) (.int j) = some (.bool (!decide (i = j))) := neD_dec rfl rfl (by simp)
theorem eqD_ss {i j : Str} (h : PyData.strOk i = true) (h2 : PyData.strOk j = true) : eqD (.str i) (.str j) = some (.bool (decide (i = j))) := eqD_dec h h2 (by simp)
theorem neD_ss {i j : Str} (h : PyData.strOk i = true) (h2 : PyData.strOk j = true) : neD (.str i) (.str j) = some (.bool (!decide (i = j))) := neD_dec h h2 (by simp)
@[simp] theorem eqD_bb {i j : Bool} : eqD (.bool i) (.bool j) = some (.bool (i == j)) := rfl
@[simp] theorem neD_bb {i j : Bool} : neD (.bool i) (.bool j) = some (.bool (!(i == j))) := rfl
@[simp] theorem gd_int {n : Nat} {i : Int} : gd (n + 1) (.int i) = true := rfl
@[simp] theorem gd_none {n : Nat} : gd (n + 1) .none = true := rfl
@[simp] theorem gd_tup {n : Nat} {xs : List PyData} : gd (n + 1) (.tuple xs) = xs.all (gd n) := rfl
@[simp] theorem gd_list {n : Nat} {xs : List PyData} : gd (n + 1) (.list xs) = xs.all (gd n) := rfl
@[simp] theorem gd_deep {x : PyData} : gd DEEP x = gd (59 + 1) x := rfl
@[simp] theorem gd_59 {x : PyData} : gd 59 x = gd (58 + 1) x := rfl
@[simp] theorem gd_58 {x : PyData} : gd 58 x = gd (57 + 1) x := rfl
@[simp] theorem gd_57 {x : PyData} : gd 57 x = gd (56 + 1) x := rfl
theorem inB_list {x : PyData} {ys : List PyData} (hx : gd 59 x = true) (hy : ∀ y ∈ ys, gd 59 y = true) : inB x (.list ys) = some (ys.any fun z => PyData.eqv z x) := by
  have h1 : plainD DEEP x = true := gd_plain _ _ (gd_mono 59 x DEEP (by decide) hx)
  have h2 : plainD DEEP (.list ys) = true := gd_plain DEEP _ (by show ys.all (gd 59) = true; rw [List.all_eq_true]; exact hy)
  show (if (plainD DEEP x && plainD DEEP (.list ys)) = true then some (ys.any fun z => PyData.eqv z x) else none) = _
  rw [h1, h2]; rfl
theorem in_any {x : PyData} {ys : List PyData} (hx : gd 59 x = true) (hy : ∀ y ∈ ys, gd 59 y = true) : (ys.any fun z => PyData.eqv z x) = true ↔ x ∈ ys := by
  rw [List.any_eq_true]
  constructor
  · rintro ⟨z, hz, h⟩
    rw [← (eqv_iff 59 z x (hy z hz) hx).mp h]; exact hz
  · intro h
    exact ⟨x, h, (eqv_iff 59 x x hx hx).mpr rfl⟩
theorem inD_dec {x : PyData} {ys : List PyData} {p : Prop} [Decidable p] (hx : gd 59 x = true) (hy : ∀ y ∈ ys, gd 59 y = true) (h : x ∈ ys ↔ p) : inD x (.list ys) = some (.bool (decide p)) := by
  unfold inD
  rw [inB_list hx hy]
  have : (ys.any fun z => PyData.eqv z x) = decide p := by
    by_cases q : p
    · rw [decide_eq_true q, (in_any hx hy).mpr (h.mpr q)]
    · rw [decide_eq_false q]
      exact Bool.eq_false_iff.mpr fun z => q (h.mp ((in_any hx hy).mp z))
  rw [this]; rfl
theorem notInD_dec {x : PyData} {ys : List PyData} {p : Prop} [Decidable p] (hx : gd 59 x = true) (hy : ∀ y ∈ ys, gd 59 y = true) (h : x ∈ ys ↔ p) : notInD x (.list ys) = some (.bool (!decide p)) := by
  have := inD_dec hx hy h
  unfold inD at this
  unfold notInD
  cases q : inB x (.list ys) with
  | none => rw [q] at this; cases this
  | some b =>
    rw [q] at this
    have this : some (PyData.bool b) = some (.bool (decide p)) := this
    cases this; rfl
/-! indexes -/
@[simp] theorem ix_0 {n : Nat} : ixPos (n + 1) 0 = some 0 := ixPos_nat (k := 0) (by omega)
@[simp] theorem ix_1 {n : Nat} : ixPos (n + 2) 1 = some 1 := ixPos_nat (k := 1) (by omega)
@[simp] theorem ix_2 {n : Nat} : ixPos (n + 3) 2 = some 2 := ixPos_nat (k := 2) (by omega)
@[simp] theorem ix_3 {n : Nat} : ixPos (n + 4) 3 = some 3 := ixPos_nat (k := 3) (by omega)
@[simp] theorem ix_4 {n : Nat} : ixPos (n + 5) 4 = some 4 := ixPos_nat (k := 4) (by omega)
@[simp] theorem ix_5 {n : Nat} : ixPos (n + 6) 5 = some 5 := ixPos_nat (k := 5) (by omega)
@[simp] theorem ix_m1 {n : Nat} : ixPos (n + 1) (-1) = some n := by
  rw [ixPos_neg (by omega) (by omega)]; congr 1; omega
/-! slices -/
theorem slPos_nat {n d k : Nat} : slPos n d (some (k : Int)) = min k n := by
  show (if (k : Int) < 0 then ((k : Int) + (n : Int)).toNat else min (k : Int).toNat n) = min k n
  rw [if_neg (by omega)]; rfl
theorem sl_from {α : Type} {xs : List α} {k : Nat} : slPart xs (some (k : Int)) none = xs.drop k := by
  unfold slPart
  rw [slPos_nat]
  show List.take (xs.length - min k xs.length) (xs.drop (min k xs.length)) = _
  by_cases h : k ≤ xs.length
  · rw [Nat.min_eq_left h]
    exact List.take_of_length_le (by rw [List.length_drop]; omega)
  · rw [Nat.min_eq_right (by omega), List.drop_length, List.drop_of_length_le (by omega)]; simp
theorem sl_to {α : Type} {xs : List α} {k : Nat} : slPart xs none (some (k : Int)) = xs.take k := by
  unfold slPart
  rw [slPos_nat]
  show List.take (min k xs.length - 0) (xs.drop 0) = _
  rw [List.drop_zero, Nat.sub_zero]
  by_cases h : k ≤ xs.length
  · rw [Nat.min_eq_left h]
  · rw [Nat.min_eq_right (by omega), List.take_length, List.take_of_length_le (by omega)]
theorem sl_mid {α : Type} {xs : List α} {i k : Nat} (h : k ≤ xs.length) : slPart xs (some (i : Int)) (some (k : Int)) = (xs.drop i).take (k - i) := by
  unfold slPart
  rw [slPos_nat, slPos_nat, Nat.min_eq_left h]
  by_cases hi : i ≤ xs.length
  · rw [Nat.min_eq_left hi]
  · rw [Nat.min_eq_right (by omega), List.drop_length, List.drop_of_length_le (by omega)]; simp
@[simp] theorem sl_from0 {α : Type} {xs : List α} : slPart xs (some 0) none = xs := by
  have := sl_from (xs := xs) (k := 0); simpa using this
@[simp] theorem sl_from1 {α : Type} {x : α} {xs : List α} : slPart (x :: xs) (some 1) none = xs := by
  have := sl_from (xs := x :: xs) (k := 1); simpa using this
theorem sl_from_of {α : Type} {xs : List α} {i : Int} (h : 0 ≤ i) : slPart xs (some i) none = xs.drop i.toNat := by
  obtain ⟨k, rfl⟩ := Int.eq_ofNat_of_zero_le h; exact sl_from
theorem sl_to_of {α : Type} {xs : List α} {i : Int} (h : 0 ≤ i) : slPart xs none (some i) = xs.take i.toNat := by
  obtain ⟨k, rfl⟩ := Int.eq_ofNat_of_zero_le h; exact sl_to
theorem allD_of {α : Type} {f : α → PyData} : ∀ l : List α, allD (l.map fun x => LV.d (f x)) = some (l.map f)
  | [] => rfl
  | x :: l => by rw [List.map_cons, allD_d, allD_of l]; rfl
@[simp] theorem allD_fun {α : Type} {f : α → PyData} (l : List α) : allD (l.map fun x => LV.d (f x)) = some (l.map f) := allD_of l
@[simp] theorem allD_comp {α : Type} {f : α → PyData} (l : List α) : allD (l.map (LV.d ∘ f)) = some (l.map f) := allD_of l
@[simp] theorem allD_fun_rev {α : Type} {f : α → PyData} (l : List α) : allD (l.map fun x => LV.d (f x)).reverse = some (l.map f).reverse := by rw [← List.map_reverse, allD_of, List.map_reverse]
@[simp] theorem allD_comp_rev {α : Type} {f : α → PyData} (l : List α) : allD (l.map (LV.d ∘ f)).reverse = some (l.map f).reverse := allD_fun_rev l
@[simp] theorem allD_comp2 {α β : Type} {f : α → PyData} {g : β → α} (l : List β) : allD (l.map ((LV.d ∘ f) ∘ g)) = some (l.map (f ∘ g)) := allD_of l
@[simp] theorem allD_comp2_rev {α β : Type} {f : α → PyData} {g : β → α} (l : List β) : allD (l.map ((LV.d ∘ f) ∘ g)).reverse = some (l.map (f ∘ g)).reverse := allD_fun_rev l
@[simp] theorem allD_app_d {α : Type} {f : α → PyData} (l : List α) (r : List LV) : allD (l.map (LV.d ∘ f) ++ r) = (allD r).map (l.map f ++ ·) := by
  induction l with
  | nil => simp
  | cons x l ih => simp only [List.map_cons, List.cons_append, Function.comp, allD_d]; rw [ih]; cases allD r <;> rfl
/-! ## loops -/
theorem forItems_cons {body : LV → SM} {x : LV} {xs : List LV} {e : Env} {m : Sto} : forItems body (x :: xs) e m = match body x e m with
    | some (.nx e1 m1) => forItems body xs e1 m1
    | some (.ct e1 m1) => forItems body xs e1 m1
    | some (.bk e1 m1) => some (.nx e1 m1)
    | some (.rt v m1) => some (.rt v m1)
    | none => none := rfl
/-- a loop over items: I holds ahead of each turn -/
theorem for_inv {body : LV → SM} {Q : Out → Prop} (I : Nat → Env → Sto → Prop) {xs : List LV} {e : Env} {m : Sto} (h0 : I 0 e m)
    (step : ∀ (i : Nat) (x : LV) (e : Env) (m : Sto), xs[i]? = some x → I i e m → ∃ o, body x e m = some o ∧ (match o with
      | .nx e1 m1 => I (i + 1) e1 m1
      | .ct e1 m1 => I (i + 1) e1 m1
      | .bk e1 m1 => Q (.nx e1 m1)
      | .rt v m1 => Q (.rt v m1)))
    (fin : ∀ (e : Env) (m : Sto), I xs.length e m → Q (.nx e m)) : ∃ o, forItems body xs e m = some o ∧ Q o := by
  suffices H : ∀ (ys : List LV) (i : Nat) (e : Env) (m : Sto), ys = xs.drop i → i ≤ xs.length → I i e m → ∃ o, forItems body ys e m = some o ∧ Q o from H xs 0 e m (by simp) (by omega) h0
  intro ys
  induction ys with
  | nil =>
    intro i e m h1 h2 h3
    have : i = xs.length := by
      have := congrArg List.length h1
      rw [List.length_drop, List.length_nil] at this; omega
    subst this
    exact ⟨_, rfl, fin e m h3⟩
  | cons y ys ih =>
    intro i e m h1 h2 h3
    have hi : i < xs.length := by
      have := congrArg List.length h1
      rw [List.length_drop, List.length_cons] at this; omega
    rw [List.drop_eq_getElem_cons hi] at h1
    injection h1 with h1 h4
    obtain ⟨o, ho, hq⟩ := step i y e m (by rw [List.getElem?_eq_getElem hi, h1]) h3
    rw [forItems_cons, ho]
    cases o with
    | nx e1 m1 => exact ih (i + 1) e1 m1 h4 (by omega) hq
    | ct e1 m1 => exact ih (i + 1) e1 m1 h4 (by omega) hq
    | bk e1 m1 => exact ⟨_, rfl, hq⟩
    | rt v m1 => exact ⟨_, rfl, hq⟩
/-- a list made of items, nothing else touched -/
theorem comp_pure {f : LV → Env → Sto → Option (Option LV × Sto)} {α : Type} {g : α → LV} {k : α → Option LV} {e : Env} {m : Sto} : ∀ (l : List α), (∀ x ∈ l, f (g x) e m = some (k x, m)) → compItems f (l.map g) e m = some (l.filterMap k, m)
  | [], _ => rfl
  | x :: l, h => by
    have hx := h x List.mem_cons_self
    have ih := comp_pure l fun y hy => h y (List.mem_cons_of_mem _ hy)
    rw [List.map_cons]
    unfold compItems
    rw [hx]
    cases hk : k x with
    | none => simp [hk, ih, List.filterMap_cons]
    | some y => simp [hk, ih, List.filterMap_cons]
end Gg

end
section
/-! GRun: rules for loops and new lists; the drawing of numbers. -/
namespace Gg
open PySem

theorem map_typed {α : Type} {g : α → LV} {P : α → Prop} : ∀ {ys : List LV}, (∀ y ∈ ys, ∃ a, y = g a ∧ P a) → ∃ l : List α, ys = l.map g ∧ ∀ a ∈ l, P a
  | [], _ => ⟨[], rfl, fun _ h => by cases h⟩
  | y :: ys, h => by
    obtain ⟨a, rfl, ha⟩ := h y List.mem_cons_self
    obtain ⟨l, rfl, hl⟩ := map_typed (ys := ys) fun z hz => h z (List.mem_cons_of_mem _ hz)
    exact ⟨a :: l, rfl, fun b hb => by
      rcases List.mem_cons.mp hb with e | hb
      · rw [e]; exact ha
      · exact hl b hb⟩
/-- a list made item by item while the store changes -/
theorem comp_inv {f : LV → Env → Sto → Option (Option LV × Sto)} {α : Type} {g : α → LV} {P : α → Prop} {e : Env} (I : Nat → Sto → Prop) : ∀ (xs : List LV) (i : Nat) (m : Sto), I i m →
    (∀ x ∈ xs, ∀ (j : Nat) (m : Sto), i ≤ j → j < i + xs.length → I j m → ∃ a m', f x e m = some (some (g a), m') ∧ P a ∧ I (j + 1) m') →
    ∃ (l : List α) (m' : Sto), compItems f xs e m = some (l.map g, m') ∧ l.length = xs.length ∧ (∀ a ∈ l, P a) ∧ I (i + xs.length) m'
  | [], i, m, h0, _ => ⟨[], m, rfl, rfl, (fun _ h => by cases h), h0⟩
  | x :: xs, i, m, h0, h => by
    obtain ⟨a, m1, h1, hp, hi⟩ := h x List.mem_cons_self i m (Nat.le_refl _) (by rw [List.length_cons]; omega) h0
    obtain ⟨l, m2, h2, hl, hq, hj⟩ := comp_inv I xs (i + 1) m1 hi fun z hz j m a1 a2 => h z (List.mem_cons_of_mem _ hz) j m (by omega) (by rw [List.length_cons]; omega)
    refine ⟨a :: l, m2, ?_, by rw [List.length_cons, List.length_cons, hl], fun b hb => ?_, by rw [List.length_cons]; have : i + 1 + xs.length = i + (xs.length + 1) := by omega
                                                                                               rw [← this]; exact hj⟩
    · unfold compItems
      rw [h1]
      simp [h2]
    · rcases List.mem_cons.mp hb with e | hb
      · rw [e]; exact hp
      · exact hq b hb
@[simp] theorem ev_comp {fe : EM} {t : TM} {it : IM} {ifs : List EM} {own : List Nat} {e : Env} {m : Sto} : lComp fe t it ifs own e m = (it e m).bind fun r => compOver (compOne fe t ifs own) r.1 e r.2 := by
  unfold lComp; rcases it e m with _ | ⟨a, m1⟩ <;> rfl
@[simp] theorem over_items {f : LV → Env → Sto → Option (Option LV × Sto)} {xs : List LV} {e : Env} {m : Sto} : compOver f (.items xs) e m = if xs.length ≤ LINE then compItems f xs e m else none := rfl
/-- a turn of a new list -/
theorem one_plain {fe : EM} {t : TM} {own : List Nat} {x : LV} {e : Env} {m : Sto} : compOne fe t [] own x e m = (t x (wipeE e own) m).bind fun r => (fe r.1 r.2).map fun q => (some q.1, q.2) := by
  unfold compOne
  rcases t x (wipeE e own) m with _ | ⟨a, m1⟩ <;> rfl
theorem one_test {fe f : EM} {t : TM} {own : List Nat} {x : LV} {e : Env} {m : Sto} : compOne fe t [f] own x e m = (t x (wipeE e own) m).bind fun r => (f r.1 r.2).bind fun a => (truth a.2 a.1).bind fun b => if b = true then (fe r.1 a.2).map fun q => (some q.1, q.2) else some (none, a.2) := by
  unfold compOne
  rcases t x (wipeE e own) m with _ | ⟨e1, m1⟩
  · rfl
  cases hf : f e1 m1 with
  | none => simp only [tests, hf, Option.bind_some, Option.bind_none]
  | some r =>
    obtain ⟨a, m2⟩ := r
    cases ht : truth m2 a with
    | none => simp only [tests, hf, ht, Option.bind_some, Option.bind_none, Option.map_none]
    | some b => cases b <;> simp [tests, hf, ht]
/-! what is walked -/
/-- the items of what stands in a value -/
def seqV (m : Sto) : LV → Option Itm
  | .d (.list xs) => some (.items (xs.map .d))
  | .d (.tuple xs) => some (.items (xs.map .d))
  | .ref k => match m[k]? with
    | some (.lst _) => some (.cell k)
    | _ => none
  | .ro xs => some (.items (xs.map .d))
  | _ => none
@[simp] theorem seqV_l {m : Sto} {xs : List PyData} : seqV m (.d (.list xs)) = some (.items (xs.map .d)) := rfl
@[simp] theorem seqV_t {m : Sto} {xs : List PyData} : seqV m (.d (.tuple xs)) = some (.items (xs.map .d)) := rfl
@[simp] theorem seqV_ro {m : Sto} {xs : List PyData} : seqV m (.ro xs) = some (.items (xs.map .d)) := rfl
@[simp] theorem seqV_r {m : Sto} {k : Nat} {xs : List LV} (q : m[k]? = some (.lst xs)) : seqV m (.ref k) = some (.cell k) := by unfold seqV; simp only [q]
@[simp] theorem it_seq {f : EM} {e : Env} {m : Sto} : iSeq f e m = (f e m).bind fun a => (seqV a.2 a.1).map fun i => (i, a.2) := by
  unfold iSeq
  rcases f e m with _ | ⟨a, m1⟩
  · rfl
  · cases a with
    | d x => cases x <;> rfl
    | ref k =>
      simp only [Option.bind_some, seqV]
      rcases m1[k]? with _ | _ | _ <;> rfl
    | _ => rfl
theorem rng1 {f : EM} {e : Env} {m m1 : Sto} {j : Int} (h : f e m = some (.d (.int j), m1)) (hj : -1000000 ≤ j ∧ j ≤ 1000000) : iRange [f] e m = some (.items (upTo 0 j.toNat), m1) := by
  unfold iRange
  simp [h, rng_of hj]
theorem rng2 {f g : EM} {e : Env} {m m1 m2 : Sto} {i j : Int} (h : f e m = some (.d (.int i), m1)) (h2 : g e m1 = some (.d (.int j), m2)) (hi : -1000000 ≤ i ∧ i ≤ 1000000) (hj : -1000000 ≤ j ∧ j ≤ 1000000) : iRange [f, g] e m = some (.items (upTo i (j - i).toNat), m2) := by
  unfold iRange
  simp [h, h2, rng_of hj, rng_of hi]
theorem rng3 {f g k : EM} {e : Env} {m m1 m2 m3 : Sto} {i j : Int} (h : f e m = some (.d (.int i), m1)) (h2 : g e m1 = some (.d (.int j), m2)) (h3 : k e m2 = some (.d (.int (-1)), m3)) (hi : -1000000 ≤ i ∧ i ≤ 1000000) (hj : -1000000 ≤ j ∧ j ≤ 1000000) : iRange [f, g, k] e m = some (.items (downFrom i (i - j).toNat), m3) := by
  unfold iRange
  simp [h, h2, h3, rng_of hj, rng_of hi]
@[simp] theorem upTo_len {lo : Int} {n : Nat} : (upTo lo n).length = n := by unfold upTo; simp
@[simp] theorem downFrom_len {lo : Int} {n : Nat} : (downFrom lo n).length = n := by unfold downFrom; simp
theorem upTo_get {lo : Int} {n i : Nat} {x : LV} (h : (upTo lo n)[i]? = some x) : i < n ∧ x = .d (.int (lo + i)) := by
  unfold upTo at h
  rw [List.getElem?_map] at h
  by_cases hi : i < n
  · rw [List.getElem?_range hi] at h
    cases h; exact ⟨hi, rfl⟩
  · rw [List.getElem?_eq_none (by simpa using hi)] at h; cases h
theorem downFrom_get {lo : Int} {n i : Nat} {x : LV} (h : (downFrom lo n)[i]? = some x) : i < n ∧ x = .d (.int (lo - i)) := by
  unfold downFrom at h
  rw [List.getElem?_map] at h
  by_cases hi : i < n
  · rw [List.getElem?_range hi] at h
    cases h
    refine ⟨hi, ?_⟩
    have : lo + (i : Int) * (-1) = lo - i := by omega
    show LV.d (PyData.int (lo + (i : Int) * (-1))) = _
    rw [this]
  · rw [List.getElem?_eq_none (by simpa using hi)] at h; cases h
theorem upTo_mem {lo : Int} {n : Nat} {x : LV} (h : x ∈ upTo lo n) : ∃ i : Nat, i < n ∧ x = .d (.int (lo + i)) := by
  obtain ⟨i, hi⟩ := List.getElem?_of_mem h
  obtain ⟨h1, h2⟩ := upTo_get hi
  exact ⟨i, h1, h2⟩
@[simp] theorem st_for {t : TM} {it : IM} {b : SM} {e : Env} {m : Sto} : sFor t it b e m = (it e m).bind fun r => forOver (forBody t b) r.1 e r.2 := by
  unfold sFor; rcases it e m with _ | ⟨a, m1⟩ <;> rfl
@[simp] theorem forOver_items {body : LV → SM} {xs : List LV} {e : Env} {m : Sto} : forOver body (.items xs) e m = forItems body xs e m := rfl
@[simp] theorem forBody_ev {t : TM} {b : SM} {x : LV} {e : Env} {m : Sto} : forBody t b x e m = (t x e m).bind fun r => b r.1 r.2 := by
  unfold forBody; rcases t x e m with _ | ⟨a, m1⟩ <;> rfl
def enumV : LV → Option (List LV)
  | .d (.list xs) => some (enumFrom 0 xs)
  | .d (.tuple xs) => some (enumFrom 0 xs)
  | _ => none
@[simp] theorem enumV_l {xs : List PyData} : enumV (.d (.list xs)) = some (enumFrom 0 xs) := rfl
@[simp] theorem enumV_t {xs : List PyData} : enumV (.d (.tuple xs)) = some (enumFrom 0 xs) := rfl
@[simp] theorem it_enum {f : EM} {e : Env} {m : Sto} : iEnum f e m = (f e m).bind fun a => (enumV a.1).map fun i => (.items i, a.2) := by
  unfold iEnum
  rcases f e m with _ | ⟨a, m1⟩
  · rfl
  · cases a with
    | d x => cases x <;> rfl
    | _ => rfl
/-! while -/
theorem whileN_more {fc : EM} {b : SM} : ∀ {n k : Nat} {e : Env} {m : Sto} {o : Out}, whileN fc b n e m = some o → whileN fc b (n + k) e m = some o
  | 0, _, _, _, _, h => by cases h
  | n + 1, k, e, m, o, h => by
    rw [show n + 1 + k = (n + k) + 1 by omega]
    unfold whileN at h ⊢
    rcases hf : fc e m with _ | ⟨v, m1⟩
    · simp [hf] at h
    · simp only [hf] at h ⊢
      rcases ht : truth m1 v with _ | _ | _
      · simp [ht] at h
      · simp only [ht] at h ⊢; exact h
      · simp only [ht] at h ⊢
        rcases hb : b e m1 with _ | ob
        · simp [hb] at h
        · simp only [hb] at h ⊢
          cases ob with
          | nx e1 m2 => exact whileN_more h
          | ct e1 m2 => exact whileN_more h
          | bk e1 m2 => exact h
          | rt v m2 => exact h
theorem while_is {fc : EM} {b : SM} {n : Nat} {e : Env} {m : Sto} {o : Out} (h : whileN fc b n e m = some o) : sWhile fc b e m = some o := by
  unfold sWhile
  have hex : ∃ n o, whileN fc b n e m = some o := ⟨n, o, h⟩
  rw [dif_pos hex]
  obtain ⟨k, hk⟩ : ∃ k, whileN fc b k e m = some (Classical.choose (Classical.choose_spec hex)) := ⟨_, Classical.choose_spec (Classical.choose_spec hex)⟩
  have h1 := whileN_more (k := k) h
  have h2 := whileN_more (k := n) hk
  rw [Nat.add_comm] at h2
  rw [h1] at h2
  exact h2.symm
/-- I with so many turns left at most -/
theorem while_inv {fc : EM} {b : SM} {Q : Out → Prop} (I : Nat → Env → Sto → Prop) {n : Nat} {e : Env} {m : Sto} (h0 : I n e m)
    (step : ∀ (n : Nat) (e : Env) (m : Sto), I n e m → ∃ v m1 t, fc e m = some (v, m1) ∧ truth m1 v = some t ∧ (t = false → Q (.nx e m1)) ∧ (t = true → ∃ o, b e m1 = some o ∧ (match o with
      | .nx e1 m2 => ∃ k, k < n ∧ I k e1 m2
      | .ct e1 m2 => ∃ k, k < n ∧ I k e1 m2
      | .bk e1 m2 => Q (.nx e1 m2)
      | .rt v m2 => Q (.rt v m2)))) : ∃ o, sWhile fc b e m = some o ∧ Q o := by
  suffices H : ∀ (n : Nat) (e : Env) (m : Sto), I n e m → ∃ k o, whileN fc b k e m = some o ∧ Q o by
    obtain ⟨k, o, h1, h2⟩ := H n e m h0
    exact ⟨o, while_is h1, h2⟩
  intro n
  induction n using Nat.strongRecOn with
  | _ n ih =>
    intro e m hI
    obtain ⟨v, m1, t, h1, h2, h3, h4⟩ := step n e m hI
    cases t with
    | false => exact ⟨1, _, by simp only [whileN, h1, h2], h3 rfl⟩
    | true =>
      obtain ⟨o, ho, hq⟩ := h4 rfl
      cases o with
      | nx e1 m2 =>
        obtain ⟨k, hk, hI2⟩ := hq
        obtain ⟨j, o, g1, g2⟩ := ih k hk e1 m2 hI2
        exact ⟨j + 1, o, by simp only [whileN, h1, h2, ho]; exact g1, g2⟩
      | ct e1 m2 =>
        obtain ⟨k, hk, hI2⟩ := hq
        obtain ⟨j, o, g1, g2⟩ := ih k hk e1 m2 hI2
        exact ⟨j + 1, o, by simp only [whileN, h1, h2, ho]; exact g1, g2⟩
      | bk e1 m2 => exact ⟨1, _, by simp only [whileN, h1, h2, ho], hq⟩
      | rt v m2 => exact ⟨1, _, by simp only [whileN, h1, h2, ho], hq⟩
/-! freezing -/
theorem frzM_flat {f : Sto → LV → Option (PyData × Sto)} (hf : ∀ m x, f m (.d x) = some (x, m)) : ∀ {m : Sto} {xs : List LV} {ys : List PyData}, allD xs = some ys → frzM f m xs = some (ys, m)
  | m, [], ys, h => by cases h; rfl
  | m, .d x :: xs, ys, h => by
    rw [allD_d] at h
    cases q : allD xs with
    | none => rw [q] at h; cases h
    | some zs =>
      rw [q] at h; cases h
      simp only [frzM, hf, frzM_flat hf q]
  | m, .ref _ :: _, _, h => by cases h
  | m, .ro _ :: _, _, h => by cases h
  | m, .tr _ _ :: _, _, h => by cases h
theorem frzV_d : ∀ (n : Nat) (m : Sto) (x : PyData), frzV n m (.d x) = some (x, m)
  | 0, _, _ => rfl
  | _ + 1, _, _ => rfl
@[simp] theorem ev_frz_d {i : Nat} {e : Env} {m : Sto} {x : PyData} (q : e[i]? = some (some (.d x))) : eFrz i e m = some (.d x, m) := by
  unfold eFrz; simp only [q]; rw [frzV_d]; rfl
theorem ev_frz {i k : Nat} {e : Env} {m : Sto} {xs : List LV} {ys : List PyData} (q : e[i]? = some (some (.ref k))) (h : m[k]? = some (.lst xs)) (ha : allD xs = some ys) : eFrz i e m = some (.d (.list ys), m.set k .dead) := by
  unfold eFrz
  simp only [q]
  have : frzV FRZ m (.ref k) = some (.list ys, m.set k .dead) := by
    show (match m[k]? with
      | some (.lst xs) => match frzM (frzV 3) m xs with
        | some (ys, m1) => match m1[k]? with
          | some (.lst _) => some (PyData.list ys, m1.set k .dead)
          | _ => none
        | none => none
      | _ => none) = _
    simp only [h, frzM_flat (frzV_d 3) ha]
  rw [this]; rfl
end Gg

end
section
/-! GDraw: the state from which the laws draw their numbers. -/
namespace Gg
open PySem

theorem log2_lt_of {n k : Nat} (h : n < 2 ^ (k + 1)) : n.log2 ≤ k := by
  by_cases h0 : n = 0
  · subst h0; simp
  · have := (Nat.log2_lt h0).mpr h; omega
theorem mulFits_of {i j : Int} {a b : Nat} (hi : i.natAbs < 2 ^ (a + 1)) (hj : j.natAbs < 2 ^ (b + 1)) (h : a + b < 1000000) : mulFits i j := by
  unfold mulFits
  have h1 := log2_lt_of hi
  have h2 := log2_lt_of hj
  omega
/-- numbers below 2^62 -/
def sm (i : Int) : Prop := -4611686018427387904 < i ∧ i < 4611686018427387904
theorem sm_mul {i j : Int} (hi : sm i) (hj : sm j) : mulFits i j := by
  unfold sm at hi hj
  exact mulFits_of (a := 61) (b := 61) (by omega) (by omega) (by omega)
/-- the state's list -/
def stD (cs : List Int) (i b c d e : Int) : List PyData := [.list (cs.map .int), .int i, .int b, .int c, .int d, .int e]
/-- n more numbers may be drawn -/
structure Ok (n : Nat) (st : List PyData) : Prop where
  ex : ∃ (cs : List Int) (i b c d e : Int), st = stD cs i b c d e ∧ (∀ x ∈ cs, 0 ≤ x) ∧ 0 ≤ i ∧ 0 ≤ b ∧ 0 ≤ c ∧ c ≤ 60 ∧ 0 ≤ d ∧ d ≤ 2147483647 ∧ 0 ≤ e ∧ e + n ≤ 4000000000000000000
theorem Ok.mono {n k : Nat} {st : List PyData} (h : Ok n st) (hk : k ≤ n) : Ok k st := by
  obtain ⟨cs, i, b, c, d, e, h1, h2, h3, h4, h5, h6, h7, h8, h9, h10⟩ := h.ex
  exact ⟨cs, i, b, c, d, e, h1, h2, h3, h4, h5, h6, h7, h8, h9, by omega⟩
/-- what a def that draws numbers keeps: st one cell, at first and behind -/
def Draws (F : Fn) : Prop := ∀ (n : Nat) (st : List PyData) (many : Int), Ok (n + 1) st → 1 ≤ many → many < 1000000000000 → ∃ (r : Int) (st' : List PyData), F [.ref 0, .d (.int many)] [st] = some (.d (.int r), [st']) ∧ 0 ≤ r ∧ r < many ∧ Ok n st'
end Gg

end
section
/-! GTab: tables of whole numbers: a list of lists that may change. -/
namespace Gg
open PySem

def rowC (r : List Int) : Cell := .lst (r.map (LV.d ∘ PyData.int))
def tabS (R : List (List Int)) : Sto := R.map rowC ++ [.lst ((List.range R.length).map LV.ref)]
structure Sh (R : List (List Int)) (M n : Nat) : Prop where
  len : R.length = M
  row : ∀ r ∈ R, r.length = n
def tb (R : List (List Int)) (i j : Nat) : Int := (R.getD i []).getD j 0
def stb (R : List (List Int)) (i j : Nat) (v : Int) : List (List Int) := R.set i ((R.getD i []).set j v)
section
variable {R : List (List Int)} {M n i j : Nat} {e : Env}
theorem Sh.at (S : Sh R M n) (h : i < M) : ∃ r, R[i]? = some r ∧ r.length = n ∧ R.getD i [] = r := by
  have hl : i < R.length := by rw [S.len]; exact h
  exact ⟨R[i], List.getElem?_eq_getElem hl, S.row _ (List.getElem_mem hl), by simp [List.getD_eq_getElem?_getD, hl]⟩
theorem Sh.set (S : Sh R M n) (h : i < M) {v : Int} : Sh (stb R i j v) M n := by
  obtain ⟨r, h1, h2, h3⟩ := S.at h
  refine ⟨by unfold stb; rw [List.length_set]; exact S.len, fun q hq => ?_⟩
  unfold stb at hq
  rw [h3] at hq
  rcases List.mem_or_eq_of_mem_set hq with z | z
  · exact S.row q z
  · rw [z, List.length_set]; exact h2
theorem tb_set (S : Sh R M n) (h : i < M) (hj : j < n) {v : Int} (i' j' : Nat) : tb (stb R i j v) i' j' = if i' = i ∧ j' = j then v else tb R i' j' := by
  obtain ⟨r, h1, h2, h3⟩ := S.at h
  have hl : i < R.length := by rw [S.len]; exact h
  unfold tb stb
  rw [h3]
  by_cases e1 : i' = i
  · subst e1
    have g : ∀ q : List Int, (R.set i' q).getD i' [] = q := fun q => by rw [List.getD_eq_getElem?_getD, List.getElem?_set_self hl]; rfl
    rw [g]
    by_cases e2 : j' = j
    · subst e2
      rw [if_pos ⟨rfl, rfl⟩, List.getD_eq_getElem?_getD, List.getElem?_set_self (by omega)]; rfl
    · rw [if_neg (fun z => e2 z.2), List.getD_eq_getElem?_getD, List.getElem?_set_ne (Ne.symm e2), ← List.getD_eq_getElem?_getD, h3]
  · have g : ∀ q : List Int, (R.set i q).getD i' [] = R.getD i' [] := fun q => by rw [List.getD_eq_getElem?_getD, List.getElem?_set_ne (Ne.symm e1), ← List.getD_eq_getElem?_getD]
    rw [if_neg (fun z => e1 z.1), g]
theorem tab_out : (tabS R)[R.length]? = some (.lst ((List.range R.length).map LV.ref)) := by
  unfold tabS
  rw [List.getElem?_append_right (by simp)]; simp
theorem tab_row {r : List Int} (h : R[i]? = some r) : (tabS R)[i]? = some (rowC r) := by
  unfold tabS
  have hl := (List.getElem?_eq_some_iff.mp h).1
  rw [List.getElem?_append_left (by simpa using hl), List.getElem?_map, h]; rfl
theorem tab_put {r : List Int} (h : i < R.length) : (tabS R).set i (rowC r) = tabS (R.set i r) := by
  unfold tabS
  rw [List.set_append_left _ _ (by simpa using h), List.map_set, List.length_set]
theorem tab_ref {t : Nat} {fi : EM} {ii : Int} (S : Sh R M n) (ht : e[t]? = some (some (.ref M))) (hi : fi e (tabS R) = some (.d (.int ii), tabS R)) (ei : ii = (i : Int)) (h : i < M) : eIx (eVar t) fi e (tabS R) = some (.ref i, tabS R) := by
  subst ei
  have hl : i < R.length := by rw [S.len]; exact h
  have q : ixPos ((List.range R.length).map LV.ref).length (i : Int) = some i := ixPos_nat (by simpa using hl)
  rw [ev_ix, ev_var ht]
  simp only [Option.bind_some, hi]
  rw [← S.len, ixV_ref tab_out, q]
  simp [hl]
theorem tab_get {t : Nat} {fi fj : EM} {ii jj : Int} (S : Sh R M n) (ht : e[t]? = some (some (.ref M))) (hi : fi e (tabS R) = some (.d (.int ii), tabS R)) (hj : fj e (tabS R) = some (.d (.int jj), tabS R)) (ei : ii = (i : Int)) (ej : jj = (j : Int)) (h : i < M) (hn : j < n) :
    eIx (eIx (eVar t) fi) fj e (tabS R) = some (.d (.int (tb R i j)), tabS R) := by
  subst ej
  obtain ⟨r, h1, h2, h3⟩ := S.at h
  have q : ixPos (r.map (LV.d ∘ PyData.int)).length (j : Int) = some j := ixPos_nat (by simp; omega)
  rw [ev_ix, tab_ref S ht hi ei h]
  simp only [Option.bind_some, hj]
  rw [ixV_ref (tab_row h1), q]
  have : r[j]? = some (tb R i j) := by
    unfold tb
    rw [h3, List.getD_eq_getElem?_getD, List.getElem?_eq_getElem (by omega)]; rfl
  simp [this]
theorem tab_set {t : Nat} {fi fj : EM} {ii jj : Int} {v : Int} (S : Sh R M n) (ht : e[t]? = some (some (.ref M))) (hi : fi e (tabS R) = some (.d (.int ii), tabS R)) (hj : fj e (tabS R) = some (.d (.int jj), tabS R)) (ei : ii = (i : Int)) (ej : jj = (j : Int)) (h : i < M) (hn : j < n) :
    tSub (eIx (eVar t) fi) fj (.d (.int v)) e (tabS R) = some (e, tabS (stb R i j v)) := by
  subst ej
  obtain ⟨r, h1, h2, h3⟩ := S.at h
  have hl : i < R.length := by rw [S.len]; exact h
  have q : ixPos (r.map (LV.d ∘ PyData.int)).length (j : Int) = some j := ixPos_nat (by simp; omega)
  rw [tg_sub, tab_ref S ht hi ei h]
  simp only [Option.bind_some, hj]
  rw [setItem_ev (tab_row h1), q]
  simp only [Option.map_some]
  have : Cell.lst ((r.map (LV.d ∘ PyData.int)).set j (LV.d (.int v))) = rowC (r.set j v) := by
    unfold rowC; rw [List.map_set]; rfl
  rw [this, tab_put hl]
  unfold stb
  rw [h3]
/-! made -/
theorem rows_make {f : LV → Env → Sto → Option (Option LV × Sto)} {r : List Int} (hf : ∀ (x : LV) (m : Sto), f x e m = some (some (.ref m.length), m ++ [rowC r])) : ∀ (xs : List LV) (k : Nat), compItems f xs e (List.replicate k (rowC r)) = some ((List.range' k xs.length).map LV.ref, List.replicate (k + xs.length) (rowC r))
  | [], k => by simp [compItems]
  | x :: xs, k => by
    unfold compItems
    have h2 : List.replicate k (rowC r) ++ [rowC r] = List.replicate (k + 1) (rowC r) := by rw [List.replicate_succ']
    rw [hf, List.length_replicate, h2]
    simp only [rows_make hf xs (k + 1), Option.map_some]
    rw [List.length_cons, List.range'_succ, List.map_cons]
    congr 3
    omega
theorem sh_make : Sh (List.replicate M (List.replicate n (0 : Int))) M n := ⟨by simp, fun r hr => by rw [(List.mem_replicate.mp hr).2]; simp⟩
theorem tb_make (i j : Nat) : tb (List.replicate M (List.replicate n (0 : Int))) i j = 0 := by
  unfold tb
  simp only [List.getD_eq_getElem?_getD, List.getElem?_replicate]
  split
  · simp only [Option.getD_some, List.getElem?_replicate]
    split <;> rfl
  · rfl
theorem tab_make : List.replicate M (rowC (List.replicate n 0)) ++ [.lst ((List.range' 0 M).map LV.ref)] = tabS (List.replicate M (List.replicate n (0 : Int))) := by
  unfold tabS
  rw [List.map_replicate, List.length_replicate, List.range_eq_range']
/-! frozen -/
theorem frz_row {r : List Int} {m : Sto} {k : Nat} (h : m[k]? = some (rowC r)) : frzV 3 m (.ref k) = some (.list (r.map .int), m.set k .dead) := by
  show (match m[k]? with
    | some (.lst xs) => match frzM (frzV 2) m xs with
      | some (ys, m1) => match m1[k]? with
        | some (.lst _) => some (PyData.list ys, m1.set k .dead)
        | _ => none
      | none => none
    | _ => none) = _
  rw [h]
  unfold rowC
  have := frzM_flat (frzV_d 2) (m := m) (xs := r.map (LV.d ∘ PyData.int)) (ys := r.map .int) (allD_comp r)
  simp only [this]
  rw [h]; rfl
theorem frz_rows : ∀ {rs : List (List Int)} {k : Nat} {m : Sto}, (∀ i r, rs[i]? = some r → m[k + i]? = some (rowC r)) → ∃ m', frzM (frzV 3) m ((List.range' k rs.length).map LV.ref) = some (rs.map fun r => .list (r.map .int), m') ∧ ∀ j, k + rs.length ≤ j → m'[j]? = m[j]?
  | [], k, m, _ => ⟨m, rfl, fun _ _ => rfl⟩
  | r :: rs, k, m, h => by
    have h0 := h 0 r rfl
    obtain ⟨m', h1, h2⟩ := frz_rows (rs := rs) (k := k + 1) (m := m.set k .dead) fun i q hq => by
      have := h (i + 1) q (by simpa using hq)
      rw [List.getElem?_set_ne (by omega), show k + 1 + i = k + (i + 1) by omega]
      exact this
    refine ⟨m', ?_, fun j hj => ?_⟩
    · rw [List.length_cons, List.range'_succ, List.map_cons]
      unfold frzM
      rw [frz_row (by simpa using h0)]
      simp only [h1]
      rfl
    · rw [List.length_cons] at hj
      rw [h2 j (by omega), List.getElem?_set_ne (by omega)]
theorem frz_tab {t : Nat} (ht : e[t]? = some (some (.ref R.length))) : ∃ m', eFrz t e (tabS R) = some (.d (.list (R.map fun r => .list (r.map .int))), m') := by
  obtain ⟨m', h1, h2⟩ := frz_rows (rs := R) (k := 0) (m := tabS R) fun i r h => by rw [Nat.zero_add]; exact tab_row h
  refine ⟨m'.set R.length .dead, ?_⟩
  unfold eFrz
  simp only [ht]
  have h3 : m'[R.length]? = some (.lst ((List.range R.length).map LV.ref)) := by rw [h2 _ (by omega)]; exact tab_out
  have : frzV FRZ (tabS R) (.ref R.length) = some (.list (R.map fun r => .list (r.map .int)), m'.set R.length .dead) := by
    show (match (tabS R)[R.length]? with
      | some (.lst xs) => match frzM (frzV 3) (tabS R) xs with
        | some (ys, m1) => match m1[R.length]? with
          | some (.lst _) => some (PyData.list ys, m1.set R.length .dead)
          | _ => none
        | none => none
      | _ => none) = _
    rw [tab_out]
    simp only []
    rw [List.range_eq_range', h1]
    simp only [h3]
  rw [this]; rfl
end
end Gg

end
section
/-! GRepr: how long data are when they are shown. -/
namespace Gg
open PySem

/-- no text is longer -/
def szD : Nat → PyData → Nat
  | 0, _ => 0
  | _ + 1, .int _ => 1922
  | _ + 1, .none => 5
  | _ + 1, .bool _ => 5
  | _ + 1, .str s => (reprText s).length
  | n + 1, .list xs => (xs.map fun x => szD n x + 2).sum + 4
  | n + 1, .tuple xs => (xs.map fun x => szD n x + 2).sum + 4
  | _ + 1, .dict _ => 0
theorem textFrom_le : ∀ (ts : List Str) (k : Nat) (acc : Str), (textFrom k acc ts).length ≤ acc.length + (ts.map fun t => t.length + 2).sum
  | [], k, acc => by show acc.length ≤ _; simp
  | t :: r, k, acc => by
    have ih := textFrom_le r (k + 1) (acc ++ (if k > 0 then ", " else "" : String) ++ t)
    have e : (acc ++ (if k > 0 then ", " else "" : String) ++ t).length = acc.length + (if k > 0 then 2 else 0) + t.length := by
      rw [strLen_append, strLen_append]
      split <;> rfl
    rw [e] at ih
    show (textFrom (k + 1) _ r).length ≤ _
    rw [List.map_cons, List.sum_cons]
    have : (if k > 0 then 2 else 0 : Nat) ≤ 2 := by split <;> omega
    omega
theorem listText_le (ts : List Str) : (listText ts).length ≤ (ts.map fun t => t.length + 2).sum + 2 := by
  unfold listText
  rw [strLen_append]
  have h := textFrom_le ts 0 "["
  have e1 : (("[" : String) : Str).length = 1 := rfl
  have e2 : (("]" : String) : Str).length = 1 := rfl
  rw [e1] at h
  rw [e2]; omega
theorem tupleText_le (ts : List Str) : (tupleText ts).length ≤ (ts.map fun t => t.length + 2).sum + 3 := by
  unfold tupleText
  rw [strLen_append, strLen_append]
  have e1 : (("(" : String) : Str).length = 1 := rfl
  have e3 : (((if ts.length == 1 then ",)" else ")" : String) : Str)).length ≤ 2 := by split <;> decide
  rw [e1]
  cases ts with
  | nil =>
    have : (Str.join ", " []).length = 0 := rfl
    rw [this]; omega
  | cons t r =>
    have := join_length_add (t :: r) (by simp)
    unfold piled at this
    omega
theorem shownAll_eq : ∀ xs : List PyData, PyData.shownAll xs = xs.map PyData.shown
  | [] => by rw [PyData.shownAll]; rfl
  | x :: xs => by rw [PyData.shownAll, shownAll_eq xs]; rfl
theorem showAll_eq : ∀ xs : List PyData, PyData.showableAll xs = xs.all PyData.showable
  | [] => by rw [PyData.showableAll]; rfl
  | x :: xs => by rw [PyData.showableAll, showAll_eq xs]; rfl
theorem sum_le {α : Type} {f g : α → Nat} : ∀ {l : List α}, (∀ x ∈ l, f x ≤ g x) → (l.map f).sum ≤ (l.map g).sum
  | [], _ => Nat.le_refl _
  | x :: l, h => by
    rw [List.map_cons, List.map_cons, List.sum_cons, List.sum_cons]
    have := h x List.mem_cons_self
    have := sum_le fun y hy => h y (List.mem_cons_of_mem _ hy)
    omega
theorem shown_le : ∀ (n : Nat) (x : PyData), plainD n x = true → PyData.showable x = true → (PyData.shown x).length ≤ szD n x
  | 0, _, h, _ => by cases h
  | n + 1, .none, _, _ => by rw [PyData.shown]; show _ ≤ 5; decide
  | n + 1, .bool b, _, _ => by rw [PyData.shown]; show _ ≤ 5; cases b <;> decide
  | n + 1, .int i, _, h => by
    rw [PyData.showable] at h
    rw [PyData.shown]
    have := int_text_length_le (k := 1920) (by decide) (of_decide_eq_true h)
    show (Str.ofString (toString i)).length ≤ 1922
    rw [ofString_length]; omega
  | n + 1, .str s, _, _ => by rw [PyData.shown]; exact Nat.le_refl _
  | n + 1, .list xs, h, h2 => by
    have h : xs.all (plainD n) = true := h
    rw [PyData.showable, showAll_eq] at h2
    rw [List.all_eq_true] at h h2
    rw [PyData.shown, shownAll_eq]
    have := listText_le (xs.map PyData.shown)
    rw [List.map_map] at this
    have s := sum_le (f := (fun t : Str => t.length + 2) ∘ PyData.shown) (g := fun x => szD n x + 2) (l := xs) fun x hx => Nat.add_le_add_right (shown_le n x (h x hx) (h2 x hx)) 2
    show _ ≤ (xs.map fun x => szD n x + 2).sum + 4
    omega
  | n + 1, .tuple xs, h, h2 => by
    have h : xs.all (plainD n) = true := h
    rw [PyData.showable, showAll_eq] at h2
    rw [List.all_eq_true] at h h2
    rw [PyData.shown, shownAll_eq]
    have := tupleText_le (xs.map PyData.shown)
    rw [List.map_map] at this
    have s := sum_le (f := (fun t : Str => t.length + 2) ∘ PyData.shown) (g := fun x => szD n x + 2) (l := xs) fun x hx => Nat.add_le_add_right (shown_le n x (h x hx) (h2 x hx)) 2
    show _ ≤ (xs.map fun x => szD n x + 2).sum + 4
    omega
  | n + 1, .dict _, h, _ => by cases h
theorem showOk_of {x : PyData} {n : Nat} (h : gd n x = true) (hn : n ≤ DEEP) (h2 : PyData.showable x = true) (h3 : szD n x ≤ 16000000) : showOk x = true := by
  have h1 := gd_plain n x h
  have hd := gd_plain DEEP x (gd_mono n x DEEP hn h)
  have hs := shown_le n x h1 h2
  unfold showOk
  rw [hd, h2]
  simp only [Bool.and_self, Bool.true_and, decide_eq_true_eq]
  exact Nat.le_trans hs h3
/-- repr(x) == repr(x) -/
theorem repr_same {x : PyData} (h : showOk x = true) : bRepr [x] = some (.str (PyData.shown x)) := by
  show (if showOk x = true then some (PyData.str (PyData.shown x)) else none) = _
  rw [if_pos h]
theorem showable_ints {l : List Int} (h : ∀ i ∈ l, sm i) : PyData.showable (.tuple (l.map .int)) = true := by
  rw [PyData.showable, showAll_eq, List.all_eq_true]
  intro x hx
  obtain ⟨i, hi, rfl⟩ := List.mem_map.mp hx
  rw [PyData.showable]
  have := h i hi
  unfold sm at this
  have := log2_lt_of (n := i.natAbs) (k := 61) (by omega)
  exact decide_eq_true (by omega)
theorem sz_ints (l : List Int) : szD 2 (.tuple (l.map .int)) = 1924 * l.length + 4 := by
  show (((l.map PyData.int).map fun x => szD 1 x + 2).sum + 4) = _
  have : ∀ l : List Int, ((l.map PyData.int).map fun x => szD 1 x + 2).sum = 1924 * l.length := by
    intro l
    induction l with
    | nil => rfl
    | cons i l ih =>
      rw [List.map_cons, List.map_cons, List.sum_cons, ih, List.length_cons]
      show 1922 + 2 + _ = _
      omega
  rw [this]
theorem showOk_ints {l : List Int} (h : ∀ i ∈ l, sm i) (hl : l.length ≤ 8000) : showOk (.tuple (l.map .int)) = true :=
  showOk_of (n := 2) (by simp) (by decide) (showable_ints h) (by rw [sz_ints]; omega)
end Gg

end
section
/-! GWp: what holds behind a step, reckoned from the head on. -/
namespace Gg
open PySem

def wO {α : Type} (o : Option α) (Q : α → Prop) : Prop := ∃ x, o = some x ∧ Q x
theorem wO_congr {α : Type} {o o' : Option α} {Q : α → Prop} (h : o = o') : wO o Q = wO o' Q := by rw [h]
theorem wO.of {α : Type} {o : Option α} {x : α} {Q : α → Prop} (h : o = some x) (q : Q x) : wO o Q := ⟨x, h, q⟩
theorem wO.mono {α : Type} {o : Option α} {Q R : α → Prop} (h : wO o Q) (w : ∀ x, Q x → R x) : wO o R := let ⟨x, h1, h2⟩ := h; ⟨x, h1, w x h2⟩
theorem wO.get {α : Type} {o : Option α} {x : α} (h : wO o fun y => y = x) : o = some x := by obtain ⟨y, h1, rfl⟩ := h; exact h1
theorem wO.use {α : Type} {o : Option α} {x : α} {Q : α → Prop} (h : wO o Q) (e : o = some x) : Q x := by
  obtain ⟨y, h1, h2⟩ := h
  rw [e] at h1; cases h1; exact h2
section
variable {α β : Type} {Q : α → Prop} {R : β → Prop}
@[simp] theorem wO_some {x : α} : wO (some x) Q = Q x := propext ⟨fun ⟨_, h, q⟩ => (by cases h; exact q), fun q => ⟨x, rfl, q⟩⟩
@[simp] theorem wO_none : wO (none : Option α) Q = False := propext ⟨fun ⟨_, h, _⟩ => (by cases h), False.elim⟩
@[simp ↓] theorem wO_bind {o : Option β} {k : β → Option α} : wO (o.bind k) Q = wO o fun x => wO (k x) Q := by
  cases o with
  | none => simp
  | some x => simp
@[simp ↓] theorem wO_map {o : Option β} {k : β → α} : wO (o.map k) Q = wO o fun x => Q (k x) := by
  cases o with
  | none => simp
  | some x => simp
@[simp ↓] theorem wO_ite {p : Prop} [Decidable p] {a b : Option α} : wO (if p then a else b) Q = if p then wO a Q else wO b Q := by split <;> rfl
end
@[simp] theorem wO_bind2 {α β : Type} {Q : α → Prop} {o : Option β} {k : β → Option α} : wO (o.bind k) Q = wO o fun x => wO (k x) Q := wO_bind
@[simp] theorem wO_map2 {α β : Type} {Q : α → Prop} {o : Option β} {k : β → α} : wO (o.map k) Q = wO o fun x => Q (k x) := wO_map
@[simp] theorem wO_ite2 {α : Type} {Q : α → Prop} {p : Prop} [Decidable p] {a b : Option α} : wO (if p then a else b) Q = if p then wO a Q else wO b Q := wO_ite
theorem wO_if {p : Prop} [Decidable p] {a b : Prop} (h : p) (q : a) : if p then a else b := by rw [if_pos h]; exact q
theorem wO_else {p : Prop} [Decidable p] {a b : Prop} (h : ¬ p) (q : b) : if p then a else b := by rw [if_neg h]; exact q

section
variable {e : Env} {m : Sto} {fa fb fc : EM} {fs : List EM} {g h : B2} {Q : LV × Sto → Prop} {S : Out → Prop}
@[simp ↓] theorem w_con {c : PyData} : wO (eCon c e m) Q = Q (.d c, m) := by rw [ev_con, wO_some]
@[simp ↓] theorem w_var {i : Nat} : wO (eVar i e m) Q = wO e[i]? fun o => wO o fun v => Q (v, m) := by
  unfold eVar
  rcases e[i]? with _ | _ | v <;> simp
@[simp ↓] theorem w_nil {Q : List LV × Sto → Prop} : wO (evalL [] e m) Q = Q ([], m) := by rw [evl_nil, wO_some]
@[simp ↓] theorem w_cons {f : EM} {Q : List LV × Sto → Prop} : wO (evalL (f :: fs) e m) Q = wO (f e m) fun a => wO (evalL fs e a.2) fun b => Q (a.1 :: b.1, b.2) := by rw [evl_cons, wO_bind]; simp only [wO_map]
@[simp ↓] theorem w_tup : wO (eTup fs e m) Q = wO (evalL fs e m) fun a => wO (tupV a.1) fun x => Q (x, a.2) := by rw [ev_tup, wO_bind]; simp only [wO_map]
@[simp ↓] theorem w_bin : wO (eBin g fa fb e m) Q = wO (fa e m) fun a => wO (fb e a.2) fun b => wO (rdD b.2 a.1) fun x => wO (rdD b.2 b.1) fun y => wO (g x y) fun z => Q (.d z, b.2) := by
  rw [ev_bin]; simp only [wO_bind, wO_map]
@[simp ↓] theorem w_un {u : PyData → Option PyData} : wO (eUn u fa e m) Q = wO (fa e m) fun a => wO (rdD a.2 a.1) fun x => wO (u x) fun z => Q (.d z, a.2) := by
  rw [ev_un]; simp only [wO_bind, wO_map]
@[simp ↓] theorem w_and : wO (eAnd fa fb e m) Q = wO (fa e m) fun r => wO (truth r.2 r.1) fun t => if t = true then wO (fb e r.2) Q else Q r := by
  rw [ev_and]; simp only [wO_bind, wO_ite, wO_some]
@[simp ↓] theorem w_or : wO (eOr fa fb e m) Q = wO (fa e m) fun r => wO (truth r.2 r.1) fun t => if t = true then Q r else wO (fb e r.2) Q := by
  rw [ev_or]; simp only [wO_bind, wO_ite, wO_some]
@[simp ↓] theorem w_not : wO (eNot fa e m) Q = wO (fa e m) fun r => wO (truth r.2 r.1) fun t => Q (.d (.bool (!t)), r.2) := by
  rw [ev_not]; simp only [wO_bind, wO_map]
@[simp ↓] theorem w_ite : wO (eIte fc fa fb e m) Q = wO (fc e m) fun r => wO (truth r.2 r.1) fun t => if t = true then wO (fa e r.2) Q else wO (fb e r.2) Q := by
  rw [ev_ite]; simp only [wO_bind, wO_ite]
@[simp ↓] theorem w_chain : wO (eChain g h fa fb fc e m) Q = wO (fa e m) fun a => wO (fb e a.2) fun b => wO (rdD b.2 a.1) fun x => wO (rdD b.2 b.1) fun y => wO (boolOf (g x y)) fun t =>
    if t = true then wO (fc e b.2) fun c => wO (rdD c.2 b.1) fun y' => wO (rdD c.2 c.1) fun z => wO (h y' z) fun w => Q (.d w, c.2) else Q (.d (.bool false), b.2) := by
  rw [ev_chain]; simp only [wO_bind, wO_map, wO_ite, wO_some]
@[simp ↓] theorem w_isN {n : Bool} : wO (eIsN n fa e m) Q = wO (fa e m) fun a => Q (.d (.bool (isNoneV a.1 != n)), a.2) := by rw [ev_isN]; simp only [wO_map]
@[simp ↓] theorem w_ix {fi : EM} : wO (eIx fa fi e m) Q = wO (fa e m) fun a => wO (fi e a.2) fun i => wO (ixV i.2 a.1 i.1) fun v => Q (v, i.2) := by
  rw [ev_ix]; simp only [wO_bind, wO_map]
@[simp ↓] theorem w_onone {Q : Option Int × Sto → Prop} : wO (evalO none e m) Q = Q (none, m) := by rw [evo_none, wO_some]
@[simp ↓] theorem w_osome {f : EM} {Q : Option Int × Sto → Prop} : wO (evalO (some f) e m) Q = wO (f e m) fun a => wO (intV a.1) fun i => Q (some i, a.2) := by
  rw [evo_some]; simp only [wO_bind, wO_map]
@[simp ↓] theorem w_sl {lo hi : Option EM} : wO (eSl fa lo hi e m) Q = wO (fa e m) fun a => wO (evalO lo e a.2) fun l => wO (evalO hi e l.2) fun h => wO (rdS h.2 a.1) fun x => wO (slD l.1 h.1 x) fun z => Q (.d z, h.2) := by
  rw [ev_sl]; simp only [wO_bind, wO_map]
@[simp ↓] theorem w_bi {b : BF} : wO (eBi b fs e m) Q = wO (evalL fs e m) fun a => wO (rdAll a.2 a.1) fun xs => wO (b xs) fun z => Q (.d z, a.2) := by
  rw [ev_bi]; simp only [wO_bind, wO_map]
@[simp ↓] theorem w_len : wO (eLen fa e m) Q = wO (fa e m) fun a => wO (lenV a.2 a.1) fun z => Q (.d z, a.2) := by
  rw [ev_len]; simp only [wO_bind, wO_map]
@[simp ↓] theorem w_isi {T : String} : wO (eIsi T fa e m) Q = wO (fa e m) fun a => wO (rdD a.2 a.1) fun x => Q (.d (.bool (isType T x)), a.2) := by
  rw [ev_isi]; simp only [wO_bind, wO_map]
@[simp ↓] theorem w_lst {l : LM} : wO (eLst l e m) Q = wO (l e m) fun a => wO (allD a.1) fun xs => Q (.d (.list xs), a.2) := by
  rw [ev_lst]; simp only [wO_bind, wO_map]
@[simp ↓] theorem w_new {l : LM} : wO (eNew l e m) Q = wO (l e m) fun a => Q (.ref a.2.length, a.2 ++ [.lst a.1]) := by rw [ev_new]; simp only [wO_map]
@[simp ↓] theorem w_disp {Q : List LV × Sto → Prop} : wO (lDisp fs e m) Q = wO (evalL fs e m) Q := rfl
@[simp ↓] theorem w_lof {f : EM} {Q : List LV × Sto → Prop} : wO (lOf f e m) Q = wO (f e m) fun a => wO (itemsOf a.2 a.1) fun xs => Q (xs, a.2) := by
  rw [ev_lof]; simp only [wO_bind, wO_map]
@[simp ↓] theorem w_lrev {f : EM} {Q : List LV × Sto → Prop} : wO (lRev f e m) Q = wO (f e m) fun a => wO (revV a.2 a.1) fun xs => Q (xs, a.2) := by
  rw [ev_lrev]; simp only [wO_bind, wO_map]
def itmsOf : Itm → Option (List LV)
  | .items xs => some xs
  | _ => none
@[simp] theorem itmsOf_i {xs : List LV} : itmsOf (.items xs) = some xs := rfl
@[simp ↓] theorem w_lrng {f : IM} {Q : List LV × Sto → Prop} : wO (lRng f e m) Q = wO (f e m) fun a => wO (itmsOf a.1) fun xs => Q (xs, a.2) := by
  rw [ev_lrng]
  rcases f e m with _ | ⟨_ | _, m1⟩ <;> simp [itmsOf]
@[simp ↓] theorem w_lrep {l : LM} {fn : EM} {Q : List LV × Sto → Prop} : wO (lRep l fn e m) Q = wO (l e m) fun a => wO (fn e a.2) fun b => wO (intV b.1) fun k => (a.1.length * k.toNat ≤ LINE ∧ rngOk k = true) ∧ Q ((List.replicate k.toNat a.1).flatten, b.2) := by
  rw [ev_lrep]; simp only [wO_bind, wO_ite, wO_some, wO_none]
  congr 1; funext a; congr 1; funext b; congr 1; funext k
  by_cases hk : a.1.length * k.toNat ≤ LINE ∧ rngOk k = true
  · rw [if_pos hk]; simp only [hk, and_self, true_and]
  · rw [if_neg hk]; simp only [hk, false_and]
@[simp ↓] theorem w_comp {fe : EM} {t : TM} {it : IM} {ifs : List EM} {own : List Nat} {Q : List LV × Sto → Prop} : wO (lComp fe t it ifs own e m) Q = wO (it e m) fun r => wO (compOver (compOne fe t ifs own) r.1 e r.2) Q := by
  rw [ev_comp]; simp only [wO_bind]
@[simp ↓] theorem w_over {f : LV → Env → Sto → Option (Option LV × Sto)} {xs : List LV} {Q : List LV × Sto → Prop} : wO (compOver f (.items xs) e m) Q = (xs.length ≤ LINE ∧ wO (compItems f xs e m) Q) := by
  rw [over_items]
  simp only [wO_ite, wO_none]
  by_cases hk : xs.length ≤ LINE
  · rw [if_pos hk]; simp only [hk, true_and]
  · rw [if_neg hk]; simp only [hk, false_and]
@[simp ↓] theorem w_one0 {fe : EM} {t : TM} {own : List Nat} {x : LV} {Q : Option LV × Sto → Prop} : wO (compOne fe t [] own x e m) Q = wO (t x (wipeE e own) m) fun r => wO (fe r.1 r.2) fun q => Q (some q.1, q.2) := by
  rw [one_plain]; simp only [wO_bind, wO_map]
@[simp ↓] theorem w_one1 {fe f : EM} {t : TM} {own : List Nat} {x : LV} {Q : Option LV × Sto → Prop} : wO (compOne fe t [f] own x e m) Q = wO (t x (wipeE e own) m) fun r => wO (f r.1 r.2) fun a => wO (truth a.2 a.1) fun b => if b = true then wO (fe r.1 a.2) fun q => Q (some q.1, q.2) else Q (none, a.2) := by
  rw [one_test]; simp only [wO_bind, wO_map, wO_ite, wO_some]
@[simp ↓] theorem w_iseq {f : EM} {Q : Itm × Sto → Prop} : wO (iSeq f e m) Q = wO (f e m) fun a => wO (seqV a.2 a.1) fun i => Q (i, a.2) := by
  rw [it_seq]; simp only [wO_bind, wO_map]
@[simp ↓] theorem w_ienum {f : EM} {Q : Itm × Sto → Prop} : wO (iEnum f e m) Q = wO (f e m) fun a => wO (enumV a.1) fun i => Q (.items i, a.2) := by
  rw [it_enum]; simp only [wO_bind, wO_map]
def zipV : LV → LV → Option (List LV)
  | .d (.list xs), .d (.list ys) => some (zipD xs ys)
  | .d (.tuple xs), .d (.tuple ys) => some (zipD xs ys)
  | _, _ => none
@[simp] theorem zipV_l {xs ys : List PyData} : zipV (.d (.list xs)) (.d (.list ys)) = some (zipD xs ys) := rfl
@[simp] theorem zipV_t {xs ys : List PyData} : zipV (.d (.tuple xs)) (.d (.tuple ys)) = some (zipD xs ys) := rfl
@[simp ↓] theorem w_izip {Q : Itm × Sto → Prop} : wO (iZip fa fb e m) Q = wO (fa e m) fun a => wO (fb e a.2) fun b => wO (zipV a.1 b.1) fun i => Q (.items i, b.2) := by
  have hh : iZip fa fb e m = (fa e m).bind fun a => (fb e a.2).bind fun b => (zipV a.1 b.1).map fun i => (.items i, b.2) := by
    unfold iZip
    rcases fa e m with _ | ⟨a, m1⟩
    · rfl
    simp only [Option.bind_some]
    rcases hb : fb e m1 with _ | ⟨b, m2⟩
    · cases a with
      | d x => cases x <;> simp [hb]
      | _ => rfl
    · simp only [Option.bind_some]
      cases a with
      | d x =>
        cases x <;> try (simp [zipV]; done)
        · cases b with
          | d y => cases y <;> simp [hb, zipV]
          | _ => simp [hb, zipV]
        · cases b with
          | d y => cases y <;> simp [hb, zipV]
          | _ => simp [hb, zipV]
      | _ => rfl
  rw [hh]; simp only [wO_bind, wO_map]
@[simp ↓] theorem w_rng1 {f : EM} {Q : Itm × Sto → Prop} : wO (iRange [f] e m) Q = wO (f e m) fun a => wO (intV a.1) fun j => rngOk j = true ∧ Q (.items (upTo 0 j.toNat), a.2) := by
  unfold iRange
  simp only [evl_cons, evl_nil]
  rcases f e m with _ | ⟨a, m1⟩
  · simp
  · cases a with
    | d x => cases x <;> simp [intV]
    | _ => simp [intV]
@[simp ↓] theorem w_rng2 {f g : EM} {Q : Itm × Sto → Prop} : wO (iRange [f, g] e m) Q = wO (f e m) fun a => wO (g e a.2) fun b => wO (intV a.1) fun i => wO (intV b.1) fun j => (rngOk i = true ∧ rngOk j = true) ∧ Q (.items (upTo i (j - i).toNat), b.2) := by
  unfold iRange
  simp only [evl_cons, evl_nil]
  rcases f e m with _ | ⟨a, m1⟩
  · simp
  rcases hg : g e m1 with _ | ⟨b, m2⟩
  · simp [hg]
  cases a with
  | d x =>
    cases b with
    | d y => cases x <;> cases y <;> simp [hg, intV]
    | _ => cases x <;> simp [hg, intV]
  | _ => simp [hg, intV]
/-- -1 -/
def m1V : LV → Option Unit
  | .d (.int (-1)) => some ()
  | _ => none
@[simp] theorem m1V_m : m1V (.d (.int (-1))) = some () := rfl
theorem w_rng3 {f g k : EM} {Q : Itm × Sto → Prop} (H : wO (f e m) fun a => wO (g e a.2) fun b => wO (k e b.2) fun c => ∃ i j, a.1 = .d (.int i) ∧ b.1 = .d (.int j) ∧ c.1 = .d (.int (-1)) ∧ rngOk i = true ∧ rngOk j = true ∧ Q (.items (downFrom i (i - j).toNat), c.2)) : wO (iRange [f, g, k] e m) Q := by
  obtain ⟨⟨a, m1⟩, h1, ⟨b, m2⟩, h2, ⟨c, m3⟩, h3, i, j, rfl, rfl, rfl, h4, h5, q⟩ := H
  simp only at h1 h2 h3 q
  unfold iRange
  simp [h1, h2, h3, h4, h5, q]
/-! statements -/
def thenO (b : SM) : Out → Option Out
  | .nx e m => b e m
  | o => some o
@[simp] theorem thenO_nx {b : SM} : thenO b (.nx e m) = b e m := rfl
@[simp] theorem thenO_rt {b : SM} {v : LV} : thenO b (.rt v m) = some (.rt v m) := rfl
@[simp] theorem thenO_bk {b : SM} : thenO b (.bk e m) = some (.bk e m) := rfl
@[simp] theorem thenO_ct {b : SM} : thenO b (.ct e m) = some (.ct e m) := rfl
@[simp ↓] theorem w_seq {a b : SM} : wO (sSeq a b e m) S = wO (a e m) fun o => wO (thenO b o) S := by
  rw [st_seq]
  rcases a e m with _ | o
  · simp
  · cases o <;> simp [seqK]
@[simp ↓] theorem w_then_nx {b : SM} : wO (thenO b (.nx e m)) S = wO (b e m) S := rfl
@[simp ↓] theorem w_then_rt {b : SM} {v : LV} : wO (thenO b (.rt v m)) S = S (.rt v m) := by rw [thenO_rt, wO_some]
@[simp ↓] theorem w_then_bk {b : SM} : wO (thenO b (.bk e m)) S = S (.bk e m) := by rw [thenO_bk, wO_some]
@[simp ↓] theorem w_then_ct {b : SM} : wO (thenO b (.ct e m)) S = S (.ct e m) := by rw [thenO_ct, wO_some]
@[simp ↓] theorem w_seqK {r : Option Out} {b : SM} : wO (seqK r b) S = wO r fun o => wO (thenO b o) S := by
  rcases r with _ | o
  · simp
  · cases o <;> simp [seqK]
@[simp ↓] theorem w_asg {t : TM} {f : EM} : wO (sAsg t f e m) S = wO (f e m) fun a => wO (t a.1 e a.2) fun r => S (.nx r.1 r.2) := by
  rw [st_asg]; simp only [wO_bind, wO_map]
@[simp ↓] theorem w_par {ts : List TM} : wO (sPar ts fs e m) S = wO (evalL fs e m) fun a => wO (toAll ts a.1 e a.2) fun r => S (.nx r.1 r.2) := by
  rw [st_par]; simp only [wO_bind, wO_map]
def dOf : LV → Option PyData
  | .d x => some x
  | _ => none
@[simp] theorem dOf_d {x : PyData} : dOf (.d x) = some x := rfl
@[simp ↓] theorem w_aug {i : Nat} {f : EM} : wO (sAug i g f e m) S = wO e[i]? fun o => wO o fun v => wO (f e m) fun a => wO (dOf v) fun x => wO (dOf a.1) fun y => wO (g x y) fun z => S (.nx (e.set i (some (.d z))) a.2) := by
  unfold sAug
  rcases e[i]? with _ | _ | v
  · simp
  · simp
  · simp only [wO_some]
    rcases f e m with _ | ⟨a, m1⟩
    · simp
    · cases v <;> cases a <;> simp [dOf]
@[simp ↓] theorem w_drop {f : EM} : wO (sDrop f e m) S = wO (f e m) fun r => S (.nx e r.2) := by rw [st_drop]; simp only [wO_map]
@[simp ↓] theorem w_app {fo fv : EM} : wO (sApp fo fv e m) S = wO (fo e m) fun a => wO (lstV a.2 a.1) fun l => wO (fv e a.2) fun v => wO (lstV v.2 (.ref l.1)) fun l2 => l2.2.length ≤ LINE ∧ S (.nx e (v.2.set l.1 (.lst (l2.2 ++ [v.1])))) := by
  rw [st_app]; simp only [wO_bind, wO_ite, wO_some, wO_none]
  congr 1; funext a; congr 1; funext l; congr 1; funext v; congr 1; funext l2
  by_cases hk : l2.2.length ≤ LINE
  · rw [if_pos hk]; simp only [hk, true_and]
  · rw [if_neg hk]; simp only [hk, false_and]
@[simp ↓] theorem w_ext {fo fv : EM} : wO (sExt fo fv e m) S = wO (fo e m) fun a => wO (lstV a.2 a.1) fun l => wO (fv e a.2) fun v => wO (lstV v.2 (.ref l.1)) fun l2 => wO (listOf v.2 v.1) fun ys => l2.2.length + ys.length ≤ LINE ∧ S (.nx e (v.2.set l.1 (.lst (l2.2 ++ ys)))) := by
  rw [st_ext]; simp only [wO_bind, wO_ite, wO_some, wO_none]
  congr 1; funext a; congr 1; funext l; congr 1; funext v; congr 1; funext l2; congr 1; funext ys
  by_cases hk : l2.2.length + ys.length ≤ LINE
  · rw [if_pos hk]; simp only [hk, true_and]
  · rw [if_neg hk]; simp only [hk, false_and]
@[simp ↓] theorem w_if {a b : SM} : wO (sIf fc a b e m) S = wO (fc e m) fun r => wO (truth r.2 r.1) fun t => if t = true then wO (a e r.2) S else wO (b e r.2) S := by
  rw [st_if]; simp only [wO_bind, wO_ite]
@[simp ↓] theorem w_ret {f : EM} : wO (sRet f e m) S = wO (f e m) fun r => S (.rt r.1 r.2) := by rw [st_ret]; simp only [wO_map]
@[simp ↓] theorem w_tsub {fo fi : EM} {v : LV} {Q : Env × Sto → Prop} : wO (tSub fo fi v e m) Q = wO (fo e m) fun o => wO (fi e o.2) fun i => wO (setItem i.2 o.1 i.1 v) fun m3 => Q (e, m3) := by
  rw [tg_sub]; simp only [wO_bind, wO_map]
@[simp ↓] theorem w_tcons {t : TM} {ts : List TM} {v : LV} {vs : List LV} {Q : Env × Sto → Prop} : wO (toAll (t :: ts) (v :: vs) e m) Q = wO (t v e m) fun r => wO (toAll ts vs r.1 r.2) Q := by
  rw [ta_cons]; simp only [wO_bind]
@[simp ↓] theorem w_for {t : TM} {it : IM} {b : SM} : wO (sFor t it b e m) S = wO (it e m) fun r => wO (forOver (forBody t b) r.1 e r.2) S := by
  rw [st_for]; simp only [wO_bind]
@[simp ↓] theorem w_fbody {t : TM} {b : SM} {x : LV} : wO (forBody t b x e m) S = wO (t x e m) fun r => wO (b r.1 r.2) S := by
  rw [forBody_ev]; simp only [wO_bind]
/-! calls -/
@[simp ↓] theorem w_call {F : Fn} : wO (eCall F fs e m) Q = wO (evalL fs e m) fun a => wO (callF F a.1 a.2) Q := by rw [ev_call]; simp only [wO_bind]
@[simp ↓] theorem w_callF {F : Fn} {vs : List LV} : wO (callF F vs m) Q = ((vs.all plainArg = true ∧ (refsOf vs).Nodup) ∧ wO (flatCells m (refsOf vs)) fun cs => wO (F (renum 0 vs) cs) fun r => wO (backF m (refsOf vs) cs.length r.1 r.2) Q) := by
  rw [call_ev]
  simp only [wO_ite, wO_bind, wO_none]
  by_cases hk : vs.all plainArg = true ∧ (refsOf vs).Nodup
  · rw [if_pos hk]; simp only [hk, and_self, true_and]
  · rw [if_neg hk]; simp only [hk, false_and]
theorem w_fn {F : Fn} {np n : Nat} {b : SM} {vs : List LV} {cs : List (List PyData)} {R : LV × List (List PyData) → Prop} (hF : F = sealF (mkFn np n b)) (hl : vs.length = np)
    (H : wO (b (vs.map some ++ List.replicate (n - np) none) (cs.map fun c => .lst (c.map .d))) fun o => wO (answer cs.length (some o)) R) : wO (F vs cs) R := by
  obtain ⟨o, h1, h2⟩ := H
  rw [hF, sealF_eq]
  unfold mkFn
  rw [if_pos hl, h1]
  exact h2
end
/-! ### loops -/
theorem w_forI {body : LV → SM} {S : Out → Prop} (I : Nat → Env → Sto → Prop) {xs : List LV} {e : Env} {m : Sto} (h0 : I 0 e m)
    (step : ∀ (i : Nat) (x : LV) (e : Env) (m : Sto), xs[i]? = some x → I i e m → wO (body x e m) fun o => match o with
      | .nx e1 m1 => I (i + 1) e1 m1
      | .ct e1 m1 => I (i + 1) e1 m1
      | .bk e1 m1 => S (.nx e1 m1)
      | .rt v m1 => S (.rt v m1))
    (fin : ∀ (e : Env) (m : Sto), I xs.length e m → S (.nx e m)) : wO (forItems body xs e m) S := by
  obtain ⟨o, h1, h2⟩ := for_inv (Q := S) I h0 (fun i x e m hx hi => by
    obtain ⟨o, a, b⟩ := step i x e m hx hi
    refine ⟨o, a, ?_⟩
    cases o <;> exact b) fin
  exact ⟨o, h1, h2⟩
theorem w_whileI {fc : EM} {b : SM} {S : Out → Prop} (I : Nat → Env → Sto → Prop) {n : Nat} {e : Env} {m : Sto} (h0 : I n e m)
    (step : ∀ (n : Nat) (e : Env) (m : Sto), I n e m → wO (fc e m) fun r => wO (truth r.2 r.1) fun t => (t = false → S (.nx e r.2)) ∧ (t = true → wO (b e r.2) fun o => match o with
      | .nx e1 m2 => ∃ k, k < n ∧ I k e1 m2
      | .ct e1 m2 => ∃ k, k < n ∧ I k e1 m2
      | .bk e1 m2 => S (.nx e1 m2)
      | .rt v m2 => S (.rt v m2))) : wO (sWhile fc b e m) S := by
  obtain ⟨o, h1, h2⟩ := while_inv (Q := S) I h0 (fun n e m hi => by
    obtain ⟨r, a, t, b1, c, d⟩ := step n e m hi
    refine ⟨r.1, r.2, t, a, b1, c, fun ht => ?_⟩
    obtain ⟨o, o1, o2⟩ := d ht
    refine ⟨o, o1, ?_⟩
    cases o <;> exact o2)
  exact ⟨o, h1, h2⟩
/-- a new list, nothing else touched -/
theorem w_items {f : LV → Env → Sto → Option (Option LV × Sto)} {α : Type} {g : α → LV} (k : α → Option LV) {e : Env} {m : Sto} {Q : List LV × Sto → Prop} {l : List α} (h : ∀ x ∈ l, wO (f (g x) e m) fun r => r = (k x, m)) (q : Q (l.filterMap k, m)) : wO (compItems f (l.map g) e m) Q :=
  .of (comp_pure l fun x hx => (h x hx).get) q
/-- .. each item taken over -/
theorem w_each {f : LV → Env → Sto → Option (Option LV × Sto)} {α : Type} {g : α → LV} (k : α → PyData) {e : Env} {m : Sto} {Q : List LV × Sto → Prop} {l : List α} (h : ∀ x ∈ l, wO (f (g x) e m) fun r => r = (some (.d (k x)), m)) (q : Q ((l.map k).map .d, m)) : wO (compItems f (l.map g) e m) Q := by
  refine w_items (fun x => some (.d (k x))) h ?_
  rw [List.filterMap_eq_map', List.map_map] at *
  first | exact q | (rw [List.map_map] at q; exact q)
/-- .. those that pass -/
theorem w_some {f : LV → Env → Sto → Option (Option LV × Sto)} {α : Type} {g : α → LV} (p : α → Bool) (k : α → PyData) {e : Env} {m : Sto} {Q : List LV × Sto → Prop} {l : List α} (h : ∀ x ∈ l, wO (f (g x) e m) fun r => r = (if p x then some (.d (k x)) else none, m)) (q : Q (((l.filter p).map k).map .d, m)) : wO (compItems f (l.map g) e m) Q := by
  refine w_items (fun x => if p x then some (.d (k x)) else none) h ?_
  have e1 : l.filterMap (fun x => if p x then some (LV.d (k x)) else none) = ((l.filter p).map k).map .d := by
    clear h q
    induction l with
    | nil => rfl
    | cons x l ih => by_cases hp : p x <;> simp [hp, ih, List.filterMap_cons, List.filter_cons]
  rw [e1]; exact q
/-- a new list made while the store changes -/
theorem w_drawn {f : LV → Env → Sto → Option (Option LV × Sto)} {α : Type} {g : α → LV} {P : α → Prop} {e : Env} {m : Sto} {xs : List LV} {Q : List LV × Sto → Prop} (I : Nat → Sto → Prop) (h0 : I 0 m)
    (step : ∀ (j : Nat) (x : LV) (m : Sto), xs[j]? = some x → j < xs.length → I j m → wO (f x e m) fun r => ∃ a, r.1 = some (g a) ∧ P a ∧ I (j + 1) r.2)
    (fin : ∀ (l : List α) (m' : Sto), l.length = xs.length → (∀ a ∈ l, P a) → I xs.length m' → Q (l.map g, m')) : wO (compItems f xs e m) Q := by
  suffices H : ∀ (ys : List LV) (i : Nat) (m : Sto), ys = xs.drop i → i ≤ xs.length → I i m → ∃ (l : List α) (m' : Sto), compItems f ys e m = some (l.map g, m') ∧ l.length = ys.length ∧ (∀ a ∈ l, P a) ∧ I xs.length m' by
    obtain ⟨l, m', h1, h2, h3, h4⟩ := H xs 0 m (by simp) (by omega) h0
    exact .of h1 (fin l m' h2 h3 h4)
  intro ys
  induction ys with
  | nil =>
    intro i m h1 h2 h3
    have : i = xs.length := by
      have := congrArg List.length h1
      rw [List.length_drop, List.length_nil] at this; omega
    subst this
    exact ⟨[], m, rfl, rfl, (fun _ h => by cases h), h3⟩
  | cons y ys ih =>
    intro i m h1 h2 h3
    have hi : i < xs.length := by
      have := congrArg List.length h1
      rw [List.length_drop, List.length_cons] at this; omega
    rw [List.drop_eq_getElem_cons hi] at h1
    injection h1 with h1 h4
    obtain ⟨⟨o, m1⟩, hf, a, ha, hp, hI⟩ := step i y m (by rw [List.getElem?_eq_getElem hi, h1]) hi h3
    simp only at ha hI
    subst ha
    obtain ⟨l, m', g1, g2, g3, g4⟩ := ih (i + 1) m1 h4 (by omega) hI
    refine ⟨a :: l, m', ?_, by rw [List.length_cons, List.length_cons, g2], fun b hb => ?_, g4⟩
    · unfold compItems
      rw [hf]
      simp [g1]
    · rcases List.mem_cons.mp hb with e | hb
      · rw [e]; exact hp
      · exact g3 b hb
end Gg
namespace Gg
open PySem
theorem compCell_eq {f : LV → Env → Sto → Option (Option LV × Sto)} {k : Nat} {xs : List LV} {e : Env} {m : Sto} (hk : m[k]? = some (.lst xs)) {κ : LV → Option LV} (h : ∀ x ∈ xs, f x e m = some (κ x, m)) :
    ∀ j, j ≤ xs.length → compCell f k xs.length j e m = some ((xs.drop (xs.length - j)).filterMap κ, m)
  | 0, _ => by simp [compCell, hk]
  | j + 1, hj => by
    have hi : xs.length - (j + 1) < xs.length := by omega
    have g : xs[xs.length - (j + 1)]? = some xs[xs.length - (j + 1)] := List.getElem?_eq_getElem hi
    have ih := compCell_eq hk h j (by omega)
    have e1 : xs.drop (xs.length - (j + 1)) = xs[xs.length - (j + 1)] :: xs.drop (xs.length - j) := by
      rw [List.drop_eq_getElem_cons hi]; congr 2; omega
    have hx := h _ (List.getElem_mem hi)
    unfold compCell
    rw [hk]
    simp only [if_pos]
    rw [g]
    simp only []
    rw [hx, e1, List.filterMap_cons]
    cases q : κ xs[xs.length - (j + 1)] with
    | none => simp only [ih]
    | some y => simp only [ih, Option.map_some]
/-- over a list that may change, which is not changed -/
theorem w_cell {f : LV → Env → Sto → Option (Option LV × Sto)} {k : Nat} {xs : List LV} {e : Env} {m : Sto} {Q : List LV × Sto → Prop} (hk : m[k]? = some (.lst xs)) (hl : xs.length ≤ LINE) (κ : LV → Option LV) (h : ∀ x ∈ xs, wO (f x e m) fun r => r = (κ x, m)) (q : Q (xs.filterMap κ, m)) : wO (compOver f (.cell k) e m) Q := by
  refine .of (x := (xs.filterMap κ, m)) ?_ q
  have := compCell_eq hk (fun x hx => (h x hx).get) xs.length (Nat.le_refl _)
  rw [Nat.sub_self, List.drop_zero] at this
  unfold compOver
  simp only [cellLen, hk]
  rw [if_pos hl, this]
theorem w_cellS {α : Type} {g : α → LV} {l : List α} (p : α → Bool) (κ : α → LV) {f : LV → Env → Sto → Option (Option LV × Sto)} {k : Nat} {e : Env} {m : Sto} {Q : List LV × Sto → Prop} (hk : m[k]? = some (.lst (l.map g))) (hl : l.length ≤ LINE) (h : ∀ x ∈ l, wO (f (g x) e m) fun r => r = (if p x then some (κ x) else none, m)) (q : Q ((l.filter p).map κ, m)) : wO (compOver f (.cell k) e m) Q := by
  have H : ∀ l : List α, (∀ x ∈ l, wO (f (g x) e m) fun r => r = (if p x then some (κ x) else none, m)) → ∀ j, j ≤ l.length → True := fun _ _ _ _ => trivial
  refine .of (x := ((l.filter p).map κ, m)) ?_ q
  have key : ∀ j, j ≤ l.length → compCell f k l.length j e m = some (((l.drop (l.length - j)).filter p).map κ, m) := by
    intro j
    induction j with
    | zero => intro _; simp [compCell, hk]
    | succ j ih =>
      intro hj
      have hi : l.length - (j + 1) < l.length := by omega
      have g1 : (l.map g)[l.length - (j + 1)]? = some (g l[l.length - (j + 1)]) := by rw [List.getElem?_map, List.getElem?_eq_getElem hi]; rfl
      have e1 : l.drop (l.length - (j + 1)) = l[l.length - (j + 1)] :: l.drop (l.length - j) := by
        rw [List.drop_eq_getElem_cons hi]; congr 2; omega
      have hx := (h _ (List.getElem_mem hi)).get
      unfold compCell
      rw [hk]
      simp only [List.length_map, if_pos]
      rw [g1]
      simp only []
      rw [hx, e1, List.filter_cons]
      by_cases hp : p l[l.length - (j + 1)] = true
      · rw [if_pos hp, if_pos hp]
        simp only [ih (by omega), Option.map_some, List.map_cons]
      · rw [if_neg hp, if_neg hp]
        simp only [ih (by omega)]
  have := key l.length (Nat.le_refl _)
  rw [Nat.sub_self, List.drop_zero] at this
  unfold compOver
  simp only [cellLen, hk, List.length_map]
  rw [if_pos hl, this]
end Gg

end
section
/-! GNice: data that equal themselves and can be shown; ranges. -/
namespace Gg
open PySem

mutual
theorem eqv_self : ∀ (n : Nat) (x : PyData), plainD n x = true → PyData.eqv x x = true
  | 0, _, h => by cases h
  | n + 1, .none, _ => by simp [PyData.eqv]
  | n + 1, .bool _, _ => by simp [PyData.eqv]
  | n + 1, .int _, _ => by simp [PyData.eqv]
  | n + 1, .str _, _ => by simp [PyData.eqv]
  | n + 1, .list xs, h => by
    have h : xs.all (plainD n) = true := h
    rw [List.all_eq_true] at h
    simp only [PyData.eqv]
    exact eqvAll_self n xs h
  | n + 1, .tuple xs, h => by
    have h : xs.all (plainD n) = true := h
    rw [List.all_eq_true] at h
    simp only [PyData.eqv]
    exact eqvAll_self n xs h
  | n + 1, .dict _, h => by cases h
theorem eqvAll_self : ∀ (n : Nat) (xs : List PyData), (∀ x ∈ xs, plainD n x = true) → PyData.eqvAll xs xs = true
  | _, [], _ => by simp [PyData.eqvAll]
  | n, x :: xs, h => by
    simp only [PyData.eqvAll, Bool.and_eq_true]
    exact ⟨eqv_self n x (h x List.mem_cons_self), eqvAll_self n xs fun y hy => h y (List.mem_cons_of_mem _ hy)⟩
end
theorem plain_mono : ∀ (n : Nat) (x : PyData) (k : Nat), n ≤ k → plainD n x = true → plainD k x = true
  | 0, _, _, _, h => by cases h
  | n + 1, x, 0, hk, _ => by omega
  | n + 1, x, k + 1, hk, h => by
    cases x with
    | list xs =>
      have h : xs.all (plainD n) = true := h
      show xs.all (plainD k) = true
      rw [List.all_eq_true] at h ⊢
      exact fun x hx => plain_mono n x k (by omega) (h x hx)
    | tuple xs =>
      have h : xs.all (plainD n) = true := h
      show xs.all (plainD k) = true
      rw [List.all_eq_true] at h ⊢
      exact fun x hx => plain_mono n x k (by omega) (h x hx)
    | none => rfl
    | bool _ => rfl
    | int _ => rfl
    | str s => exact h
    | dict _ => cases h
/-- it can be compared and shown, in so few signs -/
structure Nice (n B : Nat) (x : PyData) : Prop where
  pl : plainD n x = true
  sh : PyData.showable x = true
  sz : szD n x ≤ B
theorem Nice.mono {n B C : Nat} {x : PyData} (h : Nice n B x) (hb : B ≤ C) : Nice n C x := ⟨h.pl, h.sh, Nat.le_trans h.sz hb⟩
theorem nice_int {n : Nat} {i : Int} (h : sm i) : Nice (n + 1) 1922 (.int i) := by
  refine ⟨rfl, ?_, Nat.le_refl _⟩
  rw [PyData.showable]
  unfold sm at h
  have := log2_lt_of (n := i.natAbs) (k := 61) (by omega)
  exact decide_eq_true (by omega)
theorem nice_none {n : Nat} : Nice (n + 1) 1922 .none := ⟨rfl, by rw [PyData.showable], by show 5 ≤ 1922; decide⟩
theorem nice_bool {n : Nat} {b : Bool} : Nice (n + 1) 1922 (.bool b) := ⟨rfl, by rw [PyData.showable], by show 5 ≤ 1922; decide⟩
theorem nice_str {n : Nat} {s : Str} (h : PyData.strOk s = true) (h2 : (reprText s).length ≤ 1922) (h3 : PyData.showable (.str s) = true) : Nice (n + 1) 1922 (.str s) := ⟨h, h3, h2⟩
theorem sum_bound {l : List PyData} {f : PyData → Nat} {B : Nat} (h : ∀ x ∈ l, f x ≤ B) : (l.map fun x => f x + 2).sum ≤ l.length * (B + 2) := by
  induction l with
  | nil => simp
  | cons x l ih =>
    rw [List.map_cons, List.sum_cons, List.length_cons, Nat.add_mul]
    have := h x List.mem_cons_self
    have := ih fun y hy => h y (List.mem_cons_of_mem _ hy)
    omega
theorem nice_tup {n B N : Nat} {xs : List PyData} (h : ∀ x ∈ xs, Nice n B x) (hN : xs.length ≤ N) : Nice (n + 1) (N * (B + 2) + 4) (.tuple xs) := by
  refine ⟨?_, ?_, ?_⟩
  · show xs.all (plainD n) = true
    rw [List.all_eq_true]; exact fun x hx => (h x hx).pl
  · rw [PyData.showable, showAll_eq, List.all_eq_true]; exact fun x hx => (h x hx).sh
  · show (xs.map fun x => szD n x + 2).sum + 4 ≤ _
    have := sum_bound (f := szD n) fun x hx => (h x hx).sz
    have := Nat.mul_le_mul_right (B + 2) hN
    omega
theorem nice_list {n B N : Nat} {xs : List PyData} (h : ∀ x ∈ xs, Nice n B x) (hN : xs.length ≤ N) : Nice (n + 1) (N * (B + 2) + 4) (.list xs) := by
  refine ⟨?_, ?_, ?_⟩
  · show xs.all (plainD n) = true
    rw [List.all_eq_true]; exact fun x hx => (h x hx).pl
  · rw [PyData.showable, showAll_eq, List.all_eq_true]; exact fun x hx => (h x hx).sh
  · show (xs.map fun x => szD n x + 2).sum + 4 ≤ _
    have := sum_bound (f := szD n) fun x hx => (h x hx).sz
    have := Nat.mul_le_mul_right (B + 2) hN
    omega
theorem nice_ints {n N : Nat} {l : List Int} (h : ∀ i ∈ l, sm i) (hN : l.length ≤ N) : Nice (n + 2) (N * 1924 + 4) (.tuple (l.map .int)) := by
  refine nice_tup (B := 1922) (fun x hx => ?_) (by rw [List.length_map]; exact hN)
  obtain ⟨i, hi, rfl⟩ := List.mem_map.mp hx
  exact nice_int (h i hi)
theorem eqD_self {n B : Nat} {x : PyData} (h : Nice n B x) (hn : n ≤ DEEP) : eqD x x = some (.bool true) := by
  have hp := plain_mono n x DEEP hn h.pl
  have hv := eqv_self _ _ hp
  have key : eqB x x = some true := by
    cases x with
    | str s => show some (decide (s = s)) = _; rw [decide_eq_true rfl]
    | _ =>
      unfold eqB strsB
      simp only []
      rw [hp, hv]; rfl
  unfold eqD
  rw [key]; rfl
theorem neD_self {n B : Nat} {x : PyData} (h : Nice n B x) (hn : n ≤ DEEP) : neD x x = some (.bool false) := by
  have := eqD_self h hn
  unfold eqD at this
  unfold neD
  cases q : eqB x x with
  | none => rw [q] at this; cases this
  | some b => rw [q] at this; cases this; rfl
theorem show_nice {n B : Nat} {x : PyData} (h : Nice n B x) (hn : n ≤ DEEP) (hB : B ≤ 16000000) : showOk x = true := by
  have hp := plain_mono n x DEEP hn h.pl
  have hs := shown_le n x h.pl h.sh
  unfold showOk
  rw [hp, h.sh]
  simp only [Bool.and_self, Bool.true_and, decide_eq_true_eq]
  exact Nat.le_trans hs (Nat.le_trans h.sz hB)
/-! ### ranges -/
theorem upTo_0 {n : Nat} : upTo 0 n = (List.range n).map fun i => LV.d (.int ((i : Nat) : Int)) := by
  unfold upTo
  refine List.map_congr_left fun i _ => ?_
  rw [Int.zero_add]
@[simp] theorem allD_upTo {n : Nat} : allD (upTo 0 n) = some ((List.range n).map fun i => .int ((i : Nat) : Int)) := by rw [upTo_0]; exact allD_of _
section
variable {f : LV → Env → Sto → Option (Option LV × Sto)} {e : Env} {m : Sto} {Q : List LV × Sto → Prop} {n : Nat}
theorem w_rangeS (p : Nat → Bool) (k : Nat → PyData) (h : ∀ i, i < n → wO (f (.d (.int ((i : Nat) : Int))) e m) fun r => r = (if p i then some (.d (k i)) else none, m)) (q : Q ((((List.range n).filter p).map k).map .d, m)) : wO (compItems f (upTo 0 n) e m) Q := by
  rw [upTo_0]
  exact w_some (g := fun i : Nat => LV.d (.int ((i : Nat) : Int))) p k (fun i hi => h i (List.mem_range.mp hi)) q
theorem w_rangeE (k : Nat → PyData) (h : ∀ i, i < n → wO (f (.d (.int ((i : Nat) : Int))) e m) fun r => r = (some (.d (k i)), m)) (q : Q (((List.range n).map k).map .d, m)) : wO (compItems f (upTo 0 n) e m) Q := by
  rw [upTo_0]
  exact w_each (g := fun i : Nat => LV.d (.int ((i : Nat) : Int))) k (fun i hi => h i (List.mem_range.mp hi)) q
/-- none passes -/
theorem w_range0 (h : ∀ i, i < n → wO (f (.d (.int ((i : Nat) : Int))) e m) fun r => r = (none, m)) (q : Q ([], m)) : wO (compItems f (upTo 0 n) e m) Q := by
  refine w_rangeS (fun _ => false) (fun _ => .none) (fun i hi => (h i hi).mono fun r e => ?_) ?_
  · rw [e]; rfl
  · have : (List.range n).filter (fun _ => false) = [] := by simp
    rw [this]; exact q
end
/-- a number of a list -/
def vl (l : List Int) (i : Nat) : Int := l.getD i 0
theorem get_vl {l : List Int} {i : Nat} (h : i < l.length) : l[i]? = some (vl l i) := by
  unfold vl
  rw [List.getD_eq_getElem?_getD, List.getElem?_eq_getElem h]; rfl
theorem vl_get {l : List Int} {i : Nat} (h : i < l.length) : vl l i = l[i] := by
  have := get_vl h
  rw [List.getElem?_eq_getElem h] at this
  exact (Option.some.inj this).symm
theorem vl_mem {l : List Int} {i : Nat} (h : i < l.length) : vl l i ∈ l := by rw [vl_get h]; exact List.getElem_mem h
theorem enum_map {α : Type} {f : α → PyData} (l : List α) : enumFrom 0 (l.map f) = (List.range l.length).map fun i => match l[i]? with
    | some x => pairD i (f x)
    | none => .d .none := by
  have H : ∀ (l : List α) (k : Nat), enumFrom k (l.map f) = (List.range l.length).map fun i => match l[i]? with
    | some x => pairD (k + i) (f x)
    | none => .d .none := by
    intro l
    induction l with
    | nil => intro k; rfl
    | cons x l ih =>
      intro k
      rw [List.map_cons, List.length_cons, List.range_succ_eq_map, List.map_cons, List.map_map]
      show pairD k (f x) :: enumFrom (k + 1) (l.map f) = _
      rw [ih (k + 1)]
      congr 1
      refine List.map_congr_left fun i _ => ?_
      simp only [Function.comp, Nat.succ_eq_add_one, List.getElem?_cons_succ]
      rw [show k + 1 + i = k + (i + 1) by omega]
  rw [H l 0]
  refine List.map_congr_left fun i _ => ?_
  rw [Nat.zero_add]
theorem enum_get {α : Type} {f : α → PyData} {l : List α} {i : Nat} {x : LV} (h : (enumFrom 0 (l.map f))[i]? = some x) : ∃ a, l[i]? = some a ∧ x = pairD i (f a) := by
  rw [enum_map, List.getElem?_map] at h
  by_cases hi : i < l.length
  · rw [List.getElem?_range hi] at h
    simp only [Option.map_some, List.getElem?_eq_getElem hi] at h
    exact ⟨_, List.getElem?_eq_getElem hi, (Option.some.inj h).symm⟩
  · rw [List.getElem?_eq_none (by simpa using hi)] at h; cases h
@[simp] theorem enum_len {α : Type} {f : α → PyData} {l : List α} : (enumFrom 0 (l.map f)).length = l.length := by rw [enum_map]; simp
/-! ### order -/
theorem ltD_of {x y : PyData} (h : ordB x y = true) (hx : ∀ i, x ≠ .int i) : ltD x y = some (.bool (PySem.W.dataLt x y)) := by
  unfold ltD cmpI
  split
  · exact absurd rfl (hx _)
  · rw [if_pos h]
end Gg
namespace Gg
open PySem
@[simp] theorem bMax_2 {a b : Int} : bMax [.list [.int a, .int b]] = some (.int (max a b)) := bMax_iii (a := a) (r := [b])
@[simp] theorem bMin_2 {a b : Int} : bMin [.list [.int a, .int b]] = some (.int (min a b)) := bMin_iii (a := a) (r := [b])
theorem fb_one {m : Sto} {c : List PyData} (h : m[0]? = some (.lst (c.map .d))) : flatBack 1 m = some [c] := by
  cases m with
  | nil => simp at h
  | cons x r =>
    simp at h
    subst h
    simp
/-- some numbers of a range, drawn -/
theorem w_pick {f : LV → Env → Sto → Option (Option LV × Sto)} {e : Env} {m : Sto} {n : Nat} {Q : List LV × Sto → Prop} (I : Nat → Sto → Prop) (h0 : I 0 m)
    (step : ∀ (j : Nat) (m : Sto), j < n → I j m → wO (f (.d (.int ((j : Nat) : Int))) e m) fun r => (r.1 = none ∨ r.1 = some (.d (.int ((j : Nat) : Int)))) ∧ I (j + 1) r.2)
    (fin : ∀ (r : List Nat) (m' : Sto), r.Pairwise (· < ·) → (∀ i ∈ r, i < n) → I n m' → Q (r.map fun i => .d (.int ((i : Nat) : Int)), m')) : wO (compItems f (upTo 0 n) e m) Q := by
  have key : ∀ (k i : Nat) (m : Sto), k + i = n → I i m → ∃ (r : List Nat) (m' : Sto), compItems f ((List.range' i k).map fun i => LV.d (.int ((i : Nat) : Int))) e m = some (r.map fun i => .d (.int ((i : Nat) : Int)), m') ∧ r.Pairwise (· < ·) ∧ (∀ j ∈ r, i ≤ j ∧ j < n) ∧ I n m' := by
    intro k
    induction k with
    | zero =>
      intro i m h hI
      have : i = n := by omega
      subst this
      exact ⟨[], m, rfl, .nil, (fun _ h => by cases h), hI⟩
    | succ k ih =>
      intro i m h hI
      obtain ⟨⟨o, m1⟩, hf, ho, hI1⟩ := step i m (by omega) hI
      obtain ⟨r, m', h1, h2, h3, h4⟩ := ih (i + 1) m1 (by omega) hI1
      rcases ho with rfl | rfl
      · refine ⟨r, m', ?_, h2, fun j hj => ⟨by have := (h3 j hj).1; omega, (h3 j hj).2⟩, h4⟩
        rw [List.range'_succ, List.map_cons]
        unfold compItems
        rw [hf]
        exact h1
      · refine ⟨i :: r, m', ?_, List.pairwise_cons.mpr ⟨fun j hj => by have := (h3 j hj).1; omega, h2⟩, fun j hj => ?_, h4⟩
        · rw [List.range'_succ, List.map_cons]
          unfold compItems
          rw [hf]
          simp only []
          rw [h1]; rfl
        · rcases List.mem_cons.mp hj with rfl | hj
          · omega
          · have := h3 j hj; omega
  obtain ⟨r, m', h1, h2, h3, h4⟩ := key n 0 m (by omega) h0
  rw [upTo_0, List.range_eq_range']
  exact .of h1 (fin r m' h2 (fun i hi => (h3 i hi).2) h4)
end Gg
namespace Gg
open PySem
theorem bMax_m {i j : Int} : bMax [.int i, .int j] = some (.int (max i j)) := by
  rw [bMax_ii]; congr 2; split <;> omega
theorem bMin_m {i j : Int} : bMin [.int i, .int j] = some (.int (min i j)) := by
  rw [bMin_ii]; congr 2; split <;> omega
theorem bMax_f {α : Type} {a : Int} {L : List α} {f : α → Int} : bMax [.list (.int a :: L.map fun o => .int (f o))] = some (.int (maxI a (L.map f))) := by
  have : L.map (fun o => PyData.int (f o)) = (L.map f).map .int := by rw [List.map_map]; rfl
  rw [this]; exact bMax_iii
theorem w_enumS {α : Type} {g : α → PyData} {l : List α} {f : LV → Env → Sto → Option (Option LV × Sto)} {e : Env} {m : Sto} {Q : List LV × Sto → Prop} (p : Nat → Bool) (k : Nat → PyData)
    (h : ∀ i a, l[i]? = some a → wO (f (pairD i (g a)) e m) fun r => r = (if p i then some (.d (k i)) else none, m)) (q : Q ((((List.range l.length).filter p).map k).map .d, m)) : wO (compItems f (enumFrom 0 (l.map g)) e m) Q := by
  rw [enum_map]
  refine w_some (l := List.range l.length) p k (fun i hi => ?_) q
  have hi := List.mem_range.mp hi
  have := h i _ (List.getElem?_eq_getElem hi)
  simp only [List.getElem?_eq_getElem hi]
  exact this
theorem zip_map {α β : Type} {f : α → PyData} {g : β → PyData} : ∀ (l : List α) (s : List β), zipD (l.map f) (s.map g) = (l.zip s).map fun q => LV.d (.tuple [f q.1, g q.2])
  | [], _ => rfl
  | _ :: _, [] => rfl
  | x :: l, y :: s => by
    rw [List.map_cons, List.map_cons, List.zip_cons_cons, List.map_cons, ← zip_map l s]; rfl
end Gg

end
section
/-! GOrd: the order of data. -/
namespace Gg
open PySem

abbrev dl (a b : PyData) : Bool := PySem.W.dataLt a b
theorem dl_irrefl (a : PyData) : dl a a = false := PyProof.Rows.lex_irrefl _
theorem dl_trans {a b c : PyData} (h : dl a b = true) (h2 : dl b c = true) : dl a c = true := PyProof.Rows.lex_trans _ _ _ h h2
theorem dl_neg {a b c : PyData} (h : dl b a = false) (h2 : dl c b = false) : dl c a = false := by
  cases q : dl c a with
  | false => rfl
  | true =>
    rcases PyProof.Rows.lex_negTrans _ (PySem.W.keyToks b) _ q with z | z
    · exact absurd (z.symm.trans h2) (by simp)
    · exact absurd (z.symm.trans h) (by simp)
theorem dl_asym {a b : PyData} (h : dl a b = true) : dl b a = false := by
  cases q : dl b a with
  | false => rfl
  | true => rw [dl_irrefl a |>.symm.trans (dl_trans h q)] at *
theorem minD_spec : ∀ (xs : List PyData) (x : PyData), PySem.W.minD x xs ∈ x :: xs ∧ ∀ y ∈ x :: xs, dl y (PySem.W.minD x xs) = false
  | [], x => ⟨List.mem_cons_self, fun y hy => by rw [List.mem_singleton.mp hy]; exact dl_irrefl x⟩
  | z :: xs, x => by
    have e : PySem.W.minD x (z :: xs) = PySem.W.minD (if PySem.W.dataLt z x then z else x) xs := rfl
    rw [e]
    by_cases h : PySem.W.dataLt z x = true
    · rw [if_pos h]
      obtain ⟨h1, h2⟩ := minD_spec xs z
      refine ⟨List.mem_cons_of_mem _ h1, fun y hy => ?_⟩
      rcases List.mem_cons.mp hy with rfl | hy
      · have := h2 z List.mem_cons_self
        exact dl_neg this (dl_asym h)
      · exact h2 y hy
    · rw [if_neg h]
      obtain ⟨h1, h2⟩ := minD_spec xs x
      refine ⟨?_, fun y hy => ?_⟩
      · rcases List.mem_cons.mp h1 with e | h1
        · rw [e]; exact List.mem_cons_self
        · exact List.mem_cons_of_mem _ (List.mem_cons_of_mem _ h1)
      · rcases List.mem_cons.mp hy with rfl | hy
        · exact h2 _ List.mem_cons_self
        · rcases List.mem_cons.mp hy with rfl | hy
          · exact dl_neg (h2 x List.mem_cons_self) (Bool.eq_false_iff.mpr h)
          · exact h2 y (List.mem_cons_of_mem _ hy)
theorem maxD_spec : ∀ (xs : List PyData) (x : PyData), PySem.W.maxD x xs ∈ x :: xs ∧ ∀ y ∈ x :: xs, dl (PySem.W.maxD x xs) y = false
  | [], x => ⟨List.mem_cons_self, fun y hy => by rw [List.mem_singleton.mp hy]; exact dl_irrefl x⟩
  | z :: xs, x => by
    have e : PySem.W.maxD x (z :: xs) = PySem.W.maxD (if PySem.W.dataLt x z then z else x) xs := rfl
    rw [e]
    by_cases h : PySem.W.dataLt x z = true
    · rw [if_pos h]
      obtain ⟨h1, h2⟩ := maxD_spec xs z
      refine ⟨List.mem_cons_of_mem _ h1, fun y hy => ?_⟩
      rcases List.mem_cons.mp hy with rfl | hy
      · exact dl_neg (dl_asym h) (h2 z List.mem_cons_self)
      · exact h2 y hy
    · rw [if_neg h]
      obtain ⟨h1, h2⟩ := maxD_spec xs x
      refine ⟨?_, fun y hy => ?_⟩
      · rcases List.mem_cons.mp h1 with e | h1
        · rw [e]; exact List.mem_cons_self
        · exact List.mem_cons_of_mem _ (List.mem_cons_of_mem _ h1)
      · rcases List.mem_cons.mp hy with rfl | hy
        · exact h2 _ List.mem_cons_self
        · rcases List.mem_cons.mp hy with rfl | hy
          · exact dl_neg (Bool.eq_false_iff.mpr h) (h2 x List.mem_cons_self)
          · exact h2 y (List.mem_cons_of_mem _ hy)
/-- sorted -/
abbrev srt (xs : List PyData) : List PyData := xs.mergeSort fun a b => !PySem.W.dataLt b a
theorem srt_pw (xs : List PyData) : (srt xs).Pairwise fun a b => dl b a = false := by
  have h := List.pairwise_mergeSort (le := fun a b => !PySem.W.dataLt b a) (fun a b c h1 h2 => by
    rw [Bool.not_eq_true'] at h1 h2 ⊢
    exact dl_neg h1 h2) (fun a b => by
    rw [Bool.or_eq_true, Bool.not_eq_true', Bool.not_eq_true']
    cases q : PySem.W.dataLt b a with
    | false => exact .inl rfl
    | true => exact .inr (dl_asym q)) xs
  exact h.imp fun {a b} h => by rw [Bool.not_eq_true'] at h; exact h
theorem srt_perm (xs : List PyData) : (srt xs).Perm xs := List.mergeSort_perm _ _
theorem srt_head {xs : List PyData} (h : xs ≠ []) : ∃ x r, srt xs = x :: r ∧ x ∈ xs ∧ ∀ y ∈ xs, dl y x = false := by
  have hp := srt_perm xs
  have hs := srt_pw xs
  cases q : srt xs with
  | nil => rw [q] at hp; exact absurd hp.nil_eq.symm h
  | cons x r =>
    rw [q] at hp hs
    refine ⟨x, r, rfl, hp.mem_iff.mp List.mem_cons_self, fun y hy => ?_⟩
    rcases List.mem_cons.mp (hp.mem_iff.mpr hy) with rfl | hy
    · exact dl_irrefl _
    · exact (List.pairwise_cons.mp hs).1 y hy
/-- there is just one such list -/
theorem srt_uniq {xs ys : List PyData} (hp : ys.Perm xs) (hs : ys.Pairwise fun a b => dl b a = false) (hi : ∀ a ∈ xs, ∀ b ∈ xs, dl a b = false → dl b a = false → a = b) : srt xs = ys := by
  have h1 := srt_pw xs
  have h2 := (srt_perm xs).trans hp.symm
  have hm : ∀ a ∈ srt xs, a ∈ xs := fun a ha => (srt_perm xs).mem_iff.mp ha
  refine h2.eq_of_pairwise (le := fun a b => dl b a = false) (fun a b ha hb g1 g2 => hi a (hm a ha) b (hp.mem_iff.mp hb) g2 g1) h1 hs
theorem minL_of {x : PyData} {xs : List PyData} (h : alikeL (x :: xs) = true) : minL (x :: xs) = some (PySem.W.minD x xs) := if_pos h
theorem maxL_of {x : PyData} {xs : List PyData} (h : alikeL (x :: xs) = true) : maxL (x :: xs) = some (PySem.W.maxD x xs) := if_pos h
theorem sortL_of {xs : List PyData} (h : alikeL xs = true) (h2 : (xs.all tupB || xs.all noTup) = true) : sortL xs = some (.list (srt xs)) := by
  unfold sortL
  rw [h, h2]; rfl
theorem alikeL_of {α : Type} {f : α → PyData} {l : List α} (h1 : ∀ a ∈ l, ∀ b ∈ l, PySem.W.alike (f a) (f b) = true) (h2 : ∀ a ∈ l, isNoneB (f a) = false) (h3 : ∀ a ∈ l, plainD DEEP (f a) = true) : alikeL (l.map f) = true := by
  unfold alikeL
  rw [Bool.and_eq_true, Bool.and_eq_true, List.all_eq_true, List.all_eq_true, List.all_eq_true]
  refine ⟨⟨fun x hx => ?_, fun x hx => ?_⟩, fun x hx => ?_⟩
  · obtain ⟨a, ha, rfl⟩ := List.mem_map.mp hx
    rw [List.all_eq_true]
    intro y hy
    obtain ⟨b, hb, rfl⟩ := List.mem_map.mp hy
    exact h1 a ha b hb
  · obtain ⟨a, ha, rfl⟩ := List.mem_map.mp hx
    rw [h2 a ha]; rfl
  · obtain ⟨a, ha, rfl⟩ := List.mem_map.mp hx
    exact h3 a ha
theorem bMin_data {x : PyData} {xs : List PyData} (hn : ∀ i, x ≠ .int i) (h : alikeL (x :: xs) = true) : bMin [.list (x :: xs)] = some (PySem.W.minD x xs) := by
  show (match intsOf (x :: xs) with
    | some (a :: r) => some (PyData.int (minI a r))
    | _ => minL (x :: xs)) = _
  have : intsOf (x :: xs) = none := by cases x <;> first | rfl | exact absurd rfl (hn _)
  rw [this]; exact minL_of h
theorem bMax_data {x : PyData} {xs : List PyData} (hn : ∀ i, x ≠ .int i) (h : alikeL (x :: xs) = true) : bMax [.list (x :: xs)] = some (PySem.W.maxD x xs) := by
  show (match intsOf (x :: xs) with
    | some (a :: r) => some (PyData.int (maxI a r))
    | _ => maxL (x :: xs)) = _
  have : intsOf (x :: xs) = none := by cases x <;> first | rfl | exact absurd rfl (hn _)
  rw [this]; exact maxL_of h
theorem bSorted_data {x : PyData} {xs : List PyData} (hn : ∀ i, x ≠ .int i) (h : alikeL (x :: xs) = true) (h2 : ((x :: xs).all tupB || (x :: xs).all noTup) = true) : bSorted [.list (x :: xs)] = some (.list (srt (x :: xs))) := by
  show (match intsOf (x :: xs) with
    | some ns => some (PyData.list ((sortI ns).map .int))
    | none => sortL (x :: xs)) = _
  have : intsOf (x :: xs) = none := by cases x <;> first | rfl | exact absurd rfl (hn _)
  rw [this]; exact sortL_of h h2
theorem maxI_spec' : ∀ (r : List Int) (a : Int), (maxI a r = a ∨ maxI a r ∈ r) ∧ a ≤ maxI a r ∧ ∀ x ∈ r, x ≤ maxI a r
  | [], a => ⟨.inl rfl, Int.le_refl _, fun _ h => by cases h⟩
  | b :: r, a => by
    have h := maxI_spec' r (max a b)
    show (maxI (max a b) r = a ∨ maxI (max a b) r ∈ b :: r) ∧ a ≤ maxI (max a b) r ∧ _
    refine ⟨?_, by omega, fun x hx => ?_⟩
    · rcases h.1 with h1 | h1
      · rw [h1]
        rcases Int.le_total a b with q | q
        · rw [Int.max_eq_right q]; exact .inr List.mem_cons_self
        · rw [Int.max_eq_left q]; exact .inl rfl
      · exact .inr (List.mem_cons_of_mem _ h1)
    · rcases List.mem_cons.mp hx with rfl | hx
      · show x ≤ maxI (max a x) r
        omega
      · exact h.2.2 x hx
end Gg

end
section
/-! K72: the defs of the law's text, compiled. -/
namespace K72
open PySem PySem.Spec PyProof.Rows L2 Gg
def top (i : Nat) : Stmt := PySem.Challenge.pw_doneorundone_k72_whole_writes_and_waits.main.body.getD i (.Pass ⟨0, 0, 0, 0⟩)
def glb : List (Str × PyData) := [("MAX_SIZE", (.int 1000000000000)), ("MAX_ROWS", (.int 60)), ("WORDS", (.tuple [(.str "take"), (.str "keep"), (.str "free")]))]
/-! ### is_integer -/
noncomputable def B_is_integer : SM :=
  sRet (eAnd (eIsi "int" (eVar 0)) (eNot (eIsi "bool" (eVar 0))))
noncomputable def F_is_integer : Fn := sealF (mkFn 1 1 B_is_integer)
def N_is_integer : List Str := ["value"]
noncomputable def T_is_integer : List (Str × Fn) := []
theorem c_is_integer : compSs 100 (fnCc N_is_integer (defScope (top 7)) T_is_integer glb [] 0) (defBody (top 7)) = some B_is_integer := by kernel_rfl
/-! ### is_between -/
noncomputable def B_is_between : SM :=
  sRet (eAnd (eCall F_is_integer [eVar 0]) (eChain leD leD (eVar 1) (eVar 0) (eVar 2)))
noncomputable def F_is_between : Fn := sealF (mkFn 3 3 B_is_between)
def N_is_between : List Str := ["value", "low", "high"]
noncomputable def T_is_between : List (Str × Fn) := [("is_integer", F_is_integer)]
theorem c_is_between : compSs 100 (fnCc N_is_between (defScope (top 8)) T_is_between glb [] 0) (defBody (top 8)) = some B_is_between := by kernel_rfl
/-! ### check_life -/
noncomputable def B_check_life : SM :=
  sIf (eNot (eCall F_is_between [eVar 0, eCon (.int 1), eCon (.int 1000000000000)])) sNever sPass
noncomputable def F_check_life : Fn := sealF (mkFn 1 1 B_check_life)
def N_check_life : List Str := ["life"]
noncomputable def T_check_life : List (Str × Fn) := [("is_between", F_is_between)]
theorem c_check_life : compSs 100 (fnCc N_check_life (defScope (top 11)) T_check_life glb [] 0) (defBody (top 11)) = some B_check_life := by kernel_rfl
/-! ### is_event -/
noncomputable def B_is_event : SM :=
  sSeq (sIf (eOr (eNot (eIsi "tuple" (eVar 0))) (eOr (eBin neD (eLen (eVar 0)) (eCon (.int 3))) (eOr (eNot (eIsi "str" (eIx (eVar 0) (eCon (.int 1))))) (eBin notInD (eIx (eVar 0) (eCon (.int 1))) (eCon (.tuple [(.str "take"), (.str "keep"), (.str "free")])))))) (sRet (eCon (.bool false))) sPass) (sRet (eAnd (eCall F_is_between [eIx (eVar 0) (eCon (.int 0)), eCon (.int 0), eCon (.int 1000000000000)]) (eCall F_is_between [eIx (eVar 0) (eCon (.int 2)), eCon (.int 0), eCon (.int 1000000000000)])))
noncomputable def F_is_event : Fn := sealF (mkFn 1 1 B_is_event)
def N_is_event : List Str := ["value"]
noncomputable def T_is_event : List (Str × Fn) := [("is_between", F_is_between)]
theorem c_is_event : compSs 100 (fnCc N_is_event (defScope (top 12)) T_is_event glb [] 0) (defBody (top 12)) = some B_is_event := by kernel_rfl
/-! ### check_events -/
noncomputable def e1_check_events : EM :=
  eCall F_is_event [eVar 2]
noncomputable def e2_check_events : EM :=
  eCon (.int 1)
noncomputable def t1_check_events : EM :=
  eBin gtD (eIx (eIx (eVar 1) (eVar 3)) (eCon (.int 0))) (eIx (eIx (eVar 1) (eBin addD (eVar 3) (eCon (.int 1)))) (eCon (.int 0)))
noncomputable def B_check_events : SM :=
  sSeq (sDrop (eCall F_check_life [eVar 0])) (sSeq (sIf (eOr (eNot (eIsi "tuple" (eVar 1))) (eOr (eBin gtD (eLen (eVar 1)) (eCon (.int 60))) (eNot (eBi bAll [eLst (lComp e1_check_events (tName 2) (iSeq (eVar 1)) [] [2])])))) sNever sPass) (sIf (eLst (lComp e2_check_events (tName 3) (iRange [eBin subD (eLen (eVar 1)) (eCon (.int 1))]) [t1_check_events] [3])) sNever sPass))
noncomputable def F_check_events : Fn := sealF (mkFn 2 4 B_check_events)
def N_check_events : List Str := ["life", "events", "own", "at"]
noncomputable def T_check_events : List (Str × Fn) := [("check_life", F_check_life), ("is_event", F_is_event)]
theorem c_check_events : compSs 100 (fnCc N_check_events (defScope (top 13)) T_check_events glb [] 0) (defBody (top 13)) = some B_check_events := by kernel_rfl
/-! ### followed -/
noncomputable def b1_followed : SM :=
  sSeq (sAsg (tName 7) (eAnd (eBin gtD (eLen (eVar 2)) (eCon (.int 0))) (eBin ltD (eVar 4) (eIx (eIx (eVar 2) (eUn negD (eCon (.int 1)))) (eCon (.int 2)))))) (sSeq (sIf (eBin eqD (eVar 5) (eCon (.str "take"))) (sSeq (sIf (eVar 7) (sRet (eTup [eFrz 2, eVar 3, eCon (.str "held")])) sPass) (sSeq (sApp (eVar 2) (eNew (lDisp [eVar 6, eVar 4, eBin addD (eVar 4) (eVar 0)]))) sCnt)) sPass) (sSeq (sIf (eNot (eVar 7)) (sRet (eTup [eFrz 2, eVar 3, eCon (.str "over")])) sPass) (sSeq (sIf (eBin neD (eIx (eIx (eVar 2) (eUn negD (eCon (.int 1)))) (eCon (.int 0))) (eVar 6)) (sRet (eTup [eFrz 2, eVar 3, eCon (.str "holder")])) sPass) (sAsg (tSub (eIx (eVar 2) (eUn negD (eCon (.int 1)))) (eCon (.int 2))) (eIte (eBin eqD (eVar 5) (eCon (.str "keep"))) (eBin addD (eVar 4) (eVar 0)) (eVar 4))))))
noncomputable def B_followed : SM :=
  sSeq (sAsg (tName 2) (eNew (lDisp []))) (sSeq (sFor (tTup [tName 3, tTup [tName 4, tName 5, tName 6]]) (iEnum (eVar 1)) b1_followed) (sRet (eTup [eFrz 2, eCon .none, eCon .none])))
noncomputable def F_followed : Fn := sealF (mkFn 2 8 B_followed)
def N_followed : List Str := ["life", "events", "spans", "at", "time", "word", "holder", "is_open"]
noncomputable def T_followed : List (Str × Fn) := []
theorem c_followed : compSs 100 (fnCc N_followed (defScope (top 14)) T_followed glb [("spans", 2)] 0) (defBody (top 14)) = some B_followed := by kernel_rfl
/-! ### judge_leases -/
noncomputable def e1_judge_leases : EM :=
  eBi bTuple [eVar 5]
noncomputable def B_judge_leases : SM :=
  sSeq (sDrop (eCall F_check_events [eVar 0, eVar 1])) (sSeq (sAsg (tTup [tName 2, tName 3, tName 4]) (eCall F_followed [eVar 0, eVar 1])) (sSeq (sIf (eIsN true (eVar 4)) (sRet (eTup [eCon (.str "wrong"), eVar 3, eVar 4])) sPass) (sRet (eTup [eCon (.str "fine"), eBi bTuple [eLst (lComp e1_judge_leases (tName 5) (iSeq (eVar 2)) [] [5])]]))))
noncomputable def F_judge_leases : Fn := sealF (mkFn 2 6 B_judge_leases)
def N_judge_leases : List Str := ["life", "events", "spans", "at", "word", "own"]
noncomputable def T_judge_leases : List (Str × Fn) := [("check_events", F_check_events), ("followed", F_followed)]
theorem c_judge_leases : compSs 100 (fnCc N_judge_leases (defScope (top 15)) T_judge_leases glb [] 0) (defBody (top 15)) = some B_judge_leases := by kernel_rfl
/-! ### holder_at -/
noncomputable def b1_holder_at : SM :=
  sIf (eChain leD ltD (eVar 8) (eVar 2) (eVar 9)) (sRet (eTup [eVar 6, eVar 7])) sPass
noncomputable def B_holder_at : SM :=
  sSeq (sDrop (eCall F_check_events [eVar 0, eVar 1])) (sSeq (sAsg (tTup [tName 3, tName 4, tName 5]) (eCall F_followed [eVar 0, eVar 1])) (sSeq (sIf (eIsN true (eVar 5)) sNever sPass) (sSeq (sIf (eNot (eCall F_is_between [eVar 2, eCon (.int 0), eBin mulD (eCon (.int 2)) (eCon (.int 1000000000000))])) sNever sPass) (sSeq (sFor (tTup [tName 6, tTup [tName 7, tName 8, tName 9]]) (iEnum (eVar 3)) b1_holder_at) (sRet (eCon .none))))))
noncomputable def F_holder_at : Fn := sealF (mkFn 3 10 B_holder_at)
def N_holder_at : List Str := ["life", "events", "time", "spans", "at", "word", "number", "holder", "begin", "end"]
noncomputable def T_holder_at : List (Str × Fn) := [("check_events", F_check_events), ("followed", F_followed), ("is_between", F_is_between)]
theorem c_holder_at : compSs 100 (fnCc N_holder_at (defScope (top 16)) T_holder_at glb [] 0) (defBody (top 16)) = some B_holder_at := by kernel_rfl
/-! ### check_numbers -/
noncomputable def e1_check_numbers : EM :=
  eCall F_is_between [eVar 1, eCon (.int 0), eCon (.int 1000000000000)]
noncomputable def B_check_numbers : SM :=
  sSeq (sIf (eOr (eNot (eIsi "tuple" (eVar 0))) (eBin gtD (eLen (eVar 0)) (eCon (.int 60)))) sNever sPass) (sIf (eNot (eBi bAll [eLst (lComp e1_check_numbers (tName 1) (iSeq (eVar 0)) [] [1])])) sNever sPass)
noncomputable def F_check_numbers : Fn := sealF (mkFn 1 2 B_check_numbers)
def N_check_numbers : List Str := ["numbers", "own"]
noncomputable def T_check_numbers : List (Str × Fn) := [("is_between", F_is_between)]
theorem c_check_numbers : compSs 100 (fnCc N_check_numbers (defScope (top 17)) T_check_numbers glb [] 0) (defBody (top 17)) = some B_check_numbers := by kernel_rfl
/-! ### taken_writes -/
noncomputable def b1_taken_writes : SM :=
  sIf (eBin geD (eVar 4) (eVar 2)) (sSeq (sApp (eVar 1) (eVar 3)) (sAsg (tName 2) (eVar 4))) sPass
noncomputable def B_taken_writes : SM :=
  sSeq (sDrop (eCall F_check_numbers [eVar 0])) (sSeq (sPar [tName 1, tName 2] [eNew (lDisp []), eUn negD (eCon (.int 1))]) (sSeq (sFor (tTup [tName 3, tName 4]) (iEnum (eVar 0)) b1_taken_writes) (sRet (eBi bTuple [eVar 1]))))
noncomputable def F_taken_writes : Fn := sealF (mkFn 1 5 B_taken_writes)
def N_taken_writes : List Str := ["numbers", "found", "most", "at", "own"]
noncomputable def T_taken_writes : List (Str × Fn) := [("check_numbers", F_check_numbers)]
theorem c_taken_writes : compSs 100 (fnCc N_taken_writes (defScope (top 18)) T_taken_writes glb [("found", 1)] 0) (defBody (top 18)) = some B_taken_writes := by kernel_rfl
/-! ### judge_writes -/
noncomputable def e1_judge_writes : EM :=
  eCall F_is_between [eVar 3, eCon (.int 0), eBin subD (eLen (eVar 0)) (eCon (.int 1))]
noncomputable def e2_judge_writes : EM :=
  eCon (.int 1)
noncomputable def t1_judge_writes : EM :=
  eBin geD (eIx (eVar 1) (eVar 2)) (eIx (eVar 1) (eBin addD (eVar 2) (eCon (.int 1))))
noncomputable def t2_judge_writes : EM :=
  eBin gtD (eIx (eVar 0) (eVar 5)) (eIx (eVar 0) (eVar 3))
noncomputable def b1_judge_writes : SM :=
  sSeq (sAsg (tName 4) (eLst (lComp (eVar 5) (tName 5) (iSeq (eSl (eVar 1) none (some (eVar 2)))) [t2_judge_writes] [5]))) (sIf (eVar 4) (sRet (eTup [eCon (.str "late"), eVar 3, eIx (eVar 4) (eCon (.int 0))])) sPass)
noncomputable def B_judge_writes : SM :=
  sSeq (sDrop (eCall F_check_numbers [eVar 0])) (sSeq (sIf (eOr (eNot (eIsi "tuple" (eVar 1))) (eNot (eBi bAll [eLst (lComp e1_judge_writes (tName 3) (iSeq (eVar 1)) [] [3])]))) sNever sPass) (sSeq (sIf (eLst (lComp e2_judge_writes (tName 2) (iRange [eBin subD (eLen (eVar 1)) (eCon (.int 1))]) [t1_judge_writes] [2])) sNever sPass) (sSeq (sFor (tTup [tName 2, tName 3]) (iEnum (eVar 1)) b1_judge_writes) (sRet (eTup [eCon (.str "in order")])))))
noncomputable def F_judge_writes : Fn := sealF (mkFn 2 6 B_judge_writes)
def N_judge_writes : List Str := ["numbers", "taken", "at", "own", "ahead", "other"]
noncomputable def T_judge_writes : List (Str × Fn) := [("check_numbers", F_check_numbers), ("is_between", F_is_between)]
theorem c_judge_writes : compSs 100 (fnCc N_judge_writes (defScope (top 19)) T_judge_writes glb [] 0) (defBody (top 19)) = some B_judge_writes := by kernel_rfl
/-! ### most_in_order -/
noncomputable def e1_most_in_order : EM :=
  eTup [eUn negD (eLen (eVar 4)), eVar 4]
noncomputable def t1_most_in_order : EM :=
  eBin geD (eIx (eVar 0) (eIx (eVar 4) (eCon (.int 0)))) (eIx (eVar 0) (eVar 2))
noncomputable def b1_most_in_order : SM :=
  sSeq (sAsg (tName 3) (eLst (lComp e1_most_in_order (tName 4) (iSeq (eVar 1)) [t1_most_in_order] [4]))) (sApp (eVar 1) (eBin addD (eTup [eVar 2]) (eIte (eVar 3) (eIx (eBi bMin [eVar 3]) (eCon (.int 1))) (eTup []))))
noncomputable def e2_most_in_order : EM :=
  eTup [eUn negD (eLen (eVar 4)), eVar 4]
noncomputable def B_most_in_order : SM :=
  sSeq (sDrop (eCall F_check_numbers [eVar 0])) (sSeq (sAsg (tName 1) (eNew (lDisp []))) (sSeq (sFor (tName 2) (iRange [eBin subD (eLen (eVar 0)) (eCon (.int 1)), eUn negD (eCon (.int 1)), eUn negD (eCon (.int 1))]) b1_most_in_order) (sRet (eIte (eVar 1) (eIx (eBi bMin [eLst (lComp e2_most_in_order (tName 4) (iSeq (eVar 1)) [] [4])]) (eCon (.int 1))) (eTup [])))))
noncomputable def F_most_in_order : Fn := sealF (mkFn 1 5 B_most_in_order)
def N_most_in_order : List Str := ["numbers", "rows", "at", "further", "row"]
noncomputable def T_most_in_order : List (Str × Fn) := [("check_numbers", F_check_numbers)]
theorem c_most_in_order : compSs 100 (fnCc N_most_in_order (defScope (top 20)) T_most_in_order glb [("rows", 1)] 0) (defBody (top 20)) = some B_most_in_order := by kernel_rfl
/-! ### is_ask -/
noncomputable def B_is_ask : SM :=
  sSeq (sIf (eOr (eNot (eIsi "tuple" (eVar 0))) (eOr (eBin neD (eLen (eVar 0)) (eCon (.int 3))) (eNot (eIsi "str" (eIx (eVar 0) (eCon (.int 2))))))) (sRet (eCon (.bool false))) sPass) (sRet (eAnd (eCall F_is_between [eIx (eVar 0) (eCon (.int 0)), eCon (.int 0), eCon (.int 1000000000000)]) (eAnd (eCall F_is_between [eIx (eVar 0) (eCon (.int 1)), eCon (.int 0), eCon (.int 1000000000000)]) (eBin inD (eIx (eVar 0) (eCon (.int 2))) (eTup [eCon (.str "frees"), eCon (.str "dies")])))))
noncomputable def F_is_ask : Fn := sealF (mkFn 1 1 B_is_ask)
def N_is_ask : List Str := ["value"]
noncomputable def T_is_ask : List (Str × Fn) := [("is_between", F_is_between)]
theorem c_is_ask : compSs 100 (fnCc N_is_ask (defScope (top 21)) T_is_ask glb [] 0) (defBody (top 21)) = some B_is_ask := by kernel_rfl
/-! ### check_asks -/
noncomputable def e1_check_asks : EM :=
  eCall F_is_ask [eVar 1]
noncomputable def e2_check_asks : EM :=
  eCon (.int 1)
noncomputable def t1_check_asks : EM :=
  eBin gtD (eIx (eIx (eVar 0) (eVar 2)) (eCon (.int 0))) (eIx (eIx (eVar 0) (eBin addD (eVar 2) (eCon (.int 1)))) (eCon (.int 0)))
noncomputable def B_check_asks : SM :=
  sSeq (sIf (eOr (eNot (eIsi "tuple" (eVar 0))) (eOr (eBin gtD (eLen (eVar 0)) (eCon (.int 60))) (eNot (eBi bAll [eLst (lComp e1_check_asks (tName 1) (iSeq (eVar 0)) [] [1])])))) sNever sPass) (sIf (eLst (lComp e2_check_asks (tName 2) (iRange [eBin subD (eLen (eVar 0)) (eCon (.int 1))]) [t1_check_asks] [2])) sNever sPass)
noncomputable def F_check_asks : Fn := sealF (mkFn 1 3 B_check_asks)
def N_check_asks : List Str := ["asks", "own", "at"]
noncomputable def T_check_asks : List (Str × Fn) := [("is_ask", F_is_ask)]
theorem c_check_asks : compSs 100 (fnCc N_check_asks (defScope (top 22)) T_check_asks glb [] 0) (defBody (top 22)) = some B_check_asks := by kernel_rfl
/-! ### spans_for -/
noncomputable def b1_spans_for : SM :=
  sSeq (sAsg (tName 7) (eBi bMax [eVar 4, eVar 3])) (sSeq (sAsg (tName 3) (eBin addD (eVar 7) (eIte (eBin eqD (eVar 6) (eCon (.str "frees"))) (eBi bMin [eVar 5, eVar 0]) (eVar 0)))) (sApp (eVar 2) (eTup [eVar 7, eVar 3])))
noncomputable def B_spans_for : SM :=
  sSeq (sPar [tName 2, tName 3] [eNew (lDisp []), eCon (.int 0)]) (sSeq (sFor (tTup [tName 4, tName 5, tName 6]) (iSeq (eVar 1)) b1_spans_for) (sRet (eFrz 2)))
noncomputable def F_spans_for : Fn := sealF (mkFn 2 8 B_spans_for)
def N_spans_for : List Str := ["life", "asks", "found", "free", "time", "need", "word", "begin"]
noncomputable def T_spans_for : List (Str × Fn) := []
theorem c_spans_for : compSs 100 (fnCc N_spans_for (defScope (top 23)) T_spans_for glb [("found", 1)] 0) (defBody (top 23)) = some B_spans_for := by kernel_rfl
/-! ### granted_spans -/
noncomputable def B_granted_spans : SM :=
  sSeq (sDrop (eCall F_check_life [eVar 0])) (sSeq (sDrop (eCall F_check_asks [eVar 1])) (sRet (eBi bTuple [eCall F_spans_for [eVar 0, eVar 1]])))
noncomputable def F_granted_spans : Fn := sealF (mkFn 2 2 B_granted_spans)
def N_granted_spans : List Str := ["life", "asks"]
noncomputable def T_granted_spans : List (Str × Fn) := [("check_life", F_check_life), ("check_asks", F_check_asks), ("spans_for", F_spans_for)]
theorem c_granted_spans : compSs 100 (fnCc N_granted_spans (defScope (top 24)) T_granted_spans glb [] 0) (defBody (top 24)) = some B_granted_spans := by kernel_rfl
/-! ### cut_short -/
noncomputable def t1_cut_short : EM :=
  eAnd (eBin eqD (eIx (eVar 3) (eCon (.int 2))) (eCon (.str "frees"))) (eBin gtD (eIx (eVar 3) (eCon (.int 1))) (eVar 0))
noncomputable def B_cut_short : SM :=
  sSeq (sDrop (eCall F_check_life [eVar 0])) (sSeq (sDrop (eCall F_check_asks [eVar 1])) (sRet (eBi bTuple [eLst (lComp (eVar 2) (tTup [tName 2, tName 3]) (iEnum (eVar 1)) [t1_cut_short] [2, 3])])))
noncomputable def F_cut_short : Fn := sealF (mkFn 2 4 B_cut_short)
def N_cut_short : List Str := ["life", "asks", "at", "own"]
noncomputable def T_cut_short : List (Str × Fn) := [("check_life", F_check_life), ("check_asks", F_check_asks)]
theorem c_cut_short : compSs 100 (fnCc N_cut_short (defScope (top 25)) T_cut_short glb [] 0) (defBody (top 25)) = some B_cut_short := by kernel_rfl
/-! ### longest_wait -/
noncomputable def e1_longest_wait : EM :=
  eBin subD (eVar 3) (eIx (eVar 2) (eCon (.int 0)))
noncomputable def B_longest_wait : SM :=
  sRet (eBi bMax [eBin addD (eLst (lDisp [eCon (.int 0)])) (eLst (lComp e1_longest_wait (tTup [tName 2, tTup [tName 3, tName 4]]) (iZip (eVar 1) (eCall F_granted_spans [eVar 0, eVar 1])) [] [2, 3, 4]))])
noncomputable def F_longest_wait : Fn := sealF (mkFn 2 5 B_longest_wait)
def N_longest_wait : List Str := ["life", "asks", "own", "begin", "end"]
noncomputable def T_longest_wait : List (Str × Fn) := [("granted_spans", F_granted_spans)]
theorem c_longest_wait : compSs 100 (fnCc N_longest_wait (defScope (top 26)) T_longest_wait glb [] 0) (defBody (top 26)) = some B_longest_wait := by kernel_rfl
/-! ### greatest_life -/
noncomputable def c1_greatest_life : EM :=
  eBin gtD (eBin subD (eVar 3) (eVar 2)) (eCon (.int 1))
noncomputable def b1_greatest_life : SM :=
  sSeq (sAsg (tName 4) (eBin fdivD (eBin addD (eVar 2) (eVar 3)) (eCon (.int 2)))) (sIf (eBin leD (eCall F_longest_wait [eVar 4, eVar 0]) (eVar 1)) (sAsg (tName 2) (eVar 4)) (sAsg (tName 3) (eVar 4)))
noncomputable def B_greatest_life : SM :=
  sSeq (sDrop (eCall F_check_asks [eVar 0])) (sSeq (sIf (eNot (eCall F_is_between [eVar 1, eCon (.int 0), eCon (.int 1000000000000)])) sNever sPass) (sSeq (sPar [tName 2, tName 3] [eCon (.int 0), eBin addD (eCon (.int 1000000000000)) (eCon (.int 1))]) (sSeq (sWhile c1_greatest_life b1_greatest_life) (sRet (eIte (eBin gtD (eVar 2) (eCon (.int 0))) (eVar 2) (eCon .none))))))
noncomputable def F_greatest_life : Fn := sealF (mkFn 2 5 B_greatest_life)
def N_greatest_life : List Str := ["asks", "most", "low", "high", "middle"]
noncomputable def T_greatest_life : List (Str × Fn) := [("check_asks", F_check_asks), ("is_between", F_is_between), ("longest_wait", F_longest_wait)]
theorem c_greatest_life : compSs 100 (fnCc N_greatest_life (defScope (top 27)) T_greatest_life glb [] 0) (defBody (top 27)) = some B_greatest_life := by kernel_rfl
/-! ### accept_life -/
noncomputable def B_accept_life : SM :=
  sSeq (sDrop (eCall F_check_asks [eVar 0])) (sSeq (sIf (eNot (eCall F_is_between [eVar 1, eCon (.int 0), eCon (.int 1000000000000)])) sNever sPass) (sSeq (sIf (eOr (eNot (eCall F_is_between [eVar 2, eCon (.int 1), eCon (.int 1000000000000)])) (eAnd (eIsN true (eVar 3)) (eNot (eCall F_is_between [eVar 3, eCon (.int 0), eBin subD (eLen (eVar 0)) (eCon (.int 1))])))) sNever sPass) (sSeq (sIf (eBin gtD (eCall F_longest_wait [eVar 2, eVar 0]) (eVar 1)) sNever sPass) (sIf (eIsN false (eVar 3)) (sIf (eBin ltD (eVar 2) (eCon (.int 1000000000000))) sNever sPass) (sIf (eBin leD (eBin subD (eIx (eIx (eCall F_spans_for [eBin addD (eVar 2) (eCon (.int 1)), eVar 0]) (eVar 3)) (eCon (.int 0))) (eIx (eIx (eVar 0) (eVar 3)) (eCon (.int 0)))) (eVar 1)) sNever sPass)))))
noncomputable def F_accept_life : Fn := sealF (mkFn 4 4 B_accept_life)
def N_accept_life : List Str := ["asks", "most", "life", "at"]
noncomputable def T_accept_life : List (Str × Fn) := [("check_asks", F_check_asks), ("is_between", F_is_between), ("longest_wait", F_longest_wait), ("spans_for", F_spans_for)]
theorem c_accept_life : compSs 100 (fnCc N_accept_life (defScope (top 28)) T_accept_life glb [] 0) (defBody (top 28)) = some B_accept_life := by kernel_rfl
/-! ### _law_start -/
noncomputable def b1__law_start : SM :=
  sAsg (tName 1) (eBin addD (eBin modD (eBi bInt [eBin addD (eBin mulD (eVar 1) (eCon (.int 48271))) (eVar 2)]) (eCon (.int 2147483629))) (eCon (.int 1)))
noncomputable def e1__law_start : EM :=
  eBi bAbs [eBi bInt [eVar 2]]
noncomputable def B__law_start : SM :=
  sSeq (sAsg (tName 1) (eCon (.int 7))) (sSeq (sFor (tName 2) (iSeq (eSl (eVar 0) none (some (eCon (.int 63))))) b1__law_start) (sRet (eNew (lDisp [eLst (lComp e1__law_start (tName 2) (iSeq (eSl (eVar 0) none (some (eCon (.int 63))))) [] [2]), eCon (.int 0), eCon (.int 0), eCon (.int 0), eVar 1, eCon (.int 0)]))))
noncomputable def F__law_start : Fn := sealF (mkFn 1 3 B__law_start)
def N__law_start : List Str := ["script", "seed", "cell"]
noncomputable def T__law_start : List (Str × Fn) := []
theorem c__law_start : compSs 100 (fnCc N__law_start (defScope (top 30)) T__law_start glb [] 1) (defBody (top 30)) = some B__law_start := by kernel_rfl
/-! ### _law_draw -/
noncomputable def B__law_draw : SM :=
  sSeq (sIf (eAnd (eBin eqD (eIx (eVar 0) (eCon (.int 3))) (eCon (.int 0))) (eBin ltD (eIx (eVar 0) (eCon (.int 1))) (eLen (eIx (eVar 0) (eCon (.int 0)))))) (sPar [tSub (eVar 0) (eCon (.int 2)), tSub (eVar 0) (eCon (.int 3)), tSub (eVar 0) (eCon (.int 1))] [eIx (eIx (eVar 0) (eCon (.int 0))) (eIx (eVar 0) (eCon (.int 1))), eCon (.int 60), eBin addD (eIx (eVar 0) (eCon (.int 1))) (eCon (.int 1))]) sPass) (sSeq (sIf (eBin gtD (eIx (eVar 0) (eCon (.int 3))) (eCon (.int 0))) (sSeq (sAsg (tName 2) (eBin modD (eBi bInt [eIx (eVar 0) (eCon (.int 2))]) (eVar 1))) (sSeq (sAsg (tSub (eVar 0) (eCon (.int 2))) (eBin fdivD (eIx (eVar 0) (eCon (.int 2))) (eVar 1))) (sSeq (sAsg (tSub (eVar 0) (eCon (.int 3))) (eIte (eBin gtD (eIx (eVar 0) (eCon (.int 2))) (eCon (.int 0))) (eBin subD (eIx (eVar 0) (eCon (.int 3))) (eCon (.int 1))) (eCon (.int 0)))) (sRet (eVar 2))))) sPass) (sSeq (sAsg (tSub (eVar 0) (eCon (.int 5))) (eBin addD (eIx (eVar 0) (eCon (.int 5))) (eCon (.int 1)))) (sSeq (sAsg (tSub (eVar 0) (eCon (.int 4))) (eBin modD (eBi bInt [eBin addD (eBin addD (eBin mulD (eIx (eVar 0) (eCon (.int 4))) (eCon (.int 48271))) (eBin mulD (eBin mulD (eIx (eVar 0) (eCon (.int 5))) (eIx (eVar 0) (eCon (.int 5)))) (eCon (.int 69621)))) (eCon (.int 11))]) (eCon (.int 2147483647)))) (sRet (eBin modD (eBi bInt [eBin fdivD (eIx (eVar 0) (eCon (.int 4))) (eCon (.int 13))]) (eVar 1))))))
noncomputable def F__law_draw : Fn := sealF (mkFn 2 3 B__law_draw)
def N__law_draw : List Str := ["state", "many", "found"]
noncomputable def T__law_draw : List (Str × Fn) := []
theorem c__law_draw : compSs 100 (fnCc N__law_draw (defScope (top 31)) T__law_draw glb [] 0) (defBody (top 31)) = some B__law_draw := by kernel_rfl
/-! ### _law_pick -/
noncomputable def B__law_pick : SM :=
  sRet (eIx (eVar 1) (eCall F__law_draw [eVar 0, eLen (eVar 1)]))
noncomputable def F__law_pick : Fn := sealF (mkFn 2 2 B__law_pick)
def N__law_pick : List Str := ["state", "some"]
noncomputable def T__law_pick : List (Str × Fn) := [("_law_draw", F__law_draw)]
theorem c__law_pick : compSs 100 (fnCc N__law_pick (defScope (top 32)) T__law_pick glb [] 0) (defBody (top 32)) = some B__law_pick := by kernel_rfl
/-! ### _law_same -/
noncomputable def B__law_same : SM :=
  sRet (eAnd (eBin eqD (eVar 0) (eVar 1)) (eBin eqD (eBi bRepr [eVar 0]) (eBi bRepr [eVar 1])))
noncomputable def F__law_same : Fn := sealF (mkFn 2 2 B__law_same)
def N__law_same : List Str := ["actual", "due"]
noncomputable def T__law_same : List (Str × Fn) := []
theorem c__law_same : compSs 100 (fnCc N__law_same (defScope (top 33)) T__law_same glb [] 0) (defBody (top 33)) = some B__law_same := by kernel_rfl
/-! ### _law_sets -/
noncomputable def e1__law_sets : EM :=
  eBin addD (eVar 3) (eTup [eVar 2])
noncomputable def b1__law_sets : SM :=
  sAsg (tName 1) (eBin addD (eVar 1) (eLst (lComp e1__law_sets (tName 3) (iSeq (eVar 1)) [] [3])))
noncomputable def B__law_sets : SM :=
  sSeq (sAsg (tName 1) (eLst (lDisp [eTup []]))) (sSeq (sFor (tName 2) (iSeq (eVar 0)) b1__law_sets) (sRet (eVar 1)))
noncomputable def F__law_sets : Fn := sealF (mkFn 1 4 B__law_sets)
def N__law_sets : List Str := ["rows", "found", "own", "one"]
noncomputable def T__law_sets : List (Str × Fn) := []
theorem c__law_sets : compSs 100 (fnCc N__law_sets (defScope (top 34)) T__law_sets glb [] 0) (defBody (top 34)) = some B__law_sets := by kernel_rfl
/-! ### _law_falling -/
noncomputable def e1__law_falling : EM :=
  eIx (eVar 1) (eVar 3)
noncomputable def t1__law_falling : EM :=
  eBin gtD (eIx (eVar 0) (eVar 3)) (eIx (eVar 0) (eVar 2))
noncomputable def b1__law_falling : SM :=
  sApp (eVar 1) (eBin addD (eCon (.int 1)) (eBi bMax [eBin addD (eLst (lDisp [eCon (.int 0)])) (eLst (lComp e1__law_falling (tName 3) (iRange [eVar 2]) [t1__law_falling] [3]))]))
noncomputable def B__law_falling : SM :=
  sSeq (sAsg (tName 1) (eNew (lDisp []))) (sSeq (sFor (tName 2) (iRange [eLen (eVar 0)]) b1__law_falling) (sRet (eBi bMax [eBin addD (eLst (lDisp [eCon (.int 0)])) (eVar 1)])))
noncomputable def F__law_falling : Fn := sealF (mkFn 1 4 B__law_falling)
def N__law_falling : List Str := ["numbers", "best", "at", "own"]
noncomputable def T__law_falling : List (Str × Fn) := []
theorem c__law_falling : compSs 100 (fnCc N__law_falling (defScope (top 35)) T__law_falling glb [("best", 1)] 0) (defBody (top 35)) = some B__law_falling := by kernel_rfl
/-! ### _law_writes_hold -/
noncomputable def e1__law_writes_hold : EM :=
  eCall F__law_draw [eVar 0, eCon (.int 8)]
noncomputable def t1__law_writes_hold : EM :=
  eBin gtD (eIx (eVar 1) (eIx (eVar 8) (eVar 17))) (eIx (eVar 1) (eIx (eVar 8) (eBin addD (eVar 17) (eCon (.int 1)))))
noncomputable def t2__law_writes_hold : EM :=
  eBin eqD (eLst (lComp (eVar 17) (tName 17) (iRange [eBin subD (eLen (eVar 8)) (eCon (.int 1))]) [t1__law_writes_hold] [17])) (eLst (lDisp []))
noncomputable def e2__law_writes_hold : EM :=
  eTup [eBin subD (eCon (.int 0)) (eLen (eVar 8)), eVar 8]
noncomputable def t3__law_writes_hold : EM :=
  eBin gtD (eIx (eVar 18) (eUn negD (eCon (.int 1)))) (eVar 8)
noncomputable def b1__law_writes_hold : SM :=
  sSeq (sAsg (tName 9) (eNew (lComp (eVar 18) (tName 18) (iSeq (eVar 7)) [t3__law_writes_hold] [18]))) (sIf (eVar 9) (sApp (eIx (eVar 9) (eCon (.int 0))) (eVar 8)) (sApp (eVar 7) (eNew (lDisp [eVar 8]))))
noncomputable def b2__law_writes_hold : SM :=
  sSeq (sExt (eVar 10) (eIte (eBin geD (eIx (eVar 1) (eVar 12)) (eVar 11)) (eLst (lDisp [eVar 12])) (eLst (lDisp [])))) (sAsg (tName 11) (eBi bMax [eLst (lDisp [eVar 11, eIx (eVar 1) (eVar 12)])]))
noncomputable def e3__law_writes_hold : EM :=
  eBin addD (eBin mulD (eVar 8) (eVar 8)) (eBin mulD (eCon (.int 3)) (eVar 8))
noncomputable def e4__law_writes_hold : EM :=
  eBin subD (eCon (.int 20)) (eVar 8)
noncomputable def t4__law_writes_hold : EM :=
  eCall F__law_draw [eVar 0, eCon (.int 2)]
noncomputable def t5__law_writes_hold : EM :=
  eAnd (eBin ltD (eVar 19) (eVar 12)) (eBin gtD (eIx (eVar 1) (eVar 19)) (eIx (eVar 1) (eVar 12)))
noncomputable def e5__law_writes_hold : EM :=
  eTup [eVar 12, eLst (lComp (eVar 19) (tName 19) (iSeq (eVar 15)) [t5__law_writes_hold] [19])]
noncomputable def t6__law_writes_hold : EM :=
  eIx (eVar 8) (eCon (.int 1))
noncomputable def B__law_writes_hold : SM :=
  sSeq (sAsg (tName 1) (eBi bTuple [eLst (lComp e1__law_writes_hold (tName 8) (iRange [eCall F__law_draw [eVar 0, eCon (.int 10)]]) [] [8])])) (sSeq (sPar [tName 2, tName 3, tName 4] [eLen (eVar 1), eCall F_most_in_order [eVar 1], eCall F_taken_writes [eVar 1]]) (sSeq (sAsg (tName 5) (eLst (lComp (eVar 8) (tName 8) (iSeq (eCall F__law_sets [eLst (lRng (iRange [eVar 2]))])) [t2__law_writes_hold] [8]))) (sSeq (sIf (eOr (eNot (eCall F__law_same [eVar 3, eIx (eIx (eBi bSorted [eLst (lComp e2__law_writes_hold (tName 8) (iSeq (eVar 5)) [] [8])]) (eCon (.int 0))) (eCon (.int 1))])) (eBin neD (eCall F_judge_writes [eVar 1, eVar 3]) (eTup [eCon (.str "in order")]))) (sRet (eCon (.bool false))) sPass) (sSeq (sPar [tName 6, tName 7] [eLst (lOf (eVar 1)), eNew (lDisp [])]) (sSeq (sFor (tName 8) (iSeq (eVar 6)) b1__law_writes_hold) (sSeq (sIf (eOr (eBin neD (eLen (eVar 7)) (eLen (eVar 3))) (eBin ltD (eBin mulD (eLen (eVar 3)) (eCall F__law_falling [eVar 1])) (eVar 2))) (sRet (eCon (.bool false))) sPass) (sSeq (sPar [tName 10, tName 11] [eNew (lDisp []), eCon (.int 0)]) (sSeq (sFor (tName 12) (iRange [eVar 2]) b2__law_writes_hold) (sSeq (sIf (eOr (eNot (eCall F__law_same [eVar 4, eBi bTuple [eVar 10]])) (eOr (eBin neD (eCall F_judge_writes [eVar 1, eVar 4]) (eTup [eCon (.str "in order")])) (eBin gtD (eLen (eVar 4)) (eLen (eVar 3))))) (sRet (eCon (.bool false))) sPass) (sSeq (sAsg (tName 13) (eBi bTuple [eLst (lComp e3__law_writes_hold (tName 8) (iSeq (eVar 1)) [] [8])])) (sSeq (sIf (eNot (eCall F__law_same [eLst (lDisp [eCall F_most_in_order [eVar 13], eCall F_taken_writes [eVar 13]]), eLst (lDisp [eVar 3, eVar 4])])) (sRet (eCon (.bool false))) sPass) (sSeq (sAsg (tName 14) (eBi bTuple [eLst (lComp e4__law_writes_hold (tName 8) (iSeq (eUn revD (eVar 1))) [] [8])])) (sSeq (sIf (eBin neD (eLen (eCall F_most_in_order [eVar 14])) (eLen (eVar 3))) (sRet (eCon (.bool false))) sPass) (sSeq (sAsg (tName 15) (eBi bTuple [eLst (lComp (eVar 8) (tName 8) (iRange [eVar 2]) [t4__law_writes_hold] [8])])) (sSeq (sAsg (tName 16) (eLst (lComp e5__law_writes_hold (tName 12) (iSeq (eVar 15)) [] [12]))) (sSeq (sAsg (tName 16) (eLst (lComp (eVar 8) (tName 8) (iSeq (eVar 16)) [t6__law_writes_hold] [8]))) (sRet (eBin eqD (eCall F_judge_writes [eVar 1, eVar 15]) (eIte (eVar 16) (eTup [eCon (.str "late"), eIx (eIx (eVar 16) (eCon (.int 0))) (eCon (.int 0)), eIx (eIx (eIx (eVar 16) (eCon (.int 0))) (eCon (.int 1))) (eCon (.int 0))]) (eTup [eCon (.str "in order")]))))))))))))))))))))
noncomputable def F__law_writes_hold : Fn := sealF (mkFn 1 20 B__law_writes_hold)
def N__law_writes_hold : List Str := ["state", "numbers", "many", "most", "taken", "rows", "left", "piles", "own", "good", "due", "top", "at", "other", "back", "some", "late", "k", "pile", "one"]
noncomputable def T__law_writes_hold : List (Str × Fn) := [("_law_draw", F__law_draw), ("most_in_order", F_most_in_order), ("taken_writes", F_taken_writes), ("_law_sets", F__law_sets), ("_law_same", F__law_same), ("judge_writes", F_judge_writes), ("_law_falling", F__law_falling)]
theorem c__law_writes_hold : compSs 100 (fnCc N__law_writes_hold (defScope (top 36)) T__law_writes_hold glb [("piles", 2), ("good", 1), ("due", 1)] 0) (defBody (top 36)) = some B__law_writes_hold := by kernel_rfl
/-! ### _law_asks_hold -/
noncomputable def b1__law_asks_hold : SM :=
  sSeq (sAsg (tName 1) (eBin addD (eVar 1) (eCall F__law_draw [eVar 0, eCon (.int 6)]))) (sApp (eVar 2) (eTup [eVar 1, eCall F__law_draw [eVar 0, eCon (.int 9)], eCall F__law_pick [eVar 0, eLst (lDisp [eCon (.str "frees"), eCon (.str "dies")])]]))
noncomputable def b2__law_asks_hold : SM :=
  sSeq (sAsg (tName 11) (eBi bMax [eLst (lDisp [eVar 1, eVar 7])])) (sSeq (sAsg (tName 7) (eBin addD (eVar 11) (eIte (eBin eqD (eVar 10) (eCon (.str "frees"))) (eBi bMin [eLst (lDisp [eVar 9, eVar 4])]) (eVar 4)))) (sApp (eVar 8) (eTup [eVar 11, eVar 7])))
noncomputable def e1__law_asks_hold : EM :=
  eBin subD (eIx (eIx (eVar 8) (eVar 3)) (eCon (.int 0))) (eIx (eIx (eVar 2) (eVar 3)) (eCon (.int 0)))
noncomputable def e2__law_asks_hold : EM :=
  eTup [eBin addD (eIx (eVar 17) (eCon (.int 0))) (eVar 5), eIx (eVar 17) (eCon (.int 1)), eIx (eVar 17) (eCon (.int 2))]
noncomputable def e3__law_asks_hold : EM :=
  eTup [eBin mulD (eCon (.int 3)) (eIx (eVar 17) (eCon (.int 0))), eBin mulD (eCon (.int 3)) (eIx (eVar 17) (eCon (.int 1))), eIx (eVar 17) (eCon (.int 2))]
noncomputable def e4__law_asks_hold : EM :=
  eTup [eBin addD (eVar 18) (eVar 5), eBin addD (eVar 19) (eVar 5)]
noncomputable def e5__law_asks_hold : EM :=
  eTup [eBin mulD (eCon (.int 3)) (eVar 18), eBin mulD (eCon (.int 3)) (eVar 19)]
noncomputable def t1__law_asks_hold : EM :=
  eBin gtD (eBin subD (eIx (eIx (eCall F_granted_spans [eBin addD (eVar 15) (eCon (.int 1)), eVar 2]) (eVar 3)) (eCon (.int 0))) (eIx (eIx (eVar 2) (eVar 3)) (eCon (.int 0)))) (eVar 14)
noncomputable def B__law_asks_hold : SM :=
  sSeq (sPar [tName 1, tName 2] [eCon (.int 0), eNew (lDisp [])]) (sSeq (sFor (tName 3) (iRange [eCall F__law_draw [eVar 0, eCon (.int 8)]]) b1__law_asks_hold) (sSeq (sPar [tName 2, tName 4, tName 5] [eBi bTuple [eVar 2], eBin addD (eCon (.int 1)) (eCall F__law_draw [eVar 0, eCon (.int 9)]), eBin addD (eCon (.int 1)) (eCall F__law_draw [eVar 0, eCon (.int 20)])]) (sSeq (sPar [tName 6, tName 7, tName 8] [eCall F_granted_spans [eVar 4, eVar 2], eCon (.int 0), eNew (lDisp [])]) (sSeq (sFor (tTup [tName 1, tName 9, tName 10]) (iSeq (eVar 2)) b2__law_asks_hold) (sSeq (sIf (eOr (eNot (eCall F__law_same [eVar 6, eBi bTuple [eVar 8]])) (eBin neD (eCall F_longest_wait [eVar 4, eVar 2]) (eBi bMax [eBin addD (eLst (lDisp [eCon (.int 0)])) (eLst (lComp e1__law_asks_hold (tName 3) (iRange [eLen (eVar 2)]) [] [3]))]))) (sRet (eCon (.bool false))) sPass) (sSeq (sPar [tName 12, tName 13] [eBi bTuple [eLst (lComp e2__law_asks_hold (tName 17) (iSeq (eVar 2)) [] [17])], eBi bTuple [eLst (lComp e3__law_asks_hold (tName 17) (iSeq (eVar 2)) [] [17])]]) (sSeq (sIf (eNot (eCall F__law_same [eLst (lDisp [eCall F_granted_spans [eVar 4, eVar 12], eCall F_granted_spans [eBin mulD (eCon (.int 3)) (eVar 4), eVar 13]]), eLst (lDisp [eBi bTuple [eLst (lComp e4__law_asks_hold (tTup [tName 18, tName 19]) (iSeq (eVar 6)) [] [18, 19])], eBi bTuple [eLst (lComp e5__law_asks_hold (tTup [tName 18, tName 19]) (iSeq (eVar 6)) [] [18, 19])]])])) (sRet (eCon (.bool false))) sPass) (sSeq (sIf (eOr (eBin neD (eCall F_longest_wait [eBin mulD (eCon (.int 3)) (eVar 4), eVar 13]) (eBin mulD (eCon (.int 3)) (eCall F_longest_wait [eVar 4, eVar 2]))) (eOr (eBin neD (eCall F_cut_short [eBin mulD (eCon (.int 3)) (eVar 4), eVar 13]) (eCall F_cut_short [eVar 4, eVar 2])) (eBin ltD (eCall F_longest_wait [eBin addD (eVar 4) (eCon (.int 1)), eVar 2]) (eCall F_longest_wait [eVar 4, eVar 2])))) (sRet (eCon (.bool false))) sPass) (sSeq (sAsg (tName 14) (eCall F__law_draw [eVar 0, eCon (.int 12)])) (sSeq (sAsg (tName 15) (eCall F_greatest_life [eVar 2, eVar 14])) (sSeq (sIf (eIsN false (eVar 15)) (sRet (eBin gtD (eCall F_longest_wait [eCon (.int 1), eVar 2]) (eVar 14))) sPass) (sSeq (sIf (eBin gtD (eCall F_longest_wait [eVar 15, eVar 2]) (eVar 14)) (sRet (eCon (.bool false))) sPass) (sSeq (sIf (eBin eqD (eVar 15) (eCon (.int 1000000000000))) (sRet (eIsN false (eCall F_accept_life [eVar 2, eVar 14, eVar 15, eCon .none]))) sPass) (sSeq (sAsg (tName 16) (eLst (lComp (eVar 3) (tName 3) (iRange [eLen (eVar 2)]) [t1__law_asks_hold] [3]))) (sRet (eAnd (eBin neD (eVar 16) (eLst (lDisp []))) (eIsN false (eCall F_accept_life [eVar 2, eVar 14, eVar 15, eIx (eVar 16) (eCon (.int 0))]))))))))))))))))))
noncomputable def F__law_asks_hold : Fn := sealF (mkFn 1 20 B__law_asks_hold)
def N__law_asks_hold : List Str := ["state", "time", "asks", "k", "life", "far", "spans", "end", "due", "need", "word", "begin", "moved", "wide", "most", "told", "later", "own", "one", "other"]
noncomputable def T__law_asks_hold : List (Str × Fn) := [("_law_draw", F__law_draw), ("_law_pick", F__law_pick), ("granted_spans", F_granted_spans), ("_law_same", F__law_same), ("longest_wait", F_longest_wait), ("cut_short", F_cut_short), ("greatest_life", F_greatest_life), ("accept_life", F_accept_life)]
theorem c__law_asks_hold : compSs 100 (fnCc N__law_asks_hold (defScope (top 37)) T__law_asks_hold glb [("asks", 1), ("due", 1)] 0) (defBody (top 37)) = some B__law_asks_hold := by kernel_rfl
/-! ### _law_leases_hold -/
noncomputable def b1__law_leases_hold : SM :=
  sSeq (sAsg (tName 2) (eBin addD (eVar 2) (eCall F__law_draw [eVar 0, eCon (.int 5)]))) (sIf (eOr (eIsN false (eVar 4)) (eBin geD (eVar 2) (eVar 4))) (sSeq (sPar [tName 5, tName 4] [eCall F__law_draw [eVar 0, eCon (.int 4)], eBin addD (eVar 2) (eVar 1)]) (sApp (eVar 3) (eTup [eVar 2, eCon (.str "take"), eVar 5]))) (sIf (eCall F__law_draw [eVar 0, eCon (.int 2)]) (sSeq (sAsg (tName 4) (eBin addD (eVar 2) (eVar 1))) (sApp (eVar 3) (eTup [eVar 2, eCon (.str "keep"), eVar 5]))) (sSeq (sAsg (tName 4) (eCon .none)) (sApp (eVar 3) (eTup [eVar 2, eCon (.str "free"), eVar 5])))))
noncomputable def t1__law_leases_hold : EM :=
  eBin gtD (eIx (eIx (eIx (eVar 7) (eCon (.int 1))) (eVar 6)) (eCon (.int 2))) (eIx (eIx (eIx (eVar 7) (eCon (.int 1))) (eBin addD (eVar 6) (eCon (.int 1)))) (eCon (.int 1)))
noncomputable def e1__law_leases_hold : EM :=
  eTup [eBin addD (eIx (eVar 12) (eCon (.int 0))) (eVar 8), eIx (eVar 12) (eCon (.int 1)), eIx (eVar 12) (eCon (.int 2))]
noncomputable def e2__law_leases_hold : EM :=
  eTup [eVar 13, eBin addD (eVar 14) (eVar 8), eBin addD (eVar 15) (eVar 8)]
noncomputable def e3__law_leases_hold : EM :=
  eTup [eVar 16, eIx (eIx (eIx (eVar 7) (eCon (.int 1))) (eVar 16)) (eCon (.int 0))]
noncomputable def t2__law_leases_hold : EM :=
  eChain leD ltD (eIx (eIx (eIx (eVar 7) (eCon (.int 1))) (eVar 16)) (eCon (.int 1))) (eVar 10) (eIx (eIx (eIx (eVar 7) (eCon (.int 1))) (eVar 16)) (eCon (.int 2)))
noncomputable def b2__law_leases_hold : SM :=
  sSeq (sAsg (tName 10) (eCall F__law_draw [eVar 0, eBin addD (eVar 2) (eCon (.int 12))])) (sSeq (sAsg (tName 11) (eLst (lComp e3__law_leases_hold (tName 16) (iRange [eLen (eIx (eVar 7) (eCon (.int 1)))]) [t2__law_leases_hold] [16]))) (sIf (eOr (eBin neD (eCall F_holder_at [eVar 1, eBi bTuple [eVar 3], eVar 10]) (eIte (eVar 11) (eIx (eVar 11) (eCon (.int 0))) (eCon .none))) (eBin neD (eCall F_holder_at [eVar 1, eVar 9, eBin addD (eVar 10) (eVar 8)]) (eIte (eVar 11) (eIx (eVar 11) (eCon (.int 0))) (eCon .none)))) (sRet (eCon (.bool false))) sPass))
noncomputable def B__law_leases_hold : SM :=
  sSeq (sPar [tName 1, tName 2, tName 3, tName 4, tName 5] [eBin addD (eCon (.int 2)) (eCall F__law_draw [eVar 0, eCon (.int 6)]), eCon (.int 0), eNew (lDisp []), eCon .none, eCon (.int 0)]) (sSeq (sFor (tName 6) (iRange [eBin addD (eCon (.int 1)) (eCall F__law_draw [eVar 0, eCon (.int 9)])]) b1__law_leases_hold) (sSeq (sPar [tName 7, tName 8] [eCall F_judge_leases [eVar 1, eBi bTuple [eVar 3]], eBin addD (eCon (.int 1)) (eCall F__law_draw [eVar 0, eCon (.int 30)])]) (sSeq (sIf (eOr (eBin neD (eIx (eVar 7) (eCon (.int 0))) (eCon (.str "fine"))) (eLst (lComp (eVar 6) (tName 6) (iRange [eBin subD (eLen (eIx (eVar 7) (eCon (.int 1)))) (eCon (.int 1))]) [t1__law_leases_hold] [6]))) (sRet (eCon (.bool false))) sPass) (sSeq (sAsg (tName 9) (eBi bTuple [eLst (lComp e1__law_leases_hold (tName 12) (iSeq (eVar 3)) [] [12])])) (sSeq (sIf (eNot (eCall F__law_same [eCall F_judge_leases [eVar 1, eVar 9], eTup [eCon (.str "fine"), eBi bTuple [eLst (lComp e2__law_leases_hold (tTup [tName 13, tName 14, tName 15]) (iSeq (eIx (eVar 7) (eCon (.int 1)))) [] [13, 14, 15])]]])) (sRet (eCon (.bool false))) sPass) (sSeq (sFor (tName 6) (iRange [eCon (.int 6)]) b2__law_leases_hold) (sRet (eCon (.bool true)))))))))
noncomputable def F__law_leases_hold : Fn := sealF (mkFn 1 17 B__law_leases_hold)
def N__law_leases_hold : List Str := ["state", "life", "time", "events", "end", "holder", "k", "told", "far", "moved", "at", "held", "own", "one", "two", "three", "number"]
noncomputable def T__law_leases_hold : List (Str × Fn) := [("_law_draw", F__law_draw), ("judge_leases", F_judge_leases), ("_law_same", F__law_same), ("holder_at", F_holder_at)]
theorem c__law_leases_hold : compSs 100 (fnCc N__law_leases_hold (defScope (top 38)) T__law_leases_hold glb [("events", 1)] 0) (defBody (top 38)) = some B__law_leases_hold := by kernel_rfl
/-! ### law -/
noncomputable def b1_law : SM :=
  sIf (eOr (eNot (eCall F__law_writes_hold [eVar 1])) (eOr (eNot (eCall F__law_asks_hold [eVar 1])) (eNot (eCall F__law_leases_hold [eVar 1])))) (sRet (eCon (.bool false))) sPass
noncomputable def B_law : SM :=
  sSeq (sAsg (tName 1) (eCall F__law_start [eVar 0])) (sSeq (sFor (tName 2) (iRange [eCon (.int 2)]) b1_law) (sRet (eCon (.bool true))))
noncomputable def F_law : Fn := sealF (mkFn 1 3 B_law)
def N_law : List Str := ["script", "state", "turn"]
noncomputable def T_law : List (Str × Fn) := [("_law_start", F__law_start), ("_law_writes_hold", F__law_writes_hold), ("_law_asks_hold", F__law_asks_hold), ("_law_leases_hold", F__law_leases_hold)]
theorem c_law : compSs 100 (fnCc N_law (defScope (top 39)) T_law glb [] 0) (defBody (top 39)) = some B_law := by kernel_rfl
end K72

end
section
/-! K72Top: the law's statement, from what its def answers. -/
namespace K72
open PySem PySem.Spec PyProof.Rows L2 Gg
def d_is_integer : He.DefD := ⟨("is_integer", none), "is_integer", "is_integer", defArgs (top 7), defBody (top 7), defScope (top 7), [], []⟩
def d_is_between : He.DefD := ⟨("is_between", none), "is_between", "is_between", defArgs (top 8), defBody (top 8), defScope (top 8), [], []⟩
def d_check_life : He.DefD := ⟨("check_life", none), "check_life", "check_life", defArgs (top 11), defBody (top 11), defScope (top 11), [], []⟩
def d_is_event : He.DefD := ⟨("is_event", none), "is_event", "is_event", defArgs (top 12), defBody (top 12), defScope (top 12), [], []⟩
def d_check_events : He.DefD := ⟨("check_events", none), "check_events", "check_events", defArgs (top 13), defBody (top 13), defScope (top 13), [], []⟩
def d_followed : He.DefD := ⟨("followed", none), "followed", "followed", defArgs (top 14), defBody (top 14), defScope (top 14), [], []⟩
def d_judge_leases : He.DefD := ⟨("judge_leases", none), "judge_leases", "judge_leases", defArgs (top 15), defBody (top 15), defScope (top 15), [], []⟩
def d_holder_at : He.DefD := ⟨("holder_at", none), "holder_at", "holder_at", defArgs (top 16), defBody (top 16), defScope (top 16), [], []⟩
def d_check_numbers : He.DefD := ⟨("check_numbers", none), "check_numbers", "check_numbers", defArgs (top 17), defBody (top 17), defScope (top 17), [], []⟩
def d_taken_writes : He.DefD := ⟨("taken_writes", none), "taken_writes", "taken_writes", defArgs (top 18), defBody (top 18), defScope (top 18), [], []⟩
def d_judge_writes : He.DefD := ⟨("judge_writes", none), "judge_writes", "judge_writes", defArgs (top 19), defBody (top 19), defScope (top 19), [], []⟩
def d_most_in_order : He.DefD := ⟨("most_in_order", none), "most_in_order", "most_in_order", defArgs (top 20), defBody (top 20), defScope (top 20), [], []⟩
def d_is_ask : He.DefD := ⟨("is_ask", none), "is_ask", "is_ask", defArgs (top 21), defBody (top 21), defScope (top 21), [], []⟩
def d_check_asks : He.DefD := ⟨("check_asks", none), "check_asks", "check_asks", defArgs (top 22), defBody (top 22), defScope (top 22), [], []⟩
def d_spans_for : He.DefD := ⟨("spans_for", none), "spans_for", "spans_for", defArgs (top 23), defBody (top 23), defScope (top 23), [], []⟩
def d_granted_spans : He.DefD := ⟨("granted_spans", none), "granted_spans", "granted_spans", defArgs (top 24), defBody (top 24), defScope (top 24), [], []⟩
def d_cut_short : He.DefD := ⟨("cut_short", none), "cut_short", "cut_short", defArgs (top 25), defBody (top 25), defScope (top 25), [], []⟩
def d_longest_wait : He.DefD := ⟨("longest_wait", none), "longest_wait", "longest_wait", defArgs (top 26), defBody (top 26), defScope (top 26), [], []⟩
def d_greatest_life : He.DefD := ⟨("greatest_life", none), "greatest_life", "greatest_life", defArgs (top 27), defBody (top 27), defScope (top 27), [], []⟩
def d_accept_life : He.DefD := ⟨("accept_life", none), "accept_life", "accept_life", defArgs (top 28), defBody (top 28), defScope (top 28), [], []⟩
def d__law_start : He.DefD := ⟨("_law_start", none), "_law_start", "_law_start", defArgs (top 30), defBody (top 30), defScope (top 30), [], []⟩
def d__law_draw : He.DefD := ⟨("_law_draw", none), "_law_draw", "_law_draw", defArgs (top 31), defBody (top 31), defScope (top 31), [], []⟩
def d__law_pick : He.DefD := ⟨("_law_pick", none), "_law_pick", "_law_pick", defArgs (top 32), defBody (top 32), defScope (top 32), [], []⟩
def d__law_same : He.DefD := ⟨("_law_same", none), "_law_same", "_law_same", defArgs (top 33), defBody (top 33), defScope (top 33), [], []⟩
def d__law_sets : He.DefD := ⟨("_law_sets", none), "_law_sets", "_law_sets", defArgs (top 34), defBody (top 34), defScope (top 34), [], []⟩
def d__law_falling : He.DefD := ⟨("_law_falling", none), "_law_falling", "_law_falling", defArgs (top 35), defBody (top 35), defScope (top 35), [], []⟩
def d__law_writes_hold : He.DefD := ⟨("_law_writes_hold", none), "_law_writes_hold", "_law_writes_hold", defArgs (top 36), defBody (top 36), defScope (top 36), [], []⟩
def d__law_asks_hold : He.DefD := ⟨("_law_asks_hold", none), "_law_asks_hold", "_law_asks_hold", defArgs (top 37), defBody (top 37), defScope (top 37), [], []⟩
def d__law_leases_hold : He.DefD := ⟨("_law_leases_hold", none), "_law_leases_hold", "_law_leases_hold", defArgs (top 38), defBody (top 38), defScope (top 38), [], []⟩
def d_law : He.DefD := ⟨("law", none), "law", "law", defArgs (top 39), defBody (top 39), defScope (top 39), [], []⟩
def fnL : List He.DefD := [d_is_integer, d_is_between, d_check_life, d_is_event, d_check_events, d_followed, d_judge_leases, d_holder_at, d_check_numbers, d_taken_writes, d_judge_writes, d_most_in_order, d_is_ask, d_check_asks, d_spans_for, d_granted_spans, d_cut_short, d_longest_wait, d_greatest_life, d_accept_life, d__law_start, d__law_draw, d__law_pick, d__law_same, d__law_sets, d__law_falling, d__law_writes_hold, d__law_asks_hold, d__law_leases_hold, d_law]
def faL : List He.Fa := [.glo "is_integer", .glo "is_between", .glo "check_life", .glo "is_event", .glo "check_events", .glo "followed", .glo "judge_leases", .glo "holder_at", .glo "check_numbers", .glo "taken_writes", .glo "judge_writes", .glo "most_in_order", .glo "is_ask", .glo "check_asks", .glo "spans_for", .glo "granted_spans", .glo "cut_short", .glo "longest_wait", .glo "greatest_life", .glo "accept_life", .glo "_law_start", .glo "_law_draw", .glo "_law_pick", .glo "_law_same", .glo "_law_sets", .glo "_law_falling", .glo "_law_writes_hold", .glo "_law_asks_hold", .glo "_law_leases_hold", .glo "law", .free "len", .free "abs", .free "max", .free "min", .free "sum", .free "all", .free "any", .free "sorted", .free "repr", .free "tuple", .free "int", .free "list", .free "isinstance", .free "range", .free "enumerate", .free "zip", .free "bool", .free "str"]
abbrev RowL : PySem.W.OpenRow := PySem.W.OpenLaw.row PySem.Challenge.rw_doneorundone_k72_whole_writes_and_waits
abbrev hkL : PySem.W.Hook := hookC 4 faL fnL glb
def obL (s : PySem.W.SharedT) : AlC := obsC 4 faL fnL glb (HandSHeadRun.getT s)
theorem obL_eq (s : PySem.W.SharedT) : obL s = hkL.obs s.abs := obsC_eq (HandSHeadRun.getT_eq s)
def looseL : List Str := (["WorkError", "ArgumentError", "PaperError", "MAX_SIZE", "MAX_ROWS", "is_integer", "is_between", "WORDS", "check_life", "is_event", "check_events", "followed", "judge_leases", "holder_at", "check_numbers", "taken_writes", "judge_writes", "most_in_order", "is_ask", "check_asks", "spans_for", "granted_spans", "cut_short", "longest_wait", "greatest_life", "accept_life", "_law_start", "_law_draw", "_law_pick", "_law_same"] : List Str) ++ (["_law_sets", "_law_falling", "_law_writes_hold", "_law_asks_hold", "_law_leases_hold"] : List Str)
theorem runL (w : World) : HandSHeadRun.RunEq RowL (PySem.W.view RowL.prog [39]) hkL obL 6000 looseL w := by
  intro os
  kernel_rfl
theorem modF {K : PySem.W.Frag} {h : Heap} {mg : Str → Option Value} (X : K.In h) (G : h.Ns mainGlobals mg) (c : He.SaysD faL fnL K) (c2 : consB glb K = true) : ModF K mg glb := by
  refine ⟨fun x hx => ?_, cons_at X G c2⟩
  simp only [BUILTINS, List.mem_cons, List.not_mem_nil, or_false] at hx
  rcases hx with rfl | rfl | rfl | rfl | rfl | rfl | rfl | rfl | rfl | rfl | rfl | rfl | rfl | rfl | rfl | rfl | rfl | rfl
  · exact He.free_ok X G (c.fact 30 (f := .free "len") rfl)
  · exact He.free_ok X G (c.fact 31 (f := .free "abs") rfl)
  · exact He.free_ok X G (c.fact 32 (f := .free "max") rfl)
  · exact He.free_ok X G (c.fact 33 (f := .free "min") rfl)
  · exact He.free_ok X G (c.fact 34 (f := .free "sum") rfl)
  · exact He.free_ok X G (c.fact 35 (f := .free "all") rfl)
  · exact He.free_ok X G (c.fact 36 (f := .free "any") rfl)
  · exact He.free_ok X G (c.fact 37 (f := .free "sorted") rfl)
  · exact He.free_ok X G (c.fact 38 (f := .free "repr") rfl)
  · exact He.free_ok X G (c.fact 39 (f := .free "tuple") rfl)
  · exact He.free_ok X G (c.fact 40 (f := .free "int") rfl)
  · exact He.free_ok X G (c.fact 41 (f := .free "list") rfl)
  · exact He.free_ok X G (c.fact 42 (f := .free "isinstance") rfl)
  · exact He.free_ok X G (c.fact 43 (f := .free "range") rfl)
  · exact He.free_ok X G (c.fact 44 (f := .free "enumerate") rfl)
  · exact He.free_ok X G (c.fact 45 (f := .free "zip") rfl)
  · exact He.free_ok X G (c.fact 46 (f := .free "bool") rfl)
  · exact He.free_ok X G (c.fact 47 (f := .free "str") rfl)
theorem factsL {P : Program} {w : World} {K : PySem.W.Frag} {h : Heap} {mg : Str → Option Value} {fL : Addr} (X : K.In h) (G : h.Ns mainGlobals mg) (hfa : mg ("law" : Str) = some (.ref fL)) (c : He.SaysD faL fnL K) (c2 : consB glb K = true) :
    ∃ fd : FuncData, (∀ (s : Shared) (u : Value), BindsTo s fd ⟨[u], []⟩ [("script", u)]) ∧ ∀ base : Heap, K.In base → base.Ns mainGlobals mg → FnG P w K mg base 9 fL fd ["script"] (spF K F_law 1) := by
  have M := modF X G c c2
  obtain ⟨fd0, D0⟩ := c.def_ 0 (d := d_is_integer) rfl
  have G0 := He.glo_ok X G (c.fact 0 (f := .glo "is_integer") rfl)
  obtain ⟨fd1, D1⟩ := c.def_ 1 (d := d_is_between) rfl
  have G1 := He.glo_ok X G (c.fact 1 (f := .glo "is_between") rfl)
  obtain ⟨fd2, D2⟩ := c.def_ 2 (d := d_check_life) rfl
  have G2 := He.glo_ok X G (c.fact 2 (f := .glo "check_life") rfl)
  obtain ⟨fd3, D3⟩ := c.def_ 3 (d := d_is_event) rfl
  have G3 := He.glo_ok X G (c.fact 3 (f := .glo "is_event") rfl)
  obtain ⟨fd4, D4⟩ := c.def_ 4 (d := d_check_events) rfl
  have G4 := He.glo_ok X G (c.fact 4 (f := .glo "check_events") rfl)
  obtain ⟨fd5, D5⟩ := c.def_ 5 (d := d_followed) rfl
  have G5 := He.glo_ok X G (c.fact 5 (f := .glo "followed") rfl)
  obtain ⟨fd6, D6⟩ := c.def_ 6 (d := d_judge_leases) rfl
  have G6 := He.glo_ok X G (c.fact 6 (f := .glo "judge_leases") rfl)
  obtain ⟨fd7, D7⟩ := c.def_ 7 (d := d_holder_at) rfl
  have G7 := He.glo_ok X G (c.fact 7 (f := .glo "holder_at") rfl)
  obtain ⟨fd8, D8⟩ := c.def_ 8 (d := d_check_numbers) rfl
  have G8 := He.glo_ok X G (c.fact 8 (f := .glo "check_numbers") rfl)
  obtain ⟨fd9, D9⟩ := c.def_ 9 (d := d_taken_writes) rfl
  have G9 := He.glo_ok X G (c.fact 9 (f := .glo "taken_writes") rfl)
  obtain ⟨fd10, D10⟩ := c.def_ 10 (d := d_judge_writes) rfl
  have G10 := He.glo_ok X G (c.fact 10 (f := .glo "judge_writes") rfl)
  obtain ⟨fd11, D11⟩ := c.def_ 11 (d := d_most_in_order) rfl
  have G11 := He.glo_ok X G (c.fact 11 (f := .glo "most_in_order") rfl)
  obtain ⟨fd12, D12⟩ := c.def_ 12 (d := d_is_ask) rfl
  have G12 := He.glo_ok X G (c.fact 12 (f := .glo "is_ask") rfl)
  obtain ⟨fd13, D13⟩ := c.def_ 13 (d := d_check_asks) rfl
  have G13 := He.glo_ok X G (c.fact 13 (f := .glo "check_asks") rfl)
  obtain ⟨fd14, D14⟩ := c.def_ 14 (d := d_spans_for) rfl
  have G14 := He.glo_ok X G (c.fact 14 (f := .glo "spans_for") rfl)
  obtain ⟨fd15, D15⟩ := c.def_ 15 (d := d_granted_spans) rfl
  have G15 := He.glo_ok X G (c.fact 15 (f := .glo "granted_spans") rfl)
  obtain ⟨fd16, D16⟩ := c.def_ 16 (d := d_cut_short) rfl
  have G16 := He.glo_ok X G (c.fact 16 (f := .glo "cut_short") rfl)
  obtain ⟨fd17, D17⟩ := c.def_ 17 (d := d_longest_wait) rfl
  have G17 := He.glo_ok X G (c.fact 17 (f := .glo "longest_wait") rfl)
  obtain ⟨fd18, D18⟩ := c.def_ 18 (d := d_greatest_life) rfl
  have G18 := He.glo_ok X G (c.fact 18 (f := .glo "greatest_life") rfl)
  obtain ⟨fd19, D19⟩ := c.def_ 19 (d := d_accept_life) rfl
  have G19 := He.glo_ok X G (c.fact 19 (f := .glo "accept_life") rfl)
  obtain ⟨fd20, D20⟩ := c.def_ 20 (d := d__law_start) rfl
  have G20 := He.glo_ok X G (c.fact 20 (f := .glo "_law_start") rfl)
  obtain ⟨fd21, D21⟩ := c.def_ 21 (d := d__law_draw) rfl
  have G21 := He.glo_ok X G (c.fact 21 (f := .glo "_law_draw") rfl)
  obtain ⟨fd22, D22⟩ := c.def_ 22 (d := d__law_pick) rfl
  have G22 := He.glo_ok X G (c.fact 22 (f := .glo "_law_pick") rfl)
  obtain ⟨fd23, D23⟩ := c.def_ 23 (d := d__law_same) rfl
  have G23 := He.glo_ok X G (c.fact 23 (f := .glo "_law_same") rfl)
  obtain ⟨fd24, D24⟩ := c.def_ 24 (d := d__law_sets) rfl
  have G24 := He.glo_ok X G (c.fact 24 (f := .glo "_law_sets") rfl)
  obtain ⟨fd25, D25⟩ := c.def_ 25 (d := d__law_falling) rfl
  have G25 := He.glo_ok X G (c.fact 25 (f := .glo "_law_falling") rfl)
  obtain ⟨fd26, D26⟩ := c.def_ 26 (d := d__law_writes_hold) rfl
  have G26 := He.glo_ok X G (c.fact 26 (f := .glo "_law_writes_hold") rfl)
  obtain ⟨fd27, D27⟩ := c.def_ 27 (d := d__law_asks_hold) rfl
  have G27 := He.glo_ok X G (c.fact 27 (f := .glo "_law_asks_hold") rfl)
  obtain ⟨fd28, D28⟩ := c.def_ 28 (d := d__law_leases_hold) rfl
  have G28 := He.glo_ok X G (c.fact 28 (f := .glo "_law_leases_hold") rfl)
  obtain ⟨fd29, D29⟩ := c.def_ 29 (d := d_law) rfl
  have G29 := He.glo_ok X G (c.fact 29 (f := .glo "law") rfl)
  have e := hfa.symm.trans G29
  cases e
  refine ⟨fd29, fun s u => FunD.bindsA (ps := ["script"]) D29 (fun _ _ _ _ _ _ us hl => match us, hl with | [_], _ => rfl) s [u] rfl, fun base _ _ => ?_⟩
  have L0 : CalG P w K mg base 1 "is_integer" F_is_integer := cal_by (sealF_eq _) (N := N_is_integer) (ps := ["value"]) (k := 0) D0 G0 M (by kernel_rfl) (fun _ _ _ _ _ _ us hl => match us, hl with | [_], _ => rfl) c_is_integer trivial
  have L1 : CalG P w K mg base 2 "is_between" F_is_between := cal_by (sealF_eq _) (N := N_is_between) (ps := ["value", "low", "high"]) (k := 1) D1 G1 M (by kernel_rfl) (fun _ _ _ _ _ _ us hl => match us, hl with | [_, _, _], _ => rfl) c_is_between ⟨L0.mono (by decide), trivial⟩
  have L2 : CalG P w K mg base 3 "check_life" F_check_life := cal_by (sealF_eq _) (N := N_check_life) (ps := ["life"]) (k := 2) D2 G2 M (by kernel_rfl) (fun _ _ _ _ _ _ us hl => match us, hl with | [_], _ => rfl) c_check_life ⟨L1.mono (by decide), trivial⟩
  have L3 : CalG P w K mg base 3 "is_event" F_is_event := cal_by (sealF_eq _) (N := N_is_event) (ps := ["value"]) (k := 2) D3 G3 M (by kernel_rfl) (fun _ _ _ _ _ _ us hl => match us, hl with | [_], _ => rfl) c_is_event ⟨L1.mono (by decide), trivial⟩
  have L4 : CalG P w K mg base 4 "check_events" F_check_events := cal_by (sealF_eq _) (N := N_check_events) (ps := ["life", "events"]) (k := 3) D4 G4 M (by kernel_rfl) (fun _ _ _ _ _ _ us hl => match us, hl with | [_, _], _ => rfl) c_check_events ⟨L2.mono (by decide), L3.mono (by decide), trivial⟩
  have L5 : CalG P w K mg base 1 "followed" F_followed := cal_by (sealF_eq _) (N := N_followed) (ps := ["life", "events"]) (k := 0) D5 G5 M (by kernel_rfl) (fun _ _ _ _ _ _ us hl => match us, hl with | [_, _], _ => rfl) c_followed trivial
  have L6 : CalG P w K mg base 5 "judge_leases" F_judge_leases := cal_by (sealF_eq _) (N := N_judge_leases) (ps := ["life", "events"]) (k := 4) D6 G6 M (by kernel_rfl) (fun _ _ _ _ _ _ us hl => match us, hl with | [_, _], _ => rfl) c_judge_leases ⟨L4.mono (by decide), L5.mono (by decide), trivial⟩
  have L7 : CalG P w K mg base 5 "holder_at" F_holder_at := cal_by (sealF_eq _) (N := N_holder_at) (ps := ["life", "events", "time"]) (k := 4) D7 G7 M (by kernel_rfl) (fun _ _ _ _ _ _ us hl => match us, hl with | [_, _, _], _ => rfl) c_holder_at ⟨L4.mono (by decide), L5.mono (by decide), L1.mono (by decide), trivial⟩
  have L8 : CalG P w K mg base 3 "check_numbers" F_check_numbers := cal_by (sealF_eq _) (N := N_check_numbers) (ps := ["numbers"]) (k := 2) D8 G8 M (by kernel_rfl) (fun _ _ _ _ _ _ us hl => match us, hl with | [_], _ => rfl) c_check_numbers ⟨L1.mono (by decide), trivial⟩
  have L9 : CalG P w K mg base 4 "taken_writes" F_taken_writes := cal_by (sealF_eq _) (N := N_taken_writes) (ps := ["numbers"]) (k := 3) D9 G9 M (by kernel_rfl) (fun _ _ _ _ _ _ us hl => match us, hl with | [_], _ => rfl) c_taken_writes ⟨L8.mono (by decide), trivial⟩
  have L10 : CalG P w K mg base 4 "judge_writes" F_judge_writes := cal_by (sealF_eq _) (N := N_judge_writes) (ps := ["numbers", "taken"]) (k := 3) D10 G10 M (by kernel_rfl) (fun _ _ _ _ _ _ us hl => match us, hl with | [_, _], _ => rfl) c_judge_writes ⟨L8.mono (by decide), L1.mono (by decide), trivial⟩
  have L11 : CalG P w K mg base 4 "most_in_order" F_most_in_order := cal_by (sealF_eq _) (N := N_most_in_order) (ps := ["numbers"]) (k := 3) D11 G11 M (by kernel_rfl) (fun _ _ _ _ _ _ us hl => match us, hl with | [_], _ => rfl) c_most_in_order ⟨L8.mono (by decide), trivial⟩
  have L12 : CalG P w K mg base 3 "is_ask" F_is_ask := cal_by (sealF_eq _) (N := N_is_ask) (ps := ["value"]) (k := 2) D12 G12 M (by kernel_rfl) (fun _ _ _ _ _ _ us hl => match us, hl with | [_], _ => rfl) c_is_ask ⟨L1.mono (by decide), trivial⟩
  have L13 : CalG P w K mg base 4 "check_asks" F_check_asks := cal_by (sealF_eq _) (N := N_check_asks) (ps := ["asks"]) (k := 3) D13 G13 M (by kernel_rfl) (fun _ _ _ _ _ _ us hl => match us, hl with | [_], _ => rfl) c_check_asks ⟨L12.mono (by decide), trivial⟩
  have L14 : CalG P w K mg base 1 "spans_for" F_spans_for := cal_by (sealF_eq _) (N := N_spans_for) (ps := ["life", "asks"]) (k := 0) D14 G14 M (by kernel_rfl) (fun _ _ _ _ _ _ us hl => match us, hl with | [_, _], _ => rfl) c_spans_for trivial
  have L15 : CalG P w K mg base 5 "granted_spans" F_granted_spans := cal_by (sealF_eq _) (N := N_granted_spans) (ps := ["life", "asks"]) (k := 4) D15 G15 M (by kernel_rfl) (fun _ _ _ _ _ _ us hl => match us, hl with | [_, _], _ => rfl) c_granted_spans ⟨L2.mono (by decide), L13.mono (by decide), L14.mono (by decide), trivial⟩
  have L16 : CalG P w K mg base 5 "cut_short" F_cut_short := cal_by (sealF_eq _) (N := N_cut_short) (ps := ["life", "asks"]) (k := 4) D16 G16 M (by kernel_rfl) (fun _ _ _ _ _ _ us hl => match us, hl with | [_, _], _ => rfl) c_cut_short ⟨L2.mono (by decide), L13.mono (by decide), trivial⟩
  have L17 : CalG P w K mg base 6 "longest_wait" F_longest_wait := cal_by (sealF_eq _) (N := N_longest_wait) (ps := ["life", "asks"]) (k := 5) D17 G17 M (by kernel_rfl) (fun _ _ _ _ _ _ us hl => match us, hl with | [_, _], _ => rfl) c_longest_wait ⟨L15.mono (by decide), trivial⟩
  have L18 : CalG P w K mg base 7 "greatest_life" F_greatest_life := cal_by (sealF_eq _) (N := N_greatest_life) (ps := ["asks", "most"]) (k := 6) D18 G18 M (by kernel_rfl) (fun _ _ _ _ _ _ us hl => match us, hl with | [_, _], _ => rfl) c_greatest_life ⟨L13.mono (by decide), L1.mono (by decide), L17.mono (by decide), trivial⟩
  have L19 : CalG P w K mg base 7 "accept_life" F_accept_life := cal_by (sealF_eq _) (N := N_accept_life) (ps := ["asks", "most", "life", "at"]) (k := 6) D19 G19 M (by kernel_rfl) (fun _ _ _ _ _ _ us hl => match us, hl with | [_, _, _, _], _ => rfl) c_accept_life ⟨L13.mono (by decide), L1.mono (by decide), L17.mono (by decide), L14.mono (by decide), trivial⟩
  have L20 : CalG P w K mg base 1 "_law_start" F__law_start := cal_by (sealF_eq _) (N := N__law_start) (ps := ["script"]) (k := 0) D20 G20 M (by kernel_rfl) (fun _ _ _ _ _ _ us hl => match us, hl with | [_], _ => rfl) c__law_start trivial
  have L21 : CalG P w K mg base 1 "_law_draw" F__law_draw := cal_by (sealF_eq _) (N := N__law_draw) (ps := ["state", "many"]) (k := 0) D21 G21 M (by kernel_rfl) (fun _ _ _ _ _ _ us hl => match us, hl with | [_, _], _ => rfl) c__law_draw trivial
  have L22 : CalG P w K mg base 2 "_law_pick" F__law_pick := cal_by (sealF_eq _) (N := N__law_pick) (ps := ["state", "some"]) (k := 1) D22 G22 M (by kernel_rfl) (fun _ _ _ _ _ _ us hl => match us, hl with | [_, _], _ => rfl) c__law_pick ⟨L21.mono (by decide), trivial⟩
  have L23 : CalG P w K mg base 1 "_law_same" F__law_same := cal_by (sealF_eq _) (N := N__law_same) (ps := ["actual", "due"]) (k := 0) D23 G23 M (by kernel_rfl) (fun _ _ _ _ _ _ us hl => match us, hl with | [_, _], _ => rfl) c__law_same trivial
  have L24 : CalG P w K mg base 1 "_law_sets" F__law_sets := cal_by (sealF_eq _) (N := N__law_sets) (ps := ["rows"]) (k := 0) D24 G24 M (by kernel_rfl) (fun _ _ _ _ _ _ us hl => match us, hl with | [_], _ => rfl) c__law_sets trivial
  have L25 : CalG P w K mg base 1 "_law_falling" F__law_falling := cal_by (sealF_eq _) (N := N__law_falling) (ps := ["numbers"]) (k := 0) D25 G25 M (by kernel_rfl) (fun _ _ _ _ _ _ us hl => match us, hl with | [_], _ => rfl) c__law_falling trivial
  have L26 : CalG P w K mg base 5 "_law_writes_hold" F__law_writes_hold := cal_by (sealF_eq _) (N := N__law_writes_hold) (ps := ["state"]) (k := 4) D26 G26 M (by kernel_rfl) (fun _ _ _ _ _ _ us hl => match us, hl with | [_], _ => rfl) c__law_writes_hold ⟨L21.mono (by decide), L11.mono (by decide), L9.mono (by decide), L24.mono (by decide), L23.mono (by decide), L10.mono (by decide), L25.mono (by decide), trivial⟩
  have L27 : CalG P w K mg base 8 "_law_asks_hold" F__law_asks_hold := cal_by (sealF_eq _) (N := N__law_asks_hold) (ps := ["state"]) (k := 7) D27 G27 M (by kernel_rfl) (fun _ _ _ _ _ _ us hl => match us, hl with | [_], _ => rfl) c__law_asks_hold ⟨L21.mono (by decide), L22.mono (by decide), L15.mono (by decide), L23.mono (by decide), L17.mono (by decide), L16.mono (by decide), L18.mono (by decide), L19.mono (by decide), trivial⟩
  have L28 : CalG P w K mg base 6 "_law_leases_hold" F__law_leases_hold := cal_by (sealF_eq _) (N := N__law_leases_hold) (ps := ["state"]) (k := 5) D28 G28 M (by kernel_rfl) (fun _ _ _ _ _ _ us hl => match us, hl with | [_], _ => rfl) c__law_leases_hold ⟨L21.mono (by decide), L6.mono (by decide), L23.mono (by decide), L7.mono (by decide), trivial⟩
  exact fng_by (sealF_eq _) (N := N_law) (ps := ["script"]) (k := 8) D29 G29 M (by kernel_rfl) c_law ⟨L20.mono (by decide), L26.mono (by decide), L27.mono (by decide), L28.mono (by decide), trivial⟩
end K72
open PySem PySem.W PySem.Calls PyProof.Rows
theorem K72.holds (hF : ∀ ns : List Int, ns.length ≤ 63 → K72.F_law [.ro (ns.map .int)] [] = some (.d (.bool true), [])) : PySem.Challenge.rw_doneorundone_k72_whole_writes_and_waits.Holds := by
  w_on; o_law
  refine HandSHeadRun.head_any (r := OpenLaw.row PySem.Challenge.rw_doneorundone_k72_whole_writes_and_waits) (q := view (OpenLaw.row PySem.Challenge.rw_doneorundone_k72_whole_writes_and_waits).prog [39]) (H := K72.hkL) (ob := K72.obL) (M := 6000) (loose := K72.looseL) (d := HandSHeadRun.topDef (OpenLaw.row PySem.Challenge.rw_doneorundone_k72_whole_writes_and_waits).prog 39) (kwd := []) K72.obL_eq
    (by kernel_rfl) (fun s => by kernel_rfl) K72.runL (by kernel_rfl) (by kernel_rfl) (by kernel_rfl) (by rfl) (by first | assumption | decide +kernel) (by decide +kernel) ⟨rfl, rfl, rfl, rfl, rfl, by decide +kernel⟩ ?hw ?hc
  case hw => w_witness2
  case hc =>
    refine Gg.walk_law (l := PySem.Challenge.rw_doneorundone_k72_whole_writes_and_waits) (n := 63) (k := 9) (x := "script") (F := K72.F_law) rfl (by decide) (by kernel_rfl) ⟨rfl, by decide, by decide⟩ ?F hF
    intro w mg fL h Y G hmg0
    obtain ⟨K, KX, c, c2⟩ := Y
    have hmg : mg ("law" : PySem.Str) = some (.ref fL) := by
      have e : (HandSHeadRun.topDef (OpenLaw.row PySem.Challenge.rw_doneorundone_k72_whole_writes_and_waits).prog 39).name = ("law" : PySem.Str) := by kernel_rfl
      rw [← e]
      exact hmg0
    obtain ⟨fd, hb, hF2⟩ := K72.factsL (P := (PySem.Challenge.rw_doneorundone_k72_whole_writes_and_waits).prog) (w := w) KX G hmg c c2
    exact ⟨K, fd, KX, hb, hF2⟩

end
section
/-! K72a: the numbers drawn. -/
namespace K72
open PySem Gg
theorem draw_ok : Draws F__law_draw := by
  intro n st many h h1 h2
  obtain ⟨cs, i, b, c, d, e, rfl, p1, p2, p3, p4, p5, p6, p7, p8, p9⟩ := h.ex
  have hl : many.natAbs.log2 < 9000 := by
    have := log2_lt_of (n := many.natAbs) (k := 61) (by omega)
    omega
  have h0 : 0 < many := by omega
  have m0 : ∀ x : Int, 0 ≤ x % many ∧ x % many < many := fun x => ⟨Int.emod_nonneg _ (by omega), Int.emod_lt_of_pos _ h0⟩
  have d0 : ∀ x : Int, 0 ≤ x → 0 ≤ x / many := fun x hx => Int.ediv_nonneg hx (by omega)
  by_cases hc : c = 0
  · subst hc
    by_cases hi : i < cs.length
    · have q1 : ixPos cs.length i = some i.toNat := ixPos_of p2 hi
      have hi2 : i.toNat < cs.length := by omega
      have q2 : cs[i.toNat]? = some cs[i.toNat] := List.getElem?_eq_getElem hi2
      have q3 : 0 ≤ cs[i.toNat] := p1 _ (List.getElem_mem hi2)
      by_cases hz : 0 < cs[i.toNat] / many
      · simp [F__law_draw, mkFn, B__law_draw, stD, hi, q1, q2, h0, hl, hz]
        exact ⟨_, _, ⟨rfl, rfl⟩, (m0 _).1, (m0 _).2, ⟨cs, i + 1, _, 59, d, e, rfl, p1, by omega, by omega, by omega, by omega, p6, p7, p8, by omega⟩⟩
      · simp [F__law_draw, mkFn, B__law_draw, stD, hi, q1, q2, h0, hl, hz]
        exact ⟨_, _, ⟨rfl, rfl⟩, (m0 _).1, (m0 _).2, ⟨cs, i + 1, _, 0, d, e, rfl, p1, by omega, d0 _ q3, by omega, by omega, p6, p7, p8, by omega⟩⟩
    · have f1 : mulFits d 48271 := sm_mul (by unfold sm; omega) (by unfold sm; omega)
      have f2 : mulFits (e + 1) (e + 1) := sm_mul (by unfold sm; omega) (by unfold sm; omega)
      have f3 : mulFits ((e + 1) * (e + 1)) 69621 := by
        refine mulFits_of (a := 124) (b := 61) ?_ (by omega) (by omega)
        rw [Int.natAbs_mul]
        have : (e + 1).natAbs < 2 ^ 62 := by omega
        calc (e + 1).natAbs * (e + 1).natAbs < 2 ^ 62 * 2 ^ 62 := Nat.mul_lt_mul'' this this
          _ ≤ 2 ^ 125 := by decide
      have f4 : Nat.log2 13 < 9000 := by decide
      simp [F__law_draw, mkFn, B__law_draw, stD, hi, h0, hl, f1, f2, f3, f4]
      refine ⟨_, _, ⟨rfl, rfl⟩, (m0 _).1, (m0 _).2, ⟨cs, i, b, 0, _, e + 1, rfl, p1, p2, p3, by omega, by omega, ?_, ?_, by omega, by omega⟩⟩ <;> omega
  · have hc2 : 0 < c := by omega
    by_cases hz : 0 < b / many
    · simp [F__law_draw, mkFn, B__law_draw, stD, hc, hc2, h0, hl, hz]
      exact ⟨_, _, ⟨rfl, rfl⟩, (m0 _).1, (m0 _).2, ⟨cs, i, _, c - 1, d, e, rfl, p1, p2, by omega, by omega, by omega, p6, p7, p8, by omega⟩⟩
    · simp [F__law_draw, mkFn, B__law_draw, stD, hc, hc2, h0, hl, hz]
      exact ⟨_, _, ⟨rfl, rfl⟩, (m0 _).1, (m0 _).2, ⟨cs, i, _, 0, d, e, rfl, p1, p2, d0 _ p3, by omega, by omega, p6, p7, p8, by omega⟩⟩
end K72

end
section
/-! K72b: small defs. -/
namespace K72
open PySem Gg
theorem is_integer_i (a : Int) : F_is_integer [.d (.int a)] [] = some (.d (.bool true), []) := by
  simp [F_is_integer, mkFn, B_is_integer]
theorem is_between_i (a b c : Int) : F_is_between [.d (.int a), .d (.int b), .d (.int c)] [] = some (.d (.bool (decide (b ≤ a ∧ a ≤ c))), []) := by
  simp [F_is_between, mkFn, B_is_between, is_integer_i]
  split
  · simp_all
  · simp; omega
theorem check_life_ok (a : Int) (h : 1 ≤ a ∧ a ≤ 1000000000000) : F_check_life [.d (.int a)] [] = some (.d .none, []) := by
  simp [F_check_life, mkFn, B_check_life, is_between_i, h]
theorem same_ok {n B : Nat} {x : PyData} (h : Nice n B x) (hn : n ≤ DEEP) (hB : B ≤ 16000000) : F__law_same [.d x, .d x] [] = some (.d (.bool true), []) := by
  simp [F__law_same, mkFn, B__law_same, eqD_self h hn, repr_same (show_nice h hn hB), eqD_txt]
abbrev nv (l : List Int) : PyData := .tuple (l.map .int)
/-- numbers that writes may bear -/
def NOk (l : List Int) : Prop := l.length ≤ 60 ∧ ∀ v ∈ l, 0 ≤ v ∧ v ≤ 1000000000000
theorem check_numbers_ok {l : List Int} (h : NOk l) : F_check_numbers [.d (nv l)] [] = some (.d .none, []) := by
  refine wO.get (w_fn rfl rfl ?_)
  have h1 : ((l.length : Nat) : Int) ≤ 60 := by have := h.1; omega
  have h2 : ¬ (60 < ((l.length : Nat) : Int)) := by omega
  have h3 : l.length ≤ 1000000 := by have := h.1; omega
  simp [↓B_check_numbers, h2, h3]
  refine w_each (fun _ => .bool true) (fun i hi => ?_) ?_
  · have := h.2 i hi
    simp [e1_check_numbers, is_between_i, this]
  · have ha := bAll_map (f := fun _ : Int => true) l
    simp [ha]
/-- an ask -/
structure Ask where
  t : Int
  need : Int
  fr : Bool
def wd (b : Bool) : PyData := if b then .str "frees" else .str "dies"
def av (a : Ask) : PyData := .tuple [.int a.t, .int a.need, wd a.fr]
abbrev asv (l : List Ask) : PyData := .tuple (l.map av)
theorem in_frees : inD (.str "frees") (.tuple [.str "frees", .str "dies"]) = some (.bool true) := by kernel_rfl
theorem in_dies : inD (.str "dies") (.tuple [.str "frees", .str "dies"]) = some (.bool true) := by kernel_rfl
def AOk (a : Ask) : Prop := (0 ≤ a.t ∧ a.t ≤ 1000000000000) ∧ 0 ≤ a.need ∧ a.need ≤ 1000000000000
theorem is_ask_ok {a : Ask} (h : AOk a) : F_is_ask [.d (av a)] [] = some (.d (.bool true), []) := by
  obtain ⟨t, n, b⟩ := a
  obtain ⟨h1, h2⟩ := h
  simp at h1 h2
  cases b <;> simp [F_is_ask, mkFn, B_is_ask, is_between_i, av, wd, in_frees, in_dies, h1, h2]
/-- asks in order of time -/
structure AsOk (l : List Ask) : Prop where
  len : l.length ≤ 60
  ok : ∀ a ∈ l, AOk a
  ord : ∀ (i : Nat) (a b : Ask), l[i]? = some a → l[i + 1]? = some b → a.t ≤ b.t
theorem check_asks_ok {l : List Ask} (h : AsOk l) : F_check_asks [.d (asv l)] [] = some (.d .none, []) := by
  refine wO.get (w_fn rfl rfl ?_)
  have hl := h.len
  have h2 : ¬ (60 < ((l.length : Nat) : Int)) := by omega
  have h3 : l.length ≤ 1000000 := by omega
  simp [↓B_check_asks, h2, h3]
  refine w_each (fun _ => .bool true) (fun i hi => ?_) ?_
  · simp [e1_check_asks, is_ask_ok (h.ok i hi)]
  · have ha := bAll_map (f := fun _ : Ask => true) l
    have hr : rngOk ((l.length : Int) - 1) = true := rng_of (by omega)
    simp [ha, hr]
    refine ⟨by omega, w_range0 (fun i hi => ?_) ?_⟩
    · have hi1 : i < l.length := by omega
      have hi2 : i + 1 < l.length := by omega
      have p1 : ixPos l.length (i : Int) = some i := ixPos_nat hi1
      have p2 : ixPos l.length ((i : Int) + 1) = some (i + 1) := ixPos_nat (k := i + 1) hi2
      have g1 := List.getElem?_eq_getElem hi1
      have g2 := List.getElem?_eq_getElem hi2
      have := h.ord i _ _ g1 g2
      have : ¬ (l[i + 1].t < l[i].t) := by omega
      simp [t1_check_asks, p1, p2, g1, g2, av, this]
    · simp
end K72

end
section
/-! K72c: the most writes in order. -/
namespace K72
open PySem Gg
/-- r: a row of writes in order -/
structure Good (l : List Int) (r : List Nat) : Prop where
  up : r.Pairwise (· < ·)
  lt : ∀ i ∈ r, i < l.length
  inc : r.Pairwise fun i j => vl l i ≤ vl l j
def rI (r : List Nat) : List Int := r.map fun i => ((i : Nat) : Int)
abbrev rD (r : List Nat) : PyData := .tuple (r.map fun i => .int ((i : Nat) : Int))
def kd (r : List Nat) : PyData := .tuple [.int (-(r.length : Int)), rD r]
theorem rD_eq (r : List Nat) : rD r = .tuple ((rI r).map .int) := by
  show PyData.tuple (r.map _) = PyData.tuple ((r.map _).map _)
  rw [List.map_map]; rfl
theorem rI_inj {r s : List Nat} (h : rI r = rI s) : r = s := by
  unfold rI at h
  exact List.map_inj_right (f := fun i : Nat => ((i : Nat) : Int)) (fun a b h => Int.ofNat_inj.mp h) |>.mp h
theorem rD_inj {r s : List Nat} (h : rD r = rD s) : r = s := by
  rw [rD_eq, rD_eq] at h
  injection h with h
  exact rI_inj (List.map_inj_right (f := PyData.int) (fun a b h => by simpa using h) |>.mp h)
theorem gd_rD (r : List Nat) : gd 59 (rD r) = true := by simp
theorem kd_lt (r s : List Nat) : dl (kd r) (kd s) = decide (s.length < r.length ∨ (r.length = s.length ∧ rI r < rI s)) := by
  have ha : PySem.W.alike (rD r) (rD s) = true := by
    rw [rD_eq, rD_eq]
    show PySem.W.alikeAll _ _ = true
    exact PySem.W.alike_ints _ _
  have hv := eqv_iff 59 (rD r) (rD s) (gd_rD r) (gd_rD s)
  have h1 : PySem.W.dataLt (rD r) (rD s) = decide (rI r < rI s) := by
    rw [rD_eq, rD_eq, PySem.W.dataLt_tuple]
    exact PySem.W.dataLt_ints _ _
  unfold dl kd
  rw [PySem.W.dataLt_pair (by simp [PySem.W.alike]) ha, h1, PySem.W.dataLt_int]
  have ei : (PyData.eqv (.int (-(r.length : Int))) (.int (-(s.length : Int))) = true) ↔ r.length = s.length := by simp [PyData.eqv]; omega
  by_cases hl : r.length = s.length
  · rw [if_pos (ei.mpr hl)]
    by_cases he : r = s
    · subst he
      rw [if_pos (hv.mpr rfl)]
      rw [eq_comm, decide_eq_false_iff_not]
      rintro (h | ⟨_, h⟩)
      · omega
      · exact List.lt_irrefl _ h
    · rw [if_neg (fun z => he (rD_inj (hv.mp z)))]
      rw [decide_eq_decide]
      constructor
      · exact fun h => .inr ⟨hl, h⟩
      · rintro (h | ⟨_, h⟩)
        · omega
        · exact h
  · rw [if_neg (fun z => hl (ei.mp z)), decide_eq_decide]
    constructor
    · intro h; left; omega
    · rintro (h | ⟨h, _⟩)
      · omega
      · exact absurd h hl
theorem kd_cons (a : Nat) (r s : List Nat) : dl (kd (a :: r)) (kd (a :: s)) = dl (kd r) (kd s) := by
  rw [kd_lt, kd_lt, decide_eq_decide]
  unfold rI
  simp [List.cons_lt_cons_iff]
theorem kd_tot {r s : List Nat} (h1 : dl (kd r) (kd s) = false) (h2 : dl (kd s) (kd r) = false) : r = s := by
  rw [kd_lt, decide_eq_false_iff_not] at h1 h2
  have hl : r.length = s.length := by
    by_cases h : s.length < r.length
    · exact absurd (.inl h) h1
    · by_cases h' : r.length < s.length
      · exact absurd (.inl h') h2
      · omega
  have g1 : ¬ rI r < rI s := fun z => h1 (.inr ⟨hl, z⟩)
  have g2 : ¬ rI s < rI r := fun z => h2 (.inr ⟨hl.symm, z⟩)
  exact rI_inj (List.le_antisymm (List.not_lt.mp g2) (List.not_lt.mp g1))
theorem kd_short {r s : List Nat} (h : s.length < r.length) : dl (kd s) (kd r) = false := by
  rw [kd_lt, decide_eq_false_iff_not]
  rintro (h' | ⟨h', _⟩) <;> omega
def Least (S : List Nat → Prop) (r : List Nat) : Prop := S r ∧ ∀ s, S s → dl (kd s) (kd r) = false
theorem Least.uniq {S : List Nat → Prop} {r s : List Nat} (h : Least S r) (h2 : Least S s) : r = s := kd_tot (h2.2 r h.1) (h.2 s h2.1)
def From (l : List Int) (k : Nat) (r : List Nat) : Prop := Good l r ∧ ∃ t, r = k :: t
theorem good_nil (l : List Int) : Good l [] := ⟨.nil, fun _ h => (by cases h), .nil⟩
theorem good_one {l : List Int} {k : Nat} (h : k < l.length) : Good l [k] := ⟨List.pairwise_singleton _ _, fun i hi => by rw [List.mem_singleton.mp hi]; exact h, List.pairwise_singleton _ _⟩
theorem good_tail {l : List Int} {k : Nat} {t : List Nat} (h : Good l (k :: t)) : Good l t := ⟨(List.pairwise_cons.mp h.up).2, fun i hi => h.lt i (List.mem_cons_of_mem _ hi), (List.pairwise_cons.mp h.inc).2⟩
theorem good_cons {l : List Int} {k j : Nat} {t : List Nat} (h : Good l (j :: t)) (h1 : k < j) (h2 : vl l k ≤ vl l j) : Good l (k :: j :: t) := by
  have a := List.pairwise_cons.mp h.up
  have b := List.pairwise_cons.mp h.inc
  refine ⟨List.pairwise_cons.mpr ⟨fun i hi => ?_, h.up⟩, fun i hi => ?_, List.pairwise_cons.mpr ⟨fun i hi => ?_, h.inc⟩⟩
  · rcases List.mem_cons.mp hi with rfl | hi
    · exact h1
    · have := a.1 i hi; omega
  · have := h.lt j List.mem_cons_self
    rcases List.mem_cons.mp hi with rfl | hi
    · omega
    · exact h.lt i hi
  · rcases List.mem_cons.mp hi with rfl | hi
    · exact h2
    · have := b.1 i hi; omega
theorem up_len {n : Nat} : ∀ {r : List Nat} {a : Nat}, r.Pairwise (· < ·) → (∀ i ∈ r, a ≤ i ∧ i < n) → r.length ≤ n - a
  | [], _, _, _ => Nat.zero_le _
  | x :: r, a, h, hb => by
    have h1 := List.pairwise_cons.mp h
    have := hb x List.mem_cons_self
    have ih := up_len (n := n) (a := x + 1) h1.2 fun i hi => ⟨h1.1 i hi, (hb i (List.mem_cons_of_mem _ hi)).2⟩
    rw [List.length_cons]; omega
theorem good_len {l : List Int} {r : List Nat} (h : Good l r) : r.length ≤ l.length := by
  have := up_len (n := l.length) (a := 0) h.up fun i hi => ⟨Nat.zero_le _, h.lt i hi⟩
  omega
/-- the rows that begin behind k -/
structure Rows (l : List Int) (k : Nat) (R : List (List Nat)) : Prop where
  of : ∀ r ∈ R, ∃ j, k ≤ j ∧ j < l.length ∧ Least (From l j) r
  all : ∀ j, k ≤ j → j < l.length → ∃ r ∈ R, Least (From l j) r
/-- those that one may go on with -/
def fur (l : List Int) (k : Nat) (r : List Nat) : Bool := decide (vl l k ≤ vl l (r.headD 0))
theorem step_none {l : List Int} {k : Nat} {R : List (List Nat)} (hR : Rows l (k + 1) R) (hk : k < l.length) (h : R.filter (fur l k) = []) : Least (From l k) [k] := by
  refine ⟨⟨good_one hk, [], rfl⟩, fun s hs => ?_⟩
  obtain ⟨hg, t, rfl⟩ := hs
  cases t with
  | nil => exact dl_irrefl _
  | cons j t =>
    have h1 := (List.pairwise_cons.mp hg.up).1 j List.mem_cons_self
    have h2 := (List.pairwise_cons.mp hg.inc).1 j List.mem_cons_self
    obtain ⟨r, hr, hl⟩ := hR.all j (by omega) (hg.lt j (by simp))
    obtain ⟨⟨_, t', rfl⟩, _⟩ := hl
    have : (j :: t') ∈ R.filter (fur l k) := List.mem_filter.mpr ⟨hr, by simp [fur, h2]⟩
    rw [h] at this; cases this
theorem step_some {l : List Int} {k : Nat} {R : List (List Nat)} {m : List Nat} (hR : Rows l (k + 1) R) (hk : k < l.length) (hm : m ∈ R.filter (fur l k)) (hl : ∀ s ∈ R.filter (fur l k), dl (kd s) (kd m) = false) : Least (From l k) (k :: m) := by
  obtain ⟨m1, m2⟩ := List.mem_filter.mp hm
  obtain ⟨j, j1, j2, ⟨jg, t, rfl⟩, jl⟩ := hR.of m m1
  have hv : vl l k ≤ vl l j := by simpa [fur] using m2
  refine ⟨⟨good_cons jg (by omega) hv, _, rfl⟩, fun s hs => ?_⟩
  obtain ⟨hg, u, rfl⟩ := hs
  rw [kd_cons]
  cases u with
  | nil => exact kd_short (by simp)
  | cons i u =>
    have h1 := (List.pairwise_cons.mp hg.up).1 i List.mem_cons_self
    have h2 := (List.pairwise_cons.mp hg.inc).1 i List.mem_cons_self
    obtain ⟨r, hr, hrl⟩ := hR.all i (by omega) (hg.lt i (by simp))
    have a1 := hrl.2 (i :: u) ⟨good_tail hg, u, rfl⟩
    obtain ⟨⟨_, t', rfl⟩, _⟩ := hrl
    exact dl_neg (hl _ (List.mem_filter.mpr ⟨hr, by simp [fur, h2]⟩)) a1
theorem rows_step {l : List Int} {k : Nat} {R : List (List Nat)} {r : List Nat} (hR : Rows l (k + 1) R) (hk : k < l.length) (h : Least (From l k) r) : Rows l k (R ++ [r]) := by
  refine ⟨fun s hs => ?_, fun j h1 h2 => ?_⟩
  · rcases List.mem_append.mp hs with hs | hs
    · obtain ⟨j, a, b⟩ := hR.of s hs; exact ⟨j, by omega, b⟩
    · rw [List.mem_singleton.mp hs]; exact ⟨k, Nat.le_refl _, hk, h⟩
  · by_cases e : j = k
    · subst e; exact ⟨r, by simp, h⟩
    · obtain ⟨s, a, b⟩ := hR.all j (by omega) h2
      exact ⟨s, by simp [a], b⟩
/-- the first of the longest rows -/
abbrev Best (l : List Int) (r : List Nat) : Prop := Least (Good l) r
theorem best_of {l : List Int} {R : List (List Nat)} {m : List Nat} (hR : Rows l 0 R) (hm : m ∈ R) (hl : ∀ s ∈ R, dl (kd s) (kd m) = false) : Best l m := by
  obtain ⟨j, _, _, ⟨jg, t, rfl⟩, _⟩ := hR.of m hm
  refine ⟨jg, fun s hs => ?_⟩
  cases s with
  | nil => exact kd_short (by simp)
  | cons i u =>
    obtain ⟨r, hr, hrl⟩ := hR.all i (by omega) (hs.lt i (by simp))
    exact dl_neg (hl r hr) (hrl.2 _ ⟨hs, u, rfl⟩)
theorem best_nil : Best [] [] := by
  refine ⟨good_nil _, fun s hs => ?_⟩
  cases s with
  | nil => exact dl_irrefl _
  | cons i u => exact absurd (hs.lt i (by simp)) (by simp)
/-- the first of the least rows -/
theorem min_rows {r : List Nat} {R : List (List Nat)} : ∃ m ∈ r :: R, bMin [.list ((r :: R).map kd)] = some (kd m) ∧ ∀ s ∈ r :: R, dl (kd s) (kd m) = false := by
  have al : alikeL ((r :: R).map kd) = true := by
    refine alikeL_of (fun a _ b _ => ?_) (fun a _ => rfl) (fun a _ => gd_plain DEEP _ (by simp [kd]))
    show PySem.W.alikeAll [_, _] [_, _] = true
    simp [PySem.W.alikeAll, PySem.W.alike]
    have := PySem.W.alike_ints (rI a) (rI b)
    unfold rI at this
    rw [List.map_map, List.map_map] at this
    exact this
  rw [List.map_cons] at al ⊢
  obtain ⟨h1, h2⟩ := minD_spec (R.map kd) (kd r)
  rw [← List.map_cons] at h1 h2
  obtain ⟨m, hm, he⟩ := List.mem_map.mp h1
  refine ⟨m, hm, ?_, fun s hs => ?_⟩
  · rw [bMin_data (fun i h => by cases h) al, he]
  · rw [he]; exact h2 _ (List.mem_map.mpr ⟨s, hs, rfl⟩)
theorem most_ok {l : List Int} (h : NOk l) : ∃ r, Best l r ∧ F_most_in_order [.d (nv l)] [] = some (.d (rD r), []) := by
  suffices H : wO (F_most_in_order [.d (nv l)] []) fun y => ∃ r, Best l r ∧ y = (.d (rD r), []) by
    obtain ⟨y, h1, r, h2, rfl⟩ := H
    exact ⟨r, h2, h1⟩
  have hl := h.1
  refine w_fn rfl rfl ?_
  simp [↓B_most_in_order, check_numbers_ok h]
  refine w_rng3 ?_
  simp
  refine ⟨rng_of (by omega), rng_of (by omega), ?_⟩
  refine w_forI (fun i e m => ∃ (R : List (List Nat)) (x2 x3 : Option LV), Rows l (l.length - i) R ∧ R.length = i ∧ m = [.lst (R.map fun r => .d (rD r))] ∧ e = [some (.d (nv l)), some (.ref 0), x2, x3, none]) ?_ ?_ ?_
  · exact ⟨[], none, none, ⟨fun r hr => (by cases hr), fun j h1 h2 => (by omega)⟩, rfl, rfl, rfl⟩
  · rintro i x e m hx ⟨R, x2, x3, hR, hRl, rfl, rfl⟩
    obtain ⟨hi, rfl⟩ := downFrom_get hx
    have hi : i < l.length := by omega
    obtain ⟨k, hk⟩ : ∃ k : Nat, k + i + 1 = l.length := ⟨l.length - i - 1, by omega⟩
    have hk0 : k < l.length := by omega
    have ek : ((l.length : Int) - 1 - (i : Int)) = (k : Nat) := by omega
    have hR : Rows l (k + 1) R := by rw [show k + 1 = l.length - i by omega]; exact hR
    rw [ek]
    simp [↓b1_most_in_order]
    have p1 : ixPos l.length (k : Int) = some k := ixPos_nat hk0
    have g1 := get_vl hk0
    refine w_cellS (g := fun r => LV.d (rD r)) (l := R) (fur l k) (fun r => .d (kd r)) rfl (by show R.length ≤ 1000000; omega) (fun r hr => ?_) ?_
    · obtain ⟨j, j1, j2, ⟨jg, t, rfl⟩, _⟩ := hR.of r hr
      have p2 : ixPos l.length (j : Int) = some j := ixPos_nat j2
      have g2 := get_vl j2
      simp [t1_most_in_order, e1_most_in_order, p1, g1, p2, g2, fur, kd]
    · cases q : R.filter (fur l k) with
      | nil =>
        simp [p1]
        refine ⟨by omega, R ++ [[k]], ?_, ?_, ?_⟩
        · rw [show l.length - (i + 1) = k by omega]
          exact rows_step hR hk0 (step_none hR hk0 q)
        · simp; omega
        · simp
      | cons r0 R0 =>
        obtain ⟨m, m1, m2, m3⟩ := min_rows (r := r0) (R := R0)
        have hb : bMin [.list (kd r0 :: R0.map kd)] = some (kd m) := m2
        have hmR : m ∈ R := (List.mem_filter.mp (q ▸ m1)).1
        obtain ⟨j, _, _, ⟨jg, _⟩, _⟩ := hR.of m hmR
        have hml := good_len jg
        simp [hb]
        rw [kd]
        simp
        refine ⟨by omega, by omega, R ++ [k :: m], ?_, ?_, ?_⟩
        · rw [show l.length - (i + 1) = k by omega]
          exact rows_step hR hk0 (step_some hR hk0 (q ▸ m1) (q ▸ m3))
        · simp; omega
        · simp
  · rintro e m ⟨R, x2, x3, hR, hRl, rfl, rfl⟩
    simp at hRl hR
    cases R with
    | nil =>
      have : l = [] := List.length_eq_zero_iff.mp (by simpa using hRl.symm)
      subst this
      simp
      exact best_nil
    | cons r0 R0 =>
      simp
      obtain ⟨m, m1, m2, m3⟩ := min_rows (r := r0) (R := R0)
      have hb : bMin [.list (kd r0 :: R0.map kd)] = some (kd m) := m2
      refine w_cellS (g := fun r => LV.d (rD r)) (l := r0 :: R0) (fun _ => true) (fun r => .d (kd r)) rfl (by show (r0 :: R0).length ≤ 1000000; omega) (fun r hr => ?_) ?_
      · simp [e2_most_in_order, kd]
      · have hf : ∀ L : List (List Nat), L.filter (fun _ => true) = L := fun L => List.filter_eq_self.mpr fun _ _ => rfl
        simp [hb, hf]
        rw [kd]
        simp
        exact ⟨m, best_of hR m1 m3, rfl⟩
end K72

end
section
/-! K72d: rows found by all sets; what is late; what is taken. -/
namespace K72
open PySem Gg
/-! ### all sets -/
def sets : Nat → List (List Nat)
  | 0 => [[]]
  | n + 1 => sets n ++ (sets n).map fun r => r ++ [n]
theorem sets_len : ∀ n, (sets n).length = 2 ^ n
  | 0 => rfl
  | n + 1 => by rw [sets, List.length_append, List.length_map, sets_len n]; omega
theorem up_snoc {r : List Nat} {n : Nat} : (r ++ [n]).Pairwise (· < ·) ↔ r.Pairwise (· < ·) ∧ ∀ i ∈ r, i < n := by
  rw [List.pairwise_append]
  simp
theorem mem_sets : ∀ {n : Nat} {r : List Nat}, r ∈ sets n ↔ r.Pairwise (· < ·) ∧ ∀ i ∈ r, i < n
  | 0, r => by
    simp only [sets, List.mem_singleton]
    constructor
    · rintro rfl; exact ⟨.nil, fun _ h => by cases h⟩
    · rintro ⟨_, h⟩
      cases r with
      | nil => rfl
      | cons i r => exact absurd (h i List.mem_cons_self) (by omega)
  | n + 1, r => by
    rw [sets, List.mem_append, List.mem_map]
    constructor
    · rintro (h | ⟨s, h, rfl⟩)
      · obtain ⟨a, b⟩ := mem_sets.mp h
        exact ⟨a, fun i hi => by have := b i hi; omega⟩
      · obtain ⟨a, b⟩ := mem_sets.mp h
        refine ⟨up_snoc.mpr ⟨a, b⟩, fun i hi => ?_⟩
        rcases List.mem_append.mp hi with hi | hi
        · have := b i hi; omega
        · rw [List.mem_singleton.mp hi]; omega
    · rintro ⟨a, b⟩
      rcases List.eq_nil_or_concat r with rfl | ⟨s, i, rfl⟩
      · exact .inl (mem_sets.mpr ⟨.nil, fun _ h => by cases h⟩)
      · rw [List.concat_eq_append] at a b ⊢
        obtain ⟨a1, a2⟩ := up_snoc.mp a
        have hi := b i (by simp)
        by_cases e : i = n
        · subst e
          exact .inr ⟨s, mem_sets.mpr ⟨a1, a2⟩, rfl⟩
        · refine .inl (mem_sets.mpr ⟨a, fun j hj => ?_⟩)
          rcases List.mem_append.mp hj with hj | hj
          · have := a2 j hj; omega
          · rw [List.mem_singleton.mp hj]; omega
theorem sets_ok {n : Nat} (h : n ≤ 9) : F__law_sets [.d (.list ((List.range n).map fun i => .int ((i : Nat) : Int)))] [] = some (.d (.list ((sets n).map rD)), []) := by
  refine wO.get (w_fn rfl rfl ?_)
  simp [↓B__law_sets]
  refine w_forI (fun i e m => ∃ x2, m = [] ∧ e = [some (.d (.list ((List.range n).map fun i => .int ((i : Nat) : Int)))), some (.d (.list ((sets i).map rD))), x2, none]) ?_ ?_ ?_
  · exact ⟨none, rfl, rfl⟩
  · rintro i x e m hx ⟨x2, rfl, rfl⟩
    rw [List.getElem?_map] at hx
    by_cases hi : i < n
    · rw [List.getElem?_range hi] at hx
      cases hx
      have hs := sets_len i
      have hp : 2 ^ i ≤ 2 ^ 9 := Nat.pow_le_pow_right (by omega) (by omega)
      simp [↓b1__law_sets]
      refine ⟨by omega, w_each (g := fun r => LV.d (rD r)) (l := sets i) (fun r => rD (r ++ [i])) (fun r hr => ?_) ?_⟩
      · obtain ⟨a, b⟩ := mem_sets.mp hr
        have := up_len (n := i) (a := 0) a fun j hj => ⟨Nat.zero_le _, b j hj⟩
        simp [e1__law_sets]
        omega
      · simp [sets, hs, List.map_append, Function.comp_def]
        omega
    · rw [List.getElem?_eq_none (by simpa using hi)] at hx; cases hx
  · rintro e m ⟨x2, rfl, rfl⟩
    simp
theorem adj_pw {R : Nat → Nat → Prop} (tr : ∀ a b c, R a b → R b c → R a c) : ∀ {r : List Nat}, (∀ k (h : k + 1 < r.length), R r[k] r[k + 1]) → r.Pairwise R
  | [], _ => .nil
  | [x], _ => List.pairwise_singleton _ _
  | x :: y :: r, h => by
    have ih : (y :: r).Pairwise R := adj_pw tr fun k hk => by
      have := h (k + 1) (by simp at hk ⊢; omega)
      simpa using this
    refine List.pairwise_cons.mpr ⟨fun z hz => ?_, ih⟩
    have h0 := h 0 (by simp)
    simp at h0
    rcases List.mem_cons.mp hz with rfl | hz
    · exact h0
    · exact tr _ _ _ h0 ((List.pairwise_cons.mp ih).1 z hz)
/-- a fall between neighbours -/
def bad (l : List Int) (r : List Nat) (k : Nat) : Bool := decide (vl l (r.getD (k + 1) 0) < vl l (r.getD k 0))
def fine (l : List Int) (r : List Nat) : Bool := ((List.range (r.length - 1)).filter (bad l r)).isEmpty
theorem getD_of {r : List Nat} {k : Nat} (h : k < r.length) : r.getD k 0 = r[k] := by rw [List.getD_eq_getElem?_getD, List.getElem?_eq_getElem h]; rfl
theorem fine_iff {l : List Int} {r : List Nat} (h : r ∈ sets l.length) : fine l r = true ↔ Good l r := by
  obtain ⟨a, b⟩ := mem_sets.mp h
  unfold fine
  rw [List.isEmpty_iff, List.filter_eq_nil_iff]
  constructor
  · intro h
    refine ⟨a, b, adj_pw (R := fun i j => vl l i ≤ vl l j) (fun a b c h1 h2 => Int.le_trans h1 h2) fun k hk => ?_⟩
    have := h k (List.mem_range.mpr (by omega))
    unfold bad at this
    rw [getD_of hk, getD_of (by omega), decide_eq_true_eq] at this
    omega
  · intro h k hk
    have hk := List.mem_range.mp hk
    unfold bad
    rw [getD_of (by omega), getD_of (by omega), decide_eq_true_eq]
    have := List.pairwise_iff_getElem.mp h.inc k (k + 1) (by omega) (by omega) (by omega)
    omega
theorem sort_rows {R : List (List Nat)} (h : R ≠ []) : ∃ m ∈ R, ∃ rest, bSorted [.list (R.map kd)] = some (.list (kd m :: rest)) ∧ ∀ s ∈ R, dl (kd s) (kd m) = false := by
  cases R with
  | nil => exact absurd rfl h
  | cons r R =>
    have al : alikeL ((r :: R).map kd) = true := by
      refine alikeL_of (fun a _ b _ => ?_) (fun a _ => rfl) (fun a _ => gd_plain DEEP _ (by simp [kd]))
      show PySem.W.alikeAll [_, _] [_, _] = true
      simp [PySem.W.alikeAll, PySem.W.alike]
      have := PySem.W.alike_ints (rI a) (rI b)
      unfold rI at this
      rw [List.map_map, List.map_map] at this
      exact this
    have tb : (((r :: R).map kd).all tupB || ((r :: R).map kd).all noTup) = true := by
      rw [Bool.or_eq_true]; left
      rw [List.all_eq_true]
      intro x hx
      obtain ⟨a, _, rfl⟩ := List.mem_map.mp hx
      rfl
    obtain ⟨x, rest, h1, h2, h3⟩ := srt_head (xs := (r :: R).map kd) (by simp)
    obtain ⟨m, hm, rfl⟩ := List.mem_map.mp h2
    refine ⟨m, hm, rest, ?_, fun s hs => h3 _ (List.mem_map.mpr ⟨s, hs, rfl⟩)⟩
    rw [← h1]
    rw [List.map_cons] at al tb ⊢
    exact bSorted_data (fun i h => by cases h) al tb
/-! ### what is late -/
/-- the writes of a row ahead of one, with greater numbers -/
def ahd (l : List Int) (r : List Nat) (k : Nat) : List Nat := r.filter fun o => decide (o < k) && decide (vl l k < vl l o)
def lates (l : List Int) (r : List Nat) : List Nat := r.filter fun k => !(ahd l r k).isEmpty
def jwD (l : List Int) (r : List Nat) : PyData := match lates l r with
  | [] => .tuple [.str "in order"]
  | k :: _ => .tuple [.str "late", .int (k : Nat), .int (((ahd l r k).headD 0 : Nat) : Int)]
theorem up_take {r : List Nat} (h : r.Pairwise (· < ·)) {i k : Nat} (hi : r[i]? = some k) : r.take i = r.filter fun o => decide (o < k) := by
  obtain ⟨hlt, he⟩ := List.getElem?_eq_some_iff.mp hi
  have hs : r = r.take i ++ k :: r.drop (i + 1) := by rw [← he, ← List.drop_eq_getElem_cons hlt, List.take_append_drop]
  have hp := h
  rw [hs, List.pairwise_append] at hp
  obtain ⟨_, hp2, hp3⟩ := hp
  have hp2 := List.pairwise_cons.mp hp2
  conv => rhs; rw [hs]
  rw [List.filter_append, List.filter_cons]
  have e1 : (r.take i).filter (fun o => decide (o < k)) = r.take i := List.filter_eq_self.mpr fun a ha => decide_eq_true (hp3 a ha k List.mem_cons_self)
  have e2 : (r.drop (i + 1)).filter (fun o => decide (o < k)) = [] := List.filter_eq_nil_iff.mpr fun a ha => by
    have := hp2.1 a ha
    simp; omega
  rw [e1, e2]
  simp
theorem ahd_take {l : List Int} {r : List Nat} (h : r.Pairwise (· < ·)) {i k : Nat} (hi : r[i]? = some k) : (r.take i).filter (fun o => decide (vl l k < vl l o)) = ahd l r k := by
  rw [up_take h hi, List.filter_filter]
  unfold ahd
  congr 1; funext o; exact Bool.and_comm _ _
theorem filter_first {p : Nat → Bool} {r : List Nat} {i k : Nat} (hk : r[i]? = some k) (hno : ∀ a ∈ r.take i, p a = false) (hp : p k = true) : ∃ rest, r.filter p = k :: rest := by
  obtain ⟨hi, hke⟩ := List.getElem?_eq_some_iff.mp hk
  have hs : r = r.take i ++ k :: r.drop (i + 1) := by rw [← hke, ← List.drop_eq_getElem_cons hi, List.take_append_drop]
  refine ⟨(r.drop (i + 1)).filter p, ?_⟩
  conv => lhs; rw [hs]
  rw [List.filter_append, List.filter_cons, if_pos hp]
  have : (r.take i).filter p = [] := List.filter_eq_nil_iff.mpr fun a ha => by rw [hno a ha]; simp
  rw [this]; rfl
theorem judge_ok {l : List Int} {r : List Nat} (h : NOk l) (hu : r.Pairwise (· < ·)) (hr : ∀ i ∈ r, i < l.length) : F_judge_writes [.d (nv l), .d (rD r)] [] = some (.d (jwD l r), []) := by
  have hl := h.1
  have hrl := up_len (n := l.length) (a := 0) hu fun j hj => ⟨Nat.zero_le _, hr j hj⟩
  refine wO.get (w_fn rfl rfl ?_)
  simp [↓B_judge_writes, check_numbers_ok h]
  refine ⟨by omega, w_each (g := LV.d ∘ fun i : Nat => PyData.int ((i : Nat) : Int)) (fun _ => .bool true) (fun i hi => ?_) ?_⟩
  · have := hr i hi
    have h2 : (i : Int) ≤ (l.length : Int) - 1 := by omega
    simp [e1_judge_writes, is_between_i, h2]
  · have ha := bAll_map (f := fun _ : Nat => true) r
    have hr1 : rngOk ((r.length : Int) - 1) = true := rng_of (by omega)
    simp [ha, hr1]
    refine ⟨by omega, w_range0 (fun i hi => ?_) ?_⟩
    · have hi1 : i < r.length := by omega
      have hi2 : i + 1 < r.length := by omega
      have p1 : ixPos r.length (i : Int) = some i := ixPos_nat hi1
      have p2 : ixPos r.length ((i : Int) + 1) = some (i + 1) := ixPos_nat (k := i + 1) hi2
      have g1 := List.getElem?_eq_getElem hi1
      have g2 := List.getElem?_eq_getElem hi2
      have := List.pairwise_iff_getElem.mp hu i (i + 1) hi1 hi2 (by omega)
      have hn : ¬ (r[i + 1] ≤ r[i]) := by omega
      simp [t1_judge_writes, p1, p2, g1, g2, hn]
    · simp
      refine w_forI (fun i e m => ∃ x2 x3 x4, (∀ k ∈ r.take i, ahd l r k = []) ∧ m = [] ∧ e = [some (.d (nv l)), some (.d (rD r)), x2, x3, x4, none]) ?_ ?_ ?_
      · exact ⟨none, none, none, fun k hk => (by simp at hk), rfl, rfl⟩
      · rintro i x e m hx ⟨x2, x3, x4, hI, rfl, rfl⟩
        obtain ⟨k, hk, rfl⟩ := enum_get hx
        obtain ⟨hi, hke⟩ := List.getElem?_eq_some_iff.mp hk
        have hkl : k < l.length := hr k (List.mem_of_getElem? hk)
        have p1 : ixPos l.length (k : Int) = some k := ixPos_nat hkl
        have g1 := get_vl hkl
        have sl : slPart (r.map fun i : Nat => PyData.int ((i : Nat) : Int)) none (some ((i : Nat) : Int)) = (r.take i).map fun i : Nat => PyData.int ((i : Nat) : Int) := by rw [sl_to, List.map_take]
        simp [↓b1_judge_writes, pairD, sl]
        refine ⟨by omega, ?_⟩
        rw [← List.map_take]
        refine w_some (g := LV.d ∘ fun i : Nat => PyData.int ((i : Nat) : Int)) (l := r.take i) (fun o => decide (vl l k < vl l o)) (fun o => .int ((o : Nat) : Int)) (fun o ho => ?_) ?_
        · have hol : o < l.length := hr o (List.mem_of_mem_take ho)
          have p2 : ixPos l.length (o : Int) = some o := ixPos_nat hol
          have g2 := get_vl hol
          simp [t2_judge_writes, p1, p2, g1, g2]
        · rw [ahd_take hu hk]
          cases q : ahd l r k with
          | nil =>
            simp
            intro j hj
            rw [List.take_add_one, hk] at hj
            rcases List.mem_append.mp hj with hj | hj
            · exact hI j hj
            · simp at hj; subst hj; exact q
          | cons o rest =>
            simp
            obtain ⟨rest2, e1⟩ := filter_first (p := fun k => !(ahd l r k).isEmpty) hk (fun a ha => by rw [hI a ha]; rfl) (by rw [q]; rfl)
            have e1 : lates l r = k :: rest2 := e1
            unfold jwD
            rw [e1]
            simp [q]
      · rintro e m ⟨x2, x3, x4, hI, rfl, rfl⟩
        simp at hI
        have e1 : lates l r = [] := List.filter_eq_nil_iff.mpr fun a ha => by rw [hI a ha]; simp
        simp [jwD, e1]
theorem good_jw {l : List Int} {r : List Nat} (h : Good l r) : jwD l r = .tuple [.str "in order"] := by
  have e1 : lates l r = [] := List.filter_eq_nil_iff.mpr fun a ha => by
    have : ahd l r a = [] := List.filter_eq_nil_iff.mpr fun o ho => by
      rw [Bool.and_eq_true, decide_eq_true_eq, decide_eq_true_eq]
      rintro ⟨h1, h2⟩
      obtain ⟨i, hi, rfl⟩ := List.getElem_of_mem ha
      obtain ⟨j, hj, rfl⟩ := List.getElem_of_mem ho
      have hji : j < i := by
        by_cases e : i = j
        · subst e; omega
        · by_cases e2 : i < j
          · have := List.pairwise_iff_getElem.mp h.up i j hi hj e2; omega
          · omega
      have := List.pairwise_iff_getElem.mp h.inc j i hj hi hji
      omega
    rw [this]; simp
  simp [jwD, e1]
end K72

end
section
/-! K72e: what is taken; falling rows; piles. -/
namespace K72
open PySem Gg
/-! ### taken -/
/-- no number ahead is greater -/
def tpp (l : List Int) (i : Nat) : Bool := (List.range i).all fun j => decide (vl l j ≤ vl l i)
theorem tpp_iff {l : List Int} {i : Nat} : tpp l i = true ↔ ∀ j, j < i → vl l j ≤ vl l i := by
  unfold tpp
  rw [List.all_eq_true]
  constructor
  · intro h j hj; exact of_decide_eq_true (h j (List.mem_range.mpr hj))
  · intro h j hj; exact decide_eq_true (h j (List.mem_range.mp hj))
def tk (l : List Int) : List Nat := (List.range l.length).filter (tpp l)
theorem tk_good (l : List Int) : Good l (tk l) := by
  have up : (tk l).Pairwise (· < ·) := (List.pairwise_lt_range).sublist List.filter_sublist
  refine ⟨up, fun i hi => List.mem_range.mp (List.mem_filter.mp hi).1, ?_⟩
  rw [List.pairwise_iff_getElem] at up ⊢
  intro i j hi hj hij
  have h1 := up i j hi hj hij
  exact tpp_iff.mp (List.mem_filter.mp (List.getElem_mem hj)).2 _ h1
/-- the greatest number so far -/
def Most (l : List Int) (b : Int) (i : Nat) (v : Int) : Prop := (∀ j, j < i → vl l j ≤ v) ∧ (v = b ∨ ∃ j, j < i ∧ v = vl l j)
theorem most_top {l : List Int} {b v : Int} {i : Nat} (h : Most l b i v) (hb : b ≤ vl l i) : tpp l i = decide (v ≤ vl l i) := by
  rw [Bool.eq_iff_iff, tpp_iff, decide_eq_true_eq]
  constructor
  · intro g
    rcases h.2 with e | ⟨j, hj, e⟩
    · omega
    · have := g j hj; omega
  · intro g j hj
    have := h.1 j hj; omega
theorem most_step {l : List Int} {b v : Int} {i : Nat} (h : Most l b i v) : Most l b (i + 1) (max v (vl l i)) := by
  refine ⟨fun j hj => ?_, ?_⟩
  · by_cases e : j = i
    · subst e; omega
    · have := h.1 j (by omega); omega
  · rcases Int.le_total v (vl l i) with q | q
    · exact .inr ⟨i, by omega, by omega⟩
    · rcases h.2 with e | ⟨j, hj, e⟩
      · exact .inl (by omega)
      · exact .inr ⟨j, by omega, by omega⟩
theorem range_filter_succ {p : Nat → Bool} {i : Nat} : (List.range (i + 1)).filter p = (List.range i).filter p ++ if p i then [i] else [] := by
  rw [List.range_succ, List.filter_append]
  by_cases h : p i <;> simp [h]
theorem taken_ok {l : List Int} (h : NOk l) : F_taken_writes [.d (nv l)] [] = some (.d (rD (tk l)), []) := by
  have hl := h.1
  refine wO.get (w_fn rfl rfl ?_)
  simp [↓B_taken_writes, check_numbers_ok h]
  refine w_forI (fun i e m => ∃ v x3 x4, Most l (-1) i v ∧ m = [.lst (((List.range i).filter (tpp l)).map fun i => .d (.int ((i : Nat) : Int)))] ∧ e = [some (.d (nv l)), some (.ref 0), some (.d (.int v)), x3, x4]) ?_ ?_ ?_
  · exact ⟨-1, none, none, ⟨fun j hj => (by omega), .inl rfl⟩, rfl, rfl⟩
  · rintro i x e m hx ⟨v, x3, x4, hm, rfl, rfl⟩
    obtain ⟨z, hz, rfl⟩ := enum_get hx
    obtain ⟨hi, rfl⟩ := List.getElem?_eq_some_iff.mp hz
    have ez : l[i] = vl l i := (vl_get hi).symm
    have h0 := (h.2 _ (vl_mem hi)).1
    have ht := most_top hm (by omega)
    have hs := most_step hm
    rw [ez]
    simp [↓b1_taken_writes, pairD]
    split
    · rename_i hv
      refine ⟨?_, by rw [Int.max_eq_right hv] at hs; exact hs, ?_⟩
      · have := List.length_filter_le (tpp l) (List.range i)
        rw [List.length_range] at this; omega
      · rw [range_filter_succ, ht, decide_eq_true hv]
        simp
    · rename_i hv
      refine ⟨by rw [Int.max_eq_left (by omega)] at hs; exact hs, ?_⟩
      rw [range_filter_succ, ht, decide_eq_false hv]
      simp
  · rintro e m ⟨v, x3, x4, hm, rfl, rfl⟩
    simp [tk, Function.comp_def]
/-! ### falling rows -/
structure Chain (l : List Int) (k : Nat) (r : List Nat) : Prop where
  up : r.Pairwise (· < ·)
  lt : ∀ i ∈ r, i < k
  dec : r.Pairwise fun i j => vl l j < vl l i
def Falls (l : List Int) (k : Nat) (bs : List Int) : Prop := bs.length = k ∧ (∀ i, i < k → 1 ≤ vl bs i ∧ vl bs i ≤ i + 1) ∧ ∀ r i, i < k → Chain l i r → (∀ j ∈ r, vl l i < vl l j) → (r.length : Int) + 1 ≤ vl bs i
theorem vl_app {bs : List Int} {x : Int} {i : Nat} : vl (bs ++ [x]) i = if i < bs.length then vl bs i else if i = bs.length then x else 0 := by
  unfold vl
  rw [List.getD_eq_getElem?_getD, List.getD_eq_getElem?_getD]
  split
  · rw [List.getElem?_append_left (by omega)]
  · split
    · rename_i e; subst e; simp
    · rw [List.getElem?_eq_none (by simp; omega)]; rfl
theorem falls_step {l : List Int} {k : Nat} {bs : List Int} (h : Falls l k bs) : Falls l (k + 1) (bs ++ [1 + maxI 0 (((List.range k).filter fun o => decide (vl l k < vl l o)).map (vl bs))]) := by
  obtain ⟨h1, h2, h3⟩ := h
  obtain ⟨m1, m2, m3⟩ := maxI_spec' (((List.range k).filter fun o => decide (vl l k < vl l o)).map (vl bs)) 0
  refine ⟨by simp [h1], fun i hi => ?_, fun r i hi hc hd => ?_⟩
  · rw [vl_app]
    split
    · exact h2 i (by omega)
    · have e : i = k := by omega
      rw [if_pos (by omega)]
      subst e
      rcases m1 with m1 | m1
      · omega
      · obtain ⟨o, ho, e⟩ := List.mem_map.mp m1
        have := List.mem_range.mp (List.mem_filter.mp ho).1
        have := h2 o this
        omega
  · rw [vl_app]
    by_cases e : i < bs.length
    · rw [if_pos e]; exact h3 r i (by omega) hc hd
    · have e : i = k := by omega
      subst e
      rw [if_neg (by omega), if_pos h1.symm]
      rcases List.eq_nil_or_concat r with rfl | ⟨s, o, rfl⟩
      · simp; omega
      · rw [List.concat_eq_append] at *
        have ho := hc.lt o (by simp)
        have hv := hd o (by simp)
        have hu := List.pairwise_append.mp hc.up
        have hde := List.pairwise_append.mp hc.dec
        have := h3 s o ho ⟨hu.1, fun j hj => hu.2.2 j hj o (by simp), hde.1⟩ fun j hj => hde.2.2 j hj o (by simp)
        have hm := m3 (vl bs o) (List.mem_map.mpr ⟨o, List.mem_filter.mpr ⟨List.mem_range.mpr ho, decide_eq_true hv⟩, rfl⟩)
        simp; omega
theorem falling_ok {l : List Int} (hl : l.length ≤ 60) : ∃ f : Int, F__law_falling [.d (nv l)] [] = some (.d (.int f), []) ∧ 0 ≤ f ∧ f ≤ 60 ∧ ∀ r, Chain l l.length r → (r.length : Int) ≤ f := by
  suffices H : wO (F__law_falling [.d (nv l)] []) fun y => ∃ f : Int, y = (.d (.int f), []) ∧ 0 ≤ f ∧ f ≤ 60 ∧ ∀ r, Chain l l.length r → (r.length : Int) ≤ f by
    obtain ⟨y, h1, f, rfl, h2⟩ := H
    exact ⟨f, h1, h2⟩
  refine w_fn rfl rfl ?_
  simp [↓B__law_falling]
  refine ⟨rng_of (by omega), w_forI (fun i e m => ∃ bs x2, Falls l i bs ∧ m = [.lst (bs.map fun i => .d (.int i))] ∧ e = [some (.d (nv l)), some (.ref 0), x2, none]) ?_ ?_ ?_⟩
  · exact ⟨[], none, ⟨rfl, fun i hi => (by omega), fun r i hi => (by omega)⟩, rfl, rfl⟩
  · rintro i x e m hx ⟨bs, x2, hb, rfl, rfl⟩
    obtain ⟨hi, rfl⟩ := upTo_get hx
    have p1 : ixPos l.length (i : Int) = some i := ixPos_nat hi
    have g1 := get_vl hi
    simp [↓b1__law_falling]
    have hr : rngOk ((i : Nat) : Int) = true := rng_of (by omega)
    refine ⟨hr, by omega, w_rangeS (fun o => decide (vl l i < vl l o)) (fun o => .int (vl bs o)) (fun o ho => ?_) ?_⟩
    · have p2 : ixPos l.length (o : Int) = some o := ixPos_nat (by omega)
      have g2 := get_vl (l := l) (i := o) (by omega)
      have p3 : ixPos bs.length (o : Int) = some o := ixPos_nat (by rw [hb.1]; omega)
      have g3 := get_vl (l := bs) (i := o) (by rw [hb.1]; omega)
      simp [t1__law_falling, e1__law_falling, p1, g1, p2, g2, p3, g3]
    · have := List.length_filter_le (fun o => decide (vl l i < vl l o)) (List.range i)
      rw [List.length_range] at this
      simp [bMax_f]
      refine ⟨by omega, by rw [hb.1]; omega, _, falls_step hb, ?_⟩
      simp
  · rintro e m ⟨bs, x2, hb, rfl, rfl⟩
    rw [upTo_len] at hb
    have hm : bMax [.list (.int 0 :: bs.map fun i => .int i)] = some (.int (maxI 0 (bs.map id))) := bMax_f
    simp [Function.comp_def, hm, hb.1]
    obtain ⟨m1, m2, m3⟩ := maxI_spec' bs 0
    refine ⟨by omega, by omega, ?_, fun r hc => ?_⟩
    · rcases m1 with m1 | m1
      · omega
      · obtain ⟨i, hi, e⟩ := List.getElem_of_mem m1
        have := (hb.2.1 i (by rw [← hb.1]; exact hi)).2
        rw [vl_get hi] at this
        have := hb.1
        omega
    · rcases List.eq_nil_or_concat r with rfl | ⟨s, o, rfl⟩
      · simp; omega
      · rw [List.concat_eq_append] at *
        have ho := hc.lt o (by simp)
        have hu := List.pairwise_append.mp hc.up
        have hde := List.pairwise_append.mp hc.dec
        have := hb.2.2 s o ho ⟨hu.1, fun j hj => hu.2.2 j hj o (by simp), hde.1⟩ fun j hj => hde.2.2 j hj o (by simp)
        have hm := m3 (vl bs o) (vl_mem (by rw [hb.1]; exact ho))
        simp; omega
/-! ### piles -/
structure GoodB (l : List Int) (k : Nat) (r : List Nat) : Prop where
  g : Good l r
  lt : ∀ i ∈ r, i < k
/-- the tops of piles, behind the first k writes -/
structure Tops (l : List Int) (k : Nat) (T : List Int) : Prop where
  srt : ∀ a b, a ≤ b → b < T.length → vl T a ≤ vl T b
  low : ∀ g, g < T.length → ∃ r i, GoodB l k (r ++ [i]) ∧ r.length = g ∧ vl l i = vl T g
  up : ∀ r i, GoodB l k (r ++ [i]) → r.length < T.length ∧ vl T r.length ≤ vl l i
structure TStep (T : List Int) (g : Nat) (x : Int) (T' : List Int) : Prop where
  len : (T'.length = T.length ∧ g < T.length) ∨ (T'.length = T.length + 1 ∧ g = T.length)
  at_ : vl T' g = x
  other : ∀ j, j ≠ g → j < T.length → vl T' j = vl T j
  lo : ∀ j, j < g → vl T j ≤ x
  hi : g < T.length → x < vl T g
theorem good_snoc {l : List Int} {r : List Nat} {i k : Nat} (h : Good l (r ++ [i])) (h1 : i < k) (h2 : vl l i ≤ vl l k) (hk : k < l.length) : Good l ((r ++ [i]) ++ [k]) := by
  have hu := List.pairwise_append.mp h.up
  have hn := List.pairwise_append.mp h.inc
  refine ⟨List.pairwise_append.mpr ⟨h.up, List.pairwise_singleton _ _, fun a ha b hb => ?_⟩, fun j hj => ?_, List.pairwise_append.mpr ⟨h.inc, List.pairwise_singleton _ _, fun a ha b hb => ?_⟩⟩
  · rw [List.mem_singleton.mp hb]
    rcases List.mem_append.mp ha with ha | ha
    · have := hu.2.2 a ha i (by simp); omega
    · rw [List.mem_singleton.mp ha]; exact h1
  · rcases List.mem_append.mp hj with hj | hj
    · exact h.lt j hj
    · rw [List.mem_singleton.mp hj]; exact hk
  · rw [List.mem_singleton.mp hb]
    rcases List.mem_append.mp ha with ha | ha
    · have := hn.2.2 a ha i (by simp); omega
    · rw [List.mem_singleton.mp ha]; exact h2
theorem tops_step {l : List Int} {k g : Nat} {T T' : List Int} (h : Tops l k T) (hk : k < l.length) (s : TStep T g (vl l k) T') : Tops l (k + 1) T' := by
  have hg : g < T'.length := by rcases s.len with ⟨a, b⟩ | ⟨a, b⟩ <;> omega
  have hT : ∀ j, j < T'.length → j ≠ g → j < T.length := fun j hj hn => by rcases s.len with ⟨a, b⟩ | ⟨a, b⟩ <;> omega
  refine ⟨fun a b hab hb => ?_, fun j hj => ?_, fun r i hr => ?_⟩
  · by_cases ea : a = g
    · by_cases eb : b = g
      · subst ea; subst eb; exact Int.le_refl _
      · subst ea
        have h1 := hT b hb eb
        have := h.srt a b hab h1
        have := s.hi (by omega)
        rw [s.at_, s.other b eb h1]; omega
    · have h1 := hT a (by omega) ea
      by_cases eb : b = g
      · subst eb
        rw [s.at_, s.other a ea h1]
        exact s.lo a (by omega)
      · rw [s.other a ea h1, s.other b eb (hT b hb eb)]
        exact h.srt a b hab (hT b hb eb)
  · by_cases ej : j = g
    · subst ej
      cases j with
      | zero => exact ⟨[], k, ⟨good_one hk, fun i hi => (by have : i = k := (by simpa using hi); omega)⟩, rfl, s.at_.symm⟩
      | succ j =>
        have hjT : j < T.length := by rcases s.len with ⟨a, b⟩ | ⟨a, b⟩ <;> omega
        obtain ⟨r, i, h1, h2, h3⟩ := h.low j hjT
        have h4 := s.lo j (by omega)
        refine ⟨r ++ [i], k, ⟨good_snoc h1.g (h1.lt i (by simp)) (by omega) hk, fun a ha => ?_⟩, by simp [h2], s.at_.symm⟩
        rcases List.mem_append.mp ha with ha | ha
        · have := h1.lt a ha; omega
        · rw [List.mem_singleton.mp ha]; omega
    · have h1 := hT j hj ej
      obtain ⟨r, i, h2, h3, h4⟩ := h.low j h1
      exact ⟨r, i, ⟨h2.g, fun a ha => by have := h2.lt a ha; omega⟩, h3, by rw [s.other j ej h1]; exact h4⟩
  · by_cases ei : i = k
    · subst ei
      have hu := List.pairwise_append.mp hr.g.up
      have hn := List.pairwise_append.mp hr.g.inc
      rcases List.eq_nil_or_concat r with rfl | ⟨t, o, rfl⟩
      · show 0 < T'.length ∧ vl T' 0 ≤ vl l i
        refine ⟨by omega, ?_⟩
        by_cases e : g = 0
        · subst e; rw [s.at_]; exact Int.le_refl _
        · rw [s.other 0 (by omega) (hT 0 (by omega) (by omega))]
          exact s.lo 0 (by omega)
      · rw [List.concat_eq_append] at *
        have ho := hu.2.2 o (by simp) i (by simp)
        have hov := hn.2.2 o (by simp) i (by simp)
        obtain ⟨t1, t2⟩ := h.up t o ⟨⟨hu.1, fun a ha => hr.g.lt a (List.mem_append.mpr (.inl ha)), hn.1⟩, fun a ha => hu.2.2 a ha i (by simp)⟩
        have hlt : t.length < g := by
          by_cases c : t.length < g
          · exact c
          · have h5 := s.hi (by omega)
            have := h.srt g t.length (by omega) t1
            omega
        rw [List.length_append, List.length_singleton]
        refine ⟨by omega, ?_⟩
        by_cases e : t.length + 1 = g
        · rw [e, s.at_]; exact Int.le_refl _
        · rw [s.other _ e (hT _ (by omega) e)]
          exact s.lo _ (by omega)
    · have hu := List.pairwise_append.mp hr.g.up
      have hi : i < k := by have := hr.lt i (by simp); omega
      obtain ⟨t1, t2⟩ := h.up r i ⟨hr.g, fun a ha => by
        rcases List.mem_append.mp ha with ha | ha
        · have := hu.2.2 a ha i (by simp); omega
        · rw [List.mem_singleton.mp ha]; exact hi⟩
      refine ⟨by rcases s.len with ⟨a, b⟩ | ⟨a, b⟩ <;> omega, ?_⟩
      by_cases e : r.length = g
      · have := s.hi (by omega)
        rw [e, s.at_]
        rw [e] at t2; omega
      · rw [s.other _ e t1]; exact t2
theorem tops_len {l : List Int} {T : List Int} {r : List Nat} (h : Tops l l.length T) (hb : Best l r) : r.length = T.length := by
  have h1 : r.length ≤ T.length := by
    rcases List.eq_nil_or_concat r with rfl | ⟨t, o, rfl⟩
    · simp
    · rw [List.concat_eq_append] at *
      have := (h.up t o ⟨hb.1, hb.1.lt⟩).1
      simp; omega
  have h2 : T.length ≤ r.length := by
    by_cases e : T.length = 0
    · omega
    · obtain ⟨s, i, a, b, c⟩ := h.low (T.length - 1) (by omega)
      have := hb.2 _ a.g
      rw [kd_lt, decide_eq_false_iff_not] at this
      have hs : (s ++ [i]).length = T.length := by simp; omega
      by_cases q : r.length < (s ++ [i]).length
      · exact absurd (.inl q) this
      · omega
  omega
end K72

end
section
/-! K72f: writes in order: the law's def. -/
namespace K72
open PySem Gg
abbrev stC (st : List PyData) : Cell := .lst (st.map .d)
theorem draw_w {n : Nat} {st : List PyData} {many : Int} {Q : LV × List (List PyData) → Prop} (h : Ok (n + 1) st) (h1 : 1 ≤ many) (h2 : many < 1000000000000) (q : ∀ (r : Int) (st' : List PyData), 0 ≤ r → r < many → Ok n st' → Q (.d (.int r), [st'])) : wO (F__law_draw [.ref 0, .d (.int many)] [st]) Q := by
  obtain ⟨r, st', g1, g2, g3, g4⟩ := draw_ok n st many h h1 h2
  exact .of g1 (q r st' g2 g3 g4)
/-- the state's cell -/
def C0 (m : Sto) (st : List PyData) : Prop := m[0]? = some (stC st)
theorem C0.app {m : Sto} {st : List PyData} (h : C0 m st) (c : List Cell) : C0 (m ++ c) st := by
  unfold C0 at *
  rw [List.getElem?_append_left (List.getElem?_eq_some_iff.mp h).1]; exact h
theorem C0.set {m : Sto} {st : List PyData} (h : C0 m st) {k : Nat} (hk : 1 ≤ k) (c : Cell) : C0 (m.set k c) st := by
  unfold C0 at *
  rw [List.getElem?_set_ne (by omega)]; exact h
theorem C0.set0 {m : Sto} {st st' : List PyData} (h : C0 m st) : C0 (m.set 0 (stC st')) st' := by
  unfold C0 at *
  rw [List.getElem?_set_self (List.getElem?_eq_some_iff.mp h).1]
/-! ### piles -/
structure Piles (l : List Int) (k : Nat) (P : List (Nat × List Int)) (m : Sto) : Prop where
  cell : m[1]? = some (.lst (P.map fun q => .ref q.1))
  at_ : ∀ q ∈ P, m[q.1]? = some (.lst (q.2.map fun i => .d (.int i))) ∧ 2 ≤ q.1
  nd : (P.map fun q => q.1).Nodup
  ch : ∀ q ∈ P, ∃ r, Chain l k r ∧ q.2 = r.map (vl l) ∧ r ≠ []
  sum : (P.map fun q => q.2.length).sum = k
  tops : Tops l k (P.map fun q => q.2.getLastD 0)
theorem vl_map {α : Type} {f : α → Int} {P : List α} {i : Nat} (h : i < P.length) : vl (P.map f) i = f P[i] := by
  rw [vl_get (by simpa using h)]; simp
theorem vl_mid {A B : List Int} {x : Int} {j : Nat} : vl (A ++ x :: B) j = if j < A.length then vl A j else if j = A.length then x else vl B (j - A.length - 1) := by
  unfold vl
  simp only [List.getD_eq_getElem?_getD]
  split
  · rename_i c; rw [List.getElem?_append_left c]
  · rename_i c
    rw [List.getElem?_append_right (by omega), List.getElem?_cons]
    split
    · rename_i e; rw [if_pos (by omega)]; rfl
    · rename_i e; rw [if_neg (by omega)]
theorem last_snoc {r : List Int} {x : Int} : (r ++ [x]).getLastD 0 = x := by simp
theorem sum_len {P : List (Nat × List Int)} {q : Nat × List Int} (h : q ∈ P) : q.2.length ≤ (P.map fun q => q.2.length).sum := by
  induction P with
  | nil => cases h
  | cons p P ih =>
    rw [List.map_cons, List.sum_cons]
    rcases List.mem_cons.mp h with rfl | h
    · omega
    · have := ih h; omega
theorem chain_mono {l : List Int} {k : Nat} {r : List Nat} (h : Chain l k r) : Chain l (k + 1) r := ⟨h.up, fun i hi => by have := h.lt i hi; omega, h.dec⟩
theorem chain_snoc {l : List Int} {k : Nat} {r : List Nat} (h : Chain l k r) (hl : ∀ i ∈ r, vl l k < vl l i) : Chain l (k + 1) (r ++ [k]) := by
  refine ⟨List.pairwise_append.mpr ⟨h.up, List.pairwise_singleton _ _, fun a ha b hb => ?_⟩, fun i hi => ?_, List.pairwise_append.mpr ⟨h.dec, List.pairwise_singleton _ _, fun a ha b hb => ?_⟩⟩
  · rw [List.mem_singleton.mp hb]; exact h.lt a ha
  · rcases List.mem_append.mp hi with hi | hi
    · have := h.lt i hi; omega
    · rw [List.mem_singleton.mp hi]; omega
  · rw [List.mem_singleton.mp hb]; exact hl a ha
theorem chain_last {l : List Int} {k : Nat} {r : List Nat} (h : Chain l k r) (hn : r ≠ []) : ∀ i ∈ r, (r.map (vl l)).getLastD 0 ≤ vl l i := by
  rcases List.eq_nil_or_concat r with rfl | ⟨t, o, rfl⟩
  · exact absurd rfl hn
  · rw [List.concat_eq_append] at *
    intro i hi
    rw [List.map_append, List.map_cons, List.map_nil, last_snoc]
    rcases List.mem_append.mp hi with hi | hi
    · have := (List.pairwise_append.mp h.dec).2.2 i hi o (by simp); omega
    · rw [List.mem_singleton.mp hi]; exact Int.le_refl _
/-- on a pile -/
theorem piles_on {l : List Int} {k : Nat} {A B : List (Nat × List Int)} {q : Nat × List Int} {m : Sto} {c : Cell} (h : Piles l k (A ++ q :: B) m) (hk : k < l.length) (hA : ∀ p ∈ A, p.2.getLastD 0 ≤ vl l k) (hq : vl l k < q.2.getLastD 0) :
    Piles l (k + 1) (A ++ (q.1, q.2 ++ [vl l k]) :: B) ((m ++ [c]).set q.1 (Cell.lst ((q.2 ++ [vl l k]).map fun i => LV.d (.int i)))) := by
  have hqm : q ∈ A ++ q :: B := by simp
  obtain ⟨q1, q2⟩ := h.at_ q hqm
  have hql : q.1 < m.length := (List.getElem?_eq_some_iff.mp q1).1
  have nd := h.nd
  rw [List.map_append, List.map_cons] at nd
  have nd' := List.nodup_append.mp nd
  have nq : ∀ p ∈ A ++ B, p.1 ≠ q.1 := by
    intro p hp e
    rcases List.mem_append.mp hp with hp | hp
    · exact nd'.2.2 p.1 (List.mem_map.mpr ⟨p, hp, rfl⟩) q.1 (by simp) e
    · exact (List.nodup_cons.mp nd'.2.1).1 (List.mem_map.mpr ⟨p, hp, e⟩)
  refine ⟨?_, fun p hp => ?_, ?_, fun p hp => ?_, ?_, ?_⟩
  · rw [List.getElem?_set_ne (by omega), List.getElem?_append_left (by have := (List.getElem?_eq_some_iff.mp h.cell).1; exact this), h.cell]
    simp
  · have old : p ∈ A ++ B → ((m ++ [c]).set q.1 (Cell.lst ((q.2 ++ [vl l k]).map fun i => LV.d (.int i))))[p.1]? = some (.lst (p.2.map fun i => .d (.int i))) ∧ 2 ≤ p.1 := by
      intro hp
      obtain ⟨a, b⟩ := h.at_ p (by rcases List.mem_append.mp hp with hp | hp <;> simp [hp])
      exact ⟨by rw [List.getElem?_set_ne (fun e => nq p hp e.symm), List.getElem?_append_left (List.getElem?_eq_some_iff.mp a).1]; exact a, b⟩
    rcases List.mem_append.mp hp with hp | hp
    · exact old (by simp [hp])
    · rcases List.mem_cons.mp hp with rfl | hp
      · exact ⟨by rw [List.getElem?_set_self (by simp; omega)], q2⟩
      · exact old (by simp [hp])
  · have : (A ++ (q.1, q.2 ++ [vl l k]) :: B).map (fun q => q.1) = (A ++ q :: B).map fun q => q.1 := by simp
    rw [this]; exact h.nd
  · have old : p ∈ A ++ q :: B → ∃ r, Chain l (k + 1) r ∧ p.2 = r.map (vl l) ∧ r ≠ [] := fun hp => by
      obtain ⟨r, a, b⟩ := h.ch p hp
      exact ⟨r, chain_mono a, b⟩
    rcases List.mem_append.mp hp with hp | hp
    · exact old (by simp [hp])
    · rcases List.mem_cons.mp hp with rfl | hp
      · obtain ⟨r, a, b, d⟩ := h.ch q hqm
        refine ⟨r ++ [k], chain_snoc a fun i hi => ?_, by simp [b], by simp⟩
        have := chain_last a d i hi
        rw [← b] at this; omega
      · exact old (by simp [hp])
  · have := h.sum
    simp at this ⊢
    omega
  · have e1 : ((A ++ (q.1, q.2 ++ [vl l k]) :: B).map fun q => q.2.getLastD 0) = (A.map fun q => q.2.getLastD 0) ++ vl l k :: B.map fun q => q.2.getLastD 0 := by simp
    have e2 : ((A ++ q :: B).map fun q => q.2.getLastD 0) = (A.map fun q => q.2.getLastD 0) ++ q.2.getLastD 0 :: B.map fun q => q.2.getLastD 0 := by simp
    have ht := h.tops
    rw [e2] at ht
    rw [e1]
    generalize hA' : (A.map fun q => q.2.getLastD 0) = TA at *
    generalize (B.map fun q => q.2.getLastD 0) = TB at *
    have hAl : ∀ x ∈ TA, x ≤ vl l k := by
      intro x hx
      rw [← hA'] at hx
      obtain ⟨p, hp, rfl⟩ := List.mem_map.mp hx
      exact hA p hp
    refine tops_step (g := TA.length) ht hk ⟨.inl ⟨by simp, by simp⟩, ?_, fun j hj hl => ?_, fun j hj => ?_, fun _ => ?_⟩
    · rw [vl_mid, if_neg (by omega), if_pos rfl]
    · rw [vl_mid, vl_mid]
      split <;> first | rfl | rw [if_neg hj, if_neg hj]
    · rw [vl_mid, if_pos hj, vl_get hj]
      exact hAl _ (List.getElem_mem hj)
    · rw [vl_mid, if_neg (by omega), if_pos rfl]; exact hq
/-- a new pile -/
theorem piles_new {l : List Int} {k : Nat} {P : List (Nat × List Int)} {m : Sto} {c : Cell} (h : Piles l k P m) (hk : k < l.length) (hA : ∀ p ∈ P, p.2.getLastD 0 ≤ vl l k) (hm : 2 ≤ m.length) :
    Piles l (k + 1) (P ++ [(m.length + 1, [vl l k])]) (((m ++ [c]) ++ [Cell.lst [LV.d (.int (vl l k))]]).set 1 (Cell.lst ((P.map fun q => LV.ref q.1) ++ [LV.ref (m.length + 1)]))) := by
  have lt : ∀ p ∈ P, p.1 < m.length := fun p hp => (List.getElem?_eq_some_iff.mp (h.at_ p hp).1).1
  refine ⟨?_, fun p hp => ?_, ?_, fun p hp => ?_, ?_, ?_⟩
  · rw [List.getElem?_set_self (by simp), List.map_append]; rfl
  · rcases List.mem_append.mp hp with hp | hp
    · obtain ⟨a, b⟩ := h.at_ p hp
      have := lt p hp
      exact ⟨by rw [List.getElem?_set_ne (by omega), List.getElem?_append_left (by simp; omega), List.getElem?_append_left this]; exact a, b⟩
    · rw [List.mem_singleton.mp hp]
      refine ⟨?_, by show 2 ≤ m.length + 1; omega⟩
      show _[m.length + 1]? = _
      rw [List.getElem?_set_ne (by omega), List.getElem?_append_right (by simp)]
      simp
  · rw [List.map_append, List.nodup_append]
    refine ⟨h.nd, by simp, fun a ha b hb => ?_⟩
    obtain ⟨p, hp, rfl⟩ := List.mem_map.mp ha
    have := lt p hp
    simp at hb
    omega
  · rcases List.mem_append.mp hp with hp | hp
    · obtain ⟨r, a, b⟩ := h.ch p hp
      exact ⟨r, chain_mono a, b⟩
    · rw [List.mem_singleton.mp hp]
      exact ⟨[k], ⟨List.pairwise_singleton _ _, fun i hi => by simp at hi; omega, List.pairwise_singleton _ _⟩, rfl, by simp⟩
  · have := h.sum
    simp [this]
  · have ht := h.tops
    rw [List.map_append]
    show Tops l (k + 1) ((P.map fun q => q.2.getLastD 0) ++ [vl l k])
    generalize hA' : (P.map fun q => q.2.getLastD 0) = T at *
    have hAl : ∀ x ∈ T, x ≤ vl l k := by
      intro x hx
      rw [← hA'] at hx
      obtain ⟨p, hp, rfl⟩ := List.mem_map.mp hx
      exact hA p hp
    refine tops_step (g := T.length) ht hk ⟨.inr ⟨by simp, rfl⟩, ?_, fun j hj hl => ?_, fun j hj => ?_, fun q => absurd q (by omega)⟩
    · rw [vl_app]; simp
    · rw [vl_app, if_pos hl]
    · rw [vl_get hj]; exact hAl _ (List.getElem_mem hj)
theorem piles_nil {l : List Int} {m : Sto} (h : m[1]? = some (.lst [])) : Piles l 0 [] m := by
  refine ⟨h, fun q hq => (by cases hq), .nil, fun q hq => (by cases hq), rfl, ⟨fun a b _ hb => absurd hb (by simp), fun g hg => absurd hg (by simp), fun r i hr => ?_⟩⟩
  have := hr.lt i (by simp)
  omega
/-- each pile falls -/
theorem piles_count {l : List Int} {P : List (Nat × List Int)} {m : Sto} {f : Int} (h : Piles l l.length P m) (hf : ∀ r, Chain l l.length r → (r.length : Int) ≤ f) (h0 : 0 ≤ f) : (l.length : Int) ≤ P.length * f := by
  have : ∀ P : List (Nat × List Int), (∀ q ∈ P, (q.2.length : Int) ≤ f) → (((P.map fun q => q.2.length).sum : Nat) : Int) ≤ P.length * f := by
    intro P
    induction P with
    | nil => intro _; simp
    | cons q P ih =>
      intro hq
      have h1 := hq q List.mem_cons_self
      have h2 := ih fun p hp => hq p (List.mem_cons_of_mem _ hp)
      rw [List.map_cons, List.sum_cons, List.length_cons]
      have e : (((P.length + 1 : Nat) : Int)) * f = (P.length : Int) * f + f := by
        rw [Int.natCast_add, Int.add_mul]; simp
      rw [e]
      omega
  have h3 := this P fun q hq => by
    obtain ⟨r, a, b, _⟩ := h.ch q hq
    rw [b, List.length_map]; exact hf r a
  rw [h.sum] at h3
  exact h3
/-! ### other numbers in the same order, the other way round -/
def oth (l : List Int) : List Int := l.map fun v => v * v + 3 * v
theorem vl_oth {l : List Int} {i : Nat} (h : i < l.length) : vl (oth l) i = vl l i * vl l i + 3 * vl l i := by
  unfold oth
  rw [vl_map h, vl_get h]
theorem sq_le {a b : Int} (ha : 0 ≤ a) (hb : 0 ≤ b) : a * a + 3 * a ≤ b * b + 3 * b ↔ a ≤ b := by
  constructor
  · intro h
    by_cases c : a ≤ b
    · exact c
    · have h1 : b * b ≤ a * a := Int.mul_le_mul (by omega) (by omega) hb ha
      omega
  · intro h
    have : a * a ≤ b * b := Int.mul_le_mul h h ha hb
    omega
theorem oth_le {l : List Int} (h : NOk l) {i j : Nat} (hi : i < l.length) (hj : j < l.length) : vl (oth l) i ≤ vl (oth l) j ↔ vl l i ≤ vl l j := by
  rw [vl_oth hi, vl_oth hj]
  exact sq_le (h.2 _ (vl_mem hi)).1 (h.2 _ (vl_mem hj)).1
theorem good_oth {l : List Int} (h : NOk l) (r : List Nat) : Good (oth l) r ↔ Good l r := by
  have hl : (oth l).length = l.length := by unfold oth; simp
  constructor
  · intro g
    refine ⟨g.up, fun i hi => by rw [← hl]; exact g.lt i hi, ?_⟩
    refine List.Pairwise.imp_of_mem (fun {a b} ha hb q => ?_) g.inc
    exact (oth_le h (by rw [← hl]; exact g.lt a ha) (by rw [← hl]; exact g.lt b hb)).mp q
  · intro g
    refine ⟨g.up, fun i hi => by rw [hl]; exact g.lt i hi, ?_⟩
    refine List.Pairwise.imp_of_mem (fun {a b} ha hb q => ?_) g.inc
    exact (oth_le h (g.lt a ha) (g.lt b hb)).mpr q
theorem best_oth {l : List Int} (h : NOk l) {r : List Nat} (b : Best l r) : Best (oth l) r := ⟨(good_oth h r).mpr b.1, fun s hs => b.2 s ((good_oth h s).mp hs)⟩
theorem tk_oth {l : List Int} (h : NOk l) : tk (oth l) = tk l := by
  have hl : (oth l).length = l.length := by unfold oth; simp
  unfold tk
  rw [hl]
  refine List.filter_congr fun i hi => ?_
  have hi := List.mem_range.mp hi
  rw [Bool.eq_iff_iff, tpp_iff, tpp_iff]
  constructor
  · exact fun q j hj => (oth_le h (by omega) hi).mp (q j hj)
  · exact fun q j hj => (oth_le h (by omega) hi).mpr (q j hj)
def bk (l : List Int) : List Int := l.reverse.map fun v => 20 - v
theorem bk_len (l : List Int) : (bk l).length = l.length := by unfold bk; simp
theorem vl_bk {l : List Int} {i : Nat} (h : i < l.length) : vl (bk l) i = 20 - vl l (l.length - 1 - i) := by
  unfold bk
  rw [vl_map (by simpa using h), vl_get (by omega)]
  simp
theorem bk_bk (l : List Int) : bk (bk l) = l := by
  unfold bk
  rw [← List.map_reverse, List.reverse_reverse, List.map_map]
  have : ((fun v : Int => 20 - v) ∘ fun v : Int => 20 - v) = id := by funext v; simp; omega
  rw [this, List.map_id]
theorem good_bk {l : List Int} {r : List Nat} (h : Good l r) : Good (bk l) (r.reverse.map fun i => l.length - 1 - i) := by
  refine ⟨?_, fun i hi => ?_, ?_⟩
  · rw [List.pairwise_map, List.pairwise_reverse]
    refine List.Pairwise.imp_of_mem (fun {a b} ha hb q => ?_) h.up
    have := h.lt a ha
    have := h.lt b hb
    omega
  · obtain ⟨j, hj, rfl⟩ := List.mem_map.mp hi
    have := h.lt j (List.mem_reverse.mp hj)
    rw [bk_len]; omega
  · rw [List.pairwise_map, List.pairwise_reverse]
    refine List.Pairwise.imp_of_mem (fun {a b} ha hb q => ?_) h.inc
    have h1 := h.lt a ha
    have h2 := h.lt b hb
    rw [vl_bk (by omega), vl_bk (by omega)]
    have e1 : l.length - 1 - (l.length - 1 - a) = a := by omega
    have e2 : l.length - 1 - (l.length - 1 - b) = b := by omega
    rw [e1, e2]; omega
theorem best_long {l : List Int} {r s : List Nat} (h : Best l r) (g : Good l s) : s.length ≤ r.length := by
  have := h.2 s g
  rw [kd_lt, decide_eq_false_iff_not] at this
  by_cases q : r.length < s.length
  · exact absurd (.inl q) this
  · omega
theorem best_bk {l : List Int} {r s : List Nat} (h : Best l r) (g : Best (bk l) s) : s.length = r.length := by
  have h1 := best_long g (good_bk h.1)
  have h2 := good_bk g.1
  rw [bk_bk] at h2
  have h2 := best_long h h2
  simp at h1 h2
  omega
end K72

end
section
/-! K72g: writes in order: the law's def. -/
namespace K72
open PySem Gg
theorem writes_ok {n : Nat} {st : List PyData} (h : Ok (n + 30) st) : wO (F__law_writes_hold [.ref 0] [st]) fun y => ∃ st', y = (.d (.bool true), [st']) ∧ Ok n st' := by
  refine w_fn rfl rfl ?_
  simp [↓B__law_writes_hold]
  refine draw_w (n := n + 29) h (by omega) (by omega) fun r0 s0 a1 a2 a3 => ?_
  simp
  refine ⟨rng_of (by omega), by omega, ?_⟩
  refine w_drawn (g := fun i : Int => LV.d (.int i)) (P := fun i => 0 ≤ i ∧ i < 8) (fun j m => ∃ s, m = [stC s] ∧ Ok (n + 29 - j) s) ⟨s0, rfl, a3⟩ ?_ ?_
  · rintro j x m _ hj ⟨s, rfl, hs⟩
    rw [upTo_len] at hj
    simp [↓e1__law_writes_hold]
    refine draw_w (n := n + 29 - (j + 1)) (by rw [show n + 29 - (j + 1) + 1 = n + 29 - j by omega]; exact hs) (by omega) (by omega) fun r s' b1 b2 b3 => ?_
    simp
    exact ⟨⟨b1, b2⟩, s', rfl, by rw [show n + 28 - j = n + 29 - (j + 1) by omega]; exact b3⟩
  · rintro l m' hl hv ⟨s1, rfl, hs1⟩
    rw [upTo_len] at hl hs1
    have hs1 : Ok (n + 20) s1 := hs1.mono (by omega)
    have hN : NOk l := ⟨by omega, fun v h => by have := hv v h; omega⟩
    obtain ⟨mo, hb, hmo⟩ := most_ok hN
    have htk := taken_ok hN
    have hl9 : l.length ≤ 9 := by omega
    have hset := sets_ok hl9
    simp [hmo, htk]
    refine ⟨rng_of (by omega), ?_⟩
    simp [hset]
    have hsl := sets_len l.length
    have hpw : 2 ^ l.length ≤ 2 ^ 9 := Nat.pow_le_pow_right (by omega) hl9
    refine ⟨by omega, w_some (g := LV.d ∘ rD) (l := sets l.length) (fine l) rD (fun r hr => ?_) ?_⟩
    · obtain ⟨ru, rl⟩ := mem_sets.mp hr
      have rlen := up_len (n := l.length) (a := 0) ru fun j hj => ⟨Nat.zero_le _, rl j hj⟩
      simp [↓t2__law_writes_hold]
      refine ⟨rng_of (by omega), by omega, w_rangeS (bad l r) (fun k => .int ((k : Nat) : Int)) (fun k hk => ?_) ?_⟩
      · have k1 : k < r.length := by omega
        have k2 : k + 1 < r.length := by omega
        have p1 : ixPos r.length (k : Int) = some k := ixPos_nat k1
        have p2 : ixPos r.length ((k : Int) + 1) = some (k + 1) := ixPos_nat (k := k + 1) k2
        have g1 : r[k]? = some (r.getD k 0) := by rw [List.getD_eq_getElem?_getD, List.getElem?_eq_getElem k1]; rfl
        have g2 : r[k + 1]? = some (r.getD (k + 1) 0) := by rw [List.getD_eq_getElem?_getD, List.getElem?_eq_getElem k2]; rfl
        have b1 : r.getD k 0 < l.length := by rw [getD_of k1]; exact rl _ (List.getElem_mem k1)
        have b2 : r.getD (k + 1) 0 < l.length := by rw [getD_of k2]; exact rl _ (List.getElem_mem k2)
        generalize hv1 : r.getD k 0 = v1 at *
        generalize hv2 : r.getD (k + 1) 0 = v2 at *
        have p3 : ixPos l.length (v1 : Int) = some v1 := ixPos_nat b1
        have p4 : ixPos l.length (v2 : Int) = some v2 := ixPos_nat b2
        have g3 := get_vl b1
        have g4 := get_vl b2
        have hbad : bad l r k = decide (vl l v2 < vl l v1) := by unfold bad; rw [hv1, hv2]
        simp [↓t1__law_writes_hold, p1, p2, g1, g2, p3, p4, g3, g4, hbad]
      · have he : eqD (.list (((List.range (r.length - 1)).filter (bad l r)).map fun k => .int ((k : Nat) : Int))) (.list []) = some (.bool (fine l r)) := by
          rw [eqD_dec (p := fine l r = true) (by simp) (by simp) (by simp [fine, List.isEmpty_iff])]
          cases fine l r <;> rfl
        simp [he]
    · generalize hRR : (sets l.length).filter (fine l) = RR
      have hRl : RR.length ≤ 512 := by rw [← hRR]; have := List.length_filter_le (fine l) (sets l.length); omega
      have hRg : ∀ r ∈ RR, Good l r := fun r hr => by rw [← hRR] at hr; obtain ⟨x1, x2⟩ := List.mem_filter.mp hr; exact (fine_iff x1).mp x2
      have hRa : ∀ r, Good l r → r ∈ RR := fun r hr => by
        rw [← hRR]
        have : r ∈ sets l.length := mem_sets.mpr ⟨hr.up, hr.lt⟩
        exact List.mem_filter.mpr ⟨this, (fine_iff this).mpr hr⟩
      have hRn : RR ≠ [] := by
        intro e
        have := hRa [] (good_nil l)
        rw [e] at this; cases this
      obtain ⟨m2, m2r, rest, hso, hle⟩ := sort_rows hRn
      have hm2 : m2 = mo := Least.uniq (S := Good l) ⟨hRg m2 m2r, fun s hs => hle s (hRa s hs)⟩ hb
      subst hm2
      have gl := good_len hb.1
      have nm : Nice 2 (60 * 1924 + 4) (rD m2) := by rw [rD_eq]; exact nice_ints (n := 0) (fun i hi => by obtain ⟨j, hj, rfl⟩ := List.mem_map.mp hi; have := hb.1.lt j hj; unfold sm; omega) (by simp [rI]; omega)
      have hsame := same_ok nm (by decide) (by decide)
      have hj := judge_ok hN hb.1.up hb.1.lt
      rw [good_jw hb.1] at hj
      have nio : Nice 2 2000 (.tuple [.str "in order"]) := ⟨by decide +kernel, by decide +kernel, by decide +kernel⟩
      have hio := neD_self nio (by decide)
      simp
      refine ⟨by omega, w_each (g := LV.d ∘ rD) (l := RR) kd (fun r hr => ?_) ?_⟩
      · simp [e2__law_writes_hold, kd]
      · simp [hso]
        rw [kd]
        simp [hsame, hj, hio]
        refine w_forI (fun i e m => ∃ (P : List (Nat × List Int)) (x8 x9 : Option LV), Piles l i P m ∧ C0 m s1 ∧ 2 ≤ m.length ∧ e = [some (.ref 0), some (.d (nv l)), some (.d (.int l.length)), some (.d (rD m2)), some (.d (rD (tk l))), some (.d (.list (RR.map rD))), some (.d (.list (l.map .int))), some (.ref 1), x8, x9, none, none, none, none, none, none, none, none, none, none]) ?_ ?_ ?_
        · exact ⟨[], none, none, piles_nil rfl, rfl, by simp, rfl⟩
        · rintro i x e m hx ⟨P, x8, x9, hP, h0, hm, rfl⟩
          rw [List.getElem?_map] at hx
          obtain ⟨v, hv1, rfl⟩ := Option.map_eq_some_iff.mp hx
          obtain ⟨hi, rfl⟩ := List.getElem?_eq_some_iff.mp hv1
          have ez : l[i] = vl l i := (vl_get hi).symm
          rw [ez]
          have hPl : P.length ≤ 60 := by
            have : P.length ≤ (P.map fun q => q.2.length).sum := by
              have hne : ∀ q ∈ P, 1 ≤ q.2.length := fun q hq => by
                obtain ⟨r, _, b, c⟩ := hP.ch q hq
                rw [b, List.length_map]
                cases r with
                | nil => exact absurd rfl c
                | cons _ _ => simp
              clear hP
              induction P with
              | nil => simp
              | cons q P ih =>
                have := hne q List.mem_cons_self
                have := ih fun p hp => hne p (List.mem_cons_of_mem _ hp)
                simp; omega
            rw [hP.sum] at this; omega
          have hc1 := hP.cell
          simp [↓b1__law_writes_hold, hc1]
          refine w_cellS (g := fun q => LV.ref q.1) (l := P) (fun q => decide (vl l i < q.2.getLastD 0)) (fun q => LV.ref q.1) hc1 (by rw [line_v]; omega) (fun q hq => ?_) ?_
          · obtain ⟨q1, _⟩ := hP.at_ q hq
            obtain ⟨r, _, rb, rn⟩ := hP.ch q hq
            rcases List.eq_nil_or_concat q.2 with e | ⟨t, o, e⟩
            · rw [rb] at e; exact absurd (List.map_eq_nil_iff.mp e) rn
            · rw [List.concat_eq_append] at e
              rw [e] at q1 ⊢
              have g3 : (t.map (fun i => LV.d (.int i)) ++ [LV.d (.int o)])[t.length]? = some (.d (.int o)) := by
                rw [List.getElem?_append_right (by simp)]; simp
              rw [List.map_append] at q1
              simp [↓t3__law_writes_hold, q1, g3]
          · have hq1 : ∀ c : List Cell, (m ++ c)[1]? = some (.lst (P.map fun q => .ref q.1)) := fun c => by
              rw [List.getElem?_append_left (by omega)]; exact hc1
            cases hf : P.filter (fun q => decide (vl l i < q.2.getLastD 0)) with
            | nil =>
              have hA : ∀ p ∈ P, p.2.getLastD 0 ≤ vl l i := fun p hp => by
                have := List.filter_eq_nil_iff.mp hf p hp
                simp at this ⊢; omega
              simp [hq1]
              rw [lstV_r (hq1 _), wO_some]
              simp
              have := piles_new (c := .lst []) hP hi hA hm
              rw [List.append_assoc] at this
              exact ⟨by omega, ⟨_, this⟩, (h0.app _).set (by omega) _⟩
            | cons q0 rest =>
              obtain ⟨A, B, hAB, hA, hq0, _⟩ := List.filter_eq_cons_iff.mp hf
              have hA : ∀ p ∈ A, p.2.getLastD 0 ≤ vl l i := fun p hp => by
                have := hA p hp
                simp at this ⊢; omega
              have hq0 := of_decide_eq_true hq0
              obtain ⟨w1, w2⟩ := hP.at_ q0 (by rw [hAB]; simp)
              have w3 : q0.1 < m.length := (List.getElem?_eq_some_iff.mp w1).1
              have hq2 : ∀ c : List Cell, (m ++ c)[q0.1]? = some (.lst (q0.2.map fun i => .d (.int i))) := fun c => by
                rw [List.getElem?_append_left w3]; exact w1
              have hlen : q0.2.length ≤ 60 := by
                have := sum_len (P := P) (q := q0) (by rw [hAB]; simp)
                rw [hP.sum] at this; omega
              simp [hq2]
              have := piles_on (c := .lst (.ref q0.1 :: rest.map fun q => .ref q.1)) (hAB ▸ hP) hi hA hq0
              rw [List.map_append] at this
              exact ⟨by omega, ⟨_, this⟩, (h0.app _).set (by omega) _, by omega⟩
        · rintro e m ⟨P, x8, x9, hP, h0, hm, rfl⟩
          rw [List.length_map] at hP
          have hPm : P.length = m2.length := by have := tops_len hP.tops hb; rw [List.length_map] at this; omega
          obtain ⟨f, f1, f2, f3, f4⟩ := falling_ok (l := l) (by omega)
          have hcnt := piles_count hP f4 f2
          have hc1 := hP.cell
          have hfit : mulFits (m2.length : Int) f := sm_mul (by unfold sm; omega) (by unfold sm; omega)
          have hlt : ¬ ((m2.length : Int) * f < (l.length : Int)) := by rw [← hPm]; omega
          have hrg : rngOk ((l.length : Nat) : Int) = true := rng_of (by omega)
          simp [hc1, hPm, f1, hfit, hlt, hrg]
          have hKm : (m ++ [Cell.lst []])[m.length]? = some (.lst []) := by simp
          have hC0 : C0 (m ++ [Cell.lst []]) s1 := h0.app _
          generalize hK : m.length = K at *
          have hK1 : 1 ≤ K := by omega
          generalize (m ++ [Cell.lst []]) = m0 at *
          clear hP hc1 h0 hm hK hcnt
          clear m
          refine w_forI (fun i e m => ∃ v x12, Most l 0 i v ∧ m[K]? = some (.lst (((List.range i).filter (tpp l)).map fun i => .d (.int ((i : Nat) : Int)))) ∧ C0 m s1 ∧ e = [some (.ref 0), some (.d (nv l)), some (.d (.int l.length)), some (.d (rD m2)), some (.d (rD (tk l))), some (.d (.list (RR.map rD))), some (.d (.list (l.map .int))), some (.ref 1), x8, x9, some (.ref K), some (.d (.int v)), x12, none, none, none, none, none, none, none]) ?_ ?_ ?_
          · exact ⟨0, none, ⟨fun j hj => (by omega), .inl rfl⟩, hKm, hC0, rfl⟩
          · rintro i x e m hx ⟨v, x12, hv12, hmK, h0, rfl⟩
            obtain ⟨hi, rfl⟩ := upTo_get hx
            have p1 : ixPos l.length (i : Int) = some i := ixPos_nat hi
            have g1 := get_vl hi
            have hge := (hN.2 _ (vl_mem hi)).1
            have ht := most_top hv12 hge
            have hs := most_step hv12
            have hfl := List.length_filter_le (tpp l) (List.range i)
            rw [List.length_range] at hfl
            have hKl := (List.getElem?_eq_some_iff.mp hmK).1
            simp [↓b2__law_writes_hold, p1, g1, hmK]
            split
            · rename_i hvv
              refine ⟨by omega, _, hs, ?_, h0.set hK1 _, rfl⟩
              rw [range_filter_succ, ht, decide_eq_true hvv]
              simp [hKl]
            · rename_i hvv
              refine ⟨by omega, _, hs, ?_, h0.set hK1 _, rfl⟩
              rw [range_filter_succ, ht, decide_eq_false hvv]
              simp [hKl]
          · rintro e m ⟨v, x12, _, hmK, h0, rfl⟩
            rw [upTo_len] at hmK
            have gt := tk_good l
            have gtl := good_len gt
            have gtm := best_long hb gt
            have nt : Nice 2 (60 * 1924 + 4) (rD (tk l)) := by rw [rD_eq]; exact nice_ints (n := 0) (fun i hi => by obtain ⟨j, hj, rfl⟩ := List.mem_map.mp hi; have := gt.lt j hj; unfold sm; omega) (by simp [rI]; omega)
            have hst := same_ok nt (by decide) (by decide)
            have hjt := judge_ok hN gt.up gt.lt
            rw [good_jw gt] at hjt
            have hmK2 : m[K]? = some (.lst ((tk l).map fun i => .d (.int ((i : Nat) : Int)))) := hmK
            have hnl : ¬ (m2.length < (tk l).length) := by omega
            simp [hmK2, hst, hjt, hio, hnl]
            refine ⟨by omega, w_each (g := LV.d ∘ PyData.int) (l := l) (fun v => .int (v * v + 3 * v)) (fun v hvm => ?_) ?_⟩
            · have := hv v hvm
              have q1 : mulFits v v := sm_mul (by unfold sm; omega) (by unfold sm; omega)
              have q2 : mulFits 3 v := sm_mul (by unfold sm; omega) (by unfold sm; omega)
              simp [↓e3__law_writes_hold, q1, q2]
            · have eo : l.map (fun v => PyData.int (v * v + 3 * v)) = (oth l).map .int := by unfold oth; rw [List.map_map]; rfl
              have hNo : NOk (oth l) := ⟨by unfold oth; simp; omega, fun v hvo => by
                obtain ⟨u, hu, rfl⟩ := List.mem_map.mp hvo
                have h8 := hv u hu
                have h9 : u * u ≤ 8 * 8 := Int.mul_le_mul (by omega) (by omega) h8.1 (by omega)
                have h10 : 0 ≤ u * u := Int.mul_nonneg h8.1 h8.1
                constructor <;> omega⟩
              obtain ⟨ro, hbo, hmoo⟩ := most_ok hNo
              have := Least.uniq hbo (best_oth hN hb)
              subst this
              have hto := taken_ok hNo
              rw [tk_oth hN] at hto
              have nl2 : Nice 3 (2 * (60 * 1924 + 4 + 2) + 4) (.list [rD ro, rD (tk l)]) := nice_list (N := 2) (fun x hx => by
                rcases List.mem_cons.mp hx with rfl | hx
                · exact nm
                · rw [List.mem_singleton.mp hx]; exact nt) (by simp)
              have hs2 := same_ok nl2 (by decide) (by decide)
              simp [eo, hmoo, hto, hs2]
              refine ⟨by omega, ?_⟩
              rw [← List.map_reverse]
              refine w_each (g := LV.d ∘ PyData.int) (l := l.reverse) (fun v => .int (20 - v)) (fun v hvm => ?_) ?_
              · simp [↓e4__law_writes_hold]
              · have eb : l.reverse.map (fun v => PyData.int (20 - v)) = (bk l).map .int := by unfold bk; rw [List.map_map]; rfl
                have hNb : NOk (bk l) := ⟨by rw [bk_len]; omega, fun v hvo => by
                  obtain ⟨u, hu, rfl⟩ := List.mem_map.mp hvo
                  have h8 := hv u (List.mem_reverse.mp hu)
                  constructor <;> omega⟩
                obtain ⟨rb, hbb, hmb⟩ := most_ok hNb
                have hbl := best_bk hb hbb
                simp [eb, hmb, hbl, hrg]
                refine ⟨by omega, ?_⟩
                refine w_pick (fun j m => ∃ s, C0 m s ∧ Ok (n + 20 - j) s) ⟨s1, h0, hs1⟩ ?_ ?_
                · rintro j m hj ⟨s, h0, hs⟩
                  have h0' : m[0]? = some (.lst (s.map .d)) := h0
                  simp [↓t4__law_writes_hold, h0']
                  refine draw_w (n := n + 20 - (j + 1)) (by rw [show n + 20 - (j + 1) + 1 = n + 20 - j by omega]; exact hs) (by omega) (by omega) fun r s' b1 b2 b3 => ?_
                  simp
                  exact ⟨s', h0.set0, by rw [show n + 19 - j = n + 20 - (j + 1) by omega]; exact b3⟩
                · rintro so m hso1 hso2 ⟨s, h0, hs⟩
                  have sol := up_len (n := l.length) (a := 0) hso1 fun j hj => ⟨Nat.zero_le _, hso2 j hj⟩
                  have h0' : m[0]? = some (.lst (s.map .d)) := h0
                  have hjs := judge_ok hN hso1 hso2
                  try simp
                  refine ⟨by omega, w_each (g := LV.d ∘ fun i : Nat => PyData.int ((i : Nat) : Int)) (l := so) (fun k => .tuple [.int ((k : Nat) : Int), .list ((ahd l so k).map fun o => .int ((o : Nat) : Int))]) (fun k hk => ?_) ?_⟩
                  · have kl := hso2 k hk
                    try simp [↓e5__law_writes_hold]
                    refine ⟨by omega, w_some (g := LV.d ∘ fun i : Nat => PyData.int ((i : Nat) : Int)) (l := so) (fun o => decide (o < k) && decide (vl l k < vl l o)) (fun o => .int ((o : Nat) : Int)) (fun o ho => ?_) ?_⟩
                    · have ol := hso2 o ho
                      have p1 : ixPos l.length (k : Int) = some k := ixPos_nat kl
                      have g1 := get_vl kl
                      have p2 : ixPos l.length (o : Int) = some o := ixPos_nat ol
                      have g2 := get_vl ol
                      by_cases c : o < k
                      · simp [↓t5__law_writes_hold, p1, g1, p2, g2, c]
                      · simp [↓t5__law_writes_hold, p1, g1, p2, g2, c]
                    · simp [ahd]
                  · simp
                    refine ⟨by omega, w_some (g := LV.d ∘ fun k : Nat => PyData.tuple [.int ((k : Nat) : Int), .list ((ahd l so k).map fun o => .int ((o : Nat) : Int))]) (l := so) (fun k => !(ahd l so k).isEmpty) (fun k => PyData.tuple [.int ((k : Nat) : Int), .list ((ahd l so k).map fun o => .int ((o : Nat) : Int))]) (fun k hk => ?_) ?_⟩
                    · simp [↓t6__law_writes_hold]
                    · have hla : so.filter (fun k => !(ahd l so k).isEmpty) = lates l so := rfl
                      rw [hla]
                      simp [hjs]
                      have hfb := fb_one h0'
                      split
                      · rename_i hz
                        have hjz : jwD l so = .tuple [.str "in order"] := by unfold jwD; rw [hz]
                        have := eqD_self nio (by decide)
                        rw [hjz]
                        simp [this, hfb]
                        exact hs.mono (by omega)
                      · rename_i hz
                        cases hq : lates l so with
                        | nil => exact absurd hq hz
                        | cons k rest =>
                          have hkm : k ∈ lates l so := by rw [hq]; simp
                          obtain ⟨k1, k2⟩ := List.mem_filter.mp hkm
                          cases ha : ahd l so k with
                          | nil => rw [ha] at k2; cases k2
                          | cons o rest2 =>
                            have hjz : jwD l so = .tuple [.str "late", .int ((k : Nat) : Int), .int ((o : Nat) : Int)] := by
                              unfold jwD; rw [hq]; simp only [ha]; rfl
                            have om : o ∈ ahd l so k := by rw [ha]; simp
                            have ol := hso2 o (List.mem_filter.mp om).1
                            have kl := hso2 k k1
                            have nlt : Nice 2 6000 (.tuple [.str "late", .int ((k : Nat) : Int), .int ((o : Nat) : Int)]) := (nice_tup (n := 1) (B := 1922) (N := 3) (fun x hx => by
                              rcases List.mem_cons.mp hx with rfl | hx
                              · exact ⟨by decide +kernel, by decide +kernel, by decide +kernel⟩
                              · rcases List.mem_cons.mp hx with rfl | hx
                                · exact nice_int (by unfold sm; omega)
                                · rw [List.mem_singleton.mp hx]; exact nice_int (by unfold sm; omega)) (by simp)).mono (by decide)
                            have := eqD_self nlt (by decide)
                            rw [hjz]
                            simp [this, hfb, ha]
                            exact hs.mono (by omega)
end K72

end
section
/-! K72h: asks for a lease. -/
namespace K72
open PySem Gg
/-- the end of a lease -/
def fin (life b : Int) (a : Ask) : Int := b + if a.fr then min a.need life else life
def sp (life : Int) : Int → List Ask → List (Int × Int)
  | _, [] => []
  | free, a :: r => (max a.t free, fin life (max a.t free) a) :: sp life (fin life (max a.t free) a) r
def pv (p : Int × Int) : PyData := .tuple [.int p.1, .int p.2]
theorem sp_len (life : Int) : ∀ (l : List Ask) (free : Int), (sp life free l).length = l.length
  | [], _ => rfl
  | a :: r, free => by rw [sp, List.length_cons, List.length_cons, sp_len life r]
theorem wd_dies : eqD (.str "dies") (.str "frees") = some (.bool false) := by kernel_rfl
theorem wd_eq (b : Bool) : eqD (wd b) (.str "frees") = some (.bool b) := by
  cases b
  · exact wd_dies
  · exact eqD_txt
/-- the loop that finds the spans, half done -/
def Half (life : Int) (l : List Ask) (i : Nat) (pre : List (Int × Int)) (free : Int) : Prop := sp life 0 l = pre ++ sp life free (l.drop i) ∧ pre.length = i
theorem half_step {life : Int} {l : List Ask} {i : Nat} {pre : List (Int × Int)} {free : Int} {a : Ask} (h : Half life l i pre free) (ha : l[i]? = some a) : Half life l (i + 1) (pre ++ [(max a.t free, fin life (max a.t free) a)]) (fin life (max a.t free) a) := by
  obtain ⟨hi, rfl⟩ := List.getElem?_eq_some_iff.mp ha
  refine ⟨?_, by simp [h.2]⟩
  rw [h.1, List.drop_eq_getElem_cons hi, sp]
  simp
theorem half_end {life : Int} {l : List Ask} {pre : List (Int × Int)} {free : Int} (h : Half life l l.length pre free) : pre = sp life 0 l := by
  have := h.1
  rw [List.drop_length] at this
  rw [this, sp, List.append_nil]
theorem spans_for_ok {life : Int} {l : List Ask} (hl : l.length ≤ 60) : F_spans_for [.d (.int life), .d (asv l)] [] = some (.d (.list ((sp life 0 l).map pv)), []) := by
  refine wO.get (w_fn rfl rfl ?_)
  simp [↓B_spans_for]
  refine w_forI (fun i e m => ∃ pre free x4 x5 x6 x7, Half life l i pre free ∧ m = [.lst (pre.map fun p => .d (pv p))] ∧ e = [some (.d (.int life)), some (.d (asv l)), some (.ref 0), some (.d (.int free)), x4, x5, x6, x7]) ?_ ?_ ?_
  · exact ⟨[], 0, none, none, none, none, ⟨rfl, rfl⟩, rfl, rfl⟩
  · rintro i x e m hx ⟨pre, free, x4, x5, x6, x7, hh, rfl, rfl⟩
    rw [List.getElem?_map] at hx
    obtain ⟨a, ha, rfl⟩ := Option.map_eq_some_iff.mp hx
    obtain ⟨hi, _⟩ := List.getElem?_eq_some_iff.mp ha
    have hs := half_step hh ha
    have hpl := hh.2
    simp [↓b1_spans_for, av, -bMax_ii, -bMin_ii, bMax_m, bMin_m, wd_eq]
    by_cases hf : a.fr = true
    · have ef : fin life (max a.t free) a = max a.t free + min a.need life := by simp [fin, hf]
      rw [ef] at hs
      simp only [hf, if_true]
      exact ⟨by omega, _, hs, by simp [pv]⟩
    · have ef : fin life (max a.t free) a = max a.t free + life := by simp [fin, hf]
      rw [ef] at hs
      simp only [hf]
      exact ⟨by omega, _, hs, by simp [pv]⟩
  · rintro e m ⟨pre, free, x4, x5, x6, x7, hh, rfl, rfl⟩
    rw [List.length_map] at hh
    have := half_end hh
    subst this
    simp
    rw [ev_frz (k := 0) (xs := (sp life 0 l).map fun p => .d (pv p)) (ys := (sp life 0 l).map pv) rfl rfl (by simp)]
    simp
theorem granted_ok {life : Int} {l : List Ask} (h1 : 1 ≤ life ∧ life ≤ 1000000000000) (h : AsOk l) : F_granted_spans [.d (.int life), .d (asv l)] [] = some (.d (.tuple ((sp life 0 l).map pv)), []) := by
  refine wO.get (w_fn rfl rfl ?_)
  simp [↓B_granted_spans, check_life_ok life h1, check_asks_ok h, spans_for_ok h.len]
/-! ### cut short -/
def cs (life : Int) (l : List Ask) (i : Nat) : Bool := match l[i]? with
  | some a => a.fr && decide (life < a.need)
  | none => false
theorem cut_ok {life : Int} {l : List Ask} (h1 : 1 ≤ life ∧ life ≤ 1000000000000) (h : AsOk l) : F_cut_short [.d (.int life), .d (asv l)] [] = some (.d (rD ((List.range l.length).filter (cs life l))), []) := by
  have hl := h.len
  refine wO.get (w_fn rfl rfl ?_)
  simp [↓B_cut_short, check_life_ok life h1, check_asks_ok h]
  refine ⟨by omega, w_enumS (cs life l) (fun i => .int ((i : Nat) : Int)) (fun i a ha => ?_) ?_⟩
  · have hc : cs life l i = (a.fr && decide (life < a.need)) := by unfold cs; rw [ha]
    rw [hc]
    cases hf : a.fr <;> simp [↓t1_cut_short, pairD, av, wd_eq, hf]
  · simp
/-! ### waits -/
def waits (life : Int) (l : List Ask) : List Int := (l.zip (sp life 0 l)).map fun q => q.2.1 - q.1.t
def lw (life : Int) (l : List Ask) : Int := maxI 0 (waits life l)
theorem longest_ok {life : Int} {l : List Ask} (h1 : 1 ≤ life ∧ life ≤ 1000000000000) (h : AsOk l) : F_longest_wait [.d (.int life), .d (asv l)] [] = some (.d (.int (lw life l)), []) := by
  have hl := h.len
  have hs := sp_len life l 0
  refine wO.get (w_fn rfl rfl ?_)
  simp [↓B_longest_wait, granted_ok h1 h]
  have hz : (l.zip (sp life 0 l)).length = l.length := by rw [List.length_zip, hs, Nat.min_self]
  rw [zip_map]
  simp
  refine ⟨by omega, w_each (g := fun q : Ask × (Int × Int) => LV.d (.tuple [av q.1, pv q.2])) (l := l.zip (sp life 0 l)) (fun q => .int (q.2.1 - q.1.t)) (fun q hq => ?_) ?_⟩
  · simp [↓e1_longest_wait, av, pv]
  · simp [bMax_f, hz, hs]
    exact ⟨by omega, rfl⟩
/-! ### the greatest life -/
theorem fin_mono {x y b c : Int} {a : Ask} (h : x ≤ y) (h2 : b ≤ c) : fin x b a ≤ fin y c a := by
  unfold fin
  split <;> omega
theorem sp_mono {x y : Int} (h : x ≤ y) : ∀ (l : List Ask) (b c : Int), b ≤ c → ∀ i, (hi : i < (sp x b l).length) → (hj : i < (sp y c l).length) → (sp x b l)[i].1 ≤ (sp y c l)[i].1
  | [], _, _, _, i, hi, _ => by simp [sp] at hi
  | a :: r, b, c, hbc, 0, _, _ => by
    show max a.t b ≤ max a.t c
    omega
  | a :: r, b, c, hbc, i + 1, hi, hj => by
    have := sp_mono h r (fin x (max a.t b) a) (fin y (max a.t c) a) (fin_mono h (by omega)) i (by simpa [sp] using hi) (by simpa [sp] using hj)
    simpa [sp] using this
theorem waits_len (life : Int) (l : List Ask) : (waits life l).length = l.length := by
  unfold waits
  rw [List.length_map, List.length_zip, sp_len, Nat.min_self]
theorem waits_get {life : Int} {l : List Ask} {i : Nat} (h : i < l.length) : (waits life l)[i]'(by rw [waits_len]; exact h) = ((sp life 0 l)[i]'(by rw [sp_len]; exact h)).1 - l[i].t := by
  unfold waits
  simp
theorem lw_mono {x y : Int} (h : x ≤ y) (l : List Ask) : lw x l ≤ lw y l := by
  unfold lw
  obtain ⟨a1, a2, a3⟩ := maxI_spec' (waits x l) 0
  obtain ⟨b1, b2, b3⟩ := maxI_spec' (waits y l) 0
  rcases a1 with e | e
  · omega
  · obtain ⟨i, hi, e⟩ := List.getElem_of_mem e
    have hl : i < l.length := by rw [waits_len] at hi; exact hi
    have h1 := sp_mono h l 0 0 (Int.le_refl _) i (by rw [sp_len]; exact hl) (by rw [sp_len]; exact hl)
    have h2 := waits_get (life := x) hl
    have h3 := waits_get (life := y) hl
    have h4 := b3 _ (List.getElem_mem (l := waits y l) (n := i) (by rw [waits_len]; exact hl))
    rw [h3] at h4
    rw [← e, h2]
    omega
theorem greatest_ok {l : List Ask} {most : Int} (h : AsOk l) (hm : 0 ≤ most ∧ most ≤ 1000000000000) : ∃ low : Int, 0 ≤ low ∧ low ≤ 1000000000000 ∧ F_greatest_life [.d (asv l), .d (.int most)] [] = some (.d (if 0 < low then .int low else .none), []) ∧
    (0 < low → lw low l ≤ most) ∧ (low < 1000000000000 → most < lw (low + 1) l) := by
  suffices H : wO (F_greatest_life [.d (asv l), .d (.int most)] []) fun y => ∃ low : Int, 0 ≤ low ∧ low ≤ 1000000000000 ∧ y = (.d (if 0 < low then .int low else .none), []) ∧ (0 < low → lw low l ≤ most) ∧ (low < 1000000000000 → most < lw (low + 1) l) by
    obtain ⟨y, h1, low, h2, h3, rfl, h4⟩ := H
    exact ⟨low, h2, h3, h1, h4⟩
  refine w_fn rfl rfl ?_
  simp [↓B_greatest_life, check_asks_ok h, is_between_i, hm]
  refine w_whileI (n := 1000000000001) (fun n e m => ∃ (low high : Int) (x4 : Option LV), m = [] ∧ e = [some (.d (asv l)), some (.d (.int most)), some (.d (.int low)), some (.d (.int high)), x4] ∧ 0 ≤ low ∧ low < high ∧ high ≤ 1000000000001 ∧ high - low ≤ n ∧ (0 < low → lw low l ≤ most) ∧ (high ≤ 1000000000000 → most < lw high l)) ?_ ?_
  · exact ⟨0, 1000000000001, none, rfl, rfl, by omega, by omega, by omega, by omega, fun q => absurd q (by omega), fun q => absurd q (by omega)⟩
  · rintro n e m ⟨low, high, x4, rfl, rfl, g1, g2, g3, g4, g5, g6⟩
    simp [↓c1_greatest_life]
    refine ⟨fun hle => ?_, fun hlt => ?_⟩
    · have eh : high = low + 1 := by omega
      by_cases hp : 0 < low
      · simp [hp]
        exact ⟨low, g1, by omega, by simp [hp], g5, fun q => by rw [← eh]; exact g6 (by omega)⟩
      · simp only [hp, if_false]
        exact ⟨low, g1, by omega, by omega, fun q => absurd q hp, fun q => by rw [← eh]; exact g6 (by omega)⟩
    · have hl2 : Nat.log2 2 < 9000 := by decide
      have m1 : 1 ≤ (low + high) / 2 ∧ (low + high) / 2 ≤ 1000000000000 := by omega
      simp [↓b1_greatest_life, hl2, longest_ok m1 h]
      split
      · rename_i hw
        exact ⟨(high - (low + high) / 2).toNat, by omega, _, _, ⟨rfl, rfl⟩, by omega, by omega, g3, by omega, fun _ => hw, g6⟩
      · rename_i hw
        exact ⟨((low + high) / 2 - low).toNat, by omega, _, _, ⟨rfl, rfl⟩, g1, by omega, by omega, by omega, g5, fun _ => by omega⟩
end K72

end
section
/-! K72i: asks for a lease, moved and stretched. -/
namespace K72
open PySem Gg
theorem accept_last {l : List Ask} {most : Int} (h : AsOk l) (hm : 0 ≤ most ∧ most ≤ 1000000000000) (hw : lw 1000000000000 l ≤ most) : F_accept_life [.d (asv l), .d (.int most), .d (.int 1000000000000), .d .none] [] = some (.d .none, []) := by
  refine wO.get (w_fn rfl rfl ?_)
  have hw' : ¬ most < lw 1000000000000 l := by omega
  simp [↓B_accept_life, check_asks_ok h, is_between_i, hm, longest_ok (life := 1000000000000) (by omega) h, hw']
theorem sp_get {life : Int} {l : List Ask} {i : Nat} (hi : i < l.length) : (sp life 0 l)[i]? = some ((sp life 0 l).getD i (0, 0)) := by
  have : i < (sp life 0 l).length := by rw [sp_len]; exact hi
  rw [List.getD_eq_getElem?_getD, List.getElem?_eq_getElem this]; rfl
theorem accept_at {l : List Ask} {most life : Int} {i : Nat} {a : Ask} (h : AsOk l) (hm : 0 ≤ most ∧ most ≤ 1000000000000) (h1 : 1 ≤ life ∧ life ≤ 1000000000000) (hw : lw life l ≤ most) (ha : l[i]? = some a) (hl : most < ((sp (life + 1) 0 l).getD i (0, 0)).1 - a.t) : F_accept_life [.d (asv l), .d (.int most), .d (.int life), .d (.int ((i : Nat) : Int))] [] = some (.d .none, []) := by
  refine wO.get (w_fn rfl rfl ?_)
  obtain ⟨hi, _⟩ := List.getElem?_eq_some_iff.mp ha
  have hw' : ¬ most < lw life l := by omega
  have hib : (i : Int) ≤ (l.length : Int) - 1 := by omega
  have hn : ¬ (((sp (life + 1) 0 l).getD i (0, 0)).1 - a.t ≤ most) := by omega
  have p1 : ixPos l.length (i : Int) = some i := ixPos_nat hi
  have g1 := sp_get (life := life + 1) hi
  have hsl := sp_len (life + 1) l 0
  generalize (sp (life + 1) 0 l).getD i (0, 0) = w at *
  simp [↓B_accept_life, check_asks_ok h, is_between_i, hm, h1, longest_ok h1 h, hw', hib, spans_for_ok h.len, hsl, p1, g1, pv, ha, av, hn]
/-! ### moved, stretched -/
def mv (far : Int) (l : List Ask) : List Ask := l.map fun a => ⟨a.t + far, a.need, a.fr⟩
def wide (l : List Ask) : List Ask := l.map fun a => ⟨3 * a.t, 3 * a.need, a.fr⟩
def shp (far : Int) (p : Int × Int) : Int × Int := (p.1 + far, p.2 + far)
def trp (p : Int × Int) : Int × Int := (3 * p.1, 3 * p.2)
theorem sp_mv (life far : Int) : ∀ (l : List Ask) (free : Int), sp life (free + far) (mv far l) = (sp life free l).map (shp far)
  | [], _ => rfl
  | a :: r, free => by
    have e1 : max (a.t + far) (free + far) = max a.t free + far := by omega
    have e2 : fin life (max a.t free + far) ⟨a.t + far, a.need, a.fr⟩ = fin life (max a.t free) a + far := by unfold fin; split <;> simp_all <;> omega
    show (max (a.t + far) (free + far), fin life (max (a.t + far) (free + far)) ⟨a.t + far, a.need, a.fr⟩) :: sp life (fin life (max (a.t + far) (free + far)) ⟨a.t + far, a.need, a.fr⟩) (mv far r) = _
    rw [e1, e2, sp_mv life far r]
    rfl
theorem sp_start {life x y : Int} {l : List Ask} (hx : ∀ a ∈ l, x ≤ a.t ∧ y ≤ a.t) : sp life x l = sp life y l := by
  cases l with
  | nil => rfl
  | cons a r =>
    have := hx a List.mem_cons_self
    rw [sp, sp]
    have e1 : max a.t x = a.t := by omega
    have e2 : max a.t y = a.t := by omega
    rw [e1, e2]
theorem sp_moved {life far : Int} {l : List Ask} (h0 : ∀ a ∈ l, 0 ≤ a.t) (hf : 0 ≤ far) : sp life 0 (mv far l) = (sp life 0 l).map (shp far) := by
  rw [← sp_mv life far l 0]
  refine sp_start fun a ha => ?_
  obtain ⟨b, hb, rfl⟩ := List.mem_map.mp ha
  have := h0 b hb
  show 0 ≤ b.t + far ∧ 0 + far ≤ b.t + far
  omega
theorem sp_wide (life : Int) : ∀ (l : List Ask) (free : Int), sp (3 * life) (3 * free) (wide l) = (sp life free l).map trp
  | [], _ => rfl
  | a :: r, free => by
    have e1 : max (3 * a.t) (3 * free) = 3 * max a.t free := by omega
    have e2 : fin (3 * life) (3 * max a.t free) ⟨3 * a.t, 3 * a.need, a.fr⟩ = 3 * fin life (max a.t free) a := by unfold fin; split <;> simp_all <;> omega
    show (max (3 * a.t) (3 * free), fin (3 * life) (max (3 * a.t) (3 * free)) ⟨3 * a.t, 3 * a.need, a.fr⟩) :: sp (3 * life) (fin (3 * life) (max (3 * a.t) (3 * free)) ⟨3 * a.t, 3 * a.need, a.fr⟩) (wide r) = _
    rw [e1, e2, sp_wide life r]
    rfl
theorem maxI_3 : ∀ (r : List Int) (a : Int), maxI (3 * a) (r.map fun x => 3 * x) = 3 * maxI a r
  | [], _ => rfl
  | b :: r, a => by
    show maxI (max (3 * a) (3 * b)) _ = 3 * maxI (max a b) r
    have : max (3 * a) (3 * b) = 3 * max a b := by omega
    rw [this, maxI_3 r]
theorem lw_wide (life : Int) (l : List Ask) : lw (3 * life) (wide l) = 3 * lw life l := by
  unfold lw
  have e : waits (3 * life) (wide l) = (waits life l).map fun x => 3 * x := by
    unfold waits
    have := sp_wide life l 0
    rw [Int.mul_zero] at this
    rw [this, List.map_map]
    unfold wide
    rw [List.zip_map, List.map_map]
    refine List.map_congr_left fun q _ => ?_
    simp [trp]
    omega
  rw [e]
  exact maxI_3 _ 0
theorem cs_wide (life : Int) (l : List Ask) : (List.range (wide l).length).filter (cs (3 * life) (wide l)) = (List.range l.length).filter (cs life l) := by
  have hl : (wide l).length = l.length := by unfold wide; simp
  rw [hl]
  refine List.filter_congr fun i _ => ?_
  unfold cs wide
  rw [List.getElem?_map]
  cases l[i]? with
  | none => rfl
  | some a =>
    show (a.fr && decide (3 * life < 3 * a.need)) = (a.fr && decide (life < a.need))
    congr 1
    rw [decide_eq_decide]; omega
/-- the law's asks -/
structure LAs (l : List Ask) : Prop where
  len : l.length ≤ 7
  t : ∀ a ∈ l, 0 ≤ a.t ∧ a.t ≤ 100
  need : ∀ a ∈ l, 0 ≤ a.need ∧ a.need ≤ 100
  ord : ∀ (i : Nat) (a b : Ask), l[i]? = some a → l[i + 1]? = some b → a.t ≤ b.t
theorem LAs.ok {l : List Ask} (h : LAs l) : AsOk l := ⟨by have := h.len; omega, fun a ha => ⟨by have := h.t a ha; omega, by have := h.need a ha; omega⟩, h.ord⟩
theorem LAs.mv {l : List Ask} (h : LAs l) {far : Int} (hf : 0 ≤ far ∧ far ≤ 100) : AsOk (mv far l) := by
  refine ⟨by unfold K72.mv; simp; have := h.len; omega, fun a ha => ?_, fun i a b ha hb => ?_⟩
  · obtain ⟨c, hc, rfl⟩ := List.mem_map.mp ha
    have h1 := h.t c hc
    have h2 := h.need c hc
    exact ⟨⟨by show 0 ≤ c.t + far; omega, by show c.t + far ≤ _; omega⟩, by show 0 ≤ c.need; omega, by show c.need ≤ _; omega⟩
  · unfold K72.mv at ha hb
    rw [List.getElem?_map] at ha hb
    obtain ⟨x, hx, rfl⟩ := Option.map_eq_some_iff.mp ha
    obtain ⟨y, hy, rfl⟩ := Option.map_eq_some_iff.mp hb
    have := h.ord i x y hx hy
    show x.t + far ≤ y.t + far
    omega
theorem LAs.wide {l : List Ask} (h : LAs l) : AsOk (wide l) := by
  refine ⟨by unfold K72.wide; simp; have := h.len; omega, fun a ha => ?_, fun i a b ha hb => ?_⟩
  · obtain ⟨c, hc, rfl⟩ := List.mem_map.mp ha
    have h1 := h.t c hc
    have h2 := h.need c hc
    exact ⟨⟨by show 0 ≤ 3 * c.t; omega, by show 3 * c.t ≤ _; omega⟩, by show 0 ≤ 3 * c.need; omega, by show 3 * c.need ≤ _; omega⟩
  · unfold K72.wide at ha hb
    rw [List.getElem?_map] at ha hb
    obtain ⟨x, hx, rfl⟩ := Option.map_eq_some_iff.mp ha
    obtain ⟨y, hy, rfl⟩ := Option.map_eq_some_iff.mp hb
    have := h.ord i x y hx hy
    show 3 * x.t ≤ 3 * y.t
    omega
theorem sp_bound {life : Int} (h1 : 0 ≤ life) (h2 : life ≤ 100) : ∀ (l : List Ask) (free : Int), 0 ≤ free → (∀ a ∈ l, 0 ≤ a.t ∧ a.t ≤ 1000) → (∀ a ∈ l, 0 ≤ a.need) → ∀ p ∈ sp life free l, (0 ≤ p.1 ∧ p.1 ≤ max free 1000 + 100 * l.length) ∧ 0 ≤ p.2 ∧ p.2 ≤ max free 1000 + 100 * l.length
  | [], _, _, _, _, p, hp => by cases hp
  | a :: r, free, h0, ht, hn, p, hp => by
    have h3 := ht a List.mem_cons_self
    have h4 := hn a List.mem_cons_self
    have hf : 0 ≤ fin life (max a.t free) a ∧ max a.t free ≤ fin life (max a.t free) a ∧ fin life (max a.t free) a ≤ max a.t free + 100 := by unfold fin; split <;> omega
    rw [List.length_cons]
    rcases List.mem_cons.mp hp with rfl | hp
    · constructor <;> constructor <;> push_cast <;> omega
    · have := sp_bound h1 h2 r _ hf.1 (fun b hb => ht b (List.mem_cons_of_mem _ hb)) (fun b hb => hn b (List.mem_cons_of_mem _ hb)) p hp
      push_cast
      omega
theorem nice_sp {life : Int} {l : List Ask} (h1 : 0 ≤ life) (h2 : life ≤ 100) (hl : l.length ≤ 60) (ht : ∀ a ∈ l, 0 ≤ a.t ∧ a.t ≤ 1000) (hn : ∀ a ∈ l, 0 ≤ a.need) : Nice 3 (60 * (2 * 1924 + 4 + 2) + 4) (.tuple ((sp life 0 l).map pv)) := by
  refine nice_tup (n := 2) (fun x hx => ?_) (by rw [List.length_map, sp_len]; exact hl)
  obtain ⟨p, hp, rfl⟩ := List.mem_map.mp hx
  have hb := sp_bound h1 h2 l 0 (by omega) ht hn p hp
  refine nice_tup (n := 1) (B := 1922) (N := 2) (fun y hy => ?_) (by simp)
  rcases List.mem_cons.mp hy with rfl | hy
  · exact nice_int (by unfold sm; omega)
  · rw [List.mem_singleton.mp hy]; exact nice_int (by unfold sm; omega)
theorem lw_bound {life : Int} {l : List Ask} (h1 : 0 ≤ life) (h2 : life ≤ 100) (h : LAs l) : 0 ≤ lw life l ∧ lw life l ≤ 10000 := by
  have hl := h.len
  unfold lw
  obtain ⟨a1, a2, a3⟩ := maxI_spec' (waits life l) 0
  refine ⟨a2, ?_⟩
  rcases a1 with e | e
  · omega
  · obtain ⟨i, hi, e⟩ := List.getElem_of_mem e
    have hil : i < l.length := by rw [waits_len] at hi; exact hi
    rw [← e, waits_get hil]
    have := sp_bound h1 h2 l 0 (by omega) (fun a ha => by have := h.t a ha; omega) (fun a ha => (h.need a ha).1) _ (List.getElem_mem (l := sp life 0 l) (n := i) (by rw [sp_len]; exact hil))
    have := h.t _ (List.getElem_mem hil)
    omega
theorem nice_rD {r : List Nat} {n : Nat} (hr : ∀ i ∈ r, i < n) (hn : n ≤ 1000) (hl : r.length ≤ 60) : Nice 2 (60 * 1924 + 4) (rD r) := by
  rw [rD_eq]
  exact nice_ints (n := 0) (fun i hi => by obtain ⟨j, hj, rfl⟩ := List.mem_map.mp hi; have := hr j hj; unfold sm; omega) (by simp [rI]; omega)
end K72

end
section
/-! K72j: asks for a lease: the law's def. -/
namespace K72
open PySem Gg
theorem pick_w {n : Nat} {st : List PyData} {Q : LV × List (List PyData) → Prop} (h : Ok (n + 1) st) (q : ∀ (b : Bool) (st' : List PyData), Ok n st' → Q (.d (wd b), [st'])) : wO (F__law_pick [.ref 0, .d (.list [.str "frees", .str "dies"])] [st]) Q := by
  refine w_fn rfl rfl ?_
  simp [↓B__law_pick]
  refine draw_w h (by omega) (by omega) fun r s' b1 b2 b3 => ?_
  simp
  by_cases c : r = 0
  · subst c
    simp
    exact q true s' b3
  · have : r = 1 := by omega
    subst this
    simp
    exact q false s' b3
/-- asks drawn so far -/
structure Drawn (t : Int) (L : List Ask) : Prop where
  t0 : 0 ≤ t
  t1 : t ≤ 5 * L.length
  le : ∀ a ∈ L, 0 ≤ a.t ∧ a.t ≤ t
  need : ∀ a ∈ L, 0 ≤ a.need ∧ a.need ≤ 100
  ord : L.Pairwise fun a b => a.t ≤ b.t
theorem Drawn.step {t d k : Int} {b : Bool} {L : List Ask} (h : Drawn t L) (hd : 0 ≤ d ∧ d < 6) (hk : 0 ≤ k ∧ k < 9) : Drawn (t + d) (L ++ [⟨t + d, k, b⟩]) := by
  have h0 := h.t0
  have h1 := h.t1
  refine ⟨by omega, by simp; omega, fun a ha => ?_, fun a ha => ?_, List.pairwise_append.mpr ⟨h.ord, List.pairwise_singleton _ _, fun a ha c hc => ?_⟩⟩
  · rcases List.mem_append.mp ha with ha | ha
    · have := h.le a ha; omega
    · rw [List.mem_singleton.mp ha]; show 0 ≤ t + d ∧ t + d ≤ t + d; omega
  · rcases List.mem_append.mp ha with ha | ha
    · exact h.need a ha
    · rw [List.mem_singleton.mp ha]; show 0 ≤ k ∧ k ≤ 100; omega
  · rw [List.mem_singleton.mp hc]
    have := h.le a ha
    show a.t ≤ t + d
    omega
theorem Drawn.las {t : Int} {L : List Ask} (h : Drawn t L) (hl : L.length ≤ 7) : LAs L := by
  have h1 := h.t1
  refine ⟨hl, fun a ha => by have := h.le a ha; omega, h.need, fun i a b ha hb => ?_⟩
  obtain ⟨hi, rfl⟩ := List.getElem?_eq_some_iff.mp ha
  obtain ⟨hj, rfl⟩ := List.getElem?_eq_some_iff.mp hb
  exact List.pairwise_iff_getElem.mp h.ord i (i + 1) hi hj (by omega)
theorem asks_ok {n : Nat} {st : List PyData} (h : Ok (n + 40) st) : wO (F__law_asks_hold [.ref 0] [st]) fun y => ∃ st', y = (.d (.bool true), [st']) ∧ Ok n st' := by
  refine w_fn rfl rfl ?_
  simp [↓B__law_asks_hold]
  refine draw_w (n := n + 39) h (by omega) (by omega) fun r0 s0 a1 a2 a3 => ?_
  simp
  refine ⟨rng_of (by omega), ?_⟩
  refine w_forI (fun i e m => ∃ s t L x3, m = [stC s, .lst (L.map fun a => .d (av a))] ∧ Ok (n + 39 - 3 * i) s ∧ Drawn t L ∧ L.length = i ∧ e = [some (.ref 0), some (.d (.int t)), some (.ref 1), x3, none, none, none, none, none, none, none, none, none, none, none, none, none, none, none, none]) ?_ ?_ ?_
  · exact ⟨s0, 0, [], none, rfl, a3, ⟨by omega, by simp, fun a ha => (by cases ha), fun a ha => (by cases ha), .nil⟩, rfl, rfl⟩
  · rintro i x e m hx ⟨s, t, L, x3, rfl, hs, hD, hL, rfl⟩
    obtain ⟨hi, rfl⟩ := upTo_get hx
    have hi : i < 8 := by omega
    simp [↓b1__law_asks_hold]
    refine draw_w (n := n + 38 - 3 * i) (by rw [show n + 38 - 3 * i + 1 = n + 39 - 3 * i by omega]; exact hs) (by omega) (by omega) fun d s1 b1 b2 b3 => ?_
    simp
    refine draw_w (n := n + 37 - 3 * i) (by rw [show n + 37 - 3 * i + 1 = n + 38 - 3 * i by omega]; exact b3) (by omega) (by omega) fun k s2 c1 c2 c3 => ?_
    simp
    refine pick_w (n := n + 36 - 3 * i) (by rw [show n + 36 - 3 * i + 1 = n + 37 - 3 * i by omega]; exact c3) fun b s3 d1 => ?_
    simp
    have hst := hD.step (b := b) ⟨b1, b2⟩ ⟨c1, c2⟩
    refine ⟨by omega, s3, _, L ++ [⟨t + d, k, b⟩], ⟨rfl, by simp [av]⟩, by rw [show n + 39 - 3 * (i + 1) = n + 36 - 3 * i by omega]; exact d1, hst, by simp [hL], rfl⟩
  · rintro e m ⟨s, t, L, x3, rfl, hs, hD, hL, rfl⟩
    rw [upTo_len] at hs hL
    have hA : LAs L := hD.las (by omega)
    have hok := hA.ok
    have hLl := hA.len
    have h0t : ∀ a ∈ L, 0 ≤ a.t := fun a ha => (hA.t a ha).1
    have hnd : ∀ a ∈ L, 0 ≤ a.need := fun a ha => (hA.need a ha).1
    simp
    refine draw_w (n := n + 15) (hs.mono (by omega)) (by omega) (by omega) fun lf s1 b1 b2 b3 => ?_
    simp
    refine draw_w (n := n + 14) b3 (by omega) (by omega) fun fr s2 c1 c2 c3 => ?_
    simp
    generalize hlife : 1 + lf = life at *
    generalize hfar : 1 + fr = far at *
    have hl1 : 1 ≤ life ∧ life ≤ 9 := by omega
    have hl2 : 1 ≤ life ∧ life ≤ 1000000000000 := by omega
    have hf1 : 1 ≤ far ∧ far ≤ 20 := by omega
    simp [granted_ok hl2 hok]
    refine w_forI (fun i e m => ∃ pre free x1 x9 x10 x11, Half life L i pre free ∧ m = [stC s2, .lst (L.map fun a => .d (av a)), .lst (pre.map fun p => .d (pv p))] ∧ e = [some (.ref 0), x1, some (.d (asv L)), x3, some (.d (.int life)), some (.d (.int far)), some (.d (.tuple ((sp life 0 L).map pv))), some (.d (.int free)), some (.ref 2), x9, x10, x11, none, none, none, none, none, none, none, none]) ?_ ?_ ?_
    · exact ⟨[], 0, _, none, none, none, ⟨rfl, rfl⟩, rfl, rfl⟩
    · rintro i x e m hx ⟨pre, free, x1, x9, x10, x11, hh, rfl, rfl⟩
      rw [List.getElem?_map] at hx
      obtain ⟨a, ha, rfl⟩ := Option.map_eq_some_iff.mp hx
      obtain ⟨hi, _⟩ := List.getElem?_eq_some_iff.mp ha
      have hst := half_step hh ha
      have hpl := hh.2
      simp [↓b2__law_asks_hold, av, wd_eq]
      by_cases hf : a.fr = true
      · have ef : fin life (max a.t free) a = max a.t free + min a.need life := by simp [fin, hf]
        rw [ef] at hst
        simp only [hf, if_true]
        exact ⟨by omega, _, hst, by simp [pv]⟩
      · have ef : fin life (max a.t free) a = max a.t free + life := by simp [fin, hf]
        rw [ef] at hst
        simp only [hf]
        exact ⟨by omega, _, hst, by simp [pv]⟩
    · rintro e m ⟨pre, free, x1, x9, x10, x11, hh, rfl, rfl⟩
      rw [List.length_map] at hh
      have := half_end hh
      subst this
      have hsl := sp_len life L 0
      have nsp := nice_sp (life := life) (l := L) (by omega) (by omega) (by omega) (fun a ha => by have := hA.t a ha; omega) hnd
      have hs1 := same_ok nsp (by decide) (by decide)
      have hrg : rngOk ((L.length : Nat) : Int) = true := rng_of (by omega)
      simp [hs1, longest_ok hl2 hok, hrg]
      refine ⟨by omega, w_rangeE (fun i => .int ((waits life L).getD i 0)) (fun i hi => ?_) ?_⟩
      · have p1 : ixPos L.length (i : Int) = some i := ixPos_nat hi
        have g1 := sp_get (life := life) hi
        have g2 := List.getElem?_eq_getElem hi
        have hw := waits_get (life := life) hi
        have hw2 : (waits life L).getD i 0 = (waits life L)[i]'(by rw [waits_len]; exact hi) := by rw [List.getD_eq_getElem?_getD, List.getElem?_eq_getElem (by rw [waits_len]; exact hi)]; rfl
        have g3 : (sp life 0 L)[i]? = some ((sp life 0 L)[i]'(by rw [sp_len]; exact hi)) := List.getElem?_eq_getElem _
        rw [hw2, hw]
        generalize (sp life 0 L)[i]'(by rw [sp_len]; exact hi) = w at *
        generalize L[i] = a at *
        simp [↓e1__law_asks_hold, hsl, p1, g3, g2, pv, av]
      · have ew : (List.range L.length).map (fun i => (waits life L)[i]?.getD 0) = waits life L := by
          refine List.ext_getElem (by simp [waits_len]) fun i h1 h2 => ?_
          simp [h2]
        have elw : maxI 0 (waits life L) = lw life L := rfl
        simp [bMax_f, ew, elw]
        have m3 : mulFits 3 life := sm_mul (by unfold sm; omega) (by unfold sm; omega)
        refine ⟨by omega, by omega, w_each (g := LV.d ∘ av) (l := L) (fun a => av ⟨a.t + far, a.need, a.fr⟩) (fun a ha => ?_) ?_⟩
        · simp [↓e2__law_asks_hold, av]
        · have emv : L.map (fun a => av ⟨a.t + far, a.need, a.fr⟩) = (mv far L).map av := by unfold mv; rw [List.map_map]; rfl
          rw [emv]
          simp
          refine ⟨by omega, w_each (g := LV.d ∘ av) (l := L) (fun a => av ⟨3 * a.t, 3 * a.need, a.fr⟩) (fun a ha => ?_) ?_⟩
          · have h1 := hA.t a ha
            have h2 := hA.need a ha
            have q1 : mulFits 3 a.t := sm_mul (by unfold sm; omega) (by unfold sm; omega)
            have q2 : mulFits 3 a.need := sm_mul (by unfold sm; omega) (by unfold sm; omega)
            simp [↓e3__law_asks_hold, av, q1, q2]
          · have ewd : L.map (fun a => av ⟨3 * a.t, 3 * a.need, a.fr⟩) = (wide L).map av := by unfold wide; rw [List.map_map]; rfl
            rw [ewd]
            have hmvok := hA.mv (far := far) (by omega)
            have hwok := hA.wide
            have hl3 : 1 ≤ 3 * life ∧ 3 * life ≤ 1000000000000 := by omega
            have emS : sp life 0 (mv far L) = (sp life 0 L).map (shp far) := sp_moved h0t (by omega)
            have ewS : sp (3 * life) 0 (wide L) = (sp life 0 L).map trp := by have := sp_wide life L 0; rwa [Int.mul_zero] at this
            have hg1 := granted_ok hl2 hmvok
            have hg2 := granted_ok hl3 hwok
            have hmt : ∀ a ∈ mv far L, (0 ≤ a.t ∧ a.t ≤ 1000) ∧ 0 ≤ a.need := fun a ha => by
              obtain ⟨c, hc, rfl⟩ := List.mem_map.mp ha
              have h1 := hA.t c hc
              have h2 := hA.need c hc
              exact ⟨⟨by show 0 ≤ c.t + far; omega, by show c.t + far ≤ _; omega⟩, by show 0 ≤ c.need; omega⟩
            have hwt : ∀ a ∈ wide L, (0 ≤ a.t ∧ a.t ≤ 1000) ∧ 0 ≤ a.need := fun a ha => by
              obtain ⟨c, hc, rfl⟩ := List.mem_map.mp ha
              have h1 := hA.t c hc
              have h2 := hA.need c hc
              exact ⟨⟨by show 0 ≤ 3 * c.t; omega, by show 3 * c.t ≤ _; omega⟩, by show 0 ≤ 3 * c.need; omega⟩
            have n1 := nice_sp (life := life) (l := mv far L) (by omega) (by omega) (by unfold mv; simp; omega) (fun a ha => (hmt a ha).1) fun a ha => (hmt a ha).2
            have n2 := nice_sp (life := 3 * life) (l := wide L) (by omega) (by omega) (by unfold wide; simp; omega) (fun a ha => (hwt a ha).1) fun a ha => (hwt a ha).2
            rw [emS] at hg1 n1
            rw [ewS] at hg2 n2
            simp [hg1, hg2, m3]
            refine ⟨by omega, w_each (g := LV.d ∘ pv) (l := sp life 0 L) (fun p => pv (shp far p)) (fun p hp => ?_) ?_⟩
            · simp [↓e4__law_asks_hold, pv, shp]
            · simp
              refine ⟨by omega, w_each (g := LV.d ∘ pv) (l := sp life 0 L) (fun p => pv (trp p)) (fun p hp => ?_) ?_⟩
              · have hb := sp_bound (by omega) (by omega) L 0 (by omega) (fun a ha => by have := hA.t a ha; omega) hnd p hp
                have q1 : mulFits 3 p.1 := sm_mul (by unfold sm; omega) (by unfold sm; omega)
                have q2 : mulFits 3 p.2 := sm_mul (by unfold sm; omega) (by unfold sm; omega)
                simp [↓e5__law_asks_hold, pv, trp, q1, q2]
              · have ns2 : Nice 4 (2 * (60 * (2 * 1924 + 4 + 2) + 4 + 2) + 4) (.list [.tuple ((sp life 0 L).map fun p => pv (shp far p)), .tuple ((sp life 0 L).map fun p => pv (trp p))]) := by
                  rw [List.map_map] at n1 n2
                  refine nice_list (N := 2) (fun x hx => ?_) (by simp)
                  rcases List.mem_cons.mp hx with rfl | hx
                  · exact n1
                  · rw [List.mem_singleton.mp hx]; exact n2
                have hs2 := same_ok ns2 (by decide) (by decide)
                have hlb := lw_bound (life := life) (by omega) (by omega) hA
                have q3 : mulFits 3 (lw life L) := sm_mul (by unfold sm; omega) (by unfold sm; omega)
                have hlw3 := longest_ok hl3 hwok
                rw [lw_wide] at hlw3
                have hct3 := cut_ok hl3 hwok
                rw [cs_wide] at hct3
                have hct := cut_ok hl2 hok
                have ncs : Nice 2 (60 * 1924 + 4) (rD ((List.range L.length).filter (cs life L))) := nice_rD (n := L.length) (fun i hi => List.mem_range.mp (List.mem_filter.mp hi).1) (by omega) (by have := List.length_filter_le (cs life L) (List.range L.length); rw [List.length_range] at this; omega)
                have hnc := neD_self ncs (by decide)
                have hl4 : 1 ≤ life + 1 ∧ life + 1 ≤ 1000000000000 := by omega
                have hmono := lw_mono (x := life) (y := life + 1) (by omega) L
                have hnm : ¬ (lw (life + 1) L < lw life L) := by omega
                have hlo := longest_ok hl2 hok
                simp [Function.comp_def, hs2, hlw3, q3, hct3, hct, hnc, longest_ok hl4 hok, hlo, hnm]
                refine draw_w (n := n + 13) c3 (by omega) (by omega) fun most s3 d1 d2 d3 => ?_
                have hms : 0 ≤ most ∧ most ≤ 1000000000000 := by omega
                obtain ⟨low, g1, g2, g3, g4, g5⟩ := greatest_ok hok hms
                by_cases hp : 0 < low
                · have hlw : 1 ≤ low ∧ low ≤ 1000000000000 := by omega
                  have hnl : ¬ (most < lw low L) := by have := g4 hp; omega
                  rw [if_pos hp] at g3
                  by_cases hmx : low = 1000000000000
                  · subst hmx
                    simp [g3, longest_ok hlw hok, hnl, accept_last hok hms (g4 hp)]
                    exact d3.mono (by omega)
                  · have hl5 : 1 ≤ low + 1 ∧ low + 1 ≤ 1000000000000 := by omega
                    have hg6 := g5 (by omega)
                    simp [g3, longest_ok hlw hok, hnl, hmx]
                    have hsl5 := sp_len (low + 1) L 0
                    refine ⟨by omega, w_rangeS (fun i => decide (most < ((sp (low + 1) 0 L).getD i (0, 0)).1 - (L.getD i ⟨0, 0, true⟩).t)) (fun i => .int ((i : Nat) : Int)) (fun i hi => ?_) ?_⟩
                    · have p1 : ixPos L.length (i : Int) = some i := ixPos_nat hi
                      have g1' := sp_get (life := low + 1) hi
                      have g2' : L[i]? = some (L.getD i ⟨0, 0, true⟩) := by rw [List.getD_eq_getElem?_getD, List.getElem?_eq_getElem hi]; rfl
                      generalize (sp (low + 1) 0 L).getD i (0, 0) = w at *
                      generalize L.getD i ⟨0, 0, true⟩ = a at *
                      simp [↓t1__law_asks_hold, granted_ok hl5 hok, hsl5, p1, g1', g2', pv, av]
                    · generalize hF : (List.range L.length).filter (fun i => decide (most < ((sp (low + 1) 0 L).getD i (0, 0)).1 - (L.getD i ⟨0, 0, true⟩).t)) = FF
                      have hFm : ∀ i ∈ FF, i < L.length ∧ most < ((sp (low + 1) 0 L).getD i (0, 0)).1 - (L.getD i ⟨0, 0, true⟩).t := fun i hi => by
                        rw [← hF] at hi
                        obtain ⟨x, y⟩ := List.mem_filter.mp hi
                        exact ⟨List.mem_range.mp x, of_decide_eq_true y⟩
                      cases FF with
                      | nil =>
                        exfalso
                        obtain ⟨w1, w2, w3⟩ := maxI_spec' (waits (low + 1) L) 0
                        have hg6' : most < maxI 0 (waits (low + 1) L) := hg6
                        rcases w1 with e | e
                        · omega
                        · obtain ⟨i, hi, e⟩ := List.getElem_of_mem e
                          have hil : i < L.length := by rw [waits_len] at hi; exact hi
                          have := List.filter_eq_nil_iff.mp hF i (List.mem_range.mpr hil)
                          rw [decide_eq_true_eq] at this
                          rw [waits_get hil] at e
                          have q1 : (sp (low + 1) 0 L).getD i (0, 0) = (sp (low + 1) 0 L)[i]'(by rw [sp_len]; exact hil) := by rw [List.getD_eq_getElem?_getD, List.getElem?_eq_getElem (by rw [sp_len]; exact hil)]; rfl
                          have q2 : L.getD i ⟨0, 0, true⟩ = L[i] := by rw [List.getD_eq_getElem?_getD, List.getElem?_eq_getElem hil]; rfl
                          rw [q1, q2] at this
                          omega
                      | cons i rest =>
                        obtain ⟨i1, i2⟩ := hFm i List.mem_cons_self
                        have g2' : L[i]? = some (L.getD i ⟨0, 0, true⟩) := by rw [List.getD_eq_getElem?_getD, List.getElem?_eq_getElem i1]; rfl
                        have hac := accept_at hok hms hlw (g4 hp) g2' i2
                        have hlF : rest.length ≤ 60 := by
                          have := List.length_filter_le (fun i => decide (most < ((sp (low + 1) 0 L).getD i (0, 0)).1 - (L.getD i ⟨0, 0, true⟩).t)) (List.range L.length)
                          rw [hF, List.length_range, List.length_cons] at this; omega
                        have hne : neD (.list ((i :: rest).map fun i => .int ((i : Nat) : Int))) (.list []) = some (.bool true) := neD_diff (by simp) (by simp) (by simp)
                        have hne' : neD (.list (.int ((i : Nat) : Int) :: rest.map fun i => .int ((i : Nat) : Int))) (.list []) = some (.bool true) := hne
                        simp [hne', hac]
                        exact d3.mono (by omega)
                · have : low = 0 := by omega
                  subst this
                  have hg6 := g5 (by omega)
                  rw [if_neg hp] at g3
                  simp [g3, longest_ok (life := 1) (by omega) hok]
                  exact ⟨s3, ⟨hg6, rfl⟩, d3.mono (by omega)⟩
end K72

end
section
/-! K72k: leases that are taken, kept, freed. -/
namespace K72
open PySem Gg
inductive Wd where
  | tk | kp | fr
deriving DecidableEq
structure Ev where
  t : Int
  w : Wd
  h : Int
structure Sp where
  h : Int
  b : Int
  e : Int
def wv : Wd → PyData
  | .tk => .str "take"
  | .kp => .str "keep"
  | .fr => .str "free"
def evv (e : Ev) : PyData := .tuple [.int e.t, wv e.w, .int e.h]
abbrev evs (l : List Ev) : PyData := .tuple (l.map evv)
def rowOf (s : Sp) : List Int := [s.h, s.b, s.e]
theorem wv_take (w : Wd) : eqD (wv w) (.str "take") = some (.bool (decide (w = .tk))) := by cases w <;> kernel_rfl
theorem wv_keep (w : Wd) : eqD (wv w) (.str "keep") = some (.bool (decide (w = .kp))) := by cases w <;> kernel_rfl
theorem wv_in (w : Wd) : notInD (wv w) (.tuple [.str "take", .str "keep", .str "free"]) = some (.bool false) := by cases w <;> kernel_rfl
@[simp] theorem wv_str (w : Wd) : isType "str" (wv w) = true := by cases w <;> rfl
def EOk (e : Ev) : Prop := (0 ≤ e.t ∧ e.t ≤ 1000000000000) ∧ 0 ≤ e.h ∧ e.h ≤ 1000000000000
theorem is_event_ok {e : Ev} (h : EOk e) : F_is_event [.d (evv e)] [] = some (.d (.bool true), []) := by
  obtain ⟨t, w, k⟩ := e
  obtain ⟨h1, h2⟩ := h
  simp at h1 h2
  simp [F_is_event, mkFn, B_is_event, is_between_i, evv, wv_in, h1, h2]
structure EsOk (l : List Ev) : Prop where
  len : l.length ≤ 60
  ok : ∀ a ∈ l, EOk a
  ord : ∀ (i : Nat) (a b : Ev), l[i]? = some a → l[i + 1]? = some b → a.t ≤ b.t
theorem check_events_ok {life : Int} {l : List Ev} (h1 : 1 ≤ life ∧ life ≤ 1000000000000) (h : EsOk l) : F_check_events [.d (.int life), .d (evs l)] [] = some (.d .none, []) := by
  refine wO.get (w_fn rfl rfl ?_)
  have hl := h.len
  have h2 : ¬ (60 < ((l.length : Nat) : Int)) := by omega
  have h3 : l.length ≤ 1000000 := by omega
  simp [↓B_check_events, check_life_ok life h1, h2, h3]
  refine w_each (fun _ => .bool true) (fun i hi => ?_) ?_
  · simp [e1_check_events, is_event_ok (h.ok i hi)]
  · have ha := bAll_map (f := fun _ : Ev => true) l
    have hr : rngOk ((l.length : Int) - 1) = true := rng_of (by omega)
    simp [ha, hr]
    refine ⟨by omega, w_range0 (fun i hi => ?_) ?_⟩
    · have hi1 : i < l.length := by omega
      have hi2 : i + 1 < l.length := by omega
      have p1 : ixPos l.length (i : Int) = some i := ixPos_nat hi1
      have p2 : ixPos l.length ((i : Int) + 1) = some (i + 1) := ixPos_nat (k := i + 1) hi2
      have g1 := List.getElem?_eq_getElem hi1
      have g2 := List.getElem?_eq_getElem hi2
      have := h.ord i _ _ g1 g2
      have : ¬ (l[i + 1].t < l[i].t) := by omega
      simp [t1_check_events, p1, p2, g1, g2, evv, this]
    · simp
/-! ### what comes of events -/
def opn (S : List Sp) (t : Int) : Bool := match S.getLast? with
  | some s => decide (t < s.e)
  | none => false
def stepE (life : Int) (S : List Sp) (e : Ev) : Option (List Sp) :=
  if e.w = .tk then (if opn S e.t then none else some (S ++ [⟨e.h, e.t, e.t + life⟩]))
  else match S.getLast? with
    | some s => if e.t < s.e ∧ s.h = e.h then some (S.dropLast ++ [⟨s.h, s.b, if e.w = .kp then e.t + life else e.t⟩]) else none
    | none => none
def runE (life : Int) : List Sp → List Ev → Option (List Sp)
  | S, [] => some S
  | S, e :: r => (stepE life S e).bind fun T => runE life T r
theorem run_app (life : Int) : ∀ (E : List Ev) (S : List Sp) (e : Ev), runE life S (E ++ [e]) = (runE life S E).bind fun T => stepE life T e
  | [], S, e => by simp [runE]
  | x :: E, S, e => by
    rw [List.cons_append, runE, runE]
    cases stepE life S x with
    | none => rfl
    | some T => simp only [Option.bind_some]; exact run_app life E T e
/-- the spans as they stand -/
def stS (S : List Sp) : Sto := .lst ((List.range S.length).map fun i => .ref (i + 1)) :: S.map fun s => rowC (rowOf s)
theorem stS_0 (S : List Sp) : (stS S)[0]? = some (.lst ((List.range S.length).map fun i => .ref (i + 1))) := rfl
theorem stS_at {S : List Sp} {i : Nat} {s : Sp} (h : S[i]? = some s) : (stS S)[i + 1]? = some (rowC (rowOf s)) := by
  unfold stS
  rw [List.getElem?_cons_succ, List.getElem?_map, h]; rfl
theorem stS_len (S : List Sp) : (stS S).length = S.length + 1 := by unfold stS; simp
theorem stS_set {A : List Sp} {s s' : Sp} : (stS (A ++ [s])).set (A.length + 1) (rowC (rowOf s')) = stS (A ++ [s']) := by
  unfold stS
  simp
theorem stS_app {S : List Sp} {s : Sp} : (stS S ++ [rowC (rowOf s)]).set 0 (Cell.lst ((List.range S.length).map (fun i => LV.ref (i + 1)) ++ [.ref (S.length + 1)])) = stS (S ++ [s]) := by
  unfold stS
  simp [List.range_succ]
theorem frz_rows2 : ∀ {rs : List (List Int)} {k : Nat} {m : Sto}, (∀ i r, rs[i]? = some r → m[k + i]? = some (rowC r)) → ∃ m', frzM (frzV 3) m ((List.range' k rs.length).map LV.ref) = some (rs.map fun r => .list (r.map .int), m') ∧ ∀ j, j < k → m'[j]? = m[j]?
  | [], k, m, _ => ⟨m, rfl, fun _ _ => rfl⟩
  | r :: rs, k, m, h => by
    have h0 := h 0 r rfl
    have hf := frz_row h0
    obtain ⟨m', h1, h2⟩ := frz_rows2 (rs := rs) (k := k + 1) (m := m.set k .dead) (fun i r' hr => by
      rw [List.getElem?_set_ne (by omega)]
      have := h (i + 1) r' (by simpa using hr)
      rwa [show k + (i + 1) = k + 1 + i by omega] at this)
    refine ⟨m', ?_, fun j hj => ?_⟩
    · rw [List.length_cons, List.range'_succ, List.map_cons]
      simp only [frzM]
      rw [show k + 0 = k from rfl] at hf
      rw [hf]
      simp only []
      rw [h1]; rfl
    · rw [h2 j (by omega), List.getElem?_set_ne (by omega)]
theorem frz_S {S : List Sp} {e : List (Option LV)} {t : Nat} (ht : e[t]? = some (some (.ref 0))) : ∃ m', eFrz t e (stS S) = some (.d (.list (S.map fun s => .list ((rowOf s).map .int))), m') := by
  obtain ⟨m', h1, h2⟩ := frz_rows2 (rs := S.map rowOf) (k := 1) (m := stS S) (fun i r hr => by
    rw [List.getElem?_map] at hr
    obtain ⟨s, hs, rfl⟩ := Option.map_eq_some_iff.mp hr
    rw [show 1 + i = i + 1 by omega]
    exact stS_at hs)
  have e1 : (List.range' 1 (S.map rowOf).length).map LV.ref = (List.range S.length).map fun i => LV.ref (i + 1) := by
    rw [List.length_map, List.range'_eq_map_range, List.map_map]
    refine List.map_congr_left fun i _ => ?_
    simp [Nat.add_comm]
  rw [e1, List.map_map] at h1
  have h3 := h2 0 (by omega)
  rw [stS_0] at h3
  refine ⟨m'.set 0 .dead, ?_⟩
  unfold eFrz
  simp only [ht]
  have : frzV FRZ (stS S) (.ref 0) = some (.list (S.map fun s => .list ((rowOf s).map .int)), m'.set 0 .dead) := by
    show (match (stS S)[0]? with
      | some (Cell.lst xs) => match frzM (frzV 3) (stS S) xs with
        | some (ys, m1) => match m1[0]? with
          | some (Cell.lst _) => some (PyData.list ys, m1.set 0 .dead)
          | _ => none
        | none => none
      | _ => none) = _
    simp only [stS_0, h1, h3]
    rfl
  rw [this]; rfl
theorem followed_ok {life : Int} {E : List Ev} {S : List Sp} (hl : E.length ≤ 60) (h : runE life [] E = some S) : F_followed [.d (.int life), .d (evs E)] [] = some (.d (.tuple [.list (S.map fun s => .list ((rowOf s).map .int)), .none, .none]), []) := by
  refine wO.get (w_fn rfl rfl ?_)
  simp [↓B_followed]
  refine w_forI (fun i e m => ∃ T x3 x4 x5 x6 x7, runE life T (E.drop i) = some S ∧ T.length ≤ i ∧ m = stS T ∧ e = [some (.d (.int life)), some (.d (evs E)), some (.ref 0), x3, x4, x5, x6, x7]) ?_ ?_ ?_
  · exact ⟨[], none, none, none, none, none, h, by simp, rfl, rfl⟩
  · rintro i x e m hx ⟨T, x3, x4, x5, x6, x7, hr, hTl, rfl, rfl⟩
    obtain ⟨v, hv, rfl⟩ := enum_get hx
    obtain ⟨hi, hve⟩ := List.getElem?_eq_some_iff.mp hv
    rw [List.drop_eq_getElem_cons hi, hve, runE] at hr
    obtain ⟨T', hT', hr'⟩ := Option.bind_eq_some_iff.mp hr
    have h0 := stS_0 T
    have hTL := stS_len T
    rcases List.eq_nil_or_concat T with rfl | ⟨A, s, rfl⟩
    · have hw : v.w = .tk := by
        unfold stepE at hT'
        by_cases c : v.w = .tk
        · exact c
        · rw [if_neg c] at hT'; cases hT'
      have hT2 : T' = [⟨v.h, v.t, v.t + life⟩] := by
        unfold stepE at hT'
        rw [if_pos hw] at hT'
        simpa [opn] using hT'.symm
      subst hT2
      have h0' : (stS [])[0]? = some (.lst []) := rfl
      have ha' : ∀ c : List Cell, (stS [] ++ c)[0]? = some (.lst []) := fun _ => rfl
      have hl1 : List.length (stS []) = 1 := rfl
      simp [↓b1_followed, pairD, evv, wv_take, hw, h0']
      rw [lstV_r (ha' _)]
      simp [hl1]
      exact ⟨[⟨v.h, v.t, v.t + life⟩], hr', by simp, rfl⟩
    · rw [List.concat_eq_append] at *
      have h0' : (stS (A ++ [s]))[0]? = some (.lst ((List.range (A.length + 1)).map fun i => .ref (i + 1))) := by rw [h0]; simp
      have hs' : (stS (A ++ [s]))[A.length + 1]? = some (.lst [.d (.int s.h), .d (.int s.b), .d (.int s.e)]) := stS_at (by simp)
      have hlen : List.length (stS (A ++ [s])) = A.length + 2 := by rw [hTL]; simp
      have hA : A.length ≤ 60 := by simp at hTl; omega
      have hlast : (A ++ [s]).getLast? = some s := by simp
      have hdrop : (A ++ [s]).dropLast = A := by simp
      by_cases hw : v.w = .tk
      · have hno : ¬ v.t < s.e ∧ T' = A ++ [s] ++ [⟨v.h, v.t, v.t + life⟩] := by
          unfold stepE opn at hT'
          rw [if_pos hw, hlast] at hT'
          simp only [decide_eq_true_eq] at hT'
          split at hT'
          · cases hT'
          · rename_i c
            exact ⟨c, (Option.some.inj hT').symm⟩
        obtain ⟨hno, rfl⟩ := hno
        have ha' : ∀ c : List Cell, (stS (A ++ [s]) ++ c)[0]? = some (.lst ((List.range (A.length + 1)).map fun i => .ref (i + 1))) := fun c => by
          rw [List.getElem?_append_left (by rw [hlen]; omega)]; exact h0'
        simp [↓b1_followed, pairD, evv, wv_take, hw, h0', hs', hno]
        rw [lstV_r (ha' _)]
        simp [hlen]
        have he := stS_app (S := A ++ [s]) (s := ⟨v.h, v.t, v.t + life⟩)
        simp [hlen, rowC, rowOf] at he
        simp at hr'
        exact ⟨by omega, _, hr', by simp at hTl ⊢; omega, he⟩
      · have hop : (v.t < s.e ∧ s.h = v.h) ∧ T' = A ++ [⟨s.h, s.b, if v.w = .kp then v.t + life else v.t⟩] := by
          unfold stepE at hT'
          rw [if_neg hw, hlast, hdrop] at hT'
          simp only [] at hT'
          split at hT'
          · rename_i c
            exact ⟨c, (Option.some.inj hT').symm⟩
          · cases hT'
        obtain ⟨⟨ho1, ho2⟩, rfl⟩ := hop
        simp [↓b1_followed, pairD, evv, wv_take, wv_keep, hw, h0', hs', ho1, ho2]
        have he : ∀ x : Int, (stS (A ++ [s])).set (A.length + 1) (Cell.lst [.d (.int v.h), .d (.int s.b), .d (.int x)]) = stS (A ++ [⟨s.h, s.b, x⟩]) := fun x => by
          rw [← ho2]
          exact stS_set (s' := ⟨s.h, s.b, x⟩)
        by_cases hk : v.w = .kp
        · simp [hk] at hr' ⊢
          exact ⟨_, hr', by simp at hTl ⊢; omega, he _⟩
        · simp [hk] at hr' ⊢
          exact ⟨_, hr', by simp at hTl ⊢; omega, he _⟩
  · rintro e m ⟨T, x3, x4, x5, x6, x7, hr, hTl, rfl, rfl⟩
    simp [runE] at hr
    subst hr
    obtain ⟨m', hm'⟩ := frz_S (S := T) (e := [some (LV.d (.int life)), some (.d (evs E)), some (.ref 0), x3, x4, x5, x6, x7]) (t := 2) rfl
    simp [hm']
end K72

end
section
/-! K72l: leases judged; who holds one. -/
namespace K72
open PySem Gg
def spT (s : Sp) : PyData := .tuple [.int s.h, .int s.b, .int s.e]
def jlD (S : List Sp) : PyData := .tuple [.str "fine", .tuple (S.map spT)]
theorem run_len (life : Int) : ∀ (E : List Ev) (S T : List Sp), runE life S E = some T → T.length ≤ S.length + E.length
  | [], S, T, h => by simp [runE] at h; subst h; simp
  | e :: E, S, T, h => by
    rw [runE] at h
    obtain ⟨U, h1, h2⟩ := Option.bind_eq_some_iff.mp h
    have ih := run_len life E U T h2
    have : U.length ≤ S.length + 1 := by
      unfold stepE at h1
      split at h1
      · split at h1
        · cases h1
        · cases h1; simp
      · split at h1
        · split at h1
          · cases h1; simp
          · cases h1
        · cases h1
    rw [List.length_cons]; omega
theorem judge_leases_ok {life : Int} {E : List Ev} {S : List Sp} (h1 : 1 ≤ life ∧ life ≤ 1000000000000) (h : EsOk E) (hr : runE life [] E = some S) : F_judge_leases [.d (.int life), .d (evs E)] [] = some (.d (jlD S), []) := by
  have hl := run_len life E [] S hr
  have hel := h.len
  simp at hl
  refine wO.get (w_fn rfl rfl ?_)
  simp [↓B_judge_leases, check_events_ok h1 h, followed_ok h.len hr]
  refine ⟨by omega, w_each (g := LV.d ∘ fun s : Sp => PyData.list ((rowOf s).map .int)) (l := S) spT (fun s hs => ?_) ?_⟩
  · simp [↓e1_judge_leases, spT, rowOf]
  · simp [jlD]
def hit (S : List Sp) (at_ : Int) (i : Nat) : Bool := match S[i]? with
  | some s => decide (s.b ≤ at_) && decide (at_ < s.e)
  | none => false
def hits (S : List Sp) (at_ : Int) : List Nat := (List.range S.length).filter (hit S at_)
def haD (S : List Sp) (at_ : Int) : PyData := match hits S at_ with
  | [] => .none
  | i :: _ => .tuple [.int ((i : Nat) : Int), .int (S.getD i ⟨0, 0, 0⟩).h]
theorem holder_ok {life at_ : Int} {E : List Ev} {S : List Sp} (h1 : 1 ≤ life ∧ life ≤ 1000000000000) (h : EsOk E) (hr : runE life [] E = some S) (ht : 0 ≤ at_ ∧ at_ ≤ 2000000000000) : F_holder_at [.d (.int life), .d (evs E), .d (.int at_)] [] = some (.d (haD S at_), []) := by
  have hl := run_len life E [] S hr
  have hel := h.len
  simp at hl
  refine wO.get (w_fn rfl rfl ?_)
  have hm : mulFits 2 1000000000000 := sm_mul (by unfold sm; omega) (by unfold sm; omega)
  simp [↓B_holder_at, check_events_ok h1 h, followed_ok h.len hr, hm, is_between_i, ht]
  have ef : S.map (fun s => PyData.list ((rowOf s).map .int)) = S.map (fun s => PyData.list ((rowOf s).map .int)) := rfl
  refine w_forI (fun i e m => ∃ x6 x7 x8 x9, (∀ j ∈ List.range i, hit S at_ j = false) ∧ m = [] ∧ e = [some (.d (.int life)), some (.d (evs E)), some (.d (.int at_)), some (.d (.list (S.map fun s => .list ((rowOf s).map .int)))), some (.d .none), some (.d .none), x6, x7, x8, x9]) ?_ ?_ ?_
  · exact ⟨none, none, none, none, fun j hj => (by simp at hj), rfl, rfl⟩
  · rintro i x e m hx ⟨x6, x7, x8, x9, hI, rfl, rfl⟩
    obtain ⟨s, hs, rfl⟩ := enum_get hx
    obtain ⟨hi, hse⟩ := List.getElem?_eq_some_iff.mp hs
    have hh : hit S at_ i = (decide (s.b ≤ at_) && decide (at_ < s.e)) := by unfold hit; rw [hs]
    have no : hit S at_ i = false → ∀ j ∈ List.range (i + 1), hit S at_ j = false := fun q j hj => by
      have := List.mem_range.mp hj
      by_cases c : j = i
      · subst c; exact q
      · exact hI j (List.mem_range.mpr (by omega))
    by_cases c1 : s.b ≤ at_
    · by_cases c2 : at_ < s.e
      · have hhi : hit S at_ i = true := by rw [hh]; simp [c1, c2]
        obtain ⟨rest, hf⟩ := filter_first (p := hit S at_) (r := List.range S.length) (i := i) (k := i) (List.getElem?_range hi) (fun a ha => by
          rw [List.take_range] at ha
          have := List.mem_range.mp ha
          exact hI a (List.mem_range.mpr (by omega))) hhi
        have hf : hits S at_ = i :: rest := hf
        have hg : (S.getD i ⟨0, 0, 0⟩).h = s.h := by rw [List.getD_eq_getElem?_getD, hs]; rfl
        simp [↓b1_holder_at, pairD, rowOf, c1, c2]
        unfold haD
        rw [hf]
        simp [hs]
      · have hhi : hit S at_ i = false := by rw [hh]; simp [c2]
        simp [↓b1_holder_at, pairD, rowOf, c1, c2]
        intro j hj
        exact no hhi j (List.mem_range.mpr hj)
    · have hhi : hit S at_ i = false := by rw [hh]; simp [c1]
      simp [↓b1_holder_at, pairD, rowOf, c1]
      intro j hj
      exact no hhi j (List.mem_range.mpr hj)
  · rintro e m ⟨x6, x7, x8, x9, hI, rfl, rfl⟩
    rw [enum_len] at hI
    have hf : hits S at_ = [] := List.filter_eq_nil_iff.mpr fun a ha => by rw [hI a ha]; simp
    unfold haD
    rw [hf]
    simp
/-! ### moved -/
def mvE (far : Int) (e : Ev) : Ev := ⟨e.t + far, e.w, e.h⟩
def mvS (far : Int) (s : Sp) : Sp := ⟨s.h, s.b + far, s.e + far⟩
theorem step_mv {life far : Int} {S : List Sp} {e : Ev} : stepE life (S.map (mvS far)) (mvE far e) = (stepE life S e).map fun T => T.map (mvS far) := by
  rcases List.eq_nil_or_concat S with rfl | ⟨A, s, rfl⟩
  · unfold stepE opn mvE
    by_cases c : e.w = .tk
    · simp [c, mvS]; omega
    · simp [c]
  · rw [List.concat_eq_append]
    unfold stepE opn mvE
    by_cases c : e.w = .tk
    · by_cases c2 : e.t < s.e
      · simp [c, c2, mvS]
      · simp [c, c2, mvS]; omega
    · by_cases c2 : e.t < s.e ∧ s.h = e.h
      · simp [c, c2, mvS]
        split <;> omega
      · simp [c, mvS, c2]
theorem run_mv (life far : Int) : ∀ (E : List Ev) (S : List Sp), runE life (S.map (mvS far)) (E.map (mvE far)) = (runE life S E).map fun T => T.map (mvS far)
  | [], S => rfl
  | e :: E, S => by
    rw [List.map_cons, runE, runE, step_mv]
    cases stepE life S e with
    | none => rfl
    | some T => simp only [Option.map_some, Option.bind_some]; exact run_mv life far E T
theorem hits_mv (far at_ : Int) (S : List Sp) : hits (S.map (mvS far)) (at_ + far) = hits S at_ := by
  unfold hits
  rw [List.length_map]
  refine List.filter_congr fun i _ => ?_
  unfold hit
  rw [List.getElem?_map]
  cases S[i]? with
  | none => rfl
  | some s =>
    show (decide (s.b + far ≤ at_ + far) && decide (at_ + far < s.e + far)) = (decide (s.b ≤ at_) && decide (at_ < s.e))
    congr 1 <;> rw [decide_eq_decide] <;> omega
theorem ha_mv (far at_ : Int) (S : List Sp) : haD (S.map (mvS far)) (at_ + far) = haD S at_ := by
  unfold haD
  rw [hits_mv]
  cases q : hits S at_ with
  | nil => rfl
  | cons i r =>
    have hi : i ∈ hits S at_ := by rw [q]; simp
    have hi := List.mem_range.mp (List.mem_filter.mp hi).1
    have : ((S.map (mvS far)).getD i ⟨0, 0, 0⟩).h = (S.getD i ⟨0, 0, 0⟩).h := by
      rw [List.getD_eq_getElem?_getD, List.getD_eq_getElem?_getD, List.getElem?_map, List.getElem?_eq_getElem hi]; rfl
    simp only [this]
/-! ### events drawn -/
structure Gen (life : Int) (E : List Ev) (S : List Sp) (t : Int) (en : Option Int) (ho : Int) : Prop where
  run : runE life [] E = some S
  t0 : 0 ≤ t
  le : ∀ e ∈ E, (0 ≤ e.t ∧ e.t ≤ t) ∧ 0 ≤ e.h ∧ e.h ≤ 4
  ord : E.Pairwise fun a b => a.t ≤ b.t
  some_ : ∀ x, en = some x → ∃ A s, S = A ++ [s] ∧ s.h = ho ∧ s.e = x
  none_ : en = none → ∀ s, S.getLast? = some s → s.e ≤ t
  sp : S.Pairwise fun a b => a.e ≤ b.b
  bd : ∀ s ∈ S, (0 ≤ s.h ∧ s.h ≤ 4) ∧ (0 ≤ s.b ∧ s.b ≤ t) ∧ 0 ≤ s.e ∧ s.e ≤ t + life
theorem gen_E {life t t' : Int} {E : List Ev} {e : Ev} (h1 : ∀ e ∈ E, (0 ≤ e.t ∧ e.t ≤ t) ∧ 0 ≤ e.h ∧ e.h ≤ 4) (h2 : E.Pairwise fun a b => a.t ≤ b.t) (ht : t ≤ t') (h0 : 0 ≤ t) (he : e.t = t') (hh : 0 ≤ e.h ∧ e.h ≤ 4) :
    (∀ x ∈ E ++ [e], (0 ≤ x.t ∧ x.t ≤ t') ∧ 0 ≤ x.h ∧ x.h ≤ 4) ∧ (E ++ [e]).Pairwise fun a b => a.t ≤ b.t := by
  refine ⟨fun x hx => ?_, List.pairwise_append.mpr ⟨h2, List.pairwise_singleton _ _, fun a ha b hb => ?_⟩⟩
  · rcases List.mem_append.mp hx with hx | hx
    · have := h1 x hx; omega
    · rw [List.mem_singleton.mp hx]; omega
  · rw [List.mem_singleton.mp hb]
    have := h1 a ha
    omega
theorem Gen.take {life t d ho k : Int} {E : List Ev} {S : List Sp} {en : Option Int} (h : Gen life E S t en ho) (hl : 0 ≤ life) (hd : 0 ≤ d) (hk : 0 ≤ k ∧ k < 4) (hc : ∀ x, en = some x → x ≤ t + d) : Gen life (E ++ [⟨t + d, .tk, k⟩]) (S ++ [⟨k, t + d, t + d + life⟩]) (t + d) (some (t + d + life)) k := by
  have h0 := h.t0
  obtain ⟨g1, g2⟩ := gen_E (life := life) (t' := t + d) (e := ⟨t + d, .tk, k⟩) h.le h.ord (by omega) h.t0 rfl (by show 0 ≤ k ∧ k ≤ 4; omega)
  have hlast : ∀ s, S.getLast? = some s → s.e ≤ t + d := fun s hs => by
    cases hen : en with
    | none => have := h.none_ hen s hs; omega
    | some x =>
      obtain ⟨A, s', rfl, _, he⟩ := h.some_ x hen
      simp at hs
      subst hs
      have := hc x hen
      omega
  refine ⟨?_, by omega, g1, g2, fun x hx => ⟨S, _, rfl, rfl, (Option.some.inj hx)⟩, fun q => (by cases q), List.pairwise_append.mpr ⟨h.sp, List.pairwise_singleton _ _, fun a ha b hb => ?_⟩, fun s hs => ?_⟩
  · rw [run_app, h.run, Option.bind_some]
    unfold stepE
    rw [if_pos rfl]
    have : opn S (t + d) = false := by
      unfold opn
      cases q : S.getLast? with
      | none => rfl
      | some s => have := hlast s q; simp; omega
    simp [this]
  · rw [List.mem_singleton.mp hb]
    show a.e ≤ t + d
    rcases List.eq_nil_or_concat S with rfl | ⟨A, s, rfl⟩
    · cases ha
    · rw [List.concat_eq_append] at *
      have hs := hlast s (by simp)
      rcases List.mem_append.mp ha with ha | ha
      · have hp := (List.pairwise_append.mp h.sp).2.2 a ha s (by simp)
        have := (h.bd s (by simp)).2.1
        omega
      · rw [List.mem_singleton.mp ha]; exact hs
  · rcases List.mem_append.mp hs with hs | hs
    · have := h.bd s hs; omega
    · rw [List.mem_singleton.mp hs]
      show (0 ≤ k ∧ k ≤ 4) ∧ (0 ≤ t + d ∧ t + d ≤ t + d) ∧ 0 ≤ t + d + life ∧ t + d + life ≤ t + d + life
      omega
theorem Gen.go {life t d ho x : Int} {E : List Ev} {S : List Sp} {b : Bool} (h : Gen life E S t (some x) ho) (hl : 0 ≤ life) (hd : 0 ≤ d) (hx : t + d < x) : ∃ T, Gen life (E ++ [⟨t + d, if b then .kp else .fr, ho⟩]) T (t + d) (if b then some (t + d + life) else none) ho := by
  have h0 := h.t0
  obtain ⟨A, s, rfl, hh, he⟩ := h.some_ x rfl
  have hb := h.bd s (by simp)
  obtain ⟨g1, g2⟩ := gen_E (life := life) (t' := t + d) (e := ⟨t + d, if b then .kp else .fr, ho⟩) h.le h.ord (by omega) h.t0 rfl (by show 0 ≤ ho ∧ ho ≤ 4; omega)
  have hp := List.pairwise_append.mp h.sp
  refine ⟨A ++ [⟨s.h, s.b, if b then t + d + life else t + d⟩], ?_, by omega, g1, g2, fun y hy => ?_, fun q s' hs' => ?_, List.pairwise_append.mpr ⟨hp.1, List.pairwise_singleton _ _, fun a ha c hc => ?_⟩, fun s' hs' => ?_⟩
  · rw [run_app, h.run, Option.bind_some]
    unfold stepE
    cases b <;> simp [he, hh, hx]
  · cases b with
    | false => cases hy
    | true => exact ⟨A, _, rfl, hh, by simpa using hy⟩
  · cases b with
    | true => cases q
    | false => simp at hs'; subst hs'; simp
  · rw [List.mem_singleton.mp hc]
    exact hp.2.2 a ha s (by simp)
  · rcases List.mem_append.mp hs' with hs' | hs'
    · have := h.bd s' (by simp [hs']); omega
    · rw [List.mem_singleton.mp hs']
      cases b
      · show (0 ≤ s.h ∧ s.h ≤ 4) ∧ (0 ≤ s.b ∧ s.b ≤ t + d) ∧ 0 ≤ t + d ∧ t + d ≤ t + d + life
        omega
      · show (0 ≤ s.h ∧ s.h ≤ 4) ∧ (0 ≤ s.b ∧ s.b ≤ t + d) ∧ 0 ≤ t + d + life ∧ t + d + life ≤ t + d + life
        omega
theorem gen_nil {life : Int} : Gen life [] [] 0 none 0 := ⟨rfl, by omega, fun e he => (by cases he), .nil, fun x hx => (by cases hx), fun _ s hs => (by cases hs), .nil, fun s hs => (by cases hs)⟩
theorem Gen.es {life t ho : Int} {E : List Ev} {S : List Sp} {en : Option Int} (h : Gen life E S t en ho) (hl : E.length ≤ 60) (ht : t ≤ 1000) : EsOk E := by
  refine ⟨hl, fun e he => by have := h.le e he; exact ⟨by omega, by omega⟩, fun i a b ha hb => ?_⟩
  obtain ⟨hi, rfl⟩ := List.getElem?_eq_some_iff.mp ha
  obtain ⟨hj, rfl⟩ := List.getElem?_eq_some_iff.mp hb
  exact List.pairwise_iff_getElem.mp h.ord i (i + 1) hi hj (by omega)
theorem es_mv {far : Int} {E : List Ev} (h : EsOk E) (hf : 0 ≤ far) (hb : ∀ e ∈ E, e.t + far ≤ 1000000000000) : EsOk (E.map (mvE far)) := by
  refine ⟨by rw [List.length_map]; exact h.len, fun e he => ?_, fun i a b ha hb' => ?_⟩
  · obtain ⟨x, hx, rfl⟩ := List.mem_map.mp he
    have h1 := h.ok x hx
    have h2 := hb x hx
    exact ⟨⟨by show 0 ≤ x.t + far; have := h1.1; omega, h2⟩, h1.2⟩
  · rw [List.getElem?_map] at ha hb'
    obtain ⟨x, hx, rfl⟩ := Option.map_eq_some_iff.mp ha
    obtain ⟨y, hy, rfl⟩ := Option.map_eq_some_iff.mp hb'
    have := h.ord i x y hx hy
    show x.t + far ≤ y.t + far
    omega
end K72

end
section
/-! K72m: leases: the law's def; the law. -/
namespace K72
open PySem Gg
theorem nice_jl {S : List Sp} (hl : S.length ≤ 60) (hb : ∀ s ∈ S, sm s.h ∧ sm s.b ∧ sm s.e) : Nice 4 900000 (jlD S) := by
  have n1 : Nice 3 400000 (.tuple (S.map spT)) := (nice_tup (n := 2) (B := 3 * 1924 + 4) (N := 60) (fun x hx => by
    obtain ⟨s, hs, rfl⟩ := List.mem_map.mp hx
    have h := hb s hs
    refine nice_tup (n := 1) (B := 1922) (N := 3) (fun y hy => ?_) (by simp)
    rcases List.mem_cons.mp hy with rfl | hy
    · exact nice_int h.1
    · rcases List.mem_cons.mp hy with rfl | hy
      · exact nice_int h.2.1
      · rw [List.mem_singleton.mp hy]; exact nice_int h.2.2) (by simpa using hl)).mono (by decide)
  refine (nice_tup (n := 3) (B := 400000) (N := 2) (fun x hx => ?_) (by simp)).mono (by decide)
  rcases List.mem_cons.mp hx with rfl | hx
  · exact ⟨by decide +kernel, by decide +kernel, by decide +kernel⟩
  · rw [List.mem_singleton.mp hx]; exact n1
def enD : Option Int → PyData
  | some x => .int x
  | none => .none
@[simp] theorem enD_s {x : Int} : enD (some x) = .int x := rfl
@[simp] theorem enD_n : enD none = .none := rfl
theorem leases_ok {n : Nat} {st : List PyData} (h : Ok (n + 60) st) : wO (F__law_leases_hold [.ref 0] [st]) fun y => ∃ st', y = (.d (.bool true), [st']) ∧ Ok n st' := by
  refine w_fn rfl rfl ?_
  simp [↓B__law_leases_hold]
  refine draw_w (n := n + 59) h (by omega) (by omega) fun lf s0 a1 a2 a3 => ?_
  simp
  refine draw_w (n := n + 58) a3 (by omega) (by omega) fun r0 s1 b1 b2 b3 => ?_
  generalize hlife : 2 + lf = life at *
  have hl1 : 2 ≤ life ∧ life ≤ 7 := by omega
  have hl2 : 1 ≤ life ∧ life ≤ 1000000000000 := by omega
  simp
  refine ⟨rng_of (by omega), ?_⟩
  refine w_forI (fun i e m => ∃ s t E S en ho x6, m = [stC s, .lst (E.map fun e => .d (evv e))] ∧ Ok (n + 58 - 2 * i) s ∧ Gen life E S t en ho ∧ t ≤ 4 * i ∧ E.length = i ∧ e = [some (.ref 0), some (.d (.int life)), some (.d (.int t)), some (.ref 1), some (.d (enD en)), some (.d (.int ho)), x6, none, none, none, none, none, none, none, none, none, none]) ?_ ?_ ?_
  · exact ⟨s1, 0, [], [], none, 0, none, rfl, b3, gen_nil, by omega, rfl, rfl⟩
  · rintro i x e m hx ⟨s, t, E, S, en, ho, x6, rfl, hs, hG, ht, hE, rfl⟩
    obtain ⟨hi, rfl⟩ := upTo_get hx
    have hi : i < 9 := by omega
    have hEl : (E.map fun e => LV.d (evv e)).length ≤ 1000000 := by rw [List.length_map]; omega
    simp [↓b1__law_leases_hold]
    refine draw_w (n := n + 57 - 2 * i) (by rw [show n + 57 - 2 * i + 1 = n + 58 - 2 * i by omega]; exact hs) (by omega) (by omega) fun d s2 c1 c2 c3 => ?_
    cases en with
    | none =>
      simp
      refine draw_w (n := n + 56 - 2 * i) (by rw [show n + 56 - 2 * i + 1 = n + 57 - 2 * i by omega]; exact c3) (by omega) (by omega) fun k s3 d1 d2 d3 => ?_
      simp
      have hst := hG.take (by omega) c1 ⟨d1, d2⟩ (fun x hx => by cases hx)
      refine ⟨by omega, s3, _, E ++ [⟨t + d, .tk, k⟩], ⟨rfl, by simp [evv, wv]⟩, by rw [show n + 58 - 2 * (i + 1) = n + 56 - 2 * i by omega]; exact d3, _, _, _, hst, by omega, by simp [hE], rfl, rfl, rfl⟩
    | some x =>
      by_cases hx1 : x ≤ t + d
      · simp [hx1]
        refine draw_w (n := n + 56 - 2 * i) (by rw [show n + 56 - 2 * i + 1 = n + 57 - 2 * i by omega]; exact c3) (by omega) (by omega) fun k s3 d1 d2 d3 => ?_
        simp
        have hst := hG.take (by omega) c1 ⟨d1, d2⟩ (fun y hy => by cases hy; exact hx1)
        exact ⟨by omega, s3, _, E ++ [⟨t + d, .tk, k⟩], ⟨rfl, by simp [evv, wv]⟩, by rw [show n + 58 - 2 * (i + 1) = n + 56 - 2 * i by omega]; exact d3, _, _, _, hst, by omega, by simp [hE], rfl, rfl, rfl⟩
      · simp [hx1]
        refine draw_w (n := n + 56 - 2 * i) (by rw [show n + 56 - 2 * i + 1 = n + 57 - 2 * i by omega]; exact c3) (by omega) (by omega) fun k s3 d1 d2 d3 => ?_
        by_cases hk : k = 0
        · subst hk
          obtain ⟨T, hT⟩ := hG.go (b := false) (by omega) c1 (by omega)
          simp
          exact ⟨by omega, s3, _, E ++ [⟨t + d, .fr, ho⟩], ⟨rfl, by simp [evv, wv]⟩, by rw [show n + 58 - 2 * (i + 1) = n + 56 - 2 * i by omega]; exact d3, _, _, _, hT, by omega, by simp [hE], rfl, rfl, rfl⟩
        · obtain ⟨T, hT⟩ := hG.go (b := true) (by omega) c1 (by omega)
          simp [hk]
          exact ⟨by omega, s3, _, E ++ [⟨t + d, .kp, ho⟩], ⟨rfl, by simp [evv, wv]⟩, by rw [show n + 58 - 2 * (i + 1) = n + 56 - 2 * i by omega]; exact d3, _, _, _, hT, by omega, by simp [hE], rfl, rfl, rfl⟩
  · rintro e m ⟨s, t, E, S, en, ho, x6, rfl, hs, hG, ht, hE, rfl⟩
    rw [upTo_len] at hs ht hE
    have hEl : E.length ≤ 9 := by omega
    have ht2 : t ≤ 40 := by omega
    have ht0 := hG.t0
    have hes := hG.es (by omega) (by omega)
    have hjl := judge_leases_ok hl2 hes hG.run
    have hSl := run_len life E [] S hG.run
    simp at hSl
    have hbd : ∀ s ∈ S, (0 ≤ s.h ∧ s.h ≤ 4) ∧ (0 ≤ s.b ∧ s.b ≤ 40) ∧ 0 ≤ s.e ∧ s.e ≤ 50 := fun s hs => by have := hG.bd s hs; omega
    have nfine : Nice 1 1922 (.str "fine") := ⟨by decide +kernel, by decide +kernel, by decide +kernel⟩
    have hfine := neD_self nfine (by decide)
    have hj1 : jlD S = .tuple [.str "fine", .tuple (S.map spT)] := rfl
    simp [hjl]
    refine draw_w (n := n + 30) (hs.mono (by omega)) (by omega) (by omega) fun fr s2 c1 c2 c3 => ?_
    generalize hfar : 1 + fr = far at *
    have hf1 : 1 ≤ far ∧ far ≤ 30 := by omega
    have hrg : rngOk ((S.length : Int) - 1) = true := rng_of (by omega)
    rw [hj1]
    simp [hfine, hfar, hrg]
    refine ⟨by omega, w_range0 (fun i hi => ?_) ?_⟩
    · have hi1 : i < S.length := by omega
      have hi2 : i + 1 < S.length := by omega
      have p1 : ixPos S.length (i : Int) = some i := ixPos_nat hi1
      have p2 : ixPos S.length ((i : Int) + 1) = some (i + 1) := ixPos_nat (k := i + 1) hi2
      have g1 := List.getElem?_eq_getElem hi1
      have g2 := List.getElem?_eq_getElem hi2
      have := List.pairwise_iff_getElem.mp hG.sp i (i + 1) hi1 hi2 (by omega)
      have hn : ¬ (S[i + 1].b < S[i].e) := by omega
      simp [↓t1__law_leases_hold, p1, p2, g1, g2, spT, hn]
    · simp
      refine w_cellS (g := fun e => LV.d (evv e)) (l := E) (fun _ => true) (fun e => .d (evv (mvE far e))) rfl (by rw [line_v]; omega) (fun e he => ?_) ?_
      · simp [↓e1__law_leases_hold, evv, mvE]
      · have hft : ∀ L : List Ev, L.filter (fun _ => true) = L := fun L => List.filter_eq_self.mpr fun _ _ => rfl
        have em : (E.map fun e => evv (mvE far e)) = (E.map (mvE far)).map evv := by rw [List.map_map]; rfl
        have hesm := es_mv (far := far) hes (by omega) (fun e he => by have := (hG.le e he).1; omega)
        have hrm : runE life [] (E.map (mvE far)) = some (S.map (mvS far)) := by
          have := run_mv life far E []
          rw [hG.run] at this
          exact this
        have hjm := judge_leases_ok hl2 hesm hrm
        have hjm2 : F_judge_leases [.d (.int life), .d (.tuple (E.map (fun x => evv (mvE far x))))] [] = some (.d (jlD (S.map (mvS far))), []) := by rw [em]; exact hjm
        rw [hft]
        simp [hjm2]
        refine ⟨by omega, w_each (g := LV.d ∘ spT) (l := S) (fun s => spT (mvS far s)) (fun s hs => ?_) ?_⟩
        · simp [↓e2__law_leases_hold, spT, mvS]
        · have ejm : PyData.tuple [.str "fine", .tuple (S.map fun s => spT (mvS far s))] = jlD (S.map (mvS far)) := by unfold jlD; rw [List.map_map]; rfl
          have njm := nice_jl (S := S.map (mvS far)) (by rw [List.length_map]; omega) (fun s hs => by
            obtain ⟨x, hx, rfl⟩ := List.mem_map.mp hs
            have := hbd x hx
            unfold sm
            show (_ < x.h ∧ x.h < _) ∧ (_ < x.b + far ∧ x.b + far < _) ∧ _ < x.e + far ∧ x.e + far < _
            omega)
          have hsm := same_ok njm (by decide) (by decide)
          have ejm2 : PyData.tuple [.str "fine", .tuple (S.map (spT ∘ mvS far))] = jlD (S.map (mvS far)) := ejm
          simp [ejm2, ejm, hsm]
          refine ⟨rng_of (by omega), ?_⟩
          refine w_forI (fun i e m => ∃ s x6 x10 x11, m = [stC s, .lst (E.map fun e => .d (evv e))] ∧ Ok (n + 30 - i) s ∧ e = [some (.ref 0), some (.d (.int life)), some (.d (.int t)), some (.ref 1), some (.d (enD en)), some (.d (.int ho)), x6, some (.d (jlD S)), some (.d (.int far)), some (.d (.tuple (E.map (fun x => evv (mvE far x))))), x10, x11, none, none, none, none, none]) ?_ ?_ ?_
          · exact ⟨s2, _, none, none, rfl, c3, rfl⟩
          · rintro i x e m hx ⟨s, x6, x10, x11, rfl, hs, rfl⟩
            obtain ⟨hi, rfl⟩ := upTo_get hx
            simp [↓b2__law_leases_hold]
            refine draw_w (n := n + 29 - i) (by rw [show n + 29 - i + 1 = n + 30 - i by omega]; exact hs) (by omega) (by omega) fun at_ s3 d1 d2 d3 => ?_
            have hrg2 : rngOk ((S.length : Nat) : Int) = true := rng_of (by omega)
            rw [hj1]
            simp [hrg2]
            refine ⟨by omega, w_rangeS (hit S at_) (fun i => .tuple [.int ((i : Nat) : Int), .int (S.getD i ⟨0, 0, 0⟩).h]) (fun i hi => ?_) ?_⟩
            · have p1 : ixPos S.length (i : Int) = some i := ixPos_nat hi
              have g1 : S[i]? = some (S.getD i ⟨0, 0, 0⟩) := by rw [List.getD_eq_getElem?_getD, List.getElem?_eq_getElem hi]; rfl
              have hh : hit S at_ i = (decide ((S.getD i ⟨0, 0, 0⟩).b ≤ at_) && decide (at_ < (S.getD i ⟨0, 0, 0⟩).e)) := by unfold hit; rw [g1]
              rw [hh]
              generalize S.getD i ⟨0, 0, 0⟩ = w at *
              by_cases c1 : w.b ≤ at_
              · simp [↓t2__law_leases_hold, ↓e3__law_leases_hold, p1, g1, spT, c1]
              · simp [↓t2__law_leases_hold, ↓e3__law_leases_hold, p1, g1, spT, c1]
            · have hha := holder_ok (at_ := at_) hl2 hes hG.run (by omega)
              have hham := holder_ok (at_ := at_ + far) hl2 hesm hrm (by omega)
              rw [ha_mv] at hham
              have hham2 : F_holder_at [.d (.int life), .d (.tuple (E.map (fun x => evv (mvE far x)))), .d (.int (at_ + far))] [] = some (.d (haD S at_), []) := by rw [em]; exact hham
              have hH : (List.range S.length).filter (hit S at_) = hits S at_ := rfl
              rw [hH]
              cases hq : hits S at_ with
              | nil =>
                have hz : haD S at_ = .none := by unfold haD; rw [hq]
                rw [hz] at hha hham2
                have hnn := neD_self (n := 1) (x := .none) nice_none (by decide)
                simp [hha, hham2, hnn]
                exact ⟨s3, rfl, d3⟩
              | cons j rest =>
                have hjm : j ∈ hits S at_ := by rw [hq]; simp
                have hjl : j < S.length := List.mem_range.mp (List.mem_filter.mp hjm).1
                have hsj := List.getElem?_eq_getElem hjl
                have hz : haD S at_ = .tuple [.int ((j : Nat) : Int), .int S[j].h] := by unfold haD; rw [hq]; simp [hsj]
                have hhb := (hbd _ (List.getElem_mem hjl)).1
                have hnt : Nice 2 4000 (.tuple [.int ((j : Nat) : Int), .int S[j].h]) := (nice_tup (n := 1) (B := 1922) (N := 2) (fun y hy => by
                  rcases List.mem_cons.mp hy with rfl | hy
                  · exact nice_int (by unfold sm; omega)
                  · rw [List.mem_singleton.mp hy]; exact nice_int (by unfold sm; omega)) (by simp)).mono (by decide)
                have hnn := neD_self hnt (by decide)
                rw [hz] at hha hham2
                simp [hha, hham2, hnn, hsj]
                exact ⟨s3, rfl, d3⟩
          · rintro e m ⟨s, x6, x10, x11, rfl, hs, rfl⟩
            rw [upTo_len] at hs
            simp
            exact hs.mono (by omega)
end K72

end
section
/-! K72n: the law. -/
namespace K72
open PySem Gg
/-! ### the start -/
theorem start_loop : ∀ (l : List Int) (s : Int) (S x : Option LV) (m : Sto), 1 ≤ s → s ≤ 2147483629 → ∃ (s' : Int) (y : Option LV), 1 ≤ s' ∧ s' ≤ 2147483629 ∧
    forItems (forBody (tName 2) b1__law_start) (l.map (LV.d ∘ PyData.int)) [S, some (.d (.int s)), x] m = some (.nx [S, some (.d (.int s')), y] m)
  | [], s, S, x, m, h1, h2 => ⟨s, x, h1, h2, rfl⟩
  | c :: l, s, S, x, m, h1, h2 => by
    have hm : mulFits s 48271 := sm_mul (by unfold sm; omega) (by unfold sm; omega)
    have hb : forBody (tName 2) b1__law_start (.d (.int c)) [S, some (.d (.int s)), x] m = some (.nx [S, some (.d (.int ((s * 48271 + c) % 2147483629 + 1))), some (.d (.int c))] m) := by
      simp [b1__law_start, hm]
    have e1 := Int.emod_nonneg (s * 48271 + c) (b := 2147483629) (by omega)
    have e2 := Int.emod_lt_of_pos (s * 48271 + c) (b := 2147483629) (by omega)
    obtain ⟨s', y, g1, g2, g3⟩ := start_loop l ((s * 48271 + c) % 2147483629 + 1) S (some (.d (.int c))) m (by omega) (by omega)
    refine ⟨s', y, g1, g2, ?_⟩
    show forItems _ (LV.d (.int c) :: l.map (LV.d ∘ PyData.int)) _ _ = _
    rw [forItems_cons, hb]
    exact g3
theorem start_ok (ns : List Int) (hl : ns.length ≤ 63) : ∃ st, F__law_start [.ro (ns.map .int)] [] = some (.ref 0, [st]) ∧ Ok 1000000 st := by
  obtain ⟨s', y, g1, g2, g3⟩ := start_loop ns 7 (some (.ro (ns.map .int))) none [] (by omega) (by omega)
  have hc : ∀ x1 x2, compItems (compOne e1__law_start (tName 2) [] [2]) (ns.map (LV.d ∘ PyData.int)) [some (.ro (ns.map .int)), x1, x2] [] = some ((ns.map fun i => if i < 0 then -i else i).map (LV.d ∘ PyData.int), []) := by
    intro x1 x2
    rw [comp_pure (k := fun i => some (.d (.int (if i < 0 then -i else i)))) ns fun i hi => ?_]
    · simp [Function.comp_def]
    · simp [one_plain, e1__law_start]
  have hs : slPart (ns.map PyData.int) none (some 63) = ns.map PyData.int := by
    have := sl_to (xs := ns.map PyData.int) (k := 63)
    rw [List.take_of_length_le (by simpa using hl)] at this
    exact this
  refine ⟨stD (ns.map fun i => if i < 0 then -i else i) 0 0 0 s' 0, ?_, ⟨_, 0, 0, 0, s', 0, rfl, fun x hx => ?_, by omega, by omega, by omega, by omega, by omega, by omega, by omega, by omega⟩⟩
  · have e0 : F__law_start [.ro (ns.map .int)] [] = answer 0 (B__law_start [some (.ro (ns.map .int)), none, none] []) := by simp [F__law_start, mkFn]
    have e1 : sAsg (tName 1) (eCon (.int 7)) [some (.ro (ns.map .int)), none, none] [] = some (.nx [some (.ro (ns.map .int)), some (.d (.int 7)), none] []) := by simp
    have e2 : iSeq (eSl (eVar 0) none (some (eCon (.int 63)))) [some (.ro (ns.map .int)), some (.d (.int 7)), none] [] = some (.items (ns.map (LV.d ∘ PyData.int)), []) := by simp [hs]
    have e3 : ∀ x1 x2, iSeq (eSl (eVar 0) none (some (eCon (.int 63)))) [some (.ro (ns.map .int)), x1, x2] [] = some (.items (ns.map (LV.d ∘ PyData.int)), []) := by intros; simp [hs]
    have e4 : eLst (lComp e1__law_start (tName 2) (iSeq (eSl (eVar 0) none (some (eCon (.int 63))))) [] [2]) [some (.ro (ns.map .int)), some (.d (.int s')), y] [] = some (.d (.list ((ns.map fun i => if i < 0 then -i else i).map .int)), []) := by
      rw [ev_lst, ev_comp, e3]
      simp only [Option.bind_some, over_items, List.length_map]
      rw [if_pos (by rw [line_v]; omega), hc]
      simp only [Option.bind_some, allD_comp, Option.map_some]
    rw [e0]
    unfold B__law_start
    rw [st_seq, e1, sk_nx, st_seq, st_for, e2]
    simp only [Option.bind_some, forOver_items]
    rw [g3, sk_nx, st_ret, ev_new, ev_disp, evl_cons, e4]
    simp [stD]
  · obtain ⟨i, _, rfl⟩ := List.mem_map.mp hx
    split <;> omega
theorem law_ok (ns : List Int) (hl : ns.length ≤ 63) : F_law [.ro (ns.map .int)] [] = some (.d (.bool true), []) := by
  obtain ⟨st, hs, hok⟩ := start_ok ns hl
  refine wO.get (w_fn rfl rfl ?_)
  simp [↓B_law, hs]
  refine ⟨rng_of (by omega), ?_⟩
  refine w_forI (fun i e m => ∃ s x2, m = [stC s] ∧ Ok (1000000 - 200 * i) s ∧ e = [some (.ro (ns.map .int)), some (.ref 0), x2]) ?_ ?_ ?_
  · exact ⟨st, none, rfl, hok, rfl⟩
  · rintro i x e m hx ⟨s, x2, rfl, hs, rfl⟩
    obtain ⟨hi, rfl⟩ := upTo_get hx
    simp [↓b1_law]
    refine (writes_ok (n := 1000000 - 200 * i - 30) (hs.mono (by omega))).mono ?_
    rintro y ⟨s1, rfl, h1⟩
    simp
    refine (asks_ok (n := 1000000 - 200 * i - 70) (h1.mono (by omega))).mono ?_
    rintro y ⟨s2, rfl, h2⟩
    simp
    refine (leases_ok (n := 1000000 - 200 * i - 130) (h2.mono (by omega))).mono ?_
    rintro y ⟨s3, rfl, h3⟩
    simp
    exact ⟨s3, rfl, h3.mono (by omega)⟩
  · rintro e m ⟨s, x2, rfl, hs, rfl⟩
    simp
end K72

end
section
theorem PySem.Challenge.cw_doneorundone_k72_whole_writes_and_waits_holds : PySem.Challenge.rw_doneorundone_k72_whole_writes_and_waits.Holds := by
  exact K72.holds K72.law_ok

end
