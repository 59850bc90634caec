import PyProof.Rows.All
import Wide.All
import OpenK.AllK
import Wide.FinOn
import HandS.ForMost
import HandS.ForExc
import HandS.TupAny
import HandS.Wide
import HandS.Deep
import HandS.NoneIn
import HandS.Dict
import HandS.Flow
import HandS.Style
import HandS.IsInst
import HandS.Sort
import HandS.SortInts
import KE.SortData
import KE.DataMinMax
import HandS.TupMul
import HandS.Conv
import HandS.RaiseMore
import PyProof.ReprRoads
import HandS.Zip
import KE.GoesEnum
import HandS.Defaults
import HandS.Codes
import HandS.HeadHook1
import HandS.HeadHook2
import HandS.Ends
import HandS.Head0
import HandS.Head1
import HandS.Head2
import PySem.Challenge.RW_doneorundone_k70_whole_tries_added_and_s
set_option Elab.async false
set_option linter.all false
set_option maxRecDepth 100000
set_option maxHeartbeats 0
section
/-! GSem: what the program's text means over plain data: values, cells, expressions, statements, defs. -/
namespace Gg
open PySem

/-- a value: plain data, or a list that may change (its place in the store), or the script (a list that is only read), or a tuple of data with such a list last -/
inductive LV where
  | d (x : PyData)
  | ref (k : Nat)
  | ro (xs : List PyData)
  | tr (pre : List PyData) (k : Nat)
inductive Cell where
  | dead
  | lst (xs : List LV)
  | dct (kvs : List (L2.Key × LV))
abbrev Env := List (Option LV)
abbrev Sto := List Cell
abbrev EM := Env → Sto → Option (LV × Sto)
/-- what makes a new list: its items -/
abbrev LM := Env → Sto → Option (List LV × Sto)
inductive Out where
  | nx (e : Env) (m : Sto)
  | rt (v : LV) (m : Sto)
  | bk (e : Env) (m : Sto)
  | ct (e : Env) (m : Sto)
abbrev SM := Env → Sto → Option Out
/-- a target: where a value goes -/
abbrev TM := LV → Env → Sto → Option (Env × Sto)
/-- a def: the arguments, the lists handed over; the answer, the lists behind it, and a new one if the answer has one -/
abbrev Fn := List LV → List (List PyData) → Option (LV × List (List PyData))
/-- the longest list or tuple that is made here -/
def LINE : Nat := 1000000

def allD : List LV → Option (List PyData)
  | [] => some []
  | .d x :: r => (allD r).map (x :: ·)
  | _ :: _ => none
/-- a value read as data -/
def rdD (m : Sto) : LV → Option PyData
  | .d x => some x
  | .ref k => match m[k]? with
    | some (.lst xs) => (allD xs).map .list
    | _ => none
  | .ro _ => none
  | .tr _ _ => none
/-- .. or the script -/
def rdS (m : Sto) : LV → Option PyData
  | .ro xs => some (.list xs)
  | v => rdD m v

/-! ### data -/
def truthD : PyData → Option Bool
  | .none => some false
  | .bool b => some b
  | .int i => some (i != 0)
  | .str s => if s.length ≤ LINE then some ((s.length : Int) != 0) else none
  | .list xs => some (!xs.isEmpty)
  | .tuple xs => some (!xs.isEmpty)
  | .dict _ => none
def ixPos (n : Nat) (i : Int) : Option Nat :=
  if 0 ≤ i then (if i < n then some i.toNat else none) else if -(n : Int) ≤ i then some (i + n).toNat else none
def slPos (n d : Nat) : Option Int → Nat
  | none => d
  | some v => if v < 0 then (v + (n : Int)).toNat else min v.toNat n
def slPart {α : Type} (xs : List α) (lo hi : Option Int) : List α :=
  (xs.drop (slPos xs.length 0 lo)).take (slPos xs.length xs.length hi - slPos xs.length 0 lo)
/-- not far from 0 (said so that the kernel need not count) -/
def rngOk (i : Int) : Bool := Nat.ble i.natAbs 1000000
def mulFits (i j : Int) : Prop := i.natAbs.log2 + j.natAbs.log2 < 1000000
instance (i j : Int) : Decidable (mulFits i j) := inferInstanceAs (Decidable (_ < _))
abbrev B2 := PyData → PyData → Option PyData
def addD : B2
  | .int i, .int j => some (.int (i + j))
  | .str x, .str y => if x.length + y.length ≤ LINE then some (.str (x ++ y)) else none
  | .list xs, .list ys => if xs.length + ys.length ≤ LINE then some (.list (xs ++ ys)) else none
  | .tuple xs, .tuple ys => if xs.length + ys.length ≤ LINE then some (.tuple (xs ++ ys)) else none
  | _, _ => none
def subD : B2
  | .int i, .int j => some (.int (i - j))
  | _, _ => none
def mulD : B2
  | .int i, .int j => if mulFits i j then some (.int (i * j)) else none
  | .list xs, .int k => if xs.length * k.toNat ≤ LINE ∧ rngOk k = true then some (.list (List.replicate k.toNat xs).flatten) else none
  | .tuple xs, .int k => if Nat.ble xs.length 1000 = true ∧ Nat.ble k.natAbs 1000 = true then some (.tuple (List.replicate k.toNat xs).flatten) else none
  | _, _ => none
/-- whole division by a number above 0 -/
def fdivD : B2
  | .int i, .int j => if 0 < j ∧ j.natAbs.log2 < 9000 then some (.int (i / j)) else none
  | _, _ => none
def modD : B2
  | .int i, .int j => if 0 < j then some (.int (i % j)) else none
  | _, _ => none
/-- no dict within, not too deep -/
def plainD : Nat → PyData → Bool
  | 0, _ => false
  | _ + 1, .none => true
  | _ + 1, .bool _ => true
  | _ + 1, .int _ => true
  | _ + 1, .str s => PyData.strOk s
  | n + 1, .list xs => xs.all (plainD n)
  | n + 1, .tuple xs => xs.all (plainD n)
  | _ + 1, .dict _ => false
def DEEP : Nat := 60
def strsB : PyData → PyData → Option Bool
  | .str x, .str y => some (decide (x = y))
  | _, _ => none
/-- equal or not: two texts; two plain data -/
def eqB (a b : PyData) : Option Bool := match strsB a b with
  | some r => some r
  | none => if plainD DEEP a && plainD DEEP b then some (PyData.eqv a b) else none
def eqD : B2 := fun a b => (eqB a b).map .bool
def neD : B2 := fun a b => (eqB a b).map fun r => .bool (!r)
/-- x is None -/
def isNoneB : PyData → Bool
  | .none => true
  | _ => false
/-- they can be put in order: place by place of one kind -/
def ordB (x y : PyData) : Bool := PySem.W.alike x y && !isNoneB x && plainD DEEP x && plainD DEEP y
def cmpI (p : Int → Int → Bool) (q : PyData → PyData → Bool) : B2
  | .int i, .int j => some (.bool (p i j))
  | x, y => if ordB x y then some (.bool (q x y)) else none
def ltD : B2 := cmpI (fun i j => decide (i < j)) fun x y => PySem.W.dataLt x y
def leD : B2 := cmpI (fun i j => decide (i ≤ j)) fun x y => !PySem.W.dataLt y x
def gtD : B2 := cmpI (fun i j => decide (j < i)) fun x y => PySem.W.dataLt y x
def geD : B2 := cmpI (fun i j => decide (j ≤ i)) fun x y => !PySem.W.dataLt x y
/-- a flat value -/
def flatD : PyData → Bool
  | .none => true
  | .bool _ => true
  | .int _ => true
  | .str _ => true
  | _ => false
/-- x in y: among the items of a list of plain data; among those of a tuple of flat ones -/
def inB (x : PyData) : PyData → Option Bool
  | .list ys => if plainD DEEP x && plainD DEEP (.list ys) then some (ys.any fun z => PyData.eqv z x) else none
  | .tuple ys => if flatD x && ys.all flatD then some (ys.any fun z => PyData.eqv z x) else if plainD DEEP x && plainD DEEP (.tuple ys) then some (ys.any fun z => PyData.eqv z x) else none
  | _ => none
def inD : B2 := fun x y => (inB x y).map .bool
def notInD : B2 := fun x y => (inB x y).map fun b => .bool (!b)
def isD : B2
  | x, .none => some (.bool (isNoneB x))
  | _, _ => none
def isNotD : B2
  | x, .none => some (.bool (!isNoneB x))
  | _, _ => none
def negD : PyData → Option PyData
  | .int i => some (.int (-i))
  | _ => none
def ixD : B2
  | .list xs, .int i => (ixPos xs.length i).bind fun j => xs[j]?
  | .tuple xs, .int i => (ixPos xs.length i).bind fun j => xs[j]?
  | _, _ => none
def slD (lo hi : Option Int) : PyData → Option PyData
  | .list xs => some (.list (slPart xs lo hi))
  | .tuple xs => some (.tuple (slPart xs lo hi))
  | _ => none
def revD : PyData → Option PyData
  | .list xs => some (.list xs.reverse)
  | .tuple xs => some (.tuple xs.reverse)
  | _ => none
def intOf : PyData → Option Int
  | .int i => some i
  | _ => none
def intsOf : List PyData → Option (List Int)
  | [] => some []
  | .int i :: r => (intsOf r).map (i :: ·)
  | _ :: _ => none
def boolsOf : List PyData → Option (List Bool)
  | [] => some []
  | .bool i :: r => (boolsOf r).map (i :: ·)
  | _ :: _ => none
def maxI : Int → List Int → Int
  | a, [] => a
  | a, b :: r => maxI (max a b) r
def minI : Int → List Int → Int
  | a, [] => a
  | a, b :: r => minI (min a b) r
def insertI (x : Int) : List Int → List Int
  | [] => [x]
  | y :: r => if x ≤ y then x :: y :: r else y :: insertI x r
def sortI : List Int → List Int
  | [] => []
  | x :: r => insertI x (sortI r)
/-- alike: they can be put in order -/
def alikeL (xs : List PyData) : Bool := (xs.all fun x => xs.all fun y => PySem.W.alike x y) && xs.all (fun x => !isNoneB x) && xs.all (plainD DEEP)
/-- the first of the least, of the greatest -/
def minL : List PyData → Option PyData
  | [] => none
  | x :: xs => if alikeL (x :: xs) then some (PySem.W.minD x xs) else none
def maxL : List PyData → Option PyData
  | [] => none
  | x :: xs => if alikeL (x :: xs) then some (PySem.W.maxD x xs) else none
def tupB : PyData → Bool
  | .tuple (_ :: _) => true
  | _ => false
def noTup : PyData → Bool
  | .tuple _ => false
  | _ => true
def sortL (xs : List PyData) : Option PyData := if alikeL xs && (xs.all tupB || xs.all noTup) then some (.list (xs.mergeSort fun a b => !PySem.W.dataLt b a)) else none
/-! built-in functions -/
abbrev BF := List PyData → Option PyData
def bLen : BF
  | [.list xs] => some (.int xs.length)
  | [.tuple xs] => some (.int xs.length)
  | [.str s] => if s.length ≤ LINE then some (.int s.length) else none
  | _ => none
def bAbs : BF
  | [.int i] => some (.int (if i < 0 then -i else i))
  | _ => none
def bInt : BF
  | [.int i] => some (.int i)
  | [.bool b] => some (.int (if b then 1 else 0))
  | _ => none
def bMax : BF
  | [.int i, .int j] => some (.int (if j > i then j else i))
  | [.list xs] => match intsOf xs with
    | some (a :: r) => some (.int (maxI a r))
    | _ => maxL xs
  | [.tuple xs] => match intsOf xs with
    | some (a :: r) => some (.int (maxI a r))
    | _ => maxL xs
  | _ => none
def bMin : BF
  | [.int i, .int j] => some (.int (if j < i then j else i))
  | [.list xs] => match intsOf xs with
    | some (a :: r) => some (.int (minI a r))
    | _ => minL xs
  | [.tuple xs] => match intsOf xs with
    | some (a :: r) => some (.int (minI a r))
    | _ => minL xs
  | _ => none
def bSum : BF
  | [.list xs] => (intsOf xs).map fun ns => .int ns.sum
  | [.tuple xs] => (intsOf xs).map fun ns => .int ns.sum
  | _ => none
def bAll : BF
  | [.list xs] => (boolsOf xs).map fun bs => .bool (bs.all id)
  | _ => none
def bAny : BF
  | [.list xs] => (boolsOf xs).map fun bs => .bool (bs.any id)
  | _ => none
def bTuple : BF
  | [.list xs] => some (.tuple xs)
  | [.tuple xs] => some (.tuple xs)
  | _ => none
/-- the text of data: not too long -/
def TEXT : Nat := 16000000
def showOk (x : PyData) : Bool := plainD DEEP x && PyData.showable x && decide ((PyData.shown x).length ≤ TEXT)
def bRepr : BF
  | [x] => if showOk x then some (.str (PyData.shown x)) else none
  | _ => none
def bSorted : BF
  | [.list xs] => match intsOf xs with
    | some ns => some (.list ((sortI ns).map .int))
    | none => sortL xs
  | _ => none
def isType (T : String) : PyData → Bool
  | .none => false
  | .bool _ => T == "int" || T == "bool"
  | .int _ => T == "int"
  | .str _ => T == "str"
  | .list _ => T == "list"
  | .tuple _ => T == "tuple"
  | .dict _ => T == "dict"

/-! ### expressions -/
def eVar (i : Nat) : EM := fun e m => match e[i]? with
  | some (some v) => some (v, m)
  | _ => none
def eCon (c : PyData) : EM := fun _ m => some (.d c, m)
def evalL : List EM → Env → Sto → Option (List LV × Sto)
  | [], _, m => some ([], m)
  | f :: fs, e, m => match f e m with
    | some (v, m1) => match evalL fs e m1 with
      | some (vs, m2) => some (v :: vs, m2)
      | none => none
    | none => none
/-- all of them, read as data behind the last one -/
def rdAll (m : Sto) : List LV → Option (List PyData)
  | [] => some []
  | v :: r => match rdD m v with
    | some x => (rdAll m r).map (x :: ·)
    | none => none
/-- data, and a list last -/
def trOf : List LV → Option (List PyData × Nat)
  | [.ref k] => some ([], k)
  | .d x :: r => (trOf r).map fun q => (x :: q.1, q.2)
  | _ => none
def tupV (vs : List LV) : Option LV := match allD vs with
  | some xs => some (.d (.tuple xs))
  | none => (trOf vs).map fun q => .tr q.1 q.2
def eTup (fs : List EM) : EM := fun e m => match evalL fs e m with
  | some (vs, m1) => (tupV vs).map fun x => (x, m1)
  | none => none
/-- x is None -/
def isNoneV : LV → Bool
  | .d .none => true
  | _ => false
def eIsN (neg : Bool) (fa : EM) : EM := fun e m => match fa e m with
  | some (a, m1) => some (.d (.bool (isNoneV a != neg)), m1)
  | none => none
def eBin (g : B2) (fa fb : EM) : EM := fun e m => match fa e m with
  | some (a, m1) => match fb e m1 with
    | some (b, m2) => match rdD m2 a, rdD m2 b with
      | some x, some y => (g x y).map fun z => (.d z, m2)
      | _, _ => none
    | none => none
  | none => none
def eUn (g : PyData → Option PyData) (fa : EM) : EM := fun e m => match fa e m with
  | some (a, m1) => match rdD m1 a with
    | some x => (g x).map fun z => (.d z, m1)
    | none => none
  | none => none
def truth (m : Sto) : LV → Option Bool
  | .ref k => match m[k]? with
    | some (.lst xs) => some (!xs.isEmpty)
    | _ => none
  | v => (rdD m v).bind truthD
def eAnd (fa fb : EM) : EM := fun e m => match fa e m with
  | some (a, m1) => match truth m1 a with
    | some true => fb e m1
    | some false => some (a, m1)
    | none => none
  | none => none
def eOr (fa fb : EM) : EM := fun e m => match fa e m with
  | some (a, m1) => match truth m1 a with
    | some true => some (a, m1)
    | some false => fb e m1
    | none => none
  | none => none
def eNot (fa : EM) : EM := fun e m => match fa e m with
  | some (a, m1) => (truth m1 a).map fun b => (.d (.bool (!b)), m1)
  | none => none
def eIte (fc fa fb : EM) : EM := fun e m => match fc e m with
  | some (a, m1) => match truth m1 a with
    | some true => fa e m1
    | some false => fb e m1
    | none => none
  | none => none
/-- a < b < c -/
def eChain (g h : B2) (fa fb fc : EM) : EM := fun e m => match fa e m with
  | some (a, m1) => match fb e m1 with
    | some (b, m2) => match rdD m2 a, rdD m2 b with
      | some x, some y => match g x y with
        | some (.bool true) => match fc e m2 with
          | some (c, m3) => match rdD m3 b, rdD m3 c with
            | some y', some z => (h y' z).map fun w => (.d w, m3)
            | _, _ => none
          | none => none
        | some (.bool false) => some (.d (.bool false), m2)
        | _ => none
      | _, _ => none
    | none => none
  | none => none
/-! ### dicts: keys are numbers and texts -/
def keyD : PyData → Option L2.Key
  | .int i => some (.inl i)
  | .str s => some (.inr s)
  | _ => none
def lookK {α : Type} (kvs : List (L2.Key × α)) (k : L2.Key) : Option α := (kvs.find? fun kv => decide (kv.1 = k)).map (·.2)
def storK {α : Type} (kvs : List (L2.Key × α)) (k : L2.Key) (v : α) : List (L2.Key × α) :=
  if (kvs.any fun kv => decide (kv.1 = k)) = true then kvs.map (fun kv => if kv.1 = k then (kv.1, v) else kv) else kvs ++ [(k, v)]
def fillK {α : Type} (kvs more : List (L2.Key × α)) : List (L2.Key × α) := more.foldl (fun acc kv => storK acc kv.1 kv.2) kvs
/-- x in d, x not in d: of a dict -/
def eInK (neg : Bool) (fa fb : EM) : EM := fun e m => match fa e m with
  | some (.d x, m1) => match fb e m1 with
    | some (.ref k, m2) => match m2[k]? with
      | some (.dct kvs) => (keyD x).map fun y => (.d (.bool ((lookK kvs y).isSome != neg)), m2)
      | _ => none
    | _ => none
  | _ => none
/-- the pairs of a display -/
def evalK : List (EM × EM) → Env → Sto → Option (List (L2.Key × LV) × Sto)
  | [], _, m => some ([], m)
  | (fk, fv) :: r, e, m => match fk e m with
    | some (.d x, m1) => match keyD x with
      | some k => match fv e m1 with
        | some (v, m2) => match evalK r e m2 with
          | some (kvs, m3) => some ((k, v) :: kvs, m3)
          | none => none
        | none => none
      | none => none
    | _ => none
def eDct (ps : List (EM × EM)) : EM := fun e m => match evalK ps e m with
  | some (kvs, m1) => some (.ref m1.length, m1 ++ [.dct (fillK [] kvs)])
  | none => none
/-- an item -/
def ixV (m : Sto) (a i : LV) : Option LV := match a, i with
  | .ref k, .d (.int j) => match m[k]? with
    | some (.lst xs) => (ixPos xs.length j).bind fun p => xs[p]?
    | some (.dct kvs) => lookK kvs (.inl j)
    | _ => none
  | .ref k, .d (.str z) => match m[k]? with
    | some (.dct kvs) => lookK kvs (.inr z)
    | _ => none
  | .d x, .d y => (ixD x y).map .d
  | .tr pre k, .d (.int j) => (ixPos (pre.length + 1) j).bind fun p => (pre.map LV.d ++ [.ref k])[p]?
  | _, _ => none
def eIx (fa fi : EM) : EM := fun e m => match fa e m with
  | some (a, m1) => match fi e m1 with
    | some (i, m2) => (ixV m2 a i).map fun v => (v, m2)
    | none => none
  | none => none
/-- a slice's bound -/
def evalO : Option EM → Env → Sto → Option (Option Int × Sto)
  | none, _, m => some (none, m)
  | some f, e, m => match f e m with
    | some (.d (.int i), m1) => some (some i, m1)
    | _ => none
def eSl (fa : EM) (lo hi : Option EM) : EM := fun e m => match fa e m with
  | some (a, m1) => match evalO lo e m1 with
    | some (l, m2) => match evalO hi e m2 with
      | some (h, m3) => match rdS m3 a with
        | some x => (slD l h x).map fun z => (.d z, m3)
        | none => none
      | none => none
    | none => none
  | none => none
def eBi (g : BF) (fs : List EM) : EM := fun e m => match evalL fs e m with
  | some (vs, m1) => match rdAll m1 vs with
    | some xs => (g xs).map fun z => (.d z, m1)
    | none => none
  | none => none
/-- len(x): of a list that may change, too -/
def lenV (m : Sto) : LV → Option PyData
  | .ref k => match m[k]? with
    | some (.lst xs) => some (.int xs.length)
    | _ => none
  | v => (rdD m v).bind fun x => bLen [x]
def eLen (f : EM) : EM := fun e m => match f e m with
  | some (v, m1) => (lenV m1 v).map fun z => (.d z, m1)
  | none => none
/-- isinstance(x, T) -/
def eIsi (T : String) (fa : EM) : EM := fun e m => match fa e m with
  | some (a, m1) => match rdD m1 a with
    | some x => some (.d (.bool (isType T x)), m1)
    | none => none
  | none => none
/-! a call of a def: lists that may change are handed over by their contents -/
def refsOf : List LV → List Nat
  | [] => []
  | .ref k :: r => k :: refsOf r
  | _ :: r => refsOf r
def renum : Nat → List LV → List LV
  | _, [] => []
  | n, .ref _ :: r => .ref n :: renum (n + 1) r
  | n, x :: r => x :: renum n r
def flatCell (m : Sto) (k : Nat) : Option (List PyData) := match m[k]? with
  | some (.lst xs) => allD xs
  | _ => none
def flatCells (m : Sto) : List Nat → Option (List (List PyData))
  | [] => some []
  | k :: r => match flatCell m k with
    | some c => (flatCells m r).map (c :: ·)
    | none => none
def putBack : Sto → List Nat → List (List PyData) → Sto
  | m, k :: ks, c :: cs => putBack (m.set k (.lst (c.map .d))) ks cs
  | m, _, _ => m
def plainArg : LV → Bool
  | .tr _ _ => false
  | _ => true
/-- what the caller has behind a call -/
def backF (m : Sto) (ks : List Nat) (n : Nat) : LV → List (List PyData) → Option (LV × Sto)
  | .d x, cs' => if cs'.length = n then some (.d x, putBack m ks cs') else none
  | .ref k, cs' => if k = n ∧ cs'.length = n + 1 then match cs'[n]? with
      | some c => some (.ref m.length, putBack m ks (cs'.take n) ++ [.lst (c.map .d)])
      | none => none
    else none
  | .tr pre k, cs' => if k = n ∧ cs'.length = n + 1 then match cs'[n]? with
      | some c => some (.tr pre m.length, putBack m ks (cs'.take n) ++ [.lst (c.map .d)])
      | none => none
    else none
  | .ro _, _ => none
def callF (F : Fn) (vs : List LV) (m : Sto) : Option (LV × Sto) :=
  if vs.all plainArg = true ∧ (refsOf vs).Nodup then match flatCells m (refsOf vs) with
    | some cs => match F (renum 0 vs) cs with
      | some (r, cs') => backF m (refsOf vs) cs.length r cs'
      | none => none
    | none => none
  else none
def eCall (F : Fn) (fs : List EM) : EM := fun e m => match evalL fs e m with
  | some (vs, m1) => callF F vs m1
  | none => none
/-! ### what a loop walks -/
inductive Itm where
  | items (xs : List LV)
  | cell (k : Nat)
abbrev IM := Env → Sto → Option (Itm × Sto)
def iSeq (f : EM) : IM := fun e m => match f e m with
  | some (.d (.list xs), m1) => some (.items (xs.map .d), m1)
  | some (.d (.tuple xs), m1) => some (.items (xs.map .d), m1)
  | some (.ref k, m1) => match m1[k]? with
    | some (.lst _) => some (.cell k, m1)
    | _ => none
  | some (.ro xs, m1) => some (.items (xs.map .d), m1)
  | _ => none
def upTo (lo : Int) (n : Nat) : List LV := (List.range n).map fun i => .d (.int (lo + (i : Nat)))
def downFrom (lo : Int) (n : Nat) : List LV := (List.range n).map fun i => .d (.int (lo + (i : Nat) * (-1)))
def iRange (fs : List EM) : IM := fun e m => match evalL fs e m with
  | some ([.d (.int j)], m1) => if rngOk j then some (.items (upTo 0 j.toNat), m1) else none
  | some ([.d (.int i), .d (.int j)], m1) => if rngOk i && rngOk j then some (.items (upTo i (j - i).toNat), m1) else none
  | some ([.d (.int i), .d (.int j), .d (.int (-1))], m1) => if rngOk i && rngOk j then some (.items (downFrom i (i - j).toNat), m1) else none
  | _ => none
def pairD (i : Nat) (x : PyData) : LV := .d (.tuple [.int i, x])
def enumFrom : Nat → List PyData → List LV
  | _, [] => []
  | i, x :: r => pairD i x :: enumFrom (i + 1) r
def iEnum (f : EM) : IM := fun e m => match f e m with
  | some (.d (.list xs), m1) => some (.items (enumFrom 0 xs), m1)
  | some (.d (.tuple xs), m1) => some (.items (enumFrom 0 xs), m1)
  | _ => none
def zipD : List PyData → List PyData → List LV
  | x :: xs, y :: ys => .d (.tuple [x, y]) :: zipD xs ys
  | _, _ => []
def iZip (fa fb : EM) : IM := fun e m => match fa e m with
  | some (.d (.list xs), m1) => match fb e m1 with
    | some (.d (.list ys), m2) => some (.items (zipD xs ys), m2)
    | _ => none
  | some (.d (.tuple xs), m1) => match fb e m1 with
    | some (.d (.tuple ys), m2) => some (.items (zipD xs ys), m2)
    | _ => none
  | _ => none
/-! ### targets -/
def tName (i : Nat) : TM := fun v e m => some (e.set i (some v), m)
def toAll : List TM → List LV → Env → Sto → Option (Env × Sto)
  | [], [], e, m => some (e, m)
  | t :: ts, v :: vs, e, m => match t v e m with
    | some (e1, m1) => toAll ts vs e1 m1
    | none => none
  | _, _, _, _ => none
def tTup (ts : List TM) : TM := fun v e m => match v with
  | .d (.tuple xs) => toAll ts (xs.map .d) e m
  | .d (.list xs) => toAll ts (xs.map .d) e m
  | .ref k => match m[k]? with
    | some (.lst xs) => toAll ts xs e m
    | _ => none
  | .tr pre k => toAll ts (pre.map .d ++ [.ref k]) e m
  | _ => none
/-- a list's item is stored; a dict's -/
def setItem (m : Sto) (o i v : LV) : Option Sto := match o, i with
  | .ref k, .d (.int j) => match m[k]? with
    | some (.lst xs) => (ixPos xs.length j).map fun p => m.set k (.lst (xs.set p v))
    | some (.dct kvs) => if kvs.length < LINE then some (m.set k (.dct (storK kvs (.inl j) v))) else none
    | _ => none
  | .ref k, .d (.str z) => match m[k]? with
    | some (.dct kvs) => if kvs.length < LINE then some (m.set k (.dct (storK kvs (.inr z) v))) else none
    | _ => none
  | _, _ => none
def tSub (fo fi : EM) : TM := fun v e m => match fo e m with
  | some (o, m1) => match fi e m1 with
    | some (i, m2) => (setItem m2 o i v).map fun m3 => (e, m3)
    | none => none
  | none => none
/-! ### new lists -/
def wipeE (e : Env) : List Nat → Env
  | [] => e
  | i :: r => (wipeE e r).set i none
def tests : List EM → Env → Sto → Option (Bool × Sto)
  | [], _, m => some (true, m)
  | f :: _, e, m => match f e m with
    | some (a, m1) => (truth m1 a).map fun b => (b, m1)
    | none => none
def compItems (f : LV → Env → Sto → Option (Option LV × Sto)) : List LV → Env → Sto → Option (List LV × Sto)
  | [], _, m => some ([], m)
  | x :: xs, e, m => match f x e m with
    | some (some y, m1) => (compItems f xs e m1).map fun r => (y :: r.1, r.2)
    | some (none, m1) => compItems f xs e m1
    | none => none
/-- over a list that may change: it must keep its length -/
def compCell (f : LV → Env → Sto → Option (Option LV × Sto)) (k n : Nat) : Nat → Env → Sto → Option (List LV × Sto)
  | 0, _, m => match m[k]? with
    | some (.lst xs) => if xs.length = n then some ([], m) else none
    | _ => none
  | j + 1, e, m => match m[k]? with
    | some (.lst xs) => if xs.length = n then match xs[n - (j + 1)]? with
        | some x => match f x e m with
          | some (some y, m1) => (compCell f k n j e m1).map fun r => (y :: r.1, r.2)
          | some (none, m1) => compCell f k n j e m1
          | none => none
        | none => none
      else none
    | _ => none
def cellLen (m : Sto) (k : Nat) : Option Nat := match m[k]? with
  | some (.lst xs) => some xs.length
  | _ => none
def compOver (f : LV → Env → Sto → Option (Option LV × Sto)) : Itm → Env → Sto → Option (List LV × Sto)
  | .items xs, e, m => if xs.length ≤ LINE then compItems f xs e m else none
  | .cell k, e, m => match cellLen m k with
    | some n => if n ≤ LINE then compCell f k n n e m else none
    | none => none
def compOne (fe : EM) (t : TM) (ifs : List EM) (own : List Nat) : LV → Env → Sto → Option (Option LV × Sto) := fun x e m => match t x (wipeE e own) m with
  | some (e1, m1) => match tests ifs e1 m1 with
    | some (true, m2) => (fe e1 m2).map fun r => (some r.1, r.2)
    | some (false, m2) => some (none, m2)
    | none => none
  | none => none
def lComp (fe : EM) (t : TM) (it : IM) (ifs : List EM) (own : List Nat) : LM := fun e m => match it e m with
  | some (i, m1) => compOver (compOne fe t ifs own) i e m1
  | none => none
def lDisp (fs : List EM) : LM := evalL fs
def itemsOf (m : Sto) : LV → Option (List LV)
  | .d (.list xs) => some (xs.map .d)
  | .d (.tuple xs) => some (xs.map .d)
  | .ref k => match m[k]? with
    | some (.lst xs) => some xs
    | _ => none
  | .ro xs => some (xs.map .d)
  | _ => none
/-- list(x) -/
def lOf (f : EM) : LM := fun e m => match f e m with
  | some (v, m1) => (itemsOf m1 v).map fun xs => (xs, m1)
  | none => none
/-- x[::-1] -/
def lRev (f : EM) : LM := fun e m => match f e m with
  | some (.d (.list xs), m1) => some (xs.reverse.map .d, m1)
  | some (.ref k, m1) => match m1[k]? with
    | some (.lst xs) => some (xs.reverse, m1)
    | _ => none
  | _ => none
/-- list(range(..)) -/
def lRng (f : IM) : LM := fun e m => match f e m with
  | some (.items xs, m1) => some (xs, m1)
  | _ => none
/-- [..] * n -/
def lRep (l : LM) (fn : EM) : LM := fun e m => match l e m with
  | some (xs, m1) => match fn e m1 with
    | some (.d (.int k), m2) => if xs.length * k.toNat ≤ LINE ∧ rngOk k = true then some ((List.replicate k.toNat xs).flatten, m2) else none
    | _ => none
  | none => none
def eLst (l : LM) : EM := fun e m => match l e m with
  | some (vs, m1) => (allD vs).map fun xs => (.d (.list xs), m1)
  | none => none
def eNew (l : LM) : EM := fun e m => match l e m with
  | some (vs, m1) => some (.ref m1.length, m1 ++ [.lst vs])
  | none => none
/-! a list that changes no more -/
def frzM (f : Sto → LV → Option (PyData × Sto)) : Sto → List LV → Option (List PyData × Sto)
  | m, [] => some ([], m)
  | m, x :: r => match f m x with
    | some (y, m1) => match frzM f m1 r with
      | some (ys, m2) => some (y :: ys, m2)
      | none => none
    | none => none
def frzV : Nat → Sto → LV → Option (PyData × Sto)
  | 0, m, v => match v with
    | .d x => some (x, m)
    | _ => none
  | n + 1, m, v => match v with
    | .d x => some (x, m)
    | .ref k => match m[k]? with
      | some (.lst xs) => match frzM (frzV n) m xs with
        | some (ys, m1) => match m1[k]? with
          | some (.lst _) => some (.list ys, m1.set k .dead)
          | _ => none
        | none => none
      | _ => none
    | _ => none
def FRZ : Nat := 4
def eFrz (i : Nat) : EM := fun e m => match e[i]? with
  | some (some v) => (frzV FRZ m v).map fun r => (.d r.1, r.2)
  | _ => none
/-! ### statements -/
def sPass : SM := fun e m => some (.nx e m)
def sBrk : SM := fun e m => some (.bk e m)
def sCnt : SM := fun e m => some (.ct e m)
def sNever : SM := fun _ _ => none
def sSeq (a b : SM) : SM := fun e m => match a e m with
  | some (.nx e1 m1) => b e1 m1
  | r => r
def sAsg (t : TM) (f : EM) : SM := fun e m => match f e m with
  | some (v, m1) => (t v e m1).map fun r => .nx r.1 r.2
  | none => none
def sPar (ts : List TM) (fs : List EM) : SM := fun e m => match evalL fs e m with
  | some (vs, m1) => (toAll ts vs e m1).map fun r => .nx r.1 r.2
  | none => none
/-- x += y and the like -/
def sAug (i : Nat) (g : B2) (f : EM) : SM := fun e m => match e[i]? with
  | some (some v) => match f e m with
    | some (w, m1) => match v, w with
      | .d x, .d y => (g x y).map fun z => .nx (e.set i (some (.d z))) m1
      | _, _ => none
    | none => none
  | _ => none
def sDrop (f : EM) : SM := fun e m => (f e m).map fun r => .nx e r.2
def sApp (fo fv : EM) : SM := fun e m => match fo e m with
  | some (.ref k, m1) => match m1[k]? with
    | some (.lst _) => match fv e m1 with
      | some (v, m2) => match m2[k]? with
        | some (.lst xs) => if xs.length ≤ LINE then some (.nx e (m2.set k (.lst (xs ++ [v])))) else none
        | _ => none
      | none => none
    | _ => none
  | _ => none
/-- a list's items -/
def listOf (m : Sto) : LV → Option (List LV)
  | .d (.list xs) => some (xs.map .d)
  | .ref k => match m[k]? with
    | some (.lst xs) => some xs
    | _ => none
  | _ => none
def sExt (fo fv : EM) : SM := fun e m => match fo e m with
  | some (.ref k, m1) => match m1[k]? with
    | some (.lst _) => match fv e m1 with
      | some (y, m2) => match m2[k]? with
        | some (.lst xs) => match listOf m2 y with
          | some ys => if xs.length + ys.length ≤ LINE then some (.nx e (m2.set k (.lst (xs ++ ys)))) else none
          | none => none
        | _ => none
      | none => none
    | _ => none
  | _ => none
def sIf (fc : EM) (a b : SM) : SM := fun e m => match fc e m with
  | some (v, m1) => match truth m1 v with
    | some true => a e m1
    | some false => b e m1
    | none => none
  | none => none
def sRet (f : EM) : SM := fun e m => (f e m).map fun r => .rt r.1 r.2
def sRetN : SM := fun _ m => some (.rt (.d .none) m)
def forItems (body : LV → SM) : List LV → SM
  | [], e, m => some (.nx e m)
  | x :: xs, e, m => match body x e m with
    | some (.nx e1 m1) => forItems body xs e1 m1
    | some (.ct e1 m1) => forItems body xs e1 m1
    | some (.bk e1 m1) => some (.nx e1 m1)
    | some (.rt v m1) => some (.rt v m1)
    | none => none
def forCell (body : LV → SM) (k n : Nat) : Nat → SM
  | 0, e, m => match cellLen m k with
    | some n' => if n' = n then some (.nx e m) else none
    | none => none
  | j + 1, e, m => match m[k]? with
    | some (.lst xs) => if xs.length = n then match xs[n - (j + 1)]? with
        | some x => match body x e m with
          | some (.nx e1 m1) => forCell body k n j e1 m1
          | some (.ct e1 m1) => forCell body k n j e1 m1
          | some (.bk e1 m1) => some (.nx e1 m1)
          | some (.rt v m1) => some (.rt v m1)
          | none => none
        | none => none
      else none
    | _ => none
def forOver (body : LV → SM) : Itm → SM
  | .items xs, e, m => forItems body xs e m
  | .cell k, e, m => match cellLen m k with
    | some n => forCell body k n n e m
    | none => none
def forBody (t : TM) (b : SM) : LV → SM := fun x e m => match t x e m with
  | some (e1, m1) => b e1 m1
  | none => none
def sFor (t : TM) (it : IM) (b : SM) : SM := fun e m => match it e m with
  | some (i, m1) => forOver (forBody t b) i e m1
  | none => none
/-- a while with a bound of its turns -/
def whileN (fc : EM) (b : SM) : Nat → SM
  | 0, _, _ => none
  | n + 1, e, m => match fc e m with
    | some (v, m1) => match truth m1 v with
      | some false => some (.nx e m1)
      | some true => match b e m1 with
        | some (.nx e1 m2) => whileN fc b n e1 m2
        | some (.ct e1 m2) => whileN fc b n e1 m2
        | some (.bk e1 m2) => some (.nx e1 m2)
        | some (.rt v m2) => some (.rt v m2)
        | none => none
      | none => none
    | none => none
open Classical in
noncomputable def sWhile (fc : EM) (b : SM) : SM := fun e m =>
  if h : ∃ n o, whileN fc b n e m = some o then some (Classical.choose (Classical.choose_spec h)) else none
/-! ### a def -/
def flatBack : Nat → Sto → Option (List (List PyData))
  | 0, _ => some []
  | n + 1, .lst xs :: r => match allD xs with
    | some c => (flatBack n r).map (c :: ·)
    | none => none
  | _ + 1, _ => none
def answer (k : Nat) : Option Out → Option (LV × List (List PyData))
  | some (.rt (.d x) m) => (flatBack k m).map fun cs => (.d x, cs)
  | some (.rt (.ref j) m) => if k ≤ j then match flatBack k m, flatCell m j with
      | some cs, some c => some (.ref k, cs ++ [c])
      | _, _ => none
    else none
  | some (.rt (.tr pre j) m) => if k ≤ j then match flatBack k m, flatCell m j with
      | some cs, some c => some (.tr pre k, cs ++ [c])
      | _, _ => none
    else none
  | some (.nx _ m) => (flatBack k m).map fun cs => (.d .none, cs)
  | _ => none
/-- a def's function, sealed: the kernel does not look within -/
noncomputable def sealF (F : Fn) : Fn := Classical.choose (⟨F, rfl⟩ : ∃ G : Fn, G = F)
theorem sealF_eq (F : Fn) : sealF F = F := Classical.choose_spec (⟨F, rfl⟩ : ∃ G : Fn, G = F)
theorem rng_ok {i : Int} (h : rngOk i = true) : -1000000 ≤ i ∧ i ≤ 1000000 := by
  have := Nat.le_of_ble_eq_true h
  omega
theorem rng_of {i : Int} (h : -1000000 ≤ i ∧ i ≤ 1000000) : rngOk i = true := Nat.ble_eq_true_of_le (by omega)
def mkFn (np n : Nat) (b : SM) : Fn := fun vs cs =>
  if vs.length = np then answer cs.length (b (vs.map some ++ List.replicate (n - np) none) (cs.map fun c => .lst (c.map .d))) else none
end Gg

end
section
/-! GRel: plain data as they stand in the abstract heap; what a step may change. -/
namespace Gg
open PySem L2

/-- where the lists that may change stand, and which lists change no more -/
structure Wd where
  m : List Addr
  F : Addr → Prop
mutual
inductive RP (K : PySem.W.Frag) (F : Addr → Prop) (H : Hp) : V → PyData → Prop
  | non : RP K F H .non .none
  | bl (b : Bool) : RP K F H (.bl b) (.bool b)
  | int (i : Int) : RP K F H (.int i) (.int i)
  | str (x : Str) : RP K F H (.str x) (.str x)
  | lst {a : Addr} {vs : List V} {xs : List PyData} : F a → H a = some (.lst vs) → RPs K F H vs xs → RP K F H (.ref a) (.list xs)
  | tup {a : Addr} {vs : List V} {xs : List PyData} : SqT K H a vs → RPs K F H vs xs → RP K F H (.ref a) (.tuple xs)
inductive RPs (K : PySem.W.Frag) (F : Addr → Prop) (H : Hp) : List V → List PyData → Prop
  | nil : RPs K F H [] []
  | cons {v : V} {vs : List V} {x : PyData} {xs : List PyData} : RP K F H v x → RPs K F H vs xs → RPs K F H (v :: vs) (x :: xs)
end
/-- the script: frozen, or an object of the module -/
def RoL (K : PySem.W.Frag) (H : Hp) (a : Addr) (vs : List V) : Prop := (∃ o, H a = some (.frz o (.lst vs))) ∨ SqL K (fun _ => none) a vs
def RL (K : PySem.W.Frag) (W : Wd) (H : Hp) (v : V) : LV → Prop
  | .d x => RP K W.F H v x
  | .ref k => ∃ a, W.m[k]? = some a ∧ v = .ref a
  | .ro xs => ∃ a vs, v = .ref a ∧ RoL K H a vs ∧ RPs K W.F H vs xs
  | .tr pre k => ∃ a us b, v = .ref a ∧ SqT K H a (us ++ [.ref b]) ∧ RPs K W.F H us pre ∧ W.m[k]? = some b
inductive RLs (K : PySem.W.Frag) (W : Wd) (H : Hp) : List V → List LV → Prop
  | nil : RLs K W H [] []
  | cons {v : V} {vs : List V} {x : LV} {xs : List LV} : RL K W H v x → RLs K W H vs xs → RLs K W H (v :: vs) (x :: xs)
/-- the pairs of a dict -/
inductive RKs (K : PySem.W.Frag) (W : Wd) (H : Hp) : List (Key × V) → List (Key × LV) → Prop
  | nil : RKs K W H [] []
  | cons {k : Key} {v : V} {vs : List (Key × V)} {x : LV} {xs : List (Key × LV)} : RL K W H v x → RKs K W H vs xs → RKs K W H ((k, v) :: vs) ((k, x) :: xs)
/-- a cell's object -/
def CeR (K : PySem.W.Frag) (W : Wd) (H : Hp) : HO → Cell → Prop
  | .lst vs, .lst xs => RLs K W H vs xs
  | .dK vs, .dct xs => RKs K W H vs xs
  | _, _ => False
def live (μ : Sto) (k : Nat) : Prop := ∃ c : Cell, μ[k]? = some c ∧ c ≠ .dead
theorem live.l {μ : Sto} {k : Nat} {xs : List LV} (h : μ[k]? = some (Cell.lst xs)) : live μ k := ⟨_, h, fun e => nomatch e⟩
theorem live.d {μ : Sto} {k : Nat} {xs : List (Key × LV)} (h : μ[k]? = some (Cell.dct xs)) : live μ k := ⟨_, h, fun e => nomatch e⟩
/-- what no step changes but by its cell -/
def Fix : HO → Prop
  | .lst _ => False
  | .dK _ => False
  | _ => True
theorem CeR.mut {K : PySem.W.Frag} {W : Wd} {H : Hp} {o : HO} {c : Cell} (h : CeR K W H o c) : ¬ Fix o := by
  cases o <;> first | exact fun z => z | (cases c <;> exact h.elim)
structure Rel (K : PySem.W.Frag) (W : Wd) (H : Hp) (μ : Sto) : Prop where
  len : W.m.length = μ.length
  cel : ∀ (k : Nat) (a : Addr) (c : Cell), W.m[k]? = some a → μ[k]? = some c → c ≠ .dead → ∃ o, H a = some o ∧ CeR K W H o c
  inj : ∀ (j k : Nat) (a : Addr), live μ j → live μ k → W.m[j]? = some a → W.m[k]? = some a → j = k
  frz : ∀ a, W.F a → (∃ vs, H a = some (HO.lst vs)) ∧ ∀ k, live μ k → W.m[k]? ≠ some a
structure Ext (W : Wd) (H : Hp) (μ : Sto) (W' : Wd) (H' : Hp) (μ' : Sto) : Prop where
  pre : ∃ r, W'.m = W.m ++ r ∧ ∀ a ∈ r, H a = none
  F : ∀ a, W.F a → W'.F a
  dom : ∀ a, H' a = none → H a = none
  keep : ∀ a o, H a = some o → (∀ k, live μ k → W.m[k]? ≠ some a) → H' a = some o
  Fnew : ∀ a, W'.F a → W.F a ∨ H a = none ∨ ∃ k, live μ k ∧ W.m[k]? = some a
  lv : ∀ k, k < W.m.length → live μ' k → live μ k
def EnvOk (K : PySem.W.Frag) (W : Wd) (H : Hp) (σ : List (Option V)) (e : Env) : Prop :=
  σ.length = e.length ∧ ∀ (i : Nat) (lv : LV), e[i]? = some (some lv) → ∃ v, σ[i]? = some (some v) ∧ RL K W H v lv
/-- frozen lists and all that is no list stand as they stood -/
structure Keep (F : Addr → Prop) (H : Hp) (F' : Addr → Prop) (H' : Hp) : Prop where
  fr : ∀ a, F a → F' a
  l : ∀ a vs, F a → H a = some (HO.lst vs) → H' a = some (HO.lst vs)
  o : ∀ a o, H a = some o → Fix o → H' a = some o

section
variable {K : PySem.W.Frag} {W : Wd} {H : Hp} {μ : Sto}
theorem Rel.cell (R : Rel K W H μ) (k : Nat) (a : Addr) (xs : List LV) (h1 : W.m[k]? = some a) (h2 : μ[k]? = some (Cell.lst xs)) : ∃ vs, H a = some (HO.lst vs) ∧ RLs K W H vs xs := by
  obtain ⟨o, q1, q2⟩ := R.cel k a _ h1 h2 fun e => nomatch e
  cases o <;> first | exact ⟨_, q1, q2⟩ | exact q2.elim
theorem Rel.dcell (R : Rel K W H μ) (k : Nat) (a : Addr) (xs : List (Key × LV)) (h1 : W.m[k]? = some a) (h2 : μ[k]? = some (Cell.dct xs)) : ∃ vs, H a = some (HO.dK vs) ∧ RKs K W H vs xs := by
  obtain ⟨o, q1, q2⟩ := R.cel k a _ h1 h2 fun e => nomatch e
  cases o <;> first | exact ⟨_, q1, q2⟩ | exact q2.elim
end
section
variable {K : PySem.W.Frag} {W W1 W2 W' : Wd} {H H1 H2 H' : Hp} {μ μ1 μ2 μ' : Sto} {F F' : Addr → Prop} {σ : List (Option V)} {e : Env}
theorem Keep.sqT (k : Keep F H F' H') {a : Addr} {vs : List V} (h : SqT K H a vs) : SqT K H' a vs := by
  rcases h with (h | ⟨o, h⟩) | h
  · exact .inl (.inl (k.o _ _ h trivial))
  · exact .inl (.inr ⟨o, k.o _ _ h trivial⟩)
  · exact .inr h
theorem Keep.roL (k : Keep F H F' H') {a : Addr} {vs : List V} (h : RoL K H a vs) : RoL K H' a vs := by
  rcases h with ⟨o, h⟩ | h
  · exact .inl ⟨o, k.o _ _ h trivial⟩
  · exact .inr h
theorem RoL.sq {a : Addr} {vs : List V} (h : RoL K H a vs) : SqL K H a vs := by
  rcases h with ⟨o, h⟩ | (h | ⟨o, h⟩) | h
  · exact .inl (.inr ⟨o, h⟩)
  · cases h
  · cases h
  · exact .inr h
mutual
theorem RP.mono (k : Keep F H F' H') : ∀ {x : PyData} {v : V}, RP K F H v x → RP K F' H' v x
  | .none, _, .non => .non
  | .bool b, _, .bl _ => .bl b
  | .int i, _, .int _ => .int i
  | .str s, _, .str _ => .str s
  | .list _, _, .lst h1 h2 h3 => .lst (k.fr _ h1) (k.l _ _ h1 h2) (RPs.mono k h3)
  | .tuple _, _, .tup h1 h2 => .tup (k.sqT h1) (RPs.mono k h2)
theorem RPs.mono (k : Keep F H F' H') : ∀ {xs : List PyData} {vs : List V}, RPs K F H vs xs → RPs K F' H' vs xs
  | [], _, .nil => .nil
  | _ :: _, _, .cons a b => .cons (RP.mono k a) (RPs.mono k b)
end
theorem Rel.notLst (R : Rel K W H μ) {a : Addr} {o : HO} (h : H a = some o) (n : Fix o) : ∀ k, live μ k → W.m[k]? ≠ some a := by
  intro k ⟨c, hx, hd⟩ hk
  obtain ⟨o', h1, h2⟩ := R.cel k a c hk hx hd
  rw [h] at h1
  cases h1
  exact h2.mut n
theorem Ext.kp (E : Ext W H μ W' H' μ') (R : Rel K W H μ) : Keep W.F H W'.F H' where
  fr := E.F
  l := fun a vs hf h => E.keep a _ h (R.frz a hf).2
  o := fun a o h n => E.keep a o h (R.notLst h n)
theorem Ext.at (E : Ext W H μ W' H' μ') {k : Nat} {a : Addr} (h : W.m[k]? = some a) : W'.m[k]? = some a := by
  obtain ⟨r, e, _⟩ := E.pre
  rw [e, List.getElem?_append_left (List.getElem?_eq_some_iff.mp h).1]
  exact h
theorem RL.mono (E : Ext W H μ W' H' μ') (R : Rel K W H μ) {v : V} : ∀ {x : LV}, RL K W H v x → RL K W' H' v x
  | .d _, h => RP.mono (E.kp R) h
  | .ref _, ⟨a, h1, h2⟩ => ⟨a, E.at h1, h2⟩
  | .ro _, ⟨a, vs, h1, h2, h3⟩ => ⟨a, vs, h1, (E.kp R).roL h2, RPs.mono (E.kp R) h3⟩
  | .tr _ _, ⟨a, us, b, h1, h2, h3, h4⟩ => ⟨a, us, b, h1, (E.kp R).sqT h2, RPs.mono (E.kp R) h3, E.at h4⟩
theorem RLs.mono (E : Ext W H μ W' H' μ') (R : Rel K W H μ) : ∀ {vs : List V} {xs : List LV}, RLs K W H vs xs → RLs K W' H' vs xs
  | _, _, .nil => .nil
  | _, _, .cons a b => .cons (RL.mono E R a) (RLs.mono E R b)
theorem RKs.mono (E : Ext W H μ W' H' μ') (R : Rel K W H μ) : ∀ {vs : List (Key × V)} {xs : List (Key × LV)}, RKs K W H vs xs → RKs K W' H' vs xs
  | _, _, .nil => .nil
  | _, _, .cons a b => .cons (RL.mono E R a) (RKs.mono E R b)
theorem CeR.mono (E : Ext W H μ W' H' μ') (R : Rel K W H μ) {o : HO} {c : Cell} (h : CeR K W H o c) : CeR K W' H' o c := by
  cases o with
  | lst vs =>
    cases c with
    | lst xs => exact RLs.mono E R h
    | dead => exact h.elim
    | dct xs => exact h.elim
  | dK vs =>
    cases c with
    | lst xs => exact h.elim
    | dead => exact h.elim
    | dct xs => exact RKs.mono E R h
  | _ => exact h.elim
theorem EnvOk.mono (E : Ext W H μ W' H' μ') (R : Rel K W H μ) (h : EnvOk K W H σ e) : EnvOk K W' H' σ e :=
  ⟨h.1, fun i lv q => let ⟨v, h1, h2⟩ := h.2 i lv q; ⟨v, h1, RL.mono E R h2⟩⟩
theorem Ext.refl : Ext W H μ W H μ := ⟨⟨[], by simp, by simp⟩, fun _ h => h, fun _ h => h, fun _ _ h _ => h, fun _ h => .inl h, fun _ _ h => h⟩
theorem Ext.trans (A : Ext W H μ W1 H1 μ1) (B : Ext W1 H1 μ1 W2 H2 μ2) : Ext W H μ W2 H2 μ2 := by
  obtain ⟨r, er, nr⟩ := A.pre
  obtain ⟨r2, er2, nr2⟩ := B.pre
  -- a thing that is no live list at first is none behind
  have stay : ∀ a o, H a = some o → (∀ k, live μ k → W.m[k]? ≠ some a) → H1 a = some o ∧ ∀ k, live μ1 k → W1.m[k]? ≠ some a := by
    intro a o h n
    refine ⟨A.keep a o h n, fun k lk hk => ?_⟩
    by_cases hl : k < W.m.length
    · rw [er, List.getElem?_append_left hl] at hk
      exact n k (A.lv k hl lk) hk
    · rw [er, List.getElem?_append_right (by omega)] at hk
      rw [nr a (List.mem_of_getElem? hk)] at h
      cases h
  have lv1 : ∀ a, (∃ k, live μ1 k ∧ W1.m[k]? = some a) → H a = none ∨ ∃ k, live μ k ∧ W.m[k]? = some a := by
    intro a ⟨k, lk, hk⟩
    by_cases hl : k < W.m.length
    · rw [er, List.getElem?_append_left hl] at hk
      exact .inr ⟨k, A.lv k hl lk, hk⟩
    · rw [er, List.getElem?_append_right (by omega)] at hk
      exact .inl (nr a (List.mem_of_getElem? hk))
  have lenW1 : W.m.length ≤ W1.m.length := by rw [er, List.length_append]; omega
  refine ⟨⟨r ++ r2, by rw [er2, er, List.append_assoc], fun a ha => ?_⟩, fun a h => B.F a (A.F a h), fun a h => A.dom a (B.dom a h), fun a o h n => ?_, fun a h => ?_, fun k hk lk => A.lv k hk (B.lv k (by omega) lk)⟩
  · rcases List.mem_append.mp ha with ha | ha
    · exact nr a ha
    · exact A.dom a (nr2 a ha)
  · obtain ⟨h1, n1⟩ := stay a o h n
    exact B.keep a o h1 n1
  · rcases B.Fnew a h with z | z | z
    · exact A.Fnew a z
    · exact .inr (.inl (A.dom a z))
    · exact .inr (lv1 a z)

/-! ### steps -/
theorem ext_new (o : HO) {p : Addr} (hp : H p = none) : Ext W H μ W (upd H p o) μ :=
  ⟨⟨[], by simp, by simp⟩, fun _ h => h, fun a h => by
    by_cases e : a = p
    · rw [e]; exact hp
    · rw [upd_ne e] at h; exact h, fun a o' h _ => by rw [upd_ne (ne_of_none h hp)]; exact h, fun _ h => .inl h, fun _ _ h => h⟩
theorem Rel.new (R : Rel K W H μ) (o : HO) {p : Addr} (hp : H p = none) : Rel K W (upd H p o) μ := by
  have E : Ext W H μ W (upd H p o) μ := ext_new o hp
  refine ⟨R.len, fun k a c h1 h2 hd => ?_, R.inj, fun a h => ?_⟩
  · obtain ⟨u, q1, q2⟩ := R.cel k a c h1 h2 hd
    exact ⟨u, by rw [upd_ne (ne_of_none q1 hp)]; exact q1, CeR.mono E R q2⟩
  · obtain ⟨⟨vs, q1⟩, q2⟩ := R.frz a h
    exact ⟨⟨vs, by rw [upd_ne (ne_of_none q1 hp)]; exact q1⟩, q2⟩
/-- with one more list that changes no more -/
abbrev Wd.fz (W : Wd) (p : Addr) : Wd := ⟨W.m, fun a => W.F a ∨ a = p⟩
theorem ext_frz (vs : List V) {p : Addr} (hp : H p = none) : Ext W H μ (W.fz p) (upd H p (.lst vs)) μ := by
  have E : Ext W H μ W (upd H p (.lst vs)) μ := ext_new _ hp
  exact ⟨E.pre, fun _ h => .inl h, E.dom, E.keep, fun a h => h.elim .inl fun e => .inr (.inl (e ▸ hp)), E.lv⟩
theorem Rel.notNew (R : Rel K W H μ) {p : Addr} (hp : H p = none) : ∀ k, live μ k → W.m[k]? ≠ some p := by
  intro k ⟨c, hx, hd⟩ hk
  obtain ⟨o, h1, _⟩ := R.cel k p c hk hx hd
  rw [hp] at h1; cases h1
theorem Rel.newFrz (R : Rel K W H μ) (vs : List V) {p : Addr} (hp : H p = none) : Rel K (W.fz p) (upd H p (.lst vs)) μ := by
  have E : Ext W H μ (W.fz p) (upd H p (.lst vs)) μ := ext_frz vs hp
  refine ⟨R.len, fun k a c h1 h2 hd => ?_, R.inj, fun a h => ?_⟩
  · obtain ⟨u, q1, q2⟩ := R.cel k a c h1 h2 hd
    exact ⟨u, by rw [upd_ne (ne_of_none q1 hp)]; exact q1, CeR.mono E R q2⟩
  · rcases h with h | h
    · obtain ⟨⟨vs, q1⟩, q2⟩ := R.frz a h
      exact ⟨⟨vs, by rw [upd_ne (ne_of_none q1 hp)]; exact q1⟩, q2⟩
    · subst h
      exact ⟨⟨vs, upd_same⟩, R.notNew hp⟩
/-- with one more list that may change -/
abbrev Wd.more (W : Wd) (p : Addr) : Wd := ⟨W.m ++ [p], W.F⟩
theorem live_lt {k : Nat} (h : live μ k) : k < μ.length := by
  obtain ⟨c, h, _⟩ := h
  exact (List.getElem?_eq_some_iff.mp h).1
theorem ext_moreC (o : HO) (c : Cell) (R : Rel K W H μ) {p : Addr} (hp : H p = none) : Ext W H μ (W.more p) (upd H p o) (μ ++ [c]) := by
  have E : Ext W H μ W (upd H p o) μ := ext_new _ hp
  refine ⟨⟨[p], rfl, fun a h => ?_⟩, fun _ h => h, E.dom, E.keep, fun _ h => .inl h, fun k hk ⟨ys, h, hd⟩ => ?_⟩
  · rw [List.mem_singleton] at h; rw [h]; exact hp
  · rw [List.getElem?_append_left (by rw [← R.len]; exact hk)] at h
    exact ⟨ys, h, hd⟩
theorem ext_more (vs : List V) (xs : List LV) (R : Rel K W H μ) {p : Addr} (hp : H p = none) : Ext W H μ (W.more p) (upd H p (.lst vs)) (μ ++ [.lst xs]) := ext_moreC _ _ R hp
theorem Rel.newCellC (R : Rel K W H μ) {o : HO} {c : Cell} {p : Addr} (hp : H p = none) (hv : CeR K W H o c) : Rel K (W.more p) (upd H p o) (μ ++ [c]) := by
  have E := ext_moreC o c R hp
  have old : ∀ {k : Nat} {a : Addr}, k < μ.length → (W.m ++ [p])[k]? = some a → W.m[k]? = some a := fun {k a} hk h => by
    rw [List.getElem?_append_left (by rw [R.len]; exact hk)] at h; exact h
  have oldm : ∀ {k : Nat} {d : Cell}, k < μ.length → (μ ++ [c])[k]? = some d → μ[k]? = some d := fun {k ys} hk h => by
    rw [List.getElem?_append_left hk] at h; exact h
  have last : ∀ {k : Nat}, k < (μ ++ [c]).length → ¬ k < μ.length → k = μ.length := fun {k} h1 h2 => by
    rw [List.length_append] at h1; simp at h1; omega
  have hl : ∀ {k : Nat}, live (μ ++ [c]) k → k < μ.length → live μ k := fun {k} ⟨ys, h, hd⟩ hk => ⟨ys, oldm hk h, hd⟩
  have atp : ∀ {k : Nat} {a : Addr}, k = μ.length → (W.m ++ [p])[k]? = some a → a = p := fun {k a} hk h => by
    rw [hk, ← R.len, List.getElem?_append_right (Nat.le_refl _), Nat.sub_self] at h
    exact (Option.some.inj h).symm
  refine ⟨by simp [R.len], fun k a d h1 h2 hd => ?_, fun j k a hj hk h1 h2 => ?_, fun a h => ?_⟩
  · by_cases hk : k < μ.length
    · obtain ⟨u, q1, q2⟩ := R.cel k a d (old hk h1) (oldm hk h2) hd
      exact ⟨u, by rw [upd_ne (ne_of_none q1 hp)]; exact q1, CeR.mono E R q2⟩
    · have ek := last (List.getElem?_eq_some_iff.mp h2).1 hk
      have ea := atp ek h1
      subst ea
      rw [ek, List.getElem?_append_right (Nat.le_refl _), Nat.sub_self] at h2
      have e2 : c = d := Option.some.inj h2
      subst e2
      exact ⟨o, upd_same, CeR.mono E R hv⟩
  · by_cases a1 : j < μ.length
    · by_cases a2 : k < μ.length
      · exact R.inj j k a (hl hj a1) (hl hk a2) (old a1 h1) (old a2 h2)
      · have ea := atp (last (live_lt hk) a2) h2
        subst ea
        exact absurd (old a1 h1) (R.notNew hp j (hl hj a1))
    · have ea := atp (last (live_lt hj) a1) h1
      subst ea
      by_cases a2 : k < μ.length
      · exact absurd (old a2 h2) (R.notNew hp k (hl hk a2))
      · rw [last (live_lt hj) a1, last (live_lt hk) a2]
  · obtain ⟨⟨ws, q1⟩, q2⟩ := R.frz a h
    refine ⟨⟨ws, by rw [upd_ne (ne_of_none q1 hp)]; exact q1⟩, fun k lk hk => ?_⟩
    by_cases a2 : k < μ.length
    · exact q2 k (hl lk a2) (old a2 hk)
    · have ea := atp (last (live_lt lk) a2) hk
      rw [ea, hp] at q1; cases q1
theorem Rel.newCell (R : Rel K W H μ) {vs : List V} {xs : List LV} {p : Addr} (hp : H p = none) (hv : RLs K W H vs xs) : Rel K (W.more p) (upd H p (.lst vs)) (μ ++ [.lst xs]) := R.newCellC (o := .lst vs) (c := .lst xs) hp hv
theorem live_set {k j : Nat} {c : Cell} (h : live (μ.set k c) j) (h0 : live μ k) : live μ j := by
  by_cases e : k = j
  · subst e; exact h0
  · obtain ⟨xs, h, hd⟩ := h
    rw [List.getElem?_set_ne e] at h
    exact ⟨xs, h, hd⟩
theorem ext_setC (R : Rel K W H μ) {o' : HO} {c c' : Cell} {k : Nat} {a : Addr} (hk : W.m[k]? = some a) (hx : μ[k]? = some c) (hd : c ≠ .dead) : Ext W H μ W (upd H a o') (μ.set k c') := by
  obtain ⟨o, h1, _⟩ := R.cel k a c hk hx hd
  refine ⟨⟨[], by simp, by simp⟩, fun _ h => h, fun b h => ?_, fun b o h n => ?_, fun _ h => .inl h, fun j _ h => live_set h ⟨c, hx, hd⟩⟩
  · by_cases e : b = a
    · subst e; rw [upd_same] at h; cases h
    · rw [upd_ne e] at h; exact h
  · rw [upd_ne]
    · exact h
    · intro e; subst e; exact n k ⟨c, hx, hd⟩ hk
theorem ext_set (R : Rel K W H μ) {vs' : List V} {xs xs' : List LV} {k : Nat} {a : Addr} (hk : W.m[k]? = some a) (hx : μ[k]? = some (Cell.lst xs)) : Ext W H μ W (upd H a (.lst vs')) (μ.set k (.lst xs')) := ext_setC R hk hx fun e => nomatch e
theorem Rel.setCellC (R : Rel K W H μ) {o' : HO} {c c' : Cell} {k : Nat} {a : Addr} (hk : W.m[k]? = some a) (hx : μ[k]? = some c) (hd : c ≠ .dead) (hv : CeR K W H o' c') : Rel K W (upd H a o') (μ.set k c') := by
  have E : Ext W H μ W (upd H a o') (μ.set k c') := ext_setC R hk hx hd
  have lk : live μ k := ⟨c, hx, hd⟩
  have kl := live_lt lk
  refine ⟨by rw [List.length_set]; exact R.len, fun j b d h1 h2 hd2 => ?_, fun i j b hi hj => R.inj i j b (live_set hi lk) (live_set hj lk), fun b h => ?_⟩
  · by_cases e : k = j
    · subst e
      rw [hk] at h1; cases h1
      rw [List.getElem?_set_self kl] at h2
      injection h2 with h2; subst h2
      exact ⟨o', upd_same, CeR.mono E R hv⟩
    · rw [List.getElem?_set_ne e] at h2
      obtain ⟨u, q1, q2⟩ := R.cel j b d h1 h2 hd2
      refine ⟨u, ?_, CeR.mono E R q2⟩
      rw [upd_ne]
      · exact q1
      · intro z; subst z; exact e (R.inj k j b lk ⟨d, h2, hd2⟩ hk h1)
  · obtain ⟨⟨ws, q1⟩, q2⟩ := R.frz b h
    refine ⟨⟨ws, ?_⟩, fun j lj => q2 j (live_set lj lk)⟩
    rw [upd_ne]
    · exact q1
    · intro z; subst z; exact q2 k lk hk
theorem Rel.setCell (R : Rel K W H μ) {vs' : List V} {xs xs' : List LV} {k : Nat} {a : Addr} (hk : W.m[k]? = some a) (hx : μ[k]? = some (Cell.lst xs)) (hv : RLs K W H vs' xs') : Rel K W (upd H a (.lst vs')) (μ.set k (.lst xs')) :=
  R.setCellC (o' := .lst vs') (c' := .lst xs') hk hx (fun e => nomatch e) hv
theorem live_dead {k j : Nat} (h : live (μ.set k .dead) j) : live μ j ∧ j ≠ k := by
  obtain ⟨xs, h, hd⟩ := h
  by_cases e : k = j
  · subst e
    by_cases hl : k < μ.length
    · rw [List.getElem?_set_self hl] at h; cases h; exact absurd rfl hd
    · rw [List.getElem?_eq_none (by simpa using hl)] at h; cases h
  · rw [List.getElem?_set_ne e] at h
    exact ⟨⟨xs, h, hd⟩, fun z => e z.symm⟩
theorem ext_dead {xs : List LV} {k : Nat} {a : Addr} (hk : W.m[k]? = some a) (hx : μ[k]? = some (Cell.lst xs)) : Ext W H μ (W.fz a) H (μ.set k .dead) :=
  ⟨⟨[], by simp, by simp⟩, fun _ h => .inl h, fun _ h => h, fun _ _ h _ => h, fun b h => h.elim .inl fun e => .inr (.inr ⟨k, live.l hx, by rw [e]; exact hk⟩), fun j _ h => (live_dead h).1⟩
theorem Rel.dead (R : Rel K W H μ) {xs : List LV} {k : Nat} {a : Addr} (hk : W.m[k]? = some a) (hx : μ[k]? = some (Cell.lst xs)) : Rel K (W.fz a) H (μ.set k .dead) := by
  have E : Ext W H μ (W.fz a) H (μ.set k .dead) := ext_dead hk hx
  refine ⟨by rw [List.length_set]; exact R.len, fun j b d h1 h2 hd => ?_, fun i j b hi hj => R.inj i j b (live_dead hi).1 (live_dead hj).1, fun b h => ?_⟩
  · have e : j ≠ k := (live_dead (μ := μ) ⟨d, h2, hd⟩).2
    rw [List.getElem?_set_ne (Ne.symm e)] at h2
    obtain ⟨u, q1, q2⟩ := R.cel j b d h1 h2 hd
    exact ⟨u, q1, CeR.mono E R q2⟩
  · rcases h with h | h
    · obtain ⟨⟨ws, q1⟩, q2⟩ := R.frz b h
      exact ⟨⟨ws, q1⟩, fun j lj => q2 j (live_dead lj).1⟩
    · subst h
      obtain ⟨ws, q1, _⟩ := R.cell k b xs hk hx
      refine ⟨⟨ws, q1⟩, fun j lj hj => ?_⟩
      exact (live_dead lj).2 (R.inj j k b (live_dead lj).1 (live.l hx) hj hk)
end
end Gg

end
section
/-! GExp: each expression of the text does what its meaning over data says. -/
namespace Gg
open PySem L2

section
variable {K : PySem.W.Frag} {W W1 W2 W' : Wd} {H H1 H2 H' : Hp} {μ μ1 μ2 μ' : Sto} {F F' : Addr → Prop} {σ : List (Option V)} {e : Env}
/-- a value that is read: a list's own place may be any -/
def RT (K : PySem.W.Frag) (F : Addr → Prop) (H : Hp) (v : V) : PyData → Prop
  | .list xs => ∃ a vs, v = .ref a ∧ H a = some (HO.lst vs) ∧ RPs K F H vs xs
  | x => RP K F H v x
/-- .. the script, too -/
def RS (K : PySem.W.Frag) (F : Addr → Prop) (H : Hp) (v : V) : PyData → Prop
  | .list xs => ∃ a vs, v = .ref a ∧ SqL K H a vs ∧ RPs K F H vs xs
  | x => RP K F H v x
inductive RTs (K : PySem.W.Frag) (F : Addr → Prop) (H : Hp) : List V → List PyData → Prop
  | nil : RTs K F H [] []
  | cons {v : V} {vs : List V} {x : PyData} {xs : List PyData} : RT K F H v x → RTs K F H vs xs → RTs K F H (v :: vs) (x :: xs)
theorem RP.rt {v : V} : ∀ {x : PyData}, RP K F H v x → RT K F H v x
  | .list _, .lst _ h2 h3 => ⟨_, _, rfl, h2, h3⟩
  | .none, h => h
  | .bool _, h => h
  | .int _, h => h
  | .str _, h => h
  | .tuple _, h => h
  | .dict _, h => h
theorem RT.rs {v : V} : ∀ {x : PyData}, RT K F H v x → RS K F H v x
  | .list _, ⟨a, vs, h1, h2, h3⟩ => ⟨a, vs, h1, .of h2, h3⟩
  | .none, h => h
  | .bool _, h => h
  | .int _, h => h
  | .str _, h => h
  | .tuple _, h => h
  | .dict _, h => h
theorem RPs.length : ∀ {vs : List V} {xs : List PyData}, RPs K F H vs xs → vs.length = xs.length
  | _, _, .nil => rfl
  | _, _, .cons _ t => by rw [List.length_cons, List.length_cons, RPs.length t]
theorem RPs.append : ∀ {vs ws : List V} {xs ys : List PyData}, RPs K F H vs xs → RPs K F H ws ys → RPs K F H (vs ++ ws) (xs ++ ys)
  | _, _, _, _, .nil, s => s
  | _, _, _, _, .cons a t, s => .cons a (RPs.append t s)
theorem RPs.get : ∀ {vs : List V} {xs : List PyData} {i : Nat} {x : PyData}, RPs K F H vs xs → xs[i]? = some x → ∃ v, vs[i]? = some v ∧ RP K F H v x
  | _, _, _, _, .nil, e => by simp at e
  | _, _, 0, _, .cons r _, e => by simp at e; subst e; exact ⟨_, rfl, r⟩
  | _, _, i + 1, x, .cons _ t, e => by
    obtain ⟨v, h1, h2⟩ := RPs.get (i := i) (x := x) t (by simpa using e)
    exact ⟨v, by simpa using h1, h2⟩
theorem RPs.take : ∀ {vs : List V} {xs : List PyData} (n : Nat), RPs K F H vs xs → RPs K F H (vs.take n) (xs.take n)
  | _, _, 0, _ => .nil
  | _, _, _ + 1, .nil => .nil
  | _, _, n + 1, .cons r t => .cons r (RPs.take n t)
theorem RPs.drop : ∀ {vs : List V} {xs : List PyData} (n : Nat), RPs K F H vs xs → RPs K F H (vs.drop n) (xs.drop n)
  | _, _, 0, r => r
  | _, _, _ + 1, .nil => .nil
  | _, _, n + 1, .cons _ t => RPs.drop n t
theorem RPs.revAux : ∀ {vs ws : List V} {xs ys : List PyData}, RPs K F H vs xs → RPs K F H ws ys → RPs K F H (vs.reverseAux ws) (xs.reverseAux ys)
  | _, _, _, _, .nil, s => s
  | _, _, _, _, .cons a t, s => by
    simp only [List.reverseAux_cons]
    exact RPs.revAux t (.cons a s)
theorem RPs.reverse {vs : List V} {xs : List PyData} (h : RPs K F H vs xs) : RPs K F H vs.reverse xs.reverse := by
  show RPs K F H (vs.reverseAux []) (xs.reverseAux [])
  exact RPs.revAux h .nil
theorem RPs.repl {vs : List V} {xs : List PyData} (h : RPs K F H vs xs) : ∀ n : Nat, RPs K F H (List.replicate n vs).flatten (List.replicate n xs).flatten
  | 0 => .nil
  | n + 1 => by
    rw [List.replicate_succ, List.replicate_succ, List.flatten_cons, List.flatten_cons]
    exact h.append (RPs.repl h n)
theorem RLs.length : ∀ {vs : List V} {xs : List LV}, RLs K W H vs xs → vs.length = xs.length
  | _, _, .nil => rfl
  | _, _, .cons _ t => by rw [List.length_cons, List.length_cons, RLs.length t]
theorem RLs.get : ∀ {vs : List V} {xs : List LV} {i : Nat} {x : LV}, RLs K W H vs xs → xs[i]? = some x → ∃ v, vs[i]? = some v ∧ RL K W H v x
  | _, _, _, _, .nil, e => by simp at e
  | _, _, 0, _, .cons r _, e => by simp at e; subst e; exact ⟨_, rfl, r⟩
  | _, _, i + 1, x, .cons _ t, e => by
    obtain ⟨v, h1, h2⟩ := RLs.get (i := i) (x := x) t (by simpa using e)
    exact ⟨v, by simpa using h1, h2⟩
theorem RLs.append : ∀ {vs ws : List V} {xs ys : List LV}, RLs K W H vs xs → RLs K W H ws ys → RLs K W H (vs ++ ws) (xs ++ ys)
  | _, _, _, _, .nil, s => s
  | _, _, _, _, .cons a t, s => .cons a (RLs.append t s)
theorem RLs.set : ∀ {vs : List V} {xs : List LV} {v : V} {x : LV} (i : Nat), RLs K W H vs xs → RL K W H v x → RLs K W H (vs.set i v) (xs.set i x)
  | _, _, _, _, _, .nil, _ => .nil
  | _, _, _, _, 0, .cons _ t, r => .cons r t
  | _, _, _, _, i + 1, .cons a t, r => .cons a (RLs.set i t r)
theorem RLs.repl {vs : List V} {xs : List LV} (h : RLs K W H vs xs) : ∀ n : Nat, RLs K W H (List.replicate n vs).flatten (List.replicate n xs).flatten
  | 0 => .nil
  | n + 1 => by
    rw [List.replicate_succ, List.replicate_succ, List.flatten_cons, List.flatten_cons]
    exact h.append (RLs.repl h n)
theorem RLs.all : ∀ {vs : List V} {xs : List LV} {ys : List PyData}, RLs K W H vs xs → allD xs = some ys → RPs K W.F H vs ys
  | _, _, _, .nil, h => by cases h; exact .nil
  | _, .d x :: xs, _, .cons r t, h => by
    unfold allD at h
    cases q : allD xs with
    | none => rw [q] at h; cases h
    | some zs => rw [q] at h; cases h; exact .cons r (RLs.all t q)
  | _, .ref _ :: _, _, .cons _ _, h => by cases h
  | _, .ro _ :: _, _, .cons _ _, h => by cases h
  | _, .tr _ _ :: _, _, .cons _ _, h => by cases h
theorem RPs.rls : ∀ {vs : List V} {xs : List PyData}, RPs K W.F H vs xs → RLs K W H vs (xs.map .d)
  | _, _, .nil => .nil
  | _, _, .cons a t => .cons a (RPs.rls t)
theorem rd_ok (R : Rel K W H μ) {v : V} : ∀ {lv : LV} {x : PyData}, RL K W H v lv → rdD μ lv = some x → RT K W.F H v x
  | .d y, x, h, q => by cases q; exact RP.rt h
  | .ref k, x, ⟨a, hk, ev⟩, q => by
    cases hx : μ[k]? with
    | none => simp only [rdD, hx] at q; cases q
    | some c =>
      cases c with
      | dead => simp only [rdD, hx] at q; cases q
      | dct xs => simp only [rdD, hx] at q; cases q
      | lst xs =>
        simp only [rdD, hx] at q
        cases ha : allD xs with
        | none => rw [ha] at q; cases q
        | some ys =>
          rw [ha] at q; cases q
          obtain ⟨vs, h1, h2⟩ := R.cell k a xs hk hx
          exact ⟨a, vs, ev, h1, h2.all ha⟩
  | .ro _, _, _, q => by cases q
  | .tr _ _, _, _, q => by cases q
theorem rdS_ok (R : Rel K W H μ) {v : V} : ∀ {lv : LV} {x : PyData}, RL K W H v lv → rdS μ lv = some x → RS K W.F H v x
  | .d y, x, h, q => by have q : rdD μ (.d y) = some x := q; exact (rd_ok R (lv := .d y) h q).rs
  | .ref k, x, h, q => by have q : rdD μ (.ref k) = some x := q; exact (rd_ok R (lv := .ref k) h q).rs
  | .ro xs, x, h, q => by
    obtain ⟨a, vs, h1, h2, h3⟩ := h
    have q : some (PyData.list xs) = some x := q
    cases q; exact ⟨a, vs, h1, h2.sq, h3⟩
  | .tr pre k, x, _, q => by have q : rdD μ (.tr pre k) = some x := q; cases q
theorem rdAll_ok (R : Rel K W H μ) : ∀ {vs : List V} {ls : List LV} {xs : List PyData}, RLs K W H vs ls → rdAll μ ls = some xs → RTs K W.F H vs xs
  | _, _, _, .nil, q => by cases q; exact .nil
  | _, l :: ls, _, .cons a t, q => by
    unfold rdAll at q
    split at q
    · rename_i x hx
      cases hq : rdAll μ ls with
      | none => rw [hq] at q; cases q
      | some ys => rw [hq] at q; cases q; exact .cons (rd_ok R a hx) (rdAll_ok R t hq)
    · cases q
theorem line_le : LINE ≤ sizeLine := by decide
theorem line_le' {n : Nat} (h : n ≤ LINE) : n ≤ sizeLine := Nat.le_trans h line_le
theorem line_lt {n : Nat} (h : n ≤ LINE) : n < sizeLine := Nat.lt_of_le_of_lt h (by decide)
end

/-! ### the judgements -/
/-- what is wanted behind an expression that comes to r and leaves μ' -/
abbrev Post (K : PySem.W.Frag) (W : Wd) (H : Hp) (μ μ' : Sto) (r : LV) (Q : VK) : Prop := ∀ W' H' v, Ext W H μ W' H' μ' → Rel K W' H' μ' → RL K W' H' v r → Q v H'
def tE (K : PySem.W.Frag) (f : EM) : TE := fun σ H Q => ∃ W e μ r μ', Rel K W H μ ∧ EnvOk K W H σ e ∧ f e μ = some (r, μ') ∧ Post K W H μ μ' r Q
def tT (K : PySem.W.Frag) (f : EM) : TT := fun σ H Q => ∃ W e μ r μ' b, Rel K W H μ ∧ EnvOk K W H σ e ∧ f e μ = some (r, μ') ∧ truth μ' r = some b ∧ ∀ W' H', Ext W H μ W' H' μ' → Rel K W' H' μ' → Q b H'
def tA (K : PySem.W.Frag) (fs : List EM) : TA := fun σ H Q => ∃ W e μ rs μ', Rel K W H μ ∧ EnvOk K W H σ e ∧ evalL fs e μ = some (rs, μ') ∧ ∀ W' H' vs, Ext W H μ W' H' μ' → Rel K W' H' μ' → RLs K W' H' vs rs → Q vs H'
/-- a new list: it stands at p, in nobody's hands yet -/
def tL (K : PySem.W.Frag) (f : LM) : TE := fun σ H Q => ∃ W e μ rs μ', Rel K W H μ ∧ EnvOk K W H σ e ∧ f e μ = some (rs, μ') ∧
  ∀ W' H' vs, Ext W H μ W' H' μ' → Rel K W' H' μ' → RLs K W' H' vs rs → ∀ p, H' p = none → Q (.ref p) (upd H' p (.lst vs))
abbrev SE (X : Cx) (a : Expr) (f : EM) : Prop := PE X a (tE X.K f)
abbrev ST (X : Cx) (a : Expr) (f : EM) : Prop := PT X a (tT X.K f)
abbrev SA (X : Cx) (as : List Expr) (fs : List EM) : Prop := PA X as (tA X.K fs)
abbrev SL (X : Cx) (a : Expr) (f : LM) : Prop := PE X a (tL X.K f)
theorem _root_.L2.PE.imp {X : Cx} {a : Expr} {t t' : TE} (h : PE X a t) (w : ∀ σ H Q, t' σ H Q → t σ H Q) : PE X a t' := ⟨fun pins s σ H Q I q => h.run pins s σ H Q I (w σ H Q q)⟩
theorem _root_.L2.PT.imp {X : Cx} {a : Expr} {t t' : TT} (h : PT X a t) (w : ∀ σ H Q, t' σ H Q → t σ H Q) : PT X a t' := ⟨fun pins s σ H Q I q => h.run pins s σ H Q I (w σ H Q q)⟩
theorem _root_.L2.PW.imp {X : Cx} {a : Expr} {t t' : TT} (h : PW X a t) (w : ∀ σ H Q, t' σ H Q → t σ H Q) : PW X a t' := ⟨fun wh pins s σ H Q I q => h.run wh pins s σ H Q I (w σ H Q q)⟩
theorem _root_.L2.PA.imp {X : Cx} {a : List Expr} {t t' : TA} (h : PA X a t) (w : ∀ σ H Q, t' σ H Q → t σ H Q) : PA X a t' := ⟨fun pos pins s σ H Q I q => h.run pos pins s σ H Q I (w σ H Q q)⟩

section
variable {X : Cx} {a b c : Expr} {fa fb fc : EM} {pos : Pos}
/-! ### new things -/
theorem post_lst {K : PySem.W.Frag} {W : Wd} {H : Hp} {μ : Sto} {vs : List V} {xs : List PyData} {Q : VK} (R : Rel K W H μ) (h : RPs K W.F H vs xs) (q : Post K W H μ μ (.d (.list xs)) Q) : ∀ p, H p = none → Q (.ref p) (upd H p (.lst vs)) := by
  intro p hp
  have E := ext_frz (W := W) (μ := μ) vs hp
  exact q _ _ _ E (R.newFrz vs hp) (.lst (.inr rfl) upd_same (RPs.mono (E.kp R) h))
theorem post_tup {K : PySem.W.Frag} {W : Wd} {H : Hp} {μ : Sto} {vs : List V} {xs : List PyData} {Q : VK} (R : Rel K W H μ) (h : RPs K W.F H vs xs) (q : Post K W H μ μ (.d (.tuple xs)) Q) : ∀ p, H p = none → Q (.ref p) (upd H p (.tup vs)) := by
  intro p hp
  have E := ext_new (W := W) (μ := μ) (.tup vs) hp
  exact q _ _ _ E (R.new (.tup vs) hp) (.tup (.of upd_same) (RPs.mono (E.kp R) h))
theorem tr_of {K : PySem.W.Frag} {W : Wd} {H : Hp} : ∀ {vs : List V} {ls : List LV} {pre : List PyData} {k : Nat}, RLs K W H vs ls → trOf ls = some (pre, k) → ∃ us b, vs = us ++ [.ref b] ∧ RPs K W.F H us pre ∧ W.m[k]? = some b
  | _, _, _, _, .nil, h => by cases h
  | _, [.ref k], _, _, .cons a .nil, h => by
    cases h
    obtain ⟨b, hb, rfl⟩ := a
    exact ⟨[], b, rfl, .nil, hb⟩
  | _, .d x :: r, _, _, .cons (v := v) a t, h => by
    simp only [trOf] at h
    cases q : trOf r with
    | none => rw [q] at h; cases h
    | some p =>
      rw [q] at h; cases h
      obtain ⟨us, b, rfl, h2, h3⟩ := tr_of t q
      exact ⟨v :: us, b, rfl, .cons a h2, h3⟩
  | _, .ref _ :: _ :: _, _, _, .cons _ _, h => by cases h
  | _, .ro _ :: _, _, _, .cons _ _, h => by cases h
  | _, .tr _ _ :: _, _, _, .cons _ _, h => by cases h
theorem post_tupV {K : PySem.W.Frag} {W : Wd} {H : Hp} {μ : Sto} {vs : List V} {ls : List LV} {x : LV} {Q : VK} (R : Rel K W H μ) (h : RLs K W H vs ls) (ht : tupV ls = some x) (q : Post K W H μ μ x Q) : ∀ p, H p = none → Q (.ref p) (upd H p (.tup vs)) := by
  unfold tupV at ht
  split at ht
  · rename_i xs ha
    cases ht
    exact post_tup R (h.all ha) q
  · cases hq : trOf ls with
    | none => rw [hq] at ht; cases ht
    | some pk =>
      rw [hq] at ht; cases ht
      obtain ⟨us, b, rfl, h2, h3⟩ := tr_of h hq
      intro p hp
      have E := ext_new (W := W) (μ := μ) (.tup (us ++ [.ref b])) hp
      exact q _ _ _ E (R.new (.tup _) hp) ⟨p, us, b, rfl, .of upd_same, RPs.mono (E.kp R) h2, h3⟩
/-! ### names, constants -/
theorem se_var {i : Nat} {x : Str} (hN : X.N[i]? = some x) (hv : Vis X.env.scope x) (hd : (x == ("__debug__" : Str)) = false) (hcd : (x == ("__classdict__" : Str)) = false) : SE X (.Name x pos) (eVar i) := by
  refine (pe_var hN hv hd hcd).imp fun σ H Q ⟨W, e, μ, r, μ', R, E, hf, q⟩ => ?_
  unfold eVar at hf
  split at hf
  · rename_i h
    cases hf
    obtain ⟨v, h1, h2⟩ := E.2 i _ h
    exact ⟨v, h1, q _ _ _ .refl R h2⟩
  · cases hf
theorem se_int {i : Int} {j : Nat} : SE X (.Constant (.int i) j pos) (eCon (.int i)) := pe_int.imp fun σ H Q ⟨W, e, μ, r, μ', R, E, hf, q⟩ => by cases hf; exact q _ _ _ .refl R (.int i)
theorem se_bool {i : Bool} {j : Nat} : SE X (.Constant (.bool i) j pos) (eCon (.bool i)) := pe_bl.imp fun σ H Q ⟨W, e, μ, r, μ', R, E, hf, q⟩ => by cases hf; exact q _ _ _ .refl R (.bl i)
theorem se_none {j : Nat} : SE X (.Constant .none j pos) (eCon .none) := pe_non.imp fun σ H Q ⟨W, e, μ, r, μ', R, E, hf, q⟩ => by cases hf; exact q _ _ _ .refl R .non
theorem se_str {i : Str} {j : Nat} : SE X (.Constant (.str i) j pos) (eCon (.str i)) := pe_str.imp fun σ H Q ⟨W, e, μ, r, μ', R, E, hf, q⟩ => by cases hf; exact q _ _ _ .refl R (.str i)
/-- an object of the module that reads as data -/
def GV (K : PySem.W.Frag) (u : Value) (d : PyData) : Prop := ∃ v, RelV v u ∧ ∀ (F : Addr → Prop) (H : Hp), RP K F H v d
theorem se_glob {x : Str} {d : PyData} {u : Value} (hg : Gl X x) (hm : X.mg x = some u) (hu : GV X.K u d) (hd : (x == ("__debug__" : Str)) = false) : SE X (.Name x pos) (eCon d) := by
  obtain ⟨v, h1, h2⟩ := hu
  exact (pe_glob (v := v) hg hm h1 hd).imp fun σ H Q ⟨W, e, μ, r, μ', R, E, hf, q⟩ => by cases hf; exact q _ _ _ .refl R (h2 _ _)
/-! ### argument lists -/
def notStar : Expr → Bool
  | .Starred _ _ => false
  | _ => true
theorem star_cons {env : PySem.Env} {es : List Expr} (h : notStar a = true) : starEach (a :: es) env = (false, eval a env) :: starEach es env := by
  cases a <;> first | rfl | cases h
theorem sa_nil : SA X [] [] := pa_nil.imp fun σ H Q ⟨W, e, μ, r, μ', R, E, hf, q⟩ => by
  unfold evalL at hf; cases hf; exact q _ _ _ .refl R .nil
theorem sa_cons {as : List Expr} {fs : List EM} (hn : notStar a = true) (ha : SE X a fa) (hs : SA X as fs) : SA X (a :: as) (fa :: fs) := by
  refine (pa_cons ha hs (star_cons hn)).imp fun σ H Q ⟨W, e, μ, r, μ', R, E, hf, q⟩ => ?_
  unfold evalL at hf
  split at hf
  · rename_i v m1 h1
    split at hf
    · rename_i vs m2 h2
      cases hf
      refine ⟨W, e, μ, v, m1, R, E, h1, fun W1 H1 x E1 R1 rx => ⟨W1, e, m1, vs, _, R1, E.mono E1 R, h2, fun W2 H2 xs E2 R2 rxs => ?_⟩⟩
      exact q W2 H2 _ (E1.trans E2) R2 (.cons (rx.mono E2 R1) rxs)
    · cases hf
  · cases hf
theorem evalL_len : ∀ {fs : List EM} {e : Env} {m m' : Sto} {vs : List LV}, evalL fs e m = some (vs, m') → vs.length = fs.length
  | [], _, _, _, _, h => by unfold evalL at h; cases h; rfl
  | f :: fs, e, m, m', vs, h => by
    unfold evalL at h
    split at h
    · split at h
      · rename_i h2
        cases h
        rw [List.length_cons, List.length_cons, evalL_len h2]
      · cases h
    · cases h
/-! ### tuples, lists -/
theorem se_tup {as : List Expr} {fs : List EM} {k : Nat} (hs : SA X as fs) (hl : fs.length ≤ 1000) : SE X (.Tuple as k pos) (eTup fs) := by
  refine (pe_tup hs).imp fun σ H Q ⟨W, e, μ, r, μ', R, E, hf, q⟩ => ?_
  unfold eTup at hf
  split at hf
  · rename_i vs m1 h1
    cases ht : tupV vs with
    | none => rw [ht] at hf; cases hf
    | some x =>
      rw [ht] at hf; cases hf
      refine ⟨W, e, μ, vs, _, R, E, h1, fun W1 H1 us E1 R1 rs => ⟨?_, ?_⟩⟩
      · rw [rs.length, evalL_len h1]
        exact Nat.le_of_lt (small1000 hl)
      · exact post_tupV R1 rs ht fun W' H' v E2 R2 rv => q W' H' v (E1.trans E2) R2 rv
  · cases hf
theorem sl_disp {as : List Expr} {fs : List EM} (hs : SA X as fs) (hl : fs.length ≤ 1000) : SL X (.List as pos) (lDisp fs) := by
  refine (pe_lst hs).imp fun σ H Q ⟨W, e, μ, r, μ', R, E, hf, q⟩ => ?_
  refine ⟨W, e, μ, r, _, R, E, hf, fun W1 H1 us E1 R1 rs => ⟨?_, q W1 H1 us E1 R1 rs⟩⟩
  rw [rs.length, evalL_len hf]
  exact Nat.le_of_lt (small1000 hl)
theorem se_lst {l : LM} (h : SL X a l) : SE X a (eLst l) := by
  refine h.imp fun σ H Q ⟨W, e, μ, r, μ', R, E, hf, q⟩ => ?_
  unfold eLst at hf
  split at hf
  · rename_i vs m1 h1
    cases ha : allD vs with
    | none => rw [ha] at hf; cases hf
    | some xs =>
      rw [ha] at hf; cases hf
      refine ⟨W, e, μ, vs, _, R, E, h1, fun W1 H1 us E1 R1 rs => ?_⟩
      exact post_lst R1 (rs.all ha) fun W' H' v E2 R2 rv => q W' H' v (E1.trans E2) R2 rv
  · cases hf
theorem se_new {l : LM} (h : SL X a l) : SE X a (eNew l) := by
  refine h.imp fun σ H Q ⟨W, e, μ, r, μ', R, E, hf, q⟩ => ?_
  unfold eNew at hf
  split at hf
  · rename_i vs m1 h1
    cases hf
    refine ⟨W, e, μ, vs, _, R, E, h1, fun W1 H1 us E1 R1 rs p hp => ?_⟩
    have E2 := ext_more us vs R1 hp
    refine q _ _ _ (E1.trans E2) (R1.newCell hp rs) ⟨p, ?_, rfl⟩
    show (W1.m ++ [p])[m1.length]? = some p
    rw [← R1.len, List.getElem?_append_right (Nat.le_refl _), Nat.sub_self]
    rfl
  · cases hf
/-! ### operators -/
def OpS (X : Cx) (op : Value → Value → Sem Value) (g : B2) : Prop :=
  ∃ r : R2, OpR X op r ∧ ∀ (W : Wd) (H : Hp) (μ : Sto) (x y : V) (dx dy z : PyData) (Q : VK), Rel X.K W H μ → RT X.K W.F H x dx → RT X.K W.F H y dy → g dx dy = some z → Post X.K W H μ μ (.d z) Q → r x y H Q
theorem bin_core {r : R2} {g : B2} {σ : List (Option V)} {H : Hp} {Q : VK} (hs : ∀ (W : Wd) (H : Hp) (μ : Sto) (x y : V) (dx dy z : PyData) (Q : VK), Rel X.K W H μ → RT X.K W.F H x dx → RT X.K W.F H y dy → g dx dy = some z → Post X.K W H μ μ (.d z) Q → r x y H Q)
    (h : tE X.K (eBin g fa fb) σ H Q) : tOp r (tE X.K fa) (tE X.K fb) σ H Q := by
  obtain ⟨W, e, μ, r0, μ', R, E, hf, q⟩ := h
  unfold eBin at hf
  split at hf
  · rename_i a m1 h1
    split at hf
    · rename_i b m2 h2
      split at hf
      · rename_i x y hx hy
        cases hz : g x y with
        | none => rw [hz] at hf; cases hf
        | some z =>
          rw [hz] at hf; cases hf
          refine ⟨W, e, μ, a, m1, R, E, h1, fun W1 H1 u E1 R1 ru => ⟨W1, e, m1, b, _, R1, E.mono E1 R, h2, fun W2 H2 w E2 R2 rw' => ?_⟩⟩
          exact hs W2 H2 _ u w x y z Q R2 (rd_ok R2 (ru.mono E2 R1) hx) (rd_ok R2 rw' hy) hz fun W' H' v E3 R3 rv => q W' H' v ((E1.trans E2).trans E3) R3 rv
      · cases hf
    · cases hf
  · cases hf
theorem se_bin {op : Operator} {g : B2} (ho : OpS X (binaryOp op) g) (ha : SE X a fa) (hb : SE X b fb) : SE X (.BinOp a op b pos) (eBin g fa fb) := by
  obtain ⟨r, hr, hs⟩ := ho
  exact (pe_op hr ha hb).imp fun σ H Q h => bin_core hs h
theorem se_cmp {op : CmpOp} {g : B2} (ho : OpS X (compareOp op) g) (hm : behindInMarks op b = false) (ha : SE X a fa) (hb : SE X b fb) : SE X (.Compare a [op] [b] pos) (eBin g fa fb) := by
  obtain ⟨r, hr, hs⟩ := ho
  exact (pe_cmpR hr ha hb hm).imp fun σ H Q h => bin_core hs h
/-- as a test, where the answer is True or False -/
theorem tT_bin {r : R2} {g : B2} (hB : ∀ x y z, g x y = some z → ∃ b, z = .bool b) {σ : List (Option V)} {H : Hp} {Q : Bool → Hp → Prop} (h : tT X.K (eBin g fa fb) σ H Q) :
    tE X.K (eBin g fa fb) σ H fun x H' => ∃ k, x = .bl k ∧ Q k H' := by
  obtain ⟨W, e, μ, r0, μ', b, R, E, hf, ht, q⟩ := h
  refine ⟨W, e, μ, r0, μ', R, E, hf, fun W' H' v E' R' rv => ?_⟩
  have : ∃ k, r0 = .d (.bool k) := by
    unfold eBin at hf
    split at hf
    · split at hf
      · split at hf
        · rename_i x y _ _
          cases hz : g x y with
          | none => rw [hz] at hf; cases hf
          | some z => rw [hz] at hf; cases hf; obtain ⟨k, hk⟩ := hB _ _ _ hz; exact ⟨k, by rw [hk]⟩
        · cases hf
      · cases hf
    · cases hf
  obtain ⟨k, rfl⟩ := this
  have hk : k = b := Option.some.inj ht
  subst hk
  cases rv
  exact ⟨k, rfl, q W' H' E' R'⟩
theorem st_cmp {op : CmpOp} {g : B2} (ho : OpS X (compareOp op) g) (hB : ∀ x y z, g x y = some z → ∃ b, z = .bool b) (hm : behindInMarks op b = false) (ha : SE X a fa) (hb : SE X b fb) : ST X (.Compare a [op] [b] pos) (eBin g fa fb) := by
  obtain ⟨r, hr, hs⟩ := ho
  exact (pt_cmpR hr ha hb hm).imp fun σ H Q h => bin_core hs (tT_bin (r := r) hB h)
end
end Gg

end
section
/-! GMulT: tuple * int, also none or one time. -/
namespace Gg
open PySem PySem.Spec PyProof.Rows L2
theorem tuple_mul1 (l : Addr) (items : Array Value) (n : Nat) (dd : Option Addr) (sl : Array (Option Value)) (x : Int) (u : Tok) (c0 : (decide (x < -(2 ^ 63)) || decide (x ≥ 2 ^ 63)) = false) (c1 : (items.isEmpty || x == 1) = true) :
    Meets (Builtin.«tuple.__mul__» ⟨[.ref l, .int x u], []⟩) (fun _ R s => s.heap.get? l = some { cls := .type "tuple", dict := dd, data := .seq items n, slots := sl } ∧
      R (.ok (.ret (Value.ref l))) s) :=
  .of_wp fun prog w A R s h => by
    obtain ⟨hp, g, d, tk, os⟩ := s
    obtain ⟨hl, h⟩ := h
    have f1 := AutoSeq1.idx_int
    wp_walk using wpAny_loadPart' hl
    refine wpAny_ite_false (decide_eq_false (by rw [c0]; exact Bool.false_ne_true)) ?_
    wp_walk using wpAny_loadPart' hl
    exact ⟨_, rfl, h⟩
theorem tuple_mul0 (l : Addr) (items : Array Value) (n : Nat) (dd : Option Addr) (sl : Array (Option Value)) (x : Int) (u : Tok) (c0 : (decide (x < -(2 ^ 63)) || decide (x ≥ 2 ^ 63)) = false) (c1 : (items.isEmpty || x == 1) = false) (c2 : (decide (x ≤ 0) || items.isEmpty) = true) :
    Meets (Builtin.«tuple.__mul__» ⟨[.ref l, .int x u], []⟩) (fun _ R s => s.heap.get? l = some { cls := .type "tuple", dict := dd, data := .seq items n, slots := sl } ∧
      R (.ok (.ret (Value.ref s.heap.objs.size))) { s with heap := s.heap.push { cls := Value.type "tuple", data := Data.seq #[] }, toks := s.toks }) :=
  .of_wp fun prog w A R s h => by
    obtain ⟨hp, g, d, tk, os⟩ := s
    obtain ⟨hl, h⟩ := h
    have f1 := AutoSeq1.idx_int
    wp_walk using wpAny_loadPart' hl
    repeat (first
      | (refine wpAny_ite_false (decide_eq_false (by rw [c0]; exact Bool.false_ne_true)) ?_; wp_walk using wpAny_loadPart' hl)
      | (refine wpAny_ite_false (decide_eq_false (by rw [c1]; exact Bool.false_ne_true)) ?_; wp_walk using wpAny_loadPart' hl)
      | (refine wpAny_ite_true (decide_eq_true c2) ?_; wp_walk using wpAny_loadPart' hl))
    exact ⟨_, rfl, h⟩
def rMulT (K : PySem.W.Frag) : R2 := fun x y H Q => ∃ l k xs, x = .ref l ∧ y = .int k ∧ SqT K H l xs ∧ -1000000 ≤ k ∧ k ≤ 1000000 ∧
  ((xs = [] ∨ k = 1) ∧ Q (.ref l) H ∨ xs ≠ [] ∧ k ≤ 0 ∧ (∀ p, H p = none → Q (.ref p) (upd H p (.tup []))) ∨ xs ≠ [] ∧ 2 ≤ k ∧ k ≤ 1000 ∧ xs.length ≤ 1000 ∧ ∀ p, H p = none → Q (.ref p) (upd H p (.tup (List.replicate k.toNat xs).flatten)))
theorem op_mulT {X : Cx} : OpR X (binaryOp .Mult) (rMulT X.K) := by
  intro pins s σ H x y v u Q I rx ry h
  obtain ⟨l, k, xs, rfl, rfl, hT, hk1, hk2, h⟩ := h
  rcases h with ⟨h0, q⟩ | ⟨hne, h0, q⟩ | ⟨hne, h2, h3, h4, q⟩
  · cases rx
    obtain ⟨t, rfl⟩ := ry
    obtain ⟨its, r, ⟨⟨cls, dd, data, sl⟩, ho, hc, n, hd⟩, hs⟩ := I.tuple hT
    simp only at hc hd
    subst hc hd
    have c0 : (decide (k < -(2 ^ 63)) || decide (k ≥ 2 ^ 63)) = false := by
      rw [decide_eq_false (by omega), decide_eq_false (by omega)] <;> rfl
    have c1 : (its.toArray.isEmpty || k == 1) = true := by
      rcases h0 with e | e
      · subst e; cases r; rfl
      · subst e; rw [Bool.or_eq_true]; exact .inr rfl
    exact wpAny_binaryOp_repeat_ref (T := "tuple") (U := "int") (by decide) ⟨_, ho, rfl⟩ (fun s' => typeIs_int s' k t) noFill_tuple_mul F.fills_int_mul F.slot_int_rmul repeat_tuple F.slot_int_index.lookup
      (call_meets F.slot_int_rmul (typeIs_int s k t) F.entry_int_rmul (F.args_int_rmul_2 _ _) (int_rmul_tuple k t l its.toArray n dd sl)
        ⟨ho, rfl, ⟨_, ho, rfl⟩, call_meets F.slot_tuple_mul ⟨_, ho, rfl⟩ F.entry_tuple_mul (F.args_tuple_mul_2 _ _) (tuple_mul1 l its.toArray n dd sl k t c0 c1) ⟨ho, ⟨.ref l, H, I, rfl, q⟩⟩⟩)
  · cases rx
    obtain ⟨t, rfl⟩ := ry
    obtain ⟨its, r, ⟨⟨cls, dd, data, sl⟩, ho, hc, n, hd⟩, hs⟩ := I.tuple hT
    simp only at hc hd
    subst hc hd
    have hle : its.length = xs.length := r.length.symm
    have hi : its.toArray.isEmpty = false := by
      cases its with
      | nil => exact absurd (List.eq_nil_of_length_eq_zero hle.symm) hne
      | cons a b => rfl
    have c0 : (decide (k < -(2 ^ 63)) || decide (k ≥ 2 ^ 63)) = false := by
      rw [decide_eq_false (by omega), decide_eq_false (by omega)] <;> rfl
    have c1 : (its.toArray.isEmpty || k == 1) = false := by
      rw [hi, Bool.false_or]
      exact beq_eq_false_iff_ne.mpr (by omega)
    have c2 : (decide (k ≤ 0) || its.toArray.isEmpty) = true := by
      rw [decide_eq_true (by omega)]; rfl
    refine wpAny_binaryOp_repeat_ref (T := "tuple") (U := "int") (by decide) ⟨_, ho, rfl⟩ (fun s' => typeIs_int s' k t) noFill_tuple_mul F.fills_int_mul F.slot_int_rmul repeat_tuple F.slot_int_index.lookup
      (call_meets F.slot_int_rmul (typeIs_int s k t) F.entry_int_rmul (F.args_int_rmul_2 _ _) (int_rmul_tuple k t l its.toArray n dd sl)
        ⟨ho, rfl, ⟨_, ho, rfl⟩, call_meets F.slot_tuple_mul ⟨_, ho, rfl⟩ F.entry_tuple_mul (F.args_tuple_mul_2 _ _) (tuple_mul0 l its.toArray n dd sl k t c0 c1 c2) ⟨ho, ?_⟩⟩)
    refine ⟨.ref s.heap.objs.size, _, I.laid (t' := s.toks) (o := .tup []) (fun b ob q => Heap.get?_push_of_some _ q) (Nat.le_refl _) ?_, rfl, q _ (I.hok.fresh (Nat.le_refl _))⟩
    exact ⟨Nat.zero_le _, [], .nil, IsTup.new _ _⟩
  · exact op_repT pins s σ H _ _ v u Q I rx ry ⟨l, k, xs, rfl, rfl, hT, hne, h2, h3, h4, q⟩
end Gg

end
section
/-! GOps: the operators of the text do what data say. -/
namespace Gg
open PySem L2

section
variable {K : PySem.W.Frag} {F : Addr → Prop} {H : Hp}
mutual
theorem RP.dp : ∀ {x : PyData} {v : V}, RP K F H v x → Dp K H v x
  | .none, _, .non => .non
  | .bool b, _, .bl _ => .bl b
  | .int i, _, .int _ => .int i
  | .str s, _, .str _ => .str s
  | .list _, _, .lst _ h2 h3 => .lst (.of h2) (RPs.dp h3)
  | .tuple _, _, .tup h1 h2 => .tup h1 (RPs.dp h2)
theorem RPs.dp : ∀ {xs : List PyData} {vs : List V}, RPs K F H vs xs → DpAll K H vs xs
  | [], _, .nil => .nil
  | _ :: _, _, .cons a b => .cons (RP.dp a) (RPs.dp b)
end
theorem RT.dp {v : V} : ∀ {x : PyData}, RT K F H v x → Dp K H v x
  | .list _, ⟨a, vs, h1, h2, h3⟩ => by rw [h1]; exact .lst (.of h2) h3.dp
  | .none, h => RP.dp h
  | .bool _, h => RP.dp h
  | .int _, h => RP.dp h
  | .str _, h => RP.dp h
  | .tuple _, h => RP.dp h
  | .dict _, h => RP.dp h
theorem plain_all {n : Nat} : ∀ {xs : List PyData}, (∀ x, plainD n x = true → PyData.canLay0 x = true ∧ PyData.depth x ≤ n) → xs.all (plainD n) = true → PyData.canLayAll0 xs = true ∧ PyData.depthAll xs ≤ n
  | [], _, _ => ⟨rfl, by simp [PyData.depthAll]⟩
  | x :: xs, h, q => by
    rw [List.all_cons, Bool.and_eq_true] at q
    obtain ⟨a1, a2⟩ := h x q.1
    obtain ⟨b1, b2⟩ := plain_all h q.2
    refine ⟨by simp only [PyData.canLayAll0, a1, b1, Bool.and_self], ?_⟩
    simp only [PyData.depthAll]
    omega
theorem plain_ok : ∀ (n : Nat) (x : PyData), plainD n x = true → PyData.canLay0 x = true ∧ PyData.depth x ≤ n
  | 0, _, h => by simp [plainD] at h
  | n + 1, .none, _ => ⟨rfl, by simp [PyData.depth]⟩
  | n + 1, .bool _, _ => ⟨rfl, by simp [PyData.depth]⟩
  | n + 1, .int _, _ => ⟨rfl, by simp [PyData.depth]⟩
  | n + 1, .str s, h => ⟨h, by simp [PyData.depth]⟩
  | n + 1, .list xs, h => by
    obtain ⟨a, b⟩ := plain_all (plain_ok n) (show xs.all (plainD n) = true from h)
    exact ⟨a, by simp only [PyData.depth]; omega⟩
  | n + 1, .tuple xs, h => by
    obtain ⟨a, b⟩ := plain_all (plain_ok n) (show xs.all (plainD n) = true from h)
    exact ⟨a, by simp only [PyData.depth]; omega⟩
  | n + 1, .dict _, h => by simp [plainD] at h
theorem plain_shaped {x : PyData} (h : plainD DEEP x = true) : SeqAt.shaped x = true := by
  obtain ⟨a, b⟩ := plain_ok _ x h
  have b' : PyData.depth x ≤ 60 := b
  unfold SeqAt.shaped
  rw [a, Bool.true_and, decide_eq_true_eq]
  omega
end

section
variable {X : Cx}
theorem OpS.of {op : Value → Value → Sem Value} {g : B2} {r : R2} (h : OpR X op r) (w : ∀ (W : Wd) (H : Hp) (μ : Sto) (x y : V) (dx dy z : PyData) (Q : VK), Rel X.K W H μ → RT X.K W.F H x dx → RT X.K W.F H y dy → g dx dy = some z → Post X.K W H μ μ (.d z) Q → r x y H Q) : OpS X op g := ⟨r, h, w⟩
theorem ops_int {op : Value → Value → Sem Value} {g : B2} {r : Int → Int → V} {s : Int → Int → PyData} (h : OpR X op (rI0 r)) (hg : ∀ x y z, g x y = some z → ∃ i j, x = .int i ∧ y = .int j ∧ z = s i j)
    (hr : ∀ (K : PySem.W.Frag) (F : Addr → Prop) (H : Hp) (i j : Int), RP K F H (r i j) (s i j)) : OpS X op g := by
  refine .of h fun W H μ x y dx dy z Q R rx ry q0 q => ?_
  obtain ⟨i, j, rfl, rfl, rfl⟩ := hg dx dy z q0
  cases rx; cases ry
  exact ⟨i, j, rfl, rfl, q _ _ _ .refl R (hr _ _ _ i j)⟩
theorem ops_add : OpS X (binaryOp .Add) addD := by
  refine .of (((op_add.or op_add_str).or op_cat).or op_catA) fun W H μ x y dx dy z Q R rx ry hg q => ?_
  unfold addD at hg
  split at hg
  · cases hg; cases rx; cases ry
    exact .inl (.inl (.inl ⟨_, _, rfl, rfl, q _ _ _ .refl R (.int _)⟩))
  · split at hg
    · rename_i hl
      cases hg; cases rx; cases ry
      exact .inl (.inl (.inr ⟨_, _, rfl, rfl, line_le' hl, q _ _ _ .refl R (.str _)⟩))
    · cases hg
  · split at hg
    · rename_i hl
      cases hg
      obtain ⟨a, vs, rfl, h1, h2⟩ := rx
      obtain ⟨b, ws, rfl, h3, h4⟩ := ry
      exact .inl (.inr ⟨a, b, vs, ws, rfl, rfl, h1, h3, by rw [h2.length, h4.length]; exact line_le' hl, post_lst R (h2.append h4) q⟩)
    · cases hg
  · split at hg
    · rename_i hl
      cases hg
      cases rx with
      | tup h1 h2 =>
        cases ry with
        | tup h3 h4 =>
          refine .inr ⟨_, _, _, _, rfl, rfl, h1, h3, by rw [h2.length, h4.length]; exact line_le' hl, fun e => ?_, fun _ e => ?_, fun _ _ => post_tup R (h2.append h4) q⟩
          · subst e
            cases h2
            exact q _ _ _ .refl R (.tup h3 h4)
          · subst e
            cases h4
            exact q _ _ _ .refl R (.tup h1 (by rw [List.append_nil]; exact h2))
    · cases hg
  · cases hg
theorem ops_sub : OpS X (binaryOp .Sub) subD := ops_int (s := fun i j => .int (i - j)) op_sub (fun x y z h => by
  unfold subD at h
  split at h
  · cases h; exact ⟨_, _, rfl, rfl, rfl⟩
  · cases h) fun _ _ _ _ _ => .int _
theorem ops_mul : OpS X (binaryOp .Mult) mulD := by
  refine .of (op_mulW.or (op_rep.or op_mulT)) fun W H μ x y dx dy z Q R rx ry hg q => ?_
  unfold mulD at hg
  split at hg
  · split at hg
    · rename_i hl
      cases hg; cases rx; cases ry
      exact .inl ⟨_, _, rfl, rfl, hl, q _ _ _ .refl R (.int _)⟩
    · cases hg
  · split at hg
    · rename_i hl
      cases hg
      have hk := rng_ok hl.2
      obtain ⟨a, vs, rfl, h1, h2⟩ := rx
      cases ry
      exact .inr (.inl ⟨a, _, vs, rfl, rfl, h1, by omega, by omega, by rw [h2.length]; exact line_le' hl.1, post_lst R (h2.repl _) q⟩)
    · cases hg
  · rename_i xs k
    split at hg
    · rename_i hl
      cases hg
      have h1 := Nat.le_of_ble_eq_true hl.1
      have h2 := Nat.le_of_ble_eq_true hl.2
      cases ry
      cases rx with
      | tup g1 g2 =>
        rename_i a vs
        refine .inr (.inr ⟨a, _, vs, rfl, rfl, g1, by omega, by omega, ?_⟩)
        by_cases h0 : vs = [] ∨ k = 1
        · refine .inl ⟨h0, q _ _ _ .refl R (.tup g1 ?_)⟩
          rcases h0 with e | e
          · subst e
            cases g2
            rw [show (List.replicate k.toNat ([] : List PyData)).flatten = [] from by simp]
            exact .nil
          · subst e
            rw [show (List.replicate (1 : Int).toNat xs).flatten = xs from by simp]
            exact g2
        · have hne : vs ≠ [] := fun e => h0 (.inl e)
          have hk1 : k ≠ 1 := fun e => h0 (.inr e)
          by_cases hk : k ≤ 0
          · refine .inr (.inl ⟨hne, hk, ?_⟩)
            have e0 : k.toNat = 0 := by omega
            rw [e0] at q
            exact post_tup R .nil q
          · exact .inr (.inr ⟨hne, by omega, by omega, by rw [g2.length]; omega, post_tup R (g2.repl _) q⟩)
    · cases hg
  · cases hg
theorem ops_fdiv : OpS X (binaryOp .FloorDiv) fdivD := by
  refine .of op_fdivW fun W H μ x y dx dy z Q R rx ry hg q => ?_
  unfold fdivD at hg
  split at hg
  · split at hg
    · rename_i hl
      cases hg; cases rx; cases ry
      exact ⟨_, _, rfl, rfl, hl, q _ _ _ .refl R (.int _)⟩
    · cases hg
  · cases hg
theorem ops_mod : OpS X (binaryOp .Mod) modD := by
  refine .of op_mod fun W H μ x y dx dy z Q R rx ry hg q => ?_
  unfold modD at hg
  split at hg
  · split at hg
    · rename_i hl
      cases hg; cases rx; cases ry
      exact ⟨_, _, rfl, rfl, hl, q _ _ _ .refl R (.int _)⟩
    · cases hg
  · cases hg
theorem strs_inv {a b : PyData} {r : Bool} (h : strsB a b = some r) : ∃ x y, a = .str x ∧ b = .str y ∧ r = decide (x = y) := by
  unfold strsB at h
  split at h
  · cases h; exact ⟨_, _, rfl, rfl, rfl⟩
  · cases h
theorem dec_str {x y : Str} : decide (V.str x = V.str y) = decide (x = y) := by
  rw [Bool.eq_iff_iff]; simp
theorem ops_eq (hu : X.A.units + 64 < cLine) : OpS X (compareOp .Eq) eqD := by
  refine .of (op_eq.or (op_eqD hu)) fun W H μ x y dx dy z Q R rx ry hg q => ?_
  unfold eqD eqB at hg
  split at hg
  · rename_i r hr
    cases hg
    obtain ⟨s, t, rfl, rfl, rfl⟩ := strs_inv hr
    cases rx; cases ry
    exact .inl ⟨rfl, q _ _ _ .refl R (by rw [dec_str]; exact .bl _)⟩
  · split at hg
    · rename_i h
      rw [Bool.and_eq_true] at h
      cases hg
      exact .inr ⟨dx, dy, rx.dp, ry.dp, plain_shaped h.1, plain_shaped h.2, q _ _ _ .refl R (.bl _)⟩
    · cases hg
theorem ops_ne (hu : X.A.units + 64 < cLine) : OpS X (compareOp .NotEq) neD := by
  refine .of (op_ne.or (op_neD hu)) fun W H μ x y dx dy z Q R rx ry hg q => ?_
  unfold neD eqB at hg
  split at hg
  · rename_i r hr
    cases hg
    obtain ⟨s, t, rfl, rfl, rfl⟩ := strs_inv hr
    cases rx; cases ry
    exact .inl ⟨rfl, q _ _ _ .refl R (by rw [dec_str]; exact .bl _)⟩
  · split at hg
    · rename_i h
      rw [Bool.and_eq_true] at h
      cases hg
      exact .inr ⟨dx, dy, rx.dp, ry.dp, plain_shaped h.1, plain_shaped h.2, q _ _ _ .refl R (.bl _)⟩
    · cases hg
theorem cmpI_inv {p : Int → Int → Bool} {r : PyData → PyData → Bool} {x y z : PyData} (h : cmpI p r x y = some z) : (∃ i j, x = .int i ∧ y = .int j ∧ z = .bool (p i j)) ∨ (ordB x y = true ∧ z = .bool (r x y)) := by
  unfold cmpI at h
  split at h
  · cases h; exact .inl ⟨_, _, rfl, rfl, rfl⟩
  · split at h
    · rename_i ho; cases h; exact .inr ⟨ho, rfl⟩
    · cases h
theorem isNone_ne {x : PyData} (h : (!isNoneB x) = true) : x ≠ .none := by
  intro e; subst e; cases h
theorem ord_ok {x y : PyData} (h : ordB x y = true) : PySem.W.alike x y = true ∧ x ≠ .none ∧ PyData.depth x ≤ 60 := by
  unfold ordB at h
  rw [Bool.and_eq_true, Bool.and_eq_true, Bool.and_eq_true] at h
  exact ⟨h.1.1.1, isNone_ne h.1.1.2, (plain_ok _ _ h.1.2).2⟩
/-- two data in order -/
def rOrd (K : PySem.W.Frag) (r : PyData → PyData → Bool) : R2 := fun x y H Q => ∃ d e, Dp K H x d ∧ Dp K H y e ∧ ordB d e = true ∧ Q (.bl (r d e)) H
theorem op_ord {op : CmpOp} {r : PyData → PyData → Bool} (hu : X.A.units + 65 < cLine)
    (h : ∀ {s : Shared} {a b : Value} {da db : PyData} {as bs : List Addr} {Q : Value → Shared → Prop}, Reads s.heap a da as → Reads s.heap b db bs → PySem.W.alike da db = true → da ≠ .none → X.A.units + min da.depth db.depth < cLine → Q (.bool (r da db)) s → wpAny (model X.prog X.w) X.A (compareOp op a b) Q X.xe s) :
    OpR X (compareOp op) (rOrd X.K r) := by
  intro pins s σ H x y v u Q I rx ry q
  obtain ⟨d, e, hd, he, o, q⟩ := q
  obtain ⟨as, r1⟩ := Dp.reads I d x v hd rx
  obtain ⟨bs, r2⟩ := Dp.reads I e y u he ry
  obtain ⟨o1, o2, o3⟩ := ord_ok o
  exact h r1 r2 o1 o2 (by have := Nat.min_le_left d.depth e.depth; omega) ⟨.bl _, H, I, rfl, q⟩
theorem ops_cmp {op : CmpOp} {p : Int → Int → Bool} {r : PyData → PyData → Bool} (h1 : OpR X (compareOp op) (rI0 fun i j => .bl (p i j))) (h2 : OpR X (compareOp op) (rOrd X.K r)) : OpS X (compareOp op) (cmpI p r) := by
  refine .of (h1.or h2) fun W H μ x y dx dy z Q R rx ry q0 q => ?_
  rcases cmpI_inv q0 with ⟨i, j, rfl, rfl, rfl⟩ | ⟨ho, rfl⟩
  · cases rx; cases ry
    exact .inl ⟨i, j, rfl, rfl, q _ _ _ .refl R (.bl _)⟩
  · exact .inr ⟨dx, dy, rx.dp, ry.dp, ho, q _ _ _ .refl R (.bl _)⟩
theorem ops_lt (hu : X.A.units + 65 < cLine) : OpS X (compareOp .Lt) ltD := ops_cmp op_lt (op_ord hu PySem.W.lt_data)
theorem ops_le (hu : X.A.units + 65 < cLine) : OpS X (compareOp .LtE) leD := ops_cmp op_le (op_ord hu PySem.W.le_data)
theorem ops_gt (hu : X.A.units + 65 < cLine) : OpS X (compareOp .Gt) gtD := ops_cmp op_gt (op_ord hu PySem.W.gt_data)
theorem ops_ge (hu : X.A.units + 65 < cLine) : OpS X (compareOp .GtE) geD := ops_cmp op_ge (op_ord hu PySem.W.ge_data)
theorem flat_v {K : PySem.W.Frag} {F : Addr → Prop} {H : Hp} {v : V} : ∀ {x : PyData}, RP K F H v x → flatD x = true → flatV v = true
  | .none, .non, _ => rfl
  | .bool _, .bl _, _ => rfl
  | .int _, .int _, _ => rfl
  | .str _, .str _, _ => rfl
theorem flat_rt {K : PySem.W.Frag} {F : Addr → Prop} {H : Hp} {v : V} : ∀ {x : PyData}, RT K F H v x → flatD x = true → RP K F H v x
  | .none, h, _ => h
  | .bool _, h, _ => h
  | .int _, h, _ => h
  | .str _, h, _ => h
theorem flat_all {K : PySem.W.Frag} {F : Addr → Prop} {H : Hp} : ∀ {vs : List V} {xs : List PyData}, RPs K F H vs xs → xs.all flatD = true → vs.all flatV = true
  | _, _, .nil, _ => rfl
  | _, _, .cons a t, h => by
    rw [List.all_cons, Bool.and_eq_true] at h
    rw [List.all_cons, flat_v a h.1, flat_all t h.2]
    rfl
theorem flat_eq {K : PySem.W.Frag} {F : Addr → Prop} {H : Hp} {v w : V} {x y : PyData} (hx : RP K F H v x) (hy : RP K F H w y) (fx : flatD x = true) (fy : flatD y = true) : eqV v w = PyData.eqv x y := by
  cases hx <;> first | (simp [flatD] at fx; done) | (cases hy <;> first | (simp [flatD] at fy; done) | rfl | (simp [eqV, PyData.eqv]))
theorem flat_any {K : PySem.W.Frag} {F : Addr → Prop} {H : Hp} {v : V} {x : PyData} (hx : RP K F H v x) (fx : flatD x = true) : ∀ {vs : List V} {xs : List PyData}, RPs K F H vs xs → xs.all flatD = true → inV v vs = xs.any fun z => PyData.eqv z x
  | _, _, .nil, _ => rfl
  | _, _, .cons a t, h => by
    rw [List.all_cons, Bool.and_eq_true] at h
    have := flat_any hx fx t h.2
    unfold inV at this ⊢
    rw [List.any_cons, List.any_cons, this, flat_eq a hx h.1 fx]
theorem in_core {W : Wd} {H : Hp} {μ : Sto} {x y : V} {dx dy : PyData} {b : Bool} {Q : Bool → Prop} (R : Rel X.K W H μ) (rx : RT X.K W.F H x dx) (ry : RT X.K W.F H y dy) (hg : inB dx dy = some b) (q : Q b) :
    (∃ p xs, y = .ref p ∧ (SqL X.K H p xs ∨ SqT X.K H p xs) ∧ flatV x = true ∧ xs.all flatV = true ∧ Q (inV x xs)) ∨
    (∃ d ds, Dp X.K H x d ∧ (Dp X.K H y (.list ds) ∧ SeqAt.shaped (.list ds) = true ∨ Dp X.K H y (.tuple ds) ∧ SeqAt.shaped (.tuple ds) = true) ∧ SeqAt.shaped d = true ∧ Q (ds.any fun z => PyData.eqv z d)) := by
  unfold inB at hg
  split at hg
  · split at hg
    · rename_i h
      rw [Bool.and_eq_true] at h
      cases hg
      exact .inr ⟨dx, _, rx.dp, .inl ⟨ry.dp, plain_shaped h.2⟩, plain_shaped h.1, q⟩
    · cases hg
  · split at hg
    · rename_i h
      rw [Bool.and_eq_true] at h
      cases hg
      have px := flat_rt rx h.1
      cases ry with
      | tup h1 h2 => exact .inl ⟨_, _, rfl, .inr h1, flat_v px h.1, flat_all h2 h.2, by rw [flat_any px h.1 h2 h.2]; exact q⟩
    · split at hg
      · rename_i h
        rw [Bool.and_eq_true] at h
        cases hg
        exact .inr ⟨dx, _, rx.dp, .inr ⟨ry.dp, plain_shaped h.2⟩, plain_shaped h.1, q⟩
      · cases hg
  · cases hg
/-- among the items of a list or a tuple of data -/
def rInT (K : PySem.W.Frag) (n : Bool) : R2 := fun x y H Q => ∃ d ds, Dp K H x d ∧ (Dp K H y (.list ds) ∧ SeqAt.shaped (.list ds) = true ∨ Dp K H y (.tuple ds) ∧ SeqAt.shaped (.tuple ds) = true) ∧ SeqAt.shaped d = true ∧ Q (.bl ((ds.any fun z => PyData.eqv z d) != n)) H
theorem op_inT (hu : X.A.units + 65 < cLine) : OpR X (compareOp .In) (rInT X.K false) := by
  intro pins s σ H x y v u Q I rx ry h
  obtain ⟨d, ds, hd, he, sd, q⟩ := h
  rw [Bool.bne_false] at q
  obtain ⟨as, r1⟩ := Dp.reads I d x v hd rx
  rcases he with ⟨he, se⟩ | ⟨he, se⟩
  · obtain ⟨bs, r2⟩ := Dp.reads I (.list ds) y u he ry
    exact SeqAt.in_list_reads r2 r1 (SeqAt.canLay_of_shaped se) (SeqAt.canLay_of_shaped sd) (PyProof.Rows.room_in_shaped sd hu) ⟨.bl _, H, I, rfl, q⟩
  · obtain ⟨bs, r2⟩ := Dp.reads I (.tuple ds) y u he ry
    exact SeqAt.in_tuple_reads r2 r1 (SeqAt.canLay_of_shaped se) (SeqAt.canLay_of_shaped sd) (PyProof.Rows.room_in_shaped sd hu) ⟨.bl _, H, I, rfl, q⟩
theorem op_notInT (hu : X.A.units + 65 < cLine) : OpR X (compareOp .NotIn) (rInT X.K true) := by
  intro pins s σ H x y v u Q I rx ry h
  obtain ⟨d, ds, hd, he, sd, q⟩ := h
  rw [Bool.bne_true] at q
  obtain ⟨as, r1⟩ := Dp.reads I d x v hd rx
  rcases he with ⟨he, se⟩ | ⟨he, se⟩
  · obtain ⟨bs, r2⟩ := Dp.reads I (.list ds) y u he ry
    exact SeqAt.notIn_list_reads r2 r1 (SeqAt.canLay_of_shaped se) (SeqAt.canLay_of_shaped sd) (PyProof.Rows.room_in_shaped sd hu) ⟨.bl _, H, I, rfl, q⟩
  · obtain ⟨bs, r2⟩ := Dp.reads I (.tuple ds) y u he ry
    exact SeqAt.notIn_tuple_reads r2 r1 (SeqAt.canLay_of_shaped se) (SeqAt.canLay_of_shaped sd) (PyProof.Rows.room_in_shaped sd hu) ⟨.bl _, H, I, rfl, q⟩
theorem ops_in (hu : X.A.units + 65 < cLine) : OpS X (compareOp .In) inD := by
  refine .of (op_in_seq.or (op_inT hu)) fun W H μ x y dx dy z Q R rx ry hg q => ?_
  unfold inD at hg
  cases hb : inB dx dy with
  | none => rw [hb] at hg; cases hg
  | some b =>
    rw [hb] at hg; cases hg
    rcases in_core (Q := fun b => Q (.bl b) H) R rx ry hb (q _ _ _ .refl R (.bl b)) with h | ⟨d, ds, h1, h2, h3, h4⟩
    · exact .inl h
    · exact .inr ⟨d, ds, h1, h2, h3, by rw [Bool.bne_false]; exact h4⟩
theorem ops_notIn (hu : X.A.units + 65 < cLine) : OpS X (compareOp .NotIn) notInD := by
  refine .of (op_notIn_seq.or (op_notInT hu)) fun W H μ x y dx dy z Q R rx ry hg q => ?_
  unfold notInD at hg
  cases hb : inB dx dy with
  | none => rw [hb] at hg; cases hg
  | some b =>
    rw [hb] at hg; cases hg
    rcases in_core (Q := fun b => Q (.bl (!b)) H) R rx ry hb (q _ _ _ .refl R (.bl (!b))) with h | ⟨d, ds, h1, h2, h3, h4⟩
    · exact .inl h
    · exact .inr ⟨d, ds, h1, h2, h3, by rw [Bool.bne_true]; exact h4⟩
theorem isNone_v {K : PySem.W.Frag} {F : Addr → Prop} {H : Hp} {v : V} : ∀ {x : PyData}, RT K F H v x → decide (v = V.non) = isNoneB x
  | .none, h => by cases h; rfl
  | .bool _, h => by cases h; rfl
  | .int _, h => by cases h; rfl
  | .str _, h => by cases h; rfl
  | .list _, ⟨_, _, e, _⟩ => by rw [e]; rfl
  | .tuple _, h => by cases h; rfl
  | .dict _, h => nomatch h
theorem ops_is : OpS X (compareOp .Is) isD := by
  refine .of op_isN fun W H μ x y dx dy z Q R rx ry hg q => ?_
  unfold isD at hg
  split at hg
  · cases hg; cases ry
    exact ⟨rfl, q _ _ _ .refl R (by rw [isNone_v rx]; exact .bl _)⟩
  · cases hg
theorem ops_isNot : OpS X (compareOp .IsNot) isNotD := by
  refine .of op_notN fun W H μ x y dx dy z Q R rx ry hg q => ?_
  unfold isNotD at hg
  split at hg
  · cases hg; cases ry
    exact ⟨rfl, q _ _ _ .refl R (by rw [isNone_v rx]; exact .bl _)⟩
  · cases hg
end
end Gg

end
section
/-! GExp2: truth, and, or, not, conditional expressions, items, slices, built-in functions. -/
namespace Gg
open PySem L2

section
variable {K : PySem.W.Frag} {F : Addr → Prop} {H : Hp}
theorem rps_empty {vs : List V} {xs : List PyData} (h : RPs K F H vs xs) : vs.isEmpty = xs.isEmpty := by cases h <;> rfl
theorem rls_empty {W : Wd} {vs : List V} {xs : List LV} (h : RLs K W H vs xs) : vs.isEmpty = xs.isEmpty := by cases h <;> rfl
theorem truth_ok {v : V} {b : Bool} : ∀ {x : PyData}, RT K F H v x → truthD x = some b → TruV K v H b
  | .none, h, q => by cases h; cases q; rfl
  | .bool _, h, q => by cases h; cases q; rfl
  | .int _, h, q => by cases h; cases q; rfl
  | .str s, h, q => by
    cases h
    simp only [truthD] at q
    split at q
    · rename_i hl; cases q; exact ⟨line_le' hl, rfl⟩
    · cases q
  | .list _, ⟨a, vs, e, h1, h2⟩, q => by
    subst e; cases q
    exact .inl ⟨vs, .of h1, by rw [rps_empty h2]⟩
  | .tuple _, h, q => by
    cases q
    cases h with
    | tup h1 h2 => exact .inr (.inl ⟨_, h1, by rw [rps_empty h2]⟩)
  | .dict _, h, q => nomatch h
end
section
variable {X : Cx} {a b c : Expr} {fa fb fc : EM} {pos p : Pos} {rest : List Expr}
theorem truthV {K : PySem.W.Frag} {W : Wd} {H : Hp} {μ : Sto} (R : Rel K W H μ) {v : V} {lv : LV} {b : Bool} (h : RL K W H v lv) (q : truth μ lv = some b) : TruV K v H b := by
  have plain : (rdD μ lv).bind truthD = some b → TruV K v H b := by
    intro q
    cases hx : rdD μ lv with
    | none => rw [hx] at q; cases q
    | some x => rw [hx] at q; exact truth_ok (rd_ok R h hx) q
  cases lv with
  | d x => exact plain q
  | ro xs => exact plain q
  | tr pre k => exact plain q
  | ref k =>
    simp only [truth] at q
    split at q
    · rename_i xs hx
      cases q
      obtain ⟨a, h2, rfl⟩ := h
      obtain ⟨vs, h3, h4⟩ := R.cell _ a _ h2 hx
      exact .inl ⟨vs, .of h3, by rw [rls_empty h4]⟩
    · cases q
/-- a test of any value -/
theorem st_plain (ha : SE X a fa) (he : ∀ whole, isTrue a X.env whole = (do let v ← whole; standAt a.pos; holding [v] (truthy v))) : ST X a fa := by
  refine (pt_truth ha he).imp fun σ H Q ⟨W, e, μ, r, μ', b, R, E, hf, ht, q⟩ => ?_
  exact ⟨W, e, μ, r, μ', R, E, hf, fun W' H' v E' R' rv => ⟨b, truthV R' rv ht, q W' H' E' R'⟩⟩
theorem se_and (ha : SE X a fa) (hb : SE X (.BoolOp .And (b :: rest) pos) fb) : SE X (.BoolOp .And (a :: b :: rest) pos) (eAnd fa fb) := by
  refine (pe_andT ha hb).imp fun σ H Q ⟨W, e, μ, r, μ', R, E, hf, q⟩ => ?_
  unfold eAnd at hf
  split at hf
  · rename_i v m1 h1
    refine ⟨W, e, μ, v, m1, R, E, h1, fun W1 H1 x E1 R1 rx => ?_⟩
    split at hf
    · rename_i ht
      exact ⟨true, truthV R1 rx ht, iteT ⟨W1, e, m1, r, μ', R1, E.mono E1 R, hf, fun W2 H2 y E2 R2 ry => q W2 H2 y (E1.trans E2) R2 ry⟩⟩
    · rename_i ht
      cases hf
      exact ⟨false, truthV R1 rx ht, iteF (q W1 H1 x E1 R1 rx)⟩
    · cases hf
  · cases hf
theorem se_or (ha : SE X a fa) (hb : SE X (.BoolOp .Or (b :: rest) pos) fb) : SE X (.BoolOp .Or (a :: b :: rest) pos) (eOr fa fb) := by
  refine (pe_orT ha hb).imp fun σ H Q ⟨W, e, μ, r, μ', R, E, hf, q⟩ => ?_
  unfold eOr at hf
  split at hf
  · rename_i v m1 h1
    refine ⟨W, e, μ, v, m1, R, E, h1, fun W1 H1 x E1 R1 rx => ?_⟩
    split at hf
    · rename_i ht
      cases hf
      exact ⟨true, truthV R1 rx ht, iteT (q W1 H1 x E1 R1 rx)⟩
    · rename_i ht
      exact ⟨false, truthV R1 rx ht, iteF ⟨W1, e, m1, r, μ', R1, E.mono E1 R, hf, fun W2 H2 y E2 R2 ry => q W2 H2 y (E1.trans E2) R2 ry⟩⟩
    · cases hf
  · cases hf
theorem se_one {op : BoolOp} (ha : SE X a fa) : SE X (.BoolOp op [a] pos) fa := pe_one ha
theorem se_not (ha : SE X a fa) : SE X (.UnaryOp .Not a pos) (eNot fa) := by
  refine (pe_notT ha).imp fun σ H Q ⟨W, e, μ, r, μ', R, E, hf, q⟩ => ?_
  unfold eNot at hf
  split at hf
  · rename_i v m1 h1
    cases ht : truth m1 v with
    | none => rw [ht] at hf; cases hf
    | some b =>
      rw [ht] at hf; cases hf
      exact ⟨W, e, μ, v, _, R, E, h1, fun W1 H1 x E1 R1 rx => ⟨b, truthV R1 rx ht, q W1 H1 _ E1 R1 (.bl _)⟩⟩
  · cases hf
/-! the same as tests -/
abbrev SW (X : Cx) (a : Expr) (f : EM) : Prop := PW X a (tT X.K f)
theorem sw_one_and (ha : ST X a fa) : SW X (.BoolOp .And [a] pos) fa := pw_and1 ha
theorem sw_one_or (ha : ST X a fa) : SW X (.BoolOp .Or [a] pos) fa := pw_or1 ha
theorem sw_and (ha : ST X a fa) (hb : SW X (.BoolOp .And (b :: rest) pos) fb) : SW X (.BoolOp .And (a :: b :: rest) pos) (eAnd fa fb) := by
  refine (pw_and ha hb).imp fun σ H Q ⟨W, e, μ, r, μ', bb, R, E, hf, hT, q⟩ => ?_
  unfold eAnd at hf
  split at hf
  · rename_i v m1 h1
    split at hf
    · rename_i ht
      exact ⟨W, e, μ, v, m1, true, R, E, h1, ht, fun W1 H1 E1 R1 => iteT ⟨W1, e, m1, r, μ', bb, R1, E.mono E1 R, hf, hT, fun W2 H2 E2 R2 => q W2 H2 (E1.trans E2) R2⟩⟩
    · rename_i ht
      cases hf
      rw [ht] at hT; cases hT
      exact ⟨W, e, μ, _, _, false, R, E, h1, ht, fun W1 H1 E1 R1 => iteF (q W1 H1 E1 R1)⟩
    · cases hf
  · cases hf
theorem sw_or (ha : ST X a fa) (hb : SW X (.BoolOp .Or (b :: rest) pos) fb) : SW X (.BoolOp .Or (a :: b :: rest) pos) (eOr fa fb) := by
  refine (pw_or ha hb).imp fun σ H Q ⟨W, e, μ, r, μ', bb, R, E, hf, hT, q⟩ => ?_
  unfold eOr at hf
  split at hf
  · rename_i v m1 h1
    split at hf
    · rename_i ht
      cases hf
      rw [ht] at hT; cases hT
      exact ⟨W, e, μ, _, _, true, R, E, h1, ht, fun W1 H1 E1 R1 => iteT (q W1 H1 E1 R1)⟩
    · rename_i ht
      exact ⟨W, e, μ, v, m1, false, R, E, h1, ht, fun W1 H1 E1 R1 => iteF ⟨W1, e, m1, r, μ', bb, R1, E.mono E1 R, hf, hT, fun W2 H2 E2 R2 => q W2 H2 (E1.trans E2) R2⟩⟩
    · cases hf
  · cases hf
theorem st_not (ha : ST X a fa) : ST X (.UnaryOp .Not a pos) (eNot fa) := by
  refine (pt_not ha).imp fun σ H Q ⟨W, e, μ, r, μ', bb, R, E, hf, hT, q⟩ => ?_
  unfold eNot at hf
  split at hf
  · rename_i v m1 h1
    cases ht : truth m1 v with
    | none => rw [ht] at hf; cases hf
    | some b =>
      rw [ht] at hf; cases hf
      have : (!b) = bb := Option.some.inj hT
      subst this
      exact ⟨W, e, μ, v, _, b, R, E, h1, ht, fun W1 H1 E1 R1 => q W1 H1 E1 R1⟩
  · cases hf
theorem se_ite (hc : ST X c fc) (ha : SE X a fa) (hb : SE X b fb) : SE X (.IfExp c a b pos) (eIte fc fa fb) := by
  refine (pe_ifExp hc ha hb).imp fun σ H Q ⟨W, e, μ, r, μ', R, E, hf, q⟩ => ?_
  unfold eIte at hf
  split at hf
  · rename_i v m1 h1
    split at hf
    · rename_i ht
      exact ⟨W, e, μ, v, m1, true, R, E, h1, ht, fun W1 H1 E1 R1 => iteT ⟨W1, e, m1, r, μ', R1, E.mono E1 R, hf, fun W2 H2 y E2 R2 ry => q W2 H2 y (E1.trans E2) R2 ry⟩⟩
    · rename_i ht
      exact ⟨W, e, μ, v, m1, false, R, E, h1, ht, fun W1 H1 E1 R1 => iteF ⟨W1, e, m1, r, μ', R1, E.mono E1 R, hf, fun W2 H2 y E2 R2 ry => q W2 H2 y (E1.trans E2) R2 ry⟩⟩
    · cases hf
  · cases hf
/-! ### a < b < c -/
theorem chain_core {r r' : R2} {g h : B2} {σ : List (Option V)} {H : Hp} {Q : VK}
    (hs : ∀ (W : Wd) (H : Hp) (μ : Sto) (x y : V) (dx dy z : PyData) (Q : VK), Rel X.K W H μ → RT X.K W.F H x dx → RT X.K W.F H y dy → g dx dy = some z → Post X.K W H μ μ (.d z) Q → r x y H Q)
    (hs' : ∀ (W : Wd) (H : Hp) (μ : Sto) (x y : V) (dx dy z : PyData) (Q : VK), Rel X.K W H μ → RT X.K W.F H x dx → RT X.K W.F H y dy → h dx dy = some z → Post X.K W H μ μ (.d z) Q → r' x y H Q)
    (w : tE X.K (eChain g h fa fb fc) σ H Q) : tChain r r' (tE X.K fa) (tE X.K fb) (tE X.K fc) σ H Q := by
  obtain ⟨W, e, μ, r0, μ', R, E, hf, q⟩ := w
  unfold eChain at hf
  split at hf
  · rename_i a m1 h1
    split at hf
    · rename_i b m2 h2
      split at hf
      · rename_i x y hx hy
        refine ⟨W, e, μ, a, m1, R, E, h1, fun W1 H1 u E1 R1 ru => ⟨W1, e, m1, b, m2, R1, E.mono E1 R, h2, fun W2 H2 w E2 R2 rw' => ?_⟩⟩
        have tx := rd_ok R2 (ru.mono E2 R1) hx
        have ty := rd_ok R2 rw' hy
        split at hf
        · rename_i hz
          refine hs W2 H2 m2 u w x y _ _ R2 tx ty hz fun W3 H3 v E3 R3 rv => ⟨true, by cases rv; rfl, iteT ?_⟩
          split at hf
          · rename_i c m3 h3
            split at hf
            · rename_i y' z' hy' hz'
              cases hw : h y' z' with
              | none => rw [hw] at hf; cases hf
              | some t =>
                rw [hw] at hf; cases hf
                refine ⟨W3, e, m2, c, _, R3, (E.mono E1 R).mono (E2.trans E3) R1, h3, fun W4 H4 k E4 R4 rk => ?_⟩
                exact hs' W4 H4 _ w k y' z' t Q R4 (rd_ok R4 (rw'.mono (E3.trans E4) R2) hy') (rd_ok R4 rk hz') hw fun W5 H5 v5 E5 R5 r5 => q W5 H5 v5 (((E1.trans E2).trans (E3.trans E4)).trans E5) R5 r5
            · cases hf
          · cases hf
        · rename_i hz
          cases hf
          refine hs W2 H2 _ u w x y _ _ R2 tx ty hz fun W3 H3 v E3 R3 rv => ⟨false, by cases rv; rfl, iteF ?_⟩
          exact q W3 H3 _ ((E1.trans E2).trans E3) R3 (.bl _)
        · cases hf
      · cases hf
    · cases hf
  · cases hf
theorem chain_bool {g h : B2} (hB : ∀ x y z, h x y = some z → ∃ b, z = .bool b) {e : Env} {μ μ' : Sto} {r : LV} (hf : eChain g h fa fb fc e μ = some (r, μ')) : ∃ k, r = .d (.bool k) := by
  unfold eChain at hf
  split at hf
  · split at hf
    · split at hf
      · split at hf
        · split at hf
          · split at hf
            · rename_i y' z' _ _
              cases hw : h y' z' with
              | none => rw [hw] at hf; cases hf
              | some t => rw [hw] at hf; cases hf; obtain ⟨k, hk⟩ := hB _ _ _ hw; exact ⟨k, by rw [hk]⟩
            · cases hf
          · cases hf
        · cases hf; exact ⟨_, rfl⟩
        · cases hf
      · cases hf
    · cases hf
  · cases hf
theorem marks2 {op op' : CmpOp} (h : behindInMarks op' c = false) : lastMarks [op, op'] [b, c] = false := h
theorem se_chain {op op' : CmpOp} {g h : B2} (ho : OpS X (compareOp op) g) (ho' : OpS X (compareOp op') h) (hm : behindInMarks op' c = false) (ha : SE X a fa) (hb : SE X b fb) (hc : SE X c fc) : SE X (.Compare a [op, op'] [b, c] pos) (eChain g h fa fb fc) := by
  obtain ⟨r, hr, hs⟩ := ho
  obtain ⟨r', hr', hs'⟩ := ho'
  exact (pe_chain hr hr' ha hb hc (marks2 hm)).imp fun σ H Q w => chain_core hs hs' w
theorem st_chain {op op' : CmpOp} {g h : B2} (ho : OpS X (compareOp op) g) (ho' : OpS X (compareOp op') h) (hB : ∀ x y z, h x y = some z → ∃ b, z = .bool b) (hm : behindInMarks op' c = false) (ha : SE X a fa) (hb : SE X b fb) (hc : SE X c fc) : ST X (.Compare a [op, op'] [b, c] pos) (eChain g h fa fb fc) := by
  obtain ⟨r, hr, hs⟩ := ho
  obtain ⟨r', hr', hs'⟩ := ho'
  refine (pt_chain hr hr' ha hb hc (marks2 hm)).imp fun σ H Q ⟨W, e, μ, r0, μ', bb, R, E, hf, hT, q⟩ => chain_core hs hs' ⟨W, e, μ, r0, μ', R, E, hf, fun W' H' v E' R' rv => ?_⟩
  obtain ⟨k, rfl⟩ := chain_bool hB hf
  have : k = bb := Option.some.inj hT
  subst this
  cases rv
  exact ⟨k, rfl, q W' H' E' R'⟩
/-! ### a number's sign -/
theorem se_neg (ha : SE X a fa) : SE X (.UnaryOp .USub a pos) (eUn negD fa) := by
  refine (pe_un un_neg ha).imp fun σ H Q ⟨W, e, μ, r, μ', R, E, hf, q⟩ => ?_
  unfold eUn at hf
  split at hf
  · rename_i v m1 h1
    split at hf
    · rename_i x hx
      cases hz : negD x with
      | none => rw [hz] at hf; cases hf
      | some z =>
        rw [hz] at hf; cases hf
        refine ⟨W, e, μ, v, _, R, E, h1, fun W1 H1 u E1 R1 ru => ?_⟩
        have t := rd_ok R1 ru hx
        cases x with
        | int i =>
          cases hz; cases t
          exact ⟨i, rfl, q _ _ _ E1 R1 (.int _)⟩
        | none => cases hz
        | bool _ => cases hz
        | str _ => cases hz
        | list _ => cases hz
        | tuple _ => cases hz
        | dict _ => cases hz
    · cases hf
  · cases hf
/-! ### dicts -/
theorem key_v {K : PySem.W.Frag} {F : Addr → Prop} {H : Hp} {v : V} {k : Key} : ∀ {x : PyData}, RP K F H v x → keyD x = some k → v = kV k
  | .int _, h, q => by cases h; cases q; rfl
  | .str _, h, q => by cases h; cases q; rfl
  | .none, _, q => by cases q
  | .bool _, _, q => by cases q
  | .list _, _, q => by cases q
  | .tuple _, _, q => by cases q
  | .dict _, _, q => by cases q
section
variable {K : PySem.W.Frag} {W : Wd} {H : Hp} {vs : List (Key × V)} {xs : List (Key × LV)}
theorem lookK_nil {α : Type} {k : Key} : lookK ([] : List (Key × α)) k = none := rfl
theorem lookK_pos {α : Type} {p : Key × α} {r : List (Key × α)} {k : Key} (e : p.1 = k) : lookK (p :: r) k = some p.2 := by simp [lookK, List.find?_cons, e]
theorem lookK_neg {α : Type} {p : Key × α} {r : List (Key × α)} {k : Key} (e : ¬ p.1 = k) : lookK (p :: r) k = lookK r k := by simp [lookK, List.find?_cons, e]
theorem RKs.length (h : RKs K W H vs xs) : vs.length = xs.length := by
  induction h with
  | nil => rfl
  | cons _ _ ih => rw [List.length_cons, List.length_cons, ih]
theorem RKs.val (h : RKs K W H vs xs) (k : Key) : (valV vs k = none ∧ lookK xs k = none) ∨ ∃ v x, valV vs k = some v ∧ lookK xs k = some x ∧ RL K W H v x := by
  induction h with
  | nil => exact .inl ⟨rfl, rfl⟩
  | @cons j v vs x xs a _ ih =>
    by_cases e : j = k
    · exact .inr ⟨v, x, valV_pos e, lookK_pos e, a⟩
    · rw [valV_neg e, lookK_neg e]; exact ih
theorem RKs.some (h : RKs K W H vs xs) (k : Key) : (valV vs k).isSome = (lookK xs k).isSome := by
  rcases h.val k with ⟨a, b⟩ | ⟨v, x, a, b, _⟩ <;> rw [a, b] <;> rfl
theorem RKs.any (h : RKs K W H vs xs) (k : Key) : (vs.any fun kv => decide (kv.1 = k)) = xs.any fun kv => decide (kv.1 = k) := by
  induction h with
  | nil => rfl
  | cons _ _ ih => rw [List.any_cons, List.any_cons, ih]
theorem RKs.repl (h : RKs K W H vs xs) (k : Key) {v : V} {x : LV} (r : RL K W H v x) : RKs K W H (vs.map fun kv => if kv.1 = k then (kv.1, v) else kv) (xs.map fun kv => if kv.1 = k then (kv.1, x) else kv) := by
  induction h with
  | nil => exact .nil
  | @cons j v' vs x' xs a _ ih =>
    rw [List.map_cons, List.map_cons]
    by_cases e : j = k
    · rw [if_pos e, if_pos e]; exact .cons r ih
    · rw [if_neg e, if_neg e]; exact .cons a ih
theorem RKs.snoc (h : RKs K W H vs xs) (k : Key) {v : V} {x : LV} (r : RL K W H v x) : RKs K W H (vs ++ [(k, v)]) (xs ++ [(k, x)]) := by
  induction h with
  | nil => exact .cons r .nil
  | cons a _ ih => exact .cons a ih
theorem RKs.put (h : RKs K W H vs xs) (k : Key) {v : V} {x : LV} (r : RL K W H v x) : RKs K W H (putK vs k v) (storK xs k x) := by
  unfold putK storK
  rw [h.any k]
  split
  · exact h.repl k r
  · exact h.snoc k r
theorem RKs.fill {more : List (Key × LV)} {mvs : List (Key × V)} (r : RKs K W H mvs more) : ∀ {vs : List (Key × V)} {xs : List (Key × LV)}, RKs K W H vs xs → RKs K W H (mergeK vs mvs) (fillK xs more) := by
  induction r with
  | nil => intro vs xs h; exact h
  | cons a _ ih => intro vs xs h; exact ih (h.put _ a)
end
theorem ix_dct (hu : X.A.units + 1 < cLine) : IxR X (fun x y H Q => ∃ a v, x = .ref a ∧ DGet H a y (some v) ∧ Q v H) := by
  intro value slice pins s σ H x y v u Q I rx ry h hs
  obtain ⟨a, z, rfl, g, q⟩ := h
  cases rx
  exact PyProof.Rows.tail_any (dict_typeIs I g) PySem.slot_dict_getitem.lookup (d_getItem hu I g ry fun w' s' I' rw' => ⟨z, H, I', rw', q⟩) hs
/-! ### items -/
def notSl : Expr → Bool
  | .Slice _ _ _ _ => false
  | _ => true
theorem plainIx_of (h : notSl b = true) : PlainIx b := by
  cases b <;> first | (exact fun _ _ => rfl) | cases h
theorem ixPos_eq (n : Nat) (i : Int) : ixPos n i = ixN n i := rfl
theorem se_ix (hu : X.A.units + 1 < cLine) (hn : notSl b = true) (ha : SE X a fa) (hb : SE X b fb) : SE X (.Subscript a b pos) (eIx fa fb) := by
  refine (pe_ix (ix_list.or (ix_tup.or (ix_dct hu))) ha hb (plainIx_of hn)).imp fun σ H Q ⟨W, e, μ, r, μ', R, E, hf, q⟩ => ?_
  unfold eIx at hf
  split at hf
  · rename_i u m1 h1
    split at hf
    · rename_i w m2 h2
      cases hz : ixV m2 u w with
      | none => rw [hz] at hf; cases hf
      | some z =>
        rw [hz] at hf; cases hf
        refine ⟨W, e, μ, u, m1, R, E, h1, fun W1 H1 x E1 R1 rx => ⟨W1, e, m1, w, _, R1, E.mono E1 R, h2, fun W2 H2 y E2 R2 ry => ?_⟩⟩
        have rx2 := rx.mono E2 R1
        have fin : ∀ {v : V}, RL X.K W2 H2 v r → Q v H2 := fun rv => q _ _ _ (E1.trans E2) R2 rv
        unfold ixV at hz
        split at hz
        · rename_i k j
          split at hz
          · rename_i xs hx
            cases hp : ixPos xs.length j with
            | none => rw [hp] at hz; cases hz
            | some p =>
              rw [hp] at hz
              have hz : xs[p]? = some r := hz
              obtain ⟨ad, hk, rfl⟩ := rx2
              obtain ⟨vs, hv, hl⟩ := R2.cell k ad xs hk hx
              obtain ⟨v, hv1, hv2⟩ := hl.get hz
              cases ry
              refine .inl ⟨ad, vs, j, v, rfl, rfl, .of hv, ?_, fin hv2⟩
              unfold atI
              rw [hl.length, ← ixPos_eq, hp]
              exact hv1
          · rename_i xs hx
            obtain ⟨ad, hk, rfl⟩ := rx2
            obtain ⟨vs, hv, hl⟩ := R2.dcell k ad xs hk hx
            cases ry
            rcases hl.val (.inl j) with ⟨_, e⟩ | ⟨v, x, h1, h2, h3⟩
            · rw [e] at hz; cases hz
            · rw [h2] at hz; cases hz
              exact .inr (.inr ⟨ad, v, rfl, by rw [← h1]; exact DGet.k (k := .inl j) hv, fin h3⟩)
          · cases hz
        · rename_i k j
          split at hz
          · rename_i xs hx
            obtain ⟨ad, hk, rfl⟩ := rx2
            obtain ⟨vs, hv, hl⟩ := R2.dcell k ad xs hk hx
            cases ry
            rcases hl.val (.inr j) with ⟨_, e⟩ | ⟨v, x, h1, h2, h3⟩
            · rw [e] at hz; cases hz
            · rw [h2] at hz; cases hz
              exact .inr (.inr ⟨ad, v, rfl, by rw [← h1]; exact DGet.k (k := .inr j) hv, fin h3⟩)
          · cases hz
        · rename_i dx dy
          cases hq : ixD dx dy with
          | none => rw [hq] at hz; cases hz
          | some z' =>
            rw [hq] at hz; cases hz
            unfold ixD at hq
            split at hq
            · rename_i xs i
              cases hp : ixPos xs.length i with
              | none => rw [hp] at hq; cases hq
              | some p =>
                rw [hp] at hq
                cases rx2 with
                | lst g1 g2 g3 =>
                  obtain ⟨v, hv1, hv2⟩ := g3.get hq
                  cases ry
                  refine .inl ⟨_, _, i, v, rfl, rfl, .of g2, ?_, fin hv2⟩
                  unfold atI
                  rw [g3.length, ← ixPos_eq, hp]
                  exact hv1
            · rename_i xs i
              cases hp : ixPos xs.length i with
              | none => rw [hp] at hq; cases hq
              | some p =>
                rw [hp] at hq
                cases rx2 with
                | tup g2 g3 =>
                  obtain ⟨v, hv1, hv2⟩ := g3.get hq
                  cases ry
                  refine .inr (.inl ⟨_, _, i, v, rfl, rfl, g2, ?_, fin hv2⟩)
                  unfold atI
                  rw [g3.length, ← ixPos_eq, hp]
                  exact hv1
            · cases hq
        · rename_i pre k j
          cases hp : ixPos (pre.length + 1) j with
          | none => rw [hp] at hz; cases hz
          | some p =>
            rw [hp] at hz
            have hz : (pre.map LV.d ++ [.ref k])[p]? = some r := hz
            obtain ⟨ad, us, b, rfl, g2, g3, g4⟩ := rx2
            have all : RLs X.K W2 H2 (us ++ [.ref b]) (pre.map LV.d ++ [.ref k]) := g3.rls.append (.cons ⟨b, g4, rfl⟩ .nil)
            obtain ⟨v, hv1, hv2⟩ := all.get hz
            cases ry
            refine .inr (.inl ⟨_, _, j, v, rfl, rfl, g2, ?_, fin hv2⟩)
            unfold atI
            rw [all.length, List.length_append, List.length_map, List.length_singleton, ← ixPos_eq, hp]
            exact hv1
        · cases hz
    · cases hf
  · cases hf
/-! ### x is None -/
theorem isNone_l {K : PySem.W.Frag} {W : Wd} {H : Hp} {v : V} : ∀ {x : LV}, RL K W H v x → decide (v = V.non) = isNoneV x
  | .d .none, h => by cases h; rfl
  | .d (.bool _), h => by cases h; rfl
  | .d (.int _), h => by cases h; rfl
  | .d (.str _), h => by cases h; rfl
  | .d (.list _), h => by cases h; rfl
  | .d (.tuple _), h => by cases h; rfl
  | .d (.dict _), h => by cases h
  | .ref _, ⟨_, _, e⟩ => by rw [e]; rfl
  | .ro _, ⟨_, _, e, _⟩ => by rw [e]; rfl
  | .tr _ _, ⟨_, _, _, e, _⟩ => by rw [e]; rfl
theorem isN_core {neg : Bool} {r : R2} (hr : ∀ (x : V) (H : Hp) (Q : VK), Q (.bl (decide (x = .non) != neg)) H → r x .non H Q) {σ : List (Option V)} {H : Hp} {Q : VK} (h : tE X.K (eIsN neg fa) σ H Q) : tOp r (tE X.K fa) (tC .non) σ H Q := by
  obtain ⟨W, e, μ, r0, μ', R, E, hf, q⟩ := h
  unfold eIsN at hf
  split at hf
  · rename_i a m1 h1
    cases hf
    refine ⟨W, e, μ, a, _, R, E, h1, fun W1 H1 u E1 R1 ru => ?_⟩
    refine hr u H1 Q (q _ _ _ E1 R1 ?_)
    rw [isNone_l ru]
    exact .bl _
  · cases hf
theorem isN_bool {neg : Bool} {σ : List (Option V)} {H : Hp} {Q : Bool → Hp → Prop} (h : tT X.K (eIsN neg fa) σ H Q) : tE X.K (eIsN neg fa) σ H fun x H' => ∃ k, x = .bl k ∧ Q k H' := by
  obtain ⟨W, e, μ, r0, μ', b, R, E, hf, ht, q⟩ := h
  refine ⟨W, e, μ, r0, μ', R, E, hf, fun W' H' v E' R' rv => ?_⟩
  unfold eIsN at hf
  split at hf
  · cases hf
    have hk := Option.some.inj ht
    subst hk
    cases rv
    exact ⟨_, rfl, q W' H' E' R'⟩
  · cases hf
theorem se_isN {j : Nat} (ha : SE X a fa) : SE X (.Compare a [.Is] [.Constant .none j p] pos) (eIsN false fa) :=
  (pe_cmpR op_isN ha pe_non rfl).imp fun σ H Q h => isN_core (fun x H Q q => ⟨rfl, by simpa using q⟩) h
theorem se_notN {j : Nat} (ha : SE X a fa) : SE X (.Compare a [.IsNot] [.Constant .none j p] pos) (eIsN true fa) :=
  (pe_cmpR op_notN ha pe_non rfl).imp fun σ H Q h => isN_core (fun x H Q q => ⟨rfl, by simpa using q⟩) h
theorem st_isN {j : Nat} (ha : SE X a fa) : ST X (.Compare a [.Is] [.Constant .none j p] pos) (eIsN false fa) :=
  (pt_cmpR op_isN ha pe_non rfl).imp fun σ H Q h => isN_core (fun x H Q q => ⟨rfl, by simpa using q⟩) (isN_bool h)
theorem st_notN {j : Nat} (ha : SE X a fa) : ST X (.Compare a [.IsNot] [.Constant .none j p] pos) (eIsN true fa) :=
  (pt_cmpR op_notN ha pe_non rfl).imp fun σ H Q h => isN_core (fun x H Q q => ⟨rfl, by simpa using q⟩) (isN_bool h)
/-! ### slices -/
abbrev SO (X : Cx) (a : Option Expr) (f : Option EM) : Prop := PO X a (fun σ H Q => ∃ W e μ r μ', Rel X.K W H μ ∧ EnvOk X.K W H σ e ∧ evalO f e μ = some (r, μ') ∧ ∀ W' H', Ext W H μ W' H' μ' → Rel X.K W' H' μ' → Q r H')
theorem so_none : SO X none none := by
  refine ⟨fun pins s σ H Q I ⟨W, e, μ, r, μ', R, E, hf, q⟩ => po_none.run pins s σ H Q I ?_⟩
  cases hf
  exact q W H .refl R
theorem so_some (ha : SE X a fa) : SO X (some a) (some fa) := by
  refine ⟨fun pins s σ H Q I ⟨W, e, μ, r, μ', R, E, hf, q⟩ => (po_some ha).run pins s σ H Q I ?_⟩
  simp only [evalO] at hf
  split at hf
  · rename_i i m1 h1
    cases hf
    exact ⟨W, e, μ, _, _, R, E, h1, fun W1 H1 x E1 R1 rx => ⟨i, by cases rx; rfl, q W1 H1 E1 R1⟩⟩
  · cases hf
theorem slPos_eq (n d : Nat) (o : Option Int) : slPos n d o = HT.sIx n d o := by cases o <;> rfl
theorem RPs.cut {K : PySem.W.Frag} {F : Addr → Prop} {H : Hp} {vs : List V} {xs : List PyData} (h : RPs K F H vs xs) (lo hi : Option Int) : RPs K F H (cutV vs lo hi) (slPart xs lo hi) := by
  unfold cutV slPart
  rw [← h.length, slPos_eq, slPos_eq]
  exact (h.drop _).take _
theorem cut_whole {vs : List V} {lo hi : Option Int} (h : HT.sIx vs.length 0 lo = 0 ∧ HT.sIx vs.length vs.length hi = vs.length) : cutV vs lo hi = vs := by
  unfold cutV
  rw [h.1, h.2]
  simp
theorem se_sl {lo hi : Option Expr} {fl fh : Option EM} {p2 : Pos} (ha : SE X a fa) (hl : SO X lo fl) (hh : SO X hi fh) : SE X (.Subscript a (.Slice lo hi none p2) pos) (eSl fa fl fh) := by
  refine (pe_slice (sl_list.or sl_tupA) ha hl hh).imp fun σ H Q ⟨W, e, μ, r, μ', R, E, hf, q⟩ => ?_
  unfold eSl at hf
  split at hf
  · rename_i u m1 h1
    split at hf
    · rename_i l m2 h2
      split at hf
      · rename_i h m3 h3
        split at hf
        · rename_i x hx
          cases hz : slD l h x with
          | none => rw [hz] at hf; cases hf
          | some z =>
            rw [hz] at hf; cases hf
            refine ⟨W, e, μ, u, m1, R, E, h1, fun W1 H1 v E1 R1 rv => ⟨W1, e, m1, l, m2, R1, E.mono E1 R, h2, fun W2 H2 E2 R2 => ⟨W2, e, m2, h, _, R2, (E.mono E1 R).mono E2 R1, h3, fun W3 H3 E3 R3 => ?_⟩⟩⟩
            have t := rdS_ok R3 (rv.mono (E2.trans E3) R1) hx
            have q' : Post X.K W3 H3 μ' μ' (.d z) Q := fun W4 H4 v4 E4 R4 r4 => q W4 H4 v4 ((E1.trans (E2.trans E3)).trans E4) R4 r4
            unfold slD at hz
            split at hz
            · cases hz
              obtain ⟨ad, vs, rfl, g1, g2⟩ := t
              exact .inl ⟨ad, vs, rfl, g1, post_lst R3 (g2.cut l h) q'⟩
            · cases hz
              cases t with
              | tup g1 g2 =>
                refine .inr ⟨_, _, rfl, g1, fun hw => ?_, fun _ => post_tup R3 (g2.cut l h) q'⟩
                exact q' _ _ _ .refl R3 (.tup g1 (by have := g2.cut l h; rw [cut_whole hw] at this; exact this))
            · cases hz
        · cases hf
      · cases hf
    · cases hf
  · cases hf
end
end Gg

end
section
/-! GSumT: sum(t) of a tuple of whole numbers. -/
namespace Gg
open PySem PySem.Spec PyProof.Rows L2
section
variable {prog : Program} {w : World} {A : Around} {E : Value → Shared → Prop} {s : Shared}
theorem sum_tup {Q : Value → Shared → Prop} {t : Addr} {its : List Value} {ns : List Int} (hh : A.handled = none) (ht : s.heap.IsTuple t its.toArray) (hi : IntsAre its ns)
    (h : ∀ h' tk t', (∀ b o, s.heap.get? b = some o → h'.get? b = some o) → Q (.int ns.sum t') { s with heap := h', toks := tk }) : wpAny (model prog w) A (call (.builtin "sum") [.ref t]) Q E s := by
  obtain ⟨xs, e⟩ := hi.allInts.items
  have hn : numsOf (intItems xs).toList = ns := by rw [← e]; exact hi.numsOf
  rw [nums_intItems] at hn
  rw [e] at ht
  have hlt : t < s.heap.objs.size := by obtain ⟨o, e, _⟩ := ht; exact Heap.lt_size e
  have hne : t ≠ s.heap.objs.size := Nat.ne_of_lt hlt
  have ht2 : (s.heap.push { cls := .type "tuple_iterator", data := .fields #[.ref t, .int 0 0] }).IsTuple t (intItems xs) := ht.at fun o e => Heap.get?_push_of_some _ e
  refine call_sum_walkG (wpAny_pyIter_tuple ht ?_)
  refine ⟨_, _, _, _, _, _, numAt xs, rfl, Walks.tuple (A := A.in1) hh _ t hne (intItems xs), ⟨⟨_, Heap.get?_push_size _ rfl, rfl, rfl⟩, ht2⟩, fun b hb => ?_, (fun _ _ => intItems_at), fun h' tk t' hk => ?_⟩
  · show b < (s.heap.push _).objs.size
    rw [Heap.size_push]
    rcases List.mem_cons.mp hb with rfl | hb
    · exact Nat.lt_succ_self _
    · rw [List.mem_singleton.mp hb]; exact Nat.lt_succ_of_lt hlt
  · have := h h' tk t' fun b o e => hk b o (fun hm => by
      rw [List.mem_singleton.mp hm] at e
      exact absurd (Heap.lt_size e) (Nat.lt_irrefl _)) (Heap.get?_push_of_some _ e)
    rw [preSum_eq, List.take_of_length_le (by simp [intItems]), hn]; exact this
end
def rSumT (K : PySem.W.Frag) : List V → Hp → VK → Prop := fun vs H Q => ∃ (a : Addr) (ns : List Int), vs = [V.ref a] ∧ SqT K H a (ns.map V.int) ∧ Q (.int ns.sum) H
theorem cr_sumT {X : Cx} (hc : X.calm = true) : CallR X (.builtin "sum") (rSumT X.K) := by
  intro pins s σ H vs us Q I r h
  obtain ⟨a, ns, rfl, hs, q⟩ := h
  obtain ⟨its, rv, ht, _⟩ := I.tuple hs
  rw [Vals.ref1 r]
  exact sum_tup (I.ok.hd hc) (show s.heap.IsTuple a its.toArray from ht) rv.ints fun h' tk t' hk => ⟨.int _, H, I.kept hk, ⟨_, rfl⟩, q⟩
end Gg

end
section
/-! GCall: built-in functions, new lists. -/
namespace Gg
open PySem L2

section
variable {K : PySem.W.Frag} {F : Addr → Prop} {H : Hp}
theorem ints_v : ∀ {vs : List V} {xs : List PyData} {ns : List Int}, RPs K F H vs xs → intsOf xs = some ns → vs = ns.map V.int
  | _, _, _, .nil, h => by cases h; rfl
  | _, .int i :: xs, _, .cons a t, h => by
    simp only [intsOf] at h
    cases hq : intsOf xs with
    | none => rw [hq] at h; cases h
    | some ms =>
      rw [hq] at h; cases h; cases a
      rw [ints_v t hq]; rfl
  | _, .none :: _, _, .cons _ _, h => by cases h
  | _, .bool _ :: _, _, .cons _ _, h => by cases h
  | _, .str _ :: _, _, .cons _ _, h => by cases h
  | _, .list _ :: _, _, .cons _ _, h => by cases h
  | _, .tuple _ :: _, _, .cons _ _, h => by cases h
  | _, .dict _ :: _, _, .cons _ _, h => by cases h
theorem bools_v : ∀ {vs : List V} {xs : List PyData} {ns : List Bool}, RPs K F H vs xs → boolsOf xs = some ns → vs = ns.map V.bl
  | _, _, _, .nil, h => by cases h; rfl
  | _, .bool i :: xs, _, .cons a t, h => by
    simp only [boolsOf] at h
    cases hq : boolsOf xs with
    | none => rw [hq] at h; cases h
    | some ms =>
      rw [hq] at h; cases h; cases a
      rw [bools_v t hq]; rfl
  | _, .none :: _, _, .cons _ _, h => by cases h
  | _, .int _ :: _, _, .cons _ _, h => by cases h
  | _, .str _ :: _, _, .cons _ _, h => by cases h
  | _, .list _ :: _, _, .cons _ _, h => by cases h
  | _, .tuple _ :: _, _, .cons _ _, h => by cases h
  | _, .dict _ :: _, _, .cons _ _, h => by cases h
theorem v_ints : ∀ ns : List Int, RPs K F H (ns.map V.int) (ns.map PyData.int)
  | [] => .nil
  | n :: ns => .cons (.int n) (v_ints ns)
end
theorem maxI_spec : ∀ (r : List Int) (a : Int), (maxI a r = a ∨ maxI a r ∈ r) ∧ a ≤ maxI a r ∧ ∀ y ∈ r, y ≤ maxI a r
  | [], a => ⟨.inl rfl, Int.le_refl _, fun _ h => by cases h⟩
  | b :: r, a => by
    obtain ⟨h1, h2, h3⟩ := maxI_spec r (max a b)
    show (maxI (max a b) r = a ∨ maxI (max a b) r ∈ b :: r) ∧ a ≤ maxI (max a b) r ∧ ∀ y ∈ b :: r, y ≤ maxI (max a b) r
    refine ⟨?_, by omega, fun y hy => ?_⟩
    · rcases h1 with h1 | h1
      · by_cases hab : a ≤ b
        · exact .inr (by rw [h1, show max a b = b by omega]; exact List.mem_cons_self)
        · exact .inl (by rw [h1]; omega)
      · exact .inr (List.mem_cons_of_mem _ h1)
    · rcases List.mem_cons.mp hy with rfl | hy
      · omega
      · exact h3 y hy
theorem minI_spec : ∀ (r : List Int) (a : Int), (minI a r = a ∨ minI a r ∈ r) ∧ minI a r ≤ a ∧ ∀ y ∈ r, minI a r ≤ y
  | [], a => ⟨.inl rfl, Int.le_refl _, fun _ h => by cases h⟩
  | b :: r, a => by
    obtain ⟨h1, h2, h3⟩ := minI_spec r (min a b)
    show (minI (min a b) r = a ∨ minI (min a b) r ∈ b :: r) ∧ minI (min a b) r ≤ a ∧ ∀ y ∈ b :: r, minI (min a b) r ≤ y
    refine ⟨?_, by omega, fun y hy => ?_⟩
    · rcases h1 with h1 | h1
      · by_cases hab : b ≤ a
        · exact .inr (by rw [h1, show min a b = b by omega]; exact List.mem_cons_self)
        · exact .inl (by rw [h1]; omega)
      · exact .inr (List.mem_cons_of_mem _ h1)
    · rcases List.mem_cons.mp hy with rfl | hy
      · omega
      · exact h3 y hy
theorem insertI_perm (x : Int) : ∀ r : List Int, (insertI x r).Perm (x :: r)
  | [] => .refl _
  | y :: r => by
    simp only [insertI]
    split
    · exact .refl _
    · exact ((insertI_perm x r).cons y).trans (.swap x y r)
theorem sortI_perm : ∀ r : List Int, (sortI r).Perm r
  | [] => .refl _
  | x :: r => (insertI_perm x (sortI r)).trans ((sortI_perm r).cons x)
theorem insertI_sorted (x : Int) : ∀ r : List Int, r.Pairwise (· ≤ ·) → (insertI x r).Pairwise (· ≤ ·)
  | [], _ => List.pairwise_singleton _ _
  | y :: r, h => by
    simp only [insertI]
    have h' := List.pairwise_cons.mp h
    split
    · rename_i hxy
      refine List.pairwise_cons.mpr ⟨fun z hz => ?_, h⟩
      rcases List.mem_cons.mp hz with rfl | hz
      · exact hxy
      · exact Int.le_trans hxy (h'.1 z hz)
    · rename_i hxy
      refine List.pairwise_cons.mpr ⟨fun z hz => ?_, insertI_sorted x r h'.2⟩
      rcases List.mem_cons.mp ((insertI_perm x r).mem_iff.mp hz) with rfl | hz
      · omega
      · exact h'.1 z hz
theorem sortI_sorted : ∀ r : List Int, (sortI r).Pairwise (· ≤ ·)
  | [] => .nil
  | x :: r => insertI_sorted x _ (sortI_sorted r)
theorem sorted_unique : ∀ {a b : List Int}, a.Perm b → a.Pairwise (· ≤ ·) → b.Pairwise (· ≤ ·) → a = b
  | [], b, p, _, _ => by rw [List.nil_perm.mp p]
  | x :: a, b, p, ha, hb => by
    cases b with
    | nil => exact absurd p.symm (by simp)
    | cons y b =>
      have ha' := List.pairwise_cons.mp ha
      have hb' := List.pairwise_cons.mp hb
      have e : x = y := by
        have h1 : x ∈ y :: b := p.mem_iff.mp List.mem_cons_self
        have h2 : y ∈ x :: a := p.mem_iff.mpr List.mem_cons_self
        rcases List.mem_cons.mp h1 with h1 | h1
        · exact h1
        · rcases List.mem_cons.mp h2 with h2 | h2
          · exact h2.symm
          · have := hb'.1 x h1
            have := ha'.1 y h2
            omega
      subst e
      rw [sorted_unique (List.Perm.cons_inv p) ha'.2 hb'.2]

section
variable {X : Cx} {a b c : Expr} {fa fb fc : EM} {pos p : Pos} {as : List Expr} {fs : List EM} {x : Str}
/-! ### built-in functions by values -/
def BiS (X : Cx) (f : Value) (g : BF) : Prop :=
  ∃ r : List V → Hp → VK → Prop, CallR X f r ∧ ∀ (W : Wd) (H : Hp) (μ : Sto) (vs : List V) (xs : List PyData) (z : PyData) (Q : VK), Rel X.K W H μ → RTs X.K W.F H vs xs → g xs = some z → Post X.K W H μ μ (.d z) Q → r vs H Q
theorem BiS.of {f : Value} {g : BF} {r : List V → Hp → VK → Prop} (h : CallR X f r) (w : ∀ (W : Wd) (H : Hp) (μ : Sto) (vs : List V) (xs : List PyData) (z : PyData) (Q : VK), Rel X.K W H μ → RTs X.K W.F H vs xs → g xs = some z → Post X.K W H μ μ (.d z) Q → r vs H Q) : BiS X f g := ⟨r, h, w⟩
theorem bi_len : BiS X (.builtin "len") bLen := by
  refine .of (call_len_seq.or call_len_str) fun W H μ vs xs z Q R rx hg q => ?_
  unfold bLen at hg
  split at hg
  · cases hg
    cases rx with
    | cons h t =>
      cases t
      obtain ⟨a, ws, rfl, h1, h2⟩ := h
      exact .inl ⟨a, ws, rfl, .inl (.of h1), by rw [h2.length]; exact q _ _ _ .refl R (.int _)⟩
  · cases hg
    cases rx with
    | cons h t =>
      cases t
      cases h with
      | tup h1 h2 => exact .inl ⟨_, _, rfl, .inr h1, by rw [h2.length]; exact q _ _ _ .refl R (.int _)⟩
  · split at hg
    · rename_i hl
      cases hg
      cases rx with
      | cons h t =>
        cases t
        cases h
        exact .inr ⟨_, rfl, line_le' hl, q _ _ _ .refl R (.int _)⟩
    · cases hg
  · cases hg
theorem bi_abs : BiS X (.builtin "abs") bAbs := by
  refine .of call_abs fun W H μ vs xs z Q R rx hg q => ?_
  unfold bAbs at hg
  split at hg
  · cases hg
    cases rx with
    | cons h t => cases t; cases h; exact ⟨_, rfl, q _ _ _ .refl R (.int _)⟩
  · cases hg
theorem bi_int : BiS X (.type "int") bInt := by
  refine .of call_int1 fun W H μ vs xs z Q R rx hg q => ?_
  unfold bInt at hg
  split at hg
  · cases hg
    cases rx with
    | cons h t => cases t; cases h; exact .inl ⟨_, rfl, q _ _ _ .refl R (.int _)⟩
  · cases hg
    cases rx with
    | cons h t => cases t; cases h; exact .inr ⟨_, rfl, q _ _ _ .refl R (.int _)⟩
  · cases hg
/-! ### the least, the greatest, sorted: of data -/
theorem alike_ok {xs : List PyData} (h : alikeL xs = true) : PySem.W.AlikeAll xs ∧ PyData.depthAll xs ≤ 60 := by
  unfold alikeL at h
  rw [Bool.and_eq_true, Bool.and_eq_true] at h
  refine ⟨⟨fun x hx y hy => List.all_eq_true.mp (List.all_eq_true.mp h.1.1 x hx) y hy, fun x hx => isNone_ne (List.all_eq_true.mp h.1.2 x hx)⟩, (plain_all (plain_ok DEEP) h.2).2⟩
theorem alike_intsL (ns : List Int) : alikeL (ns.map .int) = true := by
  unfold alikeL
  rw [Bool.and_eq_true, Bool.and_eq_true]
  refine ⟨⟨?_, ?_⟩, ?_⟩ <;> simp [PySem.W.alike, isNoneB, plainD, DEEP]
theorem intsOf_eq : ∀ {xs : List PyData} {ns : List Int}, intsOf xs = some ns → xs = ns.map .int
  | [], _, h => by cases h; rfl
  | x :: xs, ns, h => by
    cases x <;> simp only [intsOf] at h <;> first | (cases h; done) | skip
    cases q : intsOf xs with
    | none => rw [q] at h; cases h
    | some ms => rw [q] at h; cases h; rw [intsOf_eq q]; rfl
theorem vals_at : ∀ {ws : List V} {us : List Value} {i : Nat} {u : Value}, Vals ws us → us[i]? = some u → ∃ w, ws[i]? = some w ∧ RelV w u
  | _, _, i, _, .nil, h => by simp at h
  | _, _, 0, _, .cons r _, h => by simp at h; subst h; exact ⟨_, rfl, r⟩
  | _, _, i + 1, _, .cons _ t, h => by
    obtain ⟨w, h1, h2⟩ := vals_at (i := i) t (by simpa using h)
    exact ⟨w, by simpa using h1, h2⟩
theorem rps_at {K : PySem.W.Frag} {F : Addr → Prop} {H : Hp} : ∀ {ws : List V} {xs : List PyData} {i : Nat} {w : V} {x : PyData}, RPs K F H ws xs → ws[i]? = some w → xs[i]? = some x → RP K F H w x
  | _, _, i, _, _, .nil, h, _ => by simp at h
  | _, _, 0, _, _, .cons r _, h, g => by simp at h g; subst h g; exact r
  | _, _, i + 1, _, _, .cons _ t, h, g => rps_at (i := i) t (by simpa using h) (by simpa using g)
def rBest (K : PySem.W.Frag) (f : PyData → List PyData → PyData) : List V → Hp → VK → Prop := fun vs H Q => ∃ (a : Addr) (ws : List V) (x : PyData) (xs : List PyData), vs = [.ref a] ∧ (SqL K H a ws ∨ SqT K H a ws) ∧ DpAll K H ws (x :: xs) ∧
  PySem.W.AlikeAll (x :: xs) ∧ PyData.depthAll (x :: xs) ≤ 60 ∧ ∀ (i : Nat) (w : V), ws[i]? = some w → (x :: xs)[i]? = some (f x xs) → Q w H
theorem max_at {s : Shared} {A : Around} {E : Value → Shared → Prop} {prog : Program} {w : World} {l : Addr} {vs : Array Value} {x : PyData} {xs : List PyData} {as : List Addr} {Q : Value → Shared → Prop} (hh : A.handled = none) (hl : s.heap.IsList l vs ∨ s.heap.IsTuple l vs)
    (hr : ReadsAll s.heap vs.toList (x :: xs) as) (ha : PySem.W.AlikeAll (x :: xs)) (hu : A.units + 1 + PyData.depthAll (x :: xs) < cLine)
    (h : ∀ (i : Nat) v h' tk, vs[i]? = some v → (x :: xs)[i]? = some (PySem.W.maxD x xs) → (∀ b o, s.heap.get? b = some o → h'.get? b = some o) → Q v { s with heap := h', toks := tk }) :
    wpAny (model prog w) A (call (.builtin "max") [.ref l]) Q E s := by
  have hn : vs.size = xs.length + 1 := PySem.W.readsAll_len hr
  have e1 : vs.size - 1 = xs.length := by omega
  have e2 := PySem.W.argBest_fold (fun a b => PySem.W.dataLt b a) PyData.none x xs xs.length (Nat.le_refl _)
  rw [List.take_length] at e2
  have fin : ∀ v, vs[argBest (fun i j => PySem.W.dataLt ((x :: xs).getD j .none) ((x :: xs).getD i .none)) (vs.size - 1)]? = some v → ∃ i : Nat, vs[i]? = some v ∧ (x :: xs)[i]? = some (PySem.W.maxD x xs) := by
    intro v hv
    rw [e1] at hv
    refine ⟨_, hv, ?_⟩
    have hlt : argBest (fun i j => PySem.W.dataLt ((x :: xs).getD j .none) ((x :: xs).getD i .none)) xs.length < (x :: xs).length := Nat.lt_succ_of_le e2.1
    have e3 := e2.2
    rw [List.getD_eq_getElem?_getD, List.getElem?_eq_getElem hlt] at e3
    rw [List.getElem?_eq_getElem hlt]
    exact congrArg some e3
  rcases hl with hl | hl
  · refine call_max_walkH (PySem.W.iter_listW (A := A.in1) hh hl fun s₂ e W st hfp hw hk => ?_)
    refine ⟨_, _, _, _, _, _, _, s.heap, _, rfl, W, st, hfp, by omega, hw, hk, PySem.W.cmpIn_gt (A := A.in1) hr ha (by show A.units + 1 + _ < _; exact hu), fun v s' hP m => ?_⟩
    obtain ⟨h', tk, rfl, hk'⟩ := PySem.W.moved_old e rfl m
    obtain ⟨i, i1, i2⟩ := fin v hP
    exact h i v h' tk i1 i2 hk'
  · refine call_max_walkH (PySem.W.iter_tupleW (A := A.in1) hh hl fun s₂ e W st hfp hw hk => ?_)
    refine ⟨_, _, _, _, _, _, _, s.heap, _, rfl, W, st, hfp, by omega, hw, hk, PySem.W.cmpIn_gt (A := A.in1) hr ha (by show A.units + 1 + _ < _; exact hu), fun v s' hP m => ?_⟩
    obtain ⟨h', tk, rfl, hk'⟩ := PySem.W.moved_old e rfl m
    obtain ⟨i, i1, i2⟩ := fin v hP
    exact h i v h' tk i1 i2 hk'
theorem cr_maxB (hc : X.calm = true) (hu : X.A.units + 65 < cLine) : CallR X (.builtin "max") (rBest X.K PySem.W.maxD) := by
  intro pins s σ H vs us Q I r h
  obtain ⟨a, ws, x, xs, rfl, hs, hd, ha, hdep, q⟩ := h
  rw [Vals.ref1 r]
  have go : ∀ {its : List Value}, Vals ws its → (s.heap.IsList a its.toArray ∨ s.heap.IsTuple a its.toArray) → wpAny (model X.prog X.w) X.A (call (.builtin "max") [.ref a]) (EP X pins σ Q) X.xe s := by
    intro its rv hl
    obtain ⟨as, hr⟩ := Dp.readsAll I (x :: xs) ws its hd rv
    refine max_at (I.ok.hd hc) hl hr ha (by omega) fun i v h' tk hv hx hk => ?_
    obtain ⟨w, hw, rw'⟩ := vals_at rv (by simpa using hv)
    exact ⟨w, H, I.kept (t' := tk) hk, rw', q i w hw hx⟩
  rcases hs with hs | hs
  · obtain ⟨its, rv, hl, _⟩ := I.list hs
    exact go rv (.inl hl.isList)
  · obtain ⟨its, rv, hl, _⟩ := I.tuple hs
    exact go rv (.inr hl)
theorem maxL_ints {i : Int} {r : List Int} : maxL ((i :: r).map .int) = some (.int (maxI i r)) := by
  have h : alikeL ((i :: r).map .int) = true := alike_intsL _
  show (if alikeL ((i :: r).map .int) then _ else _) = _
  rw [if_pos h, PySem.W.maxD_ints]
  congr 2
  induction r generalizing i with
  | nil => rfl
  | cons b r ih => show List.foldl max (max i b) r = maxI (max i b) r; exact ih (alike_intsL _)
theorem bi_max (hc : X.calm = true) (hu : X.A.units + 65 < cLine) : BiS X (.builtin "max") bMax := by
  refine .of (((call_max2 hc).or (cr_max hc)).or (cr_maxB hc hu)) fun W H μ vs xs z Q R rx hg q => ?_
  have data : ∀ {a : Addr} {ws : List V} {ys : List PyData}, (SqL X.K H a ws ∨ SqT X.K H a ws) → RPs X.K W.F H ws ys → maxL ys = some z → rBest X.K PySem.W.maxD [.ref a] H Q := by
    intro a ws ys h1 h2 hg
    cases ys with
    | nil => cases hg
    | cons x xs =>
      simp only [maxL] at hg
      split at hg
      · rename_i hk
        cases hg
        obtain ⟨k1, k2⟩ := alike_ok hk
        exact ⟨a, ws, x, xs, rfl, h1, h2.dp, k1, k2, fun i w hw hx => q _ _ _ .refl R (rps_at h2 hw hx)⟩
      · cases hg
  unfold bMax at hg
  split at hg
  · cases hg
    cases rx with
    | cons h t => cases t with | cons h2 t => cases t; cases h; cases h2; exact .inl (.inl ⟨_, _, rfl, q _ _ _ .refl R (.int _)⟩)
  · cases rx with
    | cons h t =>
      cases t
      obtain ⟨a, ws, rfl, h1, h2⟩ := h
      split at hg
      · rename_i i r hi
        cases hg
        rw [ints_v h2 hi] at h1
        refine .inl (.inr ⟨a, i :: r, rfl, .of h1, by simp, fun m hm hy => ?_⟩)
        have e : m = maxI i r := by
          obtain ⟨s1, s2, s3⟩ := maxI_spec r i
          have h1 : maxI i r ≤ m := by
            rcases s1 with s1 | s1
            · rw [s1]; exact hy i List.mem_cons_self
            · exact hy _ (List.mem_cons_of_mem _ s1)
          rcases List.mem_cons.mp hm with rfl | hm
          · omega
          · have := s3 m hm; omega
        rw [e]
        exact q _ _ _ .refl R (.int _)
      · exact .inr (data (.inl (.of h1)) h2 hg)
  · cases rx with
    | cons h t =>
      cases t
      cases h with
      | tup h1 h2 =>
        split at hg
        · rename_i i r hi
          refine .inr (data (.inr h1) h2 ?_)
          rw [intsOf_eq hi, maxL_ints]
          exact hg
        · exact .inr (data (.inr h1) h2 hg)
  · cases hg
theorem min_at {s : Shared} {A : Around} {E : Value → Shared → Prop} {prog : Program} {w : World} {l : Addr} {vs : Array Value} {x : PyData} {xs : List PyData} {as : List Addr} {Q : Value → Shared → Prop} (hh : A.handled = none) (hl : s.heap.IsList l vs ∨ s.heap.IsTuple l vs)
    (hr : ReadsAll s.heap vs.toList (x :: xs) as) (ha : PySem.W.AlikeAll (x :: xs)) (hu : A.units + 1 + PyData.depthAll (x :: xs) < cLine)
    (h : ∀ (i : Nat) v h' tk, vs[i]? = some v → (x :: xs)[i]? = some (PySem.W.minD x xs) → (∀ b o, s.heap.get? b = some o → h'.get? b = some o) → Q v { s with heap := h', toks := tk }) :
    wpAny (model prog w) A (call (.builtin "min") [.ref l]) Q E s := by
  have hn : vs.size = xs.length + 1 := PySem.W.readsAll_len hr
  have e1 : vs.size - 1 = xs.length := by omega
  have e2 := PySem.W.argBest_fold PySem.W.dataLt PyData.none x xs xs.length (Nat.le_refl _)
  rw [List.take_length] at e2
  have fin : ∀ v, vs[argBest (fun i j => PySem.W.dataLt ((x :: xs).getD i .none) ((x :: xs).getD j .none)) (vs.size - 1)]? = some v → ∃ i : Nat, vs[i]? = some v ∧ (x :: xs)[i]? = some (PySem.W.minD x xs) := by
    intro v hv
    rw [e1] at hv
    refine ⟨_, hv, ?_⟩
    have hlt : argBest (fun i j => PySem.W.dataLt ((x :: xs).getD i .none) ((x :: xs).getD j .none)) xs.length < (x :: xs).length := Nat.lt_succ_of_le e2.1
    have e3 := e2.2
    rw [List.getD_eq_getElem?_getD, List.getElem?_eq_getElem hlt] at e3
    rw [List.getElem?_eq_getElem hlt]
    exact congrArg some e3
  rcases hl with hl | hl
  · refine call_min_walkH (PySem.W.iter_listW (A := A.in1) hh hl fun s₂ e W st hfp hw hk => ?_)
    refine ⟨_, _, _, _, _, _, _, s.heap, _, rfl, W, st, hfp, by omega, hw, hk, PySem.W.cmpIn_lt (A := A.in1) hr ha (by show A.units + 1 + _ < _; exact hu), fun v s' hP m => ?_⟩
    obtain ⟨h', tk, rfl, hk'⟩ := PySem.W.moved_old e rfl m
    obtain ⟨i, i1, i2⟩ := fin v hP
    exact h i v h' tk i1 i2 hk'
  · refine call_min_walkH (PySem.W.iter_tupleW (A := A.in1) hh hl fun s₂ e W st hfp hw hk => ?_)
    refine ⟨_, _, _, _, _, _, _, s.heap, _, rfl, W, st, hfp, by omega, hw, hk, PySem.W.cmpIn_lt (A := A.in1) hr ha (by show A.units + 1 + _ < _; exact hu), fun v s' hP m => ?_⟩
    obtain ⟨h', tk, rfl, hk'⟩ := PySem.W.moved_old e rfl m
    obtain ⟨i, i1, i2⟩ := fin v hP
    exact h i v h' tk i1 i2 hk'
theorem cr_minB (hc : X.calm = true) (hu : X.A.units + 65 < cLine) : CallR X (.builtin "min") (rBest X.K PySem.W.minD) := by
  intro pins s σ H vs us Q I r h
  obtain ⟨a, ws, x, xs, rfl, hs, hd, ha, hdep, q⟩ := h
  rw [Vals.ref1 r]
  have go : ∀ {its : List Value}, Vals ws its → (s.heap.IsList a its.toArray ∨ s.heap.IsTuple a its.toArray) → wpAny (model X.prog X.w) X.A (call (.builtin "min") [.ref a]) (EP X pins σ Q) X.xe s := by
    intro its rv hl
    obtain ⟨as, hr⟩ := Dp.readsAll I (x :: xs) ws its hd rv
    refine min_at (I.ok.hd hc) hl hr ha (by omega) fun i v h' tk hv hx hk => ?_
    obtain ⟨w, hw, rw'⟩ := vals_at rv (by simpa using hv)
    exact ⟨w, H, I.kept (t' := tk) hk, rw', q i w hw hx⟩
  rcases hs with hs | hs
  · obtain ⟨its, rv, hl, _⟩ := I.list hs
    exact go rv (.inl hl.isList)
  · obtain ⟨its, rv, hl, _⟩ := I.tuple hs
    exact go rv (.inr hl)
theorem minL_ints {i : Int} {r : List Int} : minL ((i :: r).map .int) = some (.int (minI i r)) := by
  have h : alikeL ((i :: r).map .int) = true := alike_intsL _
  show (if alikeL ((i :: r).map .int) then _ else _) = _
  rw [if_pos h, PySem.W.minD_ints]
  congr 2
  induction r generalizing i with
  | nil => rfl
  | cons b r ih => show List.foldl min (min i b) r = minI (min i b) r; exact ih (alike_intsL _)
theorem bi_min (hc : X.calm = true) (hu : X.A.units + 65 < cLine) : BiS X (.builtin "min") bMin := by
  refine .of (((call_min2 hc).or (cr_min hc)).or (cr_minB hc hu)) fun W H μ vs xs z Q R rx hg q => ?_
  have data : ∀ {a : Addr} {ws : List V} {ys : List PyData}, (SqL X.K H a ws ∨ SqT X.K H a ws) → RPs X.K W.F H ws ys → minL ys = some z → rBest X.K PySem.W.minD [.ref a] H Q := by
    intro a ws ys h1 h2 hg
    cases ys with
    | nil => cases hg
    | cons x xs =>
      simp only [minL] at hg
      split at hg
      · rename_i hk
        cases hg
        obtain ⟨k1, k2⟩ := alike_ok hk
        exact ⟨a, ws, x, xs, rfl, h1, h2.dp, k1, k2, fun i w hw hx => q _ _ _ .refl R (rps_at h2 hw hx)⟩
      · cases hg
  unfold bMin at hg
  split at hg
  · cases hg
    cases rx with
    | cons h t => cases t with | cons h2 t => cases t; cases h; cases h2; exact .inl (.inl ⟨_, _, rfl, q _ _ _ .refl R (.int _)⟩)
  · cases rx with
    | cons h t =>
      cases t
      obtain ⟨a, ws, rfl, h1, h2⟩ := h
      split at hg
      · rename_i i r hi
        cases hg
        rw [ints_v h2 hi] at h1
        refine .inl (.inr ⟨a, i :: r, rfl, .of h1, by simp, fun m hm hy => ?_⟩)
        have e : m = minI i r := by
          obtain ⟨s1, s2, s3⟩ := minI_spec r i
          have h1 : m ≤ minI i r := by
            rcases s1 with s1 | s1
            · rw [s1]; exact hy i List.mem_cons_self
            · exact hy _ (List.mem_cons_of_mem _ s1)
          rcases List.mem_cons.mp hm with rfl | hm
          · omega
          · have := s3 m hm; omega
        rw [e]
        exact q _ _ _ .refl R (.int _)
      · exact .inr (data (.inl (.of h1)) h2 hg)
  · cases rx with
    | cons h t =>
      cases t
      cases h with
      | tup h1 h2 =>
        split at hg
        · rename_i i r hi
          refine .inr (data (.inr h1) h2 ?_)
          rw [intsOf_eq hi, minL_ints]
          exact hg
        · exact .inr (data (.inr h1) h2 hg)
  · cases hg
theorem bi_sum (hc : X.calm = true) : BiS X (.builtin "sum") bSum := by
  refine .of ((cr_sum hc).or (cr_sumT hc)) fun W H μ vs xs z Q R rx hg q => ?_
  unfold bSum at hg
  split at hg
  · rename_i ys
    cases hi : intsOf ys with
    | none => rw [hi] at hg; cases hg
    | some ns =>
      rw [hi] at hg; cases hg
      cases rx with
      | cons h t =>
        cases t
        obtain ⟨a, ws, rfl, h1, h2⟩ := h
        rw [ints_v h2 hi] at h1
        exact .inl ⟨a, ns, rfl, .of h1, q _ _ _ .refl R (.int _)⟩
  · rename_i ys
    cases hi : intsOf ys with
    | none => rw [hi] at hg; cases hg
    | some ns =>
      rw [hi] at hg; cases hg
      cases rx with
      | cons h t =>
        cases t
        cases h with
        | tup h1 h2 =>
          rw [ints_v h2 hi] at h1
          exact .inr ⟨_, ns, rfl, h1, q _ _ _ .refl R (.int _)⟩
  · cases hg
theorem bi_all (hc : X.calm = true) : BiS X (.builtin "all") bAll := by
  refine .of (cr_all hc) fun W H μ vs xs z Q R rx hg q => ?_
  unfold bAll at hg
  split at hg
  · rename_i ys
    cases hi : boolsOf ys with
    | none => rw [hi] at hg; cases hg
    | some ns =>
      rw [hi] at hg; cases hg
      cases rx with
      | cons h t =>
        cases t
        obtain ⟨a, ws, rfl, h1, h2⟩ := h
        rw [bools_v h2 hi] at h1
        exact ⟨a, ns, rfl, .of h1, q _ _ _ .refl R (.bl _)⟩
  · cases hg
theorem bi_any (hc : X.calm = true) : BiS X (.builtin "any") bAny := by
  refine .of (cr_any hc) fun W H μ vs xs z Q R rx hg q => ?_
  unfold bAny at hg
  split at hg
  · rename_i ys
    cases hi : boolsOf ys with
    | none => rw [hi] at hg; cases hg
    | some ns =>
      rw [hi] at hg; cases hg
      cases rx with
      | cons h t =>
        cases t
        obtain ⟨a, ws, rfl, h1, h2⟩ := h
        rw [bools_v h2 hi] at h1
        exact ⟨a, ns, rfl, .of h1, q _ _ _ .refl R (.bl _)⟩
  · cases hg
theorem bi_tuple : BiS X (.type "tuple") bTuple := by
  refine .of call_tuple_of fun W H μ vs xs z Q R rx hg q => ?_
  unfold bTuple at hg
  split at hg
  · cases hg
    cases rx with
    | cons h t =>
      cases t
      obtain ⟨a, ws, rfl, h1, h2⟩ := h
      exact ⟨a, ws, rfl, .inl ⟨.of h1, post_tup R h2 q⟩⟩
  · cases hg
    cases rx with
    | cons h t =>
      cases t
      cases h with
      | tup h1 h2 => exact ⟨_, _, rfl, .inr ⟨h1, q _ _ _ .refl R (.tup h1 h2)⟩⟩
  · cases hg
/-- sorted(l): the items in order, equal ones as they stood -/
def rSortedD (K : PySem.W.Frag) : List V → Hp → VK → Prop := fun vs H Q => ∃ (a : Addr) (ws : List V) (ds : List PyData), vs = [.ref a] ∧ SqL K H a ws ∧ DpAll K H ws ds ∧
  PySem.W.AlikeAll ds ∧ PySem.W.Sortable ds ∧ PyData.depthAll ds ≤ 60 ∧ ∀ (ws' : List V) (p : Addr), PySem.W.EachIs (fun w d => (w, d) ∈ ws.zip ds) ws' (ds.mergeSort fun a b => !PySem.W.dataLt b a) → H p = none → Q (.ref p) (upd H p (.lst ws'))
theorem each_zip {K : PySem.W.Frag} {F : Addr → Prop} {H : Hp} : ∀ {ws : List V} {ds : List PyData}, RPs K F H ws ds → ∀ q ∈ ws.zip ds, RP K F H q.1 q.2
  | _, _, .nil, q, h => by simp at h
  | _, _, .cons a t, q, h => by
    rw [List.zip_cons_cons] at h
    rcases List.mem_cons.mp h with rfl | h
    · exact a
    · exact each_zip t q h
theorem each_rps {K : PySem.W.Frag} {F : Addr → Prop} {H : Hp} {Z : V → PyData → Prop} (hZ : ∀ w d, Z w d → RP K F H w d) : ∀ {ws : List V} {ds : List PyData}, PySem.W.EachIs Z ws ds → RPs K F H ws ds
  | _, _, .nil => .nil
  | _, _, .cons a t => .cons (hZ _ _ a) (each_rps hZ t)
theorem each_vals {Z : V → PyData → Prop} : ∀ {us : List Value} {ds : List PyData}, PySem.W.EachIs (fun u d => ∃ w, RelV w u ∧ Z w d) us ds → ∃ ws, Vals ws us ∧ PySem.W.EachIs Z ws ds
  | _, _, .nil => ⟨[], .nil, .nil⟩
  | _, _, .cons ⟨w, h1, h2⟩ t => by
    obtain ⟨ws, k1, k2⟩ := each_vals t
    exact ⟨w :: ws, .cons h1 k1, .cons h2 k2⟩
theorem each_in : ∀ {ws : List V} {us : List Value} {ds : List PyData}, Vals ws us → ws.length = ds.length → ∀ {Z : V → PyData → Prop}, (∀ q ∈ ws.zip ds, Z q.1 q.2) → PySem.W.EachIs (fun u d => ∃ w, RelV w u ∧ Z w d) us ds
  | _, _, [], .nil, _, _, _ => .nil
  | _, _, d :: ds, .cons r t, e, Z, h => .cons ⟨_, r, h _ (by rw [List.zip_cons_cons]; exact List.mem_cons_self)⟩ (each_in t (by simpa using e) fun q hq => h q (by rw [List.zip_cons_cons]; exact List.mem_cons_of_mem _ hq))
theorem each_reads {h : Heap} : ∀ {us : List Value} {ds : List PyData} {as : List Addr}, ReadsAll h us ds as → PySem.W.EachIs (fun u d => ∃ as, Reads h u d as) us ds
  | _, _, _, .nil => .nil
  | _, _, _, .cons r t => .cons ⟨_, r⟩ (each_reads t)
theorem depth_mem : ∀ {ds : List PyData} {d : PyData}, d ∈ ds → PyData.depth d ≤ PyData.depthAll ds
  | x :: xs, d, h => by
    simp only [PyData.depthAll]
    rcases List.mem_cons.mp h with rfl | h
    · omega
    · have := depth_mem h; omega
theorem dp_len {K : PySem.W.Frag} {H : Hp} : ∀ {ws : List V} {ds : List PyData}, DpAll K H ws ds → ws.length = ds.length
  | _, _, .nil => rfl
  | _, _, .cons _ t => by rw [List.length_cons, List.length_cons, dp_len t]
theorem each_len {α β : Type} {Z : α → β → Prop} : ∀ {as : List α} {bs : List β}, PySem.W.EachIs Z as bs → as.length = bs.length
  | _, _, .nil => rfl
  | _, _, .cons _ t => by rw [List.length_cons, List.length_cons, each_len t]
theorem cr_sortedD (hu : X.A.units + 65 < cLine) : CallR X (.builtin "sorted") (rSortedD X.K) := by
  intro pins s σ H vs us Q I r h
  obtain ⟨a, ws, ds, rfl, hs, hd, ha, hk, hdep, q⟩ := h
  obtain ⟨its, rv, hl, hz⟩ := I.list hs
  rw [Vals.ref1 r]
  obtain ⟨as, hr⟩ := Dp.readsAll I ds ws its hd rv
  have hlen := dp_len hd
  have sq := sizeLine_eq
  have hal : PySem.W.AllAlike (ds.map id) := by rw [List.map_id]; exact fun d h1 d' h2 => ha.1 d h1 d' h2
  have hso : PySem.W.Sortable (ds.map id) := by rw [List.map_id]; exact hk
  refine PySem.W.sorted_data (R := fun u d => ∃ w, RelV w u ∧ (w, d) ∈ ws.zip ds) (enc := id) hl.isList (each_in (Z := fun w d => (w, d) ∈ ws.zip ds) rv hlen fun q hq => hq) (each_reads hr) hal hso (by rw [← hlen]; exact hz) (fun b hb => ?_) fun out h1 h2 => ?_
  · have := depth_mem hb
    show X.A.units + 2 + PyData.depth b < cLine
    omega
  · obtain ⟨ws', k1, k2⟩ := each_vals h2
    obtain ⟨ep, he'⟩ := PyProof.Rows.sortedAll_at s.heap its out.toArray
    have hlen' : ws'.length ≤ sizeLine := by rw [k1.length, h1, ← hlen]; exact hz
    exact ⟨.ref _, upd H (s.heap.objs.size + 1) (.lst ws'), I.laid (t' := s.toks) (fun _ _ => PyProof.Rows.sortedAll_old) (Nat.le_succ _) ⟨hlen', out, ep, k1, he'⟩, rfl, q ws' _ k2 (I.hok.fresh (Nat.le_succ _))⟩
theorem sortable_ok {xs : List PyData} (h : (xs.all tupB || xs.all noTup) = true) (ha : PySem.W.AlikeAll xs) : PySem.W.Sortable xs := by
  rw [Bool.or_eq_true] at h
  rcases h with h | h
  · refine .inl fun d hd => ?_
    have := List.all_eq_true.mp h d hd
    unfold tupB at this
    split at this
    · exact ⟨_, _, rfl⟩
    · cases this
  · refine .inr fun d hd => ⟨ha.2 d hd, fun ys e => ?_⟩
    have := List.all_eq_true.mp h d hd
    subst e
    cases this
theorem bi_sorted (hu : X.A.units + 65 < cLine) : BiS X (.builtin "sorted") bSorted := by
  refine .of (cr_sortedI.or (cr_sortedD hu)) fun W H μ vs xs z Q R rx hg q => ?_
  unfold bSorted at hg
  split at hg
  · rename_i ys
    cases rx with
    | cons h t =>
      cases t
      obtain ⟨a, ws, rfl, h1, h2⟩ := h
      split at hg
      · rename_i ns hi
        cases hg
        rw [ints_v h2 hi] at h1
        refine .inl ⟨a, ns, rfl, .of h1, fun ns' p hp hs hn => ?_⟩
        rw [sorted_unique (hp.trans (sortI_perm ns).symm) hs (sortI_sorted ns)]
        exact post_lst R (v_ints _) q p hn
      · unfold sortL at hg
        split at hg
        · rename_i hk
          cases hg
          rw [Bool.and_eq_true] at hk
          obtain ⟨k1, k2⟩ := alike_ok hk.1
          exact .inr ⟨a, ws, ys, rfl, .of h1, h2.dp, k1, sortable_ok hk.2 k1, k2, fun ws' p he hn => post_lst R (each_rps (fun w d hm => each_zip h2 (w, d) hm) he) q p hn⟩
        · cases hg
  · cases hg
/-! ### len -/
theorem se_len (hg : Gl X "len") (hm : X.mg "len" = none) (hna : notStar a = true) (ha : SE X a fa) : SE X (.Call (.Name "len" p) [a] [] pos) (eLen fa) := by
  refine (pe_callB (call_len_seq.or call_len_str) hg hm (by decide +kernel) (pa_cons ha pa_nil (star_cons hna)) (by decide) (by decide) (star_cons hna) rfl).imp fun σ H Q ⟨W, e, μ, r, μ', R, E, hf, q⟩ => ?_
  unfold eLen at hf
  split at hf
  · rename_i v m1 h1
    cases hz : lenV m1 v with
    | none => rw [hz] at hf; cases hf
    | some z =>
      rw [hz] at hf; cases hf
      refine ⟨W, e, μ, v, _, R, E, h1, fun W1 H1 u E1 R1 ru => ?_⟩
      have plain : ∀ x, RT X.K W1.F H1 u x → bLen [x] = some z → ((∃ p ys, [u] = [V.ref p] ∧ (SqL X.K H1 p ys ∨ SqT X.K H1 p ys) ∧ Q (.int ys.length) H1) ∨ ∃ x : Str, [u] = [V.str x] ∧ x.length ≤ sizeLine ∧ Q (.int x.length) H1) := by
        intro x rx hx
        unfold bLen at hx
        split at hx
        · rename_i ys e; cases hx; cases e
          obtain ⟨a, ws, rfl, h1, h2⟩ := rx
          exact .inl ⟨a, ws, rfl, .inl (.of h1), by rw [h2.length]; exact q _ _ _ E1 R1 (.int _)⟩
        · rename_i ys e; cases hx; cases e
          cases rx with
          | tup h1 h2 => exact .inl ⟨_, _, rfl, .inr h1, by rw [h2.length]; exact q _ _ _ E1 R1 (.int _)⟩
        · rename_i s e
          cases e
          split at hx
          · rename_i hl
            cases hx
            cases rx
            exact .inr ⟨_, rfl, line_le' hl, q _ _ _ E1 R1 (.int _)⟩
          · cases hx
        · cases hx
      have lift : ∀ lv, v = lv → (rdD μ' lv).bind (fun x => bLen [x]) = some z → ((∃ p ys, [u] = [V.ref p] ∧ (SqL X.K H1 p ys ∨ SqT X.K H1 p ys) ∧ Q (.int ys.length) H1) ∨ ∃ x : Str, [u] = [V.str x] ∧ x.length ≤ sizeLine ∧ Q (.int x.length) H1) := by
        intro lv e hb
        subst e
        cases hx : rdD μ' v with
        | none => rw [hx] at hb; cases hb
        | some x => rw [hx] at hb; exact plain x (rd_ok R1 ru hx) hb
      cases v with
      | d x => exact lift _ rfl hz
      | ro xs => exact lift _ rfl hz
      | tr pre k => exact lift _ rfl hz
      | ref k =>
        simp only [lenV] at hz
        split at hz
        · rename_i xs hx
          cases hz
          obtain ⟨ad, h2, rfl⟩ := ru
          obtain ⟨vs, h3, h4⟩ := R1.cell _ ad _ h2 hx
          exact .inl ⟨ad, vs, rfl, .inl (.of h3), by rw [h4.length]; exact q _ _ _ E1 R1 (.int _)⟩
        · cases hz
  · cases hf
def rRepr (K : PySem.W.Frag) : List V → Hp → VK → Prop := fun vs H Q => ∃ v d, vs = [v] ∧ Dp K H v d ∧ showOk d = true ∧ Q (.str (PyData.shown d)) H
theorem plain_noDict : ∀ (n : Nat) (d : PyData), plainD n d = true → PyData.hasDict d = false := by
  intro n
  induction n with
  | zero => intro d h; simp [plainD] at h
  | succ n ih =>
    have all : ∀ xs : List PyData, xs.all (plainD n) = true → PyData.hasDictAll xs = false := by
      intro xs
      induction xs with
      | nil => intro _; rfl
      | cons y ys ihy =>
        intro q
        rw [List.all_cons, Bool.and_eq_true] at q
        show (PyData.hasDict y || PyData.hasDictAll ys) = false
        rw [ih y q.1, ihy q.2]; rfl
    intro d h
    cases d with
    | none => rfl
    | bool _ => rfl
    | int _ => rfl
    | str _ => rfl
    | list xs => exact all xs h
    | tuple xs => exact all xs h
    | dict _ => simp [plainD] at h
theorem call_reprD (hg : X.A.guards = some []) (hu : X.A.units + 65 < cLine) : CallR X (.builtin "repr") (rRepr X.K) := by
  intro pins s σ H vs us Q I r h
  obtain ⟨v, d, rfl, hd, hs, q⟩ := h
  cases r with
  | cons rv rt =>
    rename_i u us'
    cases rt
    unfold showOk at hs
    rw [Bool.and_eq_true, Bool.and_eq_true, decide_eq_true_eq] at hs
    obtain ⟨⟨hp, hsh⟩, hlen⟩ := hs
    have hlen' : (PyData.shown d).length ≤ sizeLine := Nat.le_trans hlen (by decide)
    obtain ⟨as, rd⟩ := Dp.reads I d v u hd rv
    have hdep : PyData.depth d ≤ 60 := (plain_ok _ d hp).2
    have ref : ∀ {ad : Addr}, u = .ref ad → wpAny (model X.prog X.w) X.A (call (.builtin "repr") [u]) (EP X pins σ Q) X.xe s := by
      intro ad e
      subst e
      refine repr_of_reads' rd hsh (fun z => ?_) hg (by omega) (fun _ _ z => z) (fun h' t tk hk => ?_) hlen'
      · rw [plain_noDict _ d hp] at z; cases z
      · exact ⟨.str _, H, I.kept (t' := tk) hk, ⟨t, rfl⟩, q⟩
    cases hd with
    | non => cases rv; exact PySem.P.repr_of_none ⟨.str _, H, I.tok _, ⟨_, rfl⟩, q⟩
    | bl b => cases rv; exact PySem.P.repr_of_bool ⟨.str _, H, I.tok _, ⟨_, rfl⟩, by rw [PyData.shown_bool] at q; cases b <;> exact q⟩
    | int i => obtain ⟨t, rfl⟩ := rv; exact PySem.P.repr_of_int (of_decide_eq_true hsh) ⟨.str _, H, I.tok _, ⟨_, rfl⟩, q⟩
    | str y => obtain ⟨t, rfl⟩ := rv; exact PySem.P.repr_of_str ⟨.str _, H, I.tok _, ⟨_, rfl⟩, q⟩ hlen'
    | lst _ _ => exact ref rv
    | tup _ _ => exact ref rv
theorem bi_repr (hg : X.A.guards = some []) (hu : X.A.units + 65 < cLine) : BiS X (.builtin "repr") bRepr := by
  refine .of (call_reprD hg hu) fun W H μ vs xs z Q R rx hg q => ?_
  unfold bRepr at hg
  split at hg
  · split at hg
    · rename_i hok
      cases hg
      cases rx with
      | cons h t =>
        cases t
        exact ⟨_, _, rfl, h.dp, hok, q _ _ _ .refl R (.str _)⟩
    · cases hg
  · cases hg
/-! ### their calls -/
theorem star_none {env : PySem.Env} {pos : Pos} : ∀ {es : List Expr}, es.all notStar = true → (backTo pos (starEach es env)).any (·.1) = false
  | [], _ => rfl
  | a :: es, h => by
    rw [List.all_cons, Bool.and_eq_true] at h
    rw [star_cons h.1]
    show (false || (backTo pos (starEach es env)).any (·.1)) = false
    rw [star_none h.2]; rfl
theorem bi_core {r : List V → Hp → VK → Prop} {g : BF} {σ : List (Option V)} {H : Hp} {Q : VK}
    (hs : ∀ (W : Wd) (H : Hp) (μ : Sto) (vs : List V) (xs : List PyData) (z : PyData) (Q : VK), Rel X.K W H μ → RTs X.K W.F H vs xs → g xs = some z → Post X.K W H μ μ (.d z) Q → r vs H Q)
    (h : tE X.K (eBi g fs) σ H Q) : tCB r (tA X.K fs) σ H Q := by
  obtain ⟨W, e, μ, r0, μ', R, E, hf, q⟩ := h
  unfold eBi at hf
  split at hf
  · rename_i vs m1 h1
    split at hf
    · rename_i xs hx
      cases hz : g xs with
      | none => rw [hz] at hf; cases hf
      | some z =>
        rw [hz] at hf; cases hf
        refine ⟨W, e, μ, vs, _, R, E, h1, fun W1 H1 us E1 R1 rs => ?_⟩
        exact hs W1 H1 _ us xs z Q R1 (rdAll_ok R1 rs hx) hz fun W' H' v E2 R2 rv => q W' H' v (E1.trans E2) R2 rv
    · cases hf
  · cases hf
theorem se_biB {id : String} {g : BF} (hb : BiS X (.builtin id) g) (hg : Gl X x) (hm : X.mg x = none) (hv : bootBuiltins x = some (.builtin id)) (hn : x ≠ "__name__") (hdb : (x == ("__debug__" : Str)) = false)
    (hst : (a :: as).all notStar = true) (ha : SA X (a :: as) fs) : SE X (.Call (.Name x p) (a :: as) [] pos) (eBi g fs) := by
  obtain ⟨r, hr, hs⟩ := hb
  rw [List.all_cons, Bool.and_eq_true] at hst
  exact (pe_callB hr hg hm hv ha hn hdb (star_cons hst.1) (star_none hst.2)).imp fun σ H Q h => bi_core hs h
theorem se_biT {id : String} {g : BF} (hb : BiS X (.type id) g) (hg : Gl X x) (hm : X.mg x = none) (hv : bootBuiltins x = some (.type id)) (hn : x ≠ "__name__") (hdb : (x == ("__debug__" : Str)) = false)
    (hst : (a :: as).all notStar = true) (ha : SA X (a :: as) fs) : SE X (.Call (.Name x p) (a :: as) [] pos) (eBi g fs) := by
  obtain ⟨r, hr, hs⟩ := hb
  rw [List.all_cons, Bool.and_eq_true] at hst
  exact (pe_callTy hr hg hm hv ha hn hdb (star_cons hst.1) (star_none hst.2)).imp fun σ H Q h => bi_core hs h
/-! ### isinstance -/
def TYPES : List String := ["int", "bool", "str", "tuple", "list"]
def kindD : PyData → String
  | .none => "NoneType"
  | .bool _ => "bool"
  | .int _ => "int"
  | .str _ => "str"
  | .list _ => "list"
  | .tuple _ => "tuple"
  | .dict _ => "dict"
theorem kit_none : ∀ T ∈ TYPES, kitB "NoneType" T = some false := by decide +kernel
theorem kit_bool : ∀ T ∈ TYPES, kitB "bool" T = some (T == "int" || T == "bool") := by decide +kernel
theorem kit_int : ∀ T ∈ TYPES, kitB "int" T = some (T == "int") := by decide +kernel
theorem kit_str : ∀ T ∈ TYPES, kitB "str" T = some (T == "str") := by decide +kernel
theorem kit_list : ∀ T ∈ TYPES, kitB "list" T = some (T == "list") := by decide +kernel
theorem kit_tuple : ∀ T ∈ TYPES, kitB "tuple" T = some (T == "tuple") := by decide +kernel
theorem ty_ok {K : PySem.W.Frag} {F : Addr → Prop} {H : Hp} {v : V} {T : String} (hT : T ∈ TYPES) : ∀ {x : PyData}, RT K F H v x → ∃ t, TyX K H v t ∧ PySem.W.kitOne K t (.type T) = some (isType T x)
  | .none, h => by cases h; exact ⟨_, .base .non, kit_ty (kit_none T hT)⟩
  | .bool b, h => by cases h; exact ⟨_, .base (.bl b), kit_ty (kit_bool T hT)⟩
  | .int b, h => by cases h; exact ⟨_, .base (.int b), kit_ty (kit_int T hT)⟩
  | .str b, h => by cases h; exact ⟨_, .base (.str b), kit_ty (kit_str T hT)⟩
  | .list _, ⟨a, vs, e, h1, _⟩ => by subst e; exact ⟨_, .base (.lst h1), kit_ty (kit_list T hT)⟩
  | .tuple _, h => by
    cases h with
    | tup h1 h2 =>
      have k : ∀ K : PySem.W.Frag, PySem.W.kitOne K (.type "tuple") (.type T) = some (isType T (.tuple [])) := fun K => kit_ty (kit_tuple T hT)
      rcases h1 with (h1 | ⟨o, h1⟩) | ⟨o, its, n, h1, h3, _⟩
      · exact ⟨_, .base (.tup h1), k K⟩
      · exact ⟨_, .fTuple h1, k K⟩
      · exact ⟨_, .kTuple h1 h3, k K⟩
  | .dict _, h => nomatch h
theorem se_isi {T : String} {y : Str} {p2 : Pos} (hT : T ∈ TYPES) (ha : SE X a fa) (hna : notStar a = true) (hg : Gl X "isinstance") (hm : X.mg "isinstance" = none) (hgy : Gl X y) (hmy : X.mg y = none) (hvy : bootBuiltins y = some (.type T)) (hny : y ≠ "__name__") (hdy : (y == ("__debug__" : Str)) = false) :
    SE X (.Call (.Name "isinstance" p) [a, .Name y p2] [] pos) (eIsi T fa) := by
  have hy : PE X (.Name y p2) (tC (.ty T)) := pe_bltn (v := V.ty T) hgy hmy hvy rfl hny hdy
  refine (pe_callB call_isi hg hm (by decide +kernel) (pa_cons ha (pa_cons hy pa_nil rfl) (star_cons hna)) (by decide) (by decide) (star_cons hna) rfl).imp fun σ H Q ⟨W, e, μ, r, μ', R, E, hf, q⟩ => ?_
  unfold eIsi at hf
  split at hf
  · rename_i v m1 h1
    split at hf
    · rename_i x hx
      cases hf
      refine ⟨W, e, μ, v, _, R, E, h1, fun W1 H1 u E1 R1 ru => ?_⟩
      obtain ⟨t, ht, hk⟩ := ty_ok hT (rd_ok R1 ru hx)
      exact ⟨u, .ty T, t, .type T, _, rfl, .ty T, ht, hk, q _ _ _ E1 R1 (.bl _)⟩
    · cases hf
  · cases hf
/-! ### list(x), [..] * n -/
theorem sl_of (hg : Gl X "list") (hm : X.mg "list" = none) (hna : notStar a = true) (ha : SE X a fa) : SL X (.Call (.Name "list" p) [a] [] pos) (lOf fa) := by
  refine (pe_callTy call_list_of hg hm (by decide +kernel) (pa_cons ha pa_nil (star_cons hna)) (by decide) (by decide) (star_cons hna) rfl).imp fun σ H Q ⟨W, e, μ, r, μ', R, E, hf, q⟩ => ?_
  unfold lOf at hf
  split at hf
  · rename_i v m1 h1
    cases hx : itemsOf m1 v with
    | none => rw [hx] at hf; cases hf
    | some xs =>
      rw [hx] at hf; cases hf
      refine ⟨W, e, μ, v, _, R, E, h1, fun W1 H1 u E1 R1 ru => ?_⟩
      unfold itemsOf at hx
      split at hx
      · cases hx
        cases ru with
        | lst g1 g2 g3 => exact ⟨_, _, rfl, .inl (.of g2), q _ _ _ E1 R1 g3.rls⟩
      · cases hx
        cases ru with
        | tup g2 g3 => exact ⟨_, _, rfl, .inr g2, q _ _ _ E1 R1 g3.rls⟩
      · split at hx
        · rename_i k ys hk
          cases hx
          obtain ⟨ad, h2, rfl⟩ := ru
          obtain ⟨vs, h3, h4⟩ := R1.cell _ ad _ h2 hk
          exact ⟨ad, vs, rfl, .inl (.of h3), q _ _ _ E1 R1 h4⟩
        · cases hx
      · cases hx
        obtain ⟨ad, vs, rfl, h2, h3⟩ := ru
        exact ⟨ad, vs, rfl, .inl h2.sq, q _ _ _ E1 R1 h3.rls⟩
      · cases hx
  · cases hf
end
end Gg

end
section
/-! GFn: defs that are run while nothing is being shown (repr); calls of them. -/
namespace Gg
open PySem PySem.Spec PyProof.Rows L2

/-- a def keeps its promise, called while no repr is under way -/
structure FnG (P : Program) (w : World) (K : PySem.W.Frag) (mg : Str → Option Value) (base : Heap) (k : Nat) (f : Addr) (fd : FuncData) (ps : List Str) (sp : Sp) : Prop where
  len : ∀ vs H Q E, sp vs H Q E → vs.length = ps.length
  go : ∀ (Ar : Around) (os : List PySem.Env) (s : Shared) (H : Hp) (xs : Args) (us : List Value) (vs : List V) (Q : VK), Ar.guards = some [] → Room k Ar → Env0 P w K mg base Ar os s H → BindsTo s fd xs (ps.zip us) → Vals vs us → sp vs H Q E0 →
    codeAny (model P w) Ar (.call (.ref f) xs) (CR CX0 os P w H s Q E0) s
theorem FnG.mono {P : Program} {w : World} {K : PySem.W.Frag} {mg : Str → Option Value} {base : Heap} {j k : Nat} {f : Addr} {fd : FuncData} {ps : List Str} {sp : Sp} (F : FnG P w K mg base j f fd ps sp) (h : j ≤ k) : FnG P w K mg base k f fd ps sp :=
  ⟨F.len, fun Ar os s H xs us vs Q g r => F.go Ar os s H xs us vs Q g (r.mono h)⟩
section
variable {P : Program} {w : World} {K : PySem.W.Frag} {mg : Str → Option Value} {base : Heap}
/-- by its body -/
theorem fnG_of {x qual : Str} {st : Stmt} {f : Addr} {fd : FuncData} {N ps : List Str} {k : Nat} {sp : Sp} (Fu : Fun K x qual st f fd) (S : FnScope N ps (defScope st)) (len : ∀ vs H Q E, sp vs H Q E → vs.length = ps.length)
    (hb : ∀ (cv : Value) (Ar : Around) (os : List PySem.Env) (s : Shared) (H : Hp) (vs : List V) (Q : VK), Ar.guards = some [] → Room k (Ar.deeper (envOfC qual (defScope st) s.heap.objs.size f cv)) → sp vs H Q E0 →
      ∃ t, PSs (cxOf CX0 P w K mg base N qual (defScope st) f cv Ar os s H E0).nox (defBody st) t ∧ t { nx := fun _ H' => Q .non H', rt := Q } (start N vs) H) : FnG P w K mg base (k + 1) f fd ps sp := by
  obtain ⟨oc, od, kV, doc, pm, an, cv, ct, osl, rfl, look, code⟩ := Fu.ex
  refine ⟨len, fun Ar os s H xs us vs Q hgu hro en hbi rel hsp => ?_⟩
  have hlen := len _ _ _ _ hsp
  have kIn : K.In s.heap := en.mod.kin.keeps fun b o e => (en.bs b o e).1
  have noLim : s.heap.NoLimit := en.mod.nolimit.keeps fun b o e => (en.bs b o e).1
  have kinds : ∀ y ∈ ps.zip us, (defScope st).names.lookup y.1 = some .local ∨ ((defScope st).names.lookup y.1 = some .cell ∧ ((cellsFrom (s.heap.objs.size + 1) (defScope st).names []).lookup y.1).isSome = true) := by
    intro ⟨n, v⟩ hy
    rcases S.par n (List.of_mem_zip hy).1 with q | q
    · exact .inl q
    · exact .inr ⟨q, PySem.W.cellsFrom_some _ _ _ (.inl q)⟩
  refine codeAny_call_function hro.depth (kIn _ _ look) rfl S.co S.gen rfl (PySem.W.codeRec_of kIn code) (hbi _ _ _ _ ?_)
  refine wpAny_newFunctionEnv_cells S.kind kinds fun env henv s1 hx => ?_
  subst henv
  refine ⟨noLim.keeps hx.toInCall.keep, codeAny_func ?_⟩
  obtain ⟨t, ht, hq⟩ := hb cv Ar os s H vs Q hgu (hro.deeper _) hsp
  have J : Inv (cxOf CX0 P w K mg base N qual (defScope st) f cv Ar os s H E0) [] (start N vs) H s1 := inv_start S hro.hd en hlen rel hx
  refine wpAny_mono (ht.nox.run [] s1 (start N vs) H _ J hq) (fun fl s' hs => ?_) fun e s' hs => hs
  cases fl with
  | ret u =>
    obtain ⟨v, σ', H', J', rv, q⟩ := hs
    exact ⟨v, H', J'.os, J'.bare, J'.base, J'.hok, rv, q⟩
  | next =>
    obtain ⟨σ', H', J', q⟩ := hs
    exact ⟨V.non, H', J'.os, J'.bare, J'.base, J'.hok, rfl, q⟩
  | brk => obtain ⟨_, _, _, q⟩ := hs; exact q.elim
  | cont => obtain ⟨_, _, _, q⟩ := hs; exact q.elim
end
section
variable {X : Cx} {k : Nat} {f : Addr} {fd : FuncData} {ps : List Str} {sp : Sp}
theorem run_g {pins : List (Addr × Obj)} {σ : List (Option V)} {H : Hp} {s : Shared} {Q : VK} {us : List Value} {vs : List V} (F : FnG X.prog X.w X.K X.mg X.base k f fd ps sp) (hgu : X.A.guards = some []) (hro : Room k X.A) (hb : Binds X.K fd ps [])
    (I : Inv X pins σ H s) (r : Vals vs us) (h : sp vs H Q E0) : wpAny (model X.prog X.w) X.A (call (.ref f) us) (EP X pins σ Q) X.xe s := by
  have hl : (us ++ ([] : List Value)).length = ps.length := by rw [List.append_nil, ← r.length]; exact F.len _ _ _ _ h
  have hbi := hb s us I.kIn hl
  rw [List.append_nil] at hbi
  refine wpAny_call (codeAny_mono (F.go X.A X.stack s H ⟨us, []⟩ us vs Q hgu hro I.env0 hbi r h) fun res s' hq => ?_)
  cases res with
  | error e => exact False.elim hq
  | ok fl =>
    cases fl with
    | ret u => exact I.after hq
    | next => exact hq.elim
    | brk => exact hq.elim
    | cont => exact hq.elim
theorem pe_callG {x : Str} {e : Expr} {es : List Expr} {p pos : Pos} {t : TA} (F : FnG X.prog X.w X.K X.mg X.base k f fd ps sp) (hgu : X.A.guards = some []) (hro : Room k X.A) (hg : Gl X x) (hm : X.mg x = some (.ref f)) (hk : PySem.W.keepIn X.K (.ref f) = true) (hb : Binds X.K fd ps [])
    (ha : PA X (e :: es) t) (hdb : (x == ("__debug__" : Str)) = false) (he : starEach (e :: es) X.env = (false, eval e X.env) :: starEach es X.env) (hpl : (backTo pos (starEach es X.env)).any (·.1) = false) :
    PE X (.Call (.Name x p) (e :: es) [] pos) (fun σ H Q => t σ H fun vs H1 => sp vs H1 Q E0) := by
  refine ⟨fun pins s σ H Q I h => wpAny_Call_Name_kw (ld_glob I hg hm ?_ hdb)⟩
  exact PySem.W.callWith_K (h₀ := X.base) I.ok.mod.kin hk (thn (ha.run pos pins s σ H _ I h) fun us s1 ⟨vs, H1, I1, r, q⟩ => ⟨I1.kIn, run_g F hgu hro hb I1 r q⟩) he hpl
end
end Gg

end
section
/-! GUse: a call of a def, by what it means over data. -/
namespace Gg
open PySem L2

def cellsOf (cs : List (List PyData)) : Sto := cs.map fun c => Cell.lst (c.map .d)
/-- the promise: it answers as the function over data does -/
def spF (K : PySem.W.Frag) (F : Fn) (np : Nat) : Sp := fun vs H Q _ => ∃ (W : Wd) (ls : List LV) (cs : List (List PyData)) (r : LV) (cs' : List (List PyData)),
  vs.length = np ∧ RLs K W H vs ls ∧ Rel K W H (cellsOf cs) ∧ F ls cs = some (r, cs') ∧
  ∀ (W' : Wd) (H' : Hp) (v : V), Ext W H (cellsOf cs) W' H' (cellsOf cs') → Rel K W' H' (cellsOf cs') → RL K W' H' v r → Q v H'

section
variable {K : PySem.W.Frag} {W : Wd} {H H' : Hp} {μ : Sto}
theorem cells_get {cs : List (List PyData)} {i : Nat} {xs : List LV} (h : (cellsOf cs)[i]? = some (Cell.lst xs)) : ∃ c, cs[i]? = some c ∧ xs = c.map LV.d := by
  unfold cellsOf at h
  rw [List.getElem?_map] at h
  cases q : cs[i]? with
  | none => rw [q] at h; cases h
  | some c => rw [q] at h; cases h; exact ⟨c, rfl, rfl⟩
theorem cells_getC {cs : List (List PyData)} {i : Nat} {d : Cell} (h : (cellsOf cs)[i]? = some d) : ∃ c, cs[i]? = some c ∧ d = Cell.lst (c.map LV.d) := by
  unfold cellsOf at h
  rw [List.getElem?_map] at h
  cases q : cs[i]? with
  | none => rw [q] at h; cases h
  | some c => rw [q] at h; cases h; exact ⟨c, rfl, rfl⟩
theorem cells_live {cs : List (List PyData)} {i : Nat} : live (cellsOf cs) i ↔ i < cs.length := by
  constructor
  · intro h
    have := live_lt h
    unfold cellsOf at this
    rwa [List.length_map] at this
  · intro h
    refine live.l (xs := cs[i].map LV.d) ?_
    unfold cellsOf
    rw [List.getElem?_map, List.getElem?_eq_getElem h]
    rfl
/-- the places that are handed over -/
inductive Ats (m : List Addr) : List Nat → List Addr → Prop
  | nil : Ats m [] []
  | cons {k : Nat} {a : Addr} {ks : List Nat} {as : List Addr} : m[k]? = some a → Ats m ks as → Ats m (k :: ks) (a :: as)
theorem Ats.len {m : List Addr} : ∀ {ks : List Nat} {as : List Addr}, Ats m ks as → as.length = ks.length
  | _, _, .nil => rfl
  | _, _, .cons _ t => by rw [List.length_cons, List.length_cons, Ats.len t]
theorem Ats.get {m : List Addr} : ∀ {ks : List Nat} {as : List Addr} {i : Nat} {a : Addr}, Ats m ks as → as[i]? = some a → ∃ k, ks[i]? = some k ∧ m[k]? = some a
  | _, _, _, _, .nil, h => by simp at h
  | _, _, 0, _, .cons h0 _, h => by simp at h; subst h; exact ⟨_, rfl, h0⟩
  | _, _, i + 1, _, .cons _ t, h => by
    obtain ⟨k, h1, h2⟩ := Ats.get (i := i) t (by simpa using h)
    exact ⟨k, by simpa using h1, h2⟩
theorem Ats.mem {m : List Addr} : ∀ {ks : List Nat} {as : List Addr} {i k : Nat}, Ats m ks as → ks[i]? = some k → ∃ a, as[i]? = some a ∧ m[k]? = some a
  | _, _, _, _, .nil, h => by simp at h
  | _, _, 0, _, .cons h0 _, h => by simp at h; subst h; exact ⟨_, rfl, h0⟩
  | _, _, i + 1, _, .cons _ t, h => by
    obtain ⟨k, h1, h2⟩ := Ats.mem (i := i) t (by simpa using h)
    exact ⟨k, by simpa using h1, h2⟩
theorem flat_len {ks : List Nat} : ∀ {cs : List (List PyData)}, flatCells μ ks = some cs → cs.length = ks.length := by
  induction ks with
  | nil => intro cs h; cases h; rfl
  | cons k ks ih =>
    intro cs h
    simp only [flatCells] at h
    split at h
    · cases q : flatCells μ ks with
      | none => rw [q] at h; cases h
      | some ds => rw [q] at h; cases h; rw [List.length_cons, List.length_cons, ih q]
    · cases h
theorem flat_get {ks : List Nat} : ∀ {cs : List (List PyData)} {i k : Nat}, flatCells μ ks = some cs → ks[i]? = some k → ∃ xs c, cs[i]? = some c ∧ μ[k]? = some (Cell.lst xs) ∧ allD xs = some c := by
  induction ks with
  | nil => intro cs i k h hk; simp at hk
  | cons j ks ih =>
    intro cs i k h hk
    simp only [flatCells] at h
    split at h
    · rename_i c hc
      cases q : flatCells μ ks with
      | none => rw [q] at h; cases h
      | some ds =>
        rw [q] at h; cases h
        cases i with
        | zero =>
          simp at hk; subst hk
          unfold flatCell at hc
          split at hc
          · rename_i xs hx; exact ⟨xs, c, rfl, hx, hc⟩
          · cases hc
        | succ i =>
          obtain ⟨xs, c', h1, h2, h3⟩ := ih q (by simpa using hk)
          exact ⟨xs, c', by simpa using h1, h2, h3⟩
    · cases h
theorem ats_of (R : Rel K W H μ) {ks : List Nat} : ∀ {cs : List (List PyData)}, flatCells μ ks = some cs → ∃ as, Ats W.m ks as := by
  induction ks with
  | nil => intro cs _; exact ⟨[], .nil⟩
  | cons k ks ih =>
    intro cs h
    obtain ⟨xs, c, _, hx, _⟩ := flat_get (i := 0) h rfl
    have hk : k < W.m.length := by rw [R.len]; exact live_lt (live.l hx)
    simp only [flatCells] at h
    split at h
    · cases q : flatCells μ ks with
      | none => rw [q] at h; cases h
      | some ds =>
        obtain ⟨as, ha⟩ := ih q
        exact ⟨W.m[k] :: as, .cons (List.getElem?_eq_getElem hk) ha⟩
    · cases h
theorem renum_ok {as : List Addr} : ∀ {vs : List V} {rs : List LV} {pre rest : List Addr}, rs.all plainArg = true → RLs K W H vs rs → as = pre ++ rest → Ats W.m (refsOf rs) rest → RLs K ⟨as, W.F⟩ H vs (renum pre.length rs)
  | _, _, _, _, _, .nil, _, _ => .nil
  | _, .d x :: rs, pre, rest, p, .cons a t, e, h => .cons a (renum_ok (by simpa [plainArg] using p) t e h)
  | _, .ro x :: rs, pre, rest, p, .cons a t, e, h => .cons a (renum_ok (by simpa [plainArg] using p) t e h)
  | _, .tr _ _ :: rs, pre, rest, p, .cons a t, e, h => by rw [List.all_cons, Bool.and_eq_true] at p; cases p.1
  | _, .ref k :: rs, pre, _, p, .cons (v := v) a t, e, h => by
    simp only [refsOf] at h
    cases h with
    | @cons _ ad _ as' h0 h =>
      obtain ⟨b, hb, rfl⟩ := a
      rw [h0] at hb; cases hb
      have := renum_ok (as := as) (pre := pre ++ [ad]) (rest := as') (by simpa [plainArg] using p) t (by rw [e, List.append_assoc]; rfl) h
      rw [List.length_append] at this
      refine .cons ⟨ad, ?_, rfl⟩ this
      show as[pre.length]? = some ad
      rw [e, List.getElem?_append_right (Nat.le_refl _), Nat.sub_self]
      rfl
theorem put_len : ∀ {ks : List Nat} {cs : List (List PyData)} {μ : Sto}, (putBack μ ks cs).length = μ.length
  | [], [], _ => rfl
  | [], _ :: _, _ => rfl
  | _ :: _, [], _ => rfl
  | k :: ks, c :: cs, μ => by
    simp only [putBack]
    rw [put_len, List.length_set]
theorem put_out {k : Nat} : ∀ {ks : List Nat} {cs : List (List PyData)} {μ : Sto}, k ∉ ks → (putBack μ ks cs)[k]? = μ[k]?
  | [], [], _, _ => rfl
  | [], _ :: _, _, _ => rfl
  | _ :: _, [], _, _ => rfl
  | j :: ks, c :: cs, μ, h => by
    simp only [putBack]
    rw [put_out (fun z => h (List.mem_cons_of_mem _ z)), List.getElem?_set_ne (fun e => h (by rw [e]; exact List.mem_cons_self))]
theorem put_in {k : Nat} {c : List PyData} : ∀ {ks : List Nat} {cs : List (List PyData)} {μ : Sto} {i : Nat}, ks.Nodup → ks[i]? = some k → cs[i]? = some c → k < μ.length → (putBack μ ks cs)[k]? = some (Cell.lst (c.map LV.d))
  | [], _, _, _, _, h, _, _ => by simp at h
  | _ :: _, [], _, _, _, _, h, _ => by simp at h
  | j :: ks, d :: cs, μ, 0, nd, h1, h2, hl => by
    simp at h1 h2; subst h1; subst h2
    simp only [putBack]
    rw [put_out (List.nodup_cons.mp nd).1, List.getElem?_set_self hl]
  | j :: ks, d :: cs, μ, i + 1, nd, h1, h2, hl => by
    simp only [putBack]
    exact put_in (i := i) (List.nodup_cons.mp nd).2 (by simpa using h1) (by simpa using h2) (by rw [List.length_set]; exact hl)
/-- ahead of the call: the callee's own view -/
theorem rel_in (R : Rel K W H μ) {ks : List Nat} {cs : List (List PyData)} {as : List Addr} (nd : ks.Nodup) (hf : flatCells μ ks = some cs) (ha : Ats W.m ks as) : Rel K ⟨as, W.F⟩ H (cellsOf cs) := by
  have hl := flat_len hf
  refine ⟨?_, fun i a xs h1 h2 _ => ?_, fun i j a hi hj h1 h2 => ?_, fun a h => ⟨(R.frz a h).1, fun i hi h1 => ?_⟩⟩
  · unfold cellsOf; rw [List.length_map, hl]; exact ha.len
  · obtain ⟨c, hc, rfl⟩ := cells_getC h2
    obtain ⟨k, hk1, hk2⟩ := ha.get h1
    obtain ⟨ys, c', g1, g2, g3⟩ := flat_get hf hk1
    rw [hc] at g1; cases g1
    obtain ⟨vs, q1, q2⟩ := R.cell k a ys hk2 g2
    have q3 : RPs K W.F H vs c := q2.all g3
    exact ⟨.lst vs, q1, RPs.rls (W := ⟨as, W.F⟩) q3⟩
  · obtain ⟨k, hk1, hk2⟩ := ha.get h1
    obtain ⟨l, hl1, hl2⟩ := ha.get h2
    obtain ⟨ys, _, _, g2, _⟩ := flat_get hf hk1
    obtain ⟨zs, _, _, g3, _⟩ := flat_get hf hl1
    have e := R.inj k l a (live.l g2) (live.l g3) hk2 hl2
    subst e
    exact (List.getElem?_inj (List.getElem?_eq_some_iff.mp hk1).1 nd).mp (hk1.trans hl1.symm)
  · obtain ⟨k, hk1, hk2⟩ := ha.get h1
    obtain ⟨ys, _, _, g2, _⟩ := flat_get hf hk1
    exact (R.frz a h).2 k (live.l g2) hk2
/-- behind it: the caller's view -/
theorem ext_out (R : Rel K W H μ) {ks : List Nat} {cs cs' : List (List PyData)} {as : List Addr} {F' : Addr → Prop} (nd : ks.Nodup) (hf : flatCells μ ks = some cs) (ha : Ats W.m ks as) (hc : cs'.length = cs.length)
    (E : Ext ⟨as, W.F⟩ H (cellsOf cs) ⟨as, F'⟩ H' (cellsOf cs')) (R' : Rel K ⟨as, F'⟩ H' (cellsOf cs')) : Ext W H μ ⟨W.m, F'⟩ H' (putBack μ ks cs') ∧ Rel K ⟨W.m, F'⟩ H' (putBack μ ks cs') := by
  have hl := flat_len hf
  have lv : ∀ {i k : Nat}, ks[i]? = some k → live μ k := fun h => let ⟨ys, _, _, g2, _⟩ := flat_get hf h; live.l g2
  have lvP : ∀ {k : Nat}, live (putBack μ ks cs') k → live μ k := by
    intro k h
    by_cases hk : k ∈ ks
    · obtain ⟨i, hi⟩ := List.getElem?_of_mem hk
      exact lv hi
    · obtain ⟨ys, h, hd⟩ := h
      rw [put_out hk] at h
      exact ⟨ys, h, hd⟩
  have notAs : ∀ {a : Addr} {k : Nat}, k ∉ ks → live μ k → W.m[k]? = some a → ∀ i, live (cellsOf cs) i → as[i]? ≠ some a := by
    intro a k hk lk hm i _ hi
    obtain ⟨j, hj1, hj2⟩ := ha.get hi
    have := R.inj j k a (lv hj1) lk hj2 hm
    subst this
    exact hk (List.mem_of_getElem? hj1)
  have E' : Ext W H μ ⟨W.m, F'⟩ H' (putBack μ ks cs') := by
    refine ⟨⟨[], by simp, by simp⟩, E.F, E.dom, fun a o h n => E.keep a o h fun i hi h1 => ?_, fun a h => ?_, fun k _ h => lvP h⟩
    · obtain ⟨j, hj1, hj2⟩ := ha.get h1
      exact n j (lv hj1) hj2
    · rcases E.Fnew a h with z | z | ⟨i, hi, h1⟩
      · exact .inl z
      · exact .inr (.inl z)
      · obtain ⟨j, hj1, hj2⟩ := ha.get h1
        exact .inr (.inr ⟨j, lv hj1, hj2⟩)
  refine ⟨E', by rw [put_len]; exact R.len, fun k a xs h1 h2 hd => ?_, fun i j a hi hj => R.inj i j a (lvP hi) (lvP hj), fun a h => ⟨(R'.frz a h).1, fun k hk h1 => ?_⟩⟩
  · by_cases hk : k ∈ ks
    · obtain ⟨i, hi⟩ := List.getElem?_of_mem hk
      have il : i < cs'.length := by rw [hc, hl]; exact (List.getElem?_eq_some_iff.mp hi).1
      have hp := put_in (c := cs'[i]) nd hi (List.getElem?_eq_getElem il) (live_lt (lv hi))
      rw [hp] at h2
      have e2 : xs = Cell.lst (cs'[i].map LV.d) := (Option.some.inj h2).symm
      obtain ⟨b, hb1, hb2⟩ := ha.mem hi
      rw [h1] at hb2; cases hb2
      have hcell : (cellsOf cs')[i]? = some (Cell.lst (cs'[i].map LV.d)) := by
        unfold cellsOf; rw [List.getElem?_map, List.getElem?_eq_getElem il]; rfl
      obtain ⟨vs, q1, q2⟩ := R'.cell i a _ hb1 hcell
      refine ⟨.lst vs, q1, ?_⟩
      rw [e2]
      have allc : ∀ c : List PyData, allD (c.map LV.d) = some c := by
        intro c
        induction c with
        | nil => rfl
        | cons x c ih => simp only [List.map_cons, allD, ih]; rfl
      exact RPs.rls (W := ⟨W.m, F'⟩) (q2.all (allc _))
    · rw [put_out hk] at h2
      obtain ⟨vs, q1, q2⟩ := R.cel k a xs h1 h2 hd
      exact ⟨vs, E.keep a _ q1 (notAs hk ⟨xs, h2, hd⟩ h1), CeR.mono E' R q2⟩
  · by_cases hks : k ∈ ks
    · obtain ⟨i, hi⟩ := List.getElem?_of_mem hks
      obtain ⟨b, hb1, hb2⟩ := ha.mem hi
      have h1 : W.m[k]? = some a := h1
      rw [h1] at hb2; cases hb2
      have il : i < cs'.length := by rw [hc, hl]; exact (List.getElem?_eq_some_iff.mp hi).1
      exact (R'.frz a h).2 i (cells_live.mpr il) hb1
    · have lk := lvP hk
      rcases E.Fnew a h with z | z | ⟨i, hi, g1⟩
      · exact (R.frz a z).2 k lk h1
      · exact R.notNew z k lk h1
      · exact notAs hks lk h1 i hi g1
/-- one more list is the caller's -/
theorem Rel.adopt (R : Rel K W H μ) {b : Addr} {vs : List V} {c : List PyData} (hb : H b = some (.lst vs)) (hv : RPs K W.F H vs c) (n1 : ∀ k, live μ k → W.m[k]? ≠ some b) (n2 : ¬ W.F b) : Rel K (W.more b) H (μ ++ [.lst (c.map .d)]) := by
  have old : ∀ {k : Nat} {a : Addr}, k < μ.length → (W.m ++ [b])[k]? = some a → W.m[k]? = some a := fun {k a} hk h => by
    rw [List.getElem?_append_left (by rw [R.len]; exact hk)] at h; exact h
  have oldm : ∀ {k : Nat} {ys : Cell}, k < μ.length → (μ ++ [Cell.lst (c.map .d)])[k]? = some ys → μ[k]? = some ys := fun {k ys} hk h => by
    rw [List.getElem?_append_left hk] at h; exact h
  have last : ∀ {k : Nat}, k < (μ ++ [Cell.lst (c.map .d)]).length → ¬ k < μ.length → k = μ.length := fun {k} h1 h2 => by
    rw [List.length_append] at h1; simp at h1; omega
  have hl : ∀ {k : Nat}, live (μ ++ [Cell.lst (c.map .d)]) k → k < μ.length → live μ k := fun {k} ⟨ys, h, hd⟩ hk => ⟨ys, oldm hk h, hd⟩
  have atp : ∀ {k : Nat} {a : Addr}, k = μ.length → (W.m ++ [b])[k]? = some a → a = b := fun {k a} hk h => by
    rw [hk, ← R.len, List.getElem?_append_right (Nat.le_refl _), Nat.sub_self] at h
    exact (Option.some.inj h).symm
  have E : Ext W H μ (W.more b) H μ → True := fun _ => trivial
  have up : ∀ {us : List V} {ys : List LV}, RLs K W H us ys → RLs K (W.more b) H us ys := by
    intro us ys h
    induction h with
    | nil => exact .nil
    | @cons v vs x xs r _ ih =>
      refine .cons ?_ ih
      have at' : ∀ {k : Nat} {a : Addr}, W.m[k]? = some a → (W.m ++ [b])[k]? = some a := fun {k a} h => by
        rw [List.getElem?_append_left (List.getElem?_eq_some_iff.mp h).1]; exact h
      cases x with
      | d y => exact r
      | ref k => obtain ⟨a, h1, h2⟩ := r; exact ⟨a, at' h1, h2⟩
      | ro y => exact r
      | tr pre k => obtain ⟨a, us, b', h1, h2, h3, h4⟩ := r; exact ⟨a, us, b', h1, h2, h3, at' h4⟩
  have upk : ∀ {us : List (Key × V)} {ys : List (Key × LV)}, RKs K W H us ys → RKs K (W.more b) H us ys := by
    intro us ys h
    induction h with
    | nil => exact .nil
    | cons r _ ih =>
      cases up (.cons r .nil) with
      | cons r' _ => exact .cons r' ih
  have upc : ∀ {o : HO} {d : Cell}, CeR K W H o d → CeR K (W.more b) H o d := by
    intro o d h
    cases o with
    | lst us =>
      cases d with
      | lst ys => exact up h
      | _ => exact h.elim
    | dK us =>
      cases d with
      | dct ys => exact upk h
      | _ => exact h.elim
    | _ => exact h.elim
  refine ⟨by simp [R.len], fun k a ys h1 h2 hd => ?_, fun j k a hj hk h1 h2 => ?_, fun a h => ?_⟩
  · by_cases hk : k < μ.length
    · obtain ⟨ws, q1, q2⟩ := R.cel k a ys (old hk h1) (oldm hk h2) hd
      exact ⟨ws, q1, upc q2⟩
    · have ek := last (List.getElem?_eq_some_iff.mp h2).1 hk
      have ea := atp ek h1
      subst ea
      rw [ek, List.getElem?_append_right (Nat.le_refl _), Nat.sub_self] at h2
      have e2 : Cell.lst (c.map LV.d) = ys := Option.some.inj h2
      subst e2
      exact ⟨.lst vs, hb, up hv.rls⟩
  · by_cases a1 : j < μ.length
    · by_cases a2 : k < μ.length
      · exact R.inj j k a (hl hj a1) (hl hk a2) (old a1 h1) (old a2 h2)
      · have ea := atp (last (live_lt hk) a2) h2
        subst ea
        exact absurd (old a1 h1) (n1 j (hl hj a1))
    · have ea := atp (last (live_lt hj) a1) h1
      subst ea
      by_cases a2 : k < μ.length
      · exact absurd (old a2 h2) (n1 k (hl hk a2))
      · rw [last (live_lt hj) a1, last (live_lt hk) a2]
  · refine ⟨(R.frz a h).1, fun k lk hk => ?_⟩
    by_cases a2 : k < μ.length
    · exact (R.frz a h).2 k (hl lk a2) (old a2 hk)
    · have ea := atp (last (live_lt lk) a2) hk
      rw [ea] at h; exact n2 h
theorem Ext.adopt {W0 : Wd} {H0 : Hp} {μ0 : Sto} (E : Ext W0 H0 μ0 W H μ) (R : Rel K W H μ) {b : Addr} {x : Cell} (hb : H0 b = none) : Ext W0 H0 μ0 (W.more b) H (μ ++ [x]) := by
  obtain ⟨r, er, nr⟩ := E.pre
  refine ⟨⟨r ++ [b], by show W.m ++ [b] = _; rw [er, List.append_assoc], fun a ha => ?_⟩, E.F, E.dom, E.keep, E.Fnew, fun k hk ⟨ys, h, hd⟩ => E.lv k hk ⟨ys, ?_, hd⟩⟩
  · rcases List.mem_append.mp ha with ha | ha
    · exact nr a ha
    · rw [List.mem_singleton.mp ha]; exact hb
  · have : k < μ.length := by rw [← R.len, er, List.length_append]; omega
    rw [List.getElem?_append_left this] at h
    exact h
theorem map_allD : ∀ c : List PyData, allD (c.map LV.d) = some c
  | [] => rfl
  | x :: c => by simp only [List.map_cons, allD, map_allD c]; rfl
/-- without the new list -/
theorem rel_pop {as : List Addr} {b : Addr} {F' : Addr → Prop} {cs' : List (List PyData)} {n : Nat} (hn : as.length = n) (hc : cs'.length = n + 1) (R : Rel K ⟨as ++ [b], F'⟩ H' (cellsOf cs')) : Rel K ⟨as, F'⟩ H' (cellsOf (cs'.take n)) := by
  have cl : (cs'.take n).length = n := by rw [List.length_take]; omega
  have at' : ∀ {k : Nat} {a : Addr}, as[k]? = some a → (as ++ [b])[k]? = some a := fun {k a} h => by
    rw [List.getElem?_append_left (List.getElem?_eq_some_iff.mp h).1]; exact h
  have lv : ∀ {k : Nat}, live (cellsOf (cs'.take n)) k → live (cellsOf cs') k := fun h => by
    rw [cells_live] at h ⊢; omega
  refine ⟨?_, fun k a xs h1 h2 _ => ?_, fun j k a hj hk h1 h2 => R.inj j k a (lv hj) (lv hk) (at' h1) (at' h2), fun a h => ⟨(R.frz a h).1, fun k hk h1 => (R.frz a h).2 k (lv hk) (at' h1)⟩⟩
  · show as.length = _
    unfold cellsOf
    rw [List.length_map, cl, hn]
  · obtain ⟨c, hc', rfl⟩ := cells_getC h2
    have hk : k < n := by rw [← cl]; exact (List.getElem?_eq_some_iff.mp hc').1
    rw [List.getElem?_take_of_lt hk] at hc'
    have hcell : (cellsOf cs')[k]? = some (Cell.lst (c.map LV.d)) := by
      unfold cellsOf; rw [List.getElem?_map, hc']; rfl
    obtain ⟨vs, q1, q2⟩ := R.cell k a _ (at' h1) hcell
    exact ⟨.lst vs, q1, RPs.rls (W := ⟨as, F'⟩) (q2.all (map_allD c))⟩
theorem ext_pop {as as0 : List Addr} {b : Addr} {F0 F' : Addr → Prop} {cs cs' : List (List PyData)} {n : Nat} (hcs : cs.length = n) (e0 : as0 = as) (hn : as.length = n)
    (E : Ext ⟨as0, F0⟩ H (cellsOf cs) ⟨as ++ [b], F'⟩ H' (cellsOf cs')) : Ext ⟨as0, F0⟩ H (cellsOf cs) ⟨as, F'⟩ H' (cellsOf (cs'.take n)) := by
  subst e0
  refine ⟨⟨[], by simp, by simp⟩, E.F, E.dom, E.keep, E.Fnew, fun k hk _ => ?_⟩
  rw [cells_live, hcs, ← hn]
  exact hk
end
/-! ### the rule -/
/-- a def of the text that may be called by its name -/
structure CallOk (X : Cx) (x : Str) (F : Fn) : Prop where
  ex : ∃ (k : Nat) (f : Addr) (fd : FuncData) (ps : List Str), FnG X.prog X.w X.K X.mg X.base k f fd ps (spF X.K F ps.length) ∧ Room k X.A ∧ X.mg x = some (.ref f) ∧ PySem.W.keepIn X.K (.ref f) = true ∧ Binds X.K fd ps [] ∧ ∀ ls cs r, F ls cs = some r → ls.length = ps.length
section
variable {X : Cx} {a : Expr} {as : List Expr} {fs : List EM} {pos p : Pos} {x : Str}
theorem se_call {F : Fn} (hc : CallOk X x F) (hgu : X.A.guards = some []) (hg : Gl X x) (hdb : (x == ("__debug__" : Str)) = false) (hst : (a :: as).all notStar = true) (ha : SA X (a :: as) fs) : SE X (.Call (.Name x p) (a :: as) [] pos) (eCall F fs) := by
  obtain ⟨k, f, fd, ps, hF, hr, hm, hk, hb, hnp⟩ := hc.ex
  rw [List.all_cons, Bool.and_eq_true] at hst
  refine (pe_callG hF hgu hr hg hm hk hb ha hdb (star_cons hst.1) (star_none hst.2)).imp fun σ H Q ⟨W, e, μ, r, μ', R, E, hf, q⟩ => ?_
  unfold eCall at hf
  split at hf
  · rename_i vs m1 h1
    refine ⟨W, e, μ, vs, m1, R, E, h1, fun W1 H1 us E1 R1 rs => ?_⟩
    have lenR : ∀ {n : Nat} {l : List LV}, (renum n l).length = l.length := by
      intro n l
      induction l generalizing n with
      | nil => rfl
      | cons y l ih => cases y <;> simp [renum, ih]
    unfold callF at hf
    split at hf
    · rename_i hp
      obtain ⟨hp, nd⟩ := hp
      split at hf
      · rename_i cs hcs
        split at hf
        · rename_i r1 cs' hq
          obtain ⟨ads, hads⟩ := ats_of R1 hcs
          have adl : ads.length = cs.length := by rw [hads.len, flat_len hcs]
          refine ⟨⟨ads, W1.F⟩, renum 0 vs, cs, r1, cs', ?_, renum_ok (pre := []) (rest := ads) hp rs rfl hads, rel_in R1 nd hcs hads, hq, fun W2 H2 v E2 R2 rv => ?_⟩
          · rw [rs.length, ← lenR (n := 0)]; exact hnp _ _ _ hq
          obtain ⟨m2, F2⟩ := W2
          obtain ⟨rr, er, nr⟩ := E2.pre
          have er : m2 = ads ++ rr := er
          have lenm : m2.length = cs'.length := by
            have := R2.len
            unfold cellsOf at this
            rwa [List.length_map] at this
          -- one new list
          have one : cs'.length = cs.length + 1 → ∃ b c, cs'[cs.length]? = some c ∧ m2[cs.length]? = some b ∧ Ext W H μ ⟨W1.m ++ [b], F2⟩ H2 (putBack m1 (refsOf vs) (cs'.take cs.length) ++ [.lst (c.map .d)]) ∧
              Rel X.K ⟨W1.m ++ [b], F2⟩ H2 (putBack m1 (refsOf vs) (cs'.take cs.length) ++ [.lst (c.map .d)]) ∧ (W1.m ++ [b])[m1.length]? = some b := by
            intro hl
            have lr : rr.length = 1 := by
              have := congrArg List.length er
              rw [List.length_append] at this; omega
            obtain ⟨b, rfl⟩ : ∃ b, rr = [b] := by
              match rr, lr with
              | [b], _ => exact ⟨b, rfl⟩
            subst er
            have hbn : H1 b = none := nr b (List.mem_singleton.mpr rfl)
            have E3 := ext_pop rfl rfl adl E2
            have R3 := rel_pop adl hl R2
            obtain ⟨E4, R4⟩ := ext_out R1 nd hcs hads (by rw [List.length_take]; omega) E3 R3
            have hi : cs.length < cs'.length := by omega
            have hm2 : (ads ++ [b])[cs.length]? = some b := by rw [← adl, List.getElem?_append_right (Nat.le_refl _), Nat.sub_self]; rfl
            have hcell : (cellsOf cs')[cs.length]? = some (Cell.lst ((cs'[cs.length]).map LV.d)) := by
              unfold cellsOf; rw [List.getElem?_map, List.getElem?_eq_getElem hi]; rfl
            obtain ⟨ws, g1, g2⟩ := R2.cell _ b _ hm2 hcell
            have n1 : ∀ j, live (putBack m1 (refsOf vs) (cs'.take cs.length)) j → W1.m[j]? ≠ some b := by
              intro j lj hj
              exact R1.notNew hbn j (E4.lv j (List.getElem?_eq_some_iff.mp hj).1 lj) hj
            have n2 : ¬ F2 b := fun hF => (R2.frz b hF).2 cs.length (cells_live.mpr hi) hm2
            have R5 := R4.adopt g1 (g2.all (map_allD _)) n1 n2
            have E5 := E4.adopt R4 (x := .lst ((cs'[cs.length]).map LV.d)) hbn
            refine ⟨b, cs'[cs.length], List.getElem?_eq_getElem hi, hm2, E1.trans E5, R5, ?_⟩
            rw [← R1.len, List.getElem?_append_right (Nat.le_refl _), Nat.sub_self]; rfl
          cases r1 with
          | d x =>
            simp only [backF] at hf
            split at hf
            · rename_i hl
              cases hf
              have e0 : rr = [] := by
                have := congrArg List.length er
                rw [List.length_append] at this
                exact List.length_eq_zero_iff.mp (by omega)
              subst e0
              rw [List.append_nil] at er
              subst er
              obtain ⟨E3, R3⟩ := ext_out R1 nd hcs hads hl E2 R2
              exact q _ _ _ (E1.trans E3) R3 rv
            · cases hf
          | ref j =>
            simp only [backF] at hf
            split at hf
            · rename_i hl
              obtain ⟨b, c, g1, g2, g3, g4, g5⟩ := one hl.2
              rw [g1] at hf
              cases hf
              obtain ⟨a, ha1, ha2⟩ := rv
              rw [hl.1] at ha1
              have ha1 : m2[cs.length]? = some a := ha1
              rw [g2] at ha1; cases ha1
              exact q _ _ _ g3 g4 ⟨b, g5, ha2⟩
            · cases hf
          | tr pre j =>
            simp only [backF] at hf
            split at hf
            · rename_i hl
              obtain ⟨b, c, g1, g2, g3, g4, g5⟩ := one hl.2
              rw [g1] at hf
              cases hf
              obtain ⟨a, us', b', ha1, ha2, ha3, ha4⟩ := rv
              rw [hl.1] at ha4
              have ha4 : m2[cs.length]? = some b' := ha4
              rw [g2] at ha4; cases ha4
              exact q _ _ _ g3 g4 ⟨a, us', b, ha1, ha2, ha3, g5⟩
            · cases hf
          | ro _ => cases hf
        · cases hf
      · cases hf
    · cases hf
  · cases hf
end
end Gg

end
section
/-! GEnum: enumerate over a tuple; a walk over a list or a tuple, whichever it is. -/
namespace Gg
open PySem PySem.Spec PyProof.Rows L2

set_option maxHeartbeats 1000000 in
theorem enum1_meets {u : Value} {ob : Obj} {Hh : Heap → Prop} (B : Begins u ob Hh) :
    Meets (Builtin.«enumerate.__new__» ⟨[.type "enumerate", u], []⟩) (fun _ R s => Hh s.heap ∧
      R (.ok (.ret (.ref (s.heap.push ob).objs.size))) { s with heap := (s.heap.push ob).push { cls := .type "enumerate", data := .fields #[.none, .bool false, .ref s.heap.objs.size, rawInt 0, .none, .none] } }) :=
  .of_wp fun prog w A R s hyp => by
    obtain ⟨hp, ge, dr, tk, os⟩ := s; obtain ⟨h1, h2⟩ := hyp
    have issub := sub_enumerate
    have step : ∀ {A' : Around} {E : Value → Shared → Prop} {Q : Value → Shared → Prop}, Q (.ref hp.objs.size) ⟨hp.push ob, ge, dr, tk, os⟩ → wpAny (model prog w) A' (pyIter u) Q E ⟨hp, ge, dr, tk, os⟩ :=
      fun q => B.iter prog w _ _ ⟨hp, ge, dr, tk, os⟩ _ h1 q
    wp_walk using step
    refine wpAny_stack_any fun stk => wpAny_pure ?_
    split
    · rename_i cc _ _ _ _ _
      cases (cc == Value.type "enumerate")
      · wp_walk using step
        exact ⟨_, rfl, h2⟩
      · wp_walk using step
        exact ⟨_, rfl, h2⟩
    · wp_walk using step
      exact ⟨_, rfl, h2⟩
section
variable {prog : Program} {w : World} {A : Around} {E : Value → Shared → Prop} {s : Shared}
theorem enum1_begins {u : Value} {ob : Obj} {Hh : Heap → Prop} {Q : Value → Shared → Prop} (B : Begins u ob Hh) (h1 : Hh s.heap)
    (h : ∀ h', IsEnum h' (s.heap.objs.size + 1) s.heap.objs.size 0 .none → h'.get? s.heap.objs.size = some ob → h'.objs.size = s.heap.objs.size + 2 →
      (∀ b o, s.heap.get? b = some o → h'.get? b = some o) → Q (.ref (s.heap.objs.size + 1)) { s with heap := h' }) : wpAny (model prog w) A (call (.type "enumerate") [u]) Q E s := by
  refine callType_new F.called_enumerate (by decide) (F.typeCall_enumerate_1 _) (F.newCall_enumerate_1 _) (fun obj => F.args_object_init_2 obj _) F.entry_enumerate_new (enum1_meets B) ⟨h1, ?_⟩
  have sz : (s.heap.push ob).objs.size = s.heap.objs.size + 1 := Heap.size_push ..
  show _ ∧ _
  rw [sz]
  have he : IsEnum ((s.heap.push ob).push { cls := .type "enumerate", data := .fields #[.none, .bool false, .ref s.heap.objs.size, rawInt 0, .none, .none] }) (s.heap.objs.size + 1) s.heap.objs.size 0 .none := by
    have hq := Heap.get?_push_size (s.heap.push ob) (o := { cls := .type "enumerate", data := .fields #[.none, .bool false, .ref s.heap.objs.size, rawInt 0, .none, .none] }) rfl
    rw [sz] at hq; exact hq
  exact ⟨⟨_, he, rfl⟩, h _ he (Heap.get?_push_of_some _ (Heap.get?_push_size _ B.free)) (by rw [Heap.size_push, sz]) fun b o x => Heap.get?_push_of_some _ (Heap.get?_push_of_some _ x)⟩
end
/-- the tuple at a, its items in new pairs with their places -/
def ItE (K : PySem.W.Frag) (a : Addr) : It :=
  ⟨fun i H => ∃ (xs : List V) (x : V), SqT K H a xs ∧ xs[i]? = some x, fun i H v H' => ∃ T x, v = .ref T ∧ H T = none ∧ H' = upd H T (.tup [.int (i : Nat), x]) ∧ ∀ xs, SqT K H a xs → xs[i]? = some x, fun i H => ∃ xs : List V, SqT K H a xs ∧ xs.length = i⟩
theorem turn_enumT {P : Program} {w : World} {K : PySem.W.Frag} {elts : List Expr} {kk : Nat} {tpos : Pos} (a e it : Addr) :
    Turn P w K (.Tuple elts kk tpos) (ItE K a) [e, it] e (fun i h => (∃ old, IsEnum h e it ((i : Nat) : Int) old) ∧ h.IsTupleIter it a i ∧ e ≠ it) where
  mem := by simp
  obj := by
    intro i h st b hb
    obtain ⟨⟨old, he⟩, ⟨o, ho, hc, hd⟩, _⟩ := st
    rcases (show b = e ∨ b = it by simpa using hb) with z | z
    · subst z; exact ⟨_, he, fun v q => nomatch q⟩
    · subst z; exact ⟨o, ho, fun v q => by rw [hd] at q; cases q⟩
  keep := fun i h h' st k => ⟨⟨st.1.choose, k e (by simp) _ st.1.choose_spec⟩, st.2.1.at fun o q => k it (by simp) o q, st.2.2⟩
  item := by
    intro X hP hw hK hc i pins s σ H E I hf st hg
    subst hP hw hK
    obtain ⟨⟨old, he⟩, hit, hne⟩ := st
    obtain ⟨xs, x, hq, hx⟩ := hg
    obtain ⟨its, rv, tp, _⟩ := I.tuple hq
    obtain ⟨u, hu, ru⟩ := rv.get hx
    have ht : s.heap.IsTuple a its.toArray := tp
    have el : e < s.heap.objs.size := Heap.lt_size he
    have il : it < s.heap.objs.size := by obtain ⟨_, q, _⟩ := hit; exact Heap.lt_size q
    have ha : a ≠ it := by
      rintro rfl
      obtain ⟨o1, e1, c1, _⟩ := hit
      obtain ⟨o2, e2, c2, _⟩ := ht
      rw [e1] at e2; cases e2
      rw [c1] at c2; exact absurd (Value.type.inj c2) (by decide)
    have hae : e ≠ a := by
      rintro rfl
      obtain ⟨o2, e2, c2, _⟩ := ht
      have q := Option.some.inj (he.symm.trans e2)
      rw [← q] at c2
      exact absurd (Value.type.inj c2) (by decide)
    have hi : i < its.toArray.size := by
      have := (List.getElem?_eq_some_iff.mp hu).1
      simpa using this
    refine wpAny_pyNext_enum_itemC (Draws.tuple (show X.A.in1.handled = none from I.ok.hd hc) it a ha its.toArray) he ⟨hit, ht⟩ hi hne (by simp [hne, hae]) fun y h' tk hy ho st' hT hsz hk => ?_
    have ey : y = u := by
      have h1 : its.toArray[i]? = some y := hy
      have h2 : its.toArray[i]? = some u := by simpa using hu
      exact Option.some.inj (h1.symm.trans h2)
    subst ey
    refine ⟨_, rfl, wpAny_letOwnedTupleGo_enum (s := { s with heap := h', toks := tk + 1 }) ho fun h'' he' sb => ?_⟩
    have hT2 : h''.get? s.heap.objs.size = some { cls := .type "tuple", data := .seq #[.int i tk, y] } := (sb.2 _ (Nat.ne_of_gt el)).trans hT
    have new : ObjOk X.prog X.w (upd H s.heap.objs.size (.tup [.int (i : Nat), x])) h'' s.heap.objs.size (.tup [.int (i : Nat), x]) :=
      ⟨show 2 ≤ sizeLine by decide, [.int i tk, y], .cons ⟨_, rfl⟩ (.cons ru .nil), ⟨_, hT2, rfl, _, rfl⟩⟩
    have I1 : Inv X pins σ (upd H s.heap.objs.size (.tup [.int (i : Nat), x])) { s with heap := h'', toks := tk + 1 } :=
      I.turnedNew (ch := [e, it]) (fun b ob hb q => (sb.2 b fun z => hb (by simp [z])).trans (hk b ob (fun z => hb (by simp [z])) (fun z => hb (by simp [z])) q)) hf (Nat.le_refl _) new
    refine ⟨.ref s.heap.objs.size, _, I1, rfl, ⟨_, x, rfl, I.hok.fresh (Nat.le_refl _), rfl, fun ys hy => by rw [I.tuple_inj hy hq]; exact hx⟩, ⟨⟨y, ?_⟩, st'.1.at fun o q => (sb.2 it (Ne.symm hne)).trans q, hne⟩, fun b hb => ?_⟩
    · rw [show ((i + 1 : Nat) : Int) = (i : Int) + 1 by omega]
      exact he'
    · have lt : b < s.heap.objs.size := by
        rcases (show b = e ∨ b = it by simpa using hb) with z | z
        · rw [z]; exact el
        · rw [z]; exact il
      rw [upd_ne (Nat.ne_of_lt lt)]
      exact (hf b hb).1
  done := by
    intro X hP hw hK hc i pins s σ H E I hf st hg
    subst hP hw hK
    obtain ⟨⟨old, he⟩, hit, hne⟩ := st
    obtain ⟨xs, hq, hx⟩ := hg
    obtain ⟨its, rv, tp, _⟩ := I.tuple hq
    have ht : s.heap.IsTuple a its.toArray := tp
    obtain ⟨f0, f1, f2, f3, f4, f5⟩ := hf it (by simp)
    have hl := rv.length
    have ha : a ≠ it := by
      rintro rfl
      obtain ⟨o1, e1, c1, _⟩ := hit
      obtain ⟨o2, e2, c2, _⟩ := ht
      rw [e1] at e2; cases e2
      rw [c1] at c2; exact absurd (Value.type.inj c2) (by decide)
    have hi : i = its.toArray.size := by rw [List.size_toArray]; omega
    exact wpAny_pyNext_enum_endD (Draws.tuple (show X.A.in1.handled = none from I.ok.hd hc) it a ha its.toArray) he (show s.heap.IsTupleIter it a its.toArray.size ∧ s.heap.IsTuple a its.toArray by rw [← hi]; exact ⟨hit, ht⟩) fun h' eb => ⟨rfl, I.turned (t' := s.toks) (fun b o hb q => eb b o hb q) f0 f1 f3 f4 f5⟩
  self := fun A i s Q E st h => wpAny_pyIter_enum st.1.choose_spec h
end Gg

end
section
/-! GLoop: targets; what a loop walks. -/
namespace Gg
open PySem L2

/-! ### targets -/
/-- stored at slots within L -/
def tG (K : PySem.W.Frag) (L : List Nat) (t : TM) : TG := fun v σ H Q => ∃ W lv e μ e' μ', Rel K W H μ ∧ EnvOk K W H σ e ∧ RL K W H v lv ∧ t lv e μ = some (e', μ') ∧
  ∀ W' H' σ', Ext W H μ W' H' μ' → Rel K W' H' μ' → EnvOk K W' H' σ' e' → (σ'.length = σ.length ∧ ∀ i : Nat, i ∉ L → σ'[i]? = σ[i]?) → Q σ' H'
def tGs (K : PySem.W.Frag) (L : List Nat) (ts : List TM) : TGs := fun vs σ H Q => ∃ W ls e μ e' μ', Rel K W H μ ∧ EnvOk K W H σ e ∧ RLs K W H vs ls ∧ toAll ts ls e μ = some (e', μ') ∧
  ∀ W' H' σ', Ext W H μ W' H' μ' → Rel K W' H' μ' → EnvOk K W' H' σ' e' → (σ'.length = σ.length ∧ ∀ i : Nat, i ∉ L → σ'[i]? = σ[i]?) → Q σ' H'
abbrev SG (X : Cx) (a : Expr) (L : List Nat) (t : TM) : Prop := PG X a (tG X.K L t)
abbrev SGs (X : Cx) (as : List Expr) (L : List Nat) (ts : List TM) : Prop := PGs X as (tGs X.K L ts)
theorem _root_.L2.PG.imp {X : Cx} {a : Expr} {t t' : TG} (h : PG X a t) (w : ∀ v σ H Q, t' v σ H Q → t v σ H Q) : PG X a t' := ⟨fun pins s σ H v u Q I r q => h.run pins s σ H v u Q I r (w v σ H Q q)⟩
theorem _root_.L2.PGs.imp {X : Cx} {a : List Expr} {t t' : TGs} (h : PGs X a t) (w : ∀ v σ H Q, t' v σ H Q → t v σ H Q) : PGs X a t' := ⟨fun pins s σ H v u Q I r q => h.run pins s σ H v u Q I r (w v σ H Q q)⟩
section
variable {K : PySem.W.Frag} {W : Wd} {H : Hp} {σ : List (Option V)} {e : Env}
theorem EnvOk.set {v : V} {lv : LV} (h : EnvOk K W H σ e) (r : RL K W H v lv) (i : Nat) : EnvOk K W H (σ.set i (some v)) (e.set i (some lv)) := by
  refine ⟨by rw [List.length_set, List.length_set]; exact h.1, fun j lw hj => ?_⟩
  by_cases c : i = j
  · subst c
    by_cases hl : i < e.length
    · rw [List.getElem?_set_self hl] at hj
      cases hj
      exact ⟨v, by rw [List.getElem?_set_self (by rw [h.1]; exact hl)], r⟩
    · rw [List.getElem?_eq_none (by rw [List.length_set]; omega)] at hj
      cases hj
  · rw [List.getElem?_set_ne c] at hj ⊢
    exact h.2 j lw hj
theorem rls_all {vs : List V} {xs : List PyData} (h : RPs K W.F H vs xs) : RLs K W H vs (xs.map .d) := RPs.rls h
end
section
variable {X : Cx} {a b o : Expr} {fo fi fa : EM} {pos : Pos} {i : Nat} {x : Str} {L L' : List Nat}
theorem sg_name (hN : X.N.Nodup) (hi : X.N[i]? = some x) (hx : Loc X.env.scope x) (hf : X.fn x = true ∨ X.env.scope.names.lookup x = some .local) : SG X (.Name x pos) [i] (tName i) := by
  refine (pg_name hN hi hx hf).imp fun v σ H Q ⟨W, lv, e, μ, e', μ', R, E, rv, ht, q⟩ => ?_
  cases ht
  refine q W H _ .refl R (E.set rv i) ⟨List.length_set, fun j hj => ?_⟩
  rw [List.getElem?_set_ne (fun z => hj (by rw [z]; exact List.mem_singleton.mpr rfl))]
theorem asg_cons {env : PySem.Env} {es : List Expr} (h : notStar a = true) : assignEach (a :: es) env = (false, assign a env) :: assignEach es env := by
  cases a <;> first | rfl | cases h
theorem asg_all {env : PySem.Env} : ∀ {es : List Expr}, es.all notStar = true → (assignEach es env).length = es.length ∧ (assignEach es env).findIdx? (·.1) = none
  | [], _ => ⟨rfl, rfl⟩
  | a :: es, h => by
    rw [List.all_cons, Bool.and_eq_true] at h
    obtain ⟨h1, h2⟩ := asg_all (env := env) h.2
    rw [asg_cons h.1]
    exact ⟨by rw [List.length_cons, List.length_cons, h1], by simp [List.findIdx?_cons, h2]⟩
theorem sgs_nil : SGs X [] [] [] := by
  refine pgs_nil.imp fun v σ H Q ⟨W, ls, e, μ, e', μ', R, E, rv, ht, q⟩ => ?_
  cases rv with
  | nil =>
    cases ht
    exact ⟨rfl, q W H σ .refl R E ⟨rfl, fun _ _ => rfl⟩⟩
  | cons a t => cases ht
theorem sgs_cons {as : List Expr} {t : TM} {ts : List TM} (hn : notStar a = true) (h1 : SG X a L t) (h2 : SGs X as L' ts) : SGs X (a :: as) (L ++ L') (t :: ts) := by
  refine (pgs_cons h1 h2 (by rw [asg_cons hn]; rfl)).imp fun v σ H Q ⟨W, ls, e, μ, e', μ', R, E, rv, ht, q⟩ => ?_
  cases rv with
  | nil => cases ht
  | @cons v0 vs lv ls r0 rs =>
    simp only [toAll] at ht
    split at ht
    · rename_i e1 m1 h1'
      refine ⟨v0, vs, rfl, W, lv, e, μ, e1, m1, R, E, r0, h1', fun W1 H1 σ1 E1 R1 ok1 ag1 => ?_⟩
      refine ⟨W1, ls, e1, m1, e', μ', R1, ok1, RLs.mono E1 R rs, ht, fun W2 H2 σ2 E2 R2 ok2 ag2 => ?_⟩
      refine q W2 H2 σ2 (E1.trans E2) R2 ok2 ⟨ag2.1.trans ag1.1, fun j hj => ?_⟩
      rw [ag2.2 j fun z => hj (List.mem_append_right _ z), ag1.2 j fun z => hj (List.mem_append_left _ z)]
    · cases ht
theorem toAll_len {ts : List TM} : ∀ {ls : List LV} {e e' : Env} {m m' : Sto}, toAll ts ls e m = some (e', m') → ls.length = ts.length := by
  induction ts with
  | nil => intro ls e e' m m' h; cases ls with | nil => rfl | cons _ _ => cases h
  | cons t ts ih =>
    intro ls e e' m m' h
    cases ls with
    | nil => cases h
    | cons l ls =>
      simp only [toAll] at h
      split at h
      · rw [List.length_cons, List.length_cons, ih h]
      · cases h
theorem sg_tup {as : List Expr} {ts : List TM} (hl : as.length = ts.length) (hn : as.all notStar = true) {k : Nat} (hc : X.calm = true) (h : SGs X as L ts) : SG X (.Tuple as k pos) L (tTup ts) := by
  have g1 := pg_tup (n := ts.length) (k := k) (pos := pos) hc h (by rw [(asg_all hn).1, hl]) (asg_all hn).2
  have g2 := pg_unl (n := ts.length) (k := k) (pos := pos) hc h (by rw [(asg_all hn).1, hl]) (asg_all hn).2
  refine ⟨fun pins s σ H v u Q I r q0 => ?_⟩
  obtain ⟨W, lv, e, μ, e', μ', R, E, rv, ht, q⟩ := q0
  unfold tTup at ht
  split at ht
  · rename_i xs
    cases rv with
    | tup h1 h2 =>
      have hlen := toAll_len ht
      rw [List.length_map] at hlen
      exact g1.run pins s σ H _ _ Q I r ⟨_, _, rfl, h1, by rw [h2.length]; exact hlen, W, _, e, μ, e', μ', R, E, h2.rls, ht, q⟩
  · rename_i xs
    cases rv with
    | lst h0 h1 h2 =>
      have hlen := toAll_len ht
      rw [List.length_map] at hlen
      exact g2.run pins s σ H _ _ Q I r ⟨_, _, rfl, .of h1, by rw [h2.length]; exact hlen, W, _, e, μ, e', μ', R, E, h2.rls, ht, q⟩
  · split at ht
    · rename_i j xs hx
      obtain ⟨ad, hk, rfl⟩ := rv
      obtain ⟨vs, h1, h2⟩ := R.cell _ ad _ hk hx
      have hlen := toAll_len ht
      exact g2.run pins s σ H _ _ Q I r ⟨ad, vs, rfl, .of h1, by rw [h2.length]; exact hlen, W, _, e, μ, e', μ', R, E, h2, ht, q⟩
    · cases ht
  · rename_i pre j
    obtain ⟨a, us, b, rfl, h1, h2, h3⟩ := rv
    have hlen := toAll_len ht
    have hls : RLs X.K W H (us ++ [V.ref b]) (pre.map LV.d ++ [LV.ref j]) := by
      have : ∀ {us : List V} {pre : List PyData}, RPs X.K W.F H us pre → RLs X.K W H (us ++ [V.ref b]) (pre.map LV.d ++ [LV.ref j]) := by
        intro us pre hp
        induction us generalizing pre with
        | nil => cases hp; exact .cons ⟨b, h3, rfl⟩ .nil
        | cons v us ih => cases hp with | cons a t => exact .cons a (ih t)
      exact this h2
    exact g1.run pins s σ H _ _ Q I r ⟨a, _, rfl, h1, by rw [hls.length]; exact hlen, W, _, e, μ, e', μ', R, E, hls, ht, q⟩
  · cases ht
/-- o[i] = v -/
theorem set_both (hu : X.A.units + 1 < cLine) : PSet X (fun o i v H Q => rSetL o i v H Q ∨ ∃ a H', o = .ref a ∧ DPut H a i v H' ∧ Q H') := by
  intro pins s σ H o i v ov iv u Q I ro ri rv h
  rcases h with h | ⟨a, H', rfl, g, q⟩
  · exact set_list pins s σ H o i v ov iv u Q I ro ri rv h
  · cases ro
    exact d_setItem hu I g ri rv fun s' I' => ⟨H', I', q⟩
theorem sg_sub (hu : X.A.units + 1 < cLine) (hn : notSl b = true) (ho : SE X o fo) (hi : SE X b fi) : SG X (.Subscript o b pos) [] (tSub fo fi) := by
  refine (pg_sub ho hi (set_both hu) (by intro _; cases b <;> first | rfl | cases hn)).imp fun v σ H Q ⟨W, lv, e, μ, e', μ', R, E, rv, ht, q⟩ => ?_
  unfold tSub at ht
  split at ht
  · rename_i u m1 h1
    split at ht
    · rename_i w m2 h2
      cases hz : setItem m2 u w lv with
      | none => rw [hz] at ht; cases ht
      | some m3 =>
        rw [hz] at ht; cases ht
        refine ⟨W, e, μ, u, m1, R, E, h1, fun W1 H1 y E1 R1 ry => ⟨W1, e, m1, w, m2, R1, E.mono E1 R, h2, fun W2 H2 z E2 R2 rz => ?_⟩⟩
        unfold setItem at hz
        split at hz
        · rename_i k j
          split at hz
          · rename_i xs hx
            cases hp : ixPos xs.length j with
            | none => rw [hp] at hz; cases hz
            | some p =>
              rw [hp] at hz; cases hz
              obtain ⟨ad, hk, rfl⟩ := ry.mono E2 R1
              obtain ⟨vs, hv, hl⟩ := R2.cell k ad xs hk hx
              cases rz
              have rv2 := (rv.mono E1 R).mono E2 R1
              refine .inl ⟨ad, vs, j, p, rfl, rfl, hv, by rw [hl.length]; exact hp, ?_⟩
              have E3 := ext_set R2 (vs' := vs.set p v) (xs' := xs.set p lv) hk hx
              have R3 := R2.setCell hk hx (RLs.set p hl rv2)
              exact q _ _ _ ((E1.trans E2).trans E3) R3 (((E.mono E1 R).mono E2 R1).mono E3 R2) ⟨rfl, fun _ _ => rfl⟩
          · rename_i xs hx
            split at hz
            · rename_i hlt
              cases hz
              obtain ⟨ad, hk, rfl⟩ := ry.mono E2 R1
              obtain ⟨vs, hv, hl⟩ := R2.dcell k ad xs hk hx
              cases rz
              have rv2 := (rv.mono E1 R).mono E2 R1
              refine .inr ⟨ad, _, rfl, DPut.k (k := .inl j) hv (by rw [hl.length]; exact line_lt (Nat.le_of_lt hlt)), ?_⟩
              have E3 := ext_setC R2 (o' := HO.dK (putK vs (.inl j) v)) (c' := .dct (storK xs (.inl j) lv)) hk hx (fun e => nomatch e)
              have R3 := R2.setCellC (o' := HO.dK (putK vs (.inl j) v)) (c' := .dct (storK xs (.inl j) lv)) hk hx (fun e => nomatch e) (hl.put _ rv2)
              exact q _ _ _ ((E1.trans E2).trans E3) R3 (((E.mono E1 R).mono E2 R1).mono E3 R2) ⟨rfl, fun _ _ => rfl⟩
            · cases hz
          · cases hz
        · rename_i k j
          split at hz
          · rename_i xs hx
            split at hz
            · rename_i hlt
              cases hz
              obtain ⟨ad, hk, rfl⟩ := ry.mono E2 R1
              obtain ⟨vs, hv, hl⟩ := R2.dcell k ad xs hk hx
              cases rz
              have rv2 := (rv.mono E1 R).mono E2 R1
              refine .inr ⟨ad, _, rfl, DPut.k (k := .inr j) hv (by rw [hl.length]; exact line_lt (Nat.le_of_lt hlt)), ?_⟩
              have E3 := ext_setC R2 (o' := HO.dK (putK vs (.inr j) v)) (c' := .dct (storK xs (.inr j) lv)) hk hx (fun e => nomatch e)
              have R3 := R2.setCellC (o' := HO.dK (putK vs (.inr j) v)) (c' := .dct (storK xs (.inr j) lv)) hk hx (fun e => nomatch e) (hl.put _ rv2)
              exact q _ _ _ ((E1.trans E2).trans E3) R3 (((E.mono E1 R).mono E2 R1).mono E3 R2) ⟨rfl, fun _ _ => rfl⟩
            · cases hz
          · cases hz
        · cases hz
    · cases ht
  · cases ht
/-! ### what a loop walks -/
structure Walks (K : PySem.W.Frag) (W0 : Wd) (H0 : Hp) (μ0 : Sto) (J : It) (xs : List LV) : Prop where
  go : ∀ i W H μ, Ext W0 H0 μ0 W H μ → Rel K W H μ → i < xs.length → J.go i H
  yl : ∀ (i : Nat) W H μ v H' x, Ext W0 H0 μ0 W H μ → Rel K W H μ → xs[i]? = some x → J.yld i H v H' → ∃ W', Ext W H μ W' H' μ ∧ Rel K W' H' μ ∧ RL K W' H' v x
  st : ∀ W H μ, Ext W0 H0 μ0 W H μ → Rel K W H μ → J.stop xs.length H
def WalkOf (K : PySem.W.Frag) (W : Wd) (H : Hp) (μ : Sto) (J : It) : Itm → Prop
  | .items xs => Walks K W H μ J xs
  | .cell k => ∃ a, W.m[k]? = some a ∧ J = Itl K a
def tI (K : PySem.W.Frag) (f : IM) : TI := fun σ H R => ∃ W e μ i μ', Rel K W H μ ∧ EnvOk K W H σ e ∧ f e μ = some (i, μ') ∧ ∀ W' H' J, Ext W H μ W' H' μ' → Rel K W' H' μ' → WalkOf K W' H' μ' J i → R J H'
abbrev SI (X : Cx) (tg a : Expr) (f : IM) : Prop := PI X tg a (tI X.K f)
theorem _root_.L2.PI.imp {X : Cx} {tg a : Expr} {t t' : TI} (h : PI X tg a t) (w : ∀ σ H R, t' σ H R → t σ H R) : PI X tg a t' := ⟨fun pins s σ H R I q => h.run pins s σ H R I (w σ H R q)⟩
/-- a list or a tuple -/
theorem pi_both {tg l : Expr} {tl : TE} (hl : PE X l tl) : PI X tg l (fun σ H R => tl σ H fun x H1 => (∃ a xs, x = .ref a ∧ SqL X.K H1 a xs ∧ R (Itl X.K a) H1) ∨ ∃ a xs, x = .ref a ∧ SqT X.K H1 a xs ∧ R (Itt X.K a) H1) := by
  refine ⟨fun pins s σ H R I h => thn (hl.run pins s σ H _ I h) fun v s1 ⟨x, H1, I1, r1, q1⟩ => ?_⟩
  have fresh : ∀ b ∈ [s1.heap.objs.size], FpOk X pins H1 b := fun b hb => by
    obtain rfl : b = s1.heap.objs.size := by simpa using hb
    exact I1.fpOk (Nat.le_refl _) (I1.hok.fresh (Nat.le_refl _))
  rcases q1 with ⟨a, xs, rfl, hq, q⟩ | ⟨a, xs, rfl, hq, q⟩
  · cases r1
    obtain ⟨its, _, pl, _⟩ := I1.list hq
    exact wpAny_pyIter_list pl.isList ⟨_, [s1.heap.objs.size], _, _, H1, rfl, I1.kept (t' := s1.toks) fun b o z => Heap.get?_push_of_some _ z, turn_list a _, ⟨_, Heap.get?_push_size _ rfl, rfl, rfl⟩, fresh, q⟩
  · cases r1
    obtain ⟨its, _, pl, _⟩ := I1.tuple hq
    exact wpAny_pyIter_tuple (show s1.heap.IsTuple a its.toArray from pl) ⟨_, [s1.heap.objs.size], _, _, H1, rfl, I1.kept (t' := s1.toks) fun b o z => Heap.get?_push_of_some _ z, turn_tuple a _, ⟨_, Heap.get?_push_size _ rfl, rfl, rfl⟩, fresh, q⟩
theorem walks_list {K : PySem.W.Frag} {W0 : Wd} {H0 : Hp} {μ0 : Sto} {a : Addr} {vs : List V} {xs : List PyData} (R0 : Rel K W0 H0 μ0) (hF : W0.F a) (h : H0 a = some (HO.lst vs)) (r : RPs K W0.F H0 vs xs) : Walks K W0 H0 μ0 (Itl K a) (xs.map .d) := by
  have at_ : ∀ {W H μ}, Ext W0 H0 μ0 W H μ → H a = some (HO.lst vs) := fun E => (E.kp R0).l a vs hF h
  refine ⟨fun i W H μ E R hi => ?_, fun i W H μ v H' x E R hx hy => ?_, fun W H μ E R => ⟨vs, .of (at_ E), ?_⟩⟩
  · rw [List.length_map, ← r.length] at hi
    exact ⟨vs, vs[i], .of (at_ E), List.getElem?_eq_getElem hi⟩
  · obtain ⟨rfl, hy⟩ := hy
    rw [List.getElem?_map] at hx
    cases q : xs[i]? with
    | none => rw [q] at hx; cases hx
    | some y =>
      rw [q] at hx; cases hx
      obtain ⟨v', h1, h2⟩ := r.get q
      have h3 := hy vs (.of (at_ E))
      rw [h1] at h3; cases h3
      exact ⟨W, .refl, R, RP.mono (E.kp R0) h2⟩
  · rw [List.length_map, r.length]; exact Nat.le_refl _
theorem walks_ro {K : PySem.W.Frag} {W0 : Wd} {H0 : Hp} {μ0 : Sto} {a : Addr} {vs : List V} {xs : List PyData} (R0 : Rel K W0 H0 μ0) (h : RoL K H0 a vs) (r : RPs K W0.F H0 vs xs) : Walks K W0 H0 μ0 (Itl K a) (xs.map .d) := by
  have at_ : ∀ {W H μ}, Ext W0 H0 μ0 W H μ → RoL K H a vs := fun E => (E.kp R0).roL h
  refine ⟨fun i W H μ E R hi => ?_, fun i W H μ v H' x E R hx hy => ?_, fun W H μ E R => ⟨vs, (at_ E).sq, ?_⟩⟩
  · rw [List.length_map, ← r.length] at hi
    exact ⟨vs, vs[i], (at_ E).sq, List.getElem?_eq_getElem hi⟩
  · obtain ⟨rfl, hy⟩ := hy
    rw [List.getElem?_map] at hx
    cases q : xs[i]? with
    | none => rw [q] at hx; cases hx
    | some y =>
      rw [q] at hx; cases hx
      obtain ⟨v', h1, h2⟩ := r.get q
      have h3 := hy vs (at_ E).sq
      rw [h1] at h3; cases h3
      exact ⟨W, .refl, R, RP.mono (E.kp R0) h2⟩
  · rw [List.length_map, r.length]; exact Nat.le_refl _
theorem walks_tup {K : PySem.W.Frag} {W0 : Wd} {H0 : Hp} {μ0 : Sto} {a : Addr} {vs : List V} {xs : List PyData} (R0 : Rel K W0 H0 μ0) (h : SqT K H0 a vs) (r : RPs K W0.F H0 vs xs) : Walks K W0 H0 μ0 (Itt K a) (xs.map .d) := by
  have at_ : ∀ {W H μ}, Ext W0 H0 μ0 W H μ → SqT K H a vs := fun E => (E.kp R0).sqT h
  refine ⟨fun i W H μ E R hi => ?_, fun i W H μ v H' x E R hx hy => ?_, fun W H μ E R => ⟨vs, at_ E, ?_⟩⟩
  · rw [List.length_map, ← r.length] at hi
    exact ⟨vs, vs[i], at_ E, List.getElem?_eq_getElem hi⟩
  · obtain ⟨rfl, hy⟩ := hy
    rw [List.getElem?_map] at hx
    cases q : xs[i]? with
    | none => rw [q] at hx; cases hx
    | some y =>
      rw [q] at hx; cases hx
      obtain ⟨v', h1, h2⟩ := r.get q
      have h3 := hy vs (at_ E)
      rw [h1] at h3; cases h3
      exact ⟨W, .refl, R, RP.mono (E.kp R0) h2⟩
  · rw [List.length_map, r.length]; exact Nat.le_refl _
theorem si_seq {tg : Expr} (h : SE X a fa) : SI X tg a (iSeq fa) := by
  refine (pi_both h).imp fun σ H Rr ⟨W, e, μ, i, μ', R, E, hf, q⟩ => ?_
  unfold iSeq at hf
  split at hf
  · rename_i xs m1 h1
    cases hf
    refine ⟨W, e, μ, _, _, R, E, h1, fun W1 H1 x E1 R1 rx => ?_⟩
    cases rx with
    | lst g1 g2 g3 => exact .inl ⟨_, _, rfl, .of g2, q W1 H1 _ E1 R1 (walks_list R1 g1 g2 g3)⟩
  · rename_i xs m1 h1
    cases hf
    refine ⟨W, e, μ, _, _, R, E, h1, fun W1 H1 x E1 R1 rx => ?_⟩
    cases rx with
    | tup g2 g3 => exact .inr ⟨_, _, rfl, g2, q W1 H1 _ E1 R1 (walks_tup R1 g2 g3)⟩
  · rename_i k m1 h1
    split at hf
    · rename_i ys hy
      cases hf
      refine ⟨W, e, μ, _, _, R, E, h1, fun W1 H1 x E1 R1 rx => ?_⟩
      obtain ⟨ad, hk, rfl⟩ := rx
      obtain ⟨vs, h2, _⟩ := R1.cell _ ad ys hk hy
      exact .inl ⟨ad, vs, rfl, .of h2, q W1 H1 _ E1 R1 ⟨ad, hk, rfl⟩⟩
    · cases hf
  · rename_i xs m1 h1
    cases hf
    refine ⟨W, e, μ, _, _, R, E, h1, fun W1 H1 x E1 R1 rx => ?_⟩
    obtain ⟨ad, vs, rfl, h2, h3⟩ := rx
    exact .inl ⟨ad, vs, rfl, h2.sq, q W1 H1 _ E1 R1 (walks_ro R1 h2 h3)⟩
  · cases hf
/-! ### range -/
theorem walks_rng {K : PySem.W.Frag} {W0 : Wd} {H0 : Hp} {μ0 : Sto} (lo : Int) (n : Nat) : Walks K W0 H0 μ0 (Itr lo n) (upTo lo n) := by
  have len : (upTo lo n).length = n := by unfold upTo; rw [List.length_map, List.length_range]
  refine ⟨fun i W H μ E R hi => by rw [len] at hi; exact hi, fun i W H μ v H' x E R hx hy => ?_, fun W H μ E R => by rw [len]; exact Nat.le_refl _⟩
  obtain ⟨rfl, rfl⟩ := hy
  refine ⟨W, .refl, R, ?_⟩
  unfold upTo at hx
  rw [List.getElem?_map] at hx
  by_cases hi : i < n
  · rw [List.getElem?_range hi] at hx
    cases hx
    exact .int _
  · rw [List.getElem?_eq_none (by rw [List.length_range]; omega)] at hx
    cases hx
theorem walks_down {K : PySem.W.Frag} {W0 : Wd} {H0 : Hp} {μ0 : Sto} (lo : Int) (n : Nat) : Walks K W0 H0 μ0 (Itc lo (-1) n) (downFrom lo n) := by
  have len : (downFrom lo n).length = n := by unfold downFrom; rw [List.length_map, List.length_range]
  refine ⟨fun i W H μ E R hi => by rw [len] at hi; exact hi, fun i W H μ v H' x E R hx hy => ?_, fun W H μ E R => by rw [len]; exact Nat.le_refl _⟩
  obtain ⟨rfl, rfl⟩ := hy
  refine ⟨W, .refl, R, ?_⟩
  unfold downFrom at hx
  rw [List.getElem?_map] at hx
  by_cases hi : i < n
  · rw [List.getElem?_range hi] at hx
    cases hx
    exact .int _
  · rw [List.getElem?_eq_none (by rw [List.length_range]; omega)] at hx
    cases hx
theorem star1 {env : PySem.Env} (h : notStar a = true) : starEach [a] env = [(false, eval a env)] := star_cons h
theorem star2 {env : PySem.Env} (h : notStar a = true) (h' : notStar b = true) : starEach [a, b] env = [(false, eval a env), (false, eval b env)] := by rw [star_cons h, star_cons h']; rfl
theorem si_range1 {tg : Expr} {p : Pos} (hg : Gl X "range") (hm : X.mg "range" = none) (hn : notStar a = true) (h : SA X [a] [fa]) : SI X tg (.Call (.Name "range" p) [a] [] pos) (iRange [fa]) := by
  refine (pi_range1 hg hm h (star1 hn)).imp fun σ H Rr ⟨W, e, μ, i, μ', R, E, hf, q⟩ => ?_
  unfold iRange at hf
  split at hf
  · rename_i j m1 h1
    split at hf
    · rename_i hj
      cases hf
      refine ⟨W, e, μ, _, _, R, E, h1, fun W1 H1 vs E1 R1 rs => ?_⟩
      have := rng_ok hj
      cases rs with
      | cons r t =>
        cases t; cases r
        exact ⟨j, rfl, by omega, by omega, q W1 H1 _ E1 R1 (walks_rng 0 _)⟩
    · cases hf
  · rename_i i j m1 h1
    exact absurd (evalL_len h1) (by simp)
  · rename_i i j m1 h1
    exact absurd (evalL_len h1) (by simp)
  · cases hf
theorem si_range2 {tg : Expr} {p : Pos} {fb : EM} (hg : Gl X "range") (hm : X.mg "range" = none) (hn : notStar a = true) (hn' : notStar b = true) (h : SA X [a, b] [fa, fb]) : SI X tg (.Call (.Name "range" p) [a, b] [] pos) (iRange [fa, fb]) := by
  refine (pi_range2 hg hm h (star2 hn hn') (star1 hn')).imp fun σ H Rr ⟨W, e, μ, i, μ', R, E, hf, q⟩ => ?_
  unfold iRange at hf
  split at hf
  · rename_i j m1 h1
    exact absurd (evalL_len h1) (by simp)
  · rename_i i j m1 h1
    split at hf
    · rename_i hj
      rw [Bool.and_eq_true] at hj
      cases hf
      refine ⟨W, e, μ, _, _, R, E, h1, fun W1 H1 vs E1 R1 rs => ?_⟩
      have := rng_ok hj.1
      have := rng_ok hj.2
      cases rs with
      | cons r t =>
        cases t with
        | cons r2 t => cases t; cases r; cases r2; exact ⟨i, j, rfl, ⟨by omega, by omega, by omega, by omega⟩, q W1 H1 _ E1 R1 (walks_rng i _)⟩
    · cases hf
  · rename_i i j m1 h1
    exact absurd (evalL_len h1) (by simp)
  · cases hf
end
end Gg

end
section
/-! GLoop2: range with the step -1, enumerate, zip. -/
namespace Gg
open PySem L2 RZ

section
variable {X : Cx} {a b c o : Expr} {fa fb fc : EM} {pos p : Pos}
theorem si_range3 {tg : Expr} (hg : Gl X "range") (hm : X.mg "range" = none) (hn : [a, b, c].all notStar = true) (h : SA X [a, b, c] [fa, fb, fc]) : SI X tg (.Call (.Name "range" p) [a, b, c] [] pos) (iRange [fa, fb, fc]) := by
  rw [List.all_cons, Bool.and_eq_true] at hn
  refine (pi_range3 hg hm h (star_cons hn.1) (star_none hn.2)).imp fun σ H Rr ⟨W, e, μ, i, μ', R, E, hf, q⟩ => ?_
  unfold iRange at hf
  split at hf
  · rename_i j m1 h1
    exact absurd (evalL_len h1) (by simp)
  · rename_i i j m1 h1
    exact absurd (evalL_len h1) (by simp)
  · rename_i i j m1 h1
    split at hf
    · rename_i hj
      rw [Bool.and_eq_true] at hj
      cases hf
      refine ⟨W, e, μ, _, _, R, E, h1, fun W1 H1 vs E1 R1 rs => ?_⟩
      have := rng_ok hj.1
      have := rng_ok hj.2
      cases rs with
      | cons r t =>
        cases t with
        | cons r2 t =>
          cases t with
          | cons r3 t =>
            cases t; cases r; cases r2; cases r3
            exact ⟨i, j, -1, _, rfl, RgC.neg (by omega) (by omega) (by omega) (by omega), q W1 H1 _ E1 R1 (walks_down i _)⟩
    · cases hf
  · cases hf
/-! ### enumerate -/
theorem walks_enumT {K : PySem.W.Frag} {W0 : Wd} {H0 : Hp} {μ0 : Sto} {a : Addr} {vs : List V} {xs : List PyData} (R0 : Rel K W0 H0 μ0) (h : SqT K H0 a vs) (r : RPs K W0.F H0 vs xs) : Walks K W0 H0 μ0 (ItE K a) (enumFrom 0 xs) := by
  have at_ : ∀ {W H μ}, Ext W0 H0 μ0 W H μ → SqT K H a vs := fun E => (E.kp R0).sqT h
  have len : ∀ (ys : List PyData) (k : Nat), (enumFrom k ys).length = ys.length := by
    intro ys
    induction ys with
    | nil => intro k; rfl
    | cons y ys ih => intro k; simp only [enumFrom, List.length_cons, ih]
  have get : ∀ (ys : List PyData) (k i : Nat), (enumFrom k ys)[i]? = ys[i]?.map fun y => pairD (k + i) y := by
    intro ys
    induction ys with
    | nil => intro k i; simp [enumFrom]
    | cons y ys ih =>
      intro k i
      cases i with
      | zero => simp [enumFrom]
      | succ i => simp only [enumFrom, List.getElem?_cons_succ, ih]; congr 1; funext z; congr 1; omega
  refine ⟨fun i W H μ E R hi => ?_, fun i W H μ v H' x E R hx hy => ?_, fun W H μ E R => ⟨vs, at_ E, by rw [len]; exact r.length⟩⟩
  · rw [len, ← r.length] at hi
    exact ⟨vs, vs[i], at_ E, List.getElem?_eq_getElem hi⟩
  · obtain ⟨T, x', rfl, hT, rfl, hy⟩ := hy
    rw [get] at hx
    cases q : xs[i]? with
    | none => rw [q] at hx; cases hx
    | some y =>
      rw [q] at hx; cases hx
      obtain ⟨v', h1, h2⟩ := r.get q
      have h3 := hy vs (at_ E)
      rw [h1] at h3; cases h3
      have E2 : Ext W H μ W (upd H T (.tup [.int (i : Nat), x'])) μ := ext_new _ hT
      refine ⟨W, E2, R.new _ hT, .tup (.of upd_same) (.cons ?_ (.cons (RP.mono (E2.kp R) (RP.mono (E.kp R0) h2)) .nil))⟩
      rw [Nat.zero_add]
      exact .int _
theorem walks_enumL {K : PySem.W.Frag} {W0 : Wd} {H0 : Hp} {μ0 : Sto} {a : Addr} {vs : List V} {xs : List PyData} (R0 : Rel K W0 H0 μ0) (hF : W0.F a) (h : H0 a = some (HO.lst vs)) (r : RPs K W0.F H0 vs xs) : Walks K W0 H0 μ0 (Ite K a) (enumFrom 0 xs) := by
  have at_ : ∀ {W H μ}, Ext W0 H0 μ0 W H μ → SqL K H a vs := fun E => .of ((E.kp R0).l a vs hF h)
  have len : ∀ (ys : List PyData) (k : Nat), (enumFrom k ys).length = ys.length := by
    intro ys
    induction ys with
    | nil => intro k; rfl
    | cons y ys ih => intro k; simp only [enumFrom, List.length_cons, ih]
  have get : ∀ (ys : List PyData) (k i : Nat), (enumFrom k ys)[i]? = ys[i]?.map fun y => pairD (k + i) y := by
    intro ys
    induction ys with
    | nil => intro k i; simp [enumFrom]
    | cons y ys ih =>
      intro k i
      cases i with
      | zero => simp [enumFrom]
      | succ i => simp only [enumFrom, List.getElem?_cons_succ, ih]; congr 1; funext z; congr 1; omega
  refine ⟨fun i W H μ E R hi => ?_, fun i W H μ v H' x E R hx hy => ?_, fun W H μ E R => ⟨vs, at_ E, by rw [len, r.length]; exact Nat.le_refl _⟩⟩
  · rw [len, ← r.length] at hi
    exact ⟨vs, vs[i], at_ E, List.getElem?_eq_getElem hi⟩
  · obtain ⟨T, x', rfl, hT, rfl, hy⟩ := hy
    rw [get] at hx
    cases q : xs[i]? with
    | none => rw [q] at hx; cases hx
    | some y =>
      rw [q] at hx; cases hx
      obtain ⟨v', h1, h2⟩ := r.get q
      have h3 := hy vs (at_ E)
      rw [h1] at h3; cases h3
      have E2 : Ext W H μ W (upd H T (.tup [.int (i : Nat), x'])) μ := ext_new _ hT
      refine ⟨W, E2, R.new _ hT, .tup (.of upd_same) (.cons ?_ (.cons (RP.mono (E2.kp R) (RP.mono (E.kp R0) h2)) .nil))⟩
      rw [Nat.zero_add]
      exact .int _
section
open PyProof.Rows
/-- enumerate(list or tuple) -/
theorem pi_enumB {e : Expr} {te : TE} {tpos : Pos} {elts : List Expr} {kk : Nat} (hg : Gl X "enumerate") (hm : X.mg "enumerate" = none) (hn : notStar e = true) (he : PE X e te) :
    PI X (.Tuple elts kk tpos) (.Call (.Name "enumerate" p) [e] [] pos) (fun σ H R => te σ H fun x H1 => (∃ a xs, x = .ref a ∧ SqL X.K H1 a xs ∧ R (Ite X.K a) H1) ∨ ∃ a xs, x = .ref a ∧ SqT X.K H1 a xs ∧ R (ItE X.K a) H1) := by
  refine ⟨fun pins s σ H R I h => ?_⟩
  refine Call_ (ld_blt I hg hm boot_enumerate (PyProof.Rows.callWith_type1 (thn ((pa_cons he pa_nil (star_cons hn)).run pos pins s σ H (fun vs H1 => ∃ x, vs = [x] ∧ ((∃ a xs, x = .ref a ∧ SqL X.K H1 a xs ∧ R (Ite X.K a) H1) ∨ ∃ a xs, x = .ref a ∧ SqT X.K H1 a xs ∧ R (ItE X.K a) H1)) I ?_) fun us s1 ⟨vs, H1, I1, r1, q1⟩ => ?_) (star_cons hn) rfl))
  · show te σ H fun x H1 => _
    have key : (fun x H1 => (∃ a xs, x = V.ref a ∧ SqL X.K H1 a xs ∧ R (Ite X.K a) H1) ∨ ∃ a xs, x = V.ref a ∧ SqT X.K H1 a xs ∧ R (ItE X.K a) H1) =
        fun (x : V) (H1 : Hp) => ∃ y, [x] = [y] ∧ ((∃ a xs, y = V.ref a ∧ SqL X.K H1 a xs ∧ R (Ite X.K a) H1) ∨ ∃ a xs, y = V.ref a ∧ SqT X.K H1 a xs ∧ R (ItE X.K a) H1) := by
      funext x H1
      apply propext
      constructor
      · intro z; exact ⟨x, rfl, z⟩
      · rintro ⟨y, z, w⟩; cases z; exact w
    rw [key] at h
    exact h
  · obtain ⟨x, rfl, q1⟩ := q1
    cases r1 with
    | cons r rr =>
      cases rr
      have fr2 : ∀ b ∈ [s1.heap.objs.size + 1, s1.heap.objs.size], FpOk X pins H1 b := fun b hb => by
        have e' : b = s1.heap.objs.size + 1 ∨ b = s1.heap.objs.size := by simpa using hb
        have le : s1.heap.objs.size ≤ b := by
          rcases e' with z | z <;> rw [z]
          · exact Nat.le_succ _
          · exact Nat.le_refl _
        exact I1.fpOk le (I1.hok.fresh le)
      rcases q1 with ⟨a, xs, rfl, hq, q⟩ | ⟨a, xs, rfl, hq, q⟩
      · cases r
        obtain ⟨its, _, pl, _⟩ := I1.list hq
        refine call_enumerate_list pl.isList fun h' he' hit _ hk => wpAny_pyIter_enum he' ?_
        exact ⟨s1.heap.objs.size + 1, [s1.heap.objs.size + 1, s1.heap.objs.size], _, _, H1, rfl, I1.kept (t' := s1.toks) hk, turn_enum a (s1.heap.objs.size + 1) s1.heap.objs.size, ⟨⟨.none, he'⟩, hit, Nat.succ_ne_self _⟩, fr2, q⟩
      · cases r
        obtain ⟨its, _, pl, _⟩ := I1.tuple hq
        refine enum1_begins (begins_tuple a its.toArray) (show s1.heap.IsTuple a its.toArray from pl) fun h' he' hit _ hk => wpAny_pyIter_enum he' ?_
        exact ⟨s1.heap.objs.size + 1, [s1.heap.objs.size + 1, s1.heap.objs.size], _, _, H1, rfl, I1.kept (t' := s1.toks) hk, turn_enumT a (s1.heap.objs.size + 1) s1.heap.objs.size, ⟨⟨.none, he'⟩, ⟨_, hit, rfl, rfl⟩, Nat.succ_ne_self _⟩, fr2, q⟩
end
theorem si_enum {elts : List Expr} {kk : Nat} {tpos : Pos} (hg : Gl X "enumerate") (hm : X.mg "enumerate" = none) (hn : notStar a = true) (h : SE X a fa) : SI X (.Tuple elts kk tpos) (.Call (.Name "enumerate" p) [a] [] pos) (iEnum fa) := by
  refine (pi_enumB hg hm hn h).imp fun σ H Rr ⟨W, e, μ, i, μ', R, E, hf, q⟩ => ?_
  unfold iEnum at hf
  split at hf
  · rename_i xs m1 h1
    cases hf
    refine ⟨W, e, μ, _, _, R, E, h1, fun W1 H1 x E1 R1 rx => ?_⟩
    cases rx with
    | lst g1 g2 g3 => exact .inl ⟨_, _, rfl, .of g2, q W1 H1 _ E1 R1 (walks_enumL R1 g1 g2 g3)⟩
  · rename_i xs m1 h1
    cases hf
    refine ⟨W, e, μ, _, _, R, E, h1, fun W1 H1 x E1 R1 rx => ?_⟩
    cases rx with
    | tup g2 g3 => exact .inr ⟨_, _, rfl, g2, q W1 H1 _ E1 R1 (walks_enumT R1 g2 g3)⟩
  · cases hf
/-! ### zip -/
theorem zip_len : ∀ xs ys : List PyData, (zipD xs ys).length = min xs.length ys.length
  | [], ys => by simp [zipD]
  | _ :: _, [] => by simp [zipD]
  | x :: xs, y :: ys => by simp only [zipD, List.length_cons, zip_len xs ys]; omega
theorem zip_get : ∀ (xs ys : List PyData) (i : Nat) (v : LV), (zipD xs ys)[i]? = some v → ∃ x y, xs[i]? = some x ∧ ys[i]? = some y ∧ v = .d (.tuple [x, y])
  | [], ys, i, v, h => by simp [zipD] at h
  | _ :: _, [], i, v, h => by simp [zipD] at h
  | x :: xs, y :: ys, 0, v, h => by simp [zipD] at h; exact ⟨x, y, rfl, rfl, h.symm⟩
  | x :: xs, y :: ys, i + 1, v, h => by
    simp only [zipD, List.getElem?_cons_succ] at h
    obtain ⟨x', y', h1, h2, h3⟩ := zip_get xs ys i v h
    exact ⟨x', y', by simpa using h1, by simpa using h2, h3⟩
theorem walks_zipL {K : PySem.W.Frag} {W0 : Wd} {H0 : Hp} {μ0 : Sto} {a b : Addr} {vs ws : List V} {xs ys : List PyData} (R0 : Rel K W0 H0 μ0) (hF : W0.F a) (h : H0 a = some (HO.lst vs)) (r : RPs K W0.F H0 vs xs) (hF' : W0.F b) (h' : H0 b = some (HO.lst ws)) (r' : RPs K W0.F H0 ws ys) :
    Walks K W0 H0 μ0 (Itz K a b) (zipD xs ys) := by
  have at_ : ∀ {W H μ}, Ext W0 H0 μ0 W H μ → SqL K H a vs := fun E => .of ((E.kp R0).l a vs hF h)
  have at' : ∀ {W H μ}, Ext W0 H0 μ0 W H μ → SqL K H b ws := fun E => .of ((E.kp R0).l b ws hF' h')
  have l1 := r.length
  have l2 := r'.length
  refine ⟨fun i W H μ E R hi => ?_, fun i W H μ v H' x E R hx hy => ?_, fun W H μ E R => ⟨vs, ws, at_ E, at' E, ?_⟩⟩
  · rw [zip_len] at hi
    exact ⟨vs, ws, vs[i]'(by omega), ws[i]'(by omega), at_ E, at' E, List.getElem?_eq_getElem _, List.getElem?_eq_getElem _⟩
  · obtain ⟨T, x1, y1, rfl, hT, rfl, hy1, hy2⟩ := hy
    obtain ⟨x2, y2, g1, g2, rfl⟩ := zip_get _ _ _ _ hx
    obtain ⟨v', q1, q2⟩ := r.get g1
    obtain ⟨w', q3, q4⟩ := r'.get g2
    have z1 := hy1 vs (at_ E)
    have z2 := hy2 ws (at' E)
    rw [q1] at z1; cases z1
    rw [q3] at z2; cases z2
    have E2 : Ext W H μ W (upd H T (.tup [x1, y1])) μ := ext_new _ hT
    have k : ∀ {v : V} {x : PyData}, RP K W0.F H0 v x → RP K W.F (upd H T (.tup [x1, y1])) v x := fun z => RP.mono (E2.kp R) (RP.mono (E.kp R0) z)
    exact ⟨W, E2, R.new _ hT, .tup (.of upd_same) (.cons (k q2) (.cons (k q4) .nil))⟩
  · rw [zip_len]; omega
theorem walks_zipT {K : PySem.W.Frag} {W0 : Wd} {H0 : Hp} {μ0 : Sto} {a b : Addr} {vs ws : List V} {xs ys : List PyData} (R0 : Rel K W0 H0 μ0) (h : SqT K H0 a vs) (r : RPs K W0.F H0 vs xs) (h' : SqT K H0 b ws) (r' : RPs K W0.F H0 ws ys) :
    Walks K W0 H0 μ0 (ItzT K a b) (zipD xs ys) := by
  have at_ : ∀ {W H μ}, Ext W0 H0 μ0 W H μ → SqT K H a vs := fun E => (E.kp R0).sqT h
  have at' : ∀ {W H μ}, Ext W0 H0 μ0 W H μ → SqT K H b ws := fun E => (E.kp R0).sqT h'
  have l1 := r.length
  have l2 := r'.length
  refine ⟨fun i W H μ E R hi => ?_, fun i W H μ v H' x E R hx hy => ?_, fun W H μ E R => ⟨vs, ws, at_ E, at' E, ?_⟩⟩
  · rw [zip_len] at hi
    exact ⟨vs, ws, vs[i]'(by omega), ws[i]'(by omega), at_ E, at' E, List.getElem?_eq_getElem _, List.getElem?_eq_getElem _⟩
  · obtain ⟨T, x1, y1, rfl, hT, rfl, hy1, hy2⟩ := hy
    obtain ⟨x2, y2, g1, g2, rfl⟩ := zip_get _ _ _ _ hx
    obtain ⟨v', q1, q2⟩ := r.get g1
    obtain ⟨w', q3, q4⟩ := r'.get g2
    have z1 := hy1 vs (at_ E)
    have z2 := hy2 ws (at' E)
    rw [q1] at z1; cases z1
    rw [q3] at z2; cases z2
    have E2 : Ext W H μ W (upd H T (.tup [x1, y1])) μ := ext_new _ hT
    have k : ∀ {v : V} {x : PyData}, RP K W0.F H0 v x → RP K W.F (upd H T (.tup [x1, y1])) v x := fun z => RP.mono (E2.kp R) (RP.mono (E.kp R0) z)
    exact ⟨W, E2, R.new _ hT, .tup (.of upd_same) (.cons (k q2) (.cons (k q4) .nil))⟩
  · rw [zip_len]; omega
theorem si_zip {elts : List Expr} {kk : Nat} {tpos : Pos} (hg : Gl X "zip") (hm : X.mg "zip" = none) (hn : [a, b].all notStar = true) (ha : SE X a fa) (hb : SE X b fb) : SI X (.Tuple elts kk tpos) (.Call (.Name "zip" p) [a, b] [] pos) (iZip fa fb) := by
  rw [List.all_cons, Bool.and_eq_true, List.all_cons, Bool.and_eq_true] at hn
  refine (pi_zipA hg hm (pa_cons ha (pa_cons hb pa_nil (star_cons hn.2.1)) (star_cons hn.1)) (star_cons hn.1) (star_none (by rw [List.all_cons, hn.2.1]; rfl))).imp fun σ H Rr ⟨W, e, μ, i, μ', R, E, hf, q⟩ => ?_
  unfold iZip at hf
  split at hf
  · rename_i xs m1 h1
    split at hf
    · rename_i ys m2 h2
      cases hf
      refine ⟨W, e, μ, _, _, R, E, h1, fun W1 H1 x E1 R1 rx => ⟨W1, e, m1, _, _, R1, E.mono E1 R, h2, fun W2 H2 y E2 R2 ry => ?_⟩⟩
      have rx2 := RL.mono E2 R1 rx
      cases rx2 with
      | lst g1 g2 g3 =>
        cases ry with
        | lst g4 g5 g6 => exact ⟨_, _, _, _, rfl, .inl ⟨.of g2, .of g5, q W2 H2 _ (E1.trans E2) R2 (walks_zipL R2 g1 g2 g3 g4 g5 g6)⟩⟩
    · cases hf
  · rename_i xs m1 h1
    split at hf
    · rename_i ys m2 h2
      cases hf
      refine ⟨W, e, μ, _, _, R, E, h1, fun W1 H1 x E1 R1 rx => ⟨W1, e, m1, _, _, R1, E.mono E1 R, h2, fun W2 H2 y E2 R2 ry => ?_⟩⟩
      have rx2 := RL.mono E2 R1 rx
      cases rx2 with
      | tup g2 g3 =>
        cases ry with
        | tup g5 g6 => exact ⟨_, _, _, _, rfl, .inr ⟨g2, g5, q W2 H2 _ (E1.trans E2) R2 (walks_zipT R2 g2 g3 g5 g6)⟩⟩
    · cases hf
  · cases hf
end
end Gg

end
section
/-! GStm: statements. -/
namespace Gg
open PySem L2

/-- what is wanted behind a statement that comes to o -/
def Fin' (K : PySem.W.Frag) (W : Wd) (H : Hp) (μ : Sto) (D : Ends) : Out → Prop
  | .nx e' μ' => ∀ W' H' σ', Ext W H μ W' H' μ' → Rel K W' H' μ' → EnvOk K W' H' σ' e' → D.nx σ' H'
  | .rt v μ' => ∀ W' H' x, Ext W H μ W' H' μ' → Rel K W' H' μ' → RL K W' H' x v → D.rt x H'
  | .bk e' μ' => ∀ W' H' σ', Ext W H μ W' H' μ' → Rel K W' H' μ' → EnvOk K W' H' σ' e' → D.bk σ' H'
  | .ct e' μ' => ∀ W' H' σ', Ext W H μ W' H' μ' → Rel K W' H' μ' → EnvOk K W' H' σ' e' → D.ct σ' H'
def tS (K : PySem.W.Frag) (f : SM) : TS := fun D σ H => ∃ W e μ o, Rel K W H μ ∧ EnvOk K W H σ e ∧ f e μ = some o ∧ Fin' K W H μ D o
abbrev SS (X : Cx) (a : Stmt) (f : SM) : Prop := PS X a (tS X.K f)
abbrev SSs (X : Cx) (as : List Stmt) (f : SM) : Prop := PSs X as (tS X.K f)
theorem _root_.L2.PS.imp {X : Cx} {a : Stmt} {t t' : TS} (h : PS X a t) (w : ∀ D σ H, t' D σ H → t D σ H) : PS X a t' := ⟨fun pins s σ H D I q => h.run pins s σ H D I (w D σ H q)⟩
theorem _root_.L2.PSs.imp {X : Cx} {a : List Stmt} {t t' : TS} (h : PSs X a t) (w : ∀ D σ H, t' D σ H → t D σ H) : PSs X a t' := ⟨fun pins s σ H D I q => h.run pins s σ H D I (w D σ H q)⟩
section
variable {K : PySem.W.Frag} {W W1 : Wd} {H H1 : Hp} {μ μ1 : Sto} {D : Ends}
theorem Fin'.mono (E : Ext W H μ W1 H1 μ1) : ∀ {o : Out}, Fin' K W H μ D o → Fin' K W1 H1 μ1 D o
  | .nx _ _, h => fun W' H' σ' E' => h W' H' σ' (E.trans E')
  | .rt _ _, h => fun W' H' σ' E' => h W' H' σ' (E.trans E')
  | .bk _ _, h => fun W' H' σ' E' => h W' H' σ' (E.trans E')
  | .ct _ _, h => fun W' H' σ' E' => h W' H' σ' (E.trans E')
end
section
variable {X : Cx} {a b c o : Expr} {fa fb fc fo fv : EM} {pos p : Pos} {st : Stmt} {sts : List Stmt} {g h : SM}
theorem ss_pass : SS X (.Pass pos) sPass := ps_pass.imp fun D σ H ⟨W, e, μ, o, R, E, hf, q⟩ => by cases hf; exact q W H σ .refl R E
theorem ss_brk : SS X (.Break pos) sBrk := ps_break.imp fun D σ H ⟨W, e, μ, o, R, E, hf, q⟩ => by cases hf; exact q W H σ .refl R E
theorem ss_cnt : SS X (.Continue pos) sCnt := ps_continue.imp fun D σ H ⟨W, e, μ, o, R, E, hf, q⟩ => by cases hf; exact q W H σ .refl R E
theorem ss_never : SS X st sNever := ps_never.imp fun D σ H ⟨W, e, μ, o, R, E, hf, q⟩ => by cases hf
theorem sss_nil : SSs X [] sPass := pss_nil.imp fun D σ H ⟨W, e, μ, o, R, E, hf, q⟩ => by cases hf; exact q W H σ .refl R E
theorem sss_one (h1 : SS X st g) : SSs X [st] g := pss_one h1
theorem sss_cons (h1 : SS X st g) (h2 : SSs X sts h) : SSs X (st :: sts) (sSeq g h) := by
  refine (pss_cons h1 h2).imp fun D σ H ⟨W, e, μ, o, R, E, hf, q⟩ => ?_
  unfold sSeq at hf
  split at hf
  · rename_i e1 m1 h1
    exact ⟨W, e, μ, _, R, E, h1, fun W1 H1 σ1 E1 R1 ok1 => ⟨W1, e1, m1, o, R1, ok1, hf, q.mono E1⟩⟩
  · rename_i hn
    refine ⟨W, e, μ, o, R, E, hf, ?_⟩
    cases o with
    | nx e1 m1 => exact absurd hf (hn e1 m1)
    | rt _ _ => exact q
    | bk _ _ => exact q
    | ct _ _ => exact q
/-- no comprehension -/
def notComp : Expr → Bool
  | .ListComp _ _ _ _ => false
  | .SetComp _ _ _ _ => false
  | .DictComp _ _ _ _ _ => false
  | _ => true
theorem swaps_no {t : Option Expr} {l : Nat} {env : PySem.Env} (hn : notComp a = true) : swapsWith a t l env = pure false := by
  cases a <;> first | rfl | cases hn
theorem ss_drop (hn : notComp a = true) (ha : SE X a fa) : SS X (.Expr a pos) (sDrop fa) := by
  refine (ps_expr ha (swaps_no hn)).imp fun D σ H ⟨W, e, μ, o, R, E, hf, q⟩ => ?_
  unfold sDrop at hf
  cases hr : fa e μ with
  | none => rw [hr] at hf; cases hf
  | some r =>
    rw [hr] at hf; cases hf
    exact ⟨W, e, μ, r.1, r.2, R, E, hr, fun W1 H1 v E1 R1 _ => q W1 H1 σ E1 R1 (E.mono E1 R)⟩
theorem ss_ret (ha : SE X a fa) : SS X (.Return (some a) pos) (sRet fa) := by
  refine (ps_ret ha).imp fun D σ H ⟨W, e, μ, o, R, E, hf, q⟩ => ?_
  unfold sRet at hf
  cases hr : fa e μ with
  | none => rw [hr] at hf; cases hf
  | some r =>
    rw [hr] at hf; cases hf
    exact ⟨W, e, μ, r.1, r.2, R, E, hr, fun W1 H1 v E1 R1 rv => q W1 H1 v E1 R1 rv⟩
theorem ss_retN : SS X (.Return none pos) sRetN := ps_retN.imp fun D σ H ⟨W, e, μ, o, R, E, hf, q⟩ => by cases hf; exact q W H _ .refl R .non
theorem ss_if {as bs : List Stmt} (hc : ST X c fc) (ha : SSs X as g) (hb : SSs X bs h) : SS X (.If c as bs pos) (sIf fc g h) := by
  refine (ps_if hc ha hb).imp fun D σ H ⟨W, e, μ, o, R, E, hf, q⟩ => ?_
  unfold sIf at hf
  split at hf
  · rename_i v m1 h1
    split at hf
    · rename_i ht
      exact ⟨W, e, μ, v, m1, true, R, E, h1, ht, fun W1 H1 E1 R1 => iteT ⟨W1, e, m1, o, R1, E.mono E1 R, hf, q.mono E1⟩⟩
    · rename_i ht
      exact ⟨W, e, μ, v, m1, false, R, E, h1, ht, fun W1 H1 E1 R1 => iteF ⟨W1, e, m1, o, R1, E.mono E1 R, hf, q.mono E1⟩⟩
    · cases hf
  · cases hf
/-! ### target = value -/
def notTup : Expr → Bool
  | .Tuple _ _ _ => false
  | .List _ _ => false
  | _ => true
theorem stores_no {env : PySem.Env} (hn : notTup a = true ∨ notTup b = true) : swappedStores [a] b env = pure none := by
  rcases hn with hn | hn
  · cases a <;> first | rfl | cases hn
  · unfold swappedStores
    split
    · rename_i h
      split at h <;> first | (cases hn; done) | cases h
    · rfl
theorem asg_one (hs : notStar a = true) {env : PySem.Env} : (assignEach [a] env).map (·.2) = [assign a env] := by rw [asg_cons hs]; rfl
theorem ss_asg {t : TM} {L : List Nat} (hsw : swapsWith b (some a) pos.line X.env = pure false) (hn : notTup a = true ∨ notTup b = true) (hs : notStar a = true) (hg : SG X a L t) (hb : SE X b fb) : SS X (.Assign [a] b pos) (sAsg t fb) := by
  refine (ps_asg hb hg hsw (stores_no hn) (asg_one hs)).imp fun D σ H ⟨W, e, μ, o, R, E, hf, q⟩ => ?_
  unfold sAsg at hf
  split at hf
  · rename_i v m1 h1
    cases hr : t v e m1 with
    | none => rw [hr] at hf; cases hf
    | some r =>
      rw [hr] at hf; cases hf
      exact ⟨W, e, μ, v, m1, R, E, h1, fun W1 H1 x E1 R1 rx => ⟨W1, v, e, m1, r.1, r.2, R1, E.mono E1 R, rx, hr, fun W2 H2 σ2 E2 R2 ok2 _ => q W2 H2 σ2 (E1.trans E2) R2 ok2⟩⟩
  · cases hf
/-- (targets) = (values), through a tuple -/
theorem ss_tup {as bs : List Expr} {ts : List TM} {fs : List EM} {L : List Nat} {k k' : Nat} {p' : Pos} (hc : X.calm = true) (hl : as.length = ts.length) (hfl : fs.length ≤ 1000) (hn : as.all notStar = true) (hw : swappedStores [.Tuple as k p] (.Tuple bs k' p') X.env = pure none) (hg : SGs X as L ts) (hb : SA X bs fs) :
    SS X (.Assign [.Tuple as k p] (.Tuple bs k' p') pos) (sPar ts fs) := by
  have gT : PG X (.Tuple as k p) (gTup X.K ts.length (tGs X.K L ts)) := pg_tup hc hg (by rw [(asg_all hn).1, hl]) (asg_all hn).2
  refine (ps_asg (pe_tup hb) gT rfl hw rfl).imp fun D σ H ⟨W, e, μ, o, R, E, hf, q⟩ => ?_
  unfold sPar at hf
  split at hf
  · rename_i vs m1 h1
    cases hr : toAll ts vs e m1 with
    | none => rw [hr] at hf; cases hf
    | some r =>
      rw [hr] at hf; cases hf
      refine ⟨W, e, μ, vs, m1, R, E, h1, fun W1 H1 us E1 R1 rs => ⟨by rw [rs.length, evalL_len h1]; exact Nat.le_of_lt (small1000 hfl), fun ad had => ?_⟩⟩
      have E2 : Ext W1 H1 m1 W1 (upd H1 ad (.tup us)) m1 := ext_new _ had
      refine ⟨ad, us, rfl, .of upd_same, by rw [rs.length]; exact toAll_len hr, W1, vs, e, m1, r.1, r.2, R1.new _ had, (E.mono E1 R).mono E2 R1, RLs.mono E2 R1 rs, hr, fun W3 H3 σ3 E3 R3 ok3 _ => ?_⟩
      exact q W3 H3 σ3 ((E1.trans E2).trans E3) R3 ok3
  · cases hf
theorem ss_par2 {i j : Nat} {x y : Str} {px py pt pt2 : Pos} {kt k2 : Nat} {fs : List EM} (hc : X.calm = true) (hN : X.N.Nodup) (hi : X.N[i]? = some x) (hj : X.N[j]? = some y) (hij : i ≠ j) (hx : X.env.scope.names.lookup x = some .local) (hy : X.env.scope.names.lookup y = some .local)
    (hw : swappedStores [.Tuple [.Name x px, .Name y py] kt pt] (.Tuple [a, b] k2 pt2) X.env = pure (some [x, y])) (hb : SA X [a, b] fs) :
    SS X (.Assign [.Tuple [.Name x px, .Name y py] kt pt] (.Tuple [a, b] k2 pt2) pos) (sPar [tName i, tName j] fs) := by
  refine (ps_par hc hN hi hj hij hx hy hb hw rfl).imp fun D σ H ⟨W, e, μ, o, R, E, hf, q⟩ => ?_
  unfold sPar at hf
  split at hf
  · rename_i vs m1 h1
    cases hr : toAll [tName i, tName j] vs e m1 with
    | none => rw [hr] at hf; cases hf
    | some r =>
      rw [hr] at hf
      have hf := Option.some.inj hf
      subst hf
      refine ⟨W, e, μ, vs, m1, R, E, h1, fun W1 H1 us E1 R1 rs => ?_⟩
      have hlen := toAll_len hr
      obtain ⟨v1, v2, rfl⟩ : ∃ v1 v2, vs = [v1, v2] := by
        match vs, hlen with
        | [y1, y2], _ => exact ⟨y1, y2, rfl⟩
      have hr : some ((e.set i (some v1)).set j (some v2), m1) = some r := hr
      have hr := Option.some.inj hr
      subst hr
      cases rs with
      | cons r1 t =>
        cases t with
        | cons r2 t =>
          cases t
          exact ⟨_, _, rfl, q W1 H1 _ E1 R1 (((E.mono E1 R).set r1 i).set r2 j)⟩
  · cases hf
theorem ss_par3 {i j l : Nat} {x y z : Str} {px py pz pt pt2 : Pos} {kt k2 : Nat} {fs : List EM} (hc : X.calm = true) (hN : X.N.Nodup) (hi : X.N[i]? = some x) (hj : X.N[j]? = some y) (hl : X.N[l]? = some z) (hij : i ≠ j) (hil : i ≠ l) (hjl : j ≠ l)
    (hx : X.env.scope.names.lookup x = some .local) (hy : X.env.scope.names.lookup y = some .local) (hz : X.env.scope.names.lookup z = some .local)
    (hw : swappedStores [.Tuple [.Name x px, .Name y py, .Name z pz] kt pt] (.Tuple [a, b, c] k2 pt2) X.env = pure (some [x, y, z])) (hb : SA X [a, b, c] fs) :
    SS X (.Assign [.Tuple [.Name x px, .Name y py, .Name z pz] kt pt] (.Tuple [a, b, c] k2 pt2) pos) (sPar [tName i, tName j, tName l] fs) := by
  refine (ps_par3 hc hN hi hj hl hij hil hjl hx hy hz hb hw rfl).imp fun D σ H ⟨W, e, μ, o, R, E, hf, q⟩ => ?_
  unfold sPar at hf
  split at hf
  · rename_i vs m1 h1
    cases hr : toAll [tName i, tName j, tName l] vs e m1 with
    | none => rw [hr] at hf; cases hf
    | some r =>
      rw [hr] at hf
      have hf := Option.some.inj hf
      subst hf
      refine ⟨W, e, μ, vs, m1, R, E, h1, fun W1 H1 us E1 R1 rs => ?_⟩
      have hlen := toAll_len hr
      obtain ⟨v1, v2, v3, rfl⟩ : ∃ v1 v2 v3, vs = [v1, v2, v3] := by
        match vs, hlen with
        | [y1, y2, y3], _ => exact ⟨y1, y2, y3, rfl⟩
      have hr : some (((e.set i (some v1)).set j (some v2)).set l (some v3), m1) = some r := hr
      have hr := Option.some.inj hr
      subst hr
      cases rs with
      | cons r1 t =>
        cases t with
        | cons r2 t =>
          cases t with
          | cons r3 t =>
            cases t
            exact ⟨_, _, _, rfl, q W1 H1 _ E1 R1 ((((E.mono E1 R).set r1 i).set r2 j).set r3 l)⟩
  · cases hf
/-! ### x op= e -/
def IpS (X : Cx) (op : Operator) (g : B2) : Prop :=
  ∃ r : R2, OpR X (inplaceOp op) r ∧ ∀ (W : Wd) (H : Hp) (μ : Sto) (x y : V) (dx dy z : PyData) (Q : VK), Rel X.K W H μ → RP X.K W.F H x dx → RP X.K W.F H y dy → g dx dy = some z → Post X.K W H μ μ (.d z) Q → r x y H Q
def addI : B2
  | .int i, .int j => some (.int (i + j))
  | .str x, .str y => if x.length + y.length ≤ LINE then some (.str (x ++ y)) else none
  | _, _ => none
def mulI : B2
  | .int i, .int j => if -(2 ^ 64) < i ∧ i < 2 ^ 64 then some (.int (i * j)) else none
  | _, _ => none
theorem ips_add : IpS X .Add addI := by
  refine ⟨_, iop_add.or iop_add_str, fun W H μ x y dx dy z Q R rx ry hg q => ?_⟩
  unfold addI at hg
  split at hg
  · cases hg; cases rx; cases ry
    exact .inl ⟨_, _, rfl, rfl, q _ _ _ .refl R (.int _)⟩
  · split at hg
    · rename_i hl
      cases hg; cases rx; cases ry
      exact .inr ⟨_, _, rfl, rfl, line_le' hl, q _ _ _ .refl R (.str _)⟩
    · cases hg
  · cases hg
theorem ips_sub : IpS X .Sub subD := by
  refine ⟨_, iop_sub, fun W H μ x y dx dy z Q R rx ry hg q => ?_⟩
  unfold subD at hg
  split at hg
  · cases hg; cases rx; cases ry
    exact ⟨_, _, rfl, rfl, q _ _ _ .refl R (.int _)⟩
  · cases hg
theorem iop_mulW {X : Cx} : OpR X (inplaceOp .Mult) (rI CMulW fun i j => .int (i * j)) := opI fun _ _ _ _ _ _ _ hc q => PyProof.Rows.imul_int q hc.ok
def mulInt : B2
  | .int i, .int j => if mulFits i j then some (.int (i * j)) else none
  | _, _ => none
theorem ips_mul : IpS X .Mult mulInt := by
  refine ⟨_, iop_mulW, fun W H μ x y dx dy z Q R rx ry hg q => ?_⟩
  unfold mulInt at hg
  split at hg
  · split at hg
    · rename_i hl
      cases hg; cases rx; cases ry
      exact ⟨_, _, rfl, rfl, hl, q _ _ _ .refl R (.int _)⟩
    · cases hg
  · cases hg
theorem ss_try {h0 : ExceptHandler} {hs : List ExceptHandler} {ors : List Stmt} (hn : ∀ e s, ¬ X.xe e s) (hb : SSs X sts g) (ho : SSs X ors h) : SS X (.Try sts (h0 :: hs) ors [] pos) (sSeq g h) := by
  refine (ps_try_never hn hb ho).imp fun D σ H ⟨W, e, μ, o, R, E, hf, q⟩ => ?_
  unfold sSeq at hf
  split at hf
  · rename_i e1 m1 h1
    exact ⟨W, e, μ, _, R, E, h1, fun W1 H1 σ1 E1 R1 ok1 => ⟨W1, e1, m1, o, R1, ok1, hf, q.mono E1⟩⟩
  · rename_i hx
    refine ⟨W, e, μ, o, R, E, hf, ?_⟩
    cases o with
    | nx e1 m1 => exact absurd hf (hx e1 m1)
    | rt _ _ => exact q
    | bk _ _ => exact q
    | ct _ _ => exact q
theorem ss_aug {i : Nat} {x : Str} {op : Operator} {gb : B2} (ho : IpS X op gb) (hN : X.N.Nodup) (hi : X.N[i]? = some x) (hx : Loc X.env.scope x) (hf : X.fn x = true ∨ X.env.scope.names.lookup x = some .local) (hb : SE X b fb) : SS X (.AugAssign (.Name x p) op b pos) (sAug i gb fb) := by
  obtain ⟨r, hr, hs⟩ := ho
  have hp : PIp X op r := fun pins s σ H x y v u Q I r1 r2 q => hr pins s σ H x y v u Q I r1 r2 q
  refine (ps_aug hN hi hx hb hp hf).imp fun D σ H ⟨W, e, μ, o, R, E, hf, q⟩ => ?_
  unfold sAug at hf
  split at hf
  · rename_i hv
    split at hf
    · rename_i w m1 h1
      split at hf
      · rename_i dx dy
        cases hz : gb dx dy with
        | none => rw [hz] at hf; cases hf
        | some z =>
          rw [hz] at hf; cases hf
          obtain ⟨v, hv1, hv2⟩ := E.2 i _ hv
          refine ⟨v, hv1, W, e, μ, _, _, R, E, h1, fun W1 H1 y E1 R1 ry => ?_⟩
          exact hs W1 H1 _ v y dx dy z _ R1 (RL.mono E1 R hv2) ry hz fun W2 H2 u E2 R2 ru => q W2 H2 _ (E1.trans E2) R2 (((E.mono E1 R).mono E2 R1).set ru i)
      · cases hf
    · cases hf
  · cases hf
end
end Gg

end
section
/-! GFor: lists that grow; for, while. -/
namespace Gg
open PySem L2

section
variable {X : Cx} {a b c o : Expr} {fa fb fc fo fv : EM} {pos p apos cpos : Pos} {st : Stmt} {sts : List Stmt} {g h : SM}
/-! ### append, extend -/
def plainBase : Expr → Bool
  | .Name _ _ => true
  | .Subscript _ _ _ => true
  | _ => false
theorem base_ok {name : Str} {env : PySem.Env} (h : plainBase o = true) : attributeBase o name env (eval o env) = eval o env := by
  cases o <;> first | rfl | cases h
theorem few_ok {env : PySem.Env} (hn : notStar a = true) : ((backTo cpos (starEach [a] env)).all (fun x => !x.1) && (backToKw cpos (keywordEach [] env)).all (fun x => x.1.isSome) && decide ([a].length + ([] : List Keyword).length + (if ([] : List Keyword).isEmpty then 0 else 1) < 30)) = true := by
  rw [star_cons hn]; rfl
theorem ss_app (hb : plainBase o = true) (hn : notStar a = true) (hl : (apos.endLine == cpos.line) = true) (ho : SE X o fo) (ha : SE X a fv) : SS X (.Expr (.Call (.Attribute o "append" apos) [a] [] cpos) pos) (sApp fo fv) := by
  refine (ps_expr (pe_bm PySem.F.plainAttrs_list PySem.F.slot_list_append PySem.F.type_list_append mt_append ho (pa_cons ha pa_nil (star_cons hn)) (base_ok hb) (few_ok hn) hl (star_cons hn) rfl) (swaps_no rfl)).imp fun D σ H ⟨W, e, μ, oo, R, E, hf, q⟩ => ?_
  unfold sApp at hf
  split at hf
  · rename_i k m1 h1
    split at hf
    · rename_i zs hz0
      split at hf
      · rename_i v m2 h2
        split at hf
        · rename_i xs hx
          split at hf
          · rename_i hz
            cases hf
            refine ⟨W, e, μ, _, m1, R, E, h1, fun W1 H1 x E1 R1 rx => ?_⟩
            obtain ⟨ad, hk, rfl⟩ := rx
            obtain ⟨vs0, hv0, _⟩ := R1.cell k ad zs hk hz0
            refine ⟨.inl ⟨rfl, vs0, .of hv0⟩, W1, e, m1, v, m2, R1, E.mono E1 R, h2, fun W2 H2 y E2 R2 ry => ?_⟩
            have hk2 := E2.at hk
            obtain ⟨vs, hv, hvl⟩ := R2.cell k ad xs hk2 hx
            refine ⟨ad, vs, y, rfl, rfl, hv, by rw [hvl.length]; exact line_lt hz, ?_⟩
            have E3 := ext_set R2 (vs' := vs ++ [y]) (xs' := xs ++ [v]) hk2 hx
            have R3 := R2.setCell hk2 hx (hvl.append (.cons ry .nil))
            exact q _ _ σ ((E1.trans E2).trans E3) R3 (((E.mono E1 R).mono E2 R1).mono E3 R2)
          · cases hf
        · cases hf
      · cases hf
    · cases hf
  · cases hf
theorem ss_ext (hb : plainBase o = true) (hn : notStar a = true) (hl : (apos.endLine == cpos.line) = true) (ho : SE X o fo) (ha : SE X a fv) : SS X (.Expr (.Call (.Attribute o "extend" apos) [a] [] cpos) pos) (sExt fo fv) := by
  refine (ps_expr (pe_bm PySem.F.plainAttrs_list PySem.F.slot_list_extend PySem.F.type_list_extend mt_extend ho (pa_cons ha pa_nil (star_cons hn)) (base_ok hb) (few_ok hn) hl (star_cons hn) rfl) (swaps_no rfl)).imp fun D σ H ⟨W, e, μ, oo, R, E, hf, q⟩ => ?_
  unfold sExt at hf
  split at hf
  · rename_i k m1 h1
    split at hf
    · rename_i zs hz0
      split at hf
      · rename_i v m2 h2
        split at hf
        · rename_i xs hx
          split at hf
          · rename_i ys hys
            split at hf
            · rename_i hz
              cases hf
              refine ⟨W, e, μ, _, m1, R, E, h1, fun W1 H1 x E1 R1 rx => ?_⟩
              obtain ⟨ad, hk, rfl⟩ := rx
              obtain ⟨vs0, hv0, _⟩ := R1.cell k ad zs hk hz0
              refine ⟨.inl ⟨rfl, vs0, .of hv0⟩, W1, e, m1, v, m2, R1, E.mono E1 R, h2, fun W2 H2 y E2 R2 ry => ?_⟩
              have hk2 := E2.at hk
              obtain ⟨vs, hv, hvl⟩ := R2.cell k ad xs hk2 hx
              obtain ⟨b, ws, rfl, hb1, hb2⟩ : ∃ b ws, y = V.ref b ∧ H2 b = some (HO.lst ws) ∧ RLs X.K W2 H2 ws ys := by
                unfold listOf at hys
                split at hys
                · cases hys
                  cases ry with
                  | lst g1 g2 g3 => exact ⟨_, _, rfl, g2, g3.rls⟩
                · split at hys
                  · rename_i j ts hj
                    cases hys
                    obtain ⟨b, hb1, rfl⟩ := ry
                    obtain ⟨ws, hb2, hb3⟩ := R2.cell _ b _ hb1 hj
                    exact ⟨b, ws, rfl, hb2, hb3⟩
                  · cases hys
                · cases hys
              refine ⟨ad, b, vs, ws, rfl, rfl, hv, hb1, by rw [hvl.length, hb2.length]; exact line_le' hz, ?_⟩
              have E3 := ext_set R2 (vs' := vs ++ ws) (xs' := xs ++ ys) hk2 hx
              have R3 := R2.setCell hk2 hx (hvl.append hb2)
              exact q _ _ σ ((E1.trans E2).trans E3) R3 (((E.mono E1 R).mono E2 R1).mono E3 R2)
            · cases hf
          · cases hf
        · cases hf
      · cases hf
    · cases hf
  · cases hf
/-! ### for -/
theorem for_items {K : PySem.W.Frag} {L : List Nat} {t : TM} {f : SM} {D : Ends} {W1 : Wd} {H1 : Hp} {μ1 : Sto} {J : It} {xs : List LV} {o : Out} {σ0 : List (Option V)} {e0 : Env}
    (R1 : Rel K W1 H1 μ1) (ok0 : EnvOk K W1 H1 σ0 e0) (wk : Walks K W1 H1 μ1 J xs) (hf : forItems (forBody t f) xs e0 μ1 = some o) (q : Fin' K W1 H1 μ1 D o) :
    ∃ W : Nat → Nat → List (Option V) → Hp → Prop, (∃ m, W 0 m σ0 H1) ∧ ∀ i m σ H, W i m σ H →
      (J.stop i H ∧ D.nx σ H) ∨ (J.go i H ∧ ∃ N : List (Option V) → Hp → Prop, (∀ σ' H', N σ' H' → ∃ m', m' < m ∧ W (i + 1) m' σ' H') ∧ ∀ x H', J.yld i H x H' → tG K L t x σ H' fun σ2 H2 => tS K f { D with nx := N, ct := N, bk := D.nx } σ2 H2) := by
  refine ⟨fun i m σ H => ∃ W e μ, m = xs.length - i ∧ i ≤ xs.length ∧ Ext W1 H1 μ1 W H μ ∧ Rel K W H μ ∧ EnvOk K W H σ e ∧ forItems (forBody t f) (xs.drop i) e μ = some o, ⟨xs.length, W1, e0, μ1, by simp, Nat.zero_le _, .refl, R1, ok0, by simpa using hf⟩, ?_⟩
  rintro i m σ H ⟨W, e, μ, rfl, hi, E, R, ok, hr⟩
  by_cases hlt : i < xs.length
  · rw [List.drop_eq_getElem_cons hlt] at hr
    simp only [forItems] at hr
    refine .inr ⟨wk.go i W H μ E R hlt, fun σ' H' => ∃ W' e' μ', Ext W1 H1 μ1 W' H' μ' ∧ Rel K W' H' μ' ∧ EnvOk K W' H' σ' e' ∧ forItems (forBody t f) (xs.drop (i + 1)) e' μ' = some o, fun σ' H' ⟨W', e', μ', h1, h2, h3, h4⟩ => ⟨xs.length - (i + 1), by omega, W', e', μ', rfl, hlt, h1, h2, h3, h4⟩, fun v H' hy => ?_⟩
    obtain ⟨W', E', R', rv⟩ := wk.yl i W H μ v H' _ E R (List.getElem?_eq_getElem hlt) hy
    cases hb : forBody t f xs[i] e μ with
    | none => rw [hb] at hr; cases hr
    | some out =>
      rw [hb] at hr
      unfold forBody at hb
      split at hb
      · rename_i e1 m1 ht
        refine ⟨W', xs[i], e, μ, e1, m1, R', ok.mono E' R, rv, ht, fun W2 H2 σ2 E2 R2 ok2 _ => ⟨W2, e1, m1, out, R2, ok2, hb, ?_⟩⟩
        have EE := (E.trans E').trans E2
        cases out with
        | nx e2 m2 => exact fun W3 H3 σ3 E3 R3 ok3 => ⟨W3, e2, m2, EE.trans E3, R3, ok3, hr⟩
        | ct e2 m2 => exact fun W3 H3 σ3 E3 R3 ok3 => ⟨W3, e2, m2, EE.trans E3, R3, ok3, hr⟩
        | bk e2 m2 => cases hr; exact fun W3 H3 σ3 E3 R3 ok3 => q W3 H3 σ3 (EE.trans E3) R3 ok3
        | rt v2 m2 => cases hr; exact fun W3 H3 x3 E3 R3 r3 => q W3 H3 x3 (EE.trans E3) R3 r3
      · cases hb
  · have e1 : i = xs.length := by omega
    subst e1
    rw [List.drop_length] at hr
    simp only [forItems] at hr
    cases hr
    exact .inl ⟨wk.st W H μ E R, q W H σ E R ok⟩
theorem for_cell {K : PySem.W.Frag} {L : List Nat} {t : TM} {f : SM} {D : Ends} {W1 : Wd} {H1 : Hp} {μ1 : Sto} {a : Addr} {k n : Nat} {o : Out} {σ0 : List (Option V)} {e0 : Env}
    (R1 : Rel K W1 H1 μ1) (ok0 : EnvOk K W1 H1 σ0 e0) (hk : W1.m[k]? = some a) (hf : forCell (forBody t f) k n n e0 μ1 = some o) (q : Fin' K W1 H1 μ1 D o) :
    ∃ W : Nat → Nat → List (Option V) → Hp → Prop, (∃ m, W 0 m σ0 H1) ∧ ∀ i m σ H, W i m σ H →
      ((Itl K a).stop i H ∧ D.nx σ H) ∨ ((Itl K a).go i H ∧ ∃ N : List (Option V) → Hp → Prop, (∀ σ' H', N σ' H' → ∃ m', m' < m ∧ W (i + 1) m' σ' H') ∧ ∀ x H', (Itl K a).yld i H x H' → tG K L t x σ H' fun σ2 H2 => tS K f { D with nx := N, ct := N, bk := D.nx } σ2 H2) := by
  refine ⟨fun i m σ H => ∃ W e μ, i + m = n ∧ Ext W1 H1 μ1 W H μ ∧ Rel K W H μ ∧ EnvOk K W H σ e ∧ forCell (forBody t f) k n m e μ = some o, ⟨n, W1, e0, μ1, by omega, .refl, R1, ok0, hf⟩, ?_⟩
  rintro i m σ H ⟨W, e, μ, hi, E, R, ok, hr⟩
  have hk2 := E.at hk
  cases m with
  | zero =>
    simp only [forCell] at hr
    split at hr
    · rename_i n' hn
      split at hr
      · rename_i hnn
        cases hr
        unfold cellLen at hn
        split at hn
        · rename_i ys hy
          cases hn
          obtain ⟨vs, hv, hl⟩ := R.cell k a ys hk2 hy
          refine .inl ⟨⟨vs, .of hv, by rw [hl.length]; omega⟩, q W H σ E R ok⟩
        · cases hn
      · cases hr
    · cases hr
  | succ m =>
    simp only [forCell] at hr
    split at hr
    · rename_i ys hy
      split at hr
      · rename_i hyn
        have hix : n - (m + 1) = i := by omega
        rw [hix] at hr
        split at hr
        · rename_i x hx
          obtain ⟨vs, hv, hl⟩ := R.cell k a ys hk2 hy
          obtain ⟨v0, hv0, rv0⟩ := hl.get hx
          refine .inr ⟨⟨vs, v0, .of hv, hv0⟩, fun σ' H' => ∃ W' e' μ', Ext W1 H1 μ1 W' H' μ' ∧ Rel K W' H' μ' ∧ EnvOk K W' H' σ' e' ∧ forCell (forBody t f) k n m e' μ' = some o, fun σ' H' ⟨W', e', μ', h1, h2, h3, h4⟩ => ⟨m, by omega, W', e', μ', by omega, h1, h2, h3, h4⟩, fun v H' hyl => ?_⟩
          obtain ⟨rfl, hyl⟩ := hyl
          have ev := hyl vs (.of hv)
          rw [hv0] at ev; cases ev
          cases hb : forBody t f x e μ with
          | none => rw [hb] at hr; cases hr
          | some out =>
            rw [hb] at hr
            unfold forBody at hb
            split at hb
            · rename_i e1 m1 ht
              refine ⟨W, x, e, μ, e1, m1, R, ok, rv0, ht, fun W2 H2 σ2 E2 R2 ok2 _ => ⟨W2, e1, m1, out, R2, ok2, hb, ?_⟩⟩
              have EE := E.trans E2
              cases out with
              | nx e2 m2 => exact fun W3 H3 σ3 E3 R3 ok3 => ⟨W3, e2, m2, EE.trans E3, R3, ok3, hr⟩
              | ct e2 m2 => exact fun W3 H3 σ3 E3 R3 ok3 => ⟨W3, e2, m2, EE.trans E3, R3, ok3, hr⟩
              | bk e2 m2 => cases hr; exact fun W3 H3 σ3 E3 R3 ok3 => q W3 H3 σ3 (EE.trans E3) R3 ok3
              | rt v2 m2 => cases hr; exact fun W3 H3 x3 E3 R3 r3 => q W3 H3 x3 (EE.trans E3) R3 r3
            · cases hb
        · cases hr
      · cases hr
    · cases hr
theorem ss_for {tg it : Expr} {L : List Nat} {t : TM} {fi : IM} {f : SM} (hp : PassesOwn (model X.prog X.w) X.A X.env X.xe) (hc : X.calm = true) (hs : ∀ x, foldedSetIterable it X.env x = pure x) (hi : SI X tg it fi) (hg : SG X tg L t) (hb : SSs X sts f) :
    SS X (.For tg it sts [] pos) (sFor t fi f) := by
  refine (ps_for hp hc hi hg hb hs).imp fun D σ H ⟨W, e, μ, o, R, E, hf, q⟩ => ?_
  unfold sFor at hf
  split at hf
  · rename_i i m1 h1
    refine ⟨W, e, μ, i, m1, R, E, h1, fun W1 H1 J E1 R1 wk => ?_⟩
    cases i with
    | items xs => exact for_items R1 (E.mono E1 R) wk hf (q.mono E1)
    | cell k =>
      obtain ⟨ad, hk, rfl⟩ := wk
      simp only [forOver] at hf
      split at hf
      · exact for_cell R1 (E.mono E1 R) hk hf (q.mono E1)
      · cases hf
  · cases hf
/-! ### while -/
theorem ss_while {f : SM} (hp : PassesOwn (model X.prog X.w) X.A X.env X.xe) (hc : ST X c fc) (hb : SSs X sts f) : SS X (.While c sts [] pos) (sWhile fc f) := by
  refine (ps_while hp hc hb).imp fun D σ H ⟨W, e, μ, o, R, E, hf, q⟩ => ?_
  unfold sWhile at hf
  split at hf
  · rename_i hex
    obtain ⟨n, hn⟩ : ∃ n, whileN fc f n e μ = some o := by
      refine ⟨_, (Classical.choose_spec (Classical.choose_spec hex)).trans hf⟩
    refine ⟨fun m σx Hx => ∃ W1 e μ1, Ext W H μ W1 Hx μ1 ∧ Rel X.K W1 Hx μ1 ∧ EnvOk X.K W1 Hx σx e ∧ whileN fc f m e μ1 = some o, ⟨n, W, e, μ, .refl, R, E, hn⟩, ?_⟩
    rintro m σ' H' ⟨W1, e1, μ1, E1, R1, ok1, hr⟩
    cases m with
    | zero => cases hr
    | succ m =>
      simp only [whileN] at hr
      split at hr
      · rename_i v m1 h1
        split at hr
        · rename_i ht
          cases hr
          exact ⟨W1, e1, μ1, v, _, false, R1, ok1, h1, ht, fun W2 H2 E2 R2 => iteF (q W2 H2 σ' (E1.trans E2) R2 (ok1.mono E2 R1))⟩
        · rename_i ht
          refine ⟨W1, e1, μ1, v, m1, true, R1, ok1, h1, ht, fun W2 H2 E2 R2 => iteT ⟨fun σ'' H'' => ∃ W1 e μ1, Ext W H μ W1 H'' μ1 ∧ Rel X.K W1 H'' μ1 ∧ EnvOk X.K W1 H'' σ'' e ∧ whileN fc f m e μ1 = some o, fun σ'' H'' hN => ⟨m, by omega, hN⟩, ?_⟩⟩
          cases hb : f e1 m1 with
          | none => rw [hb] at hr; cases hr
          | some out =>
            rw [hb] at hr
            refine ⟨W2, e1, m1, out, R2, ok1.mono E2 R1, hb, ?_⟩
            have EE := E1.trans E2
            cases out with
            | nx e2 m2 => exact fun W3 H3 σ3 E3 R3 ok3 => ⟨W3, e2, m2, EE.trans E3, R3, ok3, hr⟩
            | ct e2 m2 => exact fun W3 H3 σ3 E3 R3 ok3 => ⟨W3, e2, m2, EE.trans E3, R3, ok3, hr⟩
            | bk e2 m2 => cases hr; exact fun W3 H3 σ3 E3 R3 ok3 => q W3 H3 σ3 (EE.trans E3) R3 ok3
            | rt v2 m2 => cases hr; exact fun W3 H3 x3 E3 R3 r3 => q W3 H3 x3 (EE.trans E3) R3 r3
        · cases hr
      · cases hr
  · cases hf
end
end Gg

end
section
/-! GComp: list comprehensions. -/
namespace Gg
open PySem L2

section
variable {K : PySem.W.Frag} {W W1 W' : Wd} {H H1 H' : Hp} {μ μ1 μ' : Sto} {D : Addr} {σ : List (Option V)} {e : Env}
/-- a list that nobody knows yet -/
def Loose (W : Wd) (μ : Sto) (D : Addr) : Prop := ¬ W.F D ∧ ∀ k, live μ k → W.m[k]? ≠ some D
theorem Loose.ext (l : Loose W μ D) {o : HO} (h : H D = some o) (E : Ext W H μ W' H' μ') : Loose W' μ' D ∧ H' D = some o := by
  obtain ⟨r, er, nr⟩ := E.pre
  refine ⟨⟨fun hF => ?_, fun k lk hk => ?_⟩, E.keep D o h l.2⟩
  · rcases E.Fnew D hF with z | z | ⟨k, lk, hk⟩
    · exact l.1 z
    · rw [h] at z; cases z
    · exact l.2 k lk hk
  · by_cases hl : k < W.m.length
    · rw [er, List.getElem?_append_left hl] at hk
      exact l.2 k (E.lv k hl lk) hk
    · rw [er, List.getElem?_append_right (by omega)] at hk
      rw [nr D (List.mem_of_getElem? hk)] at h
      cases h
theorem RL.keep {F' : Addr → Prop} (k : Keep W.F H F' H') {v : V} : ∀ {x : LV}, RL K W H v x → RL K ⟨W.m, F'⟩ H' v x
  | .d _, h => RP.mono k h
  | .ref _, ⟨a, h1, h2⟩ => ⟨a, h1, h2⟩
  | .ro _, ⟨a, vs, h1, h2, h3⟩ => ⟨a, vs, h1, k.roL h2, RPs.mono k h3⟩
  | .tr _ _, ⟨a, us, b, h1, h2, h3, h4⟩ => ⟨a, us, b, h1, k.sqT h2, RPs.mono k h3, h4⟩
theorem RLs.keep {F' : Addr → Prop} (k : Keep W.F H F' H') : ∀ {vs : List V} {xs : List LV}, RLs K W H vs xs → RLs K ⟨W.m, F'⟩ H' vs xs
  | _, _, .nil => .nil
  | _, _, .cons a b => .cons (RL.keep k a) (RLs.keep k b)
/-- the loose list is changed, or forgotten -/
theorem Loose.keepAt (l : Loose W μ D) {vs : List V} (h : H D = some (HO.lst vs)) (hc : ∀ b, b ≠ D → H' b = H b) : Keep W.F H W.F H' :=
  ⟨fun _ z => z, fun a ws hF ha => by rw [hc a fun e => l.1 (e ▸ hF)]; exact ha, fun a o ha n => by
    rw [hc a]
    · exact ha
    · intro e; subst e; rw [h] at ha; cases ha; exact n⟩
theorem CeR.keep {F' : Addr → Prop} (k : Keep W.F H F' H') {o : HO} {c : Cell} (h : CeR K W H o c) : CeR K ⟨W.m, F'⟩ H' o c := by
  have kk : ∀ {vs : List (Key × V)} {xs : List (Key × LV)}, RKs K W H vs xs → RKs K ⟨W.m, F'⟩ H' vs xs := by
    intro vs xs h
    induction h with
    | nil => exact .nil
    | cons a _ ih => exact .cons (RL.keep k a) ih
  cases o with
  | lst vs =>
    cases c with
    | lst xs => exact RLs.keep k h
    | dead => exact h.elim
    | dct xs => exact h.elim
  | dK vs =>
    cases c with
    | lst xs => exact h.elim
    | dead => exact h.elim
    | dct xs => exact kk h
  | _ => exact h.elim
theorem Rel.loose (R : Rel K W H μ) (l : Loose W μ D) {vs : List V} (h : H D = some (HO.lst vs)) (hc : ∀ b, b ≠ D → H' b = H b) : Rel K W H' μ := by
  have k : Keep W.F H W.F H' := l.keepAt h hc
  refine ⟨R.len, fun j a c h1 h2 hd => ?_, R.inj, fun a hF => ?_⟩
  · obtain ⟨o, q1, q2⟩ := R.cel j a c h1 h2 hd
    refine ⟨o, ?_, CeR.keep k q2⟩
    rw [hc a fun e => l.2 j ⟨c, h2, hd⟩ (e ▸ h1)]
    exact q1
  · obtain ⟨⟨ws, q1⟩, q2⟩ := R.frz a hF
    exact ⟨⟨ws, k.l a ws hF q1⟩, q2⟩
theorem Ext.loose (E : Ext W1 H1 μ1 W H μ) (hn : H1 D = none) (hc : ∀ b, b ≠ D → H' b = H b) : Ext W1 H1 μ1 W H' μ :=
  ⟨E.pre, E.F, fun a ha => by
    by_cases e : a = D
    · rw [e]; exact hn
    · exact E.dom a (by rw [← hc a e]; exact ha), fun a o h n => by
    rw [hc a (ne_of_none h hn)]
    exact E.keep a o h n, E.Fnew, E.lv⟩
def dropAt (H : Hp) (D : Addr) : Hp := fun b => if b = D then none else H b
theorem dropAt_same : dropAt H D D = none := by unfold dropAt; rw [if_pos rfl]
theorem dropAt_ne : ∀ b, b ≠ D → dropAt H D b = H b := fun b h => by unfold dropAt; rw [if_neg h]
theorem dropAt_upd {o : HO} (h : H D = some o) : upd (dropAt H D) D o = H := by
  funext b
  by_cases e : b = D
  · subst e; rw [upd_same, h]
  · rw [upd_ne e, dropAt_ne b e]
/-! ### the slots of a comprehension's own names -/
theorem EnvOk.wiped (h : EnvOk K W H σ e) : ∀ own : List Nat, EnvOk K W H (wipe σ own) (wipeE e own)
  | [] => h
  | i :: own => by
    have ih := EnvOk.wiped h own
    unfold wipe wipeE
    refine ⟨by rw [List.length_set, List.length_set]; exact ih.1, fun j lv hj => ?_⟩
    by_cases c : i = j
    · subst c
      by_cases hl : i < (wipeE e own).length
      · rw [List.getElem?_set_self hl] at hj; cases hj
      · rw [List.getElem?_eq_none (by rw [List.length_set]; omega)] at hj; cases hj
    · rw [List.getElem?_set_ne c] at hj ⊢
      exact ih.2 j lv hj
theorem wipe_get {i : Nat} : ∀ {own : List Nat} {σ : List (Option V)}, (wipe σ own)[i]? = if i ∈ own then (σ[i]?).map fun _ => none else σ[i]?
  | [], σ => by simp [wipe]
  | j :: own, σ => by
    unfold wipe
    by_cases c : j = i
    · subst c
      rw [if_pos List.mem_cons_self]
      by_cases hl : j < (wipe σ own).length
      · rw [List.getElem?_set_self hl]
        have : j < σ.length := by rw [wipe_length] at hl; exact hl
        rw [List.getElem?_eq_getElem this]; rfl
      · rw [List.getElem?_eq_none (by rw [List.length_set]; omega)]
        have : ¬ j < σ.length := by rw [wipe_length] at hl; exact hl
        rw [List.getElem?_eq_none (by omega)]; rfl
    · rw [List.getElem?_set_ne c, wipe_get]
      by_cases hi : i ∈ own
      · rw [if_pos hi, if_pos (List.mem_cons_of_mem _ hi)]
      · rw [if_neg hi, if_neg]
        intro z
        rcases List.mem_cons.mp z with z | z
        · exact c z.symm
        · exact hi z
theorem wipe_back {own L : List Nat} {σ σ2 : List (Option V)} (hL : ∀ i ∈ L, i ∈ own) (hl : σ2.length = σ.length) (h : ∀ i : Nat, i ∉ L → σ2[i]? = (wipe σ own)[i]?) : wipe σ2 own = wipe σ own := by
  apply List.ext_getElem?
  intro i
  rw [wipe_get, wipe_get]
  by_cases hi : i ∈ own
  · rw [if_pos hi, if_pos hi]
    by_cases hb : i < σ.length
    · rw [List.getElem?_eq_getElem hb, List.getElem?_eq_getElem (by omega)]; rfl
    · rw [List.getElem?_eq_none (by omega), List.getElem?_eq_none (by omega)]
  · rw [if_neg hi, if_neg hi, h i fun z => hi (hL i z), wipe_get, if_neg hi]
end
/-! ### the tests -/
def tTs (K : PySem.W.Frag) (fs : List EM) : TT := fun σ H Q => ∃ W e μ b μ', Rel K W H μ ∧ EnvOk K W H σ e ∧ tests fs e μ = some (b, μ') ∧ ∀ W' H', Ext W H μ W' H' μ' → Rel K W' H' μ' → Q b H'
abbrev STs (X : Cx) (as : List Expr) (fs : List EM) : Prop := PTs X as (tTs X.K fs)
theorem _root_.L2.PTs.imp {X : Cx} {a : List Expr} {t t' : TT} (h : PTs X a t) (w : ∀ σ H Q, t' σ H Q → t σ H Q) : PTs X a t' := ⟨fun pins s σ H Q I q => h.run pins s σ H Q I (w σ H Q q)⟩
section
variable {X : Cx} {a b c o : Expr} {fa fb fc fe : EM} {pos p : Pos}
theorem sts_nil : STs X [] [] := pts_nil.imp fun σ H Q ⟨W, e, μ, b, μ', R, E, hf, q⟩ => by cases hf; exact q W H .refl R
theorem sts_one (hc : ST X c fc) : STs X [c] [fc] := by
  refine (pts_one hc).imp fun σ H Q ⟨W, e, μ, b, μ', R, E, hf, q⟩ => ?_
  simp only [tests] at hf
  split at hf
  · rename_i v m1 h1
    cases ht : truth m1 v with
    | none => rw [ht] at hf; cases hf
    | some k =>
      rw [ht] at hf; cases hf
      exact ⟨W, e, μ, v, _, _, R, E, h1, ht, q⟩
  · cases hf
/-! ### a turn -/
theorem comp_turn {K : PySem.W.Frag} {W W1 W' : Wd} {H H1 H' : Hp} {μ μ1 m1 : Sto} {D : Addr} {σ : List (Option V)} {e : Env} {vs : List V} {acc : List LV} {v : V} {x : LV} {oy : Option LV} {t : TM} {ifs : List EM} {own L : List Nat}
    (hn : H1 D = none) (E : Ext W1 H1 μ1 W H μ) (R : Rel K W H μ) (l : Loose W μ D) (hD : H D = some (HO.lst vs)) (ra : RLs K W H vs acc) (hz : acc.length < LINE) (E' : Ext W H μ W' H' μ) (R' : Rel K W' H' μ) (rv : RL K W' H' v x)
    (hf : compOne fe t ifs own x e μ = some (oy, m1)) (hL : ∀ i ∈ L, i ∈ own) (ok : EnvOk K W H σ e) (Nx : Hp → Prop)
    (hN : ∀ W4 H4 vs', Ext W1 H1 μ1 W4 H4 m1 → Rel K W4 H4 m1 → Loose W4 m1 D → H4 D = some (HO.lst vs') → RLs K W4 H4 vs' (acc ++ oy.toList) → EnvOk K W4 H4 σ e → Nx H4) :
    tG K L t v (wipe σ own) H' fun σ2 H2 => wipe σ2 own = wipe σ own ∧ tTs K ifs σ2 H2 fun b H3 => if b = true then tE K fe σ2 H3 fun y H4 => ∃ acc, H4 D = some (HO.lst acc) ∧ acc.length < sizeLine ∧ Nx (upd H4 D (.lst (acc ++ [y]))) else Nx H3 := by
  unfold compOne at hf
  split at hf
  · rename_i e1 m2 ht
    have okw := (ok.mono E' R).wiped own
    refine ⟨W', x, wipeE e own, μ, e1, m2, R', okw, rv, ht, fun W2 H2 σ2 E2 R2 ok2 ag => ⟨?_, ?_⟩⟩
    · exact wipe_back hL (by rw [ag.1, wipe_length]) ag.2
    · split at hf
      · rename_i m3 hT
        cases hy : fe e1 m3 with
        | none => rw [hy] at hf; cases hf
        | some r =>
          rw [hy] at hf; cases hf
          refine ⟨W2, e1, m2, true, m3, R2, ok2, hT, fun W3 H3 E3 R3 => iteT ⟨W3, e1, m3, r.1, r.2, R3, ok2.mono E3 R2, hy, fun W4 H4 y E4 R4 ry => ?_⟩⟩
          have EE := E'.trans (E2.trans (E3.trans E4))
          obtain ⟨l4, hD4⟩ := l.ext hD EE
          have ra4 := RLs.mono EE R ra
          have hc : ∀ b, b ≠ D → upd H4 D (HO.lst (vs ++ [y])) b = H4 b := fun b hb => upd_ne hb
          have k4 : Keep W4.F H4 W4.F (upd H4 D (HO.lst (vs ++ [y]))) := l4.keepAt hD4 hc
          refine ⟨vs, hD4, by rw [ra.length]; exact line_lt (Nat.le_of_lt hz), ?_⟩
          have envk : EnvOk K W4 (upd H4 D (HO.lst (vs ++ [y]))) σ e := by
            have ok4 := ok.mono EE R
            exact ⟨ok4.1, fun i lv hi => let ⟨u, u1, u2⟩ := ok4.2 i lv hi; ⟨u, u1, RL.keep k4 u2⟩⟩
          exact hN W4 _ (vs ++ [y]) ((E.trans EE).loose hn hc) (R4.loose l4 hD4 hc) l4 upd_same (RLs.keep k4 (ra4.append (.cons ry .nil))) envk
      · rename_i m3 hT
        cases hf
        refine ⟨W2, e1, m2, false, _, R2, ok2, hT, fun W3 H3 E3 R3 => iteF ?_⟩
        have EE := E'.trans (E2.trans E3)
        obtain ⟨l4, hD4⟩ := l.ext hD EE
        exact hN W3 H3 vs (E.trans EE) R3 l4 hD4 (by simpa using RLs.mono EE R ra) (ok.mono EE R)
      · cases hf
  · cases hf
/-! ### the loop -/
theorem comp_items {K : PySem.W.Frag} {W1 : Wd} {H1 : Hp} {μ1 μ' : Sto} {J : It} {D : Addr} {σ : List (Option V)} {e : Env} {xs rs : List LV} {t : TM} {ifs : List EM} {own L : List Nat} {Q : VK}
    (hn : H1 D = none) (R1 : Rel K W1 H1 μ1) (ok1 : EnvOk K W1 H1 σ e) (wk : Walks K W1 H1 μ1 J xs) (hlen : xs.length ≤ LINE) (hL : ∀ i ∈ L, i ∈ own) (hf : compItems (compOne fe t ifs own) xs e μ1 = some (rs, μ'))
    (q : ∀ W H vs, Ext W1 H1 μ1 W H μ' → Rel K W H μ' → RLs K W H vs rs → H D = none → Q (.ref D) (upd H D (.lst vs))) :
    ∃ Wn : Nat → Nat → Hp → Prop, (∃ m, Wn 0 m (upd H1 D (.lst []))) ∧ ∀ i m H, Wn i m H → (J.stop i H ∧ Q (.ref D) H) ∨ (J.go i H ∧ ∃ Nx : Hp → Prop, (∀ H', Nx H' → ∃ m', m' < m ∧ Wn (i + 1) m' H') ∧
      ∀ x H', J.yld i H x H' → tG K L t x (wipe σ own) H' fun σ2 H2 => wipe σ2 own = wipe σ own ∧ tTs K ifs σ2 H2 fun b H3 => if b = true then tE K fe σ2 H3 fun y H4 => ∃ acc, H4 D = some (HO.lst acc) ∧ acc.length < sizeLine ∧ Nx (upd H4 D (.lst (acc ++ [y]))) else Nx H3) := by
  have E0 : Ext W1 H1 μ1 W1 (upd H1 D (.lst [])) μ1 := ext_new _ hn
  have l0 : Loose W1 μ1 D := ⟨fun hF => (by obtain ⟨⟨vs, h⟩, _⟩ := R1.frz D hF; rw [hn] at h; cases h), R1.notNew hn⟩
  refine ⟨fun i m H => ∃ W μ acc vs rest, m = xs.length - i ∧ i ≤ xs.length ∧ Ext W1 H1 μ1 W H μ ∧ Rel K W H μ ∧ Loose W μ D ∧ H D = some (HO.lst vs) ∧ RLs K W H vs acc ∧ EnvOk K W H σ e ∧ compItems (compOne fe t ifs own) (xs.drop i) e μ = some (rest, μ') ∧ rs = acc ++ rest ∧ acc.length ≤ i,
    ⟨xs.length, W1, μ1, [], [], rs, by simp, Nat.zero_le _, E0, R1.new _ hn, l0, upd_same, .nil, ok1.mono E0 R1, by simpa using hf, rfl, Nat.le_refl _⟩, ?_⟩
  rintro i m H ⟨W, μ, acc, vs, rest, rfl, hi, E, R, l, hD, ra, ok, hr, er, ha⟩
  by_cases hlt : i < xs.length
  · rw [List.drop_eq_getElem_cons hlt] at hr
    simp only [compItems] at hr
    refine .inr ⟨wk.go i W H μ E R hlt, fun H' => ∃ W μ acc vs rest, Ext W1 H1 μ1 W H' μ ∧ Rel K W H' μ ∧ Loose W μ D ∧ H' D = some (HO.lst vs) ∧ RLs K W H' vs acc ∧ EnvOk K W H' σ e ∧ compItems (compOne fe t ifs own) (xs.drop (i + 1)) e μ = some (rest, μ') ∧ rs = acc ++ rest ∧ acc.length ≤ i + 1,
      fun H' ⟨W, μ, acc, vs, rest, h1, h2, h3, h4, h5, h6, h7, h8, h9⟩ => ⟨xs.length - (i + 1), by omega, W, μ, acc, vs, rest, rfl, hlt, h1, h2, h3, h4, h5, h6, h7, h8, h9⟩, fun v H' hy => ?_⟩
    obtain ⟨W', E', R', rv⟩ := wk.yl i W H μ v H' _ E R (List.getElem?_eq_getElem hlt) hy
    cases hc : compOne fe t ifs own xs[i] e μ with
    | none => rw [hc] at hr; cases hr
    | some r =>
      obtain ⟨oy, m1⟩ := r
      rw [hc] at hr
      refine comp_turn hn E R l hD ra (by omega) E' R' rv hc hL ok _ fun W4 H4 vs' E4 R4 l4 hD4 ra4 ok4 => ?_
      cases oy with
      | none => exact ⟨W4, m1, acc, vs', rest, E4, R4, l4, hD4, by simpa using ra4, ok4, hr, er, by omega⟩
      | some y =>
        simp only at hr
        cases hz : compItems (compOne fe t ifs own) (xs.drop (i + 1)) e m1 with
        | none => rw [hz] at hr; cases hr
        | some r2 =>
          rw [hz] at hr; cases hr
          refine ⟨W4, m1, acc ++ [y], vs', r2.1, E4, R4, l4, hD4, ra4, ok4, hz, by rw [er, List.append_assoc]; rfl, by rw [List.length_append]; simp; omega⟩
  · have e1 : i = xs.length := by omega
    subst e1
    rw [List.drop_length] at hr
    simp only [compItems] at hr
    cases hr
    have hdc : ∀ b, b ≠ D → dropAt H D b = H b := fun b hb => dropAt_ne b hb
    have kd : Keep W.F H W.F (dropAt H D) := l.keepAt hD hdc
    refine .inl ⟨wk.st W H _ E R, ?_⟩
    have := q W (dropAt H D) vs (E.loose hn hdc) (R.loose l hD hdc) (by rw [er, List.append_nil]; exact RLs.keep kd ra) dropAt_same
    rw [dropAt_upd hD] at this
    exact this
theorem comp_cell {K : PySem.W.Frag} {W1 : Wd} {H1 : Hp} {μ1 μ' : Sto} {a D : Addr} {σ : List (Option V)} {e : Env} {k n : Nat} {rs : List LV} {t : TM} {ifs : List EM} {own L : List Nat} {Q : VK}
    (hn : H1 D = none) (R1 : Rel K W1 H1 μ1) (ok1 : EnvOk K W1 H1 σ e) (hk : W1.m[k]? = some a) (hlen : n ≤ LINE) (hL : ∀ i ∈ L, i ∈ own) (hf : compCell (compOne fe t ifs own) k n n e μ1 = some (rs, μ'))
    (q : ∀ W H vs, Ext W1 H1 μ1 W H μ' → Rel K W H μ' → RLs K W H vs rs → H D = none → Q (.ref D) (upd H D (.lst vs))) :
    ∃ Wn : Nat → Nat → Hp → Prop, (∃ m, Wn 0 m (upd H1 D (.lst []))) ∧ ∀ i m H, Wn i m H → ((Itl K a).stop i H ∧ Q (.ref D) H) ∨ ((Itl K a).go i H ∧ ∃ Nx : Hp → Prop, (∀ H', Nx H' → ∃ m', m' < m ∧ Wn (i + 1) m' H') ∧
      ∀ x H', (Itl K a).yld i H x H' → tG K L t x (wipe σ own) H' fun σ2 H2 => wipe σ2 own = wipe σ own ∧ tTs K ifs σ2 H2 fun b H3 => if b = true then tE K fe σ2 H3 fun y H4 => ∃ acc, H4 D = some (HO.lst acc) ∧ acc.length < sizeLine ∧ Nx (upd H4 D (.lst (acc ++ [y]))) else Nx H3) := by
  have E0 : Ext W1 H1 μ1 W1 (upd H1 D (.lst [])) μ1 := ext_new _ hn
  have l0 : Loose W1 μ1 D := ⟨fun hF => (by obtain ⟨⟨vs, h⟩, _⟩ := R1.frz D hF; rw [hn] at h; cases h), R1.notNew hn⟩
  refine ⟨fun i m H => ∃ W μ acc vs rest, i + m = n ∧ Ext W1 H1 μ1 W H μ ∧ Rel K W H μ ∧ Loose W μ D ∧ H D = some (HO.lst vs) ∧ RLs K W H vs acc ∧ EnvOk K W H σ e ∧ compCell (compOne fe t ifs own) k n m e μ = some (rest, μ') ∧ rs = acc ++ rest ∧ acc.length ≤ i,
    ⟨n, W1, μ1, [], [], rs, by omega, E0, R1.new _ hn, l0, upd_same, .nil, ok1.mono E0 R1, hf, rfl, Nat.le_refl _⟩, ?_⟩
  rintro i m H ⟨W, μ, acc, vs, rest, hi, E, R, l, hD, ra, ok, hr, er, ha⟩
  have hk2 := E.at hk
  cases m with
  | zero =>
    simp only [compCell] at hr
    split at hr
    · rename_i ys hy
      split at hr
      · rename_i hyn
        cases hr
        obtain ⟨ws, hv, hl⟩ := R.cell k a ys hk2 hy
        have hdc : ∀ b, b ≠ D → dropAt H D b = H b := fun b hb => dropAt_ne b hb
        have kd : Keep W.F H W.F (dropAt H D) := l.keepAt hD hdc
        refine .inl ⟨⟨ws, .of hv, by rw [hl.length]; omega⟩, ?_⟩
        have := q W (dropAt H D) vs (E.loose hn hdc) (R.loose l hD hdc) (by rw [er, List.append_nil]; exact RLs.keep kd ra) dropAt_same
        rw [dropAt_upd hD] at this
        exact this
      · cases hr
    · cases hr
  | succ m =>
    simp only [compCell] at hr
    split at hr
    · rename_i ys hy
      split at hr
      · rename_i hyn
        have hix : n - (m + 1) = i := by omega
        rw [hix] at hr
        split at hr
        · rename_i x hx
          obtain ⟨ws, hv, hl⟩ := R.cell k a ys hk2 hy
          obtain ⟨v0, hv0, rv0⟩ := hl.get hx
          refine .inr ⟨⟨ws, v0, .of hv, hv0⟩, fun H' => ∃ W μ acc vs rest, Ext W1 H1 μ1 W H' μ ∧ Rel K W H' μ ∧ Loose W μ D ∧ H' D = some (HO.lst vs) ∧ RLs K W H' vs acc ∧ EnvOk K W H' σ e ∧ compCell (compOne fe t ifs own) k n m e μ = some (rest, μ') ∧ rs = acc ++ rest ∧ acc.length ≤ i + 1,
            fun H' ⟨W, μ, acc, vs, rest, h1, h2, h3, h4, h5, h6, h7, h8, h9⟩ => ⟨m, by omega, W, μ, acc, vs, rest, by omega, h1, h2, h3, h4, h5, h6, h7, h8, h9⟩, fun v H' hyl => ?_⟩
          obtain ⟨rfl, hyl⟩ := hyl
          have ev := hyl ws (.of hv)
          rw [hv0] at ev; cases ev
          cases hc : compOne fe t ifs own x e μ with
          | none => rw [hc] at hr; cases hr
          | some r =>
            obtain ⟨oy, m1⟩ := r
            rw [hc] at hr
            refine comp_turn hn E R l hD ra (by omega) .refl R rv0 hc hL ok _ fun W4 H4 vs' E4 R4 l4 hD4 ra4 ok4 => ?_
            cases oy with
            | none => exact ⟨W4, m1, acc, vs', rest, E4, R4, l4, hD4, by simpa using ra4, ok4, hr, er, by omega⟩
            | some y =>
              simp only at hr
              cases hz : compCell (compOne fe t ifs own) k n m e m1 with
              | none => rw [hz] at hr; cases hr
              | some r2 =>
                rw [hz] at hr; cases hr
                refine ⟨W4, m1, acc ++ [y], vs', r2.1, E4, R4, l4, hD4, ra4, ok4, hz, by rw [er, List.append_assoc]; rfl, by rw [List.length_append]; simp; omega⟩
        · cases hr
      · cases hr
    · cases hr
theorem comp_core {tl : Unit} {fi : IM} {t : TM} {ifs : List EM} {own L : List Nat} (hL : ∀ i ∈ L, i ∈ own) {σ : List (Option V)} {H : Hp} {Q : VK} (h : tL X.K (lComp fe t fi ifs own) σ H Q) : tLc (tI X.K fi) (tG X.K L t) (tTs X.K ifs) (tE X.K fe) own σ H Q := by
  obtain ⟨W, e, μ, rs, μ', R, E, hf, q⟩ := h
  unfold lComp at hf
  split at hf
  · rename_i i m1 h1
    refine ⟨W, e, μ, i, m1, R, E, h1, fun W1 H1 J E1 R1 wk D hD => ?_⟩
    cases i with
    | items xs =>
      simp only [compOver] at hf
      split at hf
      · rename_i hlen
        exact comp_items hD R1 (E.mono E1 R) wk hlen hL hf fun W2 H2 vs E2 R2 rr hn2 => q W2 H2 vs (E1.trans E2) R2 rr D hn2
      · cases hf
    | cell k =>
      obtain ⟨ad, hk, rfl⟩ := wk
      simp only [compOver] at hf
      split at hf
      · split at hf
        · rename_i hlen
          exact comp_cell hD R1 (E.mono E1 R) hk hlen hL hf fun W2 H2 vs E2 R2 rr hn2 => q W2 H2 vs (E1.trans E2) R2 rr D hn2
        · cases hf
      · cases hf
  · cases hf
theorem sl_comp {tg it : Expr} {as : List Expr} {scope : Scope} {names : List (Str × Nat)} {fi : IM} {t : TM} {ifs : List EM} {L : List Nat} (hc : X.calm = true) (hN : X.N.Nodup) (hi : SI X tg it fi) (ok : BlkOk X.N X.env.scope scope names) (hs : ∀ x, foldedSetIterable it X.env x = pure x)
    (hL : ∀ i ∈ L, i ∈ names.map (·.2))
    (hg : ∀ (s : Shared) (H : Hp) (C : Addr) (cl : List (Str × Addr)) (fp : List Addr), SG (X.blk s H scope (compEnvC scope cl C X.env) fp) tg L t)
    (ht : ∀ (s : Shared) (H : Hp) (C : Addr) (cl : List (Str × Addr)) (fp : List Addr), STs (X.blk s H scope (compEnvC scope cl C X.env) fp) as ifs)
    (he : ∀ (s : Shared) (H : Hp) (C : Addr) (cl : List (Str × Addr)) (fp : List Addr), SE (X.blk s H scope (compEnvC scope cl C X.env) fp) a fe) :
    SL X (.ListComp a [⟨tg, it, as, 0⟩] scope pos) (lComp fe t fi ifs (names.map (·.2))) :=
  (pe_lc hc hN hi ok hg ht he hs).imp fun σ H Q h => comp_core (tl := ()) hL h
/-- name = [..] -/
theorem ss_setComp {i : Nat} {y : Str} {py spos : Pos} {tg it : Expr} {as : List Expr} {scope : Scope} {names : List (Str × Nat)} {fi : IM} {t : TM} {ifs : List EM} {L : List Nat} {g : EM} (hc : X.calm = true) (hN : X.N.Nodup) (hy : X.N[i]? = some y) (hyl : X.env.scope.names.lookup y = some .local)
    (hsw : swapsWith (.ListComp a [⟨tg, it, as, 0⟩] scope pos) (some (.Name y py)) spos.line X.env = pure true) (hi : SI X tg it fi) (ok : BlkOk X.N X.env.scope scope names) (hs : ∀ x, foldedSetIterable it X.env x = pure x)
    (hL : ∀ i ∈ L, i ∈ names.map (·.2))
    (hg : ∀ (s : Shared) (H : Hp) (C : Addr) (cl : List (Str × Addr)) (fp : List Addr), SG (X.blk s H scope (compEnvC scope cl C X.env) fp) tg L t)
    (ht : ∀ (s : Shared) (H : Hp) (C : Addr) (cl : List (Str × Addr)) (fp : List Addr), STs (X.blk s H scope (compEnvC scope cl C X.env) fp) as ifs)
    (he : ∀ (s : Shared) (H : Hp) (C : Addr) (cl : List (Str × Addr)) (fp : List Addr), SE (X.blk s H scope (compEnvC scope cl C X.env) fp) a fe)
    (hgl : g = eLst (lComp fe t fi ifs (names.map (·.2))) ∨ g = eNew (lComp fe t fi ifs (names.map (·.2)))) :
    SS X (.Assign [.Name y py] (.ListComp a [⟨tg, it, as, 0⟩] scope pos) spos) (sAsg (tName i) g) := by
  refine (ps_setLc (g := tG X.K L t) (tt := tTs X.K ifs) (te := tE X.K fe) hc hN hy hyl hsw hi ok hg ht he hs).imp fun D σ H ⟨W, e, μ, o, R, E, hf, q⟩ => ?_
  show tLc (tI X.K fi) (tG X.K L t) (tTs X.K ifs) (tE X.K fe) (names.map (·.2)) σ H fun x H1 => D.nx (σ.set i (some x)) H1
  unfold sAsg at hf
  split at hf
  · rename_i v m1 h1
    cases hr : tName i v e m1 with
    | none => cases hr
    | some r =>
      rw [hr] at hf; cases hf
      cases hr
      have fin : ∀ W' H' x, Ext W H μ W' H' m1 → Rel X.K W' H' m1 → RL X.K W' H' x v → D.nx (σ.set i (some x)) H' := fun W' H' x E' R' rx => q W' H' _ E' R' ((E.mono E' R).set rx i)
      refine comp_core (tl := ()) hL ?_
      rcases hgl with rfl | rfl
      · unfold eLst at h1
        split at h1
        · rename_i vs m2 h2
          cases ha : allD vs with
          | none => rw [ha] at h1; cases h1
          | some xs =>
            rw [ha] at h1; cases h1
            exact ⟨W, e, μ, vs, _, R, E, h2, fun W1 H1 us E1 R1 rs => post_lst (Q := fun x H1 => D.nx (σ.set i (some x)) H1) R1 (rs.all ha) fun W' H' u E2 R2 ru => fin W' H' u (E1.trans E2) R2 ru⟩
        · cases h1
      · unfold eNew at h1
        split at h1
        · rename_i vs m2 h2
          cases h1
          refine ⟨W, e, μ, vs, _, R, E, h2, fun W1 H1 us E1 R1 rs p hp => ?_⟩
          have E2 := ext_more us vs R1 hp
          refine fin _ _ _ (E1.trans E2) (R1.newCell hp rs) ⟨p, ?_, rfl⟩
          show (W1.m ++ [p])[m2.length]? = some p
          rw [← R1.len, List.getElem?_append_right (Nat.le_refl _), Nat.sub_self]
          rfl
        · cases h1
  · cases hf
end
end Gg

end
section
/-! GMore: x[::-1], list(range(..)), [..] * n, a list that changes no more. -/
namespace Gg
section
open PySem PySem.Spec PyProof.Rows L2 HT
variable {prog : Program} {w : World} {A : Around} {E : Value → Shared → Prop} {s : Shared}
theorem adj_rev (n : Nat) : Builtin.Slice.sliceAdjust none none (-1) (n : Int) = ((n : Int) - 1, -1) := rfl
theorem places_rev (n : Nat) : Builtin.Slice.slicePlaces ((n : Int) - 1) (-1) (-1) = n := by
  unfold Builtin.Slice.slicePlaces
  rw [if_neg (by decide)]
  by_cases h : (n : Int) - 1 > -1
  · rw [if_pos h, show (-(-1) : Int) = 1 by decide, Int.ediv_one]; omega
  · rw [if_neg h]; omega
theorem pick_rev (xs : Array Value) : ((List.range xs.size).filterMap fun (k : Nat) => xs[((xs.size : Int) - 1 + (k : Int) * (-1)).toNat]?).toArray = xs.toList.reverse.toArray := by
  congr 1
  have key : ∀ l : List Value, ∀ n, n ≤ l.length → (List.range n).filterMap (fun k => l[n - 1 - k]?) = (l.take n).reverse := by
    intro l n
    induction n with
    | zero => intro _; rfl
    | succ n ih =>
      intro hn
      rw [List.range_succ_eq_map, List.filterMap_cons, List.filterMap_map]
      have e0 : l[n + 1 - 1 - 0]? = some l[n] := by
        rw [show n + 1 - 1 - 0 = n by omega]; exact List.getElem?_eq_getElem (by omega)
      rw [e0]
      have e1 : ((fun k => l[n + 1 - 1 - k]?) ∘ Nat.succ) = fun k => l[n - 1 - k]? := by
        funext k
        show l[n + 1 - 1 - (k + 1)]? = l[n - 1 - k]?
        congr 1; omega
      have e2 : l.take (n + 1) = l.take n ++ [l[n]] := by
        rw [List.take_add_one, List.getElem?_eq_getElem (show n < l.length by omega)]; rfl
      rw [e1, ih (by omega), e2, List.reverse_append]
      rfl
  have h2 := key xs.toList xs.size (by simp)
  rw [show xs.toList.take xs.size = xs.toList by rw [List.take_of_length_le]; simp] at h2
  rw [← h2]
  have fcongr : ∀ {f g : Nat → Option Value} {l : List Nat}, (∀ k ∈ l, f k = g k) → l.filterMap f = l.filterMap g := by
    intro f g l
    induction l with
    | nil => intro _; rfl
    | cons a l ih =>
      intro hh
      rw [List.filterMap_cons, List.filterMap_cons, hh a List.mem_cons_self, ih fun k hk => hh k (List.mem_cons_of_mem _ hk)]
  refine fcongr fun k hk => ?_
  have := List.mem_range.mp hk
  rw [show ((xs.size : Int) - 1 + (k : Int) * (-1)).toNat = xs.size - 1 - k by omega]
  simp
theorem applied_rev {sl : Addr} {vl vu vt : Value} {n : Nat} {Q : Int × Int × Nat → Shared → Prop} (hs : s.heap.IsSliceOf sl vl vu vt) (pl : IsPart vl none) (pu : IsPart vu none) (pt : IsPart vt (some (-1)))
    (h : Q ((n : Int) - 1, -1, n) s) : wpAny (model prog w) A (Builtin.Slice.sliceApplied (.ref sl) (pure (n : Int))) Q E s := by
  obtain ⟨ob, hob, hcl, hda⟩ := id hs
  unfold Builtin.Slice.sliceApplied Builtin.Slice.sliceFields
  refine wpAny_bind (wpAny_bind (wpAny_field hob hda (x := vl) rfl (wpAny_bind (wpAny_field hob hda (x := vu) rfl (wpAny_bind (wpAny_field hob hda (x := vt) rfl (wpAny_pure ?_)))))))
  refine wpAny_bind (slicePart_ pt ?_)
  show wpAny _ _ (if ((-1 : Int) == 0) = true then _ else _) _ _ s
  rw [if_neg (by decide)]
  refine wpAny_bind (slicePart_ pl (wpAny_bind (slicePart_ pu (wpAny_bind (wpAny_pure ?_)))))
  show wpAny _ _ (match Builtin.Slice.sliceAdjust none none (-1) (n : Int) with | (lo, hi) => pure (lo, (-1 : Int), Builtin.Slice.slicePlaces lo hi (-1))) _ _ s
  rw [adj_rev]
  show wpAny _ _ (pure ((n : Int) - 1, (-1 : Int), Builtin.Slice.slicePlaces ((n : Int) - 1) (-1) (-1))) _ _ s
  rw [places_rev]
  exact wpAny_pure h
theorem tup_rev {t sl : Addr} {items : Array Value} {vl vu vt : Value} {Q : Value → Shared → Prop} (ht : IsTup s.heap t items) (hs : s.heap.IsSliceOf sl vl vu vt) (pl : IsPart vl none) (pu : IsPart vu none) (pt : IsPart vt (some (-1)))
    (h : Q (.ref s.heap.objs.size) { s with heap := s.heap.push { cls := .type "tuple", data := .seq items.toList.reverse.toArray } }) (hz : items.size ≤ sizeLine) : wpAny (model prog w) A (getItem (.ref t) (.ref sl)) Q E s := by
  have fits : sizeOk (.seq items.toList.reverse.toArray) := by
    show items.toList.reverse.toArray.size ≤ sizeLine
    rw [List.size_toArray, List.length_reverse, Array.length_toList]; exact hz
  obtain ⟨ob, hob, hcl, hda⟩ := id hs
  have tySl : s.TypeIs (.ref sl) "slice" := ⟨ob, hob, hcl⟩
  unfold getItem
  try with_reducible refine wpAny_holding ?_
  first | refine wpAny_bind (wpAny_pure ?_) | skip
  refine wpAny_bind (wpAny_sequenceKey ht.typeIs (by decide) ?_)
  refine wpAny_bind (wpAny_callSpecial?_slot (name := Str.ofString "__getitem__") ht.typeIs slot_tuple_getitem (wpAny_call_entry slot_tuple_getitem ht.typeIs entry_tuple_getitem ?_ (args_tuple_getitem _ _)))
  show wpAny _ _ (Builtin.Tuple.tupleItemsOf (.ref t) >>= _) _ _ s
  refine wpAny_bind (tupleItemsOf_ ht (wpAny_bind (wpAny_typeOf tySl ?_)))
  rw [if_pos (by decide)]
  refine wpAny_bind (applied_rev hs pl pu pt ?_)
  have hno : ¬ (((items.size : Int) - 1 == 0 && (-1 : Int) == 1 && items.size == items.size) = true) := by
    intro q
    rw [Bool.and_eq_true, Bool.and_eq_true] at q
    exact absurd q.1.2 (by decide)
  show wpAny _ _ (if ((items.size : Int) - 1 == 0 && (-1 : Int) == 1 && items.size == items.size) = true then _ else _) _ _ s
  rw [if_neg hno, pick_rev]
  first
    | exact wpAny_bind (m := Builtin.Tuple.tupleExact _) (wpAny_newObj_type (wpAny_pure ⟨_, rfl, wpAny_pure h⟩) fits)
    | exact wpAny_bind (wpAny_bind (m := Builtin.Tuple.tupleExact _) (wpAny_newObj_type (wpAny_pure (wpAny_pure ⟨_, rfl, wpAny_pure h⟩)) fits))
    | exact wpAny_bind (m := Builtin.Tuple.tupleExact _) (wpAny_newObj_type (wpAny_bind (wpAny_pure (wpAny_pure ⟨_, rfl, wpAny_pure h⟩))) fits)
theorem pe_rev {X : Cx} {a : PySem.Expr} {ta : TE} {k : Nat} {p1 p2 p3 pos : Pos} (ha : PE X a ta) : PE X (.Subscript a (.Slice none none (some (.UnaryOp .USub (.Constant (.int 1) k p1) p2)) p3) pos)
    (fun σ H Q => ta σ H fun x H1 => (∃ ad xs, x = .ref ad ∧ SqL X.K H1 ad xs ∧ ∀ p, H1 p = none → Q (.ref p) (upd H1 p (.lst xs.reverse))) ∨ ∃ ad xs, x = .ref ad ∧ SqT X.K H1 ad xs ∧ ∀ p, H1 p = none → Q (.ref p) (upd H1 p (.tup xs.reverse))) := by
  refine ⟨fun pins s σ H Q I h => Subscript_ (thn (ha.run pins s σ H _ I h) fun v s1 ⟨x, H1, I1, r1, q1⟩ => ?_)⟩
  have step : PO X (some (.UnaryOp .USub (.Constant (.int 1) k p1) p2)) (tPart (tUn (rU fun i => .int (-i)) (tC (.int 1)))) := po_some (pe_un un_neg pe_int)
  refine wpAny_Slice (thn (po_none.run pins s1 σ H1 (fun oo Hx => oo = none ∧ Hx = H1) I1 ⟨rfl, rfl⟩) fun vl s2 ⟨l, H2, I2, pl, el, e2⟩ => ?_)
  subst el e2
  refine thn (po_none.run pins s2 σ H2 (fun oo Hx => oo = none ∧ Hx = H2) I2 ⟨rfl, rfl⟩) fun vu s3 ⟨u, H3, I3, pu, eu, e3⟩ => ?_
  subst eu e3
  refine thn (step.run pins s3 σ H3 (fun oo Hx => oo = some (-1) ∧ Hx = H3) I3 ⟨1, rfl, -1, rfl, rfl, rfl⟩) fun vt s4 ⟨oo, H4, I4, pt, eo, e4⟩ => ?_
  subst eo e4
  have I5 : Inv X pins σ H4 { s4 with heap := s4.heap.push { cls := .type "slice", data := .fields #[vl, vu, vt] } } := I4.kept (t' := s4.toks) fun b ob q => Heap.get?_push_of_some _ q
  rcases q1 with ⟨ad, xs, rfl, hx, q⟩ | ⟨ad, xs, rfl, hx, q⟩
  · cases r1
    obtain ⟨its, r, ht, hz⟩ := I5.list hx
    have hlen := r.length
    show wpAny (model X.prog X.w) X.A (subscriptTail a (.Slice none none (some (.UnaryOp .USub (.Constant (.int 1) k p1) p2)) p3) (.ref ad) (.ref s4.heap.objs.size)) _ _ _
    refine tail_any (ops := [.ref ad, .ref s4.heap.objs.size]) ht.isList.typeIs PySem.slot_list_getitem.lookup ?_ (by with_unfolding_all rfl)
    refine wpAny_getItem_list_slice ht.isList (Heap.IsSliceOf.new _ vl vu vt) pl pu pt (by decide) ?_ (by rw [List.size_toArray]; omega)
    rw [PySem.W.krv_pick]
    exact ⟨.ref _, _, I5.lnew (t' := s4.toks) (its := its.reverse) r.reverse (by rw [List.length_reverse]; exact hz), rfl, q _ I5.fresh⟩
  · cases r1
    obtain ⟨its, r, ht, hz⟩ := I5.tuple hx
    have hlen := r.length
    show wpAny (model X.prog X.w) X.A (subscriptTail a (.Slice none none (some (.UnaryOp .USub (.Constant (.int 1) k p1) p2)) p3) (.ref ad) (.ref s4.heap.objs.size)) _ _ _
    refine tail_any (ops := [.ref ad, .ref s4.heap.objs.size]) ht.typeIs slot_tuple_getitem.lookup ?_ (by with_unfolding_all rfl)
    refine tup_rev ht (Heap.IsSliceOf.new _ vl vu vt) pl pu pt ?_ (by rw [List.size_toArray]; omega)
    refine ⟨.ref _, _, I5.laid (t' := s4.toks) (o := .tup xs.reverse) (fun b ob q => Heap.get?_push_of_some _ q) (Nat.le_refl _) ?_, rfl, q _ I5.fresh⟩
    exact ⟨by rw [List.length_reverse]; exact hz, _, r.reverse, ⟨_, Heap.get?_push_size _ rfl, rfl, _, rfl⟩⟩
end
open PySem L2
section
variable {K : PySem.W.Frag} {W : Wd} {H : Hp} {μ : Sto}
variable {X : Cx} {a b c o : Expr} {fa fb fc fe : EM} {pos p : Pos}
theorem se_rev {k : Nat} {p1 p2 p3 : Pos} (ha : SE X a fa) : SE X (.Subscript a (.Slice none none (some (.UnaryOp .USub (.Constant (.int 1) k p1) p2)) p3) pos) (eUn revD fa) := by
  refine (pe_rev ha).imp fun σ H Q ⟨W, e, μ, r, μ', R, E, hf, q⟩ => ?_
  unfold eUn at hf
  split at hf
  · rename_i v m1 h1
    split at hf
    · rename_i x hx
      cases hz : revD x with
      | none => rw [hz] at hf; cases hf
      | some z =>
        rw [hz] at hf; cases hf
        refine ⟨W, e, μ, v, _, R, E, h1, fun W1 H1 u E1 R1 ru => ?_⟩
        have t := rd_ok R1 ru hx
        have q' : Post X.K W1 H1 μ' μ' (.d z) Q := fun W4 H4 v4 E4 R4 r4 => q W4 H4 v4 (E1.trans E4) R4 r4
        unfold revD at hz
        split at hz
        · cases hz
          obtain ⟨ad, vs, rfl, g1, g2⟩ := t
          exact .inl ⟨ad, vs, rfl, .of g1, post_lst R1 g2.reverse q'⟩
        · cases hz
          cases t with
          | tup g1 g2 => exact .inr ⟨_, _, rfl, g1, post_tup R1 g2.reverse q'⟩
        · cases hz
    · cases hf
  · cases hf
theorem RLs.reverse {vs : List V} {xs : List LV} (h : RLs K W H vs xs) : RLs K W H vs.reverse xs.reverse := by
  induction h with
  | nil => exact .nil
  | cons a _ ih => rw [List.reverse_cons, List.reverse_cons]; exact ih.append (.cons a .nil)
/-- as a new list -/
theorem sl_rev {k : Nat} {p1 p2 p3 : Pos} (ha : SE X a fa) : SL X (.Subscript a (.Slice none none (some (.UnaryOp .USub (.Constant (.int 1) k p1) p2)) p3) pos) (lRev fa) := by
  refine (pe_rev ha).imp fun σ H Q ⟨W, e, μ, r, μ', R, E, hf, q⟩ => ?_
  unfold lRev at hf
  split at hf
  · rename_i xs m1 h1
    cases hf
    refine ⟨W, e, μ, _, _, R, E, h1, fun W1 H1 u E1 R1 ru => ?_⟩
    cases ru with
    | lst g1 g2 g3 => exact .inl ⟨_, _, rfl, .of g2, q W1 H1 _ E1 R1 (RPs.rls g3.reverse)⟩
  · rename_i k m1 h1
    split at hf
    · rename_i xs hx
      cases hf
      refine ⟨W, e, μ, _, _, R, E, h1, fun W1 H1 u E1 R1 ru => ?_⟩
      obtain ⟨ad, hk, rfl⟩ := ru
      obtain ⟨vs, g1, g2⟩ := R1.cell _ ad xs hk hx
      exact .inl ⟨ad, vs, rfl, .of g1, q W1 H1 _ E1 R1 g2.reverse⟩
    · cases hf
  · cases hf
/-! ### a list that changes no more -/
theorem setSame (R : Rel K W H μ) {k : Nat} {ad : Addr} {vs : List V} {xs ys : List LV} (hk : W.m[k]? = some ad) (hx : μ[k]? = some (Cell.lst xs)) (hv : H ad = some (.lst vs)) (r : RLs K W H vs ys) : Rel K W H (μ.set k (.lst ys)) ∧ Ext W H μ W H (μ.set k (.lst ys)) := by
  have e : upd H ad (.lst vs) = H := by
    funext b
    by_cases h : b = ad
    · rw [h, upd_same, hv]
    · rw [upd_ne h]
  have R' := R.setCell hk hx (vs' := vs) (xs' := ys) r
  have E' := ext_set R hk hx (vs' := vs) (xs' := ys)
  rw [e] at R' E'
  exact ⟨R', E'⟩
/-- all is read at the heap as it stands -/
def FrzOk (K : PySem.W.Frag) (f : Sto → LV → Option (PyData × Sto)) : Prop := ∀ (W : Wd) (H : Hp) (μ μ' : Sto) (v : V) (x : LV) (y : PyData), Rel K W H μ → RL K W H v x → f μ x = some (y, μ') → ∃ F', Ext W H μ ⟨W.m, F'⟩ H μ' ∧ Rel K ⟨W.m, F'⟩ H μ' ∧ RP K F' H v y
theorem frzM_ok {K : PySem.W.Frag} {f : Sto → LV → Option (PyData × Sto)} (hf : FrzOk K f) : ∀ {vs : List V} {xs : List LV} (W : Wd) (H : Hp) (μ μ' : Sto) (ys : List PyData), Rel K W H μ → RLs K W H vs xs → frzM f μ xs = some (ys, μ') → ∃ F', Ext W H μ ⟨W.m, F'⟩ H μ' ∧ Rel K ⟨W.m, F'⟩ H μ' ∧ RPs K F' H vs ys
  | _, _, W, H, μ, μ', ys, R, .nil, h => by cases h; exact ⟨W.F, .refl, R, .nil⟩
  | _, _, W, H, μ, μ', ys, R, .cons a t, h => by
    simp only [frzM] at h
    split at h
    · rename_i y m1 h1
      split at h
      · rename_i zs m2 h2
        cases h
        obtain ⟨F1, E1, R1, r1⟩ := hf W H μ m1 _ _ y R a h1
        obtain ⟨F2, E2, R2, r2⟩ := frzM_ok hf ⟨W.m, F1⟩ H m1 _ zs R1 (RLs.mono E1 R t) h2
        exact ⟨F2, E1.trans E2, R2, .cons (RP.mono (E2.kp R1) r1) r2⟩
      · cases h
    · cases h
theorem frzV_ok {K : PySem.W.Frag} : ∀ n, FrzOk K (frzV n)
  | 0, W, H, μ, μ', v, x, y, R, r, h => by
    cases x with
    | d z => cases h; exact ⟨W.F, .refl, R, r⟩
    | ref k => cases h
    | ro _ => cases h
    | tr _ _ => cases h
  | n + 1, W, H, μ, μ', v, x, y, R, r, h => by
    cases x with
    | d z => cases h; exact ⟨W.F, .refl, R, r⟩
    | ro _ => cases h
    | tr _ _ => cases h
    | ref k =>
      simp only [frzV] at h
      split at h
      · rename_i xs hx
        split at h
        · rename_i ys m1 h1
          split at h
          · rename_i zs hz
            cases h
            obtain ⟨ad, hk, rfl⟩ := r
            obtain ⟨vs, g1, g2⟩ := R.cell k ad xs hk hx
            obtain ⟨F1, E1, R1, r1⟩ := frzM_ok (frzV_ok n) W H μ m1 ys R g2 h1
            obtain ⟨R2, E2⟩ := setSame R1 (ys := ys.map .d) hk hz g1 (RPs.rls (W := ⟨W.m, F1⟩) r1)
            have hx2 : (m1.set k (.lst (ys.map LV.d)))[k]? = some (Cell.lst (ys.map LV.d)) := List.getElem?_set_self (live_lt (live.l hz))
            have E3 := ext_dead (H := H) (W := ⟨W.m, F1⟩) hk hx2
            have R3 := R2.dead hk hx2
            have es : (m1.set k (.lst (ys.map LV.d))).set k .dead = m1.set k .dead := by rw [List.set_set]
            rw [es] at E3 R3
            exact ⟨_, (E1.trans E2).trans E3, R3, .lst (.inr rfl) g1 (RPs.mono (E3.kp R2) (RPs.mono (E2.kp R1) r1))⟩
          · cases h
        · cases h
      · cases h
theorem se_frz {i : Nat} {x : Str} (hN : X.N[i]? = some x) (hv : Vis X.env.scope x) (hd : (x == ("__debug__" : Str)) = false) (hcd : (x == ("__classdict__" : Str)) = false) : SE X (.Name x pos) (eFrz i) := by
  refine (pe_var hN hv hd hcd).imp fun σ H Q ⟨W, e, μ, r, μ', R, E, hf, q⟩ => ?_
  unfold eFrz at hf
  split at hf
  · rename_i v hk
    cases hz : frzV FRZ μ v with
    | none => rw [hz] at hf; cases hf
    | some z =>
      rw [hz] at hf; cases hf
      obtain ⟨u, h1, h2⟩ := E.2 i _ hk
      obtain ⟨F', E1, R1, r1⟩ := frzV_ok FRZ W H μ z.2 u v z.1 R h2 hz
      exact ⟨u, h1, q ⟨W.m, F'⟩ H u E1 R1 r1⟩
  · cases hf
/-! ### [..] * n -/
theorem sl_rep {l : LM} (ha : SL X a l) (hb : SE X b fb) : SL X (.BinOp a .Mult b pos) (lRep l fb) := by
  refine (pe_op op_rep ha hb).imp fun σ H Q ⟨W, e, μ, rs, μ', R, E, hf, q⟩ => ?_
  unfold lRep at hf
  split at hf
  · rename_i xs m1 h1
    split at hf
    · rename_i k m2 h2
      split at hf
      · rename_i hz
        cases hf
        refine ⟨W, e, μ, xs, m1, R, E, h1, fun W1 H1 us E1 R1 rr p hp => ?_⟩
        have E2 : Ext W1 H1 m1 W1 (upd H1 p (.lst us)) m1 := ext_new _ hp
        have R2 : Rel X.K W1 (upd H1 p (.lst us)) m1 := R1.new _ hp
        have l0 : Loose W1 m1 p := ⟨fun hF => (by obtain ⟨⟨vs, h⟩, _⟩ := R1.frz p hF; rw [hp] at h; cases h), R1.notNew hp⟩
        refine ⟨W1, e, m1, _, _, R2, (E.mono E1 R).mono E2 R1, h2, fun W3 H3 y E3 R3 ry => ?_⟩
        cases ry
        obtain ⟨l3, hp3⟩ := l0.ext upd_same E3
        have rr3 := RLs.mono (E2.trans E3) R1 rr
        have hk := rng_ok hz.2
        refine ⟨p, _, us, rfl, rfl, hp3, by omega, by omega, by rw [rr.length]; exact line_le' hz.1, fun p' hp' => ?_⟩
        exact q W3 H3 _ (E1.trans (E2.trans E3)) R3 (rr3.repl _) p' hp'
      · cases hf
    · cases hf
  · cases hf
/-! ### list(range(..)) -/
def tRg (K : PySem.W.Frag) (f : IM) : List (Option V) → Hp → (Int → Int → Hp → Prop) → Prop := fun σ H Q => ∃ W e μ xs μ', Rel K W H μ ∧ EnvOk K W H σ e ∧ f e μ = some (Itm.items xs, μ') ∧ ∀ W' H' i j, Ext W H μ W' H' μ' → Rel K W' H' μ' → rngOk i = true → rngOk j = true → xs = upTo i (j - i).toNat → Q i j H'
theorem ints_up {K : PySem.W.Frag} {W : Wd} {H : Hp} (lo : Int) (n : Nat) : RLs K W H ((List.range n).map fun i => V.int (lo + (i : Nat))) (upTo lo n) := by
  unfold upTo
  induction List.range n with
  | nil => exact .nil
  | cons k l ih => exact .cons (.int _) ih
theorem sl_range1 {q p' : Pos} (hc : X.calm = true) (hgl : Gl X "list") (hml : X.mg "list" = none) (hg : Gl X "range") (hm : X.mg "range" = none) (hn : notStar a = true) (ha : SE X a fa) : SL X (.Call (.Name "list" p) [.Call (.Name "range" q) [a] [] p'] [] pos) (lRng (iRange [fa])) := by
  refine (pe_listRg hc hgl hml (prg_1 hg hm ha (star_cons hn)) (star_cons rfl)).imp fun σ H Q ⟨W, e, μ, rs, μ', R, E, hf, q⟩ => ?_
  unfold lRng at hf
  split at hf
  · rename_i xs m1 h1
    cases hf
    unfold iRange at h1
    split at h1
    · rename_i j m2 h2
      split at h1
      · rename_i hj
        cases h1
        unfold evalL at h2
        split at h2
        · rename_i v m3 h3
          simp only [evalL] at h2
          cases h2
          have := rng_ok hj
          refine ⟨W, e, μ, _, _, R, E, h3, fun W1 H1 x E1 R1 rx => ⟨j, by cases rx; rfl, ⟨by omega, by omega, by omega, by omega, by omega⟩, fun p hp => ?_⟩⟩
          have := q W1 H1 (rgV 0 j) E1 R1 (by unfold rgV; rw [Int.sub_zero]; exact ints_up 0 _) p hp
          exact this
        · cases h2
      · cases h1
    · rename_i h2; exact absurd (evalL_len h2) (by simp)
    · rename_i h2; exact absurd (evalL_len h2) (by simp)
    · cases h1
  · cases hf
theorem sl_range2 {q p' : Pos} (hc : X.calm = true) (hgl : Gl X "list") (hml : X.mg "list" = none) (hg : Gl X "range") (hm : X.mg "range" = none) (hn : notStar a = true) (hn' : notStar b = true) (ha : SE X a fa) (hb : SE X b fb) : SL X (.Call (.Name "list" p) [.Call (.Name "range" q) [a, b] [] p'] [] pos) (lRng (iRange [fa, fb])) := by
  refine (pe_listRg hc hgl hml (prg_2 hg hm ha hb (star_cons hn) (star_cons hn') (star_none (by rw [List.all_cons, hn']; rfl))) (star_cons rfl)).imp fun σ H Q ⟨W, e, μ, rs, μ', R, E, hf, q⟩ => ?_
  unfold lRng at hf
  split at hf
  · rename_i xs m1 h1
    cases hf
    unfold iRange at h1
    split at h1
    · rename_i h2; exact absurd (evalL_len h2) (by simp)
    · rename_i i j m2 h2
      split at h1
      · rename_i hj
        rw [Bool.and_eq_true] at hj
        cases h1
        unfold evalL at h2
        split at h2
        · rename_i v m3 h3
          split at h2
          · rename_i vs m4 h4
            cases h2
            unfold evalL at h4
            split at h4
            · rename_i v5 m5 h5
              simp only [evalL] at h4
              cases h4
              have := rng_ok hj.1
              have := rng_ok hj.2
              refine ⟨W, e, μ, _, _, R, E, h3, fun W1 H1 x E1 R1 rx => ⟨W1, e, _, _, _, R1, E.mono E1 R, h5, fun W2 H2 y E2 R2 ry => ⟨i, j, by cases rx; rfl, by cases ry; rfl, ⟨by omega, by omega, by omega, by omega, by omega⟩, fun p hp => ?_⟩⟩⟩
              exact q W2 H2 (rgV i j) (E1.trans E2) R2 (ints_up i _) p hp
            · cases h4
          · cases h2
        · cases h2
      · cases h1
    · rename_i h2; exact absurd (evalL_len h2) (by simp)
    · cases h1
  · cases hf
end
end Gg

end
section
/-! GDct: dicts: displays, in, not in. -/
namespace Gg
open PySem L2
section
variable {X : Cx} {a b : PySem.Expr} {fa fb : EM} {pos : Pos}
def rInK (neg : Bool) : R2 := fun x y H Q => ∃ a o, y = .ref a ∧ DGet H a x o ∧ Q (.bl (o.isSome != neg)) H
theorem op_inK (hu : X.A.units + 1 < cLine) : OpR X (compareOp .In) (rInK false) := by
  intro pins s σ H x y v u Q I rx ry h
  obtain ⟨p, o, rfl, g, q⟩ := h
  cases ry
  exact d_in hu I g rx fun s' I' => ⟨.bl _, H, I', rfl, by rw [Bool.bne_false] at q; exact q⟩
theorem op_notInK (hu : X.A.units + 1 < cLine) : OpR X (compareOp .NotIn) (rInK true) := by
  intro pins s σ H x y v u Q I rx ry h
  obtain ⟨p, o, rfl, g, q⟩ := h
  cases ry
  exact d_notIn hu I g rx fun s' I' => ⟨.bl _, H, I', rfl, by rw [Bool.bne_true] at q; exact q⟩
theorem inK_core {neg : Bool} {σ : List (Option V)} {H : Hp} {Q : VK} (h : tE X.K (eInK neg fa fb) σ H Q) : tOp (rInK neg) (tE X.K fa) (tE X.K fb) σ H Q := by
  obtain ⟨W, e, μ, r0, μ', R, E, hf, q⟩ := h
  unfold eInK at hf
  split at hf
  · rename_i x m1 h1
    split at hf
    · rename_i k m2 h2
      split at hf
      · rename_i kvs hk
        cases hy : keyD x with
        | none => rw [hy] at hf; cases hf
        | some y =>
          rw [hy] at hf; cases hf
          refine ⟨W, e, μ, _, m1, R, E, h1, fun W1 H1 u E1 R1 ru => ⟨W1, e, m1, _, _, R1, E.mono E1 R, h2, fun W2 H2 w E2 R2 rw' => ?_⟩⟩
          obtain ⟨ad, hm, rfl⟩ := rw'
          obtain ⟨vs, hv, hl⟩ := R2.dcell k ad kvs hm hk
          have eu := key_v (ru.mono E2 R1) hy
          subst eu
          exact ⟨ad, _, rfl, .k hv, q _ _ _ (E1.trans E2) R2 (by rw [hl.some y]; exact .bl _)⟩
      · cases hf
    · cases hf
  · cases hf
theorem inK_bool {neg : Bool} {σ : List (Option V)} {H : Hp} {Q : Bool → Hp → Prop} (h : tT X.K (eInK neg fa fb) σ H Q) : tE X.K (eInK neg fa fb) σ H fun x H' => ∃ k, x = .bl k ∧ Q k H' := by
  obtain ⟨W, e, μ, r0, μ', b, R, E, hf, ht, q⟩ := h
  refine ⟨W, e, μ, r0, μ', R, E, hf, fun W' H' v E' R' rv => ?_⟩
  unfold eInK at hf
  split at hf
  · rename_i x m1 h1
    split at hf
    · rename_i k m2 h2
      split at hf
      · rename_i kvs hk
        cases hy : keyD x with
        | none => rw [hy] at hf; cases hf
        | some y =>
          rw [hy] at hf; cases hf
          have hk := Option.some.inj ht
          subst hk
          cases rv
          exact ⟨_, rfl, q W' H' E' R'⟩
      · cases hf
    · cases hf
  · cases hf
theorem se_inK (hu : X.A.units + 1 < cLine) (hm : behindInMarks .In b = false) (ha : SE X a fa) (hb : SE X b fb) : SE X (.Compare a [.In] [b] pos) (eInK false fa fb) :=
  (pe_cmpR (op_inK hu) ha hb hm).imp fun σ H Q h => inK_core h
theorem se_notInK (hu : X.A.units + 1 < cLine) (hm : behindInMarks .NotIn b = false) (ha : SE X a fa) (hb : SE X b fb) : SE X (.Compare a [.NotIn] [b] pos) (eInK true fa fb) :=
  (pe_cmpR (op_notInK hu) ha hb hm).imp fun σ H Q h => inK_core h
theorem st_inK (hu : X.A.units + 1 < cLine) (hm : behindInMarks .In b = false) (ha : SE X a fa) (hb : SE X b fb) : ST X (.Compare a [.In] [b] pos) (eInK false fa fb) :=
  (pt_cmpR (op_inK hu) ha hb hm).imp fun σ H Q h => inK_core (inK_bool h)
theorem st_notInK (hu : X.A.units + 1 < cLine) (hm : behindInMarks .NotIn b = false) (ha : SE X a fa) (hb : SE X b fb) : ST X (.Compare a [.NotIn] [b] pos) (eInK true fa fb) :=
  (pt_cmpR (op_notInK hu) ha hb hm).imp fun σ H Q h => inK_core (inK_bool h)
/-! ### displays -/
theorem se_dct0 : SE X (.Dict [] [] pos) (eDct []) := by
  refine pe_dnewK.imp fun σ H Q ⟨W, e, μ, r, μ', R, E, hf, q⟩ => ?_
  cases hf
  intro p hp
  refine q _ _ _ (ext_moreC (.dK []) (.dct []) R hp) (R.newCellC (o := .dK []) (c := .dct []) hp .nil) ⟨p, ?_, rfl⟩
  show (W.m ++ [p])[μ.length]? = some p
  rw [← R.len, List.getElem?_append_right (Nat.le_refl _), Nat.sub_self]
  rfl
/-- the pairs of a display -/
inductive SPs (X : Cx) : List (Option PySem.Expr) → List PySem.Expr → List (EM × EM) → Prop
  | nil : SPs X [] [] []
  | cons {k v : PySem.Expr} {ks : List (Option PySem.Expr)} {vs : List PySem.Expr} {fk fv : EM} {r : List (EM × EM)} : SE X k fk → SE X v fv → SPs X ks vs r → SPs X (some k :: ks) (v :: vs) ((fk, fv) :: r)
def trP (K : PySem.W.Frag) (ps : List (EM × EM)) : List (TE × TE) := ps.map fun p => (tE K p.1, tE K p.2)
theorem SPs.pps {ks : List (Option PySem.Expr)} {vs : List PySem.Expr} {ps : List (EM × EM)} (h : SPs X ks vs ps) : PPs X pos ks vs (trP X.K ps) := by
  induction h with
  | nil => exact pps_nil
  | cons a b _ ih => exact pps_cons a b ih
theorem SPs.len {ks : List (Option PySem.Expr)} {vs : List PySem.Expr} {ps : List (EM × EM)} (h : SPs X ks vs ps) : ks.length = ps.length ∧ ks.length = vs.length ∧ ks.all (·.isSome) = true := by
  induction h with
  | nil => exact ⟨rfl, rfl, rfl⟩
  | cons a b _ ih => exact ⟨by rw [List.length_cons, List.length_cons, ih.1], by rw [List.length_cons, List.length_cons, ih.2.1], by rw [List.all_cons, ih.2.2]; rfl⟩
theorem pairs_ok : ∀ {ps : List (EM × EM)} {W : Wd} {H : Hp} {σ : List (Option V)} {e : Env} {μ μ' : Sto} {kvs : List (Key × LV)} {Q : List (V × V) → Hp → Prop}, Rel X.K W H μ → EnvOk X.K W H σ e → evalK ps e μ = some (kvs, μ') →
    (∀ W' H' vs, Ext W H μ W' H' μ' → Rel X.K W' H' μ' → RKs X.K W' H' vs kvs → Q (vs.map fun kv => (kV kv.1, kv.2)) H') → tPairs (trP X.K ps) σ H Q
  | [], W, H, σ, e, μ, μ', kvs, Q, R, E, hf, q => by
    cases hf
    exact q W H [] .refl R .nil
  | (fk, fv) :: r, W, H, σ, e, μ, μ', kvs, Q, R, E, hf, q => by
    simp only [evalK] at hf
    split at hf
    · rename_i x m1 h1
      split at hf
      · rename_i k hk
        split at hf
        · rename_i v m2 h2
          split at hf
          · rename_i kvs' m3 h3
            cases hf
            refine ⟨W, e, μ, _, m1, R, E, h1, fun W1 H1 u E1 R1 ru => ⟨W1, e, m1, v, m2, R1, E.mono E1 R, h2, fun W2 H2 w E2 R2 rw' => ?_⟩⟩
            have eu := key_v (x := x) ru hk
            subst eu
            refine pairs_ok R2 ((E.mono E1 R).mono E2 R1) h3 fun W3 H3 vs E3 R3 rk => ?_
            exact q W3 H3 ((k, w) :: vs) ((E1.trans E2).trans E3) R3 (.cons (rw'.mono E3 R2) rk)
          · cases hf
        · cases hf
      · cases hf
    · cases hf
theorem evalK_len : ∀ {ps : List (EM × EM)} {e : Env} {μ μ' : Sto} {kvs : List (Key × LV)}, evalK ps e μ = some (kvs, μ') → kvs.length = ps.length
  | [], e, μ, μ', kvs, hf => by cases hf; rfl
  | (fk, fv) :: r, e, μ, μ', kvs, hf => by
    simp only [evalK] at hf
    split at hf
    · split at hf
      · split at hf
        · split at hf
          · rename_i h3
            cases hf
            rw [List.length_cons, List.length_cons, evalK_len h3]
          · cases hf
        · cases hf
      · cases hf
    · cases hf
theorem Loose.keepAtC {W : Wd} {H H' : Hp} {μ : Sto} {D : Addr} (l : Loose W μ D) (hc : ∀ b, b ≠ D → H' b = H b) {o : HO} (h : H D = some o) (n : ¬ Fix o) : Keep W.F H W.F H' :=
  ⟨fun _ z => z, fun a ws hF ha => by rw [hc a fun e => l.1 (e ▸ hF)]; exact ha, fun a o' ha n' => by
    rw [hc a]
    · exact ha
    · intro e; subst e; rw [h] at ha; cases ha; exact n n'⟩
theorem Rel.looseC {K : PySem.W.Frag} {W : Wd} {H H' : Hp} {μ : Sto} {D : Addr} (R : Rel K W H μ) (l : Loose W μ D) {o : HO} (h : H D = some o) (n : ¬ Fix o) (hc : ∀ b, b ≠ D → H' b = H b) : Rel K W H' μ := by
  have k : Keep W.F H W.F H' := l.keepAtC hc h n
  refine ⟨R.len, fun j a c h1 h2 hd => ?_, R.inj, fun a hF => ?_⟩
  · obtain ⟨u, q1, q2⟩ := R.cel j a c h1 h2 hd
    refine ⟨u, ?_, CeR.keep k q2⟩
    rw [hc a fun e => l.2 j ⟨c, h2, hd⟩ (e ▸ h1)]
    exact q1
  · obtain ⟨⟨ws, q1⟩, q2⟩ := R.frz a hF
    exact ⟨⟨ws, k.l a ws hF q1⟩, q2⟩
theorem RKs.keep {K : PySem.W.Frag} {W : Wd} {H H' : Hp} {F' : Addr → Prop} (k : Keep W.F H F' H') {vs : List (Key × V)} {xs : List (Key × LV)} (h : RKs K W H vs xs) : RKs K ⟨W.m, F'⟩ H' vs xs := by
  induction h with
  | nil => exact .nil
  | cons a _ ih => exact .cons (RL.keep k a) ih
theorem se_dct {ks : List (Option PySem.Expr)} {vs : List PySem.Expr} {ps : List (EM × EM)} (h : SPs X ks vs ps) (h0 : ks ≠ []) (h15 : ks.length ≤ 15) : SE X (.Dict ks vs pos) (eDct ps) := by
  refine (pe_disp h.pps h.len.2.2 h.len.2.1 h0 h15).imp fun σ H Q ⟨W, e, μ, r, μ', R, E, hf, q⟩ => ?_
  unfold eDct at hf
  split at hf
  · rename_i kvs m1 h1
    cases hf
    intro p hp
    have E0 : Ext W H μ W (upd H p (.dK [])) μ := ext_new _ hp
    have R0 := R.new (.dK []) hp
    have l0 : Loose W μ p := ⟨fun hF => (by obtain ⟨⟨vs, h⟩, _⟩ := R.frz p hF; rw [hp] at h; cases h), R.notNew hp⟩
    refine pairs_ok R0 (E.mono E0 R) h1 fun W1 H1 us E1 R1 rk => ?_
    obtain ⟨l1, hD⟩ := l0.ext upd_same E1
    have hdc : ∀ b, b ≠ p → dropAt H1 p b = H1 b := fun b hb => dropAt_ne b hb
    have kd : Keep W1.F H1 W1.F (dropAt H1 p) := l1.keepAtC hdc hD fun z => z
    have R2 : Rel X.K W1 (dropAt H1 p) m1 := R1.looseC l1 hD (fun z => z) hdc
    have E2 : Ext W H μ W1 (dropAt H1 p) m1 := (E0.trans E1).loose hp hdc
    have hz : us.length = kvs.length := rk.length
    refine ⟨hD, us, rfl, by rw [hz, evalK_len h1, ← h.len.1]; exact h15, ?_⟩
    have hn : dropAt H1 p p = none := dropAt_same
    have rk2 : CeR X.K W1 (dropAt H1 p) (.dK (mergeK [] us)) (.dct (fillK [] kvs)) := RKs.fill (RKs.keep kd rk) .nil
    have E3 := ext_moreC (.dK (mergeK [] us)) (.dct (fillK [] kvs)) R2 hn
    have R3 := R2.newCellC hn rk2
    have eH : upd (dropAt H1 p) p (.dK (mergeK [] us)) = upd H1 p (.dK (mergeK [] us)) := by
      funext b
      by_cases e : b = p
      · subst e; rw [upd_same, upd_same]
      · rw [upd_ne e, upd_ne e, hdc b e]
    rw [eH] at E3 R3
    refine q _ _ _ (E2.trans E3) R3 ⟨p, ?_, rfl⟩
    show (W1.m ++ [p])[m1.length]? = some p
    rw [← R1.len, List.getElem?_append_right (Nat.le_refl _), Nat.sub_self]
    rfl
  · cases hf
end
end Gg

end
section
/-! GCmp: from the text's syntax to its meaning over data. -/
namespace Gg
open PySem L2

/-- where one reads: the def's names by slot, the scope, the names whose cells are the frame's own, the defs and whole numbers of the module, the names that hold lists that may change (how deep), how deep the answer is a new list (0: it changes no more) -/
structure Cc where
  N : List Str
  sc : Scope
  fnl : List Str
  fns : List (Str × Fn)
  glb : List (Str × PyData)
  mu : List (Str × Nat)
  ret : Nat
def ixOf (x : Str) : List Str → Option Nat
  | [] => none
  | y :: r => if y = x then some 0 else (ixOf x r).map (· + 1)
def kindB (sc : Scope) (x : Str) (k : NameKind) : Bool := decide (sc.names.lookup x = some k)
def visB (sc : Scope) (x : Str) : Bool := kindB sc x .local || kindB sc x .cell || kindB sc x .free
def locB (sc : Scope) (x : Str) : Bool := kindB sc x .local || kindB sc x .cell
def glB (sc : Scope) (x : Str) : Bool := kindB sc x .globalImplicit
def plainNm (x : Str) : Bool := !(x == ("__debug__" : Str)) && !(x == ("__classdict__" : Str))
def slot (c : Cc) (x : Str) : Option Nat := if visB c.sc x && plainNm x then ixOf x c.N else none
def conOf : Const → Option EM
  | .int i => some (eCon (.int i))
  | .bool b => some (eCon (.bool b))
  | .none => some (eCon .none)
  | .str s => some (eCon (.str s))
  | _ => none
def bopOf : Operator → Option B2
  | .Add => some addD
  | .Sub => some subD
  | .Mult => some mulD
  | .FloorDiv => some fdivD
  | .Mod => some modD
  | _ => none
def cmpOf : CmpOp → Option B2
  | .Eq => some eqD
  | .NotEq => some neD
  | .Lt => some ltD
  | .LtE => some leD
  | .Gt => some gtD
  | .GtE => some geD
  | .In => some inD
  | .NotIn => some notInD
  | .Is => some isD
  | .IsNot => some isNotD
def BUILTINS : List Str := ["len", "abs", "max", "min", "sum", "all", "any", "sorted", "repr", "tuple", "int", "list", "isinstance", "range", "enumerate", "zip", "bool", "str"]
/-- a built-in function: is it a class; its name; what it does -/
def biOf (x : Str) : Option (Bool × String × BF) :=
  if x = "len" then some (false, "len", bLen) else if x = "abs" then some (false, "abs", bAbs) else if x = "max" then some (false, "max", bMax)
  else if x = "min" then some (false, "min", bMin) else if x = "sum" then some (false, "sum", bSum) else if x = "all" then some (false, "all", bAll)
  else if x = "any" then some (false, "any", bAny) else if x = "sorted" then some (false, "sorted", bSorted) else if x = "repr" then some (false, "repr", bRepr)
  else if x = "tuple" then some (true, "tuple", bTuple) else if x = "int" then some (true, "int", bInt) else none
def tyOf (x : Str) : Option String :=
  if x = "int" then some "int" else if x = "bool" then some "bool" else if x = "str" then some "str" else if x = "tuple" then some "tuple" else if x = "list" then some "list" else none
def ownOf (N : List Str) (scope : Scope) : List (Str × Nat) := scope.names.filterMap fun (x, k) => if k = .local ∨ k = .cell then (ixOf x N).map fun i => (x, i) else none
def blkCc (c : Cc) (scope : Scope) : Cc := { c with sc := relS scope c.sc, fnl := (scope.names.filter fun y => decide (scope.names.lookup y.1 = some .cell)).map (·.1) }
/-- a name that holds a dict -/
def subMu (k : Nat) : Nat := if Nat.ble 9 k = true then k - 9 else k - 1
def muOf (c : Cc) (x : Str) : Nat := (c.mu.lookup x).getD 0
def isDct (c : Cc) : PySem.Expr → Bool
  | .Name y _ => Nat.ble 9 (muOf c y)
  | _ => false
def inNeg : CmpOp → Option Bool
  | .In => some false
  | .NotIn => some true
  | _ => none
def notSet : PySem.Expr → Bool
  | .Set _ _ _ => false
  | _ => true
def isTup : PySem.Expr → Bool
  | .Tuple _ _ _ => true
  | _ => false
/-- f(..): the name and the arguments of a plain call -/
def callNm : PySem.Expr → Option (Str × List PySem.Expr)
  | .Call (.Name f _) as [] _ => some (f, as)
  | _ => none
mutual
def compE : Nat → Cc → PySem.Expr → Option EM
  | 0, _, _ => none
  | n + 1, c, e => match e with
    | .Name x _ => match slot c x with
      | some i => some (eVar i)
      | none => if glB c.sc x && plainNm x then (c.glb.lookup x).map fun i => eCon i else none
    | .Constant k _ _ => conOf k
    | .Tuple es _ _ => if es.length ≤ 1000 && es.all notStar then (compEs n c es).map eTup else none
    | .List _ _ => (compL n c 1 e).map eLst
    | .ListComp _ _ _ _ => (compL n c 1 e).map eLst
    | .BinOp a op b _ => match bopOf op, compE n c a, compE n c b with
      | some g, some fa, some fb => some (eBin g fa fb)
      | _, _, _ => none
    | .UnaryOp .USub a _ => (compE n c a).map (eUn negD)
    | .UnaryOp .Not a _ => (compE n c a).map eNot
    | .BoolOp op vs _ => compB n c op vs
    | .Compare a ops bs _ => compC n c a ops bs
    | .IfExp t a b _ => match compT n c t, compE n c a, compE n c b with
      | some ft, some fa, some fb => some (eIte ft fa fb)
      | _, _, _ => none
    | .Subscript a (.Slice lo hi none _) _ => match compE n c a, compO n c lo, compO n c hi with
      | some fa, some fl, some fh => some (eSl fa fl fh)
      | _, _, _ => none
    | .Subscript a (.Slice none none (some (.UnaryOp .USub (.Constant (.int 1) _ _) _)) _) _ => (compE n c a).map (eUn revD)
    | .Subscript a i _ => if notSl i then match compE n c a, compE n c i with
        | some fa, some fi => some (eIx fa fi)
        | _, _ => none
      else none
    | .Dict ks vs _ => if ks.length ≤ 15 then (compPs n c ks vs).map eDct else none
    | .Call (.Name f _) as [] _ =>
      if glB c.sc f && as.all notStar && !as.isEmpty && plainNm f then
        if f = "list" then (compL n c 1 e).map eLst
        else if f = "len" then match as with
          | [a] => (compE n c a).map eLen
          | _ => none
        else if f = "isinstance" then match as with
          | [a, .Name y _] => match tyOf y, compE n c a with
            | some T, some fa => if glB c.sc y then some (eIsi T fa) else none
            | _, _ => none
          | _ => none
        else match biOf f with
          | some (_, _, g) => (compEs n c as).map (eBi g)
          | none => match c.fns.lookup f with
            | some F => (compEs n c as).map (eCall F)
            | none => none
      else none
    | _ => none
/-- and, or as values -/
def compB : Nat → Cc → BoolOp → List PySem.Expr → Option EM
  | 0, _, _, _ => none
  | n + 1, c, op, vs => match vs with
    | [a] => compE n c a
    | a :: b :: r => match compE n c a, compB n c op (b :: r) with
      | some fa, some fb => some (match op with | .And => eAnd fa fb | .Or => eOr fa fb)
      | _, _ => none
    | [] => none
/-- .. as tests -/
def compW : Nat → Cc → BoolOp → List PySem.Expr → Option EM
  | 0, _, _, _ => none
  | n + 1, c, op, vs => match vs with
    | [a] => compT n c a
    | a :: b :: r => match compT n c a, compW n c op (b :: r) with
      | some fa, some fb => some (match op with | .And => eAnd fa fb | .Or => eOr fa fb)
      | _, _ => none
    | [] => none
/-- a comparison -/
def compC : Nat → Cc → PySem.Expr → List CmpOp → List PySem.Expr → Option EM
  | 0, _, _, _, _ => none
  | n + 1, c, a, ops, bs => match ops, bs with
    | [.Is], [.Constant .none _ _] => (compE n c a).map (eIsN false)
    | [.IsNot], [.Constant .none _ _] => (compE n c a).map (eIsN true)
    | [op], [b] => if behindInMarks op b then none else match inNeg op, isDct c b with
      | some neg, true => match compE n c a, compE n c b with
        | some fa, some fb => some (eInK neg fa fb)
        | _, _ => none
      | _, _ => match cmpOf op, compE n c a, compE n c b with
        | some g, some fa, some fb => some (eBin g fa fb)
        | _, _, _ => none
    | [op, op'], [b, d] => if behindInMarks op' d then none else match cmpOf op, cmpOf op', compE n c a, compE n c b, compE n c d with
      | some g, some h, some fa, some fb, some fd => some (eChain g h fa fb fd)
      | _, _, _, _, _ => none
    | _, _ => none
/-- a test -/
def compT : Nat → Cc → PySem.Expr → Option EM
  | 0, _, _ => none
  | n + 1, c, e => match e with
    | .BoolOp op vs _ => compW n c op vs
    | .UnaryOp .Not a _ => (compT n c a).map eNot
    | .Compare a ops bs _ => compC n c a ops bs
    | .IfExp _ _ _ _ => none
    | e => compE n c e
def compO : Nat → Cc → Option PySem.Expr → Option (Option EM)
  | 0, _, _ => none
  | n + 1, c, o => match o with
    | none => some none
    | some e => (compE n c e).map some
def compEs : Nat → Cc → List PySem.Expr → Option (List EM)
  | 0, _, _ => none
  | n + 1, c, es => match es with
    | [] => some []
    | e :: r => match compE n c e, compEs n c r with
      | some f, some fs => some (f :: fs)
      | _, _ => none
/-- the pairs of a dict's display -/
def compPs : Nat → Cc → List (Option PySem.Expr) → List PySem.Expr → Option (List (EM × EM))
  | 0, _, _, _ => none
  | n + 1, c, ks, vs => match ks, vs with
    | [], [] => some []
    | some k :: ks, v :: vs => match compE n c k, compE n c v, compPs n c ks vs with
      | some fk, some fv, some r => some ((fk, fv) :: r)
      | _, _, _ => none
    | _, _ => none
/-- a value that may be a new list that may change: d deep -/
def compV : Nat → Cc → Nat → PySem.Expr → Option EM
  | 0, _, _, _ => none
  | n + 1, c, d, e => if d = 0 then compE n c e else match compL n c d e with
    | some l => some (eNew l)
    | none => compE n c e
def compVs : Nat → Cc → Nat → List PySem.Expr → Option (List EM)
  | 0, _, _, _ => none
  | n + 1, c, d, es => match es with
    | [] => some []
    | e :: r => match compV n c d e, compVs n c d r with
      | some f, some fs => some (f :: fs)
      | _, _ => none
def compTs : Nat → Cc → List PySem.Expr → Option (List EM)
  | 0, _, _ => none
  | n + 1, c, es => match es with
    | [] => some []
    | [e] => (compT n c e).map ([·])
    | _ => none
/-- a new list -/
def compL : Nat → Cc → Nat → PySem.Expr → Option LM
  | 0, _, _, _ => none
  | n + 1, c, d, e => match e with
    | .List es _ => if es.length ≤ 1000 && es.all notStar then (compVs n c (d - 1) es).map lDisp else none
    | .ListComp elt [⟨tg, it, ifs, 0⟩] scope _ =>
      if blkC c.N c.sc scope (ownOf c.N scope) && notSet it then
        match compI n c tg it, compG n (blkCc c scope) tg, compTs n (blkCc c scope) ifs, compV n (blkCc c scope) (d - 1) elt with
        | some fi, some (t, L), some fs, some fe => if L.all fun i => decide (i ∈ (ownOf c.N scope).map (·.2)) then some (lComp fe t fi fs ((ownOf c.N scope).map (·.2))) else none
        | _, _, _, _ => none
      else none
    | .Call (.Name f _) [a] [] _ =>
      if f = "list" && glB c.sc f && notStar a then match callNm a with
        | some (g, as) => if g = "range" then (if glB c.sc g && as.all notStar then match as with
            | [x] => (compE n c x).map fun fx => lRng (iRange [fx])
            | [x, y] => match compE n c x, compE n c y with
              | some fx, some fy => some (lRng (iRange [fx, fy]))
              | _, _ => none
            | _ => none else none) else (compE n c a).map lOf
        | none => (compE n c a).map lOf
      else none
    | .BinOp a .Mult b _ => match compL n c d a, compE n c b with
      | some l, some fb => some (lRep l fb)
      | _, _ => none
    | .Subscript a (.Slice none none (some (.UnaryOp .USub (.Constant (.int 1) _ _) _)) _) _ => (compE n c a).map lRev
    | _ => none
/-- what a loop walks -/
def compI : Nat → Cc → PySem.Expr → PySem.Expr → Option IM
  | 0, _, _, _ => none
  | n + 1, c, tg, it => match callNm it with
    | some (f, as) =>
      if f = "range" then (if glB c.sc f && as.all notStar then match as with
        | [x] => (compE n c x).map fun fx => iRange [fx]
        | [x, y] => match compE n c x, compE n c y with
          | some fx, some fy => some (iRange [fx, fy])
          | _, _ => none
        | [x, y, z] => match compE n c x, compE n c y, compE n c z with
          | some fx, some fy, some fz => some (iRange [fx, fy, fz])
          | _, _, _ => none
        | _ => none else none)
      else if f = "enumerate" then (if glB c.sc f && as.all notStar && isTup tg then match as with
        | [x] => (compE n c x).map iEnum
        | _ => none else none)
      else if f = "zip" then (if glB c.sc f && as.all notStar && isTup tg then match as with
        | [x, y] => match compE n c x, compE n c y with
          | some fx, some fy => some (iZip fx fy)
          | _, _ => none
        | _ => none else none)
      else (compE n c it).map iSeq
    | none => (compE n c it).map iSeq
/-- a target, with the slots that it stores -/
def compG : Nat → Cc → PySem.Expr → Option (TM × List Nat)
  | 0, _, _ => none
  | n + 1, c, e => match e with
    | .Name x _ => if locB c.sc x && (decide (x ∈ c.fnl) || kindB c.sc x .local) then (ixOf x c.N).map fun i => (tName i, [i]) else none
    | .Tuple es _ _ => if es.all notStar then match compGs n c es with
        | some (ts, L) => some (tTup ts, L)
        | none => none
      else none
    | .Subscript o i _ => if notSl i then match compE n c o, compE n c i with
        | some fo, some fi => some (tSub fo fi, [])
        | _, _ => none
      else none
    | _ => none
def compGs : Nat → Cc → List PySem.Expr → Option (List TM × List Nat)
  | 0, _, _ => none
  | n + 1, c, es => match es with
    | [] => some ([], [])
    | e :: r => match compG n c e, compGs n c r with
      | some (t, L), some (ts, L') => some (t :: ts, L ++ L')
      | _, _ => none
end
end Gg

end
section
/-! GSnd: what is compiled is what the text does. -/
namespace Gg
open PySem L2

/-- where the compiled meaning holds -/
structure Facts (X : Cx) (c : Cc) : Prop where
  nN : X.N = c.N
  nd : X.N.Nodup
  sc : X.env.scope = c.sc
  calm : X.calm = true
  gu : X.A.guards = some []
  un : X.A.units + 65 < cLine
  fn : ∀ x ∈ c.fnl, X.fn x = true
  bl : ∀ x ∈ BUILTINS, X.mg x = none
  gl : ∀ x i, c.glb.lookup x = some i → ∃ u, X.mg x = some u ∧ GV X.K u i
  fns : ∀ x F, c.fns.lookup x = some F → CallOk X x F
section
variable {X : Cx} {c : Cc}
theorem ix_ok {x : Str} : ∀ {N : List Str} {i : Nat}, ixOf x N = some i → N[i]? = some x
  | y :: r, i, h => by
    simp only [ixOf] at h
    split at h
    · rename_i e; cases h; rw [e]; rfl
    · cases q : ixOf x r with
      | none => rw [q] at h; cases h
      | some j => rw [q] at h; cases h; simpa using ix_ok q
theorem kind_ok {sc : Scope} {x : Str} {k : NameKind} (h : kindB sc x k = true) : sc.names.lookup x = some k := of_decide_eq_true h
theorem Facts.vis (F : Facts X c) {x : Str} (h : visB c.sc x = true) : Vis X.env.scope x := by
  rw [F.sc]
  unfold visB at h
  rw [Bool.or_eq_true, Bool.or_eq_true] at h
  rcases h with (h | h) | h
  · exact .inl (kind_ok h)
  · exact .inr (.inl (kind_ok h))
  · exact .inr (.inr (kind_ok h))
theorem Facts.loc (F : Facts X c) {x : Str} (h : locB c.sc x = true) : Loc X.env.scope x := by
  rw [F.sc]
  unfold locB at h
  rw [Bool.or_eq_true] at h
  rcases h with h | h
  · exact .inl (kind_ok h)
  · exact .inr (kind_ok h)
theorem Facts.glo (F : Facts X c) {x : Str} (h : glB c.sc x = true) : Gl X x := by
  show X.env.kindOf x = some .globalImplicit
  unfold Env.kindOf
  rw [F.sc]
  exact kind_ok h
theorem nm_ok {x : Str} (h : plainNm x = true) : (x == ("__debug__" : Str)) = false ∧ (x == ("__classdict__" : Str)) = false := by
  unfold plainNm at h
  rw [Bool.and_eq_true, Bool.not_eq_true', Bool.not_eq_true'] at h
  exact h
theorem Facts.blk (F : Facts X c) {scope : Scope} {s : Shared} {H : Hp} {C : Addr} {cl : List (Str × Addr)} {fp : List Addr} : Facts (X.blk s H scope (compEnvC scope cl C X.env) fp) (blkCc c scope) where
  nN := F.nN
  nd := F.nd
  sc := by show relS scope X.env.scope = relS scope c.sc; rw [F.sc]
  calm := F.calm
  gu := F.gu
  un := F.un
  fn := by
    intro x hx
    obtain ⟨y, hy, rfl⟩ := List.mem_map.mp hx
    have := of_decide_eq_true (List.mem_filter.mp hy).2
    show (scope.names.lookup y.1 == some .cell) = true
    rw [this]; rfl
  bl := F.bl
  gl := F.gl
  fns := fun x G h => ⟨(F.fns x G h).ex⟩
theorem blt_name {x : Str} (h : x ∈ BUILTINS) : x ≠ "__name__" ∧ (x == ("__debug__" : Str)) = false := by
  have : ∀ y ∈ BUILTINS, y ≠ "__name__" ∧ (y == ("__debug__" : Str)) = false := by decide +kernel
  exact this x h
theorem con_ok {k : Const} {f : EM} {j : Nat} {pos : Pos} (h : conOf k = some f) : SE X (.Constant k j pos) f := by
  unfold conOf at h
  split at h
  · cases h; exact se_int
  · cases h; exact se_bool
  · cases h; exact se_none
  · cases h; exact se_str
  · cases h
theorem bop_ok {op : Operator} {g : B2} (h : bopOf op = some g) : OpS X (binaryOp op) g := by
  unfold bopOf at h
  split at h
  · cases h; exact ops_add
  · cases h; exact ops_sub
  · cases h; exact ops_mul
  · cases h; exact ops_fdiv
  · cases h; exact ops_mod
  · cases h
theorem cmpI_bool {p : Int → Int → Bool} {r : PyData → PyData → Bool} (x y z : PyData) (h : cmpI p r x y = some z) : ∃ b, z = .bool b := by
  rcases cmpI_inv h with ⟨i, j, _, _, h⟩ | ⟨_, h⟩ <;> exact ⟨_, h⟩
theorem cmp_ok (F : Facts X c) {op : CmpOp} {g : B2} (h : cmpOf op = some g) : OpS X (compareOp op) g ∧ ∀ x y z, g x y = some z → ∃ b, z = .bool b := by
  have hu := F.un
  unfold cmpOf at h
  split at h
  · cases h; exact ⟨ops_eq (by omega), fun x y z q => by unfold eqD at q; cases r : eqB x y <;> rw [r] at q <;> cases q; exact ⟨_, rfl⟩⟩
  · cases h; exact ⟨ops_ne (by omega), fun x y z q => by unfold neD at q; cases r : eqB x y <;> rw [r] at q <;> cases q; exact ⟨_, rfl⟩⟩
  · cases h; exact ⟨ops_lt hu, cmpI_bool⟩
  · cases h; exact ⟨ops_le hu, cmpI_bool⟩
  · cases h; exact ⟨ops_gt hu, cmpI_bool⟩
  · cases h; exact ⟨ops_ge hu, cmpI_bool⟩
  · cases h; exact ⟨ops_in hu, fun x y z q => by unfold inD at q; cases r : inB x y <;> rw [r] at q <;> cases q; exact ⟨_, rfl⟩⟩
  · cases h; exact ⟨ops_notIn hu, fun x y z q => by unfold notInD at q; cases r : inB x y <;> rw [r] at q <;> cases q; exact ⟨_, rfl⟩⟩
  · cases h; exact ⟨ops_is, fun x y z q => by unfold isD at q; split at q <;> cases q; exact ⟨_, rfl⟩⟩
  · cases h; exact ⟨ops_isNot, fun x y z q => by unfold isNotD at q; split at q <;> cases q; exact ⟨_, rfl⟩⟩
/-- a built-in function's call -/
theorem bi_ok (F : Facts X c) {x : Str} {b : Bool} {id : String} {g : BF} (h : biOf x = some (b, id, g)) :
    x ∈ BUILTINS ∧ ((b = false ∧ BiS X (.builtin id) g ∧ bootBuiltins x = some (.builtin id)) ∨ (b = true ∧ BiS X (.type id) g ∧ bootBuiltins x = some (.type id))) := by
  unfold biOf at h
  split at h
  · rename_i e; subst e; cases h; exact ⟨by decide +kernel, .inl ⟨rfl, bi_len, by decide +kernel⟩⟩
  split at h
  · rename_i e; subst e; cases h; exact ⟨by decide +kernel, .inl ⟨rfl, bi_abs, by decide +kernel⟩⟩
  split at h
  · rename_i e; subst e; cases h; exact ⟨by decide +kernel, .inl ⟨rfl, bi_max F.calm F.un, by decide +kernel⟩⟩
  split at h
  · rename_i e; subst e; cases h; exact ⟨by decide +kernel, .inl ⟨rfl, bi_min F.calm F.un, by decide +kernel⟩⟩
  split at h
  · rename_i e; subst e; cases h; exact ⟨by decide +kernel, .inl ⟨rfl, bi_sum F.calm, by decide +kernel⟩⟩
  split at h
  · rename_i e; subst e; cases h; exact ⟨by decide +kernel, .inl ⟨rfl, bi_all F.calm, by decide +kernel⟩⟩
  split at h
  · rename_i e; subst e; cases h; exact ⟨by decide +kernel, .inl ⟨rfl, bi_any F.calm, by decide +kernel⟩⟩
  split at h
  · rename_i e; subst e; cases h; exact ⟨by decide +kernel, .inl ⟨rfl, bi_sorted F.un, by decide +kernel⟩⟩
  split at h
  · rename_i e; subst e; cases h; exact ⟨by decide +kernel, .inl ⟨rfl, bi_repr F.gu F.un, by decide +kernel⟩⟩
  split at h
  · rename_i e; subst e; cases h; exact ⟨by decide +kernel, .inr ⟨rfl, bi_tuple, by decide +kernel⟩⟩
  split at h
  · rename_i e; subst e; cases h; exact ⟨by decide +kernel, .inr ⟨rfl, bi_int, by decide +kernel⟩⟩
  · cases h
theorem ty_of_ok {x : Str} {T : String} (h : tyOf x = some T) : x ∈ BUILTINS ∨ x = "bool" ∨ x = "str" := by
  unfold tyOf at h
  split at h
  · rename_i e; subst e; exact .inl (by decide +kernel)
  split at h
  · rename_i e; subst e; exact .inr (.inl rfl)
  split at h
  · rename_i e; subst e; exact .inr (.inr rfl)
  split at h
  · rename_i e; subst e; exact .inl (by decide +kernel)
  split at h
  · rename_i e; subst e; exact .inl (by decide +kernel)
  · cases h
theorem ty_boot {x : Str} {T : String} (h : tyOf x = some T) : T ∈ TYPES ∧ bootBuiltins x = some (.type T) ∧ x ∈ BUILTINS := by
  unfold tyOf at h
  split at h
  · rename_i e; subst e; cases h; exact ⟨by decide, by decide +kernel, by decide +kernel⟩
  split at h
  · rename_i e; subst e; cases h; exact ⟨by decide, by decide +kernel, by decide +kernel⟩
  split at h
  · rename_i e; subst e; cases h; exact ⟨by decide, by decide +kernel, by decide +kernel⟩
  split at h
  · rename_i e; subst e; cases h; exact ⟨by decide, by decide +kernel, by decide +kernel⟩
  split at h
  · rename_i e; subst e; cases h; exact ⟨by decide, by decide +kernel, by decide +kernel⟩
  · cases h
theorem set_ok {e : PySem.Expr} {env : PySem.Env} (h : notSet e = true) : ∀ x, foldedSetIterable e env x = pure x := by
  intro x
  cases e <;> first | rfl | cases h
end
/-- all that is compiled with n is sound -/
structure Snd (n : Nat) : Prop where
  E : ∀ {c e f}, compE n c e = some f → ∀ {X}, Facts X c → SE X e f
  B : ∀ {c op vs f}, compB n c op vs = some f → ∀ {X pos}, Facts X c → SE X (.BoolOp op vs pos) f
  W : ∀ {c op vs f}, compW n c op vs = some f → ∀ {X pos}, Facts X c → SW X (.BoolOp op vs pos) f
  C : ∀ {c a ops bs f}, compC n c a ops bs = some f → ∀ {X pos}, Facts X c → SE X (.Compare a ops bs pos) f ∧ ST X (.Compare a ops bs pos) f
  T : ∀ {c e f}, compT n c e = some f → ∀ {X}, Facts X c → ST X e f
  O : ∀ {c o f}, compO n c o = some f → ∀ {X}, Facts X c → SO X o f
  Es : ∀ {c es fs}, compEs n c es = some fs → es.all notStar = true → ∀ {X}, Facts X c → SA X es fs ∧ fs.length = es.length
  Ps : ∀ {c ks vs ps}, compPs n c ks vs = some ps → ∀ {X}, Facts X c → SPs X ks vs ps
  V : ∀ {c d e f}, compV n c d e = some f → ∀ {X}, Facts X c → SE X e f
  Vs : ∀ {c d es fs}, compVs n c d es = some fs → es.all notStar = true → ∀ {X}, Facts X c → SA X es fs ∧ fs.length = es.length
  Ts : ∀ {c es fs}, compTs n c es = some fs → ∀ {X}, Facts X c → STs X es fs
  L : ∀ {c d e l}, compL n c d e = some l → ∀ {X}, Facts X c → SL X e l
  I : ∀ {c tg it fi}, compI n c tg it = some fi → ∀ {X}, Facts X c → SI X tg it fi
  G : ∀ {c e t L}, compG n c e = some (t, L) → ∀ {X}, Facts X c → SG X e L t
  Gs : ∀ {c es ts L}, compGs n c es = some (ts, L) → es.all notStar = true → ∀ {X}, Facts X c → SGs X es L ts ∧ es.length = ts.length
end Gg

end
section
/-! GSnd2: the step from n to n + 1. -/
namespace Gg
open PySem L2
section
variable {n : Nat} {c : Cc} {X : Cx}
theorem sndB (ih : Snd n) {op : BoolOp} {vs : List PySem.Expr} {f : EM} (h : compB (n + 1) c op vs = some f) {pos : Pos} (F : Facts X c) : SE X (.BoolOp op vs pos) f := by
  simp only [compB] at h
  split at h
  · exact se_one (ih.E h F)
  · split at h
    · rename_i fa fb ha hb
      cases op with
      | And => cases h; exact se_and (ih.E ha F) (ih.B hb F)
      | Or => cases h; exact se_or (ih.E ha F) (ih.B hb F)
    · cases h
  · cases h
theorem sndW (ih : Snd n) {op : BoolOp} {vs : List PySem.Expr} {f : EM} (h : compW (n + 1) c op vs = some f) {pos : Pos} (F : Facts X c) : SW X (.BoolOp op vs pos) f := by
  simp only [compW] at h
  split at h
  · cases op with
    | And => exact sw_one_and (ih.T h F)
    | Or => exact sw_one_or (ih.T h F)
  · split at h
    · rename_i fa fb ha hb
      cases op with
      | And => cases h; exact sw_and (ih.T ha F) (ih.W hb F)
      | Or => cases h; exact sw_or (ih.T ha F) (ih.W hb F)
    · cases h
  · cases h
theorem sndC (ih : Snd n) {a : PySem.Expr} {ops : List CmpOp} {bs : List PySem.Expr} {f : EM} (h : compC (n + 1) c a ops bs = some f) {pos : Pos} (F : Facts X c) : SE X (.Compare a ops bs pos) f ∧ ST X (.Compare a ops bs pos) f := by
  simp only [compC] at h
  split at h
  · cases q : compE n c a with
    | none => rw [q] at h; cases h
    | some g => rw [q] at h; cases h; exact ⟨se_isN (ih.E q F), st_isN (ih.E q F)⟩
  · cases q : compE n c a with
    | none => rw [q] at h; cases h
    | some g => rw [q] at h; cases h; exact ⟨se_notN (ih.E q F), st_notN (ih.E q F)⟩
  · split at h
    · cases h
    · rename_i hm
      have hm := Bool.eq_false_iff.mpr hm
      have hu := F.un
      split at h
      · rename_i neg hneg hd
        split at h
        · rename_i fa fb ha hb
          cases h
          unfold inNeg at hneg
          split at hneg
          · cases hneg
            exact ⟨se_inK (by omega) hm (ih.E ha F) (ih.E hb F), st_inK (by omega) hm (ih.E ha F) (ih.E hb F)⟩
          · cases hneg
            exact ⟨se_notInK (by omega) hm (ih.E ha F) (ih.E hb F), st_notInK (by omega) hm (ih.E ha F) (ih.E hb F)⟩
          · cases hneg
        · cases h
      · split at h
        · rename_i g fa fb hg ha hb
          cases h
          obtain ⟨ho, hB⟩ := cmp_ok F hg
          exact ⟨se_cmp ho hm (ih.E ha F) (ih.E hb F), st_cmp ho hB hm (ih.E ha F) (ih.E hb F)⟩
        · cases h
  · split at h
    · cases h
    · rename_i hm
      have hm := Bool.eq_false_iff.mpr hm
      split at h
      · rename_i g g' fa fb fd hg hg' ha hb hd
        cases h
        obtain ⟨ho, _⟩ := cmp_ok F hg
        obtain ⟨ho', hB⟩ := cmp_ok F hg'
        exact ⟨se_chain ho ho' hm (ih.E ha F) (ih.E hb F) (ih.E hd F), st_chain ho ho' hB hm (ih.E ha F) (ih.E hb F) (ih.E hd F)⟩
      · cases h
  · cases h
theorem sndT (ih : Snd n) {e : PySem.Expr} {f : EM} (h : compT (n + 1) c e = some f) (F : Facts X c) : ST X e f := by
  unfold compT at h
  split at h
  · exact PW.pt (ih.W h F)
  · cases q : compT n c _ with
    | none => rw [q] at h; cases h
    | some g => rw [q] at h; cases h; exact st_not (ih.T q F)
  · exact (ih.C h F).2
  · cases h
  · rename_i h1 h2 h3 h4
    refine st_plain (ih.E h F) fun whole => ?_
    cases e <;> first | rfl | (exact absurd rfl (h1 _ _ _)) | (exact absurd rfl (h3 _ _ _ _)) | (exact absurd rfl (h4 _ _ _ _)) | skip
    rename_i op a pos
    cases op <;> first | rfl | (exact absurd rfl (h2 _ _))
theorem sndO (ih : Snd n) {o : Option PySem.Expr} {f : Option EM} (h : compO (n + 1) c o = some f) (F : Facts X c) : SO X o f := by
  simp only [compO] at h
  split at h
  · cases h; exact so_none
  · cases q : compE n c _ with
    | none => rw [q] at h; cases h
    | some g => rw [q] at h; cases h; exact so_some (ih.E q F)
theorem sndEs (ih : Snd n) {es : List PySem.Expr} {fs : List EM} (h : compEs (n + 1) c es = some fs) (hn : es.all notStar = true) (F : Facts X c) : SA X es fs ∧ fs.length = es.length := by
  simp only [compEs] at h
  split at h
  · cases h; exact ⟨sa_nil, rfl⟩
  · rw [List.all_cons, Bool.and_eq_true] at hn
    split at h
    · rename_i f fs' he hr
      cases h
      obtain ⟨h1, h2⟩ := ih.Es hr hn.2 F
      exact ⟨sa_cons hn.1 (ih.E he F) h1, by rw [List.length_cons, List.length_cons, h2]⟩
    · cases h
theorem sndPs (ih : Snd n) {ks : List (Option PySem.Expr)} {vs : List PySem.Expr} {ps : List (EM × EM)} (h : compPs (n + 1) c ks vs = some ps) (F : Facts X c) : SPs X ks vs ps := by
  simp only [compPs] at h
  split at h
  · cases h; exact .nil
  · split at h
    · rename_i fk fv r hk hv hr
      cases h
      exact .cons (ih.E hk F) (ih.E hv F) (ih.Ps hr F)
    · cases h
  · cases h
theorem sndV (ih : Snd n) {d : Nat} {e : PySem.Expr} {f : EM} (h : compV (n + 1) c d e = some f) (F : Facts X c) : SE X e f := by
  simp only [compV] at h
  split at h
  · exact ih.E h F
  · split at h
    · rename_i l hl
      cases h
      exact se_new (ih.L hl F)
    · exact ih.E h F
theorem sndVs (ih : Snd n) {d : Nat} {es : List PySem.Expr} {fs : List EM} (h : compVs (n + 1) c d es = some fs) (hn : es.all notStar = true) (F : Facts X c) : SA X es fs ∧ fs.length = es.length := by
  simp only [compVs] at h
  split at h
  · cases h; exact ⟨sa_nil, rfl⟩
  · rw [List.all_cons, Bool.and_eq_true] at hn
    split at h
    · rename_i f fs' he hr
      cases h
      obtain ⟨h1, h2⟩ := ih.Vs hr hn.2 F
      exact ⟨sa_cons hn.1 (ih.V he F) h1, by rw [List.length_cons, List.length_cons, h2]⟩
    · cases h
theorem sndTs (ih : Snd n) {es : List PySem.Expr} {fs : List EM} (h : compTs (n + 1) c es = some fs) (F : Facts X c) : STs X es fs := by
  simp only [compTs] at h
  split at h
  · cases h; exact sts_nil
  · cases q : compT n c _ with
    | none => rw [q] at h; cases h
    | some g => rw [q] at h; cases h; exact sts_one (ih.T q F)
  · cases h
theorem sndG (ih : Snd n) {e : PySem.Expr} {t : TM} {L : List Nat} (h : compG (n + 1) c e = some (t, L)) (F : Facts X c) : SG X e L t := by
  simp only [compG] at h
  split at h
  · split at h
    · rename_i hk
      rw [Bool.and_eq_true, Bool.or_eq_true] at hk
      cases q : ixOf _ c.N with
      | none => rw [q] at h; cases h
      | some i =>
        rw [q] at h; cases h
        refine sg_name F.nd (by rw [F.nN]; exact ix_ok q) (F.loc hk.1) ?_
        rcases hk.2 with k | k
        · exact .inl (F.fn _ (of_decide_eq_true k))
        · exact .inr (by rw [F.sc]; exact kind_ok k)
    · cases h
  · split at h
    · rename_i hn
      split at h
      · rename_i ts L' hs
        cases h
        obtain ⟨h1, h2⟩ := ih.Gs hs hn F
        exact sg_tup h2 hn F.calm h1
      · cases h
    · cases h
  · split at h
    · rename_i hn
      split at h
      · rename_i fo fi ho hi
        cases h
        exact sg_sub (by have := F.un; omega) hn (ih.E ho F) (ih.E hi F)
      · cases h
    · cases h
  · cases h
theorem sndGs (ih : Snd n) {es : List PySem.Expr} {ts : List TM} {L : List Nat} (h : compGs (n + 1) c es = some (ts, L)) (hn : es.all notStar = true) (F : Facts X c) : SGs X es L ts ∧ es.length = ts.length := by
  simp only [compGs] at h
  split at h
  · cases h; exact ⟨sgs_nil, rfl⟩
  · rw [List.all_cons, Bool.and_eq_true] at hn
    split at h
    · rename_i t L1 ts' L2 he hr
      cases h
      obtain ⟨h1, h2⟩ := ih.Gs hr hn.2 F
      exact ⟨sgs_cons hn.1 (ih.G he F) h1, by rw [List.length_cons, List.length_cons, h2]⟩
    · cases h
theorem call_eq {e : PySem.Expr} {f : Str} {as : List PySem.Expr} (h : callNm e = some (f, as)) : ∃ p pos, e = .Call (.Name f p) as [] pos := by
  unfold callNm at h
  split at h
  · cases h; exact ⟨_, _, rfl⟩
  · cases h
theorem tup_eq {e : PySem.Expr} (h : isTup e = true) : ∃ es k p, e = .Tuple es k p := by
  cases e <;> first | exact ⟨_, _, _, rfl⟩ | cases h
theorem sndI (ih : Snd n) {tg it : PySem.Expr} {fi : IM} (h : compI (n + 1) c tg it = some fi) (F : Facts X c) : SI X tg it fi := by
  have plain : ∀ {g : Option IM}, g = (compE n c it).map iSeq → g = some fi → SI X tg it fi := by
    intro g hg hs
    rw [hg] at hs
    cases q : compE n c it with
    | none => rw [q] at hs; cases hs
    | some f => rw [q] at hs; cases hs; exact si_seq (ih.E q F)
  have rg : ("range" : Str) ∈ BUILTINS := by decide +kernel
  have en : ("enumerate" : Str) ∈ BUILTINS := by decide +kernel
  have zp : ("zip" : Str) ∈ BUILTINS := by decide +kernel
  simp only [compI] at h
  split at h
  · rename_i f as hc
    obtain ⟨p, pos, rfl⟩ := call_eq hc
    split at h
    · rename_i e; subst e
      split at h
      · rename_i hk
        rw [Bool.and_eq_true] at hk
        have hg := F.glo hk.1
        have hm := F.bl _ rg
        split at h
        · rename_i x
          cases q : compE n c x with
          | none => rw [q] at h; cases h
          | some fx =>
            rw [q] at h; cases h
            have hn := hk.2
            rw [List.all_cons, Bool.and_eq_true] at hn
            exact si_range1 hg hm hn.1 (sa_cons hn.1 (ih.E q F) sa_nil)
        · rename_i x y
          split at h
          · rename_i fx fy hx hy
            cases h
            have hn := hk.2
            rw [List.all_cons, Bool.and_eq_true, List.all_cons, Bool.and_eq_true] at hn
            exact si_range2 hg hm hn.1 hn.2.1 (sa_cons hn.1 (ih.E hx F) (sa_cons hn.2.1 (ih.E hy F) sa_nil))
          · cases h
        · rename_i x y z
          split at h
          · rename_i fx fy fz hx hy hz
            cases h
            have hn := hk.2
            have hn' := hn
            rw [List.all_cons, Bool.and_eq_true, List.all_cons, Bool.and_eq_true, List.all_cons, Bool.and_eq_true] at hn
            exact si_range3 hg hm hn' (sa_cons hn.1 (ih.E hx F) (sa_cons hn.2.1 (ih.E hy F) (sa_cons hn.2.2.1 (ih.E hz F) sa_nil)))
          · cases h
        · cases h
      · cases h
    split at h
    · rename_i e; subst e
      split at h
      · rename_i hk
        rw [Bool.and_eq_true, Bool.and_eq_true] at hk
        have hg := F.glo hk.1.1
        have hm := F.bl _ en
        obtain ⟨es, k, p', rfl⟩ := tup_eq hk.2
        split at h
        · rename_i x
          cases q : compE n c x with
          | none => rw [q] at h; cases h
          | some fx =>
            rw [q] at h; cases h
            have hn := hk.1.2
            rw [List.all_cons, Bool.and_eq_true] at hn
            exact si_enum hg hm hn.1 (ih.E q F)
        · cases h
      · cases h
    split at h
    · rename_i e; subst e
      split at h
      · rename_i hk
        rw [Bool.and_eq_true, Bool.and_eq_true] at hk
        have hg := F.glo hk.1.1
        have hm := F.bl _ zp
        obtain ⟨es, k, p', rfl⟩ := tup_eq hk.2
        split at h
        · rename_i x y
          split at h
          · rename_i fx fy hx hy
            cases h
            exact si_zip hg hm hk.1.2 (ih.E hx F) (ih.E hy F)
          · cases h
        · cases h
      · cases h
    · exact plain rfl h
  · exact plain rfl h
theorem own_ok : ∀ {N : List Str} {scope : Scope}, True := trivial
theorem sndL (ih : Snd n) {d : Nat} {e : PySem.Expr} {l : LM} (h : compL (n + 1) c d e = some l) (F : Facts X c) : SL X e l := by
  have ls : ("list" : Str) ∈ BUILTINS := by decide +kernel
  have rg : ("range" : Str) ∈ BUILTINS := by decide +kernel
  unfold compL at h
  split at h
  · split at h
    · rename_i hk
      rw [Bool.and_eq_true, decide_eq_true_eq] at hk
      cases q : compVs n c (d - 1) _ with
      | none => rw [q] at h; cases h
      | some fs =>
        rw [q] at h; cases h
        obtain ⟨h1, h2⟩ := ih.Vs q hk.2 F
        exact sl_disp h1 (by rw [h2]; exact hk.1)
    · cases h
  · rename_i elt tg it ifs scope pos
    split at h
    · rename_i hk
      rw [Bool.and_eq_true] at hk
      split at h
      · rename_i fi t L fs fe hi hg hT he
        split at h
        · rename_i hL
          cases h
          have hL' : ∀ i ∈ L, i ∈ (ownOf c.N scope).map (·.2) := fun i hi => of_decide_eq_true (List.all_eq_true.mp hL i hi)
          exact sl_comp F.calm F.nd (ih.I hi F) (by rw [F.nN, F.sc]; exact blkOk_by hk.1) (set_ok hk.2) hL' (fun s H C cl fp => ih.G hg F.blk) (fun s H C cl fp => ih.Ts hT F.blk) (fun s H C cl fp => ih.V he F.blk)
        · cases h
      · cases h
    · cases h
  · rename_i f p a pos
    split at h
    · rename_i hk
      rw [Bool.and_eq_true, Bool.and_eq_true, decide_eq_true_eq] at hk
      obtain ⟨⟨rfl, hgl⟩, hna⟩ := hk
      have hg := F.glo hgl
      have hm := F.bl _ ls
      have plain : ∀ {g : Option LM}, g = (compE n c a).map lOf → g = some l → SL X (.Call (.Name "list" p) [a] [] pos) l := by
        intro g hg' hs
        rw [hg'] at hs
        cases q : compE n c a with
        | none => rw [q] at hs; cases hs
        | some f => rw [q] at hs; cases hs; exact sl_of hg hm hna (ih.E q F)
      split at h
      · rename_i g as hc
        obtain ⟨p2, pos2, rfl⟩ := call_eq hc
        split at h
        · rename_i e; subst e
          split at h
          · rename_i hk
            rw [Bool.and_eq_true] at hk
            have hg2 := F.glo hk.1
            have hm2 := F.bl _ rg
            split at h
            · rename_i x
              cases q : compE n c x with
              | none => rw [q] at h; cases h
              | some fx =>
                rw [q] at h; cases h
                have hn := hk.2
                rw [List.all_cons, Bool.and_eq_true] at hn
                exact sl_range1 F.calm hg hm hg2 hm2 hn.1 (ih.E q F)
            · rename_i x y
              split at h
              · rename_i fx fy hx hy
                cases h
                have hn := hk.2
                rw [List.all_cons, Bool.and_eq_true, List.all_cons, Bool.and_eq_true] at hn
                exact sl_range2 F.calm hg hm hg2 hm2 hn.1 hn.2.1 (ih.E hx F) (ih.E hy F)
              · cases h
            · cases h
          · cases h
        · exact plain rfl h
      · exact plain rfl h
    · cases h
  · split at h
    · rename_i l' fb hl hb
      cases h
      exact sl_rep (ih.L hl F) (ih.E hb F)
    · cases h
  · cases q : compE n c _ with
    | none => rw [q] at h; cases h
    | some g => rw [q] at h; cases h; exact sl_rev (ih.E q F)
  · cases h
theorem sndE (ih : Snd n) {e : PySem.Expr} {f : EM} (h : compE (n + 1) c e = some f) (F : Facts X c) : SE X e f := by
  have isi : ("isinstance" : Str) ∈ BUILTINS := by decide +kernel
  have ln : ("len" : Str) ∈ BUILTINS := by decide +kernel
  unfold compE at h
  split at h
  · rename_i x pos
    split at h
    · rename_i i hi
      cases h
      unfold slot at hi
      split at hi
      · rename_i hk
        rw [Bool.and_eq_true] at hk
        obtain ⟨n1, n2⟩ := nm_ok hk.2
        exact se_var (by rw [F.nN]; exact ix_ok hi) (F.vis hk.1) n1 n2
      · cases hi
    · split at h
      · rename_i hk
        rw [Bool.and_eq_true] at hk
        cases q : c.glb.lookup x with
        | none => rw [q] at h; cases h
        | some i =>
          rw [q] at h; cases h
          obtain ⟨u, hu, ht⟩ := F.gl x i q
          exact se_glob (F.glo hk.1) hu ht (nm_ok hk.2).1
      · cases h
  · exact con_ok h
  · split at h
    · rename_i hk
      rw [Bool.and_eq_true, decide_eq_true_eq] at hk
      cases q : compEs n c _ with
      | none => rw [q] at h; cases h
      | some fs =>
        rw [q] at h; cases h
        obtain ⟨h1, h2⟩ := ih.Es q hk.2 F
        exact se_tup h1 (by rw [h2]; exact hk.1)
    · cases h
  · cases q : compL n c 1 _ with
    | none => rw [q] at h; cases h
    | some l => rw [q] at h; cases h; exact se_lst (ih.L q F)
  · cases q : compL n c 1 _ with
    | none => rw [q] at h; cases h
    | some l => rw [q] at h; cases h; exact se_lst (ih.L q F)
  · split at h
    · rename_i g fa fb hg ha hb
      cases h
      exact se_bin (bop_ok hg) (ih.E ha F) (ih.E hb F)
    · cases h
  · cases q : compE n c _ with
    | none => rw [q] at h; cases h
    | some g => rw [q] at h; cases h; exact se_neg (ih.E q F)
  · cases q : compE n c _ with
    | none => rw [q] at h; cases h
    | some g => rw [q] at h; cases h; exact se_not (ih.E q F)
  · exact ih.B h F
  · exact (ih.C h F).1
  · split at h
    · rename_i ft fa fb ht ha hb
      cases h
      exact se_ite (ih.T ht F) (ih.E ha F) (ih.E hb F)
    · cases h
  · split at h
    · rename_i fa fl fh ha hl hh
      cases h
      exact se_sl (ih.E ha F) (ih.O hl F) (ih.O hh F)
    · cases h
  · cases q : compE n c _ with
    | none => rw [q] at h; cases h
    | some g => rw [q] at h; cases h; exact se_rev (ih.E q F)
  · split at h
    · rename_i hn
      split at h
      · rename_i fa fi ha hi
        cases h
        exact se_ix (by have := F.un; omega) hn (ih.E ha F) (ih.E hi F)
      · cases h
    · cases h
  · rename_i ks vs pos
    split at h
    · rename_i h15
      cases q : compPs n c ks vs with
      | none => rw [q] at h; cases h
      | some ps =>
        rw [q] at h; cases h
        have hp := ih.Ps q F
        cases hp with
        | nil => exact se_dct0
        | cons a b r => exact se_dct (.cons a b r) (fun z => nomatch z) h15
    · cases h
  · rename_i f p as pos
    split at h
    · rename_i hk
      rw [Bool.and_eq_true, Bool.and_eq_true, Bool.and_eq_true, Bool.not_eq_true'] at hk
      obtain ⟨⟨⟨hgl, hst⟩, hne⟩, hpl⟩ := hk
      have hg := F.glo hgl
      split at h
      · cases q : compL n c 1 (.Call (.Name f p) as [] pos) with
        | none => rw [q] at h; cases h
        | some l => rw [q] at h; cases h; exact se_lst (ih.L q F)
      split at h
      · rename_i e; subst e
        split at h
        · rename_i a
          cases q : compE n c a with
          | none => rw [q] at h; cases h
          | some fa =>
            rw [q] at h; cases h
            rw [List.all_cons, Bool.and_eq_true] at hst
            exact se_len hg (F.bl _ ln) hst.1 (ih.E q F)
        · cases h
      split at h
      · rename_i e; subst e
        split at h
        · rename_i a y py
          split at h
          · rename_i T fa hT ha
            split at h
            · rename_i hgy
              cases h
              obtain ⟨t1, t2, t3⟩ := ty_boot hT
              obtain ⟨n1, n2⟩ := blt_name t3
              rw [List.all_cons, Bool.and_eq_true] at hst
              exact se_isi t1 (ih.E ha F) hst.1 hg (F.bl _ isi) (F.glo hgy) (F.bl _ t3) t2 n1 n2
            · cases h
          · cases h
        · cases h
      · cases as with
        | nil => cases hne
        | cons a as =>
          split at h
          · rename_i b id g hb
            cases q : compEs n c (a :: as) with
            | none => rw [q] at h; cases h
            | some fs =>
              rw [q] at h; cases h
              obtain ⟨hB, hb2⟩ := bi_ok F hb
              obtain ⟨n1, n2⟩ := blt_name hB
              obtain ⟨h1, _⟩ := ih.Es q hst F
              rcases hb2 with ⟨_, s, bt⟩ | ⟨_, s, bt⟩
              · exact se_biB s hg (F.bl _ hB) bt n1 n2 hst h1
              · exact se_biT s hg (F.bl _ hB) bt n1 n2 hst h1
          · split at h
            · rename_i G hG
              cases q : compEs n c (a :: as) with
              | none => rw [q] at h; cases h
              | some fs =>
                rw [q] at h; cases h
                obtain ⟨h1, _⟩ := ih.Es q hst F
                exact se_call (F.fns f G hG) F.gu hg (nm_ok hpl).1 hst h1
            · cases h
    · cases h
  · cases h
end
theorem snd : ∀ n, Snd n
  | 0 => by constructor <;> intros <;> (rename_i h _; first | (cases h; done) | skip) <;> first | contradiction | (simp_all [compE, compB, compW, compC, compT, compO, compEs, compPs, compV, compVs, compTs, compL, compI, compG, compGs])
  | n + 1 =>
    have ih := snd n
    ⟨fun h _ F => sndE ih h F, fun h _ _ F => sndB ih h F, fun h _ _ F => sndW ih h F, fun h _ _ F => sndC ih h F, fun h _ F => sndT ih h F, fun h _ F => sndO ih h F, fun h hn _ F => sndEs ih h hn F, fun h _ F => sndPs ih h F, fun h _ F => sndV ih h F, fun h hn _ F => sndVs ih h hn F, fun h _ F => sndTs ih h F, fun h _ F => sndL ih h F, fun h _ F => sndI ih h F, fun h _ F => sndG ih h F, fun h hn _ F => sndGs ih h hn F⟩
end Gg

end
section
/-! GCmpS: statements compiled; that they are sound. -/
namespace Gg
open PySem L2

def starred : PySem.Expr → Bool
  | .Starred _ _ => true
  | _ => false
def swName (sc : Scope) (line : Nat) : PySem.Expr → Option Str
  | .Name id pos => if sc.names.lookup id == some .local && pos.line == line then some id else none
  | _ => none
def swNames (sc : Scope) (ts : List PySem.Expr) : List Str := ts.filterMap (swName sc ((ts.head?.map (·.pos.line)).getD 0))
/-- (ts) = (vs): are the stores exchanged, and whose -/
def swapKind (sc : Scope) (ts vs : List PySem.Expr) : Option (Option (List Str)) :=
  if (!(ts.length == 2 || ts.length == 3) || vs.length != ts.length) = true then some none
  else if vs.any starred = true then some none
  else if ((swNames sc ts).length != ts.length || (swNames sc ts).eraseDups.length != (swNames sc ts).length) = true then some none
  else if vs.all (foldedForSure 8) = true then some none
  else if vs.all (constantsAlone 8) = true then none
  else some (some (swNames sc ts))
theorem swap_of {env : PySem.Env} {ts vs : List PySem.Expr} {k k' : Nat} {p p' : Pos} {r : Option (List Str)} (hk : env.scope.kind = .function) (h : swapKind env.scope ts vs = some r) : swappedStores [.Tuple ts k p] (.Tuple vs k' p') env = pure r := by
  have hb : env.blockKind = .function := by unfold Env.blockKind; rw [hk]; rfl
  have e : swappedStores [.Tuple ts k p] (.Tuple vs k' p') env = (if (!(ts.length == 2 || ts.length == 3) || vs.length != ts.length || env.blockKind != .function) = true then pure none
    else if vs.any starred = true then pure none
    else if ((swNames env.scope ts).length != ts.length || (swNames env.scope ts).eraseDups.length != (swNames env.scope ts).length) = true then pure none
    else if vs.all (foldedForSure 8) = true then pure none
    else if vs.all (constantsAlone 8) = true then (do
      let _ : PUnit ← unsupported "assign.tuple-of-constant-expressions:order-of-the-stores"
      pure (some (swNames env.scope ts)))
    else pure (some (swNames env.scope ts))) := rfl
  rw [e, hb]
  have f : ((!(ts.length == 2 || ts.length == 3) || vs.length != ts.length || (ScopeKind.function != ScopeKind.function)) : Bool) = (!(ts.length == 2 || ts.length == 3) || vs.length != ts.length) := by
    have : (ScopeKind.function != ScopeKind.function) = false := rfl
    rw [this, Bool.or_false]
  rw [f]
  unfold swapKind at h
  split at h
  · rename_i c; rw [if_pos c]; cases h; rfl
  rename_i c; rw [if_neg c]
  split at h
  · rename_i c; rw [if_pos c]; cases h; rfl
  rename_i c; rw [if_neg c]
  split at h
  · rename_i c; rw [if_pos c]; cases h; rfl
  rename_i c; rw [if_neg c]
  split at h
  · rename_i c; rw [if_pos c]; cases h; rfl
  rename_i c; rw [if_neg c]
  split at h
  · cases h
  rename_i c; rw [if_neg c]
  cases h; rfl

/-! ### the compiled statements -/
def isFn (sc : Scope) : Bool := match sc.kind with
  | .function => true
  | _ => false
def baseMu (c : Cc) : PySem.Expr → Nat
  | .Name x _ => muOf c x
  | .Subscript o _ _ => subMu (baseMu c o)
  | _ => 0
def ipOf : Operator → Option B2
  | .Add => some addI
  | .Sub => some subD
  | .Mult => some mulInt
  | _ => none
/-- y = [..]: is the store ahead of letting the names go -/
def swB (sc : Scope) (y : Str) (py pos : Pos) (scope : Scope) : Bool :=
  isFn sc && kindB sc y .local && py.line == pos.line && !(scope.names.any fun (n, k) => n == y && (k == .local || k == .cell))
def notLc : PySem.Expr → Bool
  | .ListComp _ _ _ _ => false
  | _ => true
/-- surely not exchanged with what is within -/
def swNo (sc : Scope) (a b : PySem.Expr) : Bool := notComp b || (match a, b with
  | .Name y py, .ListComp _ _ scope pos => isFn sc && !(kindB sc y .local && py.line == pos.line && !(scope.names.any fun (n, k) => n == y && (k == .local || k == .cell)))
  | .Subscript _ _ _, .ListComp _ _ _ _ => true
  | .Tuple _ _ _, .ListComp _ _ _ _ => true
  | _, _ => false)
/-- an answer that changes no more -/
def compF : Nat → Cc → PySem.Expr → Option EM
  | 0, _, _ => none
  | n + 1, c, e => match e with
    | .Name x _ => if muOf c x = 0 then compE n c e else (slot c x).map eFrz
    | .IfExp t a b _ => match compT n c t, compF n c a, compF n c b with
      | some ft, some fa, some fb => some (eIte ft fa fb)
      | _, _, _ => none
    | e => compE n c e
def compFs : Nat → Cc → List PySem.Expr → Option (List EM)
  | 0, _, _ => none
  | n + 1, c, es => match es with
    | [] => some []
    | e :: r => match compF n c e, compFs n c r with
      | some f, some fs => some (f :: fs)
      | _, _ => none
def compR (n : Nat) (c : Cc) (e : PySem.Expr) : Option EM := match e with
  | .Tuple es _ _ => if es.length ≤ 1000 && es.all notStar then (if c.ret = 0 then compFs n c es else compVs n c c.ret es).map eTup else none
  | e => if c.ret = 0 then compF n c e else compV n c c.ret e
/-- the values for targets -/
def compAs : Nat → Cc → List PySem.Expr → List PySem.Expr → Option (List EM)
  | 0, _, _, _ => none
  | n + 1, c, ts, vs => match ts, vs with
    | [], [] => some []
    | t :: ts, v :: vs => match compV n c (baseMu c t) v, compAs n c ts vs with
      | some f, some fs => some (f :: fs)
      | _, _ => none
    | _, _ => none
def compA (n : Nat) (c : Cc) (tg v : PySem.Expr) : Option SM := match tg, v with
  | .Tuple ts _ _, .Tuple vs _ _ =>
    if ts.all notStar && vs.all notStar && decide (vs.length ≤ 1000) && isFn c.sc then match swapKind c.sc ts vs with
      | none => none
      | some none => match compGs n c ts, compAs n c ts vs with
        | some (tt, _), some fs => some (sPar tt fs)
        | _, _ => none
      | some (some nm) => match ts, vs, compAs n c ts vs with
        | [.Name x _, .Name y _], [_, _], some fs => if nm = [x, y] then match ixOf x c.N, ixOf y c.N with
            | some i, some j => if i ≠ j ∧ kindB c.sc x .local = true ∧ kindB c.sc y .local = true then some (sPar [tName i, tName j] fs) else none
            | _, _ => none
          else none
        | [.Name x _, .Name y _, .Name z _], [_, _, _], some fs => if nm = [x, y, z] then match ixOf x c.N, ixOf y c.N, ixOf z c.N with
            | some i, some j, some k => if i ≠ j ∧ i ≠ k ∧ j ≠ k ∧ kindB c.sc x .local = true ∧ kindB c.sc y .local = true ∧ kindB c.sc z .local = true then some (sPar [tName i, tName j, tName k] fs) else none
            | _, _, _ => none
          else none
        | _, _, _ => none
    else none
  | .Name y py, .ListComp elt [⟨tg, it, ifs, 0⟩] scope lp =>
    if swB c.sc y py lp scope then
      if blkC c.N c.sc scope (ownOf c.N scope) && notSet it then
        match ixOf y c.N, compI n c tg it, compG n (blkCc c scope) tg, compTs n (blkCc c scope) ifs, compV n (blkCc c scope) (muOf c y - 1) elt with
        | some i, some fi, some (t, L), some fs, some fe => if L.all fun i => decide (i ∈ (ownOf c.N scope).map (·.2)) then
            some (sAsg (tName i) (if muOf c y = 0 then eLst (lComp fe t fi fs ((ownOf c.N scope).map (·.2))) else eNew (lComp fe t fi fs ((ownOf c.N scope).map (·.2))))) else none
        | _, _, _, _, _ => none
      else none
    else if swNo c.sc (.Name y py) v then match compG n c (.Name y py), compV n c (muOf c y) v with
      | some (t, _), some f => some (sAsg t f)
      | _, _ => none
    else none
  | tg, v => if swNo c.sc tg v && (notTup tg || notTup v) && notStar tg then match compG n c tg, compV n c (baseMu c tg) v with
      | some (t, _), some f => some (sAsg t f)
      | _, _ => none
    else none
mutual
noncomputable def compS : Nat → Cc → Stmt → Option SM
  | 0, _, _ => none
  | n + 1, c, st => match st with
    | .Pass _ => some sPass
    | .Break _ => some sBrk
    | .Continue _ => some sCnt
    | .Raise _ _ _ => some sNever
    | .Return none _ => some sRetN
    | .Return (some e) _ => (compR n c e).map sRet
    | .Expr (.Call (.Attribute o m apos) [a] [] cpos) _ =>
      if plainBase o && notStar a && (apos.endLine == cpos.line) then
        if m = "append" then match compE n c o, compV n c (baseMu c o - 1) a with
          | some fo, some fa => some (sApp fo fa)
          | _, _ => none
        else if m = "extend" then match compE n c o, compV n c (baseMu c o) a with
          | some fo, some fa => some (sExt fo fa)
          | _, _ => none
        else none
      else none
    | .Expr e _ => if notComp e then (compE n c e).map sDrop else none
    | .If t as bs _ => match compT n c t, compSs n c as, compSs n c bs with
      | some ft, some fa, some fb => some (sIf ft fa fb)
      | _, _, _ => none
    | .For tg it body [] _ => if notSet it then match compI n c tg it, compG n c tg, compSs n c body with
        | some fi, some (t, _), some fb => some (sFor t fi fb)
        | _, _, _ => none
      else none
    | .While t body [] _ => match compT n c t, compSs n c body with
      | some ft, some fb => some (sWhile ft fb)
      | _, _ => none
    | .Assign [tg] v _ => compA n c tg v
    | .AugAssign (.Name x _) op b _ => match ipOf op, ixOf x c.N, compE n c b with
      | some g, some i, some fb => if locB c.sc x && (decide (x ∈ c.fnl) || kindB c.sc x .local) then some (sAug i g fb) else none
      | _, _, _ => none
    | .Try body (_ :: _) ors [] _ => match compSs n c body, compSs n c ors with
      | some fa, some fb => some (sSeq fa fb)
      | _, _ => none
    | _ => none
noncomputable def compSs : Nat → Cc → List Stmt → Option SM
  | 0, _, _ => none
  | n + 1, c, sts => match sts with
    | [] => some sPass
    | [st] => compS n c st
    | st :: r => match compS n c st, compSs n c r with
      | some f, some g => some (sSeq f g)
      | _, _ => none
end
/-! ### they are sound -/
structure FactsS (X : Cx) (c : Cc) : Prop extends Facts X c where
  no : ∀ e s, ¬ X.xe e s
theorem FactsS.own {X : Cx} {c : Cc} (F : FactsS X c) : PassesOwn (model X.prog X.w) X.A X.env X.xe := fun e s h => (F.no e s h).elim
section
variable {n : Nat} {c : Cc} {X : Cx}
theorem isFn_ok (F : Facts X c) (h : isFn c.sc = true) : X.env.scope.kind = .function := by
  rw [F.sc]
  unfold isFn at h
  split at h
  · rename_i e; exact e
  · cases h
theorem swNo_ok (F : Facts X c) {a b : PySem.Expr} (h : swNo c.sc a b = true) {l : Nat} : swapsWith b (some a) l X.env = pure false := by
  unfold swNo at h
  rw [Bool.or_eq_true] at h
  rcases h with h | h
  · exact swaps_no h
  · split at h
    · rename_i y py elt gs scope pos
      rw [Bool.and_eq_true, Bool.not_eq_true'] at h
      have e : swapsWith (.ListComp elt gs scope pos) (some (.Name y py)) l X.env = pure (X.env.blockKind == .function && X.env.kindOf y == some .local && py.line == pos.line && !(scope.names.any fun (n, k) => n == y && (k == .local || k == .cell))) := rfl
      rw [e]
      congr 1
      rw [← h.2]
      have e1 : (X.env.blockKind == .function) = true := by
        unfold Env.blockKind
        rw [isFn_ok F h.1]; rfl
      have e2 : (X.env.kindOf y == some .local) = kindB c.sc y .local := by
        unfold Env.kindOf kindB
        rw [F.sc]
        cases hq : c.sc.names.lookup y with
        | none => rfl
        | some k => cases k <;> rfl
      rw [e1, e2, Bool.true_and]
    · rfl
    · rfl
    · cases h
theorem ip_ok {op : Operator} {g : B2} (h : ipOf op = some g) : IpS X op g := by
  unfold ipOf at h
  split at h
  · cases h; exact ips_add
  · cases h; exact ips_sub
  · cases h; exact ips_mul
  · cases h
theorem slot_ok (F : Facts X c) {x : Str} {i : Nat} (h : slot c x = some i) : X.N[i]? = some x ∧ Vis X.env.scope x ∧ (x == ("__debug__" : Str)) = false ∧ (x == ("__classdict__" : Str)) = false := by
  unfold slot at h
  split at h
  · rename_i hk
    rw [Bool.and_eq_true] at hk
    exact ⟨by rw [F.nN]; exact ix_ok h, F.vis hk.1, nm_ok hk.2⟩
  · cases h
theorem sndF : ∀ {n : Nat} {e : PySem.Expr} {f : EM}, compF n c e = some f → Facts X c → SE X e f
  | 0, _, _, h, _ => by cases h
  | n + 1, e, f, h, F => by
    unfold compF at h
    split at h
    · split at h
      · exact (snd n).E h F
      · rename_i x p _
        cases q : slot c x with
        | none => rw [q] at h; cases h
        | some i =>
          rw [q] at h; cases h
          obtain ⟨h1, h2, h3, h4⟩ := slot_ok F q
          exact se_frz h1 h2 h3 h4
    · split at h
      · rename_i ft fa fb ht ha hb
        cases h
        exact se_ite ((snd n).T ht F) (sndF ha F) (sndF hb F)
      · cases h
    · exact (snd n).E h F
theorem sndFs : ∀ {n : Nat} {es : List PySem.Expr} {fs : List EM}, compFs n c es = some fs → es.all notStar = true → Facts X c → SA X es fs ∧ fs.length = es.length
  | 0, _, _, h, _, _ => by cases h
  | n + 1, es, fs, h, hn, F => by
    simp only [compFs] at h
    split at h
    · cases h; exact ⟨sa_nil, rfl⟩
    · rw [List.all_cons, Bool.and_eq_true] at hn
      split at h
      · rename_i f fs' he hr
        cases h
        obtain ⟨h1, h2⟩ := sndFs hr hn.2 F
        exact ⟨sa_cons hn.1 (sndF he F) h1, by rw [List.length_cons, List.length_cons, h2]⟩
      · cases h
theorem sndR {e : PySem.Expr} {f : EM} (h : compR n c e = some f) (F : Facts X c) : SE X e f := by
  unfold compR at h
  split at h
  · split at h
    · rename_i hk
      rw [Bool.and_eq_true, decide_eq_true_eq] at hk
      split at h
      · cases q : compFs n c _ with
        | none => rw [q] at h; cases h
        | some fs =>
          rw [q] at h; cases h
          obtain ⟨h1, h2⟩ := sndFs q hk.2 F
          exact se_tup h1 (by rw [h2]; exact hk.1)
      · cases q : compVs n c c.ret _ with
        | none => rw [q] at h; cases h
        | some fs =>
          rw [q] at h; cases h
          obtain ⟨h1, h2⟩ := (snd n).Vs q hk.2 F
          exact se_tup h1 (by rw [h2]; exact hk.1)
    · cases h
  · split at h
    · exact sndF h F
    · exact (snd n).V h F
theorem sndAs : ∀ {n : Nat} {ts vs : List PySem.Expr} {fs : List EM}, compAs n c ts vs = some fs → vs.all notStar = true → Facts X c → SA X vs fs ∧ fs.length = vs.length
  | 0, _, _, _, h, _, _ => by cases h
  | n + 1, ts, vs, fs, h, hn, F => by
    simp only [compAs] at h
    split at h
    · cases h; exact ⟨sa_nil, rfl⟩
    · rw [List.all_cons, Bool.and_eq_true] at hn
      split at h
      · rename_i f fs' he hr
        cases h
        obtain ⟨h1, h2⟩ := sndAs hr hn.2 F
        exact ⟨sa_cons hn.1 ((snd n).V he F) h1, by rw [List.length_cons, List.length_cons, h2]⟩
      · cases h
    · cases h
theorem sndA {tg v : PySem.Expr} {f : SM} (h : compA n c tg v = some f) (F : FactsS X c) {pos : Pos} : SS X (.Assign [tg] v pos) f := by
  have loc : ∀ {x : Str}, kindB c.sc x .local = true → X.env.scope.names.lookup x = some .local := fun h => by rw [F.sc]; exact kind_ok h
  unfold compA at h
  split at h
  · rename_i ts kt pt vs kv pv
    split at h
    · rename_i hk
      rw [Bool.and_eq_true, Bool.and_eq_true, Bool.and_eq_true, decide_eq_true_eq] at hk
      obtain ⟨⟨⟨nt, nv⟩, hl⟩, hfn⟩ := hk
      have kf := isFn_ok F.toFacts hfn
      split at h
      · cases h
      · rename_i hs
        have hw : swappedStores [.Tuple ts kt pt] (.Tuple vs kv pv) X.env = pure none := swap_of kf (by rw [F.sc]; exact hs)
        split at h
        · rename_i tt L fs hg ha
          cases h
          obtain ⟨g1, g2⟩ := (snd n).Gs hg nt F.toFacts
          obtain ⟨a1, a2⟩ := sndAs ha nv F.toFacts
          exact ss_tup F.calm g2 (by rw [a2]; exact hl) nt hw g1 a1
        · cases h
      · rename_i nm hs
        have hw : swappedStores [.Tuple ts kt pt] (.Tuple vs kv pv) X.env = pure (some nm) := swap_of kf (by rw [F.sc]; exact hs)
        split at h
        · split at h
          · rename_i _ ha e
            subst e
            split at h
            · rename_i i j hi hj
              split at h
              · rename_i hc
                cases h
                obtain ⟨a1, a2⟩ := sndAs ha nv F.toFacts
                exact ss_par2 F.calm F.nd (by rw [F.nN]; exact ix_ok hi) (by rw [F.nN]; exact ix_ok hj) hc.1 (loc hc.2.1) (loc hc.2.2) hw a1
              · cases h
            · cases h
          · cases h
        · split at h
          · rename_i _ ha e
            subst e
            split at h
            · rename_i i j k hi hj hk
              split at h
              · rename_i hc
                cases h
                obtain ⟨a1, a2⟩ := sndAs ha nv F.toFacts
                exact ss_par3 F.calm F.nd (by rw [F.nN]; exact ix_ok hi) (by rw [F.nN]; exact ix_ok hj) (by rw [F.nN]; exact ix_ok hk) hc.1 hc.2.1 hc.2.2.1 (loc hc.2.2.2.1) (loc hc.2.2.2.2.1) (loc hc.2.2.2.2.2) hw a1
              · cases h
            · cases h
          · cases h
        · cases h
    · cases h
  · rename_i y py elt tg it ifs scope lp
    split at h
    · rename_i hsw
      unfold swB at hsw
      rw [Bool.and_eq_true, Bool.and_eq_true, Bool.and_eq_true, Bool.not_eq_true'] at hsw
      obtain ⟨⟨⟨s1, s2⟩, s3⟩, s4⟩ := hsw
      split at h
      · rename_i hk
        rw [Bool.and_eq_true] at hk
        split at h
        · rename_i i fi t L fs fe hi hit hg hT he
          split at h
          · rename_i hL
            cases h
            have hL' : ∀ i ∈ L, i ∈ (ownOf c.N scope).map (·.2) := fun i hi => of_decide_eq_true (List.all_eq_true.mp hL i hi)
            refine ss_setComp F.calm F.nd (by rw [F.nN]; exact ix_ok hi) (loc s2) (sw_true (isFn_ok F.toFacts s1) (loc s2) s3 s4) ((snd n).I hit F.toFacts) (by rw [F.nN, F.sc]; exact blkOk_by hk.1) (set_ok hk.2) hL'
              (fun s H C cl fp => (snd n).G hg F.toFacts.blk) (fun s H C cl fp => (snd n).Ts hT F.toFacts.blk) (fun s H C cl fp => (snd n).V he F.toFacts.blk) ?_
            split
            · exact .inl rfl
            · exact .inr rfl
          · cases h
        · cases h
      · cases h
    · split at h
      · rename_i hno
        split at h
        · rename_i t L f hg hv
          cases h
          exact ss_asg (swNo_ok F.toFacts hno) (.inl rfl) rfl ((snd n).G hg F.toFacts) ((snd n).V hv F.toFacts)
        · cases h
      · cases h
  · split at h
    · rename_i hk
      rw [Bool.and_eq_true, Bool.and_eq_true, Bool.or_eq_true] at hk
      split at h
      · rename_i t L f hg hv
        cases h
        exact ss_asg (swNo_ok F.toFacts hk.1.1) hk.1.2 hk.2 ((snd n).G hg F.toFacts) ((snd n).V hv F.toFacts)
      · cases h
    · cases h
theorem sndS : ∀ n : Nat, (∀ {c : Cc} {st : Stmt} {f : SM}, compS n c st = some f → ∀ {X : Cx}, FactsS X c → SS X st f) ∧ (∀ {c : Cc} {sts : List Stmt} {f : SM}, compSs n c sts = some f → ∀ {X : Cx}, FactsS X c → SSs X sts f)
  | 0 => ⟨fun h => (by unfold compS at h; exact nomatch h), fun h => (by unfold compSs at h; exact nomatch h)⟩
  | n + 1 => by
    obtain ⟨ihS, ihB⟩ := sndS n
    refine ⟨fun {c st f} h {X} F => ?_, fun {c sts f} h {X} F => ?_⟩
    · unfold compS at h
      split at h
      · cases h; exact ss_pass
      · cases h; exact ss_brk
      · cases h; exact ss_cnt
      · cases h; exact ss_never
      · cases h; exact ss_retN
      · cases q : compR n c _ with
        | none => rw [q] at h; cases h
        | some g => rw [q] at h; cases h; exact ss_ret (sndR q F.toFacts)
      · rename_i o m apos a cpos pos
        split at h
        · rename_i hk
          rw [Bool.and_eq_true, Bool.and_eq_true] at hk
          split at h
          · rename_i e; subst e
            split at h
            · rename_i fo fa ho ha
              cases h
              exact ss_app hk.1.1 hk.1.2 hk.2 ((snd n).E ho F.toFacts) ((snd n).V ha F.toFacts)
            · cases h
          · split at h
            · rename_i e; subst e
              split at h
              · rename_i fo fa ho ha
                cases h
                exact ss_ext hk.1.1 hk.1.2 hk.2 ((snd n).E ho F.toFacts) ((snd n).V ha F.toFacts)
              · cases h
            · cases h
        · cases h
      · split at h
        · rename_i hk
          cases q : compE n c _ with
          | none => rw [q] at h; cases h
          | some g => rw [q] at h; cases h; exact ss_drop hk ((snd n).E q F.toFacts)
        · cases h
      · split at h
        · rename_i ft fa fb ht ha hb
          cases h
          exact ss_if ((snd n).T ht F.toFacts) (ihB ha F) (ihB hb F)
        · cases h
      · split at h
        · rename_i hk
          split at h
          · rename_i fi t L fb hi hg hb
            cases h
            exact ss_for F.own F.calm (set_ok hk) ((snd n).I hi F.toFacts) ((snd n).G hg F.toFacts) (ihB hb F)
          · cases h
        · cases h
      · split at h
        · rename_i ft fb ht hb
          cases h
          exact ss_while F.own ((snd n).T ht F.toFacts) (ihB hb F)
        · cases h
      · exact sndA h F
      · split at h
        · rename_i g i fb hg hi hb
          split at h
          · rename_i hk
            cases h
            rw [Bool.and_eq_true, Bool.or_eq_true] at hk
            refine ss_aug (ip_ok hg) F.nd (by rw [F.nN]; exact ix_ok hi) (F.loc hk.1) ?_ ((snd n).E hb F.toFacts)
            rcases hk.2 with k | k
            · exact .inl (F.fn _ (of_decide_eq_true k))
            · exact .inr (by rw [F.sc]; exact kind_ok k)
          · cases h
        · cases h
      · split at h
        · rename_i fa fb ha hb
          cases h
          exact ss_try F.no (ihB ha F) (ihB hb F)
        · cases h
      · cases h
    · simp only [compSs] at h
      split at h
      · cases h; exact sss_nil
      · exact sss_one (ihS h F)
      · split at h
        · rename_i f g hf hg
          cases h
          exact sss_cons (ihS hf F) (ihB hg F)
        · cases h
end
end Gg

end
section
/-! GTop: a def of the text is the function over data that its text compiles to. -/
namespace Gg
open PySem PySem.Spec PyProof.Rows L2

section
variable {K : PySem.W.Frag} {W : Wd} {H : Hp} {μ : Sto}
theorem cells_of : ∀ {ks : List Nat} {cs : List (List PyData)}, cs.length = ks.length → (∀ (i k : Nat) (c : List PyData), ks[i]? = some k → cs[i]? = some c → flatCell μ k = some c) → flatCells μ ks = some cs
  | [], [], _, _ => rfl
  | [], _ :: _, h, _ => by cases h
  | _ :: _, [], h, _ => by cases h
  | k :: ks, c :: cs, h, g => by
    simp only [flatCells]
    rw [g 0 k c rfl rfl]
    simp only []
    rw [cells_of (cs := cs) (by simpa using h) fun i k' c' h1 h2 => g (i + 1) k' c' (by simpa using h1) (by simpa using h2)]
    rfl
theorem back_get : ∀ {n : Nat} {μ : Sto} {cs : List (List PyData)}, flatBack n μ = some cs → cs.length = n ∧ ∀ i c, cs[i]? = some c → flatCell μ i = some c
  | 0, _, _, h => by
    unfold flatBack at h; cases h
    exact ⟨rfl, fun i c h => by simp at h⟩
  | n + 1, [], _, h => by unfold flatBack at h; cases h
  | n + 1, .dead :: _, _, h => by unfold flatBack at h; cases h
  | n + 1, .lst xs :: r, cs, h => by
    unfold flatBack at h
    split at h
    · rename_i c hc
      cases q : flatBack n r with
      | none => rw [q] at h; cases h
      | some ds =>
        rw [q] at h; cases h
        obtain ⟨h1, h2⟩ := back_get q
        refine ⟨by rw [List.length_cons, h1], fun i c' h => ?_⟩
        cases i with
        | zero => simp at h; subst h; exact hc
        | succ i =>
          have := h2 i c' (by simpa using h)
          unfold flatCell at this ⊢
          rwa [List.getElem?_cons_succ]
    · cases h
theorem ats_range {m : List Addr} : ∀ {n : Nat} (k : Nat), k + n ≤ m.length → Ats m (List.range' k n) ((m.drop k).take n)
  | 0, _, _ => .nil
  | n + 1, k, h => by
    have hk : k < m.length := by omega
    rw [List.range'_succ, List.drop_eq_getElem_cons hk, List.take_succ_cons]
    exact .cons (List.getElem?_eq_getElem hk) (ats_range (k + 1) (by omega))
theorem Ats.snoc {m : List Addr} {k : Nat} {a : Addr} (h : m[k]? = some a) : ∀ {ks : List Nat} {as : List Addr}, Ats m ks as → Ats m (ks ++ [k]) (as ++ [a])
  | _, _, .nil => .cons h .nil
  | _, _, .cons h0 t => .cons h0 (Ats.snoc h t)
/-- of the frame's cells only those of the caller, and the answer's one, stay -/
theorem keep_cells {W' : Wd} {H' : Hp} {cs cs' : List (List PyData)} (R0 : W.m.length = cs.length) (E : Ext W H (cellsOf cs) W' H' μ) (R : Rel K W' H' μ) (hb : flatBack cs.length μ = some cs') :
    Ext W H (cellsOf cs) ⟨W.m, W'.F⟩ H' (cellsOf cs') ∧ Rel K ⟨W.m, W'.F⟩ H' (cellsOf cs') ∧
    ∀ j c, cs.length ≤ j → flatCell μ j = some c → ∃ b, W'.m[j]? = some b ∧ Ext W H (cellsOf cs) ⟨W.m ++ [b], W'.F⟩ H' (cellsOf (cs' ++ [c])) ∧ Rel K ⟨W.m ++ [b], W'.F⟩ H' (cellsOf (cs' ++ [c])) := by
  obtain ⟨l1, l2⟩ := back_get hb
  obtain ⟨r, er, nr⟩ := E.pre
  have hl : cs.length ≤ W'.m.length := by rw [er, List.length_append]; omega
  have hat : Ats W'.m (List.range' 0 cs.length) W.m := by
    have := ats_range (m := W'.m) (n := cs.length) 0 (by omega)
    rwa [List.drop_zero, er, List.take_append_of_le_length (by omega), ← R0, List.take_length, ← er, R0] at this
  have hf : flatCells μ (List.range' 0 cs.length) = some cs' := cells_of (by rw [l1]; simp) fun i k c h1 h2 => by
    have e : k = i := by
      have hi : i < (List.range' 0 cs.length).length := (List.getElem?_eq_some_iff.mp h1).1
      rw [List.length_range'] at hi
      rw [List.getElem?_range' hi] at h1
      cases h1; omega
    rw [e]; exact l2 i c h2
  have nd : (List.range' 0 cs.length).Nodup := List.nodup_range'
  refine ⟨⟨⟨[], by simp, by simp⟩, E.F, E.dom, E.keep, E.Fnew, fun k hk _ => by rw [cells_live]; omega⟩, rel_in R nd hf hat, fun j c hj hc => ?_⟩
  have hjl : j < W'.m.length := by
    rw [R.len]
    unfold flatCell at hc
    split at hc
    · rename_i xs hx; exact live_lt (live.l hx)
    · cases hc
  have hfj : flatCells μ (List.range' 0 cs.length ++ [j]) = some (cs' ++ [c]) := cells_of (by simp [l1]) fun i k d h1 h2 => by
    by_cases hi : i < cs.length
    · rw [List.getElem?_append_left (by simpa using hi)] at h1
      rw [List.getElem?_append_left (by omega)] at h2
      obtain ⟨xs, c', g1, g2, g3⟩ := flat_get hf h1
      rw [h2] at g1; cases g1
      unfold flatCell; rw [g2]; exact g3
    · rw [List.getElem?_append_right (by simpa using hi)] at h1
      rw [List.getElem?_append_right (by omega)] at h2
      have e : i - cs'.length = 0 := by
        cases q : i - cs'.length with
        | zero => rfl
        | succ z => rw [q] at h2; simp at h2
      rw [e] at h2
      have e2 : i - (List.range' 0 cs.length).length = 0 := by rw [List.length_range']; omega
      rw [e2] at h1
      cases h1; cases h2; exact hc
  have hatj := Ats.snoc (List.getElem?_eq_getElem hjl) hat
  have ndj : (List.range' 0 cs.length ++ [j]).Nodup := by
    rw [List.nodup_append]
    refine ⟨nd, by simp, fun a ha b hb => ?_⟩
    rw [List.mem_singleton] at hb
    have := List.mem_range'.mp ha
    omega
  refine ⟨W'.m[j], List.getElem?_eq_getElem hjl, ⟨⟨[W'.m[j]], rfl, fun a ha => ?_⟩, E.F, E.dom, E.keep, E.Fnew, fun k hk _ => by rw [cells_live]; omega⟩, rel_in R ndj hfj hatj⟩
  rw [List.mem_singleton] at ha
  subst ha
  refine nr _ ?_
  have hm : ∀ (m : List Addr) (h : j < m.length), m = W.m ++ r → m[j] ∈ r := by
    intro m h e
    subst e
    rw [List.getElem_append_right (by omega)]
    exact List.getElem_mem _
  exact hm _ hjl er
theorem env_start {N : List Str} {vs : List V} {ls : List LV} (h : RLs K W H vs ls) : EnvOk K W H (L2.start N vs) (ls.map some ++ List.replicate (N.length - vs.length) none) := by
  have hl := h.length
  refine ⟨by unfold L2.start; simp [hl], fun i lv hi => ?_⟩
  by_cases hlt : i < ls.length
  · rw [List.getElem?_append_left (by simpa using hlt), List.getElem?_map] at hi
    cases q : ls[i]? with
    | none => rw [q] at hi; cases hi
    | some x =>
      rw [q] at hi
      have hi : some (some x) = some (some lv) := hi
      cases hi
      obtain ⟨v, h1, h2⟩ := h.get q
      refine ⟨v, ?_, h2⟩
      unfold L2.start
      rw [List.getElem?_append_left (by rw [List.length_map, hl]; exact hlt), List.getElem?_map, h1]
      rfl
  · rw [List.getElem?_append_right (by simpa using hlt), List.getElem?_replicate] at hi
    split at hi <;> cases hi
/-- the def's promise, from its statements -/
theorem body_sp {N : List Str} {np : Nat} {b : SM} {vs : List V} {Q : VK} {E : XK} (h : spF K (mkFn np N.length b) np vs H Q E) : tS K b { nx := fun _ H' => Q .non H', rt := Q } (L2.start N vs) H := by
  obtain ⟨W, ls, cs, r, cs', hnp, rs, R, hF, q⟩ := h
  unfold mkFn at hF
  have hl := rs.length
  rw [if_pos (by omega)] at hF
  have lenW : W.m.length = cs.length := by
    have := R.len
    unfold cellsOf at this
    rwa [List.length_map] at this
  cases ho : b (ls.map some ++ List.replicate (N.length - np) none) (cellsOf cs) with
  | none =>
    have ho' := ho
    unfold cellsOf at ho'
    rw [ho'] at hF
    cases hF
  | some o =>
    have ho' := ho
    unfold cellsOf at ho'
    rw [ho'] at hF
    refine ⟨W, _, _, o, R, ?_, ho, ?_⟩
    · have := env_start (N := N) rs
      rwa [hnp] at this
    · cases o with
      | bk _ _ => cases hF
      | ct _ _ => cases hF
      | nx e m =>
        simp only [answer] at hF
        cases hb : flatBack cs.length m with
        | none => rw [hb] at hF; cases hF
        | some c2 =>
          rw [hb] at hF; cases hF
          intro W' H' σ' E' R' ok'
          obtain ⟨k1, k2, _⟩ := keep_cells lenW E' R' hb
          exact q _ _ _ k1 k2 .non
      | rt v m =>
        cases v with
        | d x =>
          simp only [answer] at hF
          cases hb : flatBack cs.length m with
          | none => rw [hb] at hF; cases hF
          | some c2 =>
            rw [hb] at hF; cases hF
            intro W' H' u E' R' ru
            obtain ⟨k1, k2, _⟩ := keep_cells lenW E' R' hb
            exact q _ _ _ k1 k2 ru
        | ro _ => cases hF
        | ref j =>
          simp only [answer] at hF
          split at hF
          · rename_i hj
            split at hF
            · rename_i c2 c hb hc
              cases hF
              intro W' H' u E' R' ru
              obtain ⟨_, _, k3⟩ := keep_cells lenW E' R' hb
              obtain ⟨bb, g1, g2, g3⟩ := k3 j c hj hc
              obtain ⟨a, a1, a2⟩ := ru
              rw [g1] at a1; cases a1
              refine q _ _ _ g2 g3 ⟨bb, ?_, a2⟩
              show (W.m ++ [bb])[cs.length]? = some bb
              rw [← lenW, List.getElem?_append_right (Nat.le_refl _), Nat.sub_self]; rfl
            · cases hF
          · cases hF
        | tr pre j =>
          simp only [answer] at hF
          split at hF
          · rename_i hj
            split at hF
            · rename_i c2 c hb hc
              cases hF
              intro W' H' u E' R' ru
              obtain ⟨_, _, k3⟩ := keep_cells lenW E' R' hb
              obtain ⟨bb, g1, g2, g3⟩ := k3 j c hj hc
              obtain ⟨a, us, b', a1, a2, a3, a4⟩ := ru
              rw [g1] at a4; cases a4
              refine q _ _ _ g2 g3 ⟨a, us, bb, a1, a2, a3, ?_⟩
              show (W.m ++ [bb])[cs.length]? = some bb
              rw [← lenW, List.getElem?_append_right (Nat.le_refl _), Nat.sub_self]; rfl
            · cases hF
          · cases hF
end
/-! ### the defs of the module -/
/-- a def that may be called by its name -/
structure CalG (P : Program) (w : World) (K : PySem.W.Frag) (mg : Str → Option Value) (base : Heap) (k : Nat) (x : Str) (F : Fn) : Prop where
  ex : ∃ (f : Addr) (fd : FuncData) (ps : List Str), FnG P w K mg base k f fd ps (spF K F ps.length) ∧ mg x = some (.ref f) ∧ PySem.W.keepIn K (.ref f) = true ∧ Binds K fd ps [] ∧ ∀ ls cs r, F ls cs = some r → ls.length = ps.length
theorem CalG.mono {P : Program} {w : World} {K : PySem.W.Frag} {mg : Str → Option Value} {base : Heap} {j k : Nat} {x : Str} {F : Fn} (h : CalG P w K mg base j x F) (hk : j ≤ k) : CalG P w K mg base k x F := by
  obtain ⟨f, fd, ps, h1, h2⟩ := h.ex
  exact ⟨f, fd, ps, h1.mono hk, h2⟩
def AllCal (P : Program) (w : World) (K : PySem.W.Frag) (mg : Str → Option Value) (base : Heap) (k : Nat) : List (Str × Fn) → Prop
  | [] => True
  | p :: r => CalG P w K mg base k p.1 p.2 ∧ AllCal P w K mg base k r
theorem AllCal.at {P : Program} {w : World} {K : PySem.W.Frag} {mg : Str → Option Value} {base : Heap} {k : Nat} {x : Str} {F : Fn} : ∀ {l : List (Str × Fn)}, AllCal P w K mg base k l → l.lookup x = some F → CalG P w K mg base k x F
  | (y, G) :: r, h, e => by
    rw [List.lookup_cons] at e
    split at e
    · rename_i hx
      cases e
      have hx : x = y := eq_of_beq hx
      rw [hx]; exact h.1
    · exact AllCal.at h.2 e
/-- what the module's names stand for -/
structure ModF (K : PySem.W.Frag) (mg : Str → Option Value) (glb : List (Str × PyData)) : Prop where
  bl : ∀ x ∈ BUILTINS, mg x = none
  gl : ∀ x d, glb.lookup x = some d → ∃ u, mg x = some u ∧ GV K u d
def fnCc (N : List Str) (sc : Scope) (fns : List (Str × Fn)) (glb : List (Str × PyData)) (mu : List (Str × Nat)) (ret : Nat) : Cc := ⟨N, sc, N, fns, glb, mu, ret⟩
theorem fng_by {P : Program} {w : World} {K : PySem.W.Frag} {mg : Str → Option Value} {base : Heap} {x qual : Str} {params : Arguments} {body : List Stmt} {scope : Scope} {f : Addr} {fd : FuncData} {N ps : List Str} {fns : List (Str × Fn)} {glb : List (Str × PyData)} {mu : List (Str × Nat)} {ret k n : Nat} {b : SM} {G : Fn}
    (hG : G = mkFn ps.length N.length b) (F : FunD K x qual params body scope [] [] f fd) (hm : mg x = some (.ref f)) (M : ModF K mg glb) (hs : C8.scC N ps scope = true)
    (hc : compSs n (fnCc N scope fns glb mu ret) body = some b) (A : AllCal P w K mg base k fns) : FnG P w K mg base (k + 1) f fd ps (spF K G ps.length) := by
  subst hG
  have S := C8.fnScope_by hs
  obtain ⟨oc, od, dV, kV, doc, pm, an, cdv, ct, osl, e, lk, hcd, hD, _⟩ := F.ex
  refine ⟨?_, ?_⟩
  · intro vs H Q E h
    obtain ⟨W, ls, cs, r, cs', hnp, _⟩ := h
    exact hnp
  · intro Ar os s H xs us vs Q hgu hro en hbi rel hsp
    subst e
    have hlen : vs.length = ps.length := by obtain ⟨W, ls, cs, r, cs', hnp, _⟩ := hsp; exact hnp
    have kIn : K.In s.heap := en.mod.kin.keeps fun b o e => (en.bs b o e).1
    have noLim : s.heap.NoLimit := en.mod.nolimit.keeps fun b o e => (en.bs b o e).1
    have kinds : ∀ y ∈ ps.zip us, scope.names.lookup y.1 = some .local ∨ (scope.names.lookup y.1 = some .cell ∧ ((cellsFrom (s.heap.objs.size + 1) scope.names []).lookup y.1).isSome = true) := by
      intro ⟨n, v⟩ hy
      rcases S.par n (List.of_mem_zip hy).1 with q | q
      · exact .inl q
      · exact .inr ⟨q, PySem.W.cellsFrom_some _ _ _ (.inl q)⟩
    refine codeAny_call_function hro.depth (kIn _ _ lk) rfl S.co S.gen rfl (PySem.W.codeRec_of kIn hcd) (hbi _ _ _ _ ?_)
    refine wpAny_newFunctionEnv_cells S.kind kinds fun env henv s1 hx => ?_
    subst henv
    refine ⟨noLim.keeps hx.toInCall.keep, codeAny_func ?_⟩
    have J : Inv (cxOf CX0 P w K mg base N qual scope f cdv Ar os s H E0) [] (L2.start N vs) H s1 := inv_start S hro.hd en hlen rel hx
    have Fa : FactsS (cxOf CX0 P w K mg base N qual scope f cdv Ar os s H E0).nox (fnCc N scope fns glb mu ret) :=
      { nN := rfl, nd := S.nd, sc := rfl, calm := rfl, gu := hgu
        un := by have := hro.un; show Ar.units + 3 + 65 < cLine; omega
        fn := fun _ _ => rfl, bl := M.bl
        gl := M.gl
        fns := fun y G h => by
          obtain ⟨f2, fd2, ps2, h1, h2, h3, h4, h5⟩ := (A.at h).ex
          exact ⟨k, f2, fd2, ps2, h1, hro.deeper _, h2, h3, h4, h5⟩
        no := fun _ _ h => h }
    have ht := (sndS n).2 hc Fa
    refine wpAny_mono (ht.nox.run [] s1 (L2.start N vs) H _ J (body_sp hsp)) (fun fl s' hs => ?_) fun e s' hs => hs
    cases fl with
    | ret u =>
      obtain ⟨v, σ', H', J', rv, q⟩ := hs
      exact ⟨v, H', J'.os, J'.bare, J'.base, J'.hok, rv, q⟩
    | next =>
      obtain ⟨σ', H', J', q⟩ := hs
      exact ⟨V.non, H', J'.os, J'.bare, J'.base, J'.hok, rfl, q⟩
    | brk => obtain ⟨_, _, _, q⟩ := hs; exact q.elim
    | cont => obtain ⟨_, _, _, q⟩ := hs; exact q.elim
theorem cal_by {P : Program} {w : World} {K : PySem.W.Frag} {mg : Str → Option Value} {base : Heap} {x qual : Str} {params : Arguments} {body : List Stmt} {scope : Scope} {f : Addr} {fd : FuncData} {N ps : List Str} {fns : List (Str × Fn)} {glb : List (Str × PyData)} {mu : List (Str × Nat)} {ret k n : Nat} {b : SM} {G : Fn}
    (hG : G = mkFn ps.length N.length b) (F : FunD K x qual params body scope [] [] f fd) (hm : mg x = some (.ref f)) (M : ModF K mg glb) (hs : C8.scC N ps scope = true) (hb : ∀ (kV doc pm : Value) (an : Option Addr) (cdv ct : Value) (us : List Value), us.length = ps.length → bindArgs (PySem.W.fnOf x qual params body scope .none kV doc pm an cdv ct) ⟨us, []⟩ = pure (ps.zip us))
    (hc : compSs n (fnCc N scope fns glb mu ret) body = some b) (A : AllCal P w K mg base k fns) : CalG P w K mg base (k + 1) x G := by
  subst hG
  refine ⟨f, fd, ps, fng_by rfl F hm M hs hc A, hm, F.kp, F.bindsN hb, fun ls cs r h => ?_⟩
  unfold mkFn at h
  split at h
  · rename_i e; exact e
  · cases h
end Gg

end
section
/-! GHook: constants of the module: whole numbers, texts, tuples of these. -/
namespace Gg
open PySem PySem.Spec PyProof.Rows L2

mutual
/-- a module's object reads as data -/
def cB (K : PySem.W.Frag) : Value → PyData → Bool
  | .none, .none => true
  | .bool b, .bool c => decide (b = c)
  | .int i _, .int j => decide (i = j)
  | .str s _, .str t => decide (s = t)
  | .ref a, .tuple xs => match K.lookup a with
    | some ⟨.type c, _, .seq its _, _⟩ => decide (c = "tuple") && (decide (its.size ≤ sizeLine) && cBs K its.toList xs)
    | _ => false
  | _, _ => false
def cBs (K : PySem.W.Frag) : List Value → List PyData → Bool
  | [], [] => true
  | u :: us, x :: xs => cB K u x && cBs K us xs
  | _, _ => false
end
mutual
theorem cB_ok {K : PySem.W.Frag} : ∀ {x : PyData} {u : Value}, cB K u x = true → GV K u x
  | .none, u, h => by
    cases u <;> simp only [cB] at h <;> first | (cases h; done) | exact ⟨.non, rfl, fun _ _ => .non⟩
  | .bool b, u, h => by
    cases u <;> simp only [cB] at h <;> first | (cases h; done) | skip
    have e := of_decide_eq_true h
    subst e
    exact ⟨.bl _, rfl, fun _ _ => .bl _⟩
  | .int b, u, h => by
    cases u <;> simp only [cB] at h <;> first | (cases h; done) | skip
    have e := of_decide_eq_true h
    subst e
    exact ⟨.int _, ⟨_, rfl⟩, fun _ _ => .int _⟩
  | .str b, u, h => by
    cases u <;> simp only [cB] at h <;> first | (cases h; done) | skip
    have e := of_decide_eq_true h
    subst e
    exact ⟨.str _, ⟨_, rfl⟩, fun _ _ => .str _⟩
  | .list _, u, h => by cases u <;> simp only [cB] at h <;> cases h
  | .dict _, u, h => by cases u <;> simp only [cB] at h <;> cases h
  | .tuple xs, u, h => by
    cases u with
    | ref a =>
      simp only [cB] at h
      split at h
      · rename_i c d its n sl q
        rw [Bool.and_eq_true, Bool.and_eq_true] at h
        obtain ⟨vs, h1, h2⟩ := cBs_ok h.2.2
        exact ⟨.ref a, rfl, fun F H => .tup (.inr ⟨_, its, n, q, congrArg Value.type (of_decide_eq_true h.1), rfl, of_decide_eq_true h.2.1, h1⟩) (h2 F H)⟩
      · cases h
    | _ => simp only [cB] at h <;> cases h
theorem cBs_ok {K : PySem.W.Frag} : ∀ {xs : List PyData} {us : List Value}, cBs K us xs = true → ∃ vs, Vals vs us ∧ ∀ (F : Addr → Prop) (H : Hp), RPs K F H vs xs
  | [], [], _ => ⟨[], .nil, fun _ _ => .nil⟩
  | [], _ :: _, h => by simp only [cBs] at h; cases h
  | _ :: _, [], h => by simp only [cBs] at h; cases h
  | x :: xs, u :: us, h => by
    simp only [cBs] at h
    rw [Bool.and_eq_true] at h
    obtain ⟨v, h1, h2⟩ := cB_ok h.1
    obtain ⟨vs, h3, h4⟩ := cBs_ok h.2
    exact ⟨v :: vs, .cons h1 h3, fun F H => .cons (h2 F H) (h4 F H)⟩
end
def consB (cs : List (Str × PyData)) (K : PySem.W.Frag) : Bool := cs.all fun q => match PySem.W.nsIn K mainGlobals q.1 with
  | some (some u) => cB K u q.2
  | _ => false
theorem cons_at {K : PySem.W.Frag} {h : Heap} {mg : Str → Option Value} (X : K.In h) (G : h.Ns mainGlobals mg) : ∀ {cs : List (Str × PyData)}, consB cs K = true → ∀ x d, cs.lookup x = some d → ∃ u, mg x = some u ∧ GV K u d
  | [], _, x, d, e => by cases e
  | (y, z) :: r, c, x, d, e => by
    unfold consB at c
    rw [List.all_cons, Bool.and_eq_true] at c
    rw [List.lookup_cons] at e
    split at e
    · rename_i hx
      have hx := eq_of_beq hx
      subst hx
      cases e
      have c1 := c.1
      simp only at c1
      split at c1
      · rename_i u q
        exact ⟨u, PySem.W.mg_of X G q, cB_ok c1⟩
      · cases c1
    · exact cons_at X G c.2 x d e
/-! what is looked up in the module, once and for all -/
abbrev AlC : Type := He.AlD × Bool
def obsC (n : Nat) (fa : List He.Fa) (fn : List He.DefD) (cs : List (Str × PyData)) (g : Addr → Option Obj) : AlC :=
  (He.obsD fa fn (He.frG g (He.asD g n)), consB cs (He.frG g (He.asD g n)))
def hookC (n : Nat) (fa : List He.Fa) (fn : List He.DefD) (cs : List (Str × PyData)) : PySem.W.Hook where
  α := AlC
  obs := fun t => obsC n fa fn cs t.heap.get?
  val := fun _ => (He.valD fn, true)
  says := fun _ hp => ∃ K : PySem.W.Frag, K.In hp ∧ He.SaysD fa fn K ∧ consB cs K = true
  of := fun _ _ e => ⟨_, He.frG_in, congrArg (fun z : AlC => z.1) e, congrArg (fun z : AlC => z.2) e⟩
  keeps := fun _ _ _ ⟨K, kin, c1, c2⟩ k => ⟨K, PySem.W.Frag.In.keeps kin k, c1, c2⟩
theorem obsC_eq {n : Nat} {fa : List He.Fa} {fn : List He.DefD} {cs : List (Str × PyData)} {g : Addr → Option Obj} {t : Shared} (h : ∀ a, g a = t.heap.get? a) : obsC n fa fn cs g = (hookC n fa fn cs).obs t := by
  have e : g = t.heap.get? := funext h
  subst e
  rfl
end Gg

end
section
/-! GLaw: the law's def, called as the statement calls it. -/
namespace Gg
open PySem PySem.Spec PyProof.Rows L2

/-- the script, seen by the law's def -/
theorem law_sp {K : PySem.W.Frag} {F : Fn} {H : Hp} {a : Addr} {ns : List Int} (hF : F [.ro (ns.map .int)] [] = some (.d (.bool true), [])) (hO : Only H) (hS : SqL K H a (ns.map V.int)) {E : XK} : spF K F 1 [.ref a] H (fun v _ => v = .bl true) E := by
  have ro : RoL K H a (ns.map V.int) := by
    rcases hS with (h | ⟨o, h⟩) | h
    · rcases hO a with z | ⟨o, xs, z⟩
      · rw [h] at z; cases z
      · rw [h] at z; cases z
    · exact .inl ⟨o, h⟩
    · exact .inr (.inr h)
  have rp : RPs K (fun _ => False) H (ns.map V.int) (ns.map PyData.int) := by
    clear hF hS ro
    induction ns with
    | nil => exact .nil
    | cons i r ih => exact .cons (.int i) ih
  refine ⟨⟨[], fun _ => False⟩, [.ro (ns.map .int)], [], _, [], rfl, .cons ⟨a, _, rfl, ro, rp⟩ .nil, ?_, hF, fun W' H' v _ _ rv => ?_⟩
  · exact ⟨rfl, fun k b xs h => (by cases h), fun i j b hi => (by obtain ⟨xs, hi, _⟩ := hi; cases hi), fun b h => h.elim⟩
  · cases rv; rfl
theorem law_run {P : Program} {w : World} {K : PySem.W.Frag} {mg mb : Str → Option Value} {k : Nat} {fL aL : Addr} {fdL : FuncData} {x : Str} {F : Fn} {sh : Shared} {us : List Value} {ns : List Int}
    (kIn : K.In sh.heap) (gNs : sh.heap.Ns mainGlobals mg) (bNs : sh.heap.Ns builtinsNs mb) (bBoot : ∀ x : Str, x ≠ "__name__" → mb x = bootBuiltins x) (noLim : sh.heap.NoLimit) (noGen : sh.gens = #[])
    (hObj : sh.heap.get? aL = some { cls := .type "list", data := .seq us.toArray }) (hInts : IntsAre us ns) (hLen : ns.length ≤ sizeLine) (room : Room k callerA)
    (hFn : ∀ base : Heap, K.In base → base.Ns mainGlobals mg → FnG P w K mg base k fL fdL [x] (spF K F 1)) (hBind : ∀ (s : Shared) (u : Value), BindsTo s fdL ⟨[u], []⟩ [(x, u)])
    (hF : F [.ro (ns.map .int)] [] = some (.d (.bool true), [])) :
    codeAny (model P w) callerA (.call (.ref fL) ⟨[.ref aL], []⟩) (fun r s' => r = .ok (.ret (.bool true)) ∧ OldK sh.heap s'.heap ∧ s'.os = sh.os ∧ AllBare s'.gens) sh := by
  have rVals := vals_ints hInts
  have lenUs := hInts.length
  have main : ∀ Hh : Hp, Only Hh → SqL K Hh aL (ns.map V.int) → HOk P w Hh sh.heap → (∀ b, Hh b ≠ none → b = aL) → (Hh aL ≠ none → K.lookup aL = none) →
      codeAny (model P w) callerA (.call (.ref fL) ⟨[.ref aL], []⟩) (fun r s' => r = .ok (.ret (.bool true)) ∧ OldK sh.heap s'.heap ∧ s'.os = sh.os ∧ AllBare s'.gens) sh := by
    intro Hh only seq okH onlyA notK
    have under : ∀ {b : Addr} {o : Obj}, sh.heap.get? b = some o → Hh b = none → (hidT sh.heap Hh).get? b = some o := fun e n => hidT_get e n
    have isA : ∀ {b : Addr}, Hh b ≠ none → b = aL := fun z => onlyA _ z
    have noDict : ∀ {b : Addr} {o : Obj} {es : Array DictEntry} {ep : Nat}, sh.heap.get? b = some o → o.data = .dict es ep → Hh b = none := by
      intro b o es ep e d
      cases q : Hh b with
      | none => rfl
      | some u =>
        obtain rfl : b = aL := isA (by rw [q]; simp)
        rw [hObj] at e; cases e
        exact absurd (show Data.seq us.toArray _ = Data.dict es ep from d) (fun z => by cases z)
    have nsUp : ∀ {b : Addr} {m : Str → Option Value}, sh.heap.Ns b m → (hidT sh.heap Hh).Ns b m := fun {b m} ⟨o, es, ep, e, d, r⟩ => ⟨o, es, ep, under e (noDict e d), d, r⟩
    have kUp : K.In (hidT sh.heap Hh) := by
      intro b o e
      refine under (kIn b o e) ?_
      cases q : Hh b with
      | none => rfl
      | some u =>
        obtain rfl : b = aL := isA (by rw [q]; simp)
        rw [notK (by rw [q]; simp)] at e; cases e
    have md : Mod K mg (hidT sh.heap Hh) := ⟨kUp, nsUp gNs, ⟨mb, nsUp bNs, bBoot⟩, let ⟨mc, h1, h2⟩ := noLim; ⟨mc, nsUp h1, h2⟩⟩
    have env : Env0 P w K mg (hidT sh.heap Hh) callerA [] sh Hh := ⟨rfl, md, fun b o e => of_hidT e, Nat.le_of_eq (hidT_size _ _), trivial, fun b z => absurd (show b ∈ ([] : List Addr) from z) (by simp), okH, .of_eq noGen⟩
    refine codeAny_mono ((hFn _ kUp (nsUp gNs)).go callerA [] sh Hh ⟨[.ref aL], []⟩ [.ref aL] [.ref aL] _ rfl room env (hBind sh (.ref aL)) (.cons rfl .nil) (law_sp hF only seq)) fun res s' got => ?_
    cases res with
    | error e => exact got.elim
    | ok fl =>
      cases fl with
      | next => exact got.elim
      | brk => exact got.elim
      | cont => exact got.elim
      | ret u =>
        obtain ⟨v, H', os, bare, un, ok2, rv, isT⟩ := got
        have isT : v = .bl true := isT
        subst isT
        obtain rfl : u = Value.bool true := rv
        refine ⟨rfl, OldK.of_keep fun b o e => ?_, os, bare⟩
        cases q : Hh b with
        | none => exact un.keep b o e q (fun z => absurd (show b ∈ ([] : List Addr) from z) (by simp)) (by simp)
        | some ob =>
          rcases only b with z | ⟨ob2, xs, z⟩
          · rw [q] at z; cases z
          · obtain ⟨e1, _⟩ := okH b _ z
            obtain ⟨e2, _⟩ := ok2 b _ (un.frzs b ob2 _ z)
            rw [e] at e1; cases e1
            exact e2
  cases inK : K.lookup aL with
  | some o =>
    have e := kIn aL o inK
    rw [hObj] at e
    cases e
    refine main (fun _ => none) (fun _ => .inl rfl) (.inr ⟨_, us.toArray, _, inK, rfl, rfl, rfl, by rw [List.size_toArray, lenUs]; exact hLen, by simpa using rVals⟩) (fun b u z => ?_) (fun b z => absurd rfl z) fun z => absurd rfl z
    exact nomatch (show (none : Option HO) = some u from z)
  | none =>
    have same : ∀ {b : Addr} {c : HO}, (if b = aL then some c else (none : Option HO)) ≠ none → b = aL := fun {b c} z => by
      by_cases e : b = aL
      · exact e
      · exact absurd (if_neg e) z
    refine main (fun b => if b = aL then some (.frz { cls := .type "list", data := .seq us.toArray } (.lst (ns.map V.int))) else none) (fun b => ?_) (.inl (.inr ⟨{ cls := .type "list", data := .seq us.toArray }, if_pos rfl⟩)) (fun b u z => ?_) (fun b z => same z) fun _ => inK
    · by_cases e : b = aL
      · exact .inr ⟨_, _, if_pos e⟩
      · exact .inl (if_neg e)
    · have z : (if b = aL then some (HO.frz { cls := .type "list", data := .seq us.toArray } (.lst (ns.map V.int))) else none) = some u := z
      obtain rfl : b = aL := same (by rw [z]; simp)
      rw [if_pos rfl] at z; cases z
      exact ⟨hObj, by rw [List.length_map]; exact hLen, us, _, rVals, hObj⟩
/-- a law, by what its def answers to every script -/
theorem walk_law {l : PySem.W.OpenLaw} {n k : Nat} {q : Program} {loose : List Str} {XP : (Str → Option Value) → Heap → Prop} {YP : World → Heap → Prop} {d : DefRec} {x : Str} {F : Fn}
    (hmost : l.most = some n) (hsize : n ≤ sizeLine) (hdfl : d.params.defaults = []) (room : Room k callerA)
    (defs : ∀ (w : World) (mg : Str → Option Value) (fL : Addr) (h : Heap), YP w h → h.Ns mainGlobals mg → mg d.name = some (.ref fL) →
      ∃ (K : PySem.W.Frag) (fdL : FuncData), K.In h ∧ (∀ (s : Shared) (u : Value), BindsTo s fdL ⟨[u], []⟩ [(x, u)]) ∧ ∀ base : Heap, K.In base → base.Ns mainGlobals mg → FnG l.prog w K mg base k fL fdL [x] (spF K F 1))
    (hF : ∀ ns : List Int, ns.length ≤ n → F [.ro (ns.map .int)] [] = some (.d (.bool true), [])) :
    PySem.W.WalkO q loose XP YP l.row.toRowW d [] (fun f vs => PySem.call f vs) := by
  refine Att.attach_call hmost hdfl fun w s0 sh mg mb fL o pm cd doc aL us ns G Y ho hd hcd hmg hObj hInts hLen hgen => ?_
  obtain ⟨K, fdL, kIn, hBind, hFn⟩ := defs w mg fL _ Y G.T.g hmg
  exact law_run kIn G.T.g G.T.b G.T.builtins G.T.nolimit hgen hObj hInts (Nat.le_trans hLen hsize) room hFn hBind (hF ns hLen)
end Gg

end
section
/-! GEval: reckoning with the functions over data: what simp may do, and rules for loops. -/
namespace Gg
open PySem

section
variable {e : Env} {m : Sto} {fa fb fc : EM} {fs : List EM} {g h : B2}
@[simp] theorem ev_con {c : PyData} : eCon c e m = some (.d c, m) := rfl
@[simp] theorem ev_var {i : Nat} {v : LV} (q : e[i]? = some (some v)) : eVar i e m = some (v, m) := by unfold eVar; simp only [q]
@[simp] theorem evl_nil : evalL [] e m = some ([], m) := rfl
@[simp] theorem evl_cons {f : EM} : evalL (f :: fs) e m = (f e m).bind fun a => (evalL fs e a.2).map fun b => (a.1 :: b.1, b.2) := by
  show (match f e m with
    | some (v, m1) => match evalL fs e m1 with
      | some (vs, m2) => some (v :: vs, m2)
      | none => none
    | none => none) = _
  rcases f e m with _ | ⟨a, m1⟩
  · rfl
  · show (match evalL fs e m1 with
      | some (vs, m2) => some (a :: vs, m2)
      | none => none) = (evalL fs e m1).map _
    rcases evalL fs e m1 with _ | ⟨b, m2⟩ <;> rfl
@[simp] theorem ev_tup : eTup fs e m = (evalL fs e m).bind fun a => (tupV a.1).map fun x => (x, a.2) := by
  unfold eTup; rcases evalL fs e m with _ | ⟨a, m1⟩ <;> rfl
@[simp] theorem allD_nil : allD [] = some [] := rfl
@[simp] theorem allD_d {x : PyData} {r : List LV} : allD (.d x :: r) = (allD r).map (x :: ·) := rfl
@[simp] theorem allD_ref {k : Nat} {r : List LV} : allD (.ref k :: r) = none := rfl
@[simp] theorem allD_map : ∀ c : List PyData, allD (c.map LV.d) = some c
  | [] => rfl
  | x :: c => by rw [List.map_cons, allD_d, allD_map c]; rfl
@[simp] theorem trOf_ref {k : Nat} : trOf [.ref k] = some ([], k) := rfl
@[simp] theorem trOf_d {x : PyData} {r : List LV} : trOf (.d x :: r) = (trOf r).map fun q => (x :: q.1, q.2) := rfl
@[simp] theorem tupV_ev {vs : List LV} : tupV vs = match allD vs with
  | some xs => some (.d (.tuple xs))
  | none => (trOf vs).map fun q => .tr q.1 q.2 := rfl
@[simp] theorem rdD_d {x : PyData} : rdD m (.d x) = some x := rfl
@[simp] theorem rdD_ref {k : Nat} {xs : List LV} (q : m[k]? = some (.lst xs)) : rdD m (.ref k) = (allD xs).map .list := by unfold rdD; simp only [q]
@[simp] theorem rdS_d {x : PyData} : rdS m (.d x) = some x := rfl
@[simp] theorem rdS_ref {k : Nat} : rdS m (.ref k) = rdD m (.ref k) := rfl
@[simp] theorem rdS_ro {xs : List PyData} : rdS m (.ro xs) = some (.list xs) := rfl
@[simp] theorem rdAll_nil : rdAll m [] = some [] := rfl
@[simp] theorem rdAll_cons {v : LV} {r : List LV} : rdAll m (v :: r) = (rdD m v).bind fun x => (rdAll m r).map (x :: ·) := by
  show (match rdD m v with
    | some x => (rdAll m r).map (x :: ·)
    | none => none) = _
  cases rdD m v <;> rfl
@[simp] theorem ev_bin : eBin g fa fb e m = (fa e m).bind fun a => (fb e a.2).bind fun b => (rdD b.2 a.1).bind fun x => (rdD b.2 b.1).bind fun y => (g x y).map fun z => (.d z, b.2) := by
  unfold eBin
  rcases fa e m with _ | ⟨a, m1⟩
  · rfl
  · show (match fb e m1 with
      | some (b, m2) => match rdD m2 a, rdD m2 b with
        | some x, some y => (g x y).map fun z => (LV.d z, m2)
        | _, _ => none
      | none => none) = (fb e m1).bind fun b => (rdD b.2 a).bind fun x => (rdD b.2 b.1).bind fun y => (g x y).map fun z => (LV.d z, b.2)
    rcases fb e m1 with _ | ⟨b, m2⟩
    · rfl
    · show (match rdD m2 a, rdD m2 b with
        | some x, some y => (g x y).map fun z => (LV.d z, m2)
        | _, _ => none) = (rdD m2 a).bind fun x => (rdD m2 b).bind fun y => (g x y).map fun z => (LV.d z, m2)
      cases rdD m2 a <;> cases rdD m2 b <;> rfl
@[simp] theorem ev_un {u : PyData → Option PyData} : eUn u fa e m = (fa e m).bind fun a => (rdD a.2 a.1).bind fun x => (u x).map fun z => (.d z, a.2) := by
  unfold eUn
  rcases fa e m with _ | ⟨a, m1⟩
  · rfl
  · show (match rdD m1 a with
      | some x => (u x).map fun z => (LV.d z, m1)
      | none => none) = (rdD m1 a).bind fun x => (u x).map fun z => (LV.d z, m1)
    cases rdD m1 a <;> rfl
@[simp] theorem truth_d {x : PyData} : truth m (.d x) = truthD x := rfl
@[simp] theorem truth_ref {k : Nat} {xs : List LV} (q : m[k]? = some (.lst xs)) : truth m (.ref k) = some (!xs.isEmpty) := by
  show (match m[k]? with
    | some (.lst xs) => some (!xs.isEmpty)
    | _ => none) = _
  simp only [q]
@[simp] theorem ev_len : eLen fa e m = (fa e m).bind fun a => (lenV a.2 a.1).map fun z => (.d z, a.2) := by
  unfold eLen; rcases fa e m with _ | ⟨a, m1⟩ <;> rfl
@[simp] theorem lenV_l {xs : List PyData} : lenV m (.d (.list xs)) = some (.int xs.length) := rfl
@[simp] theorem lenV_t {xs : List PyData} : lenV m (.d (.tuple xs)) = some (.int xs.length) := rfl
@[simp] theorem lenV_r {k : Nat} {xs : List LV} (q : m[k]? = some (.lst xs)) : lenV m (.ref k) = some (.int xs.length) := by
  show (match m[k]? with
    | some (.lst xs) => some (PyData.int xs.length)
    | _ => none) = _
  simp only [q]
@[simp] theorem truthD_bool {b : Bool} : truthD (.bool b) = some b := rfl
@[simp] theorem truthD_int {i : Int} : truthD (.int i) = some (i != 0) := rfl
@[simp] theorem truthD_none : truthD .none = some false := rfl
@[simp] theorem truthD_list {xs : List PyData} : truthD (.list xs) = some (!xs.isEmpty) := rfl
@[simp] theorem truthD_tup {xs : List PyData} : truthD (.tuple xs) = some (!xs.isEmpty) := rfl
@[simp] theorem ev_and : eAnd fa fb e m = (fa e m).bind fun r => (truth r.2 r.1).bind fun t => if t = true then fb e r.2 else some r := by
  unfold eAnd
  rcases fa e m with _ | ⟨a, m1⟩
  · rfl
  · show _ = (truth m1 a).bind fun t => if t = true then fb e m1 else some (a, m1)
    simp only []
    rcases truth m1 a with _ | _ | _ <;> rfl
@[simp] theorem ev_or : eOr fa fb e m = (fa e m).bind fun r => (truth r.2 r.1).bind fun t => if t = true then some r else fb e r.2 := by
  unfold eOr
  rcases fa e m with _ | ⟨a, m1⟩
  · rfl
  · show _ = (truth m1 a).bind fun t => if t = true then some (a, m1) else fb e m1
    simp only []
    rcases truth m1 a with _ | _ | _ <;> rfl
@[simp] theorem ev_not : eNot fa e m = (fa e m).bind fun r => (truth r.2 r.1).map fun b => (.d (.bool (!b)), r.2) := by
  unfold eNot
  rcases fa e m with _ | ⟨a, m1⟩ <;> rfl
@[simp] theorem ev_ite : eIte fc fa fb e m = (fc e m).bind fun r => (truth r.2 r.1).bind fun t => if t = true then fa e r.2 else fb e r.2 := by
  unfold eIte
  rcases fc e m with _ | ⟨a, m1⟩
  · rfl
  · show _ = (truth m1 a).bind fun t => if t = true then fa e m1 else fb e m1
    simp only []
    rcases truth m1 a with _ | _ | _ <;> rfl
def boolOf : Option PyData → Option Bool
  | some (.bool b) => some b
  | _ => none
@[simp] theorem boolOf_b {b : Bool} : boolOf (some (.bool b)) = some b := rfl
@[simp] theorem ev_chain : eChain g h fa fb fc e m = (fa e m).bind fun a => (fb e a.2).bind fun b => (rdD b.2 a.1).bind fun x => (rdD b.2 b.1).bind fun y => (boolOf (g x y)).bind fun t =>
    if t = true then (fc e b.2).bind fun c => (rdD c.2 b.1).bind fun y' => (rdD c.2 c.1).bind fun z => (h y' z).map fun w => (.d w, c.2) else some (.d (.bool false), b.2) := by
  unfold eChain
  rcases fa e m with _ | ⟨a, m1⟩
  · rfl
  simp only [Option.bind_some]
  rcases fb e m1 with _ | ⟨b, m2⟩
  · rfl
  simp only [Option.bind_some]
  rcases rdD m2 a with _ | x
  · rfl
  rcases rdD m2 b with _ | y
  · rfl
  simp only [Option.bind_some]
  rcases g x y with _ | w
  · rfl
  cases w with
  | bool t =>
    cases t with
    | false => rfl
    | true =>
      simp only [boolOf, Option.bind_some, if_pos]
      rcases fc e m2 with _ | ⟨c, m3⟩
      · rfl
      simp only [Option.bind_some]
      rcases rdD m3 b with _ | y' <;> rcases rdD m3 c with _ | z <;> rfl
  | _ => rfl
@[simp] theorem isNoneV_d {x : PyData} : isNoneV (.d x) = isNoneB x := by cases x <;> rfl
@[simp] theorem isNoneV_tr {p : List PyData} {k : Nat} : isNoneV (.tr p k) = false := rfl
@[simp] theorem isNoneB_none : isNoneB .none = true := rfl
@[simp] theorem isNoneB_int {i : Int} : isNoneB (.int i) = false := rfl
@[simp] theorem isNoneB_tup {xs : List PyData} : isNoneB (.tuple xs) = false := rfl
@[simp] theorem isNoneB_list {xs : List PyData} : isNoneB (.list xs) = false := rfl
@[simp] theorem isNoneB_str {x : Str} : isNoneB (.str x) = false := rfl
@[simp] theorem isNoneB_bool {x : Bool} : isNoneB (.bool x) = false := rfl
@[simp] theorem ev_isN {n : Bool} : eIsN n fa e m = (fa e m).map fun a => (.d (.bool (isNoneV a.1 != n)), a.2) := by
  unfold eIsN; rcases fa e m with _ | ⟨a, m1⟩ <;> rfl
@[simp] theorem ev_ix {fi : EM} : eIx fa fi e m = (fa e m).bind fun a => (fi e a.2).bind fun i => (ixV i.2 a.1 i.1).map fun v => (v, i.2) := by
  unfold eIx
  rcases fa e m with _ | ⟨a, m1⟩
  · rfl
  · simp only [Option.bind_some]
    rcases fi e m1 with _ | ⟨b, m2⟩ <;> rfl
@[simp] theorem ixV_dd {x y : PyData} : ixV m (.d x) (.d y) = (ixD x y).map .d := rfl
@[simp] theorem ixV_ref {k : Nat} {j : Int} {xs : List LV} (q : m[k]? = some (.lst xs)) : ixV m (.ref k) (.d (.int j)) = (ixPos xs.length j).bind fun p => xs[p]? := by unfold ixV; simp only [q]
@[simp] theorem ixV_tr {p : List PyData} {k : Nat} {j : Int} : ixV m (.tr p k) (.d (.int j)) = (ixPos (p.length + 1) j).bind fun i => (p.map LV.d ++ [.ref k])[i]? := rfl
@[simp] theorem ixD_list {xs : List PyData} {i : Int} : ixD (.list xs) (.int i) = (ixPos xs.length i).bind fun j => xs[j]? := rfl
@[simp] theorem ixD_tup {xs : List PyData} {i : Int} : ixD (.tuple xs) (.int i) = (ixPos xs.length i).bind fun j => xs[j]? := rfl
theorem ixPos_nat {n k : Nat} (q : k < n) : ixPos n (k : Int) = some k := by
  unfold ixPos
  rw [if_pos (by omega), if_pos (by omega)]; rfl
theorem ixPos_of {n : Nat} {i : Int} (h0 : 0 ≤ i) (h1 : i < n) : ixPos n i = some i.toNat := by
  unfold ixPos
  rw [if_pos h0, if_pos h1]
theorem ixPos_neg {n : Nat} {i : Int} (h0 : i < 0) (h1 : -(n : Int) ≤ i) : ixPos n i = some (i + n).toNat := by
  unfold ixPos
  rw [if_neg (by omega), if_pos h1]
@[simp] theorem evo_none : evalO none e m = some (none, m) := rfl
/-- a whole number -/
def intV : LV → Option Int
  | .d (.int i) => some i
  | _ => none
@[simp] theorem intV_i {i : Int} : intV (.d (.int i)) = some i := rfl
@[simp] theorem evo_some {f : EM} : evalO (some f) e m = (f e m).bind fun a => (intV a.1).map fun i => (some i, a.2) := by
  show (match f e m with
    | some (.d (.int i), m1) => some (some i, m1)
    | _ => none) = _
  rcases f e m with _ | ⟨a, m1⟩
  · rfl
  · cases a with
    | d x => cases x <;> rfl
    | _ => rfl
@[simp] theorem ev_sl {lo hi : Option EM} : eSl fa lo hi e m = (fa e m).bind fun a => (evalO lo e a.2).bind fun l => (evalO hi e l.2).bind fun h => (rdS h.2 a.1).bind fun x => (slD l.1 h.1 x).map fun z => (.d z, h.2) := by
  unfold eSl
  rcases fa e m with _ | ⟨a, m1⟩
  · rfl
  simp only [Option.bind_some]
  rcases evalO lo e m1 with _ | ⟨l, m2⟩
  · rfl
  simp only [Option.bind_some]
  rcases evalO hi e m2 with _ | ⟨h, m3⟩
  · rfl
  simp only [Option.bind_some]
  cases rdS m3 a <;> rfl
@[simp] theorem slD_list {lo hi : Option Int} {xs : List PyData} : slD lo hi (.list xs) = some (.list (slPart xs lo hi)) := rfl
@[simp] theorem slD_tup {lo hi : Option Int} {xs : List PyData} : slD lo hi (.tuple xs) = some (.tuple (slPart xs lo hi)) := rfl
@[simp] theorem ev_bi {b : BF} : eBi b fs e m = (evalL fs e m).bind fun a => (rdAll a.2 a.1).bind fun xs => (b xs).map fun z => (.d z, a.2) := by
  unfold eBi
  rcases evalL fs e m with _ | ⟨a, m1⟩
  · rfl
  · simp only [Option.bind_some]
    cases rdAll m1 a <;> rfl
@[simp] theorem ev_isi {T : String} : eIsi T fa e m = (fa e m).bind fun a => (rdD a.2 a.1).map fun x => (.d (.bool (isType T x)), a.2) := by
  unfold eIsi
  rcases fa e m with _ | ⟨a, m1⟩
  · rfl
  · simp only [Option.bind_some]
    cases rdD m1 a <;> rfl
@[simp] theorem ev_lst {l : LM} : eLst l e m = (l e m).bind fun a => (allD a.1).map fun xs => (.d (.list xs), a.2) := by
  unfold eLst; rcases l e m with _ | ⟨a, m1⟩ <;> rfl
@[simp] theorem ev_new {l : LM} : eNew l e m = (l e m).map fun a => (.ref a.2.length, a.2 ++ [.lst a.1]) := by
  unfold eNew; rcases l e m with _ | ⟨a, m1⟩ <;> rfl
@[simp] theorem ev_disp : lDisp fs e m = evalL fs e m := rfl
@[simp] theorem ev_lof {f : EM} : lOf f e m = (f e m).bind fun a => (itemsOf a.2 a.1).map fun xs => (xs, a.2) := by
  unfold lOf; rcases f e m with _ | ⟨a, m1⟩ <;> rfl
@[simp] theorem items_list {xs : List PyData} : itemsOf m (.d (.list xs)) = some (xs.map .d) := rfl
@[simp] theorem items_tup {xs : List PyData} : itemsOf m (.d (.tuple xs)) = some (xs.map .d) := rfl
@[simp] theorem items_ro {xs : List PyData} : itemsOf m (.ro xs) = some (xs.map .d) := rfl
@[simp] theorem items_ref {k : Nat} {xs : List LV} (q : m[k]? = some (.lst xs)) : itemsOf m (.ref k) = some xs := by unfold itemsOf; simp only [q]
def revV (m : Sto) : LV → Option (List LV)
  | .d (.list xs) => some (xs.reverse.map .d)
  | .ref k => match m[k]? with
    | some (.lst xs) => some xs.reverse
    | _ => none
  | _ => none
@[simp] theorem revV_l {xs : List PyData} : revV m (.d (.list xs)) = some (xs.reverse.map .d) := rfl
@[simp] theorem revV_r {k : Nat} {xs : List LV} (q : m[k]? = some (.lst xs)) : revV m (.ref k) = some xs.reverse := by unfold revV; simp only [q]
@[simp] theorem ev_lrev {f : EM} : lRev f e m = (f e m).bind fun a => (revV a.2 a.1).map fun xs => (xs, a.2) := by
  unfold lRev
  rcases f e m with _ | ⟨a, m1⟩
  · rfl
  · cases a with
    | d x => cases x <;> rfl
    | ref k =>
      simp only [Option.bind_some, revV]
      rcases m1[k]? with _ | _ | _ <;> rfl
    | _ => rfl
@[simp] theorem ev_lrng {f : IM} : lRng f e m = match f e m with
  | some (.items xs, m1) => some (xs, m1)
  | _ => none := rfl
@[simp] theorem ev_lrep {l : LM} {fn : EM} : lRep l fn e m = (l e m).bind fun a => (fn e a.2).bind fun b => (intV b.1).bind fun k => if a.1.length * k.toNat ≤ LINE ∧ rngOk k = true then some ((List.replicate k.toNat a.1).flatten, b.2) else none := by
  unfold lRep
  rcases l e m with _ | ⟨a, m1⟩
  · rfl
  · simp only [Option.bind_some]
    rcases fn e m1 with _ | ⟨b, m2⟩
    · rfl
    · cases b with
      | d x => cases x <;> rfl
      | _ => rfl
@[simp] theorem line_v : LINE = 1000000 := rfl
@[simp] theorem sealF_s {F : Fn} : sealF F = F := sealF_eq F
/-! data -/
@[simp] theorem addD_ii {i j : Int} : addD (.int i) (.int j) = some (.int (i + j)) := rfl
@[simp] theorem subD_ii {i j : Int} : subD (.int i) (.int j) = some (.int (i - j)) := rfl
@[simp] theorem addD_ll {x y : List PyData} : addD (.list x) (.list y) = if x.length + y.length ≤ LINE then some (.list (x ++ y)) else none := rfl
@[simp] theorem addD_tt {x y : List PyData} : addD (.tuple x) (.tuple y) = if x.length + y.length ≤ LINE then some (.tuple (x ++ y)) else none := rfl
@[simp] theorem mulD_ii {i j : Int} : mulD (.int i) (.int j) = if mulFits i j then some (.int (i * j)) else none := rfl
@[simp] theorem fdivD_ii {i j : Int} : fdivD (.int i) (.int j) = if 0 < j ∧ j.natAbs.log2 < 9000 then some (.int (i / j)) else none := rfl
@[simp] theorem modD_ii {i j : Int} : modD (.int i) (.int j) = if 0 < j then some (.int (i % j)) else none := rfl

@[simp] theorem ltD_ii {i j : Int} : ltD (.int i) (.int j) = some (.bool (decide (i < j))) := rfl
@[simp] theorem leD_ii {i j : Int} : leD (.int i) (.int j) = some (.bool (decide (i ≤ j))) := rfl
@[simp] theorem gtD_ii {i j : Int} : gtD (.int i) (.int j) = some (.bool (decide (j < i))) := rfl
@[simp] theorem geD_ii {i j : Int} : geD (.int i) (.int j) = some (.bool (decide (j ≤ i))) := rfl
@[simp] theorem negD_i {i : Int} : negD (.int i) = some (.int (-i)) := rfl
@[simp] theorem revD_l {x : List PyData} : revD (.list x) = some (.list x.reverse) := rfl
@[simp] theorem revD_t {x : List PyData} : revD (.tuple x) = some (.tuple x.reverse) := rfl
@[simp] theorem bLen_l {x : List PyData} : bLen [.list x] = some (.int x.length) := rfl
@[simp] theorem bLen_t {x : List PyData} : bLen [.tuple x] = some (.int x.length) := rfl
@[simp] theorem bTuple_l {x : List PyData} : bTuple [.list x] = some (.tuple x) := rfl
@[simp] theorem bTuple_t {x : List PyData} : bTuple [.tuple x] = some (.tuple x) := rfl
@[simp] theorem bInt_i {i : Int} : bInt [.int i] = some (.int i) := rfl
@[simp] theorem bInt_b {b : Bool} : bInt [.bool b] = some (.int (if b then 1 else 0)) := rfl
@[simp] theorem bAbs_i {i : Int} : bAbs [.int i] = some (.int (if i < 0 then -i else i)) := rfl
@[simp] theorem bMax_ii {i j : Int} : bMax [.int i, .int j] = some (.int (if j > i then j else i)) := rfl
@[simp] theorem bMin_ii {i j : Int} : bMin [.int i, .int j] = some (.int (if j < i then j else i)) := rfl
@[simp] theorem bMax_iii {a : Int} {r : List Int} : bMax [.list (.int a :: r.map .int)] = some (.int (maxI a r)) := by
  show (match intsOf ((a :: r).map .int) with
    | some (a :: r) => some (PyData.int (maxI a r))
    | _ => maxL _) = _
  have : ∀ l : List Int, intsOf (l.map .int) = some l := by
    intro l
    induction l with
    | nil => rfl
    | cons i r ih => rw [List.map_cons]; unfold intsOf; rw [ih]; rfl
  rw [this]
@[simp] theorem bMin_iii {a : Int} {r : List Int} : bMin [.list (.int a :: r.map .int)] = some (.int (minI a r)) := by
  show (match intsOf ((a :: r).map .int) with
    | some (a :: r) => some (PyData.int (minI a r))
    | _ => minL _) = _
  have : ∀ l : List Int, intsOf (l.map .int) = some l := by
    intro l
    induction l with
    | nil => rfl
    | cons i r ih => rw [List.map_cons]; unfold intsOf; rw [ih]; rfl
  rw [this]
@[simp] theorem isi_tuple_t {x : List PyData} : isType "tuple" (.tuple x) = true := rfl
@[simp] theorem isi_int_i {i : Int} : isType "int" (.int i) = true := rfl
@[simp] theorem isi_bool_i {i : Int} : isType "bool" (.int i) = false := rfl
@[simp] theorem isi_str_s {x : Str} : isType "str" (.str x) = true := rfl
theorem intsOf_map : ∀ l : List Int, intsOf (l.map .int) = some l
  | [] => rfl
  | i :: r => by rw [List.map_cons]; unfold intsOf; rw [intsOf_map r]; rfl
theorem boolsOf_map : ∀ l : List Bool, boolsOf (l.map .bool) = some l
  | [] => rfl
  | i :: r => by rw [List.map_cons]; unfold boolsOf; rw [boolsOf_map r]; rfl
theorem bAll_map {α : Type} {f : α → Bool} (l : List α) : bAll [.list (l.map fun x => .bool (f x))] = some (.bool (l.all f)) := by
  have e : (l.map fun x => PyData.bool (f x)) = (l.map f).map .bool := by rw [List.map_map]; rfl
  rw [e]
  show (boolsOf ((l.map f).map .bool)).map (fun bs => PyData.bool (bs.all id)) = _
  rw [boolsOf_map]
  show some (PyData.bool ((l.map f).all id)) = _
  rw [List.all_map]; rfl
/-! statements -/
@[simp] theorem st_pass : sPass e m = some (.nx e m) := rfl
@[simp] theorem st_brk : sBrk e m = some (.bk e m) := rfl
@[simp] theorem st_cnt : sCnt e m = some (.ct e m) := rfl
@[simp] theorem st_never : sNever e m = none := rfl
/-- what comes behind -/
def seqK (r : Option Out) (b : SM) : Option Out := match r with
  | some (.nx e1 m1) => b e1 m1
  | r => r
@[simp] theorem st_seq {a b : SM} : sSeq a b e m = seqK (a e m) b := rfl
@[simp] theorem sk_nx {b : SM} : seqK (some (.nx e m)) b = b e m := rfl
@[simp] theorem sk_rt {b : SM} {v : LV} : seqK (some (.rt v m)) b = some (.rt v m) := rfl
@[simp] theorem sk_bk {b : SM} : seqK (some (.bk e m)) b = some (.bk e m) := rfl
@[simp] theorem sk_ct {b : SM} : seqK (some (.ct e m)) b = some (.ct e m) := rfl
@[simp] theorem sk_no {b : SM} : seqK none b = none := rfl
@[simp] theorem sk_ite {p : Prop} [Decidable p] {x y : Option Out} {b : SM} : seqK (if p then x else y) b = if p then seqK x b else seqK y b := by split <;> rfl
@[simp] theorem sk_map {α : Type} {o : Option α} {f : α → Out} {b : SM} : seqK (o.map f) b = o.bind fun x => seqK (some (f x)) b := by cases o <;> rfl
@[simp] theorem st_asg {t : TM} {f : EM} : sAsg t f e m = (f e m).bind fun a => (t a.1 e a.2).map fun r => .nx r.1 r.2 := by
  unfold sAsg; rcases f e m with _ | ⟨a, m1⟩ <;> rfl
@[simp] theorem st_par {ts : List TM} : sPar ts fs e m = (evalL fs e m).bind fun a => (toAll ts a.1 e a.2).map fun r => .nx r.1 r.2 := by
  unfold sPar; rcases evalL fs e m with _ | ⟨a, m1⟩ <;> rfl
@[simp] theorem st_aug {i : Nat} {f : EM} {x : PyData} (q : e[i]? = some (some (.d x))) : sAug i g f e m = match f e m with
  | some (.d y, m1) => (g x y).map fun z => .nx (e.set i (some (.d z))) m1
  | _ => none := by
  unfold sAug
  simp only [q]
  cases f e m with
  | none => rfl
  | some r =>
    obtain ⟨w, m1⟩ := r
    cases w <;> rfl
@[simp] theorem st_drop {f : EM} : sDrop f e m = (f e m).map fun r => .nx e r.2 := rfl
/-- a list that may change: its place, its items -/
def lstV (m : Sto) : LV → Option (Nat × List LV)
  | .ref k => match m[k]? with
    | some (.lst xs) => some (k, xs)
    | _ => none
  | _ => none
@[simp] theorem lstV_r {k : Nat} {xs : List LV} (q : m[k]? = some (.lst xs)) : lstV m (.ref k) = some (k, xs) := by unfold lstV; simp only [q]
@[simp] theorem st_app {fo fv : EM} : sApp fo fv e m = (fo e m).bind fun a => (lstV a.2 a.1).bind fun l => (fv e a.2).bind fun v => (lstV v.2 (.ref l.1)).bind fun l2 => if l2.2.length ≤ LINE then some (.nx e (v.2.set l.1 (.lst (l2.2 ++ [v.1])))) else none := by
  unfold sApp
  rcases fo e m with _ | ⟨a, m1⟩
  · rfl
  cases a with
  | ref k =>
    simp only [Option.bind_some, lstV]
    rcases m1[k]? with _ | _ | xs | _
    · rfl
    · rfl
    rotate_left
    · rfl
    simp only [Option.bind_some]
    rcases fv e m1 with _ | ⟨v, m2⟩
    · rfl
    simp only [Option.bind_some]
    rcases m2[k]? with _ | _ | ys | _ <;> rfl
  | _ => rfl
@[simp] theorem st_ext {fo fv : EM} : sExt fo fv e m = (fo e m).bind fun a => (lstV a.2 a.1).bind fun l => (fv e a.2).bind fun v => (lstV v.2 (.ref l.1)).bind fun l2 => (listOf v.2 v.1).bind fun ys => if l2.2.length + ys.length ≤ LINE then some (.nx e (v.2.set l.1 (.lst (l2.2 ++ ys)))) else none := by
  unfold sExt
  rcases fo e m with _ | ⟨a, m1⟩
  · rfl
  cases a with
  | ref k =>
    simp only [Option.bind_some, lstV]
    rcases m1[k]? with _ | _ | xs | _
    · rfl
    · rfl
    rotate_left
    · rfl
    simp only [Option.bind_some]
    rcases fv e m1 with _ | ⟨v, m2⟩
    · rfl
    simp only [Option.bind_some]
    rcases m2[k]? with _ | _ | ys | _
    · rfl
    · rfl
    rotate_left
    · rfl
    simp only [Option.bind_some]
    cases listOf m2 v <;> rfl
  | _ => rfl
@[simp] theorem listOf_d {xs : List PyData} : listOf m (.d (.list xs)) = some (xs.map .d) := rfl
@[simp] theorem listOf_ref {k : Nat} {xs : List LV} (q : m[k]? = some (.lst xs)) : listOf m (.ref k) = some xs := by unfold listOf; simp only [q]
@[simp] theorem st_if {a b : SM} : sIf fc a b e m = (fc e m).bind fun r => (truth r.2 r.1).bind fun t => if t = true then a e r.2 else b e r.2 := by
  unfold sIf
  rcases fc e m with _ | ⟨v, m1⟩
  · rfl
  · simp only [Option.bind_some]
    rcases truth m1 v with _ | _ | _ <;> rfl
@[simp] theorem st_ret {f : EM} : sRet f e m = (f e m).map fun r => .rt r.1 r.2 := rfl
@[simp] theorem st_retN : sRetN e m = some (.rt (.d .none) m) := rfl
@[simp] theorem tg_name {i : Nat} {v : LV} : tName i v e m = some (e.set i (some v), m) := rfl
@[simp] theorem tg_tup {ts : List TM} {xs : List PyData} : tTup ts (.d (.tuple xs)) e m = toAll ts (xs.map .d) e m := rfl
@[simp] theorem tg_lst {ts : List TM} {xs : List PyData} : tTup ts (.d (.list xs)) e m = toAll ts (xs.map .d) e m := rfl
@[simp] theorem tg_tr {ts : List TM} {pre : List PyData} {k : Nat} : tTup ts (.tr pre k) e m = toAll ts (pre.map .d ++ [.ref k]) e m := rfl
@[simp] theorem tg_ref {ts : List TM} {k : Nat} {xs : List LV} (q : m[k]? = some (.lst xs)) : tTup ts (.ref k) e m = toAll ts xs e m := by
  show (match m[k]? with
    | some (.lst xs) => toAll ts xs e m
    | _ => none) = _
  simp only [q]
@[simp] theorem ta_nil : toAll [] [] e m = some (e, m) := rfl
@[simp] theorem ta_cons {t : TM} {ts : List TM} {v : LV} {vs : List LV} : toAll (t :: ts) (v :: vs) e m = (t v e m).bind fun r => toAll ts vs r.1 r.2 := by
  show (match t v e m with
    | some (e1, m1) => toAll ts vs e1 m1
    | none => none) = _
  rcases t v e m with _ | ⟨a, m1⟩ <;> rfl
@[simp] theorem tg_sub {fo fi : EM} {v : LV} : tSub fo fi v e m = (fo e m).bind fun o => (fi e o.2).bind fun i => (setItem i.2 o.1 i.1 v).map fun m3 => (e, m3) := by
  unfold tSub
  rcases fo e m with _ | ⟨a, m1⟩
  · rfl
  · simp only [Option.bind_some]
    rcases fi e m1 with _ | ⟨b, m2⟩ <;> rfl
@[simp] theorem setItem_dk {k : Nat} {j : Int} {v : LV} {kvs : List (L2.Key × LV)} (q : m[k]? = some (.dct kvs)) : setItem m (.ref k) (.d (.int j)) v = if kvs.length < LINE then some (m.set k (.dct (storK kvs (.inl j) v))) else none := by unfold setItem; simp only [q]
@[simp] theorem ixV_dk {k : Nat} {j : Int} {kvs : List (L2.Key × LV)} (q : m[k]? = some (.dct kvs)) : ixV m (.ref k) (.d (.int j)) = lookK kvs (.inl j) := by unfold ixV; simp only [q]
@[simp] theorem setItem_ds {k : Nat} {j : Str} {v : LV} {kvs : List (L2.Key × LV)} (q : m[k]? = some (.dct kvs)) : setItem m (.ref k) (.d (.str j)) v = if kvs.length < LINE then some (m.set k (.dct (storK kvs (.inr j) v))) else none := by unfold setItem; simp only [q]
@[simp] theorem ixV_ds {k : Nat} {j : Str} {kvs : List (L2.Key × LV)} (q : m[k]? = some (.dct kvs)) : ixV m (.ref k) (.d (.str j)) = lookK kvs (.inr j) := by unfold ixV; simp only [q]
/-- is the key there -/
def inKV (m : Sto) : LV → LV → Option Bool
  | .d x, .ref k => match m[k]? with
    | some (.dct kvs) => (keyD x).map fun y => (lookK kvs y).isSome
    | _ => none
  | _, _ => none
@[simp] theorem inKV_r {k : Nat} {x : PyData} {kvs : List (L2.Key × LV)} (q : m[k]? = some (.dct kvs)) : inKV m (.d x) (.ref k) = (keyD x).map fun y => (lookK kvs y).isSome := by unfold inKV; simp only [q]
@[simp] theorem keyD_i {i : Int} : keyD (.int i) = some (.inl i) := rfl
@[simp] theorem keyD_s {i : Str} : keyD (.str i) = some (.inr i) := rfl
@[simp] theorem ev_inK {neg : Bool} : eInK neg fa fb e m = (fa e m).bind fun a => (fb e a.2).bind fun b => (inKV b.2 a.1 b.1).map fun r => (.d (.bool (r != neg)), b.2) := by
  unfold eInK
  rcases fa e m with _ | ⟨a, m1⟩
  · rfl
  simp only [Option.bind_some]
  cases a with
  | d x =>
    simp only
    rcases fb e m1 with _ | ⟨b, m2⟩
    · rfl
    simp only [Option.bind_some]
    cases b with
    | ref k =>
      simp only [inKV]
      rcases m2[k]? with _ | _ | _ | kvs
      · rfl
      · rfl
      · rfl
      simp only
      cases keyD x <;> rfl
    | _ => rfl
  | _ =>
    rcases fb e m1 with _ | ⟨b, m2⟩
    · rfl
    · cases b <;> rfl
def keyV : LV → Option L2.Key
  | .d x => keyD x
  | _ => none
@[simp] theorem keyV_d {x : PyData} : keyV (.d x) = keyD x := rfl
@[simp] theorem evk_nil : evalK [] e m = some ([], m) := rfl
@[simp] theorem evk_cons {fk fv : EM} {r : List (EM × EM)} : evalK ((fk, fv) :: r) e m = (fk e m).bind fun a => (keyV a.1).bind fun k => (fv e a.2).bind fun v => (evalK r e v.2).map fun t => ((k, v.1) :: t.1, t.2) := by
  show (match fk e m with
    | some (.d x, m1) => match keyD x with
      | some k => match fv e m1 with
        | some (v, m2) => match evalK r e m2 with
          | some (kvs, m3) => some ((k, v) :: kvs, m3)
          | none => none
        | none => none
      | none => none
    | _ => none) = _
  rcases fk e m with _ | ⟨a, m1⟩
  · rfl
  cases a with
  | d x =>
    simp only [Option.bind_some, keyV]
    rcases keyD x with _ | k
    · rfl
    simp only [Option.bind_some]
    rcases fv e m1 with _ | ⟨v, m2⟩
    · rfl
    simp only [Option.bind_some]
    rcases evalK r e m2 with _ | ⟨t, m3⟩ <;> rfl
  | _ => rfl
@[simp] theorem ev_dct {ps : List (EM × EM)} : eDct ps e m = (evalK ps e m).map fun t => (.ref t.2.length, t.2 ++ [.dct (fillK [] t.1)]) := by
  unfold eDct
  rcases evalK ps e m with _ | ⟨t, m1⟩ <;> rfl
theorem lookK_stor {α : Type} (k j : L2.Key) (y : α) : ∀ kvs : List (L2.Key × α), lookK (storK kvs k y) j = if j = k then some y else lookK kvs j := by
  intro kvs
  have rep : ∀ kvs : List (L2.Key × α), lookK (kvs.map fun kv => if kv.1 = k then (kv.1, y) else kv) j = if j = k then (lookK kvs j).map fun _ => y else lookK kvs j := by
    intro kvs
    induction kvs with
    | nil => by_cases e : j = k <;> simp [lookK, e]
    | cons p r ih =>
      obtain ⟨q, v⟩ := p
      unfold lookK at ih ⊢
      simp only [List.map_cons, List.find?_cons]
      by_cases e1 : q = k
      · subst e1
        by_cases e2 : q = j
        · subst e2; simp
        · simp only [if_true, e2, decide_false]; exact ih
      · rw [if_neg e1]
        by_cases e2 : q = j
        · subst e2; simp [e1]
        · simp only [e2, decide_false]; exact ih
  have none_of : ∀ kvs : List (L2.Key × α), (kvs.any fun kv => decide (kv.1 = k)) = (lookK kvs k).isSome := by
    intro kvs
    induction kvs with
    | nil => rfl
    | cons p r ih =>
      unfold lookK at ih ⊢
      simp only [List.any_cons, List.find?_cons]
      by_cases e : p.1 = k
      · simp [e]
      · simp only [e, decide_false, Bool.false_or]; exact ih
  have app : ∀ kvs : List (L2.Key × α), lookK kvs k = none → lookK (kvs ++ [(k, y)]) j = if j = k then some y else lookK kvs j := by
    intro kvs
    induction kvs with
    | nil =>
      intro _
      unfold lookK
      by_cases e : j = k
      · subst e; simp
      · have : ¬ k = j := fun z => e z.symm
        simp [e, this]
    | cons p r ih =>
      intro h
      unfold lookK at ih h ⊢
      simp only [List.cons_append, List.find?_cons] at h ⊢
      by_cases e : p.1 = k
      · simp [e] at h
      · simp only [e, decide_false] at h
        by_cases e2 : p.1 = j
        · have : ¬ j = k := fun z => e (e2.trans z)
          simp [e2, this]
        · simp only [e2, decide_false]; exact ih h
  unfold storK
  by_cases c : (kvs.any fun kv => decide (kv.1 = k)) = true
  · rw [if_pos c, rep]
    by_cases e : j = k
    · subst e
      rw [none_of] at c
      obtain ⟨v, hv⟩ := Option.isSome_iff_exists.mp c
      rw [if_pos rfl, if_pos rfl, hv]; rfl
    · rw [if_neg e, if_neg e]
  · rw [if_neg c]
    refine app kvs ?_
    rw [none_of] at c
    exact Option.not_isSome_iff_eq_none.mp c
theorem length_stor {α : Type} (k : L2.Key) (y : α) (kvs : List (L2.Key × α)) : (storK kvs k y).length ≤ kvs.length + 1 := by
  unfold storK
  split
  · rw [List.length_map]; omega
  · rw [List.length_append]; exact Nat.le_refl _
@[simp] theorem setItem_ev {k : Nat} {j : Int} {v : LV} {xs : List LV} (q : m[k]? = some (.lst xs)) : setItem m (.ref k) (.d (.int j)) v = (ixPos xs.length j).map fun p => m.set k (.lst (xs.set p v)) := by unfold setItem; simp only [q]
@[simp] theorem wipe_nil : wipeE e [] = e := rfl
@[simp] theorem wipe_cons {i : Nat} {r : List Nat} : wipeE e (i :: r) = (wipeE e r).set i none := rfl
/-! calls -/
@[simp] theorem ev_call {F : Fn} : eCall F fs e m = (evalL fs e m).bind fun a => callF F a.1 a.2 := by
  unfold eCall; rcases evalL fs e m with _ | ⟨a, m1⟩ <;> rfl
@[simp] theorem refs_nil : refsOf [] = [] := rfl
@[simp] theorem refs_d {x : PyData} {r : List LV} : refsOf (.d x :: r) = refsOf r := rfl
@[simp] theorem refs_ro {x : List PyData} {r : List LV} : refsOf (.ro x :: r) = refsOf r := rfl
@[simp] theorem refs_ref {k : Nat} {r : List LV} : refsOf (.ref k :: r) = k :: refsOf r := rfl
@[simp] theorem ren_nil {n : Nat} : renum n [] = [] := rfl
@[simp] theorem ren_d {n : Nat} {x : PyData} {r : List LV} : renum n (.d x :: r) = .d x :: renum n r := rfl
@[simp] theorem ren_ro {n : Nat} {x : List PyData} {r : List LV} : renum n (.ro x :: r) = .ro x :: renum n r := rfl
@[simp] theorem ren_ref {n k : Nat} {r : List LV} : renum n (.ref k :: r) = .ref n :: renum (n + 1) r := rfl
@[simp] theorem plain_d {x : PyData} : plainArg (.d x) = true := rfl
@[simp] theorem plain_ro {x : List PyData} : plainArg (.ro x) = true := rfl
@[simp] theorem plain_ref {k : Nat} : plainArg (.ref k) = true := rfl
@[simp] theorem fcs_nil : flatCells m [] = some [] := rfl
@[simp] theorem fcs_cons {k : Nat} {r : List Nat} : flatCells m (k :: r) = (flatCell m k).bind fun c => (flatCells m r).map (c :: ·) := by
  show (match flatCell m k with
    | some c => (flatCells m r).map (c :: ·)
    | none => none) = _
  cases flatCell m k <;> rfl
@[simp] theorem fc_ev {k : Nat} {xs : List LV} (q : m[k]? = some (.lst xs)) : flatCell m k = allD xs := by unfold flatCell; simp only [q]
@[simp] theorem put_nil {cs : List (List PyData)} : putBack m [] cs = m := by cases cs <;> rfl
@[simp] theorem put_nil' {ks : List Nat} : putBack m ks [] = m := by cases ks <;> rfl
@[simp] theorem put_cons {k : Nat} {ks : List Nat} {c : List PyData} {cs : List (List PyData)} : putBack m (k :: ks) (c :: cs) = putBack (m.set k (.lst (c.map .d))) ks cs := rfl
@[simp] theorem call_ev {F : Fn} {vs : List LV} : callF F vs m = if vs.all plainArg = true ∧ (refsOf vs).Nodup then (flatCells m (refsOf vs)).bind fun cs => (F (renum 0 vs) cs).bind fun r => backF m (refsOf vs) cs.length r.1 r.2 else none := by
  unfold callF
  split
  · rcases flatCells m (refsOf vs) with _ | cs
    · rfl
    · simp only [Option.bind_some]
      rcases F (renum 0 vs) cs with _ | ⟨a, b⟩ <;> rfl
  · rfl
@[simp] theorem back_d {ks : List Nat} {n : Nat} {x : PyData} {cs' : List (List PyData)} : backF m ks n (.d x) cs' = if cs'.length = n then some (.d x, putBack m ks cs') else none := rfl
@[simp] theorem back_ref {ks : List Nat} {n k : Nat} {cs' : List (List PyData)} : backF m ks n (.ref k) cs' = if k = n ∧ cs'.length = n + 1 then (cs'[n]?).map fun c => (.ref m.length, putBack m ks (cs'.take n) ++ [.lst (c.map .d)]) else none := by
  show (if k = n ∧ cs'.length = n + 1 then match cs'[n]? with
      | some c => some (LV.ref m.length, putBack m ks (cs'.take n) ++ [.lst (c.map .d)])
      | none => none
    else none) = _
  split
  · cases cs'[n]? <;> rfl
  · rfl
@[simp] theorem back_tr {ks : List Nat} {n k : Nat} {pre : List PyData} {cs' : List (List PyData)} : backF m ks n (.tr pre k) cs' = if k = n ∧ cs'.length = n + 1 then (cs'[n]?).map fun c => (.tr pre m.length, putBack m ks (cs'.take n) ++ [.lst (c.map .d)]) else none := by
  show (if k = n ∧ cs'.length = n + 1 then match cs'[n]? with
      | some c => some (LV.tr pre m.length, putBack m ks (cs'.take n) ++ [.lst (c.map .d)])
      | none => none
    else none) = _
  split
  · cases cs'[n]? <;> rfl
  · rfl
@[simp] theorem fb_zero : flatBack 0 m = some [] := by unfold flatBack; rfl
@[simp] theorem fb_succ {n : Nat} {xs : List LV} {r : Sto} : flatBack (n + 1) (.lst xs :: r) = (allD xs).bind fun c => (flatBack n r).map (c :: ·) := by
  show (match allD xs with
    | some c => (flatBack n r).map (c :: ·)
    | none => none) = _
  cases allD xs <;> rfl
@[simp] theorem map_ite {α β : Type} {p : Prop} [Decidable p] {x y : Option α} {f : α → β} : (if p then x else y).map f = if p then x.map f else y.map f := by split <;> rfl
@[simp] theorem bind_ite {α β : Type} {p : Prop} [Decidable p] {x y : Option α} {f : α → Option β} : (if p then x else y).bind f = if p then x.bind f else y.bind f := by split <;> rfl
@[simp] theorem an_ite {p : Prop} [Decidable p] {x y : Option Out} {k : Nat} : answer k (if p then x else y) = if p then answer k x else answer k y := by split <;> rfl
@[simp] theorem an_no {k : Nat} : answer k none = none := rfl
@[simp] theorem an_d {k : Nat} {x : PyData} : answer k (some (.rt (.d x) m)) = (flatBack k m).map fun cs => (.d x, cs) := rfl
@[simp] theorem an_nx {k : Nat} : answer k (some (.nx e m)) = (flatBack k m).map fun cs => (.d .none, cs) := rfl
@[simp] theorem an_ref {k j : Nat} : answer k (some (.rt (.ref j) m)) = if k ≤ j then (flatBack k m).bind fun cs => (flatCell m j).map fun c => (.ref k, cs ++ [c]) else none := by
  show (if k ≤ j then match flatBack k m, flatCell m j with
      | some cs, some c => some (LV.ref k, cs ++ [c])
      | _, _ => none
    else none) = _
  split
  · cases flatBack k m <;> cases flatCell m j <;> rfl
  · rfl
@[simp] theorem an_tr {k j : Nat} {pre : List PyData} : answer k (some (.rt (.tr pre j) m)) = if k ≤ j then (flatBack k m).bind fun cs => (flatCell m j).map fun c => (.tr pre k, cs ++ [c]) else none := by
  show (if k ≤ j then match flatBack k m, flatCell m j with
      | some cs, some c => some (LV.tr pre k, cs ++ [c])
      | _, _ => none
    else none) = _
  split
  · cases flatBack k m <;> cases flatCell m j <;> rfl
  · rfl
end
end Gg

end
section
/-! GData: equal data, indexes, slices. -/
namespace Gg
open PySem

/-- data without True, False and dicts, not too deep -/
def gd : Nat → PyData → Bool
  | 0, _ => false
  | _ + 1, .none => true
  | _ + 1, .bool _ => false
  | _ + 1, .int _ => true
  | _ + 1, .str s => PyData.strOk s
  | n + 1, .list xs => xs.all (gd n)
  | n + 1, .tuple xs => xs.all (gd n)
  | _ + 1, .dict _ => false
theorem gd_plain : ∀ (n : Nat) (x : PyData), gd n x = true → plainD n x = true
  | 0, _, h => by cases h
  | n + 1, .none, _ => rfl
  | n + 1, .bool _, _ => rfl
  | n + 1, .int _, _ => rfl
  | n + 1, .str s, h => h
  | n + 1, .list xs, h => by
    have h : xs.all (gd n) = true := h
    show xs.all (plainD n) = true
    rw [List.all_eq_true] at h ⊢
    exact fun x hx => gd_plain n x (h x hx)
  | n + 1, .tuple xs, h => by
    have h : xs.all (gd n) = true := h
    show xs.all (plainD n) = true
    rw [List.all_eq_true] at h ⊢
    exact fun x hx => gd_plain n x (h x hx)
  | n + 1, .dict _, h => by cases h
theorem gd_mono : ∀ (n : Nat) (x : PyData) (k : Nat), n ≤ k → gd n x = true → gd k x = true
  | 0, _, _, _, h => by cases h
  | n + 1, x, 0, hk, _ => by omega
  | n + 1, x, k + 1, hk, h => by
    cases x with
    | list xs =>
      have h : xs.all (gd n) = true := h
      show xs.all (gd k) = true
      rw [List.all_eq_true] at h ⊢
      exact fun x hx => gd_mono n x k (by omega) (h x hx)
    | tuple xs =>
      have h : xs.all (gd n) = true := h
      show xs.all (gd k) = true
      rw [List.all_eq_true] at h ⊢
      exact fun x hx => gd_mono n x k (by omega) (h x hx)
    | none => rfl
    | bool _ => cases h
    | int _ => rfl
    | str s => exact h
    | dict _ => cases h
mutual
theorem eqv_iff : ∀ (n : Nat) (x y : PyData), gd n x = true → gd n y = true → (PyData.eqv x y = true ↔ x = y)
  | 0, _, _, h, _ => by cases h
  | n + 1, x, y, hx, hy => by
    cases x <;> cases y <;> first | (cases hx; done) | (cases hy; done) | skip
    all_goals try (simp [PyData.eqv]; done)
    · rename_i xs ys
      have hx : xs.all (gd n) = true := hx
      have hy : ys.all (gd n) = true := hy
      rw [List.all_eq_true] at hx hy
      have := eqvAll_iff n xs ys hx hy
      simp only [PyData.eqv, this, PyData.list.injEq]
    · rename_i xs ys
      have hx : xs.all (gd n) = true := hx
      have hy : ys.all (gd n) = true := hy
      rw [List.all_eq_true] at hx hy
      have := eqvAll_iff n xs ys hx hy
      simp only [PyData.eqv, this, PyData.tuple.injEq]
theorem eqvAll_iff : ∀ (n : Nat) (xs ys : List PyData), (∀ x ∈ xs, gd n x = true) → (∀ y ∈ ys, gd n y = true) → (PyData.eqvAll xs ys = true ↔ xs = ys)
  | n, [], [], _, _ => by simp [PyData.eqvAll]
  | n, [], _ :: _, _, _ => by simp [PyData.eqvAll]
  | n, _ :: _, [], _, _ => by simp [PyData.eqvAll]
  | n, x :: xs, y :: ys, hx, hy => by
    have h1 := eqv_iff n x y (hx x List.mem_cons_self) (hy y List.mem_cons_self)
    have h2 := eqvAll_iff n xs ys (fun z hz => hx z (List.mem_cons_of_mem _ hz)) (fun z hz => hy z (List.mem_cons_of_mem _ hz))
    simp only [PyData.eqvAll, Bool.and_eq_true, h1, h2, List.cons.injEq]
end
theorem eqB_of {x y : PyData} {p : Prop} [Decidable p] (hx : gd DEEP x = true) (hy : gd DEEP y = true) (h : x = y ↔ p) : eqB x y = some (decide p) := by
  have hv := eqv_iff _ x y hx hy
  unfold eqB
  split
  · rename_i r hr
    unfold strsB at hr
    split at hr
    · rename_i s t
      cases hr
      congr 1
      rw [Bool.eq_iff_iff, decide_eq_true_eq, decide_eq_true_eq, ← h]
      simp
    · cases hr
  · rw [gd_plain _ _ hx, gd_plain _ _ hy]
    simp only [Bool.and_self, if_true]
    congr 1
    rw [Bool.eq_iff_iff, hv, h, decide_eq_true_eq]
theorem eqB_ss {i j : Str} : eqB (.str i) (.str j) = some (decide (i = j)) := rfl
theorem eqD_same {x : PyData} (h : gd DEEP x = true) : eqD x x = some (.bool true) := by
  unfold eqD
  rw [eqB_of (p := True) h h ⟨fun _ => trivial, fun _ => rfl⟩]; rfl
theorem neD_same {x : PyData} (h : gd DEEP x = true) : neD x x = some (.bool false) := by
  unfold neD
  rw [eqB_of (p := True) h h ⟨fun _ => trivial, fun _ => rfl⟩]; rfl
theorem eqD_diff {x y : PyData} (hx : gd DEEP x = true) (hy : gd DEEP y = true) (h : x ≠ y) : eqD x y = some (.bool false) := by
  unfold eqD
  rw [eqB_of (p := False) hx hy ⟨h, False.elim⟩]; rfl
theorem neD_diff {x y : PyData} (hx : gd DEEP x = true) (hy : gd DEEP y = true) (h : x ≠ y) : neD x y = some (.bool true) := by
  unfold neD
  rw [eqB_of (p := False) hx hy ⟨h, False.elim⟩]; rfl
/-- two texts -/
theorem eqD_txt {i : Str} : eqD (.str i) (.str i) = some (.bool true) := by
  unfold eqD; rw [eqB_ss, decide_eq_true rfl]; rfl
theorem eqD_dec {x y : PyData} {p : Prop} [Decidable p] (hx : gd DEEP x = true) (hy : gd DEEP y = true) (h : x = y ↔ p) : eqD x y = some (.bool (decide p)) := by
  by_cases q : p
  · rw [h.mpr q, eqD_same hy, decide_eq_true q]
  · rw [eqD_diff hx hy (fun z => q (h.mp z)), decide_eq_false q]
theorem neD_dec {x y : PyData} {p : Prop} [Decidable p] (hx : gd DEEP x = true) (hy : gd DEEP y = true) (h : x = y ↔ p) : neD x y = some (.bool (!decide p)) := by
  by_cases q : p
  · rw [h.mpr q, neD_same hy, decide_eq_true q]; rfl
  · rw [neD_diff hx hy (fun z => q (h.mp z)), decide_eq_false q]; rfl
@[simp] theorem eqD_ii {i j : Int} : eqD (.int i) (.int j) = some (.bool (decide (i = j))) := eqD_dec rfl rfl (by simp)
@[simp] theorem neD_ii {i j : Int} : neD (.int i) (.int j) = some (.bool (!decide (i = j))) := neD_dec rfl rfl (by simp)
theorem eqD_ss {i j : Str} (h : PyData.strOk i = true) (h2 : PyData.strOk j = true) : eqD (.str i) (.str j) = some (.bool (decide (i = j))) := eqD_dec h h2 (by simp)
theorem neD_ss {i j : Str} (h : PyData.strOk i = true) (h2 : PyData.strOk j = true) : neD (.str i) (.str j) = some (.bool (!decide (i = j))) := neD_dec h h2 (by simp)
@[simp] theorem eqD_bb {i j : Bool} : eqD (.bool i) (.bool j) = some (.bool (i == j)) := rfl
@[simp] theorem neD_bb {i j : Bool} : neD (.bool i) (.bool j) = some (.bool (!(i == j))) := rfl
@[simp] theorem gd_int {n : Nat} {i : Int} : gd (n + 1) (.int i) = true := rfl
@[simp] theorem gd_none {n : Nat} : gd (n + 1) .none = true := rfl
@[simp] theorem gd_tup {n : Nat} {xs : List PyData} : gd (n + 1) (.tuple xs) = xs.all (gd n) := rfl
@[simp] theorem gd_list {n : Nat} {xs : List PyData} : gd (n + 1) (.list xs) = xs.all (gd n) := rfl
@[simp] theorem gd_deep {x : PyData} : gd DEEP x = gd (59 + 1) x := rfl
@[simp] theorem gd_59 {x : PyData} : gd 59 x = gd (58 + 1) x := rfl
@[simp] theorem gd_58 {x : PyData} : gd 58 x = gd (57 + 1) x := rfl
@[simp] theorem gd_57 {x : PyData} : gd 57 x = gd (56 + 1) x := rfl
theorem inB_list {x : PyData} {ys : List PyData} (hx : gd 59 x = true) (hy : ∀ y ∈ ys, gd 59 y = true) : inB x (.list ys) = some (ys.any fun z => PyData.eqv z x) := by
  have h1 : plainD DEEP x = true := gd_plain _ _ (gd_mono 59 x DEEP (by decide) hx)
  have h2 : plainD DEEP (.list ys) = true := gd_plain DEEP _ (by show ys.all (gd 59) = true; rw [List.all_eq_true]; exact hy)
  show (if (plainD DEEP x && plainD DEEP (.list ys)) = true then some (ys.any fun z => PyData.eqv z x) else none) = _
  rw [h1, h2]; rfl
theorem in_any {x : PyData} {ys : List PyData} (hx : gd 59 x = true) (hy : ∀ y ∈ ys, gd 59 y = true) : (ys.any fun z => PyData.eqv z x) = true ↔ x ∈ ys := by
  rw [List.any_eq_true]
  constructor
  · rintro ⟨z, hz, h⟩
    rw [← (eqv_iff 59 z x (hy z hz) hx).mp h]; exact hz
  · intro h
    exact ⟨x, h, (eqv_iff 59 x x hx hx).mpr rfl⟩
theorem inD_dec {x : PyData} {ys : List PyData} {p : Prop} [Decidable p] (hx : gd 59 x = true) (hy : ∀ y ∈ ys, gd 59 y = true) (h : x ∈ ys ↔ p) : inD x (.list ys) = some (.bool (decide p)) := by
  unfold inD
  rw [inB_list hx hy]
  have : (ys.any fun z => PyData.eqv z x) = decide p := by
    by_cases q : p
    · rw [decide_eq_true q, (in_any hx hy).mpr (h.mpr q)]
    · rw [decide_eq_false q]
      exact Bool.eq_false_iff.mpr fun z => q (h.mp ((in_any hx hy).mp z))
  rw [this]; rfl
theorem notInD_dec {x : PyData} {ys : List PyData} {p : Prop} [Decidable p] (hx : gd 59 x = true) (hy : ∀ y ∈ ys, gd 59 y = true) (h : x ∈ ys ↔ p) : notInD x (.list ys) = some (.bool (!decide p)) := by
  have := inD_dec hx hy h
  unfold inD at this
  unfold notInD
  cases q : inB x (.list ys) with
  | none => rw [q] at this; cases this
  | some b =>
    rw [q] at this
    have this : some (PyData.bool b) = some (.bool (decide p)) := this
    cases this; rfl
/-! indexes -/
@[simp] theorem ix_0 {n : Nat} : ixPos (n + 1) 0 = some 0 := ixPos_nat (k := 0) (by omega)
@[simp] theorem ix_1 {n : Nat} : ixPos (n + 2) 1 = some 1 := ixPos_nat (k := 1) (by omega)
@[simp] theorem ix_2 {n : Nat} : ixPos (n + 3) 2 = some 2 := ixPos_nat (k := 2) (by omega)
@[simp] theorem ix_3 {n : Nat} : ixPos (n + 4) 3 = some 3 := ixPos_nat (k := 3) (by omega)
@[simp] theorem ix_4 {n : Nat} : ixPos (n + 5) 4 = some 4 := ixPos_nat (k := 4) (by omega)
@[simp] theorem ix_5 {n : Nat} : ixPos (n + 6) 5 = some 5 := ixPos_nat (k := 5) (by omega)
@[simp] theorem ix_m1 {n : Nat} : ixPos (n + 1) (-1) = some n := by
  rw [ixPos_neg (by omega) (by omega)]; congr 1; omega
/-! slices -/
theorem slPos_nat {n d k : Nat} : slPos n d (some (k : Int)) = min k n := by
  show (if (k : Int) < 0 then ((k : Int) + (n : Int)).toNat else min (k : Int).toNat n) = min k n
  rw [if_neg (by omega)]; rfl
theorem sl_from {α : Type} {xs : List α} {k : Nat} : slPart xs (some (k : Int)) none = xs.drop k := by
  unfold slPart
  rw [slPos_nat]
  show List.take (xs.length - min k xs.length) (xs.drop (min k xs.length)) = _
  by_cases h : k ≤ xs.length
  · rw [Nat.min_eq_left h]
    exact List.take_of_length_le (by rw [List.length_drop]; omega)
  · rw [Nat.min_eq_right (by omega), List.drop_length, List.drop_of_length_le (by omega)]; simp
theorem sl_to {α : Type} {xs : List α} {k : Nat} : slPart xs none (some (k : Int)) = xs.take k := by
  unfold slPart
  rw [slPos_nat]
  show List.take (min k xs.length - 0) (xs.drop 0) = _
  rw [List.drop_zero, Nat.sub_zero]
  by_cases h : k ≤ xs.length
  · rw [Nat.min_eq_left h]
  · rw [Nat.min_eq_right (by omega), List.take_length, List.take_of_length_le (by omega)]
theorem sl_mid {α : Type} {xs : List α} {i k : Nat} (h : k ≤ xs.length) : slPart xs (some (i : Int)) (some (k : Int)) = (xs.drop i).take (k - i) := by
  unfold slPart
  rw [slPos_nat, slPos_nat, Nat.min_eq_left h]
  by_cases hi : i ≤ xs.length
  · rw [Nat.min_eq_left hi]
  · rw [Nat.min_eq_right (by omega), List.drop_length, List.drop_of_length_le (by omega)]; simp
@[simp] theorem sl_from0 {α : Type} {xs : List α} : slPart xs (some 0) none = xs := by
  have := sl_from (xs := xs) (k := 0); simpa using this
@[simp] theorem sl_from1 {α : Type} {x : α} {xs : List α} : slPart (x :: xs) (some 1) none = xs := by
  have := sl_from (xs := x :: xs) (k := 1); simpa using this
theorem sl_from_of {α : Type} {xs : List α} {i : Int} (h : 0 ≤ i) : slPart xs (some i) none = xs.drop i.toNat := by
  obtain ⟨k, rfl⟩ := Int.eq_ofNat_of_zero_le h; exact sl_from
theorem sl_to_of {α : Type} {xs : List α} {i : Int} (h : 0 ≤ i) : slPart xs none (some i) = xs.take i.toNat := by
  obtain ⟨k, rfl⟩ := Int.eq_ofNat_of_zero_le h; exact sl_to
theorem allD_of {α : Type} {f : α → PyData} : ∀ l : List α, allD (l.map fun x => LV.d (f x)) = some (l.map f)
  | [] => rfl
  | x :: l => by rw [List.map_cons, allD_d, allD_of l]; rfl
@[simp] theorem allD_fun {α : Type} {f : α → PyData} (l : List α) : allD (l.map fun x => LV.d (f x)) = some (l.map f) := allD_of l
@[simp] theorem allD_comp {α : Type} {f : α → PyData} (l : List α) : allD (l.map (LV.d ∘ f)) = some (l.map f) := allD_of l
@[simp] theorem allD_fun_rev {α : Type} {f : α → PyData} (l : List α) : allD (l.map fun x => LV.d (f x)).reverse = some (l.map f).reverse := by rw [← List.map_reverse, allD_of, List.map_reverse]
@[simp] theorem allD_comp_rev {α : Type} {f : α → PyData} (l : List α) : allD (l.map (LV.d ∘ f)).reverse = some (l.map f).reverse := allD_fun_rev l
@[simp] theorem allD_comp2 {α β : Type} {f : α → PyData} {g : β → α} (l : List β) : allD (l.map ((LV.d ∘ f) ∘ g)) = some (l.map (f ∘ g)) := allD_of l
@[simp] theorem allD_comp2_rev {α β : Type} {f : α → PyData} {g : β → α} (l : List β) : allD (l.map ((LV.d ∘ f) ∘ g)).reverse = some (l.map (f ∘ g)).reverse := allD_fun_rev l
@[simp] theorem allD_app_d {α : Type} {f : α → PyData} (l : List α) (r : List LV) : allD (l.map (LV.d ∘ f) ++ r) = (allD r).map (l.map f ++ ·) := by
  induction l with
  | nil => simp
  | cons x l ih => simp only [List.map_cons, List.cons_append, Function.comp, allD_d]; rw [ih]; cases allD r <;> rfl
/-! ## loops -/
theorem forItems_cons {body : LV → SM} {x : LV} {xs : List LV} {e : Env} {m : Sto} : forItems body (x :: xs) e m = match body x e m with
    | some (.nx e1 m1) => forItems body xs e1 m1
    | some (.ct e1 m1) => forItems body xs e1 m1
    | some (.bk e1 m1) => some (.nx e1 m1)
    | some (.rt v m1) => some (.rt v m1)
    | none => none := rfl
/-- a loop over items: I holds ahead of each turn -/
theorem for_inv {body : LV → SM} {Q : Out → Prop} (I : Nat → Env → Sto → Prop) {xs : List LV} {e : Env} {m : Sto} (h0 : I 0 e m)
    (step : ∀ (i : Nat) (x : LV) (e : Env) (m : Sto), xs[i]? = some x → I i e m → ∃ o, body x e m = some o ∧ (match o with
      | .nx e1 m1 => I (i + 1) e1 m1
      | .ct e1 m1 => I (i + 1) e1 m1
      | .bk e1 m1 => Q (.nx e1 m1)
      | .rt v m1 => Q (.rt v m1)))
    (fin : ∀ (e : Env) (m : Sto), I xs.length e m → Q (.nx e m)) : ∃ o, forItems body xs e m = some o ∧ Q o := by
  suffices H : ∀ (ys : List LV) (i : Nat) (e : Env) (m : Sto), ys = xs.drop i → i ≤ xs.length → I i e m → ∃ o, forItems body ys e m = some o ∧ Q o from H xs 0 e m (by simp) (by omega) h0
  intro ys
  induction ys with
  | nil =>
    intro i e m h1 h2 h3
    have : i = xs.length := by
      have := congrArg List.length h1
      rw [List.length_drop, List.length_nil] at this; omega
    subst this
    exact ⟨_, rfl, fin e m h3⟩
  | cons y ys ih =>
    intro i e m h1 h2 h3
    have hi : i < xs.length := by
      have := congrArg List.length h1
      rw [List.length_drop, List.length_cons] at this; omega
    rw [List.drop_eq_getElem_cons hi] at h1
    injection h1 with h1 h4
    obtain ⟨o, ho, hq⟩ := step i y e m (by rw [List.getElem?_eq_getElem hi, h1]) h3
    rw [forItems_cons, ho]
    cases o with
    | nx e1 m1 => exact ih (i + 1) e1 m1 h4 (by omega) hq
    | ct e1 m1 => exact ih (i + 1) e1 m1 h4 (by omega) hq
    | bk e1 m1 => exact ⟨_, rfl, hq⟩
    | rt v m1 => exact ⟨_, rfl, hq⟩
/-- a list made of items, nothing else touched -/
theorem comp_pure {f : LV → Env → Sto → Option (Option LV × Sto)} {α : Type} {g : α → LV} {k : α → Option LV} {e : Env} {m : Sto} : ∀ (l : List α), (∀ x ∈ l, f (g x) e m = some (k x, m)) → compItems f (l.map g) e m = some (l.filterMap k, m)
  | [], _ => rfl
  | x :: l, h => by
    have hx := h x List.mem_cons_self
    have ih := comp_pure l fun y hy => h y (List.mem_cons_of_mem _ hy)
    rw [List.map_cons]
    unfold compItems
    rw [hx]
    cases hk : k x with
    | none => simp [hk, ih, List.filterMap_cons]
    | some y => simp [hk, ih, List.filterMap_cons]
end Gg

end
section
/-! GRun: rules for loops and new lists; the drawing of numbers. -/
namespace Gg
open PySem

theorem map_typed {α : Type} {g : α → LV} {P : α → Prop} : ∀ {ys : List LV}, (∀ y ∈ ys, ∃ a, y = g a ∧ P a) → ∃ l : List α, ys = l.map g ∧ ∀ a ∈ l, P a
  | [], _ => ⟨[], rfl, fun _ h => by cases h⟩
  | y :: ys, h => by
    obtain ⟨a, rfl, ha⟩ := h y List.mem_cons_self
    obtain ⟨l, rfl, hl⟩ := map_typed (ys := ys) fun z hz => h z (List.mem_cons_of_mem _ hz)
    exact ⟨a :: l, rfl, fun b hb => by
      rcases List.mem_cons.mp hb with e | hb
      · rw [e]; exact ha
      · exact hl b hb⟩
/-- a list made item by item while the store changes -/
theorem comp_inv {f : LV → Env → Sto → Option (Option LV × Sto)} {α : Type} {g : α → LV} {P : α → Prop} {e : Env} (I : Nat → Sto → Prop) : ∀ (xs : List LV) (i : Nat) (m : Sto), I i m →
    (∀ x ∈ xs, ∀ (j : Nat) (m : Sto), i ≤ j → j < i + xs.length → I j m → ∃ a m', f x e m = some (some (g a), m') ∧ P a ∧ I (j + 1) m') →
    ∃ (l : List α) (m' : Sto), compItems f xs e m = some (l.map g, m') ∧ l.length = xs.length ∧ (∀ a ∈ l, P a) ∧ I (i + xs.length) m'
  | [], i, m, h0, _ => ⟨[], m, rfl, rfl, (fun _ h => by cases h), h0⟩
  | x :: xs, i, m, h0, h => by
    obtain ⟨a, m1, h1, hp, hi⟩ := h x List.mem_cons_self i m (Nat.le_refl _) (by rw [List.length_cons]; omega) h0
    obtain ⟨l, m2, h2, hl, hq, hj⟩ := comp_inv I xs (i + 1) m1 hi fun z hz j m a1 a2 => h z (List.mem_cons_of_mem _ hz) j m (by omega) (by rw [List.length_cons]; omega)
    refine ⟨a :: l, m2, ?_, by rw [List.length_cons, List.length_cons, hl], fun b hb => ?_, by rw [List.length_cons]; have : i + 1 + xs.length = i + (xs.length + 1) := by omega
                                                                                               rw [← this]; exact hj⟩
    · unfold compItems
      rw [h1]
      simp [h2]
    · rcases List.mem_cons.mp hb with e | hb
      · rw [e]; exact hp
      · exact hq b hb
@[simp] theorem ev_comp {fe : EM} {t : TM} {it : IM} {ifs : List EM} {own : List Nat} {e : Env} {m : Sto} : lComp fe t it ifs own e m = (it e m).bind fun r => compOver (compOne fe t ifs own) r.1 e r.2 := by
  unfold lComp; rcases it e m with _ | ⟨a, m1⟩ <;> rfl
@[simp] theorem over_items {f : LV → Env → Sto → Option (Option LV × Sto)} {xs : List LV} {e : Env} {m : Sto} : compOver f (.items xs) e m = if xs.length ≤ LINE then compItems f xs e m else none := rfl
/-- a turn of a new list -/
theorem one_plain {fe : EM} {t : TM} {own : List Nat} {x : LV} {e : Env} {m : Sto} : compOne fe t [] own x e m = (t x (wipeE e own) m).bind fun r => (fe r.1 r.2).map fun q => (some q.1, q.2) := by
  unfold compOne
  rcases t x (wipeE e own) m with _ | ⟨a, m1⟩ <;> rfl
theorem one_test {fe f : EM} {t : TM} {own : List Nat} {x : LV} {e : Env} {m : Sto} : compOne fe t [f] own x e m = (t x (wipeE e own) m).bind fun r => (f r.1 r.2).bind fun a => (truth a.2 a.1).bind fun b => if b = true then (fe r.1 a.2).map fun q => (some q.1, q.2) else some (none, a.2) := by
  unfold compOne
  rcases t x (wipeE e own) m with _ | ⟨e1, m1⟩
  · rfl
  cases hf : f e1 m1 with
  | none => simp only [tests, hf, Option.bind_some, Option.bind_none]
  | some r =>
    obtain ⟨a, m2⟩ := r
    cases ht : truth m2 a with
    | none => simp only [tests, hf, ht, Option.bind_some, Option.bind_none, Option.map_none]
    | some b => cases b <;> simp [tests, hf, ht]
/-! what is walked -/
/-- the items of what stands in a value -/
def seqV (m : Sto) : LV → Option Itm
  | .d (.list xs) => some (.items (xs.map .d))
  | .d (.tuple xs) => some (.items (xs.map .d))
  | .ref k => match m[k]? with
    | some (.lst _) => some (.cell k)
    | _ => none
  | .ro xs => some (.items (xs.map .d))
  | _ => none
@[simp] theorem seqV_l {m : Sto} {xs : List PyData} : seqV m (.d (.list xs)) = some (.items (xs.map .d)) := rfl
@[simp] theorem seqV_t {m : Sto} {xs : List PyData} : seqV m (.d (.tuple xs)) = some (.items (xs.map .d)) := rfl
@[simp] theorem seqV_ro {m : Sto} {xs : List PyData} : seqV m (.ro xs) = some (.items (xs.map .d)) := rfl
@[simp] theorem seqV_r {m : Sto} {k : Nat} {xs : List LV} (q : m[k]? = some (.lst xs)) : seqV m (.ref k) = some (.cell k) := by unfold seqV; simp only [q]
@[simp] theorem it_seq {f : EM} {e : Env} {m : Sto} : iSeq f e m = (f e m).bind fun a => (seqV a.2 a.1).map fun i => (i, a.2) := by
  unfold iSeq
  rcases f e m with _ | ⟨a, m1⟩
  · rfl
  · cases a with
    | d x => cases x <;> rfl
    | ref k =>
      simp only [Option.bind_some, seqV]
      rcases m1[k]? with _ | _ | _ <;> rfl
    | _ => rfl
theorem rng1 {f : EM} {e : Env} {m m1 : Sto} {j : Int} (h : f e m = some (.d (.int j), m1)) (hj : -1000000 ≤ j ∧ j ≤ 1000000) : iRange [f] e m = some (.items (upTo 0 j.toNat), m1) := by
  unfold iRange
  simp [h, rng_of hj]
theorem rng2 {f g : EM} {e : Env} {m m1 m2 : Sto} {i j : Int} (h : f e m = some (.d (.int i), m1)) (h2 : g e m1 = some (.d (.int j), m2)) (hi : -1000000 ≤ i ∧ i ≤ 1000000) (hj : -1000000 ≤ j ∧ j ≤ 1000000) : iRange [f, g] e m = some (.items (upTo i (j - i).toNat), m2) := by
  unfold iRange
  simp [h, h2, rng_of hj, rng_of hi]
theorem rng3 {f g k : EM} {e : Env} {m m1 m2 m3 : Sto} {i j : Int} (h : f e m = some (.d (.int i), m1)) (h2 : g e m1 = some (.d (.int j), m2)) (h3 : k e m2 = some (.d (.int (-1)), m3)) (hi : -1000000 ≤ i ∧ i ≤ 1000000) (hj : -1000000 ≤ j ∧ j ≤ 1000000) : iRange [f, g, k] e m = some (.items (downFrom i (i - j).toNat), m3) := by
  unfold iRange
  simp [h, h2, h3, rng_of hj, rng_of hi]
@[simp] theorem upTo_len {lo : Int} {n : Nat} : (upTo lo n).length = n := by unfold upTo; simp
@[simp] theorem downFrom_len {lo : Int} {n : Nat} : (downFrom lo n).length = n := by unfold downFrom; simp
theorem upTo_get {lo : Int} {n i : Nat} {x : LV} (h : (upTo lo n)[i]? = some x) : i < n ∧ x = .d (.int (lo + i)) := by
  unfold upTo at h
  rw [List.getElem?_map] at h
  by_cases hi : i < n
  · rw [List.getElem?_range hi] at h
    cases h; exact ⟨hi, rfl⟩
  · rw [List.getElem?_eq_none (by simpa using hi)] at h; cases h
theorem downFrom_get {lo : Int} {n i : Nat} {x : LV} (h : (downFrom lo n)[i]? = some x) : i < n ∧ x = .d (.int (lo - i)) := by
  unfold downFrom at h
  rw [List.getElem?_map] at h
  by_cases hi : i < n
  · rw [List.getElem?_range hi] at h
    cases h
    refine ⟨hi, ?_⟩
    have : lo + (i : Int) * (-1) = lo - i := by omega
    show LV.d (PyData.int (lo + (i : Int) * (-1))) = _
    rw [this]
  · rw [List.getElem?_eq_none (by simpa using hi)] at h; cases h
theorem upTo_mem {lo : Int} {n : Nat} {x : LV} (h : x ∈ upTo lo n) : ∃ i : Nat, i < n ∧ x = .d (.int (lo + i)) := by
  obtain ⟨i, hi⟩ := List.getElem?_of_mem h
  obtain ⟨h1, h2⟩ := upTo_get hi
  exact ⟨i, h1, h2⟩
@[simp] theorem st_for {t : TM} {it : IM} {b : SM} {e : Env} {m : Sto} : sFor t it b e m = (it e m).bind fun r => forOver (forBody t b) r.1 e r.2 := by
  unfold sFor; rcases it e m with _ | ⟨a, m1⟩ <;> rfl
@[simp] theorem forOver_items {body : LV → SM} {xs : List LV} {e : Env} {m : Sto} : forOver body (.items xs) e m = forItems body xs e m := rfl
@[simp] theorem forBody_ev {t : TM} {b : SM} {x : LV} {e : Env} {m : Sto} : forBody t b x e m = (t x e m).bind fun r => b r.1 r.2 := by
  unfold forBody; rcases t x e m with _ | ⟨a, m1⟩ <;> rfl
def enumV : LV → Option (List LV)
  | .d (.list xs) => some (enumFrom 0 xs)
  | .d (.tuple xs) => some (enumFrom 0 xs)
  | _ => none
@[simp] theorem enumV_l {xs : List PyData} : enumV (.d (.list xs)) = some (enumFrom 0 xs) := rfl
@[simp] theorem enumV_t {xs : List PyData} : enumV (.d (.tuple xs)) = some (enumFrom 0 xs) := rfl
@[simp] theorem it_enum {f : EM} {e : Env} {m : Sto} : iEnum f e m = (f e m).bind fun a => (enumV a.1).map fun i => (.items i, a.2) := by
  unfold iEnum
  rcases f e m with _ | ⟨a, m1⟩
  · rfl
  · cases a with
    | d x => cases x <;> rfl
    | _ => rfl
/-! while -/
theorem whileN_more {fc : EM} {b : SM} : ∀ {n k : Nat} {e : Env} {m : Sto} {o : Out}, whileN fc b n e m = some o → whileN fc b (n + k) e m = some o
  | 0, _, _, _, _, h => by cases h
  | n + 1, k, e, m, o, h => by
    rw [show n + 1 + k = (n + k) + 1 by omega]
    unfold whileN at h ⊢
    rcases hf : fc e m with _ | ⟨v, m1⟩
    · simp [hf] at h
    · simp only [hf] at h ⊢
      rcases ht : truth m1 v with _ | _ | _
      · simp [ht] at h
      · simp only [ht] at h ⊢; exact h
      · simp only [ht] at h ⊢
        rcases hb : b e m1 with _ | ob
        · simp [hb] at h
        · simp only [hb] at h ⊢
          cases ob with
          | nx e1 m2 => exact whileN_more h
          | ct e1 m2 => exact whileN_more h
          | bk e1 m2 => exact h
          | rt v m2 => exact h
theorem while_is {fc : EM} {b : SM} {n : Nat} {e : Env} {m : Sto} {o : Out} (h : whileN fc b n e m = some o) : sWhile fc b e m = some o := by
  unfold sWhile
  have hex : ∃ n o, whileN fc b n e m = some o := ⟨n, o, h⟩
  rw [dif_pos hex]
  obtain ⟨k, hk⟩ : ∃ k, whileN fc b k e m = some (Classical.choose (Classical.choose_spec hex)) := ⟨_, Classical.choose_spec (Classical.choose_spec hex)⟩
  have h1 := whileN_more (k := k) h
  have h2 := whileN_more (k := n) hk
  rw [Nat.add_comm] at h2
  rw [h1] at h2
  exact h2.symm
/-- I with so many turns left at most -/
theorem while_inv {fc : EM} {b : SM} {Q : Out → Prop} (I : Nat → Env → Sto → Prop) {n : Nat} {e : Env} {m : Sto} (h0 : I n e m)
    (step : ∀ (n : Nat) (e : Env) (m : Sto), I n e m → ∃ v m1 t, fc e m = some (v, m1) ∧ truth m1 v = some t ∧ (t = false → Q (.nx e m1)) ∧ (t = true → ∃ o, b e m1 = some o ∧ (match o with
      | .nx e1 m2 => ∃ k, k < n ∧ I k e1 m2
      | .ct e1 m2 => ∃ k, k < n ∧ I k e1 m2
      | .bk e1 m2 => Q (.nx e1 m2)
      | .rt v m2 => Q (.rt v m2)))) : ∃ o, sWhile fc b e m = some o ∧ Q o := by
  suffices H : ∀ (n : Nat) (e : Env) (m : Sto), I n e m → ∃ k o, whileN fc b k e m = some o ∧ Q o by
    obtain ⟨k, o, h1, h2⟩ := H n e m h0
    exact ⟨o, while_is h1, h2⟩
  intro n
  induction n using Nat.strongRecOn with
  | _ n ih =>
    intro e m hI
    obtain ⟨v, m1, t, h1, h2, h3, h4⟩ := step n e m hI
    cases t with
    | false => exact ⟨1, _, by simp only [whileN, h1, h2], h3 rfl⟩
    | true =>
      obtain ⟨o, ho, hq⟩ := h4 rfl
      cases o with
      | nx e1 m2 =>
        obtain ⟨k, hk, hI2⟩ := hq
        obtain ⟨j, o, g1, g2⟩ := ih k hk e1 m2 hI2
        exact ⟨j + 1, o, by simp only [whileN, h1, h2, ho]; exact g1, g2⟩
      | ct e1 m2 =>
        obtain ⟨k, hk, hI2⟩ := hq
        obtain ⟨j, o, g1, g2⟩ := ih k hk e1 m2 hI2
        exact ⟨j + 1, o, by simp only [whileN, h1, h2, ho]; exact g1, g2⟩
      | bk e1 m2 => exact ⟨1, _, by simp only [whileN, h1, h2, ho], hq⟩
      | rt v m2 => exact ⟨1, _, by simp only [whileN, h1, h2, ho], hq⟩
/-! freezing -/
theorem frzM_flat {f : Sto → LV → Option (PyData × Sto)} (hf : ∀ m x, f m (.d x) = some (x, m)) : ∀ {m : Sto} {xs : List LV} {ys : List PyData}, allD xs = some ys → frzM f m xs = some (ys, m)
  | m, [], ys, h => by cases h; rfl
  | m, .d x :: xs, ys, h => by
    rw [allD_d] at h
    cases q : allD xs with
    | none => rw [q] at h; cases h
    | some zs =>
      rw [q] at h; cases h
      simp only [frzM, hf, frzM_flat hf q]
  | m, .ref _ :: _, _, h => by cases h
  | m, .ro _ :: _, _, h => by cases h
  | m, .tr _ _ :: _, _, h => by cases h
theorem frzV_d : ∀ (n : Nat) (m : Sto) (x : PyData), frzV n m (.d x) = some (x, m)
  | 0, _, _ => rfl
  | _ + 1, _, _ => rfl
@[simp] theorem ev_frz_d {i : Nat} {e : Env} {m : Sto} {x : PyData} (q : e[i]? = some (some (.d x))) : eFrz i e m = some (.d x, m) := by
  unfold eFrz; simp only [q]; rw [frzV_d]; rfl
theorem ev_frz {i k : Nat} {e : Env} {m : Sto} {xs : List LV} {ys : List PyData} (q : e[i]? = some (some (.ref k))) (h : m[k]? = some (.lst xs)) (ha : allD xs = some ys) : eFrz i e m = some (.d (.list ys), m.set k .dead) := by
  unfold eFrz
  simp only [q]
  have : frzV FRZ m (.ref k) = some (.list ys, m.set k .dead) := by
    show (match m[k]? with
      | some (.lst xs) => match frzM (frzV 3) m xs with
        | some (ys, m1) => match m1[k]? with
          | some (.lst _) => some (PyData.list ys, m1.set k .dead)
          | _ => none
        | none => none
      | _ => none) = _
    simp only [h, frzM_flat (frzV_d 3) ha]
  rw [this]; rfl
end Gg

end
section
/-! GDraw: the state from which the laws draw their numbers. -/
namespace Gg
open PySem

theorem log2_lt_of {n k : Nat} (h : n < 2 ^ (k + 1)) : n.log2 ≤ k := by
  by_cases h0 : n = 0
  · subst h0; simp
  · have := (Nat.log2_lt h0).mpr h; omega
theorem mulFits_of {i j : Int} {a b : Nat} (hi : i.natAbs < 2 ^ (a + 1)) (hj : j.natAbs < 2 ^ (b + 1)) (h : a + b < 1000000) : mulFits i j := by
  unfold mulFits
  have h1 := log2_lt_of hi
  have h2 := log2_lt_of hj
  omega
/-- numbers below 2^62 -/
def sm (i : Int) : Prop := -4611686018427387904 < i ∧ i < 4611686018427387904
theorem sm_mul {i j : Int} (hi : sm i) (hj : sm j) : mulFits i j := by
  unfold sm at hi hj
  exact mulFits_of (a := 61) (b := 61) (by omega) (by omega) (by omega)
/-- the state's list -/
def stD (cs : List Int) (i b c d e : Int) : List PyData := [.list (cs.map .int), .int i, .int b, .int c, .int d, .int e]
/-- n more numbers may be drawn -/
structure Ok (n : Nat) (st : List PyData) : Prop where
  ex : ∃ (cs : List Int) (i b c d e : Int), st = stD cs i b c d e ∧ (∀ x ∈ cs, 0 ≤ x) ∧ 0 ≤ i ∧ 0 ≤ b ∧ 0 ≤ c ∧ c ≤ 60 ∧ 0 ≤ d ∧ d ≤ 2147483647 ∧ 0 ≤ e ∧ e + n ≤ 4000000000000000000
theorem Ok.mono {n k : Nat} {st : List PyData} (h : Ok n st) (hk : k ≤ n) : Ok k st := by
  obtain ⟨cs, i, b, c, d, e, h1, h2, h3, h4, h5, h6, h7, h8, h9, h10⟩ := h.ex
  exact ⟨cs, i, b, c, d, e, h1, h2, h3, h4, h5, h6, h7, h8, h9, by omega⟩
/-- what a def that draws numbers keeps: st one cell, at first and behind -/
def Draws (F : Fn) : Prop := ∀ (n : Nat) (st : List PyData) (many : Int), Ok (n + 1) st → 1 ≤ many → many < 1000000000000 → ∃ (r : Int) (st' : List PyData), F [.ref 0, .d (.int many)] [st] = some (.d (.int r), [st']) ∧ 0 ≤ r ∧ r < many ∧ Ok n st'
end Gg

end
section
/-! GTab: tables of whole numbers: a list of lists that may change. -/
namespace Gg
open PySem

def rowC (r : List Int) : Cell := .lst (r.map (LV.d ∘ PyData.int))
def tabS (R : List (List Int)) : Sto := R.map rowC ++ [.lst ((List.range R.length).map LV.ref)]
structure Sh (R : List (List Int)) (M n : Nat) : Prop where
  len : R.length = M
  row : ∀ r ∈ R, r.length = n
def tb (R : List (List Int)) (i j : Nat) : Int := (R.getD i []).getD j 0
def stb (R : List (List Int)) (i j : Nat) (v : Int) : List (List Int) := R.set i ((R.getD i []).set j v)
section
variable {R : List (List Int)} {M n i j : Nat} {e : Env}
theorem Sh.at (S : Sh R M n) (h : i < M) : ∃ r, R[i]? = some r ∧ r.length = n ∧ R.getD i [] = r := by
  have hl : i < R.length := by rw [S.len]; exact h
  exact ⟨R[i], List.getElem?_eq_getElem hl, S.row _ (List.getElem_mem hl), by simp [List.getD_eq_getElem?_getD, hl]⟩
theorem Sh.set (S : Sh R M n) (h : i < M) {v : Int} : Sh (stb R i j v) M n := by
  obtain ⟨r, h1, h2, h3⟩ := S.at h
  refine ⟨by unfold stb; rw [List.length_set]; exact S.len, fun q hq => ?_⟩
  unfold stb at hq
  rw [h3] at hq
  rcases List.mem_or_eq_of_mem_set hq with z | z
  · exact S.row q z
  · rw [z, List.length_set]; exact h2
theorem tb_set (S : Sh R M n) (h : i < M) (hj : j < n) {v : Int} (i' j' : Nat) : tb (stb R i j v) i' j' = if i' = i ∧ j' = j then v else tb R i' j' := by
  obtain ⟨r, h1, h2, h3⟩ := S.at h
  have hl : i < R.length := by rw [S.len]; exact h
  unfold tb stb
  rw [h3]
  by_cases e1 : i' = i
  · subst e1
    have g : ∀ q : List Int, (R.set i' q).getD i' [] = q := fun q => by rw [List.getD_eq_getElem?_getD, List.getElem?_set_self hl]; rfl
    rw [g]
    by_cases e2 : j' = j
    · subst e2
      rw [if_pos ⟨rfl, rfl⟩, List.getD_eq_getElem?_getD, List.getElem?_set_self (by omega)]; rfl
    · rw [if_neg (fun z => e2 z.2), List.getD_eq_getElem?_getD, List.getElem?_set_ne (Ne.symm e2), ← List.getD_eq_getElem?_getD, h3]
  · have g : ∀ q : List Int, (R.set i q).getD i' [] = R.getD i' [] := fun q => by rw [List.getD_eq_getElem?_getD, List.getElem?_set_ne (Ne.symm e1), ← List.getD_eq_getElem?_getD]
    rw [if_neg (fun z => e1 z.1), g]
theorem tab_out : (tabS R)[R.length]? = some (.lst ((List.range R.length).map LV.ref)) := by
  unfold tabS
  rw [List.getElem?_append_right (by simp)]; simp
theorem tab_row {r : List Int} (h : R[i]? = some r) : (tabS R)[i]? = some (rowC r) := by
  unfold tabS
  have hl := (List.getElem?_eq_some_iff.mp h).1
  rw [List.getElem?_append_left (by simpa using hl), List.getElem?_map, h]; rfl
theorem tab_put {r : List Int} (h : i < R.length) : (tabS R).set i (rowC r) = tabS (R.set i r) := by
  unfold tabS
  rw [List.set_append_left _ _ (by simpa using h), List.map_set, List.length_set]
theorem tab_ref {t : Nat} {fi : EM} {ii : Int} (S : Sh R M n) (ht : e[t]? = some (some (.ref M))) (hi : fi e (tabS R) = some (.d (.int ii), tabS R)) (ei : ii = (i : Int)) (h : i < M) : eIx (eVar t) fi e (tabS R) = some (.ref i, tabS R) := by
  subst ei
  have hl : i < R.length := by rw [S.len]; exact h
  have q : ixPos ((List.range R.length).map LV.ref).length (i : Int) = some i := ixPos_nat (by simpa using hl)
  rw [ev_ix, ev_var ht]
  simp only [Option.bind_some, hi]
  rw [← S.len, ixV_ref tab_out, q]
  simp [hl]
theorem tab_get {t : Nat} {fi fj : EM} {ii jj : Int} (S : Sh R M n) (ht : e[t]? = some (some (.ref M))) (hi : fi e (tabS R) = some (.d (.int ii), tabS R)) (hj : fj e (tabS R) = some (.d (.int jj), tabS R)) (ei : ii = (i : Int)) (ej : jj = (j : Int)) (h : i < M) (hn : j < n) :
    eIx (eIx (eVar t) fi) fj e (tabS R) = some (.d (.int (tb R i j)), tabS R) := by
  subst ej
  obtain ⟨r, h1, h2, h3⟩ := S.at h
  have q : ixPos (r.map (LV.d ∘ PyData.int)).length (j : Int) = some j := ixPos_nat (by simp; omega)
  rw [ev_ix, tab_ref S ht hi ei h]
  simp only [Option.bind_some, hj]
  rw [ixV_ref (tab_row h1), q]
  have : r[j]? = some (tb R i j) := by
    unfold tb
    rw [h3, List.getD_eq_getElem?_getD, List.getElem?_eq_getElem (by omega)]; rfl
  simp [this]
theorem tab_set {t : Nat} {fi fj : EM} {ii jj : Int} {v : Int} (S : Sh R M n) (ht : e[t]? = some (some (.ref M))) (hi : fi e (tabS R) = some (.d (.int ii), tabS R)) (hj : fj e (tabS R) = some (.d (.int jj), tabS R)) (ei : ii = (i : Int)) (ej : jj = (j : Int)) (h : i < M) (hn : j < n) :
    tSub (eIx (eVar t) fi) fj (.d (.int v)) e (tabS R) = some (e, tabS (stb R i j v)) := by
  subst ej
  obtain ⟨r, h1, h2, h3⟩ := S.at h
  have hl : i < R.length := by rw [S.len]; exact h
  have q : ixPos (r.map (LV.d ∘ PyData.int)).length (j : Int) = some j := ixPos_nat (by simp; omega)
  rw [tg_sub, tab_ref S ht hi ei h]
  simp only [Option.bind_some, hj]
  rw [setItem_ev (tab_row h1), q]
  simp only [Option.map_some]
  have : Cell.lst ((r.map (LV.d ∘ PyData.int)).set j (LV.d (.int v))) = rowC (r.set j v) := by
    unfold rowC; rw [List.map_set]; rfl
  rw [this, tab_put hl]
  unfold stb
  rw [h3]
/-! made -/
theorem rows_make {f : LV → Env → Sto → Option (Option LV × Sto)} {r : List Int} (hf : ∀ (x : LV) (m : Sto), f x e m = some (some (.ref m.length), m ++ [rowC r])) : ∀ (xs : List LV) (k : Nat), compItems f xs e (List.replicate k (rowC r)) = some ((List.range' k xs.length).map LV.ref, List.replicate (k + xs.length) (rowC r))
  | [], k => by simp [compItems]
  | x :: xs, k => by
    unfold compItems
    have h2 : List.replicate k (rowC r) ++ [rowC r] = List.replicate (k + 1) (rowC r) := by rw [List.replicate_succ']
    rw [hf, List.length_replicate, h2]
    simp only [rows_make hf xs (k + 1), Option.map_some]
    rw [List.length_cons, List.range'_succ, List.map_cons]
    congr 3
    omega
theorem sh_make : Sh (List.replicate M (List.replicate n (0 : Int))) M n := ⟨by simp, fun r hr => by rw [(List.mem_replicate.mp hr).2]; simp⟩
theorem tb_make (i j : Nat) : tb (List.replicate M (List.replicate n (0 : Int))) i j = 0 := by
  unfold tb
  simp only [List.getD_eq_getElem?_getD, List.getElem?_replicate]
  split
  · simp only [Option.getD_some, List.getElem?_replicate]
    split <;> rfl
  · rfl
theorem tab_make : List.replicate M (rowC (List.replicate n 0)) ++ [.lst ((List.range' 0 M).map LV.ref)] = tabS (List.replicate M (List.replicate n (0 : Int))) := by
  unfold tabS
  rw [List.map_replicate, List.length_replicate, List.range_eq_range']
/-! frozen -/
theorem frz_row {r : List Int} {m : Sto} {k : Nat} (h : m[k]? = some (rowC r)) : frzV 3 m (.ref k) = some (.list (r.map .int), m.set k .dead) := by
  show (match m[k]? with
    | some (.lst xs) => match frzM (frzV 2) m xs with
      | some (ys, m1) => match m1[k]? with
        | some (.lst _) => some (PyData.list ys, m1.set k .dead)
        | _ => none
      | none => none
    | _ => none) = _
  rw [h]
  unfold rowC
  have := frzM_flat (frzV_d 2) (m := m) (xs := r.map (LV.d ∘ PyData.int)) (ys := r.map .int) (allD_comp r)
  simp only [this]
  rw [h]; rfl
theorem frz_rows : ∀ {rs : List (List Int)} {k : Nat} {m : Sto}, (∀ i r, rs[i]? = some r → m[k + i]? = some (rowC r)) → ∃ m', frzM (frzV 3) m ((List.range' k rs.length).map LV.ref) = some (rs.map fun r => .list (r.map .int), m') ∧ ∀ j, k + rs.length ≤ j → m'[j]? = m[j]?
  | [], k, m, _ => ⟨m, rfl, fun _ _ => rfl⟩
  | r :: rs, k, m, h => by
    have h0 := h 0 r rfl
    obtain ⟨m', h1, h2⟩ := frz_rows (rs := rs) (k := k + 1) (m := m.set k .dead) fun i q hq => by
      have := h (i + 1) q (by simpa using hq)
      rw [List.getElem?_set_ne (by omega), show k + 1 + i = k + (i + 1) by omega]
      exact this
    refine ⟨m', ?_, fun j hj => ?_⟩
    · rw [List.length_cons, List.range'_succ, List.map_cons]
      unfold frzM
      rw [frz_row (by simpa using h0)]
      simp only [h1]
      rfl
    · rw [List.length_cons] at hj
      rw [h2 j (by omega), List.getElem?_set_ne (by omega)]
theorem frz_tab {t : Nat} (ht : e[t]? = some (some (.ref R.length))) : ∃ m', eFrz t e (tabS R) = some (.d (.list (R.map fun r => .list (r.map .int))), m') := by
  obtain ⟨m', h1, h2⟩ := frz_rows (rs := R) (k := 0) (m := tabS R) fun i r h => by rw [Nat.zero_add]; exact tab_row h
  refine ⟨m'.set R.length .dead, ?_⟩
  unfold eFrz
  simp only [ht]
  have h3 : m'[R.length]? = some (.lst ((List.range R.length).map LV.ref)) := by rw [h2 _ (by omega)]; exact tab_out
  have : frzV FRZ (tabS R) (.ref R.length) = some (.list (R.map fun r => .list (r.map .int)), m'.set R.length .dead) := by
    show (match (tabS R)[R.length]? with
      | some (.lst xs) => match frzM (frzV 3) (tabS R) xs with
        | some (ys, m1) => match m1[R.length]? with
          | some (.lst _) => some (PyData.list ys, m1.set R.length .dead)
          | _ => none
        | none => none
      | _ => none) = _
    rw [tab_out]
    simp only []
    rw [List.range_eq_range', h1]
    simp only [h3]
  rw [this]; rfl
end
end Gg

end
section
/-! GRepr: how long data are when they are shown. -/
namespace Gg
open PySem

/-- no text is longer -/
def szD : Nat → PyData → Nat
  | 0, _ => 0
  | _ + 1, .int _ => 1922
  | _ + 1, .none => 5
  | _ + 1, .bool _ => 5
  | _ + 1, .str s => (reprText s).length
  | n + 1, .list xs => (xs.map fun x => szD n x + 2).sum + 4
  | n + 1, .tuple xs => (xs.map fun x => szD n x + 2).sum + 4
  | _ + 1, .dict _ => 0
theorem textFrom_le : ∀ (ts : List Str) (k : Nat) (acc : Str), (textFrom k acc ts).length ≤ acc.length + (ts.map fun t => t.length + 2).sum
  | [], k, acc => by show acc.length ≤ _; simp
  | t :: r, k, acc => by
    have ih := textFrom_le r (k + 1) (acc ++ (if k > 0 then ", " else "" : String) ++ t)
    have e : (acc ++ (if k > 0 then ", " else "" : String) ++ t).length = acc.length + (if k > 0 then 2 else 0) + t.length := by
      rw [strLen_append, strLen_append]
      split <;> rfl
    rw [e] at ih
    show (textFrom (k + 1) _ r).length ≤ _
    rw [List.map_cons, List.sum_cons]
    have : (if k > 0 then 2 else 0 : Nat) ≤ 2 := by split <;> omega
    omega
theorem listText_le (ts : List Str) : (listText ts).length ≤ (ts.map fun t => t.length + 2).sum + 2 := by
  unfold listText
  rw [strLen_append]
  have h := textFrom_le ts 0 "["
  have e1 : (("[" : String) : Str).length = 1 := rfl
  have e2 : (("]" : String) : Str).length = 1 := rfl
  rw [e1] at h
  rw [e2]; omega
theorem tupleText_le (ts : List Str) : (tupleText ts).length ≤ (ts.map fun t => t.length + 2).sum + 3 := by
  unfold tupleText
  rw [strLen_append, strLen_append]
  have e1 : (("(" : String) : Str).length = 1 := rfl
  have e3 : (((if ts.length == 1 then ",)" else ")" : String) : Str)).length ≤ 2 := by split <;> decide
  rw [e1]
  cases ts with
  | nil =>
    have : (Str.join ", " []).length = 0 := rfl
    rw [this]; omega
  | cons t r =>
    have := join_length_add (t :: r) (by simp)
    unfold piled at this
    omega
theorem shownAll_eq : ∀ xs : List PyData, PyData.shownAll xs = xs.map PyData.shown
  | [] => by rw [PyData.shownAll]; rfl
  | x :: xs => by rw [PyData.shownAll, shownAll_eq xs]; rfl
theorem showAll_eq : ∀ xs : List PyData, PyData.showableAll xs = xs.all PyData.showable
  | [] => by rw [PyData.showableAll]; rfl
  | x :: xs => by rw [PyData.showableAll, showAll_eq xs]; rfl
theorem sum_le {α : Type} {f g : α → Nat} : ∀ {l : List α}, (∀ x ∈ l, f x ≤ g x) → (l.map f).sum ≤ (l.map g).sum
  | [], _ => Nat.le_refl _
  | x :: l, h => by
    rw [List.map_cons, List.map_cons, List.sum_cons, List.sum_cons]
    have := h x List.mem_cons_self
    have := sum_le fun y hy => h y (List.mem_cons_of_mem _ hy)
    omega
theorem shown_le : ∀ (n : Nat) (x : PyData), plainD n x = true → PyData.showable x = true → (PyData.shown x).length ≤ szD n x
  | 0, _, h, _ => by cases h
  | n + 1, .none, _, _ => by rw [PyData.shown]; show _ ≤ 5; decide
  | n + 1, .bool b, _, _ => by rw [PyData.shown]; show _ ≤ 5; cases b <;> decide
  | n + 1, .int i, _, h => by
    rw [PyData.showable] at h
    rw [PyData.shown]
    have := int_text_length_le (k := 1920) (by decide) (of_decide_eq_true h)
    show (Str.ofString (toString i)).length ≤ 1922
    rw [ofString_length]; omega
  | n + 1, .str s, _, _ => by rw [PyData.shown]; exact Nat.le_refl _
  | n + 1, .list xs, h, h2 => by
    have h : xs.all (plainD n) = true := h
    rw [PyData.showable, showAll_eq] at h2
    rw [List.all_eq_true] at h h2
    rw [PyData.shown, shownAll_eq]
    have := listText_le (xs.map PyData.shown)
    rw [List.map_map] at this
    have s := sum_le (f := (fun t : Str => t.length + 2) ∘ PyData.shown) (g := fun x => szD n x + 2) (l := xs) fun x hx => Nat.add_le_add_right (shown_le n x (h x hx) (h2 x hx)) 2
    show _ ≤ (xs.map fun x => szD n x + 2).sum + 4
    omega
  | n + 1, .tuple xs, h, h2 => by
    have h : xs.all (plainD n) = true := h
    rw [PyData.showable, showAll_eq] at h2
    rw [List.all_eq_true] at h h2
    rw [PyData.shown, shownAll_eq]
    have := tupleText_le (xs.map PyData.shown)
    rw [List.map_map] at this
    have s := sum_le (f := (fun t : Str => t.length + 2) ∘ PyData.shown) (g := fun x => szD n x + 2) (l := xs) fun x hx => Nat.add_le_add_right (shown_le n x (h x hx) (h2 x hx)) 2
    show _ ≤ (xs.map fun x => szD n x + 2).sum + 4
    omega
  | n + 1, .dict _, h, _ => by cases h
theorem showOk_of {x : PyData} {n : Nat} (h : gd n x = true) (hn : n ≤ DEEP) (h2 : PyData.showable x = true) (h3 : szD n x ≤ 16000000) : showOk x = true := by
  have h1 := gd_plain n x h
  have hd := gd_plain DEEP x (gd_mono n x DEEP hn h)
  have hs := shown_le n x h1 h2
  unfold showOk
  rw [hd, h2]
  simp only [Bool.and_self, Bool.true_and, decide_eq_true_eq]
  exact Nat.le_trans hs h3
/-- repr(x) == repr(x) -/
theorem repr_same {x : PyData} (h : showOk x = true) : bRepr [x] = some (.str (PyData.shown x)) := by
  show (if showOk x = true then some (PyData.str (PyData.shown x)) else none) = _
  rw [if_pos h]
theorem showable_ints {l : List Int} (h : ∀ i ∈ l, sm i) : PyData.showable (.tuple (l.map .int)) = true := by
  rw [PyData.showable, showAll_eq, List.all_eq_true]
  intro x hx
  obtain ⟨i, hi, rfl⟩ := List.mem_map.mp hx
  rw [PyData.showable]
  have := h i hi
  unfold sm at this
  have := log2_lt_of (n := i.natAbs) (k := 61) (by omega)
  exact decide_eq_true (by omega)
theorem sz_ints (l : List Int) : szD 2 (.tuple (l.map .int)) = 1924 * l.length + 4 := by
  show (((l.map PyData.int).map fun x => szD 1 x + 2).sum + 4) = _
  have : ∀ l : List Int, ((l.map PyData.int).map fun x => szD 1 x + 2).sum = 1924 * l.length := by
    intro l
    induction l with
    | nil => rfl
    | cons i l ih =>
      rw [List.map_cons, List.map_cons, List.sum_cons, ih, List.length_cons]
      show 1922 + 2 + _ = _
      omega
  rw [this]
theorem showOk_ints {l : List Int} (h : ∀ i ∈ l, sm i) (hl : l.length ≤ 8000) : showOk (.tuple (l.map .int)) = true :=
  showOk_of (n := 2) (by simp) (by decide) (showable_ints h) (by rw [sz_ints]; omega)
end Gg

end
section
/-! GWp: what holds behind a step, reckoned from the head on. -/
namespace Gg
open PySem

def wO {α : Type} (o : Option α) (Q : α → Prop) : Prop := ∃ x, o = some x ∧ Q x
theorem wO_congr {α : Type} {o o' : Option α} {Q : α → Prop} (h : o = o') : wO o Q = wO o' Q := by rw [h]
theorem wO.of {α : Type} {o : Option α} {x : α} {Q : α → Prop} (h : o = some x) (q : Q x) : wO o Q := ⟨x, h, q⟩
theorem wO.mono {α : Type} {o : Option α} {Q R : α → Prop} (h : wO o Q) (w : ∀ x, Q x → R x) : wO o R := let ⟨x, h1, h2⟩ := h; ⟨x, h1, w x h2⟩
theorem wO.get {α : Type} {o : Option α} {x : α} (h : wO o fun y => y = x) : o = some x := by obtain ⟨y, h1, rfl⟩ := h; exact h1
theorem wO.use {α : Type} {o : Option α} {x : α} {Q : α → Prop} (h : wO o Q) (e : o = some x) : Q x := by
  obtain ⟨y, h1, h2⟩ := h
  rw [e] at h1; cases h1; exact h2
section
variable {α β : Type} {Q : α → Prop} {R : β → Prop}
@[simp] theorem wO_some {x : α} : wO (some x) Q = Q x := propext ⟨fun ⟨_, h, q⟩ => (by cases h; exact q), fun q => ⟨x, rfl, q⟩⟩
@[simp] theorem wO_none : wO (none : Option α) Q = False := propext ⟨fun ⟨_, h, _⟩ => (by cases h), False.elim⟩
@[simp ↓] theorem wO_bind {o : Option β} {k : β → Option α} : wO (o.bind k) Q = wO o fun x => wO (k x) Q := by
  cases o with
  | none => simp
  | some x => simp
@[simp ↓] theorem wO_map {o : Option β} {k : β → α} : wO (o.map k) Q = wO o fun x => Q (k x) := by
  cases o with
  | none => simp
  | some x => simp
@[simp ↓] theorem wO_ite {p : Prop} [Decidable p] {a b : Option α} : wO (if p then a else b) Q = if p then wO a Q else wO b Q := by split <;> rfl
end
@[simp] theorem wO_bind2 {α β : Type} {Q : α → Prop} {o : Option β} {k : β → Option α} : wO (o.bind k) Q = wO o fun x => wO (k x) Q := wO_bind
@[simp] theorem wO_map2 {α β : Type} {Q : α → Prop} {o : Option β} {k : β → α} : wO (o.map k) Q = wO o fun x => Q (k x) := wO_map
@[simp] theorem wO_ite2 {α : Type} {Q : α → Prop} {p : Prop} [Decidable p] {a b : Option α} : wO (if p then a else b) Q = if p then wO a Q else wO b Q := wO_ite
theorem wO_if {p : Prop} [Decidable p] {a b : Prop} (h : p) (q : a) : if p then a else b := by rw [if_pos h]; exact q
theorem wO_else {p : Prop} [Decidable p] {a b : Prop} (h : ¬ p) (q : b) : if p then a else b := by rw [if_neg h]; exact q

section
variable {e : Env} {m : Sto} {fa fb fc : EM} {fs : List EM} {g h : B2} {Q : LV × Sto → Prop} {S : Out → Prop}
@[simp ↓] theorem w_con {c : PyData} : wO (eCon c e m) Q = Q (.d c, m) := by rw [ev_con, wO_some]
@[simp ↓] theorem w_var {i : Nat} : wO (eVar i e m) Q = wO e[i]? fun o => wO o fun v => Q (v, m) := by
  unfold eVar
  rcases e[i]? with _ | _ | v <;> simp
@[simp ↓] theorem w_nil {Q : List LV × Sto → Prop} : wO (evalL [] e m) Q = Q ([], m) := by rw [evl_nil, wO_some]
@[simp ↓] theorem w_cons {f : EM} {Q : List LV × Sto → Prop} : wO (evalL (f :: fs) e m) Q = wO (f e m) fun a => wO (evalL fs e a.2) fun b => Q (a.1 :: b.1, b.2) := by rw [evl_cons, wO_bind]; simp only [wO_map]
@[simp ↓] theorem w_tup : wO (eTup fs e m) Q = wO (evalL fs e m) fun a => wO (tupV a.1) fun x => Q (x, a.2) := by rw [ev_tup, wO_bind]; simp only [wO_map]
@[simp ↓] theorem w_bin : wO (eBin g fa fb e m) Q = wO (fa e m) fun a => wO (fb e a.2) fun b => wO (rdD b.2 a.1) fun x => wO (rdD b.2 b.1) fun y => wO (g x y) fun z => Q (.d z, b.2) := by
  rw [ev_bin]; simp only [wO_bind, wO_map]
@[simp ↓] theorem w_un {u : PyData → Option PyData} : wO (eUn u fa e m) Q = wO (fa e m) fun a => wO (rdD a.2 a.1) fun x => wO (u x) fun z => Q (.d z, a.2) := by
  rw [ev_un]; simp only [wO_bind, wO_map]
@[simp ↓] theorem w_and : wO (eAnd fa fb e m) Q = wO (fa e m) fun r => wO (truth r.2 r.1) fun t => if t = true then wO (fb e r.2) Q else Q r := by
  rw [ev_and]; simp only [wO_bind, wO_ite, wO_some]
@[simp ↓] theorem w_or : wO (eOr fa fb e m) Q = wO (fa e m) fun r => wO (truth r.2 r.1) fun t => if t = true then Q r else wO (fb e r.2) Q := by
  rw [ev_or]; simp only [wO_bind, wO_ite, wO_some]
@[simp ↓] theorem w_not : wO (eNot fa e m) Q = wO (fa e m) fun r => wO (truth r.2 r.1) fun t => Q (.d (.bool (!t)), r.2) := by
  rw [ev_not]; simp only [wO_bind, wO_map]
@[simp ↓] theorem w_ite : wO (eIte fc fa fb e m) Q = wO (fc e m) fun r => wO (truth r.2 r.1) fun t => if t = true then wO (fa e r.2) Q else wO (fb e r.2) Q := by
  rw [ev_ite]; simp only [wO_bind, wO_ite]
@[simp ↓] theorem w_chain : wO (eChain g h fa fb fc e m) Q = wO (fa e m) fun a => wO (fb e a.2) fun b => wO (rdD b.2 a.1) fun x => wO (rdD b.2 b.1) fun y => wO (boolOf (g x y)) fun t =>
    if t = true then wO (fc e b.2) fun c => wO (rdD c.2 b.1) fun y' => wO (rdD c.2 c.1) fun z => wO (h y' z) fun w => Q (.d w, c.2) else Q (.d (.bool false), b.2) := by
  rw [ev_chain]; simp only [wO_bind, wO_map, wO_ite, wO_some]
@[simp ↓] theorem w_inK {neg : Bool} : wO (eInK neg fa fb e m) Q = wO (fa e m) fun a => wO (fb e a.2) fun b => wO (inKV b.2 a.1 b.1) fun r => Q (.d (.bool (r != neg)), b.2) := by rw [ev_inK]; simp only [wO_bind, wO_map]
@[simp ↓] theorem w_knil {Q : List (L2.Key × LV) × Sto → Prop} : wO (evalK [] e m) Q = Q ([], m) := by rw [evk_nil, wO_some]
@[simp ↓] theorem w_kcons {fk fv : EM} {r : List (EM × EM)} {Q : List (L2.Key × LV) × Sto → Prop} : wO (evalK ((fk, fv) :: r) e m) Q = wO (fk e m) fun a => wO (keyV a.1) fun k => wO (fv e a.2) fun v => wO (evalK r e v.2) fun t => Q ((k, v.1) :: t.1, t.2) := by
  rw [evk_cons]; simp only [wO_bind, wO_map]
@[simp ↓] theorem w_dct {ps : List (EM × EM)} : wO (eDct ps e m) Q = wO (evalK ps e m) fun t => Q (.ref t.2.length, t.2 ++ [.dct (fillK [] t.1)]) := by rw [ev_dct]; simp only [wO_map]
@[simp ↓] theorem w_isN {n : Bool} : wO (eIsN n fa e m) Q = wO (fa e m) fun a => Q (.d (.bool (isNoneV a.1 != n)), a.2) := by rw [ev_isN]; simp only [wO_map]
@[simp ↓] theorem w_ix {fi : EM} : wO (eIx fa fi e m) Q = wO (fa e m) fun a => wO (fi e a.2) fun i => wO (ixV i.2 a.1 i.1) fun v => Q (v, i.2) := by
  rw [ev_ix]; simp only [wO_bind, wO_map]
@[simp ↓] theorem w_onone {Q : Option Int × Sto → Prop} : wO (evalO none e m) Q = Q (none, m) := by rw [evo_none, wO_some]
@[simp ↓] theorem w_osome {f : EM} {Q : Option Int × Sto → Prop} : wO (evalO (some f) e m) Q = wO (f e m) fun a => wO (intV a.1) fun i => Q (some i, a.2) := by
  rw [evo_some]; simp only [wO_bind, wO_map]
@[simp ↓] theorem w_sl {lo hi : Option EM} : wO (eSl fa lo hi e m) Q = wO (fa e m) fun a => wO (evalO lo e a.2) fun l => wO (evalO hi e l.2) fun h => wO (rdS h.2 a.1) fun x => wO (slD l.1 h.1 x) fun z => Q (.d z, h.2) := by
  rw [ev_sl]; simp only [wO_bind, wO_map]
@[simp ↓] theorem w_bi {b : BF} : wO (eBi b fs e m) Q = wO (evalL fs e m) fun a => wO (rdAll a.2 a.1) fun xs => wO (b xs) fun z => Q (.d z, a.2) := by
  rw [ev_bi]; simp only [wO_bind, wO_map]
@[simp ↓] theorem w_len : wO (eLen fa e m) Q = wO (fa e m) fun a => wO (lenV a.2 a.1) fun z => Q (.d z, a.2) := by
  rw [ev_len]; simp only [wO_bind, wO_map]
@[simp ↓] theorem w_isi {T : String} : wO (eIsi T fa e m) Q = wO (fa e m) fun a => wO (rdD a.2 a.1) fun x => Q (.d (.bool (isType T x)), a.2) := by
  rw [ev_isi]; simp only [wO_bind, wO_map]
@[simp ↓] theorem w_lst {l : LM} : wO (eLst l e m) Q = wO (l e m) fun a => wO (allD a.1) fun xs => Q (.d (.list xs), a.2) := by
  rw [ev_lst]; simp only [wO_bind, wO_map]
@[simp ↓] theorem w_new {l : LM} : wO (eNew l e m) Q = wO (l e m) fun a => Q (.ref a.2.length, a.2 ++ [.lst a.1]) := by rw [ev_new]; simp only [wO_map]
@[simp ↓] theorem w_disp {Q : List LV × Sto → Prop} : wO (lDisp fs e m) Q = wO (evalL fs e m) Q := rfl
@[simp ↓] theorem w_lof {f : EM} {Q : List LV × Sto → Prop} : wO (lOf f e m) Q = wO (f e m) fun a => wO (itemsOf a.2 a.1) fun xs => Q (xs, a.2) := by
  rw [ev_lof]; simp only [wO_bind, wO_map]
@[simp ↓] theorem w_lrev {f : EM} {Q : List LV × Sto → Prop} : wO (lRev f e m) Q = wO (f e m) fun a => wO (revV a.2 a.1) fun xs => Q (xs, a.2) := by
  rw [ev_lrev]; simp only [wO_bind, wO_map]
def itmsOf : Itm → Option (List LV)
  | .items xs => some xs
  | _ => none
@[simp] theorem itmsOf_i {xs : List LV} : itmsOf (.items xs) = some xs := rfl
@[simp ↓] theorem w_lrng {f : IM} {Q : List LV × Sto → Prop} : wO (lRng f e m) Q = wO (f e m) fun a => wO (itmsOf a.1) fun xs => Q (xs, a.2) := by
  rw [ev_lrng]
  rcases f e m with _ | ⟨_ | _, m1⟩ <;> simp [itmsOf]
@[simp ↓] theorem w_lrep {l : LM} {fn : EM} {Q : List LV × Sto → Prop} : wO (lRep l fn e m) Q = wO (l e m) fun a => wO (fn e a.2) fun b => wO (intV b.1) fun k => (a.1.length * k.toNat ≤ LINE ∧ rngOk k = true) ∧ Q ((List.replicate k.toNat a.1).flatten, b.2) := by
  rw [ev_lrep]; simp only [wO_bind, wO_ite, wO_some, wO_none]
  congr 1; funext a; congr 1; funext b; congr 1; funext k
  by_cases hk : a.1.length * k.toNat ≤ LINE ∧ rngOk k = true
  · rw [if_pos hk]; simp only [hk, and_self, true_and]
  · rw [if_neg hk]; simp only [hk, false_and]
@[simp ↓] theorem w_comp {fe : EM} {t : TM} {it : IM} {ifs : List EM} {own : List Nat} {Q : List LV × Sto → Prop} : wO (lComp fe t it ifs own e m) Q = wO (it e m) fun r => wO (compOver (compOne fe t ifs own) r.1 e r.2) Q := by
  rw [ev_comp]; simp only [wO_bind]
@[simp ↓] theorem w_over {f : LV → Env → Sto → Option (Option LV × Sto)} {xs : List LV} {Q : List LV × Sto → Prop} : wO (compOver f (.items xs) e m) Q = (xs.length ≤ LINE ∧ wO (compItems f xs e m) Q) := by
  rw [over_items]
  simp only [wO_ite, wO_none]
  by_cases hk : xs.length ≤ LINE
  · rw [if_pos hk]; simp only [hk, true_and]
  · rw [if_neg hk]; simp only [hk, false_and]
@[simp ↓] theorem w_one0 {fe : EM} {t : TM} {own : List Nat} {x : LV} {Q : Option LV × Sto → Prop} : wO (compOne fe t [] own x e m) Q = wO (t x (wipeE e own) m) fun r => wO (fe r.1 r.2) fun q => Q (some q.1, q.2) := by
  rw [one_plain]; simp only [wO_bind, wO_map]
@[simp ↓] theorem w_one1 {fe f : EM} {t : TM} {own : List Nat} {x : LV} {Q : Option LV × Sto → Prop} : wO (compOne fe t [f] own x e m) Q = wO (t x (wipeE e own) m) fun r => wO (f r.1 r.2) fun a => wO (truth a.2 a.1) fun b => if b = true then wO (fe r.1 a.2) fun q => Q (some q.1, q.2) else Q (none, a.2) := by
  rw [one_test]; simp only [wO_bind, wO_map, wO_ite, wO_some]
@[simp ↓] theorem w_iseq {f : EM} {Q : Itm × Sto → Prop} : wO (iSeq f e m) Q = wO (f e m) fun a => wO (seqV a.2 a.1) fun i => Q (i, a.2) := by
  rw [it_seq]; simp only [wO_bind, wO_map]
@[simp ↓] theorem w_ienum {f : EM} {Q : Itm × Sto → Prop} : wO (iEnum f e m) Q = wO (f e m) fun a => wO (enumV a.1) fun i => Q (.items i, a.2) := by
  rw [it_enum]; simp only [wO_bind, wO_map]
def zipV : LV → LV → Option (List LV)
  | .d (.list xs), .d (.list ys) => some (zipD xs ys)
  | .d (.tuple xs), .d (.tuple ys) => some (zipD xs ys)
  | _, _ => none
@[simp] theorem zipV_l {xs ys : List PyData} : zipV (.d (.list xs)) (.d (.list ys)) = some (zipD xs ys) := rfl
@[simp] theorem zipV_t {xs ys : List PyData} : zipV (.d (.tuple xs)) (.d (.tuple ys)) = some (zipD xs ys) := rfl
@[simp ↓] theorem w_izip {Q : Itm × Sto → Prop} : wO (iZip fa fb e m) Q = wO (fa e m) fun a => wO (fb e a.2) fun b => wO (zipV a.1 b.1) fun i => Q (.items i, b.2) := by
  have hh : iZip fa fb e m = (fa e m).bind fun a => (fb e a.2).bind fun b => (zipV a.1 b.1).map fun i => (.items i, b.2) := by
    unfold iZip
    rcases fa e m with _ | ⟨a, m1⟩
    · rfl
    simp only [Option.bind_some]
    rcases hb : fb e m1 with _ | ⟨b, m2⟩
    · cases a with
      | d x => cases x <;> simp [hb]
      | _ => rfl
    · simp only [Option.bind_some]
      cases a with
      | d x =>
        cases x <;> try (simp [zipV]; done)
        · cases b with
          | d y => cases y <;> simp [hb, zipV]
          | _ => simp [hb, zipV]
        · cases b with
          | d y => cases y <;> simp [hb, zipV]
          | _ => simp [hb, zipV]
      | _ => rfl
  rw [hh]; simp only [wO_bind, wO_map]
@[simp ↓] theorem w_rng1 {f : EM} {Q : Itm × Sto → Prop} : wO (iRange [f] e m) Q = wO (f e m) fun a => wO (intV a.1) fun j => rngOk j = true ∧ Q (.items (upTo 0 j.toNat), a.2) := by
  unfold iRange
  simp only [evl_cons, evl_nil]
  rcases f e m with _ | ⟨a, m1⟩
  · simp
  · cases a with
    | d x => cases x <;> simp [intV]
    | _ => simp [intV]
@[simp ↓] theorem w_rng2 {f g : EM} {Q : Itm × Sto → Prop} : wO (iRange [f, g] e m) Q = wO (f e m) fun a => wO (g e a.2) fun b => wO (intV a.1) fun i => wO (intV b.1) fun j => (rngOk i = true ∧ rngOk j = true) ∧ Q (.items (upTo i (j - i).toNat), b.2) := by
  unfold iRange
  simp only [evl_cons, evl_nil]
  rcases f e m with _ | ⟨a, m1⟩
  · simp
  rcases hg : g e m1 with _ | ⟨b, m2⟩
  · simp [hg]
  cases a with
  | d x =>
    cases b with
    | d y => cases x <;> cases y <;> simp [hg, intV]
    | _ => cases x <;> simp [hg, intV]
  | _ => simp [hg, intV]
/-- -1 -/
def m1V : LV → Option Unit
  | .d (.int (-1)) => some ()
  | _ => none
@[simp] theorem m1V_m : m1V (.d (.int (-1))) = some () := rfl
theorem w_rng3 {f g k : EM} {Q : Itm × Sto → Prop} (H : wO (f e m) fun a => wO (g e a.2) fun b => wO (k e b.2) fun c => ∃ i j, a.1 = .d (.int i) ∧ b.1 = .d (.int j) ∧ c.1 = .d (.int (-1)) ∧ rngOk i = true ∧ rngOk j = true ∧ Q (.items (downFrom i (i - j).toNat), c.2)) : wO (iRange [f, g, k] e m) Q := by
  obtain ⟨⟨a, m1⟩, h1, ⟨b, m2⟩, h2, ⟨c, m3⟩, h3, i, j, rfl, rfl, rfl, h4, h5, q⟩ := H
  simp only at h1 h2 h3 q
  unfold iRange
  simp [h1, h2, h3, h4, h5, q]
/-! statements -/
def thenO (b : SM) : Out → Option Out
  | .nx e m => b e m
  | o => some o
@[simp] theorem thenO_nx {b : SM} : thenO b (.nx e m) = b e m := rfl
@[simp] theorem thenO_rt {b : SM} {v : LV} : thenO b (.rt v m) = some (.rt v m) := rfl
@[simp] theorem thenO_bk {b : SM} : thenO b (.bk e m) = some (.bk e m) := rfl
@[simp] theorem thenO_ct {b : SM} : thenO b (.ct e m) = some (.ct e m) := rfl
@[simp ↓] theorem w_seq {a b : SM} : wO (sSeq a b e m) S = wO (a e m) fun o => wO (thenO b o) S := by
  rw [st_seq]
  rcases a e m with _ | o
  · simp
  · cases o <;> simp [seqK]
@[simp ↓] theorem w_then_nx {b : SM} : wO (thenO b (.nx e m)) S = wO (b e m) S := rfl
@[simp ↓] theorem w_then_rt {b : SM} {v : LV} : wO (thenO b (.rt v m)) S = S (.rt v m) := by rw [thenO_rt, wO_some]
@[simp ↓] theorem w_then_bk {b : SM} : wO (thenO b (.bk e m)) S = S (.bk e m) := by rw [thenO_bk, wO_some]
@[simp ↓] theorem w_then_ct {b : SM} : wO (thenO b (.ct e m)) S = S (.ct e m) := by rw [thenO_ct, wO_some]
@[simp ↓] theorem w_seqK {r : Option Out} {b : SM} : wO (seqK r b) S = wO r fun o => wO (thenO b o) S := by
  rcases r with _ | o
  · simp
  · cases o <;> simp [seqK]
@[simp ↓] theorem w_asg {t : TM} {f : EM} : wO (sAsg t f e m) S = wO (f e m) fun a => wO (t a.1 e a.2) fun r => S (.nx r.1 r.2) := by
  rw [st_asg]; simp only [wO_bind, wO_map]
@[simp ↓] theorem w_par {ts : List TM} : wO (sPar ts fs e m) S = wO (evalL fs e m) fun a => wO (toAll ts a.1 e a.2) fun r => S (.nx r.1 r.2) := by
  rw [st_par]; simp only [wO_bind, wO_map]
def dOf : LV → Option PyData
  | .d x => some x
  | _ => none
@[simp] theorem dOf_d {x : PyData} : dOf (.d x) = some x := rfl
@[simp ↓] theorem w_aug {i : Nat} {f : EM} : wO (sAug i g f e m) S = wO e[i]? fun o => wO o fun v => wO (f e m) fun a => wO (dOf v) fun x => wO (dOf a.1) fun y => wO (g x y) fun z => S (.nx (e.set i (some (.d z))) a.2) := by
  unfold sAug
  rcases e[i]? with _ | _ | v
  · simp
  · simp
  · simp only [wO_some]
    rcases f e m with _ | ⟨a, m1⟩
    · simp
    · cases v <;> cases a <;> simp [dOf]
@[simp ↓] theorem w_drop {f : EM} : wO (sDrop f e m) S = wO (f e m) fun r => S (.nx e r.2) := by rw [st_drop]; simp only [wO_map]
@[simp ↓] theorem w_app {fo fv : EM} : wO (sApp fo fv e m) S = wO (fo e m) fun a => wO (lstV a.2 a.1) fun l => wO (fv e a.2) fun v => wO (lstV v.2 (.ref l.1)) fun l2 => l2.2.length ≤ LINE ∧ S (.nx e (v.2.set l.1 (.lst (l2.2 ++ [v.1])))) := by
  rw [st_app]; simp only [wO_bind, wO_ite, wO_some, wO_none]
  congr 1; funext a; congr 1; funext l; congr 1; funext v; congr 1; funext l2
  by_cases hk : l2.2.length ≤ LINE
  · rw [if_pos hk]; simp only [hk, true_and]
  · rw [if_neg hk]; simp only [hk, false_and]
@[simp ↓] theorem w_ext {fo fv : EM} : wO (sExt fo fv e m) S = wO (fo e m) fun a => wO (lstV a.2 a.1) fun l => wO (fv e a.2) fun v => wO (lstV v.2 (.ref l.1)) fun l2 => wO (listOf v.2 v.1) fun ys => l2.2.length + ys.length ≤ LINE ∧ S (.nx e (v.2.set l.1 (.lst (l2.2 ++ ys)))) := by
  rw [st_ext]; simp only [wO_bind, wO_ite, wO_some, wO_none]
  congr 1; funext a; congr 1; funext l; congr 1; funext v; congr 1; funext l2; congr 1; funext ys
  by_cases hk : l2.2.length + ys.length ≤ LINE
  · rw [if_pos hk]; simp only [hk, true_and]
  · rw [if_neg hk]; simp only [hk, false_and]
@[simp ↓] theorem w_if {a b : SM} : wO (sIf fc a b e m) S = wO (fc e m) fun r => wO (truth r.2 r.1) fun t => if t = true then wO (a e r.2) S else wO (b e r.2) S := by
  rw [st_if]; simp only [wO_bind, wO_ite]
@[simp ↓] theorem w_ret {f : EM} : wO (sRet f e m) S = wO (f e m) fun r => S (.rt r.1 r.2) := by rw [st_ret]; simp only [wO_map]
@[simp ↓] theorem w_tsub {fo fi : EM} {v : LV} {Q : Env × Sto → Prop} : wO (tSub fo fi v e m) Q = wO (fo e m) fun o => wO (fi e o.2) fun i => wO (setItem i.2 o.1 i.1 v) fun m3 => Q (e, m3) := by
  rw [tg_sub]; simp only [wO_bind, wO_map]
@[simp ↓] theorem w_tcons {t : TM} {ts : List TM} {v : LV} {vs : List LV} {Q : Env × Sto → Prop} : wO (toAll (t :: ts) (v :: vs) e m) Q = wO (t v e m) fun r => wO (toAll ts vs r.1 r.2) Q := by
  rw [ta_cons]; simp only [wO_bind]
@[simp ↓] theorem w_for {t : TM} {it : IM} {b : SM} : wO (sFor t it b e m) S = wO (it e m) fun r => wO (forOver (forBody t b) r.1 e r.2) S := by
  rw [st_for]; simp only [wO_bind]
@[simp ↓] theorem w_fbody {t : TM} {b : SM} {x : LV} : wO (forBody t b x e m) S = wO (t x e m) fun r => wO (b r.1 r.2) S := by
  rw [forBody_ev]; simp only [wO_bind]
/-! calls -/
@[simp ↓] theorem w_call {F : Fn} : wO (eCall F fs e m) Q = wO (evalL fs e m) fun a => wO (callF F a.1 a.2) Q := by rw [ev_call]; simp only [wO_bind]
@[simp ↓] theorem w_callF {F : Fn} {vs : List LV} : wO (callF F vs m) Q = ((vs.all plainArg = true ∧ (refsOf vs).Nodup) ∧ wO (flatCells m (refsOf vs)) fun cs => wO (F (renum 0 vs) cs) fun r => wO (backF m (refsOf vs) cs.length r.1 r.2) Q) := by
  rw [call_ev]
  simp only [wO_ite, wO_bind, wO_none]
  by_cases hk : vs.all plainArg = true ∧ (refsOf vs).Nodup
  · rw [if_pos hk]; simp only [hk, and_self, true_and]
  · rw [if_neg hk]; simp only [hk, false_and]
theorem w_fn {F : Fn} {np n : Nat} {b : SM} {vs : List LV} {cs : List (List PyData)} {R : LV × List (List PyData) → Prop} (hF : F = sealF (mkFn np n b)) (hl : vs.length = np)
    (H : wO (b (vs.map some ++ List.replicate (n - np) none) (cs.map fun c => .lst (c.map .d))) fun o => wO (answer cs.length (some o)) R) : wO (F vs cs) R := by
  obtain ⟨o, h1, h2⟩ := H
  rw [hF, sealF_eq]
  unfold mkFn
  rw [if_pos hl, h1]
  exact h2
end
/-! ### loops -/
theorem w_forI {body : LV → SM} {S : Out → Prop} (I : Nat → Env → Sto → Prop) {xs : List LV} {e : Env} {m : Sto} (h0 : I 0 e m)
    (step : ∀ (i : Nat) (x : LV) (e : Env) (m : Sto), xs[i]? = some x → I i e m → wO (body x e m) fun o => match o with
      | .nx e1 m1 => I (i + 1) e1 m1
      | .ct e1 m1 => I (i + 1) e1 m1
      | .bk e1 m1 => S (.nx e1 m1)
      | .rt v m1 => S (.rt v m1))
    (fin : ∀ (e : Env) (m : Sto), I xs.length e m → S (.nx e m)) : wO (forItems body xs e m) S := by
  obtain ⟨o, h1, h2⟩ := for_inv (Q := S) I h0 (fun i x e m hx hi => by
    obtain ⟨o, a, b⟩ := step i x e m hx hi
    refine ⟨o, a, ?_⟩
    cases o <;> exact b) fin
  exact ⟨o, h1, h2⟩
theorem w_whileI {fc : EM} {b : SM} {S : Out → Prop} (I : Nat → Env → Sto → Prop) {n : Nat} {e : Env} {m : Sto} (h0 : I n e m)
    (step : ∀ (n : Nat) (e : Env) (m : Sto), I n e m → wO (fc e m) fun r => wO (truth r.2 r.1) fun t => (t = false → S (.nx e r.2)) ∧ (t = true → wO (b e r.2) fun o => match o with
      | .nx e1 m2 => ∃ k, k < n ∧ I k e1 m2
      | .ct e1 m2 => ∃ k, k < n ∧ I k e1 m2
      | .bk e1 m2 => S (.nx e1 m2)
      | .rt v m2 => S (.rt v m2))) : wO (sWhile fc b e m) S := by
  obtain ⟨o, h1, h2⟩ := while_inv (Q := S) I h0 (fun n e m hi => by
    obtain ⟨r, a, t, b1, c, d⟩ := step n e m hi
    refine ⟨r.1, r.2, t, a, b1, c, fun ht => ?_⟩
    obtain ⟨o, o1, o2⟩ := d ht
    refine ⟨o, o1, ?_⟩
    cases o <;> exact o2)
  exact ⟨o, h1, h2⟩
/-- a new list, nothing else touched -/
theorem w_items {f : LV → Env → Sto → Option (Option LV × Sto)} {α : Type} {g : α → LV} (k : α → Option LV) {e : Env} {m : Sto} {Q : List LV × Sto → Prop} {l : List α} (h : ∀ x ∈ l, wO (f (g x) e m) fun r => r = (k x, m)) (q : Q (l.filterMap k, m)) : wO (compItems f (l.map g) e m) Q :=
  .of (comp_pure l fun x hx => (h x hx).get) q
/-- .. each item taken over -/
theorem w_each {f : LV → Env → Sto → Option (Option LV × Sto)} {α : Type} {g : α → LV} (k : α → PyData) {e : Env} {m : Sto} {Q : List LV × Sto → Prop} {l : List α} (h : ∀ x ∈ l, wO (f (g x) e m) fun r => r = (some (.d (k x)), m)) (q : Q ((l.map k).map .d, m)) : wO (compItems f (l.map g) e m) Q := by
  refine w_items (fun x => some (.d (k x))) h ?_
  rw [List.filterMap_eq_map', List.map_map] at *
  first | exact q | (rw [List.map_map] at q; exact q)
/-- .. those that pass -/
theorem w_some {f : LV → Env → Sto → Option (Option LV × Sto)} {α : Type} {g : α → LV} (p : α → Bool) (k : α → PyData) {e : Env} {m : Sto} {Q : List LV × Sto → Prop} {l : List α} (h : ∀ x ∈ l, wO (f (g x) e m) fun r => r = (if p x then some (.d (k x)) else none, m)) (q : Q (((l.filter p).map k).map .d, m)) : wO (compItems f (l.map g) e m) Q := by
  refine w_items (fun x => if p x then some (.d (k x)) else none) h ?_
  have e1 : l.filterMap (fun x => if p x then some (LV.d (k x)) else none) = ((l.filter p).map k).map .d := by
    clear h q
    induction l with
    | nil => rfl
    | cons x l ih => by_cases hp : p x <;> simp [hp, ih, List.filterMap_cons, List.filter_cons]
  rw [e1]; exact q
/-- a new list made while the store changes -/
theorem w_drawn {f : LV → Env → Sto → Option (Option LV × Sto)} {α : Type} {g : α → LV} {P : α → Prop} {e : Env} {m : Sto} {xs : List LV} {Q : List LV × Sto → Prop} (I : Nat → Sto → Prop) (h0 : I 0 m)
    (step : ∀ (j : Nat) (x : LV) (m : Sto), xs[j]? = some x → j < xs.length → I j m → wO (f x e m) fun r => ∃ a, r.1 = some (g a) ∧ P a ∧ I (j + 1) r.2)
    (fin : ∀ (l : List α) (m' : Sto), l.length = xs.length → (∀ a ∈ l, P a) → I xs.length m' → Q (l.map g, m')) : wO (compItems f xs e m) Q := by
  suffices H : ∀ (ys : List LV) (i : Nat) (m : Sto), ys = xs.drop i → i ≤ xs.length → I i m → ∃ (l : List α) (m' : Sto), compItems f ys e m = some (l.map g, m') ∧ l.length = ys.length ∧ (∀ a ∈ l, P a) ∧ I xs.length m' by
    obtain ⟨l, m', h1, h2, h3, h4⟩ := H xs 0 m (by simp) (by omega) h0
    exact .of h1 (fin l m' h2 h3 h4)
  intro ys
  induction ys with
  | nil =>
    intro i m h1 h2 h3
    have : i = xs.length := by
      have := congrArg List.length h1
      rw [List.length_drop, List.length_nil] at this; omega
    subst this
    exact ⟨[], m, rfl, rfl, (fun _ h => by cases h), h3⟩
  | cons y ys ih =>
    intro i m h1 h2 h3
    have hi : i < xs.length := by
      have := congrArg List.length h1
      rw [List.length_drop, List.length_cons] at this; omega
    rw [List.drop_eq_getElem_cons hi] at h1
    injection h1 with h1 h4
    obtain ⟨⟨o, m1⟩, hf, a, ha, hp, hI⟩ := step i y m (by rw [List.getElem?_eq_getElem hi, h1]) hi h3
    simp only at ha hI
    subst ha
    obtain ⟨l, m', g1, g2, g3, g4⟩ := ih (i + 1) m1 h4 (by omega) hI
    refine ⟨a :: l, m', ?_, by rw [List.length_cons, List.length_cons, g2], fun b hb => ?_, g4⟩
    · unfold compItems
      rw [hf]
      simp [g1]
    · rcases List.mem_cons.mp hb with e | hb
      · rw [e]; exact hp
      · exact g3 b hb
end Gg
namespace Gg
open PySem
theorem compCell_eq {f : LV → Env → Sto → Option (Option LV × Sto)} {k : Nat} {xs : List LV} {e : Env} {m : Sto} (hk : m[k]? = some (.lst xs)) {κ : LV → Option LV} (h : ∀ x ∈ xs, f x e m = some (κ x, m)) :
    ∀ j, j ≤ xs.length → compCell f k xs.length j e m = some ((xs.drop (xs.length - j)).filterMap κ, m)
  | 0, _ => by simp [compCell, hk]
  | j + 1, hj => by
    have hi : xs.length - (j + 1) < xs.length := by omega
    have g : xs[xs.length - (j + 1)]? = some xs[xs.length - (j + 1)] := List.getElem?_eq_getElem hi
    have ih := compCell_eq hk h j (by omega)
    have e1 : xs.drop (xs.length - (j + 1)) = xs[xs.length - (j + 1)] :: xs.drop (xs.length - j) := by
      rw [List.drop_eq_getElem_cons hi]; congr 2; omega
    have hx := h _ (List.getElem_mem hi)
    unfold compCell
    rw [hk]
    simp only [if_pos]
    rw [g]
    simp only []
    rw [hx, e1, List.filterMap_cons]
    cases q : κ xs[xs.length - (j + 1)] with
    | none => simp only [ih]
    | some y => simp only [ih, Option.map_some]
/-- over a list that may change, which is not changed -/
theorem w_cell {f : LV → Env → Sto → Option (Option LV × Sto)} {k : Nat} {xs : List LV} {e : Env} {m : Sto} {Q : List LV × Sto → Prop} (hk : m[k]? = some (.lst xs)) (hl : xs.length ≤ LINE) (κ : LV → Option LV) (h : ∀ x ∈ xs, wO (f x e m) fun r => r = (κ x, m)) (q : Q (xs.filterMap κ, m)) : wO (compOver f (.cell k) e m) Q := by
  refine .of (x := (xs.filterMap κ, m)) ?_ q
  have := compCell_eq hk (fun x hx => (h x hx).get) xs.length (Nat.le_refl _)
  rw [Nat.sub_self, List.drop_zero] at this
  unfold compOver
  simp only [cellLen, hk]
  rw [if_pos hl, this]
theorem w_cellS {α : Type} {g : α → LV} {l : List α} (p : α → Bool) (κ : α → LV) {f : LV → Env → Sto → Option (Option LV × Sto)} {k : Nat} {e : Env} {m : Sto} {Q : List LV × Sto → Prop} (hk : m[k]? = some (.lst (l.map g))) (hl : l.length ≤ LINE) (h : ∀ x ∈ l, wO (f (g x) e m) fun r => r = (if p x then some (κ x) else none, m)) (q : Q ((l.filter p).map κ, m)) : wO (compOver f (.cell k) e m) Q := by
  have H : ∀ l : List α, (∀ x ∈ l, wO (f (g x) e m) fun r => r = (if p x then some (κ x) else none, m)) → ∀ j, j ≤ l.length → True := fun _ _ _ _ => trivial
  refine .of (x := ((l.filter p).map κ, m)) ?_ q
  have key : ∀ j, j ≤ l.length → compCell f k l.length j e m = some (((l.drop (l.length - j)).filter p).map κ, m) := by
    intro j
    induction j with
    | zero => intro _; simp [compCell, hk]
    | succ j ih =>
      intro hj
      have hi : l.length - (j + 1) < l.length := by omega
      have g1 : (l.map g)[l.length - (j + 1)]? = some (g l[l.length - (j + 1)]) := by rw [List.getElem?_map, List.getElem?_eq_getElem hi]; rfl
      have e1 : l.drop (l.length - (j + 1)) = l[l.length - (j + 1)] :: l.drop (l.length - j) := by
        rw [List.drop_eq_getElem_cons hi]; congr 2; omega
      have hx := (h _ (List.getElem_mem hi)).get
      unfold compCell
      rw [hk]
      simp only [List.length_map, if_pos]
      rw [g1]
      simp only []
      rw [hx, e1, List.filter_cons]
      by_cases hp : p l[l.length - (j + 1)] = true
      · rw [if_pos hp, if_pos hp]
        simp only [ih (by omega), Option.map_some, List.map_cons]
      · rw [if_neg hp, if_neg hp]
        simp only [ih (by omega)]
  have := key l.length (Nat.le_refl _)
  rw [Nat.sub_self, List.drop_zero] at this
  unfold compOver
  simp only [cellLen, hk, List.length_map]
  rw [if_pos hl, this]
end Gg

end
section
/-! GNice: data that equal themselves and can be shown; ranges. -/
namespace Gg
open PySem

mutual
theorem eqv_self : ∀ (n : Nat) (x : PyData), plainD n x = true → PyData.eqv x x = true
  | 0, _, h => by cases h
  | n + 1, .none, _ => by simp [PyData.eqv]
  | n + 1, .bool _, _ => by simp [PyData.eqv]
  | n + 1, .int _, _ => by simp [PyData.eqv]
  | n + 1, .str _, _ => by simp [PyData.eqv]
  | n + 1, .list xs, h => by
    have h : xs.all (plainD n) = true := h
    rw [List.all_eq_true] at h
    simp only [PyData.eqv]
    exact eqvAll_self n xs h
  | n + 1, .tuple xs, h => by
    have h : xs.all (plainD n) = true := h
    rw [List.all_eq_true] at h
    simp only [PyData.eqv]
    exact eqvAll_self n xs h
  | n + 1, .dict _, h => by cases h
theorem eqvAll_self : ∀ (n : Nat) (xs : List PyData), (∀ x ∈ xs, plainD n x = true) → PyData.eqvAll xs xs = true
  | _, [], _ => by simp [PyData.eqvAll]
  | n, x :: xs, h => by
    simp only [PyData.eqvAll, Bool.and_eq_true]
    exact ⟨eqv_self n x (h x List.mem_cons_self), eqvAll_self n xs fun y hy => h y (List.mem_cons_of_mem _ hy)⟩
end
theorem plain_mono : ∀ (n : Nat) (x : PyData) (k : Nat), n ≤ k → plainD n x = true → plainD k x = true
  | 0, _, _, _, h => by cases h
  | n + 1, x, 0, hk, _ => by omega
  | n + 1, x, k + 1, hk, h => by
    cases x with
    | list xs =>
      have h : xs.all (plainD n) = true := h
      show xs.all (plainD k) = true
      rw [List.all_eq_true] at h ⊢
      exact fun x hx => plain_mono n x k (by omega) (h x hx)
    | tuple xs =>
      have h : xs.all (plainD n) = true := h
      show xs.all (plainD k) = true
      rw [List.all_eq_true] at h ⊢
      exact fun x hx => plain_mono n x k (by omega) (h x hx)
    | none => rfl
    | bool _ => rfl
    | int _ => rfl
    | str s => exact h
    | dict _ => cases h
/-- it can be compared and shown, in so few signs -/
structure Nice (n B : Nat) (x : PyData) : Prop where
  pl : plainD n x = true
  sh : PyData.showable x = true
  sz : szD n x ≤ B
theorem Nice.mono {n B C : Nat} {x : PyData} (h : Nice n B x) (hb : B ≤ C) : Nice n C x := ⟨h.pl, h.sh, Nat.le_trans h.sz hb⟩
theorem nice_int {n : Nat} {i : Int} (h : sm i) : Nice (n + 1) 1922 (.int i) := by
  refine ⟨rfl, ?_, Nat.le_refl _⟩
  rw [PyData.showable]
  unfold sm at h
  have := log2_lt_of (n := i.natAbs) (k := 61) (by omega)
  exact decide_eq_true (by omega)
theorem nice_none {n : Nat} : Nice (n + 1) 1922 .none := ⟨rfl, by rw [PyData.showable], by show 5 ≤ 1922; decide⟩
theorem nice_bool {n : Nat} {b : Bool} : Nice (n + 1) 1922 (.bool b) := ⟨rfl, by rw [PyData.showable], by show 5 ≤ 1922; decide⟩
theorem nice_str {n : Nat} {s : Str} (h : PyData.strOk s = true) (h2 : (reprText s).length ≤ 1922) (h3 : PyData.showable (.str s) = true) : Nice (n + 1) 1922 (.str s) := ⟨h, h3, h2⟩
theorem sum_bound {l : List PyData} {f : PyData → Nat} {B : Nat} (h : ∀ x ∈ l, f x ≤ B) : (l.map fun x => f x + 2).sum ≤ l.length * (B + 2) := by
  induction l with
  | nil => simp
  | cons x l ih =>
    rw [List.map_cons, List.sum_cons, List.length_cons, Nat.add_mul]
    have := h x List.mem_cons_self
    have := ih fun y hy => h y (List.mem_cons_of_mem _ hy)
    omega
theorem nice_tup {n B N : Nat} {xs : List PyData} (h : ∀ x ∈ xs, Nice n B x) (hN : xs.length ≤ N) : Nice (n + 1) (N * (B + 2) + 4) (.tuple xs) := by
  refine ⟨?_, ?_, ?_⟩
  · show xs.all (plainD n) = true
    rw [List.all_eq_true]; exact fun x hx => (h x hx).pl
  · rw [PyData.showable, showAll_eq, List.all_eq_true]; exact fun x hx => (h x hx).sh
  · show (xs.map fun x => szD n x + 2).sum + 4 ≤ _
    have := sum_bound (f := szD n) fun x hx => (h x hx).sz
    have := Nat.mul_le_mul_right (B + 2) hN
    omega
theorem nice_list {n B N : Nat} {xs : List PyData} (h : ∀ x ∈ xs, Nice n B x) (hN : xs.length ≤ N) : Nice (n + 1) (N * (B + 2) + 4) (.list xs) := by
  refine ⟨?_, ?_, ?_⟩
  · show xs.all (plainD n) = true
    rw [List.all_eq_true]; exact fun x hx => (h x hx).pl
  · rw [PyData.showable, showAll_eq, List.all_eq_true]; exact fun x hx => (h x hx).sh
  · show (xs.map fun x => szD n x + 2).sum + 4 ≤ _
    have := sum_bound (f := szD n) fun x hx => (h x hx).sz
    have := Nat.mul_le_mul_right (B + 2) hN
    omega
theorem nice_ints {n N : Nat} {l : List Int} (h : ∀ i ∈ l, sm i) (hN : l.length ≤ N) : Nice (n + 2) (N * 1924 + 4) (.tuple (l.map .int)) := by
  refine nice_tup (B := 1922) (fun x hx => ?_) (by rw [List.length_map]; exact hN)
  obtain ⟨i, hi, rfl⟩ := List.mem_map.mp hx
  exact nice_int (h i hi)
theorem eqD_self {n B : Nat} {x : PyData} (h : Nice n B x) (hn : n ≤ DEEP) : eqD x x = some (.bool true) := by
  have hp := plain_mono n x DEEP hn h.pl
  have hv := eqv_self _ _ hp
  have key : eqB x x = some true := by
    cases x with
    | str s => show some (decide (s = s)) = _; rw [decide_eq_true rfl]
    | _ =>
      unfold eqB strsB
      simp only []
      rw [hp, hv]; rfl
  unfold eqD
  rw [key]; rfl
theorem neD_self {n B : Nat} {x : PyData} (h : Nice n B x) (hn : n ≤ DEEP) : neD x x = some (.bool false) := by
  have := eqD_self h hn
  unfold eqD at this
  unfold neD
  cases q : eqB x x with
  | none => rw [q] at this; cases this
  | some b => rw [q] at this; cases this; rfl
theorem show_nice {n B : Nat} {x : PyData} (h : Nice n B x) (hn : n ≤ DEEP) (hB : B ≤ 16000000) : showOk x = true := by
  have hp := plain_mono n x DEEP hn h.pl
  have hs := shown_le n x h.pl h.sh
  unfold showOk
  rw [hp, h.sh]
  simp only [Bool.and_self, Bool.true_and, decide_eq_true_eq]
  exact Nat.le_trans hs (Nat.le_trans h.sz hB)
/-! ### ranges -/
theorem upTo_0 {n : Nat} : upTo 0 n = (List.range n).map fun i => LV.d (.int ((i : Nat) : Int)) := by
  unfold upTo
  refine List.map_congr_left fun i _ => ?_
  rw [Int.zero_add]
@[simp] theorem allD_upTo {n : Nat} : allD (upTo 0 n) = some ((List.range n).map fun i => .int ((i : Nat) : Int)) := by rw [upTo_0]; exact allD_of _
section
variable {f : LV → Env → Sto → Option (Option LV × Sto)} {e : Env} {m : Sto} {Q : List LV × Sto → Prop} {n : Nat}
theorem w_rangeS (p : Nat → Bool) (k : Nat → PyData) (h : ∀ i, i < n → wO (f (.d (.int ((i : Nat) : Int))) e m) fun r => r = (if p i then some (.d (k i)) else none, m)) (q : Q ((((List.range n).filter p).map k).map .d, m)) : wO (compItems f (upTo 0 n) e m) Q := by
  rw [upTo_0]
  exact w_some (g := fun i : Nat => LV.d (.int ((i : Nat) : Int))) p k (fun i hi => h i (List.mem_range.mp hi)) q
theorem w_rangeE (k : Nat → PyData) (h : ∀ i, i < n → wO (f (.d (.int ((i : Nat) : Int))) e m) fun r => r = (some (.d (k i)), m)) (q : Q (((List.range n).map k).map .d, m)) : wO (compItems f (upTo 0 n) e m) Q := by
  rw [upTo_0]
  exact w_each (g := fun i : Nat => LV.d (.int ((i : Nat) : Int))) k (fun i hi => h i (List.mem_range.mp hi)) q
/-- none passes -/
theorem w_range0 (h : ∀ i, i < n → wO (f (.d (.int ((i : Nat) : Int))) e m) fun r => r = (none, m)) (q : Q ([], m)) : wO (compItems f (upTo 0 n) e m) Q := by
  refine w_rangeS (fun _ => false) (fun _ => .none) (fun i hi => (h i hi).mono fun r e => ?_) ?_
  · rw [e]; rfl
  · have : (List.range n).filter (fun _ => false) = [] := by simp
    rw [this]; exact q
end
/-- a number of a list -/
def vl (l : List Int) (i : Nat) : Int := l.getD i 0
theorem get_vl {l : List Int} {i : Nat} (h : i < l.length) : l[i]? = some (vl l i) := by
  unfold vl
  rw [List.getD_eq_getElem?_getD, List.getElem?_eq_getElem h]; rfl
theorem vl_get {l : List Int} {i : Nat} (h : i < l.length) : vl l i = l[i] := by
  have := get_vl h
  rw [List.getElem?_eq_getElem h] at this
  exact (Option.some.inj this).symm
theorem vl_mem {l : List Int} {i : Nat} (h : i < l.length) : vl l i ∈ l := by rw [vl_get h]; exact List.getElem_mem h
theorem enum_map {α : Type} {f : α → PyData} (l : List α) : enumFrom 0 (l.map f) = (List.range l.length).map fun i => match l[i]? with
    | some x => pairD i (f x)
    | none => .d .none := by
  have H : ∀ (l : List α) (k : Nat), enumFrom k (l.map f) = (List.range l.length).map fun i => match l[i]? with
    | some x => pairD (k + i) (f x)
    | none => .d .none := by
    intro l
    induction l with
    | nil => intro k; rfl
    | cons x l ih =>
      intro k
      rw [List.map_cons, List.length_cons, List.range_succ_eq_map, List.map_cons, List.map_map]
      show pairD k (f x) :: enumFrom (k + 1) (l.map f) = _
      rw [ih (k + 1)]
      congr 1
      refine List.map_congr_left fun i _ => ?_
      simp only [Function.comp, Nat.succ_eq_add_one, List.getElem?_cons_succ]
      rw [show k + 1 + i = k + (i + 1) by omega]
  rw [H l 0]
  refine List.map_congr_left fun i _ => ?_
  rw [Nat.zero_add]
theorem enum_get {α : Type} {f : α → PyData} {l : List α} {i : Nat} {x : LV} (h : (enumFrom 0 (l.map f))[i]? = some x) : ∃ a, l[i]? = some a ∧ x = pairD i (f a) := by
  rw [enum_map, List.getElem?_map] at h
  by_cases hi : i < l.length
  · rw [List.getElem?_range hi] at h
    simp only [Option.map_some, List.getElem?_eq_getElem hi] at h
    exact ⟨_, List.getElem?_eq_getElem hi, (Option.some.inj h).symm⟩
  · rw [List.getElem?_eq_none (by simpa using hi)] at h; cases h
@[simp] theorem enum_len {α : Type} {f : α → PyData} {l : List α} : (enumFrom 0 (l.map f)).length = l.length := by rw [enum_map]; simp
/-! ### order -/
theorem ltD_of {x y : PyData} (h : ordB x y = true) (hx : ∀ i, x ≠ .int i) : ltD x y = some (.bool (PySem.W.dataLt x y)) := by
  unfold ltD cmpI
  split
  · exact absurd rfl (hx _)
  · rw [if_pos h]
end Gg
namespace Gg
open PySem
@[simp] theorem bMax_2 {a b : Int} : bMax [.list [.int a, .int b]] = some (.int (max a b)) := bMax_iii (a := a) (r := [b])
@[simp] theorem bMin_2 {a b : Int} : bMin [.list [.int a, .int b]] = some (.int (min a b)) := bMin_iii (a := a) (r := [b])
theorem fb_one {m : Sto} {c : List PyData} (h : m[0]? = some (.lst (c.map .d))) : flatBack 1 m = some [c] := by
  cases m with
  | nil => simp at h
  | cons x r =>
    simp at h
    subst h
    simp
/-- some numbers of a range, drawn -/
theorem w_pick {f : LV → Env → Sto → Option (Option LV × Sto)} {e : Env} {m : Sto} {n : Nat} {Q : List LV × Sto → Prop} (I : Nat → Sto → Prop) (h0 : I 0 m)
    (step : ∀ (j : Nat) (m : Sto), j < n → I j m → wO (f (.d (.int ((j : Nat) : Int))) e m) fun r => (r.1 = none ∨ r.1 = some (.d (.int ((j : Nat) : Int)))) ∧ I (j + 1) r.2)
    (fin : ∀ (r : List Nat) (m' : Sto), r.Pairwise (· < ·) → (∀ i ∈ r, i < n) → I n m' → Q (r.map fun i => .d (.int ((i : Nat) : Int)), m')) : wO (compItems f (upTo 0 n) e m) Q := by
  have key : ∀ (k i : Nat) (m : Sto), k + i = n → I i m → ∃ (r : List Nat) (m' : Sto), compItems f ((List.range' i k).map fun i => LV.d (.int ((i : Nat) : Int))) e m = some (r.map fun i => .d (.int ((i : Nat) : Int)), m') ∧ r.Pairwise (· < ·) ∧ (∀ j ∈ r, i ≤ j ∧ j < n) ∧ I n m' := by
    intro k
    induction k with
    | zero =>
      intro i m h hI
      have : i = n := by omega
      subst this
      exact ⟨[], m, rfl, .nil, (fun _ h => by cases h), hI⟩
    | succ k ih =>
      intro i m h hI
      obtain ⟨⟨o, m1⟩, hf, ho, hI1⟩ := step i m (by omega) hI
      obtain ⟨r, m', h1, h2, h3, h4⟩ := ih (i + 1) m1 (by omega) hI1
      rcases ho with rfl | rfl
      · refine ⟨r, m', ?_, h2, fun j hj => ⟨by have := (h3 j hj).1; omega, (h3 j hj).2⟩, h4⟩
        rw [List.range'_succ, List.map_cons]
        unfold compItems
        rw [hf]
        exact h1
      · refine ⟨i :: r, m', ?_, List.pairwise_cons.mpr ⟨fun j hj => by have := (h3 j hj).1; omega, h2⟩, fun j hj => ?_, h4⟩
        · rw [List.range'_succ, List.map_cons]
          unfold compItems
          rw [hf]
          simp only []
          rw [h1]; rfl
        · rcases List.mem_cons.mp hj with rfl | hj
          · omega
          · have := h3 j hj; omega
  obtain ⟨r, m', h1, h2, h3, h4⟩ := key n 0 m (by omega) h0
  rw [upTo_0, List.range_eq_range']
  exact .of h1 (fin r m' h2 (fun i hi => (h3 i hi).2) h4)
end Gg
namespace Gg
open PySem
theorem bMax_m {i j : Int} : bMax [.int i, .int j] = some (.int (max i j)) := by
  rw [bMax_ii]; congr 2; split <;> omega
theorem bMin_m {i j : Int} : bMin [.int i, .int j] = some (.int (min i j)) := by
  rw [bMin_ii]; congr 2; split <;> omega
theorem bMax_f {α : Type} {a : Int} {L : List α} {f : α → Int} : bMax [.list (.int a :: L.map fun o => .int (f o))] = some (.int (maxI a (L.map f))) := by
  have : L.map (fun o => PyData.int (f o)) = (L.map f).map .int := by rw [List.map_map]; rfl
  rw [this]; exact bMax_iii
theorem w_enumS {α : Type} {g : α → PyData} {l : List α} {f : LV → Env → Sto → Option (Option LV × Sto)} {e : Env} {m : Sto} {Q : List LV × Sto → Prop} (p : Nat → Bool) (k : Nat → PyData)
    (h : ∀ i a, l[i]? = some a → wO (f (pairD i (g a)) e m) fun r => r = (if p i then some (.d (k i)) else none, m)) (q : Q ((((List.range l.length).filter p).map k).map .d, m)) : wO (compItems f (enumFrom 0 (l.map g)) e m) Q := by
  rw [enum_map]
  refine w_some (l := List.range l.length) p k (fun i hi => ?_) q
  have hi := List.mem_range.mp hi
  have := h i _ (List.getElem?_eq_getElem hi)
  simp only [List.getElem?_eq_getElem hi]
  exact this
theorem zip_map {α β : Type} {f : α → PyData} {g : β → PyData} : ∀ (l : List α) (s : List β), zipD (l.map f) (s.map g) = (l.zip s).map fun q => LV.d (.tuple [f q.1, g q.2])
  | [], _ => rfl
  | _ :: _, [] => rfl
  | x :: l, y :: s => by
    rw [List.map_cons, List.map_cons, List.zip_cons_cons, List.map_cons, ← zip_map l s]; rfl
end Gg

end
section
/-! GOrd: the order of data. -/
namespace Gg
open PySem

abbrev dl (a b : PyData) : Bool := PySem.W.dataLt a b
theorem dl_irrefl (a : PyData) : dl a a = false := PyProof.Rows.lex_irrefl _
theorem dl_trans {a b c : PyData} (h : dl a b = true) (h2 : dl b c = true) : dl a c = true := PyProof.Rows.lex_trans _ _ _ h h2
theorem dl_neg {a b c : PyData} (h : dl b a = false) (h2 : dl c b = false) : dl c a = false := by
  cases q : dl c a with
  | false => rfl
  | true =>
    rcases PyProof.Rows.lex_negTrans _ (PySem.W.keyToks b) _ q with z | z
    · exact absurd (z.symm.trans h2) (by simp)
    · exact absurd (z.symm.trans h) (by simp)
theorem dl_asym {a b : PyData} (h : dl a b = true) : dl b a = false := by
  cases q : dl b a with
  | false => rfl
  | true => rw [dl_irrefl a |>.symm.trans (dl_trans h q)] at *
theorem minD_spec : ∀ (xs : List PyData) (x : PyData), PySem.W.minD x xs ∈ x :: xs ∧ ∀ y ∈ x :: xs, dl y (PySem.W.minD x xs) = false
  | [], x => ⟨List.mem_cons_self, fun y hy => by rw [List.mem_singleton.mp hy]; exact dl_irrefl x⟩
  | z :: xs, x => by
    have e : PySem.W.minD x (z :: xs) = PySem.W.minD (if PySem.W.dataLt z x then z else x) xs := rfl
    rw [e]
    by_cases h : PySem.W.dataLt z x = true
    · rw [if_pos h]
      obtain ⟨h1, h2⟩ := minD_spec xs z
      refine ⟨List.mem_cons_of_mem _ h1, fun y hy => ?_⟩
      rcases List.mem_cons.mp hy with rfl | hy
      · have := h2 z List.mem_cons_self
        exact dl_neg this (dl_asym h)
      · exact h2 y hy
    · rw [if_neg h]
      obtain ⟨h1, h2⟩ := minD_spec xs x
      refine ⟨?_, fun y hy => ?_⟩
      · rcases List.mem_cons.mp h1 with e | h1
        · rw [e]; exact List.mem_cons_self
        · exact List.mem_cons_of_mem _ (List.mem_cons_of_mem _ h1)
      · rcases List.mem_cons.mp hy with rfl | hy
        · exact h2 _ List.mem_cons_self
        · rcases List.mem_cons.mp hy with rfl | hy
          · exact dl_neg (h2 x List.mem_cons_self) (Bool.eq_false_iff.mpr h)
          · exact h2 y (List.mem_cons_of_mem _ hy)
theorem maxD_spec : ∀ (xs : List PyData) (x : PyData), PySem.W.maxD x xs ∈ x :: xs ∧ ∀ y ∈ x :: xs, dl (PySem.W.maxD x xs) y = false
  | [], x => ⟨List.mem_cons_self, fun y hy => by rw [List.mem_singleton.mp hy]; exact dl_irrefl x⟩
  | z :: xs, x => by
    have e : PySem.W.maxD x (z :: xs) = PySem.W.maxD (if PySem.W.dataLt x z then z else x) xs := rfl
    rw [e]
    by_cases h : PySem.W.dataLt x z = true
    · rw [if_pos h]
      obtain ⟨h1, h2⟩ := maxD_spec xs z
      refine ⟨List.mem_cons_of_mem _ h1, fun y hy => ?_⟩
      rcases List.mem_cons.mp hy with rfl | hy
      · exact dl_neg (dl_asym h) (h2 z List.mem_cons_self)
      · exact h2 y hy
    · rw [if_neg h]
      obtain ⟨h1, h2⟩ := maxD_spec xs x
      refine ⟨?_, fun y hy => ?_⟩
      · rcases List.mem_cons.mp h1 with e | h1
        · rw [e]; exact List.mem_cons_self
        · exact List.mem_cons_of_mem _ (List.mem_cons_of_mem _ h1)
      · rcases List.mem_cons.mp hy with rfl | hy
        · exact h2 _ List.mem_cons_self
        · rcases List.mem_cons.mp hy with rfl | hy
          · exact dl_neg (Bool.eq_false_iff.mpr h) (h2 x List.mem_cons_self)
          · exact h2 y (List.mem_cons_of_mem _ hy)
/-- sorted -/
abbrev srt (xs : List PyData) : List PyData := xs.mergeSort fun a b => !PySem.W.dataLt b a
theorem srt_pw (xs : List PyData) : (srt xs).Pairwise fun a b => dl b a = false := by
  have h := List.pairwise_mergeSort (le := fun a b => !PySem.W.dataLt b a) (fun a b c h1 h2 => by
    rw [Bool.not_eq_true'] at h1 h2 ⊢
    exact dl_neg h1 h2) (fun a b => by
    rw [Bool.or_eq_true, Bool.not_eq_true', Bool.not_eq_true']
    cases q : PySem.W.dataLt b a with
    | false => exact .inl rfl
    | true => exact .inr (dl_asym q)) xs
  exact h.imp fun {a b} h => by rw [Bool.not_eq_true'] at h; exact h
theorem srt_perm (xs : List PyData) : (srt xs).Perm xs := List.mergeSort_perm _ _
theorem srt_head {xs : List PyData} (h : xs ≠ []) : ∃ x r, srt xs = x :: r ∧ x ∈ xs ∧ ∀ y ∈ xs, dl y x = false := by
  have hp := srt_perm xs
  have hs := srt_pw xs
  cases q : srt xs with
  | nil => rw [q] at hp; exact absurd hp.nil_eq.symm h
  | cons x r =>
    rw [q] at hp hs
    refine ⟨x, r, rfl, hp.mem_iff.mp List.mem_cons_self, fun y hy => ?_⟩
    rcases List.mem_cons.mp (hp.mem_iff.mpr hy) with rfl | hy
    · exact dl_irrefl _
    · exact (List.pairwise_cons.mp hs).1 y hy
/-- there is just one such list -/
theorem srt_uniq {xs ys : List PyData} (hp : ys.Perm xs) (hs : ys.Pairwise fun a b => dl b a = false) (hi : ∀ a ∈ xs, ∀ b ∈ xs, dl a b = false → dl b a = false → a = b) : srt xs = ys := by
  have h1 := srt_pw xs
  have h2 := (srt_perm xs).trans hp.symm
  have hm : ∀ a ∈ srt xs, a ∈ xs := fun a ha => (srt_perm xs).mem_iff.mp ha
  refine h2.eq_of_pairwise (le := fun a b => dl b a = false) (fun a b ha hb g1 g2 => hi a (hm a ha) b (hp.mem_iff.mp hb) g2 g1) h1 hs
theorem minL_of {x : PyData} {xs : List PyData} (h : alikeL (x :: xs) = true) : minL (x :: xs) = some (PySem.W.minD x xs) := if_pos h
theorem maxL_of {x : PyData} {xs : List PyData} (h : alikeL (x :: xs) = true) : maxL (x :: xs) = some (PySem.W.maxD x xs) := if_pos h
theorem sortL_of {xs : List PyData} (h : alikeL xs = true) (h2 : (xs.all tupB || xs.all noTup) = true) : sortL xs = some (.list (srt xs)) := by
  unfold sortL
  rw [h, h2]; rfl
theorem alikeL_of {α : Type} {f : α → PyData} {l : List α} (h1 : ∀ a ∈ l, ∀ b ∈ l, PySem.W.alike (f a) (f b) = true) (h2 : ∀ a ∈ l, isNoneB (f a) = false) (h3 : ∀ a ∈ l, plainD DEEP (f a) = true) : alikeL (l.map f) = true := by
  unfold alikeL
  rw [Bool.and_eq_true, Bool.and_eq_true, List.all_eq_true, List.all_eq_true, List.all_eq_true]
  refine ⟨⟨fun x hx => ?_, fun x hx => ?_⟩, fun x hx => ?_⟩
  · obtain ⟨a, ha, rfl⟩ := List.mem_map.mp hx
    rw [List.all_eq_true]
    intro y hy
    obtain ⟨b, hb, rfl⟩ := List.mem_map.mp hy
    exact h1 a ha b hb
  · obtain ⟨a, ha, rfl⟩ := List.mem_map.mp hx
    rw [h2 a ha]; rfl
  · obtain ⟨a, ha, rfl⟩ := List.mem_map.mp hx
    exact h3 a ha
theorem bMin_data {x : PyData} {xs : List PyData} (hn : ∀ i, x ≠ .int i) (h : alikeL (x :: xs) = true) : bMin [.list (x :: xs)] = some (PySem.W.minD x xs) := by
  show (match intsOf (x :: xs) with
    | some (a :: r) => some (PyData.int (minI a r))
    | _ => minL (x :: xs)) = _
  have : intsOf (x :: xs) = none := by cases x <;> first | rfl | exact absurd rfl (hn _)
  rw [this]; exact minL_of h
theorem bMax_data {x : PyData} {xs : List PyData} (hn : ∀ i, x ≠ .int i) (h : alikeL (x :: xs) = true) : bMax [.list (x :: xs)] = some (PySem.W.maxD x xs) := by
  show (match intsOf (x :: xs) with
    | some (a :: r) => some (PyData.int (maxI a r))
    | _ => maxL (x :: xs)) = _
  have : intsOf (x :: xs) = none := by cases x <;> first | rfl | exact absurd rfl (hn _)
  rw [this]; exact maxL_of h
theorem bSorted_data {x : PyData} {xs : List PyData} (hn : ∀ i, x ≠ .int i) (h : alikeL (x :: xs) = true) (h2 : ((x :: xs).all tupB || (x :: xs).all noTup) = true) : bSorted [.list (x :: xs)] = some (.list (srt (x :: xs))) := by
  show (match intsOf (x :: xs) with
    | some ns => some (PyData.list ((sortI ns).map .int))
    | none => sortL (x :: xs)) = _
  have : intsOf (x :: xs) = none := by cases x <;> first | rfl | exact absurd rfl (hn _)
  rw [this]; exact sortL_of h h2
theorem maxI_spec' : ∀ (r : List Int) (a : Int), (maxI a r = a ∨ maxI a r ∈ r) ∧ a ≤ maxI a r ∧ ∀ x ∈ r, x ≤ maxI a r
  | [], a => ⟨.inl rfl, Int.le_refl _, fun _ h => by cases h⟩
  | b :: r, a => by
    have h := maxI_spec' r (max a b)
    show (maxI (max a b) r = a ∨ maxI (max a b) r ∈ b :: r) ∧ a ≤ maxI (max a b) r ∧ _
    refine ⟨?_, by omega, fun x hx => ?_⟩
    · rcases h.1 with h1 | h1
      · rw [h1]
        rcases Int.le_total a b with q | q
        · rw [Int.max_eq_right q]; exact .inr List.mem_cons_self
        · rw [Int.max_eq_left q]; exact .inl rfl
      · exact .inr (List.mem_cons_of_mem _ h1)
    · rcases List.mem_cons.mp hx with rfl | hx
      · show x ≤ maxI (max a x) r
        omega
      · exact h.2.2 x hx
end Gg

end
section
/-! K70: the defs of the law's text, compiled. -/
namespace K70
open PySem PySem.Spec PyProof.Rows L2 Gg
def top (i : Nat) : Stmt := PySem.Challenge.pw_doneorundone_k70_whole_tries_added_and_s.main.body.getD i (.Pass ⟨0, 0, 0, 0⟩)
def glb : List (Str × PyData) := [("MAX_SIZE", (.int 1000000000000)), ("MAX_STEPS", (.int 20)), ("MAX_TRIES", (.int 60)), ("MAX_ODDS", (.int 1000))]
/-! ### is_integer -/
noncomputable def B_is_integer : SM :=
  sRet (eAnd (eIsi "int" (eVar 0)) (eNot (eIsi "bool" (eVar 0))))
noncomputable def F_is_integer : Fn := sealF (mkFn 1 1 B_is_integer)
def N_is_integer : List Str := ["value"]
noncomputable def T_is_integer : List (Str × Fn) := []
theorem c_is_integer : compSs 100 (fnCc N_is_integer (defScope (top 9)) T_is_integer glb [] 0) (defBody (top 9)) = some B_is_integer := by kernel_rfl
/-! ### is_between -/
noncomputable def B_is_between : SM :=
  sRet (eAnd (eCall F_is_integer [eVar 0]) (eChain leD leD (eVar 1) (eVar 0) (eVar 2)))
noncomputable def F_is_between : Fn := sealF (mkFn 3 3 B_is_between)
def N_is_between : List Str := ["value", "low", "high"]
noncomputable def T_is_between : List (Str × Fn) := [("is_integer", F_is_integer)]
theorem c_is_between : compSs 100 (fnCc N_is_between (defScope (top 10)) T_is_between glb [] 0) (defBody (top 10)) = some B_is_between := by kernel_rfl
/-! ### common_divisor -/
noncomputable def b1_common_divisor : SM :=
  sPar [tName 0, tName 1] [eVar 1, eBin subD (eVar 0) (eBin mulD (eBin fdivD (eVar 0) (eVar 1)) (eVar 1))]
noncomputable def B_common_divisor : SM :=
  sSeq (sPar [tName 0, tName 1] [eBi bAbs [eVar 0], eBi bAbs [eVar 1]]) (sSeq (sWhile (eVar 1) b1_common_divisor) (sRet (eVar 0)))
noncomputable def F_common_divisor : Fn := sealF (mkFn 2 2 B_common_divisor)
def N_common_divisor : List Str := ["one", "other"]
noncomputable def T_common_divisor : List (Str × Fn) := []
theorem c_common_divisor : compSs 100 (fnCc N_common_divisor (defScope (top 12)) T_common_divisor glb [] 0) (defBody (top 12)) = some B_common_divisor := by kernel_rfl
/-! ### check_odds -/
noncomputable def B_check_odds : SM :=
  sSeq (sIf (eOr (eNot (eIsi "tuple" (eVar 0))) (eOr (eBin neD (eLen (eVar 0)) (eCon (.int 2))) (eNot (eCall F_is_between [eIx (eVar 0) (eCon (.int 1)), eCon (.int 1), eCon (.int 1000)])))) sNever sPass) (sIf (eNot (eCall F_is_between [eIx (eVar 0) (eCon (.int 0)), eCon (.int 0), eIx (eVar 0) (eCon (.int 1))])) sNever sPass)
noncomputable def F_check_odds : Fn := sealF (mkFn 2 2 B_check_odds)
def N_check_odds : List Str := ["odds", "reason"]
noncomputable def T_check_odds : List (Str × Fn) := [("is_between", F_is_between)]
theorem c_check_odds : compSs 100 (fnCc N_check_odds (defScope (top 14)) T_check_odds glb [] 0) (defBody (top 14)) = some B_check_odds := by kernel_rfl
/-! ### check_tries -/
noncomputable def B_check_tries : SM :=
  sIf (eNot (eCall F_is_between [eVar 0, eCon (.int 0), eCon (.int 60)])) sNever sPass
noncomputable def F_check_tries : Fn := sealF (mkFn 1 1 B_check_tries)
def N_check_tries : List Str := ["tries"]
noncomputable def T_check_tries : List (Str × Fn) := [("is_between", F_is_between)]
theorem c_check_tries : compSs 100 (fnCc N_check_tries (defScope (top 15)) T_check_tries glb [] 0) (defBody (top 15)) = some B_check_tries := by kernel_rfl
/-! ### quotient -/
noncomputable def B_quotient : SM :=
  sSeq (sAsg (tName 2) (eCall F_common_divisor [eVar 0, eVar 1])) (sRet (eTup [eBin fdivD (eVar 0) (eVar 2), eBin fdivD (eVar 1) (eVar 2)]))
noncomputable def F_quotient : Fn := sealF (mkFn 2 3 B_quotient)
def N_quotient : List Str := ["up", "down", "common"]
noncomputable def T_quotient : List (Str × Fn) := [("common_divisor", F_common_divisor)]
theorem c_quotient : compSs 100 (fnCc N_quotient (defScope (top 16)) T_quotient glb [] 0) (defBody (top 16)) = some B_quotient := by kernel_rfl
/-! ### power -/
noncomputable def b1_power : SM :=
  sAug 2 mulInt (eVar 0)
noncomputable def B_power : SM :=
  sSeq (sAsg (tName 2) (eCon (.int 1))) (sSeq (sFor (tName 3) (iRange [eVar 1]) b1_power) (sRet (eVar 2)))
noncomputable def F_power : Fn := sealF (mkFn 2 4 B_power)
def N_power : List Str := ["base", "many", "found", "turn"]
noncomputable def T_power : List (Str × Fn) := []
theorem c_power : compSs 100 (fnCc N_power (defScope (top 17)) T_power glb [] 0) (defBody (top 17)) = some B_power := by kernel_rfl
/-! ### chance_of -/
noncomputable def B_chance_of : SM :=
  sSeq (sAsg (tName 2) (eCall F_power [eIx (eVar 0) (eCon (.int 1)), eVar 1])) (sRet (eTup [eBin subD (eVar 2) (eCall F_power [eBin subD (eIx (eVar 0) (eCon (.int 1))) (eIx (eVar 0) (eCon (.int 0))), eVar 1]), eVar 2]))
noncomputable def F_chance_of : Fn := sealF (mkFn 2 3 B_chance_of)
def N_chance_of : List Str := ["odds", "tries", "whole"]
noncomputable def T_chance_of : List (Str × Fn) := [("power", F_power)]
theorem c_chance_of : compSs 100 (fnCc N_chance_of (defScope (top 18)) T_chance_of glb [] 0) (defBody (top 18)) = some B_chance_of := by kernel_rfl
/-! ### chance_within -/
noncomputable def B_chance_within : SM :=
  sSeq (sDrop (eCall F_check_odds [eVar 0, eCon (.str "odds")])) (sSeq (sDrop (eCall F_check_tries [eVar 1])) (sSeq (sAsg (tName 2) (eCall F_chance_of [eVar 0, eVar 1])) (sRet (eCall F_quotient [eIx (eVar 2) (eCon (.int 0)), eIx (eVar 2) (eCon (.int 1))]))))
noncomputable def F_chance_within : Fn := sealF (mkFn 2 3 B_chance_within)
def N_chance_within : List Str := ["odds", "tries", "own"]
noncomputable def T_chance_within : List (Str × Fn) := [("check_odds", F_check_odds), ("check_tries", F_check_tries), ("chance_of", F_chance_of), ("quotient", F_quotient)]
theorem c_chance_within : compSs 100 (fnCc N_chance_within (defScope (top 19)) T_chance_within glb [] 0) (defBody (top 19)) = some B_chance_within := by kernel_rfl
/-! ### chance_at -/
noncomputable def B_chance_at : SM :=
  sSeq (sDrop (eCall F_check_odds [eVar 0, eCon (.str "odds")])) (sSeq (sIf (eNot (eCall F_is_between [eVar 1, eCon (.int 1), eCon (.int 60)])) sNever sPass) (sRet (eCall F_quotient [eBin mulD (eIx (eVar 0) (eCon (.int 0))) (eCall F_power [eBin subD (eIx (eVar 0) (eCon (.int 1))) (eIx (eVar 0) (eCon (.int 0))), eBin subD (eVar 1) (eCon (.int 1))]), eCall F_power [eIx (eVar 0) (eCon (.int 1)), eVar 1]])))
noncomputable def F_chance_at : Fn := sealF (mkFn 2 2 B_chance_at)
def N_chance_at : List Str := ["odds", "number"]
noncomputable def T_chance_at : List (Str × Fn) := [("check_odds", F_check_odds), ("is_between", F_is_between), ("quotient", F_quotient), ("power", F_power)]
theorem c_chance_at : compSs 100 (fnCc N_chance_at (defScope (top 20)) T_chance_at glb [] 0) (defBody (top 20)) = some B_chance_at := by kernel_rfl
/-! ### mean_tries -/
noncomputable def b1_mean_tries : SM :=
  sPar [tName 2, tName 3] [eBin addD (eBin mulD (eVar 2) (eIx (eVar 0) (eCon (.int 1)))) (eBin mulD (eCall F_power [eBin subD (eIx (eVar 0) (eCon (.int 1))) (eIx (eVar 0) (eCon (.int 0))), eVar 4]) (eIx (eVar 0) (eCon (.int 1)))), eBin mulD (eVar 3) (eIx (eVar 0) (eCon (.int 1)))]
noncomputable def B_mean_tries : SM :=
  sSeq (sDrop (eCall F_check_odds [eVar 0, eCon (.str "odds")])) (sSeq (sDrop (eCall F_check_tries [eVar 1])) (sSeq (sPar [tName 2, tName 3] [eCon (.int 0), eCon (.int 1)]) (sSeq (sFor (tName 4) (iRange [eVar 1]) b1_mean_tries) (sRet (eCall F_quotient [eVar 2, eVar 3])))))
noncomputable def F_mean_tries : Fn := sealF (mkFn 2 5 B_mean_tries)
def N_mean_tries : List Str := ["odds", "tries", "up", "down", "turn"]
noncomputable def T_mean_tries : List (Str × Fn) := [("check_odds", F_check_odds), ("check_tries", F_check_tries), ("power", F_power), ("quotient", F_quotient)]
theorem c_mean_tries : compSs 100 (fnCc N_mean_tries (defScope (top 21)) T_mean_tries glb [] 0) (defBody (top 21)) = some B_mean_tries := by kernel_rfl
/-! ### is_less -/
noncomputable def B_is_less : SM :=
  sRet (eBin ltD (eBin mulD (eIx (eVar 0) (eCon (.int 0))) (eIx (eVar 1) (eCon (.int 1)))) (eBin mulD (eIx (eVar 1) (eCon (.int 0))) (eIx (eVar 0) (eCon (.int 1)))))
noncomputable def F_is_less : Fn := sealF (mkFn 2 2 B_is_less)
def N_is_less : List Str := ["one", "other"]
noncomputable def T_is_less : List (Str × Fn) := []
theorem c_is_less : compSs 100 (fnCc N_is_less (defScope (top 22)) T_is_less glb [] 0) (defBody (top 22)) = some B_is_less := by kernel_rfl
/-! ### least_tries -/
noncomputable def t1_least_tries : EM :=
  eNot (eCall F_is_less [eCall F_chance_of [eVar 0, eVar 3], eVar 1])
noncomputable def B_least_tries : SM :=
  sSeq (sDrop (eCall F_check_odds [eVar 0, eCon (.str "odds")])) (sSeq (sDrop (eCall F_check_odds [eVar 1, eCon (.str "goal")])) (sSeq (sAsg (tName 2) (eLst (lComp (eVar 3) (tName 3) (iRange [eBin addD (eCon (.int 60)) (eCon (.int 1))]) [t1_least_tries] [3]))) (sRet (eIte (eVar 2) (eIx (eVar 2) (eCon (.int 0))) (eCon .none)))))
noncomputable def F_least_tries : Fn := sealF (mkFn 2 4 B_least_tries)
def N_least_tries : List Str := ["odds", "goal", "good", "tries"]
noncomputable def T_least_tries : List (Str × Fn) := [("check_odds", F_check_odds), ("is_less", F_is_less), ("chance_of", F_chance_of)]
theorem c_least_tries : compSs 100 (fnCc N_least_tries (defScope (top 23)) T_least_tries glb [] 0) (defBody (top 23)) = some B_least_tries := by kernel_rfl
/-! ### check_rule -/
noncomputable def e1_check_rule : EM :=
  eCall F_is_between [eVar 1, eCon (.int 0), eCon (.int 1000000000000)]
noncomputable def B_check_rule : SM :=
  sSeq (sIf (eOr (eNot (eIsi "tuple" (eVar 0))) (eOr (eBin neD (eLen (eVar 0)) (eCon (.int 3))) (eNot (eBi bAll [eLst (lComp e1_check_rule (tName 1) (iSeq (eVar 0)) [] [1])])))) sNever sPass) (sIf (eOr (eBin ltD (eIx (eVar 0) (eCon (.int 1))) (eCon (.int 1))) (eBin gtD (eIx (eVar 0) (eCon (.int 0))) (eIx (eVar 0) (eCon (.int 2))))) sNever sPass)
noncomputable def F_check_rule : Fn := sealF (mkFn 1 2 B_check_rule)
def N_check_rule : List Str := ["rule", "own"]
noncomputable def T_check_rule : List (Str × Fn) := [("is_between", F_is_between)]
theorem c_check_rule : compSs 100 (fnCc N_check_rule (defScope (top 24)) T_check_rule glb [] 0) (defBody (top 24)) = some B_check_rule := by kernel_rfl
/-! ### check_long -/
noncomputable def B_check_long : SM :=
  sIf (eNot (eCall F_is_between [eVar 0, eCon (.int 0), eCon (.int 1000000000000)])) sNever sPass
noncomputable def F_check_long : Fn := sealF (mkFn 1 1 B_check_long)
def N_check_long : List Str := ["long"]
noncomputable def T_check_long : List (Str × Fn) := [("is_between", F_is_between)]
theorem c_check_long : compSs 100 (fnCc N_check_long (defScope (top 25)) T_check_long glb [] 0) (defBody (top 25)) = some B_check_long := by kernel_rfl
/-! ### waits_of -/
noncomputable def b1_waits_of : SM :=
  sApp (eVar 2) (eIte (eBin eqD (eVar 3) (eCon (.int 0))) (eIx (eVar 0) (eCon (.int 0))) (eBi bMin [eIx (eVar 0) (eCon (.int 2)), eBin mulD (eIx (eVar 2) (eUn negD (eCon (.int 1)))) (eIx (eVar 0) (eCon (.int 1)))]))
noncomputable def B_waits_of : SM :=
  sSeq (sAsg (tName 2) (eNew (lDisp []))) (sSeq (sFor (tName 3) (iRange [eVar 1]) b1_waits_of) (sRet (eFrz 2)))
noncomputable def F_waits_of : Fn := sealF (mkFn 2 4 B_waits_of)
def N_waits_of : List Str := ["rule", "many", "found", "turn"]
noncomputable def T_waits_of : List (Str × Fn) := []
theorem c_waits_of : compSs 100 (fnCc N_waits_of (defScope (top 26)) T_waits_of glb [("found", 1)] 0) (defBody (top 26)) = some B_waits_of := by kernel_rfl
/-! ### begins -/
noncomputable def b1_begins : SM :=
  sApp (eVar 3) (eIte (eVar 3) (eBin addD (eBin addD (eIx (eVar 3) (eUn negD (eCon (.int 1)))) (eVar 1)) (eVar 4)) (eCon (.int 0)))
noncomputable def B_begins : SM :=
  sSeq (sDrop (eCall F_check_rule [eVar 0])) (sSeq (sDrop (eCall F_check_long [eVar 1])) (sSeq (sDrop (eCall F_check_tries [eVar 2])) (sSeq (sAsg (tName 3) (eNew (lDisp []))) (sSeq (sFor (tName 4) (iSeq (eIte (eBin gtD (eVar 2) (eCon (.int 0))) (eBin addD (eLst (lDisp [eCon (.int 0)])) (eCall F_waits_of [eVar 0, eBin subD (eVar 2) (eCon (.int 1))])) (eLst (lDisp [])))) b1_begins) (sRet (eBi bTuple [eVar 3]))))))
noncomputable def F_begins : Fn := sealF (mkFn 3 5 B_begins)
def N_begins : List Str := ["rule", "long", "tries", "found", "wait"]
noncomputable def T_begins : List (Str × Fn) := [("check_rule", F_check_rule), ("check_long", F_check_long), ("check_tries", F_check_tries), ("waits_of", F_waits_of)]
theorem c_begins : compSs 100 (fnCc N_begins (defScope (top 27)) T_begins glb [("found", 1)] 0) (defBody (top 27)) = some B_begins := by kernel_rfl
/-! ### most_tries -/
noncomputable def e1_most_tries : EM :=
  eCon (.int 1)
noncomputable def t1_most_tries : EM :=
  eBin leD (eBin addD (eVar 3) (eVar 1)) (eVar 2)
noncomputable def B_most_tries : SM :=
  sSeq (sDrop (eCall F_check_rule [eVar 0])) (sSeq (sDrop (eCall F_check_long [eVar 1])) (sSeq (sIf (eNot (eCall F_is_between [eVar 2, eCon (.int 0), eCon (.int 1000000000000)])) sNever sPass) (sRet (eLen (eLst (lComp e1_most_tries (tName 3) (iSeq (eCall F_begins [eVar 0, eVar 1, eCon (.int 60)])) [t1_most_tries] [3]))))))
noncomputable def F_most_tries : Fn := sealF (mkFn 3 4 B_most_tries)
def N_most_tries : List Str := ["rule", "long", "end", "own"]
noncomputable def T_most_tries : List (Str × Fn) := [("check_rule", F_check_rule), ("check_long", F_check_long), ("is_between", F_is_between), ("begins", F_begins)]
theorem c_most_tries : compSs 100 (fnCc N_most_tries (defScope (top 28)) T_most_tries glb [] 0) (defBody (top 28)) = some B_most_tries := by kernel_rfl
/-! ### check_rows -/
noncomputable def b1_check_rows : SM :=
  sSeq (sDrop (eCall F_check_odds [eVar 1, eCon (.str "odds")])) sPass
noncomputable def B_check_rows : SM :=
  sSeq (sIf (eOr (eNot (eIsi "tuple" (eVar 0))) (eNot (eChain leD leD (eCon (.int 1)) (eLen (eVar 0)) (eCon (.int 20))))) sNever sPass) (sFor (tName 1) (iSeq (eVar 0)) b1_check_rows)
noncomputable def F_check_rows : Fn := sealF (mkFn 1 2 B_check_rows)
def N_check_rows : List Str := ["rows", "own"]
noncomputable def T_check_rows : List (Str × Fn) := [("check_odds", F_check_odds)]
theorem c_check_rows : compSs 100 (fnCc N_check_rows (defScope (top 29)) T_check_rows glb [] 0) (defBody (top 29)) = some B_check_rows := by kernel_rfl
/-! ### check_shares -/
noncomputable def e1_check_shares : EM :=
  eCall F_is_integer [eVar 2]
noncomputable def B_check_shares : SM :=
  sSeq (sIf (eOr (eNot (eIsi "tuple" (eVar 1))) (eOr (eBin neD (eLen (eVar 1)) (eLen (eVar 0))) (eNot (eBi bAll [eLst (lComp e1_check_shares (tName 2) (iSeq (eVar 1)) [] [2])])))) sNever sPass) (sIf (eOr (eBin ltD (eBi bMin [eVar 1]) (eCon (.int 1))) (eBin gtD (eBi bSum [eVar 1]) (eCon (.int 60)))) sNever sPass)
noncomputable def F_check_shares : Fn := sealF (mkFn 2 3 B_check_shares)
def N_check_shares : List Str := ["rows", "shares", "own"]
noncomputable def T_check_shares : List (Str × Fn) := [("is_integer", F_is_integer)]
theorem c_check_shares : compSs 100 (fnCc N_check_shares (defScope (top 30)) T_check_shares glb [] 0) (defBody (top 30)) = some B_check_shares := by kernel_rfl
/-! ### product_of -/
noncomputable def b1_product_of : SM :=
  sSeq (sAsg (tName 6) (eCall F_chance_of [eVar 4, eVar 5])) (sPar [tName 2, tName 3] [eBin mulD (eVar 2) (eIx (eVar 6) (eCon (.int 0))), eBin mulD (eVar 3) (eIx (eVar 6) (eCon (.int 1)))])
noncomputable def B_product_of : SM :=
  sSeq (sPar [tName 2, tName 3] [eCon (.int 1), eCon (.int 1)]) (sSeq (sFor (tTup [tName 4, tName 5]) (iZip (eVar 0) (eVar 1)) b1_product_of) (sRet (eTup [eVar 2, eVar 3])))
noncomputable def F_product_of : Fn := sealF (mkFn 2 7 B_product_of)
def N_product_of : List Str := ["rows", "shares", "up", "down", "odds", "tries", "own"]
noncomputable def T_product_of : List (Str × Fn) := [("chance_of", F_chance_of)]
theorem c_product_of : compSs 100 (fnCc N_product_of (defScope (top 31)) T_product_of glb [] 0) (defBody (top 31)) = some B_product_of := by kernel_rfl
/-! ### chance_of_all -/
noncomputable def B_chance_of_all : SM :=
  sSeq (sDrop (eCall F_check_rows [eVar 0])) (sSeq (sDrop (eCall F_check_shares [eVar 0, eVar 1])) (sSeq (sAsg (tName 2) (eCall F_product_of [eVar 0, eVar 1])) (sRet (eCall F_quotient [eIx (eVar 2) (eCon (.int 0)), eIx (eVar 2) (eCon (.int 1))]))))
noncomputable def F_chance_of_all : Fn := sealF (mkFn 2 3 B_chance_of_all)
def N_chance_of_all : List Str := ["rows", "shares", "own"]
noncomputable def T_chance_of_all : List (Str × Fn) := [("check_rows", F_check_rows), ("check_shares", F_check_shares), ("product_of", F_product_of), ("quotient", F_quotient)]
theorem c_chance_of_all : compSs 100 (fnCc N_chance_of_all (defScope (top 32)) T_chance_of_all glb [] 0) (defBody (top 32)) = some B_chance_of_all := by kernel_rfl
/-! ### best_shares -/
noncomputable def e1_best_shares : EM :=
  eCon (.int 1)
noncomputable def t1_best_shares : EM :=
  eBin eqD (eIx (eVar 7) (eCon (.int 0))) (eCon (.int 0))
noncomputable def e2_best_shares : EM :=
  eCall F_chance_of [eIx (eVar 0) (eVar 3), eVar 7]
noncomputable def b1_best_shares : SM :=
  sIf (eInK false (eBin subD (eVar 6) (eVar 7)) (eVar 2)) (sSeq (sAsg (tName 8) (eIx (eVar 2) (eBin subD (eVar 6) (eVar 7)))) (sSeq (sAsg (tName 9) (eTup [eBin mulD (eIx (eIx (eVar 4) (eVar 7)) (eCon (.int 0))) (eIx (eIx (eVar 8) (eCon (.int 0))) (eCon (.int 0))), eBin mulD (eIx (eIx (eVar 4) (eVar 7)) (eCon (.int 1))) (eIx (eIx (eVar 8) (eCon (.int 0))) (eCon (.int 1)))])) (sIf (eOr (eInK true (eVar 6) (eVar 5)) (eCall F_is_less [eIx (eIx (eVar 5) (eVar 6)) (eCon (.int 0)), eVar 9])) (sAsg (tSub (eVar 5) (eVar 6)) (eTup [eVar 9, eBin addD (eTup [eVar 7]) (eIx (eVar 8) (eCon (.int 1)))])) sPass))) sPass
noncomputable def b2_best_shares : SM :=
  sFor (tName 7) (iRange [eCon (.int 1), eLen (eVar 4)]) b1_best_shares
noncomputable def b3_best_shares : SM :=
  sSeq (sAsg (tName 4) (eLst (lComp e2_best_shares (tName 7) (iRange [eBin addD (eBin subD (eVar 1) (eLen (eVar 0))) (eCon (.int 2))]) [] [7]))) (sSeq (sAsg (tName 5) (eDct [])) (sSeq (sFor (tName 6) (iRange [eBin subD (eLen (eVar 0)) (eVar 3), eBin addD (eBin subD (eVar 1) (eVar 3)) (eCon (.int 1))]) b2_best_shares) (sAsg (tName 2) (eVar 5))))
noncomputable def B_best_shares : SM :=
  sSeq (sDrop (eCall F_check_rows [eVar 0])) (sSeq (sDrop (eCall F_check_tries [eVar 1])) (sSeq (sIf (eBin ltD (eVar 1) (eLen (eVar 0))) (sRet (eCon .none)) sPass) (sSeq (sIf (eLst (lComp e1_best_shares (tName 7) (iSeq (eVar 0)) [t1_best_shares] [7])) (sRet (eTup [eTup [eCon (.int 0), eCon (.int 1)], eBin addD (eBin mulD (eTup [eCon (.int 1)]) (eBin subD (eLen (eVar 0)) (eCon (.int 1)))) (eTup [eBin addD (eBin subD (eVar 1) (eLen (eVar 0))) (eCon (.int 1))])])) sPass) (sSeq (sAsg (tName 2) (eDct [(eCon (.int 0), eTup [eTup [eCon (.int 1), eCon (.int 1)], eTup []])])) (sSeq (sFor (tName 3) (iRange [eBin subD (eLen (eVar 0)) (eCon (.int 1)), eUn negD (eCon (.int 1)), eUn negD (eCon (.int 1))]) b3_best_shares) (sSeq (sAsg (tTup [tName 9, tName 10]) (eIx (eVar 2) (eVar 1))) (sRet (eTup [eCall F_quotient [eIx (eVar 9) (eCon (.int 0)), eIx (eVar 9) (eCon (.int 1))], eVar 10]))))))))
noncomputable def F_best_shares : Fn := sealF (mkFn 2 11 B_best_shares)
def N_best_shares : List Str := ["rows", "tries", "best", "at", "chances", "further", "many", "own", "told", "odds", "shares"]
noncomputable def T_best_shares : List (Str × Fn) := [("check_rows", F_check_rows), ("check_tries", F_check_tries), ("chance_of", F_chance_of), ("is_less", F_is_less), ("quotient", F_quotient)]
theorem c_best_shares : compSs 100 (fnCc N_best_shares (defScope (top 33)) T_best_shares glb [("best", 9), ("further", 9)] 0) (defBody (top 33)) = some B_best_shares := by kernel_rfl
/-! ### moved_try -/
noncomputable def e1_moved_try : EM :=
  eBin addD (eBin subD (eVar 4) (eBi bInt [eBin eqD (eVar 3) (eVar 1)])) (eBi bInt [eBin eqD (eVar 3) (eVar 2)])
noncomputable def B_moved_try : SM :=
  sRet (eBi bTuple [eLst (lComp e1_moved_try (tTup [tName 3, tName 4]) (iEnum (eVar 0)) [] [3, 4])])
noncomputable def F_moved_try : Fn := sealF (mkFn 3 5 B_moved_try)
def N_moved_try : List Str := ["shares", "one", "other", "at", "own"]
noncomputable def T_moved_try : List (Str × Fn) := []
theorem c_moved_try : compSs 100 (fnCc N_moved_try (defScope (top 34)) T_moved_try glb [] 0) (defBody (top 34)) = some B_moved_try := by kernel_rfl
/-! ### judge_shares -/
noncomputable def b1_judge_shares : SM :=
  sIf (eAnd (eBin neD (eVar 3) (eVar 4)) (eAnd (eBin gtD (eIx (eVar 1) (eVar 3)) (eCon (.int 1))) (eCall F_is_less [eVar 2, eCall F_product_of [eVar 0, eCall F_moved_try [eVar 1, eVar 3, eVar 4]]]))) (sRet (eTup [eCon (.str "better"), eVar 3, eVar 4])) sPass
noncomputable def b2_judge_shares : SM :=
  sFor (tName 4) (iRange [eLen (eVar 0)]) b1_judge_shares
noncomputable def B_judge_shares : SM :=
  sSeq (sDrop (eCall F_check_rows [eVar 0])) (sSeq (sDrop (eCall F_check_shares [eVar 0, eVar 1])) (sSeq (sAsg (tName 2) (eCall F_product_of [eVar 0, eVar 1])) (sSeq (sFor (tName 3) (iRange [eLen (eVar 0)]) b2_judge_shares) (sRet (eTup [eCon (.str "best")])))))
noncomputable def F_judge_shares : Fn := sealF (mkFn 2 5 B_judge_shares)
def N_judge_shares : List Str := ["rows", "shares", "own", "one", "other"]
noncomputable def T_judge_shares : List (Str × Fn) := [("check_rows", F_check_rows), ("check_shares", F_check_shares), ("product_of", F_product_of), ("is_less", F_is_less), ("moved_try", F_moved_try)]
theorem c_judge_shares : compSs 100 (fnCc N_judge_shares (defScope (top 35)) T_judge_shares glb [] 0) (defBody (top 35)) = some B_judge_shares := by kernel_rfl
/-! ### _law_start -/
noncomputable def b1__law_start : SM :=
  sAsg (tName 1) (eBin addD (eBin modD (eBi bInt [eBin addD (eBin mulD (eVar 1) (eCon (.int 48271))) (eVar 2)]) (eCon (.int 2147483629))) (eCon (.int 1)))
noncomputable def e1__law_start : EM :=
  eBi bAbs [eBi bInt [eVar 2]]
noncomputable def B__law_start : SM :=
  sSeq (sAsg (tName 1) (eCon (.int 7))) (sSeq (sFor (tName 2) (iSeq (eSl (eVar 0) none (some (eCon (.int 63))))) b1__law_start) (sRet (eNew (lDisp [eLst (lComp e1__law_start (tName 2) (iSeq (eSl (eVar 0) none (some (eCon (.int 63))))) [] [2]), eCon (.int 0), eCon (.int 0), eCon (.int 0), eVar 1, eCon (.int 0)]))))
noncomputable def F__law_start : Fn := sealF (mkFn 1 3 B__law_start)
def N__law_start : List Str := ["script", "seed", "cell"]
noncomputable def T__law_start : List (Str × Fn) := []
theorem c__law_start : compSs 100 (fnCc N__law_start (defScope (top 37)) T__law_start glb [] 1) (defBody (top 37)) = some B__law_start := by kernel_rfl
/-! ### _law_draw -/
noncomputable def B__law_draw : SM :=
  sSeq (sIf (eAnd (eBin eqD (eIx (eVar 0) (eCon (.int 3))) (eCon (.int 0))) (eBin ltD (eIx (eVar 0) (eCon (.int 1))) (eLen (eIx (eVar 0) (eCon (.int 0)))))) (sPar [tSub (eVar 0) (eCon (.int 2)), tSub (eVar 0) (eCon (.int 3)), tSub (eVar 0) (eCon (.int 1))] [eIx (eIx (eVar 0) (eCon (.int 0))) (eIx (eVar 0) (eCon (.int 1))), eCon (.int 60), eBin addD (eIx (eVar 0) (eCon (.int 1))) (eCon (.int 1))]) sPass) (sSeq (sIf (eBin gtD (eIx (eVar 0) (eCon (.int 3))) (eCon (.int 0))) (sSeq (sAsg (tName 2) (eBin modD (eBi bInt [eIx (eVar 0) (eCon (.int 2))]) (eVar 1))) (sSeq (sAsg (tSub (eVar 0) (eCon (.int 2))) (eBin fdivD (eIx (eVar 0) (eCon (.int 2))) (eVar 1))) (sSeq (sAsg (tSub (eVar 0) (eCon (.int 3))) (eIte (eBin gtD (eIx (eVar 0) (eCon (.int 2))) (eCon (.int 0))) (eBin subD (eIx (eVar 0) (eCon (.int 3))) (eCon (.int 1))) (eCon (.int 0)))) (sRet (eVar 2))))) sPass) (sSeq (sAsg (tSub (eVar 0) (eCon (.int 5))) (eBin addD (eIx (eVar 0) (eCon (.int 5))) (eCon (.int 1)))) (sSeq (sAsg (tSub (eVar 0) (eCon (.int 4))) (eBin modD (eBi bInt [eBin addD (eBin addD (eBin mulD (eIx (eVar 0) (eCon (.int 4))) (eCon (.int 48271))) (eBin mulD (eBin mulD (eIx (eVar 0) (eCon (.int 5))) (eIx (eVar 0) (eCon (.int 5)))) (eCon (.int 69621)))) (eCon (.int 11))]) (eCon (.int 2147483647)))) (sRet (eBin modD (eBi bInt [eBin fdivD (eIx (eVar 0) (eCon (.int 4))) (eCon (.int 13))]) (eVar 1))))))
noncomputable def F__law_draw : Fn := sealF (mkFn 2 3 B__law_draw)
def N__law_draw : List Str := ["state", "many", "found"]
noncomputable def T__law_draw : List (Str × Fn) := []
theorem c__law_draw : compSs 100 (fnCc N__law_draw (defScope (top 38)) T__law_draw glb [] 0) (defBody (top 38)) = some B__law_draw := by kernel_rfl
/-! ### _law_same -/
noncomputable def B__law_same : SM :=
  sRet (eAnd (eBin eqD (eVar 0) (eVar 1)) (eBin eqD (eBi bRepr [eVar 0]) (eBi bRepr [eVar 1])))
noncomputable def F__law_same : Fn := sealF (mkFn 2 2 B__law_same)
def N__law_same : List Str := ["actual", "due"]
noncomputable def T__law_same : List (Str × Fn) := []
theorem c__law_same : compSs 100 (fnCc N__law_same (defScope (top 39)) T__law_same glb [] 0) (defBody (top 39)) = some B__law_same := by kernel_rfl
/-! ### _law_order -/
noncomputable def b1__law_order : SM :=
  sSeq (sAsg (tName 4) (eCall F__law_draw [eVar 0, eLen (eVar 1)])) (sSeq (sApp (eVar 2) (eIx (eVar 1) (eVar 4))) (sAsg (tName 1) (eBin addD (eSl (eVar 1) none (some (eVar 4))) (eSl (eVar 1) (some (eBin addD (eVar 4) (eCon (.int 1)))) none))))
noncomputable def B__law_order : SM :=
  sSeq (sPar [tName 1, tName 2] [eLst (lOf (eVar 1)), eNew (lDisp [])]) (sSeq (sFor (tName 3) (iRange [eLen (eVar 1)]) b1__law_order) (sRet (eFrz 2)))
noncomputable def F__law_order : Fn := sealF (mkFn 2 5 B__law_order)
def N__law_order : List Str := ["state", "rows", "found", "turn", "at"]
noncomputable def T__law_order : List (Str × Fn) := [("_law_draw", F__law_draw)]
theorem c__law_order : compSs 100 (fnCc N__law_order (defScope (top 40)) T__law_order glb [("found", 1)] 0) (defBody (top 40)) = some B__law_order := by kernel_rfl
/-! ### _law_divisor -/
noncomputable def b1__law_divisor : SM :=
  sPar [tName 0, tName 1] [eVar 1, eBin subD (eVar 0) (eBin mulD (eBin fdivD (eVar 0) (eVar 1)) (eVar 1))]
noncomputable def B__law_divisor : SM :=
  sSeq (sWhile (eVar 1) b1__law_divisor) (sRet (eBi bAbs [eVar 0]))
noncomputable def F__law_divisor : Fn := sealF (mkFn 2 2 B__law_divisor)
def N__law_divisor : List Str := ["one", "other"]
noncomputable def T__law_divisor : List (Str × Fn) := []
theorem c__law_divisor : compSs 100 (fnCc N__law_divisor (defScope (top 41)) T__law_divisor glb [] 0) (defBody (top 41)) = some B__law_divisor := by kernel_rfl
/-! ### _law_quotient -/
noncomputable def B__law_quotient : SM :=
  sSeq (sAsg (tName 2) (eCall F__law_divisor [eVar 0, eVar 1])) (sRet (eTup [eBin fdivD (eVar 0) (eVar 2), eBin fdivD (eVar 1) (eVar 2)]))
noncomputable def F__law_quotient : Fn := sealF (mkFn 2 3 B__law_quotient)
def N__law_quotient : List Str := ["up", "down", "common"]
noncomputable def T__law_quotient : List (Str × Fn) := [("_law_divisor", F__law_divisor)]
theorem c__law_quotient : compSs 100 (fnCc N__law_quotient (defScope (top 42)) T__law_quotient glb [] 0) (defBody (top 42)) = some B__law_quotient := by kernel_rfl
/-! ### _law_left -/
noncomputable def b1__law_left : SM :=
  sPar [tName 2, tName 3] [eBin mulD (eVar 2) (eBin subD (eIx (eVar 0) (eCon (.int 1))) (eIx (eVar 0) (eCon (.int 0)))), eBin mulD (eVar 3) (eIx (eVar 0) (eCon (.int 1)))]
noncomputable def B__law_left : SM :=
  sSeq (sPar [tName 2, tName 3] [eCon (.int 1), eCon (.int 1)]) (sSeq (sFor (tName 4) (iRange [eVar 1]) b1__law_left) (sRet (eCall F__law_quotient [eVar 2, eVar 3])))
noncomputable def F__law_left : Fn := sealF (mkFn 2 5 B__law_left)
def N__law_left : List Str := ["odds", "tries", "up", "down", "turn"]
noncomputable def T__law_left : List (Str × Fn) := [("_law_quotient", F__law_quotient)]
theorem c__law_left : compSs 100 (fnCc N__law_left (defScope (top 43)) T__law_left glb [] 0) (defBody (top 43)) = some B__law_left := by kernel_rfl
/-! ### _law_odds_hold -/
noncomputable def e1__law_odds_hold : EM :=
  eCall F_chance_within [eVar 2, eVar 15]
noncomputable def e2__law_odds_hold : EM :=
  eBin subD (eIx (eVar 15) (eCon (.int 1))) (eIx (eVar 15) (eCon (.int 0)))
noncomputable def b1__law_odds_hold : SM :=
  sSeq (sPar [tName 11, tName 12] [eCall F_chance_at [eVar 2, eVar 10], eCall F__law_left [eVar 2, eBin subD (eVar 10) (eCon (.int 1))]]) (sSeq (sIf (eBin neD (eVar 11) (eCall F__law_quotient [eBin mulD (eIx (eVar 12) (eCon (.int 0))) (eIx (eVar 2) (eCon (.int 0))), eBin mulD (eIx (eVar 12) (eCon (.int 1))) (eIx (eVar 2) (eCon (.int 1)))])) (sRet (eCon (.bool false))) sPass) (sSeq (sAsg (tTup [tName 7, tName 8]) (eCall F__law_quotient [eBin addD (eBin mulD (eVar 7) (eIx (eVar 11) (eCon (.int 1)))) (eBin mulD (eIx (eVar 11) (eCon (.int 0))) (eVar 8)), eBin mulD (eVar 8) (eIx (eVar 11) (eCon (.int 1)))])) (sAsg (tName 9) (eCall F__law_quotient [eBin addD (eBin mulD (eIx (eVar 9) (eCon (.int 0))) (eIx (eVar 12) (eCon (.int 1)))) (eBin mulD (eIx (eVar 12) (eCon (.int 0))) (eIx (eVar 9) (eCon (.int 1)))), eBin mulD (eIx (eVar 9) (eCon (.int 1))) (eIx (eVar 12) (eCon (.int 1)))]))))
noncomputable def t1__law_odds_hold : EM :=
  eBin geD (eBin mulD (eIx (eCall F_chance_within [eVar 2, eVar 15]) (eCon (.int 0))) (eIx (eVar 13) (eCon (.int 1)))) (eBin mulD (eIx (eVar 13) (eCon (.int 0))) (eIx (eCall F_chance_within [eVar 2, eVar 15]) (eCon (.int 1))))
noncomputable def B__law_odds_hold : SM :=
  sSeq (sAsg (tName 1) (eBin addD (eCon (.int 1)) (eCall F__law_draw [eVar 0, eCon (.int 9)]))) (sSeq (sPar [tName 2, tName 3, tName 4] [eTup [eCall F__law_draw [eVar 0, eBin addD (eVar 1) (eCon (.int 1))], eVar 1], eCall F__law_draw [eVar 0, eCon (.int 8)], eCall F__law_draw [eVar 0, eCon (.int 8)]]) (sSeq (sAsg (tName 5) (eLst (lComp e1__law_odds_hold (tName 15) (iSeq (eLst (lDisp [eVar 3, eVar 4, eBin addD (eVar 3) (eVar 4)]))) [] [15]))) (sSeq (sAsg (tName 6) (eLst (lComp e2__law_odds_hold (tName 15) (iSeq (eVar 5)) [] [15]))) (sSeq (sIf (eOr (eBin neD (eCall F__law_quotient [eBin mulD (eIx (eVar 6) (eCon (.int 0))) (eIx (eVar 6) (eCon (.int 1))), eBin mulD (eIx (eIx (eVar 5) (eCon (.int 0))) (eCon (.int 1))) (eIx (eIx (eVar 5) (eCon (.int 1))) (eCon (.int 1)))]) (eCall F__law_quotient [eIx (eVar 6) (eCon (.int 2)), eIx (eIx (eVar 5) (eCon (.int 2))) (eCon (.int 1))])) (eBin neD (eCall F__law_left [eVar 2, eVar 3]) (eCall F__law_quotient [eIx (eVar 6) (eCon (.int 0)), eIx (eIx (eVar 5) (eCon (.int 0))) (eCon (.int 1))]))) (sRet (eCon (.bool false))) sPass) (sSeq (sPar [tName 7, tName 8, tName 9] [eCon (.int 0), eCon (.int 1), eTup [eCon (.int 0), eCon (.int 1)]]) (sSeq (sFor (tName 10) (iRange [eCon (.int 1), eBin addD (eVar 3) (eCon (.int 1))]) b1__law_odds_hold) (sSeq (sIf (eOr (eBin neD (eTup [eVar 7, eVar 8]) (eIx (eVar 5) (eCon (.int 0)))) (eBin neD (eCall F_mean_tries [eVar 2, eVar 3]) (eVar 9))) (sRet (eCon (.bool false))) sPass) (sSeq (sAsg (tName 13) (eTup [eCall F__law_draw [eVar 0, eCon (.int 11)], eCon (.int 10)])) (sSeq (sAsg (tName 14) (eLst (lComp (eVar 15) (tName 15) (iRange [eCon (.int 61)]) [t1__law_odds_hold] [15]))) (sRet (eBin eqD (eCall F_least_tries [eVar 2, eVar 13]) (eIte (eVar 14) (eIx (eVar 14) (eCon (.int 0))) (eCon .none)))))))))))))
noncomputable def F__law_odds_hold : Fn := sealF (mkFn 1 16 B__law_odds_hold)
def N__law_odds_hold : List Str := ["state", "down", "odds", "one", "other", "within", "left", "up", "whole", "mean", "number", "told", "rest", "goal", "reached", "own"]
noncomputable def T__law_odds_hold : List (Str × Fn) := [("_law_draw", F__law_draw), ("chance_within", F_chance_within), ("_law_quotient", F__law_quotient), ("_law_left", F__law_left), ("chance_at", F_chance_at), ("mean_tries", F_mean_tries), ("least_tries", F_least_tries)]
theorem c__law_odds_hold : compSs 100 (fnCc N__law_odds_hold (defScope (top 44)) T__law_odds_hold glb [] 0) (defBody (top 44)) = some B__law_odds_hold := by kernel_rfl
/-! ### _law_shares_hold -/
noncomputable def b1__law_shares_hold : SM :=
  sSeq (sAsg (tName 3) (eBin addD (eCon (.int 1)) (eCall F__law_draw [eVar 0, eCon (.int 6)]))) (sApp (eVar 1) (eTup [eCall F__law_draw [eVar 0, eBin addD (eVar 3) (eCon (.int 1))], eVar 3]))
noncomputable def b2__law_shares_hold : SM :=
  sSeq (sAsg (tName 9) (eCall F__law_left [eIx (eVar 1) (eVar 2), eIx (eVar 7) (eVar 2)])) (sPar [tName 8, tName 3] [eBin mulD (eVar 8) (eBin subD (eIx (eVar 9) (eCon (.int 1))) (eIx (eVar 9) (eCon (.int 0)))), eBin mulD (eVar 3) (eIx (eVar 9) (eCon (.int 1)))])
noncomputable def e1__law_shares_hold : EM :=
  eCall F_chance_of_all [eVar 1, eBin addD (eBin addD (eSl (eVar 7) none (some (eVar 2))) (eTup [eBin addD (eIx (eVar 7) (eVar 2)) (eCon (.int 1))])) (eSl (eVar 7) (some (eBin addD (eVar 2) (eCon (.int 1)))) none)]
noncomputable def t1__law_shares_hold : EM :=
  eBin gtD (eBin mulD (eIx (eVar 14) (eCon (.int 0))) (eIx (eVar 11) (eCon (.int 1)))) (eBin mulD (eIx (eVar 11) (eCon (.int 0))) (eIx (eVar 14) (eCon (.int 1))))
noncomputable def b3__law_shares_hold : SM :=
  sSeq (sAsg (tTup [tName 6, tName 7]) (eCall F_best_shares [eVar 1, eVar 5])) (sSeq (sPar [tName 8, tName 3] [eCon (.int 1), eCon (.int 1)]) (sSeq (sFor (tName 2) (iRange [eVar 4]) b2__law_shares_hold) (sSeq (sIf (eOr (eBin neD (eBi bSum [eVar 7]) (eVar 5)) (eOr (eBin ltD (eBi bMin [eVar 7]) (eCon (.int 1))) (eOr (eBin neD (eCall F_chance_of_all [eVar 1, eVar 7]) (eVar 6)) (eOr (eBin neD (eCall F__law_quotient [eVar 8, eVar 3]) (eVar 6)) (eBin neD (eCall F_judge_shares [eVar 1, eVar 7]) (eTup [eCon (.str "best")])))))) (sRet (eCon (.bool false))) sPass) (sSeq (sAsg (tName 10) (eLst (lComp e1__law_shares_hold (tName 2) (iRange [eVar 4]) [] [2]))) (sSeq (sAsg (tName 11) (eIx (eCall F_best_shares [eVar 1, eBin addD (eVar 5) (eCon (.int 1))]) (eCon (.int 0)))) (sIf (eOr (eLst (lComp (eVar 14) (tName 14) (iSeq (eVar 10)) [t1__law_shares_hold] [14])) (eBin notInD (eVar 11) (eVar 10))) (sRet (eCon (.bool false))) sPass))))))
noncomputable def e2__law_shares_hold : EM :=
  eIx (eVar 1) (eVar 14)
noncomputable def B__law_shares_hold : SM :=
  sSeq (sAsg (tName 1) (eNew (lDisp []))) (sSeq (sFor (tName 2) (iRange [eBin addD (eCon (.int 1)) (eCall F__law_draw [eVar 0, eCon (.int 4)])]) b1__law_shares_hold) (sSeq (sPar [tName 4, tName 1] [eLen (eVar 1), eBi bTuple [eVar 1]]) (sSeq (sFor (tName 5) (iRange [eVar 4, eBin addD (eVar 4) (eCon (.int 4))]) b3__law_shares_hold) (sSeq (sAsg (tName 12) (eCall F__law_order [eVar 0, eLst (lRng (iRange [eVar 4]))])) (sSeq (sAsg (tName 13) (eBi bTuple [eLst (lComp e2__law_shares_hold (tName 14) (iSeq (eVar 12)) [] [14])])) (sSeq (sIf (eOr (eBin neD (eIx (eCall F_best_shares [eVar 13, eBin addD (eVar 4) (eCon (.int 3))]) (eCon (.int 0))) (eIx (eCall F_best_shares [eVar 1, eBin addD (eVar 4) (eCon (.int 3))]) (eCon (.int 0)))) (eBin neD (eCall F_chance_of_all [eVar 13, eBin mulD (eTup [eCon (.int 2)]) (eVar 4)]) (eCall F_chance_of_all [eVar 1, eBin mulD (eTup [eCon (.int 2)]) (eVar 4)]))) (sRet (eCon (.bool false))) sPass) (sRet (eAnd (eIsN false (eCall F_best_shares [eVar 1, eBin subD (eVar 4) (eCon (.int 1))])) (eBin eqD (eCall F_best_shares [eSl (eVar 1) none (some (eCon (.int 1))), eCon (.int 5)]) (eTup [eCall F_chance_within [eIx (eVar 1) (eCon (.int 0)), eCon (.int 5)], eTup [eCon (.int 5)]]))))))))))
noncomputable def F__law_shares_hold : Fn := sealF (mkFn 1 15 B__law_shares_hold)
def N__law_shares_hold : List Str := ["state", "rows", "k", "down", "many", "tries", "odds", "shares", "up", "left", "further", "best", "names", "other", "own"]
noncomputable def T__law_shares_hold : List (Str × Fn) := [("_law_draw", F__law_draw), ("best_shares", F_best_shares), ("_law_left", F__law_left), ("chance_of_all", F_chance_of_all), ("_law_quotient", F__law_quotient), ("judge_shares", F_judge_shares), ("_law_order", F__law_order), ("chance_within", F_chance_within)]
theorem c__law_shares_hold : compSs 100 (fnCc N__law_shares_hold (defScope (top 45)) T__law_shares_hold glb [("rows", 1)] 0) (defBody (top 45)) = some B__law_shares_hold := by kernel_rfl
/-! ### _law_waits_hold -/
noncomputable def b1__law_waits_hold : SM :=
  sSeq (sApp (eVar 8) (eVar 7)) (sPar [tName 7, tName 6] [eBin addD (eBin addD (eVar 7) (eVar 4)) (eVar 6), eBi bMin [eLst (lDisp [eVar 3, eBin mulD (eVar 6) (eVar 2)])]])
noncomputable def t1__law_waits_hold : EM :=
  eBin leD (eBin addD (eVar 12) (eVar 4)) (eVar 10)
noncomputable def B__law_waits_hold : SM :=
  sSeq (sPar [tName 1, tName 2, tName 3] [eCall F__law_draw [eVar 0, eCon (.int 5)], eBin addD (eCon (.int 1)) (eCall F__law_draw [eVar 0, eCon (.int 3)]), eBin addD (eCon (.int 5)) (eCall F__law_draw [eVar 0, eCon (.int 30)])]) (sSeq (sPar [tName 4, tName 5, tName 6, tName 7, tName 8] [eCall F__law_draw [eVar 0, eCon (.int 6)], eCall F__law_draw [eVar 0, eCon (.int 12)], eVar 1, eCon (.int 0), eNew (lDisp [])]) (sSeq (sFor (tName 9) (iRange [eVar 5]) b1__law_waits_hold) (sSeq (sIf (eNot (eCall F__law_same [eCall F_begins [eTup [eVar 1, eVar 2, eVar 3], eVar 4, eVar 5], eBi bTuple [eVar 8]])) (sRet (eCon (.bool false))) sPass) (sSeq (sPar [tName 10, tName 11] [eCall F__law_draw [eVar 0, eCon (.int 120)], eCall F_begins [eTup [eVar 1, eVar 2, eVar 3], eVar 4, eCon (.int 60)]]) (sRet (eBin eqD (eCall F_most_tries [eTup [eVar 1, eVar 2, eVar 3], eVar 4, eVar 10]) (eLen (eLst (lComp (eVar 12) (tName 12) (iSeq (eVar 11)) [t1__law_waits_hold] [12])))))))))
noncomputable def F__law_waits_hold : Fn := sealF (mkFn 1 13 B__law_waits_hold)
def N__law_waits_hold : List Str := ["state", "first", "times", "most", "long", "tries", "wait", "at", "due", "k", "end", "rows", "own"]
noncomputable def T__law_waits_hold : List (Str × Fn) := [("_law_draw", F__law_draw), ("_law_same", F__law_same), ("begins", F_begins), ("most_tries", F_most_tries)]
theorem c__law_waits_hold : compSs 100 (fnCc N__law_waits_hold (defScope (top 46)) T__law_waits_hold glb [("due", 1)] 0) (defBody (top 46)) = some B__law_waits_hold := by kernel_rfl
/-! ### law -/
noncomputable def b1_law : SM :=
  sIf (eOr (eNot (eCall F__law_odds_hold [eVar 1])) (eOr (eNot (eCall F__law_shares_hold [eVar 1])) (eNot (eCall F__law_waits_hold [eVar 1])))) (sRet (eCon (.bool false))) sPass
noncomputable def B_law : SM :=
  sSeq (sAsg (tName 1) (eCall F__law_start [eVar 0])) (sSeq (sFor (tName 2) (iRange [eCon (.int 2)]) b1_law) (sRet (eCon (.bool true))))
noncomputable def F_law : Fn := sealF (mkFn 1 3 B_law)
def N_law : List Str := ["script", "state", "turn"]
noncomputable def T_law : List (Str × Fn) := [("_law_start", F__law_start), ("_law_odds_hold", F__law_odds_hold), ("_law_shares_hold", F__law_shares_hold), ("_law_waits_hold", F__law_waits_hold)]
theorem c_law : compSs 100 (fnCc N_law (defScope (top 47)) T_law glb [] 0) (defBody (top 47)) = some B_law := by kernel_rfl
end K70

end
section
/-! K70Top: the law's statement, from what its def answers. -/
namespace K70
open PySem PySem.Spec PyProof.Rows L2 Gg
def d_is_integer : He.DefD := ⟨("is_integer", none), "is_integer", "is_integer", defArgs (top 9), defBody (top 9), defScope (top 9), [], []⟩
def d_is_between : He.DefD := ⟨("is_between", none), "is_between", "is_between", defArgs (top 10), defBody (top 10), defScope (top 10), [], []⟩
def d_common_divisor : He.DefD := ⟨("common_divisor", none), "common_divisor", "common_divisor", defArgs (top 12), defBody (top 12), defScope (top 12), [], []⟩
def d_check_odds : He.DefD := ⟨("check_odds", none), "check_odds", "check_odds", defArgs (top 14), defBody (top 14), defScope (top 14), [], []⟩
def d_check_tries : He.DefD := ⟨("check_tries", none), "check_tries", "check_tries", defArgs (top 15), defBody (top 15), defScope (top 15), [], []⟩
def d_quotient : He.DefD := ⟨("quotient", none), "quotient", "quotient", defArgs (top 16), defBody (top 16), defScope (top 16), [], []⟩
def d_power : He.DefD := ⟨("power", none), "power", "power", defArgs (top 17), defBody (top 17), defScope (top 17), [], []⟩
def d_chance_of : He.DefD := ⟨("chance_of", none), "chance_of", "chance_of", defArgs (top 18), defBody (top 18), defScope (top 18), [], []⟩
def d_chance_within : He.DefD := ⟨("chance_within", none), "chance_within", "chance_within", defArgs (top 19), defBody (top 19), defScope (top 19), [], []⟩
def d_chance_at : He.DefD := ⟨("chance_at", none), "chance_at", "chance_at", defArgs (top 20), defBody (top 20), defScope (top 20), [], []⟩
def d_mean_tries : He.DefD := ⟨("mean_tries", none), "mean_tries", "mean_tries", defArgs (top 21), defBody (top 21), defScope (top 21), [], []⟩
def d_is_less : He.DefD := ⟨("is_less", none), "is_less", "is_less", defArgs (top 22), defBody (top 22), defScope (top 22), [], []⟩
def d_least_tries : He.DefD := ⟨("least_tries", none), "least_tries", "least_tries", defArgs (top 23), defBody (top 23), defScope (top 23), [], []⟩
def d_check_rule : He.DefD := ⟨("check_rule", none), "check_rule", "check_rule", defArgs (top 24), defBody (top 24), defScope (top 24), [], []⟩
def d_check_long : He.DefD := ⟨("check_long", none), "check_long", "check_long", defArgs (top 25), defBody (top 25), defScope (top 25), [], []⟩
def d_waits_of : He.DefD := ⟨("waits_of", none), "waits_of", "waits_of", defArgs (top 26), defBody (top 26), defScope (top 26), [], []⟩
def d_begins : He.DefD := ⟨("begins", none), "begins", "begins", defArgs (top 27), defBody (top 27), defScope (top 27), [], []⟩
def d_most_tries : He.DefD := ⟨("most_tries", none), "most_tries", "most_tries", defArgs (top 28), defBody (top 28), defScope (top 28), [], []⟩
def d_check_rows : He.DefD := ⟨("check_rows", none), "check_rows", "check_rows", defArgs (top 29), defBody (top 29), defScope (top 29), [], []⟩
def d_check_shares : He.DefD := ⟨("check_shares", none), "check_shares", "check_shares", defArgs (top 30), defBody (top 30), defScope (top 30), [], []⟩
def d_product_of : He.DefD := ⟨("product_of", none), "product_of", "product_of", defArgs (top 31), defBody (top 31), defScope (top 31), [], []⟩
def d_chance_of_all : He.DefD := ⟨("chance_of_all", none), "chance_of_all", "chance_of_all", defArgs (top 32), defBody (top 32), defScope (top 32), [], []⟩
def d_best_shares : He.DefD := ⟨("best_shares", none), "best_shares", "best_shares", defArgs (top 33), defBody (top 33), defScope (top 33), [], []⟩
def d_moved_try : He.DefD := ⟨("moved_try", none), "moved_try", "moved_try", defArgs (top 34), defBody (top 34), defScope (top 34), [], []⟩
def d_judge_shares : He.DefD := ⟨("judge_shares", none), "judge_shares", "judge_shares", defArgs (top 35), defBody (top 35), defScope (top 35), [], []⟩
def d__law_start : He.DefD := ⟨("_law_start", none), "_law_start", "_law_start", defArgs (top 37), defBody (top 37), defScope (top 37), [], []⟩
def d__law_draw : He.DefD := ⟨("_law_draw", none), "_law_draw", "_law_draw", defArgs (top 38), defBody (top 38), defScope (top 38), [], []⟩
def d__law_same : He.DefD := ⟨("_law_same", none), "_law_same", "_law_same", defArgs (top 39), defBody (top 39), defScope (top 39), [], []⟩
def d__law_order : He.DefD := ⟨("_law_order", none), "_law_order", "_law_order", defArgs (top 40), defBody (top 40), defScope (top 40), [], []⟩
def d__law_divisor : He.DefD := ⟨("_law_divisor", none), "_law_divisor", "_law_divisor", defArgs (top 41), defBody (top 41), defScope (top 41), [], []⟩
def d__law_quotient : He.DefD := ⟨("_law_quotient", none), "_law_quotient", "_law_quotient", defArgs (top 42), defBody (top 42), defScope (top 42), [], []⟩
def d__law_left : He.DefD := ⟨("_law_left", none), "_law_left", "_law_left", defArgs (top 43), defBody (top 43), defScope (top 43), [], []⟩
def d__law_odds_hold : He.DefD := ⟨("_law_odds_hold", none), "_law_odds_hold", "_law_odds_hold", defArgs (top 44), defBody (top 44), defScope (top 44), [], []⟩
def d__law_shares_hold : He.DefD := ⟨("_law_shares_hold", none), "_law_shares_hold", "_law_shares_hold", defArgs (top 45), defBody (top 45), defScope (top 45), [], []⟩
def d__law_waits_hold : He.DefD := ⟨("_law_waits_hold", none), "_law_waits_hold", "_law_waits_hold", defArgs (top 46), defBody (top 46), defScope (top 46), [], []⟩
def d_law : He.DefD := ⟨("law", none), "law", "law", defArgs (top 47), defBody (top 47), defScope (top 47), [], []⟩
def fnL : List He.DefD := [d_is_integer, d_is_between, d_common_divisor, d_check_odds, d_check_tries, d_quotient, d_power, d_chance_of, d_chance_within, d_chance_at, d_mean_tries, d_is_less, d_least_tries, d_check_rule, d_check_long, d_waits_of, d_begins, d_most_tries, d_check_rows, d_check_shares, d_product_of, d_chance_of_all, d_best_shares, d_moved_try, d_judge_shares, d__law_start, d__law_draw, d__law_same, d__law_order, d__law_divisor, d__law_quotient, d__law_left, d__law_odds_hold, d__law_shares_hold, d__law_waits_hold, d_law]
def faL : List He.Fa := [.glo "is_integer", .glo "is_between", .glo "common_divisor", .glo "check_odds", .glo "check_tries", .glo "quotient", .glo "power", .glo "chance_of", .glo "chance_within", .glo "chance_at", .glo "mean_tries", .glo "is_less", .glo "least_tries", .glo "check_rule", .glo "check_long", .glo "waits_of", .glo "begins", .glo "most_tries", .glo "check_rows", .glo "check_shares", .glo "product_of", .glo "chance_of_all", .glo "best_shares", .glo "moved_try", .glo "judge_shares", .glo "_law_start", .glo "_law_draw", .glo "_law_same", .glo "_law_order", .glo "_law_divisor", .glo "_law_quotient", .glo "_law_left", .glo "_law_odds_hold", .glo "_law_shares_hold", .glo "_law_waits_hold", .glo "law", .free "len", .free "abs", .free "max", .free "min", .free "sum", .free "all", .free "any", .free "sorted", .free "repr", .free "tuple", .free "int", .free "list", .free "isinstance", .free "range", .free "enumerate", .free "zip", .free "bool", .free "str"]
abbrev RowL : PySem.W.OpenRow := PySem.W.OpenLaw.row PySem.Challenge.rw_doneorundone_k70_whole_tries_added_and_s
abbrev hkL : PySem.W.Hook := hookC 4 faL fnL glb
def obL (s : PySem.W.SharedT) : AlC := obsC 4 faL fnL glb (HandSHeadRun.getT s)
theorem obL_eq (s : PySem.W.SharedT) : obL s = hkL.obs s.abs := obsC_eq (HandSHeadRun.getT_eq s)
def looseL : List Str := (["WorkError", "FlowError", "ArgumentError", "MAX_SIZE", "MAX_STEPS", "MAX_TRIES", "MAX_ODDS", "is_integer", "is_between", "common_divisor", "check_odds", "check_tries", "quotient", "power", "chance_of", "chance_within", "chance_at", "mean_tries", "is_less", "least_tries", "check_rule", "check_long", "waits_of", "begins", "most_tries", "check_rows", "check_shares", "product_of", "chance_of_all", "best_shares"] : List Str) ++ (["moved_try", "judge_shares", "_law_start", "_law_draw", "_law_same", "_law_order", "_law_divisor", "_law_quotient", "_law_left", "_law_odds_hold", "_law_shares_hold", "_law_waits_hold"] : List Str)
theorem runL (w : World) : HandSHeadRun.RunEq RowL (PySem.W.view RowL.prog [47]) hkL obL 6000 looseL w := by
  intro os
  kernel_rfl
theorem modF {K : PySem.W.Frag} {h : Heap} {mg : Str → Option Value} (X : K.In h) (G : h.Ns mainGlobals mg) (c : He.SaysD faL fnL K) (c2 : consB glb K = true) : ModF K mg glb := by
  refine ⟨fun x hx => ?_, cons_at X G c2⟩
  simp only [BUILTINS, List.mem_cons, List.not_mem_nil, or_false] at hx
  rcases hx with rfl | rfl | rfl | rfl | rfl | rfl | rfl | rfl | rfl | rfl | rfl | rfl | rfl | rfl | rfl | rfl | rfl | rfl
  · exact He.free_ok X G (c.fact 36 (f := .free "len") rfl)
  · exact He.free_ok X G (c.fact 37 (f := .free "abs") rfl)
  · exact He.free_ok X G (c.fact 38 (f := .free "max") rfl)
  · exact He.free_ok X G (c.fact 39 (f := .free "min") rfl)
  · exact He.free_ok X G (c.fact 40 (f := .free "sum") rfl)
  · exact He.free_ok X G (c.fact 41 (f := .free "all") rfl)
  · exact He.free_ok X G (c.fact 42 (f := .free "any") rfl)
  · exact He.free_ok X G (c.fact 43 (f := .free "sorted") rfl)
  · exact He.free_ok X G (c.fact 44 (f := .free "repr") rfl)
  · exact He.free_ok X G (c.fact 45 (f := .free "tuple") rfl)
  · exact He.free_ok X G (c.fact 46 (f := .free "int") rfl)
  · exact He.free_ok X G (c.fact 47 (f := .free "list") rfl)
  · exact He.free_ok X G (c.fact 48 (f := .free "isinstance") rfl)
  · exact He.free_ok X G (c.fact 49 (f := .free "range") rfl)
  · exact He.free_ok X G (c.fact 50 (f := .free "enumerate") rfl)
  · exact He.free_ok X G (c.fact 51 (f := .free "zip") rfl)
  · exact He.free_ok X G (c.fact 52 (f := .free "bool") rfl)
  · exact He.free_ok X G (c.fact 53 (f := .free "str") rfl)
theorem factsL {P : Program} {w : World} {K : PySem.W.Frag} {h : Heap} {mg : Str → Option Value} {fL : Addr} (X : K.In h) (G : h.Ns mainGlobals mg) (hfa : mg ("law" : Str) = some (.ref fL)) (c : He.SaysD faL fnL K) (c2 : consB glb K = true) :
    ∃ fd : FuncData, (∀ (s : Shared) (u : Value), BindsTo s fd ⟨[u], []⟩ [("script", u)]) ∧ ∀ base : Heap, K.In base → base.Ns mainGlobals mg → FnG P w K mg base 7 fL fd ["script"] (spF K F_law 1) := by
  have M := modF X G c c2
  obtain ⟨fd0, D0⟩ := c.def_ 0 (d := d_is_integer) rfl
  have G0 := He.glo_ok X G (c.fact 0 (f := .glo "is_integer") rfl)
  obtain ⟨fd1, D1⟩ := c.def_ 1 (d := d_is_between) rfl
  have G1 := He.glo_ok X G (c.fact 1 (f := .glo "is_between") rfl)
  obtain ⟨fd2, D2⟩ := c.def_ 2 (d := d_common_divisor) rfl
  have G2 := He.glo_ok X G (c.fact 2 (f := .glo "common_divisor") rfl)
  obtain ⟨fd3, D3⟩ := c.def_ 3 (d := d_check_odds) rfl
  have G3 := He.glo_ok X G (c.fact 3 (f := .glo "check_odds") rfl)
  obtain ⟨fd4, D4⟩ := c.def_ 4 (d := d_check_tries) rfl
  have G4 := He.glo_ok X G (c.fact 4 (f := .glo "check_tries") rfl)
  obtain ⟨fd5, D5⟩ := c.def_ 5 (d := d_quotient) rfl
  have G5 := He.glo_ok X G (c.fact 5 (f := .glo "quotient") rfl)
  obtain ⟨fd6, D6⟩ := c.def_ 6 (d := d_power) rfl
  have G6 := He.glo_ok X G (c.fact 6 (f := .glo "power") rfl)
  obtain ⟨fd7, D7⟩ := c.def_ 7 (d := d_chance_of) rfl
  have G7 := He.glo_ok X G (c.fact 7 (f := .glo "chance_of") rfl)
  obtain ⟨fd8, D8⟩ := c.def_ 8 (d := d_chance_within) rfl
  have G8 := He.glo_ok X G (c.fact 8 (f := .glo "chance_within") rfl)
  obtain ⟨fd9, D9⟩ := c.def_ 9 (d := d_chance_at) rfl
  have G9 := He.glo_ok X G (c.fact 9 (f := .glo "chance_at") rfl)
  obtain ⟨fd10, D10⟩ := c.def_ 10 (d := d_mean_tries) rfl
  have G10 := He.glo_ok X G (c.fact 10 (f := .glo "mean_tries") rfl)
  obtain ⟨fd11, D11⟩ := c.def_ 11 (d := d_is_less) rfl
  have G11 := He.glo_ok X G (c.fact 11 (f := .glo "is_less") rfl)
  obtain ⟨fd12, D12⟩ := c.def_ 12 (d := d_least_tries) rfl
  have G12 := He.glo_ok X G (c.fact 12 (f := .glo "least_tries") rfl)
  obtain ⟨fd13, D13⟩ := c.def_ 13 (d := d_check_rule) rfl
  have G13 := He.glo_ok X G (c.fact 13 (f := .glo "check_rule") rfl)
  obtain ⟨fd14, D14⟩ := c.def_ 14 (d := d_check_long) rfl
  have G14 := He.glo_ok X G (c.fact 14 (f := .glo "check_long") rfl)
  obtain ⟨fd15, D15⟩ := c.def_ 15 (d := d_waits_of) rfl
  have G15 := He.glo_ok X G (c.fact 15 (f := .glo "waits_of") rfl)
  obtain ⟨fd16, D16⟩ := c.def_ 16 (d := d_begins) rfl
  have G16 := He.glo_ok X G (c.fact 16 (f := .glo "begins") rfl)
  obtain ⟨fd17, D17⟩ := c.def_ 17 (d := d_most_tries) rfl
  have G17 := He.glo_ok X G (c.fact 17 (f := .glo "most_tries") rfl)
  obtain ⟨fd18, D18⟩ := c.def_ 18 (d := d_check_rows) rfl
  have G18 := He.glo_ok X G (c.fact 18 (f := .glo "check_rows") rfl)
  obtain ⟨fd19, D19⟩ := c.def_ 19 (d := d_check_shares) rfl
  have G19 := He.glo_ok X G (c.fact 19 (f := .glo "check_shares") rfl)
  obtain ⟨fd20, D20⟩ := c.def_ 20 (d := d_product_of) rfl
  have G20 := He.glo_ok X G (c.fact 20 (f := .glo "product_of") rfl)
  obtain ⟨fd21, D21⟩ := c.def_ 21 (d := d_chance_of_all) rfl
  have G21 := He.glo_ok X G (c.fact 21 (f := .glo "chance_of_all") rfl)
  obtain ⟨fd22, D22⟩ := c.def_ 22 (d := d_best_shares) rfl
  have G22 := He.glo_ok X G (c.fact 22 (f := .glo "best_shares") rfl)
  obtain ⟨fd23, D23⟩ := c.def_ 23 (d := d_moved_try) rfl
  have G23 := He.glo_ok X G (c.fact 23 (f := .glo "moved_try") rfl)
  obtain ⟨fd24, D24⟩ := c.def_ 24 (d := d_judge_shares) rfl
  have G24 := He.glo_ok X G (c.fact 24 (f := .glo "judge_shares") rfl)
  obtain ⟨fd25, D25⟩ := c.def_ 25 (d := d__law_start) rfl
  have G25 := He.glo_ok X G (c.fact 25 (f := .glo "_law_start") rfl)
  obtain ⟨fd26, D26⟩ := c.def_ 26 (d := d__law_draw) rfl
  have G26 := He.glo_ok X G (c.fact 26 (f := .glo "_law_draw") rfl)
  obtain ⟨fd27, D27⟩ := c.def_ 27 (d := d__law_same) rfl
  have G27 := He.glo_ok X G (c.fact 27 (f := .glo "_law_same") rfl)
  obtain ⟨fd28, D28⟩ := c.def_ 28 (d := d__law_order) rfl
  have G28 := He.glo_ok X G (c.fact 28 (f := .glo "_law_order") rfl)
  obtain ⟨fd29, D29⟩ := c.def_ 29 (d := d__law_divisor) rfl
  have G29 := He.glo_ok X G (c.fact 29 (f := .glo "_law_divisor") rfl)
  obtain ⟨fd30, D30⟩ := c.def_ 30 (d := d__law_quotient) rfl
  have G30 := He.glo_ok X G (c.fact 30 (f := .glo "_law_quotient") rfl)
  obtain ⟨fd31, D31⟩ := c.def_ 31 (d := d__law_left) rfl
  have G31 := He.glo_ok X G (c.fact 31 (f := .glo "_law_left") rfl)
  obtain ⟨fd32, D32⟩ := c.def_ 32 (d := d__law_odds_hold) rfl
  have G32 := He.glo_ok X G (c.fact 32 (f := .glo "_law_odds_hold") rfl)
  obtain ⟨fd33, D33⟩ := c.def_ 33 (d := d__law_shares_hold) rfl
  have G33 := He.glo_ok X G (c.fact 33 (f := .glo "_law_shares_hold") rfl)
  obtain ⟨fd34, D34⟩ := c.def_ 34 (d := d__law_waits_hold) rfl
  have G34 := He.glo_ok X G (c.fact 34 (f := .glo "_law_waits_hold") rfl)
  obtain ⟨fd35, D35⟩ := c.def_ 35 (d := d_law) rfl
  have G35 := He.glo_ok X G (c.fact 35 (f := .glo "law") rfl)
  have e := hfa.symm.trans G35
  cases e
  refine ⟨fd35, fun s u => FunD.bindsA (ps := ["script"]) D35 (fun _ _ _ _ _ _ us hl => match us, hl with | [_], _ => rfl) s [u] rfl, fun base _ _ => ?_⟩
  have L0 : CalG P w K mg base 1 "is_integer" F_is_integer := cal_by (sealF_eq _) (N := N_is_integer) (ps := ["value"]) (k := 0) D0 G0 M (by kernel_rfl) (fun _ _ _ _ _ _ us hl => match us, hl with | [_], _ => rfl) c_is_integer trivial
  have L1 : CalG P w K mg base 2 "is_between" F_is_between := cal_by (sealF_eq _) (N := N_is_between) (ps := ["value", "low", "high"]) (k := 1) D1 G1 M (by kernel_rfl) (fun _ _ _ _ _ _ us hl => match us, hl with | [_, _, _], _ => rfl) c_is_between ⟨L0.mono (by decide), trivial⟩
  have L2 : CalG P w K mg base 1 "common_divisor" F_common_divisor := cal_by (sealF_eq _) (N := N_common_divisor) (ps := ["one", "other"]) (k := 0) D2 G2 M (by kernel_rfl) (fun _ _ _ _ _ _ us hl => match us, hl with | [_, _], _ => rfl) c_common_divisor trivial
  have L3 : CalG P w K mg base 3 "check_odds" F_check_odds := cal_by (sealF_eq _) (N := N_check_odds) (ps := ["odds", "reason"]) (k := 2) D3 G3 M (by kernel_rfl) (fun _ _ _ _ _ _ us hl => match us, hl with | [_, _], _ => rfl) c_check_odds ⟨L1.mono (by decide), trivial⟩
  have L4 : CalG P w K mg base 3 "check_tries" F_check_tries := cal_by (sealF_eq _) (N := N_check_tries) (ps := ["tries"]) (k := 2) D4 G4 M (by kernel_rfl) (fun _ _ _ _ _ _ us hl => match us, hl with | [_], _ => rfl) c_check_tries ⟨L1.mono (by decide), trivial⟩
  have L5 : CalG P w K mg base 2 "quotient" F_quotient := cal_by (sealF_eq _) (N := N_quotient) (ps := ["up", "down"]) (k := 1) D5 G5 M (by kernel_rfl) (fun _ _ _ _ _ _ us hl => match us, hl with | [_, _], _ => rfl) c_quotient ⟨L2.mono (by decide), trivial⟩
  have L6 : CalG P w K mg base 1 "power" F_power := cal_by (sealF_eq _) (N := N_power) (ps := ["base", "many"]) (k := 0) D6 G6 M (by kernel_rfl) (fun _ _ _ _ _ _ us hl => match us, hl with | [_, _], _ => rfl) c_power trivial
  have L7 : CalG P w K mg base 2 "chance_of" F_chance_of := cal_by (sealF_eq _) (N := N_chance_of) (ps := ["odds", "tries"]) (k := 1) D7 G7 M (by kernel_rfl) (fun _ _ _ _ _ _ us hl => match us, hl with | [_, _], _ => rfl) c_chance_of ⟨L6.mono (by decide), trivial⟩
  have L8 : CalG P w K mg base 4 "chance_within" F_chance_within := cal_by (sealF_eq _) (N := N_chance_within) (ps := ["odds", "tries"]) (k := 3) D8 G8 M (by kernel_rfl) (fun _ _ _ _ _ _ us hl => match us, hl with | [_, _], _ => rfl) c_chance_within ⟨L3.mono (by decide), L4.mono (by decide), L7.mono (by decide), L5.mono (by decide), trivial⟩
  have L9 : CalG P w K mg base 4 "chance_at" F_chance_at := cal_by (sealF_eq _) (N := N_chance_at) (ps := ["odds", "number"]) (k := 3) D9 G9 M (by kernel_rfl) (fun _ _ _ _ _ _ us hl => match us, hl with | [_, _], _ => rfl) c_chance_at ⟨L3.mono (by decide), L1.mono (by decide), L5.mono (by decide), L6.mono (by decide), trivial⟩
  have L10 : CalG P w K mg base 4 "mean_tries" F_mean_tries := cal_by (sealF_eq _) (N := N_mean_tries) (ps := ["odds", "tries"]) (k := 3) D10 G10 M (by kernel_rfl) (fun _ _ _ _ _ _ us hl => match us, hl with | [_, _], _ => rfl) c_mean_tries ⟨L3.mono (by decide), L4.mono (by decide), L6.mono (by decide), L5.mono (by decide), trivial⟩
  have L11 : CalG P w K mg base 1 "is_less" F_is_less := cal_by (sealF_eq _) (N := N_is_less) (ps := ["one", "other"]) (k := 0) D11 G11 M (by kernel_rfl) (fun _ _ _ _ _ _ us hl => match us, hl with | [_, _], _ => rfl) c_is_less trivial
  have L12 : CalG P w K mg base 4 "least_tries" F_least_tries := cal_by (sealF_eq _) (N := N_least_tries) (ps := ["odds", "goal"]) (k := 3) D12 G12 M (by kernel_rfl) (fun _ _ _ _ _ _ us hl => match us, hl with | [_, _], _ => rfl) c_least_tries ⟨L3.mono (by decide), L11.mono (by decide), L7.mono (by decide), trivial⟩
  have L13 : CalG P w K mg base 3 "check_rule" F_check_rule := cal_by (sealF_eq _) (N := N_check_rule) (ps := ["rule"]) (k := 2) D13 G13 M (by kernel_rfl) (fun _ _ _ _ _ _ us hl => match us, hl with | [_], _ => rfl) c_check_rule ⟨L1.mono (by decide), trivial⟩
  have L14 : CalG P w K mg base 3 "check_long" F_check_long := cal_by (sealF_eq _) (N := N_check_long) (ps := ["long"]) (k := 2) D14 G14 M (by kernel_rfl) (fun _ _ _ _ _ _ us hl => match us, hl with | [_], _ => rfl) c_check_long ⟨L1.mono (by decide), trivial⟩
  have L15 : CalG P w K mg base 1 "waits_of" F_waits_of := cal_by (sealF_eq _) (N := N_waits_of) (ps := ["rule", "many"]) (k := 0) D15 G15 M (by kernel_rfl) (fun _ _ _ _ _ _ us hl => match us, hl with | [_, _], _ => rfl) c_waits_of trivial
  have L16 : CalG P w K mg base 4 "begins" F_begins := cal_by (sealF_eq _) (N := N_begins) (ps := ["rule", "long", "tries"]) (k := 3) D16 G16 M (by kernel_rfl) (fun _ _ _ _ _ _ us hl => match us, hl with | [_, _, _], _ => rfl) c_begins ⟨L13.mono (by decide), L14.mono (by decide), L4.mono (by decide), L15.mono (by decide), trivial⟩
  have L17 : CalG P w K mg base 5 "most_tries" F_most_tries := cal_by (sealF_eq _) (N := N_most_tries) (ps := ["rule", "long", "end"]) (k := 4) D17 G17 M (by kernel_rfl) (fun _ _ _ _ _ _ us hl => match us, hl with | [_, _, _], _ => rfl) c_most_tries ⟨L13.mono (by decide), L14.mono (by decide), L1.mono (by decide), L16.mono (by decide), trivial⟩
  have L18 : CalG P w K mg base 4 "check_rows" F_check_rows := cal_by (sealF_eq _) (N := N_check_rows) (ps := ["rows"]) (k := 3) D18 G18 M (by kernel_rfl) (fun _ _ _ _ _ _ us hl => match us, hl with | [_], _ => rfl) c_check_rows ⟨L3.mono (by decide), trivial⟩
  have L19 : CalG P w K mg base 2 "check_shares" F_check_shares := cal_by (sealF_eq _) (N := N_check_shares) (ps := ["rows", "shares"]) (k := 1) D19 G19 M (by kernel_rfl) (fun _ _ _ _ _ _ us hl => match us, hl with | [_, _], _ => rfl) c_check_shares ⟨L0.mono (by decide), trivial⟩
  have L20 : CalG P w K mg base 3 "product_of" F_product_of := cal_by (sealF_eq _) (N := N_product_of) (ps := ["rows", "shares"]) (k := 2) D20 G20 M (by kernel_rfl) (fun _ _ _ _ _ _ us hl => match us, hl with | [_, _], _ => rfl) c_product_of ⟨L7.mono (by decide), trivial⟩
  have L21 : CalG P w K mg base 5 "chance_of_all" F_chance_of_all := cal_by (sealF_eq _) (N := N_chance_of_all) (ps := ["rows", "shares"]) (k := 4) D21 G21 M (by kernel_rfl) (fun _ _ _ _ _ _ us hl => match us, hl with | [_, _], _ => rfl) c_chance_of_all ⟨L18.mono (by decide), L19.mono (by decide), L20.mono (by decide), L5.mono (by decide), trivial⟩
  have L22 : CalG P w K mg base 5 "best_shares" F_best_shares := cal_by (sealF_eq _) (N := N_best_shares) (ps := ["rows", "tries"]) (k := 4) D22 G22 M (by kernel_rfl) (fun _ _ _ _ _ _ us hl => match us, hl with | [_, _], _ => rfl) c_best_shares ⟨L18.mono (by decide), L4.mono (by decide), L7.mono (by decide), L11.mono (by decide), L5.mono (by decide), trivial⟩
  have L23 : CalG P w K mg base 1 "moved_try" F_moved_try := cal_by (sealF_eq _) (N := N_moved_try) (ps := ["shares", "one", "other"]) (k := 0) D23 G23 M (by kernel_rfl) (fun _ _ _ _ _ _ us hl => match us, hl with | [_, _, _], _ => rfl) c_moved_try trivial
  have L24 : CalG P w K mg base 5 "judge_shares" F_judge_shares := cal_by (sealF_eq _) (N := N_judge_shares) (ps := ["rows", "shares"]) (k := 4) D24 G24 M (by kernel_rfl) (fun _ _ _ _ _ _ us hl => match us, hl with | [_, _], _ => rfl) c_judge_shares ⟨L18.mono (by decide), L19.mono (by decide), L20.mono (by decide), L11.mono (by decide), L23.mono (by decide), trivial⟩
  have L25 : CalG P w K mg base 1 "_law_start" F__law_start := cal_by (sealF_eq _) (N := N__law_start) (ps := ["script"]) (k := 0) D25 G25 M (by kernel_rfl) (fun _ _ _ _ _ _ us hl => match us, hl with | [_], _ => rfl) c__law_start trivial
  have L26 : CalG P w K mg base 1 "_law_draw" F__law_draw := cal_by (sealF_eq _) (N := N__law_draw) (ps := ["state", "many"]) (k := 0) D26 G26 M (by kernel_rfl) (fun _ _ _ _ _ _ us hl => match us, hl with | [_, _], _ => rfl) c__law_draw trivial
  have L27 : CalG P w K mg base 1 "_law_same" F__law_same := cal_by (sealF_eq _) (N := N__law_same) (ps := ["actual", "due"]) (k := 0) D27 G27 M (by kernel_rfl) (fun _ _ _ _ _ _ us hl => match us, hl with | [_, _], _ => rfl) c__law_same trivial
  have L28 : CalG P w K mg base 2 "_law_order" F__law_order := cal_by (sealF_eq _) (N := N__law_order) (ps := ["state", "rows"]) (k := 1) D28 G28 M (by kernel_rfl) (fun _ _ _ _ _ _ us hl => match us, hl with | [_, _], _ => rfl) c__law_order ⟨L26.mono (by decide), trivial⟩
  have L29 : CalG P w K mg base 1 "_law_divisor" F__law_divisor := cal_by (sealF_eq _) (N := N__law_divisor) (ps := ["one", "other"]) (k := 0) D29 G29 M (by kernel_rfl) (fun _ _ _ _ _ _ us hl => match us, hl with | [_, _], _ => rfl) c__law_divisor trivial
  have L30 : CalG P w K mg base 2 "_law_quotient" F__law_quotient := cal_by (sealF_eq _) (N := N__law_quotient) (ps := ["up", "down"]) (k := 1) D30 G30 M (by kernel_rfl) (fun _ _ _ _ _ _ us hl => match us, hl with | [_, _], _ => rfl) c__law_quotient ⟨L29.mono (by decide), trivial⟩
  have L31 : CalG P w K mg base 3 "_law_left" F__law_left := cal_by (sealF_eq _) (N := N__law_left) (ps := ["odds", "tries"]) (k := 2) D31 G31 M (by kernel_rfl) (fun _ _ _ _ _ _ us hl => match us, hl with | [_, _], _ => rfl) c__law_left ⟨L30.mono (by decide), trivial⟩
  have L32 : CalG P w K mg base 5 "_law_odds_hold" F__law_odds_hold := cal_by (sealF_eq _) (N := N__law_odds_hold) (ps := ["state"]) (k := 4) D32 G32 M (by kernel_rfl) (fun _ _ _ _ _ _ us hl => match us, hl with | [_], _ => rfl) c__law_odds_hold ⟨L26.mono (by decide), L8.mono (by decide), L30.mono (by decide), L31.mono (by decide), L9.mono (by decide), L10.mono (by decide), L12.mono (by decide), trivial⟩
  have L33 : CalG P w K mg base 6 "_law_shares_hold" F__law_shares_hold := cal_by (sealF_eq _) (N := N__law_shares_hold) (ps := ["state"]) (k := 5) D33 G33 M (by kernel_rfl) (fun _ _ _ _ _ _ us hl => match us, hl with | [_], _ => rfl) c__law_shares_hold ⟨L26.mono (by decide), L22.mono (by decide), L31.mono (by decide), L21.mono (by decide), L30.mono (by decide), L24.mono (by decide), L28.mono (by decide), L8.mono (by decide), trivial⟩
  have L34 : CalG P w K mg base 6 "_law_waits_hold" F__law_waits_hold := cal_by (sealF_eq _) (N := N__law_waits_hold) (ps := ["state"]) (k := 5) D34 G34 M (by kernel_rfl) (fun _ _ _ _ _ _ us hl => match us, hl with | [_], _ => rfl) c__law_waits_hold ⟨L26.mono (by decide), L27.mono (by decide), L16.mono (by decide), L17.mono (by decide), trivial⟩
  exact fng_by (sealF_eq _) (N := N_law) (ps := ["script"]) (k := 6) D35 G35 M (by kernel_rfl) c_law ⟨L25.mono (by decide), L32.mono (by decide), L33.mono (by decide), L34.mono (by decide), trivial⟩
end K70
open PySem PySem.W PySem.Calls PyProof.Rows
theorem K70.holds (hF : ∀ ns : List Int, ns.length ≤ 63 → K70.F_law [.ro (ns.map .int)] [] = some (.d (.bool true), [])) : PySem.Challenge.rw_doneorundone_k70_whole_tries_added_and_s.Holds := by
  w_on; o_law
  refine HandSHeadRun.head_any (r := OpenLaw.row PySem.Challenge.rw_doneorundone_k70_whole_tries_added_and_s) (q := view (OpenLaw.row PySem.Challenge.rw_doneorundone_k70_whole_tries_added_and_s).prog [47]) (H := K70.hkL) (ob := K70.obL) (M := 6000) (loose := K70.looseL) (d := HandSHeadRun.topDef (OpenLaw.row PySem.Challenge.rw_doneorundone_k70_whole_tries_added_and_s).prog 47) (kwd := []) K70.obL_eq
    (by kernel_rfl) (fun s => by kernel_rfl) K70.runL (by kernel_rfl) (by kernel_rfl) (by kernel_rfl) (by rfl) (by first | assumption | decide +kernel) (by decide +kernel) ⟨rfl, rfl, rfl, rfl, rfl, by decide +kernel⟩ ?hw ?hc
  case hw => w_witness2
  case hc =>
    refine Gg.walk_law (l := PySem.Challenge.rw_doneorundone_k70_whole_tries_added_and_s) (n := 63) (k := 7) (x := "script") (F := K70.F_law) rfl (by decide) (by kernel_rfl) ⟨rfl, by decide, by decide⟩ ?F hF
    intro w mg fL h Y G hmg0
    obtain ⟨K, KX, c, c2⟩ := Y
    have hmg : mg ("law" : PySem.Str) = some (.ref fL) := by
      have e : (HandSHeadRun.topDef (OpenLaw.row PySem.Challenge.rw_doneorundone_k70_whole_tries_added_and_s).prog 47).name = ("law" : PySem.Str) := by kernel_rfl
      rw [← e]
      exact hmg0
    obtain ⟨fd, hb, hF2⟩ := K70.factsL (P := (PySem.Challenge.rw_doneorundone_k70_whole_tries_added_and_s).prog) (w := w) KX G hmg c c2
    exact ⟨K, fd, KX, hb, hF2⟩

end
section
/-! K70a: the numbers drawn. -/
namespace K70
open PySem Gg
theorem draw_ok : Draws F__law_draw := by
  intro n st many h h1 h2
  obtain ⟨cs, i, b, c, d, e, rfl, p1, p2, p3, p4, p5, p6, p7, p8, p9⟩ := h.ex
  have hl : many.natAbs.log2 < 9000 := by
    have := log2_lt_of (n := many.natAbs) (k := 61) (by omega)
    omega
  have h0 : 0 < many := by omega
  have m0 : ∀ x : Int, 0 ≤ x % many ∧ x % many < many := fun x => ⟨Int.emod_nonneg _ (by omega), Int.emod_lt_of_pos _ h0⟩
  have d0 : ∀ x : Int, 0 ≤ x → 0 ≤ x / many := fun x hx => Int.ediv_nonneg hx (by omega)
  by_cases hc : c = 0
  · subst hc
    by_cases hi : i < cs.length
    · have q1 : ixPos cs.length i = some i.toNat := ixPos_of p2 hi
      have hi2 : i.toNat < cs.length := by omega
      have q2 : cs[i.toNat]? = some cs[i.toNat] := List.getElem?_eq_getElem hi2
      have q3 : 0 ≤ cs[i.toNat] := p1 _ (List.getElem_mem hi2)
      by_cases hz : 0 < cs[i.toNat] / many
      · simp [F__law_draw, mkFn, B__law_draw, stD, hi, q1, q2, h0, hl, hz]
        exact ⟨_, _, ⟨rfl, rfl⟩, (m0 _).1, (m0 _).2, ⟨cs, i + 1, _, 59, d, e, rfl, p1, by omega, by omega, by omega, by omega, p6, p7, p8, by omega⟩⟩
      · simp [F__law_draw, mkFn, B__law_draw, stD, hi, q1, q2, h0, hl, hz]
        exact ⟨_, _, ⟨rfl, rfl⟩, (m0 _).1, (m0 _).2, ⟨cs, i + 1, _, 0, d, e, rfl, p1, by omega, d0 _ q3, by omega, by omega, p6, p7, p8, by omega⟩⟩
    · have f1 : mulFits d 48271 := sm_mul (by unfold sm; omega) (by unfold sm; omega)
      have f2 : mulFits (e + 1) (e + 1) := sm_mul (by unfold sm; omega) (by unfold sm; omega)
      have f3 : mulFits ((e + 1) * (e + 1)) 69621 := by
        refine mulFits_of (a := 124) (b := 61) ?_ (by omega) (by omega)
        rw [Int.natAbs_mul]
        have : (e + 1).natAbs < 2 ^ 62 := by omega
        calc (e + 1).natAbs * (e + 1).natAbs < 2 ^ 62 * 2 ^ 62 := Nat.mul_lt_mul'' this this
          _ ≤ 2 ^ 125 := by decide
      have f4 : Nat.log2 13 < 9000 := by decide
      simp [F__law_draw, mkFn, B__law_draw, stD, hi, h0, hl, f1, f2, f3, f4]
      refine ⟨_, _, ⟨rfl, rfl⟩, (m0 _).1, (m0 _).2, ⟨cs, i, b, 0, _, e + 1, rfl, p1, p2, p3, by omega, by omega, ?_, ?_, by omega, by omega⟩⟩ <;> omega
  · have hc2 : 0 < c := by omega
    by_cases hz : 0 < b / many
    · simp [F__law_draw, mkFn, B__law_draw, stD, hc, hc2, h0, hl, hz]
      exact ⟨_, _, ⟨rfl, rfl⟩, (m0 _).1, (m0 _).2, ⟨cs, i, _, c - 1, d, e, rfl, p1, p2, by omega, by omega, by omega, p6, p7, p8, by omega⟩⟩
    · simp [F__law_draw, mkFn, B__law_draw, stD, hc, hc2, h0, hl, hz]
      exact ⟨_, _, ⟨rfl, rfl⟩, (m0 _).1, (m0 _).2, ⟨cs, i, _, 0, d, e, rfl, p1, p2, d0 _ p3, by omega, by omega, p6, p7, p8, by omega⟩⟩
end K70

end
section
/-! K70q: quotients, odds, shares (plain). -/
namespace K70
open PySem Gg
/-- a quotient as a pair -/
def pr (r : Rat) : PyData := .tuple [.int r.num, .int (r.den : Int)]
theorem pr_inj {r s : Rat} (h : r.num = s.num ∧ (r.den : Int) = (s.den : Int)) : r = s := Rat.ext h.1 (by omega)
theorem frac {u d : Int} (hd : 0 < d) : ((u : Rat) / (d : Rat)).num = u / (Int.gcd u d : Int) ∧ (((u : Rat) / (d : Rat)).den : Int) = d / (Int.gcd u d : Int) := by
  obtain ⟨k, rfl⟩ : ∃ k : Nat, d = k := ⟨d.toNat, by omega⟩
  have hk : k ≠ 0 := by omega
  have e : (u : Rat) / (((k : Nat) : Int) : Rat) = mkRat u k := by rw [Rat.mkRat_eq_div]; rfl
  have g : Int.gcd u k = k.gcd u.natAbs := by unfold Int.gcd; rw [Nat.gcd_comm]; rfl
  rw [e, Rat.num_mkRat, Rat.den_mkRat, if_neg hk, if_neg hk, g]
  exact ⟨rfl, by rw [Int.natCast_ediv]⟩
theorem frac_num_le {u d : Int} (hd : 0 < d) : ((u : Rat) / (d : Rat)).num.natAbs ≤ u.natAbs := by
  rw [(frac hd).1, Int.natAbs_ediv_of_dvd]
  · exact Nat.div_le_self _ _
  · exact Int.gcd_dvd_left ..
theorem frac_den_le {u d : Int} (hd : 0 < d) : (((u : Rat) / (d : Rat)).den : Int) ≤ d := by
  rw [(frac hd).2]
  exact Int.ediv_le_self _ (by omega)
theorem self_div (r : Rat) : ((r.num : Int) : Rat) / (((r.den : Int)) : Rat) = r := by
  rw [← Rat.divInt_eq_div]; exact Rat.num_divInt_den r
theorem den_pos (r : Rat) : (0 : Int) < (r.den : Int) := by have := r.den_pos; omega
theorem cast_ne {d : Int} (h : 0 < d) : (d : Rat) ≠ 0 := by
  have := Rat.intCast_pos.mpr h
  grind
/-- odds: up of down -/
structure Odd where
  u : Int
  d : Int
def OOk (o : Odd) : Prop := 1 ≤ o.d ∧ o.d ≤ 1000 ∧ 0 ≤ o.u ∧ o.u ≤ o.d
def ov (o : Odd) : PyData := .tuple [.int o.u, .int o.d]
/-- that a try fails -/
def rho (o : Odd) : Rat := ((o.d - o.u : Int) : Rat) / (o.d : Rat)
def cn (o : Odd) (k : Nat) : Int := o.d ^ k - (o.d - o.u) ^ k
def cd (o : Odd) (k : Nat) : Int := o.d ^ k
theorem cd_pos {o : Odd} (h : OOk o) (k : Nat) : 0 < cd o k := Int.pow_pos (by have := h.1; omega)
theorem pow_le_pow {a b : Int} (ha : 0 ≤ a) (h : a ≤ b) : ∀ k : Nat, a ^ k ≤ b ^ k
  | 0 => by simp
  | k + 1 => by
    rw [Int.pow_succ, Int.pow_succ]
    have h1 := pow_le_pow ha h k
    have h2 : 0 ≤ b ^ k := Int.pow_nonneg (by omega)
    calc a ^ k * a ≤ b ^ k * a := Int.mul_le_mul_of_nonneg_right h1 ha
      _ ≤ b ^ k * b := Int.mul_le_mul_of_nonneg_left h h2
theorem cn_nonneg {o : Odd} (h : OOk o) (k : Nat) : 0 ≤ cn o k := by
  have := pow_le_pow (a := o.d - o.u) (b := o.d) (by have := h.2.2.2; omega) (by have := h.2.2.1; omega) k
  unfold cn; omega
theorem cn_le {o : Odd} (h : OOk o) (k : Nat) : cn o k ≤ cd o k := by
  have : 0 ≤ (o.d - o.u) ^ k := Int.pow_nonneg (by have := h.2.2.2; omega)
  unfold cn cd; omega
theorem div_pow (a b : Rat) (k : Nat) (hb : b ≠ 0) : (a / b) ^ k = a ^ k / b ^ k := by
  induction k with
  | zero => simp; grind
  | succ k ih =>
    rw [Rat.pow_succ, Rat.pow_succ, Rat.pow_succ, ih]
    have hk : b ^ k ≠ 0 := by
      clear ih
      induction k with
      | zero => simp
      | succ k ih2 => rw [Rat.pow_succ]; grind
    grind
theorem pow_ne {b : Rat} (hb : b ≠ 0) : ∀ k : Nat, b ^ k ≠ 0
  | 0 => by simp
  | k + 1 => by rw [Rat.pow_succ]; have := pow_ne hb k; grind
theorem rho_pow {o : Odd} (h : OOk o) (k : Nat) : rho o ^ k = (((o.d - o.u) ^ k : Int) : Rat) / ((o.d ^ k : Int) : Rat) := by
  unfold rho
  rw [div_pow _ _ _ (cast_ne (by have := h.1; omega)), Rat.intCast_pow, Rat.intCast_pow]
theorem chance_eq {o : Odd} (h : OOk o) (k : Nat) : ((cn o k : Int) : Rat) / ((cd o k : Int) : Rat) = 1 - rho o ^ k := by
  have hd := cast_ne (cd_pos h k)
  rw [rho_pow h]
  unfold cn
  rw [Rat.intCast_sub]
  unfold cd at *
  grind
theorem rho01 {o : Odd} (h : OOk o) : 0 ≤ rho o ∧ rho o ≤ 1 := by
  unfold rho
  have hp : (0 : Rat) < (o.d : Rat) := Rat.intCast_pos.mpr (by have := h.1; omega)
  have h0 : (0 : Rat) ≤ ((o.d - o.u : Int) : Rat) := Rat.intCast_nonneg.mpr (by have := h.2.2.2; omega)
  have h1 : ((o.d - o.u : Int) : Rat) ≤ (o.d : Rat) := Rat.intCast_le_intCast.mpr (by have := h.2.2.1; omega)
  constructor
  · refine Rat.le_of_mul_le_mul_right (c := (o.d : Rat)) ?_ hp
    rw [Rat.div_mul_cancel (by grind)]
    grind
  · refine Rat.le_of_mul_le_mul_right (c := (o.d : Rat)) ?_ hp
    rw [Rat.div_mul_cancel (by grind)]
    grind
theorem pow01 {r : Rat} (h0 : 0 ≤ r) (h1 : r ≤ 1) : ∀ k : Nat, 0 ≤ r ^ k ∧ r ^ k ≤ 1
  | 0 => by rw [Rat.pow_zero]; constructor <;> decide
  | k + 1 => by
    obtain ⟨a, b⟩ := pow01 h0 h1 k
    rw [Rat.pow_succ]
    refine ⟨Rat.mul_nonneg a h0, ?_⟩
    have := Rat.mul_le_mul_of_nonneg_right b h0
    grind
theorem pow_anti {r : Rat} (h0 : 0 ≤ r) (h1 : r ≤ 1) {a b : Nat} (h : a ≤ b) : r ^ b ≤ r ^ a := by
  induction b with
  | zero => rw [show a = 0 by omega]; exact Rat.le_refl
  | succ b ih =>
    by_cases e : a = b + 1
    · rw [e]; exact Rat.le_refl
    · refine Rat.le_trans ?_ (ih (by omega))
      rw [Rat.pow_succ]
      have := Rat.mul_le_mul_of_nonneg_left h1 (pow01 h0 h1 b).1
      grind
/-- the odds that one of k tries does it -/
def fo (o : Odd) (k : Nat) : Rat := 1 - rho o ^ k
theorem fo01 {o : Odd} (h : OOk o) (k : Nat) : 0 ≤ fo o k ∧ fo o k ≤ 1 := by
  have := pow01 (rho01 h).1 (rho01 h).2 k
  unfold fo; grind
theorem fo_conc {o : Odd} (h : OOk o) {a b : Nat} (hab : a ≤ b) : fo o (b + 1) * fo o a ≤ fo o b * fo o (a + 1) := by
  have r0 := (rho01 h).1
  have r1 := (rho01 h).2
  have h1 := pow_anti r0 r1 hab
  have h2 : rho o ^ b * (1 - rho o) ≤ rho o ^ a * (1 - rho o) := Rat.mul_le_mul_of_nonneg_right h1 (by grind)
  unfold fo
  rw [Rat.pow_succ, Rat.pow_succ]
  grind
theorem fo_zero {o : Odd} (h : OOk o) {k : Nat} (hk : 1 ≤ k) (e : fo o k = 0) : ∀ j, fo o j = 0 := by
  have r0 := (rho01 h).1
  have r1 := (rho01 h).2
  have h1 : rho o ^ k = 1 := by unfold fo at e; grind
  have h2 := pow_anti r0 r1 hk
  rw [Rat.pow_one] at h2
  have h3 : rho o = 1 := by grind
  intro j
  unfold fo
  rw [h3]
  have : (1 : Rat) ^ j = 1 := by
    induction j with
    | zero => simp
    | succ j ih => rw [Rat.pow_succ, ih]; grind
  rw [this]; grind
/-- the odds of all steps -/
def Fv : List Odd → List Nat → Rat
  | o :: os, k :: ks => fo o k * Fv os ks
  | _, _ => 1
theorem Fv01 {os : List Odd} (h : ∀ o ∈ os, OOk o) : ∀ ks : List Nat, 0 ≤ Fv os ks := by
  induction os with
  | nil => intro ks; cases ks <;> (simp only [Fv]; decide)
  | cons o os ih =>
    intro ks
    cases ks with
    | nil => simp only [Fv]; decide
    | cons k ks => exact Rat.mul_nonneg (fo01 (h o List.mem_cons_self) k).1 (ih (fun x hx => h x (List.mem_cons_of_mem _ hx)) ks)
/-- raw products -/
def Nr : List Odd → List Nat → Int
  | o :: os, k :: ks => cn o k * Nr os ks
  | _, _ => 1
def Dr : List Odd → List Nat → Int
  | o :: os, k :: ks => cd o k * Dr os ks
  | _, _ => 1
theorem Dr_pos {os : List Odd} (h : ∀ o ∈ os, OOk o) : ∀ ks : List Nat, 0 < Dr os ks := by
  induction os with
  | nil => intro ks; cases ks <;> simp [Dr]
  | cons o os ih =>
    intro ks
    cases ks with
    | nil => simp [Dr]
    | cons k ks => exact Int.mul_pos (cd_pos (h o List.mem_cons_self) k) (ih (fun x hx => h x (List.mem_cons_of_mem _ hx)) ks)
theorem Nr_bd {os : List Odd} (h : ∀ o ∈ os, OOk o) : ∀ ks : List Nat, 0 ≤ Nr os ks ∧ Nr os ks ≤ Dr os ks := by
  induction os with
  | nil => intro ks; cases ks <;> simp [Dr, Nr]
  | cons o os ih =>
    intro ks
    cases ks with
    | nil => simp [Dr, Nr]
    | cons k ks =>
      have ho := h o List.mem_cons_self
      obtain ⟨a, b⟩ := ih (fun x hx => h x (List.mem_cons_of_mem _ hx)) ks
      have c1 := cn_nonneg ho k
      have c2 := cn_le ho k
      refine ⟨Int.mul_nonneg c1 a, ?_⟩
      show cn o k * Nr os ks ≤ cd o k * Dr os ks
      calc cn o k * Nr os ks ≤ cd o k * Nr os ks := Int.mul_le_mul_of_nonneg_right c2 a
        _ ≤ cd o k * Dr os ks := Int.mul_le_mul_of_nonneg_left b (by omega)
theorem one_one : ((1 : Int) : Rat) / ((1 : Int) : Rat) = 1 := by rw [Rat.intCast_one]; grind
theorem Fv_eq {os : List Odd} (h : ∀ o ∈ os, OOk o) : ∀ ks : List Nat, (Nr os ks : Rat) / (Dr os ks : Rat) = Fv os ks := by
  induction os with
  | nil => intro ks; cases ks <;> (simp only [Nr, Dr, Fv]; exact one_one)
  | cons o os ih =>
    intro ks
    cases ks with
    | nil => simp only [Nr, Dr, Fv]; exact one_one
    | cons k ks =>
      have ho := h o List.mem_cons_self
      have hos : ∀ x ∈ os, OOk x := fun x hx => h x (List.mem_cons_of_mem _ hx)
      have e1 := ih hos ks
      have e2 := chance_eq ho k
      have n1 := cast_ne (cd_pos ho k)
      have n2 := cast_ne (Dr_pos hos ks)
      simp only [Nr, Dr, Fv]
      unfold fo
      rw [← e1, ← e2, Rat.intCast_mul, Rat.intCast_mul]
      grind
theorem Dr_le {os : List Odd} (h : ∀ o ∈ os, OOk o) : ∀ ks : List Nat, Dr os ks ≤ 1000 ^ ks.sum := by
  induction os with
  | nil =>
    intro ks
    have : (0 : Int) < 1000 ^ ks.sum := Int.pow_pos (by decide)
    cases ks <;> simp only [Dr] <;> omega
  | cons o os ih =>
    intro ks
    cases ks with
    | nil => simp [Dr]
    | cons k ks =>
      have ho := h o List.mem_cons_self
      have hos : ∀ x ∈ os, OOk x := fun x hx => h x (List.mem_cons_of_mem _ hx)
      have e1 := ih hos ks
      have e2 : cd o k ≤ 1000 ^ k := pow_le_pow (by have := ho.1; omega) ho.2.1 k
      have p1 := Dr_pos hos ks
      rw [List.sum_cons, Int.pow_add]
      show cd o k * Dr os ks ≤ _
      calc cd o k * Dr os ks ≤ 1000 ^ k * Dr os ks := Int.mul_le_mul_of_nonneg_right e2 (by omega)
        _ ≤ 1000 ^ k * 1000 ^ ks.sum := Int.mul_le_mul_of_nonneg_left e1 (Int.pow_nonneg (by decide))
/-! ### shares -/
structure Sh (os : List Odd) (T : Nat) (s : List Nat) : Prop where
  len : s.length = os.length
  pos : ∀ k ∈ s, 1 ≤ k
  sum : s.sum = T
structure Bst (os : List Odd) (T : Nat) (s : List Nat) : Prop where
  sh : Sh os T s
  best : ∀ s', Sh os T s' → Fv os s' ≤ Fv os s
theorem Sh.cons {o : Odd} {os : List Odd} {T k : Nat} {s : List Nat} (hk : 1 ≤ k) (h : Sh os T s) : Sh (o :: os) (k + T) (k :: s) :=
  ⟨by simp [h.len], fun x hx => by rcases List.mem_cons.mp hx with e | hx; (· omega); (· exact h.pos x hx), by simp [h.sum]⟩
theorem Sh.uncons {o : Odd} {os : List Odd} {T : Nat} {s : List Nat} (h : Sh (o :: os) T s) : ∃ k r, s = k :: r ∧ 1 ≤ k ∧ k ≤ T ∧ Sh os (T - k) r := by
  cases s with
  | nil => have := h.len; simp at this
  | cons k r =>
    have h1 := h.sum
    rw [List.sum_cons] at h1
    refine ⟨k, r, rfl, h.pos k List.mem_cons_self, by omega, by have := h.len; simpa using this, fun x hx => h.pos x (List.mem_cons_of_mem _ hx), by omega⟩
theorem Sh.ge {os : List Odd} : ∀ {T : Nat} {s : List Nat}, Sh os T s → os.length ≤ T := by
  induction os with
  | nil => intro T s _; simp
  | cons o os ih =>
    intro T s h
    obtain ⟨k, r, rfl, h1, h2, h3⟩ := h.uncons
    have := ih h3
    rw [List.length_cons]; omega
theorem Sh.ex {os : List Odd} : ∀ {T : Nat}, os ≠ [] → os.length ≤ T → ∃ s, Sh os T s := by
  induction os with
  | nil => intro T h _; exact absurd rfl h
  | cons o os ih =>
    intro T _ h
    rw [List.length_cons] at h
    cases os with
    | nil => exact ⟨[T], by simp, by simp at h; simpa using h, by simp⟩
    | cons p os =>
      obtain ⟨s, hs⟩ := ih (T := T - 1) (by simp) (by simp at h ⊢; omega)
      exact ⟨1 :: s, by have := hs.cons (o := o) (k := 1) (by omega); rwa [show 1 + (T - 1) = T by omega] at this⟩
/-- one place's part of the product -/
theorem Fv_at {os : List Odd} (h : ∀ o ∈ os, OOk o) : ∀ {s : List Nat} {i : Nat} (hl : s.length = os.length) (hi : i < os.length), ∃ C : Rat, 0 ≤ C ∧ ∀ x, Fv os (s.set i x) = C * fo os[i] x := by
  induction os with
  | nil => intro s i _ hi; simp at hi
  | cons o os ih =>
    intro s i hl hi
    cases s with
    | nil => simp at hl
    | cons k s =>
      have hos : ∀ x ∈ os, OOk x := fun x hx => h x (List.mem_cons_of_mem _ hx)
      cases i with
      | zero =>
        refine ⟨Fv os s, Fv01 hos s, fun x => ?_⟩
        simp only [List.set_cons_zero, Fv, List.getElem_cons_zero]
        grind
      | succ i =>
        obtain ⟨C, h1, h2⟩ := ih hos (s := s) (i := i) (by simpa using hl) (by simpa using hi)
        refine ⟨fo o k * C, Rat.mul_nonneg (fo01 (h o List.mem_cons_self) k).1 h1, fun x => ?_⟩
        simp only [List.set_cons_succ, Fv, List.getElem_cons_succ, h2 x]
        grind
theorem sum_set {s : List Nat} {i : Nat} (hi : i < s.length) (x : Nat) : (s.set i x).sum + s[i] = s.sum + x := by
  induction s generalizing i with
  | nil => simp at hi
  | cons k s ih =>
    cases i with
    | zero => simp; omega
    | succ i =>
      have := ih (i := i) (by simpa using hi)
      simp only [List.set_cons_succ, List.sum_cons, List.getElem_cons_succ]
      omega
theorem Sh.set {os : List Odd} {T : Nat} {s : List Nat} (h : Sh os T s) {i : Nat} (hi : i < s.length) {x : Nat} (hx : 1 ≤ x) : Sh os (T + x - s[i]) (s.set i x) := by
  refine ⟨by rw [List.length_set]; exact h.len, fun k hk => ?_, ?_⟩
  · rcases List.mem_or_eq_of_mem_set hk with hk | hk
    · exact h.pos k hk
    · omega
  · have := sum_set hi x
    have := h.sum
    omega
theorem get_le_sum {s : List Nat} {i : Nat} (hi : i < s.length) : s[i] ≤ s.sum := by
  induction s generalizing i with
  | nil => simp at hi
  | cons k s ih =>
    cases i with
    | zero => simp
    | succ i =>
      have := ih (i := i) (by simpa using hi)
      simp only [List.sum_cons, List.getElem_cons_succ]
      omega
theorem some_more : ∀ {s t : List Nat}, s.length = t.length → s.sum < t.sum → ∃ i, ∃ (h1 : i < s.length) (h2 : i < t.length), s[i] < t[i] := by
  intro s
  induction s with
  | nil => intro t hl h; cases t with | nil => simp at h | cons _ _ => simp at hl
  | cons a s ih =>
    intro t hl h
    cases t with
    | nil => simp at hl
    | cons b t =>
      by_cases c : a < b
      · exact ⟨0, by simp, by simp, c⟩
      · obtain ⟨i, h1, h2, h3⟩ := ih (t := t) (by simpa using hl) (by simp at h; omega)
        exact ⟨i + 1, by simpa using h1, by simpa using h2, by simpa using h3⟩
/-- one try more -/
theorem greedy {os : List Odd} (hos : ∀ o ∈ os, OOk o) {T : Nat} {s t : List Nat} (hs : Bst os T s) (ht : Bst os (T + 1) t) : ∃ i, ∃ (h : i < s.length), Fv os (s.set i (s[i] + 1)) = Fv os t := by
  obtain ⟨i, h1, h2, h3⟩ := some_more (s := s) (t := t) (by rw [hs.sh.len, ht.sh.len]) (by rw [hs.sh.sum, ht.sh.sum]; omega)
  have hi : i < os.length := by rw [← hs.sh.len]; exact h1
  refine ⟨i, h1, ?_⟩
  have ho := hos _ (List.getElem_mem hi)
  have sp : 1 ≤ s[i] := hs.sh.pos _ (List.getElem_mem h1)
  obtain ⟨C, c0, c1⟩ := Fv_at hos (s := s) (i := i) hs.sh.len hi
  obtain ⟨E, e0, e1⟩ := Fv_at hos (s := t) (i := i) ht.sh.len hi
  have q1 := hs.sh.sum
  have q2 := ht.sh.sum
  have a1 : Sh os (T + 1) (s.set i (s[i] + 1)) := by
    have := hs.sh.set h1 (x := s[i] + 1) (by omega)
    have g := get_le_sum h1
    rwa [show T + (s[i] + 1) - s[i] = T + 1 by omega] at this
  have a2 : Sh os T (t.set i (t[i] - 1)) := by
    have := ht.sh.set h2 (x := t[i] - 1) (by omega)
    have g := get_le_sum h2
    rwa [show T + 1 + (t[i] - 1) - t[i] = T by omega] at this
  have b1 := ht.best _ a1
  have b2 := hs.best _ a2
  refine Rat.le_antisymm b1 ?_
  have es : Fv os s = C * fo os[i] s[i] := by
    have := c1 s[i]
    rwa [List.set_getElem_self] at this
  have et : Fv os t = E * fo os[i] t[i] := by
    have := e1 t[i]
    rwa [List.set_getElem_self] at this
  rw [e1, es] at b2
  rw [c1, et]
  have f0 := fun k => (fo01 ho k).1
  have cc := fo_conc ho (a := s[i]) (b := t[i] - 1) (by omega)
  rw [show t[i] - 1 + 1 = t[i] by omega] at cc
  by_cases z : fo os[i] s[i] = 0
  · have := fo_zero ho sp z t[i]
    rw [this]
    have := Rat.mul_nonneg c0 (f0 (s[i] + 1))
    grind
  · have zp : 0 < fo os[i] s[i] := by have := f0 s[i]; grind
    refine Rat.le_of_mul_le_mul_right (c := fo os[i] s[i]) ?_ zp
    have m1 := Rat.mul_le_mul_of_nonneg_left cc e0
    have m2 := Rat.mul_le_mul_of_nonneg_right b2 (f0 (s[i] + 1))
    grind
/-! ### the order of steps -/
theorem perm_zip {α β : Type} {l l' : List α} (h : l.Perm l') : ∀ s : List β, s.length = l.length → ∃ s' : List β, s'.length = l'.length ∧ (l.zip s).Perm (l'.zip s') := by
  induction h with
  | nil => intro s hs; exact ⟨[], rfl, by simp⟩
  | @cons a l l' _ ih =>
    intro s hs
    cases s with
    | nil => simp at hs
    | cons k s =>
      obtain ⟨s', h1, h2⟩ := ih s (by simpa using hs)
      exact ⟨k :: s', by simp [h1], by simp only [List.zip_cons_cons]; exact List.Perm.cons _ h2⟩
  | swap a b l =>
    intro s hs
    match s, hs with
    | k1 :: k2 :: r, hs => exact ⟨k2 :: k1 :: r, by simpa using hs, by simp only [List.zip_cons_cons]; exact List.Perm.swap _ _ _⟩
  | trans _ _ ih1 ih2 =>
    intro s hs
    obtain ⟨s1, h1, h2⟩ := ih1 s hs
    obtain ⟨s2, h3, h4⟩ := ih2 s1 h1
    exact ⟨s2, h3, h2.trans h4⟩
def Fz : List (Odd × Nat) → Rat
  | [] => 1
  | p :: r => fo p.1 p.2 * Fz r
theorem Fz_perm {l l' : List (Odd × Nat)} (h : l.Perm l') : Fz l = Fz l' := by
  induction h with
  | nil => rfl
  | cons _ _ ih => simp only [Fz, ih]
  | swap _ _ _ => simp only [Fz]; grind
  | trans _ _ a b => rw [a, b]
theorem Fv_zip : ∀ (os : List Odd) (ks : List Nat), Fv os ks = Fz (os.zip ks)
  | [], ks => by cases ks <;> rfl
  | o :: os, [] => rfl
  | o :: os, k :: ks => by simp only [Fv, List.zip_cons_cons, Fz, Fv_zip os ks]
theorem zip_snd {α β : Type} : ∀ {l : List α} {s : List β}, s.length = l.length → (l.zip s).map (·.2) = s
  | [], [], _ => rfl
  | _ :: l, _ :: s, h => by simp [zip_snd (l := l) (s := s) (by simpa using h)]
theorem sh_perm {os os' : List Odd} (h : os.Perm os') {T : Nat} {s : List Nat} (hs : Sh os T s) : ∃ s', Sh os' T s' ∧ Fv os s = Fv os' s' := by
  obtain ⟨s', h1, h2⟩ := perm_zip h s hs.len
  have p : s.Perm s' := by
    have := h2.map (·.2)
    rwa [zip_snd hs.len, zip_snd h1] at this
  refine ⟨s', ⟨h1, fun k hk => hs.pos k (p.mem_iff.mpr hk), by rw [← hs.sum]; exact (p.sum_nat).symm⟩, ?_⟩
  rw [Fv_zip, Fv_zip]
  exact Fz_perm h2
theorem bst_perm {os os' : List Odd} (h : os.Perm os') {T : Nat} {s s' : List Nat} (hs : Bst os T s) (hs' : Bst os' T s') : Fv os s = Fv os' s' := by
  obtain ⟨t, t1, t2⟩ := sh_perm h hs.sh
  obtain ⟨t', u1, u2⟩ := sh_perm h.symm hs'.sh
  have a := hs'.best t t1
  have b := hs.best t' u1
  rw [← t2] at a
  rw [← u2] at b
  exact Rat.le_antisymm a b
theorem Fv_rep {os os' : List Odd} (h : os.Perm os') (k : Nat) : Fv os (List.replicate os.length k) = Fv os' (List.replicate os'.length k) := by
  induction h with
  | nil => rfl
  | cons _ _ ih => simp only [List.length_cons, List.replicate_succ, Fv, ih]
  | swap _ _ _ => simp only [List.length_cons, List.replicate_succ, Fv]; grind
  | trans _ _ a b => rw [a, b]
end K70

end
section
/-! K70b: small defs. -/
namespace K70
open PySem Gg
/-! sizes -/
def sz (i : Int) (k : Nat) : Prop := i.natAbs ≤ 1000 ^ k
theorem sz_mono {i : Int} {a b : Nat} (h : sz i a) (hab : a ≤ b) : sz i b := Nat.le_trans h (Nat.pow_le_pow_right (by decide) hab)
theorem sz_mul {i j : Int} {a b : Nat} (h : sz i a) (h2 : sz j b) : sz (i * j) (a + b) := by
  unfold sz at *
  rw [Int.natAbs_mul, Nat.pow_add]
  exact Nat.mul_le_mul h h2
theorem sz_add {i j : Int} {a b : Nat} (h : sz i a) (h2 : sz j a) (hb : a + 1 ≤ b) : sz (i + j) b := by
  refine sz_mono ?_ hb
  unfold sz at *
  have : (i + j).natAbs ≤ i.natAbs + j.natAbs := Int.natAbs_add_le i j
  rw [Nat.pow_succ]
  omega
theorem sz_sub {i j : Int} {a b : Nat} (h : sz i a) (h2 : sz j a) (hb : a + 1 ≤ b) : sz (i - j) b := by
  refine sz_mono ?_ hb
  unfold sz at *
  rw [Nat.pow_succ]
  omega
theorem sz_one {i : Int} (h : -1000 ≤ i ∧ i ≤ 1000) : sz i 1 := by unfold sz; omega
theorem sz_of {i j : Int} {k : Nat} (h0 : 0 ≤ i) (h : i ≤ j) (hj : sz j k) : sz i k := by unfold sz at *; omega
theorem sz_pow {i : Int} (h : sz i 1) : ∀ k : Nat, sz (i ^ k) k
  | 0 => by rw [Int.pow_zero]; unfold sz; decide
  | k + 1 => by rw [Int.pow_succ]; exact sz_mul (sz_pow h k) h
theorem k1000 : (1000 : Nat) ^ 800 < 2 ^ 8001 := by decide +kernel
theorem sz_lt {i : Int} {k : Nat} (h : sz i k) (hk : k ≤ 800) : i.natAbs < 2 ^ (8000 + 1) := by
  have := sz_mono h hk
  unfold sz at this
  exact Nat.lt_of_le_of_lt this k1000
theorem sz_fit {i j : Int} {a b : Nat} (h : sz i a) (h2 : sz j b) (ha : a ≤ 800) (hb : b ≤ 800) : mulFits i j := mulFits_of (a := 8000) (b := 8000) (sz_lt h ha) (sz_lt h2 hb) (by decide)
theorem sz_log {i : Int} {k : Nat} (h : sz i k) (hk : k ≤ 800) : i.natAbs.log2 < 9000 := by
  have := log2_lt_of (sz_lt h hk)
  omega
/-! ### checks -/
theorem is_integer_i (a : Int) : F_is_integer [.d (.int a)] [] = some (.d (.bool true), []) := by
  simp [F_is_integer, mkFn, B_is_integer]
theorem is_between_i (a b c : Int) : F_is_between [.d (.int a), .d (.int b), .d (.int c)] [] = some (.d (.bool (decide (b ≤ a ∧ a ≤ c))), []) := by
  simp [F_is_between, mkFn, B_is_between, is_integer_i]
  split
  · simp_all
  · simp; omega
theorem check_odds_ok {o : Odd} (h : OOk o) (x : PyData) : F_check_odds [.d (ov o), .d x] [] = some (.d .none, []) := by
  obtain ⟨h1, h2, h3, h4⟩ := h
  simp [F_check_odds, mkFn, B_check_odds, is_between_i, ov, h1, h2, h3, h4]
theorem check_tries_ok {k : Nat} (h : k ≤ 60) : F_check_tries [.d (.int (k : Int))] [] = some (.d .none, []) := by
  have : (k : Int) ≤ 60 := by omega
  simp [F_check_tries, mkFn, B_check_tries, is_between_i, this]
/-! ### the greatest common divisor -/
theorem euclid (a b : Int) : a - a / b * b = a % b := by rw [Int.emod_def]; rw [Int.mul_comm]
theorem gcd_step {a b : Int} (ha : 0 ≤ a) (hb : 0 < b) : Int.gcd b (a - a / b * b) = Int.gcd a b := by
  rw [euclid, Int.gcd_comm, Int.gcd_comm a b]
  obtain ⟨x, rfl⟩ : ∃ x : Nat, a = x := ⟨a.toNat, by omega⟩
  obtain ⟨y, rfl⟩ : ∃ x : Nat, b = x := ⟨b.toNat, by omega⟩
  rw [← Int.natCast_emod]
  show Nat.gcd (x % y) y = Nat.gcd y x
  exact (Nat.gcd_rec y x).symm
theorem common_divisor_ok {a b : Int} {k : Nat} (ha : sz a k) (hb : sz b k) (h0 : 0 ≤ a) (h1 : 0 ≤ b) (hk : k ≤ 800) : F_common_divisor [.d (.int a), .d (.int b)] [] = some (.d (.int (Int.gcd a b)), []) := by
  refine wO.get (w_fn rfl rfl ?_)
  have e1 : ¬ a < 0 := by omega
  have e2 : ¬ b < 0 := by omega
  simp [↓B_common_divisor, e1, e2]
  refine w_whileI (fun n e m => ∃ x y : Int, e = [some (.d (.int x)), some (.d (.int y))] ∧ m = [] ∧ 0 ≤ x ∧ 0 ≤ y ∧ sz x k ∧ sz y k ∧ Int.gcd x y = Int.gcd a b ∧ n = y.toNat) ⟨a, b, rfl, rfl, h0, h1, ha, hb, rfl, rfl⟩ ?_
  rintro n e m ⟨x, y, rfl, rfl, x0, y0, xk, yk, g, rfl⟩
  by_cases hy : y = 0
  · subst hy
    simp [← g]
    omega
  · have yp : 0 < y := by omega
    have q0 : 0 ≤ x / y := Int.ediv_nonneg x0 y0
    have q1 : x / y ≤ x := Int.ediv_le_self _ x0
    have f1 : mulFits (x / y) y := sz_fit (sz_of q0 q1 xk) yk hk hk
    have m0 : 0 ≤ x % y := Int.emod_nonneg _ hy
    have m1 : x % y < y := Int.emod_lt_of_pos _ yp
    simp [↓b1_common_divisor, hy, yp, sz_log yk hk, f1]
    refine ⟨(x - x / y * y).toNat, ?_, y, x - x / y * y, ⟨rfl, rfl⟩, y0, ?_, yk, ?_, ?_, rfl⟩
    · rw [euclid]; omega
    · rw [euclid]; exact m0
    · rw [euclid]; exact sz_of m0 (by omega) yk
    · rw [gcd_step x0 yp]; exact g
theorem law_divisor_ok {a b : Int} {k : Nat} (ha : sz a k) (hb : sz b k) (h0 : 0 ≤ a) (h1 : 0 ≤ b) (hk : k ≤ 800) : F__law_divisor [.d (.int a), .d (.int b)] [] = some (.d (.int (Int.gcd a b)), []) := by
  refine wO.get (w_fn rfl rfl ?_)
  simp [↓B__law_divisor]
  refine w_whileI (fun n e m => ∃ x y : Int, e = [some (.d (.int x)), some (.d (.int y))] ∧ m = [] ∧ 0 ≤ x ∧ 0 ≤ y ∧ sz x k ∧ sz y k ∧ Int.gcd x y = Int.gcd a b ∧ n = y.toNat) ⟨a, b, rfl, rfl, h0, h1, ha, hb, rfl, rfl⟩ ?_
  rintro n e m ⟨x, y, rfl, rfl, x0, y0, xk, yk, g, rfl⟩
  by_cases hy : y = 0
  · subst hy
    have e1 : ¬ x < 0 := by omega
    simp [← g, e1]
    omega
  · have yp : 0 < y := by omega
    have q0 : 0 ≤ x / y := Int.ediv_nonneg x0 y0
    have q1 : x / y ≤ x := Int.ediv_le_self _ x0
    have f1 : mulFits (x / y) y := sz_fit (sz_of q0 q1 xk) yk hk hk
    have m0 : 0 ≤ x % y := Int.emod_nonneg _ hy
    have m1 : x % y < y := Int.emod_lt_of_pos _ yp
    simp [↓b1__law_divisor, hy, yp, sz_log yk hk, f1]
    refine ⟨(x - x / y * y).toNat, ?_, y, x - x / y * y, ⟨rfl, rfl⟩, y0, ?_, yk, ?_, ?_, rfl⟩
    · rw [euclid]; omega
    · rw [euclid]; exact m0
    · rw [euclid]; exact sz_of m0 (by omega) yk
    · rw [gcd_step x0 yp]; exact g
theorem gcd_pos {a b : Int} (h : 0 < b) : (0 : Int) < (Int.gcd a b : Int) := by
  have := Int.gcd_pos_of_ne_zero_right a (b := b) (by omega)
  omega
theorem gcd_sz {a b : Int} {k : Nat} (h : 0 < b) (hb : sz b k) : sz (Int.gcd a b : Int) k := by
  refine sz_of (by omega) ?_ hb
  exact Int.le_of_dvd h (Int.gcd_dvd_right ..)
theorem quotient_ok {a b : Int} {k : Nat} (ha : sz a k) (hb : sz b k) (h0 : 0 ≤ a) (h1 : 0 < b) (hk : k ≤ 800) : F_quotient [.d (.int a), .d (.int b)] [] = some (.d (pr ((a : Rat) / (b : Rat))), []) := by
  have g0 := gcd_pos (a := a) h1
  have gs := gcd_sz (a := a) h1 hb
  unfold pr
  rw [(frac h1).1, (frac h1).2]
  simp [F_quotient, mkFn, B_quotient, common_divisor_ok ha hb h0 (by omega) hk]
  exact ⟨.inr (by omega), by have := sz_log gs hk; simpa using this⟩
theorem law_quotient_ok {a b : Int} {k : Nat} (ha : sz a k) (hb : sz b k) (h0 : 0 ≤ a) (h1 : 0 < b) (hk : k ≤ 800) : F__law_quotient [.d (.int a), .d (.int b)] [] = some (.d (pr ((a : Rat) / (b : Rat))), []) := by
  have g0 := gcd_pos (a := a) h1
  have gs := gcd_sz (a := a) h1 hb
  unfold pr
  rw [(frac h1).1, (frac h1).2]
  simp [F__law_quotient, mkFn, B__law_quotient, law_divisor_ok ha hb h0 (by omega) hk]
  exact ⟨.inr (by omega), by have := sz_log gs hk; simpa using this⟩
/-! ### powers -/
theorem power_ok {b : Int} (hb : sz b 1) {k : Nat} (hk : k ≤ 100) : F_power [.d (.int b), .d (.int (k : Int))] [] = some (.d (.int (b ^ k)), []) := by
  refine wO.get (w_fn rfl rfl ?_)
  have hr : rngOk (k : Int) = true := rng_of (by omega)
  simp [↓B_power, hr]
  refine w_forI (fun i e m => m = [] ∧ ∃ t, e = [some (.d (.int b)), some (.d (.int (k : Int))), some (.d (.int (b ^ i))), t]) ⟨rfl, none, by simp⟩ ?_ ?_
  · rintro i x e m hx ⟨rfl, t, rfl⟩
    have hi : i < k := by
      have := (List.getElem?_eq_some_iff.mp hx).1
      simpa [Gg.upTo] using this
    have f1 : mulFits (b ^ i) b := sz_fit (sz_pow hb i) hb (by omega) (by decide)
    simp [↓b1_power, mulInt, f1, Int.pow_succ]
  · rintro e m ⟨rfl, t, rfl⟩
    simp
end K70

end
section
/-! K70c: odds of tries. -/
namespace K70
open PySem Gg
theorem od_sz {o : Odd} (h : OOk o) : sz o.d 1 ∧ sz o.u 1 ∧ sz (o.d - o.u) 1 := by
  obtain ⟨h1, h2, h3, h4⟩ := h
  exact ⟨sz_one (by omega), sz_one (by omega), sz_one (by omega)⟩
theorem cd_sz {o : Odd} (h : OOk o) (k : Nat) : sz (cd o k) k := sz_pow (od_sz h).1 k
theorem cn_sz {o : Odd} (h : OOk o) (k : Nat) : sz (cn o k) k := sz_of (cn_nonneg h k) (cn_le h k) (cd_sz h k)
def raw (a b : Int) : PyData := .tuple [.int a, .int b]
theorem chance_of_ok {o : Odd} (h : OOk o) {k : Nat} (hk : k ≤ 100) : F_chance_of [.d (ov o), .d (.int (k : Int))] [] = some (.d (raw (cn o k) (cd o k)), []) := by
  simp [F_chance_of, mkFn, B_chance_of, ov, raw, power_ok (od_sz h).1 hk, power_ok (od_sz h).2.2 hk, cn, cd]
theorem chance_within_ok {o : Odd} (h : OOk o) {k : Nat} (hk : k ≤ 60) : F_chance_within [.d (ov o), .d (.int (k : Int))] [] = some (.d (pr (fo o k)), []) := by
  have q := quotient_ok (cn_sz h k) (cd_sz h k) (cn_nonneg h k) (cd_pos h k) (by omega)
  rw [chance_eq h] at q
  simp [F_chance_within, mkFn, B_chance_within, check_odds_ok h, check_tries_ok hk, chance_of_ok h (show k ≤ 100 by omega), raw, q, fo]
/-- that the try with a number is the first that does it -/
theorem at_eq {o : Odd} (h : OOk o) (n : Nat) : ((o.u * (o.d - o.u) ^ n : Int) : Rat) / ((o.d ^ (n + 1) : Int) : Rat) = rho o ^ n * (1 - rho o) := by
  have hd := cast_ne (show 0 < o.d by have := h.1; omega)
  have hn := pow_ne hd n
  rw [rho_pow h, Rat.intCast_mul, Int.pow_succ, Rat.intCast_mul, Rat.intCast_pow]
  unfold rho
  rw [Rat.intCast_sub]
  have e : ((o.d ^ n : Int) : Rat) = (o.d : Rat) ^ n := Rat.intCast_pow ..
  rw [e]
  grind
theorem chance_at_ok {o : Odd} (h : OOk o) {n : Nat} (hn : n < 60) : F_chance_at [.d (ov o), .d (.int ((n : Int) + 1))] [] = some (.d (pr (rho o ^ n * (1 - rho o))), []) := by
  have s1 := od_sz h
  have p1 := sz_pow s1.2.2 n
  have f1 : mulFits o.u ((o.d - o.u) ^ n) := sz_fit s1.2.1 p1 (by decide) (by omega)
  have a1 : sz (o.u * (o.d - o.u) ^ n) (n + 1) := sz_mono (sz_mul s1.2.1 p1) (by omega)
  have q := quotient_ok (a := o.u * (o.d - o.u) ^ n) (b := o.d ^ (n + 1)) a1 (sz_pow s1.1 (n + 1)) (Int.mul_nonneg h.2.2.1 (Int.pow_nonneg (by have := h.2.2.2; omega))) (Int.pow_pos (by have := h.1; omega)) (by omega)
  rw [at_eq h] at q
  have e1 : (n : Int) + 1 ≤ 60 := by omega
  have e0 : (1 : Int) ≤ (n : Int) + 1 := by omega
  have w1 := power_ok s1.2.2 (k := n) (by omega)
  have w2 := power_ok s1.1 (k := n + 1) (by omega)
  have e2 : (n : Int) + 1 - 1 = n := by omega
  have e3 : ((n + 1 : Nat) : Int) = (n : Int) + 1 := by omega
  rw [e3] at w2
  have co := check_odds_ok h (.str "odds")
  unfold ov at *
  simp [F_chance_at, mkFn, B_chance_at, co, is_between_i, e1, e0, e2, w1, w2, f1, q]
/-! ### the mean -/
def mu (o : Odd) : Nat → Int
  | 0 => 0
  | k + 1 => mu o k * o.d + (o.d - o.u) ^ k * o.d
def mean (o : Odd) : Nat → Rat
  | 0 => 0
  | k + 1 => mean o k + rho o ^ k
theorem mu_bd {o : Odd} (h : OOk o) : ∀ k : Nat, 0 ≤ mu o k ∧ mu o k ≤ k * o.d ^ k
  | 0 => by simp [mu]
  | k + 1 => by
    obtain ⟨a, b⟩ := mu_bd h k
    have d0 : 0 ≤ o.d := by have := h.1; omega
    have q0 : 0 ≤ o.d - o.u := by have := h.2.2.2; omega
    have p0 : 0 ≤ (o.d - o.u) ^ k := Int.pow_nonneg q0
    have p1 : (o.d - o.u) ^ k ≤ o.d ^ k := pow_le_pow q0 (by have := h.2.2.1; omega) k
    simp only [mu]
    refine ⟨Int.add_nonneg (Int.mul_nonneg a d0) (Int.mul_nonneg p0 d0), ?_⟩
    have e1 : mu o k * o.d ≤ k * o.d ^ k * o.d := Int.mul_le_mul_of_nonneg_right b d0
    have e2 : (o.d - o.u) ^ k * o.d ≤ o.d ^ k * o.d := Int.mul_le_mul_of_nonneg_right p1 d0
    rw [Int.pow_succ]
    have e3 : ((k + 1 : Nat) : Int) * (o.d ^ k * o.d) = k * o.d ^ k * o.d + o.d ^ k * o.d := by
      rw [show ((k + 1 : Nat) : Int) = (k : Int) + 1 by omega]; grind
    omega
theorem mu_sz {o : Odd} (h : OOk o) {k : Nat} (hk : k ≤ 100) : sz (mu o k) (k + 1) := by
  obtain ⟨a, b⟩ := mu_bd h k
  refine sz_of a b ?_
  have := sz_mul (i := (k : Int)) (a := 1) (sz_one (by omega)) (sz_pow (od_sz h).1 k)
  exact sz_mono this (by omega)
theorem mean_eq {o : Odd} (h : OOk o) : ∀ k : Nat, ((mu o k : Int) : Rat) / ((o.d ^ k : Int) : Rat) = mean o k
  | 0 => by simp only [mu, mean]; rw [Rat.intCast_zero]; grind
  | k + 1 => by
    have ih := mean_eq h k
    have hd := cast_ne (show 0 < o.d by have := h.1; omega)
    have hn := pow_ne hd k
    simp only [mu, mean]
    rw [← ih, rho_pow h, Rat.intCast_add, Rat.intCast_mul, Rat.intCast_mul, Int.pow_succ, Rat.intCast_mul]
    have e : ((o.d ^ k : Int) : Rat) = (o.d : Rat) ^ k := Rat.intCast_pow ..
    rw [e]
    grind
theorem mean_tries_ok {o : Odd} (h : OOk o) {k : Nat} (hk : k ≤ 60) : F_mean_tries [.d (ov o), .d (.int (k : Int))] [] = some (.d (pr (mean o k)), []) := by
  refine wO.get (w_fn rfl rfl ?_)
  have s1 := od_sz h
  have hr : rngOk (k : Int) = true := rng_of (by omega)
  have co := check_odds_ok h (.str "odds")
  simp [↓B_mean_tries, co, check_tries_ok hk, hr]
  refine w_forI (fun i e m => m = [] ∧ ∃ t, e = [some (.d (ov o)), some (.d (.int (k : Int))), some (.d (.int (mu o i))), some (.d (.int (o.d ^ i))), t]) ⟨rfl, none, by simp [mu]⟩ ?_ ?_
  · rintro i x e m hx ⟨rfl, t, rfl⟩
    have hi : i < k := by
      have := (List.getElem?_eq_some_iff.mp hx).1
      simpa [Gg.upTo] using this
    have ex : x = .d (.int (i : Int)) := by
      rw [upTo_0] at hx
      simp [hi] at hx
      exact hx.symm
    subst ex
    have f1 : mulFits (mu o i) o.d := sz_fit (mu_sz h (by omega)) s1.1 (by omega) (by decide)
    have f2 : mulFits ((o.d - o.u) ^ i) o.d := sz_fit (sz_pow s1.2.2 i) s1.1 (by omega) (by decide)
    have f3 : mulFits (o.d ^ i) o.d := sz_fit (sz_pow s1.1 i) s1.1 (by omega) (by decide)
    have w := power_ok s1.2.2 (k := i) (by omega)
    unfold ov
    simp [↓b1_mean_tries, w, f1, f2, f3, Int.pow_succ, mu]
  · rintro e m ⟨rfl, t, rfl⟩
    have q := quotient_ok (a := mu o k) (b := o.d ^ k) (mu_sz h (by omega)) (sz_mono (sz_pow s1.1 k) (by omega)) (mu_bd h k).1 (Int.pow_pos (by have := h.1; omega)) (by omega)
    rw [mean_eq h] at q
    simp [q, Gg.upTo]
theorem law_left_ok {o : Odd} (h : OOk o) {k : Nat} (hk : k ≤ 100) : F__law_left [.d (ov o), .d (.int (k : Int))] [] = some (.d (pr (rho o ^ k)), []) := by
  refine wO.get (w_fn rfl rfl ?_)
  have s1 := od_sz h
  have hr : rngOk (k : Int) = true := rng_of (by omega)
  simp [↓B__law_left, hr]
  refine w_forI (fun i e m => m = [] ∧ ∃ t, e = [some (.d (ov o)), some (.d (.int (k : Int))), some (.d (.int ((o.d - o.u) ^ i))), some (.d (.int (o.d ^ i))), t]) ⟨rfl, none, by simp⟩ ?_ ?_
  · rintro i x e m hx ⟨rfl, t, rfl⟩
    have hi : i < k := by
      have := (List.getElem?_eq_some_iff.mp hx).1
      simpa [Gg.upTo] using this
    have f2 : mulFits ((o.d - o.u) ^ i) (o.d - o.u) := sz_fit (sz_pow s1.2.2 i) s1.2.2 (by omega) (by decide)
    have f3 : mulFits (o.d ^ i) o.d := sz_fit (sz_pow s1.1 i) s1.1 (by omega) (by decide)
    unfold ov
    simp [↓b1__law_left, f2, f3, Int.pow_succ]
  · rintro e m ⟨rfl, t, rfl⟩
    have q := law_quotient_ok (a := (o.d - o.u) ^ k) (b := o.d ^ k) (sz_pow s1.2.2 k) (sz_pow s1.1 k) (Int.pow_nonneg (by have := h.2.2.2; omega)) (Int.pow_pos (by have := h.1; omega)) (by omega)
    rw [← rho_pow h] at q
    simp [q, Gg.upTo]
theorem is_less_ok {a b c d : Int} {i j : Nat} (ha : sz a i) (hb : sz b i) (hc : sz c j) (hd : sz d j) (hi : i ≤ 800) (hj : j ≤ 800) : F_is_less [.d (raw a b), .d (raw c d)] [] = some (.d (.bool (decide (a * d < c * b))), []) := by
  have f1 : mulFits a d := sz_fit ha hd hi hj
  have f2 : mulFits c b := sz_fit hc hb hj hi
  simp [F_is_less, mkFn, B_is_less, raw, f1, f2]
/-- the first of them, or None -/
def hd1 : List Nat → PyData
  | [] => .none
  | y :: _ => .int (y : Int)
theorem least_tries_ok {o g : Odd} (h : OOk o) (hg : OOk g) : F_least_tries [.d (ov o), .d (ov g)] [] = some (.d (hd1 ((List.range 61).filter fun k => !decide (cn o k * g.d < g.u * cd o k))), []) := by
  refine wO.get (w_fn rfl rfl ?_)
  have co := check_odds_ok h (.str "odds")
  have cg := check_odds_ok hg (.str "goal")
  have hr : rngOk 61 = true := rfl
  simp [↓B_least_tries, co, cg, hr]
  refine w_rangeS (fun k => !decide (cn o k * g.d < g.u * cd o k)) (fun k => .int (k : Int)) (fun i hi => ?_) ?_
  · have w1 := chance_of_ok h (k := i) (by omega)
    have w2 := is_less_ok (a := cn o i) (b := cd o i) (c := g.u) (d := g.d) (cn_sz h i) (cd_sz h i) (od_sz hg).2.1 (od_sz hg).1 (by omega) (by decide)
    have e : ov g = raw g.u g.d := rfl
    simp [↓t1_least_tries, w1, e, w2]
  · rcases hl : (List.range 61).filter (fun k => !decide (cn o k * g.d < g.u * cd o k)) with _ | ⟨y, r⟩
    · simp [hd1]
    · simp [ixPos, hd1]
end K70

end
section
/-! K70d: tries added: the law's def. -/
namespace K70
open PySem Gg
abbrev stC (st : List PyData) : Cell := .lst (st.map .d)
theorem draw_w {n : Nat} {st : List PyData} {many : Int} {Q : LV × List (List PyData) → Prop} (h : Ok (n + 1) st) (h1 : 1 ≤ many) (h2 : many < 1000000000000) (q : ∀ (r : Int) (st' : List PyData), 0 ≤ r → r < many → Ok n st' → Q (.d (.int r), [st'])) : wO (F__law_draw [.ref 0, .d (.int many)] [st]) Q := by
  obtain ⟨r, st', g1, g2, g3, g4⟩ := draw_ok n st many h h1 h2
  exact .of g1 (q r st' g2 g3 g4)
/-- a quotient's size -/
structure Sz (r : Rat) (k : Nat) : Prop where
  num : sz r.num k
  den : sz (r.den : Int) k
theorem Sz.of {u d : Int} {k : Nat} {r : Rat} (hd : 0 < d) (hu : sz u k) (h : sz d k) (e : (u : Rat) / (d : Rat) = r) : Sz r k := by
  subst e
  refine ⟨?_, sz_of (by omega) (frac_den_le hd) h⟩
  unfold sz at *
  exact Nat.le_trans (frac_num_le hd) hu
theorem Sz.mono {r : Rat} {a b : Nat} (h : Sz r a) (hab : a ≤ b) : Sz r b := ⟨sz_mono h.num hab, sz_mono h.den hab⟩
theorem fo_sz {o : Odd} (h : OOk o) (k : Nat) : Sz (fo o k) k := .of (cd_pos h k) (cn_sz h k) (cd_sz h k) (chance_eq h k)
theorem rho_sz {o : Odd} (h : OOk o) (k : Nat) : Sz (rho o ^ k) k := .of (Int.pow_pos (by have := h.1; omega)) (sz_pow (od_sz h).2.2 k) (sz_pow (od_sz h).1 k) (rho_pow h k).symm
theorem pa_sz {o : Odd} (h : OOk o) (k : Nat) : Sz (rho o ^ k * (1 - rho o)) (k + 1) := .of (Int.pow_pos (by have := h.1; omega)) (sz_mono (sz_mul (od_sz h).2.1 (sz_pow (od_sz h).2.2 k)) (by omega)) (sz_pow (od_sz h).1 (k + 1)) (at_eq h k)
theorem mean_sz {o : Odd} (h : OOk o) {k : Nat} (hk : k ≤ 100) : Sz (mean o k) (k + 1) := .of (Int.pow_pos (by have := h.1; omega)) (mu_sz h hk) (sz_mono (sz_pow (od_sz h).1 k) (by omega)) (mean_eq h k)
theorem num_nn {r : Rat} (h : 0 ≤ r) : 0 ≤ r.num := Rat.num_nonneg.mpr h
/-- what is left -/
def lf (r : Rat) : Int := (r.den : Int) - r.num
theorem lf_eq (r : Rat) : ((lf r : Int) : Rat) / ((r.den : Int) : Rat) = 1 - r := by
  have h := self_div r
  have n := cast_ne (den_pos r)
  unfold lf
  rw [Rat.intCast_sub]
  grind
theorem lf_nn {r : Rat} (h : r ≤ 1) : 0 ≤ lf r := by
  have e := lf_eq r
  have p := Rat.intCast_pos.mpr (den_pos r)
  have h2 : (0 : Rat) ≤ ((lf r : Int) : Rat) := by
    have : ((lf r : Int) : Rat) = (1 - r) * ((r.den : Int) : Rat) := by have := cast_ne (den_pos r); grind
    rw [this]
    exact Rat.mul_nonneg (by grind) (by grind)
  exact Rat.intCast_nonneg.mp h2
theorem lf_sz {r : Rat} {k : Nat} (h : Sz r k) : sz (lf r) (k + 1) := sz_sub h.den h.num (Nat.le_refl _)
theorem fo_add {o : Odd} (a b : Nat) : (1 - fo o a) * (1 - fo o b) = 1 - fo o (a + b) := by
  unfold fo
  have : rho o ^ (a + b) = rho o ^ a * rho o ^ b := by
    induction b with
    | zero => simp
    | succ b ih => rw [← Nat.add_assoc, Rat.pow_succ, Rat.pow_succ, ih]; grind
  rw [this]; grind
theorem div_mul (a b c d : Int) (hb : 0 < b) (hd : 0 < d) : ((a * c : Int) : Rat) / ((b * d : Int) : Rat) = ((a : Rat) / (b : Rat)) * ((c : Rat) / (d : Rat)) := by
  have h1 := cast_ne hb
  have h2 := cast_ne hd
  rw [Rat.intCast_mul, Rat.intCast_mul]
  grind
theorem div_add (a b c d : Int) (hb : 0 < b) (hd : 0 < d) : ((a * d + c * b : Int) : Rat) / ((b * d : Int) : Rat) = ((a : Rat) / (b : Rat)) + ((c : Rat) / (d : Rat)) := by
  have h1 := cast_ne hb
  have h2 := cast_ne hd
  rw [Rat.intCast_add, Rat.intCast_mul, Rat.intCast_mul, Rat.intCast_mul]
  grind
/-- quotients of pairs -/
theorem lq_mul {r s : Rat} {k : Nat} (h1 : Sz r k) (h2 : Sz s k) (r0 : 0 ≤ r) (s0 : 0 ≤ s) (hk : k + k ≤ 800) : F__law_quotient [.d (.int (r.num * s.num)), .d (.int ((r.den : Int) * (s.den : Int)))] [] = some (.d (pr (r * s)), []) := by
  have q := law_quotient_ok (sz_mul h1.num h2.num) (sz_mul h1.den h2.den) (Int.mul_nonneg (num_nn r0) (num_nn s0)) (Int.mul_pos (den_pos r) (den_pos s)) hk
  rwa [div_mul _ _ _ _ (den_pos r) (den_pos s), self_div, self_div] at q
theorem lq_add {r s : Rat} {k : Nat} (h1 : Sz r k) (h2 : Sz s k) (r0 : 0 ≤ r) (s0 : 0 ≤ s) (hk : k + k + 1 ≤ 800) : F__law_quotient [.d (.int (r.num * (s.den : Int) + s.num * (r.den : Int))), .d (.int ((r.den : Int) * (s.den : Int)))] [] = some (.d (pr (r + s)), []) := by
  have q := law_quotient_ok (sz_add (sz_mul h1.num h2.den) (sz_mul h2.num h1.den) (Nat.le_refl _)) (sz_mono (sz_mul h1.den h2.den) (by omega)) (Int.add_nonneg (Int.mul_nonneg (num_nn r0) (by have := den_pos s; omega)) (Int.mul_nonneg (num_nn s0) (by have := den_pos r; omega))) (Int.mul_pos (den_pos r) (den_pos s)) hk
  rwa [div_add _ _ _ _ (den_pos r) (den_pos s), self_div, self_div] at q
theorem lq_left {r : Rat} {k : Nat} (h : Sz r k) (h1 : r ≤ 1) (hk : k + 1 ≤ 800) : F__law_quotient [.d (.int ((r.den : Int) - r.num)), .d (.int (r.den : Int))] [] = some (.d (pr (1 - r)), []) := by
  have q := law_quotient_ok (lf_sz h) (sz_mono h.den (by omega)) (lf_nn h1) (den_pos r) hk
  rwa [lf_eq] at q
theorem lq_lefts {r s : Rat} {k : Nat} (h1 : Sz r k) (h2 : Sz s k) (r1 : r ≤ 1) (s1 : s ≤ 1) (hk : k + 1 + (k + 1) ≤ 800) : F__law_quotient [.d (.int (((r.den : Int) - r.num) * ((s.den : Int) - s.num))), .d (.int ((r.den : Int) * (s.den : Int)))] [] = some (.d (pr ((1 - r) * (1 - s))), []) := by
  have q := law_quotient_ok (sz_mul (lf_sz h1) (lf_sz h2)) (sz_mono (sz_mul h1.den h2.den) (by omega)) (Int.mul_nonneg (lf_nn r1) (lf_nn s1)) (Int.mul_pos (den_pos r) (den_pos s)) hk
  rwa [div_mul _ _ _ _ (den_pos r) (den_pos s), lf_eq, lf_eq] at q
theorem pr_eq (r : Rat) : neD (pr r) (pr r) = some (.bool false) := neD_same rfl
end K70

end
section
/-! K70e: tries added: the law's def. -/
namespace K70
open PySem Gg
theorem fo_zero0 (o : Odd) : fo o 0 = 0 := by unfold fo; rw [Rat.pow_zero]; grind
theorem fo_step (o : Odd) (i : Nat) : fo o i + rho o ^ i * (1 - rho o) = fo o (i + 1) := by unfold fo; rw [Rat.pow_succ]; grind
theorem u_d {o : Odd} (h : OOk o) : ((o.u : Int) : Rat) / ((o.d : Int) : Rat) = 1 - rho o := by
  have hd := cast_ne (show 0 < o.d by have := h.1; omega)
  unfold rho
  rw [Rat.intCast_sub]
  grind
theorem lq_at {o : Odd} (h : OOk o) {n : Nat} (hn : n ≤ 100) : F__law_quotient [.d (.int ((rho o ^ n).num * o.u)), .d (.int (((rho o ^ n).den : Int) * o.d))] [] = some (.d (pr (rho o ^ n * (1 - rho o))), []) := by
  have s1 := rho_sz h n
  have s2 := od_sz h
  have d0 : 0 < o.d := by have := h.1; omega
  have q := law_quotient_ok (sz_mul s1.num s2.2.1) (sz_mul s1.den s2.1) (Int.mul_nonneg (num_nn (pow01 (rho01 h).1 (rho01 h).2 n).1) h.2.2.1) (Int.mul_pos (den_pos _) d0) (by omega)
  rwa [div_mul _ _ _ _ (den_pos _) d0, self_div, u_d h] at q
theorem mean_nn {o : Odd} (h : OOk o) : ∀ k : Nat, 0 ≤ mean o k
  | 0 => by simp only [mean]; decide
  | k + 1 => by
    have a := mean_nn h k
    have b := (pow01 (rho01 h).1 (rho01 h).2 k).1
    simp only [mean]; grind
theorem cross {o : Odd} (h : OOk o) (k : Nat) (gu gd : Int) : (cn o k * gd < gu * cd o k) ↔ ¬ (gu * ((fo o k).den : Int) ≤ (fo o k).num * gd) := by
  have e := chance_eq h k
  have e1 : ((cn o k : Int) : Rat) = fo o k * ((cd o k : Int) : Rat) := by have := cast_ne (cd_pos h k); unfold fo; grind
  have e2 := self_div (fo o k)
  have e3 : (((fo o k).num : Int) : Rat) = fo o k * (((fo o k).den : Int) : Rat) := by have := cast_ne (den_pos (fo o k)); grind
  have e4 : cn o k * ((fo o k).den : Int) = (fo o k).num * cd o k := by
    apply Rat.intCast_inj.mp
    rw [Rat.intCast_mul, Rat.intCast_mul, e1, e3]; grind
  have p1 := cd_pos h k
  have p2 := den_pos (fo o k)
  generalize cn o k = a at *
  generalize cd o k = b at *
  generalize ((fo o k).den : Int) = d at *
  generalize (fo o k).num = n at *
  rw [Int.not_le]
  constructor
  · intro hl
    have : a * gd * d < gu * b * d := Int.mul_lt_mul_of_pos_right hl p2
    have e5 : n * gd * b < gu * d * b := by
      have x1 : a * gd * d = n * gd * b := by rw [show a * gd * d = a * d * gd by grind, e4]; grind
      have x2 : gu * b * d = gu * d * b := by grind
      omega
    exact Int.lt_of_mul_lt_mul_right e5 (by omega)
  · intro hl
    have : n * gd * b < gu * d * b := Int.mul_lt_mul_of_pos_right hl p1
    have e5 : a * gd * d < gu * b * d := by
      have x1 : a * gd * d = n * gd * b := by rw [show a * gd * d = a * d * gd by grind, e4]; grind
      have x2 : gu * b * d = gu * d * b := by grind
      omega
    exact Int.lt_of_mul_lt_mul_right e5 (by omega)
@[simp] theorem ix0 (r : Rat) : ixD (pr r) (.int 0) = some (.int r.num) := rfl
@[simp] theorem ix1 (r : Rat) : ixD (pr r) (.int 1) = some (.int (r.den : Int)) := rfl
@[simp] theorem pr_ne (r : Rat) : neD (pr r) (pr r) = some (.bool false) := pr_eq r
@[simp] theorem tg_pr {ts : List TM} {e : Gg.Env} {m : Sto} (r : Rat) : tTup ts (.d (pr r)) e m = toAll ts [.d (.int r.num), .d (.int (r.den : Int))] e m := rfl
theorem odds_ok {n : Nat} {st : List PyData} (h : Ok (n + 5) st) : wO (F__law_odds_hold [.ref 0] [st]) fun r => ∃ st', r = (.d (.bool true), [st']) ∧ Ok n st' := by
  refine w_fn rfl rfl ?_
  simp [↓B__law_odds_hold]
  refine draw_w (n := n + 4) h (by omega) (by omega) fun dn s1 d1 d2 h1 => ?_
  simp
  refine draw_w (n := n + 3) h1 (by omega) (by omega) fun u s2 d3 d4 h2 => ?_
  simp
  refine draw_w (n := n + 2) h2 (by omega) (by omega) fun one s3 d5 d6 h3 => ?_
  simp
  refine draw_w (n := n + 1) h3 (by omega) (by omega) fun other s4 d7 d8 h4 => ?_
  obtain ⟨a, rfl⟩ : ∃ a : Nat, one = a := ⟨one.toNat, by omega⟩
  obtain ⟨b, rfl⟩ : ∃ b : Nat, other = b := ⟨other.toNat, by omega⟩
  have ho : OOk ⟨u, 1 + dn⟩ := ⟨by show 1 ≤ 1 + dn; omega, by show 1 + dn ≤ 1000; omega, d3, by show u ≤ 1 + dn; omega⟩
  generalize hO : (⟨u, 1 + dn⟩ : Odd) = o at ho
  have hov : PyData.tuple [.int u, .int (1 + dn)] = ov o := by rw [← hO]; rfl
  have hou : u = o.u := by rw [← hO]
  have hod : 1 + dn = o.d := by rw [← hO]
  simp [hov]
  have fa := fo_sz ho a
  have fb := fo_sz ho b
  have fab := fo_sz ho (a + b)
  refine w_each (g := fun t : Nat => LV.d (.int (t : Int))) (l := [a, b, a + b]) (fun t => pr (fo o t)) (fun t ht => ?_) ?_
  · have ht : t ≤ 60 := by simp at ht; omega
    simp [↓e1__law_odds_hold, chance_within_ok ho ht]
  simp
  refine w_each (g := fun t : Nat => LV.d (pr (fo o t))) (l := [a, b, a + b]) (fun t => .int (((fo o t).den : Int) - (fo o t).num)) (fun t ht => ?_) ?_
  · unfold pr
    simp [↓e2__law_odds_hold]
  have x3 : ixPos 3 0 = some 0 := rfl
  have x4 : ixPos 3 1 = some 1 := rfl
  have x5 : ixPos 3 2 = some 2 := rfl
  have f1 : mulFits (((fo o a).den : Int) - (fo o a).num) (((fo o b).den : Int) - (fo o b).num) := sz_fit (lf_sz fa) (lf_sz fb) (by omega) (by omega)
  have f2 : mulFits ((fo o a).den : Int) ((fo o b).den : Int) := sz_fit fa.den fb.den (by omega) (by omega)
  have q1 := lq_lefts (fa.mono (b := 8) (by omega)) (fb.mono (b := 8) (by omega)) (fo01 ho a).2 (fo01 ho b).2 (by omega)
  rw [fo_add] at q1
  have q2 := lq_left fab (fo01 ho (a + b)).2 (by omega)
  have q3 := law_left_ok ho (k := a) (by omega)
  have q4 := lq_left fa (fo01 ho a).2 (by omega)
  have er : rho o ^ a = 1 - fo o a := by unfold fo; grind
  rw [er] at q3
  simp [x3, x4, x5, f1, f2, q1, q2, q3, q4]
  refine ⟨⟨rfl, rng_of (by omega)⟩, ?_⟩
  refine w_forI (fun i e m => m = [stC s4] ∧ ∃ x10 x11 x12, e = [some (.ref 0), some (.d (.int (1 + dn))), some (.d (ov o)), some (.d (.int (a : Int))), some (.d (.int (b : Int))), some (.d (.list [pr (fo o a), pr (fo o b), pr (fo o (a + b))])), some (.d (.list [.int (((fo o a).den : Int) - (fo o a).num), .int (((fo o b).den : Int) - (fo o b).num), .int (((fo o (a + b)).den : Int) - (fo o (a + b)).num)])),
    some (.d (.int (fo o i).num)), some (.d (.int ((fo o i).den : Int))), some (.d (pr (mean o i))), x10, x11, x12, none, none, none]) ?_ ?_ ?_
  · refine ⟨rfl, none, none, none, ?_⟩
    rw [fo_zero0]; rfl
  · rintro i x e m hx ⟨rfl, x10, x11, x12, rfl⟩
    obtain ⟨hi, rfl⟩ := upTo_get hx
    have g1 := chance_at_ok ho (n := i) (by omega)
    rw [Int.add_comm] at g1
    have e2 : (1 : Int) + i - 1 = i := by omega
    have g2 := law_left_ok ho (k := i) (by omega)
    have g3 := lq_at ho (n := i) (by omega)
    have s1 := rho_sz ho i
    have s2 := pa_sz ho i
    have s3 := fo_sz ho i
    have s4 := mean_sz ho (k := i) (by omega)
    have od := od_sz ho
    have p0 := (pow01 (rho01 ho).1 (rho01 ho).2 i).1
    have pa0 : 0 ≤ rho o ^ i * (1 - rho o) := Rat.mul_nonneg p0 (by have := (rho01 ho).2; grind)
    have g4 := lq_add (s3.mono (b := i + 1) (by omega)) s2 (fo01 ho i).1 pa0 (by omega)
    rw [fo_step] at g4
    have g5 := lq_add s4 (s1.mono (b := i + 1) (by omega)) (mean_nn ho i) p0 (by omega)
    have f1 : mulFits (rho o ^ i).num o.u := sz_fit s1.num od.2.1 (by omega) (by decide)
    have f2 : mulFits ((rho o ^ i).den : Int) o.d := sz_fit s1.den od.1 (by omega) (by decide)
    have f3 : mulFits (fo o i).num ((rho o ^ i * (1 - rho o)).den : Int) := sz_fit s3.num s2.den (by omega) (by omega)
    have f4 : mulFits (rho o ^ i * (1 - rho o)).num ((fo o i).den : Int) := sz_fit s2.num s3.den (by omega) (by omega)
    have f5 : mulFits ((fo o i).den : Int) ((rho o ^ i * (1 - rho o)).den : Int) := sz_fit s3.den s2.den (by omega) (by omega)
    have f6 : mulFits (mean o i).num ((rho o ^ i).den : Int) := sz_fit s4.num s1.den (by omega) (by omega)
    have f7 : mulFits (rho o ^ i).num ((mean o i).den : Int) := sz_fit s1.num s4.den (by omega) (by omega)
    have f8 : mulFits ((mean o i).den : Int) ((rho o ^ i).den : Int) := sz_fit s4.den s1.den (by omega) (by omega)
    have ou0 : ixD (ov o) (.int 0) = some (.int o.u) := rfl
    have ou1 : ixD (ov o) (.int 1) = some (.int o.d) := rfl
    simp [-Rat.num_pow, -Rat.den_pow, ↓b1__law_odds_hold, g1, e2, g2, ou0, ou1, f1, f2, g3, f3, f4, f5, g4, f6, f7, f8, g5]
    rfl
  · rintro e m ⟨rfl, x10, x11, x12, rfl⟩
    have g1 := mean_tries_ok ho (k := a) (by omega)
    have eu : PyData.tuple [.int (fo o a).num, .int ((fo o a).den : Int)] = pr (fo o a) := rfl
    simp [x3, eu, g1]
    refine draw_w (n := n) h4 (by omega) (by omega) fun g s5 c1 c2 h5 => ?_
    have hg : OOk ⟨g, 10⟩ := ⟨by show (1 : Int) ≤ 10; decide, by show (10 : Int) ≤ 1000; decide, c1, by show g ≤ 10; omega⟩
    have eg : PyData.tuple [.int g, .int 10] = ov ⟨g, 10⟩ := rfl
    have w0 := least_tries_ok ho hg
    simp [eg]
    refine ⟨rfl, w_rangeS (fun k => !decide (cn o k * 10 < g * cd o k)) (fun k => .int (k : Int)) (fun i hi => ?_) ?_⟩
    · have w1 := chance_within_ok ho (k := i) (by omega)
      have s3 := fo_sz ho i
      have od := od_sz hg
      have f1 : mulFits (fo o i).num 10 := sz_fit s3.num od.1 (by omega) (by decide)
      have f2 : mulFits g ((fo o i).den : Int) := sz_fit od.2.1 s3.den (by decide) (by omega)
      have ou0 : ixD (ov ⟨g, 10⟩) (.int 0) = some (.int g) := rfl
      have ou1 : ixD (ov ⟨g, 10⟩) (.int 1) = some (.int 10) := rfl
      have cr := cross ho i g 10
      simp [↓t1__law_odds_hold, w1, ou0, ou1, f1, f2]
      by_cases q : g * ((fo o i).den : Int) ≤ (fo o i).num * 10
      · have : ¬ (cn o i * 10 < g * cd o i) := fun z => cr.mp z q
        simp [q]; omega
      · have := cr.mpr q
        simp [q, this]
    · rcases hl : (List.range 61).filter (fun k => !decide (cn o k * 10 < g * cd o k)) with _ | ⟨y, r⟩
      · rw [hl] at w0
        simp [hd1] at w0
        have e0 : eqD .none .none = some (.bool true) := eqD_same rfl
        simp [w0, e0]
        exact h5
      · rw [hl] at w0
        simp [hd1] at w0
        simp [w0]
        exact h5
end K70

end
section
/-! K70f: waits. -/
namespace K70
open PySem Gg
structure Rule where
  f : Int
  t : Int
  M : Int
def ROk (r : Rule) : Prop := 0 ≤ r.f ∧ r.f ≤ r.M ∧ r.M ≤ 1000 ∧ 1 ≤ r.t ∧ r.t ≤ 1000
def rv (r : Rule) : PyData := .tuple [.int r.f, .int r.t, .int r.M]
def wt (r : Rule) : Nat → Int
  | 0 => r.f
  | i + 1 => min r.M (wt r i * r.t)
def bgn (r : Rule) (long : Int) : Nat → Int
  | 0 => 0
  | i + 1 => bgn r long i + long + wt r i
theorem wt_bd {r : Rule} (h : ROk r) : ∀ i, 0 ≤ wt r i ∧ wt r i ≤ 1000
  | 0 => by obtain ⟨a, b, c, _⟩ := h; simp only [wt]; omega
  | i + 1 => by
    obtain ⟨a, b⟩ := wt_bd h i
    obtain ⟨h1, h2, h3, h4, h5⟩ := h
    simp only [wt]
    have : 0 ≤ wt r i * r.t := Int.mul_nonneg a (by omega)
    omega
theorem bgn_bd {r : Rule} (h : ROk r) {long : Int} (hl : 0 ≤ long ∧ long ≤ 1000) : ∀ i : Nat, 0 ≤ bgn r long i ∧ bgn r long i ≤ 2000 * (i : Int)
  | 0 => by simp [bgn]
  | i + 1 => by
    have a := bgn_bd h hl i
    have b := wt_bd h i
    simp only [bgn]
    omega
theorem check_rule_ok {r : Rule} (h : ROk r) : F_check_rule [.d (rv r)] [] = some (.d .none, []) := by
  obtain ⟨h1, h2, h3, h4, h5⟩ := h
  refine wO.get (w_fn rfl rfl ?_)
  unfold rv
  simp [↓B_check_rule]
  refine w_each (g := fun i : Int => LV.d (.int i)) (l := [r.f, r.t, r.M]) (fun _ => .bool true) (fun i hi => ?_) ?_
  · have : 0 ≤ i ∧ i ≤ 1000000000000 := by simp at hi; omega
    simp [e1_check_rule, is_between_i, this]
  · have ha := bAll_map (f := fun _ : Int => true) [r.f, r.t, r.M]
    have e1 : ¬ r.t < 1 := by omega
    have e2 : ¬ r.M < r.f := by omega
    simp at ha
    simp [ha, e1, e2, h2]
theorem check_long_ok {a : Int} (h : 0 ≤ a ∧ a ≤ 1000) : F_check_long [.d (.int a)] [] = some (.d .none, []) := by
  have : a ≤ 1000000000000 := by omega
  simp [F_check_long, mkFn, B_check_long, is_between_i, h.1, this]
theorem waits_ok {r : Rule} (h : ROk r) {k : Nat} (hk : k ≤ 60) : F_waits_of [.d (rv r), .d (.int (k : Int))] [] = some (.d (.list ((List.range k).map fun i => .int (wt r i))), []) := by
  refine wO.get (w_fn rfl rfl ?_)
  have hr : rngOk (k : Int) = true := rng_of (by omega)
  simp [↓B_waits_of, hr]
  refine w_forI (fun i e m => m = [.lst ((List.range i).map fun i => .d (.int (wt r i)))] ∧ ∃ t, e = [some (.d (rv r)), some (.d (.int (k : Int))), some (.ref 0), t]) ⟨by simp, none, by simp⟩ ?_ ?_
  · rintro i x e m hx ⟨rfl, t, rfl⟩
    obtain ⟨hi, rfl⟩ := upTo_get hx
    have l1 : ¬ ((i : Int) + 1 ≤ 0) := by omega
    simp [↓b1_waits_of, rv]
    by_cases hz : i = 0
    · subst hz
      simp [wt]
    · obtain ⟨j, rfl⟩ : ∃ j, i = j + 1 := ⟨i - 1, by omega⟩
      have p1 : ixPos (j + 1) (-1) = some j := by unfold ixPos; simp; omega
      have f1 : mulFits (wt r j) r.t := by
        have := wt_bd h j
        exact sz_fit (sz_one (by omega)) (sz_one (by have := h.2.2.2; omega)) (by decide) (by decide)
      have em : (if wt r j * r.t < r.M then wt r j * r.t else r.M) = wt r (j + 1) := by simp only [wt]; omega
      rw [if_neg hz, p1]
      simp [f1, em, List.range_succ]
      omega
  · rintro e m ⟨rfl, t, rfl⟩
    have e1 : ((List.range k).map fun i => LV.d (.int (wt r i))) = ((List.range k).map fun i => PyData.int (wt r i)).map LV.d := by rw [List.map_map]; rfl
    simp
    refine .of (ev_frz (k := 0) rfl rfl (by rw [e1]; exact Gg.allD_map _)) ?_
    simp
theorem w_forNil {b : LV → SM} {e : Gg.Env} {m : Sto} {S : Out → Prop} : wO (forItems b [] e m) S = S (.nx e m) := by show wO (some (Out.nx e m)) S = _; rw [wO_some]
theorem begins_ok {r : Rule} (h : ROk r) {long : Int} (hl : 0 ≤ long ∧ long ≤ 1000) {k : Nat} (hk : k ≤ 60) : F_begins [.d (rv r), .d (.int long), .d (.int (k : Int))] [] = some (.d (.tuple ((List.range k).map fun i => .int (bgn r long i))), []) := by
  refine wO.get (w_fn rfl rfl ?_)
  simp [↓B_begins, check_rule_ok h, check_long_ok hl, check_tries_ok hk]
  by_cases h0 : k = 0
  · subst h0
    simp
    rw [w_forNil]
    simp
  · obtain ⟨j, rfl⟩ : ∃ j, k = j + 1 := ⟨k - 1, by omega⟩
    have e1 : ((j + 1 : Nat) : Int) - 1 = (j : Int) := by omega
    have e2 : (j : Int) + 1 - 1 = (j : Int) := by omega
    have w := waits_ok h (k := j) (by omega)
    simp [e1, e2, w]
    refine ⟨by omega, ?_⟩
    refine w_forI (fun i e m => m = [.lst ((List.range i).map fun i => .d (.int (bgn r long i)))] ∧ ∃ t, e = [some (.d (rv r)), some (.d (.int long)), some (.d (.int ((j : Int) + 1))), some (.ref 0), t]) ⟨by simp, none, by simp⟩ ?_ ?_
    · rintro i x e m hx ⟨rfl, t, rfl⟩
      cases i with
      | zero =>
        simp at hx
        subst hx
        simp [↓b1_begins, bgn]
      | succ i =>
        simp at hx
        obtain ⟨y, hy, rfl⟩ := hx
        have hij : i < j := by
          have := (List.getElem?_eq_some_iff.mp hy).1
          simpa using this
        have ey : y = i := by
          rw [List.getElem?_range hij] at hy
          exact (Option.some.inj hy).symm
        subst ey
        have p1 : ixPos (y + 1) (-1) = some y := by unfold ixPos; simp; omega
        simp [↓b1_begins, p1, List.range_succ, bgn]
        omega
    · rintro e m ⟨rfl, t, rfl⟩
      simp
theorem most_ok {r : Rule} (h : ROk r) {long e : Int} (hl : 0 ≤ long ∧ long ≤ 1000) (he : 0 ≤ e ∧ e ≤ 1000) : F_most_tries [.d (rv r), .d (.int long), .d (.int e)] [] = some (.d (.int (((List.range 60).filter fun i => decide (bgn r long i + long ≤ e)).length : Nat)), []) := by
  refine wO.get (w_fn rfl rfl ?_)
  have h1 : e ≤ 1000000000000 := by omega
  have w := begins_ok h hl (k := 60) (by omega)
  simp at w
  simp [↓B_most_tries, check_rule_ok h, check_long_ok hl, is_between_i, he.1, h1, w]
  refine w_some (g := fun i : Nat => LV.d (.int (bgn r long i))) (fun i => decide (bgn r long i + long ≤ e)) (fun _ => .int 1) (fun i hi => ?_) ?_
  · by_cases q : bgn r long i + long ≤ e
    · simp [↓t1_most_tries, ↓e1_most_tries, q]
    · simp [↓t1_most_tries, ↓e1_most_tries, q]
  · simp
theorem same_ok {n B : Nat} {x : PyData} (h : Nice n B x) (hn : n ≤ DEEP) (hB : B ≤ 16000000) : F__law_same [.d x, .d x] [] = some (.d (.bool true), []) := by
  simp [F__law_same, mkFn, B__law_same, eqD_self h hn, repr_same (show_nice h hn hB), eqD_txt]
theorem waits_hold {n : Nat} {st : List PyData} (h : Ok (n + 6) st) : wO (F__law_waits_hold [.ref 0] [st]) fun r => ∃ st', r = (.d (.bool true), [st']) ∧ Ok n st' := by
  refine w_fn rfl rfl ?_
  simp [↓B__law_waits_hold]
  refine draw_w (n := n + 5) h (by omega) (by omega) fun f s1 a1 a2 h1 => ?_
  simp
  refine draw_w (n := n + 4) h1 (by omega) (by omega) fun t s2 a3 a4 h2 => ?_
  simp
  refine draw_w (n := n + 3) h2 (by omega) (by omega) fun M s3 a5 a6 h3 => ?_
  simp
  refine draw_w (n := n + 2) h3 (by omega) (by omega) fun long s4 a7 a8 h4 => ?_
  simp
  refine draw_w (n := n + 1) h4 (by omega) (by omega) fun tries s5 a9 a10 h5 => ?_
  obtain ⟨k, rfl⟩ : ∃ k : Nat, tries = k := ⟨tries.toNat, by omega⟩
  have hr : rngOk (k : Int) = true := rng_of (by omega)
  simp [hr]
  have hR : ROk ⟨f, 1 + t, 5 + M⟩ := ⟨a1, by show f ≤ 5 + M; omega, by show 5 + M ≤ 1000; omega, by show 1 ≤ 1 + t; omega, by show 1 + t ≤ 1000; omega⟩
  have hl : 0 ≤ long ∧ long ≤ 1000 := by omega
  generalize hr : (⟨f, 1 + t, 5 + M⟩ : Rule) = r at hR
  have e1 : f = r.f := by rw [← hr]
  have e2 : 1 + t = r.t := by rw [← hr]
  have e3 : 5 + M = r.M := by rw [← hr]
  rw [e1, e2, e3]
  refine w_forI (fun i e m => m = [stC s5, .lst ((List.range i).map fun i => .d (.int (bgn r long i)))] ∧ ∃ x, e = [some (.ref 0), some (.d (.int r.f)), some (.d (.int r.t)), some (.d (.int r.M)), some (.d (.int long)), some (.d (.int (k : Int))), some (.d (.int (wt r i))), some (.d (.int (bgn r long i))), some (.ref 1), x, none, none, none]) ⟨by simp, none, by simp [wt, bgn]⟩ ?_ ?_
  · rintro i x e m hx ⟨rfl, x9, rfl⟩
    obtain ⟨hi, rfl⟩ := upTo_get hx
    have f1 : mulFits (wt r i) r.t := by
      have := wt_bd hR i
      exact sz_fit (sz_one (by omega)) (sz_one (by have := hR.2.2.2; omega)) (by decide) (by decide)
    simp [↓b1__law_waits_hold, f1, List.range_succ, wt, bgn]
    omega
  · rintro e m ⟨rfl, x9, rfl⟩
    have w := begins_ok hR hl (k := k) (by omega)
    have erv : PyData.tuple [.int r.f, .int r.t, .int r.M] = rv r := rfl
    have nc : Nice 2 200000 (.tuple ((List.range k).map fun i => .int (bgn r long i))) := by
      have := nice_ints (n := 0) (N := 12) (l := (List.range k).map fun i => bgn r long i) (fun i hi => by
        obtain ⟨j, hj, rfl⟩ := List.mem_map.mp hi
        have := List.mem_range.mp hj
        have := bgn_bd hR hl j
        unfold sm; omega) (by simp; omega)
      rw [List.map_map] at this
      exact this.mono (by decide)
    have sm := same_ok nc (by decide) (by decide)
    simp [erv, w, sm]
    refine draw_w (n := n) h5 (by omega) (by omega) fun en s6 b1 b2 h6 => ?_
    have w2 := begins_ok hR hl (k := 60) (by omega)
    simp at w2
    have w3 := most_ok hR hl (e := en) (by omega)
    simp [w2, w3]
    refine w_some (g := fun i : Nat => LV.d (.int (bgn r long i))) (fun i => decide (bgn r long i + long ≤ en)) (fun i => .int (bgn r long i)) (fun i hi => ?_) ?_
    · by_cases q : bgn r long i + long ≤ en
      · simp [↓t1__law_waits_hold, q]
      · simp [↓t1__law_waits_hold, q]
    · simp
      exact h6
end K70

end
section
/-! K70g: shares. -/
namespace K70
open PySem Gg
def rws (os : List Odd) : PyData := .tuple (os.map ov)
def shv (s : List Nat) : PyData := .tuple (s.map fun k : Nat => .int (k : Int))
def RsOk (os : List Odd) : Prop := 1 ≤ os.length ∧ os.length ≤ 20 ∧ ∀ o ∈ os, OOk o
theorem check_rows_ok {os : List Odd} (h : RsOk os) : F_check_rows [.d (rws os)] [] = some (.d .none, []) := by
  obtain ⟨h1, h2, h3⟩ := h
  refine wO.get (w_fn rfl rfl ?_)
  have e1 : (1 : Int) ≤ (os.length : Int) := by omega
  have e2 : (os.length : Int) ≤ 20 := by omega
  unfold rws
  simp [↓B_check_rows, e1, e2]
  refine w_forI (fun i e m => m = [] ∧ ∃ t, e = [some (.d (.tuple (os.map ov))), t]) ⟨rfl, none, rfl⟩ ?_ ?_
  · rintro i x e m hx ⟨rfl, t, rfl⟩
    simp at hx
    obtain ⟨o, ho, rfl⟩ := hx
    have hoo := check_odds_ok (h3 o (List.mem_of_getElem? ho)) (.str "odds")
    simp [↓b1_check_rows, hoo]
  · rintro e m ⟨rfl, t, rfl⟩
    simp
theorem ints_shv (s : List Nat) : intsOf (s.map fun k : Nat => PyData.int (k : Int)) = some (s.map fun k : Nat => (k : Int)) := by
  induction s with
  | nil => rfl
  | cons k s ih => simp only [List.map_cons, intsOf, ih, Option.map_some]
theorem sum_cast (s : List Nat) : (s.map fun k : Nat => (k : Int)).sum = (s.sum : Int) := by
  induction s with
  | nil => rfl
  | cons k s ih => simp only [List.map_cons, List.sum_cons, ih]; omega
theorem bSum_shv (s : List Nat) : bSum [shv s] = some (.int (s.sum : Int)) := by
  unfold shv bSum
  simp only [ints_shv, Option.map_some, sum_cast]
theorem minI_ge : ∀ (l : List Int) (a b : Int), b ≤ a → (∀ x ∈ l, b ≤ x) → b ≤ minI a l
  | [], a, b, h, _ => h
  | x :: l, a, b, h, hl => minI_ge l _ b (by have := hl x List.mem_cons_self; omega) fun y hy => hl y (List.mem_cons_of_mem _ hy)
theorem bMin_shv {s : List Nat} (h0 : s ≠ []) (h : ∀ k ∈ s, 1 ≤ k) : ∃ v : Int, 1 ≤ v ∧ bMin [shv s] = some (.int v) := by
  cases s with
  | nil => exact absurd rfl h0
  | cons k s =>
    refine ⟨minI (k : Int) (s.map fun k : Nat => (k : Int)), minI_ge _ _ _ (by have := h k List.mem_cons_self; omega) fun x hx => ?_, ?_⟩
    · obtain ⟨j, hj, rfl⟩ := List.mem_map.mp hx
      have := h j (List.mem_cons_of_mem _ hj); omega
    · unfold shv bMin
      have := ints_shv (k :: s)
      simp only [List.map_cons] at this
      simp only [List.map_cons, this]
theorem check_shares_ok {os : List Odd} {T : Nat} {s : List Nat} (h : Sh os T s) (h0 : 1 ≤ os.length) (hT : T ≤ 60) : F_check_shares [.d (rws os), .d (shv s)] [] = some (.d .none, []) := by
  refine wO.get (w_fn rfl rfl ?_)
  have hl := h.len
  have hs := h.sum
  have hs0 : s ≠ [] := by intro e; subst e; simp at hl; omega
  obtain ⟨v, hv, ev⟩ := bMin_shv hs0 h.pos
  have es := bSum_shv s
  have e1 : ¬ v < 1 := by omega
  have e2 : ¬ (60 < (s.sum : Int)) := by omega
  have hgl := h.ge
  unfold rws
  unfold shv at *
  simp [↓B_check_shares, hl]
  refine ⟨by omega, ?_⟩
  refine w_each (g := fun k : Nat => LV.d (.int (k : Int))) (l := s) (fun _ => .bool true) (fun i hi => ?_) ?_
  · simp [e1_check_shares, is_integer_i]
  · have ha := bAll_map (f := fun _ : Nat => true) s
    simp [ha, ev, es, e1, e2]
/-! ### products -/
theorem Nr_sz {os : List Odd} (h : ∀ o ∈ os, OOk o) (s : List Nat) : sz (Nr os s) s.sum ∧ sz (Dr os s) s.sum := by
  have a := Nr_bd h s
  have b := Dr_le h s
  have c := Dr_pos h s
  have d : sz (Dr os s) s.sum := by
    unfold sz
    have : (Dr os s) ≤ ((1000 ^ s.sum : Nat) : Int) := by rw [Int.natCast_pow]; exact b
    omega
  exact ⟨sz_of a.1 a.2 d, d⟩
theorem Nr_take : ∀ (os : List Odd) (s : List Nat) (i : Nat) (o : Odd) (k : Nat), os[i]? = some o → s[i]? = some k → Nr (os.take (i + 1)) (s.take (i + 1)) = Nr (os.take i) (s.take i) * cn o k ∧ Dr (os.take (i + 1)) (s.take (i + 1)) = Dr (os.take i) (s.take i) * cd o k
  | [], s, i, o, k, h, _ => by simp at h
  | o' :: os, [], i, o, k, _, h => by simp at h
  | o' :: os, k' :: s, 0, o, k, h1, h2 => by
    simp at h1 h2
    subst h1 h2
    simp [Nr, Dr]
  | o' :: os, k' :: s, i + 1, o, k, h1, h2 => by
    simp at h1 h2
    obtain ⟨a, b⟩ := Nr_take os s i o k h1 h2
    simp only [List.take_succ_cons, Nr, Dr, a, b]
    exact ⟨by grind, by grind⟩
theorem sum_take (s : List Nat) (i : Nat) : (s.take i).sum ≤ s.sum := by
  have := List.take_append_drop i s
  have h2 : (s.take i ++ s.drop i).sum = s.sum := by rw [this]
  rw [List.sum_append] at h2
  omega
theorem product_ok {os : List Odd} (h : ∀ o ∈ os, OOk o) {s : List Nat} (hl : s.length = os.length) (hs : s.sum ≤ 100) (hn : os.length ≤ 1000) : F_product_of [.d (rws os), .d (shv s)] [] = some (.d (raw (Nr os s) (Dr os s)), []) := by
  refine wO.get (w_fn rfl rfl ?_)
  have hz := zip_map (f := ov) (g := fun k : Nat => PyData.int (k : Int)) os s
  unfold rws shv raw
  simp [↓B_product_of, hz]
  refine w_forI (fun i e m => m = [] ∧ ∃ x y z, e = [some (.d (.tuple (os.map ov))), some (.d (.tuple (s.map fun k : Nat => .int (k : Int)))), some (.d (.int (Nr (os.take i) (s.take i)))), some (.d (.int (Dr (os.take i) (s.take i)))), x, y, z]) ⟨rfl, none, none, none, by simp [Nr, Dr]⟩ ?_ ?_
  · rintro i x e m hx ⟨rfl, x1, x2, x3, rfl⟩
    simp at hx
    obtain ⟨o, k, hok, rfl⟩ := hx
    obtain ⟨ho, hk⟩ := List.getElem?_zip_eq_some.mp hok
    have hoo := h o (List.mem_of_getElem? ho)
    obtain ⟨t1, t2⟩ := Nr_take os s i o k ho hk
    have q1 := Nr_sz (os := os.take i) (fun x hx => h x (List.mem_of_mem_take hx)) (s.take i)
    have q2 := sum_take s i
    have hks : k ≤ s.sum := by
      obtain ⟨hi, e⟩ := List.getElem?_eq_some_iff.mp hk
      have := get_le_sum hi
      simp only at e; omega
    have w := chance_of_ok hoo (k := k) (by omega)
    have f1 := sz_fit q1.1 (cn_sz hoo k) (by omega) (by omega)
    have f2 := sz_fit q1.2 (cd_sz hoo k) (by omega) (by omega)
    simp [↓b1_product_of, w, raw, f1, f2, t1, t2]
  · rintro e m ⟨rfl, x1, x2, x3, rfl⟩
    have e1 : os.take os.length = os := List.take_length
    have e2 : s.take os.length = s := by rw [← hl]; exact List.take_length
    simp [hl, e1, e2]
theorem chance_all_ok {os : List Odd} (h : RsOk os) {T : Nat} {s : List Nat} (hs : Sh os T s) (hT : T ≤ 60) : F_chance_of_all [.d (rws os), .d (shv s)] [] = some (.d (pr (Fv os s)), []) := by
  have hsum := hs.sum
  have w1 := check_rows_ok h
  have w2 := check_shares_ok hs h.1 hT
  have w3 := product_ok h.2.2 hs.len (by omega) (by have := h.2.1; omega)
  have z := Nr_sz h.2.2 s
  have w4 := quotient_ok z.1 z.2 (Nr_bd h.2.2 s).1 (Dr_pos h.2.2 s) (by omega)
  rw [Fv_eq h.2.2] at w4
  simp [F_chance_of_all, mkFn, B_chance_of_all, w1, w2, w3, raw, w4]
/-- one try moved -/
def mv (s : List Nat) (a b : Nat) : List Nat := (s.set a (s.getD a 0 - 1)).set b (s.getD b 0 + 1)
theorem mv_sh {os : List Odd} {T : Nat} {s : List Nat} (h : Sh os T s) {a b : Nat} (ha : a < s.length) (hb : b < s.length) (hab : a ≠ b) (h1 : 1 < s[a]) : Sh os T (mv s a b) := by
  have e1 : s.getD a 0 = s[a] := by simp [ha]
  have e2 : s.getD b 0 = s[b] := by simp [hb]
  have q1 := h.set ha (x := s[a] - 1) (by omega)
  have hb' : b < (s.set a (s[a] - 1)).length := by rw [List.length_set]; exact hb
  have q2 := q1.set hb' (x := s[b] + 1) (by omega)
  have e3 : (s.set a (s[a] - 1))[b] = s[b] := List.getElem_set_ne hab _
  have g1 := get_le_sum ha
  have g2 := get_le_sum hb
  have gs := h.sum
  rw [e3] at q2
  have e4 : T + (s[a] - 1) - s[a] + (s[b] + 1) - s[b] = T := by omega
  rw [e4] at q2
  unfold mv
  rw [e1, e2]
  exact q2
theorem moved_ok {s : List Nat} {a b : Nat} (ha : a < s.length) (hb : b < s.length) (hab : a ≠ b) (h1 : 1 < s[a]) (hl : s.length ≤ 1000) : F_moved_try [.d (shv s), .d (.int (a : Int)), .d (.int (b : Int))] [] = some (.d (shv (mv s a b)), []) := by
  refine wO.get (w_fn rfl rfl ?_)
  unfold shv
  simp [↓B_moved_try]
  refine ⟨by omega, w_enumS (fun _ => true) (fun i => .int (((mv s a b).getD i 0 : Nat) : Int)) (fun i x hx => ?_) ?_⟩
  · have hi : i < s.length := (List.getElem?_eq_some_iff.mp hx).1
    have ex : s[i] = x := (List.getElem?_eq_some_iff.mp hx).2
    have ev : (((mv s a b).getD i 0 : Nat) : Int) = (x : Int) - (if i = a then 1 else 0) + (if i = b then 1 else 0) := by
      unfold mv
      simp only [List.getD_eq_getElem?_getD, List.getElem?_set, List.length_set]
      by_cases c1 : b = i
      · subst c1
        have : ¬ b = a := fun z => hab z.symm
        simp [hb, this, ex]
      · by_cases c2 : a = i
        · subst c2
          have c3 : ¬ a = b := hab
          simp [c1, hi, c3, ex]
          omega
        · have c3 : ¬ i = a := fun z => c2 z.symm
          have c4 : ¬ i = b := fun z => c1 z.symm
          simp [c1, c2, c3, c4, hx]
    simp only [if_true, ev]
    by_cases c1 : i = a
    · by_cases c2 : i = b
      · exact absurd (c1.symm.trans c2) hab
      · simp [↓e1_moved_try, pairD, c1, c2]
        omega
    · by_cases c2 : i = b
      · simp [↓e1_moved_try, pairD, c1, c2]
        omega
      · have c3 : ¬ ((i : Int) = (a : Int)) := by omega
        have c4 : ¬ ((i : Int) = (b : Int)) := by omega
        simp [↓e1_moved_try, pairD, c1, c2, c3, c4]
  · have hft : (List.range s.length).filter (fun _ => true) = List.range s.length := List.filter_eq_self.mpr fun _ _ => rfl
    have el : (List.range s.length).map (fun i => PyData.int (((mv s a b).getD i 0 : Nat) : Int)) = (mv s a b).map fun k : Nat => PyData.int (k : Int) := by
      apply List.ext_getElem?
      intro i
      have hml : (mv s a b).length = s.length := by unfold mv; simp
      by_cases hi : i < s.length
      · rw [List.getElem?_map, List.getElem?_map, List.getElem?_range hi, List.getElem?_eq_getElem (by omega)]
        simp [List.getD_eq_getElem?_getD, hml, hi]
      · rw [List.getElem?_map, List.getElem?_map, List.getElem?_eq_none (by simp; omega), List.getElem?_eq_none (by omega)]
        rfl
    rw [hft]
    simp
    exact el
theorem le_cross {os : List Odd} (h : ∀ o ∈ os, OOk o) {s t : List Nat} (hle : Fv os t ≤ Fv os s) : ¬ (Nr os s * Dr os t < Nr os t * Dr os s) := by
  intro hlt
  have e1 := Fv_eq h s
  have e2 := Fv_eq h t
  have p1 := Rat.intCast_pos.mpr (Dr_pos h s)
  have p2 := Rat.intCast_pos.mpr (Dr_pos h t)
  have n1 := cast_ne (Dr_pos h s)
  have n2 := cast_ne (Dr_pos h t)
  have a1 : ((Nr os s : Int) : Rat) = Fv os s * ((Dr os s : Int) : Rat) := by grind
  have a2 : ((Nr os t : Int) : Rat) = Fv os t * ((Dr os t : Int) : Rat) := by grind
  have l := Rat.intCast_lt_intCast.mpr hlt
  rw [Rat.intCast_mul, Rat.intCast_mul, a1, a2] at l
  have m := Rat.mul_le_mul_of_nonneg_right hle (c := ((Dr os s : Int) : Rat) * ((Dr os t : Int) : Rat)) (Rat.mul_nonneg (by grind) (by grind))
  grind
theorem judge_ok {os : List Odd} (h : RsOk os) {T : Nat} {s : List Nat} (hs : Bst os T s) (hT : T ≤ 60) : F_judge_shares [.d (rws os), .d (shv s)] [] = some (.d (.tuple [.str "best"]), []) := by
  refine wO.get (w_fn rfl rfl ?_)
  have hl := hs.sh.len
  have hsum := hs.sh.sum
  have w1 := check_rows_ok h
  have w2 := check_shares_ok hs.sh h.1 hT
  have w3 := product_ok h.2.2 hl (by omega) (by have := h.2.1; omega)
  have z := Nr_sz h.2.2 s
  have hr : rngOk (os.length : Int) = true := rng_of (by have := h.2.1; omega)
  have hlr : lenV [] (.d (rws os)) = some (.int (os.length : Int)) := by unfold rws; simp
  simp [↓B_judge_shares, w1, w2, w3, hlr, hr]
  refine w_forI (fun i e m => m = [] ∧ ∃ x y, e = [some (.d (rws os)), some (.d (shv s)), some (.d (raw (Nr os s) (Dr os s))), x, y]) ⟨rfl, none, none, rfl⟩ ?_ ?_
  · rintro i x e m hx ⟨rfl, x1, x2, rfl⟩
    obtain ⟨hi, rfl⟩ := upTo_get hx
    simp [↓b2_judge_shares, hlr, hr]
    refine w_forI (fun j e m => m = [] ∧ ∃ y, e = [some (.d (rws os)), some (.d (shv s)), some (.d (raw (Nr os s) (Dr os s))), some (.d (.int (i : Int))), y]) ⟨rfl, x2, rfl⟩ ?_ ?_
    · rintro j x e m hx ⟨rfl, x3, rfl⟩
      obtain ⟨hj, rfl⟩ := upTo_get hx
      have hi' : i < s.length := by omega
      have hj' : j < s.length := by omega
      have gx : ixD (shv s) (.int (i : Int)) = some (.int (s[i] : Int)) := by
        unfold shv
        have p1 : ixPos s.length (i : Int) = some i := ixPos_nat hi'
        simp [p1, hi']
      by_cases c1 : i = j
      · subst c1
        simp [↓b1_judge_shares]
      · have c2 : ¬ ((i : Int) = (j : Int)) := by omega
        by_cases c3 : 1 < s[i]
        · have c4 : (1 : Int) < (s[i] : Int) := by omega
          have ms := mv_sh hs.sh hi' hj' c1 c3
          have w5 := moved_ok hi' hj' c1 c3 (by have := h.2.1; omega)
          have w6 := product_ok h.2.2 (s := mv s i j) ms.len (by have := ms.sum; omega) (by have := h.2.1; omega)
          have z2 := Nr_sz h.2.2 (mv s i j)
          have ms2 := ms.sum
          have w7 := is_less_ok (a := Nr os s) (b := Dr os s) (c := Nr os (mv s i j)) (d := Dr os (mv s i j)) z.1 z.2 z2.1 z2.2 (by omega) (by omega)
          have lc := le_cross h.2.2 (hs.best _ ms)
          simp [lc] at w7
          simp [↓b1_judge_shares, c2, gx, c4, w5, w6, w7]
        · have c4 : ¬ (1 : Int) < (s[i] : Int) := by omega
          simp [↓b1_judge_shares, c2, gx, c4]
    · rintro e m ⟨rfl, x3, rfl⟩
      simp
  · rintro e m ⟨rfl, x1, x2, rfl⟩
    simp
end K70

end
section
/-! K70h: the best shares, step by step (plain). -/
namespace K70
open PySem Gg
theorem lt_cross {os : List Odd} (h : ∀ o ∈ os, OOk o) (s t : List Nat) : (Nr os s * Dr os t < Nr os t * Dr os s) ↔ Fv os s < Fv os t := by
  constructor
  · intro hlt
    apply Classical.byContradiction
    intro hn
    exact le_cross h (s := s) (t := t) (by grind) hlt
  · intro hlt
    apply Classical.byContradiction
    intro hn
    have e1 := Fv_eq h s
    have e2 := Fv_eq h t
    have p1 := Rat.intCast_pos.mpr (Dr_pos h s)
    have p2 := Rat.intCast_pos.mpr (Dr_pos h t)
    have n1 := cast_ne (Dr_pos h s)
    have n2 := cast_ne (Dr_pos h t)
    have a1 : ((Nr os s : Int) : Rat) = Fv os s * ((Dr os s : Int) : Rat) := by grind
    have a2 : ((Nr os t : Int) : Rat) = Fv os t * ((Dr os t : Int) : Rat) := by grind
    have l := Rat.intCast_le_intCast.mpr (Int.not_lt.mp hn)
    rw [Rat.intCast_mul, Rat.intCast_mul, a1, a2] at l
    have m := Rat.mul_lt_mul_of_pos_right hlt (Rat.mul_pos p1 p2)
    grind
abbrev Tab := List (L2.Key × LV)
def entry (os : List Odd) (s : List Nat) : LV := .d (.tuple [raw (Nr os s) (Dr os s), shv s])
def Look (os : List Odd) (B : Tab) (k : Int) : Prop :=
  (∃ (T : Nat) (s : List Nat), k = T ∧ Bst os T s ∧ lookK B (.inl k) = some (entry os s)) ∨ ((∀ (T : Nat) (s : List Nat), k = T → ¬ Sh os T s) ∧ lookK B (.inl k) = none)
structure BstJ (os : List Odd) (M j : Nat) (s : List Nat) : Prop where
  sh : Sh os M s
  hd : s.headD 0 < j
  best : ∀ s', Sh os M s' → s'.headD 0 < j → Fv os s' ≤ Fv os s
def LookJ (os : List Odd) (F : Tab) (M j : Nat) : Prop :=
  (∃ s, BstJ os M j s ∧ lookK F (.inl (M : Int)) = some (entry os s)) ∨ ((∀ s, Sh os M s → ¬ s.headD 0 < j) ∧ lookK F (.inl (M : Int)) = none)
theorem look0 : ∀ k : Int, Look [] [(.inl 0, entry [] [])] k := by
  intro k
  by_cases h : k = 0
  · subst h
    refine .inl ⟨0, [], rfl, ⟨⟨rfl, by simp, rfl⟩, fun s' h => ?_⟩, by simp [lookK]⟩
    have := h.len
    have : s' = [] := List.eq_nil_of_length_eq_zero (by simpa using this)
    subst this; exact Rat.le_refl
  · have hk : ¬ ((Sum.inl 0 : L2.Key) = Sum.inl k) := fun z => by injection z with z; omega
    refine .inr ⟨fun T s e hs => ?_, by unfold lookK; rw [List.find?_cons]; simp only [decide_eq_false hk]; rfl⟩
    have h1 := hs.len
    have h2 := hs.sum
    have : s = [] := List.eq_nil_of_length_eq_zero (by simpa using h1)
    subst this
    simp at h2
    omega
theorem lookJ1 {os : List Odd} {F : Tab} {M : Nat} (hF : lookK F (.inl (M : Int)) = none) (h0 : os ≠ []) : LookJ os F M 1 := by
  refine .inr ⟨fun s hs hh => ?_, hF⟩
  cases s with
  | nil => have := hs.len; cases os with | nil => exact h0 rfl | cons _ _ => simp at this
  | cons k r =>
    have := hs.pos k List.mem_cons_self
    simp at hh; omega
/-- no row for the rest: nothing new -/
theorem stepJ_none {o : Odd} {os : List Odd} {B F : Tab} {M j : Nat} (h : LookJ (o :: os) F M j) (hB : Look os B ((M : Int) - j)) (hn : lookK B (.inl ((M : Int) - j)) = none) : LookJ (o :: os) F M (j + 1) := by
  have no : ∀ s, Sh (o :: os) M s → s.headD 0 < j + 1 → s.headD 0 < j := by
    intro s hs hh
    obtain ⟨k, r, rfl, h1, h2, h3⟩ := hs.uncons
    simp at hh ⊢
    rcases hB with ⟨T, t, e, _, e2⟩ | ⟨hno, _⟩
    · rw [hn] at e2; cases e2
    · by_cases e : k = j
      · exact absurd h3 (hno (M - k) r (by omega))
      · omega
  rcases h with ⟨s, hb, e⟩ | ⟨hno, e⟩
  · exact .inl ⟨s, ⟨hb.sh, by have := hb.hd; omega, fun s' h1 h2 => hb.best s' h1 (no s' h1 h2)⟩, e⟩
  · exact .inr ⟨fun s h1 h2 => hno s h1 (no s h1 h2), e⟩
/-- the new one is better -/
theorem stepJ_new {o : Odd} {os : List Odd} (hos : ∀ x ∈ o :: os, OOk x) {F F' : Tab} {M j : Nat} {T : Nat} {s0 : List Nat} (h : LookJ (o :: os) F M j) (hj : 1 ≤ j) (hT : (M : Int) - j = T) (hb : Bst os T s0)
    (hgt : ∀ s, lookK F (.inl (M : Int)) = some (entry (o :: os) s) → BstJ (o :: os) M j s → Fv (o :: os) s < Fv (o :: os) (j :: s0)) (hF' : lookK F' (.inl (M : Int)) = some (entry (o :: os) (j :: s0))) : LookJ (o :: os) F' M (j + 1) := by
  have sh : Sh (o :: os) M (j :: s0) := by
    have := hb.sh.cons (o := o) hj
    rwa [show j + T = M by omega] at this
  refine .inl ⟨j :: s0, ⟨sh, by simp, fun s' h1 h2 => ?_⟩, hF'⟩
  by_cases c : s'.headD 0 < j
  · rcases h with ⟨s, hs, e⟩ | ⟨hno, _⟩
    · have := hs.best s' h1 c
      have := hgt s e hs
      grind
    · exact absurd c (hno s' h1)
  · obtain ⟨k, r, rfl, g1, g2, g3⟩ := h1.uncons
    simp at h2 c
    have ek : k = j := by omega
    subst ek
    have g4 : Sh os T r := by rwa [show M - k = T by omega] at g3
    exact Rat.mul_le_mul_of_nonneg_left (hb.best r g4) (fo01 (hos o List.mem_cons_self) k).1
/-- the old one stays -/
theorem stepJ_old {o : Odd} {os : List Odd} (hos : ∀ x ∈ o :: os, OOk x) {F : Tab} {M j : Nat} {T : Nat} {s0 s : List Nat} (hs : BstJ (o :: os) M j s) (e : lookK F (.inl (M : Int)) = some (entry (o :: os) s)) (hT : (M : Int) - j = T) (hb : Bst os T s0)
    (hle : ¬ Fv (o :: os) s < Fv (o :: os) (j :: s0)) : LookJ (o :: os) F M (j + 1) := by
  refine .inl ⟨s, ⟨hs.sh, by have := hs.hd; omega, fun s' h1 h2 => ?_⟩, e⟩
  by_cases c : s'.headD 0 < j
  · exact hs.best s' h1 c
  · obtain ⟨k, r, rfl, g1, g2, g3⟩ := h1.uncons
    simp at h2 c
    have ek : k = j := by omega
    subst ek
    have g4 : Sh os T r := by rwa [show M - k = T by omega] at g3
    have := Rat.mul_le_mul_of_nonneg_left (hb.best r g4) (fo01 (hos o List.mem_cons_self) k).1
    simp only [Fv] at hle ⊢
    grind
theorem lookJ_end {o : Odd} {os : List Odd} {F : Tab} {M J : Nat} (h : LookJ (o :: os) F M J) (hJ : M < J + os.length) : Look (o :: os) F (M : Int) := by
  have all : ∀ s, Sh (o :: os) M s → s.headD 0 < J := by
    intro s hs
    obtain ⟨k, r, rfl, h1, h2, h3⟩ := hs.uncons
    have := h3.ge
    simp; omega
  rcases h with ⟨s, hb, e⟩ | ⟨hno, e⟩
  · exact .inl ⟨M, s, rfl, ⟨hb.sh, fun s' h1 => hb.best s' h1 (all s' h1)⟩, e⟩
  · refine .inr ⟨fun T s eT hs => ?_, e⟩
    have : T = M := by omega
    subst this
    exact hno s hs (all s hs)
theorem look_few {os : List Odd} {F : Tab} {k : Int} (h : k < os.length) (hF : lookK F (.inl k) = none) : Look os F k := by
  refine .inr ⟨fun T s e hs => ?_, hF⟩
  have := hs.ge
  omega
theorem Look.congr {os : List Odd} {F F' : Tab} {k : Int} (h : Look os F k) (e : lookK F' (.inl k) = lookK F (.inl k)) : Look os F' k := by
  unfold Look at *
  rw [e]; exact h
theorem LookJ.congr {os : List Odd} {F F' : Tab} {M j : Nat} (h : LookJ os F M j) (e : lookK F' (.inl (M : Int)) = lookK F (.inl (M : Int))) : LookJ os F' M j := by
  unfold LookJ at *
  rw [e]; exact h
end K70

end
section
/-! K70i: the best shares: the def. -/
namespace K70
open PySem Gg
/-- the place in a dict's store -/
structure DS (m : Sto) (r f : Nat) (B F : Tab) : Prop where
  cb : m[r]? = some (.dct B)
  cf : m[f]? = some (.dct F)
  ne : r ≠ f
theorem DS.set {m : Sto} {r f : Nat} {B F : Tab} (h : DS m r f B F) (F' : Tab) : DS (m.set f (.dct F')) r f B F' :=
  ⟨by rw [List.getElem?_set_ne (Ne.symm h.ne)]; exact h.cb, by rw [List.getElem?_set_self (List.getElem?_eq_some_iff.mp h.cf).1], h.ne⟩
/-- the slots -/
def slots (rows : PyData) (tries : Int) (r : Nat) (at_ : Int) (o : Odd) (J f M : Nat) (y7 y8 y9 x10 : Option LV) : Gg.Env :=
  [some (.d rows), some (.d (.int tries)), some (.ref r), some (.d (.int at_)), some (.d (.list ((List.range J).map fun j => raw (cn o j) (cd o j)))), some (.ref f), some (.d (.int (M : Int))), y7, y8, y9, x10]
/-- what one row's tries leave -/
def OwnP (rows : PyData) (tries : Int) (r : Nat) (at_ : Int) (o : Odd) (os : List Odd) (J f M : Nat) (B F : Tab) (m : Sto) (x10 : Option LV) (out : Out) : Prop :=
  ∃ m' F' y7 y8 y9, out = .nx (slots rows tries r at_ o J f M y7 y8 y9 x10) m' ∧
        DS m' r f B F' ∧ m'.length = m.length ∧ Look (o :: os) F' (M : Int) ∧ (∀ k : Int, k ≠ M → lookK F' (.inl k) = lookK F (.inl k)) ∧ F'.length ≤ F.length + J
/-- one row's tries -/
theorem own_ok {o : Odd} {os : List Odd} (hos : ∀ x ∈ o :: os, OOk x) {rows : PyData} {tries at_ : Int} {J M r f : Nat} {B F : Tab} {m : Sto} {x7 x8 x9 x10 : Option LV} {H : Int}
    (ds : DS m r f B F) (hB : ∀ k : Int, k ≤ H → Look os B k) (hM : (M : Int) - 1 ≤ H) (hF0 : lookK F (.inl (M : Int)) = none) (hJ : M < J + os.length) (hJ2 : J ≤ 70) (hM2 : M ≤ 70) (hlen : F.length ≤ 100000) (hl : os.length ≤ 100) :
    wO (b2_best_shares (slots rows tries r at_ o J f M x7 x8 x9 x10) m) (OwnP rows tries r at_ o os J f M B F m x10) := by
  unfold slots
  have hrj : rngOk (J : Int) = true := rng_of (by omega)
  have hr1 : rngOk 1 = true := rfl
  simp [↓b2_best_shares, hrj, hr1]
  refine w_forI (fun i e m' => ∃ F' y7 y8 y9, e = [some (.d rows), some (.d (.int tries)), some (.ref r), some (.d (.int at_)), some (.d (.list ((List.range J).map fun j => raw (cn o j) (cd o j)))), some (.ref f), some (.d (.int (M : Int))), y7, y8, y9, x10] ∧
    DS m' r f B F' ∧ m'.length = m.length ∧ LookJ (o :: os) F' M (i + 1) ∧ (∀ k : Int, k ≠ M → lookK F' (.inl k) = lookK F (.inl k)) ∧ F'.length ≤ F.length + i) ⟨F, x7, x8, x9, rfl, ds, rfl, lookJ1 hF0 (by simp), fun _ _ => rfl, by omega⟩ ?_ ?_
  · rintro i x e m' hx ⟨F', y7, y8, y9, rfl, ds', hml, hJ', hk, hfl⟩
    obtain ⟨hi, rfl⟩ := upTo_get hx
    have hb := hB ((M : Int) - (1 + (i : Int))) (by omega)
    have ej : (1 : Int) + (i : Int) = ((i + 1 : Nat) : Int) := by omega
    have eb := ds'.cb
    have ef := ds'.cf
    rcases hq : lookK B (.inl ((M : Int) - (1 + (i : Int)))) with _ | v
    · have st := stepJ_none hJ' (j := i + 1) (by rw [← ej]; exact hb) (by rw [← ej]; exact hq)
      simp [↓b1_best_shares, eb, hq]
      exact ⟨F', ds', hml, st, hk, by omega⟩
    · obtain ⟨T, s0, eT, hbst, e0⟩ : ∃ (T : Nat) (s : List Nat), (M : Int) - (1 + (i : Int)) = T ∧ Bst os T s ∧ lookK B (.inl ((M : Int) - (1 + (i : Int)))) = some (entry os s) := by
        rcases hb with z | ⟨_, z⟩
        · exact z
        · rw [hq] at z; cases z
      rw [hq] at e0
      have e0 := Option.some.inj e0
      subst e0
      have ho := hos o List.mem_cons_self
      have hos' : ∀ x ∈ os, OOk x := fun x hx => hos x (List.mem_cons_of_mem _ hx)
      have zs := Nr_sz hos' s0
      have hsum := hbst.sh.sum
      have hlen0 := hbst.sh.len
      have c1 := cn_sz ho (i + 1)
      have c2 := cd_sz ho (i + 1)
      have f1 : mulFits (cn o (i + 1)) (Nr os s0) := sz_fit c1 zs.1 (by omega) (by omega)
      have f2 : mulFits (cd o (i + 1)) (Dr os s0) := sz_fit c2 zs.2 (by omega) (by omega)
      have p1 : ixPos J (1 + (i : Int)) = some (i + 1) := by rw [ej]; exact ixPos_nat (by omega)
      have hiJ : i + 1 < J := by omega
      have hT : (M : Int) - ((i + 1 : Nat) : Int) = T := by omega
      have eN : Nr (o :: os) ((i + 1) :: s0) = cn o (i + 1) * Nr os s0 := rfl
      have eD : Dr (o :: os) ((i + 1) :: s0) = cd o (i + 1) * Dr os s0 := rfl
      have eL : (1 : Nat) + s0.length ≤ 1000000 := by omega
      have hF1 : F'.length < 1000000 := by omega
      have fin : ∀ F2, lookK F2 (.inl (M : Int)) = some (entry (o :: os) ((i + 1) :: s0)) → LookJ (o :: os) F2 M (i + 1 + 1) → F2 = storK F' (.inl (M : Int)) (entry (o :: os) ((i + 1) :: s0)) →
          DS (m'.set f (.dct F2)) r f B F2 ∧ (m'.set f (.dct F2)).length = m.length ∧ LookJ (o :: os) F2 M (i + 1 + 1) ∧ (∀ k : Int, k ≠ M → lookK F2 (.inl k) = lookK F (.inl k)) ∧ F2.length ≤ F.length + (i + 1) := by
        intro F2 h1 h2 h3
        refine ⟨ds'.set F2, by rw [List.length_set]; exact hml, h2, fun k hkM => ?_, ?_⟩
        · rw [h3, lookK_stor, if_neg (fun z => hkM (by injection z))]
          exact hk k hkM
        · rw [h3]
          have := length_stor (.inl (M : Int)) (entry (o :: os) ((i + 1) :: s0)) F'
          omega
      have stl : lookK (storK F' (.inl (M : Int)) (entry (o :: os) ((i + 1) :: s0))) (.inl (M : Int)) = some (entry (o :: os) ((i + 1) :: s0)) := by rw [lookK_stor, if_pos rfl]
      have een : entry (o :: os) ((i + 1) :: s0) = .d (.tuple [.tuple [.int (cn o (i + 1) * Nr os s0), .int (cd o (i + 1) * Dr os s0)], .tuple (.int (1 + (i : Int)) :: s0.map fun k : Nat => .int (k : Int))]) := by
        unfold entry raw shv
        rw [eN, eD, ej]; rfl
      simp [↓b1_best_shares, eb, ef, hq, entry, raw, p1, hiJ, f1, f2]
      rcases hf : lookK F' (.inl (M : Int)) with _ | v
      · have st := stepJ_new hos hJ' (by omega) hT hbst (fun s e _ => by rw [hf] at e; cases e) stl
        have := fin _ stl st rfl
        rw [een] at this
        simp [shv, eL, hF1, ef]
        exact ⟨_, this.1, hml, this.2.2⟩
      · obtain ⟨s, hs, es⟩ : ∃ s, BstJ (o :: os) M (i + 1) s ∧ lookK F' (.inl (M : Int)) = some (entry (o :: os) s) := by
          rcases hJ' with z | ⟨_, z⟩
          · exact z
          · rw [hf] at z; cases z
        have ev := es
        rw [hf] at ev
        have ev := Option.some.inj ev
        subst ev
        have zs2 := Nr_sz hos s
        have hsum2 := hs.sh.sum
        have w7 := is_less_ok (a := Nr (o :: os) s) (b := Dr (o :: os) s) (c := Nr (o :: os) ((i + 1) :: s0)) (d := Dr (o :: os) ((i + 1) :: s0)) zs2.1 zs2.2 (sz_mul c1 zs.1) (sz_mul c2 zs.2) (by omega) (by omega)
        rw [eN, eD] at w7
        simp only [raw] at w7
        by_cases hlt : Fv (o :: os) s < Fv (o :: os) ((i + 1) :: s0)
        · have st := stepJ_new hos hJ' (by omega) hT hbst (fun s' e hb' => by
            rw [hf] at e
            have q1 := hs.best s' hb'.sh hb'.hd
            grind) stl
          have := fin _ stl st rfl
          rw [een] at this
          have hd := (lt_cross hos s ((i + 1) :: s0)).mpr hlt
          rw [eN, eD] at hd
          simp [entry, raw, w7, hd, shv, eL, hF1, ef]
          exact ⟨_, this.1, hml, this.2.2⟩
        · have st := stepJ_old hos hs es hT hbst hlt
          have hd : ¬ _ := fun z => hlt ((lt_cross hos s ((i + 1) :: s0)).mp z)
          rw [eN, eD] at hd
          simp [entry, raw, w7, hd]
          exact ⟨F', ds', hml, st, hk, by omega⟩
  · rintro e m' ⟨F', y7, y8, y9, rfl, ds', hml, hJ', hk, hfl⟩
    rw [upTo_len] at hJ' hfl
    refine ⟨m', F', y7, y8, y9, rfl, ds', hml, ?_, hk, by omega⟩
    exact lookJ_end hJ' (by omega)
end K70

end
section
/-! K70j: the best shares: the def. -/
namespace K70
open PySem Gg
def stg (rows : PyData) (tries : Int) (r : Nat) (x3 x4 x5 x6 x7 x8 x9 x10 : Option LV) : Gg.Env := [some (.d rows), some (.d (.int tries)), some (.ref r), x3, x4, x5, x6, x7, x8, x9, x10]
def StgP (R : List Odd) (T : Nat) (os : List Odd) (H : Int) (out : Out) : Prop :=
  ∃ m' r B x3 x4 x5 x6 x7 x8 x9 x10, out = .nx (stg (rws R) T r x3 x4 x5 x6 x7 x8 x9 x10) m' ∧ m'[r]? = some (.dct B) ∧ ∀ k : Int, k ≤ H → Look os B k
theorem stage_ok {R : List Odd} (hR : RsOk R) {T i : Nat} (hT : T ≤ 60) (hnT : R.length ≤ T) {o : Odd} {os : List Odd} (hi : i < R.length) (ho : R[R.length - 1 - i]? = some o) (hoss : ∀ x ∈ o :: os, OOk x) (hol : os.length = i)
    {m : Sto} {r : Nat} {B : Tab} {x4 x5 x6 x7 x8 x9 x10 : Option LV} (hm : m[r]? = some (.dct B)) (hB : ∀ k : Int, k ≤ (T : Int) - R.length + i → Look os B k) :
    wO (b3_best_shares (stg (rws R) T r (some (.d (.int ((R.length : Int) - 1 - i)))) x4 x5 x6 x7 x8 x9 x10) m) (StgP R T (o :: os) ((T : Int) - R.length + i + 1)) := by
  unfold stg
  have hl20 := hR.2.1
  obtain ⟨J, hJ⟩ : ∃ J : Nat, J = T - R.length + 2 := ⟨_, rfl⟩
  have eJ : (T : Int) - (R.length : Int) + 2 = (J : Int) := by omega
  have hrJ : rngOk (J : Int) = true := rng_of (by omega)
  have hlr : ∀ m, lenV m (.d (rws R)) = some (.int (R.length : Int)) := fun m => by unfold rws; simp
  simp [↓b3_best_shares, hlr, eJ, hrJ]
  have p1 : ixPos R.length ((R.length : Int) - 1 - (i : Int)) = some (R.length - 1 - i) := by
    have e : (R.length : Int) - 1 - (i : Int) = ((R.length - 1 - i : Nat) : Int) := by omega
    rw [e]; exact ixPos_nat (by omega)
  have gx : ixD (rws R) (.int ((R.length : Int) - 1 - (i : Int))) = some (ov o) := by
    unfold rws
    simp [p1, ho]
  have hoo := hoss o List.mem_cons_self
  refine ⟨by omega, w_rangeE (fun j => raw (cn o j) (cd o j)) (fun j hj => ?_) ?_⟩
  · have w := chance_of_ok hoo (k := j) (by omega)
    simp [↓e2_best_shares, gx, w]
  have e1 : (R.length : Int) - ((R.length : Int) - 1 - (i : Int)) = ((i + 1 : Nat) : Int) := by omega
  have e2 : (T : Int) - ((R.length : Int) - 1 - (i : Int)) + 1 = ((J + i : Nat) : Int) := by omega
  have r1 : rngOk ((i + 1 : Nat) : Int) = true := rng_of (by omega)
  have r2 : rngOk ((J + i : Nat) : Int) = true := rng_of (by omega)
  have e3 : ((J + i : Nat) : Int) - ((i + 1 : Nat) : Int) = ((J - 1 : Nat) : Int) := by omega
  have hrm : r < m.length := (List.getElem?_eq_some_iff.mp hm).1
  have ds0 : DS (m ++ [.dct []]) r m.length B [] := ⟨by rw [List.getElem?_append_left hrm]; exact hm, by rw [List.getElem?_append_right (Nat.le_refl _), Nat.sub_self]; rfl, by omega⟩
  simp [e1, e2, r1, r2, e3, -Int.natCast_add]
  refine w_forI (fun x e m' => ∃ F y6 y7 y8 y9, e = [some (.d (rws R)), some (.d (.int (T : Int))), some (.ref r), some (.d (.int ((R.length : Int) - 1 - i))), some (.d (.list ((List.range J).map fun j => raw (cn o j) (cd o j)))), some (.ref m.length), y6, y7, y8, y9, x10] ∧
    DS m' r m.length B F ∧ (∀ k : Int, k < (i : Int) + 1 + x → Look (o :: os) F k) ∧ (∀ k : Int, (i : Int) + 1 + x ≤ k → lookK F (.inl k) = none) ∧ F.length ≤ x * 70) ?_ ?_ ?_
  · exact ⟨[], x6, x7, x8, x9, rfl, ds0, fun k hk => look_few (by simp; omega) rfl, fun _ _ => rfl, by simp⟩
  · rintro x lv e m' hx ⟨F, y6, y7, y8, y9, rfl, ds, hlo, hhi, hfl⟩
    obtain ⟨hxJ, rfl⟩ := upTo_get hx
    have eM : ((i + 1 : Nat) : Int) + (x : Int) = ((i + 1 + x : Nat) : Int) := by omega
    have own := own_ok (M := i + 1 + x) (J := J) (rows := rws R) (tries := T) (at_ := (R.length : Int) - 1 - i) (x7 := y7) (x8 := y8) (x9 := y9) (x10 := x10) hoss ds hB (by omega) (hhi _ (by omega)) (by omega) (by omega) (by omega) (by omega) (by omega)
    rw [eM]
    simp only [w_fbody, tg_name, wO_some, List.set_cons_succ, List.set_cons_zero]
    refine own.mono ?_
    rintro out ⟨m2, F2, z7, z8, z9, rfl, ds2, hml, hlk, hoth, hf2⟩
    refine ⟨F2, some (.d (.int ((i + 1 + x : Nat) : Int))), z7, z8, z9, rfl, ds2, fun k hk => ?_, fun k hk => ?_, by omega⟩
    · by_cases ek : k = ((i + 1 + x : Nat) : Int)
      · subst ek; exact hlk
      · exact (hlo k (by omega)).congr (hoth k ek)
    · rw [hoth k (by omega)]
      exact hhi k (by omega)
  · rintro e m' ⟨F, y6, y7, y8, y9, rfl, ds, hlo, hhi, hfl⟩
    rw [upTo_len] at hlo
    simp
    exact ⟨m', m.length, F, _, _, _, _, _, _, _, _, rfl, ds.cf, fun k hk => hlo k (by omega)⟩
end K70

end
section
/-! K70k: the best shares: the def. -/
namespace K70
open PySem Gg
theorem Fv_zero {R : List Odd} {o : Odd} (ho : o ∈ R) (hz : ∀ k, fo o k = 0) : ∀ {s : List Nat}, s.length = R.length → Fv R s = 0 := by
  induction R with
  | nil => cases ho
  | cons p R ih =>
    intro s hs
    cases s with
    | nil => simp at hs
    | cons k s =>
      simp only [Fv]
      rcases List.mem_cons.mp ho with e | ho
      · subst e; rw [hz]; grind
      · rw [ih ho (by simpa using hs)]; grind
theorem fo_u0 {o : Odd} (h : OOk o) (hu : o.u = 0) : ∀ k, fo o k = 0 := by
  have hd := cast_ne (show 0 < o.d by have := h.1; omega)
  have e : rho o = 1 := by
    unfold rho
    rw [hu, Int.sub_zero]
    grind
  refine fo_zero h (k := 1) (Nat.le_refl _) ?_
  unfold fo
  rw [e, Rat.pow_one]; grind
theorem rep_one (n : Nat) : (List.replicate n [PyData.int 1]).flatten = (List.replicate n (1 : Nat)).map fun k : Nat => PyData.int (k : Int) := by
  induction n with
  | zero => rfl
  | succ n ih => simp only [List.replicate_succ, List.flatten_cons, List.map_cons, ih]; rfl
theorem down_get {lo : Int} {n i : Nat} {x : LV} (h : (downFrom lo n)[i]? = some x) : i < n ∧ x = .d (.int (lo - i)) := by
  unfold downFrom at h
  rw [List.getElem?_map] at h
  by_cases hi : i < n
  · rw [List.getElem?_range hi] at h
    cases h
    exact ⟨hi, by show LV.d (.int _) = _; rw [show lo + (i : Int) * (-1) = lo - i by omega]⟩
  · rw [List.getElem?_eq_none (by simp; omega)] at h; cases h
theorem down_len {lo : Int} {n : Nat} : (downFrom lo n).length = n := by unfold downFrom; simp
theorem best_w {R : List Odd} (hR : RsOk R) {T : Nat} (hT : T ≤ 60) (hnT : R.length ≤ T) : wO (F_best_shares [.d (rws R), .d (.int (T : Int))] []) fun y => ∃ s, Bst R T s ∧ y = (.d (.tuple [pr (Fv R s), shv s]), []) := by
  refine w_fn rfl rfl ?_
  have hl1 := hR.1
  have hl20 := hR.2.1
  have hlr : ∀ m, lenV m (.d (rws R)) = some (.int (R.length : Int)) := fun m => by unfold rws; simp
  have w1 := check_rows_ok hR
  have hlt : ¬ ((T : Int) < (R.length : Int)) := by omega
  have hlen : R.length ≤ 1000000 := by omega
  have sq : ∀ m, seqV m (.d (rws R)) = some (.items (R.map fun o => LV.d (ov o))) := fun m => by unfold rws; simp [seqV]
  simp [↓B_best_shares, w1, check_tries_ok hT, hlr, hlt, sq]
  refine ⟨hlen, w_some (g := fun o => LV.d (ov o)) (fun o => decide (o.u = 0)) (fun _ => .int 1) (fun o ho => ?_) ?_⟩
  · have e0 : ixD (ov o) (.int 0) = some (.int o.u) := rfl
    by_cases q : o.u = 0
    · simp [↓t1_best_shares, ↓e1_best_shares, e0, q]
    · simp [↓t1_best_shares, ↓e1_best_shares, e0, q]
  simp
  by_cases hz : ∀ a : Odd, a ∈ R → ¬ a.u = 0
  · rw [if_pos hz]
    refine w_rng3 ?_
    have r1 : rngOk ((R.length : Int) - 1) = true := rng_of (by omega)
    have r2 : rngOk (-1) = true := rfl
    simp [hlr]
    refine ⟨r1, r2, ?_⟩
    refine w_forI (fun i e m => ∃ r B x3 x4 x5 x6 x7 x8 x9 x10, e = stg (rws R) T r x3 x4 x5 x6 x7 x8 x9 x10 ∧ m[r]? = some (.dct B) ∧ ∀ k : Int, k ≤ (T : Int) - R.length + i → Look (R.drop (R.length - i)) B k) ?_ ?_ ?_
    · refine ⟨0, [(.inl 0, entry [] [])], none, none, none, none, none, none, none, none, rfl, rfl, fun k _ => ?_⟩
      rw [Nat.sub_zero, List.drop_length]
      exact look0 k
    · rintro i x e m hx ⟨r, B, x3, x4, x5, x6, x7, x8, x9, x10, rfl, hm, hB⟩
      obtain ⟨hi, rfl⟩ := down_get hx
      have hi2 : R.length - 1 - i < R.length := by omega
      have ed : R.drop (R.length - (i + 1)) = R[R.length - 1 - i] :: R.drop (R.length - i) := by
        rw [show R.length - (i + 1) = R.length - 1 - i by omega, List.drop_eq_getElem_cons hi2]
        congr 2; omega
      have st := stage_ok hR hT hnT (i := i) (o := R[R.length - 1 - i]) (os := R.drop (R.length - i)) hi (List.getElem?_eq_getElem hi2) (fun y hy => by rw [← ed] at hy; exact hR.2.2 y (List.mem_of_mem_drop hy)) (by rw [List.length_drop]; omega) hm hB (x4 := x4) (x5 := x5) (x6 := x6) (x7 := x7) (x8 := x8) (x9 := x9) (x10 := x10)
      rw [w_fbody]
      unfold stg at st ⊢
      simp only [tg_name, wO_some, List.set_cons_succ, List.set_cons_zero]
      refine st.mono ?_
      rintro out ⟨m2, r', B', z3, z4, z5, z6, z7, z8, z9, z10, rfl, hm2, hB2⟩
      refine ⟨r', B', z3, z4, z5, z6, z7, z8, z9, z10, rfl, hm2, fun k hk => ?_⟩
      rw [ed]
      exact hB2 k (by omega)
    · rintro e m ⟨r, B, x3, x4, x5, x6, x7, x8, x9, x10, rfl, hm, hB⟩
      rw [down_len, Nat.sub_self, List.drop_zero] at hB
      have hT' := hB (T : Int) (by omega)
      have hne : R ≠ [] := by intro e; rw [e] at hl1; simp at hl1
      obtain ⟨s0, hs0⟩ := Sh.ex hne hnT
      rcases hT' with ⟨T', s, eT, hb, el⟩ | ⟨hno, _⟩
      · have : T' = T := by omega
        subst this
        have z := Nr_sz hR.2.2 s
        have hsum := hb.sh.sum
        have q := quotient_ok z.1 z.2 (Nr_bd hR.2.2 s).1 (Dr_pos hR.2.2 s) (by omega)
        rw [Fv_eq hR.2.2] at q
        unfold stg
        unfold entry at el
        simp [hm, el, raw, q]
        exact ⟨s, hb, rfl, rfl⟩
      · exact absurd hs0 (hno T s0 rfl)
  · rw [if_neg hz]
    obtain ⟨o, hoR, hou⟩ : ∃ o : Odd, o ∈ R ∧ o.u = 0 := by
      apply Classical.byContradiction
      intro hn
      exact hz fun a ha hu => hn ⟨a, ha, hu⟩
    have fz := fo_u0 (hR.2.2 o hoR) hou
    have sh : Sh R T (List.replicate (R.length - 1) 1 ++ [T - R.length + 1]) := by
      refine ⟨by simp; omega, fun k hk => ?_, by simp; omega⟩
      rcases List.mem_append.mp hk with hk | hk
      · have := (List.mem_replicate.mp hk).2; omega
      · have := List.mem_singleton.mp hk; omega
    have bs : Bst R T (List.replicate (R.length - 1) 1 ++ [T - R.length + 1]) := ⟨sh, fun s' h => by rw [Fv_zero hoR fz h.len, Fv_zero hoR fz sh.len]; exact Rat.le_refl⟩
    have e1 : Fv R (List.replicate (R.length - 1) 1 ++ [T - R.length + 1]) = 0 := Fv_zero hoR fz sh.len
    have e2 : ((R.length : Int) - 1).toNat = R.length - 1 := by omega
    have b1 : Nat.ble ((R.length : Int) - 1).natAbs 1000 = true := Nat.ble_eq_true_of_le (by omega)
    simp [mulD, e2, rep_one]
    refine ⟨by omega, by omega, _, bs, ?_, ?_⟩
    · rw [e1]; rfl
    · unfold shv
      simp
      omega
theorem best_ok {R : List Odd} (hR : RsOk R) {T : Nat} (hT : T ≤ 60) (hnT : R.length ≤ T) : ∃ s, Bst R T s ∧ F_best_shares [.d (rws R), .d (.int (T : Int))] [] = some (.d (.tuple [pr (Fv R s), shv s]), []) := by
  obtain ⟨y, h1, s, h2, rfl⟩ := best_w hR hT hnT
  exact ⟨s, h2, h1⟩
theorem best_none {R : List Odd} (hR : RsOk R) {T : Nat} (hT : T ≤ 60) (hnT : T < R.length) : F_best_shares [.d (rws R), .d (.int (T : Int))] [] = some (.d .none, []) := by
  have hlr : ∀ m, lenV m (.d (rws R)) = some (.int (R.length : Int)) := fun m => by unfold rws; simp
  refine wO.get (w_fn rfl rfl ?_)
  have hlt : (T : Int) < (R.length : Int) := by omega
  simp [↓B_best_shares, check_rows_ok hR, check_tries_ok hT, hlr, hlt]
end K70

end
section
/-! K70l: rows in a drawn order; products of what is left. -/
namespace K70
open PySem Gg
def Up : List Odd → List Nat → Int
  | o :: os, k :: ks => lf (rho o ^ k) * Up os ks
  | _, _ => 1
def Vp : List Odd → List Nat → Int
  | o :: os, k :: ks => ((rho o ^ k).den : Int) * Vp os ks
  | _, _ => 1
theorem lf_rho {o : Odd} (h : OOk o) (k : Nat) : 0 ≤ lf (rho o ^ k) ∧ lf (rho o ^ k) ≤ ((rho o ^ k).den : Int) ∧ ((rho o ^ k).den : Int) ≤ cd o k := by
  have p := pow01 (rho01 h).1 (rho01 h).2 k
  refine ⟨lf_nn p.2, ?_, ?_⟩
  · have := num_nn p.1
    unfold lf; omega
  · have e := rho_pow h k
    have := frac_den_le (u := (o.d - o.u) ^ k) (d := o.d ^ k) (cd_pos h k)
    rw [← e] at this
    exact this
theorem UV_bd {os : List Odd} (h : ∀ o ∈ os, OOk o) : ∀ ks : List Nat, 0 ≤ Up os ks ∧ Up os ks ≤ Vp os ks ∧ 0 < Vp os ks ∧ Vp os ks ≤ Dr os ks := by
  induction os with
  | nil => intro ks; cases ks <;> simp [Up, Vp, Dr]
  | cons o os ih =>
    intro ks
    cases ks with
    | nil => simp [Up, Vp, Dr]
    | cons k ks =>
      have ho := h o List.mem_cons_self
      obtain ⟨a, b, c, d⟩ := ih (fun x hx => h x (List.mem_cons_of_mem _ hx)) ks
      obtain ⟨e1, e2, e3⟩ := lf_rho ho k
      have dp := den_pos (rho o ^ k)
      simp only [Up, Vp, Dr]
      refine ⟨Int.mul_nonneg e1 a, ?_, Int.mul_pos dp c, ?_⟩
      · calc lf (rho o ^ k) * Up os ks ≤ ((rho o ^ k).den : Int) * Up os ks := Int.mul_le_mul_of_nonneg_right e2 a
          _ ≤ ((rho o ^ k).den : Int) * Vp os ks := Int.mul_le_mul_of_nonneg_left b (by omega)
      · calc ((rho o ^ k).den : Int) * Vp os ks ≤ cd o k * Vp os ks := Int.mul_le_mul_of_nonneg_right e3 (by omega)
          _ ≤ cd o k * Dr os ks := Int.mul_le_mul_of_nonneg_left d (by have := cd_pos ho k; omega)
theorem UV_sz {os : List Odd} (h : ∀ o ∈ os, OOk o) (s : List Nat) : sz (Up os s) s.sum ∧ sz (Vp os s) s.sum := by
  obtain ⟨a, b, c, d⟩ := UV_bd h s
  have z := (Nr_sz h s).2
  have v := sz_of (by omega) d z
  exact ⟨sz_of a b v, v⟩
theorem UV_eq {os : List Odd} (h : ∀ o ∈ os, OOk o) : ∀ ks : List Nat, (Up os ks : Rat) / (Vp os ks : Rat) = Fv os ks := by
  induction os with
  | nil => intro ks; cases ks <;> (simp only [Up, Vp, Fv]; exact one_one)
  | cons o os ih =>
    intro ks
    cases ks with
    | nil => simp only [Up, Vp, Fv]; exact one_one
    | cons k ks =>
      have hos : ∀ x ∈ os, OOk x := fun x hx => h x (List.mem_cons_of_mem _ hx)
      have e1 := ih hos ks
      have e2 := lf_eq (rho o ^ k)
      have n1 := cast_ne (den_pos (rho o ^ k))
      have n2 := cast_ne (UV_bd hos ks).2.2.1
      simp only [Up, Vp, Fv]
      unfold fo
      rw [← e1, ← e2, Rat.intCast_mul, Rat.intCast_mul]
      grind
theorem UV_take : ∀ (os : List Odd) (s : List Nat) (i : Nat) (o : Odd) (k : Nat), os[i]? = some o → s[i]? = some k → Up (os.take (i + 1)) (s.take (i + 1)) = Up (os.take i) (s.take i) * lf (rho o ^ k) ∧ Vp (os.take (i + 1)) (s.take (i + 1)) = Vp (os.take i) (s.take i) * ((rho o ^ k).den : Int)
  | [], s, i, o, k, h, _ => by simp at h
  | o' :: os, [], i, o, k, _, h => by simp at h
  | o' :: os, k' :: s, 0, o, k, h1, h2 => by
    simp only [List.getElem?_cons_zero, Option.some.injEq] at h1 h2
    subst h1 h2
    refine ⟨?_, ?_⟩ <;> simp only [List.take_succ_cons, List.take_zero, Up, Vp] <;> omega
  | o' :: os, k' :: s, i + 1, o, k, h1, h2 => by
    simp only [List.getElem?_cons_succ] at h1 h2
    obtain ⟨a, b⟩ := UV_take os s i o k h1 h2
    simp only [List.take_succ_cons, Up, Vp, a, b]
    exact ⟨by grind, by grind⟩
/-! ### a drawn order -/
theorem order_ok {n : Nat} {st : List PyData} {L : List Nat} (h : Ok (n + L.length) st) (hL : L.length ≤ 1000) : wO (F__law_order [.ref 0, .d (.list (L.map fun k : Nat => .int (k : Int)))] [st]) fun r => ∃ (P : List Nat) (st' : List PyData), r = (.d (.list (P.map fun k : Nat => .int (k : Int))), [st']) ∧ P.Perm L ∧ Ok n st' := by
  refine w_fn rfl rfl ?_
  have hr : rngOk (L.length : Int) = true := rng_of (by omega)
  simp [↓B__law_order, hr]
  refine w_forI (fun i e m => ∃ (rest P : List Nat) (s : List PyData) (x3 x4 : Option LV), e = [some (.ref 0), some (.d (.list (rest.map fun k : Nat => .int (k : Int)))), some (.ref 1), x3, x4] ∧ m = [stC s, .lst (P.map fun k : Nat => .d (.int (k : Int)))] ∧
    (P ++ rest).Perm L ∧ P.length = i ∧ Ok (n + (L.length - i)) s) ?_ ?_ ?_
  · exact ⟨L, [], st, none, none, rfl, rfl, List.Perm.refl _, rfl, h⟩
  · rintro i x e m hx ⟨rest, P, s, x3, x4, rfl, rfl, hp, hPl, hs⟩
    obtain ⟨hi, rfl⟩ := upTo_get hx
    have hlen : P.length + rest.length = L.length := by rw [← List.length_append]; exact hp.length_eq
    simp [↓b1__law_order]
    refine draw_w (n := n + (L.length - (i + 1))) (by rw [show n + (L.length - (i + 1)) + 1 = n + (L.length - i) by omega]; exact hs) (by omega) (by omega) fun r s2 d1 d2 h2 => ?_
    obtain ⟨j, rfl⟩ : ∃ j : Nat, r = j := ⟨r.toNat, by omega⟩
    have hj : j < rest.length := by omega
    have p1 : ixPos rest.length (j : Int) = some j := ixPos_nat hj
    have s1 : slPart (rest.map fun k : Nat => PyData.int (k : Int)) none (some (j : Int)) = (rest.take j).map fun k : Nat => PyData.int (k : Int) := by rw [sl_to, List.map_take]
    have s3 : slPart (rest.map fun k : Nat => PyData.int (k : Int)) (some ((j : Int) + 1)) none = (rest.drop (j + 1)).map fun k : Nat => PyData.int (k : Int) := by
      rw [show (j : Int) + 1 = ((j + 1 : Nat) : Int) by omega, sl_from, List.map_drop]
    simp [p1, hj, s1, s3]
    refine ⟨by omega, by omega, rest.take j ++ rest.drop (j + 1), by rw [List.map_append, List.map_take, List.map_drop], P ++ [rest[j]], s2, ⟨rfl, by simp⟩, ?_, by simp [hPl], h2⟩
    refine List.Perm.trans ?_ hp
    have e : rest = rest.take j ++ rest[j] :: rest.drop (j + 1) := by rw [List.getElem_cons_drop, List.take_append_drop]
    rw [List.append_assoc]
    refine List.Perm.append_left P ?_
    conv => rhs; rw [e]
    show (rest[j] :: (rest.take j ++ rest.drop (j + 1))).Perm _
    exact List.perm_middle.symm
  · rintro e m ⟨rest, P, s, x3, x4, rfl, rfl, hp, hPl, hs⟩
    rw [upTo_len] at hPl hs
    have hlen : P.length + rest.length = L.length := by rw [← List.length_append]; exact hp.length_eq
    have hr0 : rest = [] := List.eq_nil_of_length_eq_zero (by omega)
    subst hr0
    have e1 : (P.map fun k : Nat => LV.d (.int (k : Int))) = (P.map fun k : Nat => PyData.int (k : Int)).map LV.d := by rw [List.map_map]; rfl
    simp
    refine .of (ev_frz (k := 1) rfl rfl (by rw [e1]; exact Gg.allD_map _)) ?_
    simp
    exact ⟨P, s, ⟨rfl, rfl⟩, by simpa using hp, by simpa using hs⟩
end K70

end
section
/-! K70m: tries shared: the law's def. -/
namespace K70
open PySem Gg
/-- the slots -/
def env (x1 : LV) (x2 x3 x4 x5 x6 x7 x8 x9 x10 x11 x12 x13 x14 : Option LV) : Gg.Env := [some (.ref 0), some x1, x2, x3, x4, x5, x6, x7, x8, x9, x10, x11, x12, x13, x14]
/-- one try more for a step -/
def inc (s : List Nat) (k : Nat) : List Nat := s.set k (s.getD k 0 + 1)
theorem inc_cut {s : List Nat} {k : Nat} (h : k < s.length) : (s.take k).map (fun k : Nat => PyData.int (k : Int)) ++ [PyData.int ((s[k] : Int) + 1)] ++ (s.drop (k + 1)).map (fun k : Nat => PyData.int (k : Int)) = (inc s k).map fun k : Nat => PyData.int (k : Int) := by
  unfold inc
  rw [List.set_eq_take_append_cons_drop, if_pos h, List.map_append, List.map_cons]
  simp [h]
theorem inc_sh {os : List Odd} {T : Nat} {s : List Nat} (h : Sh os T s) {k : Nat} (hk : k < s.length) : Sh os (T + 1) (inc s k) := by
  have := h.set hk (x := s[k] + 1) (by omega)
  have g := get_le_sum hk
  have gs := h.sum
  rw [show T + (s[k] + 1) - s[k] = T + 1 by omega] at this
  unfold inc
  have e : s.getD k 0 = s[k] := by simp [hk]
  rw [e]; exact this
theorem Fv_sz {os : List Odd} (h : ∀ o ∈ os, OOk o) (s : List Nat) : Sz (Fv os s) s.sum := .of (Dr_pos h s) (Nr_sz h s).1 (Nr_sz h s).2 (Fv_eq h s)
theorem notIn_pr {x : PyData} {ys : List PyData} (hx : plainD DEEP x = true) (hy : plainD DEEP (.list ys) = true) (hm : x ∈ ys) : notInD x (.list ys) = some (.bool false) := by
  have e : (ys.any fun z => PyData.eqv z x) = true := List.any_eq_true.mpr ⟨x, hm, eqv_self DEEP x hx⟩
  unfold notInD inB
  simp only [hx, hy, Bool.and_true, if_true, Option.map_some, e, Bool.not_true]
theorem pl_pr (n : Nat) (r : Rat) : plainD (n + 2) (pr r) = true := rfl
theorem pl_prs {α : Type} (f : α → Rat) (l : List α) : plainD DEEP (.list (l.map fun k => pr (f k))) = true := by
  show (l.map fun k => pr (f k)).all (plainD 59) = true
  rw [List.all_eq_true]
  intro x hx
  obtain ⟨k, _, rfl⟩ := List.mem_map.mp hx
  exact pl_pr 57 _
/-- one number of tries -/
theorem tries_ok {R : List Odd} (hR : RsOk R) {T : Nat} (hT : T ≤ 59) (hnT : R.length ≤ T) {m : Sto} {x2 x3 x6 x7 x8 x9 x10 x11 x12 x13 x14 : Option LV} :
    wO (b3__law_shares_hold (env (.d (rws R)) x2 x3 (some (.d (.int (R.length : Int)))) (some (.d (.int (T : Int)))) x6 x7 x8 x9 x10 x11 x12 x13 x14) m) fun o =>
      ∃ y2 y3 y6 y7 y8 y9 y10 y11 y14, o = .nx (env (.d (rws R)) y2 y3 (some (.d (.int (R.length : Int)))) (some (.d (.int (T : Int)))) y6 y7 y8 y9 y10 y11 x12 x13 y14) m := by
  obtain ⟨s, hs, w1⟩ := best_ok hR (T := T) (by omega) hnT
  obtain ⟨t, ht, w2⟩ := best_ok hR (T := T + 1) (by omega) (by omega)
  have hsum := hs.sh.sum
  have hlen := hs.sh.len
  have hl1 := hR.1
  have hl20 := hR.2.1
  have hrn : rngOk (R.length : Int) = true := rng_of (by omega)
  have eT1 : ((T + 1 : Nat) : Int) = (T : Int) + 1 := by omega
  rw [eT1] at w2
  unfold env
  simp [↓b3__law_shares_hold, w1, hrn]
  refine w_forI (fun i e m' => m' = m ∧ ∃ y2 y9, e = [some (.ref 0), some (.d (rws R)), y2, some (.d (.int (Vp (R.take i) (s.take i)))), some (.d (.int (R.length : Int))), some (.d (.int (T : Int))), some (.d (pr (Fv R s))), some (.d (shv s)), some (.d (.int (Up (R.take i) (s.take i)))), y9, x10, x11, x12, x13, x14]) ⟨rfl, x2, x9, by simp [Up, Vp]⟩ ?_ ?_
  · rintro i x e m' hx ⟨rfl, y2, y9, rfl⟩
    obtain ⟨hi, rfl⟩ := upTo_get hx
    have his : i < s.length := by omega
    have ho := hR.2.2 _ (List.getElem_mem hi)
    have p1 : ixPos R.length (i : Int) = some i := ixPos_nat hi
    have p2 : ixPos s.length (i : Int) = some i := ixPos_nat his
    have g1 : ixD (rws R) (.int (i : Int)) = some (ov R[i]) := by unfold rws; simp [p1, hi]
    have g2 : ixD (shv s) (.int (i : Int)) = some (.int (s[i] : Int)) := by unfold shv; simp [p2, his]
    have gs := get_le_sum his
    have w := law_left_ok ho (k := s[i]) (by omega)
    obtain ⟨t1, t2⟩ := UV_take R s i R[i] s[i] (List.getElem?_eq_getElem hi) (List.getElem?_eq_getElem his)
    have z := UV_sz (os := R.take i) (fun x hx => hR.2.2 x (List.mem_of_mem_take hx)) (s.take i)
    have zt := sum_take s i
    have rs := rho_sz ho s[i]
    have f1 : mulFits (Up (R.take i) (s.take i)) (((rho R[i] ^ s[i]).den : Int) - (rho R[i] ^ s[i]).num) := sz_fit z.1 (lf_sz rs) (by omega) (by omega)
    have f2 : mulFits (Vp (R.take i) (s.take i)) ((rho R[i] ^ s[i]).den : Int) := sz_fit z.2 rs.den (by omega) (by omega)
    simp only [lf] at t1
    simp [-Rat.num_pow, -Rat.den_pow, ↓b2__law_shares_hold, g1, g2, w, f1, f2, t1, t2]
  · rintro e m' ⟨rfl, y2, y9, rfl⟩
    rw [upTo_len]
    have e1 : R.take R.length = R := List.take_length
    have e2 : s.take R.length = s := by rw [← hlen]; exact List.take_length
    rw [e1, e2]
    have bs := bSum_shv s
    have hs0 : s ≠ [] := by intro e; subst e; simp at hlen; omega
    obtain ⟨v, hv, bm⟩ := bMin_shv hs0 hs.sh.pos
    have w3 := chance_all_ok hR hs.sh (by omega)
    have z := UV_sz hR.2.2 s
    have ub := UV_bd hR.2.2 s
    have w4 := law_quotient_ok z.1 z.2 ub.1 ub.2.2.1 (by omega)
    rw [UV_eq hR.2.2] at w4
    have w5 := judge_ok hR hs (by omega)
    have hv2 : ¬ v < 1 := by omega
    have nb : neD (.tuple [.str "best"]) (.tuple [.str "best"]) = some (.bool false) := neD_same (by kernel_rfl)
    simp [bs, hsum, bm, hv2, w3, w4, w5, nb, hrn]
    refine ⟨by omega, w_rangeE (fun k => pr (Fv R (inc s k))) (fun k hk => ?_) ?_⟩
    · have hks : k < s.length := by omega
      have w6 := chance_all_ok hR (inc_sh hs.sh hks) (by omega)
      have p2 : ixPos s.length (k : Int) = some k := ixPos_nat hks
      have ic := inc_cut hks
      have e3 : (k : Int) + 1 = ((k + 1 : Nat) : Int) := by omega
      have s1 : slPart (s.map fun k : Nat => PyData.int (k : Int)) none (some (k : Int)) = (s.take k).map fun k : Nat => PyData.int (k : Int) := by rw [sl_to, List.map_take]
      have s3 : slPart (s.map fun k : Nat => PyData.int (k : Int)) (some ((k : Int) + 1)) none = (s.drop (k + 1)).map fun k : Nat => PyData.int (k : Int) := by
        rw [e3, sl_from, List.map_drop]
      unfold shv at w6 ⊢
      rw [← ic] at w6
      simp at w6
      simp [↓e1__law_shares_hold, s1, s3, p2, hks, w6]
      omega
    · simp [w2]
      refine ⟨by omega, w_some (g := fun k : Nat => LV.d (pr (Fv R (inc s k)))) (l := List.range R.length) (fun _ => false) (fun k => pr (Fv R (inc s k))) (fun k hk => ?_) ?_⟩
      · have hk := List.mem_range.mp hk
        have hks : k < s.length := by omega
        have ish := inc_sh hs.sh hks
        have le := ht.best _ ish
        have z1 := Fv_sz hR.2.2 (inc s k)
        have z2 := Fv_sz hR.2.2 t
        have q1 := ish.sum
        have q2 := ht.sh.sum
        have f1 : mulFits (Fv R (inc s k)).num ((Fv R t).den : Int) := sz_fit z1.num z2.den (by omega) (by omega)
        have f2 : mulFits (Fv R t).num ((Fv R (inc s k)).den : Int) := sz_fit z2.num z1.den (by omega) (by omega)
        have nl : ¬ ((Fv R t).num * ((Fv R (inc s k)).den : Int) < (Fv R (inc s k)).num * ((Fv R t).den : Int)) := by
          have := (Rat.le_iff _ _).mp le
          omega
        simp [↓t1__law_shares_hold, f1, f2, nl]
      · obtain ⟨k, hk, ek⟩ := greedy hR.2.2 hs ht
        have ei : inc s k = s.set k (s[k] + 1) := by unfold inc; simp [hk]
        rw [← ei] at ek
        have hft : (List.range R.length).filter (fun _ => false) = [] := by simp
        have ni := notIn_pr (x := pr (Fv R t)) (ys := (List.range R.length).map fun k => pr (Fv R (inc s k))) (pl_pr 58 _) (pl_prs _ _) (List.mem_map.mpr ⟨k, List.mem_range.mpr (by omega), by rw [ek]⟩)
        simp [ni]
theorem rep_two (n : Nat) : (List.replicate n [PyData.int 2]).flatten = (List.replicate n (2 : Nat)).map fun k : Nat => PyData.int (k : Int) := by
  induction n with
  | zero => rfl
  | succ n ih => simp only [List.replicate_succ, List.flatten_cons, List.map_cons, ih]; rfl
theorem shares_hold {n : Nat} {st : List PyData} (h : Ok (n + 13) st) : wO (F__law_shares_hold [.ref 0] [st]) fun r => ∃ st', r = (.d (.bool true), [st']) ∧ Ok n st' := by
  refine w_fn rfl rfl ?_
  simp [↓B__law_shares_hold]
  refine draw_w (n := n + 12) h (by omega) (by omega) fun r s1 d1 d2 h1 => ?_
  obtain ⟨a, rfl⟩ : ∃ a : Nat, r = a := ⟨r.toNat, by omega⟩
  have ha : a < 4 := by omega
  have hra : rngOk (1 + (a : Int)) = true := rng_of (by omega)
  have e1 : (1 + (a : Int)).toNat = a + 1 := by omega
  simp [hra, e1]
  refine w_forI (fun i e m => ∃ (R : List Odd) (s : List PyData) (x2 x3 : Option LV), e = [some (.ref 0), some (.ref 1), x2, x3, none, none, none, none, none, none, none, none, none, none, none] ∧ m = [stC s, .lst (R.map fun o => .d (ov o))] ∧ R.length = i ∧ (∀ o ∈ R, OOk o) ∧ Ok (n + 12 - 2 * i) s) ?_ ?_ ?_
  · exact ⟨[], s1, none, none, rfl, rfl, rfl, (fun _ h => by cases h), h1⟩
  · rintro i x e m hx ⟨R, s, x2, x3, rfl, rfl, hl, hR, hs⟩
    obtain ⟨hi, rfl⟩ := upTo_get hx
    simp [↓b1__law_shares_hold]
    refine draw_w (n := n + 11 - 2 * i) (by rw [show n + 11 - 2 * i + 1 = n + 12 - 2 * i by omega]; exact hs) (by omega) (by omega) fun dn s2 c1 c2 h2 => ?_
    simp
    refine draw_w (n := n + 10 - 2 * i) (by rw [show n + 10 - 2 * i + 1 = n + 11 - 2 * i by omega]; exact h2) (by omega) (by omega) fun u s3 c3 c4 h3 => ?_
    have ho : OOk ⟨u, 1 + dn⟩ := ⟨by show 1 ≤ 1 + dn; omega, by show 1 + dn ≤ 1000; omega, c3, by show u ≤ 1 + dn; omega⟩
    have ev : PyData.tuple [.int u, .int (1 + dn)] = ov ⟨u, 1 + dn⟩ := rfl
    simp [ev]
    refine ⟨by omega, R ++ [⟨u, 1 + dn⟩], s3, ⟨rfl, by simp⟩, by simp [hl], fun o hm => ?_, by rw [show n + 12 - 2 * (i + 1) = n + 10 - 2 * i by omega]; exact h3⟩
    rcases List.mem_append.mp hm with hm | hm
    · exact hR o hm
    · rw [List.mem_singleton.mp hm]; exact ho
  · rintro e m ⟨R, s, x2, x3, rfl, rfl, hl, hR, hs⟩
    rw [upTo_len] at hl hs
    have hRs : RsOk R := ⟨by omega, by omega, hR⟩
    have r1 : rngOk (R.length : Int) = true := rng_of (by omega)
    have r2 : rngOk ((R.length : Int) + 4) = true := rng_of (by omega)
    have e2 : ((R.length : Int) + 4).toNat - R.length = 4 := by omega
    simp [r1, r2, e2]
    have eR : PyData.tuple (R.map ov) = rws R := rfl
    rw [eR]
    refine w_forI (fun i e m => m = [stC s, .lst (R.map fun o => .d (ov o))] ∧ ∃ y2 y3 y5 y6 y7 y8 y9 y10 y11 y14, e = env (.d (rws R)) y2 y3 (some (.d (.int (R.length : Int)))) y5 y6 y7 y8 y9 y10 y11 none none y14) ⟨rfl, x2, x3, none, none, none, none, none, none, none, none, rfl⟩ ?_ ?_
    · rintro i x e m hx ⟨rfl, y2, y3, y5, y6, y7, y8, y9, y10, y11, y14, rfl⟩
      obtain ⟨hi, rfl⟩ := upTo_get hx
      have eT : (R.length : Int) + (i : Int) = ((R.length + i : Nat) : Int) := by omega
      rw [eT, w_fbody]
      unfold env
      simp only [tg_name, wO_some, List.set_cons_succ, List.set_cons_zero]
      refine (tries_ok hRs (T := R.length + i) (by omega) (by omega)).mono ?_
      rintro o ⟨z2, z3, z6, z7, z8, z9, z10, z11, z14, rfl⟩
      exact ⟨rfl, z2, z3, _, z6, z7, z8, z9, z10, z11, z14, rfl⟩
    · rintro e m ⟨rfl, y2, y3, y5, y6, y7, y8, y9, y10, y11, y14, rfl⟩
      unfold env
      simp [r1]
      refine (order_ok (n := n) (L := List.range R.length) (by simp; exact hs.mono (by omega)) (by simp; omega)).mono ?_
      rintro y ⟨P, s2, rfl, hP, h2⟩
      have hPl : P.length = R.length := by have := hP.length_eq; simpa using this
      have hPr : (P.map fun k => R.getD k ⟨0, 1⟩).Perm R := by
        have q := hP.map fun k => R.getD k (⟨0, 1⟩ : Odd)
        have e : (List.range R.length).map (fun k => R.getD k (⟨0, 1⟩ : Odd)) = R := by
          apply List.ext_getElem?
          intro i
          by_cases hi : i < R.length
          · rw [List.getElem?_map, List.getElem?_range hi]; simp [hi]
          · rw [List.getElem?_eq_none (by simp; omega), List.getElem?_eq_none (by omega)]
        rwa [e] at q
      have hOs : RsOk (P.map fun k => R.getD k ⟨0, 1⟩) := ⟨by rw [hPr.length_eq]; exact hRs.1, by rw [hPr.length_eq]; exact hRs.2.1, fun o ho => hR o (hPr.mem_iff.mp ho)⟩
      generalize hO : (P.map fun k => R.getD k (⟨0, 1⟩ : Odd)) = O at hPr hOs
      have hOl : O.length = R.length := hPr.length_eq
      simp
      refine ⟨by omega, w_each (g := fun k : Nat => LV.d (.int (k : Int))) (l := P) (fun k => ov (R.getD k ⟨0, 1⟩)) (fun k hk => ?_) ?_⟩
      · have hk : k < R.length := List.mem_range.mp (hP.mem_iff.mp hk)
        have p1 : ixPos R.length (k : Int) = some k := ixPos_nat hk
        unfold rws
        simp [↓e2__law_shares_hold, p1, hk]
      have eO : PyData.tuple (O.map ov) = rws O := rfl
      have hAll : allD ((P.map fun k => ov (R.getD k ⟨0, 1⟩)).map LV.d) = some (O.map ov) := by
        rw [← hO, List.map_map (f := fun k => R.getD k (⟨0, 1⟩ : Odd))]; exact Gg.allD_map _
      show wO (allD ((P.map fun k => ov (R.getD k ⟨0, 1⟩)).map LV.d)) _
      rw [hAll]
      simp only [wO_some]
      have eT3 : (R.length : Int) + 3 = ((R.length + 3 : Nat) : Int) := by omega
      obtain ⟨sO, bO, w1⟩ := best_ok hOs (T := R.length + 3) (by omega) (by omega)
      obtain ⟨sR, bR, w2⟩ := best_ok hRs (T := R.length + 3) (by omega) (by omega)
      have eq1 := bst_perm hPr bO bR
      rw [eq1] at w1
      have rep : ∀ Q : List Odd, Sh Q (2 * Q.length) (List.replicate Q.length 2) := fun Q => ⟨by simp, fun k hk => by have := (List.mem_replicate.mp hk).2; omega, by simp; omega⟩
      have w3 := chance_all_ok hOs (rep O) (by omega)
      have w4 := chance_all_ok hRs (rep R) (by omega)
      rw [Fv_rep hPr 2, hOl] at w3
      have em : mulD (.tuple [.int 2]) (.int (R.length : Int)) = some (shv (List.replicate R.length 2)) := by
        have b1 : Nat.ble ([PyData.int 2].length) 1000 = true := rfl
        have b2 : Nat.ble ((R.length : Int)).natAbs 1000 = true := Nat.ble_eq_true_of_le (by omega)
        unfold mulD
        simp only [b1, b2, and_self, if_true]
        unfold shv
        rw [Int.toNat_natCast, rep_two]
      have w5 := best_none hRs (T := R.length - 1) (by omega) (by omega)
      have eT4 : (R.length : Int) - 1 = ((R.length - 1 : Nat) : Int) := by omega
      simp [eO, eT3, eT4, w1, w2, em, w3, w4, w5, -Int.natCast_add]
      obtain ⟨o, rest, hRe⟩ : ∃ o rest, R = o :: rest := by
        cases R with
        | nil => simp at hl
        | cons o rest => exact ⟨o, rest, rfl⟩
      have ho : OOk o := hR o (by rw [hRe]; simp)
      have h1s : RsOk [o] := ⟨by simp, by simp, fun x hx => by rw [List.mem_singleton.mp hx]; exact ho⟩
      obtain ⟨s5, b5, w6⟩ := best_ok h1s (T := 5) (by omega) (by simp)
      have e5 : s5 = [5] := by
        have l5 := b5.sh.len
        have m5 := b5.sh.sum
        match s5, l5, m5 with
        | [x], _, hx => simp at hx; rw [hx]
      subst e5
      have ef : Fv [o] [5] = fo o 5 := by simp only [Fv]; grind
      rw [ef] at w6
      have w7 := chance_within_ok ho (k := 5) (by omega)
      have es1 : slD none (some 1) (rws R) = some (rws [o]) := by
        rw [hRe]; unfold rws
        have := sl_to (xs := (o :: rest).map ov) (k := 1)
        simp at this
        simp [this]
      have ei1 : ixD (rws R) (.int 0) = some (ov o) := by rw [hRe]; unfold rws; simp [ixPos]
      have eq5 : eqD (.tuple [pr (fo o 5), .tuple [.int 5]]) (.tuple [pr (fo o 5), .tuple [.int 5]]) = some (.bool true) := eqD_same rfl
      have e55 : shv [5] = .tuple [.int 5] := rfl
      simp at w6 w7
      simp [es1, ei1, w6, w7, e55, eq5]
      exact h2
end K70

end
section
/-! K70n: the law. -/
namespace K70
open PySem Gg
/-! ### the start -/
theorem start_loop : ∀ (l : List Int) (s : Int) (S x : Option LV) (m : Sto), 1 ≤ s → s ≤ 2147483629 → ∃ (s' : Int) (y : Option LV), 1 ≤ s' ∧ s' ≤ 2147483629 ∧
    forItems (forBody (tName 2) b1__law_start) (l.map (LV.d ∘ PyData.int)) [S, some (.d (.int s)), x] m = some (.nx [S, some (.d (.int s')), y] m)
  | [], s, S, x, m, h1, h2 => ⟨s, x, h1, h2, rfl⟩
  | c :: l, s, S, x, m, h1, h2 => by
    have hm : mulFits s 48271 := sm_mul (by unfold sm; omega) (by unfold sm; omega)
    have hb : forBody (tName 2) b1__law_start (.d (.int c)) [S, some (.d (.int s)), x] m = some (.nx [S, some (.d (.int ((s * 48271 + c) % 2147483629 + 1))), some (.d (.int c))] m) := by
      simp [b1__law_start, hm]
    have e1 := Int.emod_nonneg (s * 48271 + c) (b := 2147483629) (by omega)
    have e2 := Int.emod_lt_of_pos (s * 48271 + c) (b := 2147483629) (by omega)
    obtain ⟨s', y, g1, g2, g3⟩ := start_loop l ((s * 48271 + c) % 2147483629 + 1) S (some (.d (.int c))) m (by omega) (by omega)
    refine ⟨s', y, g1, g2, ?_⟩
    show forItems _ (LV.d (.int c) :: l.map (LV.d ∘ PyData.int)) _ _ = _
    rw [forItems_cons, hb]
    exact g3
theorem start_ok (ns : List Int) (hl : ns.length ≤ 63) : ∃ st, F__law_start [.ro (ns.map .int)] [] = some (.ref 0, [st]) ∧ Ok 1000000 st := by
  obtain ⟨s', y, g1, g2, g3⟩ := start_loop ns 7 (some (.ro (ns.map .int))) none [] (by omega) (by omega)
  have hc : ∀ x1 x2, compItems (compOne e1__law_start (tName 2) [] [2]) (ns.map (LV.d ∘ PyData.int)) [some (.ro (ns.map .int)), x1, x2] [] = some ((ns.map fun i => if i < 0 then -i else i).map (LV.d ∘ PyData.int), []) := by
    intro x1 x2
    rw [comp_pure (k := fun i => some (.d (.int (if i < 0 then -i else i)))) ns fun i hi => ?_]
    · simp [Function.comp_def]
    · simp [one_plain, e1__law_start]
  have hs : slPart (ns.map PyData.int) none (some 63) = ns.map PyData.int := by
    have := sl_to (xs := ns.map PyData.int) (k := 63)
    rw [List.take_of_length_le (by simpa using hl)] at this
    exact this
  refine ⟨stD (ns.map fun i => if i < 0 then -i else i) 0 0 0 s' 0, ?_, ⟨_, 0, 0, 0, s', 0, rfl, fun x hx => ?_, by omega, by omega, by omega, by omega, by omega, by omega, by omega, by omega⟩⟩
  · have e0 : F__law_start [.ro (ns.map .int)] [] = answer 0 (B__law_start [some (.ro (ns.map .int)), none, none] []) := by simp [F__law_start, mkFn]
    have e1 : sAsg (tName 1) (eCon (.int 7)) [some (.ro (ns.map .int)), none, none] [] = some (.nx [some (.ro (ns.map .int)), some (.d (.int 7)), none] []) := by simp
    have e2 : iSeq (eSl (eVar 0) none (some (eCon (.int 63)))) [some (.ro (ns.map .int)), some (.d (.int 7)), none] [] = some (.items (ns.map (LV.d ∘ PyData.int)), []) := by simp [hs]
    have e3 : ∀ x1 x2, iSeq (eSl (eVar 0) none (some (eCon (.int 63)))) [some (.ro (ns.map .int)), x1, x2] [] = some (.items (ns.map (LV.d ∘ PyData.int)), []) := by intros; simp [hs]
    have e4 : eLst (lComp e1__law_start (tName 2) (iSeq (eSl (eVar 0) none (some (eCon (.int 63))))) [] [2]) [some (.ro (ns.map .int)), some (.d (.int s')), y] [] = some (.d (.list ((ns.map fun i => if i < 0 then -i else i).map .int)), []) := by
      rw [ev_lst, ev_comp, e3]
      simp only [Option.bind_some, over_items, List.length_map]
      rw [if_pos (by rw [line_v]; omega), hc]
      simp only [Option.bind_some, allD_comp, Option.map_some]
    rw [e0]
    unfold B__law_start
    rw [st_seq, e1, sk_nx, st_seq, st_for, e2]
    simp only [Option.bind_some, forOver_items]
    rw [g3, sk_nx, st_ret, ev_new, ev_disp, evl_cons, e4]
    simp [stD]
  · obtain ⟨i, _, rfl⟩ := List.mem_map.mp hx
    split <;> omega
theorem law_ok (ns : List Int) (hl : ns.length ≤ 63) : F_law [.ro (ns.map .int)] [] = some (.d (.bool true), []) := by
  obtain ⟨st, hs, hok⟩ := start_ok ns hl
  refine wO.get (w_fn rfl rfl ?_)
  simp [↓B_law, hs]
  refine ⟨rng_of (by omega), ?_⟩
  refine w_forI (fun i e m => ∃ s x2, m = [stC s] ∧ Ok (1000000 - 200 * i) s ∧ e = [some (.ro (ns.map .int)), some (.ref 0), x2]) ?_ ?_ ?_
  · exact ⟨st, none, rfl, hok, rfl⟩
  · rintro i x e m hx ⟨s, x2, rfl, hs, rfl⟩
    obtain ⟨hi, rfl⟩ := upTo_get hx
    simp [↓b1_law]
    refine (odds_ok (n := 1000000 - 200 * i - 5) (hs.mono (by omega))).mono ?_
    rintro y ⟨s1, rfl, h1⟩
    simp
    refine (shares_hold (n := 1000000 - 200 * i - 18) (h1.mono (by omega))).mono ?_
    rintro y ⟨s2, rfl, h2⟩
    simp
    refine (waits_hold (n := 1000000 - 200 * i - 24) (h2.mono (by omega))).mono ?_
    rintro y ⟨s3, rfl, h3⟩
    simp
    exact ⟨s3, rfl, h3.mono (by omega)⟩
  · rintro e m ⟨s, x2, rfl, hs, rfl⟩
    simp
end K70

end
section
theorem PySem.Challenge.cw_doneorundone_k70_whole_tries_added_and_s_holds : PySem.Challenge.rw_doneorundone_k70_whole_tries_added_and_s.Holds := by
  exact K70.holds K70.law_ok

end
