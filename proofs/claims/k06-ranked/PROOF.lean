import PyProof.Rows.All
import HandS.ForMost
import HandS.ForExc
import HandS.Deep
import HandS.SortOrd
import HandS.Conv
import HandS.TupLen
import KE.LtData
import KE.SortData
import HandS.IsInst
import HandS.SetFor
import HandS.SortInts
import HandS.Small
import HandS.Style
import HandS.Steps
import PySem.Challenge.RW_tieword_k06_ranked
set_option linter.all false
set_option Elab.async false
set_option maxRecDepth 100000
set_option maxHeartbeats 4000000
/-! Tw, part A: a small interpreter over a simple domain, in plain Lean. -/
namespace Tw

/-- values: what is frozen is a value (lst, dic, rec); what is changed stands in a cell, ref n -/
inductive W where
  | non
  | bl (b : Bool)
  | int (i : Int)
  | str (s : List Nat)
  | tup (xs : List W)
  | lst (xs : List W)
  | dic (t : Bool) (ks vs : List W)
  | rcd (c : Nat) (xs : List W)
  | ref (n : Nat)
  | exn (c : Nat)
  | klst (ns : List Int)
  deriving Inhabited

/-- cells -/
inductive Ob where
  | lst (xs : List W)
  | dic (t : Bool) (ks vs : List W)
  | ins (c : Nat) (xs : List W)
  | dead
  deriving Inhabited

abbrev Sto := List Ob
abbrev Env := List (Option W)
abbrev LIM : Nat := 100000

inductive Rs (α : Type) where
  | ok (a : α) (S : Sto)
  | ex (c : Nat) (S : Sto)
  | bad

inductive SR where
  | next (ρ : Env) (S : Sto)
  | ret (w : W) (S : Sto)
  | brk (ρ : Env) (S : Sto)
  | cont (ρ : Env) (S : Sto)
  | ex (c : Nat) (S : Sto)
  | bad

/-! ### equality, order, what holds no cell -/
mutual
def eqW : W → W → Bool
  | .non, .non => true
  | .bl a, .bl b => a == b
  | .bl a, .int j => (if a then 1 else 0) == j
  | .int i, .bl b => i == (if b then 1 else 0)
  | .int i, .int j => i == j
  | .str x, .str y => x == y
  | .lst xs, .lst ys => eqL xs ys
  | .tup xs, .tup ys => eqL xs ys
  | _, _ => false
def eqL : List W → List W → Bool
  | [], [] => true
  | x :: xs, y :: ys => eqW x y && eqL xs ys
  | [], _ :: _ => false
  | _ :: _, [] => false
end

mutual
/-- plain data of depth below d: nothing but none, bools, ints, texts, tuples, lists -/
def datW : Nat → W → Bool
  | _, .non => true
  | _, .bl _ => true
  | _, .int _ => true
  | _, .str s => s.all (fun c => decide (c < 128)) && decide (s.length < LIM)
  | d, .lst xs => match d with
    | 0 => false
    | d + 1 => datL d xs
  | d, .tup xs => match d with
    | 0 => false
    | d + 1 => datL d xs
  | _, _ => false
def datL : Nat → List W → Bool
  | _, [] => true
  | d, x :: xs => datW d x && datL d xs
end

mutual
/-- the two can be compared, place by place -/
def alikeW : W → W → Bool
  | .non, .non => true
  | .bl _, .bl _ => true
  | .int _, .int _ => true
  | .str _, .str _ => true
  | .lst xs, .lst ys => alikeL xs ys
  | .tup xs, .tup ys => alikeL xs ys
  | _, _ => false
def alikeL : List W → List W → Bool
  | x :: xs, y :: ys => alikeW x y && alikeL xs ys
  | [], _ => true
  | _ :: _, [] => true
end

mutual
/-- a < b by Python's order, where both are data of one shape -/
def ltW : W → W → Bool
  | .int i, .int j => decide (i < j)
  | .bl a, .bl b => !a && b
  | .str x, .str y => decide (x < y)
  | .lst xs, .lst ys => ltL xs ys
  | .tup xs, .tup ys => ltL xs ys
  | _, _ => false
def ltL : List W → List W → Bool
  | [], [] => false
  | [], _ :: _ => true
  | _ :: _, [] => false
  | x :: xs, y :: ys => if eqW x y then ltL xs ys else ltW x y
end

mutual
/-- no ref within -/
def rfree : W → Bool
  | .tup xs => rfreeL xs
  | .lst xs => rfreeL xs
  | .dic _ ks vs => rfreeL ks && rfreeL vs
  | .rcd _ xs => rfreeL xs
  | .ref _ => false
  | _ => true
def rfreeL : List W → Bool
  | [] => true
  | x :: xs => rfree x && rfreeL xs
end

mutual
/-- no list, dict, record, ref within -/
def lfree : W → Bool
  | .tup xs => lfreeL xs
  | .lst _ => false
  | .dic _ _ _ => false
  | .rcd _ _ => false
  | .ref _ => false
  | .klst _ => false
  | _ => true
def lfreeL : List W → Bool
  | [] => true
  | x :: xs => lfree x && lfreeL xs
end

mutual
/-- the refs put in by g; b: what else is there must hold no list -/
def sub (b : Bool) (g : Nat → Option W) : W → Option W
  | .tup xs => (subL b g xs).map .tup
  | .lst xs => if b then none else (subL b g xs).map .lst
  | .dic t ks vs => if b then none else (subL b g ks).bind fun ks' => (subL b g vs).map (.dic t ks')
  | .rcd c xs => if b then none else (subL b g xs).map (.rcd c)
  | .ref n => g n
  | .klst ns => if b then none else some (.klst ns)
  | w => some w
def subL (b : Bool) (g : Nat → Option W) : List W → Option (List W)
  | [] => some []
  | x :: xs => (sub b g x).bind fun x' => (subL b g xs).map (x' :: ·)
end

def cellW (b : Bool) (S : Sto) (g : Nat → Option W) (n : Nat) : Option W :=
  match S[n]? with
  | some (.lst xs) => (subL b g xs).map .lst
  | some (.dic t ks vs) => (subL b g ks).bind fun ks' => (subL b g vs).map (.dic t ks')
  | some (.ins c xs) => (subL b g xs).map (.rcd c)
  | _ => none
def lev (b : Bool) (S : Sto) : Nat → Nat → Option W
  | 0 => fun _ => none
  | k + 1 => cellW b S (lev b S k)
/-- the value as it stands, cells read out (three deep) -/
def vw (S : Sto) (w : W) : Option W := sub false (lev false S 3) w
/-- the same, and no list is there that stands in no cell -/
def vwB (S : Sto) (w : W) : Option W := sub true (lev true S 3) w
def vws (S : Sto) (ws : List W) : Option (List W) := subL false (lev false S 3) ws

/-! ### reading -/
def seqOf (S : Sto) : W → Option (List W)
  | .lst xs => some xs
  | .tup xs => some xs
  | .ref n => match S[n]? with
    | some (.lst xs) => some xs
    | _ => none
  | .klst ns => some (ns.map .int)
  | _ => none
def lstOf (S : Sto) : W → Option (List W)
  | .lst xs => some xs
  | .ref n => match S[n]? with
    | some (.lst xs) => some xs
    | _ => none
  | _ => none
def dicOf (S : Sto) : W → Option (Bool × List W × List W)
  | .dic t ks vs => some (t, ks, vs)
  | .ref n => match S[n]? with
    | some (.dic t ks vs) => some (t, ks, vs)
    | _ => none
  | _ => none
def recOf (S : Sto) : W → Option (Nat × List W)
  | .rcd c xs => some (c, xs)
  | .ref n => match S[n]? with
    | some (.ins c xs) => some (c, xs)
    | _ => none
  | _ => none

/-- a key of a dict: an int or a text; a tuple of such -/
def key1 : W → Bool
  | .int _ => true
  | .str _ => true
  | _ => false
def isKey (t : Bool) : W → Bool
  | .tup xs => t && xs.all key1
  | w => !t && key1 w
def dget : List W → List W → W → Option W
  | k :: ks, v :: vs, x => if eqW k x then some v else dget ks vs x
  | _, _, _ => none
/-- d[k] = v: where it stands, or behind all -/
def dhas (ks : List W) (x : W) : Bool := ks.any fun k => eqW k x
def dmapV : List W → List W → W → W → List W
  | k :: ks, v :: vs, x, y => (if eqW k x then y else v) :: dmapV ks vs x y
  | _, _, _, _ => []
def dputV (ks vs : List W) (x y : W) : List W := if dhas ks x then dmapV ks vs x y else vs ++ [y]
def dputK (ks : List W) (x : W) : List W := if dhas ks x then ks else ks ++ [x]
def ddelV : List W → List W → W → List W
  | k :: ks, v :: vs, x => if eqW k x then vs else v :: ddelV ks vs x
  | _, _, _ => []
def ddelK : List W → W → List W
  | k :: ks, x => if eqW k x then ks else k :: ddelK ks x
  | [], _ => []

def ixN (n : Nat) (i : Int) : Option Nat := if 0 ≤ i then (if i < n then some i.toNat else none) else if -(n : Int) ≤ i then some (i + n).toNat else none
def sIx (n d : Nat) : Option Int → Nat
  | none => d
  | some v => if v < 0 then (v + (n : Int)).toNat else min v.toNat n
def cut {α : Type} (xs : List α) (lo hi : Option Int) : List α := (xs.drop (sIx xs.length 0 lo)).take (sIx xs.length xs.length hi - sIx xs.length 0 lo)

/-! ### sorting, stable -/
def notNone : W → Bool
  | .non => false
  | _ => true
def isTup1 : W → Bool
  | .tup (_ :: _) => true
  | _ => false
def isTup : W → Bool
  | .tup _ => true
  | _ => false
/-- all pairs can be compared -/
def sortOk (xs : List W) : Bool := (xs.all fun x => xs.all fun y => alikeW x y) && (xs.all isTup1 || xs.all fun x => notNone x && !isTup x)
def sortW (xs : List W) : List W := xs.mergeSort fun a b => !ltW b a

/-! ### operations -/
inductive IsT where
  | int | bool | str | list | tuple | cls (c : Nat)
inductive Op where
  | add | sub | mul | fdiv | mod | pow | neg
  | eq | ne | lt | le | gt | ge | isin | notin | isnone | notnone
  | idx | slice (lo hi : Bool)
  | len | list | tuple | sorted | all | int | min | max
  | tupD | lstD | dicD (t : Bool)
  | isi (t : IsT)
  | fld (c i : Nat)
  | mIndex | mCount | mGet2
  | rangeL

def cmpI : Op → Int → Int → Option Bool
  | .lt, i, j => some (decide (i < j))
  | .le, i, j => some (decide (i ≤ j))
  | .gt, i, j => some (decide (j < i))
  | .ge, i, j => some (decide (j ≤ i))
  | _, _, _ => none

def CDiv (j : Int) : Bool := decide (0 < j) && decide (j < 1073741824)
def CMul (i j : Int) : Bool := (decide (-(2 ^ 64) < i) && decide (i < 2 ^ 64)) || (decide (-(2 ^ 64) < j) && decide (j < 2 ^ 64))
def CPow (i j : Int) : Bool := decide (0 ≤ j) && decide (j ≤ 1000000) && decide (i.natAbs < 2 ^ 64)

def opAdd (S : Sto) : W → W → Option W
  | .int a, .int b => some (.int (a + b))
  | .str a, .str b => if a.length + b.length < LIM then some (.str (a ++ b)) else none
  | x, y => match lstOf S x, lstOf S y with
    | some a, some b => if a.length + b.length < LIM then some (.lst (a ++ b)) else none
    | _, _ => none
def opMul (S : Sto) : W → W → Option W
  | .int a, .int b => if CMul a b then some (.int (a * b)) else none
  | _, _ => none

def eqOp (S : Sto) (x y : W) : Option Bool :=
  match x, y with
  | .str a, .str b => some (a == b)
  | .int a, .int b => some (a == b)
  | .bl a, .bl b => some (a == b)
  | x, y => (vw S x).bind fun x' => (vw S y).bind fun y' => if datW 30 x' && datW 30 y' then some (eqW x' y') else none

def flatW : W → Bool
  | .non => true
  | .bl _ => true
  | .int _ => true
  | .str _ => true
  | _ => false
def inOp (S : Sto) (x y : W) : Option Bool :=
  match y with
  | .str b => match x with
    | .str [c] => some (b.contains c)
    | _ => none
  | y => match dicOf S y with
    | some (t, ks, _) => if isKey t x then some (dhas ks x) else none
    | none => match lstOf S y with
      | some ys => (vw S x).bind fun x' => (vws S ys).bind fun ys' => if datW 30 x' && datL 29 ys' then some (ys'.any fun z => eqW z x') else none
      | none => match y with
        | .tup ys => if flatW x && ys.all flatW then some (ys.any fun z => eqW z x) else none
        | _ => none

def ltOp (S : Sto) (x y : W) : Option Bool :=
  (vw S x).bind fun x' => (vw S y).bind fun y' => if datW 30 x' && datW 30 y' && alikeW x' y' && notNone x' then some (ltW x' y') else none

def ltSem (S : Sto) : W → W → Option Bool
  | .int a, .int b => some (decide (a < b))
  | x, y => ltOp S x y

def isiOp : IsT → W → Sto → Option Bool
  | .int, .int _, _ => some true
  | .int, .bl _, _ => some true
  | .int, .str _, _ => some false
  | .int, .tup _, _ => some false
  | .int, .lst _, _ => some false
  | .int, .ref n, S => match S[n]? with
    | some (.lst _) => some false
    | _ => none
  | .bool, .int _, _ => some false
  | .bool, .bl _, _ => some true
  | .bool, .str _, _ => some false
  | .str, .int _, _ => some false
  | .str, .bl _, _ => some false
  | .str, .str _, _ => some true
  | .list, .lst _, _ => some true
  | .list, .ref n, S => match S[n]? with
    | some (.lst _) => some true
    | _ => none
  | .tuple, .tup _, _ => some true
  | _, _, _ => none

def allBl : List W → Option Bool
  | [] => some true
  | .bl b :: r => (allBl r).map (b && ·)
  | _ => none

def allInt : List W → Bool
  | [] => true
  | .int _ :: r => allInt r
  | _ => false
def sortedSem (S : Sto) (x : W) : Option (List W) :=
  match lstOf S x with
  | some xs => if datL 30 xs && sortOk xs && decide (xs.length < LIM) then some (sortW xs) else none
  | none => match dicOf S x with
    | some (false, ks, _) => if allInt ks && decide (ks.length < 64) then some (sortW ks) else none
    | _ => none
/-- len -/
def lenSem (S : Sto) (x : W) : Option Int :=
  match x with
  | .str s => if s.length < LIM then some s.length else none
  | x => match seqOf S x with
    | some xs => some xs.length
    | none => (dicOf S x).map fun d => (d.2.1.length : Int)
/-- x[i] -/
def idxSem (S : Sto) (x y : W) : Option W :=
  match x with
  | .str s => match y with
    | .int i => if s.length < LIM then (ixN s.length i).bind fun j => s[j]?.map fun c => .str [c] else none
    | _ => none
  | x => match seqOf S x with
    | some xs => match y with
      | .int i => (ixN xs.length i).bind fun j => xs[j]?
      | _ => none
    | none => match dicOf S x with
      | some (t, ks, vs) => if isKey t y then dget ks vs y else none
      | none => none
/-- x[i:j] -/
def sliceSem (S : Sto) (x : W) (i j : Option Int) : Option W :=
  match x with
  | .str s => if s.length < LIM then some (.str (cut s i j)) else none
  | .klst ns => some (.lst (cut (ns.map .int) i j))
  | x => (lstOf S x).map fun xs => .lst (cut xs i j)
def partsOf (lo hi : Bool) (r : List W) : Option (Option Int × Option Int) :=
  match lo, hi, r with
  | false, false, [] => some (none, none)
  | true, false, [.int i] => some (some i, none)
  | false, true, [.int j] => some (none, some j)
  | true, true, [.int i, .int j] => some (some i, some j)
  | _, _, _ => none
def indexSem (S : Sto) (x y : W) : Option Nat :=
  match lstOf S x with
  | some xs => (vw S y).bind fun y' => (vws S xs).bind fun xs' => if datW 30 y' && datL 30 xs' then xs'.findIdx? fun z => eqW z y' else none
  | none => none
def isInt : W → Bool
  | .int _ => true
  | _ => false
def countSem (S : Sto) (x y : W) : Option Nat :=
  match lstOf S x with
  | some xs => if isInt y && allInt xs then some (xs.countP fun z => eqW z y) else none
  | none => none

def opSem (o : Op) (ws : List W) (S : Sto) : Option W :=
  match o, ws with
  | .add, [x, y] => opAdd S x y
  | .sub, [.int a, .int b] => some (.int (a - b))
  | .mul, [x, y] => opMul S x y
  | .fdiv, [.int a, .int b] => if CDiv b then some (.int (a / b)) else none
  | .mod, [.int a, .int b] => if 0 < b then some (.int (a % b)) else none
  | .pow, [.int a, .int b] => if CPow a b then some (.int (a ^ b.toNat)) else none
  | .neg, [.int a] => some (.int (-a))
  | .eq, [x, y] => (eqOp S x y).map .bl
  | .ne, [x, y] => (eqOp S x y).map fun b => .bl (!b)
  | .le, [.int a, .int b] => some (.bl (decide (a ≤ b)))
  | .gt, [.int a, .int b] => some (.bl (decide (b < a)))
  | .ge, [.int a, .int b] => some (.bl (decide (b ≤ a)))
  | .lt, [x, y] => (ltSem S x y).map .bl
  | .isin, [x, y] => (inOp S x y).map .bl
  | .notin, [x, y] => (inOp S x y).map fun b => .bl (!b)
  | .isnone, [x] => some (.bl (!notNone x))
  | .notnone, [x] => some (.bl (notNone x))
  | .idx, [x, y] => idxSem S x y
  | .slice lo hi, x :: r => (partsOf lo hi r).bind fun b => sliceSem S x b.1 b.2
  | .len, [x] => (lenSem S x).map .int
  | .list, [x] => (seqOf S x).map .lst
  | .tuple, [x] => (seqOf S x).map .tup
  | .sorted, [x] => (sortedSem S x).map .lst
  | .all, [x] => (lstOf S x).bind fun xs => (allBl xs).map .bl
  | .int, [.int i] => some (.int i)
  | .int, [.bl b] => some (.int (if b then 1 else 0))
  | .min, [.int a, .int b] => some (.int (if b < a then b else a))
  | .max, [.int a, .int b] => some (.int (if a < b then b else a))
  | .tupD, ws => if ws.length < LIM then some (.tup ws) else none
  | .lstD, ws => if ws.length < LIM then some (.lst ws) else none
  | .dicD t, [] => some (.dic t [] [])
  | .isi t, [x] => (isiOp t x S).map .bl
  | .fld c i, [x] => match recOf S x with
    | some (c', xs) => if c' = c then xs[i]? else none
    | none => none
  | .mIndex, [x, y] => (indexSem S x y).map fun (j : Nat) => W.int (j : Int)
  | .mCount, [x, y] => (countSem S x y).map fun (j : Nat) => W.int (j : Int)
  | .mGet2, [x, k, v] => match dicOf S x with
    | some (t, ks, vs) => if isKey t k then some ((dget ks vs k).getD v) else none
    | none => none
  | .rangeL, [.int n] => if n < LIM then some (.lst ((List.range n.toNat).map fun (k : Nat) => W.int (k : Int))) else none
  | _, _ => none

/-! ### what changes a cell -/
inductive Eff where
  | append | extend | clear | pop0 | pop1 | insert | reverse | remove
def effSem (o : Eff) (ws : List W) (S : Sto) : Option (W × Sto) :=
  match ws with
  | .ref n :: r => match S[n]? with
    | some (.lst xs) => match o, r with
      | .append, [x] => if xs.length < LIM then some (.non, S.set n (.lst (xs ++ [x]))) else none
      | .extend, [y] => match seqOf S y with
        | some ys => if y matches .ref _ then none else if xs.length + ys.length < LIM then some (.non, S.set n (.lst (xs ++ ys))) else none
        | none => none
      | .clear, [] => some (.non, S.set n (.lst []))
      | .pop0, [] => match xs.getLast? with
        | some x => some (x, S.set n (.lst xs.dropLast))
        | none => none
      | .pop1, [.int i] => (ixN xs.length i).bind fun j => xs[j]?.map fun x => (x, S.set n (.lst (xs.eraseIdx j)))
      | .reverse, [] => some (.non, S.set n (.lst xs.reverse))
      | _, _ => none
    | _ => none
  | _ => none

/-- o[k] = v -/
def setSem (S : Sto) (o k v : W) : Option Sto :=
  match o with
  | .ref n => match S[n]? with
    | some (.lst xs) => match k with
      | .int i => (ixN xs.length i).map fun j => S.set n (.lst (xs.set j v))
      | _ => none
    | some (.dic t ks vs) => if isKey t k && decide (ks.length < LIM) then some (S.set n (.dic t (dputK ks k) (dputV ks vs k v))) else none
    | _ => none
  | _ => none
/-- o.f = v, the i-th field of the class c -/
def setFld (S : Sto) (c i : Nat) (o v : W) : Option Sto :=
  match o with
  | .ref n => match S[n]? with
    | some (.ins c' xs) => if c' = c then (if i < xs.length then some (S.set n (.ins c (xs.set i v))) else if i = xs.length then some (S.set n (.ins c (xs ++ [v]))) else none) else none
    | _ => none
  | _ => none

/-! ### what a for walks -/
inductive ItK where
  | list | tup | str | range1 | range2 | enum | zip
def zipT : List W → List W → List W
  | x :: xs, y :: ys => .tup [x, y] :: zipT xs ys
  | _, _ => []
def enumT : Nat → List W → List W
  | _, [] => []
  | i, x :: xs => .tup [.int i, x] :: enumT (i + 1) xs
def itVals (k : ItK) (ws : List W) : Option (List W) :=
  match k, ws with
  | .list, [.lst xs] => some xs
  | .list, [.klst ns] => some (ns.map .int)
  | .tup, [.tup xs] => some xs
  | .str, [.str s] => some (s.map fun c => .str [c])
  | .range1, [.int n] => if decide (-(LIM : Int) < n) && decide (n < LIM) then some ((List.range n.toNat).map fun (j : Nat) => W.int (j : Int)) else none
  | .range2, [.int a, .int b] => if decide (-(LIM : Int) < a) && decide (a < LIM) && decide (-(LIM : Int) < b) && decide (b < LIM) then some ((List.range (b - a).toNat).map fun (j : Nat) => W.int (a + j)) else none
  | .enum, [.lst xs] => some (enumT 0 xs)
  | .zip, [.lst xs, .lst ys] => some (zipT xs ys)
  | _, _ => none

/-- a target: one name, or a tuple of names -/
inductive Tg where
  | one (i : Nat)
  | tup (is : List Nat)
def setAll : List Nat → List W → Env → Option Env
  | [], [], ρ => some ρ
  | i :: is, x :: xs, ρ => setAll is xs (ρ.set i (some x))
  | _, _, _ => none
def bindT (t : Tg) (x : W) (ρ : Env) : Option Env :=
  match t with
  | .one i => some (ρ.set i (some x))
  | .tup is => match x with
    | .tup xs => setAll is xs ρ
    | _ => none
def wipe (ρ : Env) : List Nat → Env
  | [] => ρ
  | v :: vs => (wipe ρ vs).set v none

/-! ### the mini-syntax -/
inductive Md where
  | pure | adopt | shared
/-- a method's receiver -/
inductive MTy where
  | list | dict | str
def tyOk (t : MTy) (w : W) (S : Sto) : Bool :=
  match t with
  | .list => (lstOf S w).isSome
  | .dict => (dicOf S w).isSome
  | .str => match w with
    | .str _ => true
    | _ => false
inductive E where
  | var (i : Nat)
  | con (w : W)
  | op (o : Op) (as : List E)
  | mth (t : MTy) (o : Op) (a : E) (as : List E)
  | eff (o : Eff) (a : E) (as : List E)
  | and (as : List E)
  | or (as : List E)
  | not (a : E)
  | ife (c a b : E)
  | chain (o1 o2 : Op) (a b c : E)
  | comp (elt : E) (t : Tg) (k : ItK) (srcs : List E) (cond : List E) (own : List Nat)
  | call (m : Md) (f : Nat) (as : List E)
  | new (m : Md) (c f : Nat) (as : List E)
  | mut (a : E)
  | toI (a : E)

abbrev CallF := Nat → List W → Sto → Rs W

def Rs.bind {α β : Type} (r : Rs α) (f : α → Sto → Rs β) : Rs β :=
  match r with
  | .ok a S => f a S
  | .ex c S => .ex c S
  | .bad => .bad
def ofO {α : Type} (o : Option α) (S : Sto) : Rs α :=
  match o with
  | some a => .ok a S
  | none => .bad

/-- a call: pure: the arguments as they stand, a store of its own, what it tells frozen -/
def callSem (cf : CallF) (m : Md) (f : Nat) (ws : List W) (S : Sto) : Rs W :=
  match m with
  | .shared => cf f ws S
  | .pure => match vws S ws with
    | none => .bad
    | some us => match cf f us [] with
      | .ok w S' => ofO (if rfreeL ws then vw S' w else vwB S' w) S
      | .ex c _ => .ex c S
      | .bad => .bad
  | .adopt => match vws S ws with
    | none => .bad
    | some us => match cf f us [] with
      | .ok (.ref n) S' => match S'[n]? with
        | some (.lst xs) => match (if rfreeL ws then vws (S'.set n .dead) xs else subL true (lev true (S'.set n .dead) 3) xs) with
          | some ys => .ok (.ref S.length) (S ++ [.lst ys])
          | none => .bad
        | _ => .bad
      | .ok _ _ => .bad
      | .ex c _ => .ex c S
      | .bad => .bad
def newSem (cf : CallF) (m : Md) (c f : Nat) (ws : List W) (S : Sto) : Rs W :=
  match m with
  | .shared => match cf f (.ref S.length :: ws) (S ++ [.ins c []]) with
    | .ok .non S' => .ok (.ref S.length) S'
    | .ok _ _ => .bad
    | .ex c' S' => .ex c' S'
    | .bad => .bad
  | .pure => match vws S ws with
    | none => .bad
    | some us => match cf f (.ref 0 :: us) [.ins c []] with
      | .ok .non S' => ofO (if rfreeL ws then vw S' (.ref 0) else vwB S' (.ref 0)) S
      | .ok _ _ => .bad
      | .ex c' _ => .ex c' S
      | .bad => .bad
  | .adopt => .bad

/-- a comprehension's turns -/
def compL (elt cond : Env → Sto → Rs W) (t : Tg) (ρ : Env) : List W → Sto → Rs (List W)
  | [], S => .ok [] S
  | x :: xs, S => match bindT t x ρ with
    | none => .bad
    | some ρ' => match cond ρ' S with
      | .ok (.bl true) S1 => match elt ρ' S1 with
        | .ok y S2 => (compL elt cond t ρ xs S2).bind fun ys S3 => .ok (y :: ys) S3
        | _ => .bad
      | .ok (.bl false) S1 => compL elt cond t ρ xs S1
      | _ => .bad

mutual
def ev (cf : CallF) : E → Env → Sto → Rs W
  | .var i, ρ, S => match ρ[i]? with
    | some (some w) => .ok w S
    | _ => .bad
  | .con w, _, S => .ok w S
  | .op o as, ρ, S => (evs cf as ρ S).bind fun ws S' => ofO (opSem o ws S') S'
  | .mth t o a as, ρ, S => (ev cf a ρ S).bind fun w S1 => if tyOk t w S1 then (evs cf as ρ S1).bind fun ws S2 => ofO (opSem o (w :: ws) S2) S2 else .bad
  | .eff o a as, ρ, S => (ev cf a ρ S).bind fun w S1 => if tyOk .list w S1 then (evs cf as ρ S1).bind fun ws S2 => match effSem o (w :: ws) S2 with
    | some (w', S3) => .ok w' S3
    | none => .bad
    else .bad
  | .and as, ρ, S => evAnd cf as ρ S
  | .or as, ρ, S => evOr cf as ρ S
  | .not a, ρ, S => (ev cf a ρ S).bind fun w S' => match w with
    | .bl b => .ok (.bl (!b)) S'
    | _ => .bad
  | .ife c a b, ρ, S => (ev cf c ρ S).bind fun w S' => match w with
    | .bl true => ev cf a ρ S'
    | .bl false => ev cf b ρ S'
    | _ => .bad
  | .chain o1 o2 a b c, ρ, S => (ev cf a ρ S).bind fun x S1 => (ev cf b ρ S1).bind fun y S2 => match opSem o1 [x, y] S2 with
    | some (.bl true) => (ev cf c ρ S2).bind fun z S3 => ofO (opSem o2 [y, z] S3) S3
    | some (.bl false) => .ok (.bl false) S2
    | _ => .bad
  | .comp elt t k srcs cond own, ρ, S => (evs cf srcs ρ S).bind fun ws S1 => match itVals k ws with
    | some xs => if xs.length < LIM then (compL (fun ρ' S' => ev cf elt ρ' S') (fun ρ' S' => evAll cf cond ρ' S') t (wipe ρ own) xs S1).bind fun ys S2 => .ok (.lst ys) S2 else .bad
    | none => .bad
  | .call m f as, ρ, S => (evs cf as ρ S).bind fun ws S1 => callSem cf m f ws S1
  | .new m c f as, ρ, S => (evs cf as ρ S).bind fun ws S1 => newSem cf m c f ws S1
  | .mut a, ρ, S => (ev cf a ρ S).bind fun w S1 => match w with
    | .lst xs => .ok (.ref S1.length) (S1 ++ [.lst xs])
    | .dic t ks vs => .ok (.ref S1.length) (S1 ++ [.dic t ks vs])
    | _ => .bad
  | .toI a, ρ, S => (ev cf a ρ S).bind fun w S1 => match w with
    | .int i => .ok (.int i) S1
    | _ => .bad
def evs (cf : CallF) : List E → Env → Sto → Rs (List W)
  | [], _, S => .ok [] S
  | a :: as, ρ, S => (ev cf a ρ S).bind fun w S1 => (evs cf as ρ S1).bind fun ws S2 => .ok (w :: ws) S2
def evAnd (cf : CallF) : List E → Env → Sto → Rs W
  | [], _, _ => .bad
  | [a], ρ, S => (ev cf a ρ S).bind fun w S1 => match w with
    | .bl b => .ok (.bl b) S1
    | _ => .bad
  | a :: as, ρ, S => (ev cf a ρ S).bind fun w S1 => match w with
    | .bl true => evAnd cf as ρ S1
    | .bl false => .ok (.bl false) S1
    | _ => .bad
def evOr (cf : CallF) : List E → Env → Sto → Rs W
  | [], _, _ => .bad
  | [a], ρ, S => (ev cf a ρ S).bind fun w S1 => match w with
    | .bl b => .ok (.bl b) S1
    | _ => .bad
  | a :: as, ρ, S => (ev cf a ρ S).bind fun w S1 => match w with
    | .bl true => .ok (.bl true) S1
    | .bl false => evOr cf as ρ S1
    | _ => .bad
/-- the conditions of a comprehension: none or one -/
def evAll (cf : CallF) : List E → Env → Sto → Rs W
  | [], _, S => .ok (.bl true) S
  | a :: _, ρ, S => ev cf a ρ S
end

/-- x op= y where the place is stored anew -/
def augSem (o : Op) (x y : W) : Option W :=
  match o, x, y with
  | .add, .int a, .int b => some (.int (a + b))
  | .add, .str a, .str b => if a.length + b.length < LIM then some (.str (a ++ b)) else none
  | .sub, .int a, .int b => some (.int (a - b))
  | .mul, .int a, .int b => if CMul a b then some (.int (a * b)) else none
  | _, _, _ => none

/-! ### statements -/
inductive Stm where
  | expr (e : E)
  | asg (t : Tg) (e : E)
  | setI (v o k : E)
  | setF (c i : Nat) (v o : E)
  | aug (i : Nat) (o : Op) (e : E)
  | ite (c : E) (a b : List Stm)
  | forIn (t : Tg) (k : ItK) (srcs : List E) (body : List Stm)
  | forR (t : Tg) (a : E) (body : List Stm)
  | whil (c : E) (body : List Stm)
  | ret (e : E)
  | cont
  | brk
  | pass
  | rais (c : Nat)
  | frz (i : Nat)

def forL (t : Tg) (body : Env → Sto → SR) : List W → Env → Sto → SR
  | [], ρ, S => .next ρ S
  | x :: xs, ρ, S => match bindT t x ρ with
    | none => .bad
    | some ρ' => match body ρ' S with
      | .next ρ2 S2 => forL t body xs ρ2 S2
      | .cont ρ2 S2 => forL t body xs ρ2 S2
      | .brk ρ2 S2 => .next ρ2 S2
      | r => r
/-- over a cell, by places -/
def forC (t : Tg) (body : Env → Sto → SR) (n : Nat) : Nat → Nat → Env → Sto → SR
  | 0, _, _, _ => .bad
  | k + 1, i, ρ, S => match S[n]? with
    | some (.lst xs) => match xs[i]? with
      | none => .next ρ S
      | some x => match bindT t x ρ with
        | none => .bad
        | some ρ' => match body ρ' S with
          | .next ρ2 S2 => forC t body n k (i + 1) ρ2 S2
          | .cont ρ2 S2 => forC t body n k (i + 1) ρ2 S2
          | .brk ρ2 S2 => .next ρ2 S2
          | r => r
    | _ => .bad
def whileL (c : Env → Sto → Rs W) (body : Env → Sto → SR) : Nat → Env → Sto → SR
  | 0, _, _ => .bad
  | k + 1, ρ, S => match c ρ S with
    | .ok (.bl true) S1 => match body ρ S1 with
      | .next ρ2 S2 => whileL c body k ρ2 S2
      | .cont ρ2 S2 => whileL c body k ρ2 S2
      | .brk ρ2 S2 => .next ρ2 S2
      | r => r
    | .ok (.bl false) S1 => .next ρ S1
    | .ex x S1 => .ex x S1
    | _ => .bad

def SR.seq (r : SR) (f : Env → Sto → SR) : SR :=
  match r with
  | .next ρ S => f ρ S
  | r => r
def Rs.sr {α : Type} (r : Rs α) (f : α → Sto → SR) : SR :=
  match r with
  | .ok a S => f a S
  | .ex c S => .ex c S
  | .bad => .bad

mutual
def exec (cf : CallF) (L : Nat) : Stm → Env → Sto → SR
  | .expr e, ρ, S => (ev cf e ρ S).sr fun _ S1 => .next ρ S1
  | .asg t e, ρ, S => (ev cf e ρ S).sr fun w S1 => match bindT t w ρ with
    | some ρ' => .next ρ' S1
    | none => .bad
  | .setI v o k, ρ, S => (ev cf v ρ S).sr fun v' S1 => (ev cf o ρ S1).sr fun o' S2 => (ev cf k ρ S2).sr fun k' S3 => match setSem S3 o' k' v' with
    | some S4 => .next ρ S4
    | none => .bad
  | .setF c i v o, ρ, S => (ev cf v ρ S).sr fun v' S1 => (ev cf o ρ S1).sr fun o' S2 => match setFld S2 c i o' v' with
    | some S3 => .next ρ S3
    | none => .bad
  | .aug i o e, ρ, S => match ρ[i]? with
    | some (some x) => (ev cf e ρ S).sr fun y S1 => match augSem o x y with
      | some z => .next (ρ.set i (some z)) S1
      | none => .bad
    | _ => .bad
  | .ite c a b, ρ, S => (ev cf c ρ S).sr fun w S1 => match w with
    | .bl true => execs cf L a ρ S1
    | .bl false => execs cf L b ρ S1
    | _ => .bad
  | .forIn t k srcs body, ρ, S => (evs cf srcs ρ S).sr fun ws S1 => match itVals k ws with
    | some xs => forL t (fun ρ' S' => execs cf L body ρ' S') xs ρ S1
    | none => .bad
  | .forR t a body, ρ, S => (ev cf a ρ S).sr fun w S1 => match w with
    | .ref n => forC t (fun ρ' S' => execs cf L body ρ' S') n L 0 ρ S1
    | _ => .bad
  | .whil c body, ρ, S => whileL (fun ρ' S' => ev cf c ρ' S') (fun ρ' S' => execs cf L body ρ' S') L ρ S
  | .ret e, ρ, S => (ev cf e ρ S).sr fun w S1 => .ret w S1
  | .cont, ρ, S => .cont ρ S
  | .brk, ρ, S => .brk ρ S
  | .pass, ρ, S => .next ρ S
  | .rais c, _, S => .ex c S
  | .frz i, ρ, S => match ρ[i]? with
    | some (some (.ref n)) => match S[n]? with
      | some (.lst xs) => if rfreeL xs then .next (ρ.set i (some (.lst xs))) (S.set n .dead) else .bad
      | some (.dic t ks vs) => if rfreeL ks && rfreeL vs then .next (ρ.set i (some (.dic t ks vs))) (S.set n .dead) else .bad
      | _ => .bad
    | _ => .bad
def execs (cf : CallF) (L : Nat) : List Stm → Env → Sto → SR
  | [], ρ, S => .next ρ S
  | s :: ss, ρ, S => (exec cf L s ρ S).seq fun ρ1 S1 => execs cf L ss ρ1 S1
end

structure Fn where
  np : Nat
  ns : Nat
  body : List Stm

def runF (P : List Fn) (L : Nat) : Nat → CallF
  | 0, _, _, _ => .bad
  | d + 1, f, ws, S => match P[f]? with
    | none => .bad
    | some fn => if ws.length = fn.np then
        match execs (runF P L d) L fn.body (ws.map some ++ List.replicate (fn.ns - fn.np) none) S with
        | .ret w S' => .ok w S'
        | .next _ S' => .ok .non S'
        | .ex c S' => .ex c S'
        | _ => .bad
      else .bad

end Tw

/-! Tw, part B: what a value stands for in the hand layer's abstract heap. -/
namespace Tw
open PySem PySem.Spec PyProof.Rows L2

structure Gx where
  K : PySem.W.Frag
  cad : Nat → Addr
  fld : Nat → List PySem.Str

def kW : Key → W
  | .inl i => .int i
  | .inr x => .str x.cps.toList

mutual
/-- w stands at v; I: what never changes; φ: the cells' addresses -/
def Rel (G : Gx) (I : Hp) (φ : List Addr) : W → V → Prop
  | .non, v => v = .non
  | .bl b, v => v = .bl b
  | .int i, v => v = .int i
  | .str s, v => v = .str ⟨s.toArray⟩
  | .tup ws, v => ∃ a vs, v = .ref a ∧ I a = some (.tup vs) ∧ Rels G I φ ws vs
  | .lst ws, v => ∃ a vs, v = .ref a ∧ Rd I a (.lst vs) ∧ Rels G I φ ws vs
  | .dic false ks vs, v => ∃ a kvs, v = .ref a ∧ I a = some (.dK kvs) ∧ ks = kvs.map (fun p => kW p.1) ∧ Rels G I φ vs (kvs.map (·.2))
  | .dic true ks vs, v => ∃ a kvs, v = .ref a ∧ I a = some (.dT kvs) ∧ ks = kvs.map (fun p => .tup (p.1.map kW)) ∧ Rels G I φ vs (kvs.map (·.2))
  | .rcd c ws, v => ∃ a dx fs, v = .ref a ∧ I a = some (.ins (G.cad c) dx fs) ∧ fs.map (·.1) = (G.fld c).take fs.length ∧ Rels G I φ ws (fs.map (·.2))
  | .ref n, v => ∃ a, v = .ref a ∧ φ[n]? = some a
  | .exn _, _ => False
  | .klst ns, v => ∃ a, v = .ref a ∧ SqL G.K I a (ns.map V.int)
def Rels (G : Gx) (I : Hp) (φ : List Addr) : List W → List V → Prop
  | [], vs => vs = []
  | w :: ws, vs => ∃ x xs, vs = x :: xs ∧ Rel G I φ w x ∧ Rels G I φ ws xs
end

variable {G : Gx} {I I' I1 I2 H H' H1 H2 : Hp} {φ φ' φ1 φ2 : List Addr}

theorem rd_mono {a : Addr} {o : HO} (s : Same I I') (h : Rd I a o) : Rd I' a o := by
  rcases h with h | ⟨u, h⟩
  · exact .inl (s _ _ h)
  · exact .inr ⟨u, s _ _ h⟩
def Pre (φ φ' : List Addr) : Prop := ∃ ψ, φ' = φ ++ ψ
theorem Pre.refl (φ : List Addr) : Pre φ φ := ⟨[], by simp⟩
theorem Pre.trans (a : Pre φ φ1) (b : Pre φ1 φ2) : Pre φ φ2 := by
  obtain ⟨x, rfl⟩ := a
  obtain ⟨y, rfl⟩ := b
  exact ⟨x ++ y, by simp⟩
theorem Pre.get {n : Nat} {a : Addr} (p : Pre φ φ') (h : φ[n]? = some a) : φ'[n]? = some a := by
  obtain ⟨x, rfl⟩ := p
  have := (List.getElem?_eq_some_iff.mp h).1
  rw [List.getElem?_append_left this]
  exact h
mutual
theorem Rel.mono (s : Same I I') (p : Pre φ φ') : ∀ {w : W} {v : V}, Rel G I φ w v → Rel G I' φ' w v
  | .non, _, h => h
  | .bl _, _, h => h
  | .int _, _, h => h
  | .str _, _, h => h
  | .tup ws, _, ⟨a, vs, e, h, r⟩ => ⟨a, vs, e, s _ _ h, Rels.mono s p r⟩
  | .lst ws, _, ⟨a, vs, e, h, r⟩ => ⟨a, vs, e, rd_mono s h, Rels.mono s p r⟩
  | .dic false ks vs, _, ⟨a, kvs, e, h, k, r⟩ => ⟨a, kvs, e, s _ _ h, k, Rels.mono s p r⟩
  | .dic true ks vs, _, ⟨a, kvs, e, h, k, r⟩ => ⟨a, kvs, e, s _ _ h, k, Rels.mono s p r⟩
  | .rcd c ws, _, ⟨a, dx, fs, e, h, k, r⟩ => ⟨a, dx, fs, e, s _ _ h, k, Rels.mono s p r⟩
  | .ref n, _, ⟨a, e, h⟩ => ⟨a, e, p.get h⟩
  | .exn _, _, h => h
  | .klst ns, _, ⟨a, e, h⟩ => ⟨a, e, s.seq h⟩
theorem Rels.mono (s : Same I I') (p : Pre φ φ') : ∀ {ws : List W} {vs : List V}, Rels G I φ ws vs → Rels G I' φ' ws vs
  | [], _, h => h
  | w :: ws, _, ⟨x, xs, e, h, r⟩ => ⟨x, xs, e, Rel.mono s p h, Rels.mono s p r⟩
end
mutual
/-- a value without refs does not ask for the cells; I may be changed where the value does not look -/
theorem Rel.rfree : ∀ {w : W} {v : V}, rfree w = true → Rel G I φ w v → Rel G I φ' w v
  | .non, _, _, h => h
  | .bl _, _, _, h => h
  | .int _, _, _, h => h
  | .str _, _, _, h => h
  | .tup ws, _, f, ⟨a, vs, e, h, r⟩ => ⟨a, vs, e, h, Rels.rfree (by simpa [Tw.rfree] using f) r⟩
  | .lst ws, _, f, ⟨a, vs, e, h, r⟩ => ⟨a, vs, e, h, Rels.rfree (by simpa [Tw.rfree] using f) r⟩
  | .dic false ks vs, _, f, ⟨a, kvs, e, h, k, r⟩ => ⟨a, kvs, e, h, k, Rels.rfree (by simp [Tw.rfree] at f; exact f.2) r⟩
  | .dic true ks vs, _, f, ⟨a, kvs, e, h, k, r⟩ => ⟨a, kvs, e, h, k, Rels.rfree (by simp [Tw.rfree] at f; exact f.2) r⟩
  | .rcd c ws, _, f, ⟨a, dx, fs, e, h, k, r⟩ => ⟨a, dx, fs, e, h, k, Rels.rfree (by simpa [Tw.rfree] using f) r⟩
  | .ref n, _, f, _ => by simp [Tw.rfree] at f
  | .exn _, _, _, h => h
  | .klst _, _, _, h => h
theorem Rels.rfree : ∀ {ws : List W} {vs : List V}, rfreeL ws = true → Rels G I φ ws vs → Rels G I φ' ws vs
  | [], _, _, h => h
  | w :: ws, _, f, ⟨x, xs, e, h, r⟩ => by
    simp [rfreeL] at f
    exact ⟨x, xs, e, Rel.rfree f.1 h, Rels.rfree f.2 r⟩
end
theorem Rels.length : ∀ {ws : List W} {vs : List V}, Rels G I φ ws vs → vs.length = ws.length
  | [], _, h => by rw [show _ = [] from h]; rfl
  | w :: ws, _, ⟨x, xs, e, _, r⟩ => by rw [e, List.length_cons, List.length_cons, Rels.length r]
theorem Rels.get : ∀ {ws : List W} {vs : List V} {i : Nat} {w : W}, Rels G I φ ws vs → ws[i]? = some w → ∃ v, vs[i]? = some v ∧ Rel G I φ w v
  | [], _, _, _, _, e => by simp at e
  | w :: ws, _, 0, _, ⟨x, xs, e, h, _⟩, g => by
    simp at g; subst g; subst e; exact ⟨x, rfl, h⟩
  | w :: ws, _, i + 1, _, ⟨x, xs, e, _, r⟩, g => by
    subst e
    obtain ⟨v, h1, h2⟩ := Rels.get (i := i) r (by simpa using g)
    exact ⟨v, by simpa using h1, h2⟩
theorem Rels.get' : ∀ {ws : List W} {vs : List V} {i : Nat} {v : V}, Rels G I φ ws vs → vs[i]? = some v → ∃ w, ws[i]? = some w ∧ Rel G I φ w v
  | [], _, _, _, h, e => by rw [show _ = [] from h] at e; simp at e
  | w :: ws, _, 0, _, ⟨x, xs, e, h, _⟩, g => by
    subst e; simp at g; subst g; exact ⟨w, rfl, h⟩
  | w :: ws, _, i + 1, _, ⟨x, xs, e, _, r⟩, g => by
    subst e
    obtain ⟨v, h1, h2⟩ := Rels.get' (i := i) r (by simpa using g)
    exact ⟨v, by simpa using h1, h2⟩
theorem Rels.append : ∀ {ws us : List W} {vs xs : List V}, Rels G I φ ws vs → Rels G I φ us xs → Rels G I φ (ws ++ us) (vs ++ xs)
  | [], _, _, _, h, r => by rw [show _ = [] from h]; exact r
  | w :: ws, _, _, _, ⟨x, xs, e, h, t⟩, r => by subst e; exact ⟨x, _, rfl, h, Rels.append t r⟩
theorem Rels.one {w : W} {v : V} (h : Rel G I φ w v) : Rels G I φ [w] [v] := ⟨v, [], rfl, h, rfl⟩
theorem Rels.take : ∀ {ws : List W} {vs : List V} (n : Nat), Rels G I φ ws vs → Rels G I φ (ws.take n) (vs.take n)
  | _, _, 0, _ => by simp only [List.take_zero]; rfl
  | [], _, n + 1, h => by rw [show _ = [] from h]; rfl
  | w :: ws, _, n + 1, ⟨x, xs, e, h, r⟩ => by subst e; exact ⟨x, _, rfl, h, Rels.take n r⟩
theorem Rels.drop : ∀ {ws : List W} {vs : List V} (n : Nat), Rels G I φ ws vs → Rels G I φ (ws.drop n) (vs.drop n)
  | _, _, 0, r => r
  | [], _, n + 1, h => by rw [show _ = [] from h]; rfl
  | w :: ws, _, n + 1, ⟨x, xs, e, h, r⟩ => by subst e; exact Rels.drop n r
theorem Rels.set {w : W} {v : V} (h0 : Rel G I φ w v) : ∀ {ws : List W} {vs : List V} (i : Nat), Rels G I φ ws vs → Rels G I φ (ws.set i w) (vs.set i v)
  | [], _, _, h => by rw [show _ = [] from h]; rfl
  | _ :: ws, _, 0, ⟨x, xs, e, h, r⟩ => by subst e; exact ⟨v, _, rfl, h0, r⟩
  | _ :: ws, _, i + 1, ⟨x, xs, e, h, r⟩ => by subst e; exact ⟨x, _, rfl, h, Rels.set h0 i r⟩
theorem Rels.eraseIdx : ∀ {ws : List W} {vs : List V} (i : Nat), Rels G I φ ws vs → Rels G I φ (ws.eraseIdx i) (vs.eraseIdx i)
  | [], _, _, h => by rw [show _ = [] from h]; rfl
  | _ :: ws, _, 0, ⟨x, xs, e, h, r⟩ => by subst e; exact r
  | _ :: ws, _, i + 1, ⟨x, xs, e, h, r⟩ => by subst e; exact ⟨x, _, rfl, h, Rels.eraseIdx i r⟩
theorem Rels.reverse : ∀ {ws : List W} {vs : List V}, Rels G I φ ws vs → Rels G I φ ws.reverse vs.reverse
  | [], _, h => by rw [show _ = [] from h]; rfl
  | _ :: ws, _, ⟨x, xs, e, h, r⟩ => by
    subst e
    rw [List.reverse_cons, List.reverse_cons]
    exact Rels.append (Rels.reverse r) (Rels.one h)
theorem Rels.cons {w : W} {ws : List W} {v : V} {vs : List V} (h : Rel G I φ w v) (r : Rels G I φ ws vs) : Rels G I φ (w :: ws) (v :: vs) := ⟨v, vs, rfl, h, r⟩
theorem Rels.nil : Rels G I φ [] [] := rfl

/-! ### the store -/
def Live (S : Sto) (n : Nat) : Prop := ∃ o, S[n]? = some o ∧ o ≠ .dead
def CellOk (G : Gx) (I : Hp) (φ : List Addr) (H : Hp) (a : Addr) : Ob → Prop
  | .lst ws => ∃ vs, H a = some (.lst vs) ∧ Rels G I φ ws vs
  | .dic false ks vs => ∃ kvs, H a = some (.dK kvs) ∧ ks = kvs.map (fun p => kW p.1) ∧ Rels G I φ vs (kvs.map (·.2))
  | .dic true ks vs => ∃ kvs, H a = some (.dT kvs) ∧ ks = kvs.map (fun p => .tup (p.1.map kW)) ∧ Rels G I φ vs (kvs.map (·.2))
  | .ins c ws => ∃ dx fs, H a = some (.ins (G.cad c) dx fs) ∧ fs.map (·.1) = (G.fld c).take fs.length ∧ Rels G I φ ws (fs.map (·.2))
  | .dead => True
structure Sim (G : Gx) (I : Hp) (φ : List Addr) (S : Sto) (H : Hp) : Prop where
  same : Same I H
  len : φ.length = S.length
  nd : φ.Nodup
  out : ∀ (n : Nat) (a : Addr) (o : Ob), φ[n]? = some a → S[n]? = some o → o ≠ .dead → I a = none
  old : ∀ (n : Nat) (a : Addr), φ[n]? = some a → (H a).isSome = true
  cell : ∀ (n : Nat) (a : Addr) (o : Ob), φ[n]? = some a → S[n]? = some o → CellOk G I φ H a o
structure Ext (I : Hp) (φ : List Addr) (H : Hp) (I' : Hp) (φ' : List Addr) (H' : Hp) : Prop where
  same : Same I I'
  pre : ∃ ψ, φ' = φ ++ ψ ∧ ∀ a ∈ ψ, H a = none
  frame : ∀ a o, a ∉ φ → H a = some o → H' a = some o
  keep : ∀ a, (H a).isSome = true → (H' a).isSome = true
  fresh : ∀ a, (I' a).isSome = true → (I a).isSome = true ∨ H a = none ∨ a ∈ φ
theorem Ext.pre' (e : Ext I φ H I' φ' H') : Pre φ φ' := let ⟨ψ, h, _⟩ := e.pre; ⟨ψ, h⟩
theorem Ext.refl (I : Hp) (φ : List Addr) (H : Hp) : Ext I φ H I φ H := ⟨Same.refl _, ⟨[], by simp, by simp⟩, fun _ _ _ h => h, fun _ h => h, fun _ h => .inl h⟩
theorem none_of {a : Addr} (h : ¬ (H a).isSome = true) : H a = none := by
  cases e : H a with
  | none => rfl
  | some o => rw [e] at h; simp at h
theorem Ext.trans (a : Ext I φ H I1 φ1 H1) (b : Ext I1 φ1 H1 I2 φ2 H2) : Ext I φ H I2 φ2 H2 := by
  obtain ⟨x, rfl, hx⟩ := a.pre
  obtain ⟨y, rfl, hy⟩ := b.pre
  have fr : ∀ c, H1 c = none → H c = none := fun c h => none_of fun q => by
    have := a.keep c q
    rw [h] at this
    simp at this
  refine ⟨a.same.trans b.same, ⟨x ++ y, by simp, fun c hc => ?_⟩, fun c o hc e => ?_, fun c e => b.keep c (a.keep c e), fun c hc => ?_⟩
  · rcases List.mem_append.mp hc with h | h
    · exact hx c h
    · exact fr c (hy c h)
  · refine b.frame c o (fun z => ?_) (a.frame c o hc e)
    rcases List.mem_append.mp z with h | h
    · exact hc h
    · rw [hx c h] at e; cases e
  · rcases b.fresh c hc with h | h | h
    · exact a.fresh c h
    · exact .inr (.inl (fr c h))
    · rcases List.mem_append.mp h with h | h
      · exact .inr (.inr h)
      · exact .inr (.inl (hx c h))
theorem Rel.ext {w : W} {v : V} (e : Ext I φ H I' φ' H') (h : Rel G I φ w v) : Rel G I' φ' w v := h.mono e.same e.pre'
theorem Rels.ext {ws : List W} {vs : List V} (e : Ext I φ H I' φ' H') (h : Rels G I φ ws vs) : Rels G I' φ' ws vs := h.mono e.same e.pre'

/-- the slots -/
structure Envs (G : Gx) (I : Hp) (φ : List Addr) (ρ : Env) (σ : L2.St) : Prop where
  len : ρ.length = σ.length
  at_ : ∀ (i : Nat) (w : W), ρ[i]? = some (some w) → ∃ v, σ[i]? = some (some v) ∧ Rel G I φ w v
theorem Envs.ext {ρ : Env} {σ : L2.St} (e : Ext I φ H I' φ' H') (h : Envs G I φ ρ σ) : Envs G I' φ' ρ σ :=
  ⟨h.len, fun i w q => let ⟨v, h1, h2⟩ := h.at_ i w q; ⟨v, h1, h2.ext e⟩⟩
theorem Envs.set {ρ : Env} {σ : L2.St} {i : Nat} {w : W} {v : V} (h : Envs G I φ ρ σ) (r : Rel G I φ w v) : Envs G I φ (ρ.set i (some w)) (σ.set i (some v)) := by
  refine ⟨by simp [h.len], fun j u q => ?_⟩
  by_cases hj : i = j
  · subst hj
    by_cases hl : i < ρ.length
    · rw [List.getElem?_set_self hl] at q
      cases q
      exact ⟨v, by rw [List.getElem?_set_self (by rw [← h.len]; exact hl)], r⟩
    · rw [List.getElem?_eq_none (by simp; omega)] at q; cases q
  · rw [List.getElem?_set_ne hj] at q
    obtain ⟨v', h1, h2⟩ := h.at_ j u q
    exact ⟨v', by rw [List.getElem?_set_ne hj]; exact h1, h2⟩
theorem Envs.wipe {ρ : Env} {σ : L2.St} (h : Envs G I φ ρ σ) : ∀ (vs : List Nat), Envs G I φ (Tw.wipe ρ vs) (L2.wipe σ vs)
  | [] => h
  | v :: vs => by
    have ih := Envs.wipe h vs
    show Envs G I φ ((Tw.wipe ρ vs).set v none) ((L2.wipe σ vs).set v none)
    refine ⟨by simp [ih.len], fun j u q => ?_⟩
    by_cases hj : v = j
    · subst hj
      by_cases hl : v < (Tw.wipe ρ vs).length
      · rw [List.getElem?_set_self hl] at q; cases q
      · rw [List.getElem?_eq_none (by simp; omega)] at q; cases q
    · rw [List.getElem?_set_ne hj] at q
      obtain ⟨v', h1, h2⟩ := ih.at_ j u q
      exact ⟨v', by rw [List.getElem?_set_ne hj]; exact h1, h2⟩

/-! ### new things -/
theorem same_upd {p : Addr} {o : HO} (h : H p = none) : Same H (upd H p o) := fun b u e => by
  rw [upd_ne (ne_of_none e h)]
  exact e
theorem Sim.iNone {S : Sto} {p : Addr} (s : Sim G I φ S H) (h : H p = none) : I p = none := by
  cases e : I p with
  | none => rfl
  | some o => rw [s.same p o e] at h; cases h
theorem Sim.notIn {S : Sto} {p : Addr} (s : Sim G I φ S H) (h : H p = none) : p ∉ φ := fun z => by
  obtain ⟨n, hn, e⟩ := List.getElem_of_mem z
  have := s.old n p (by rw [List.getElem?_eq_getElem hn, e])
  rw [h] at this
  simp at this
theorem CellOk.mono {a : Addr} {o : Ob} (s : Same I I') (p : Pre φ φ') (e : ∀ u, H a = some u → H' a = some u) (h : CellOk G I φ H a o) : CellOk G I' φ' H' a o := by
  cases o with
  | lst ws => obtain ⟨vs, q, r⟩ := h; exact ⟨vs, e _ q, r.mono s p⟩
  | dic t ks vs =>
    cases t with
    | false => obtain ⟨kvs, q, k, r⟩ := h; exact ⟨kvs, e _ q, k, r.mono s p⟩
    | true => obtain ⟨kvs, q, k, r⟩ := h; exact ⟨kvs, e _ q, k, r.mono s p⟩
  | ins c ws => obtain ⟨dx, fs, q, k, r⟩ := h; exact ⟨dx, fs, e _ q, k, r.mono s p⟩
  | dead => trivial
/-- a frozen thing is laid at p -/
theorem Sim.newI {S : Sto} {p : Addr} {o : HO} (s : Sim G I φ S H) (h : H p = none) : Sim G (upd I p o) φ S (upd H p o) ∧ Ext I φ H (upd I p o) φ (upd H p o) := by
  have hi := s.iNone h
  have hs : Same I (upd I p o) := same_upd hi
  have ne : ∀ a, (H a).isSome = true → a ≠ p := fun a q z => by rw [z, h] at q; simp at q
  refine ⟨⟨fun a u e => ?_, s.len, s.nd, fun n a u e1 e2 e3 => ?_, fun n a e => ?_, fun n a u e1 e2 => ?_⟩, ⟨hs, ⟨[], by simp, by simp⟩, fun a u _ e => ?_, fun a e => ?_, fun a e => ?_⟩⟩
  · by_cases z : a = p
    · subst z; rw [upd_same] at e; rw [upd_same]; exact e
    · rw [upd_ne z] at e; rw [upd_ne z]; exact s.same a u e
  · rw [upd_ne (ne a (s.old n a e1))]
    exact s.out n a u e1 e2 e3
  · rw [upd_ne (ne a (s.old n a e))]
    exact s.old n a e
  · exact (s.cell n a u e1 e2).mono hs (Pre.refl _) fun u q => by rw [upd_ne (ne a (s.old n a e1))]; exact q
  · rw [upd_ne (ne_of_none e h)]
    exact e
  · rw [upd_ne (ne a e)]
    exact e
  · by_cases z : a = p
    · subst z; exact .inr (.inl h)
    · rw [upd_ne z] at e; exact .inl e
/-- a cell is laid at p -/
theorem Sim.newC {S : Sto} {p : Addr} {o : Ob} {u : HO} (s : Sim G I φ S H) (h : H p = none) (c : CellOk G I (φ ++ [p]) (upd H p u) p o) : Sim G I (φ ++ [p]) (S ++ [o]) (upd H p u) ∧ Ext I φ H I (φ ++ [p]) (upd H p u) := by
  have hi := s.iNone h
  have ne : ∀ a, (H a).isSome = true → a ≠ p := fun a q z => by rw [z, h] at q; simp at q
  have hn := s.notIn h
  have at_ : ∀ (n : Nat) (a : Addr), (φ ++ [p])[n]? = some a → φ[n]? = some a ∨ (n = φ.length ∧ a = p) := fun n a e => by
    by_cases q : n < φ.length
    · rw [List.getElem?_append_left q] at e; exact .inl e
    · rw [List.getElem?_append_right (by omega)] at e
      have hl := (List.getElem?_eq_some_iff.mp e).1
      simp at hl
      have e0 : n - φ.length = 0 := by omega
      rw [e0] at e
      simp at e
      exact .inr ⟨by omega, e.symm⟩
  refine ⟨⟨fun a w e => ?_, by simp [s.len], ?_, fun n a w e1 e2 e3 => ?_, fun n a e => ?_, fun n a w e1 e2 => ?_⟩, ⟨Same.refl _, ⟨[p], rfl, fun a ha => ?_⟩, fun a w _ e => ?_, fun a e => ?_, fun a e => .inl e⟩⟩
  · rw [upd_ne (ne a (by rw [s.same a w e]; rfl))]
    exact s.same a w e
  · rw [List.nodup_append]
    exact ⟨s.nd, by simp, fun a ha b hb => by simp at hb; subst hb; exact fun z => hn (z ▸ ha)⟩
  · rcases at_ n a e1 with q | ⟨q1, q2⟩
    · have hl : n < S.length := by rw [← s.len]; exact (List.getElem?_eq_some_iff.mp q).1
      rw [List.getElem?_append_left hl] at e2
      exact s.out n a w q e2 e3
    · subst q2; exact hi
  · rcases at_ n a e with q | ⟨q1, q2⟩
    · rw [upd_ne (ne a (s.old n a q))]; exact s.old n a q
    · subst q2; rw [upd_same]; rfl
  · rcases at_ n a e1 with q | ⟨q1, q2⟩
    · have hl : n < S.length := by rw [← s.len]; exact (List.getElem?_eq_some_iff.mp q).1
      rw [List.getElem?_append_left hl] at e2
      exact (s.cell n a w q e2).mono (Same.refl _) ⟨[p], rfl⟩ fun u q' => by rw [upd_ne (ne a (s.old n a q))]; exact q'
    · subst q2
      rw [List.getElem?_append_right (by rw [q1, s.len]; omega)] at e2
      rw [q1, s.len] at e2
      simp at e2
      subst e2
      exact c
  · simp at ha; subst ha; exact h
  · rw [upd_ne (ne_of_none e h)]; exact e
  · rw [upd_ne (ne a e)]; exact e
/-- a cell is written -/
theorem Sim.put {S : Sto} {n : Nat} {p : Addr} {o o' : Ob} {u : HO} (s : Sim G I φ S H) (hn : φ[n]? = some p) (ho : S[n]? = some o) (hd : o ≠ .dead) (c : CellOk G I φ (upd H p u) p o') : Sim G I φ (S.set n o') (upd H p u) ∧ Ext I φ H I φ (upd H p u) := by
  have hi := s.out n p o hn ho hd
  have un : ∀ (m : Nat), φ[m]? = some p → m = n := fun m e => by
    have h1 := (List.getElem?_eq_some_iff.mp e).1
    have h2 := (List.getElem?_eq_some_iff.mp hn).1
    exact (List.getElem_inj s.nd).mp ((List.getElem?_eq_some_iff.mp e).2.trans (List.getElem?_eq_some_iff.mp hn).2.symm)
  have hnS : n < S.length := (List.getElem?_eq_some_iff.mp ho).1
  refine ⟨⟨fun a w e => ?_, by simp [s.len], s.nd, fun m a w e1 e2 e3 => ?_, fun m a e => ?_, fun m a w e1 e2 => ?_⟩, ⟨Same.refl _, ⟨[], by simp, by simp⟩, fun a w ha e => ?_, fun a e => ?_, fun a e => .inl e⟩⟩
  · rw [upd_ne (fun z => by rw [z, hi] at e; cases e)]
    exact s.same a w e
  · by_cases z : m = n
    · subst z; rw [hn] at e1; cases e1; exact hi
    · rw [List.getElem?_set_ne (Ne.symm z)] at e2
      exact s.out m a w e1 e2 e3
  · by_cases z : a = p
    · subst z; rw [upd_same]; rfl
    · rw [upd_ne z]; exact s.old m a e
  · by_cases z : m = n
    · subst z
      rw [hn] at e1; cases e1
      rw [List.getElem?_set_self hnS] at e2
      cases e2
      exact c
    · rw [List.getElem?_set_ne (Ne.symm z)] at e2
      exact (s.cell m a w e1 e2).mono (Same.refl _) (Pre.refl _) fun u q => by rw [upd_ne (fun y => z (un m (by rw [← y]; exact e1)))]; exact q
  · rw [upd_ne (fun z => ha (by rw [z]; exact List.mem_of_getElem? hn))]
    exact e
  · by_cases z : a = p
    · subst z; rw [upd_same]; rfl
    · rw [upd_ne z]; exact e
end Tw

/-! Tw, part C: the operations. -/
namespace Tw
open PySem PySem.Spec PyProof.Rows L2

variable {G : Gx} {I I' I1 I2 H H' H1 H2 : Hp} {φ φ' φ1 φ2 : List Addr} {S S' : Sto} {K : PySem.W.Frag}

/-! ### what follows -/
def KE (G : Gx) (I : Hp) (φ : List Addr) (H : Hp) (S' : Sto) (w : W) (Q : VK) : Prop :=
  ∀ v I' φ' H', Ext I φ H I' φ' H' → Sim G I' φ' S' H' → Rel G I' φ' w v → Q v H'
def KF (G : Gx) (I : Hp) (φ : List Addr) (H : Hp) (S' : Sto) (xs : List W) (Q : VK) : Prop :=
  ∀ p us I' φ' H', Ext I φ H I' φ' H' → Sim G I' φ' S' H' → H' p = none → Rels G I' φ' xs us → us.length ≤ sizeLine → Q (.ref p) (upd H' p (.lst us))
theorem KE.here {w : W} {v : V} {Q : VK} (k : KE G I φ H S w Q) (s : Sim G I φ S H) (r : Rel G I φ w v) : Q v H := k v I φ H (Ext.refl _ _ _) s r
theorem KE.toKF {xs : List W} {Q : VK} (k : KE G I φ H S (.lst xs) Q) : KF G I φ H S xs Q := fun p us I' φ' H' e s hp r _ => by
  obtain ⟨s2, e2⟩ := s.newI (o := .lst us) hp
  exact k _ _ _ _ (e.trans e2) s2 ⟨p, us, rfl, .inl upd_same, r.mono e2.same e2.pre'⟩
theorem KF.here {xs : List W} {us : List V} {p : Addr} {Q : VK} (k : KF G I φ H S xs Q) (s : Sim G I φ S H) (hp : H p = none) (r : Rels G I φ xs us) (hl : us.length ≤ sizeLine) : Q (.ref p) (upd H p (.lst us)) := k p us I φ H (Ext.refl _ _ _) s hp r hl
theorem KE.tup {xs : List W} {us : List V} {p : Addr} {Q : VK} (k : KE G I φ H S (.tup xs) Q) (s : Sim G I φ S H) (hp : H p = none) (r : Rels G I φ xs us) : Q (.ref p) (upd H p (.tup us)) := by
  obtain ⟨s2, e2⟩ := s.newI (o := .tup us) hp
  exact k _ _ _ _ e2 s2 ⟨p, us, rfl, upd_same, r.mono e2.same e2.pre'⟩

/-! ### small things -/
theorem lim_ok {n : Nat} (h : n < LIM) : n < sizeLine := Nat.lt_of_lt_of_le h (by decide)
theorem rels1 {ws : List W} {x : V} (r : Rels G I φ ws [x]) : ∃ a, ws = [a] ∧ Rel G I φ a x := by
  cases ws with
  | nil => exact absurd (show [x] = [] from r) (by simp)
  | cons a r' =>
    obtain ⟨y, ys, e, h, t⟩ := r
    cases e
    cases r' with
    | nil => exact ⟨a, rfl, h⟩
    | cons b r'' => obtain ⟨_, _, e, _⟩ := t; cases e
theorem rels2 {ws : List W} {x y : V} (r : Rels G I φ ws [x, y]) : ∃ a b, ws = [a, b] ∧ Rel G I φ a x ∧ Rel G I φ b y := by
  cases ws with
  | nil => exact absurd (show [x, y] = [] from r) (by simp)
  | cons a r' =>
    obtain ⟨y, ys, e, h, t⟩ := r
    cases e
    obtain ⟨b, rfl, hb⟩ := rels1 t
    exact ⟨a, b, rfl, h, hb⟩
theorem rels3 {ws : List W} {x y z : V} (r : Rels G I φ ws [x, y, z]) : ∃ a b c, ws = [a, b, c] ∧ Rel G I φ a x ∧ Rel G I φ b y ∧ Rel G I φ c z := by
  cases ws with
  | nil => exact absurd (show [x, y, z] = [] from r) (by simp)
  | cons a r' =>
    obtain ⟨y, ys, e, h, t⟩ := r
    cases e
    obtain ⟨b, c, rfl, hb, hc⟩ := rels2 t
    exact ⟨a, b, c, rfl, h, hb, hc⟩
theorem rels0 {ws : List W} (r : Rels G I φ ws []) : ws = [] := by
  cases ws with
  | nil => rfl
  | cons a r' => obtain ⟨_, _, e, _⟩ := r; cases e
theorem rel_int {i : Int} {v : V} (r : Rel G I φ (.int i) v) : v = .int i := r
theorem sq_rd {a : Addr} {vs : List V} (h : Rd H a (.lst vs)) : SqL K H a vs := .inl h
theorem relsI : ∀ (ns : List Int), Rels G I φ (ns.map W.int) (ns.map V.int)
  | [] => rfl
  | _ :: ns => ⟨_, _, rfl, rfl, relsI ns⟩
/-- a list or tuple that is read -/
theorem seqRel {w : W} {v : V} {xs : List W} (hk : K = G.K) (s : Sim G I φ S H) (r : Rel G I φ w v) (e : seqOf S w = some xs) : ∃ a vs, v = .ref a ∧ (SqL K H a vs ∨ SqT K H a vs) ∧ Rels G I φ xs vs := by
  cases w with
  | lst ws =>
    obtain ⟨a, vs, rfl, h, q⟩ := r
    cases e
    exact ⟨a, vs, rfl, .inl (.inl (rd_mono s.same h)), q⟩
  | tup ws =>
    obtain ⟨a, vs, rfl, h, q⟩ := r
    cases e
    exact ⟨a, vs, rfl, .inr (.inl (.inl (s.same _ _ h))), q⟩
  | ref n =>
    obtain ⟨a, rfl, h⟩ := r
    cases hS : S[n]? with
    | none => simp [seqOf, hS] at e
    | some o =>
      cases o with
      | lst ws =>
        simp [seqOf, hS] at e
        subst e
        obtain ⟨vs, h1, h2⟩ := s.cell n a _ h hS
        exact ⟨a, vs, rfl, .inl (.inl (.inl h1)), h2⟩
      | _ => simp [seqOf, hS] at e
  | klst ns =>
    obtain ⟨a, rfl, h⟩ := r
    cases e
    subst hk
    exact ⟨a, _, rfl, .inl (s.same.seq h), relsI ns⟩
  | _ => simp [seqOf] at e
theorem lstRel {w : W} {v : V} {xs : List W} (s : Sim G I φ S H) (r : Rel G I φ w v) (e : lstOf S w = some xs) : ∃ a vs, v = .ref a ∧ SqL K H a vs ∧ Rels G I φ xs vs := by
  cases w with
  | lst ws =>
    obtain ⟨a, vs, rfl, h, q⟩ := r
    cases e
    exact ⟨a, vs, rfl, .inl (rd_mono s.same h), q⟩
  | ref n =>
    obtain ⟨a, rfl, h⟩ := r
    cases hS : S[n]? with
    | none => simp [lstOf, hS] at e
    | some o =>
      cases o with
      | lst ws =>
        simp [lstOf, hS] at e
        subst e
        obtain ⟨vs, h1, h2⟩ := s.cell n a _ h hS
        exact ⟨a, vs, rfl, .inl (.inl h1), h2⟩
      | _ => simp [lstOf, hS] at e
  | _ => simp [lstOf] at e
theorem dicRelK {w : W} {v : V} {ks vs : List W} (s : Sim G I φ S H) (r : Rel G I φ w v) (e : dicOf S w = some (false, ks, vs)) :
    ∃ a kvs, v = .ref a ∧ H a = some (.dK kvs) ∧ ks = kvs.map (fun p => kW p.1) ∧ Rels G I φ vs (kvs.map (·.2)) := by
  cases w with
  | dic t ks' vs' =>
    simp [dicOf] at e
    obtain ⟨rfl, rfl, rfl⟩ := e
    obtain ⟨a, kvs, rfl, h, k, q⟩ := r
    exact ⟨a, kvs, rfl, s.same _ _ h, k, q⟩
  | ref n =>
    obtain ⟨a, rfl, h⟩ := r
    cases hS : S[n]? with
    | none => simp [dicOf, hS] at e
    | some o =>
      cases o with
      | dic t ks' vs' =>
        simp [dicOf, hS] at e
        obtain ⟨rfl, rfl, rfl⟩ := e
        obtain ⟨kvs, h1, h2, h3⟩ := s.cell n a _ h hS
        exact ⟨a, kvs, rfl, h1, h2, h3⟩
      | _ => simp [dicOf, hS] at e
  | _ => simp [dicOf] at e
theorem dicRelT {w : W} {v : V} {ks vs : List W} (s : Sim G I φ S H) (r : Rel G I φ w v) (e : dicOf S w = some (true, ks, vs)) :
    ∃ a kvs, v = .ref a ∧ H a = some (.dT kvs) ∧ ks = kvs.map (fun p => .tup (p.1.map kW)) ∧ Rels G I φ vs (kvs.map (·.2)) := by
  cases w with
  | dic t ks' vs' =>
    simp [dicOf] at e
    obtain ⟨rfl, rfl, rfl⟩ := e
    obtain ⟨a, kvs, rfl, h, k, q⟩ := r
    exact ⟨a, kvs, rfl, s.same _ _ h, k, q⟩
  | ref n =>
    obtain ⟨a, rfl, h⟩ := r
    cases hS : S[n]? with
    | none => simp [dicOf, hS] at e
    | some o =>
      cases o with
      | dic t ks' vs' =>
        simp [dicOf, hS] at e
        obtain ⟨rfl, rfl, rfl⟩ := e
        obtain ⟨kvs, h1, h2, h3⟩ := s.cell n a _ h hS
        exact ⟨a, kvs, rfl, h1, h2, h3⟩
      | _ => simp [dicOf, hS] at e
  | _ => simp [dicOf] at e

/-! ### data -/
mutual
def toD : W → PyData
  | .bl b => .bool b
  | .int i => .int i
  | .str s => .str ⟨s.toArray⟩
  | .tup xs => .tuple (toDs xs)
  | .lst xs => .list (toDs xs)
  | _ => .none
def toDs : List W → List PyData
  | [] => []
  | x :: xs => toD x :: toDs xs
end
theorem toDs_map : ∀ xs : List W, toDs xs = xs.map toD
  | [] => rfl
  | x :: xs => by rw [toDs, List.map_cons, toDs_map xs]
mutual
theorem dat_lay : ∀ (n : Nat) (w : W), datW n w = true → (toD w).canLay0 = true ∧ (toD w).depth ≤ n
  | n, .non, _ => by simp [toD, PyData.canLay0, PyData.depth]
  | n, .bl _, _ => by simp [toD, PyData.canLay0, PyData.depth]
  | n, .int _, _ => by simp [toD, PyData.canLay0, PyData.depth]
  | n, .str s, h => by
    simp [datW] at h
    refine ⟨?_, by simp [toD, PyData.depth]⟩
    simp only [toD, PyData.canLay0, PyData.strOk]
    simp
    intro x hx
    have := h.1 x hx
    omega
  | 0, .lst xs, h => by simp [datW] at h
  | n + 1, .lst xs, h => by
    simp [datW] at h
    have := dat_layL n xs h
    simp only [toD, PyData.canLay0, PyData.depth]
    exact ⟨this.1, by omega⟩
  | 0, .tup xs, h => by simp [datW] at h
  | n + 1, .tup xs, h => by
    simp [datW] at h
    have := dat_layL n xs h
    simp only [toD, PyData.canLay0, PyData.depth]
    exact ⟨this.1, by omega⟩
  | n, .dic _ _ _, h => by simp [datW] at h
  | n, .rcd _ _, h => by simp [datW] at h
  | n, .ref _, h => by simp [datW] at h
  | n, .exn _, h => by simp [datW] at h
theorem dat_layL : ∀ (n : Nat) (xs : List W), datL n xs = true → PyData.canLayAll0 (toDs xs) = true ∧ PyData.depthAll (toDs xs) ≤ n
  | n, [], _ => by simp [toDs, PyData.canLayAll0, PyData.depthAll]
  | n, x :: xs, h => by
    simp [datL] at h
    have h1 := dat_lay n x h.1
    have h2 := dat_layL n xs h.2
    simp only [toDs, PyData.canLayAll0, PyData.depthAll, Bool.and_eq_true]
    exact ⟨⟨h1.1, h2.1⟩, by omega⟩
end
theorem dat_shaped {w : W} (h : datW 30 w = true) : SeqAt.shaped (toD w) = true := by
  obtain ⟨h1, h2⟩ := dat_lay 30 w h
  show ((toD w).canLay0 && decide ((toD w).depth ≤ 64)) = true
  rw [h1, decide_eq_true (by omega)]
  rfl
theorem datL_shaped {xs : List W} (h : datL 30 xs = true) : SeqAt.shaped (.list (toDs xs)) = true := by
  obtain ⟨h1, h2⟩ := dat_layL 30 xs h
  have e1 : PyData.canLay0 (.list (toDs xs)) = true := by simp only [PyData.canLay0]; exact h1
  have e2 : PyData.depth (.list (toDs xs)) ≤ 64 := by simp only [PyData.depth]; omega
  show (PyData.canLay0 (.list (toDs xs)) && decide (PyData.depth (.list (toDs xs)) ≤ 64)) = true
  rw [e1, decide_eq_true e2]
  rfl
mutual
theorem eqW_eqv : ∀ (n m : Nat) (x y : W), datW n x = true → datW m y = true → PyData.eqv (toD x) (toD y) = eqW x y
  | n, m, .non, y, _, h => by cases y <;> simp_all [toD, PyData.eqv, eqW, datW]
  | n, m, .bl a, y, _, h => by cases y <;> simp_all [toD, PyData.eqv, eqW, datW]
  | n, m, .int a, y, _, h => by cases y <;> simp_all [toD, PyData.eqv, eqW, datW]
  | n, m, .str a, y, _, h => by
    cases y <;> simp_all [toD, PyData.eqv, eqW, datW]
    rename_i b
    rw [Bool.eq_iff_iff]
    simp
  | n + 1, m + 1, .lst xs, .lst ys, h1, h2 => by
    simp [datW] at h1 h2
    simp only [toD, PyData.eqv, eqW]
    exact eqL_eqv n m xs ys h1 h2
  | n + 1, m + 1, .tup xs, .tup ys, h1, h2 => by
    simp [datW] at h1 h2
    simp only [toD, PyData.eqv, eqW]
    exact eqL_eqv n m xs ys h1 h2
  | 0, m, .lst xs, y, h, _ => by simp [datW] at h
  | 0, m, .tup xs, y, h, _ => by simp [datW] at h
  | n + 1, 0, .lst xs, y, _, h => by cases y <;> simp_all [toD, PyData.eqv, eqW, datW]
  | n + 1, 0, .tup xs, y, _, h => by cases y <;> simp_all [toD, PyData.eqv, eqW, datW]
  | n + 1, m + 1, .lst xs, .non, _, h => by simp [toD, PyData.eqv, eqW]
  | n + 1, m + 1, .lst xs, .bl _, _, h => by simp [toD, PyData.eqv, eqW]
  | n + 1, m + 1, .lst xs, .int _, _, h => by simp [toD, PyData.eqv, eqW]
  | n + 1, m + 1, .lst xs, .str _, _, h => by simp [toD, PyData.eqv, eqW]
  | n + 1, m + 1, .lst xs, .tup _, _, h => by simp [toD, PyData.eqv, eqW]
  | n + 1, m + 1, .lst xs, .dic _ _ _, _, h => by simp [datW] at h
  | n + 1, m + 1, .lst xs, .rcd _ _, _, h => by simp [datW] at h
  | n + 1, m + 1, .lst xs, .ref _, _, h => by simp [datW] at h
  | n + 1, m + 1, .lst xs, .exn _, _, h => by simp [datW] at h
  | n + 1, m + 1, .tup xs, .non, _, h => by simp [toD, PyData.eqv, eqW]
  | n + 1, m + 1, .tup xs, .bl _, _, h => by simp [toD, PyData.eqv, eqW]
  | n + 1, m + 1, .tup xs, .int _, _, h => by simp [toD, PyData.eqv, eqW]
  | n + 1, m + 1, .tup xs, .str _, _, h => by simp [toD, PyData.eqv, eqW]
  | n + 1, m + 1, .tup xs, .lst _, _, h => by simp [toD, PyData.eqv, eqW]
  | n + 1, m + 1, .tup xs, .dic _ _ _, _, h => by simp [datW] at h
  | n + 1, m + 1, .tup xs, .rcd _ _, _, h => by simp [datW] at h
  | n + 1, m + 1, .tup xs, .ref _, _, h => by simp [datW] at h
  | n + 1, m + 1, .tup xs, .exn _, _, h => by simp [datW] at h
  | n, m, .dic _ _ _, _, h, _ => by simp [datW] at h
  | n, m, .rcd _ _, _, h, _ => by simp [datW] at h
  | n, m, .ref _, _, h, _ => by simp [datW] at h
  | n, m, .exn _, _, h, _ => by simp [datW] at h
theorem eqL_eqv : ∀ (n m : Nat) (xs ys : List W), datL n xs = true → datL m ys = true → PyData.eqvAll (toDs xs) (toDs ys) = eqL xs ys
  | n, m, [], [], _, _ => by simp [toDs, PyData.eqvAll, eqL]
  | n, m, [], y :: ys, _, _ => by simp [toDs, PyData.eqvAll, eqL]
  | n, m, x :: xs, [], _, _ => by simp [toDs, PyData.eqvAll, eqL]
  | n, m, x :: xs, y :: ys, h1, h2 => by
    simp [datL] at h1 h2
    simp only [toDs, PyData.eqvAll, eqL]
    rw [eqW_eqv n m x y h1.1 h2.1, eqL_eqv n m xs ys h1.2 h2.2]
end

/-! ### the view is what is read -/
/-- what g tells of a cell is what stands there -/
def Tells (G : Gx) (K : PySem.W.Frag) (I : Hp) (φ : List Addr) (H : Hp) (g : Nat → Option W) : Prop :=
  ∀ n a w d, φ[n]? = some a → g n = some w → datW d w = true → Dp K H (.ref a) (toD w)
theorem dpAll_nil : DpAll K H [] (toDs []) := by rw [toDs]; exact .nil
mutual
theorem sub_dp (s : Same I H) {g : Nat → Option W} (T : Tells G K I φ H g) : ∀ (d : Nat) (w : W) (v : V) (w' : W), Rel G I φ w v → sub false g w = some w' → datW d w' = true → Dp K H v (toD w')
  | d, .non, v, w', r, e, _ => by simp [sub] at e; subst e; rw [show v = .non from r]; exact .non
  | d, .bl b, v, w', r, e, _ => by simp [sub] at e; subst e; rw [show v = .bl b from r]; exact .bl b
  | d, .int i, v, w', r, e, _ => by simp [sub] at e; subst e; rw [show v = .int i from r]; exact .int i
  | d, .str x, v, w', r, e, _ => by simp [sub] at e; subst e; rw [show v = .str ⟨x.toArray⟩ from r]; exact .str _
  | d, .tup xs, v, w', r, e, h => by
    simp [sub] at e
    obtain ⟨ys, e1, rfl⟩ := e
    obtain ⟨a, vs, rfl, ha, q⟩ := r
    cases d with
    | zero => simp [datW] at h
    | succ d =>
      simp [datW] at h
      rw [toD]
      exact .tup (.inl (.inl (s _ _ ha))) (sub_dpL s T d xs vs ys q e1 h)
  | d, .lst xs, v, w', r, e, h => by
    simp [sub] at e
    obtain ⟨ys, e1, rfl⟩ := e
    obtain ⟨a, vs, rfl, ha, q⟩ := r
    cases d with
    | zero => simp [datW] at h
    | succ d =>
      simp [datW] at h
      rw [toD]
      exact .lst (.inl (rd_mono s ha)) (sub_dpL s T d xs vs ys q e1 h)
  | d, .ref n, v, w', r, e, h => by
    simp [sub] at e
    obtain ⟨a, rfl, ha⟩ := r
    exact T n a w' d ha e h
  | d, .dic t ks vs, v, w', r, e, h => by
    simp [sub, Option.bind_eq_some_iff] at e
    obtain ⟨_, _, _, _, rfl⟩ := e
    simp [datW] at h
  | d, .rcd c xs, v, w', r, e, h => by
    simp [sub] at e
    obtain ⟨_, _, rfl⟩ := e
    simp [datW] at h
  | d, .exn c, v, w', r, e, h => r.elim
  | d, .klst ns, v, w', r, e, h => by
    simp [sub] at e
    subst e
    simp [datW] at h
theorem sub_dpL (s : Same I H) {g : Nat → Option W} (T : Tells G K I φ H g) : ∀ (d : Nat) (ws : List W) (vs : List V) (ws' : List W), Rels G I φ ws vs → subL false g ws = some ws' → datL d ws' = true → DpAll K H vs (toDs ws')
  | d, [], vs, ws', r, e, _ => by simp [subL] at e; subst e; rw [show vs = [] from r]; exact dpAll_nil
  | d, w :: ws, vs, ws', r, e, h => by
    simp [subL, Option.bind_eq_some_iff] at e
    obtain ⟨w', e1, ws'', e2, rfl⟩ := e
    obtain ⟨x, xs, rfl, q1, q2⟩ := r
    simp [datL] at h
    rw [toDs]
    exact .cons (sub_dp s T d w x w' q1 e1 h.1) (sub_dpL s T d ws xs ws'' q2 e2 h.2)
end
theorem tells_lev (s : Sim G I φ S H) : ∀ k, Tells G K I φ H (lev false S k)
  | 0 => fun n a w d _ e _ => by simp [lev] at e
  | k + 1 => fun n a w d ha e h => by
    simp only [lev, cellW] at e
    cases hS : S[n]? with
    | none => simp [hS] at e
    | some o =>
      rw [hS] at e
      cases o with
      | lst xs =>
        simp at e
        obtain ⟨ys, e1, rfl⟩ := e
        obtain ⟨vs, h1, h2⟩ := s.cell n a _ ha hS
        cases d with
        | zero => simp [datW] at h
        | succ d =>
          simp [datW] at h
          rw [toD]
          exact .lst (.inl (.inl h1)) (sub_dpL s.same (tells_lev s k) d xs vs ys h2 e1 h)
      | dic t ks vs =>
        simp [Option.bind_eq_some_iff] at e
        obtain ⟨_, _, _, _, rfl⟩ := e
        simp [datW] at h
      | ins c xs =>
        simp at e
        obtain ⟨_, _, rfl⟩ := e
        simp [datW] at h
      | dead => simp at e
theorem vw_dp (s : Sim G I φ S H) {d : Nat} {w w' : W} {v : V} (r : Rel G I φ w v) (e : vw S w = some w') (h : datW d w' = true) : Dp K H v (toD w') :=
  sub_dp s.same (tells_lev s 3) d w v w' r e h
theorem vws_dp (s : Sim G I φ S H) {d : Nat} {ws ws' : List W} {vs : List V} (r : Rels G I φ ws vs) (e : vws S ws = some ws') (h : datL d ws' = true) : DpAll K H vs (toDs ws') :=
  sub_dpL s.same (tells_lev s 3) d ws vs ws' r e h
end Tw

/-! Tw, part D: each operation keeps its promise. -/
namespace Tw
open PySem PySem.Spec PyProof.Rows L2

variable {G : Gx} {I I' I1 I2 H H' H1 H2 : Hp} {φ φ' φ1 φ2 : List Addr} {S S' : Sto} {K : PySem.W.Frag} {X : Cx}

def rOp (G : Gx) (o : Op) (vs : List V) (H : Hp) (Q : VK) : Prop :=
  ∃ I φ S ws w, Sim G I φ S H ∧ Rels G I φ ws vs ∧ opSem o ws S = some w ∧ KE G I φ H S w Q
/-- the same where a new list comes -/
def rFr (G : Gx) (o : Op) (vs : List V) (H : Hp) (Q : VK) : Prop :=
  ∃ I φ S ws xs, Sim G I φ S H ∧ Rels G I φ ws vs ∧ opSem o ws S = some (.lst xs) ∧ KF G I φ H S xs Q

/-! ### ints -/
theorem or_sub : OpR X (binaryOp .Sub) (fun x y => rOp G .sub [x, y]) := by
  rintro pins s σ H x y v u Q J rx ry ⟨I, φ, S, ws, w, sm, rs, e, k⟩
  obtain ⟨a, b, rfl, ra, rb⟩ := rels2 rs
  cases a <;> first | (cases e; done) | skip
  cases b <;> first | (cases e; done) | skip
  cases e
  obtain rfl := rel_int ra
  obtain rfl := rel_int rb
  exact op_sub pins s σ H _ _ v u Q J rx ry ⟨_, _, rfl, rfl, k.here sm rfl⟩
theorem or_mul : OpR X (binaryOp .Mult) (fun x y => rOp G .mul [x, y]) := by
  rintro pins s σ H x y v u Q J rx ry ⟨I, φ, S, ws, w, sm, rs, e, k⟩
  obtain ⟨a, b, rfl, ra, rb⟩ := rels2 rs
  cases a <;> first | (cases e; done) | skip
  cases b <;> first | (cases e; done) | skip
  rename_i i j
  obtain rfl := rel_int ra
  obtain rfl := rel_int rb
  simp only [opSem, opMul] at e
  split at e
  · rename_i hc
    cases e
    simp only [CMul, Bool.or_eq_true, Bool.and_eq_true, decide_eq_true_eq] at hc
    exact op_mul pins s σ H _ _ v u Q J rx ry ⟨_, _, rfl, rfl, hc, k.here sm rfl⟩
  · cases e
theorem or_fdiv : OpR X (binaryOp .FloorDiv) (fun x y => rOp G .fdiv [x, y]) := by
  rintro pins s σ H x y v u Q J rx ry ⟨I, φ, S, ws, w, sm, rs, e, k⟩
  obtain ⟨a, b, rfl, ra, rb⟩ := rels2 rs
  cases a <;> first | (cases e; done) | skip
  cases b <;> first | (cases e; done) | skip
  obtain rfl := rel_int ra
  obtain rfl := rel_int rb
  simp only [opSem] at e
  split at e
  · rename_i hc
    cases e
    simp only [Tw.CDiv, Bool.and_eq_true, decide_eq_true_eq] at hc
    exact op_fdiv pins s σ H _ _ v u Q J rx ry ⟨_, _, rfl, rfl, hc, k.here sm rfl⟩
  · cases e
theorem or_mod : OpR X (binaryOp .Mod) (fun x y => rOp G .mod [x, y]) := by
  rintro pins s σ H x y v u Q J rx ry ⟨I, φ, S, ws, w, sm, rs, e, k⟩
  obtain ⟨a, b, rfl, ra, rb⟩ := rels2 rs
  cases a <;> first | (cases e; done) | skip
  cases b <;> first | (cases e; done) | skip
  obtain rfl := rel_int ra
  obtain rfl := rel_int rb
  simp only [opSem] at e
  split at e
  · rename_i hc
    cases e
    exact op_mod pins s σ H _ _ v u Q J rx ry ⟨_, _, rfl, rfl, hc, k.here sm rfl⟩
  · cases e
theorem or_pow : OpR X (binaryOp .Pow) (fun x y => rOp G .pow [x, y]) := by
  rintro pins s σ H x y v u Q J rx ry ⟨I, φ, S, ws, w, sm, rs, e, k⟩
  obtain ⟨a, b, rfl, ra, rb⟩ := rels2 rs
  cases a <;> first | (cases e; done) | skip
  cases b <;> first | (cases e; done) | skip
  obtain rfl := rel_int ra
  obtain rfl := rel_int rb
  simp only [opSem] at e
  split at e
  · rename_i hc
    cases e
    simp only [Tw.CPow, Bool.and_eq_true, decide_eq_true_eq] at hc
    exact op_pow pins s σ H _ _ v u Q J rx ry ⟨_, _, rfl, rfl, ⟨hc.1.1, hc.1.2, hc.2⟩, k.here sm rfl⟩
  · cases e
theorem or_neg : UnR X (unaryOp .USub) (fun x => rOp G .neg [x]) := by
  rintro pins s σ H x v Q J rx ⟨I, φ, S, ws, w, sm, rs, e, k⟩
  obtain ⟨a, rfl, ra⟩ := rels1 rs
  cases a <;> first | (cases e; done) | skip
  cases e
  obtain rfl := rel_int ra
  exact un_neg pins s σ H _ v Q J rx ⟨_, rfl, k.here sm rfl⟩

/-! ### list + list, of lists that are read -/
theorem op_catL : OpR X (binaryOp .Add) (fun x y H Q => ∃ l b xs zs, x = .ref l ∧ y = .ref b ∧ SqL X.K H l xs ∧ SqL X.K H b zs ∧ (∃ o, H l = some (.lst o) ∨ ∃ q, H l = some (.frz q (.lst o))) ∧ (∃ o, H b = some (.lst o) ∨ ∃ q, H b = some (.frz q (.lst o))) ∧ xs.length + zs.length ≤ sizeLine ∧ ∀ p, H p = none → Q (.ref p) (upd H p (.lst (xs ++ zs)))) := by
  intro pins s σ H x y v u Q J rx ry h
  obtain ⟨l, b, xs, zs, rfl, rfl, hH, hB, hl, hb, hz, q⟩ := h
  cases rx
  cases ry
  have obj : ∀ {l : Addr} {xs : List V}, SqL X.K H l xs → (∃ o, H l = some (.lst o) ∨ ∃ q, H l = some (.frz q (.lst o))) → ∃ (its : List Value) (n : Nat), Vals xs its ∧ s.heap.get? l = some { cls := .type "list", data := .seq its.toArray n } := by
    intro l xs h1 ⟨o, h2⟩
    obtain ⟨its, rv, ⟨oo, n, e1, e2, e3, e4⟩, _⟩ := J.list h1
    have : ∃ (its' : List Value) (n' : Nat), s.heap.get? l = some { cls := .type "list", data := .seq its'.toArray n' } := by
      rcases h2 with h2 | ⟨qq, h2⟩
      · obtain ⟨_, its', n', _, e⟩ := J.hok l _ h2
        exact ⟨its', n', e⟩
      · obtain ⟨_, _, its', n', _, e⟩ := J.hok l _ h2
        exact ⟨its', n', e⟩
    obtain ⟨its', n', e⟩ := this
    rw [e] at e1
    cases e1
    simp only at e4
    injection e4 with e4 e5
    have : its' = its := by simpa using congrArg Array.toList e4
    subst this
    exact ⟨_, _, rv, e⟩
  obtain ⟨its, n, r, e⟩ := obj hH hl
  obtain ⟨its2, n2, r2, e2⟩ := obj hB hb
  have hl1 := r.length
  have hl2 := r2.length
  refine PySem.P.add_list e e2 ?_ (by rw [List.size_toArray, List.size_toArray]; omega)
  have ea : its.toArray ++ its2.toArray = (its ++ its2).toArray := by simp
  rw [ea]
  exact ⟨.ref _, _, J.lnew (t' := s.toks) (r.append r2) (by rw [List.length_append]; omega), rfl, q _ J.fresh⟩
theorem lstAt {w : W} {v : V} {xs : List W} (s : Sim G I φ S H) (r : Rel G I φ w v) (e : lstOf S w = some xs) : ∃ a vs, v = .ref a ∧ SqL K H a vs ∧ (∃ o, H a = some (.lst o) ∨ ∃ q, H a = some (.frz q (.lst o))) ∧ Rels G I φ xs vs := by
  cases w with
  | lst ws =>
    obtain ⟨a, vs, rfl, h, q⟩ := r
    cases e
    refine ⟨a, vs, rfl, .inl (rd_mono s.same h), ⟨vs, ?_⟩, q⟩
    rcases h with h | ⟨o, h⟩
    · exact .inl (s.same _ _ h)
    · exact .inr ⟨o, s.same _ _ h⟩
  | ref n =>
    obtain ⟨a, rfl, h⟩ := r
    cases hS : S[n]? with
    | none => simp [lstOf, hS] at e
    | some o =>
      cases o with
      | lst ws =>
        simp [lstOf, hS] at e
        subst e
        obtain ⟨vs, h1, h2⟩ := s.cell n a _ h hS
        exact ⟨a, vs, rfl, .inl (.inl h1), ⟨vs, .inl h1⟩, h2⟩
      | _ => simp [lstOf, hS] at e
  | _ => simp [lstOf] at e
theorem opAdd_cases {a b w : W} (e : opAdd S a b = some w) :
    (∃ i j, a = .int i ∧ b = .int j ∧ w = .int (i + j)) ∨ (∃ x y, a = .str x ∧ b = .str y ∧ x.length + y.length < LIM ∧ w = .str (x ++ y)) ∨
    ∃ xs ys, lstOf S a = some xs ∧ lstOf S b = some ys ∧ xs.length + ys.length < LIM ∧ w = .lst (xs ++ ys) := by
  unfold opAdd at e
  split at e
  · cases e; exact .inl ⟨_, _, rfl, rfl, rfl⟩
  · split at e
    · rename_i hl
      cases e; exact .inr (.inl ⟨_, _, rfl, rfl, hl, rfl⟩)
    · cases e
  · split at e
    · split at e
      · rename_i hl
        cases e
        rename_i h1 h2
        exact .inr (.inr ⟨_, _, h1, h2, hl, rfl⟩)
      · cases e
    · cases e
theorem or_addF : OpR X (binaryOp .Add) (fun x y => rFr G .add [x, y]) := by
  rintro pins s σ H x y v u Q J rx ry ⟨I, φ, S, ws, xs, sm, rs, e, k⟩
  obtain ⟨a, b, rfl, ra, rb⟩ := rels2 rs
  rcases opAdd_cases (show opAdd S a b = some _ from e) with ⟨i, j, _, _, z⟩ | ⟨i, j, _, _, _, z⟩ | ⟨as, bs, h1, h2, hl, z⟩
  · cases z
  · cases z
  · cases z
    obtain ⟨p, vs, rfl, s1, o1, r1⟩ := lstAt (K := X.K) sm ra h1
    obtain ⟨q, us, rfl, s2, o2, r2⟩ := lstAt (K := X.K) sm rb h2
    have l1 := r1.length
    have l2 := r2.length
    have := lim_ok hl
    exact op_catL pins s σ H _ _ v u Q J rx ry ⟨p, q, vs, us, rfl, rfl, s1, s2, o1, o2, by omega, fun p hp => k.here sm hp (r1.append r2) (by rw [List.length_append]; omega)⟩
theorem or_add : OpR X (binaryOp .Add) (fun x y => rOp G .add [x, y]) := by
  rintro pins s σ H x y v u Q J rx ry ⟨I, φ, S, ws, w, sm, rs, e, k⟩
  obtain ⟨a, b, rfl, ra, rb⟩ := rels2 rs
  rcases opAdd_cases (show opAdd S a b = some _ from e) with ⟨i, j, rfl, rfl, rfl⟩ | ⟨i, j, rfl, rfl, hl, rfl⟩ | ⟨as, bs, h1, h2, hl, rfl⟩
  · obtain rfl := rel_int ra
    obtain rfl := rel_int rb
    exact op_add pins s σ H _ _ v u Q J rx ry ⟨_, _, rfl, rfl, k.here sm rfl⟩
  · obtain rfl : x = .str ⟨i.toArray⟩ := ra
    obtain rfl : y = .str ⟨j.toArray⟩ := rb
    refine op_add_str pins s σ H _ _ v u Q J rx ry ⟨_, _, rfl, rfl, ?_, k.here sm ?_⟩
    · show i.toArray.size + j.toArray.size ≤ sizeLine
      simp only [List.size_toArray]
      exact Nat.le_of_lt (lim_ok hl)
    · show V.str _ = V.str _
      congr 1
      show Str.append _ _ = _
      simp [Str.append]
  · exact or_addF pins s σ H x y v u Q J rx ry ⟨I, φ, S, _, _, sm, rs, e, k.toKF⟩

/-! ### == and != -/
theorem eqOp_cases {a b : W} {r : Bool} (e : eqOp S a b = some r) :
    (∃ x y, a = .str x ∧ b = .str y ∧ r = (x == y)) ∨ (∃ i j, a = .int i ∧ b = .int j ∧ r = (i == j)) ∨ (∃ i j, a = .bl i ∧ b = .bl j ∧ r = (i == j)) ∨
    ∃ x y, vw S a = some x ∧ vw S b = some y ∧ datW 30 x = true ∧ datW 30 y = true ∧ r = eqW x y := by
  unfold eqOp at e
  split at e
  · cases e; exact .inl ⟨_, _, rfl, rfl, rfl⟩
  · cases e; exact .inr (.inl ⟨_, _, rfl, rfl, rfl⟩)
  · cases e; exact .inr (.inr (.inl ⟨_, _, rfl, rfl, rfl⟩))
  · simp only [Option.bind_eq_some_iff] at e
    obtain ⟨x, h1, y, h2, e⟩ := e
    split at e
    · rename_i hc
      cases e
      simp only [Bool.and_eq_true] at hc
      exact .inr (.inr (.inr ⟨x, y, h1, h2, hc.1, hc.2, rfl⟩))
    · cases e
theorem str_beq (x y : List Nat) : decide (V.str ⟨x.toArray⟩ = V.str ⟨y.toArray⟩) = (x == y) := by
  rw [Bool.eq_iff_iff]
  simp
theorem int_beq (x y : Int) : decide (V.int x = V.int y) = (x == y) := by
  rw [Bool.eq_iff_iff]
  simp
theorem bl_beq (x y : Bool) : decide (V.bl x = V.bl y) = (x == y) := by
  rw [Bool.eq_iff_iff]
  simp
theorem or_eq (hu : X.A.units + 64 < cLine) : OpR X (compareOp .Eq) (fun x y => rOp G .eq [x, y]) := by
  rintro pins s σ H x y v u Q J rx ry ⟨I, φ, S, ws, w, sm, rs, e, k⟩
  obtain ⟨a, b, rfl, ra, rb⟩ := rels2 rs
  simp only [opSem, Option.map_eq_some_iff] at e
  obtain ⟨r, e, rfl⟩ := e
  have fin : Q (.bl r) H := k.here sm rfl
  rcases eqOp_cases e with ⟨i, j, rfl, rfl, rfl⟩ | ⟨i, j, rfl, rfl, rfl⟩ | ⟨i, j, rfl, rfl, rfl⟩ | ⟨x', y', h1, h2, d1, d2, rfl⟩
  · obtain rfl : x = .str ⟨i.toArray⟩ := ra
    obtain rfl : y = .str ⟨j.toArray⟩ := rb
    exact op_eq pins s σ H _ _ v u Q J rx ry ⟨rfl, by rw [str_beq]; exact fin⟩
  · obtain rfl := rel_int ra
    obtain rfl := rel_int rb
    exact op_eq pins s σ H _ _ v u Q J rx ry ⟨rfl, by rw [int_beq]; exact fin⟩
  · obtain rfl : x = .bl i := ra
    obtain rfl : y = .bl j := rb
    exact op_eq pins s σ H _ _ v u Q J rx ry ⟨rfl, by rw [bl_beq]; exact fin⟩
  · refine op_eqD hu pins s σ H x y v u Q J rx ry ⟨toD x', toD y', vw_dp sm ra h1 d1, vw_dp sm rb h2 d2, dat_shaped d1, dat_shaped d2, ?_⟩
    rw [eqW_eqv 30 30 x' y' d1 d2]
    exact fin
theorem or_ne (hu : X.A.units + 64 < cLine) : OpR X (compareOp .NotEq) (fun x y => rOp G .ne [x, y]) := by
  rintro pins s σ H x y v u Q J rx ry ⟨I, φ, S, ws, w, sm, rs, e, k⟩
  obtain ⟨a, b, rfl, ra, rb⟩ := rels2 rs
  simp only [opSem, Option.map_eq_some_iff] at e
  obtain ⟨r, e, rfl⟩ := e
  have fin : Q (.bl (!r)) H := k.here sm rfl
  rcases eqOp_cases e with ⟨i, j, rfl, rfl, rfl⟩ | ⟨i, j, rfl, rfl, rfl⟩ | ⟨i, j, rfl, rfl, rfl⟩ | ⟨x', y', h1, h2, d1, d2, rfl⟩
  · obtain rfl : x = .str ⟨i.toArray⟩ := ra
    obtain rfl : y = .str ⟨j.toArray⟩ := rb
    exact op_ne pins s σ H _ _ v u Q J rx ry ⟨rfl, by rw [str_beq]; exact fin⟩
  · obtain rfl := rel_int ra
    obtain rfl := rel_int rb
    exact op_ne pins s σ H _ _ v u Q J rx ry ⟨rfl, by rw [int_beq]; exact fin⟩
  · obtain rfl : x = .bl i := ra
    obtain rfl : y = .bl j := rb
    exact op_ne pins s σ H _ _ v u Q J rx ry ⟨rfl, by rw [bl_beq]; exact fin⟩
  · refine op_neD hu pins s σ H x y v u Q J rx ry ⟨toD x', toD y', vw_dp sm ra h1 d1, vw_dp sm rb h2 d2, dat_shaped d1, dat_shaped d2, ?_⟩
    rw [eqW_eqv 30 30 x' y' d1 d2]
    exact fin

/-! ### < -/
mutual
theorem alike_toD : ∀ (x y : W), alikeW x y = true → PySem.W.alike (toD x) (toD y) = true
  | .non, y, h => by cases y <;> simp_all [alikeW, toD, PySem.W.alike]
  | .bl _, y, h => by cases y <;> simp_all [alikeW, toD, PySem.W.alike]
  | .int _, y, h => by cases y <;> simp_all [alikeW, toD, PySem.W.alike]
  | .str _, y, h => by cases y <;> simp_all [alikeW, toD, PySem.W.alike]
  | .lst xs, y, h => by
    cases y with
    | lst ys =>
      simp only [toD, PySem.W.alike]
      exact alike_toDs xs ys (by simpa [alikeW] using h)
    | _ => simp [alikeW] at h
  | .tup xs, y, h => by
    cases y with
    | tup ys =>
      simp only [toD, PySem.W.alike]
      exact alike_toDs xs ys (by simpa [alikeW] using h)
    | _ => simp [alikeW] at h
  | .dic _ _ _, y, h => by simp [alikeW] at h
  | .rcd _ _, y, h => by simp [alikeW] at h
  | .ref _, y, h => by simp [alikeW] at h
  | .exn _, y, h => by simp [alikeW] at h
theorem alike_toDs : ∀ (xs ys : List W), alikeL xs ys = true → PySem.W.alikeAll (toDs xs) (toDs ys) = true
  | [], ys, _ => by cases ys <;> simp [toDs, PySem.W.alikeAll]
  | x :: xs, [], _ => by simp [toDs, PySem.W.alikeAll]
  | x :: xs, y :: ys, h => by
    simp only [alikeL, Bool.and_eq_true] at h
    simp only [toDs, PySem.W.alikeAll, alike_toD x y h.1, alike_toDs xs ys h.2, Bool.and_self]
end
theorem eqW_alike {n m : Nat} {x y : W} (h1 : datW n x = true) (h2 : datW m y = true) : PyData.eqv (toD x) (toD y) = eqW x y := eqW_eqv n m x y h1 h2
mutual
theorem lt_toD : ∀ (n m : Nat) (x y : W), datW n x = true → datW m y = true → alikeW x y = true → PySem.W.dataLt (toD x) (toD y) = ltW x y
  | n, m, .non, y, _, _, h => by
    cases y with
    | non => simp only [toD, ltW]; rfl
    | _ => simp [alikeW] at h
  | n, m, .bl a, y, _, _, h => by
    cases y with
    | bl b => simp only [toD, ltW, PySem.W.dataLt_bool]; cases a <;> cases b <;> rfl
    | _ => simp [alikeW] at h
  | n, m, .int a, y, _, _, h => by
    cases y with
    | int b => simp only [toD, ltW, PySem.W.dataLt_int]
    | _ => simp [alikeW] at h
  | n, m, .str a, y, _, _, h => by
    cases y with
    | str b => simp only [toD, ltW, PySem.W.dataLt_str]
    | _ => simp [alikeW] at h
  | 0, m, .lst xs, y, h, _, _ => by simp [datW] at h
  | 0, m, .tup xs, y, h, _, _ => by simp [datW] at h
  | n + 1, m, .lst xs, y, h1, h2, h => by
    cases y with
    | lst ys =>
      cases m with
      | zero => simp [datW] at h2
      | succ m =>
        simp only [toD, ltW, PySem.W.dataLt_list]
        exact lt_toDs n m xs ys (by simpa [datW] using h1) (by simpa [datW] using h2) (by simpa [alikeW] using h)
    | _ => simp [alikeW] at h
  | n + 1, m, .tup xs, y, h1, h2, h => by
    cases y with
    | tup ys =>
      cases m with
      | zero => simp [datW] at h2
      | succ m =>
        simp only [toD, ltW, PySem.W.dataLt_tuple]
        exact lt_toDs n m xs ys (by simpa [datW] using h1) (by simpa [datW] using h2) (by simpa [alikeW] using h)
    | _ => simp [alikeW] at h
  | n, m, .dic _ _ _, y, h, _, _ => by simp [datW] at h
  | n, m, .rcd _ _, y, h, _, _ => by simp [datW] at h
  | n, m, .ref _, y, h, _, _ => by simp [datW] at h
  | n, m, .exn _, y, h, _, _ => by simp [datW] at h
theorem lt_toDs : ∀ (n m : Nat) (xs ys : List W), datL n xs = true → datL m ys = true → alikeL xs ys = true → PyProof.Rows.lexLt itemOrd (PySem.W.keyToksAll (toDs xs)) (PySem.W.keyToksAll (toDs ys)) = ltL xs ys
  | n, m, [], [], _, _, _ => by
    simp only [toDs, ltL, PySem.W.keyToksAll]
    exact lex_irrefl _
  | n, m, [], y :: ys, _, _, _ => by
    simp only [toDs, ltL]
    rw [PySem.W.toks_all_cons]
    simp only [PySem.W.keyToksAll]
    rw [lex_diff (O := itemOrd) (by simp)]
    simp [itemLt]
  | n, m, x :: xs, [], _, _, _ => by
    simp only [toDs, ltL]
    rw [PySem.W.toks_all_cons]
    simp only [PySem.W.keyToksAll]
    rw [lex_diff (O := itemOrd) (by simp)]
    simp [itemLt]
  | n, m, x :: xs, y :: ys, h1, h2, h => by
    simp only [alikeL, Bool.and_eq_true] at h
    simp only [datL, Bool.and_eq_true] at h1 h2
    simp only [toDs, ltL]
    have ha := alike_toD x y h.1
    have he := eqW_eqv n m x y h1.1 h2.1
    cases hq : eqW x y with
    | true =>
      rw [hq] at he
      rw [PySem.W.dataLt_all_yes ha he, if_pos rfl]
      exact lt_toDs n m xs ys h1.2 h2.2 h.2
    | false =>
      rw [hq] at he
      rw [PySem.W.dataLt_all_no ha he, if_neg (by simp)]
      exact lt_toD n m x y h1.1 h2.1 h.1
end
theorem or_lt (hu : X.A.units + 64 < cLine) : OpR X (compareOp .Lt) (fun x y => rOp G .lt [x, y]) := by
  rintro pins s σ H x y v u Q J rx ry ⟨I, φ, S, ws, w, sm, rs, e, k⟩
  obtain ⟨a, b, rfl, ra, rb⟩ := rels2 rs
  have main : (∃ i j, a = .int i ∧ b = .int j ∧ w = .bl (decide (i < j))) ∨ (ltOp S a b).map .bl = some w := by
    have e' : (ltSem S a b).map W.bl = some w := e
    unfold ltSem at e'
    split at e'
    · cases e'; exact .inl ⟨_, _, rfl, rfl, rfl⟩
    · exact .inr e'
  clear e
  rcases main with ⟨i, j, rfl, rfl, rfl⟩ | e
  · obtain rfl := rel_int ra
    obtain rfl := rel_int rb
    exact op_lt pins s σ H _ _ v u Q J rx ry ⟨_, _, rfl, rfl, k.here sm rfl⟩
  · simp only [Option.map_eq_some_iff, ltOp, Option.bind_eq_some_iff] at e
    obtain ⟨r, ⟨x', h1, y', h2, e⟩, rfl⟩ := e
    split at e
    · rename_i hc
      cases e
      simp only [Bool.and_eq_true] at hc
      obtain ⟨⟨⟨d1, d2⟩, al⟩, nn⟩ := hc
      obtain ⟨as, r1⟩ := Dp.reads J _ x v (vw_dp sm ra h1 d1) rx
      obtain ⟨bs, r2⟩ := Dp.reads J _ y u (vw_dp sm rb h2 d2) ry
      have dp := (dat_lay 30 x' d1).2
      have hroom : X.A.units + min (toD x').depth (toD y').depth < cLine := by
        have := Nat.min_le_left (toD x').depth (toD y').depth
        omega
      have hnn : toD x' ≠ .none := by
        cases x' <;> simp_all [toD, notNone, datW]
      have := PySem.W.rcLt_alike _ _ X.A s v u as bs r1 r2 (alike_toD x' y' al) hnn hroom X.prog X.w X.xe (EP X pins σ Q)
      rw [lt_toD 30 30 x' y' d1 d2 al] at this
      exact this ⟨.bl _, H, J, rfl, k.here sm rfl⟩
    · cases e
end Tw

/-! Tw, part E: more operations. -/
namespace Tw
open PySem PySem.Spec PyProof.Rows L2

variable {G : Gx} {I I' I1 I2 H H' H1 H2 : Hp} {φ φ' φ1 φ2 : List Addr} {S S' : Sto} {K : PySem.W.Frag} {X : Cx}

theorem or_le : OpR X (compareOp .LtE) (fun x y => rOp G .le [x, y]) := by
  rintro pins s σ H x y v u Q J rx ry ⟨I, φ, S, ws, w, sm, rs, e, k⟩
  obtain ⟨a, b, rfl, ra, rb⟩ := rels2 rs
  cases a <;> first | (cases e; done) | skip
  cases b <;> first | (cases e; done) | skip
  cases e
  obtain rfl := rel_int ra
  obtain rfl := rel_int rb
  exact op_le pins s σ H _ _ v u Q J rx ry ⟨_, _, rfl, rfl, k.here sm rfl⟩
theorem or_gt : OpR X (compareOp .Gt) (fun x y => rOp G .gt [x, y]) := by
  rintro pins s σ H x y v u Q J rx ry ⟨I, φ, S, ws, w, sm, rs, e, k⟩
  obtain ⟨a, b, rfl, ra, rb⟩ := rels2 rs
  cases a <;> first | (cases e; done) | skip
  cases b <;> first | (cases e; done) | skip
  cases e
  obtain rfl := rel_int ra
  obtain rfl := rel_int rb
  exact op_gt pins s σ H _ _ v u Q J rx ry ⟨_, _, rfl, rfl, k.here sm rfl⟩
theorem or_ge : OpR X (compareOp .GtE) (fun x y => rOp G .ge [x, y]) := by
  rintro pins s σ H x y v u Q J rx ry ⟨I, φ, S, ws, w, sm, rs, e, k⟩
  obtain ⟨a, b, rfl, ra, rb⟩ := rels2 rs
  cases a <;> first | (cases e; done) | skip
  cases b <;> first | (cases e; done) | skip
  cases e
  obtain rfl := rel_int ra
  obtain rfl := rel_int rb
  exact op_ge pins s σ H _ _ v u Q J rx ry ⟨_, _, rfl, rfl, k.here sm rfl⟩
theorem rel_non {w : W} {v : V} (r : Rel G I φ w v) : decide (v = .non) = !notNone w := by
  cases w with
  | non => obtain rfl : v = .non := r; rfl
  | bl b => obtain rfl : v = .bl b := r; rfl
  | int b => obtain rfl : v = .int b := r; rfl
  | str b => obtain rfl : v = .str _ := r; rfl
  | tup _ => obtain ⟨a, _, rfl, _⟩ := r; rfl
  | lst _ => obtain ⟨a, _, rfl, _⟩ := r; rfl
  | dic t _ _ => cases t <;> (obtain ⟨a, _, rfl, _⟩ := r; rfl)
  | rcd _ _ => obtain ⟨a, _, _, rfl, _⟩ := r; rfl
  | ref _ => obtain ⟨a, rfl, _⟩ := r; rfl
  | exn _ => exact r.elim
  | klst _ => obtain ⟨a, rfl, _⟩ := r; rfl
theorem or_isnone : OpR X (compareOp .Is) (fun x y H Q => y = .non ∧ rOp G .isnone [x] H Q) := by
  rintro pins s σ H x y v u Q J rx ry ⟨rfl, I, φ, S, ws, w, sm, rs, e, k⟩
  obtain ⟨a, rfl, ra⟩ := rels1 rs
  refine op_isN pins s σ H _ _ v u Q J rx ry ⟨rfl, ?_⟩
  rw [rel_non ra]
  cases e
  exact k.here sm rfl
theorem or_notnone : OpR X (compareOp .IsNot) (fun x y H Q => y = .non ∧ rOp G .notnone [x] H Q) := by
  rintro pins s σ H x y v u Q J rx ry ⟨rfl, I, φ, S, ws, w, sm, rs, e, k⟩
  obtain ⟨a, rfl, ra⟩ := rels1 rs
  refine op_notN pins s σ H _ _ v u Q J rx ry ⟨rfl, ?_⟩
  rw [rel_non ra, Bool.not_not]
  cases e
  exact k.here sm rfl

/-! ### keys of dicts -/
theorem eqW_kW (a b : Key) : eqW (kW a) (kW b) = decide (a = b) := by
  cases a with
  | inl i => cases b with
    | inl j => simp only [kW, eqW]; rw [key_ll]
    | inr y => simp only [kW, eqW]; rw [key_lr]
  | inr x => cases b with
    | inl j => simp only [kW, eqW]; rw [key_rl]
    | inr y =>
      simp only [kW, eqW]
      rw [key_rr, Bool.eq_iff_iff]
      obtain ⟨x⟩ := x
      obtain ⟨y⟩ := y
      simp [Array.toList_inj]
theorem eqL_kW : ∀ (a b : List Key), eqL (a.map kW) (b.map kW) = decide (a = b)
  | [], [] => by simp [eqL]
  | [], _ :: _ => by simp [eqL]
  | _ :: _, [] => by simp [eqL]
  | x :: a, y :: b => by
    simp only [List.map_cons, eqL]
    rw [eqW_kW, eqL_kW a b, Bool.eq_iff_iff]
    simp
theorem key_one {w : W} {v : V} (r : Rel G I φ w v) (h : key1 w = true) : ∃ k : Key, w = kW k ∧ v = kV k := by
  cases w <;> first | (simp [key1] at h; done) | skip
  · rename_i i; exact ⟨.inl i, rfl, r⟩
  · rename_i s; exact ⟨.inr ⟨s.toArray⟩, rfl, r⟩
theorem key_all : ∀ {ws : List W} {vs : List V}, Rels G I φ ws vs → ws.all key1 = true → ∃ ks : List Key, ws = ks.map kW ∧ vs = ks.map kV
  | [], _, r, _ => ⟨[], rfl, r⟩
  | w :: ws, _, ⟨x, xs, e, h, r⟩, f => by
    simp only [List.all_cons, Bool.and_eq_true] at f
    obtain ⟨k, rfl, rfl⟩ := key_one h f.1
    obtain ⟨ks, rfl, rfl⟩ := key_all r f.2
    exact ⟨k :: ks, rfl, e⟩
theorem keyF {w : W} {v : V} (r : Rel G I φ w v) (h : isKey false w = true) : ∃ k : Key, w = kW k ∧ v = kV k := by
  cases w <;> first | (simp [isKey, key1] at h; done) | skip
  · rename_i i; exact ⟨.inl i, rfl, r⟩
  · rename_i s; exact ⟨.inr ⟨s.toArray⟩, rfl, r⟩
theorem keyT {w : W} {v : V} (r : Rel G I φ w v) (h : isKey true w = true) : ∃ (k : List Key) (a : Addr), w = .tup (k.map kW) ∧ v = .ref a ∧ I a = some (.tup (k.map kV)) := by
  cases w <;> first | (simp [isKey, key1] at h; done) | skip
  rename_i xs
  simp [isKey] at h
  obtain ⟨a, vs, rfl, ha, q⟩ := r
  obtain ⟨ks, rfl, rfl⟩ := key_all q (by simpa using h)
  exact ⟨ks, a, rfl, rfl, ha⟩
section
variable {κ : Type} [DecidableEq κ]
theorem dget_val (f : κ → W) (hf : ∀ a b, eqW (f a) (f b) = decide (a = b)) (k : κ) : ∀ {kvs : List (κ × V)} {vs : List W}, Rels G I φ vs (kvs.map (·.2)) →
    match dget (kvs.map fun p => f p.1) vs (f k) with
    | some w => ∃ v, valV kvs k = some v ∧ Rel G I φ w v
    | none => valV kvs k = none
  | [], vs, r => by
    have : vs = [] := rels0 r
    subst this
    simp [dget, valV]
  | p :: kvs, [], r => by
    have := r.length
    simp at this
  | p :: kvs, v :: vs, r => by
    obtain ⟨x, xs, e, h, t⟩ := r
    simp only [List.map_cons, List.cons.injEq] at e
    obtain ⟨e1, e2⟩ := e
    subst e2
    simp only [List.map_cons, dget]
    rw [hf]
    by_cases hk : p.1 = k
    · rw [if_pos (decide_eq_true hk)]
      exact ⟨p.2, valV_pos hk, e1 ▸ h⟩
    · rw [if_neg (by simpa using hk), valV_neg hk]
      exact dget_val f hf k t
theorem dhas_val (f : κ → W) (hf : ∀ a b, eqW (f a) (f b) = decide (a = b)) (k : κ) (kvs : List (κ × V)) : dhas (kvs.map fun p => f p.1) (f k) = (valV kvs k).isSome := by
  rw [← valV_any k kvs]
  unfold dhas
  rw [List.any_map]
  congr 1
  funext p
  exact hf _ _
end
theorem hfK : ∀ a b : Key, eqW (kW a) (kW b) = decide (a = b) := eqW_kW
theorem hfT : ∀ a b : List Key, eqW (.tup (a.map kW)) (.tup (b.map kW)) = decide (a = b) := fun a b => by rw [eqW]; exact eqL_kW a b
/-- what the dict holds -/
theorem dget_rel {w x : W} {v y : V} {t : Bool} {ks vs : List W} (s : Sim G I φ S H) (r : Rel G I φ w v) (e : dicOf S w = some (t, ks, vs)) (rk : Rel G I φ x y) (hk : isKey t x = true) :
    ∃ a o, v = .ref a ∧ DGet H a y o ∧ (dhas ks x = o.isSome) ∧ match dget ks vs x with
      | some z => ∃ u, o = some u ∧ Rel G I φ z u
      | none => o = none := by
  cases t with
  | false =>
    obtain ⟨a, kvs, rfl, ha, rfl, rv⟩ := dicRelK s r e
    obtain ⟨k, rfl, rfl⟩ := keyF rk hk
    exact ⟨a, _, rfl, .k ha, dhas_val kW hfK k kvs, dget_val kW hfK k rv⟩
  | true =>
    obtain ⟨a, kvs, rfl, ha, rfl, rv⟩ := dicRelT s r e
    obtain ⟨k, b, rfl, rfl, hb⟩ := keyT rk hk
    exact ⟨a, _, rfl, .t ha (s.same _ _ hb), dhas_val (fun k => .tup (k.map kW)) hfT k kvs, dget_val (fun k => .tup (k.map kW)) hfT k rv⟩

/-! ### in -/
theorem flat_rel {w : W} {v : V} (r : Rel G I φ w v) (h : flatW w = true) : flatV v = true := by
  cases w <;> first | (simp [flatW] at h; done) | (rw [show v = _ from r]; rfl)
theorem flat_all : ∀ {ws : List W} {vs : List V}, Rels G I φ ws vs → ws.all flatW = true → vs.all flatV = true
  | [], _, r, _ => by rw [show _ = [] from r]; rfl
  | w :: ws, _, ⟨x, xs, e, h, r⟩, f => by
    simp only [List.all_cons, Bool.and_eq_true] at f
    subst e
    simp only [List.all_cons, Bool.and_eq_true]
    exact ⟨flat_rel h f.1, flat_all r f.2⟩
theorem eq_flat {w u : W} {v x : V} (r : Rel G I φ w v) (q : Rel G I φ u x) (h : flatW w = true) (h' : flatW u = true) : eqV v x = eqW w u := by
  cases w <;> first | (simp [flatW] at h; done) | skip
  all_goals (rw [show v = _ from r])
  all_goals (cases u <;> first | (simp [flatW] at h'; done) | skip)
  all_goals (rw [show x = _ from q])
  all_goals first | rfl | skip
  rename_i a b
  simp only [eqV, eqW]
  rw [Bool.eq_iff_iff]
  simp
theorem any_flat {u : W} {x : V} (q : Rel G I φ u x) (h' : flatW u = true) : ∀ {ws : List W} {vs : List V}, Rels G I φ ws vs → ws.all flatW = true → (vs.any fun y => eqV y x) = ws.any fun z => eqW z u
  | [], _, r, _ => by rw [show _ = [] from r]; rfl
  | w :: ws, _, ⟨y, ys, e, h, r⟩, f => by
    simp only [List.all_cons, Bool.and_eq_true] at f
    subst e
    simp only [List.any_cons]
    rw [eq_flat h q f.1 h', any_flat q h' r f.2]
theorem any_eqv {x' : W} (d1 : datW 30 x' = true) : ∀ {ys : List W} {n : Nat}, datL n ys = true → ((toDs ys).any fun z => PyData.eqv z (toD x')) = ys.any fun z => eqW z x'
  | [], _, _ => by rw [toDs]; rfl
  | y :: ys, n, h => by
    simp only [datL, Bool.and_eq_true] at h
    rw [toDs, List.any_cons, List.any_cons, eqW_eqv n 30 y x' h.1 d1, any_eqv d1 h.2]
/-- the three ways in which in is asked -/
theorem inOp_ok {x y : W} {v u : V} {r : Bool} (s : Sim G I φ S H) (rx : Rel G I φ x v) (ry : Rel G I φ y u) (e : inOp S x y = some r) :
    (∃ (c : Nat) (z : Str), v = .str ⟨#[c]⟩ ∧ u = .str z ∧ r = decide (c ∈ z.cps.toList)) ∨ (∃ a o, u = .ref a ∧ DGet H a v o ∧ r = o.isSome) ∨
    (∃ d ds, Dp K H v d ∧ Dp K H u (.list ds) ∧ SeqAt.shaped d = true ∧ SeqAt.shaped (.list ds) = true ∧ r = ds.any fun z => PyData.eqv z d) ∨
    (∃ p xs, u = .ref p ∧ (SqL K H p xs ∨ SqT K H p xs) ∧ flatV v = true ∧ xs.all flatV = true ∧ r = inV v xs) := by
  unfold inOp at e
  split at e
  · rename_i b
    split at e
    · rename_i c
      cases e
      refine .inl ⟨c, ⟨b.toArray⟩, rx, ry, ?_⟩
      rw [Bool.eq_iff_iff]
      simp
    · cases e
  · split at e
    · rename_i t ks vs hd
      split at e
      · rename_i hk
        cases e
        obtain ⟨a, o, rfl, g, h, _⟩ := dget_rel s ry hd rx hk
        exact .inr (.inl ⟨a, o, rfl, g, h⟩)
      · cases e
    · split at e
      · rename_i ys hl
        simp only [Option.bind_eq_some_iff] at e
        obtain ⟨x', h1, ys', h2, e⟩ := e
        split at e
        · rename_i hc
          cases e
          simp only [Bool.and_eq_true] at hc
          obtain ⟨a, vs, rfl, sq, rs⟩ := lstRel (K := K) s ry hl
          have dl : datL 30 ys' = true → SeqAt.shaped (.list (toDs ys')) = true := datL_shaped
          have mono : ∀ (n : Nat), datL n ys' = true → datL (n + 1) ys' = true := by
            intro n hn
            exact (datL_mono n ys' hn)
          refine .inr (.inr (.inl ⟨toD x', toDs ys', vw_dp s rx h1 hc.1, .lst sq (vws_dp s rs h2 hc.2), dat_shaped hc.1, datL_shaped (mono 29 hc.2), ?_⟩))
          exact (any_eqv hc.1 hc.2).symm
        · cases e
      · split at e
        · rename_i ys
          split at e
          · rename_i hc
            cases e
            simp only [Bool.and_eq_true] at hc
            obtain ⟨a, vs, rfl, ha, rs⟩ := ry
            refine .inr (.inr (.inr ⟨a, vs, rfl, .inr (.inl (.inl (s.same _ _ ha))), flat_rel rx hc.1, flat_all rs hc.2, ?_⟩))
            exact (any_flat rx hc.1 rs hc.2).symm
          · cases e
        · cases e
where
  datW_mono : ∀ (n : Nat) (w : W), datW n w = true → datW (n + 1) w = true
    | _, .non, _ => by simp [datW]
    | _, .bl _, _ => by simp [datW]
    | _, .int _, _ => by simp [datW]
    | _, .str s, h => by simpa [datW] using h
    | 0, .lst xs, h => by simp [datW] at h
    | 0, .tup xs, h => by simp [datW] at h
    | n + 1, .lst xs, h => by simp [datW] at h ⊢; exact datL_mono n xs h
    | n + 1, .tup xs, h => by simp [datW] at h ⊢; exact datL_mono n xs h
    | _, .dic _ _ _, h => by simp [datW] at h
    | _, .rcd _ _, h => by simp [datW] at h
    | _, .ref _, h => by simp [datW] at h
    | _, .exn _, h => by simp [datW] at h
  datL_mono : ∀ (n : Nat) (ws : List W), datL n ws = true → datL (n + 1) ws = true
    | _, [], _ => by simp [datL]
    | n, w :: ws, h => by
      simp only [datL, Bool.and_eq_true] at h ⊢
      exact ⟨datW_mono n w h.1, datL_mono n ws h.2⟩
theorem or_in (hu : X.A.units + 65 < cLine) : OpR X (compareOp .In) (fun x y => rOp G .isin [x, y]) := by
  rintro pins s σ H x y v u Q J rx ry ⟨I, φ, S, ws, w, sm, rs, e, k⟩
  obtain ⟨a, b, rfl, ra, rb⟩ := rels2 rs
  simp only [opSem, Option.map_eq_some_iff] at e
  obtain ⟨r, e, rfl⟩ := e
  have fin : Q (.bl r) H := k.here sm rfl
  rcases inOp_ok (K := X.K) sm ra rb e with ⟨c, z, rfl, rfl, rfl⟩ | ⟨p, o, rfl, g, rfl⟩ | ⟨d, ds, h1, h2, h3, h4, rfl⟩ | ⟨p, xs, rfl, h1, h2, h3, rfl⟩
  · exact op_in_sign pins s σ H _ _ v u Q J rx ry ⟨c, z, rfl, rfl, fin⟩
  · cases ry
    exact d_in (by omega) J g rx fun s' J' => ⟨.bl o.isSome, H, J', rfl, fin⟩
  · exact op_inD hu pins s σ H _ _ v u Q J rx ry ⟨d, ds, h1, h2, h3, h4, fin⟩
  · exact op_in_seq pins s σ H _ _ v u Q J rx ry ⟨p, xs, rfl, h1, h2, h3, fin⟩
theorem or_notin (hu : X.A.units + 65 < cLine) : OpR X (compareOp .NotIn) (fun x y => rOp G .notin [x, y]) := by
  rintro pins s σ H x y v u Q J rx ry ⟨I, φ, S, ws, w, sm, rs, e, k⟩
  obtain ⟨a, b, rfl, ra, rb⟩ := rels2 rs
  simp only [opSem, Option.map_eq_some_iff] at e
  obtain ⟨r, e, rfl⟩ := e
  have fin : Q (.bl (!r)) H := k.here sm rfl
  rcases inOp_ok (K := X.K) sm ra rb e with ⟨c, z, rfl, rfl, rfl⟩ | ⟨p, o, rfl, g, rfl⟩ | ⟨d, ds, h1, h2, h3, h4, rfl⟩ | ⟨p, xs, rfl, h1, h2, h3, rfl⟩
  · exact op_notIn_sign pins s σ H _ _ v u Q J rx ry ⟨c, z, rfl, rfl, fin⟩
  · cases ry
    exact d_notIn (by omega) J g rx fun s' J' => ⟨.bl (!o.isSome), H, J', rfl, fin⟩
  · exact op_notInD hu pins s σ H _ _ v u Q J rx ry ⟨d, ds, h1, h2, h3, h4, fin⟩
  · exact op_notIn_seq pins s σ H _ _ v u Q J rx ry ⟨p, xs, rfl, h1, h2, h3, fin⟩

/-! ### x[i] -/
theorem ix_dict (hu : X.A.units + 1 < cLine) : IxR X (fun x y H Q => ∃ a v, x = .ref a ∧ DGet H a y (some v) ∧ Q v H) := by
  rintro value slice pins s σ H x y v u Q J rx ry ⟨a, z, rfl, g, q⟩ hs
  cases rx
  have hT := dict_typeIs J g
  have h2 : wpAny (model X.prog X.w) X.A (getItem (.ref a) u) (EP X pins σ Q) X.xe s := d_getItem hu J g ry fun w' s3 J3 rw' => ⟨z, H, J3, rw', q⟩
  unfold subscriptTail
  refine wpAny_bind ?_
  rw [getitemInPython_of_ne hT.not_modules]
  refine wpAny_bind (wpAny_specialOf hT PySem.F.slot_dict_getitem.lookup ?_)
  have fin : wpAny (model X.prog X.w) X.A (subscripted slice false (.ref a) u) (fun r s₃ => wpAny (model X.prog X.w) X.A (letTemporaryGo value (.ref a) r >>= fun _ => pure r) (EP X pins σ Q) X.xe s₃) X.xe s := by
    rw [hs]
    exact wpAny_operating (wpAny_mono h2 (fun r s₃ h₃ => wpAny_bind (wpAny_letTemporaryGo (wpAny_pure h₃))) fun _ _ x => x)
  first
    | exact wpAny_pure (wpAny_bind fin)
    | exact wpAny_bind (wpAny_pure (wpAny_bind fin))
    | exact wpAny_bind fin
theorem ixN_eq (n : Nat) (i : Int) : Tw.ixN n i = L2.ixN n i := rfl
theorem or_idx (hk : X.K = G.K) (hu : X.A.units + 1 < cLine) : IxR X (fun x y => rOp G .idx [x, y]) := by
  rintro value slice pins s σ H x y v u Q J rx ry ⟨I, φ, S, ws, w, sm, rs, e, k⟩ hs
  obtain ⟨a, b, rfl, ra, rb⟩ := rels2 rs
  simp only [opSem] at e
  unfold idxSem at e
  split at e
  · rename_i z
    split at e
    · rename_i i
      split at e
      · rename_i hl
        simp only [Option.bind_eq_some_iff, Option.map_eq_some_iff] at e
        obtain ⟨j, h1, c, h2, rfl⟩ := e
        obtain rfl : x = .str ⟨z.toArray⟩ := ra
        obtain rfl := rel_int rb
        refine ix_str value slice pins s σ H _ _ v u Q J rx ry ⟨⟨z.toArray⟩, i, c, rfl, rfl, ?_, ?_, ?_⟩ hs
        · show z.toArray.size ≤ sizeLine
          simpa using Nat.le_of_lt (lim_ok hl)
        · show (L2.ixN z.toArray.toList.length i).bind _ = _
          simp only [List.toList_toArray]
          rw [← ixN_eq, h1]
          exact h2
        · exact k.here sm (by show _ = _; simp)
      · cases e
    · cases e
  · split at e
    · rename_i xs hq
      split at e
      · rename_i i
        simp only [Option.bind_eq_some_iff] at e
        obtain ⟨j, h1, h2⟩ := e
        obtain rfl := rel_int rb
        obtain ⟨p, vs, rfl, sq, rv⟩ := seqRel (K := X.K) hk sm ra hq
        obtain ⟨z, hz, rz⟩ := rv.get h2
        have hat : atI vs i = some z := by
          show (L2.ixN vs.length i).bind _ = _
          rw [rv.length, ← ixN_eq, h1]
          exact hz
        rcases sq with sq | sq
        · exact ix_list value slice pins s σ H _ _ v u Q J rx ry ⟨p, vs, i, z, rfl, rfl, sq, hat, k.here sm rz⟩ hs
        · exact ix_tup value slice pins s σ H _ _ v u Q J rx ry ⟨p, vs, i, z, rfl, rfl, sq, hat, k.here sm rz⟩ hs
      · cases e
    · split at e
      · rename_i t ks vs hd
        split at e
        · rename_i hk
          obtain ⟨p, o, rfl, g, _, hm⟩ := dget_rel sm ra hd rb hk
          rw [e] at hm
          obtain ⟨z, rfl, rz⟩ := hm
          exact ix_dict hu value slice pins s σ H _ _ v u Q J rx ry ⟨p, z, rfl, g, k.here sm rz⟩ hs
        · cases e
      · cases e

/-! ### slices -/
theorem Rels.cut {ws : List W} {vs : List V} (r : Rels G I φ ws vs) (lo hi : Option Int) : Rels G I φ (Tw.cut ws lo hi) (cutV vs lo hi) := by
  have e : ∀ n d o, Tw.sIx n d o = HT.sIx n d o := fun n d o => by cases o <;> rfl
  unfold Tw.cut cutV
  rw [r.length, e, e]
  exact (r.drop _).take _
def rSlice (G : Gx) (fr : Bool) (x : V) (lo hi : Option Int) (H : Hp) (Q : VK) : Prop :=
  ∃ I φ S a w, Sim G I φ S H ∧ Rel G I φ a x ∧ sliceSem S a lo hi = some w ∧ if fr then ∃ xs, w = .lst xs ∧ KF G I φ H S xs Q else KE G I φ H S w Q
theorem sliceSem_cases {a w : W} {lo hi : Option Int} (e : sliceSem S a lo hi = some w) : (∃ z, a = .str z ∧ z.length < LIM ∧ w = .str (Tw.cut z lo hi)) ∨ ∃ xs, (lstOf S a = some xs ∨ ∃ ns, a = .klst ns ∧ xs = ns.map .int) ∧ w = .lst (Tw.cut xs lo hi) := by
  unfold sliceSem at e
  split at e
  · split at e
    · rename_i hl
      cases e
      exact .inl ⟨_, rfl, hl, rfl⟩
    · cases e
  · cases e
    exact .inr ⟨_, .inr ⟨_, rfl, rfl⟩, rfl⟩
  · simp only [Option.map_eq_some_iff] at e
    obtain ⟨xs, h, rfl⟩ := e
    exact .inr ⟨xs, .inl h, rfl⟩
theorem cutS_eq (z : List Nat) (lo hi : Option Int) : cutS ⟨z.toArray⟩ lo hi = ⟨(Tw.cut z lo hi).toArray⟩ := by
  have e : ∀ n d o, Tw.sIx n d o = HT.sIx n d o := fun n d o => by cases o <;> rfl
  unfold cutS Tw.cut
  rw [e, e]
  simp [PySem.Str.length]
theorem sr_slice (hk : X.K = G.K) (fr : Bool) : SlR X (rSlice G fr) := by
  rintro pins s σ H x v vl vu lo hi sl Q J rx hs pl pu ⟨I, φ, S, a, w, sm, ra, e, k⟩
  rcases sliceSem_cases e with ⟨z, rfl, hl, rfl⟩ | ⟨xs, h, rfl⟩
  · cases fr with
    | true => obtain ⟨_, e, _⟩ := k; cases e
    | false =>
      obtain rfl : x = .str ⟨z.toArray⟩ := ra
      refine sl_str pins s σ H _ v vl vu lo hi sl Q J rx hs pl pu ⟨_, rfl, ?_, ?_⟩
      · show z.toArray.size ≤ sizeLine
        simpa using Nat.le_of_lt (lim_ok hl)
      · rw [cutS_eq]
        exact KE.here k sm rfl
  · have hh : ∃ a vs, x = .ref a ∧ SqL X.K H a vs ∧ Rels G I φ xs vs := by
      rcases h with h | ⟨ns, rfl, rfl⟩
      · exact lstRel (K := X.K) sm ra h
      · obtain ⟨p, hp, sq⟩ := ra
        exact ⟨p, _, hp, by rw [hk]; exact sm.same.seq sq, relsI ns⟩
    obtain ⟨p, vs, rfl, sq, rv⟩ := hh
    have kf : KF G I φ H S (Tw.cut xs lo hi) Q := by
      cases fr with
      | true => obtain ⟨_, e, k⟩ := k; cases e; exact k
      | false => exact KE.toKF k
    refine sl_list pins s σ H _ v vl vu lo hi sl Q J rx hs pl pu ⟨p, vs, rfl, sq, fun q hq => kf.here sm hq (rv.cut lo hi) ?_⟩
    have := cutV_length vs lo hi
    obtain ⟨_, rv', _, hz⟩ := J.list sq
    exact Nat.le_trans this hz

/-! ### calls of built-ins -/
theorem or_len (hk : X.K = G.K) : CallR X (.builtin "len") (rOp G .len) := by
  rintro pins s σ H xs us Q J rs ⟨I, φ, S, ws, w, sm, rws, e0, k⟩
  match ws, e0 with
  | [a], e =>
    obtain ⟨x, xs', rfl, ra, rr⟩ := rws
    obtain rfl : xs' = [] := rr
    simp only [opSem, Option.map_eq_some_iff] at e
    obtain ⟨n, e, rfl⟩ := e
    unfold lenSem at e
    split at e
    · rename_i z
      split at e
      · rename_i hl
        cases e
        obtain rfl : x = .str ⟨z.toArray⟩ := ra
        refine call_len_str pins s σ H _ us Q J rs ⟨_, rfl, ?_, ?_⟩
        · show z.toArray.size ≤ sizeLine
          simpa using Nat.le_of_lt (lim_ok hl)
        · exact k.here sm (by show V.int _ = V.int _; simp [PySem.Str.length])
      · cases e
    · split at e
      · rename_i ys hq
        cases e
        obtain ⟨p, vs, rfl, sq, rv⟩ := seqRel (K := X.K) hk sm ra hq
        refine call_len_seq pins s σ H _ us Q J rs ⟨p, vs, rfl, sq, ?_⟩
        rw [rv.length]
        exact k.here sm rfl
      · simp only [Option.map_eq_some_iff] at e
        obtain ⟨⟨t, ks, vs⟩, hd, rfl⟩ := e
        cases t with
        | false =>
          obtain ⟨p, kvs, rfl, hp, rfl, _⟩ := dicRelK sm ra hd
          refine call_lenD pins s σ H _ us Q J rs ⟨p, kvs, rfl, hp, k.here sm ?_⟩
          show V.int _ = V.int _
          simp
        | true =>
          obtain ⟨p, kvs, rfl, hp, rfl, _⟩ := dicRelT sm ra hd
          refine call_len_dT pins s σ H _ us Q J rs ⟨p, kvs, rfl, hp, k.here sm ?_⟩
          show V.int _ = V.int _
          simp
theorem or_listF (hk : X.K = G.K) : CallR X (.type "list") (rFr G .list) := by
  rintro pins s σ H xs us Q J rs ⟨I, φ, S, ws, ys, sm, rws, e0, k⟩
  match ws, e0 with
  | [a], e =>
    obtain ⟨x, xs', rfl, ra, rr⟩ := rws
    obtain rfl : xs' = [] := rr
    simp only [opSem, Option.map_eq_some_iff] at e
    obtain ⟨zs, hq, e⟩ := e
    cases e
    obtain ⟨p, vs, rfl, sq, rv⟩ := seqRel (K := X.K) hk sm ra hq
    have hz : vs.length ≤ sizeLine := by
      rcases sq with sq | sq
      · exact (J.list sq).choose_spec.2.2
      · exact (J.tuple sq).choose_spec.2.2
    exact call_list_of pins s σ H _ us Q J rs ⟨p, vs, rfl, sq, fun l hl => k.here sm hl rv hz⟩
theorem fr_op {f : Value} {o : Op} (h : CallR X f (rFr G o)) (ho : ∀ ws S w, opSem o ws S = some w → ∃ xs, w = .lst xs) : CallR X f (rOp G o) := by
  rintro pins s σ H xs us Q J rs ⟨I, φ, S, ws, w, sm, rws, e, k⟩
  obtain ⟨ys, rfl⟩ := ho ws S w e
  exact h pins s σ H xs us Q J rs ⟨I, φ, S, ws, ys, sm, rws, e, k.toKF⟩
theorem or_tuple (hk : X.K = G.K) : CallR X (.type "tuple") (rOp G .tuple) := by
  rintro pins s σ H xs us Q J rs ⟨I, φ, S, ws, w, sm, rws, e0, k⟩
  match ws, e0 with
  | [a], e =>
    obtain ⟨x, xs', rfl, ra, rr⟩ := rws
    obtain rfl : xs' = [] := rr
    simp only [opSem, Option.map_eq_some_iff] at e
    obtain ⟨zs, hq, rfl⟩ := e
    cases a with
    | tup zs' =>
      cases hq
      obtain ⟨p, vs, rfl, hp, rv⟩ := ra
      exact call_tuple_of pins s σ H _ us Q J rs ⟨p, vs, rfl, .inr ⟨.inl (.inl (sm.same _ _ hp)), k.here sm ⟨p, vs, rfl, hp, rv⟩⟩⟩
    | lst zs' =>
      obtain ⟨p, vs, rfl, sq, rv⟩ := lstRel (K := X.K) sm ra hq
      exact call_tuple_of pins s σ H _ us Q J rs ⟨p, vs, rfl, .inl ⟨sq, fun l hl => k.tup sm hl rv⟩⟩
    | ref n =>
      have hq' : lstOf S (.ref n) = some zs := hq
      obtain ⟨p, vs, rfl, sq, rv⟩ := lstRel (K := X.K) sm ra hq'
      exact call_tuple_of pins s σ H _ us Q J rs ⟨p, vs, rfl, .inl ⟨sq, fun l hl => k.tup sm hl rv⟩⟩
    | klst ns =>
      obtain ⟨p, vs, rfl, sq, rv⟩ := seqRel (K := X.K) hk sm ra hq
      rcases sq with sq | sq
      · exact call_tuple_of pins s σ H _ us Q J rs ⟨p, vs, rfl, .inl ⟨sq, fun l hl => k.tup sm hl rv⟩⟩
      · obtain ⟨q, hq2, sq2⟩ := ra
        cases hq2
        cases hq
        have sq3 : SqL X.K H p (ns.map V.int) := by rw [hk]; exact sm.same.seq sq2
        exact call_tuple_of pins s σ H _ us Q J rs ⟨p, _, rfl, .inl ⟨sq3, fun l hl => k.tup sm hl (relsI ns)⟩⟩
    | _ => simp [seqOf] at hq
theorem or_int : CallR X (.type "int") (rOp G .int) := by
  rintro pins s σ H xs us Q J rs ⟨I, φ, S, ws, w, sm, rws, e0, k⟩
  match ws, e0 with
  | [.int i], e =>
    cases e
    obtain ⟨x, xs', rfl, ra, rr⟩ := rws
    obtain rfl : xs' = [] := rr
    obtain rfl := rel_int ra
    exact call_int1 pins s σ H _ us Q J rs (.inl ⟨i, rfl, k.here sm rfl⟩)
  | [.bl b], e =>
    cases e
    obtain ⟨x, xs', rfl, ra, rr⟩ := rws
    obtain rfl : xs' = [] := rr
    obtain rfl : x = .bl b := ra
    exact call_int1 pins s σ H _ us Q J rs (.inr ⟨b, rfl, k.here sm rfl⟩)
theorem or_max (hc : X.calm = true) : CallR X (.builtin "max") (rOp G .max) := by
  rintro pins s σ H xs us Q J rs ⟨I, φ, S, ws, w, sm, rws, e0, k⟩
  match ws, e0 with
  | [.int i, .int j], e =>
    cases e
    obtain ⟨x, xs', rfl, ra, y, ys, rfl, rb, rr⟩ := rws
    obtain rfl : ys = [] := rr
    obtain rfl := rel_int ra
    obtain rfl := rel_int rb
    exact call_max2 hc pins s σ H _ us Q J rs ⟨i, j, rfl, k.here sm rfl⟩
theorem or_min (hc : X.calm = true) : CallR X (.builtin "min") (rOp G .min) := by
  rintro pins s σ H xs us Q J rs ⟨I, φ, S, ws, w, sm, rws, e0, k⟩
  match ws, e0 with
  | [.int i, .int j], e =>
    cases e
    obtain ⟨x, xs', rfl, ra, y, ys, rfl, rb, rr⟩ := rws
    obtain rfl : ys = [] := rr
    obtain rfl := rel_int ra
    obtain rfl := rel_int rb
    exact call_min2 hc pins s σ H _ us Q J rs ⟨i, j, rfl, k.here sm rfl⟩
theorem allBl_rel : ∀ {ws : List W} {vs : List V} {b : Bool}, Rels G I φ ws vs → allBl ws = some b → ∃ bs : List Bool, vs = bs.map V.bl ∧ b = bs.all id
  | [], _, _, r, e => by cases e; exact ⟨[], r, rfl⟩
  | w :: ws, _, _, ⟨x, xs, e1, h, r⟩, e => by
    cases w <;> first | (simp [allBl] at e; done) | skip
    rename_i b
    simp only [allBl, Option.map_eq_some_iff] at e
    obtain ⟨c, e2, rfl⟩ := e
    obtain ⟨bs, rfl, rfl⟩ := allBl_rel r e2
    obtain rfl : x = .bl b := h
    exact ⟨b :: bs, e1, rfl⟩
theorem or_all (hc : X.calm = true) : CallR X (.builtin "all") (rOp G .all) := by
  rintro pins s σ H xs us Q J rs ⟨I, φ, S, ws, w, sm, rws, e0, k⟩
  match ws, e0 with
  | [a], e =>
    obtain ⟨x, xs', rfl, ra, rr⟩ := rws
    obtain rfl : xs' = [] := rr
    simp only [opSem, Option.bind_eq_some_iff, Option.map_eq_some_iff] at e
    obtain ⟨zs, hq, b, hb, rfl⟩ := e
    obtain ⟨p, vs, rfl, sq, rv⟩ := lstRel (K := X.K) sm ra hq
    obtain ⟨bs, rfl, rfl⟩ := allBl_rel rv hb
    exact cr_all hc pins s σ H _ us Q J rs ⟨p, bs, rfl, sq, k.here sm rfl⟩
end Tw

/-! Tw, part F: sorted, index, count, get, isinstance; what changes a cell. -/
namespace Tw
open PySem PySem.Spec PyProof.Rows L2

variable {G : Gx} {I I' I1 I2 H H' H1 H2 : Hp} {φ φ' φ1 φ2 : List Addr} {S S' : Sto} {K : PySem.W.Frag} {X : Cx}

mutual
theorem dat_sub (b : Bool) (g : Nat → Option W) : ∀ (n : Nat) (w : W), datW n w = true → sub false g w = some w
  | _, .non, _ => by simp [sub]
  | _, .bl _, _ => by simp [sub]
  | _, .int _, _ => by simp [sub]
  | _, .str _, _ => by simp [sub]
  | 0, .lst xs, h => by simp [datW] at h
  | 0, .tup xs, h => by simp [datW] at h
  | n + 1, .lst xs, h => by simp [datW] at h; simp [sub, dat_subL b g n xs h]
  | n + 1, .tup xs, h => by simp [datW] at h; simp [sub, dat_subL b g n xs h]
  | _, .dic _ _ _, h => by simp [datW] at h
  | _, .rcd _ _, h => by simp [datW] at h
  | _, .ref _, h => by simp [datW] at h
  | _, .exn _, h => by simp [datW] at h
theorem dat_subL (b : Bool) (g : Nat → Option W) : ∀ (n : Nat) (ws : List W), datL n ws = true → subL false g ws = some ws
  | _, [], _ => by simp [subL]
  | n, w :: ws, h => by
    simp only [datL, Bool.and_eq_true] at h
    simp [subL, dat_sub b g n w h.1, dat_subL b g n ws h.2]
end
theorem dat_dp (s : Sim G I φ S H) {n : Nat} {w : W} {v : V} (r : Rel G I φ w v) (h : datW n w = true) : Dp K H v (toD w) :=
  vw_dp s r (dat_sub false _ n w h) h
theorem datL_mem : ∀ {n : Nat} {ws : List W}, datL n ws = true → ∀ w ∈ ws, datW n w = true
  | _, [], _, _, h => by cases h
  | n, x :: xs, f, w, h => by
    simp only [datL, Bool.and_eq_true] at f
    rcases List.mem_cons.mp h with rfl | h
    · exact f.1
    · exact datL_mem f.2 w h
def RU (G : Gx) (I : Hp) (φ : List Addr) (u : Value) (w : W) : Prop := ∃ v, L2.RelV v u ∧ Rel G I φ w v
theorem each_of : ∀ {ws : List W} {vs : List V} {us : List Value}, Rels G I φ ws vs → Vals vs us → PySem.W.EachIs (RU G I φ) us ws
  | [], _, _, r, q => by rw [show _ = [] from r] at q; cases q; exact .nil
  | w :: ws, _, _, ⟨x, xs, e, h, r⟩, q => by
    subst e
    cases q with
    | cons q1 q2 => exact .cons ⟨x, q1, h⟩ (each_of r q2)
theorem of_each : ∀ {ws : List W} {us : List Value}, PySem.W.EachIs (RU G I φ) us ws → ∃ vs, Rels G I φ ws vs ∧ Vals vs us
  | _, _, .nil => ⟨[], rfl, .nil⟩
  | _, _, .cons ⟨v, q, h⟩ t => by
    obtain ⟨vs, r, q2⟩ := of_each t
    exact ⟨v :: vs, ⟨v, vs, rfl, h, r⟩, .cons q q2⟩
theorem sort_eq {xs : List W} (hd : datL 30 xs = true) (ha : (xs.all fun x => xs.all fun y => alikeW x y) = true) : xs.mergeSort (PySem.W.dataLe false toD) = sortW xs := by
  refine PySem.W.sort_congr fun a ha' b hb' => ?_
  simp only [List.all_eq_true] at ha
  rw [PySem.W.dataLe_eq]
  show (!PySem.W.dataLt (toD b) (toD a)) = !ltW b a
  rw [lt_toD 30 30 b a (datL_mem hd b hb') (datL_mem hd a ha') (ha b hb' a ha')]
theorem rels_mem : ∀ {ws : List W} {vs : List V}, Rels G I φ ws vs → ∀ w ∈ ws, ∃ v, Rel G I φ w v
  | [], _, _, _, h => by cases h
  | w :: ws, _, ⟨x, xs, e, h, r⟩, z, hz => by
    rcases List.mem_cons.mp hz with rfl | hz
    · exact ⟨x, h⟩
    · exact rels_mem r z hz
theorem allInt_map : ∀ {ws : List W}, allInt ws = true → ∃ ns : List Int, ws = ns.map W.int
  | [], _ => ⟨[], rfl⟩
  | w :: ws, h => by
    cases w <;> first | (simp [allInt] at h; done) | skip
    rename_i i
    obtain ⟨ns, rfl⟩ := allInt_map (ws := ws) (by simpa [allInt] using h)
    exact ⟨i :: ns, rfl⟩
theorem rels_ints : ∀ {ns : List Int} {vs : List V}, Rels G I φ (ns.map W.int) vs → vs = ns.map V.int
  | [], _, r => r
  | n :: ns, _, ⟨x, xs, e, h, r⟩ => by
    obtain rfl : x = .int n := h
    rw [e, rels_ints r]
    rfl
theorem ints_rels : ∀ (ns : List Int), Rels G I φ (ns.map W.int) (ns.map V.int)
  | [] => rfl
  | n :: ns => ⟨.int n, _, rfl, rfl, ints_rels ns⟩
theorem sortW_ints (ns : List Int) : sortW (ns.map W.int) = (ns.mergeSort fun a b => decide (a ≤ b)).map W.int := by
  unfold sortW
  refine (PySem.W.sort_maps W.int fun a _ b _ => ?_).symm
  show decide (a ≤ b) = !ltW (.int b) (.int a)
  simp only [ltW]
  rw [Bool.eq_iff_iff]
  simp
theorem or_sortedF (hc : X.calm = true) (hu : X.A.units + 64 < cLine) : CallR X (.builtin "sorted") (rFr G .sorted) := by
  rintro pins s σ H xs us Q J rs ⟨I, φ, S, ws, ys, sm, rws, e0, k⟩
  match ws, e0 with
  | [a], e =>
    obtain ⟨x, xs', rfl, ra, rr⟩ := rws
    obtain rfl : xs' = [] := rr
    simp only [opSem, Option.map_eq_some_iff] at e
    obtain ⟨zs, e, ez⟩ := e
    cases ez
    unfold sortedSem at e
    split at e
    · rename_i ws' hq
      split at e
      · rename_i hcond
        cases e
        simp only [Bool.and_eq_true, decide_eq_true_eq] at hcond
        obtain ⟨⟨hd, hs⟩, hl⟩ := hcond
        simp only [sortOk, Bool.and_eq_true] at hs
        obtain ⟨ha, hs⟩ := hs
        obtain ⟨p, vs, rfl, sq, rv⟩ := lstRel (K := X.K) sm ra hq
        obtain ⟨its, rvl, pl, hz⟩ := J.list sq
        obtain ⟨u, rfl, ru⟩ := vals1 rs
        obtain rfl : u = Value.ref p := ru
        have hlen := rv.length
        have hd' := hd
        refine PySem.W.sorted_data (β := W) (enc := toD) (bs := ws') (R := RU G I φ) pl.isList (each_of rv rvl) ?_ ?_ ?_ ?_ ?_ ?_
        · have : ∀ (ws : List W) (vs : List V) (its : List Value), datL 30 ws = true → Rels G I φ ws vs → Vals vs its → PySem.W.EachIs (fun v b => ∃ as, Reads s.heap v (toD b) as) its ws := by
            intro ws
            induction ws with
            | nil => intro vs its _ r q; rw [show vs = [] from r] at q; cases q; exact .nil
            | cons w ws ih =>
              intro vs its hd r q
              obtain ⟨x, xs, e, h, r⟩ := r
              subst e
              simp only [datL, Bool.and_eq_true] at hd
              cases q with
              | cons q1 q2 => exact .cons (Dp.reads J _ x _ (dat_dp sm h hd.1) q1) (ih _ _ hd.2 r q2)
          exact this ws' vs its hd rv rvl
        · intro d hd1 d' hd2
          obtain ⟨b, hb, rfl⟩ := List.mem_map.mp hd1
          obtain ⟨b', hb', rfl⟩ := List.mem_map.mp hd2
          simp only [List.all_eq_true] at ha
          exact alike_toD _ _ (ha b hb b' hb')
        · simp only [Bool.or_eq_true, List.all_eq_true] at hs
          rcases hs with hs | hs
          · refine .inl fun d hd1 => ?_
            obtain ⟨b, hb, rfl⟩ := List.mem_map.mp hd1
            have := hs b hb
            cases b <;> first | (simp [isTup1] at this; done) | skip
            rename_i l
            cases l with
            | nil => simp [isTup1] at this
            | cons y l => exact ⟨toD y, toDs l, by simp [toD, toDs]⟩
          · refine .inr fun d hd1 => ?_
            obtain ⟨b, hb, rfl⟩ := List.mem_map.mp hd1
            have h1 := hs b hb
            have h2 := datL_mem hd' b hb
            cases b <;> simp_all [notNone, isTup, toD, datW]
        · exact Nat.le_of_lt (lim_ok hl)
        · intro b hb
          have := (dat_lay 30 b (datL_mem hd b hb)).2
          omega
        · intro out ho hout
          rw [sort_eq hd ha] at hout
          obtain ⟨vs', r', q'⟩ := of_each hout
          have hl' := q'.length
          have kp : ∀ b o, s.heap.get? b = some o → (sortedAll s.heap its out.toArray).get? b = some o := fun b o e => sortedAll_old e
          obtain ⟨n, hn⟩ := sortedAll_at s.heap its out.toArray
          have hf : H (s.heap.objs.size + 1) = none := J.hok.fresh (Nat.le_succ _)
          have hle : vs'.length ≤ sizeLine := by rw [hl', ho]; exact Nat.le_of_lt (lim_ok hl)
          exact ⟨.ref (s.heap.objs.size + 1), _, J.laid (t' := s.toks) (o := .lst vs') kp (Nat.le_succ _) ⟨hle, out, n, q', hn⟩, rfl, k.here sm hf r' hle⟩
      · cases e
    · split at e
      · rename_i ks vs hd
        split at e
        · rename_i hcond
          cases e
          simp only [Bool.and_eq_true, decide_eq_true_eq] at hcond
          obtain ⟨hi, hl⟩ := hcond
          obtain ⟨p, kvs, rfl, hp, hks, _⟩ := dicRelK sm ra hd
          obtain ⟨ns, rfl⟩ := allInt_map hi
          have hk : kvs.map (·.1) = ns.map Sum.inl := by
            have : ∀ (kvs : List (Key × V)) (ns : List Int), ns.map W.int = kvs.map (fun p => kW p.1) → kvs.map (·.1) = ns.map Sum.inl := by
              intro kvs
              induction kvs with
              | nil => intro ns h; cases ns with
                | nil => rfl
                | cons _ _ => simp at h
              | cons p kvs ih =>
                intro ns h
                cases ns with
                | nil => simp at h
                | cons n ns =>
                  simp only [List.map_cons, List.cons.injEq] at h ⊢
                  refine ⟨?_, ih ns h.2⟩
                  cases hp : p.1 with
                  | inl i => rw [hp] at h; simp only [kW, W.int.injEq] at h; rw [h.1]
                  | inr x => rw [hp] at h; simp [kW] at h
            exact this kvs ns hks
          refine call_sortedDI hc pins s σ H _ us Q J rs ⟨p, kvs, ns, rfl, .inl hp, hk, by simpa using hl, fun ys q hpm hpw hq => ?_⟩
          have hys : ys = ns.mergeSort fun a b => decide (a ≤ b) := by
            refine PySem.W.ksm_same (hpm.trans (List.mergeSort_perm ns _).symm) hpw ?_
            have := List.pairwise_mergeSort (le := fun (a b : Int) => decide (a ≤ b)) (by intro a b c h1 h2; simp at *; omega) (by intro a b; simp; omega) ns
            exact this.imp fun h => by simpa using h
          rw [sortW_ints, ← hys] at k
          exact k.here sm hq (ints_rels ys) (by
            have := hpm.length_eq
            have hl2 : ns.length < 64 := by simpa using hl
            rw [List.length_map, this, sizeLine_eq]
            omega)
        · cases e
      · cases e

/-! ### methods that read -/
theorem or_index (hu : X.A.units + 65 < cLine) : MtR X "list.index" (fun x xs => rOp G .mIndex (x :: xs)) := by
  rintro pins s σ H x xs v us Q J rx rxs ⟨I, φ, S, ws, w, sm, rws, e0, k⟩
  match ws, e0 with
  | [a, b], e =>
    obtain ⟨x, xs', e1, ra, y, ys, rfl, rb, rr⟩ := rws
    obtain rfl : ys = [] := rr
    cases e1
    simp only [opSem, Option.map_eq_some_iff] at e
    obtain ⟨j, e, rfl⟩ := e
    unfold indexSem at e
    split at e
    · rename_i zs hq
      simp only [Option.bind_eq_some_iff] at e
      obtain ⟨y', h1, zs', h2, e⟩ := e
      split at e
      · rename_i hc
        simp only [Bool.and_eq_true] at hc
        obtain ⟨p, vs, rfl, sq, rv⟩ := lstRel (K := X.K) sm ra hq
        rw [List.findIdx?_eq_some_iff_getElem] at e
        obtain ⟨hj, hz, hno⟩ := e
        have get : ∀ m (hm : m < zs'.length), (toDs zs')[m]? = some (toD zs'[m]) := fun m hm => by rw [toDs_map, List.getElem?_map, List.getElem?_eq_getElem hm]; rfl
        have eqv' : ∀ m (hm : m < zs'.length), PyData.eqv (toD zs'[m]) (toD y') = eqW zs'[m] y' := fun m hm => eqW_eqv 30 30 _ _ (datL_mem hc.2 _ (List.getElem_mem hm)) hc.1
        refine mt_indexD hu pins s σ H _ _ v us Q J rx rxs ⟨p, y, toD y', toDs zs', j, toD zs'[j], rfl, rfl, .lst sq (vws_dp sm rv h2 hc.2), vw_dp sm rb h1 hc.1, datL_shaped hc.2, dat_shaped hc.1, get j hj, ?_, ?_, k.here sm rfl⟩
        · rw [eqv' j hj]; exact hz
        · intro m z' hm hz'
          have hmz : m < zs'.length := Nat.lt_trans hm hj
          rw [get m hmz] at hz'
          cases hz'
          rw [eqv' m hmz]
          simpa using hno m hm
      · cases e
    · cases e
theorem or_count : MtR X "list.count" (fun x xs => rOp G .mCount (x :: xs)) := by
  rintro pins s σ H x xs v us Q J rx rxs ⟨I, φ, S, ws, w, sm, rws, e0, k⟩
  match ws, e0 with
  | [a, b], e =>
    obtain ⟨x, xs', e1, ra, y, ys, rfl, rb, rr⟩ := rws
    obtain rfl : ys = [] := rr
    cases e1
    simp only [opSem, Option.map_eq_some_iff] at e
    obtain ⟨j, e, rfl⟩ := e
    unfold countSem at e
    split at e
    · rename_i zs hq
      split at e
      · rename_i hc
        cases e
        simp only [Bool.and_eq_true] at hc
        obtain ⟨p, vs, rfl, sq, rv⟩ := lstRel (K := X.K) sm ra hq
        obtain ⟨ns, rfl⟩ := allInt_map hc.2
        have hb := hc.1
        cases b <;> first | (simp [isInt] at hb; done) | skip
        rename_i i
        obtain rfl := rel_int rb
        have := rels_ints rv
        subst this
        refine mt_lcount pins s σ H _ _ v us Q J rx rxs ⟨p, ns, i, rfl, rfl, sq, k.here sm ?_⟩
        show V.int _ = V.int _
        congr 1
        have : ∀ ns : List Int, List.countP (fun z => eqW z (.int i)) (ns.map W.int) = ns.count i := by
          intro ns
          rw [List.countP_map, List.count]
          congr 1
        exact congrArg Int.ofNat (this ns).symm
      · cases e
    · cases e

/-! ### isinstance -/
theorem isi_ty {w : W} {v : V} {t : IsT} {b : Bool} (s : Sim G I φ S H) (r : Rel G I φ w v) (e : isiOp t w S = some b) :
    ∃ (T : String) (C : String), TyX K H v (.type T) ∧ kitB T C = some b ∧ (match t with | .int => C = "int" | .bool => C = "bool" | .str => C = "str" | .list => C = "list" | .tuple => C = "tuple" | .cls _ => False) := by
  cases t <;> cases w <;> first | (simp [isiOp] at e; done) | skip
  all_goals first
    | (cases e; rw [show v = _ from r]; first
        | exact ⟨"int", _, .base (.int _), by decide +kernel, rfl⟩
        | exact ⟨"bool", _, .base (.bl _), by decide +kernel, rfl⟩
        | exact ⟨"str", _, .base (.str _), by decide +kernel, rfl⟩)
    | (cases e; obtain ⟨a, vs, rfl, ha, _⟩ := r; first
        | exact ⟨"tuple", _, .base (.tup (s.same _ _ ha)), by decide +kernel, rfl⟩
        | (rcases ha with ha | ⟨o, ha⟩
           · exact ⟨"list", _, .base (.lst (s.same _ _ ha)), by decide +kernel, rfl⟩
           · exact ⟨"list", _, .base (.frz (s.same _ _ ha)), by decide +kernel, rfl⟩))
    | (rename_i n
       obtain ⟨a, rfl, ha⟩ := r
       simp only [isiOp] at e
       split at e
       · rename_i xs hS
         cases e
         obtain ⟨vs, h1, _⟩ := s.cell n a _ ha hS
         exact ⟨"list", _, .base (.lst h1), by decide +kernel, rfl⟩
       · cases e)

/-! ### what changes a cell -/
def KU (G : Gx) (I : Hp) (φ : List Addr) (H : Hp) (S' : Sto) (w : W) (Q : VK) : Prop := KE G I φ H S' w Q
def rEff (G : Gx) (o : Eff) (vs : List V) (H : Hp) (Q : VK) : Prop :=
  ∃ I φ S ws w S', Sim G I φ S H ∧ Rels G I φ ws vs ∧ effSem o ws S = some (w, S') ∧ KE G I φ H S' w Q
theorem effSem_ref {o : Eff} {ws : List W} {w : W} (e : effSem o ws S = some (w, S')) : ∃ n r xs, ws = .ref n :: r ∧ S[n]? = some (.lst xs) := by
  unfold effSem at e
  split at e
  · split at e
    · exact ⟨_, _, _, rfl, by assumption⟩
    · cases e
  · cases e
theorem Sim.cellL {n : Nat} {a : Addr} {xs : List W} (s : Sim G I φ S H) (hn : φ[n]? = some a) (hS : S[n]? = some (.lst xs)) : ∃ vs, H a = some (.lst vs) ∧ Rels G I φ xs vs := s.cell n a _ hn hS
/-- a list's cell is written, and w told -/
theorem KE.put {n : Nat} {a : Addr} {xs ys : List W} {us : List V} {w : W} {v : V} {Q : VK} (s : Sim G I φ S H) (hn : φ[n]? = some a) (hS : S[n]? = some (.lst xs)) (k : KE G I φ H (S.set n (.lst ys)) w Q) (r : Rels G I φ ys us) (rw' : Rel G I φ w v) : Q v (upd H a (.lst us)) := by
  obtain ⟨s2, e2⟩ := s.put (o' := .lst ys) (u := .lst us) hn hS (by simp) ⟨us, upd_same, r⟩
  exact k _ _ _ _ e2 s2 rw'
theorem or_append : MtR X "list.append" (fun x xs => rEff G .append (x :: xs)) := by
  rintro pins s σ H x xs v us Q J rx rxs ⟨I, φ, S, ws, w, S', sm, rws, e0, k⟩
  obtain ⟨n, r, zs, rfl, hS⟩ := effSem_ref e0
  simp only [effSem, hS] at e0
  match r, e0 with
  | [b], e =>
    obtain ⟨x, xs', e1, ra, y, ys, rfl, rb, rr⟩ := rws
    obtain rfl : ys = [] := rr
    cases e1
    obtain ⟨p, rfl, hn⟩ := ra
    simp only at e
    split at e
    · rename_i hl
      cases e
      obtain ⟨vs, h1, rv⟩ := sm.cellL hn hS
      refine mt_append pins s σ H _ _ v us Q J rx rxs ⟨p, vs, y, rfl, rfl, h1, ?_, KE.put sm hn hS k (rv.append (Rels.one rb)) rfl⟩
      rw [rv.length]
      exact lim_ok hl
    · cases e
theorem or_clear : MtR X "list.clear" (fun x xs => rEff G .clear (x :: xs)) := by
  rintro pins s σ H x xs v us Q J rx rxs ⟨I, φ, S, ws, w, S', sm, rws, e0, k⟩
  obtain ⟨n, r, zs, rfl, hS⟩ := effSem_ref e0
  simp only [effSem, hS] at e0
  match r, e0 with
  | [], e =>
    obtain ⟨x, xs', e1, ra, rr⟩ := rws
    obtain rfl : xs' = [] := rr
    cases e1
    obtain ⟨p, rfl, hn⟩ := ra
    cases e
    obtain ⟨vs, h1, rv⟩ := sm.cellL hn hS
    exact mt_clear pins s σ H _ _ v us Q J rx rxs ⟨p, vs, rfl, rfl, h1, KE.put (ys := []) sm hn hS k rfl rfl⟩
theorem or_reverse : MtR X "list.reverse" (fun x xs => rEff G .reverse (x :: xs)) := by
  rintro pins s σ H x xs v us Q J rx rxs ⟨I, φ, S, ws, w, S', sm, rws, e0, k⟩
  obtain ⟨n, r, zs, rfl, hS⟩ := effSem_ref e0
  simp only [effSem, hS] at e0
  match r, e0 with
  | [], e =>
    obtain ⟨x, xs', e1, ra, rr⟩ := rws
    obtain rfl : xs' = [] := rr
    cases e1
    obtain ⟨p, rfl, hn⟩ := ra
    cases e
    obtain ⟨vs, h1, rv⟩ := sm.cellL hn hS
    exact mt_reverse pins s σ H _ _ v us Q J rx rxs ⟨p, vs, rfl, rfl, h1, KE.put sm hn hS k rv.reverse rfl⟩
theorem rels_dropLast : ∀ {ws : List W} {vs : List V}, Rels G I φ ws vs → Rels G I φ ws.dropLast vs.dropLast
  | [], _, h => by rw [show _ = [] from h]; rfl
  | [w], _, ⟨x, xs, e, h, r⟩ => by
    obtain rfl : xs = [] := r
    subst e
    rfl
  | w :: u :: ws, _, ⟨x, xs, e, h, r⟩ => by
    obtain ⟨y, ys, e2, h2, r2⟩ := r
    subst e2
    subst e
    exact ⟨x, _, rfl, h, rels_dropLast (ws := u :: ws) ⟨y, ys, rfl, h2, r2⟩⟩
theorem or_pop0 : MtR X "list.pop" (fun x xs => rEff G .pop0 (x :: xs)) := by
  rintro pins s σ H x xs v us Q J rx rxs ⟨I, φ, S, ws, w, S', sm, rws, e0, k⟩
  obtain ⟨n, r, zs, rfl, hS⟩ := effSem_ref e0
  simp only [effSem, hS] at e0
  match r, e0 with
  | [], e =>
    obtain ⟨x, xs', e1, ra, rr⟩ := rws
    obtain rfl : xs' = [] := rr
    cases e1
    obtain ⟨p, rfl, hn⟩ := ra
    simp only at e
    split at e
    · rename_i z hz
      cases e
      obtain ⟨vs, h1, rv⟩ := sm.cellL hn hS
      rw [List.getLast?_eq_getElem?] at hz
      obtain ⟨y, hy, ry⟩ := rv.get hz
      rw [← rv.length] at hy
      exact mt_pop pins s σ H _ _ v us Q J rx rxs ⟨p, vs, y, rfl, rfl, h1, hy, KE.put sm hn hS k (rels_dropLast rv) ry⟩
    · cases e
theorem or_pop1 : MtR X "list.pop" (fun x xs => rEff G .pop1 (x :: xs)) := by
  rintro pins s σ H x xs v us Q J rx rxs ⟨I, φ, S, ws, w, S', sm, rws, e0, k⟩
  obtain ⟨n, r, zs, rfl, hS⟩ := effSem_ref e0
  simp only [effSem, hS] at e0
  match r, e0 with
  | [.int i], e =>
    obtain ⟨x, xs', e1, ra, y, ys, rfl, rb, rr⟩ := rws
    obtain rfl : ys = [] := rr
    cases e1
    obtain ⟨p, rfl, hn⟩ := ra
    obtain rfl := rel_int rb
    simp only [Option.bind_eq_some_iff, Option.map_eq_some_iff] at e
    obtain ⟨j, hj, z, hz, e⟩ := e
    cases e
    obtain ⟨vs, h1, rv⟩ := sm.cellL hn hS
    obtain ⟨y, hy, ry⟩ := rv.get hz
    rw [← rv.length, ixN_eq] at hj
    obtain ⟨q1, q2, q3, q4⟩ := ixN_seq hj
    have hz := (J.hok _ _ h1).1
    have hsl := sizeLine_eq
    exact mt_popAt pins s σ H _ _ v us Q J rx rxs ⟨p, vs, i, j, y, rfl, rfl, h1, by omega, by omega, q1, hy, KE.put sm hn hS k (rv.eraseIdx j) ry⟩
end Tw

/-! Tw, part G: the checker of expressions, and that it is right. -/
namespace Tw
open PySem PySem.Spec PyProof.Rows L2

structure Tab where
  N : List PySem.Str
  fnm : List (PySem.Str × Nat × Nat)
  cst : List (PySem.Str × W)

def vis (sc : Scope) (x : PySem.Str) : Bool := match sc.names.lookup x with
  | some .local => true
  | some .cell => true
  | some .free => true
  | _ => false
def loc (sc : Scope) (x : PySem.Str) : Bool := match sc.names.lookup x with
  | some .local => true
  | some .cell => true
  | _ => false
def isGl (sc : Scope) (x : PySem.Str) : Bool := match sc.names.lookup x with
  | some .globalImplicit => true
  | _ => false
theorem vis_ok {sc : Scope} {x : PySem.Str} (h : vis sc x = true) : Vis sc x := by
  unfold vis at h
  split at h
  · exact .inl (by assumption)
  · exact .inr (.inl (by assumption))
  · exact .inr (.inr (by assumption))
  · cases h
theorem loc_ok {sc : Scope} {x : PySem.Str} (h : loc sc x = true) : Loc sc x := by
  unfold loc at h
  split at h
  · exact .inl (by assumption)
  · exact .inr (by assumption)
  · cases h
theorem isGl_ok {sc : Scope} {x : PySem.Str} (h : isGl sc x = true) : sc.names.lookup x = some .globalImplicit := by
  unfold isGl at h
  split at h
  · assumption
  · cases h
def dbg (x : PySem.Str) : Bool := (x == ("__debug__" : PySem.Str)) || (x == ("__classdict__" : PySem.Str)) || (x == ("__name__" : PySem.Str))
/-- an expression of the plain kinds -/
def plainE : Expr → Bool
  | .BoolOp _ _ _ => true
  | .BinOp _ _ _ _ => true
  | .UnaryOp _ _ _ => true
  | .IfExp _ _ _ _ => true
  | .Dict _ _ _ => true
  | .ListComp _ _ _ _ => true
  | .Compare _ _ _ _ => true
  | .Call _ _ _ _ => true
  | .JoinedStr _ _ => true
  | .Constant _ _ _ => true
  | .Attribute _ _ _ => true
  | .Subscript _ _ _ => true
  | .Name _ _ => true
  | .List _ _ => true
  | .Tuple _ _ _ => true
  | _ => false
/-- what may stand ahead of a method's dot -/
def baseE : Expr → Bool
  | .Name _ _ => true
  | .Subscript _ _ _ => true
  | .Attribute _ _ _ => true
  | .Constant _ _ _ => true
  | _ => false
theorem star_plain {e : Expr} {es : List Expr} {env : PySem.Env} (h : plainE e = true) : starEach (e :: es) env = (false, eval e env) :: starEach es env := by
  cases e <;> first | (simp [plainE] at h; done) | rfl
theorem star_all {env : PySem.Env} : ∀ {es : List Expr}, es.all plainE = true → starEach es env = es.map fun e => (false, eval e env)
  | [], _ => rfl
  | e :: es, h => by
    simp only [List.all_cons, Bool.and_eq_true] at h
    rw [star_plain h.1, star_all h.2]
    rfl
theorem star_none {env : PySem.Env} {es : List Expr} {pos : Pos} (h : es.all plainE = true) : (backTo pos (starEach es env)).any (·.1) = false := by
  rw [star_all h]
  unfold backTo
  rw [List.map_map, List.any_map]
  rw [List.any_eq_false]
  intro e _
  simp
theorem base_ok {e : Expr} {a : PySem.Str} {env : PySem.Env} {x : Sem Value} (h : baseE e = true) : attributeBase e a env x = x := by
  cases e <;> first | (simp [baseE] at h; done) | rfl
theorem set_ok {e : Expr} {env : PySem.Env} (h : plainE e = true) : ∀ x, foldedSetIterable e env x = pure x := by
  intro x
  cases e <;> first | (simp [plainE] at h; done) | rfl
theorem marks_ok {e : Expr} {op : CmpOp} (h : plainE e = true) : behindInMarks op e = false := by
  cases e <;> first | (simp [plainE] at h; done) | rfl
theorem plainIx_ok {e : Expr} (h : plainE e = true) : PlainIx e := by
  intro o i
  cases e <;> first | (simp [plainE] at h; done) | rfl

variable {G : Gx} {I I' I1 I2 H H' H1 H2 : Hp} {φ φ' φ1 φ2 : List Addr} {S S' : Sto} {K : PySem.W.Frag} {X : Cx} {cf : CallF} {E0' : XK}

/-! ### what follows behind an evaluation -/
def KX (G : Gx) (Ex : XK) (I : Hp) (φ : List Addr) (H : Hp) (c : Nat) (S' : Sto) : Prop :=
  ∀ I' φ' H', Ext I φ H I' φ' H' → Sim G I' φ' S' H' → Ex (.ref (G.cad c)) none H'
/-- r came of the state (I, φ, H); k: what is wanted of what is told -/
def Post {α : Type} (G : Gx) (Ex : XK) (I : Hp) (φ : List Addr) (H : Hp) (r : Rs α) (k : α → Sto → Prop) : Prop :=
  match r with
  | .ok a S' => k a S'
  | .ex c S' => KX G Ex I φ H c S'
  | .bad => False
theorem KE.ext {w : W} {Q : VK} (e : Ext I φ H I1 φ1 H1) (k : KE G I φ H S w Q) : KE G I1 φ1 H1 S w Q := fun v I' φ' H' e' s r => k v I' φ' H' (e.trans e') s r
theorem KF.ext {xs : List W} {Q : VK} (e : Ext I φ H I1 φ1 H1) (k : KF G I φ H S xs Q) : KF G I1 φ1 H1 S xs Q := fun p us I' φ' H' e' s h r l => k p us I' φ' H' (e.trans e') s h r l
theorem KX.ext {Ex : XK} {c : Nat} (e : Ext I φ H I1 φ1 H1) (k : KX G Ex I φ H c S) : KX G Ex I1 φ1 H1 c S := fun I' φ' H' e' s => k I' φ' H' (e.trans e') s
def tE (G : Gx) (cf : CallF) (Ex : XK) (m : E) : TE := fun σ H Q => ∃ I φ ρ S, Sim G I φ S H ∧ Envs G I φ ρ σ ∧ Post G Ex I φ H (ev cf m ρ S) fun w S' => KE G I φ H S' w Q
/-- a new list -/
def tF (G : Gx) (cf : CallF) (Ex : XK) (m : E) : TE := fun σ H Q => ∃ I φ ρ S, Sim G I φ S H ∧ Envs G I φ ρ σ ∧ Post G Ex I φ H (ev cf m ρ S) fun w S' => ∃ xs, w = .lst xs ∧ KF G I φ H S' xs Q
def tT (G : Gx) (cf : CallF) (Ex : XK) (m : E) : TT := fun σ H Q => ∃ I φ ρ S, Sim G I φ S H ∧ Envs G I φ ρ σ ∧ Post G Ex I φ H (ev cf m ρ S) fun w S' => ∃ b, w = .bl b ∧ ∀ I' φ' H', Ext I φ H I' φ' H' → Sim G I' φ' S' H' → Q b H'
def tA (G : Gx) (cf : CallF) (Ex : XK) (ms : List E) : TA := fun σ H Q => ∃ I φ ρ S, Sim G I φ S H ∧ Envs G I φ ρ σ ∧ Post G Ex I φ H (evs cf ms ρ S) fun ws S' => ∀ vs I' φ' H', Ext I φ H I' φ' H' → Sim G I' φ' S' H' → Rels G I' φ' ws vs → Q vs H'
theorem PE_imp {e : Expr} {t t' : TE} (h : PE X e t) (i : ∀ σ H Q, t' σ H Q → t σ H Q) : PE X e t' := ⟨fun pins s σ H Q J q => h.run pins s σ H Q J (i σ H Q q)⟩
theorem PT_imp {e : Expr} {t t' : TT} (h : PT X e t) (i : ∀ σ H Q, t' σ H Q → t σ H Q) : PT X e t' := ⟨fun pins s σ H Q J q => h.run pins s σ H Q J (i σ H Q q)⟩
theorem PA_imp {e : List Expr} {t t' : TA} (h : PA X e t) (i : ∀ σ H Q, t' σ H Q → t σ H Q) : PA X e t' := ⟨fun pos pins s σ H Q J q => h.run pos pins s σ H Q J (i σ H Q q)⟩
theorem PW_imp {e : Expr} {t t' : TT} (h : PW X e t) (i : ∀ σ H Q, t' σ H Q → t σ H Q) : PW X e t' := ⟨fun wh pins s σ H Q J q => h.run wh pins s σ H Q J (i σ H Q q)⟩
/-- a first part's answer -/
theorem Post.bind {α β : Type} {Ex : XK} {r : Rs α} {f : α → Sto → Rs β} {k : β → Sto → Prop} (h : Post G Ex I φ H (r.bind f) k) : Post G Ex I φ H r fun a S1 => Post G Ex I φ H (f a S1) k := by
  cases r with
  | ok a S => exact h
  | ex c S => exact h
  | bad => exact h
theorem Post.ofO {α : Type} {Ex : XK} {o : Option α} {k : α → Sto → Prop} (h : Post G Ex I φ H (ofO o S) k) : ∃ a, o = some a ∧ k a S := by
  cases o with
  | none => exact h.elim
  | some a => exact ⟨a, rfl, h⟩
theorem Post.imp {α : Type} {Ex : XK} {r : Rs α} {k k' : α → Sto → Prop} (h : Post G Ex I φ H r k) (i : ∀ a S', r = .ok a S' → k a S' → k' a S') : Post G Ex I φ H r k' := by
  cases r with
  | ok a S => exact i a S rfl h
  | ex c S => exact h
  | bad => exact h
theorem Post.ext {α : Type} {Ex : XK} {r : Rs α} {k k' : α → Sto → Prop} (e : Ext I φ H I1 φ1 H1) (h : Post G Ex I φ H r k) (i : ∀ a S', r = .ok a S' → k a S' → k' a S') : Post G Ex I1 φ1 H1 r k' := by
  cases r with
  | ok a S => exact i a S rfl h
  | ex c S => exact KX.ext e h
  | bad => exact h

/-! ### the pieces: from the parts' readings to the whole's -/
/-- one operand -/
theorem tE_step {Ex : XK} {a : E} {σ : L2.St} {ρ : Env} {Q : VK} (s : Sim G I φ S H) (ev' : Envs G I φ ρ σ) (h : Post G Ex I φ H (ev cf a ρ S) fun w S1 => ∀ v I1 φ1 H1, Ext I φ H I1 φ1 H1 → Sim G I1 φ1 S1 H1 → Rel G I1 φ1 w v → Q v H1) : tE G cf Ex a σ H Q :=
  ⟨I, φ, ρ, S, s, ev', h⟩
theorem tOp_of {Ex : XK} {o : Op} {a b : E} (r : R2) (hr : ∀ x y H Q, rOp G o [x, y] H Q → r x y H Q) : ∀ σ H Q, tE G cf Ex (.op o [a, b]) σ H Q → tOp r (tE G cf Ex a) (tE G cf Ex b) σ H Q := by
  rintro σ H Q ⟨I, φ, ρ, S, s, en, h⟩
  simp only [ev, evs] at h
  refine tE_step s en (h.bind.bind.imp fun wa S1 _ h1 => ?_)
  intro v I1 φ1 H1 e1 s1 r1
  refine tE_step s1 (en.ext e1) (h1.bind.bind.ext e1 fun wb S2 _ h2 => ?_)
  intro u I2 φ2 H2 e2 s2 r2
  simp only [Rs.bind] at h2
  obtain ⟨w, hw, k⟩ := Post.ofO h2
  exact hr _ _ _ _ ⟨I2, φ2, S2, _, w, s2, .cons (r1.ext e2) (.cons r2 .nil), hw, KE.ext (e1.trans e2) k⟩
theorem tOpF_of {Ex : XK} {o : Op} {a b : E} (r : R2) (hr : ∀ x y H Q, rFr G o [x, y] H Q → r x y H Q) : ∀ σ H Q, tF G cf Ex (.op o [a, b]) σ H Q → tOp r (tE G cf Ex a) (tE G cf Ex b) σ H Q := by
  rintro σ H Q ⟨I, φ, ρ, S, s, en, h⟩
  simp only [ev, evs] at h
  refine tE_step s en (h.bind.bind.imp fun wa S1 _ h1 => ?_)
  intro v I1 φ1 H1 e1 s1 r1
  refine tE_step s1 (en.ext e1) (h1.bind.bind.ext e1 fun wb S2 _ h2 => ?_)
  intro u I2 φ2 H2 e2 s2 r2
  simp only [Rs.bind] at h2
  obtain ⟨w, hw, xs, rfl, k⟩ := Post.ofO h2
  exact hr _ _ _ _ ⟨I2, φ2, S2, _, xs, s2, .cons (r1.ext e2) (.cons r2 .nil), hw, KF.ext (e1.trans e2) k⟩
theorem tUn_of {Ex : XK} {o : Op} {a : E} (r : V → Hp → VK → Prop) (hr : ∀ x H Q, rOp G o [x] H Q → r x H Q) : ∀ σ H Q, tE G cf Ex (.op o [a]) σ H Q → tUn r (tE G cf Ex a) σ H Q := by
  rintro σ H Q ⟨I, φ, ρ, S, s, en, h⟩
  simp only [ev, evs] at h
  refine tE_step s en (h.bind.bind.imp fun wa S1 _ h1 => ?_)
  intro v I1 φ1 H1 e1 s1 r1
  simp only [Rs.bind] at h1
  obtain ⟨w, hw, k⟩ := Post.ofO h1
  exact hr _ _ _ ⟨I1, φ1, S1, _, w, s1, .cons r1 .nil, hw, KE.ext e1 k⟩
theorem tCB_of {Ex : XK} {o : Op} {as : List E} : ∀ σ H Q, tE G cf Ex (.op o as) σ H Q → tCB (rOp G o) (tA G cf Ex as) σ H Q := by
  rintro σ H Q ⟨I, φ, ρ, S, s, en, h⟩
  simp only [ev] at h
  refine ⟨I, φ, ρ, S, s, en, h.bind.imp fun ws S1 _ h1 => ?_⟩
  intro vs I1 φ1 H1 e1 s1 r1
  obtain ⟨w, hw, k⟩ := Post.ofO h1
  exact ⟨I1, φ1, S1, _, w, s1, r1, hw, KE.ext e1 k⟩
theorem tCBF_of {Ex : XK} {o : Op} {as : List E} : ∀ σ H Q, tF G cf Ex (.op o as) σ H Q → tCB (rFr G o) (tA G cf Ex as) σ H Q := by
  rintro σ H Q ⟨I, φ, ρ, S, s, en, h⟩
  simp only [ev] at h
  refine ⟨I, φ, ρ, S, s, en, h.bind.imp fun ws S1 _ h1 => ?_⟩
  intro vs I1 φ1 H1 e1 s1 r1
  obtain ⟨w, hw, xs, rfl, k⟩ := Post.ofO h1
  exact ⟨I1, φ1, S1, _, xs, s1, r1, hw, KF.ext e1 k⟩
/-- from a new list to a frozen one -/
theorem tE_tF {Ex : XK} {m : E} (hm : ∀ ρ S w S', ev cf m ρ S = .ok w S' → ∃ xs, w = .lst xs) : ∀ σ H Q, tE G cf Ex m σ H Q → tF G cf Ex m σ H Q := by
  rintro σ H Q ⟨I, φ, ρ, S, s, en, h⟩
  refine ⟨I, φ, ρ, S, s, en, h.imp fun w S1 e h1 => ?_⟩
  obtain ⟨xs, rfl⟩ := hm ρ S w S1 e
  exact ⟨xs, rfl, h1.toKF⟩

/-! ### lists of arguments -/
inductive PEs (G : Gx) (cf : CallF) (Ex : XK) (X : Cx) : List E → List Expr → Prop
  | nil : PEs G cf Ex X [] []
  | cons {m : E} {ms : List E} {e : Expr} {es : List Expr} : plainE e = true → PE X e (tE G cf Ex m) → PEs G cf Ex X ms es → PEs G cf Ex X (m :: ms) (e :: es)
theorem PEs.all {Ex : XK} {ms : List E} {es : List Expr} (h : PEs G cf Ex X ms es) : es.all plainE = true := by
  induction h with
  | nil => rfl
  | cons a _ _ ih => simp [a, ih]
theorem PEs.pa {Ex : XK} : ∀ {ms : List E} {es : List Expr}, PEs G cf Ex X ms es → PA X es (tA G cf Ex ms)
  | _, _, .nil => PA_imp pa_nil fun σ H Q ⟨I, φ, ρ, S, s, en, h⟩ => by
    simp only [evs] at h
    exact h [] I φ H (Ext.refl _ _ _) s rfl
  | m :: ms, e :: es, .cons p h t => by
    refine PA_imp (pa_cons h t.pa (star_plain p)) fun σ H Q ⟨I, φ, ρ, S, s, en, h⟩ => ?_
    simp only [evs] at h
    refine tE_step s en (h.bind.imp fun wa S1 _ h1 => ?_)
    intro v I1 φ1 H1 e1 s1 r1
    refine ⟨I1, φ1, ρ, S1, s1, en.ext e1, h1.bind.ext e1 fun ws S2 _ h2 => ?_⟩
    intro vs I2 φ2 H2 e2 s2 r2
    exact h2 _ _ _ _ (e1.trans e2) s2 (.cons (r1.ext e2) r2)

/-! ### where one stands -/
def bltNames : List PySem.Str := ["len", "list", "tuple", "sorted", "all", "int", "min", "max", "range", "isinstance", "bool", "str", "enumerate", "zip"]
def spF (G : Gx) (cf : CallF) (i np : Nat) : Sp := fun vs H Q Ex => vs.length = np ∧ ∃ I φ S ws, Sim G I φ S H ∧ Rels G I φ ws vs ∧ Post G Ex I φ H (cf i ws S) fun w S' => KE G I φ H S' w Q
structure XOk (T : Tab) (G : Gx) (cf : CallF) (Ex : XK) (n : Nat) (sc : Scope) (X : Cx) : Prop where
  calm : X.calm = true
  hk : X.K = G.K
  nd : X.N.Nodup
  hN : X.N = T.N
  hsc : X.env.scope = sc
  room : Room n X.A
  blt : ∀ x ∈ bltNames, X.mg x = none
  fns : ∀ x i np, (x, i, np) ∈ T.fnm → ∃ f fd ps, ps.length = np ∧ X.mg x = some (.ref f) ∧ PySem.W.keepIn X.K (.ref f) = true ∧ Binds X.K fd ps [] ∧ FnOk X.prog X.w X.K X.mg X.base (L2.CX X.prog X.w) n f fd ps (spF G cf i np)
  csts : ∀ x w, (x, w) ∈ T.cst → ∃ u v, X.mg x = some u ∧ L2.RelV v u ∧ ∀ I φ, Rel G I φ w v
  pass : Passes (L2.CX X.prog X.w) X Ex
theorem XOk.gl {T : Tab} {Ex : XK} {n : Nat} {sc : Scope} (x : XOk T G cf Ex n sc X) {y : PySem.Str} (h : isGl sc y = true) : Gl X y := by
  show X.env.scope.names.lookup y = _
  rw [x.hsc]
  exact isGl_ok h
theorem XOk.hu {T : Tab} {Ex : XK} {n : Nat} {sc : Scope} (x : XOk T G cf Ex n sc X) : X.A.units + 65 < cLine := by
  have := x.room.un
  omega
end Tw

/-! Tw, part H: what is walked; calls of defs. -/
namespace Tw
open PySem PySem.Spec PyProof.Rows L2

variable {G : Gx} {I I' I1 I2 H H' H1 H2 : Hp} {φ φ' φ1 φ2 : List Addr} {S S' : Sto} {K : PySem.W.Frag} {X : Cx} {cf : CallF} {T : Tab} {Ex : XK} {n : Nat} {sc : Scope}

/-! ### walks -/
def Yields (G : Gx) (J : It) (I : Hp) (φ : List Addr) (xs : List W) : Prop :=
  ∀ I' φ' S' H', Same I I' → Pre φ φ' → Sim G I' φ' S' H' → ∀ i,
    (∀ w, xs[i]? = some w → J.go i H' ∧ ∀ v H'', J.yld i H' v H'' → ∃ I'', Ext I' φ' H' I'' φ' H'' ∧ Sim G I'' φ' S' H'' ∧ Rel G I'' φ' w v) ∧ (xs.length ≤ i → J.stop i H')
def tI (G : Gx) (cf : CallF) (Ex : XK) (k : ItK) (srcs : List E) : TI := fun σ H R => ∃ I φ ρ S, Sim G I φ S H ∧ Envs G I φ ρ σ ∧ Post G Ex I φ H (evs cf srcs ρ S) fun ws S1 =>
  ∃ xs, itVals k ws = some xs ∧ ∀ J I1 φ1 H1, Ext I φ H I1 φ1 H1 → Sim G I1 φ1 S1 H1 → Yields G J I1 φ1 xs → R J H1
theorem PI_imp {tg e : Expr} {t t' : TI} (h : PI X tg e t) (i : ∀ σ H Q, t' σ H Q → t σ H Q) : PI X tg e t' := ⟨fun pins s σ H Q J q => h.run pins s σ H Q J (i σ H Q q)⟩

theorem yields_list {a : Addr} {vs : List V} {xs : List W} (ha : Rd I a (.lst vs)) (r : Rels G I φ xs vs) : Yields G (Itl K a) I φ xs := by
  intro I' φ' S' H' h1 h2 s i
  have hq : SqL K H' a vs := .inl (rd_mono (h1.trans s.same) ha)
  refine ⟨fun w hw => ?_, fun hl => ⟨vs, hq, by rw [r.length]; exact hl⟩⟩
  obtain ⟨v, hv, rv⟩ := r.get hw
  refine ⟨⟨vs, v, hq, hv⟩, fun u H'' hy => ?_⟩
  obtain ⟨rfl, hy⟩ := hy
  have := hy vs hq
  rw [hv] at this
  cases this
  exact ⟨I', Ext.refl _ _ _, s, rv.mono h1 h2⟩
theorem yields_klst {a : Addr} {ns : List Int} (hk : K = G.K) (ha : SqL G.K I a (ns.map V.int)) : Yields G (Itl K a) I φ (ns.map .int) := by
  subst hk
  intro I' φ' S' H' h1 h2 s i
  have hq : SqL G.K H' a (ns.map V.int) := (h1.trans s.same).seq ha
  refine ⟨fun w hw => ?_, fun hl => ⟨_, hq, by simpa using hl⟩⟩
  obtain ⟨v, hv, rv⟩ := (relsI (G := G) (I := I') (φ := φ') ns).get hw
  refine ⟨⟨_, v, hq, hv⟩, fun u H'' hy => ?_⟩
  obtain ⟨rfl, hy⟩ := hy
  have := hy _ hq
  rw [hv] at this
  cases this
  exact ⟨I', Ext.refl _ _ _, s, rv⟩
theorem yields_tup {a : Addr} {vs : List V} {xs : List W} (ha : I a = some (.tup vs)) (r : Rels G I φ xs vs) : Yields G (Itt K a) I φ xs := by
  intro I' φ' S' H' h1 h2 s i
  have hq : SqT K H' a vs := .inl (.inl (s.same _ _ (h1 _ _ ha)))
  refine ⟨fun w hw => ?_, fun hl => ⟨vs, hq, by rw [r.length]; exact hl⟩⟩
  obtain ⟨v, hv, rv⟩ := r.get hw
  refine ⟨⟨vs, v, hq, hv⟩, fun u H'' hy => ?_⟩
  obtain ⟨rfl, hy⟩ := hy
  have := hy vs hq
  rw [hv] at this
  cases this
  exact ⟨I', Ext.refl _ _ _, s, rv.mono h1 h2⟩
theorem yields_range (lo : Int) (n : Nat) : Yields G (Itr lo n) I φ ((List.range n).map fun (j : Nat) => W.int (lo + j)) := by
  intro I' φ' S' H' h1 h2 s i
  refine ⟨fun w hw => ?_, fun hl => by show n ≤ i; simpa using hl⟩
  rw [List.getElem?_map] at hw
  cases hr : (List.range n)[i]? with
  | none => rw [hr] at hw; cases hw
  | some j =>
    rw [hr] at hw
    cases hw
    have hi := (List.getElem?_eq_some_iff.mp hr).1
    have hj : j = i := by
      have := (List.getElem?_eq_some_iff.mp hr).2
      simp at this
      exact this.symm
    subst hj
    refine ⟨by show j < n; simpa using hi, fun u H'' hy => ?_⟩
    obtain ⟨rfl, rfl⟩ := hy
    exact ⟨I', Ext.refl _ _ _, s, rfl⟩
theorem yields_str (z : List Nat) : Yields G (Its ⟨z.toArray⟩) I φ (z.map fun c => .str [c]) := by
  intro I' φ' S' H' h1 h2 s i
  refine ⟨fun w hw => ?_, fun hl => ?_⟩
  · rw [List.getElem?_map] at hw
    cases hr : z[i]? with
    | none => rw [hr] at hw; cases hw
    | some c =>
      rw [hr] at hw
      cases hw
      refine ⟨?_, fun u H'' hy => ?_⟩
      · show i < z.toArray.size
        simpa using (List.getElem?_eq_some_iff.mp hr).1
      · obtain ⟨rfl, d, hd, rfl⟩ := hy
        have : z[i]? = some d := by simpa using hd
        rw [hr] at this
        cases this
        exact ⟨I', Ext.refl _ _ _, s, rfl⟩
  · show z.toArray.size ≤ i
    simpa using hl
theorem enumT_get : ∀ (xs : List W) (k i : Nat), (enumT k xs)[i]? = xs[i]?.map fun x => W.tup [.int ((k + i : Nat) : Int), x]
  | [], k, i => by simp [enumT]
  | x :: xs, k, 0 => by simp [enumT]
  | x :: xs, k, i + 1 => by
    simp only [enumT, List.getElem?_cons_succ]
    rw [enumT_get xs (k + 1) i]
    congr 1
    funext y
    congr 3
    omega
theorem enumT_len : ∀ (xs : List W) (k : Nat), (enumT k xs).length = xs.length
  | [], _ => rfl
  | x :: xs, k => by simp [enumT, enumT_len xs]
theorem yields_enum {a : Addr} {vs : List V} {xs : List W} (ha : Rd I a (.lst vs)) (r : Rels G I φ xs vs) : Yields G (Ite K a) I φ (enumT 0 xs) := by
  intro I' φ' S' H' h1 h2 s i
  have hq : SqL K H' a vs := .inl (rd_mono (h1.trans s.same) ha)
  refine ⟨fun w hw => ?_, fun hl => ⟨vs, hq, by rw [r.length]; rw [enumT_len] at hl; exact hl⟩⟩
  rw [enumT_get] at hw
  cases hx : xs[i]? with
  | none => rw [hx] at hw; cases hw
  | some x =>
    rw [hx] at hw
    cases hw
    obtain ⟨v, hv, rv⟩ := r.get hx
    refine ⟨⟨vs, v, hq, hv⟩, fun u H'' hy => ?_⟩
    obtain ⟨T, y, rfl, hT, rfl, hy⟩ := hy
    have := hy vs hq
    rw [hv] at this
    cases this
    obtain ⟨s2, e2⟩ := s.newI (o := .tup [.int (i : Nat), v]) hT
    refine ⟨_, e2, s2, ⟨T, _, rfl, upd_same, ?_⟩⟩
    refine ⟨_, _, rfl, ?_, Rels.one ((rv.mono h1 h2).mono e2.same e2.pre')⟩
    simp [Rel]
theorem zipT_get : ∀ (xs ys : List W) (i : Nat), (zipT xs ys)[i]? = match xs[i]?, ys[i]? with
    | some x, some y => some (.tup [x, y])
    | _, _ => none
  | [], ys, i => by simp [zipT]
  | x :: xs, [], i => by cases h : (x :: xs)[i]? <;> simp [zipT]
  | x :: xs, y :: ys, 0 => by simp [zipT]
  | x :: xs, y :: ys, i + 1 => by simp only [zipT, List.getElem?_cons_succ]; exact zipT_get xs ys i
theorem zipT_len : ∀ (xs ys : List W), (zipT xs ys).length = min xs.length ys.length
  | [], _ => by simp [zipT]
  | _ :: _, [] => by simp [zipT]
  | x :: xs, y :: ys => by simp [zipT, zipT_len xs ys]
theorem yields_zip {a b : Addr} {vs us : List V} {xs ys : List W} (ha : Rd I a (.lst vs)) (r : Rels G I φ xs vs) (hb : Rd I b (.lst us)) (r2 : Rels G I φ ys us) : Yields G (Itz K a b) I φ (zipT xs ys) := by
  intro I' φ' S' H' h1 h2 s i
  have hq : SqL K H' a vs := .inl (rd_mono (h1.trans s.same) ha)
  have hq2 : SqL K H' b us := .inl (rd_mono (h1.trans s.same) hb)
  have l1 := r.length
  have l2 := r2.length
  refine ⟨fun w hw => ?_, fun hl => ⟨vs, us, hq, hq2, by rw [zipT_len] at hl; omega⟩⟩
  rw [zipT_get] at hw
  split at hw
  · rename_i x y hx hy
    cases hw
    obtain ⟨v, hv, rv⟩ := r.get hx
    obtain ⟨v2, hv2, rv2⟩ := r2.get hy
    refine ⟨⟨vs, us, v, v2, hq, hq2, hv, hv2⟩, fun u H'' hyy => ?_⟩
    obtain ⟨T, y1, y2, rfl, hT, rfl, hy1, hy2⟩ := hyy
    have := hy1 vs hq
    rw [hv] at this
    cases this
    have := hy2 us hq2
    rw [hv2] at this
    cases this
    obtain ⟨s2, e2⟩ := s.newI (o := .tup [v, v2]) hT
    exact ⟨_, e2, s2, ⟨T, _, rfl, upd_same, .cons ((rv.mono h1 h2).mono e2.same e2.pre') (Rels.one ((rv2.mono h1 h2).mono e2.same e2.pre'))⟩⟩
  · cases hw
theorem tI_one {k : ItK} {m : E} : ∀ σ H R, tI G cf Ex k [m] σ H R → tE G cf Ex m σ H fun v H1 => ∃ I1 φ1 S1 w xs, Sim G I1 φ1 S1 H1 ∧ Rel G I1 φ1 w v ∧ itVals k [w] = some xs ∧ ∀ J, Yields G J I1 φ1 xs → R J H1 := by
  rintro σ H R ⟨I, φ, ρ, S, s, en, h⟩
  simp only [evs] at h
  refine tE_step s en (h.bind.imp fun w S1 _ h1 => ?_)
  intro v I1 φ1 H1 e1 s1 r1
  simp only [Rs.bind] at h1
  obtain ⟨xs, hx, q⟩ := h1
  exact ⟨I1, φ1, S1, w, xs, s1, r1, hx, fun J y => q J I1 φ1 H1 e1 s1 y⟩
theorem tE_mono {m : E} {σ : L2.St} {Q Q' : VK} (i : ∀ v H, Q v H → Q' v H) (h : tE G cf Ex m σ H Q) : tE G cf Ex m σ H Q' := by
  obtain ⟨I, φ, ρ, S, s, en, h⟩ := h
  exact ⟨I, φ, ρ, S, s, en, h.imp fun w S1 _ h1 v I' φ' H' e s r => i _ _ (h1 v I' φ' H' e s r)⟩
/-- the walk's syntax: the expressions that it asks -/
def itSyn (sc : Scope) (k : ItK) (tg e : Expr) : Option (List Expr) :=
  match k, e with
  | .range1, .Call (.Name f _) [a] [] _ => if decide (f = ("range" : PySem.Str)) && isGl sc f && plainE a then some [a] else none
  | .range2, .Call (.Name f _) [a, b] [] _ => if decide (f = ("range" : PySem.Str)) && isGl sc f && plainE a && plainE b then some [a, b] else none
  | .enum, .Call (.Name f _) [a] [] _ => match tg with
    | .Tuple _ _ _ => if decide (f = ("enumerate" : PySem.Str)) && isGl sc f && plainE a then some [a] else none
    | _ => none
  | .zip, .Call (.Name f _) [a, b] [] _ => match tg with
    | .Tuple _ _ _ => if decide (f = ("zip" : PySem.Str)) && isGl sc f && plainE a && plainE b then some [a, b] else none
    | _ => none
  | .list, e => if plainE e then some [e] else none
  | .tup, e => if plainE e then some [e] else none
  | .str, e => if plainE e then some [e] else none
  | _, _ => none
theorem PEs.one_inv {ms : List E} {e : Expr} (h : PEs G cf Ex X ms [e]) : ∃ m, ms = [m] ∧ plainE e = true ∧ PE X e (tE G cf Ex m) := by
  cases h with
  | cons p h t => cases t; exact ⟨_, rfl, p, h⟩
theorem PEs.two_inv {ms : List E} {a b : Expr} (h : PEs G cf Ex X ms [a, b]) : ∃ m m', ms = [m, m'] ∧ plainE a = true ∧ PE X a (tE G cf Ex m) ∧ plainE b = true ∧ PE X b (tE G cf Ex m') := by
  cases h with
  | cons p h t => obtain ⟨m', rfl, p', h'⟩ := t.one_inv; exact ⟨_, _, rfl, p, h, p', h'⟩
theorem range_eq (n : Nat) : ((List.range n).map fun (j : Nat) => W.int ((0 : Int) + j)) = (List.range n).map fun (j : Nat) => W.int j := by
  congr 1
  funext j
  rw [Int.zero_add]

theorem rels_one {v : List V} {w : W} (h : Rels G I φ [w] v) : ∃ y, v = [y] ∧ Rel G I φ w y := by
  obtain ⟨y, ys, rfl, ry, rr⟩ := h
  obtain rfl : ys = [] := rr
  exact ⟨y, rfl, ry⟩
theorem rels_two {v : List V} {w w' : W} (h : Rels G I φ [w, w'] v) : ∃ y y', v = [y, y'] ∧ Rel G I φ w y ∧ Rel G I φ w' y' := by
  obtain ⟨y, ys, rfl, ry, rr⟩ := h
  obtain ⟨y', rfl, ry'⟩ := rels_one rr
  exact ⟨y, y', rfl, ry, ry'⟩
theorem itOk {k : ItK} {tg e : Expr} {es : List Expr} {ms : List E} (h : itSyn sc k tg e = some es) (x : XOk T G cf Ex n sc X) (p : PEs G cf Ex X ms es) : PI X tg e (tI G cf Ex k ms) ∧ plainE e = true := by
  unfold itSyn at h
  split at h
  · split at h
    · rename_i hc
      cases h
      simp only [Bool.and_eq_true, decide_eq_true_eq] at hc
      obtain ⟨⟨rfl, hg⟩, pa⟩ := hc
      obtain ⟨m, rfl, _, _⟩ := p.one_inv
      refine ⟨PI_imp (pi_range1 (x.gl hg) (x.blt _ (by simp [bltNames])) p.pa (star_plain pa)) ?_, rfl⟩
      rintro σ H R ⟨I, φ, ρ, S, s, en, q⟩
      refine ⟨I, φ, ρ, S, s, en, q.imp fun ws S1 _ h1 => ?_⟩
      intro vs I1 φ1 H1 e1 s1 r1
      obtain ⟨xs, hx, q⟩ := h1
      match ws, hx with
      | [.int j], hx =>
        obtain ⟨y, rfl, ry⟩ := rels_one r1
        obtain rfl := rel_int ry
        simp only [itVals] at hx
        split at hx
        · rename_i hj
          cases hx
          simp only [Bool.and_eq_true, decide_eq_true_eq, LIM] at hj
          refine ⟨j, rfl, by omega, by omega, q _ I1 φ1 H1 e1 s1 ?_⟩
          rw [← range_eq]
          exact yields_range 0 j.toNat
        · cases hx
    · cases h
  · split at h
    · rename_i hc
      cases h
      simp only [Bool.and_eq_true, decide_eq_true_eq] at hc
      obtain ⟨⟨⟨rfl, hg⟩, pa⟩, pb⟩ := hc
      obtain ⟨m, m', rfl, _, _, _, _⟩ := p.two_inv
      refine ⟨PI_imp (pi_range2 (x.gl hg) (x.blt _ (by simp [bltNames])) p.pa (by rw [star_plain pa, star_plain pb]; rfl) (star_plain pb)) ?_, rfl⟩
      rintro σ H R ⟨I, φ, ρ, S, s, en, q⟩
      refine ⟨I, φ, ρ, S, s, en, q.imp fun ws S1 _ h1 => ?_⟩
      intro vs I1 φ1 H1 e1 s1 r1
      obtain ⟨xs, hx, q⟩ := h1
      match ws, hx with
      | [.int i, .int j], hx =>
        obtain ⟨y, y', rfl, ry, ry'⟩ := rels_two r1
        obtain rfl := rel_int ry
        obtain rfl := rel_int ry'
        simp only [itVals] at hx
        split at hx
        · rename_i hj
          cases hx
          simp only [Bool.and_eq_true, decide_eq_true_eq, LIM] at hj
          refine ⟨i, j, rfl, by omega, q _ I1 φ1 H1 e1 s1 ?_⟩
          exact yields_range i (j - i).toNat
        · cases hx
    · cases h
  · split at h
    · split at h
      · rename_i hc
        cases h
        simp only [Bool.and_eq_true, decide_eq_true_eq] at hc
        obtain ⟨⟨rfl, hg⟩, pa⟩ := hc
        obtain ⟨m, rfl, _, _⟩ := p.one_inv
        refine ⟨PI_imp (pi_enum (x.gl hg) (x.blt _ (by simp [bltNames])) p.pa (star_plain pa)) ?_, rfl⟩
        rintro σ H R ⟨I, φ, ρ, S, s, en, q⟩
        refine ⟨I, φ, ρ, S, s, en, q.imp fun ws S1 _ h1 => ?_⟩
        intro vs I1 φ1 H1 e1 s1 r1
        obtain ⟨xs, hx, q⟩ := h1
        match ws, hx with
        | [.lst zs], hx =>
          cases hx
          obtain ⟨y, rfl, ry⟩ := rels_one r1
          obtain ⟨a, us, rfl, hr, rr⟩ := ry
          exact ⟨a, us, rfl, .inl (rd_mono s1.same hr), q _ I1 φ1 H1 e1 s1 (yields_enum hr rr)⟩
      · cases h
    · cases h
  · split at h
    · split at h
      · rename_i hc
        cases h
        simp only [Bool.and_eq_true, decide_eq_true_eq] at hc
        obtain ⟨⟨⟨rfl, hg⟩, pa⟩, pb⟩ := hc
        obtain ⟨m, m', rfl, _, _, _, _⟩ := p.two_inv
        refine ⟨PI_imp (pi_zip (x.gl hg) (x.blt _ (by simp [bltNames])) p.pa (star_plain pa) (star_none (by simp [pb]))) ?_, rfl⟩
        rintro σ H R ⟨I, φ, ρ, S, s, en, q⟩
        refine ⟨I, φ, ρ, S, s, en, q.imp fun ws S1 _ h1 => ?_⟩
        intro vs I1 φ1 H1 e1 s1 r1
        obtain ⟨xs, hx, q⟩ := h1
        match ws, hx with
        | [.lst zs, .lst zs'], hx =>
          cases hx
          obtain ⟨y, y', rfl, ry, ry'⟩ := rels_two r1
          obtain ⟨a, us, rfl, hr, rr⟩ := ry
          obtain ⟨a', us', rfl, hr', rr'⟩ := ry'
          exact ⟨a, a', us, us', rfl, .inl (rd_mono s1.same hr), .inl (rd_mono s1.same hr'), q _ I1 φ1 H1 e1 s1 (yields_zip hr rr hr' rr')⟩
      · cases h
    · cases h
  · split at h
    · rename_i hc
      cases h
      obtain ⟨m, rfl, _, hm⟩ := p.one_inv
      refine ⟨PI_imp (pi_list hm) ?_, hc⟩
      intro σ H R q
      refine tE_mono ?_ (tI_one σ H R q)
      rintro v H1 ⟨I1, φ1, S1, w, xs, s1, r1, hx, q⟩
      match w, hx with
      | .lst zs, hx =>
        cases hx
        obtain ⟨a, us, rfl, hr, rr⟩ := r1
        exact ⟨a, rfl, ⟨us, .inl (rd_mono s1.same hr)⟩, q _ (yields_list hr rr)⟩
      | .klst ns, hx =>
        cases hx
        obtain ⟨a, rfl, hr⟩ := r1
        exact ⟨a, rfl, ⟨_, by rw [x.hk]; exact s1.same.seq hr⟩, q _ (yields_klst x.hk hr)⟩
    · cases h
  · split at h
    · rename_i hc
      cases h
      obtain ⟨m, rfl, _, hm⟩ := p.one_inv
      refine ⟨PI_imp (pi_tup hm) ?_, hc⟩
      intro σ H R q
      refine tE_mono ?_ (tI_one σ H R q)
      rintro v H1 ⟨I1, φ1, S1, w, xs, s1, r1, hx, q⟩
      match w, hx with
      | .tup zs, hx =>
        cases hx
        obtain ⟨a, us, rfl, hr, rr⟩ := r1
        exact ⟨a, rfl, ⟨us, .inl (.inl (s1.same _ _ hr))⟩, q _ (yields_tup hr rr)⟩
    · cases h
  · split at h
    · rename_i hc
      cases h
      obtain ⟨m, rfl, _, hm⟩ := p.one_inv
      refine ⟨PI_imp (pi_str hm) ?_, hc⟩
      intro σ H R q
      refine tE_mono ?_ (tI_one σ H R q)
      rintro v H1 ⟨I1, φ1, S1, w, xs, s1, r1, hx, q⟩
      match w, hx with
      | .str zs, hx =>
        cases hx
        obtain rfl : v = _ := r1
        exact ⟨_, rfl, q _ (yields_str zs)⟩
    · cases h
  · cases h
end Tw

/-! Tw, part I: the operations' syntax. -/
namespace Tw
open PySem PySem.Spec PyProof.Rows L2

variable {G : Gx} {I I' I1 I2 H H' H1 H2 : Hp} {φ φ' φ1 φ2 : List Addr} {S S' : Sto} {K : PySem.W.Frag} {X : Cx} {cf : CallF} {T : Tab} {Ex : XK} {n : Nat} {sc : Scope}

def binTab : Op → Option Operator
  | .add => some .Add
  | .sub => some .Sub
  | .mul => some .Mult
  | .fdiv => some .FloorDiv
  | .mod => some .Mod
  | .pow => some .Pow
  | _ => none
def cmpTab : Op → Option CmpOp
  | .eq => some .Eq
  | .ne => some .NotEq
  | .lt => some .Lt
  | .le => some .LtE
  | .gt => some .Gt
  | .ge => some .GtE
  | .isin => some .In
  | .notin => some .NotIn
  | _ => none
def callTab : Op → Option (PySem.Str × Value)
  | .len => some ("len", .builtin "len")
  | .list => some ("list", .type "list")
  | .tuple => some ("tuple", .type "tuple")
  | .sorted => some ("sorted", .builtin "sorted")
  | .all => some ("all", .builtin "all")
  | .int => some ("int", .type "int")
  | .min => some ("min", .builtin "min")
  | .max => some ("max", .builtin "max")
  | _ => none
theorem binTab_ok {o : Op} {c : Operator} (h : binTab o = some c) : OpR X (binaryOp c) (fun x y => rOp G o [x, y]) := by
  cases o <;> cases h
  · exact or_add
  · exact or_sub
  · exact or_mul
  · exact or_fdiv
  · exact or_mod
  · exact or_pow
theorem cmpTab_ok {o : Op} {c : CmpOp} (h : cmpTab o = some c) (hu : X.A.units + 65 < cLine) : OpR X (compareOp c) (fun x y => rOp G o [x, y]) := by
  cases o <;> cases h
  · exact or_eq (by omega)
  · exact or_ne (by omega)
  · exact or_lt (by omega)
  · exact or_le
  · exact or_gt
  · exact or_ge
  · exact or_in hu
  · exact or_notin hu
theorem sortedSem_lst {ws : List W} {S : Sto} {w : W} (h : opSem .sorted ws S = some w) : ∃ xs, w = .lst xs := by
  unfold opSem at h
  split at h <;> try (cases h; done)
  all_goals first
    | (rename_i hh; cases hh; done)
    | skip
  rename_i x hh
  cases hs : sortedSem S x with
  | none => rw [hs] at h; cases h
  | some xs => rw [hs] at h; cases h; exact ⟨xs, rfl⟩
theorem listSem_lst {ws : List W} {S : Sto} {w : W} (h : opSem .list ws S = some w) : ∃ xs, w = .lst xs := by
  unfold opSem at h
  split at h <;> try (cases h; done)
  all_goals first
    | (rename_i hh; cases hh; done)
    | skip
  rename_i x hh
  cases hs : seqOf S x with
  | none => rw [hs] at h; cases h
  | some xs => rw [hs] at h; cases h; exact ⟨xs, rfl⟩
theorem callTab_ok {o : Op} {f : PySem.Str} {v : Value} (hk : X.K = G.K) (h : callTab o = some (f, v)) (hc : X.calm = true) (hu : X.A.units + 65 < cLine) :
    CallR X v (rOp G o) ∧ bootBuiltins f = some v ∧ f ∈ bltNames ∧ f ≠ "__name__" ∧ (f == ("__debug__" : PySem.Str)) = false ∧ ((∃ id, v = .builtin id) ∨ ∃ t, v = .type t) := by
  cases o <;> cases h
  · exact ⟨or_len hk, by decide +kernel, by simp [bltNames], by decide, by decide, .inl ⟨_, rfl⟩⟩
  · exact ⟨fr_op (or_listF hk) fun _ _ _ => listSem_lst, by decide +kernel, by simp [bltNames], by decide, by decide, .inr ⟨_, rfl⟩⟩
  · exact ⟨or_tuple hk, by decide +kernel, by simp [bltNames], by decide, by decide, .inr ⟨_, rfl⟩⟩
  · exact ⟨fr_op (or_sortedF hc (by omega)) fun _ _ _ => sortedSem_lst, by decide +kernel, by simp [bltNames], by decide, by decide, .inl ⟨_, rfl⟩⟩
  · exact ⟨or_all hc, by decide +kernel, by simp [bltNames], by decide, by decide, .inl ⟨_, rfl⟩⟩
  · exact ⟨or_int, by decide +kernel, by simp [bltNames], by decide, by decide, .inr ⟨_, rfl⟩⟩
  · exact ⟨or_min hc, by decide +kernel, by simp [bltNames], by decide, by decide, .inl ⟨_, rfl⟩⟩
  · exact ⟨or_max hc, by decide +kernel, by simp [bltNames], by decide, by decide, .inl ⟨_, rfl⟩⟩
def isiOf : Op → Option String
  | .isi .int => some "int"
  | .isi .bool => some "bool"
  | .isi .str => some "str"
  | .isi .list => some "list"
  | .isi .tuple => some "tuple"
  | _ => none
theorem isiOf_ok {o : Op} {c : String} (h : isiOf o = some c) : ∃ t, o = .isi t ∧ (match t with | .int => c = "int" | .bool => c = "bool" | .str => c = "str" | .list => c = "list" | .tuple => c = "tuple" | .cls _ => False) ∧ PySem.Str.ofString c ∈ bltNames ∧ bootBuiltins (PySem.Str.ofString c) = some (.type c) ∧ PySem.Str.ofString c ≠ "__name__" ∧ (PySem.Str.ofString c == ("__debug__" : PySem.Str)) = false := by
  unfold isiOf at h
  split at h <;> cases h
  · exact ⟨_, rfl, rfl, by simp [bltNames], by decide +kernel, by decide, by decide⟩
  · exact ⟨_, rfl, rfl, by simp [bltNames], by decide +kernel, by decide, by decide⟩
  · exact ⟨_, rfl, rfl, by simp [bltNames], by decide +kernel, by decide, by decide⟩
  · exact ⟨_, rfl, rfl, by simp [bltNames], by decide +kernel, by decide, by decide⟩
  · exact ⟨_, rfl, rfl, by simp [bltNames], by decide +kernel, by decide, by decide⟩
/-- an operation's syntax: the expressions that it asks, from the left -/
def opSyn (sc : Scope) (o : Op) (e : Expr) : Option (List Expr) :=
  match e with
  | .BinOp a c b _ => if decide (binTab o = some c) then some [a, b] else none
  | .UnaryOp .USub a _ => match o with
    | .neg => some [a]
    | _ => none
  | .Compare a [c] [b] _ => match o with
    | .isnone => match c, b with
      | .Is, .Constant .none _ _ => some [a]
      | _, _ => none
    | .notnone => match c, b with
      | .IsNot, .Constant .none _ _ => some [a]
      | _, _ => none
    | o => if decide (cmpTab o = some c) then some [a, b] else none
  | .Subscript a (.Slice lo hi none _) _ => match o, lo, hi with
    | .slice false false, none, none => some [a]
    | .slice true false, some l, none => some [a, l]
    | .slice false true, none, some h => some [a, h]
    | .slice true true, some l, some h => some [a, l, h]
    | _, _, _ => none
  | .Subscript a b _ => match o with
    | .idx => some [a, b]
    | _ => none
  | .Call (.Name f _) (a :: as) [] _ => match isiOf o with
    | some c => match as with
      | [.Name g _] => if decide (f = ("isinstance" : PySem.Str)) && isGl sc f && decide (g = PySem.Str.ofString c) && isGl sc g then some [a] else none
      | _ => none
    | none => match callTab o with
      | some (g, _) => if decide (f = g) && isGl sc f then some (a :: as) else none
      | none => none
  | .Tuple es _ _ => match o with
    | .tupD => some es
    | _ => none
  | .List es _ => match o with
    | .lstD => some es
    | _ => none
  | _ => none
theorem tCall_ok {o : Op} {f : PySem.Str} {v : Value} {g : PySem.Str} {a : Expr} {as : List Expr} {p pos : Pos} {r : List V → Hp → VK → Prop} {t : TA} (h : callTab o = some (g, v)) (hf : f = g) (hg : isGl sc f = true) (x : XOk T G cf Ex n sc X) (hr : CallR X v r) (pl : (a :: as).all plainE = true) (pa : PA X (a :: as) t) :
    PE X (.Call (.Name f p) (a :: as) [] pos) (tCB r t) := by
  subst hf
  obtain ⟨_, h2, h3, h4, h5, h6⟩ := callTab_ok (G := G) x.hk h x.calm x.hu
  have pl1 : plainE a = true := by simp only [List.all_cons, Bool.and_eq_true] at pl; exact pl.1
  have pl2 : as.all plainE = true := by simp only [List.all_cons, Bool.and_eq_true] at pl; exact pl.2
  rcases h6 with ⟨id, rfl⟩ | ⟨t, rfl⟩
  · exact pe_callB hr (x.gl hg) (x.blt _ h3) h2 pa h4 h5 (star_plain pl1) (star_none pl2)
  · exact pe_callTy hr (x.gl hg) (x.blt _ h3) h2 pa h4 h5 (star_plain pl1) (star_none pl2)

/-- what follows, told again from a later state -/
theorem evs_nil {ρ : Env} {S : Sto} : evs cf [] ρ S = .ok [] S := by simp [evs]
theorem evs_cons {m : E} {ms : List E} {ρ : Env} {S : Sto} : evs cf (m :: ms) ρ S = (ev cf m ρ S).bind fun w S1 => (evs cf ms ρ S1).bind fun ws S2 => .ok (w :: ws) S2 := by simp [evs]
theorem bind_assoc {α β γ : Type} {r : Rs α} {f : α → Sto → Rs β} {g : β → Sto → Rs γ} : (r.bind f).bind g = r.bind fun a S => (f a S).bind g := by
  cases r <;> rfl
theorem bind_ok {α β : Type} {a : α} {S : Sto} {f : α → Sto → Rs β} : (Rs.ok a S).bind f = f a S := rfl
theorem isn_ok {o : Op} {c : CmpOp} (ho : OpR X (compareOp c) (fun x y H Q => y = .non ∧ rOp G o [x] H Q)) {a : Expr} {m : E} {j} {p pos : Pos} (ha : PE X a (tE G cf Ex m)) (hm : behindInMarks c (.Constant .none j p) = false) :
    PE X (.Compare a [c] [.Constant .none j p] pos) (tE G cf Ex (.op o [m])) ∧ PT X (.Compare a [c] [.Constant .none j p] pos) (tTest (tE G cf Ex (.op o [m]))) := by
  refine ⟨PE_imp (pe_cmpR ho ha pe_non hm) fun σ H Q h => ?_, PT_imp (pt_cmpR ho ha pe_non hm) fun σ H Q h => ?_⟩
  · exact tUn_of (fun x H Q => rOp G o [x] H Q) (fun _ _ _ h => h) σ H _ h |> tE_mono fun v H1 h1 => ⟨rfl, h1⟩
  · exact tUn_of (fun x H Q => rOp G o [x] H Q) (fun _ _ _ h => h) σ H _ h |> tE_mono fun v H1 h1 => ⟨rfl, h1⟩
theorem tT_test {m : E} : ∀ σ H Q, tT G cf Ex m σ H Q → tTest (tE G cf Ex m) σ H Q := by
  rintro σ H Q ⟨I, φ, ρ, S, s, en, h⟩
  refine ⟨I, φ, ρ, S, s, en, h.imp fun w S1 _ h1 => ?_⟩
  obtain ⟨b, rfl, q⟩ := h1
  intro v I1 φ1 H1 e1 s1 r1
  exact ⟨b, r1, q _ _ _ e1 s1⟩
/-- a test whose truth is its value's -/
def truE : Expr → Bool
  | .UnaryOp op _ _ => decide (op ≠ .Not)
  | .BoolOp _ _ _ => false
  | .IfExp _ _ _ _ => false
  | .Compare _ _ _ _ => false
  | _ => true
theorem tru_ok {e : Expr} {m : E} (h : PE X e (tE G cf Ex m)) (he : truE e = true) : PT X e (tT G cf Ex m) := by
  refine PT_imp (pt_val h ?_) fun σ H Q h => tT_test σ H Q h
  intro w
  cases e with
  | UnaryOp op a p => cases op <;> first | (simp [truE] at he; done) | rfl
  | _ => first | (simp [truE] at he; done) | rfl
theorem pe_pt {e : Expr} {m : E} (h : PT X e (tTest (tE G cf Ex m))) : PT X e (tT G cf Ex m) := PT_imp h fun σ H Q h => tT_test σ H Q h

/-- one more operand, of a list of them -/
theorem ops_step {m : E} {ms : List E} {σ : L2.St} {ρ : Env} {α : Type} {f : List W → Sto → Rs α} {k : α → Sto → Prop} (s : Sim G I φ S H) (en : Envs G I φ ρ σ) (h : Post G Ex I φ H ((evs cf (m :: ms) ρ S).bind f) k) :
    tE G cf Ex m σ H fun v H1 => ∃ I1 φ1 S1 w, Ext I φ H I1 φ1 H1 ∧ Sim G I1 φ1 S1 H1 ∧ Envs G I1 φ1 ρ σ ∧ Rel G I1 φ1 w v ∧ ev cf m ρ S = .ok w S1 ∧ Post G Ex I1 φ1 H1 ((evs cf ms ρ S1).bind fun ws S2 => f (w :: ws) S2) k := by
  rw [evs_cons, bind_assoc] at h
  refine tE_step s en (h.bind.imp fun w S1 he h1 => ?_)
  intro v I1 φ1 H1 e1 s1 r1
  refine ⟨I1, φ1, S1, w, e1, s1, en.ext e1, r1, he, ?_⟩
  rw [bind_assoc] at h1
  exact h1.ext e1 fun _ _ _ h => h
def isToI : E → Bool
  | .toI _ => true
  | _ => false
theorem toI_int {m : E} (hm : isToI m = true) {ρ : Env} {S S1 : Sto} {w : W} (h : ev cf m ρ S = .ok w S1) : ∃ i, w = .int i := by
  cases m <;> first | (cases hm; done) | skip
  rename_i a
  simp only [ev] at h
  cases he : ev cf a ρ S with
  | ok x S2 =>
    rw [he] at h
    simp only [Rs.bind] at h
    split at h
    · cases h; exact ⟨_, rfl⟩
    · cases h
  | ex c S2 => rw [he] at h; cases h
  | bad => rw [he] at h; cases h
/-- a slice's part -/
theorem part_step {m : E} {ms : List E} {σ : L2.St} {ρ : Env} {α : Type} {f : List W → Sto → Rs α} {k : α → Sto → Prop} {Q : Option Int → Hp → Prop} (hm : isToI m = true) (s : Sim G I φ S H) (en : Envs G I φ ρ σ) (h : Post G Ex I φ H ((evs cf (m :: ms) ρ S).bind f) k)
    (hQ : ∀ i I1 φ1 S1 H1, Ext I φ H I1 φ1 H1 → Sim G I1 φ1 S1 H1 → Envs G I1 φ1 ρ σ → Post G Ex I1 φ1 H1 ((evs cf ms ρ S1).bind fun ws S2 => f (.int i :: ws) S2) k → Q (some i) H1) : tPart (tE G cf Ex m) σ H Q := by
  refine tE_mono ?_ (ops_step s en h)
  rintro v H1 ⟨I1, φ1, S1, w, e1, s1, en1, r1, he, h1⟩
  obtain ⟨i, rfl⟩ := toI_int hm he
  exact ⟨i, rel_int r1, hQ i I1 φ1 S1 H1 e1 s1 en1 h1⟩
/-- the end of a slice's walk: the frozen and the new one -/
def slK (G : Gx) (fr : Bool) (I : Hp) (φ : List Addr) (H : Hp) (S' : Sto) (w : W) (Q : VK) : Prop := if fr then ∃ xs, w = .lst xs ∧ KF G I φ H S' xs Q else KE G I φ H S' w Q
theorem slK.ext {fr : Bool} {w : W} {Q : VK} (e : Ext I φ H I1 φ1 H1) (h : slK G fr I φ H S w Q) : slK G fr I1 φ1 H1 S w Q := by
  cases fr with
  | true => exact let ⟨xs, hw, k⟩ := h; ⟨xs, hw, k.ext e⟩
  | false => exact KE.ext e h
theorem sl_end {fr : Bool} {x : V} {w z : W} {lo hi : Option Int} {Q : VK} (s : Sim G I φ S H) (r : Rel G I φ z x) (h : sliceSem S z lo hi = some w) (k : slK G fr I φ H S w Q) : rSlice G fr x lo hi H Q :=
  ⟨I, φ, S, z, w, s, r, h, by cases fr <;> exact k⟩
/-- either reading -/
def tG (G : Gx) (cf : CallF) (Ex : XK) (fr : Bool) (m : E) : TE := fun σ H Q => ∃ I φ ρ S, Sim G I φ S H ∧ Envs G I φ ρ σ ∧ Post G Ex I φ H (ev cf m ρ S) fun w S' => slK G fr I φ H S' w Q
theorem slice_tt (fr : Bool) {m ml mh : E} (hl : isToI ml = true) (hh : isToI mh = true) : ∀ σ H Q, tG G cf Ex fr (.op (.slice true true) [m, ml, mh]) σ H Q → tSl (rSlice G fr) (tE G cf Ex m) (tPart (tE G cf Ex ml)) (tPart (tE G cf Ex mh)) σ H Q := by
  rintro σ H Q ⟨I, φ, ρ, S, s, en, h⟩
  simp only [ev] at h
  refine tE_mono ?_ (ops_step s en h)
  rintro v H1 ⟨I1, φ1, S1, w, e1, s1, en1, r1, he, h1⟩
  refine part_step hl s1 en1 h1 fun i I2 φ2 S2 H2 e2 s2 en2 h2 => part_step hh s2 en2 h2 fun j I3 φ3 S3 H3 e3 s3 en3 h3 => ?_
  simp only [evs_nil, bind_ok] at h3
  obtain ⟨z, hz, k⟩ := Post.ofO h3
  exact sl_end s3 ((r1.ext e2).ext e3) (by simpa [opSem, partsOf] using hz) (slK.ext ((e1.trans e2).trans e3) k)
theorem slice_tf (fr : Bool) {m ml : E} (hl : isToI ml = true) : ∀ σ H Q, tG G cf Ex fr (.op (.slice true false) [m, ml]) σ H Q → tSl (rSlice G fr) (tE G cf Ex m) (tPart (tE G cf Ex ml)) tNoPart σ H Q := by
  rintro σ H Q ⟨I, φ, ρ, S, s, en, h⟩
  simp only [ev] at h
  refine tE_mono ?_ (ops_step s en h)
  rintro v H1 ⟨I1, φ1, S1, w, e1, s1, en1, r1, he, h1⟩
  refine part_step hl s1 en1 h1 fun i I2 φ2 S2 H2 e2 s2 en2 h2 => ?_
  simp only [evs_nil, bind_ok] at h2
  obtain ⟨z, hz, k⟩ := Post.ofO h2
  exact sl_end s2 (r1.ext e2) (by simpa [opSem, partsOf] using hz) (slK.ext (e1.trans e2) k)
theorem slice_ft (fr : Bool) {m mh : E} (hh : isToI mh = true) : ∀ σ H Q, tG G cf Ex fr (.op (.slice false true) [m, mh]) σ H Q → tSl (rSlice G fr) (tE G cf Ex m) tNoPart (tPart (tE G cf Ex mh)) σ H Q := by
  rintro σ H Q ⟨I, φ, ρ, S, s, en, h⟩
  simp only [ev] at h
  refine tE_mono ?_ (ops_step s en h)
  rintro v H1 ⟨I1, φ1, S1, w, e1, s1, en1, r1, he, h1⟩
  show tPart (tE G cf Ex mh) σ H1 (fun u H3 => rSlice G fr v none u H3 Q)
  refine part_step hh s1 en1 h1 fun i I2 φ2 S2 H2 e2 s2 en2 h2 => ?_
  simp only [evs_nil, bind_ok] at h2
  obtain ⟨z, hz, k⟩ := Post.ofO h2
  exact sl_end s2 (r1.ext e2) (by simpa [opSem, partsOf] using hz) (slK.ext (e1.trans e2) k)
theorem slice_ff (fr : Bool) {m : E} : ∀ σ H Q, tG G cf Ex fr (.op (.slice false false) [m]) σ H Q → tSl (rSlice G fr) (tE G cf Ex m) tNoPart tNoPart σ H Q := by
  rintro σ H Q ⟨I, φ, ρ, S, s, en, h⟩
  simp only [ev] at h
  refine tE_mono ?_ (ops_step s en h)
  rintro v H1 ⟨I1, φ1, S1, w, e1, s1, en1, r1, he, h1⟩
  simp only [evs_nil, bind_ok] at h1
  obtain ⟨z, hz, k⟩ := Post.ofO h1
  exact sl_end s1 r1 (by simpa [opSem, partsOf] using hz) (slK.ext e1 k)
/-- what an operation asks of its operands' terms -/
def opAux : Op → List E → Bool
  | .slice _ _, _ :: r => r.all isToI
  | .slice _ _, [] => false
  | _, _ => true
theorem tG_E {m : E} : ∀ σ H Q, tE G cf Ex m σ H Q → tG G cf Ex false m σ H Q := fun _ _ _ h => h
theorem tG_F {m : E} : ∀ σ H Q, tF G cf Ex m σ H Q → tG G cf Ex true m σ H Q := fun _ _ _ h => h
theorem PEs.three_inv {ms : List E} {a b c : Expr} (h : PEs G cf Ex X ms [a, b, c]) : ∃ m m' m'', ms = [m, m', m''] ∧ plainE a = true ∧ PE X a (tE G cf Ex m) ∧ plainE b = true ∧ PE X b (tE G cf Ex m') ∧ plainE c = true ∧ PE X c (tE G cf Ex m'') := by
  cases h with
  | cons p h t => obtain ⟨m', m'', rfl, r⟩ := t.two_inv; exact ⟨_, _, _, rfl, p, h, r⟩
theorem sliceOk (hk : X.K = G.K) {o : Op} {a : Expr} {lo hi : Option Expr} {p2 pos : Pos} {es : List Expr} {ms : List E} (fr : Bool) (h : opSyn sc o (.Subscript a (.Slice lo hi none p2) pos) = some es) (p : PEs G cf Ex X ms es) (ha : opAux o ms = true) :
    PE X (.Subscript a (.Slice lo hi none p2) pos) (tG G cf Ex fr (.op o ms)) := by
  simp only [opSyn] at h
  split at h
  · cases h
    obtain ⟨m, rfl, _, h1⟩ := p.one_inv
    exact PE_imp (pe_slice (sr_slice hk fr) h1 po_none po_none) (slice_ff fr)
  · cases h
    obtain ⟨m, ml, rfl, _, h1, _, h2⟩ := p.two_inv
    simp [opAux] at ha
    exact PE_imp (pe_slice (sr_slice hk fr) h1 (po_some h2) po_none) (slice_tf fr ha)
  · cases h
    obtain ⟨m, ml, rfl, _, h1, _, h2⟩ := p.two_inv
    simp [opAux] at ha
    exact PE_imp (pe_slice (sr_slice hk fr) h1 po_none (po_some h2)) (slice_ft fr ha)
  · cases h
    obtain ⟨m, ml, mh, rfl, _, h1, _, h2, _, h3⟩ := p.three_inv
    simp [opAux] at ha
    exact PE_imp (pe_slice (sr_slice hk fr) h1 (po_some h2) (po_some h3)) (slice_tt fr ha.1 ha.2)
  · cases h
theorem KE_tupD {ws : List W} {us : List V} {Q : VK} (s : Sim G I φ S H) (r : Rels G I φ ws us) (k : KE G I φ H S (.tup ws) Q) (p : Addr) (hp : H p = none) : Q (.ref p) (upd H p (.tup us)) := k.tup s hp r
theorem all_cons {a : Expr} {as : List Expr} (h : (a :: as).all plainE = true) : plainE a = true ∧ as.all plainE = true := by simpa using h
theorem isiOk {o : Op} {c : String} {a : Expr} {m : E} {p1 p2 pos : Pos} (hc : isiOf o = some c) (x : XOk T G cf Ex n sc X) (g1 : isGl sc "isinstance" = true) (g2 : isGl sc (PySem.Str.ofString c) = true) (pl : plainE a = true) (ha : PE X a (tE G cf Ex m)) :
    PE X (.Call (.Name "isinstance" p1) [a, .Name (PySem.Str.ofString c) p2] [] pos) (tE G cf Ex (.op o [m])) := by
  obtain ⟨t, rfl, ht, hb, hv, hn, hd⟩ := isiOf_ok hc
  refine PE_imp (pe_callB (call_isi (X := X)) (x.gl g1) (x.blt _ (by simp [bltNames])) (by decide +kernel) (pa_cons ha (pa_cons (pe_bltn (v := .ty c) (x.gl g2) (x.blt _ hb) hv rfl hn hd) pa_nil (by rfl)) (star_plain pl)) (by decide) (by decide) (star_plain pl) (by rfl)) ?_
  intro σ H Q h
  refine tUn_of (fun y H Q => rIsi X.K [y, .ty c] H Q) ?_ σ H Q h
  rintro y H Q ⟨I, φ, S, ws, w, s, rs, e, k⟩
  obtain ⟨a, rfl, r⟩ := rels1 rs
  simp only [opSem, Option.map_eq_some_iff] at e
  obtain ⟨b, hb2, rfl⟩ := e
  obtain ⟨T, C, ty, kb, hC⟩ := isi_ty (K := X.K) s r hb2
  have : C = c := by cases t <;> simp_all
  subst this
  exact ⟨y, .ty C, .type T, .type C, b, rfl, .ty C, ty, kit_ty kb, k.here s rfl⟩
theorem opOk {o : Op} {e : Expr} {es : List Expr} {ms : List E} (h : opSyn sc o e = some es) (x : XOk T G cf Ex n sc X) (p : PEs G cf Ex X ms es) (hx : opAux o ms = true) : PE X e (tE G cf Ex (.op o ms)) := by
  have h0 := h
  unfold opSyn at h
  split at h
  · split at h
    · rename_i hb
      cases h
      obtain ⟨m, m', rfl, _, h1, _, h2⟩ := p.two_inv
      exact PE_imp (pe_op (binTab_ok (of_decide_eq_true hb)) h1 h2) (tOp_of _ fun _ _ _ _ h => h)
    · cases h
  · split at h
    · cases h
      obtain ⟨m, rfl, _, h1⟩ := p.one_inv
      exact PE_imp (pe_un or_neg h1) (tUn_of _ fun _ _ _ h => h)
    · cases h
  · split at h
    · split at h
      · cases h
        obtain ⟨m, rfl, _, h1⟩ := p.one_inv
        exact (isn_ok or_isnone h1 rfl).1
      · cases h
    · split at h
      · cases h
        obtain ⟨m, rfl, _, h1⟩ := p.one_inv
        exact (isn_ok or_notnone h1 rfl).1
      · cases h
    · split at h
      · rename_i hb
        cases h
        obtain ⟨m, m', rfl, _, h1, p2, h2⟩ := p.two_inv
        exact PE_imp (pe_cmpR (cmpTab_ok (of_decide_eq_true hb) x.hu) h1 h2 (marks_ok p2)) (tOp_of _ fun _ _ _ _ h => h)
      · cases h
  · exact PE_imp (sliceOk x.hk false h0 p hx) tG_E
  · split at h
    · cases h
      obtain ⟨m, m', rfl, _, h1, p2, h2⟩ := p.two_inv
      exact PE_imp (pe_ix (or_idx x.hk (by have := x.hu; omega)) h1 h2 (plainIx_ok p2)) (tOp_of _ fun _ _ _ _ h => h)
    · cases h
  · split at h
    · rename_i c hc
      split at h
      · split at h
        · rename_i hb
          cases h
          simp only [Bool.and_eq_true, decide_eq_true_eq] at hb
          obtain ⟨⟨⟨rfl, g1⟩, rfl⟩, g2⟩ := hb
          obtain ⟨m, rfl, p1, h1⟩ := p.one_inv
          exact isiOk hc x g1 g2 p1 h1
        · cases h
      · cases h
    · split at h
      · rename_i g v hc
        split at h
        · rename_i hb
          cases h
          simp only [Bool.and_eq_true, decide_eq_true_eq] at hb
          exact PE_imp (tCall_ok hc hb.1 hb.2 x (callTab_ok (G := G) x.hk hc x.calm x.hu).1 p.all p.pa) tCB_of
        · cases h
      · cases h
  · split at h
    · cases h
      refine PE_imp (pe_tup p.pa) fun σ H Q ⟨I, φ, ρ, S, s, en, h⟩ => ?_
      simp only [ev] at h
      refine ⟨I, φ, ρ, S, s, en, h.bind.imp fun ws S1 _ h1 => ?_⟩
      intro vs I1 φ1 H1 e1 s1 r1
      obtain ⟨w, hw, k⟩ := Post.ofO h1
      simp only [opSem] at hw
      split at hw
      · rename_i hl
        cases hw
        exact ⟨by rw [r1.length]; exact Nat.le_of_lt (lim_ok hl), fun q hq => (KE.ext e1 k).tup s1 hq r1⟩
      · cases hw
    · cases h
  · split at h
    · cases h
      refine PE_imp (pe_lst p.pa) fun σ H Q ⟨I, φ, ρ, S, s, en, h⟩ => ?_
      simp only [ev] at h
      refine ⟨I, φ, ρ, S, s, en, h.bind.imp fun ws S1 _ h1 => ?_⟩
      intro vs I1 φ1 H1 e1 s1 r1
      obtain ⟨w, hw, k⟩ := Post.ofO h1
      simp only [opSem] at hw
      split at hw
      · rename_i hl
        cases hw
        have hl' : vs.length ≤ sizeLine := by rw [r1.length]; exact Nat.le_of_lt (lim_ok hl)
        exact ⟨hl', fun q hq => (KE.ext e1 k).toKF.here s1 hq r1 hl'⟩
      · cases hw
    · cases h
  · cases h
/-- the same as a test -/
theorem opOkT {o : Op} {e : Expr} {es : List Expr} {ms : List E} (h : opSyn sc o e = some es) (x : XOk T G cf Ex n sc X) (p : PEs G cf Ex X ms es) (hx : opAux o ms = true) : PT X e (tT G cf Ex (.op o ms)) := by
  by_cases ht : truE e = true
  · exact tru_ok (opOk h x p hx) ht
  · unfold opSyn at h
    split at h
    · exact absurd rfl ht
    · exact absurd rfl ht
    · split at h
      · split at h
        · cases h
          obtain ⟨m, rfl, _, h1⟩ := p.one_inv
          exact pe_pt (isn_ok or_isnone h1 rfl).2
        · cases h
      · split at h
        · cases h
          obtain ⟨m, rfl, _, h1⟩ := p.one_inv
          exact pe_pt (isn_ok or_notnone h1 rfl).2
        · cases h
      · split at h
        · rename_i hb
          cases h
          obtain ⟨m, m', rfl, _, h1, p2, h2⟩ := p.two_inv
          exact pe_pt (PT_imp (pt_cmpR (cmpTab_ok (of_decide_eq_true hb) x.hu) h1 h2 (marks_ok p2)) fun σ H Q h => tOp_of _ (fun _ _ _ _ h => h) σ H _ h)
        · cases h
    all_goals first | exact absurd rfl ht | cases h
/-- the operations that tell a new list -/
def freshOp : Op → Bool
  | .add => true
  | .slice _ _ => true
  | .list => true
  | .sorted => true
  | .lstD => true
  | _ => false
theorem opOkF {o : Op} {e : Expr} {es : List Expr} {ms : List E} (hf : freshOp o = true) (h : opSyn sc o e = some es) (x : XOk T G cf Ex n sc X) (p : PEs G cf Ex X ms es) (hx : opAux o ms = true) : PE X e (tF G cf Ex (.op o ms)) := by
  have h0 := h
  unfold opSyn at h
  split at h
  · split at h
    · rename_i hb
      cases h
      obtain ⟨m, m', rfl, _, h1, _, h2⟩ := p.two_inv
      cases o <;> first | (cases hf; done) | (simp [binTab] at hb; done) | skip
      simp [binTab] at hb
      subst hb
      exact PE_imp (pe_op or_addF h1 h2) (tOpF_of _ fun _ _ _ _ h => h)
    · cases h
  · split at h
    · cases hf
    · cases h
  · split at h
    · cases hf
    · cases hf
    · split at h
      · rename_i hb
        cases o <;> first | (cases hf; done) | (simp [cmpTab] at hb; done)
      · cases h
  · exact PE_imp (sliceOk x.hk true h0 p hx) tG_F
  · split at h
    · cases hf
    · cases h
  · split at h
    · rename_i c hc
      cases o <;> first | (cases hf; done) | (cases hc; done)
    · split at h
      · rename_i g v hc
        split at h
        · rename_i hb
          cases h
          simp only [Bool.and_eq_true, decide_eq_true_eq] at hb
          cases o <;> first | (cases hf; done) | (cases hc; done) | skip
          · cases hc
            exact PE_imp (tCall_ok (o := .list) rfl hb.1 hb.2 x (or_listF x.hk) p.all p.pa) tCBF_of
          · cases hc
            exact PE_imp (tCall_ok (o := .sorted) rfl hb.1 hb.2 x (or_sortedF x.calm (by have := x.hu; omega)) p.all p.pa) tCBF_of
        · cases h
      · cases h
  · split at h
    · cases hf
    · cases h
  · split at h
    · cases h
      refine PE_imp (pe_lst p.pa) fun σ H Q ⟨I, φ, ρ, S, s, en, h⟩ => ?_
      simp only [ev] at h
      refine ⟨I, φ, ρ, S, s, en, h.bind.imp fun ws S1 _ h1 => ?_⟩
      intro vs I1 φ1 H1 e1 s1 r1
      obtain ⟨w, hw, xs, rfl, k⟩ := Post.ofO h1
      simp only [opSem] at hw
      split at hw
      · rename_i hl
        cases hw
        have hl' : vs.length ≤ sizeLine := by rw [r1.length]; exact Nat.le_of_lt (lim_ok hl)
        exact ⟨hl', fun q hq => (KF.ext e1 k).here s1 hq r1 hl'⟩
      · cases hw
    · cases h
  · cases h
end Tw

/-! Tw, part J: methods of lists. -/
namespace Tw
open PySem PySem.Spec PyProof.Rows L2

variable {G : Gx} {I I' I1 I2 H H' H1 H2 : Hp} {φ φ' φ1 φ2 : List Addr} {S S' : Sto} {K : PySem.W.Frag} {X : Cx} {cf : CallF} {T : Tab} {Ex : XK} {n : Nat} {sc : Scope}

def effTab : Eff → Option PySem.Str
  | .append => some "append"
  | .clear => some "clear"
  | .pop0 => some "pop"
  | .pop1 => some "pop"
  | .reverse => some "reverse"
  | _ => none
theorem effTab_ok {o : Eff} {nm : PySem.Str} (h : effTab o = some nm) : ∃ id, Slot "list" nm id ∧ typeOf (.builtin id) = pure (.type "method_descriptor") ∧ MtR X id (fun x xs => rEff G o (x :: xs)) := by
  cases o <;> cases h
  · exact ⟨_, PySem.F.slot_list_append, PySem.F.type_list_append, or_append⟩
  · exact ⟨_, PySem.F.slot_list_clear, PySem.F.type_list_clear, or_clear⟩
  · exact ⟨_, PySem.F.slot_list_pop, PySem.F.type_list_pop, or_pop0⟩
  · exact ⟨_, PySem.F.slot_list_pop, PySem.F.type_list_pop, or_pop1⟩
  · exact ⟨_, PySem.F.slot_list_reverse, PySem.F.type_list_reverse, or_reverse⟩
def mthTab : MTy → Op → Option PySem.Str
  | .list, .mIndex => some "index"
  | .list, .mCount => some "count"
  | _, _ => none
theorem mthTab_ok {t : MTy} {o : Op} {nm : PySem.Str} (h : mthTab t o = some nm) (hu : X.A.units + 65 < cLine) : t = .list ∧ ∃ id, Slot "list" nm id ∧ typeOf (.builtin id) = pure (.type "method_descriptor") ∧ MtR X id (fun x xs => rOp G o (x :: xs)) := by
  cases t <;> cases o <;> cases h
  · exact ⟨rfl, _, PySem.F.slot_list_index, PySem.F.type_list_index, or_index hu⟩
  · exact ⟨rfl, _, PySem.F.slot_list_count, PySem.F.type_list_count, or_count⟩
theorem tyV_list {w : W} {v : V} (s : Sim G I φ S H) (r : Rel G I φ w v) (h : tyOk .list w S = true) : tyV K "list" v H := by
  simp only [tyOk] at h
  cases w with
  | lst xs =>
    obtain ⟨a, vs, rfl, ha, _⟩ := r
    exact .inl ⟨rfl, vs, .inl (rd_mono s.same ha)⟩
  | ref m =>
    obtain ⟨a, rfl, ha⟩ := r
    simp only [lstOf] at h
    split at h
    · rename_i xs hS
      obtain ⟨vs, h1, _⟩ := s.cell m a _ ha hS
      exact .inl ⟨rfl, vs, .inl (.inl h1)⟩
    · cases h
  | _ => simp [lstOf] at h
theorem few_ok {es : List Expr} {cpos : Pos} {env : PySem.Env} (h : es.all plainE = true) (hl : es.length < 30) :
    ((backTo cpos (starEach es env)).all (fun x => !x.1) && (backToKw cpos (keywordEach [] env)).all (fun x => x.1.isSome) && decide (es.length + ([] : List Keyword).length + (if ([] : List Keyword).isEmpty then 0 else 1) < 30)) = true := by
  have h1 : (backTo cpos (starEach es env)).all (fun x => !x.1) = true := by
    rw [List.all_eq_true]
    intro y hy
    have := star_none (env := env) (pos := cpos) h
    rw [List.any_eq_false] at this
    simpa using this y hy
  have h2 : (backToKw cpos (keywordEach [] env)).all (fun x => x.1.isSome) = true := rfl
  rw [h1, h2]
  simpa using hl
/-- o.m(..) -/
def mthSyn (nm : PySem.Str) (e : Expr) : Option (Expr × List Expr) :=
  match e with
  | .Call (.Attribute o f apos) es [] cpos => if decide (f = nm) && baseE o && (apos.endLine == cpos.line) && decide (es.length < 30) then some (o, es) else none
  | _ => none

theorem tA_nil {σ : L2.St} {Q : List V → Hp → Prop} (h : tA G cf Ex [] σ H Q) : Q [] H := by
  obtain ⟨I, φ, ρ, S, s, en, h⟩ := h
  rw [evs_nil] at h
  exact h [] I φ H (Ext.refl _ _ _) s rfl
theorem mthE {nm : PySem.Str} {e o : Expr} {es : List Expr} {id : String} {r : V → List V → Hp → VK → Prop} {a : E} {ms : List E} (h : mthSyn nm e = some (o, es)) (slot : Slot "list" nm id) (hty : typeOf (.builtin id) = pure (.type "method_descriptor")) (hm : MtR X id r) (ho : PE X o (tE G cf Ex a)) (p : PEs G cf Ex X ms es) :
    PE X e fun σ H Q => tE G cf Ex a σ H fun x H1 => tyV X.K "list" x H1 ∧ tA G cf Ex ms σ H1 fun xs H2 => r x xs H2 Q := by
  unfold mthSyn at h
  split at h
  · split at h
    · rename_i hc
      cases h
      simp only [Bool.and_eq_true, decide_eq_true_eq] at hc
      obtain ⟨⟨⟨rfl, hb⟩, hl⟩, hn⟩ := hc
      cases p with
      | nil =>
        refine PE_imp (pe_bm0 PySem.F.plainAttrs_list slot hty hm ho (base_ok hb) hl) fun σ H Q q => tE_mono ?_ q
        rintro v H1 ⟨h1, h2⟩
        exact ⟨h1, tA_nil h2⟩
      | cons hp h1 t =>
        have pa := (PEs.cons hp h1 t).pa
        have al := (PEs.cons hp h1 t).all
        exact pe_bm PySem.F.plainAttrs_list slot hty hm ho pa (base_ok hb) (few_ok al hn) hl (star_plain hp) (star_none t.all)
    · cases h
  · cases h
theorem mthOk {t : MTy} {o : Op} {nm : PySem.Str} {e b : Expr} {es : List Expr} {a : E} {ms : List E} (hn : mthTab t o = some nm) (h : mthSyn nm e = some (b, es)) (x : XOk T G cf Ex n sc X) (ho : PE X b (tE G cf Ex a)) (p : PEs G cf Ex X ms es) : PE X e (tE G cf Ex (.mth t o a ms)) := by
  obtain ⟨rfl, id, h1, h2, h3⟩ := mthTab_ok (G := G) hn x.hu
  refine PE_imp (mthE h h1 h2 h3 ho p) fun σ H Q ⟨I, φ, ρ, S, s, en, q⟩ => ?_
  simp only [ev] at q
  refine tE_step s en (q.bind.imp fun w S1 _ h1 => ?_)
  intro v I1 φ1 H1 e1 s1 r1
  split at h1
  · rename_i ht
    refine ⟨tyV_list s1 r1 ht, I1, φ1, ρ, S1, s1, en.ext e1, h1.bind.ext e1 fun ws S2 _ h2 => ?_⟩
    intro vs I2 φ2 H2 e2 s2 r2
    obtain ⟨w', hw, k⟩ := Post.ofO h2
    exact ⟨I2, φ2, S2, _, w', s2, .cons (r1.ext e2) r2, hw, KE.ext (e1.trans e2) k⟩
  · exact h1.elim
theorem effOk {o : Eff} {nm : PySem.Str} {e b : Expr} {es : List Expr} {a : E} {ms : List E} (hn : effTab o = some nm) (h : mthSyn nm e = some (b, es)) (x : XOk T G cf Ex n sc X) (ho : PE X b (tE G cf Ex a)) (p : PEs G cf Ex X ms es) : PE X e (tE G cf Ex (.eff o a ms)) := by
  obtain ⟨id, h1, h2, h3⟩ := effTab_ok (G := G) (X := X) hn
  refine PE_imp (mthE h h1 h2 h3 ho p) fun σ H Q ⟨I, φ, ρ, S, s, en, q⟩ => ?_
  simp only [ev] at q
  refine tE_step s en (q.bind.imp fun w S1 _ h1 => ?_)
  intro v I1 φ1 H1 e1 s1 r1
  split at h1
  · rename_i ht
    refine ⟨tyV_list s1 r1 ht, I1, φ1, ρ, S1, s1, en.ext e1, h1.bind.ext e1 fun ws S2 _ h2 => ?_⟩
    intro vs I2 φ2 H2 e2 s2 r2
    split at h2
    · rename_i w' S3 hw
      exact ⟨I2, φ2, S2, _, w', S3, s2, .cons (r1.ext e2) r2, hw, KE.ext (e1.trans e2) h2⟩
    · exact h2.elim
  · exact h1.elim

/-! ### what is read out of cells -/
/-- J holds what I1 holds and the live cells as they stand -/
structure Holds (b : Bool) (I1 : Hp) (φ1 : List Addr) (S1 : Sto) (H1 : Hp) (J : Hp) : Prop where
  i : b = false → ∀ a o, I1 a = some o → J a = some o
  t : ∀ a vs, I1 a = some (.tup vs) → J a = some (.tup vs)
  c : ∀ (m : Nat) (a : Addr) (o : Ob), φ1[m]? = some a → S1[m]? = some o → o ≠ .dead → J a = H1 a
theorem rd_holds {a : Addr} {o : HO} (h : ∀ a o, I1 a = some o → I2 a = some o) (r : Rd I1 a o) : Rd I2 a o := by
  rcases r with r | ⟨u, r⟩
  · exact .inl (h _ _ r)
  · exact .inr ⟨u, h _ _ r⟩
theorem subL_keyl {b : Bool} {g : Nat → Option W} : ∀ {ks : List Key} {ks' : List W}, subL b g (ks.map kW) = some ks' → ks' = ks.map kW
  | [], _, e => by cases e; rfl
  | k :: r, _, e => by
    simp only [List.map_cons, subL, Option.bind_eq_some_iff, Option.map_eq_some_iff] at e
    obtain ⟨w', hw, ws', hws, rfl⟩ := e
    rw [subL_keyl hws]
    cases k <;> (simp only [kW, sub] at hw; cases hw; rfl)
theorem subL_keys {b : Bool} {g : Nat → Option W} : ∀ {kvs : List (Key × V)} {ks' : List W}, subL b g (kvs.map fun p => kW p.1) = some ks' → ks' = kvs.map fun p => kW p.1
  | [], _, e => by cases e; rfl
  | (k, v) :: r, _, e => by
    simp only [List.map_cons, subL, Option.bind_eq_some_iff, Option.map_eq_some_iff] at e
    obtain ⟨w', hw, ws', hws, rfl⟩ := e
    rw [subL_keys hws]
    cases k <;> (simp only [kW, sub] at hw; cases hw; rfl)
theorem subL_keysT {b : Bool} {g : Nat → Option W} : ∀ {kvs : List (List Key × V)} {ks' : List W}, subL b g (kvs.map fun p => W.tup (p.1.map kW)) = some ks' → ks' = kvs.map fun p => W.tup (p.1.map kW)
  | [], _, e => by cases e; rfl
  | (k, v) :: r, _, e => by
    simp only [List.map_cons, subL, Option.bind_eq_some_iff, Option.map_eq_some_iff] at e
    obtain ⟨w', hw, ws', hws, rfl⟩ := e
    rw [subL_keysT hws]
    simp only [sub, Option.map_eq_some_iff] at hw
    obtain ⟨ys, hy, rfl⟩ := hw
    rw [subL_keyl hy]
    rfl
mutual
theorem sub_rel {b : Bool} {g : Nat → Option W} {J : Hp} {ψ : List Addr} (hi : b = false → ∀ a o, I1 a = some o → J a = some o) (ht : ∀ a vs, I1 a = some (.tup vs) → J a = some (.tup vs)) (hg : ∀ m w a, g m = some w → φ1[m]? = some a → Rel G J ψ w (.ref a)) : ∀ {w w' : W} {v : V}, sub b g w = some w' → Rel G I1 φ1 w v → Rel G J ψ w' v
  | .non, _, _, e, h => by cases e; exact h
  | .bl _, _, _, e, h => by cases e; exact h
  | .int _, _, _, e, h => by cases e; exact h
  | .str _, _, _, e, h => by cases e; exact h
  | .tup xs, _, _, e, h => by
    simp only [sub, Option.map_eq_some_iff] at e
    obtain ⟨ys, hy, rfl⟩ := e
    obtain ⟨a, vs, rfl, ha, r⟩ := h
    exact ⟨a, vs, rfl, ht _ _ ha, subL_rel hi ht hg hy r⟩
  | .lst xs, _, _, e, h => by
    simp only [sub] at e
    split at e
    · cases e
    · rename_i hb
      have hi' := hi (by simpa using hb)
      simp only [Option.map_eq_some_iff] at e
      obtain ⟨ys, hy, rfl⟩ := e
      obtain ⟨a, vs, rfl, ha, r⟩ := h
      exact ⟨a, vs, rfl, rd_holds hi' ha, subL_rel hi ht hg hy r⟩
  | .dic t ks xs, _, _, e, h => by
    simp only [sub] at e
    split at e
    · cases e
    · rename_i hb
      have hi' := hi (by simpa using hb)
      simp only [Option.bind_eq_some_iff, Option.map_eq_some_iff] at e
      obtain ⟨ks', hk, ys, hy, rfl⟩ := e
      cases t with
      | false =>
        obtain ⟨a, kvs, rfl, ha, rfl, r⟩ := h
        refine ⟨a, kvs, rfl, hi' _ _ ha, ?_, subL_rel hi ht hg hy r⟩
        exact subL_keys hk
      | true =>
        obtain ⟨a, kvs, rfl, ha, rfl, r⟩ := h
        refine ⟨a, kvs, rfl, hi' _ _ ha, ?_, subL_rel hi ht hg hy r⟩
        exact subL_keysT hk
  | .rcd c xs, _, _, e, h => by
    simp only [sub] at e
    split at e
    · cases e
    · rename_i hb
      have hi' := hi (by simpa using hb)
      simp only [Option.map_eq_some_iff] at e
      obtain ⟨ys, hy, rfl⟩ := e
      obtain ⟨a, dx, fs, rfl, ha, hf, r⟩ := h
      exact ⟨a, dx, fs, rfl, hi' _ _ ha, hf, subL_rel hi ht hg hy r⟩
  | .ref m, _, _, e, h => by
    obtain ⟨a, rfl, ha⟩ := h
    exact hg m _ a e ha
  | .exn _, _, _, _, h => h.elim
  | .klst ns, _, _, e, h => by
    simp only [sub] at e
    split at e
    · cases e
    · rename_i hb
      have hi' := hi (by simpa using hb)
      cases e
      obtain ⟨a, rfl, ha⟩ := h
      exact ⟨a, rfl, Same.seq hi' ha⟩
theorem subL_rel {b : Bool} {g : Nat → Option W} {J : Hp} {ψ : List Addr} (hi : b = false → ∀ a o, I1 a = some o → J a = some o) (ht : ∀ a vs, I1 a = some (.tup vs) → J a = some (.tup vs)) (hg : ∀ m w a, g m = some w → φ1[m]? = some a → Rel G J ψ w (.ref a)) : ∀ {ws ws' : List W} {vs : List V}, subL b g ws = some ws' → Rels G I1 φ1 ws vs → Rels G J ψ ws' vs
  | [], _, _, e, h => by cases e; exact h
  | w :: ws, _, _, e, h => by
    simp only [subL, Option.bind_eq_some_iff, Option.map_eq_some_iff] at e
    obtain ⟨w', hw, ws', hws, rfl⟩ := e
    obtain ⟨x, xs, rfl, r, rr⟩ := h
    exact ⟨x, xs, rfl, sub_rel hi ht hg hw r, subL_rel hi ht hg hws rr⟩
end
theorem lev_rel {b : Bool} {J : Hp} {ψ : List Addr} (s : Sim G I1 φ1 S H1) (hj : Holds b I1 φ1 S H1 J) : ∀ (k : Nat) (m : Nat) (w : W) (a : Addr), lev b S k m = some w → φ1[m]? = some a → Rel G J ψ w (.ref a)
  | 0, m, w, a, e, h => by cases e
  | k + 1, m, w, a, e, h => by
    simp only [lev, cellW] at e
    have ih := lev_rel (b := b) (ψ := ψ) s hj k
    split at e
    · rename_i xs hS
      simp only [Option.map_eq_some_iff] at e
      obtain ⟨ys, hy, rfl⟩ := e
      obtain ⟨vs, h1, r⟩ := s.cell m a _ h hS
      exact ⟨a, vs, rfl, .inl (by rw [hj.c m a _ h hS (by simp)]; exact h1), subL_rel hj.i hj.t ih hy r⟩
    · rename_i t ks xs hS
      simp only [Option.bind_eq_some_iff, Option.map_eq_some_iff] at e
      obtain ⟨ks', hk, ys, hy, rfl⟩ := e
      cases t with
      | false =>
        obtain ⟨kvs, h1, rfl, r⟩ := s.cell m a _ h hS
        exact ⟨a, kvs, rfl, by rw [hj.c m a _ h hS (by simp)]; exact h1, subL_keys hk, subL_rel hj.i hj.t ih hy r⟩
      | true =>
        obtain ⟨kvs, h1, rfl, r⟩ := s.cell m a _ h hS
        exact ⟨a, kvs, rfl, by rw [hj.c m a _ h hS (by simp)]; exact h1, subL_keysT hk, subL_rel hj.i hj.t ih hy r⟩
    · rename_i c xs hS
      simp only [Option.map_eq_some_iff] at e
      obtain ⟨ys, hy, rfl⟩ := e
      obtain ⟨dx, fs, h1, hf, r⟩ := s.cell m a _ h hS
      exact ⟨a, dx, fs, rfl, by rw [hj.c m a _ h hS (by simp)]; exact h1, hf, subL_rel hj.i hj.t ih hy r⟩
    · cases e
theorem vw_rel {J : Hp} {ψ : List Addr} {w w' : W} {v : V} (s : Sim G I1 φ1 S H1) (hj : Holds false I1 φ1 S H1 J) (e : vw S w = some w') (r : Rel G I1 φ1 w v) : Rel G J ψ w' v := sub_rel hj.i hj.t (lev_rel s hj 3) e r
theorem vwB_rel {J : Hp} {ψ : List Addr} {w w' : W} {v : V} (s : Sim G I1 φ1 S H1) (hj : Holds true I1 φ1 S H1 J) (e : vwB S w = some w') (r : Rel G I1 φ1 w v) : Rel G J ψ w' v := sub_rel hj.i hj.t (lev_rel s hj 3) e r
theorem vws_rel {J : Hp} {ψ : List Addr} {ws ws' : List W} {vs : List V} (s : Sim G I1 φ1 S H1) (hj : Holds false I1 φ1 S H1 J) (e : vws S ws = some ws') (r : Rels G I1 φ1 ws vs) : Rels G J ψ ws' vs := subL_rel hj.i hj.t (lev_rel s hj 3) e r
end Tw

/-! Tw, part K: calls. -/
namespace Tw
open PySem PySem.Spec PyProof.Rows L2

variable {G : Gx} {I I' I1 I2 H H' H1 H2 : Hp} {φ φ' φ1 φ2 : List Addr} {S S' S1 : Sto} {K : PySem.W.Frag} {X : Cx} {cf : CallF} {T : Tab} {Ex : XK} {n : Nat} {sc : Scope}

theorem same_refl (H : Hp) : Same H H := Same.refl _
open Classical in
/-- what is frozen and the live cells as they stand -/
noncomputable def snap (b : Bool) (I : Hp) (φ : List Addr) (S : Sto) (H : Hp) : Hp := fun a => if (I a).isSome = true then I a else if b = true ∧ ∃ (m : Nat) (o : Ob), φ[m]? = some a ∧ S[m]? = some o ∧ o ≠ .dead then H a else none
theorem snap_i {b : Bool} {a : Addr} {o : HO} (h : I a = some o) : snap b I φ S H a = some o := by
  unfold snap
  rw [if_pos (by rw [h]; rfl), h]
theorem snap_cases {b : Bool} {a : Addr} {o : HO} (h : snap b I φ S H a = some o) : I a = some o ∨ (b = true ∧ H a = some o ∧ ∃ (m : Nat) (o : Ob), φ[m]? = some a ∧ S[m]? = some o ∧ o ≠ .dead) := by
  unfold snap at h
  split at h
  · exact .inl h
  · split at h
    · rename_i q; exact .inr ⟨q.1, h, q.2⟩
    · cases h
theorem snap_sim {b : Bool} (s : Sim G I φ S H) : Sim G (snap b I φ S H) [] [] H where
  same := fun a o h => by
    rcases snap_cases h with h | ⟨_, h, _⟩
    · exact s.same _ _ h
    · exact h
  len := rfl
  nd := List.nodup_nil
  out := fun n a o h => by simp at h
  old := fun n a h => by simp at h
  cell := fun n a o h => by simp at h
theorem snap_holds (s : Sim G I φ S H) : Holds false I φ S H (snap true I φ S H) where
  i := fun _ a o h => snap_i h
  t := fun a o h => snap_i h
  c := fun m a o h h1 h2 => by
    unfold snap
    rw [if_neg (by rw [s.out m a o h h1 h2]; simp), if_pos ⟨rfl, m, o, h, h1, h2⟩]
mutual
theorem sub_rfree {b : Bool} {g : Nat → Option W} : ∀ {w w' : W}, rfree w = true → sub b g w = some w' → w' = w
  | .non, _, _, e => by cases e; rfl
  | .bl _, _, _, e => by cases e; rfl
  | .int _, _, _, e => by cases e; rfl
  | .str _, _, _, e => by cases e; rfl
  | .exn _, _, _, e => by cases e; rfl
  | .klst _, _, _, e => by
    simp only [sub] at e
    split at e
    · cases e
    · cases e; rfl
  | .ref _, _, h, _ => by simp [rfree] at h
  | .tup xs, _, h, e => by
    simp only [sub, Option.map_eq_some_iff] at e
    obtain ⟨ys, hy, rfl⟩ := e
    simp only [rfree] at h
    rw [subL_rfree h hy]
  | .lst xs, _, h, e => by
    simp only [sub] at e
    split at e
    · cases e
    · simp only [Option.map_eq_some_iff] at e
      obtain ⟨ys, hy, rfl⟩ := e
      simp only [rfree] at h
      rw [subL_rfree h hy]
  | .dic t ks xs, _, h, e => by
    simp only [sub] at e
    split at e
    · cases e
    · simp only [Option.bind_eq_some_iff, Option.map_eq_some_iff] at e
      obtain ⟨ks', hk, ys, hy, rfl⟩ := e
      simp only [rfree, Bool.and_eq_true] at h
      rw [subL_rfree h.1 hk, subL_rfree h.2 hy]
  | .rcd c xs, _, h, e => by
    simp only [sub] at e
    split at e
    · cases e
    · simp only [Option.map_eq_some_iff] at e
      obtain ⟨ys, hy, rfl⟩ := e
      simp only [rfree] at h
      rw [subL_rfree h hy]
theorem subL_rfree {b : Bool} {g : Nat → Option W} : ∀ {ws ws' : List W}, rfreeL ws = true → subL b g ws = some ws' → ws' = ws
  | [], _, _, e => by cases e; rfl
  | w :: ws, _, h, e => by
    simp only [subL, Option.bind_eq_some_iff, Option.map_eq_some_iff] at e
    obtain ⟨w', hw, ws', hws, rfl⟩ := e
    simp only [rfreeL, Bool.and_eq_true] at h
    rw [sub_rfree h.1 hw, subL_rfree h.2 hws]
end
open Classical in
/-- what the caller holds frozen behind the call -/
noncomputable def after (I H H' : Hp) : Hp := fun a => if (I a).isSome = true then I a else if H a = none then H' a else none
theorem none_isSome {o : Option HO} (h : ¬ o.isSome = true) : o = none := by cases o <;> simp_all
theorem after_sim (s : Sim G I φ S H) {b : Bool} (e : Ext (snap b I φ S H) [] H I' φ' H') (s' : Sim G I' φ' S' H') : Sim G (after I H H') φ S H' ∧ Ext I φ H (after I H H') φ H' := by
  have hI : ∀ a o, I a = some o → H' a = some o := fun a o h => s'.same _ _ (e.same _ _ (snap_i h))
  have sI : Same I (after I H H') := fun a o h => by unfold after; rw [if_pos (by rw [h]; rfl), h]
  have fr : ∀ a o, H a = some o → H' a = some o := fun a o h => e.frame a o (by simp) h
  refine ⟨⟨fun a o h => ?_, s.len, s.nd, fun m a o h h1 h2 => ?_, fun m a h => e.keep a (s.old m a h), fun m a o h h1 => ?_⟩, sI, ⟨[], by simp, by simp⟩, fun a o _ h => fr a o h, e.keep, fun a h => ?_⟩
  · unfold after at h
    split at h
    · exact hI a o h
    · split at h
      · exact h
      · cases h
  · unfold after
    rw [if_neg (by rw [s.out m a o h h1 h2]; simp), if_neg (fun z => by have := s.old m a h; rw [z] at this; cases this)]
  · exact (s.cell m a o h h1).mono sI (Pre.refl _) (fr a)
  · unfold after at h
    split at h
    · exact .inl (by assumption)
    · split at h
      · exact .inr (.inl (by assumption))
      · cases h
/-- what comes of the callee, seen by the caller -/
theorem after_holds (s : Sim G I φ S H) {b : Bool} (e : Ext (snap b I φ S H) [] H I' φ' H') (s' : Sim G I' φ' S' H') : Holds b I' φ' S' H' (after I H H') := by
  have key : ∀ a o, I' a = some o → (b = true → ∃ vs, o = .tup vs) → after I H H' a = some o := fun a o h hb => by
    rcases e.fresh a (by rw [h]; rfl) with q | q | q
    · cases hs : snap b I φ S H a with
      | none => rw [hs] at q; cases q
      | some o' =>
        have := e.same _ _ hs
        rw [h] at this
        cases this
        rcases snap_cases hs with z | ⟨z, z2, m, ob, h1, h2, h3⟩
        · unfold after
          rw [if_pos (by rw [z]; rfl), z]
        · obtain ⟨vs, rfl⟩ := hb z
          have := s.cell m a ob h1 h2
          cases ob with
          | lst _ => obtain ⟨_, z3, _⟩ := this; rw [z2] at z3; cases z3
          | dic t _ _ =>
            cases t with
            | false => obtain ⟨_, z3, _⟩ := this; rw [z2] at z3; cases z3
            | true => obtain ⟨_, z3, _⟩ := this; rw [z2] at z3; cases z3
          | ins _ _ => obtain ⟨_, _, z3, _⟩ := this; rw [z2] at z3; cases z3
          | dead => exact absurd rfl h3
    · unfold after
      by_cases hi : (I a).isSome = true
      · cases hI : I a with
        | none => rw [hI] at hi; cases hi
        | some o' => have := s.same _ _ hI; rw [q] at this; cases this
      · rw [if_neg hi, if_pos q]
        exact s'.same _ _ h
    · simp at q
  refine ⟨fun hb a o h => key a o h (fun z => by rw [hb] at z; cases z), fun a vs h => key a _ h (fun _ => ⟨vs, rfl⟩), fun m a o h h1 h2 => ?_⟩
  obtain ⟨ψ, hψ, hn⟩ := e.pre
  have hH : H a = none := hn a (by rw [hψ] at h; exact List.mem_of_getElem? (by simpa using h))
  unfold after
  rw [if_neg (fun z => by
    cases hI : I a with
    | none => rw [hI] at z; cases z
    | some o' => have := s.same _ _ hI; rw [hH] at this; cases this), if_pos hH]
theorem Sim.kill (s : Sim G I φ S H) (m : Nat) : Sim G I φ (S.set m .dead) H where
  same := s.same
  len := by rw [List.length_set]; exact s.len
  nd := s.nd
  out := fun k a o h h1 h2 => by
    rw [List.getElem?_set] at h1
    split at h1
    · split at h1
      · cases h1; exact absurd rfl h2
      · cases h1
    · exact s.out k a o h h1 h2
  old := s.old
  cell := fun k a o h h1 => by
    rw [List.getElem?_set] at h1
    split at h1
    · split at h1
      · cases h1; exact True.intro
      · cases h1
    · exact s.cell k a o h h1
theorem call_ok {m : Md} {f : Nat} {ws : List W} {vs : List V} {Q : VK} (s : Sim G I φ S H) (r : Rels G I φ ws vs) (h : Post G Ex I φ H (callSem cf m f ws S) fun w S' => KE G I φ H S' w Q) :
    ∃ I' φ' S' ws', Sim G I' φ' S' H ∧ Rels G I' φ' ws' vs ∧ Post G Ex I' φ' H (cf f ws' S') fun w S'' => KE G I' φ' H S'' w Q := by
  cases m with
  | shared => exact ⟨I, φ, S, ws, s, r, h⟩
  | pure =>
    simp only [callSem] at h
    split at h
    · exact h.elim
    · rename_i us hu
      have rr : Rels G (snap (!rfreeL ws) I φ S H) [] us vs := by
        cases hb : rfreeL ws with
        | true =>
          rw [subL_rfree hb hu]
          exact Rels.rfree hb (r.mono (fun a o h => snap_i h) (Pre.refl _))
        | false => exact vws_rel s (snap_holds s) hu r
      refine ⟨_, [], [], us, snap_sim s, rr, ?_⟩
      split at h
      · rename_i w S1 hc
        rw [hc]
        obtain ⟨w2, hw, k⟩ := Post.ofO h
        intro v I' φ' H' e s' rv
        obtain ⟨s2, e2⟩ := after_sim s e s'
        refine k v _ _ _ e2 s2 ?_
        have hh := after_holds s e s'
        cases hb : rfreeL ws with
        | true => rw [hb] at hh; rw [if_pos hb] at hw; exact vw_rel s' hh hw rv
        | false => rw [hb] at hh; rw [if_neg (by rw [hb]; simp)] at hw; exact vwB_rel s' hh hw rv
      · rename_i c S1 hc
        rw [hc]
        intro I' φ' H' e s'
        obtain ⟨s2, e2⟩ := after_sim s e s'
        exact h _ _ _ e2 s2
      · exact h.elim
  | adopt =>
    simp only [callSem] at h
    split at h
    · exact h.elim
    · rename_i us hu
      have rr : Rels G (snap (!rfreeL ws) I φ S H) [] us vs := by
        cases hb : rfreeL ws with
        | true =>
          rw [subL_rfree hb hu]
          exact Rels.rfree hb (r.mono (fun a o h => snap_i h) (Pre.refl _))
        | false => exact vws_rel s (snap_holds s) hu r
      refine ⟨_, [], [], us, snap_sim s, rr, ?_⟩
      split at h
      · rename_i m S1 hc
        rw [hc]
        split at h
        · rename_i xs hS
          split at h
          · rename_i ys hy
            intro v I' φ' H' e s' rv
            obtain ⟨a, rfl, ha⟩ := rv
            obtain ⟨s2, e2⟩ := after_sim s e s'
            have hh := after_holds s e (s'.kill m)
            obtain ⟨us', hl, rl⟩ := s'.cell m a _ ha hS
            have hHa : H a = none := by
              obtain ⟨ψ, hψ, hn⟩ := e.pre
              exact hn a (by rw [hψ] at ha; exact List.mem_of_getElem? (by simpa using ha))
            have hIa : I a = none := s.iNone hHa
            have naφ : a ∉ φ := s.notIn hHa
            have hI'a : I' a = none := s'.out m a _ ha hS (by simp)
            let J : Hp := fun b => if b = a then none else after I H H' b
            have jI : Same I J := fun b o q => by
              show (if b = a then none else after I H H' b) = some o
              rw [if_neg (fun z => by rw [z, hIa] at q; cases q)]
              exact e2.same _ _ q
            have jle : ∀ b o, J b = some o → after I H H' b = some o := fun b o q => by
              have q : (if b = a then none else after I H H' b) = some o := q
              split at q
              · cases q
              · exact q
            have hj : Holds (!rfreeL ws) I' φ' (S1.set m .dead) H' J := by
              refine ⟨fun hb b o q => ?_, fun b vs q => ?_, fun k b o q q1 q2 => ?_⟩
              · show (if b = a then none else after I H H' b) = some o
                rw [if_neg (fun z => by rw [z, hI'a] at q; cases q)]
                exact hh.i hb b o q
              · show (if b = a then none else after I H H' b) = _
                rw [if_neg (fun z => by rw [z, hI'a] at q; cases q)]
                exact hh.t b vs q
              · show (if b = a then none else after I H H' b) = _
                rw [if_neg (fun z => ?_)]
                · exact hh.c k b o q q1 q2
                · rw [z] at q
                  have hk : k < φ'.length := (List.getElem?_eq_some_iff.mp q).1
                  have : k = m := by
                    apply (List.getElem?_inj hk s'.nd).mp
                    rw [q, ha]
                  subst this
                  rw [List.getElem?_set] at q1
                  simp at q1
                  exact q2 q1.2.symm
            have rl2 : Rels G J (φ ++ [a]) ys us' := by
              cases hb : rfreeL ws with
              | true => rw [hb] at hj; rw [if_pos hb] at hy; exact vws_rel (s'.kill m) hj hy rl
              | false => rw [hb] at hj; rw [if_neg (by rw [hb]; simp)] at hy; exact subL_rel hj.i hj.t (lev_rel (s'.kill m) hj 3) hy rl
            refine h (.ref a) J (φ ++ [a]) H' ?_ ?_ ⟨a, rfl, by rw [← s.len]; simp⟩
            · exact ⟨jI, ⟨[a], rfl, by simpa using hHa⟩, e2.frame, e2.keep, fun b q => by
                cases hq : J b with
                | none => rw [hq] at q; cases q
                | some o => exact e2.fresh b (by rw [jle b o hq]; rfl)⟩
            · refine ⟨fun b o q => s2.same _ _ (jle b o q), by simp [s.len], ?_, ?_, ?_, ?_⟩
              · rw [List.nodup_append]
                refine ⟨s.nd, by simp, ?_⟩
                intro b hb c hc z
                have : c = a := by simpa using hc
                subst this
                subst z
                exact naφ hb
              · intro k b o q q1 q2
                show (if b = a then none else after I H H' b) = none
                by_cases hk : k < φ.length
                · rw [List.getElem?_append_left hk] at q
                  rw [List.getElem?_append_left (by rw [← s.len]; exact hk)] at q1
                  split
                  · rfl
                  · exact s2.out k b o q q1 q2
                · have : k = φ.length := by
                    have := (List.getElem?_eq_some_iff.mp q).1
                    simp at this
                    omega
                  subst this
                  simp at q
                  rw [if_pos q.symm]
              · intro k b q
                by_cases hk : k < φ.length
                · rw [List.getElem?_append_left hk] at q
                  exact s2.old k b q
                · have : k = φ.length := by
                    have := (List.getElem?_eq_some_iff.mp q).1
                    simp at this
                    omega
                  subst this
                  simp at q
                  rw [← q, hl]
                  rfl
              · intro k b o q q1
                by_cases hk : k < φ.length
                · rw [List.getElem?_append_left hk] at q
                  rw [List.getElem?_append_left (by rw [← s.len]; exact hk)] at q1
                  exact (s.cell k b o q q1).mono jI ⟨[a], rfl⟩ (fun u hu => e.frame b u (by simp) hu)
                · have : k = φ.length := by
                    have := (List.getElem?_eq_some_iff.mp q).1
                    simp at this
                    omega
                  subst this
                  simp at q
                  rw [s.len] at q1
                  simp at q1
                  subst q
                  subst q1
                  exact ⟨us', hl, rl2⟩
          · exact h.elim
        · exact h.elim
      · exact h.elim
      · rename_i c S1 hc
        rw [hc]
        intro I' φ' H' e s'
        obtain ⟨s2, e2⟩ := after_sim s e s'
        exact h _ _ _ e2 s2
      · exact h.elim
end Tw

/-! Tw, part L: comprehensions. -/
namespace Tw
open PySem PySem.Spec PyProof.Rows L2

variable {G : Gx} {I I' I1 I2 H H' H1 H2 : Hp} {φ φ' φ1 φ2 : List Addr} {S S' S1 : Sto} {K : PySem.W.Frag} {X : Cx} {cf : CallF} {T : Tab} {Ex : XK} {n : Nat} {sc : Scope}

def rm (H : Hp) (D : Addr) : Hp := fun a => if a = D then none else H a
theorem rm_ne {D a : Addr} (h : a ≠ D) : rm H D a = H a := by unfold rm; rw [if_neg h]
theorem rm_self {D : Addr} : rm H D D = none := by unfold rm; rw [if_pos rfl]
theorem rm_some {D a : Addr} {o : HO} (h : rm H D a = some o) : a ≠ D ∧ H a = some o := by
  unfold rm at h
  split at h
  · cases h
  · exact ⟨by assumption, h⟩
theorem rm_none {D : Addr} (h : H D = none) : rm H D = H := by
  funext a
  unfold rm
  split
  · rename_i z; rw [z, h]
  · rfl
theorem rm_upd {D : Addr} {o : HO} : rm (upd H D o) D = rm H D := by
  funext a
  by_cases h : a = D
  · rw [h, rm_self, rm_self]
  · rw [rm_ne h, rm_ne h]
    exact upd_ne h
theorem upd_rm {D : Addr} {o : HO} (h : H D = some o) : upd (rm H D) D o = H := by
  funext a
  by_cases z : a = D
  · rw [z, upd_same, h]
  · rw [upd_ne z, rm_ne z]
theorem Sim.plusD {D : Addr} (s : Sim G I φ S (rm H D)) : Sim G I φ S H where
  same := fun a o h => (rm_some (s.same _ _ h)).2
  len := s.len
  nd := s.nd
  out := s.out
  old := fun m a h => by
    have := s.old m a h
    cases q : rm H D a with
    | none => rw [q] at this; cases this
    | some o => rw [(rm_some q).2]; rfl
  cell := fun m a o h h1 => (s.cell m a o h h1).mono (Same.refl _) (Pre.refl _) fun u hu => (rm_some hu).2
theorem peel {D : Addr} {o : HO} (sm : Sim G I φ S (rm H D)) (hD : H D = some o) (e : Ext I φ H I' φ' H') (s' : Sim G I' φ' S' H') : Sim G I' φ' S' (rm H' D) ∧ Ext I φ (rm H D) I' φ' (rm H' D) ∧ H' D = some o := by
  have nφ : D ∉ φ := fun z => by
    obtain ⟨m, hm⟩ := List.getElem?_of_mem z
    have := sm.old m D hm
    rw [rm_self] at this
    cases this
  have nI : I D = none := by
    cases h : I D with
    | none => rfl
    | some u => have := sm.same _ _ h; rw [rm_self] at this; cases this
  obtain ⟨ψ, hψ, hn⟩ := e.pre
  have nφ' : D ∉ φ' := fun z => by
    rw [hψ] at z
    rcases List.mem_append.mp z with z | z
    · exact nφ z
    · rw [hn D z] at hD; cases hD
  have nI' : I' D = none := by
    cases h : I' D with
    | none => rfl
    | some u =>
      rcases e.fresh D (by rw [h]; rfl) with z | z | z
      · rw [nI] at z; cases z
      · rw [hD] at z; cases z
      · exact absurd z nφ
  have ne : ∀ (m : Nat) (a : Addr), φ'[m]? = some a → a ≠ D := fun m a h z => nφ' (by rw [← z]; exact List.mem_of_getElem? h)
  refine ⟨⟨fun a u h => ?_, s'.len, s'.nd, s'.out, fun m a h => ?_, fun m a u h h1 => ?_⟩, ⟨e.same, ⟨ψ, hψ, fun a ha => ?_⟩, fun a u ha h => ?_, fun a h => ?_, fun a h => ?_⟩, e.frame D o nφ hD⟩
  · rw [rm_ne (fun z => by rw [z, nI'] at h; cases h)]
    exact s'.same _ _ h
  · rw [rm_ne (ne m a h)]
    exact s'.old m a h
  · refine (s'.cell m a u h h1).mono (Same.refl _) (Pre.refl _) fun x hx => ?_
    rw [rm_ne (ne m a h)]
    exact hx
  · have hz := hn a ha
    unfold rm
    split
    · rfl
    · exact hz
  · obtain ⟨h1, h2⟩ := rm_some h
    rw [rm_ne h1]
    exact e.frame a u ha h2
  · have h1 : a ≠ D := fun z => by rw [z, rm_self] at h; cases h
    rw [rm_ne h1] at h ⊢
    exact e.keep a h
  · rcases e.fresh a h with z | z | z
    · exact .inl z
    · refine .inr (.inl ?_)
      unfold rm
      split
      · rfl
      · exact z
    · exact .inr (.inr z)

/-! ### targets -/
def slots : Tg → List Nat
  | .one i => [i]
  | .tup is => is
def tTgt (G : Gx) (t : Tg) : TG := fun v σ H Q => ∃ I φ ρ S w ρ', Sim G I φ S H ∧ Envs G I φ ρ σ ∧ Rel G I φ w v ∧ bindT t w ρ = some ρ' ∧
  ∀ σ', Envs G I φ ρ' σ' → (∀ own : List Nat, (slots t).all (fun i => own.contains i) = true → L2.wipe σ' own = L2.wipe σ own) → Q σ' H
theorem wipe_set {σ : L2.St} {i : Nat} {x : Option V} : ∀ {own : List Nat}, i ∈ own → L2.wipe (σ.set i x) own = L2.wipe σ own
  | [], h => by cases h
  | v :: vs, h => by
    unfold L2.wipe
    by_cases hv : i = v
    · subst hv
      by_cases hm : i ∈ vs
      · rw [wipe_set hm]
      · have : ∀ (vs : List Nat), i ∉ vs → L2.wipe (σ.set i x) vs = (L2.wipe σ vs).set i x := by
          intro vs
          induction vs with
          | nil => intro _; rfl
          | cons u us ih =>
            intro hu
            unfold L2.wipe
            rw [ih (fun z => hu (List.mem_cons_of_mem _ z)), List.set_comm _ _ (fun z => hu (by rw [← z]; simp))]
        rw [this vs hm, List.set_set]
    · have hm : i ∈ vs := by
        rcases List.mem_cons.mp h with z | z
        · exact absurd z hv
        · exact z
      rw [wipe_set hm]
def nameAt (N : List PySem.Str) (sc : Scope) (i : Nat) : Expr → Bool
  | .Name x _ => decide (N[i]? = some x) && loc sc x
  | _ => false
def namesAt (N : List PySem.Str) (sc : Scope) : List Nat → List Expr → Bool
  | [], [] => true
  | i :: is, e :: es => nameAt N sc i e && namesAt N sc is es
  | _, _ => false
/-- sc: the scope as it is written -/
def tgOk (N : List PySem.Str) (sc : Scope) (t : Tg) (tg : Expr) : Bool :=
  match t, tg with
  | .one i, e => nameAt N sc i e
  | .tup is, .Tuple es _ _ => namesAt N sc is es
  | _, _ => false
/-- what a written scope says of the one that runs -/
def Wr (asc : Scope) (X : Cx) : Prop := ∀ x, (asc.names.lookup x = some .local → X.env.scope.names.lookup x = some .local) ∧ (asc.names.lookup x = some .cell → X.env.scope.names.lookup x = some .cell ∧ X.fn x = true)
theorem nameAt_ok {asc : Scope} {i : Nat} {e : Expr} (h : nameAt T.N asc i e = true) (hN : X.N = T.N) (hnd : X.N.Nodup) (hw : Wr asc X) : PG X e (gName i) := by
  unfold nameAt at h
  split at h
  · simp only [Bool.and_eq_true, decide_eq_true_eq] at h
    obtain ⟨h1, h2⟩ := h
    have hl := loc_ok h2
    rw [← hN] at h1
    have hi := h1
    rcases hl with hl | hl
    · exact pg_name hnd hi (.inl ((hw _).1 hl)) (.inr ((hw _).1 hl))
    · exact pg_name hnd hi (.inr ((hw _).2 hl).1) (.inl ((hw _).2 hl).2)
  · cases h
def setσ : List Nat → List V → L2.St → L2.St
  | i :: is, v :: vs, σ => setσ is vs (σ.set i (some v))
  | _, _, σ => σ
def gSetAll (is : List Nat) : TGs := fun vs σ H Q => vs.length = is.length ∧ Q (setσ is vs σ) H
theorem PGs_imp {es : List Expr} {t t' : TGs} (h : PGs X es t) (i : ∀ vs σ H Q, t' vs σ H Q → t vs σ H Q) : PGs X es t' := ⟨fun pins s σ H vs us Q I r q => h.run pins s σ H vs us Q I r (i vs σ H Q q)⟩
theorem PG_imp {e : Expr} {t t' : TG} (h : PG X e t) (i : ∀ v σ H Q, t' v σ H Q → t v σ H Q) : PG X e t' := ⟨fun pins s σ H v u Q I r q => h.run pins s σ H v u Q I r (i v σ H Q q)⟩
theorem namesAt_len {N : List PySem.Str} {sc : Scope} : ∀ {is : List Nat} {es : List Expr}, namesAt N sc is es = true → is.length = es.length
  | [], [], _ => rfl
  | i :: is, e :: es, h => by
    simp only [namesAt, Bool.and_eq_true] at h
    simp [namesAt_len h.2]
  | [], _ :: _, h => by cases h
  | _ :: _, [], h => by cases h
theorem namesAt_ok {asc : Scope} (hN : X.N = T.N) (hnd : X.N.Nodup) (hw : Wr asc X) : ∀ {is : List Nat} {es : List Expr}, namesAt T.N asc is es = true → PGs X es (gSetAll is) ∧ (assignEach es X.env).length = es.length ∧ (assignEach es X.env).findIdx? (·.1) = none
  | [], [], _ => by
    refine ⟨PGs_imp pgs_nil fun vs σ H Q q => ?_, rfl, rfl⟩
    obtain ⟨hl, q⟩ := q
    cases vs with
    | nil => exact ⟨rfl, q⟩
    | cons v vs => cases hl
  | i :: is, e :: es, h => by
    simp only [namesAt, Bool.and_eq_true] at h
    obtain ⟨h1, h2, h3⟩ := namesAt_ok hN hnd hw h.2
    have he := nameAt_ok h.1 hN hnd hw
    have hs : assignEach (e :: es) X.env = (false, assign e X.env) :: assignEach es X.env := by
      have h1 := h.1
      unfold nameAt at h1
      split at h1
      · rfl
      · cases h1
    refine ⟨PGs_imp (pgs_cons he h1 (by rw [hs]; rfl)) fun vs σ H Q q => ?_, by rw [hs]; simp [h2], ?_⟩
    · obtain ⟨hl, q⟩ := q
      cases vs with
      | nil => cases hl
      | cons v vs => exact ⟨v, vs, rfl, by simpa using hl, q⟩
    · rw [hs, List.findIdx?_cons]
      simp [h3]
  | [], _ :: _, h => by cases h
  | _ :: _, [], h => by cases h
theorem setAll_ok : ∀ {is : List Nat} {xs : List W} {vs : List V} {ρ ρ' : Env} {σ : L2.St}, Tw.setAll is xs ρ = some ρ' → Rels G I φ xs vs → Envs G I φ ρ σ → Envs G I φ ρ' (setσ is vs σ) ∧ vs.length = is.length ∧ ∀ own : List Nat, is.all (fun i => own.contains i) = true → L2.wipe (setσ is vs σ) own = L2.wipe σ own
  | [], [], _, _, _, _, h, r, en => by
    cases h
    obtain rfl : _ = [] := r
    exact ⟨en, rfl, fun _ _ => rfl⟩
  | i :: is, x :: xs, _, ρ, ρ', σ, h, r, en => by
    obtain ⟨v, vs, rfl, rv, rr⟩ := r
    obtain ⟨h1, h2, h3⟩ := setAll_ok (is := is) (ρ := ρ.set i (some x)) h rr (en.set rv)
    refine ⟨h1, by simp [h2], fun own ho => ?_⟩
    simp only [List.all_cons, Bool.and_eq_true] at ho
    show L2.wipe (setσ is vs (σ.set i (some v))) own = _
    rw [h3 own ho.2, wipe_set (by simpa using ho.1)]
  | [], _ :: _, _, _, _, _, h, _, _ => by cases h
  | _ :: _, [], _, _, _, _, h, _, _ => by cases h
theorem tgOk_ok {asc : Scope} {t : Tg} {tg : Expr} (hc : X.calm = true) (hN : X.N = T.N) (hnd : X.N.Nodup) (hw : Wr asc X) (h : tgOk T.N asc t tg = true) : PG X tg (tTgt G t) := by
  unfold tgOk at h
  split at h
  · rename_i i
    refine PG_imp (nameAt_ok h hN hnd hw) fun v σ H Q ⟨I, φ, ρ, S, w, ρ', s, en, r, hb, q⟩ => ?_
    cases hb
    refine q _ (en.set r) fun own ho => wipe_set ?_
    simpa [slots] using ho
  · rename_i is es _ _
    obtain ⟨h1, h2, h3⟩ := namesAt_ok hN hnd hw h
    refine PG_imp (pg_tup hc h1 h2 h3) fun v σ H Q ⟨I, φ, ρ, S, w, ρ', s, en, r, hb, q⟩ => ?_
    match w, hb with
    | .tup xs, hb =>
      obtain ⟨a, vs, rfl, ha, rr⟩ := r
      obtain ⟨e1, e2, e3⟩ := setAll_ok hb rr en
      exact ⟨a, vs, rfl, .inl (.inl (s.same _ _ ha)), by rw [e2]; exact namesAt_len h, e2, q _ e1 e3⟩
  · cases h

/-! ### comprehensions -/
def tCond (G : Gx) (cf : CallF) (cond : List E) : TT := fun σ H Q => ∃ I φ ρ S, Sim G I φ S H ∧ Envs G I φ ρ σ ∧ Post G E0 I φ H (evAll cf cond ρ S) fun w S' => ∃ b, w = .bl b ∧ ∀ I' φ' H', Ext I φ H I' φ' H' → Sim G I' φ' S' H' → Q b H'
theorem compL_noex {elt cond : Env → Sto → Rs W} {t : Tg} {ρ : Env} : ∀ {xs : List W} {S S' : Sto} {c : Nat}, compL elt cond t ρ xs S ≠ .ex c S'
  | [], _, _, _, h => by simp [compL] at h
  | x :: xs, S, S', c, h => by
    simp only [compL] at h
    split at h
    · cases h
    · split at h
      · split at h
        · rename_i y S2 _
          cases hc : compL elt cond t ρ xs S2 with
          | ok ys S3 => rw [hc] at h; cases h
          | ex c' S3 => exact compL_noex hc
          | bad => rw [hc] at h; cases h
        · cases h
      · exact compL_noex h
      · cases h
theorem comp_ok {elt : E} {t : Tg} {k : ItK} {srcs cond : List E} {own : List Nat} (hs : (slots t).all (fun i => own.contains i) = true) : ∀ σ H Q, tF G cf Ex (.comp elt t k srcs cond own) σ H Q → tLc (tI G cf Ex k srcs) (tTgt G t) (tCond G cf cond) (tE G cf E0 elt) own σ H Q := by
  rintro σ H Q ⟨I, φ, ρ, S, s, en, h⟩
  simp only [ev] at h
  refine ⟨I, φ, ρ, S, s, en, h.bind.imp fun ws S1 _ h1 => ?_⟩
  split at h1
  · rename_i xs hx
    refine ⟨xs, hx, ?_⟩
    intro J I1 φ1 H1 e1 s1 hy D hD
    split at h1
    · rename_i hlen
      cases hc : compL (fun ρ' S' => ev cf elt ρ' S') (fun ρ' S' => evAll cf cond ρ' S') t (Tw.wipe ρ own) xs S1 with
      | bad => rw [hc] at h1; exact h1.elim
      | ex c S2 => exact absurd hc compL_noex
      | ok ys Sf =>
        rw [hc] at h1
        obtain ⟨zs, hz, kf⟩ := h1
        cases hz
        have kf : KF G I φ H Sf ys Q := kf
        have iD : I1 D = none := s1.iNone hD
        refine ⟨fun i m H' => m = xs.length - i ∧ i ≤ xs.length ∧ ∃ I2 φ2 S2 aw av rs, Ext I1 φ1 H1 I2 φ2 (rm H' D) ∧ Sim G I2 φ2 S2 (rm H' D) ∧ H' D = some (.lst av) ∧ Rels G I2 φ2 aw av ∧ aw.length ≤ i ∧
          compL (fun ρ' S' => ev cf elt ρ' S') (fun ρ' S' => evAll cf cond ρ' S') t (Tw.wipe ρ own) (xs.drop i) S2 = .ok rs Sf ∧ ys = aw ++ rs, ⟨xs.length, ?_⟩, ?_⟩
        · refine ⟨by simp, Nat.zero_le _, I1, φ1, S1, [], [], ys, ?_, ?_, upd_same, rfl, Nat.le_refl _, by simpa using hc, rfl⟩
          · rw [rm_upd, rm_none hD]; exact Ext.refl _ _ _
          · rw [rm_upd, rm_none hD]; exact s1
        · rintro i m H' ⟨rfl, hi, I2, φ2, S2, aw, av, rs, e2, s2, hDv, ra, hal, hcl, hys⟩
          have s2' := s2.plusD
          have hyy := hy I2 φ2 S2 H' e2.same e2.pre' s2' i
          by_cases hlt : i < xs.length
          · right
            have hxi : xs[i]? = some xs[i] := List.getElem?_eq_getElem hlt
            obtain ⟨hgo, hyl⟩ := hyy.1 _ hxi
            refine ⟨hgo, fun H'' => (i + 1 ≤ xs.length) ∧ ∃ I2 φ2 S2 aw av rs, Ext I1 φ1 H1 I2 φ2 (rm H'' D) ∧ Sim G I2 φ2 S2 (rm H'' D) ∧ H'' D = some (.lst av) ∧ Rels G I2 φ2 aw av ∧ aw.length ≤ i + 1 ∧
              compL (fun ρ' S' => ev cf elt ρ' S') (fun ρ' S' => evAll cf cond ρ' S') t (Tw.wipe ρ own) (xs.drop (i + 1)) S2 = .ok rs Sf ∧ ys = aw ++ rs, fun H'' q => ⟨xs.length - (i + 1), by omega, rfl, q⟩, ?_⟩
            intro v H3 hv
            obtain ⟨I3, e3, s3, r3⟩ := hyl v H3 hv
            obtain ⟨s3r, e3r, hD3⟩ := peel s2 hDv e3 s3
            rw [List.drop_eq_getElem_cons hlt] at hcl
            simp only [compL] at hcl
            split at hcl
            · cases hcl
            · rename_i ρ' hb
              have en1 : Envs G I3 φ2 (Tw.wipe ρ own) (L2.wipe σ own) := ((en.ext e1).ext (e2.trans e3r)).wipe own
              refine ⟨I3, φ2, Tw.wipe ρ own, S2, _, ρ', s3, en1, r3, hb, fun σ' en2 hw => ?_⟩
              have hww : L2.wipe σ' own = L2.wipe σ own := by
                rw [hw own hs]
                have : ∀ (o : List Nat) (σ : L2.St), L2.wipe (L2.wipe σ o) o = L2.wipe σ o := by
                  intro o σ
                  apply List.ext_getElem?
                  intro j
                  have key : ∀ (o : List Nat) (σ : L2.St), (L2.wipe σ o)[j]? = if j ∈ o then (if j < σ.length then some none else none) else σ[j]? := by
                    intro o
                    induction o with
                    | nil => intro σ; simp [L2.wipe]
                    | cons u us ih =>
                      intro σ
                      unfold L2.wipe
                      rw [List.getElem?_set, ih, wipe_length]
                      by_cases huj : u = j
                      · subst huj; simp
                      · rw [if_neg huj]
                        have hju : j ≠ u := fun z => huj z.symm
                        by_cases hj : j ∈ us
                        · simp [hj, hju]
                        · simp [hj, hju]
                  rw [key, key, wipe_length]
                  by_cases hj : j ∈ o
                  · simp [hj]
                  · simp [hj]
                exact this own σ
              refine ⟨hww, ?_⟩
              refine ⟨I3, φ2, ρ', S2, s3, en2, ?_⟩
              split at hcl
              · rename_i S3 hcond
                rw [hcond]
                split at hcl
                · rename_i y S4 helt
                  refine ⟨true, rfl, fun I4 φ4 H4 e4 s4 => ?_⟩
                  show tE G cf E0 elt σ' H4 _
                  obtain ⟨s4r, e4r, hD4⟩ := peel s3r hD3 e4 s4
                  refine ⟨I4, φ4, ρ', S3, s4, en2.ext e4, ?_⟩
                  rw [helt]
                  intro yv I5 φ5 H5 e5 s5 r5
                  obtain ⟨s5r, e5r, hD5⟩ := peel s4r hD4 e5 s5
                  refine ⟨av, hD5, ?_, ?_⟩
                  · rw [ra.length]
                    exact lim_ok (Nat.lt_of_le_of_lt hal (Nat.lt_trans hlt hlen))
                  · cases hrest : compL (fun ρ' S' => ev cf elt ρ' S') (fun ρ' S' => evAll cf cond ρ' S') t (Tw.wipe ρ own) (xs.drop (i + 1)) S4 with
                    | bad => rw [hrest] at hcl; cases hcl
                    | ex c S' => exact absurd hrest compL_noex
                    | ok rs' Sf' =>
                      rw [hrest] at hcl
                      cases hcl
                      refine ⟨hlt, I5, φ5, S4, aw ++ [y], av ++ [yv], rs', ?_, ?_, upd_same, ?_, ?_, hrest, ?_⟩
                      · rw [rm_upd]
                        exact e2.trans (e3r.trans (e4r.trans e5r))
                      · rw [rm_upd]; exact s5r
                      · exact ((ra.ext (e3.trans (e4.trans e5)))).append (Rels.one r5)
                      · simp; omega
                      · rw [hys]; simp
                · cases hcl
              · rename_i S3 hcond
                rw [hcond]
                refine ⟨false, rfl, fun I4 φ4 H4 e4 s4 => ?_⟩
                refine ite_ff ?_
                obtain ⟨s4r, e4r, hD4⟩ := peel s3r hD3 e4 s4
                exact ⟨hlt, I4, φ4, S3, aw, av, rs, e2.trans (e3r.trans e4r), s4r, hD4, ra.ext (e3.trans e4), by omega, hcl, hys⟩
              · cases hcl
          · left
            have hi' : i = xs.length := by omega
            refine ⟨hyy.2 (by omega), ?_⟩
            subst hi'
            rw [List.drop_length] at hcl
            simp only [compL] at hcl
            cases hcl
            have := kf D av I2 φ2 (rm H' D) (e1.trans e2) s2 rm_self (by rw [hys]; simpa using ra) (by
              rw [ra.length]
              exact Nat.le_of_lt (lim_ok (Nat.lt_of_le_of_lt hal hlen)))
            rw [upd_rm hDv] at this
            exact this
    · exact h1.elim
  · exact h1.elim
end Tw

/-! Tw, part M: the checker of expressions. -/
namespace Tw
open PySem PySem.Spec PyProof.Rows L2

variable {G : Gx} {I I' I1 I2 H H' H1 H2 : Hp} {φ φ' φ1 φ2 : List Addr} {S S' S1 : Sto} {K : PySem.W.Frag} {X : Cx} {cf : CallF} {T : Tab} {Ex : XK} {n : Nat} {sc : Scope}

def conSyn (T : Tab) (sc : Scope) (w : W) (e : Expr) : Bool :=
  match e with
  | .Constant (.int i) _ _ => match w with
    | .int j => decide (i = j)
    | _ => false
  | .Constant (.bool b) _ _ => match w with
    | .bl c => b == c
    | _ => false
  | .Constant .none _ _ => match w with
    | .non => true
    | _ => false
  | .Constant (.str x) _ _ => match w with
    | .str s => decide (x = ⟨s.toArray⟩)
    | _ => false
  | .Name x _ => isGl sc x && !dbg x && (match w, T.cst.lookup x with
    | .int i, some (.int j) => decide (i = j)
    | .str s, some (.str t) => decide (s = t)
    | _, _ => false)
  | _ => false
def isFresh : E → Bool
  | .op o _ => freshOp o
  | .comp _ _ _ _ _ _ => true
  | _ => false
def isDic : E → Bool
  | .op (.dicD _) [] => true
  | _ => false
def dicSyn : Expr → Bool
  | .Dict [] [] _ => true
  | _ => false
def namSyn (T : Tab) (sc : Scope) (i : Nat) : Expr → Bool
  | .Name x _ => decide (T.N[i]? = some x) && vis sc x && !dbg x
  | _ => false
def callSyn (T : Tab) (sc : Scope) (f k : Nat) : Expr → Option (List Expr)
  | .Call (.Name x _) es [] _ => if isGl sc x && !dbg x && decide ((x, f, k) ∈ T.fnm) then some es else none
  | _ => none
def ownOf (N : List PySem.Str) (own : List Nat) : List (PySem.Str × Nat) := own.map fun i => ((N[i]?).getD "", i)
def andSyn : Expr → Option (List Expr)
  | .BoolOp .And es _ => some es
  | _ => none
def orSyn : Expr → Option (List Expr)
  | .BoolOp .Or es _ => some es
  | _ => none
def notSyn : Expr → Option Expr
  | .UnaryOp .Not b _ => some b
  | _ => none
def ifeSyn : Expr → Option (Expr × Expr × Expr)
  | .IfExp c a b _ => some (c, a, b)
  | _ => none
def chainSyn (o1 o2 : Op) : Expr → Option (Expr × Expr × Expr)
  | .Compare a [c1, c2] [b, c] _ => if decide (cmpTab o1 = some c1) && decide (cmpTab o2 = some c2) && plainE b && plainE c then some (a, b, c) else none
  | _ => none
def compSyn : Expr → Option (Expr × Expr × Expr × List Expr × Scope)
  | .ListComp elt [⟨tg, iter, ifs, 0⟩] scope _ => some (elt, tg, iter, ifs, scope)
  | _ => none
mutual
def chk (T : Tab) (md : Bool) (sc : Scope) : E → Expr → Bool
  | .var i, e => namSyn T sc i e
  | .con w, e => conSyn T sc w e
  | .op o as, e => match opSyn sc o e with
    | some es => opAux o as && chks T false sc as es
    | none => false
  | .mth t o a as, e => match mthTab t o with
    | some nm => match mthSyn nm e with
      | some (b, es) => chk T false sc a b && chks T false sc as es
      | none => false
    | none => false
  | .eff o a as, e => match effTab o with
    | some nm => match mthSyn nm e with
      | some (b, es) => chk T false sc a b && chks T false sc as es
      | none => false
    | none => false
  | .and as, e => match andSyn e with
    | some es => !as.isEmpty && chks T md sc as es
    | none => false
  | .or as, e => match orSyn e with
    | some es => !as.isEmpty && chks T md sc as es
    | none => false
  | .not a, e => match notSyn e with
    | some b => chk T md sc a b
    | none => false
  | .ife c a b, e => match ifeSyn e with
    | some (c', a', b') => !md && chk T true sc c c' && chk T false sc a a' && chk T false sc b b'
    | none => false
  | .chain o1 o2 a b c, e => match chainSyn o1 o2 e with
    | some (a', b', c') => chk T false sc a a' && chk T false sc b b' && chk T false sc c c'
    | none => false
  | .comp elt t k srcs cond own, e => match compSyn e with
    | some (elt', tg, iter, ifs, scope) => match itSyn sc k tg iter with
      | some es => chks T false sc srcs es && blkC T.N sc scope (ownOf T.N own) && tgOk T.N scope t tg && (slots t).all (fun i => own.contains i) && decide (cond.length ≤ 1) &&
        chks T true (relS scope sc) cond ifs && chk T false (relS scope sc) elt elt'
      | none => false
    | none => false
  | .call m f as, e => match callSyn T sc f as.length e with
    | some es => chks T false sc as es
    | none => false
  | .new _ _ _ _, _ => false
  | .mut a, e => !md && ((isDic a && dicSyn e) || (isFresh a && chk T false sc a e))
  | .toI a, e => !md && chk T false sc a e
def chks (T : Tab) (md : Bool) (sc : Scope) : List E → List Expr → Bool
  | [], [] => true
  | a :: as, e :: es => plainE e && chk T md sc a e && chks T md sc as es
  | _, _ => false
end

/-! ### it is right -/
def Good (G : Gx) (cf : CallF) (Ex : XK) (X : Cx) (md : Bool) (m : E) (e : Expr) : Prop :=
  match md with
  | true => PT X e (tT G cf Ex m)
  | false => PE X e (tE G cf Ex m) ∧ (isFresh m = true → PE X e (tF G cf Ex m))
inductive GoodL (G : Gx) (cf : CallF) (Ex : XK) (X : Cx) (md : Bool) : List E → List Expr → Prop
  | nil : GoodL G cf Ex X md [] []
  | cons {m : E} {ms : List E} {e : Expr} {es : List Expr} : plainE e = true → Good G cf Ex X md m e → GoodL G cf Ex X md ms es → GoodL G cf Ex X md (m :: ms) (e :: es)
theorem GoodL.pes : ∀ {ms : List E} {es : List Expr}, GoodL G cf Ex X false ms es → PEs G cf Ex X ms es
  | _, _, .nil => .nil
  | _, _, .cons p h t => .cons p h.1 t.pes
theorem dbg_ok {x : PySem.Str} (h : (!dbg x) = true) : (x == ("__debug__" : PySem.Str)) = false ∧ (x == ("__classdict__" : PySem.Str)) = false ∧ x ≠ ("__name__" : PySem.Str) := by
  unfold dbg at h
  simp only [Bool.not_or, Bool.and_eq_true, Bool.not_eq_true'] at h
  exact ⟨h.1.1, h.1.2, by simpa using h.2⟩
theorem good_of {md : Bool} {m : E} {e : Expr} (hf : isFresh m = false) (ht : truE e = true) (h : PE X e (tE G cf Ex m)) : Good G cf Ex X md m e := by
  cases md with
  | true => exact tru_ok h ht
  | false => exact ⟨h, fun z => by rw [hf] at z; cases z⟩
theorem tVar_ok {i : Nat} : ∀ σ H Q, tE G cf Ex (.var i) σ H Q → tVar i σ H Q := by
  rintro σ H Q ⟨I, φ, ρ, S, s, en, h⟩
  simp only [ev] at h
  split at h
  · rename_i w hw
    obtain ⟨v, hv, r⟩ := en.at_ i w hw
    exact ⟨v, hv, KE.here h s r⟩
  · exact h.elim
theorem tCon_ok {w : W} {v : V} (r : ∀ I φ, Rel G I φ w v) : ∀ σ H Q, tE G cf Ex (.con w) σ H Q → tC v σ H Q := by
  rintro σ H Q ⟨I, φ, ρ, S, s, en, h⟩
  simp only [ev] at h
  exact KE.here h s (r _ _)
theorem lookup_mem {α : Type} {l : List (PySem.Str × α)} {x : PySem.Str} {w : α} (h : l.lookup x = some w) : (x, w) ∈ l := by
  induction l with
  | nil => cases h
  | cons p l ih =>
    obtain ⟨a, b⟩ := p
    rw [List.lookup_cons] at h
    split at h
    · rename_i hb
      cases h
      have : x = a := by simpa using hb
      subst this
      exact List.mem_cons_self
    · exact List.mem_cons_of_mem _ (ih h)
theorem conOk {w : W} {e : Expr} (h : conSyn T sc w e = true) (x : XOk T G cf Ex n sc X) : PE X e (tE G cf Ex (.con w)) ∧ truE e = true := by
  unfold conSyn at h
  split at h
  · split at h
    · cases of_decide_eq_true h
      exact ⟨PE_imp pe_int (tCon_ok fun _ _ => rfl), rfl⟩
    · cases h
  · split at h
    · obtain rfl := eq_of_beq h
      exact ⟨PE_imp pe_bl (tCon_ok fun _ _ => rfl), rfl⟩
    · cases h
  · split at h
    · exact ⟨PE_imp pe_non (tCon_ok fun _ _ => rfl), rfl⟩
    · cases h
  · split at h
    · cases of_decide_eq_true h
      exact ⟨PE_imp pe_str (tCon_ok fun _ _ => rfl), rfl⟩
    · cases h
  · simp only [Bool.and_eq_true] at h
    obtain ⟨⟨h1, h2⟩, h3⟩ := h
    have hd := (dbg_ok h2).1
    split at h3
    · rename_i hl
      cases of_decide_eq_true h3
      obtain ⟨u, v, hu, rv, r⟩ := x.csts _ _ (lookup_mem hl)
      exact ⟨PE_imp (pe_glob (x.gl h1) hu rv hd) (tCon_ok r), rfl⟩
    · rename_i hl
      cases of_decide_eq_true h3
      obtain ⟨u, v, hu, rv, r⟩ := x.csts _ _ (lookup_mem hl)
      exact ⟨PE_imp (pe_glob (x.gl h1) hu rv hd) (tCon_ok r), rfl⟩
    · cases h3
  · cases h
theorem post_bl {r : Rs W} {k : W → Sto → Prop} {f : Bool → Sto → Rs W} (h : Post G Ex I φ H (r.bind fun w S1 => match w with | .bl b => f b S1 | _ => .bad) k) : Post G Ex I φ H r fun w S1 => ∃ b, w = .bl b ∧ Post G Ex I φ H (f b S1) k := by
  refine h.bind.imp fun w S1 _ h1 => ?_
  split at h1
  · exact ⟨_, rfl, h1⟩
  · exact h1.elim
theorem notPE {a : E} : ∀ σ H Q, tE G cf Ex (.not a) σ H Q → tNotV (tE G cf Ex a) σ H Q := by
  rintro σ H Q ⟨I, φ, ρ, S, s, en, h⟩
  simp only [ev] at h
  refine ⟨I, φ, ρ, S, s, en, h.bind.imp fun w S1 _ h1 => ?_⟩
  intro v I1 φ1 H1 e1 s1 r1
  split at h1
  · obtain rfl : v = _ := r1
    exact ⟨_, rfl, (KE.ext e1 h1).here s1 rfl⟩
  · exact h1.elim
theorem notPT {a : E} : ∀ σ H Q, tT G cf Ex (.not a) σ H Q → tNot (tT G cf Ex a) σ H Q := by
  rintro σ H Q ⟨I, φ, ρ, S, s, en, h⟩
  simp only [ev] at h
  refine ⟨I, φ, ρ, S, s, en, h.bind.imp fun w S1 _ h1 => ?_⟩
  split at h1
  · obtain ⟨b, hb, q⟩ := h1
    cases hb
    exact ⟨_, rfl, q⟩
  · exact h1.elim
theorem evAnd1 {a : E} {ρ : Env} {S : Sto} : evAnd cf [a] ρ S = (ev cf a ρ S).bind fun w S1 => match w with
    | .bl b => .ok (.bl b) S1
    | _ => .bad := by
  rw [evAnd] <;> rfl
theorem evAnd2 {a b : E} {as : List E} {ρ : Env} {S : Sto} : evAnd cf (a :: b :: as) ρ S = (ev cf a ρ S).bind fun w S1 => match w with
    | .bl true => evAnd cf (b :: as) ρ S1
    | .bl false => .ok (.bl false) S1
    | _ => .bad := by
  rw [evAnd] <;> first | rfl | simp
theorem evOr1 {a : E} {ρ : Env} {S : Sto} : evOr cf [a] ρ S = (ev cf a ρ S).bind fun w S1 => match w with
    | .bl b => .ok (.bl b) S1
    | _ => .bad := by
  rw [evOr] <;> rfl
theorem evOr2 {a b : E} {as : List E} {ρ : Env} {S : Sto} : evOr cf (a :: b :: as) ρ S = (ev cf a ρ S).bind fun w S1 => match w with
    | .bl true => .ok (.bl true) S1
    | .bl false => evOr cf (b :: as) ρ S1
    | _ => .bad := by
  rw [evOr] <;> first | rfl | simp
theorem andPE {pos : Pos} : ∀ {ms : List E} {es : List Expr}, ms ≠ [] → GoodL G cf Ex X false ms es → PE X (.BoolOp .And es pos) (tE G cf Ex (.and ms))
  | [], _, h, _ => absurd rfl h
  | [m], _, _, .cons p h .nil => PE_imp (pe_one h.1) fun σ H Q ⟨I, φ, ρ, S, s, en, q⟩ => by
    simp only [ev, evAnd1] at q
    refine ⟨I, φ, ρ, S, s, en, q.bind.imp fun w S1 _ h1 => ?_⟩
    split at h1
    · exact h1
    · exact h1.elim
  | m :: m' :: ms, _, _, .cons p h (.cons p' h' t) => by
    refine PE_imp (pe_and h.1 (andPE (by simp) (.cons p' h' t))) fun σ H Q ⟨I, φ, ρ, S, s, en, q⟩ => ?_
    simp only [ev, evAnd2] at q
    refine ⟨I, φ, ρ, S, s, en, q.bind.imp fun w S1 _ h1 => ?_⟩
    intro v I1 φ1 H1 e1 s1 r1
    split at h1
    · obtain rfl : v = _ := r1
      refine ⟨true, rfl, ?_⟩
      refine ite_tt ⟨I1, φ1, ρ, S1, s1, en.ext e1, ?_⟩
      simp only [ev]
      exact h1.ext e1 fun _ _ _ k => KE.ext e1 k
    · obtain rfl : v = _ := r1
      exact ⟨false, rfl, ite_ff ((KE.ext e1 h1).here s1 rfl)⟩
    · exact h1.elim
theorem orPE {pos : Pos} : ∀ {ms : List E} {es : List Expr}, ms ≠ [] → GoodL G cf Ex X false ms es → PE X (.BoolOp .Or es pos) (tE G cf Ex (.or ms))
  | [], _, h, _ => absurd rfl h
  | [m], _, _, .cons p h .nil => PE_imp (pe_one h.1) fun σ H Q ⟨I, φ, ρ, S, s, en, q⟩ => by
    simp only [ev, evOr1] at q
    refine ⟨I, φ, ρ, S, s, en, q.bind.imp fun w S1 _ h1 => ?_⟩
    split at h1
    · exact h1
    · exact h1.elim
  | m :: m' :: ms, _, _, .cons p h (.cons p' h' t) => by
    refine PE_imp (pe_or h.1 (orPE (by simp) (.cons p' h' t))) fun σ H Q ⟨I, φ, ρ, S, s, en, q⟩ => ?_
    simp only [ev, evOr2] at q
    refine ⟨I, φ, ρ, S, s, en, q.bind.imp fun w S1 _ h1 => ?_⟩
    intro v I1 φ1 H1 e1 s1 r1
    split at h1
    · obtain rfl : v = _ := r1
      exact ⟨true, rfl, ite_tt ((KE.ext e1 h1).here s1 rfl)⟩
    · obtain rfl : v = _ := r1
      refine ⟨false, rfl, ?_⟩
      refine ite_ff ⟨I1, φ1, ρ, S1, s1, en.ext e1, ?_⟩
      simp only [ev]
      exact h1.ext e1 fun _ _ _ k => KE.ext e1 k
    · exact h1.elim
theorem andPT {pos : Pos} : ∀ {ms : List E} {es : List Expr}, ms ≠ [] → GoodL G cf Ex X true ms es → PW X (.BoolOp .And es pos) (tT G cf Ex (.and ms))
  | [], _, h, _ => absurd rfl h
  | [m], _, _, .cons p h .nil => PW_imp (pw_and1 h) fun σ H Q ⟨I, φ, ρ, S, s, en, q⟩ => by
    simp only [ev, evAnd1] at q
    refine ⟨I, φ, ρ, S, s, en, q.bind.imp fun w S1 _ h1 => ?_⟩
    split at h1
    · exact h1
    · exact h1.elim
  | m :: m' :: ms, _, _, .cons p h (.cons p' h' t) => by
    refine PW_imp (pw_and h (andPT (by simp) (.cons p' h' t))) fun σ H Q ⟨I, φ, ρ, S, s, en, q⟩ => ?_
    simp only [ev, evAnd2] at q
    refine ⟨I, φ, ρ, S, s, en, q.bind.imp fun w S1 _ h1 => ?_⟩
    split at h1
    · refine ⟨true, rfl, fun I1 φ1 H1 e1 s1 => ite_tt ⟨I1, φ1, ρ, S1, s1, en.ext e1, ?_⟩⟩
      simp only [ev]
      exact h1.ext e1 fun _ _ _ ⟨b, hb, k⟩ => ⟨b, hb, fun I2 φ2 H2 e2 s2 => k I2 φ2 H2 (e1.trans e2) s2⟩
    · obtain ⟨b, hb, k⟩ := h1
      cases hb
      exact ⟨false, rfl, fun I1 φ1 H1 e1 s1 => ite_ff (k _ _ _ e1 s1)⟩
    · exact h1.elim
theorem orPT {pos : Pos} : ∀ {ms : List E} {es : List Expr}, ms ≠ [] → GoodL G cf Ex X true ms es → PW X (.BoolOp .Or es pos) (tT G cf Ex (.or ms))
  | [], _, h, _ => absurd rfl h
  | [m], _, _, .cons p h .nil => PW_imp (pw_or1 h) fun σ H Q ⟨I, φ, ρ, S, s, en, q⟩ => by
    simp only [ev, evOr1] at q
    refine ⟨I, φ, ρ, S, s, en, q.bind.imp fun w S1 _ h1 => ?_⟩
    split at h1
    · exact h1
    · exact h1.elim
  | m :: m' :: ms, _, _, .cons p h (.cons p' h' t) => by
    refine PW_imp (pw_or h (orPT (by simp) (.cons p' h' t))) fun σ H Q ⟨I, φ, ρ, S, s, en, q⟩ => ?_
    simp only [ev, evOr2] at q
    refine ⟨I, φ, ρ, S, s, en, q.bind.imp fun w S1 _ h1 => ?_⟩
    split at h1
    · obtain ⟨b, hb, k⟩ := h1
      cases hb
      exact ⟨true, rfl, fun I1 φ1 H1 e1 s1 => ite_tt (k _ _ _ e1 s1)⟩
    · refine ⟨false, rfl, fun I1 φ1 H1 e1 s1 => ite_ff ⟨I1, φ1, ρ, S1, s1, en.ext e1, ?_⟩⟩
      simp only [ev]
      exact h1.ext e1 fun _ _ _ ⟨b, hb, k⟩ => ⟨b, hb, fun I2 φ2 H2 e2 s2 => k I2 φ2 H2 (e1.trans e2) s2⟩
    · exact h1.elim
theorem ifeOk {c a b : E} : ∀ σ H Q, tE G cf Ex (.ife c a b) σ H Q → tIf (tT G cf Ex c) (tE G cf Ex a) (tE G cf Ex b) σ H Q := by
  rintro σ H Q ⟨I, φ, ρ, S, s, en, h⟩
  simp only [ev] at h
  refine ⟨I, φ, ρ, S, s, en, h.bind.imp fun w S1 _ h1 => ?_⟩
  split at h1
  · exact ⟨true, rfl, fun I1 φ1 H1 e1 s1 => ite_tt ⟨I1, φ1, ρ, S1, s1, en.ext e1, h1.ext e1 fun _ _ _ k => KE.ext e1 k⟩⟩
  · exact ⟨false, rfl, fun I1 φ1 H1 e1 s1 => ite_ff ⟨I1, φ1, ρ, S1, s1, en.ext e1, h1.ext e1 fun _ _ _ k => KE.ext e1 k⟩⟩
  · exact h1.elim
theorem chainOk {o1 o2 : Op} {a b c : E} : ∀ σ H Q, tE G cf Ex (.chain o1 o2 a b c) σ H Q → tChain (fun x y => rOp G o1 [x, y]) (fun x y => rOp G o2 [x, y]) (tE G cf Ex a) (tE G cf Ex b) (tE G cf Ex c) σ H Q := by
  rintro σ H Q ⟨I, φ, ρ, S, s, en, h⟩
  simp only [ev] at h
  refine ⟨I, φ, ρ, S, s, en, h.bind.imp fun x S1 _ h1 => ?_⟩
  intro xv I1 φ1 H1 e1 s1 r1
  refine ⟨I1, φ1, ρ, S1, s1, en.ext e1, h1.bind.ext e1 fun y S2 _ h2 => ?_⟩
  intro yv I2 φ2 H2 e2 s2 r2
  have e12 := e1.trans e2
  split at h2
  · rename_i hop
    refine ⟨I2, φ2, S2, _, _, s2, .cons (r1.ext e2) (.cons r2 .nil), hop, ?_⟩
    intro z I3 φ3 H3 e3 s3 r3
    obtain rfl : z = _ := r3
    refine ⟨true, rfl, ite_tt ⟨I3, φ3, ρ, S2, s3, (en.ext e12).ext e3, h2.bind.ext (e12.trans e3) fun w S4 _ h4 => ?_⟩⟩
    intro wv I4 φ4 H4 e4 s4 r4
    obtain ⟨u, hu, k⟩ := Post.ofO h4
    exact ⟨I4, φ4, S4, _, u, s4, .cons ((r2.ext e3).ext e4) (.cons r4 .nil), hu, KE.ext ((e12.trans e3).trans e4) k⟩
  · rename_i hop
    refine ⟨I2, φ2, S2, _, _, s2, .cons (r1.ext e2) (.cons r2 .nil), hop, ?_⟩
    intro z I3 φ3 H3 e3 s3 r3
    obtain rfl : z = _ := r3
    exact ⟨false, rfl, ite_ff ((KE.ext (e12.trans e3) h2).here s3 rfl)⟩
  · exact h2.elim
theorem fresh_op {o : Op} {ws : List W} {S : Sto} {w : W} (hf : freshOp o = true) (h : opSem o ws S = some w) : ∀ t ks vs, w ≠ .dic t ks vs := by
  rintro t ks vs rfl
  cases o <;> first | (cases hf; done) | skip
  · -- add
    unfold opSem at h
    split at h <;> try (cases h; done)
    all_goals try (rename_i hh; cases hh; done)
    rename_i x y hh
    unfold opAdd at h
    split at h
    · cases h
    · split at h <;> cases h
    · split at h
      · split at h <;> cases h
      · cases h
  · unfold opSem at h
    split at h <;> try (cases h; done)
    all_goals try (rename_i hh; cases hh; done)
    rename_i hh
    cases hp : partsOf _ _ _ with
    | none => rw [hp] at h; cases h
    | some b =>
      rw [hp] at h
      simp only [Option.bind_some] at h
      unfold sliceSem at h
      split at h
      · split at h <;> cases h
      · cases h
      · simp at h
  · obtain ⟨xs, hx⟩ := listSem_lst h
    cases hx
  · obtain ⟨xs, hx⟩ := sortedSem_lst h
    cases hx
  · have : opSem .lstD ws S = if ws.length < LIM then some (.lst ws) else none := by simp [opSem]
    rw [this] at h
    split at h <;> cases h
theorem fresh_ev {a : E} (hf : isFresh a = true) {ρ : Env} {S S' : Sto} {w : W} (h : ev cf a ρ S = .ok w S') : ∀ t ks vs, w ≠ .dic t ks vs := by
  cases a <;> first | (cases hf; done) | skip
  · rename_i o as
    simp only [ev] at h
    cases he : evs cf as ρ S with
    | ok ws S1 =>
      rw [he] at h
      simp only [Rs.bind] at h
      cases ho : opSem o ws S1 with
      | none => rw [ho] at h; cases h
      | some u => rw [ho] at h; cases h; exact fresh_op hf ho
    | ex c S1 => rw [he] at h; cases h
    | bad => rw [he] at h; cases h
  · rename_i elt t k srcs cond own
    simp only [ev] at h
    cases he : evs cf srcs ρ S with
    | ok ws S1 =>
      rw [he] at h
      simp only [Rs.bind] at h
      split at h
      · split at h
        · rename_i xs _ _
          cases hc : compL (fun ρ' S' => ev cf elt ρ' S') (fun ρ' S' => evAll cf cond ρ' S') t (Tw.wipe ρ own) xs S1 with
          | ok ys S2 => rw [hc] at h; cases h; intro _ _ _ z; cases z
          | ex c S2 => rw [hc] at h; cases h
          | bad => rw [hc] at h; cases h
        · cases h
      · cases h
    | ex c S1 => rw [he] at h; cases h
    | bad => rw [he] at h; cases h
theorem mutOk {a : E} (hf : isFresh a = true) : ∀ σ H Q, tE G cf Ex (.mut a) σ H Q → tF G cf Ex a σ H Q := by
  rintro σ H Q ⟨I, φ, ρ, S, s, en, h⟩
  simp only [ev] at h
  refine ⟨I, φ, ρ, S, s, en, h.bind.imp fun w S1 hw h1 => ?_⟩
  split at h1
  · rename_i xs
    refine ⟨xs, rfl, ?_⟩
    intro p us I1 φ1 H1 e1 s1 hp r hlen
    have h1 : KE G I φ H (S1 ++ [.lst xs]) (.ref S1.length) Q := h1
    obtain ⟨s2, e2⟩ := s1.newC (o := .lst xs) (u := .lst us) hp ⟨us, upd_same, r.mono (Same.refl _) ⟨[p], rfl⟩⟩
    exact (KE.ext (e1.trans e2) h1).here s2 ⟨p, rfl, by rw [← s1.len]; simp⟩
  · exact absurd rfl (fresh_ev hf hw _ _ _)
  · exact h1.elim
theorem dicOk {t : Bool} {e : Expr} (h : dicSyn e = true) : PE X e (tE G cf Ex (.mut (.op (.dicD t) []))) := by
  unfold dicSyn at h
  split at h
  · cases t with
    | false =>
      refine PE_imp pe_dnewK ?_
      rintro σ H Q ⟨I, φ, ρ, S, s, en, h⟩ p hp
      simp only [ev, evs, Rs.bind, ofO, opSem] at h
      have h1 : KE G I φ H (S ++ [.dic false [] []]) (.ref S.length) Q := h
      obtain ⟨s2, e2⟩ := s.newC (o := .dic false [] []) (u := .dK []) hp ⟨[], upd_same, rfl, rfl⟩
      exact (KE.ext e2 h1).here s2 ⟨p, rfl, by rw [← s.len]; simp⟩
    | true =>
      refine PE_imp pe_dnewT ?_
      rintro σ H Q ⟨I, φ, ρ, S, s, en, h⟩ p hp
      simp only [ev, evs, Rs.bind, ofO, opSem] at h
      have h1 : KE G I φ H (S ++ [.dic true [] []]) (.ref S.length) Q := h
      obtain ⟨s2, e2⟩ := s.newC (o := .dic true [] []) (u := .dT []) hp ⟨[], upd_same, rfl, rfl⟩
      exact (KE.ext e2 h1).here s2 ⟨p, rfl, by rw [← s.len]; simp⟩
  · cases h
theorem toIOk {a : E} : ∀ σ H Q, tE G cf Ex (.toI a) σ H Q → tE G cf Ex a σ H Q := by
  rintro σ H Q ⟨I, φ, ρ, S, s, en, h⟩
  simp only [ev] at h
  refine ⟨I, φ, ρ, S, s, en, h.bind.imp fun w S1 _ h1 => ?_⟩
  split at h1
  · exact h1
  · exact h1.elim
theorem callOk {m : Md} {f : Nat} {as : List E} {e : Expr} {es : List Expr} (h : callSyn T sc f as.length e = some es) (x : XOk T G cf Ex n sc X) (p : PEs G cf Ex X as es) : PE X e (tE G cf Ex (.call m f as)) ∧ truE e = true := by
  unfold callSyn at h
  split at h
  · split at h
    · rename_i hc
      cases h
      simp only [Bool.and_eq_true, decide_eq_true_eq] at hc
      obtain ⟨⟨hg, hd⟩, hm⟩ := hc
      obtain ⟨fa, fd, ps, hl, h1, h2, h3, h4⟩ := x.fns _ _ _ hm
      refine ⟨?_, rfl⟩
      have key : ∀ σ H Q, tE G cf Ex (.call m f as) σ H Q → tCall (spF G cf f as.length) [] Ex (tA G cf Ex as) σ H Q := by
        rintro σ H Q ⟨I, φ, ρ, S, s, en, h⟩
        simp only [ev] at h
        refine ⟨I, φ, ρ, S, s, en, h.bind.imp fun ws S1 hws hk => ?_⟩
        intro vs I1 φ1 H1 e1 s1 r1
        refine ⟨?_, ?_⟩
        · rw [List.append_nil, r1.length]
          have : ∀ (as : List E) (S S1 : Sto) (ws : List W), evs cf as ρ S = .ok ws S1 → ws.length = as.length := by
            intro as
            induction as with
            | nil => intro S S1 ws h; rw [evs_nil] at h; cases h; rfl
            | cons a as ih =>
              intro S S1 ws h
              rw [evs_cons] at h
              cases ha : ev cf a ρ S with
              | ok w S2 =>
                rw [ha] at h
                cases hb : evs cf as ρ S2 with
                | ok ws' S3 =>
                  simp only [Rs.bind, hb] at h
                  cases h
                  simp [ih _ _ _ hb]
                | ex c S3 => simp only [Rs.bind, hb] at h; cases h
                | bad => simp only [Rs.bind, hb] at h; cases h
              | ex c S2 => rw [ha] at h; cases h
              | bad => rw [ha] at h; cases h
          exact this as S S1 ws hws
        · rw [List.append_nil]
          exact call_ok s1 r1 (hk.ext e1 fun _ _ _ k => KE.ext e1 k)
      cases p with
      | nil => exact PE_imp (pe_call0 h4 x.room (x.gl hg) h1 h2 h3 .nil x.pass (dbg_ok hd).1) fun σ H Q q => tA_nil (key σ H Q q)
      | cons hp hh t => exact PE_imp (pe_call h4 x.room (x.gl hg) h1 h2 h3 .nil x.pass (PEs.cons hp hh t).pa (dbg_ok hd).1 (star_plain hp) (star_none t.all)) key
    · cases h
  · cases h
theorem ownOf_snd {N : List PySem.Str} {own : List Nat} : (ownOf N own).map (·.2) = own := by
  unfold ownOf
  rw [List.map_map]
  exact List.map_id _
theorem blk_wr {scope : Scope} {cl : List (PySem.Str × Addr)} {C : Addr} {s : Shared} {fp : List Addr} : Wr scope (X.blk s H scope (compEnvC scope cl C X.env) fp) := by
  intro y
  refine ⟨fun h => lookup_relS_keep (by simp) h, fun h => ⟨lookup_relS_keep (by simp) h, ?_⟩⟩
  show (scope.names.lookup y == some .cell) = true
  rw [h]
  rfl
theorem blk_ok {scope : Scope} {cl : List (PySem.Str × Addr)} {C : Addr} {s : Shared} {fp : List Addr} (x : XOk T G cf Ex n sc X) : XOk T G cf E0 n (relS scope sc) (X.blk s H scope (compEnvC scope cl C X.env) fp) where
  calm := x.calm
  hk := x.hk
  nd := x.nd
  hN := x.hN
  hsc := by show relS scope X.env.scope = _; rw [x.hsc]
  room := x.room
  blt := x.blt
  fns := x.fns
  csts := x.csts
  pass := passL
theorem lastM {c1 c2 : CmpOp} {b c : Expr} (h : plainE c = true) : lastMarks [c1, c2] [b, c] = false := marks_ok h
theorem condOk {cond : List E} {ifs : List Expr} (hl : cond.length ≤ 1) (p : GoodL G cf E0 X true cond ifs) : PTs X ifs (tCond G cf cond) := by
  cases p with
  | nil =>
    refine ⟨fun pins s σ H Q I q => pts_nil.run pins s σ H Q I ?_⟩
    obtain ⟨I, φ, ρ, S, s, en, h⟩ := q
    simp only [evAll] at h
    obtain ⟨b, hb, k⟩ := h
    cases hb
    exact k _ _ _ (Ext.refl _ _ _) s
  | cons hp hg ht =>
    cases ht with
    | nil =>
      refine ⟨fun pins s σ H Q I q => (pts_one hg).run pins s σ H Q I ?_⟩
      obtain ⟨I, φ, ρ, S, s, en, h⟩ := q
      simp only [evAll] at h
      exact ⟨I, φ, ρ, S, s, en, h⟩
    | cons _ _ _ => simp at hl
theorem comp_lst {elt : E} {t : Tg} {k : ItK} {srcs cond : List E} {own : List Nat} {ρ : Env} {S S' : Sto} {w : W} (h : ev cf (.comp elt t k srcs cond own) ρ S = .ok w S') : ∃ xs, w = .lst xs := by
  simp only [ev] at h
  cases he : evs cf srcs ρ S with
  | ok ws S1 =>
    rw [he] at h
    simp only [Rs.bind] at h
    split at h
    · split at h
      · rename_i xs _ _
        cases hc : compL (fun ρ' S' => ev cf elt ρ' S') (fun ρ' S' => evAll cf cond ρ' S') t (Tw.wipe ρ own) xs S1 with
        | ok ys S2 => rw [hc] at h; cases h; exact ⟨ys, rfl⟩
        | ex c S2 => rw [hc] at h; cases h
        | bad => rw [hc] at h; cases h
      · cases h
    · cases h
  | ex c S1 => rw [he] at h; cases h
  | bad => rw [he] at h; cases h
mutual
theorem chk_ok : ∀ (m : E) {md : Bool} {e : Expr} {sc : Scope} {Ex : XK} {X : Cx}, chk T md sc m e = true → XOk T G cf Ex n sc X → Good G cf Ex X md m e
  | .var i, md, e, sc, Ex, X, h, x => by
    rw [chk] at h
    unfold namSyn at h
    split at h
    · simp only [Bool.and_eq_true, decide_eq_true_eq] at h
      obtain ⟨⟨h1, h2⟩, h3⟩ := h
      have hd := dbg_ok h3
      refine good_of rfl rfl (PE_imp (pe_var (by rw [x.hN]; exact h1) (by have := vis_ok h2; rw [← x.hsc] at this; exact this) hd.1 hd.2.1) tVar_ok)
    · cases h
  | .con w, md, e, sc, Ex, X, h, x => by
    rw [chk] at h
    obtain ⟨h1, h2⟩ := conOk h x
    exact good_of rfl h2 h1
  | .op o as, md, e, sc, Ex, X, h, x => by
    rw [chk] at h
    split at h
    · rename_i es hs
      simp only [Bool.and_eq_true] at h
      have p := (chks_ok as h.2 x).pes
      cases md with
      | true => exact opOkT hs x p h.1
      | false => exact ⟨opOk hs x p h.1, fun hf => opOkF hf hs x p h.1⟩
    · cases h
  | .mth t o a as, md, e, sc, Ex, X, h, x => by
    rw [chk] at h
    split at h
    · rename_i nm hn
      split at h
      · rename_i b es hm
        simp only [Bool.and_eq_true] at h
        have h1 := chk_ok a h.1 x
        have p := (chks_ok as h.2 x).pes
        have := mthOk hn hm x h1.1 p
        refine good_of rfl ?_ this
        unfold mthSyn at hm
        split at hm
        · rfl
        · cases hm
      · cases h
    · cases h
  | .eff o a as, md, e, sc, Ex, X, h, x => by
    rw [chk] at h
    split at h
    · rename_i nm hn
      split at h
      · rename_i b es hm
        simp only [Bool.and_eq_true] at h
        have h1 := chk_ok a h.1 x
        have p := (chks_ok as h.2 x).pes
        have := effOk hn hm x h1.1 p
        refine good_of rfl ?_ this
        unfold mthSyn at hm
        split at hm
        · rfl
        · cases hm
      · cases h
    · cases h
  | .and as, md, e, sc, Ex, X, h, x => by
    rw [chk] at h
    split at h
    · rename_i es he
      simp only [Bool.and_eq_true] at h
      have p := chks_ok as h.2 x
      have hne : as ≠ [] := by
        rintro rfl
        simp at h
      unfold andSyn at he
      split at he
      · cases he
        cases md with
        | true => exact (andPT hne p).pt
        | false => exact ⟨andPE hne p, fun z => by cases z⟩
      · cases he
    · cases h
  | .or as, md, e, sc, Ex, X, h, x => by
    rw [chk] at h
    split at h
    · rename_i es he
      simp only [Bool.and_eq_true] at h
      have p := chks_ok as h.2 x
      have hne : as ≠ [] := by
        rintro rfl
        simp at h
      unfold orSyn at he
      split at he
      · cases he
        cases md with
        | true => exact (orPT hne p).pt
        | false => exact ⟨orPE hne p, fun z => by cases z⟩
      · cases he
    · cases h
  | .not a, md, e, sc, Ex, X, h, x => by
    rw [chk] at h
    split at h
    · rename_i b he
      have p := chk_ok a h x
      unfold notSyn at he
      split at he
      · cases he
        cases md with
        | true => exact PT_imp (pt_not p) notPT
        | false => exact ⟨PE_imp (pe_not p.1) notPE, fun z => by cases z⟩
      · cases he
    · cases h
  | .ife c a b, md, e, sc, Ex, X, h, x => by
    rw [chk] at h
    split at h
    · rename_i c' a' b' he
      simp only [Bool.and_eq_true] at h
      obtain ⟨⟨⟨h0, h1⟩, h2⟩, h3⟩ := h
      have p1 := chk_ok c h1 x
      have p2 := chk_ok a h2 x
      have p3 := chk_ok b h3 x
      unfold ifeSyn at he
      split at he
      · cases he
        cases md with
        | true => cases h0
        | false => exact ⟨PE_imp (pe_ifExp p1 p2.1 p3.1) ifeOk, fun z => by cases z⟩
      · cases he
    · cases h
  | .chain o1 o2 a b c, md, e, sc, Ex, X, h, x => by
    rw [chk] at h
    split at h
    · rename_i a' b' c' he
      simp only [Bool.and_eq_true] at h
      obtain ⟨⟨h5, h6⟩, h7⟩ := h
      have p1 := chk_ok a h5 x
      have p2 := chk_ok b h6 x
      have p3 := chk_ok c h7 x
      unfold chainSyn at he
      split at he
      · split at he
        · rename_i hc
          cases he
          simp only [Bool.and_eq_true, decide_eq_true_eq] at hc
          obtain ⟨⟨⟨h1, h2⟩, h3⟩, h4⟩ := hc
          cases md with
          | true => exact PT_imp (pt_chain (cmpTab_ok h1 x.hu) (cmpTab_ok h2 x.hu) p1.1 p2.1 p3.1 (lastM h4)) fun σ H Q q => chainOk σ H _ (tT_test σ H Q q)
          | false => exact ⟨PE_imp (pe_chain (cmpTab_ok h1 x.hu) (cmpTab_ok h2 x.hu) p1.1 p2.1 p3.1 (lastM h4)) chainOk, fun z => by cases z⟩
        · cases he
      · cases he
    · cases h
  | .comp elt t k srcs cond own, md, e, sc, Ex, X, h, x => by
    rw [chk] at h
    split at h
    · rename_i elt' tg iter ifs scope he
      split at h
      · rename_i es hi
        simp only [Bool.and_eq_true, decide_eq_true_eq] at h
        obtain ⟨⟨⟨⟨⟨⟨h1, h2⟩, h3⟩, h4⟩, h5⟩, h6⟩, h7⟩ := h
        have p := (chks_ok srcs h1 x).pes
        obtain ⟨q1, q2⟩ := itOk hi x p
        unfold compSyn at he
        split at he
        · rename_i pos
          cases he
          have key : PE X (.ListComp elt' [⟨tg, iter, ifs, 0⟩] scope pos) (tF G cf Ex (.comp elt t k srcs cond own)) := by
            refine PE_imp (pe_lc (g := tTgt G t) (tt := tCond G cf cond) (te := tE G cf E0 elt) (own := ownOf T.N own) x.calm x.nd q1 (by rw [x.hN, x.hsc]; exact blkOk_by h2) ?_ ?_ ?_ (set_ok q2)) ?_
            · intro s H C cl fp
              exact tgOk_ok x.calm x.hN x.nd blk_wr h3
            · intro s H C cl fp
              have pc := chks_ok (Ex := E0) cond h6 (blk_ok (s := s) (H := H) (C := C) (cl := cl) (fp := fp) (scope := scope) x)
              exact condOk h5 pc
            · intro s H C cl fp
              exact (chk_ok elt h7 (blk_ok x)).1
            · rw [ownOf_snd]
              exact comp_ok h4
          have key2 := PE_imp key (tE_tF fun ρ S w S' he => comp_lst he)
          cases md with
          | true => exact tru_ok key2 rfl
          | false => exact ⟨key2, fun _ => key⟩
        · cases he
      · cases h
    · cases h
  | .call m f as, md, e, sc, Ex, X, h, x => by
    rw [chk] at h
    split at h
    · rename_i es hs
      have p := (chks_ok as h x).pes
      obtain ⟨h1, h2⟩ := callOk (m := m) hs x p
      exact good_of rfl h2 h1
    · cases h
  | .new _ _ _ _, md, e, sc, Ex, X, h, x => by
    rw [chk] at h
    cases h
  | .mut a, md, e, sc, Ex, X, h, x => by
    rw [chk] at h
    simp only [Bool.and_eq_true, Bool.or_eq_true] at h
    obtain ⟨h0, h⟩ := h
    cases md with
    | true => cases h0
    | false =>
      refine ⟨?_, fun z => by cases z⟩
      rcases h with ⟨h1, h2⟩ | ⟨h1, h2⟩
      · unfold isDic at h1
        split at h1
        · exact dicOk h2
        · cases h1
      · exact PE_imp ((chk_ok a h2 x).2 h1) (mutOk h1)
  | .toI a, md, e, sc, Ex, X, h, x => by
    rw [chk] at h
    simp only [Bool.and_eq_true] at h
    obtain ⟨h0, h⟩ := h
    cases md with
    | true => cases h0
    | false => exact ⟨PE_imp (chk_ok a h x).1 toIOk, fun z => by cases z⟩
theorem chks_ok : ∀ (ms : List E) {md : Bool} {es : List Expr} {sc : Scope} {Ex : XK} {X : Cx}, chks T md sc ms es = true → XOk T G cf Ex n sc X → GoodL G cf Ex X md ms es
  | [], md, es, sc, Ex, X, h, x => by
    cases es with
    | nil => exact .nil
    | cons e es => simp [chks] at h
  | m :: ms, md, es, sc, Ex, X, h, x => by
    cases es with
    | nil => simp [chks] at h
    | cons e es =>
      rw [chks] at h
      simp only [Bool.and_eq_true] at h
      exact .cons h.1.1 (chk_ok m h.1.2 x) (chks_ok ms h.2 x)
end
end Tw

/-! Tw, part N: statements. -/
namespace Tw
open PySem PySem.Spec PyProof.Rows L2

variable {G : Gx} {I I' I1 I2 H H' H1 H2 : Hp} {φ φ' φ1 φ2 : List Addr} {S S' S1 : Sto} {K : PySem.W.Frag} {X : Cx} {cf : CallF} {T : Tab} {Ex : XK} {n L : Nat} {sc : Scope}

/-! ### what a statement's end promises -/
def KS (G : Gx) (I : Hp) (φ : List Addr) (H : Hp) (ρ : Env) (S : Sto) (N : L2.St → Hp → Prop) : Prop :=
  ∀ σ I' φ' H', Ext I φ H I' φ' H' → Sim G I' φ' S H' → Envs G I' φ' ρ σ → N σ H'
theorem KS.ext {ρ : Env} {N : L2.St → Hp → Prop} (e : Ext I φ H I1 φ1 H1) (k : KS G I φ H ρ S N) : KS G I1 φ1 H1 ρ S N := fun σ I' φ' H' e' s en => k σ I' φ' H' (e.trans e') s en
def PostS (G : Gx) (Ex : XK) (I : Hp) (φ : List Addr) (H : Hp) (r : SR) (D : Ends) : Prop :=
  match r with
  | .next ρ S => KS G I φ H ρ S D.nx
  | .ret w S => KE G I φ H S w D.rt
  | .brk ρ S => KS G I φ H ρ S D.bk
  | .cont ρ S => KS G I φ H ρ S D.ct
  | .ex c S => KX G Ex I φ H c S
  | .bad => False
theorem PostS.ext {r : SR} {D : Ends} (e : Ext I φ H I1 φ1 H1) (h : PostS G Ex I φ H r D) : PostS G Ex I1 φ1 H1 r D := by
  cases r with
  | next ρ S => exact KS.ext e h
  | ret w S => exact KE.ext e h
  | brk ρ S => exact KS.ext e h
  | cont ρ S => exact KS.ext e h
  | ex c S => exact KX.ext e h
  | bad => exact h
def tS (G : Gx) (cf : CallF) (L : Nat) (Ex : XK) (m : Stm) : TS := fun D σ H => ∃ I φ ρ S, Sim G I φ S H ∧ Envs G I φ ρ σ ∧ PostS G Ex I φ H (exec cf L m ρ S) D
def tSs (G : Gx) (cf : CallF) (L : Nat) (Ex : XK) (ms : List Stm) : TS := fun D σ H => ∃ I φ ρ S, Sim G I φ S H ∧ Envs G I φ ρ σ ∧ PostS G Ex I φ H (execs cf L ms ρ S) D
theorem PS_imp {e : Stmt} {t t' : TS} (h : PS X e t) (i : ∀ D σ H, t' D σ H → t D σ H) : PS X e t' := ⟨fun pins s σ H D J q => h.run pins s σ H D J (i D σ H q)⟩
theorem PSs_imp {e : List Stmt} {t t' : TS} (h : PSs X e t) (i : ∀ D σ H, t' D σ H → t D σ H) : PSs X e t' := ⟨fun pins s σ H D J q => h.run pins s σ H D J (i D σ H q)⟩
/-- an evaluation, then the rest -/
theorem PostS.sr {α : Type} {r : Rs α} {f : α → Sto → SR} {D : Ends} (h : PostS G Ex I φ H (r.sr f) D) : Post G Ex I φ H r fun a S1 => PostS G Ex I φ H (f a S1) D := by
  cases r with
  | ok a S => exact h
  | ex c S => exact h
  | bad => exact h
theorem PostS.imp {r : SR} {D D' : Ends} (h : PostS G Ex I φ H r D) (i1 : ∀ σ H, D.nx σ H → D'.nx σ H) (i2 : ∀ v H, D.rt v H → D'.rt v H) (i3 : ∀ σ H, D.bk σ H → D'.bk σ H) (i4 : ∀ σ H, D.ct σ H → D'.ct σ H) : PostS G Ex I φ H r D' := by
  cases r with
  | next ρ S => exact fun σ I' φ' H' e s en => i1 _ _ (h σ I' φ' H' e s en)
  | ret w S => exact fun v I' φ' H' e s r => i2 _ _ (h v I' φ' H' e s r)
  | brk ρ S => exact fun σ I' φ' H' e s en => i3 _ _ (h σ I' φ' H' e s en)
  | cont ρ S => exact fun σ I' φ' H' e s en => i4 _ _ (h σ I' φ' H' e s en)
  | ex c S => exact h
  | bad => exact h
theorem PostS.seq {r : SR} {f : Env → Sto → SR} {D : Ends} (h : PostS G Ex I φ H (r.seq f) D) (N : L2.St → Hp → Prop)
    (hN : ∀ ρ S, r = .next ρ S → ∀ σ I' φ' H', Ext I φ H I' φ' H' → Sim G I' φ' S H' → Envs G I' φ' ρ σ → PostS G Ex I' φ' H' (f ρ S) D → N σ H') : PostS G Ex I φ H r { D with nx := N } := by
  cases r with
  | next ρ S => exact fun σ I' φ' H' e s en => hN ρ S rfl σ I' φ' H' e s en (PostS.ext e h)
  | ret w S => exact h
  | brk ρ S => exact h
  | cont ρ S => exact h
  | ex c S => exact h
  | bad => exact h
theorem tTgt_of {t : Tg} {w : W} {v : V} {ρ : Env} {σ : L2.St} {N : L2.St → Hp → Prop} (s : Sim G I φ S H) (en : Envs G I φ ρ σ) (r : Rel G I φ w v) {D : Ends} {f : Env → Sto → SR}
    (h : PostS G Ex I φ H (match bindT t w ρ with | some ρ' => f ρ' S | none => .bad) D)
    (hN : ∀ ρ' σ', bindT t w ρ = some ρ' → Envs G I φ ρ' σ' → PostS G Ex I φ H (f ρ' S) D → N σ' H) : tTgt G t v σ H N := by
  split at h
  · rename_i ρ' hb
    exact ⟨I, φ, ρ, S, w, ρ', s, en, r, hb, fun σ' en' _ => hN ρ' σ' hb en' h⟩
  · exact h.elim
theorem asgS {t : Tg} {m : E} : ∀ D σ H, tS G cf L Ex (.asg t m) D σ H → tAsg (tE G cf Ex m) (tTgt G t) D σ H := by
  rintro D σ H ⟨I, φ, ρ, S, s, en, h⟩
  simp only [exec] at h
  refine ⟨I, φ, ρ, S, s, en, h.sr.imp fun w S1 _ h1 => ?_⟩
  intro v I1 φ1 H1 e1 s1 r1
  exact tTgt_of s1 (en.ext e1) r1 (f := fun ρ' S' => .next ρ' S') (PostS.ext e1 h1) fun ρ' σ' hb en' k => k σ' I1 φ1 H1 (Ext.refl _ _ _) s1 en'
/-- the same where a comprehension's list is stored -/
theorem asgF {t : Tg} {m : E} (hm : ∀ ρ S w S', ev cf m ρ S = .ok w S' → ∃ xs, w = .lst xs) : ∀ D σ H, tS G cf L Ex (.asg t m) D σ H → tAsg (tF G cf Ex m) (tTgt G t) D σ H := by
  intro D σ H h
  exact tE_tF hm σ H _ (asgS D σ H h)
theorem asgM {t : Tg} {m : E} (hm : isFresh m = true) : ∀ D σ H, tS G cf L Ex (.asg t (.mut m)) D σ H → tAsg (tF G cf Ex m) (tTgt G t) D σ H := by
  intro D σ H h
  exact mutOk hm σ H _ (asgS D σ H h)
theorem exprS {m : E} : ∀ D σ H, tS G cf L Ex (.expr m) D σ H → tDrop (tE G cf Ex m) D σ H := by
  rintro D σ H ⟨I, φ, ρ, S, s, en, h⟩
  simp only [exec] at h
  refine ⟨I, φ, ρ, S, s, en, h.sr.imp fun w S1 _ h1 => ?_⟩
  intro v I1 φ1 H1 e1 s1 r1
  exact h1 σ I1 φ1 H1 e1 s1 (en.ext e1)
theorem retS {m : E} : ∀ D σ H, tS G cf L Ex (.ret m) D σ H → tRet (tE G cf Ex m) D σ H := by
  rintro D σ H ⟨I, φ, ρ, S, s, en, h⟩
  simp only [exec] at h
  exact ⟨I, φ, ρ, S, s, en, h.sr.imp fun w S1 _ h1 => h1⟩
theorem iteS {c : E} {a b : List Stm} : ∀ D σ H, tS G cf L Ex (.ite c a b) D σ H → tIfS (tT G cf Ex c) (tSs G cf L Ex a) (tSs G cf L Ex b) D σ H := by
  rintro D σ H ⟨I, φ, ρ, S, s, en, h⟩
  simp only [exec] at h
  refine ⟨I, φ, ρ, S, s, en, h.sr.imp fun w S1 _ h1 => ?_⟩
  split at h1
  · exact ⟨true, rfl, fun I1 φ1 H1 e1 s1 => ite_tt ⟨I1, φ1, ρ, S1, s1, en.ext e1, PostS.ext e1 h1⟩⟩
  · exact ⟨false, rfl, fun I1 φ1 H1 e1 s1 => ite_ff ⟨I1, φ1, ρ, S1, s1, en.ext e1, PostS.ext e1 h1⟩⟩
  · exact h1.elim
theorem seqS {m : Stm} {ms : List Stm} : ∀ D σ H, tSs G cf L Ex (m :: ms) D σ H → tSeq (tS G cf L Ex m) (tSs G cf L Ex ms) D σ H := by
  rintro D σ H ⟨I, φ, ρ, S, s, en, h⟩
  simp only [execs] at h
  exact ⟨I, φ, ρ, S, s, en, h.seq _ fun ρ1 S1 _ σ1 I1 φ1 H1 e1 s1 en1 k => ⟨I1, φ1, ρ1, S1, s1, en1, k⟩⟩
theorem nilS : ∀ D σ H, tSs G cf L Ex [] D σ H → tNext D σ H := by
  rintro D σ H ⟨I, φ, ρ, S, s, en, h⟩
  simp only [execs] at h
  exact h σ I φ H (Ext.refl _ _ _) s en
theorem passS : ∀ D σ H, tS G cf L Ex .pass D σ H → tNext D σ H := by
  rintro D σ H ⟨I, φ, ρ, S, s, en, h⟩
  simp only [exec] at h
  exact h σ I φ H (Ext.refl _ _ _) s en
theorem brkS : ∀ D σ H, tS G cf L Ex .brk D σ H → tBreak D σ H := by
  rintro D σ H ⟨I, φ, ρ, S, s, en, h⟩
  simp only [exec] at h
  exact h σ I φ H (Ext.refl _ _ _) s en
theorem contS : ∀ D σ H, tS G cf L Ex .cont D σ H → tCont D σ H := by
  rintro D σ H ⟨I, φ, ρ, S, s, en, h⟩
  simp only [exec] at h
  exact h σ I φ H (Ext.refl _ _ _) s en
/-- a cell frozen: no statement of the text -/
theorem frzS {i : Nat} {ms : List Stm} : ∀ D σ H, tSs G cf L Ex (.frz i :: ms) D σ H → tSs G cf L Ex ms D σ H := by
  rintro D σ H ⟨I, φ, ρ, S, s, en, h⟩
  simp only [execs, exec] at h
  have key : ∀ (w : W) (m : Nat) (o : Ob) (a : Addr) (u : HO), φ[m]? = some a → S[m]? = some o → o ≠ .dead → H a = some u → ρ[i]? = some (some (.ref m)) → (∀ J, Same I J → J a = some u → Rel G J φ w (.ref a)) →
      PostS G Ex I φ H (execs cf L ms (ρ.set i (some w)) (S.set m .dead)) D → tSs G cf L Ex ms D σ H := by
    intro w m o a u hm hS hd hu hi hr h
    have hIa : I a = none := s.out m a o hm hS hd
    have sI : Same I (upd I a u) := same_upd hIa
    have e : Ext I φ H (upd I a u) φ H := ⟨sI, ⟨[], by simp, by simp⟩, fun _ _ _ h => h, fun _ h => h, fun b hb => by
      by_cases hba : b = a
      · exact .inr (.inr (by rw [hba]; exact List.mem_of_getElem? hm))
      · rw [upd_ne hba] at hb; exact .inl hb⟩
    have s' : Sim G (upd I a u) φ (S.set m .dead) H := by
      refine ⟨fun b o' hb => ?_, by rw [List.length_set]; exact s.len, s.nd, fun k b o' hk hk1 hk2 => ?_, s.old, fun k b o' hk hk1 => ?_⟩
      · by_cases hba : b = a
        · rw [hba, upd_same] at hb; cases hb; rw [hba]; exact hu
        · rw [upd_ne hba] at hb; exact s.same _ _ hb
      · rw [List.getElem?_set] at hk1
        split at hk1
        · split at hk1
          · cases hk1; exact absurd rfl hk2
          · cases hk1
        · rename_i hne
          rw [upd_ne (fun z => hne ?_)]
          · exact s.out k b o' hk hk1 hk2
          · rw [z] at hk
            have hlt : m < φ.length := (List.getElem?_eq_some_iff.mp hm).1
            exact (List.getElem?_inj hlt s.nd).mp (by rw [hm, hk])
      · rw [List.getElem?_set] at hk1
        split at hk1
        · split at hk1
          · cases hk1; exact True.intro
          · cases hk1
        · exact (s.cell k b o' hk hk1).mono sI (Pre.refl _) fun _ z => z
    refine ⟨upd I a u, φ, ρ.set i (some w), S.set m .dead, s', ⟨by rw [List.length_set]; exact en.len, fun k w' hk => ?_⟩, PostS.ext e h⟩
    rw [List.getElem?_set] at hk
    split at hk
    · rename_i hik
      split at hk
      · cases hk
        obtain ⟨v, hv, rv⟩ := (en.ext e).at_ i _ hi
        obtain ⟨a', rfl, ha'⟩ := rv
        rw [hm] at ha'
        cases ha'
        exact ⟨.ref a, by rw [← hik]; exact hv, hr _ sI upd_same⟩
      · cases hk
    · exact (en.ext e).at_ k w' hk
  split at h
  · rename_i m hi
    obtain ⟨v, hv, a, rfl, ha⟩ := en.at_ i _ hi
    split at h
    · rename_i xs hS
      split at h
      · obtain ⟨vs, h1, r⟩ := s.cell m a _ ha hS
        exact key (.lst xs) m _ a _ ha hS (by simp) h1 hi (fun J sJ hJ => ⟨a, vs, rfl, .inl hJ, r.mono sJ (Pre.refl _)⟩) h
      · exact h.elim
    · rename_i t ks vs hS
      split at h
      · cases t with
        | false =>
          obtain ⟨kvs, h1, hk, r⟩ := s.cell m a _ ha hS
          exact key (.dic false ks vs) m _ a _ ha hS (by simp) h1 hi (fun J sJ hJ => ⟨a, kvs, rfl, hJ, hk, r.mono sJ (Pre.refl _)⟩) h
        | true =>
          obtain ⟨kvs, h1, hk, r⟩ := s.cell m a _ ha hS
          exact key (.dic true ks vs) m _ a _ ha hS (by simp) h1 hi (fun J sJ hJ => ⟨a, kvs, rfl, hJ, hk, r.mono sJ (Pre.refl _)⟩) h
      · exact h.elim
    · exact h.elim
  · exact h.elim

/-! ### loops -/
theorem forS {t : Tg} {k : ItK} {srcs : List E} {body : List Stm} : ∀ D σ H, tS G cf L Ex (.forIn t k srcs body) D σ H → tFor (tI G cf Ex k srcs) (tTgt G t) (tSs G cf L Ex body) D σ H := by
  rintro D σ H ⟨I, φ, ρ, S, s, en, h⟩
  simp only [exec] at h
  refine ⟨I, φ, ρ, S, s, en, h.sr.imp fun ws S1 _ h1 => ?_⟩
  split at h1
  · rename_i xs hx
    refine ⟨xs, hx, ?_⟩
    intro J I1 φ1 H1 e1 s1 hy
    let R : Nat → L2.St → Hp → Prop := fun i σ' H' => i ≤ xs.length ∧ ∃ I2 φ2 ρ2 S2, Ext I1 φ1 H1 I2 φ2 H' ∧ Sim G I2 φ2 S2 H' ∧ Envs G I2 φ2 ρ2 σ' ∧ PostS G Ex I2 φ2 H' (forL t (fun ρ' S' => execs cf L body ρ' S') (xs.drop i) ρ2 S2) D
    refine ⟨fun i m σ' H' => m = xs.length - i ∧ R i σ' H', ⟨xs.length, by simp, Nat.zero_le _, I1, φ1, ρ, S1, Ext.refl _ _ _, s1, en.ext e1, by simpa using PostS.ext e1 h1⟩, ?_⟩
    rintro i m σ' H' ⟨rfl, hi, I2, φ2, ρ2, S2, e2, s2, en2, h2⟩
    have hyy := hy I2 φ2 S2 H' e2.same e2.pre' s2 i
    by_cases hlt : i < xs.length
    · right
      obtain ⟨hgo, hyl⟩ := hyy.1 _ (List.getElem?_eq_getElem hlt)
      refine ⟨hgo, fun σ3 H3 => R (i + 1) σ3 H3, fun σ3 H3 q => ⟨xs.length - (i + 1), by omega, rfl, q⟩, ?_⟩
      intro v H3 hv
      obtain ⟨I3, e3, s3, r3⟩ := hyl v H3 hv
      rw [List.drop_eq_getElem_cons hlt] at h2
      simp only [forL] at h2
      have h3 := PostS.ext e3 h2
      split at h3
      · exact h3.elim
      · rename_i ρ' hb
        refine ⟨I3, φ2, ρ2, S2, _, ρ', s3, en2.ext e3, r3, hb, fun σ4 en4 _ => ?_⟩
        refine ⟨I3, φ2, ρ', S2, s3, en4, ?_⟩
        split at h3
        · rename_i ρ5 S5 hbd
          rw [hbd]
          exact fun σ5 I5 φ5 H5 e5 s5 en5 => ⟨hlt, I5, φ5, ρ5, S5, e2.trans (e3.trans e5), s5, en5, PostS.ext e5 h3⟩
        · rename_i ρ5 S5 hbd
          rw [hbd]
          exact fun σ5 I5 φ5 H5 e5 s5 en5 => ⟨hlt, I5, φ5, ρ5, S5, e2.trans (e3.trans e5), s5, en5, PostS.ext e5 h3⟩
        · rename_i ρ5 S5 hbd
          rw [hbd]
          exact h3
        · rename_i r hr1 hr2 hr3
          cases hbd : execs cf L body ρ' S2 with
          | next ρ5 S5 => exact absurd hbd (hr1 ρ5 S5)
          | cont ρ5 S5 => exact absurd hbd (hr2 ρ5 S5)
          | brk ρ5 S5 => exact absurd hbd (hr3 ρ5 S5)
          | ret w S5 => rw [hbd] at h3; exact h3
          | ex c S5 => rw [hbd] at h3; exact h3
          | bad => rw [hbd] at h3; exact h3
    · left
      have hi' : i = xs.length := by omega
      subst hi'
      rw [List.drop_length] at h2
      exact ⟨hyy.2 (Nat.le_refl _), h2 σ' I2 φ2 H' (Ext.refl _ _ _) s2 en2⟩
  · exact h1.elim
theorem whileS {c : E} {body : List Stm} : ∀ D σ H, tS G cf L Ex (.whil c body) D σ H → tWhile (tT G cf Ex c) (tSs G cf L Ex body) D σ H := by
  rintro D σ H ⟨I, φ, ρ, S, s, en, h⟩
  simp only [exec] at h
  let R : Nat → L2.St → Hp → Prop := fun k σ' H' => ∃ I2 φ2 ρ2 S2, Sim G I2 φ2 S2 H' ∧ Envs G I2 φ2 ρ2 σ' ∧ PostS G Ex I2 φ2 H' (whileL (fun ρ' S' => ev cf c ρ' S') (fun ρ' S' => execs cf L body ρ' S') k ρ2 S2) D
  refine ⟨R, ⟨L, I, φ, ρ, S, s, en, h⟩, ?_⟩
  rintro k σ' H' ⟨I2, φ2, ρ2, S2, s2, en2, h2⟩
  cases k with
  | zero => exact h2.elim
  | succ k =>
    simp only [whileL] at h2
    refine ⟨I2, φ2, ρ2, S2, s2, en2, ?_⟩
    split at h2
    · rename_i S3 hc
      rw [hc]
      refine ⟨true, rfl, fun I3 φ3 H3 e3 s3 => ite_tt ⟨fun σ4 H4 => R k σ4 H4, fun σ4 H4 q => ⟨k, Nat.lt_succ_self k, q⟩, ?_⟩⟩
      refine ⟨I3, φ3, ρ2, S3, s3, en2.ext e3, ?_⟩
      have h3 := PostS.ext e3 h2
      split at h3
      · rename_i ρ5 S5 hbd
        rw [hbd]
        exact fun σ5 I5 φ5 H5 e5 s5 en5 => ⟨I5, φ5, ρ5, S5, s5, en5, PostS.ext e5 h3⟩
      · rename_i ρ5 S5 hbd
        rw [hbd]
        exact fun σ5 I5 φ5 H5 e5 s5 en5 => ⟨I5, φ5, ρ5, S5, s5, en5, PostS.ext e5 h3⟩
      · rename_i ρ5 S5 hbd
        rw [hbd]
        exact h3
      · rename_i r hr1 hr2 hr3
        cases hbd : execs cf L body ρ2 S3 with
        | next ρ5 S5 => exact absurd hbd (hr1 ρ5 S5)
        | cont ρ5 S5 => exact absurd hbd (hr2 ρ5 S5)
        | brk ρ5 S5 => exact absurd hbd (hr3 ρ5 S5)
        | ret w S5 => rw [hbd] at h3; exact h3
        | ex c S5 => rw [hbd] at h3; exact h3
        | bad => rw [hbd] at h3; exact h3
    · rename_i S3 hc
      rw [hc]
      exact ⟨false, rfl, fun I3 φ3 H3 e3 s3 => ite_ff (h2 σ' I3 φ3 H3 e3 s3 (en2.ext e3))⟩
    · rename_i x S3 hc
      rw [hc]
      exact h2
    · exact h2.elim

/-! ### o[k] = v -/
def rSetG (G : Gx) : TSet := fun o i v H Q => ∃ I φ S wo wk wv S', Sim G I φ S H ∧ Rel G I φ wo o ∧ Rel G I φ wk i ∧ Rel G I φ wv v ∧ setSem S wo wk wv = some S' ∧ ∀ I' φ' H', Ext I φ H I' φ' H' → Sim G I' φ' S' H' → Q H'
theorem ixN_ok {n : Nat} {i : Int} : Tw.ixN n i = L2.ixN n i := by
  first | rfl | (unfold Tw.ixN L2.ixN; rfl)
end Tw

/-! Tw, part O: storing into lists and dicts; assignments. -/
namespace Tw
open PySem PySem.Spec PyProof.Rows L2

variable {G : Gx} {I I' I1 I2 H H' H1 H2 : Hp} {φ φ' φ1 φ2 : List Addr} {S S' S1 : Sto} {K : PySem.W.Frag} {X : Cx} {cf : CallF} {T : Tab} {Ex : XK} {n L : Nat} {sc : Scope}

section
variable {κ : Type} [DecidableEq κ]
theorem dputK_ok (f : κ → W) (hf : ∀ a b, eqW (f a) (f b) = decide (a = b)) (k : κ) (v : V) (kvs : List (κ × V)) : dputK (kvs.map fun p => f p.1) (f k) = (putK kvs k v).map fun p => f p.1 := by
  unfold dputK putK
  have h : dhas (kvs.map fun p => f p.1) (f k) = kvs.any fun kv => decide (kv.1 = k) := by rw [dhas_val f hf k kvs, valV_any]
  rw [h]
  split
  · rw [List.map_map]
    apply List.map_congr_left
    intro p _
    simp only [Function.comp]
    split <;> rfl
  · simp
theorem dmapV_ok (f : κ → W) (hf : ∀ a b, eqW (f a) (f b) = decide (a = b)) (k : κ) {w : W} {v : V} (r : Rel G I φ w v) : ∀ {kvs : List (κ × V)} {vs : List W}, Rels G I φ vs (kvs.map (·.2)) →
    Rels G I φ (dmapV (kvs.map fun p => f p.1) vs (f k) w) ((kvs.map (fun kv => if kv.1 = k then (kv.1, v) else kv)).map (·.2))
  | [], vs, h => by
    have : vs = [] := rels0 h
    subst this
    exact .nil
  | p :: kvs, [], h => by have := h.length; simp at this
  | p :: kvs, u :: vs, h => by
    obtain ⟨x, xs, e, hx, t⟩ := h
    simp only [List.map_cons, List.cons.injEq] at e
    obtain ⟨rfl, rfl⟩ := e
    simp only [List.map_cons, dmapV]
    rw [hf]
    refine .cons ?_ (dmapV_ok f hf k r t)
    by_cases hk : p.1 = k
    · rw [if_pos hk, if_pos (decide_eq_true hk)]
      exact r
    · rw [if_neg hk, if_neg (by simpa using hk)]
      exact hx
theorem dputV_ok (f : κ → W) (hf : ∀ a b, eqW (f a) (f b) = decide (a = b)) (k : κ) {w : W} {v : V} (r : Rel G I φ w v) {kvs : List (κ × V)} {vs : List W} (h : Rels G I φ vs (kvs.map (·.2))) :
    Rels G I φ (dputV (kvs.map fun p => f p.1) vs (f k) w) ((putK kvs k v).map (·.2)) := by
  unfold dputV putK
  have hh : dhas (kvs.map fun p => f p.1) (f k) = kvs.any fun kv => decide (kv.1 = k) := by rw [dhas_val f hf k kvs, valV_any]
  rw [hh]
  split
  · exact dmapV_ok f hf k r h
  · rw [List.map_append]
    exact h.append (Rels.one r)
end
theorem pset_ok (hu : X.A.units + 1 < cLine) : PSet X (rSetG G) := by
  rintro pins s σ H o i v ov iv u Q J ro ri rv ⟨I, φ, S, wo, wk, wv, S', sm, qo, qk, qv, e, k⟩
  match wo, e with
  | .ref m, e =>
    obtain ⟨a, rfl, ha⟩ := qo
    simp only [setSem] at e
    split at e
    · rename_i xs hS
      match wk, e with
      | .int z, e =>
        obtain rfl : i = _ := qk
        simp only [Option.map_eq_some_iff] at e
        obtain ⟨j, hj, rfl⟩ := e
        obtain ⟨vs, h1, r⟩ := sm.cell m a _ ha hS
        refine set_list pins s σ H _ _ v ov iv u Q J ro ri rv ⟨a, vs, z, j, rfl, rfl, h1, by rw [r.length]; exact hj, ?_⟩
        obtain ⟨s2, e2⟩ := sm.put (o' := .lst (xs.set j wv)) (u := .lst (vs.set j v)) ha hS (by simp) ⟨_, upd_same, r.set qv j⟩
        exact k _ _ _ e2 s2
    · rename_i t ks vs hS
      split at e
      · rename_i hc
        cases e
        simp only [Bool.and_eq_true, decide_eq_true_eq] at hc
        cases t with
        | false =>
          obtain ⟨kvs, h1, rfl, r⟩ := sm.cell m a _ ha hS
          obtain ⟨key, rfl, rfl⟩ := keyF qk hc.1
          have hl : kvs.length < sizeLine := by have := lim_ok hc.2; simpa using this
          refine set_dict hu pins s σ H _ _ v ov iv u Q J ro ri rv ⟨a, _, rfl, .k h1 hl, ?_⟩
          obtain ⟨s2, e2⟩ := sm.put (o' := .dic false (dputK (kvs.map fun p => kW p.1) (kW key)) (dputV (kvs.map fun p => kW p.1) vs (kW key) wv)) (u := .dK (putK kvs key v)) ha hS (by simp)
            ⟨_, upd_same, dputK_ok kW hfK key v kvs, dputV_ok kW hfK key qv r⟩
          exact k _ _ _ e2 s2
        | true =>
          obtain ⟨kvs, h1, rfl, r⟩ := sm.cell m a _ ha hS
          obtain ⟨key, b, rfl, rfl, hb⟩ := keyT qk hc.1
          have hl : kvs.length < sizeLine := by have := lim_ok hc.2; simpa using this
          refine set_dict hu pins s σ H _ _ v ov iv u Q J ro ri rv ⟨a, _, rfl, .t h1 (sm.same _ _ hb) hl, ?_⟩
          obtain ⟨s2, e2⟩ := sm.put (o' := .dic true (dputK (kvs.map fun p => W.tup (p.1.map kW)) (.tup (key.map kW))) (dputV (kvs.map fun p => W.tup (p.1.map kW)) vs (.tup (key.map kW)) wv)) (u := .dT (putK kvs key v)) ha hS (by simp)
            ⟨_, upd_same, dputK_ok (fun k => .tup (k.map kW)) hfT key v kvs, dputV_ok (fun k => .tup (k.map kW)) hfT key qv r⟩
          exact k _ _ _ e2 s2
      · cases e
    · cases e

/-! ### where a statement stands -/
structure XSk (T : Tab) (G : Gx) (cf : CallF) (Ex : XK) (n : Nat) (sc : Scope) (X : Cx) : Prop extends XOk T G cf Ex n sc X where
  wr : Wr sc X
  own : PassesOwn (model X.prog X.w) X.A X.env X.xe
  knd : sc.kind = .function

/-! ### assignments -/
def isLC : Expr → Bool
  | .ListComp _ _ _ _ => true
  | _ => false
def isTupE : Expr → Bool
  | .Tuple _ _ _ => true
  | _ => false
/-- the store swapped into a comprehension's end -/
def swNow (sc : Scope) (tg v : Expr) : Bool :=
  match tg, v with
  | .Name y py, .ListComp _ _ scope pos => decide (sc.names.lookup y = some .local) && (py.line == pos.line) && !(scope.names.any fun (n, k) => n == y && (k == .local || k == .cell))
  | _, _ => false
theorem sw_false {tg v : Expr} {l : Nat} (x : XSk T G cf Ex n sc X) (hv : plainE v = true) (h : swNow sc tg v = false) : swapsWithSole [tg] v l X.env = pure false := by
  show swapsWith v (some tg) l X.env = pure false
  cases v <;> first | (simp [plainE] at hv; done) | rfl | skip
  rename_i elt gs scope pos
  cases tg <;> first | rfl | skip
  rename_i y py
  have hb : X.env.blockKind = .function := by unfold PySem.Env.blockKind; rw [x.hsc, x.knd]; rfl
  have hk : X.env.kindOf y = sc.names.lookup y := by show X.env.scope.names.lookup y = _; rw [x.hsc]
  unfold swapsWith
  simp only [hb, hk]
  show (pure _ : Sem Bool) = pure false
  congr 1
  unfold swNow at h
  simp only at h
  rw [← h]
  cases hl : sc.names.lookup y with
  | none => rfl
  | some k => cases k <;> rfl
theorem st_none {tg v : Expr} (hv : plainE v = true) (h : isTupE tg = false ∨ isTupE v = false) {N : List PySem.Str} {t : Tg} {asc : Scope} (ht : tgOk N asc t tg = true) : swappedStores [tg] v X.env = pure none := by
  cases tg <;> first
    | rfl
    | (cases v <;> first | (simp [plainE] at hv; done) | rfl | (rcases h with h | h <;> cases h; done))
    | (cases t <;> simp [tgOk, nameAt] at ht; done)
theorem asg1 {t : Tg} {tg : Expr} (ht : tgOk T.N sc t tg = true) : (assignEach [tg] X.env).map (·.2) = [assign tg X.env] := by
  cases tg <;> first
    | rfl
    | (cases t <;> simp [tgOk, nameAt] at ht; done)
theorem asgOk {t : Tg} {tg v : Expr} {m : E} {pos : Pos} (x : XSk T G cf Ex n sc X) (ht : tgOk T.N sc t tg = true) (hv : plainE v = true) (hs : swNow sc tg v = false) (h2 : isTupE tg = false ∨ isTupE v = false) (hm : PE X v (tE G cf Ex m)) :
    PS X (.Assign [tg] v pos) (tS G cf L Ex (.asg t m)) :=
  PS_imp (ps_asg hm (tgOk_ok x.calm x.hN x.nd x.wr ht) (sw_false x hv hs) (st_none hv h2 ht) (asg1 ht)) asgS
/-- .. of a comprehension stored on its own line -/
theorem asgLc {i : Nat} {y : PySem.Str} {py pos spos : Pos} {elt' tg iter : Expr} {ifs : List Expr} {scope : Scope} {elt : E} {t : Tg} {k : ItK} {srcs cond : List E} {own : List Nat} (x : XSk T G cf Ex n sc X)
    (hi : nameAt T.N sc i (.Name y py) = true) (hs : swNow sc (.Name y py) (.ListComp elt' [⟨tg, iter, ifs, 0⟩] scope pos) = true)
    (hc : chk T false sc (.comp elt t k srcs cond own) (.ListComp elt' [⟨tg, iter, ifs, 0⟩] scope pos) = true) (md : Bool) :
    PS X (.Assign [.Name y py] (.ListComp elt' [⟨tg, iter, ifs, 0⟩] scope pos) spos) (tS G cf L Ex (.asg (.one i) (if md then .mut (.comp elt t k srcs cond own) else .comp elt t k srcs cond own))) := by
  rw [chk] at hc
  simp only [compSyn] at hc
  split at hc
  · rename_i es hie
    simp only [Bool.and_eq_true, decide_eq_true_eq] at hc
    obtain ⟨⟨⟨⟨⟨⟨h1, h2⟩, h3⟩, h4⟩, h5⟩, h6⟩, h7⟩ := hc
    have p := (chks_ok srcs h1 x.toXOk).pes
    obtain ⟨q1, q2⟩ := itOk hie x.toXOk p
    simp only [nameAt, Bool.and_eq_true, decide_eq_true_eq] at hi
    simp only [swNow, Bool.and_eq_true, decide_eq_true_eq] at hs
    obtain ⟨⟨s1, s2⟩, s3⟩ := hs
    have hl : X.env.scope.names.lookup y = some .local := by rw [x.hsc]; exact s1
    have key : PS X (.Assign [.Name y py] (.ListComp elt' [⟨tg, iter, ifs, 0⟩] scope pos) spos) (tAsg (tF G cf Ex (.comp elt t k srcs cond own)) (tTgt G (.one i))) := by
      refine PS_imp (ps_setLc (i := i) (g := tTgt G t) (tt := tCond G cf cond) (te := tE G cf E0 elt) (own := ownOf T.N own) x.calm x.nd (by rw [x.hN]; exact hi.1) hl (sw_true (by rw [x.hsc]; exact x.knd) hl s2 (by simpa using s3)) q1 (by rw [x.hN, x.hsc]; exact blkOk_by h2) ?_ ?_ ?_ (set_ok q2)) ?_
      · intro s H C cl fp
        exact tgOk_ok x.calm x.hN x.nd blk_wr h3
      · intro s H C cl fp
        have pc := chks_ok (Ex := E0) cond h6 (blk_ok (s := s) (H := H) (C := C) (cl := cl) (fp := fp) (scope := scope) x.toXOk)
        exact condOk h5 pc
      · intro s H C cl fp
        exact (chk_ok elt h7 (blk_ok x.toXOk)).1
      · intro D σ H q
        rw [ownOf_snd]
        refine comp_ok h4 σ H _ ?_
        obtain ⟨I, φ, ρ, S, s, en, q⟩ := q
        refine ⟨I, φ, ρ, S, s, en, q.imp fun w S1 _ ⟨xs, hw, kf⟩ => ⟨xs, hw, ?_⟩⟩
        intro p us I1 φ1 H1 e1 s1 hp r hlen
        obtain ⟨J, ψ, ρ2, S2, w2, ρ3, sJ, enJ, rJ, hb, kJ⟩ := kf p us I1 φ1 H1 e1 s1 hp r hlen
        cases hb
        exact kJ _ (enJ.set rJ) fun own ho => wipe_set (by simpa [slots] using ho)
    cases md with
    | false => exact PS_imp key (asgF fun ρ S w S' he => comp_lst he)
    | true => exact PS_imp key (asgM rfl)
  · cases hc
end Tw

/-! Tw, part P: the checker of statements. -/
namespace Tw
open PySem PySem.Spec PyProof.Rows L2

variable {G : Gx} {I I' I1 I2 H H' H1 H2 : Hp} {φ φ' φ1 φ2 : List Addr} {S S' S1 : Sto} {K : PySem.W.Frag} {X : Cx} {cf : CallF} {T : Tab} {Ex : XK} {n L : Nat} {sc : Scope}

/-! ### x op= e -/
def augTab : Op → Option Operator
  | .add => some .Add
  | .sub => some .Sub
  | .mul => some .Mult
  | _ => none
def rAug (G : Gx) (o : Op) (x y : V) (H : Hp) (Q : VK) : Prop := ∃ I φ S a b w, Sim G I φ S H ∧ Rel G I φ a x ∧ Rel G I φ b y ∧ augSem o a b = some w ∧ KE G I φ H S w Q
theorem augTab_ok {o : Op} {c : Operator} (h : augTab o = some c) : PIp X c (rAug G o) := by
  rintro pins s σ H x y v u Q J rx ry ⟨I, φ, S, a, b, w, sm, ra, rb, e, k⟩
  cases o <;> cases h
  · cases a <;> cases b <;> first | (simp [augSem] at e; done) | skip
    · rename_i i j
      cases e
      exact in_add pins s σ H x y v u Q J rx ry ⟨i, j, ra, rb, k.here sm rfl⟩
    · rename_i i j
      simp only [augSem] at e
      split at e
      · rename_i hl
        cases e
        refine iop_add_str pins s σ H x y v u Q J rx ry ⟨_, _, ra, rb, ?_, k.here sm ?_⟩
        · have := Nat.le_of_lt (lim_ok hl)
          show i.toArray.size + j.toArray.size ≤ sizeLine
          simpa using this
        · show V.str _ = V.str _
          congr 1
          show PySem.Str.mk _ = PySem.Str.mk _
          congr 1
          simp
      · cases e
  · cases a <;> cases b <;> first | (simp [augSem] at e; done) | skip
    rename_i i j
    cases e
    exact in_sub pins s σ H x y v u Q J rx ry ⟨i, j, ra, rb, k.here sm rfl⟩
  · cases a <;> cases b <;> first | (simp [augSem] at e; done) | skip
    rename_i i j
    simp only [augSem] at e
    split at e
    · rename_i hc
      cases e
      refine iop_mul pins s σ H x y v u Q J rx ry ⟨i, j, ra, rb, (by simp only [CMul, Bool.or_eq_true, Bool.and_eq_true, decide_eq_true_eq] at hc; exact hc), k.here sm rfl⟩
    · cases e
theorem augS {i : Nat} {o : Op} {m : E} : ∀ D σ H, tS G cf L Ex (.aug i o m) D σ H → tAug i (tE G cf Ex m) (rAug G o) D σ H := by
  rintro D σ H ⟨I, φ, ρ, S, s, en, h⟩
  simp only [exec] at h
  split at h
  · rename_i x hx
    obtain ⟨v, hv, rv⟩ := en.at_ i x hx
    refine ⟨v, hv, I, φ, ρ, S, s, en, h.sr.imp fun w S1 _ h1 => ?_⟩
    intro y I1 φ1 H1 e1 s1 r1
    split at h1
    · rename_i z hz
      refine ⟨I1, φ1, S1, x, w, z, s1, rv.ext e1, r1, hz, ?_⟩
      intro zv I2 φ2 H2 e2 s2 r2
      exact h1 _ I2 φ2 H2 (e1.trans e2) s2 (((en.ext e1).ext e2).set r2)
    · exact h1.elim
  · exact h.elim

/-! ### a, b = x, y -/
def parSyn (N : List PySem.Str) (sc : Scope) (i j : Nat) (tg v : Expr) : Option (List Expr) :=
  match tg, v with
  | .Tuple [.Name x px, .Name y py] _ _, .Tuple [a, b] _ _ => if decide (N[i]? = some x) && decide (N[j]? = some y) && decide (i ≠ j) && decide (sc.names.lookup x = some .local) && decide (sc.names.lookup y = some .local) && decide (py.line = px.line) && !(x == y) && plainE a && plainE b && !(foldedForSure 8 a && foldedForSure 8 b) && !(constantsAlone 8 a && constantsAlone 8 b) then some [a, b] else none
  | _, _ => none
def parSyn3 (N : List PySem.Str) (sc : Scope) (i j l : Nat) (tg v : Expr) : Option (List Expr) :=
  match tg, v with
  | .Tuple [.Name x px, .Name y py, .Name z pz] _ _, .Tuple [a, b, c] _ _ => if decide (N[i]? = some x) && decide (N[j]? = some y) && decide (N[l]? = some z) && decide (i ≠ j) && decide (i ≠ l) && decide (j ≠ l) && decide (sc.names.lookup x = some .local) && decide (sc.names.lookup y = some .local) && decide (sc.names.lookup z = some .local) &&
      decide (py.line = px.line) && decide (pz.line = px.line) && !(x == y) && !(x == z) && !(y == z) && plainE a && plainE b && plainE c && !(foldedForSure 8 a && foldedForSure 8 b && foldedForSure 8 c) && !(constantsAlone 8 a && constantsAlone 8 b && constantsAlone 8 c) then some [a, b, c] else none
  | _, _ => none
theorem blk_fn (x : XSk T G cf Ex n sc X) : X.env.blockKind = .function := by unfold PySem.Env.blockKind; rw [x.hsc, x.knd]; rfl
theorem star_any {vs : List Expr} (h : vs.all plainE = true) : (vs.any fun | .Starred .. => true | _ => false) = false := by
  rw [List.any_eq_false]
  intro v hv
  have := List.all_eq_true.mp h v hv
  cases v <;> first | (simp [plainE] at this; done) | simp
theorem noStar {v : Expr} (z : (match v with | .Starred _ _ => true | _ => false) = true) (h : plainE v = true) : False := by
  cases v <;> first | (simp [plainE] at h; done) | (simp at z; done)
theorem parOk {i j : Nat} {tg v : Expr} {es : List Expr} {ms : List E} {pos : Pos} (h : parSyn T.N sc i j tg v = some es) (x : XSk T G cf Ex n sc X) (p : PEs G cf Ex X ms es) :
    PS X (.Assign [tg] v pos) (tS G cf L Ex (.asg (.tup [i, j]) (.op .tupD ms))) := by
  unfold parSyn at h
  split at h
  · rename_i xn px yn py kt pt a b k2 pt2
    split at h
    · rename_i hc
      cases h
      simp only [Bool.and_eq_true, decide_eq_true_eq, Bool.not_eq_true', bne_iff_ne] at hc
      obtain ⟨⟨⟨⟨⟨⟨⟨⟨⟨⟨h1, h2⟩, h3⟩, h4⟩, h5⟩, h6⟩, h7⟩, h8⟩, h9⟩, h10⟩, h11⟩ := hc
      have hx : X.env.scope.names.lookup xn = some .local := by rw [x.hsc]; exact h4
      have hy : X.env.scope.names.lookup yn = some .local := by rw [x.hsc]; exact h5
      have kx : X.env.kindOf xn = some .local := hx
      have ky : X.env.kindOf yn = some .local := hy
      have hst : (([a, b] : List Expr).any fun | .Starred .. => true | _ => false) = false := star_any (by simp [h8, h9])
      refine PS_imp (ps_par (i := i) (j := j) x.calm x.nd (by rw [x.hN]; exact h1) (by rw [x.hN]; exact h2) h3 hx hy p.pa ?_) ?_
      · have hxy : (xn == yn) = false := h7
        have hyx : (yn == xn) = false := by rw [Bool.eq_false_iff] at hxy ⊢; intro z; exact hxy (by rw [beq_iff_eq] at z ⊢; exact z.symm)
        have hf : (([a, b] : List Expr).all (foldedForSure 8)) = false := by
          simp only [List.all_cons, List.all_nil, Bool.and_true]
          exact h10
        have hd : ([xn, yn] : List PySem.Str).eraseDups.length = 2 := by
          simp [List.eraseDups, List.eraseDupsBy, List.eraseDupsBy.loop, hyx]
        have hc11 : ¬ (constantsAlone 8 a = true ∧ constantsAlone 8 b = true) := by
          rintro ⟨z1, z2⟩
          rw [z1, z2] at h11
          cases h11
        unfold swappedStores
        simp only [blk_fn x, kx, ky, h6, hf, Expr.pos]
        simp [hd, hc11, kx, ky, h6]
        intro hh
        exfalso
        rcases hh with hh | hh
        · exact noStar hh h8
        · exact noStar hh h9
      · rintro D σ H ⟨I, φ, ρ, S, s, en, h⟩
        simp only [exec, ev] at h
        refine ⟨I, φ, ρ, S, s, en, h.sr.bind.imp fun ws S1 _ h1 => ?_⟩
        intro vs I1 φ1 H1 e1 s1 r1
        have h2 := Post.ofO (Ex := Ex) (I := I) (φ := φ) (H := H) h1
        obtain ⟨w, hw, h3⟩ := h2
        have : opSem .tupD ws S1 = if ws.length < LIM then some (.tup ws) else none := by simp [opSem]
        rw [this] at hw
        split at hw
        · cases hw
          simp only [bindT] at h3
          match ws, h3 with
          | [w1, w2], h3 =>
            obtain ⟨v1, v2, rfl, r1, r2⟩ := rels_two r1
            refine ⟨v1, v2, rfl, ?_⟩
            simp only [Tw.setAll] at h3
            exact h3 _ I1 φ1 H1 e1 s1 (((en.ext e1).set r1).set r2)
          | [], h3 => exact h3.elim
          | [_], h3 => exact h3.elim
          | _ :: _ :: _ :: _, h3 => exact h3.elim
        · cases hw
    · cases h
  · cases h
theorem parOk3 {i j l : Nat} {tg v : Expr} {es : List Expr} {ms : List E} {pos : Pos} (h : parSyn3 T.N sc i j l tg v = some es) (x : XSk T G cf Ex n sc X) (p : PEs G cf Ex X ms es) :
    PS X (.Assign [tg] v pos) (tS G cf L Ex (.asg (.tup [i, j, l]) (.op .tupD ms))) := by
  unfold parSyn3 at h
  split at h
  · rename_i xn px yn py zn pz kt pt a b c k2 pt2
    split at h
    · rename_i hc
      cases h
      simp only [Bool.and_eq_true, decide_eq_true_eq, Bool.not_eq_true', bne_iff_ne] at hc
      obtain ⟨⟨⟨⟨⟨⟨⟨⟨⟨⟨⟨⟨⟨⟨⟨⟨⟨⟨h1, h2⟩, h3⟩, n1⟩, n2⟩, n3⟩, l1⟩, l2⟩, l3⟩, h6⟩, h7⟩, d1⟩, d2⟩, d3⟩, p1⟩, p2⟩, p3⟩, h10⟩, h11⟩ := hc
      have hx : X.env.scope.names.lookup xn = some .local := by rw [x.hsc]; exact l1
      have hy : X.env.scope.names.lookup yn = some .local := by rw [x.hsc]; exact l2
      have hz : X.env.scope.names.lookup zn = some .local := by rw [x.hsc]; exact l3
      have kx : X.env.kindOf xn = some .local := hx
      have ky : X.env.kindOf yn = some .local := hy
      have kz : X.env.kindOf zn = some .local := hz
      refine PS_imp (ps_par3 (i := i) (j := j) (l := l) x.calm x.nd (by rw [x.hN]; exact h1) (by rw [x.hN]; exact h2) (by rw [x.hN]; exact h3) n1 n2 n3 hx hy hz p.pa ?_) ?_
      · have hf : (([a, b, c] : List Expr).all (foldedForSure 8)) = false := by
          simp only [List.all_cons, List.all_nil, Bool.and_true]
          rw [← Bool.and_assoc]
          exact h10
        have flip : ∀ {p q : PySem.Str}, (p == q) = false → (q == p) = false := fun {p q} h => by rw [Bool.eq_false_iff] at h ⊢; intro z; exact h (by rw [beq_iff_eq] at z ⊢; exact z.symm)
        have hd : ([xn, yn, zn] : List PySem.Str).eraseDups.length = 3 := by
          simp [List.eraseDups, List.eraseDupsBy, List.eraseDupsBy.loop, flip d1, flip d2, flip d3]
        have hc11 : ¬ (constantsAlone 8 a = true ∧ constantsAlone 8 b = true ∧ constantsAlone 8 c = true) := by
          rintro ⟨z1, z2, z3⟩
          rw [z1, z2, z3] at h11
          cases h11
        unfold swappedStores
        simp only [blk_fn x, kx, ky, kz, h6, h7, hf, Expr.pos]
        simp [hd, hc11, kx, ky, kz, h6, h7]
        intro hh
        exfalso
        rcases hh with hh | hh | hh
        · exact noStar hh p1
        · exact noStar hh p2
        · exact noStar hh p3
      · rintro D σ H ⟨I, φ, ρ, S, s, en, h⟩
        simp only [exec, ev] at h
        refine ⟨I, φ, ρ, S, s, en, h.sr.bind.imp fun ws S1 _ h1 => ?_⟩
        intro vs I1 φ1 H1 e1 s1 r1
        have h2 := Post.ofO (Ex := Ex) (I := I) (φ := φ) (H := H) h1
        obtain ⟨w, hw, h3⟩ := h2
        have : opSem .tupD ws S1 = if ws.length < LIM then some (.tup ws) else none := by simp [opSem]
        rw [this] at hw
        split at hw
        · cases hw
          simp only [bindT] at h3
          match ws, h3 with
          | [w1, w2, w3], h3 =>
            obtain ⟨v1, vr, rfl, r1, rr⟩ := r1
            obtain ⟨v2, v3, rfl, r2, r3⟩ := rels_two rr
            refine ⟨v1, v2, v3, rfl, ?_⟩
            simp only [Tw.setAll] at h3
            exact h3 _ I1 φ1 H1 e1 s1 ((((en.ext e1).set r1).set r2).set r3)
          | [], h3 => exact h3.elim
          | [_], h3 => exact h3.elim
          | [_, _], h3 => exact h3.elim
          | _ :: _ :: _ :: _ :: _, h3 => exact h3.elim
        · cases hw
    · cases h
  · cases h

/-! ### the checker -/
def exprSyn : Stmt → Option Expr
  | .Expr e _ => some e
  | _ => none
def passSyn : Stmt → Bool
  | .Pass _ => true
  | .Expr (.Constant (.str _) _ _) _ => true
  | _ => false
def asgSyn : Stmt → Option (Expr × Expr)
  | .Assign [tg] v _ => some (tg, v)
  | _ => none
def setSyn : Expr → Option (Expr × Expr)
  | .Subscript o k _ => if plainE k then some (o, k) else none
  | _ => none
def augSyn : Stmt → Option (Expr × Operator × Expr)
  | .AugAssign (.Name y p) op v _ => some (.Name y p, op, v)
  | _ => none
def iteSyn : Stmt → Option (Expr × List Stmt × List Stmt)
  | .If c a b _ => some (c, a, b)
  | _ => none
def forSyn : Stmt → Option (Expr × Expr × List Stmt)
  | .For tg iter body [] _ => some (tg, iter, body)
  | _ => none
def whileSyn : Stmt → Option (Expr × List Stmt)
  | .While c body [] _ => some (c, body)
  | _ => none
def retSyn : Stmt → Option (Option Expr)
  | .Return e _ => some e
  | _ => none
def isCont : Stmt → Bool
  | .Continue _ => true
  | _ => false
def isBrk : Stmt → Bool
  | .Break _ => true
  | _ => false
def isFrz : Stm → Bool
  | .frz _ => true
  | _ => false
def isNonC : E → Bool
  | .con .non => true
  | _ => false
def compOf : E → Option (Bool × E)
  | .comp a b c d e f => some (false, .comp a b c d e f)
  | .mut (.comp a b c d e f) => some (true, .comp a b c d e f)
  | _ => none
def tupOf : E → Option (List E)
  | .op .tupD ms => some ms
  | _ => none
/-- an assignment -/
def asgChk (T : Tab) (sc : Scope) (t : Tg) (m : E) (tg v : Expr) : Bool :=
  match t, tupOf m with
  | .tup [i, j], some ms => match parSyn T.N sc i j tg v with
    | some es => chks T false sc ms es
    | none => false
  | .tup [i, j, l], some ms => match parSyn3 T.N sc i j l tg v with
    | some es => chks T false sc ms es
    | none => false
  | t, _ => tgOk T.N sc t tg && plainE v && (isTupE tg == false || isTupE v == false) && (if swNow sc tg v then
      match t, compOf m with
      | .one _, some (_, c) => chk T false sc c v
      | _, _ => false
    else chk T false sc m v)
def unC : List Stmt → Option (Stmt × List Stmt)
  | s :: ss => some (s, ss)
  | [] => none
mutual
def chkS (T : Tab) (sc : Scope) : Stm → Stmt → Bool
  | .expr m, s => match exprSyn s with
    | some e => plainE e && !isLC e && chk T false sc m e
    | none => false
  | .pass, s => passSyn s
  | .asg t m, s => match asgSyn s with
    | some (tg, v) => asgChk T sc t m tg v
    | none => false
  | .setI v o k, s => match asgSyn s with
    | some (tg, v') => match setSyn tg with
      | some (o', k') => plainE v' && chk T false sc v v' && chk T false sc o o' && chk T false sc k k'
      | none => false
    | none => false
  | .setF _ _ _ _, _ => false
  | .aug i o m, s => match augSyn s with
    | some (tg, op, v) => decide (augTab o = some op) && nameAt T.N sc i tg && chk T false sc m v
    | none => false
  | .ite c a b, s => match iteSyn s with
    | some (c', a', b') => chk T true sc c c' && chkSs T sc a a' && chkSs T sc b b'
    | none => false
  | .forIn t k srcs body, s => match forSyn s with
    | some (tg, iter, body') => match itSyn sc k tg iter with
      | some es => chks T false sc srcs es && tgOk T.N sc t tg && chkSs T sc body body'
      | none => false
    | none => false
  | .forR _ _ _, _ => false
  | .whil c body, s => match whileSyn s with
    | some (c', body') => chk T true sc c c' && chkSs T sc body body'
    | none => false
  | .ret m, s => match retSyn s with
    | some (some e) => chk T false sc m e
    | some none => isNonC m
    | none => false
  | .cont, s => isCont s
  | .brk, s => isBrk s
  | .rais _, _ => false
  | .frz _, _ => false
def chkSs (T : Tab) (sc : Scope) : List Stm → List Stmt → Bool
  | [], ss => ss.isEmpty
  | m :: ms, ss => if isFrz m then chkSs T sc ms ss else match unC ss with
    | none => false
    | some (s, ss') => chkS T sc m s && chkSs T sc ms ss'
end
theorem lc_false {e : Expr} {l : Nat} (hv : plainE e = true) (h : (!isLC e) = true) : swapsWith e none l X.env = pure false := by
  cases e <;> first | (simp [plainE] at hv; done) | (simp [isLC] at h; done) | rfl
theorem set_assign {o i : Expr} {pos : Pos} (hp : plainE i = true) : ∀ v, assign (.Subscript o i pos) X.env v = (do
      let ov ← holding [v] (eval o X.env)
      let iv ← holding [v, ov] (eval i X.env)
      standAt pos
      holding [v, ov, iv] (setItem ov iv v)
      release [v, ov, iv] []) := by
  intro v
  cases i <;> first | (simp [plainE] at hp; done) | rfl
theorem set_sw {o i v : Expr} {p : Pos} {l : Nat} (hv : plainE v = true) : swapsWithSole [.Subscript o i p] v l X.env = pure false := by
  cases v <;> first | (simp [plainE] at hv; done) | rfl
theorem setS {v o k : E} : ∀ D σ H, tS G cf L Ex (.setI v o k) D σ H → tAsg (tE G cf Ex v) (gSub (tE G cf Ex o) (tE G cf Ex k) (rSetG G)) D σ H := by
  rintro D σ H ⟨I, φ, ρ, S, s, en, h⟩
  simp only [exec] at h
  refine ⟨I, φ, ρ, S, s, en, h.sr.imp fun w S1 _ h1 => ?_⟩
  intro v1 I1 φ1 H1 e1 s1 r1
  refine ⟨I1, φ1, ρ, S1, s1, en.ext e1, (PostS.ext e1 h1).sr.imp fun w2 S2 _ h2 => ?_⟩
  intro v2 I2 φ2 H2 e2 s2 r2
  refine ⟨I2, φ2, ρ, S2, s2, (en.ext e1).ext e2, (PostS.ext e2 h2).sr.imp fun w3 S3 _ h3 => ?_⟩
  intro v3 I3 φ3 H3 e3 s3 r3
  have h4 := PostS.ext e3 h3
  split at h4
  · rename_i S4 hS
    refine ⟨I3, φ3, S3, w2, w3, w, S4, s3, r2.ext e3, r3, (r1.ext e2).ext e3, hS, fun I4 φ4 H4 e4 s4 => ?_⟩
    exact h4 σ I4 φ4 H4 e4 s4 ((((en.ext e1).ext e2).ext e3).ext e4)
  · exact h4.elim
theorem asgChk_ok {t : Tg} {m : E} {tg v : Expr} {pos : Pos} (h : asgChk T sc t m tg v = true) (x : XSk T G cf Ex n sc X) : PS X (.Assign [tg] v pos) (tS G cf L Ex (.asg t m)) := by
  unfold asgChk at h
  split at h
  · rename_i i j ms hm
    split at h
    · rename_i es he
      have p := (chks_ok ms h x.toXOk).pes
      have : m = .op .tupD ms := by
        unfold tupOf at hm
        split at hm
        · cases hm; rfl
        · cases hm
      rw [this]
      exact parOk he x p
    · cases h
  · rename_i i j l ms hm
    split at h
    · rename_i es he
      have p := (chks_ok ms h x.toXOk).pes
      have : m = .op .tupD ms := by
        unfold tupOf at hm
        split at hm
        · cases hm; rfl
        · cases hm
      rw [this]
      exact parOk3 he x p
    · cases h
  · simp only [Bool.and_eq_true, Bool.or_eq_true, beq_iff_eq] at h
    obtain ⟨⟨⟨h1, h2⟩, h3⟩, h4⟩ := h
    split at h4
    · rename_i hsw
      split at h4
      · rename_i i md c hc _hs _hs2
        have hsw2 := hsw
        unfold swNow at hsw
        split at hsw
        · rename_i y py elt gs scope pos'
          unfold compOf at hc
          split at hc
          · cases hc
            have h5 := h4
            rw [chk] at h5
            split at h5
            · rename_i a1 a2 a3 a4 a5 he
              unfold compSyn at he
              split at he
              · rename_i hq
                cases hq
                exact asgLc (L := L) (spos := pos) (md := false) x h1 hsw2 h4
              · cases he
            · cases h5
          · cases hc
            have h5 := h4
            rw [chk] at h5
            split at h5
            · rename_i a1 a2 a3 a4 a5 he
              unfold compSyn at he
              split at he
              · rename_i hq
                cases hq
                exact asgLc (L := L) (spos := pos) (md := true) x h1 hsw2 h4
              · cases he
            · cases h5
          · cases hc
        · cases hsw
      · cases h4
    · rename_i hsw
      exact asgOk x h1 h2 (by simpa using hsw) h3 (chk_ok m h4 x.toXOk).1
mutual
theorem chkS_ok : ∀ (m : Stm) {s : Stmt} {sc : Scope} {X : Cx}, chkS T sc m s = true → XSk T G cf Ex n sc X → PS X s (tS G cf L Ex m)
  | .expr m, s, sc, X, h, x => by
    rw [chkS] at h
    split at h
    · rename_i e he
      simp only [Bool.and_eq_true] at h
      have h1 := (chk_ok m h.2 x.toXOk).1
      unfold exprSyn at he
      split at he
      · cases he
        exact PS_imp (ps_expr h1 (lc_false h.1.1 h.1.2)) exprS
      · cases he
    · cases h
  | .pass, s, sc, X, h, x => by
    rw [chkS] at h
    unfold passSyn at h
    split at h
    · exact PS_imp ps_pass passS
    · exact PS_imp ps_doc passS
    · cases h
  | .asg t m, s, sc, X, h, x => by
    rw [chkS] at h
    split at h
    · rename_i tg v he
      unfold asgSyn at he
      split at he
      · cases he
        exact asgChk_ok h x
      · cases he
    · cases h
  | .setI v o k, s, sc, X, h, x => by
    rw [chkS] at h
    split at h
    · rename_i tg v' he
      split at h
      · rename_i o' k' hk
        simp only [Bool.and_eq_true] at h
        obtain ⟨⟨⟨h1, h2⟩, h3⟩, h4⟩ := h
        have p1 := (chk_ok v h2 x.toXOk).1
        have p2 := (chk_ok o h3 x.toXOk).1
        have p3 := (chk_ok k h4 x.toXOk).1
        unfold asgSyn at he
        split at he
        · cases he
          unfold setSyn at hk
          split at hk
          · split at hk
            · rename_i hp
              cases hk
              refine PS_imp (ps_asg p1 (pg_sub p2 p3 (pset_ok (by have := x.hu; omega)) (set_assign hp)) (set_sw h1) rfl rfl) setS
            · cases hk
          · cases hk
        · cases he
      · cases h
    · cases h
  | .setF _ _ _ _, s, sc, X, h, x => by rw [chkS] at h; cases h
  | .aug i o m, s, sc, X, h, x => by
    rw [chkS] at h
    split at h
    · rename_i tg op v he
      simp only [Bool.and_eq_true, decide_eq_true_eq] at h
      obtain ⟨⟨h1, h2⟩, h3⟩ := h
      have p1 := (chk_ok m h3 x.toXOk).1
      unfold augSyn at he
      split at he
      · cases he
        simp only [nameAt, Bool.and_eq_true, decide_eq_true_eq] at h2
        have hl := loc_ok h2.2
        have hi := h2.1
        rw [← x.hN] at hi
        rcases hl with hl | hl
        · exact PS_imp (ps_aug x.nd hi (.inl ((x.wr _).1 hl)) p1 (augTab_ok h1) (.inr ((x.wr _).1 hl))) augS
        · exact PS_imp (ps_aug x.nd hi (.inr ((x.wr _).2 hl).1) p1 (augTab_ok h1) (.inl ((x.wr _).2 hl).2)) augS
      · cases he
    · cases h
  | .ite c a b, s, sc, X, h, x => by
    rw [chkS] at h
    split at h
    · rename_i c' a' b' he
      simp only [Bool.and_eq_true] at h
      obtain ⟨⟨h1, h2⟩, h3⟩ := h
      have p1 := chk_ok c h1 x.toXOk
      have p2 := chkSs_ok a h2 x
      have p3 := chkSs_ok b h3 x
      unfold iteSyn at he
      split at he
      · cases he
        exact PS_imp (ps_if p1 p2 p3) iteS
      · cases he
    · cases h
  | .forIn t k srcs body, s, sc, X, h, x => by
    rw [chkS] at h
    split at h
    · rename_i tg iter body' he
      split at h
      · rename_i es hi
        simp only [Bool.and_eq_true] at h
        obtain ⟨⟨h1, h2⟩, h3⟩ := h
        have p := (chks_ok srcs h1 x.toXOk).pes
        obtain ⟨q1, q2⟩ := itOk hi x.toXOk p
        have p3 := chkSs_ok body h3 x
        unfold forSyn at he
        split at he
        · cases he
          exact PS_imp (ps_for x.own x.calm q1 (tgOk_ok x.calm x.hN x.nd x.wr h2) p3 (set_ok q2)) forS
        · cases he
      · cases h
    · cases h
  | .forR _ _ _, s, sc, X, h, x => by rw [chkS] at h; cases h
  | .whil c body, s, sc, X, h, x => by
    rw [chkS] at h
    split at h
    · rename_i c' body' he
      simp only [Bool.and_eq_true] at h
      have p1 := chk_ok c h.1 x.toXOk
      have p2 := chkSs_ok body h.2 x
      unfold whileSyn at he
      split at he
      · cases he
        exact PS_imp (ps_while x.own p1 p2) whileS
      · cases he
    · cases h
  | .ret m, s, sc, X, h, x => by
    rw [chkS] at h
    split at h
    · rename_i e he
      have p1 := (chk_ok m h x.toXOk).1
      unfold retSyn at he
      split at he
      · cases he
        exact PS_imp (ps_ret p1) retS
      · cases he
    · rename_i he
      unfold retSyn at he
      split at he
      · cases he
        unfold isNonC at h
        split at h
        · refine PS_imp ps_retN ?_
          rintro D σ H ⟨I, φ, ρ, S, s, en, h⟩
          simp only [exec, ev, Rs.sr] at h
          exact KE.here h s rfl
        · cases h
      · cases he
    · cases h
  | .cont, s, sc, X, h, x => by
    rw [chkS] at h
    unfold isCont at h
    split at h
    · exact PS_imp ps_continue contS
    · cases h
  | .brk, s, sc, X, h, x => by
    rw [chkS] at h
    unfold isBrk at h
    split at h
    · exact PS_imp ps_break brkS
    · cases h
  | .rais _, s, sc, X, h, x => by rw [chkS] at h; cases h
  | .frz _, s, sc, X, h, x => by rw [chkS] at h; cases h
theorem chkSs_ok : ∀ (ms : List Stm) {ss : List Stmt} {sc : Scope} {X : Cx}, chkSs T sc ms ss = true → XSk T G cf Ex n sc X → PSs X ss (tSs G cf L Ex ms)
  | [], ss, sc, X, h, x => by
    rw [chkSs] at h
    cases ss with
    | nil => exact PSs_imp pss_nil nilS
    | cons s ss => cases h
  | m :: ms, ss, sc, X, h, x => by
    rw [chkSs] at h
    split at h
    · rename_i hf
      have p := chkSs_ok ms h x
      unfold isFrz at hf
      split at hf
      · exact PSs_imp p frzS
      · cases hf
    · cases ss with
      | nil => simp [unC] at h
      | cons s ss =>
        simp only [unC] at h
        simp only [Bool.and_eq_true] at h
        exact PSs_imp (pss_cons (chkS_ok m h.1 x) (chkSs_ok ms h.2 x)) seqS
end
end Tw

/-! Tw, part Q: defs, the law's end. -/
namespace Tw
open PySem PySem.Spec PyProof.Rows L2

variable {G : Gx} {I I' I1 I2 H H' H1 H2 : Hp} {φ φ' φ1 φ2 : List Addr} {S S' S1 : Sto} {X : Cx} {T : Tab} {Ex : XK} {n L : Nat} {sc : Scope}

structure DefI where
  nm : PySem.Str
  N : List PySem.Str
  np : Nat
  st : Stmt
  body : List Stm
def DefI.ps (d : DefI) : List PySem.Str := d.N.take d.np
def DefI.fn (d : DefI) : Fn := ⟨d.np, d.N.length, d.body⟩
def isFun : ScopeKind → Bool
  | .function => true
  | _ => false
def nodupC : List PySem.Str → Bool
  | [] => true
  | x :: r => !(r.contains x) && nodupC r
theorem nodupC_ok : ∀ {l : List PySem.Str}, nodupC l = true → l.Nodup
  | [], _ => List.nodup_nil
  | x :: r, h => by
    simp only [nodupC, Bool.and_eq_true] at h
    exact List.nodup_cons.mpr ⟨by simpa using h.1, nodupC_ok h.2⟩
def scopeC (d : DefI) : Bool :=
  isFun (defScope d.st).kind && !(defScope d.st).isCoroutine && !(defScope d.st).isGenerator && nodupC d.N && decide (d.np ≤ d.N.length) && d.ps.all (loc (defScope d.st)) && (defScope d.st).names.all fun y => !(y.2 == .free)
theorem scopeC_ok {d : DefI} (h : scopeC d = true) : FnScope d.N d.ps (defScope d.st) := by
  unfold scopeC at h
  simp only [Bool.and_eq_true, decide_eq_true_eq] at h
  obtain ⟨⟨⟨⟨⟨⟨h1, h2⟩, h3⟩, h4⟩, h5⟩, h6⟩, h7⟩ := h
  refine ⟨?_, by simpa using h2, by simpa using h3, nodupC_ok h4, ?_, fun x hx => loc_ok (List.all_eq_true.mp h6 x hx), fun y hy => ?_⟩
  · unfold isFun at h1
    split at h1
    · assumption
    · cases h1
  · unfold DefI.ps
    rw [List.length_take, Nat.min_eq_left h5]
  · have := List.all_eq_true.mp h7 y hy
    intro z
    rw [z] at this
    cases this
def defC (fnm : List (PySem.Str × Nat × Nat)) (cst : List (PySem.Str × W)) (d : DefI) : Bool := scopeC d && chkSs ⟨d.N, fnm, cst⟩ (defScope d.st) d.body (defBody d.st)
section
variable {P : Program} {w : World} {K : PySem.W.Frag} {mg : PySem.Str → Option Value} {base : Heap}
/-- what the top has written -/
structure Wd (K : PySem.W.Frag) (mg : PySem.Str → Option Value) (fnm : List (PySem.Str × Nat × Nat)) (cst : List (PySem.Str × W)) (D : List DefI) : Prop where
  defs : ∀ (i : Nat) (d : DefI), D[i]? = some d → ∃ f fd, mg d.nm = some (.ref f) ∧ Binds K fd d.ps [] ∧ Fun K d.nm d.nm d.st f fd
  blt : ∀ x ∈ bltNames, mg x = none
  csts : ∀ x v, (x, v) ∈ cst → ∃ u y, mg x = some u ∧ L2.RelV y u ∧ ∀ (G : Gx) I φ, Rel G I φ v y
/-- the table of names agrees with the defs -/
def fnmC (fnm : List (PySem.Str × Nat × Nat)) (D : List DefI) : Bool := fnm.all fun p => match D[p.2.1]? with
  | some d => d.nm == p.1 && d.np == p.2.2 && decide (d.np ≤ d.N.length)
  | none => false
theorem defs_ok {fnm : List (PySem.Str × Nat × Nat)} {cst : List (PySem.Str × W)} {D : List DefI} (hG : K = G.K) (wd : Wd K mg fnm cst D) (hf : fnmC fnm D = true) (hD : D.all (defC fnm cst) = true) (L : Nat) :
    ∀ (n i : Nat) (d : DefI) (f : Addr) (fd : FuncData), D[i]? = some d → Fun K d.nm d.nm d.st f fd → FnOk P w K mg base (L2.CX P w) n f fd d.ps (spF G (runF (D.map DefI.fn) L n) i d.np)
  | 0, i, d, f, fd, hd, F => by
    have no : ∀ {vs : List V} {H : Hp} {Q : VK} {E : XK}, spF G (runF (D.map DefI.fn) L 0) i d.np vs H Q E → False := by
      rintro vs H Q E ⟨_, I, φ, S, ws, _, _, h⟩
      exact h
    exact ⟨fun vs H Q E h => (no h).elim, fun A outer s H args us vs Q E _ _ _ _ h => (no h).elim⟩
  | n + 1, i, d, f, fd, hd, F => by
    have ih := defs_ok hG wd hf hD L n
    have hc := List.all_eq_true.mp hD d (List.mem_of_getElem? hd)
    unfold defC at hc
    simp only [Bool.and_eq_true] at hc
    have SC := scopeC_ok hc.1
    have hnp : d.np ≤ d.N.length := by
      have := hc.1
      unfold scopeC at this
      simp only [Bool.and_eq_true, decide_eq_true_eq] at this
      exact this.1.1.2
    refine F.okX SC (fun vs H Q E h => ?_) fun cdv A outer s H vs Q E hr h => ?_
    · rw [h.1]
      unfold DefI.ps
      rw [List.length_take, Nat.min_eq_left hnp]
    · obtain ⟨hl, I, φ, S, ws, sm, rws, hp⟩ := h
      have x : XSk ⟨d.N, fnm, cst⟩ G (runF (D.map DefI.fn) L n) E n (defScope d.st) (cxOf (L2.CX P w) P w K mg base d.N d.nm (defScope d.st) f cdv A outer s H E) :=
        { calm := rfl, hk := hG, nd := SC.nd, hN := rfl, hsc := rfl, room := hr, blt := wd.blt,
          fns := fun y j np hm => by
            have := List.all_eq_true.mp hf _ hm
            simp only at this
            split at this
            · rename_i d2 hd2
              simp only [Bool.and_eq_true, beq_iff_eq, decide_eq_true_eq] at this
              obtain ⟨⟨rfl, rfl⟩, hn2⟩ := this
              obtain ⟨f2, fd2, h1, h2, h3⟩ := wd.defs j d2 hd2
              exact ⟨f2, fd2, d2.ps, by unfold DefI.ps; rw [List.length_take, Nat.min_eq_left hn2], h1, h3.kp, h2, ih j d2 f2 fd2 hd2 h3⟩
            · cases this
          csts := fun y v hm => by
            obtain ⟨u, z, h1, h2, h3⟩ := wd.csts y v hm
            exact ⟨u, z, h1, h2, h3 G⟩
          pass := passes_call (W := fun cls dd _ H => E cls dd H) (takes_of rfl rfl rfl rfl) fun _ _ _ _ z => z
          wr := fun y => ⟨fun z => z, fun z => ⟨z, rfl⟩⟩
          own := passes_of rfl
          knd := SC.kind }
      refine ⟨_, chkSs_ok (L := L) d.body hc.2 x, ?_⟩
      have hlen := rws.length
      refine ⟨I, φ, ws.map some ++ List.replicate (d.N.length - d.np) none, S, sm, ⟨?_, ?_⟩, ?_⟩
      · unfold L2.start
        have hnw : ws.length = d.np := by omega
        rw [List.length_append, List.length_append, List.length_map, List.length_map, List.length_replicate, List.length_replicate, hlen, hnw]
      · intro k w' hk
        unfold L2.start
        rw [List.getElem?_append] at hk ⊢
        simp only [List.length_map] at hk ⊢
        rw [hlen]
        split at hk
        · rename_i hlt
          rw [if_pos hlt]
          rw [List.getElem?_map] at hk ⊢
          cases hw : ws[k]? with
          | none => rw [hw] at hk; cases hk
          | some u =>
            rw [hw] at hk
            cases hk
            obtain ⟨v, hv, r⟩ := rws.get hw
            exact ⟨v, by rw [hv]; rfl, r⟩
        · rw [List.getElem?_replicate] at hk
          split at hk <;> cases hk
      · simp only [runF] at hp
        have hfn : (D.map DefI.fn)[i]? = some d.fn := by rw [List.getElem?_map, hd]; rfl
        rw [hfn] at hp
        simp only at hp
        have e1 : ws.length = d.fn.np := by rw [← hlen, hl]; rfl
        rw [if_pos e1] at hp
        have e2 : d.fn.ns - d.fn.np = d.N.length - d.np := rfl
        rw [e2] at hp
        have e3 : d.fn.body = d.body := rfl
        rw [e3] at hp
        cases hx : execs (runF (D.map DefI.fn) L n) L d.body (ws.map some ++ List.replicate (d.N.length - d.np) none) S with
        | ret v S' => rw [hx] at hp; exact hp
        | next ρ S' => rw [hx] at hp; exact fun σ I' φ' H' e s en => hp .non I' φ' H' e s rfl
        | ex c S' => rw [hx] at hp; exact hp
        | brk ρ S' => rw [hx] at hp; exact hp.elim
        | cont ρ S' => rw [hx] at hp; exact hp.elim
        | bad => rw [hx] at hp; exact hp.elim
/-- the law's promise -/
def spL (cad : Nat → Addr) (fld : Nat → List PySem.Str) (D : List DefI) (L k i : Nat) (K : PySem.W.Frag) : Sp := spF ⟨K, cad, fld⟩ (runF (D.map DefI.fn) L k) i 1
theorem spL_here {cad : Nat → Addr} {fld : Nat → List PySem.Str} {D : List DefI} {L k i : Nat} {H : Hp} {a : Addr} {ns : List Int} {E : XK} (hS : SqL K H a (ns.map V.int)) (h : ∃ S', runF (D.map DefI.fn) L k i [.klst ns] [] = .ok (.bl true) S') :
    spL cad fld D L k i K [.ref a] H (fun v _ => v = .bl true) E := by
  obtain ⟨S', h⟩ := h
  refine ⟨rfl, H, [], [], [.klst ns], ⟨Same.refl _, rfl, List.nodup_nil, by simp, by simp, by simp⟩, Rels.one ⟨a, rfl, hS⟩, ?_⟩
  rw [h]
  exact fun v I' φ' H' e s r => r
theorem cx_none {P : Program} {w : World} {H : Hp} {s : Shared} {e : Value} {s' : Shared} (h : L2.CX P w [] H s (fun _ _ _ => False) e s') : False := by
  obtain ⟨_, _, _, _, _, _, _, _, _, _, _, _, z⟩ := h
  exact z.elim
end
end Tw

/-! Tw, part R: running, in plain Lean. -/
namespace Tw
theorem runF_succ {D : List DefI} {L d f : Nat} {ws : List W} {S : Sto} {x : DefI} (h : D[f]? = some x) (hl : ws.length = x.np) : runF (D.map DefI.fn) L (d + 1) f ws S = match execs (runF (D.map DefI.fn) L d) L x.body (ws.map some ++ List.replicate (x.N.length - x.np) none) S with
        | .ret w S' => .ok w S'
        | .next _ S' => .ok .non S'
        | .ex c S' => .ex c S'
        | _ => .bad := by
  rw [runF]
  have : (D.map DefI.fn)[f]? = some x.fn := by rw [List.getElem?_map, h]; rfl
  rw [this]
  simp only
  rw [if_pos (by rw [hl]; rfl)]
  rfl
/-- a comprehension without effect, its turns -/
theorem compL_map {elt cond : Env → Sto → Rs W} {t : Tg} {ρ : Env} {S : Sto} (f : W → W) (c : W → Bool) : ∀ {xs : List W}, (∀ x ∈ xs, ∃ ρ', bindT t x ρ = some ρ' ∧ cond ρ' S = .ok (.bl (c x)) S ∧ (c x = true → elt ρ' S = .ok (f x) S)) → compL elt cond t ρ xs S = .ok ((xs.filter c).map f) S
  | [], _ => by simp [compL]
  | x :: xs, h => by
    obtain ⟨ρ', h1, h2, h3⟩ := h x (by simp)
    have ih := compL_map f c (xs := xs) fun y hy => h y (by simp [hy])
    simp only [compL, h1, h2]
    cases hc : c x with
    | true =>
      simp only [h3 hc, ih, Rs.bind, List.filter_cons, hc, if_true, List.map_cons]
    | false =>
      simp only [ih, List.filter_cons, hc]
      simp
/-- the same, kept by all -/
theorem compL_all {elt cond : Env → Sto → Rs W} {t : Tg} {ρ : Env} {S : Sto} (f : W → W) {xs : List W} (h : ∀ x ∈ xs, ∃ ρ', bindT t x ρ = some ρ' ∧ cond ρ' S = .ok (.bl true) S ∧ elt ρ' S = .ok (f x) S) : compL elt cond t ρ xs S = .ok (xs.map f) S := by
  have := compL_map f (fun _ => true) (elt := elt) (cond := cond) (t := t) (ρ := ρ) (S := S) (xs := xs) fun x hx => by
    obtain ⟨ρ', h1, h2, h3⟩ := h x hx
    exact ⟨ρ', h1, h2, fun _ => h3⟩
  rw [this, List.filter_eq_self.mpr (by simp)]
/-- a walk with an invariant: after the turns of xs.take k the state stands as I k tells -/
theorem forL_inv {t : Tg} {body : Env → Sto → SR} (I : List W → Env → Sto → Prop) : ∀ {xs done : List W} {ρ : Env} {S : Sto}, I done ρ S →
    (∀ d x ρ S, I d ρ S → x ∈ xs → ∃ ρ' ρ2 S2, bindT t x ρ = some ρ' ∧ (body ρ' S = .next ρ2 S2 ∨ body ρ' S = .cont ρ2 S2) ∧ I (d ++ [x]) ρ2 S2) → ∃ ρ2 S2, forL t body xs ρ S = .next ρ2 S2 ∧ I (done ++ xs) ρ2 S2
  | [], done, ρ, S, h, _ => ⟨ρ, S, by simp [forL], by simpa using h⟩
  | x :: xs, done, ρ, S, h, st => by
    obtain ⟨ρ', ρ2, S2, h1, h2, h3⟩ := st done x ρ S h (by simp)
    obtain ⟨ρ3, S3, h4, h5⟩ := forL_inv I (xs := xs) h3 fun d y ρ S hI hy => st d y ρ S hI (by simp [hy])
    refine ⟨ρ3, S3, ?_, by simpa using h5⟩
    simp only [forL, h1]
    rcases h2 with h2 | h2 <;> rw [h2] <;> exact h4

/-! ### values in order -/
/-- values that the order compares strictly -/
structure OrdW (Q : W → Prop) : Prop where
  eq : ∀ x y, Q x → Q y → (eqW x y = true ↔ x = y)
  irr : ∀ x, Q x → ltW x x = false
  tr : ∀ x y z, Q x → Q y → Q z → ltW x y = true → ltW y z = true → ltW x z = true
  tot : ∀ x y, Q x → Q y → x ≠ y → ltW x y = true ∨ ltW y x = true
  dat : ∀ x, Q x → ∀ d, datW (d + 1) x = true
  rf : ∀ x, Q x → rfree x = true
  ali : ∀ x y, Q x → Q y → alikeW x y = true
  one : (∀ x, Q x → isTup1 x = true) ∨ ∀ x, Q x → (notNone x && !isTup x) = true
  non : ∀ x, Q x → notNone x = true
theorem OrdW.asym {Q : W → Prop} (o : OrdW Q) {x y : W} (hx : Q x) (hy : Q y) (h : ltW x y = true) : ltW y x = false := by
  cases h2 : ltW y x with
  | false => rfl
  | true => have := o.tr x y x hx hy hx h h2; rw [o.irr x hx] at this; cases this
theorem ordInt : OrdW fun w => ∃ i, w = .int i := by
  refine ⟨?_, ?_, ?_, ?_, ?_, ?_, ?_, .inr ?_, ?_⟩
  · rintro _ _ ⟨i, rfl⟩ ⟨j, rfl⟩; simp [eqW]
  · rintro _ ⟨i, rfl⟩; simp [ltW]
  · rintro _ _ _ ⟨i, rfl⟩ ⟨j, rfl⟩ ⟨k, rfl⟩ h1 h2; simp [ltW] at *; omega
  · rintro _ _ ⟨i, rfl⟩ ⟨j, rfl⟩ h; simp [ltW] at *; omega
  · rintro _ ⟨i, rfl⟩ d; rfl
  · rintro _ ⟨i, rfl⟩; rfl
  · rintro _ _ ⟨i, rfl⟩ ⟨j, rfl⟩; rfl
  · rintro _ ⟨i, rfl⟩; rfl
  · rintro _ ⟨i, rfl⟩; rfl
def okStr (s : List Nat) : Prop := (∀ c ∈ s, c < 128) ∧ s.length < LIM
theorem ordStr : OrdW fun w => ∃ s, w = .str s ∧ okStr s := by
  refine ⟨?_, ?_, ?_, ?_, ?_, ?_, ?_, .inr ?_, ?_⟩
  · rintro _ _ ⟨i, rfl, _⟩ ⟨j, rfl, _⟩; simp [eqW]
  · rintro _ ⟨i, rfl, _⟩; simp [ltW, List.lt_irrefl]
  · rintro _ _ _ ⟨i, rfl, _⟩ ⟨j, rfl, _⟩ ⟨k, rfl, _⟩ h1 h2; simp [ltW] at *; exact List.lt_trans h1 h2
  · rintro _ _ ⟨i, rfl, _⟩ ⟨j, rfl, _⟩ h
    simp only [ltW, decide_eq_true_eq]
    have h : i ≠ j := fun z => h (by rw [z])
    rcases Classical.em (i < j) with z | z
    · exact .inl z
    · rcases Classical.em (j < i) with z2 | z2
      · exact .inr z2
      · exact absurd (List.le_antisymm z2 z) h
  · rintro _ ⟨i, rfl, h⟩ d; simp only [datW, Bool.and_eq_true, List.all_eq_true, decide_eq_true_eq]; exact h
  · rintro _ ⟨i, rfl, _⟩; rfl
  · rintro _ _ ⟨i, rfl, _⟩ ⟨j, rfl, _⟩; rfl
  · rintro _ ⟨i, rfl, _⟩; rfl
  · rintro _ ⟨i, rfl, _⟩; rfl
theorem ordPair : OrdW fun w => ∃ i s, w = .tup [.int i, .str s] ∧ okStr s := by
  have os := ordStr
  refine ⟨?_, ?_, ?_, ?_, ?_, ?_, ?_, .inl ?_, ?_⟩
  · rintro _ _ ⟨i, a, rfl, _⟩ ⟨j, b, rfl, _⟩; simp [eqW, eqL]
  · rintro _ ⟨i, a, rfl, h⟩; simp [ltW, ltL, eqW]
  · rintro _ _ _ ⟨i, a, rfl, ha⟩ ⟨j, b, rfl, hb⟩ ⟨k, c, rfl, hc⟩ h1 h2
    have t := os.tr (.str a) (.str b) (.str c) ⟨a, rfl, ha⟩ ⟨b, rfl, hb⟩ ⟨c, rfl, hc⟩
    simp only [ltW, ltL, eqW] at *
    by_cases ij : i = j
    · subst ij
      by_cases jk : i = k
      · subst jk
        simp only [beq_self_eq_true, if_true] at *
        by_cases ab : a = b
        · subst ab; exact h2
        · by_cases bc : b = c
          · subst bc; exact h1
          · simp [ab] at h1
            simp [bc] at h2
            have := t (by simpa using h1) (by simpa using h2)
            by_cases ac : a = c
            · subst ac
              exact absurd (List.lt_trans h1 h2) (List.lt_irrefl a)
            · simpa [ac] using this
      · simp [jk] at h2 ⊢; exact h2
    · by_cases jk : j = k
      · subst jk; simp [ij] at h1 ⊢; exact h1
      · simp [ij] at h1
        simp [jk] at h2
        have : i ≠ k := by omega
        simp [this]
        omega
  · rintro _ _ ⟨i, a, rfl, ha⟩ ⟨j, b, rfl, hb⟩ h
    simp only [ltW, ltL, eqW]
    by_cases ij : i = j
    · subst ij
      have hab : a ≠ b := fun z => h (by rw [z])
      have := os.tot (.str a) (.str b) ⟨a, rfl, ha⟩ ⟨b, rfl, hb⟩ (by simpa using hab)
      have hba : b ≠ a := fun z => hab z.symm
      simpa [hab, hba, ltW] using this
    · have ji : j ≠ i := fun z => ij z.symm
      simp [ij, ji]
      omega
  · rintro _ ⟨i, a, rfl, ha⟩ d
    simp only [datW, datL, Bool.and_eq_true, List.all_eq_true, decide_eq_true_eq]
    exact ⟨trivial, ha, trivial⟩
  · rintro _ ⟨i, a, rfl, ha⟩; rfl
  · rintro _ _ ⟨i, a, rfl, _⟩ ⟨j, b, rfl, _⟩; rfl
  · rintro _ ⟨i, a, rfl, _⟩; rfl
  · rintro _ ⟨i, a, rfl, _⟩; rfl

/-! ### sorted, without doubles, counted -/
/-- one after another, none twice on end -/
def lastIs (u : List W) (x : W) : Bool := match u.getLast? with
  | some y => eqW y x
  | none => false
def dedup : List W → List W → List W
  | u, [] => u
  | u, x :: xs => if lastIs u x = false then dedup (u ++ [x]) xs else dedup u xs
def ltP (x y : W) : Prop := ltW x y = true
theorem dedup_ok {Q : W → Prop} (o : OrdW Q) : ∀ {xs u : List W}, (∀ x ∈ u, Q x) → (∀ x ∈ xs, Q x) → u.Pairwise ltP → xs.Pairwise (fun a b => ltW b a = false) → (∀ y ∈ u, ∀ x ∈ xs, ltW x y = false) →
    (dedup u xs).Pairwise ltP ∧ ∀ z, z ∈ dedup u xs ↔ z ∈ u ∨ z ∈ xs
  | [], u, hu, _, pu, _, _ => ⟨pu, by simp [dedup]⟩
  | x :: xs, u, hu, hx, pu, px, hux => by
    have qx := hx x (by simp)
    have px' := (List.pairwise_cons.mp px)
    unfold dedup
    split
    · rename_i hc
      have key : ∀ y ∈ u, ltW y x = true := by
        intro y hy
        have h1 := hux y hy x (by simp)
        by_cases hyx : y = x
        · subst hyx
          exfalso
          cases hl : u.getLast? with
          | none => rw [List.getLast?_eq_none_iff] at hl; rw [hl] at hy; cases hy
          | some z =>
            have hz : z ∈ u := List.mem_of_getLast? hl
            have hze : z = y := by
              by_cases hzy : z = y
              · exact hzy
              · exfalso
                -- y is ahead of z in u, so y < z, while z is not greater than x = y
                obtain ⟨ini, rfl⟩ := List.getLast?_eq_some_iff.mp hl
                rcases List.mem_append.mp hy with h | h
                · have := (List.pairwise_append.mp pu).2.2 y h z (by simp)
                  have h2 := hux z (by simp) y (by simp)
                  unfold ltP at this
                  rw [this] at h2
                  cases h2
                · simp at h; exact hzy h.symm
            subst hze
            unfold lastIs at hc
            rw [hl] at hc
            have e := (o.eq z z qx qx).mpr rfl
            simp [e] at hc
        · rcases o.tot y x (hu y hy) qx hyx with h | h
          · exact h
          · rw [h1] at h; cases h
      have ih := dedup_ok o (xs := xs) (u := u ++ [x]) (by
          intro z hz
          rcases List.mem_append.mp hz with h | h
          · exact hu z h
          · simp at h; rw [h]; exact qx) (fun z hz => hx z (by simp [hz])) (by
          rw [List.pairwise_append]
          exact ⟨pu, by simp, fun a ha b hb => by simp at hb; rw [hb]; exact key a ha⟩) px'.2 (by
          intro y hy z hz
          rcases List.mem_append.mp hy with h | h
          · exact hux y h z (by simp [hz])
          · simp at h; rw [h]; exact px'.1 z hz)
      refine ⟨ih.1, fun z => ?_⟩
      rw [ih.2 z]
      simp [or_assoc]
    · rename_i hc
      have hmem : x ∈ u := by
        unfold lastIs at hc
        cases hl : u.getLast? with
        | none => rw [hl] at hc; simp at hc
        | some y =>
          rw [hl] at hc
          simp at hc
          have hy := List.mem_of_getLast? hl
          rw [← (o.eq y x (hu y hy) qx).mp hc]
          exact hy
      have ih := dedup_ok o (xs := xs) (u := u) hu (fun z hz => hx z (by simp [hz])) pu px'.2 (fun y hy z hz => hux y hy z (by simp [hz]))
      refine ⟨ih.1, fun z => ?_⟩
      rw [ih.2 z]
      constructor
      · rintro (h | h)
        · exact .inl h
        · exact .inr (by simp [h])
      · rintro (h | h)
        · exact .inl h
        · rcases List.mem_cons.mp h with h | h
          · rw [h]; exact .inl hmem
          · exact .inr h
theorem sortW_mem {xs : List W} {z : W} : z ∈ sortW xs ↔ z ∈ xs := by
  unfold sortW
  exact List.mem_mergeSort
theorem sortW_pw {Q : W → Prop} (o : OrdW Q) {xs : List W} (h : ∀ x ∈ xs, Q x) : (sortW xs).Pairwise fun a b => ltW b a = false := by
  -- the order outside Q is made one by a trick: sorted by a total order that agrees on Q
  let le : W → W → Bool := fun a b => !ltW b a
  have aux : ∀ ys : List W, (∀ y ∈ ys, Q y) → (ys.mergeSort le).Pairwise fun a b => le a b = true := by
    intro ys hy
    have hs := List.pairwise_mergeSort (le := fun (a b : {w // Q w}) => le a.1 b.1) (by
      intro a b c h1 h2
      simp only [le, Bool.not_eq_true'] at h1 h2 ⊢
      cases h3 : ltW c.1 a.1 with
      | false => rfl
      | true =>
        by_cases hab : a.1 = b.1
        · rw [hab] at h3; rw [h2] at h3; cases h3
        · rcases o.tot a.1 b.1 a.2 b.2 hab with h | h
          · have := o.tr c.1 a.1 b.1 c.2 a.2 b.2 h3 h
            rw [h2] at this; cases this
          · rw [h1] at h; cases h) (by
      intro a b
      simp only [le, Bool.or_eq_true, Bool.not_eq_true']
      cases h3 : ltW b.1 a.1 with
      | false => exact .inl rfl
      | true => exact .inr (o.asym b.2 a.2 h3)) (ys.attachWith Q hy)
    have e : ((ys.attachWith Q hy).mergeSort (fun a b => le a.1 b.1)).map Subtype.val = ys.mergeSort le := by
      rw [List.map_mergeSort (s := le) (fun a _ b _ => rfl), List.attachWith_map_subtype_val]
    rw [← e, List.pairwise_map]
    exact hs
  exact (aux xs h).imp fun {a b} h => by simpa [le] using h
/-- the place of a value in a strictly rising list is the number of those that are less -/
theorem findIdx_count {Q : W → Prop} (o : OrdW Q) : ∀ {u : List W} {x : W}, (∀ y ∈ u, Q y) → u.Pairwise ltP → x ∈ u → u.findIdx? (fun z => eqW z x) = some (u.countP fun z => ltW z x)
  | [], _, _, _, h => by cases h
  | y :: u, x, hu, pu, hx => by
    have qy := hu y (by simp)
    have qx := hu x hx
    have pu' := List.pairwise_cons.mp pu
    rw [List.findIdx?_cons, List.countP_cons]
    by_cases hyx : y = x
    · subst hyx
      rw [(o.eq y y qy qy).mpr rfl, o.irr y qy]
      have : u.countP (fun z => ltW z y) = 0 := by
        rw [List.countP_eq_zero]
        intro z hz
        rw [o.asym qy (hu z (by simp [hz])) (pu'.1 z hz)]
        simp
      simp [this]
    · have hx' : x ∈ u := by
        rcases List.mem_cons.mp hx with h | h
        · exact absurd h.symm hyx
        · exact h
      have e : eqW y x = false := by
        cases h : eqW y x with
        | false => rfl
        | true => exact absurd ((o.eq y x qy qx).mp h) hyx
      have l : ltW y x = true := pu'.1 x hx'
      rw [e, l, findIdx_count o (fun z hz => hu z (by simp [hz])) pu'.2 hx']
      simp
/-- a list made by taking in what is not there yet -/
def uniq : List W → List W → List W
  | u, [] => u
  | u, x :: xs => if u.any (fun z => eqW z x) then uniq u xs else uniq (u ++ [x]) xs
theorem uniq_ok {Q : W → Prop} (o : OrdW Q) : ∀ {xs u : List W}, (∀ x ∈ u, Q x) → (∀ x ∈ xs, Q x) → u.Nodup → (uniq u xs).Nodup ∧ ∀ z, z ∈ uniq u xs ↔ z ∈ u ∨ z ∈ xs
  | [], u, _, _, pu => ⟨pu, by simp [uniq]⟩
  | x :: xs, u, hu, hx, pu => by
    have qx := hx x (by simp)
    have anyx : u.any (fun z => eqW z x) = true ↔ x ∈ u := by
      rw [List.any_eq_true]
      constructor
      · rintro ⟨z, hz, e⟩
        rw [← (o.eq z x (hu z hz) qx).mp e]
        exact hz
      · intro h
        exact ⟨x, h, (o.eq x x qx qx).mpr rfl⟩
    unfold uniq
    split
    · rename_i hc
      have hm := anyx.mp hc
      have ih := uniq_ok o (xs := xs) (u := u) hu (fun z hz => hx z (by simp [hz])) pu
      refine ⟨ih.1, fun z => ?_⟩
      rw [ih.2 z]
      constructor
      · rintro (h | h)
        · exact .inl h
        · exact .inr (by simp [h])
      · rintro (h | h)
        · exact .inl h
        · rcases List.mem_cons.mp h with h | h
          · rw [h]; exact .inl hm
          · exact .inr h
    · rename_i hc
      have hn : x ∉ u := fun z => hc (anyx.mpr z)
      have ih := uniq_ok o (xs := xs) (u := u ++ [x]) (by
          intro z hz
          rcases List.mem_append.mp hz with h | h
          · exact hu z h
          · simp at h; rw [h]; exact qx) (fun z hz => hx z (by simp [hz])) (by
          rw [List.nodup_append]
          exact ⟨pu, by simp, fun a ha b hb => by simp at hb; rw [hb]; exact fun z => hn (z ▸ ha)⟩)
      refine ⟨ih.1, fun z => ?_⟩
      rw [ih.2 z]
      simp [or_assoc]
theorem rank_eq {Q : W → Prop} (o : OrdW Q) {xs : List W} (h : ∀ x ∈ xs, Q x) {x : W} (hx : x ∈ xs) :
    (dedup [] (sortW xs)).findIdx? (fun z => eqW z x) = some ((uniq [] xs).countP fun z => ltW z x) := by
  have h1 := dedup_ok o (xs := sortW xs) (u := []) (by simp) (fun z hz => h z (sortW_mem.mp hz)) List.Pairwise.nil (sortW_pw o h) (by simp)
  have h2 := uniq_ok o (xs := xs) (u := []) (by simp) h List.nodup_nil
  have q1 : ∀ z ∈ dedup [] (sortW xs), Q z := fun z hz => by
    rcases (h1.2 z).mp hz with hz | hz
    · cases hz
    · exact h z (sortW_mem.mp hz)
  rw [findIdx_count o q1 h1.1 ((h1.2 x).mpr (.inr (sortW_mem.mpr hx)))]
  congr 1
  apply List.Perm.countP_eq
  rw [List.perm_ext_iff_of_nodup _ h2.1]
  · intro z
    rw [h1.2 z, h2.2 z, sortW_mem]
  · exact h1.1.imp_of_mem fun {a b} ha hb hab => by
      intro z
      subst z
      have := o.irr a (q1 a ha)
      unfold ltP at hab
      rw [hab] at this
      cases this
end Tw

/-! Tw, part S: more about running. -/
namespace Tw
mutual
theorem sub_id {g : Nat → Option W} : ∀ {w : W}, rfree w = true → sub false g w = some w
  | .non, _ => rfl
  | .bl _, _ => rfl
  | .int _, _ => rfl
  | .str _, _ => rfl
  | .exn _, _ => rfl
  | .klst _, _ => by simp [sub]
  | .ref _, h => by simp [rfree] at h
  | .tup xs, h => by
    simp only [rfree] at h
    simp [sub, subL_id h]
  | .lst xs, h => by
    simp only [rfree] at h
    simp [sub, subL_id h]
  | .dic t ks vs, h => by
    simp only [rfree, Bool.and_eq_true] at h
    simp [sub, subL_id h.1, subL_id h.2]
  | .rcd c xs, h => by
    simp only [rfree] at h
    simp [sub, subL_id h]
theorem subL_id {g : Nat → Option W} : ∀ {ws : List W}, rfreeL ws = true → subL false g ws = some ws
  | [], _ => rfl
  | w :: ws, h => by
    simp only [rfreeL, Bool.and_eq_true] at h
    simp [subL, sub_id h.1, subL_id h.2]
end
theorem vw_id {S : Sto} {w : W} (h : rfree w = true) : vw S w = some w := sub_id h
theorem vws_id {S : Sto} {ws : List W} (h : rfreeL ws = true) : vws S ws = some ws := subL_id h
theorem rfreeL_iff : ∀ {ws : List W}, rfreeL ws = true ↔ ∀ w ∈ ws, rfree w = true
  | [] => by simp [rfreeL]
  | w :: ws => by simp [rfreeL, rfreeL_iff (ws := ws)]
theorem datL_iff {d : Nat} : ∀ {ws : List W}, datL d ws = true ↔ ∀ w ∈ ws, datW d w = true
  | [] => by simp [datL]
  | w :: ws => by simp [datL, datL_iff (ws := ws)]
theorem rfree_int (ns : List Int) : rfreeL (ns.map W.int) = true := by
  rw [rfreeL_iff]
  intro w hw
  obtain ⟨i, _, rfl⟩ := List.mem_map.mp hw
  rfl
theorem dat_int (d : Nat) (ns : List Int) : datL d (ns.map W.int) = true := by
  rw [datL_iff]
  intro w hw
  obtain ⟨i, _, rfl⟩ := List.mem_map.mp hw
  cases d <;> rfl
theorem eqL_int : ∀ (xs ys : List Int), eqL (xs.map W.int) (ys.map W.int) = (xs == ys)
  | [], [] => rfl
  | [], _ :: _ => rfl
  | _ :: _, [] => rfl
  | x :: xs, y :: ys => by
    simp only [List.map_cons, eqL, eqW, eqL_int xs ys]
    rfl
/-- deeper data is data -/
theorem call_pure {cf : CallF} {f : Nat} {ws : List W} {S S' : Sto} {w w' : W} (hr : rfreeL ws = true) (h : cf f ws [] = .ok w S') (hv : vw S' w = some w') : callSem cf .pure f ws S = .ok w' S := by
  simp [callSem, vws_id hr, h, hr, hv, ofO]
/-- of arguments that hold cells -/
theorem call_pureB {cf : CallF} {f : Nat} {ws us : List W} {S S' : Sto} {w w' : W} (hr : rfreeL ws = false) (hu : vws S ws = some us) (h : cf f us [] = .ok w S') (hv : vwB S' w = some w') : callSem cf .pure f ws S = .ok w' S := by
  simp [callSem, hu, h, hr, hv, ofO]
theorem call_adopt {cf : CallF} {f m : Nat} {ws xs ys : List W} {S S' : Sto} (hr : rfreeL ws = true) (h : cf f ws [] = .ok (.ref m) S') (hS : S'[m]? = some (.lst xs)) (hv : vws (S'.set m .dead) xs = some ys) : callSem cf .adopt f ws S = .ok (.ref S.length) (S ++ [.lst ys]) := by
  simp [callSem, vws_id hr, h, hr, hS, hv]
theorem call_adoptB {cf : CallF} {f m : Nat} {ws us xs ys : List W} {S S' : Sto} (hr : rfreeL ws = false) (hu : vws S ws = some us) (h : cf f us [] = .ok (.ref m) S') (hS : S'[m]? = some (.lst xs)) (hv : subL true (lev true (S'.set m .dead) 3) xs = some ys) :
    callSem cf .adopt f ws S = .ok (.ref S.length) (S ++ [.lst ys]) := by
  simp [callSem, hu, h, hr, hS, hv]
theorem set_last {S : Sto} {o o' : Ob} : (S ++ [o]).set S.length o' = S ++ [o'] := by simp
theorem get_last {S : Sto} {o : Ob} : (S ++ [o])[S.length]? = some o := by simp

/-! ### steps -/
section
variable {cf : CallF} {ρ : Env} {S : Sto} {L : Nat}
@[simp] theorem s_var {i : Nat} : ev cf (.var i) ρ S = match ρ[i]? with
  | some (some w) => .ok w S
  | _ => .bad := by rw [ev] <;> rfl
@[simp] theorem s_con {w : W} : ev cf (.con w) ρ S = .ok w S := by rw [ev]
@[simp] theorem s_op {o : Op} {as : List E} : ev cf (.op o as) ρ S = (evs cf as ρ S).bind fun ws S' => ofO (opSem o ws S') S' := by rw [ev]
@[simp] theorem s_mth {t : MTy} {o : Op} {a : E} {as : List E} : ev cf (.mth t o a as) ρ S = (ev cf a ρ S).bind fun w S1 => if tyOk t w S1 then (evs cf as ρ S1).bind fun ws S2 => ofO (opSem o (w :: ws) S2) S2 else .bad := by rw [ev]
@[simp] theorem s_eff {o : Eff} {a : E} {as : List E} : ev cf (.eff o a as) ρ S = (ev cf a ρ S).bind fun w S1 => if tyOk .list w S1 then (evs cf as ρ S1).bind fun ws S2 => match effSem o (w :: ws) S2 with
    | some (w', S3) => .ok w' S3
    | none => .bad
    else .bad := by rw [ev] <;> rfl
@[simp] theorem s_and {as : List E} : ev cf (.and as) ρ S = evAnd cf as ρ S := by rw [ev]
@[simp] theorem s_or {as : List E} : ev cf (.or as) ρ S = evOr cf as ρ S := by rw [ev]
@[simp] theorem s_not {a : E} : ev cf (.not a) ρ S = (ev cf a ρ S).bind fun w S' => match w with
    | .bl b => .ok (.bl (!b)) S'
    | _ => .bad := by rw [ev] <;> rfl
@[simp] theorem s_ife {c a b : E} : ev cf (.ife c a b) ρ S = (ev cf c ρ S).bind fun w S' => match w with
    | .bl true => ev cf a ρ S'
    | .bl false => ev cf b ρ S'
    | _ => .bad := by rw [ev] <;> rfl
@[simp] theorem s_chain {o1 o2 : Op} {a b c : E} : ev cf (.chain o1 o2 a b c) ρ S = (ev cf a ρ S).bind fun x S1 => (ev cf b ρ S1).bind fun y S2 => match opSem o1 [x, y] S2 with
    | some (.bl true) => (ev cf c ρ S2).bind fun z S3 => ofO (opSem o2 [y, z] S3) S3
    | some (.bl false) => .ok (.bl false) S2
    | _ => .bad := by rw [ev] <;> rfl
@[simp] theorem s_call {m : Md} {f : Nat} {as : List E} : ev cf (.call m f as) ρ S = (evs cf as ρ S).bind fun ws S1 => callSem cf m f ws S1 := by rw [ev]
@[simp] theorem s_mut {a : E} : ev cf (.mut a) ρ S = (ev cf a ρ S).bind fun w S1 => match w with
    | .lst xs => .ok (.ref S1.length) (S1 ++ [.lst xs])
    | .dic t ks vs => .ok (.ref S1.length) (S1 ++ [.dic t ks vs])
    | _ => .bad := by rw [ev] <;> rfl
@[simp] theorem s_toI {a : E} : ev cf (.toI a) ρ S = (ev cf a ρ S).bind fun w S1 => match w with
    | .int i => .ok (.int i) S1
    | _ => .bad := by rw [ev] <;> rfl
@[simp] theorem s_evs0 : evs cf [] ρ S = .ok [] S := by rw [evs]
@[simp] theorem s_evs1 {a : E} {as : List E} : evs cf (a :: as) ρ S = (ev cf a ρ S).bind fun w S1 => (evs cf as ρ S1).bind fun ws S2 => .ok (w :: ws) S2 := by rw [evs]
@[simp] theorem s_and1 {a : E} : evAnd cf [a] ρ S = (ev cf a ρ S).bind fun w S1 => match w with
    | .bl b => .ok (.bl b) S1
    | _ => .bad := by
  rw [evAnd] <;> rfl
@[simp] theorem s_and2 {a b : E} {as : List E} : evAnd cf (a :: b :: as) ρ S = (ev cf a ρ S).bind fun w S1 => match w with
    | .bl true => evAnd cf (b :: as) ρ S1
    | .bl false => .ok (.bl false) S1
    | _ => .bad := by
  rw [evAnd] <;> first | rfl | simp
@[simp] theorem s_or1 {a : E} : evOr cf [a] ρ S = (ev cf a ρ S).bind fun w S1 => match w with
    | .bl b => .ok (.bl b) S1
    | _ => .bad := by
  rw [evOr] <;> rfl
@[simp] theorem s_or2 {a b : E} {as : List E} : evOr cf (a :: b :: as) ρ S = (ev cf a ρ S).bind fun w S1 => match w with
    | .bl true => .ok (.bl true) S1
    | .bl false => evOr cf (b :: as) ρ S1
    | _ => .bad := by
  rw [evOr] <;> first | rfl | simp
@[simp] theorem s_all0 : evAll cf [] ρ S = .ok (.bl true) S := by rw [evAll]
@[simp] theorem s_all1 {a : E} {as : List E} : evAll cf (a :: as) ρ S = ev cf a ρ S := by rw [evAll]
@[simp] theorem s_bind {α β : Type} {a : α} {f : α → Sto → Rs β} : (Rs.ok a S).bind f = f a S := rfl
@[simp] theorem s_sr {α : Type} {a : α} {f : α → Sto → SR} : (Rs.ok a S).sr f = f a S := rfl
@[simp] theorem s_some {α : Type} {a : α} : ofO (some a) S = .ok a S := rfl
@[simp] theorem s_seq {f : Env → Sto → SR} : (SR.next ρ S).seq f = f ρ S := rfl
@[simp] theorem s_seqr {f : Env → Sto → SR} {w : W} : (SR.ret w S).seq f = .ret w S := rfl
@[simp] theorem s_seqc {f : Env → Sto → SR} : (SR.cont ρ S).seq f = .cont ρ S := rfl
@[simp] theorem s_seqb {f : Env → Sto → SR} : (SR.brk ρ S).seq f = .brk ρ S := rfl
@[simp] theorem s_seqe {f : Env → Sto → SR} {c : Nat} : (SR.ex c S).seq f = .ex c S := rfl
@[simp] theorem s_execs0 : execs cf L [] ρ S = .next ρ S := by rw [execs]
@[simp] theorem s_execs1 {m : Stm} {ms : List Stm} : execs cf L (m :: ms) ρ S = (exec cf L m ρ S).seq fun ρ1 S1 => execs cf L ms ρ1 S1 := by rw [execs]
@[simp] theorem s_expr {e : E} : exec cf L (.expr e) ρ S = (ev cf e ρ S).sr fun _ S1 => .next ρ S1 := by rw [exec]
@[simp] theorem s_asg {t : Tg} {e : E} : exec cf L (.asg t e) ρ S = (ev cf e ρ S).sr fun w S1 => match bindT t w ρ with
    | some ρ' => .next ρ' S1
    | none => .bad := by rw [exec] <;> rfl
@[simp] theorem s_ite {c : E} {a b : List Stm} : exec cf L (.ite c a b) ρ S = (ev cf c ρ S).sr fun w S1 => match w with
    | .bl true => execs cf L a ρ S1
    | .bl false => execs cf L b ρ S1
    | _ => .bad := by rw [exec] <;> rfl
@[simp] theorem s_ret {e : E} : exec cf L (.ret e) ρ S = (ev cf e ρ S).sr fun w S1 => .ret w S1 := by rw [exec]
@[simp] theorem s_pass : exec cf L .pass ρ S = .next ρ S := by rw [exec]
@[simp] theorem s_contS : exec cf L .cont ρ S = .cont ρ S := by rw [exec]
@[simp] theorem s_brkS : exec cf L .brk ρ S = .brk ρ S := by rw [exec]
@[simp] theorem s_aug {i : Nat} {o : Op} {e : E} : exec cf L (.aug i o e) ρ S = match ρ[i]? with
    | some (some x) => (ev cf e ρ S).sr fun y S1 => match augSem o x y with
      | some z => .next (ρ.set i (some z)) S1
      | none => .bad
    | _ => .bad := by rw [exec] <;> rfl
@[simp] theorem s_one {i : Nat} {x : W} : bindT (.one i) x ρ = some (ρ.set i (some x)) := rfl
theorem s_frzL {i n : Nat} {xs : List W} (h : ρ[i]? = some (some (.ref n))) (hS : S[n]? = some (.lst xs)) (hr : rfreeL xs = true) : exec cf L (.frz i) ρ S = .next (ρ.set i (some (.lst xs))) (S.set n .dead) := by
  rw [exec]
  simp [h, hS, hr]
theorem s_for {t : Tg} {k : ItK} {srcs : List E} {body : List Stm} {ws xs : List W} {S1 : Sto} (h : evs cf srcs ρ S = .ok ws S1) (hx : itVals k ws = some xs) : exec cf L (.forIn t k srcs body) ρ S = forL t (fun ρ' S' => execs cf L body ρ' S') xs ρ S1 := by
  rw [exec, h]
  simp [hx]
theorem s_comp {elt : E} {t : Tg} {k : ItK} {srcs cond : List E} {own : List Nat} {ws xs ys : List W} {S1 S2 : Sto} (h : evs cf srcs ρ S = .ok ws S1) (hx : itVals k ws = some xs) (hl : xs.length < LIM)
    (hc : compL (fun ρ' S' => ev cf elt ρ' S') (fun ρ' S' => evAll cf cond ρ' S') t (wipe ρ own) xs S1 = .ok ys S2) : ev cf (.comp elt t k srcs cond own) ρ S = .ok (.lst ys) S2 := by
  rw [ev, h]
  simp only [s_bind, hx]
  rw [if_pos hl, hc]
  rfl
end

/-! ### operations, one by one -/
section
variable {S : Sto} {x y : W} {a b : Int}
@[simp] theorem o_add : opSem .add [x, y] S = opAdd S x y := by simp [opSem]
@[simp] theorem o_sub : opSem .sub [.int a, .int b] S = some (.int (a - b)) := by simp [opSem]
@[simp] theorem o_mul : opSem .mul [x, y] S = opMul S x y := by simp [opSem]
@[simp] theorem o_fdiv : opSem .fdiv [.int a, .int b] S = if CDiv b then some (.int (a / b)) else none := by simp [opSem]
@[simp] theorem o_mod : opSem .mod [.int a, .int b] S = if 0 < b then some (.int (a % b)) else none := by simp [opSem]
@[simp] theorem o_pow : opSem .pow [.int a, .int b] S = if CPow a b then some (.int (a ^ b.toNat)) else none := by simp [opSem]
@[simp] theorem o_neg : opSem .neg [.int a] S = some (.int (-a)) := by simp [opSem]
@[simp] theorem o_eq : opSem .eq [x, y] S = (eqOp S x y).map .bl := by simp [opSem]
@[simp] theorem o_ne : opSem .ne [x, y] S = (eqOp S x y).map fun b => .bl (!b) := by simp [opSem]
@[simp] theorem o_le : opSem .le [.int a, .int b] S = some (.bl (decide (a ≤ b))) := by simp [opSem]
@[simp] theorem o_gt : opSem .gt [.int a, .int b] S = some (.bl (decide (b < a))) := by simp [opSem]
@[simp] theorem o_ge : opSem .ge [.int a, .int b] S = some (.bl (decide (b ≤ a))) := by simp [opSem]
@[simp] theorem o_lt : opSem .lt [x, y] S = (ltSem S x y).map .bl := by simp [opSem]
@[simp] theorem o_isin : opSem .isin [x, y] S = (inOp S x y).map .bl := by simp [opSem]
@[simp] theorem o_notin : opSem .notin [x, y] S = (inOp S x y).map fun b => .bl (!b) := by simp [opSem]
@[simp] theorem o_isnone : opSem .isnone [x] S = some (.bl (!notNone x)) := by simp [opSem]
@[simp] theorem o_notnone : opSem .notnone [x] S = some (.bl (notNone x)) := by simp [opSem]
@[simp] theorem o_idx : opSem .idx [x, y] S = idxSem S x y := by simp [opSem]
@[simp] theorem o_slice {lo hi : Bool} {r : List W} : opSem (.slice lo hi) (x :: r) S = (partsOf lo hi r).bind fun b => sliceSem S x b.1 b.2 := by simp [opSem]
@[simp] theorem o_len : opSem .len [x] S = (lenSem S x).map .int := by simp [opSem]
@[simp] theorem o_list : opSem .list [x] S = (seqOf S x).map .lst := by simp [opSem]
@[simp] theorem o_tuple : opSem .tuple [x] S = (seqOf S x).map .tup := by simp [opSem]
@[simp] theorem o_sorted : opSem .sorted [x] S = (sortedSem S x).map .lst := by simp [opSem]
@[simp] theorem o_all : opSem .all [x] S = (lstOf S x).bind fun xs => (allBl xs).map .bl := by simp [opSem]
@[simp] theorem o_min : opSem .min [.int a, .int b] S = some (.int (if b < a then b else a)) := by simp [opSem]
@[simp] theorem o_max : opSem .max [.int a, .int b] S = some (.int (if a < b then b else a)) := by simp [opSem]
@[simp] theorem o_tupD {ws : List W} : opSem .tupD ws S = if ws.length < LIM then some (.tup ws) else none := by simp [opSem]
@[simp] theorem o_lstD {ws : List W} : opSem .lstD ws S = if ws.length < LIM then some (.lst ws) else none := by simp [opSem]
@[simp] theorem o_isi {t : IsT} : opSem (.isi t) [x] S = (isiOp t x S).map .bl := by simp [opSem]
@[simp] theorem o_index : opSem .mIndex [x, y] S = (indexSem S x y).map fun (j : Nat) => W.int (j : Int) := by simp [opSem]
@[simp] theorem o_count : opSem .mCount [x, y] S = (countSem S x y).map fun (j : Nat) => W.int (j : Int) := by simp [opSem]
@[simp] theorem o_addI : opAdd S (.int a) (.int b) = some (.int (a + b)) := rfl
@[simp] theorem o_mulI : opMul S (.int a) (.int b) = if CMul a b then some (.int (a * b)) else none := rfl
@[simp] theorem o_eqI : eqOp S (.int a) (.int b) = some (a == b) := rfl
@[simp] theorem o_ltI : ltSem S (.int a) (.int b) = some (decide (a < b)) := rfl
@[simp] theorem p_ff : partsOf false false [] = some (none, none) := rfl
@[simp] theorem p_tf : partsOf true false [.int a] = some (some a, none) := rfl
@[simp] theorem p_ft : partsOf false true [.int a] = some (none, some a) := rfl
@[simp] theorem p_tt : partsOf true true [.int a, .int b] = some (some a, some b) := rfl
end

theorem eqOp_id {S : Sto} {x y : W} (hx : rfree x = true) (hy : rfree y = true) (dx : datW 30 x = true) (dy : datW 30 y = true) : eqOp S x y = some (eqW x y) := by
  unfold eqOp
  split
  · simp [eqW]
  · simp [eqW]
  · simp [eqW]
  · simp [vw_id hx, vw_id hy, dx, dy]
theorem ltSem_id {S : Sto} {x y : W} (hx : rfree x = true) (hy : rfree y = true) (dx : datW 30 x = true) (dy : datW 30 y = true) (a : alikeW x y = true) (nn : notNone x = true) : ltSem S x y = some (ltW x y) := by
  unfold ltSem
  split
  · simp [ltW]
  · simp [ltOp, vw_id hx, vw_id hy, dx, dy, a, nn]
theorem sortedSem_id {Q : W → Prop} (o : OrdW Q) {S : Sto} {xs : List W} (h : ∀ x ∈ xs, Q x) (hl : xs.length < LIM) : sortedSem S (.lst xs) = some (sortW xs) := by
  have h1 : datL 30 xs = true := datL_iff.mpr fun w hw => o.dat w (h w hw) 29
  have h2 : sortOk xs = true := by
    unfold sortOk
    simp only [Bool.and_eq_true, Bool.or_eq_true, List.all_eq_true]
    refine ⟨fun x hx y hy => o.ali x y (h x hx) (h y hy), ?_⟩
    rcases o.one with q | q
    · exact .inl fun x hx => q x (h x hx)
    · exact .inr fun x hx => by simpa using q x (h x hx)
  simp [sortedSem, lstOf, h1, h2, hl]
theorem vw_cell {S : Sto} {n : Nat} {xs : List W} (hS : S[n]? = some (.lst xs)) (hr : rfreeL xs = true) : vw S (.ref n) = some (.lst xs) := by
  simp [vw, sub, lev, cellW, hS, subL_id hr]
theorem vw_non {S : Sto} : vw S .non = some .non := rfl
theorem vwB_bl {S : Sto} {b : Bool} : vwB S (.bl b) = some (.bl b) := rfl
theorem subB_int {g : Nat → Option W} : ∀ ns : List Int, subL true g (ns.map W.int) = some (ns.map W.int)
  | [] => rfl
  | n :: ns => by simp [subL, sub, subB_int ns]
theorem dat_up {Q : W → Prop} (o : OrdW Q) {xs : List W} (h : ∀ x ∈ xs, Q x) (d : Nat) : datL (d + 1) xs = true := datL_iff.mpr fun w hw => o.dat w (h w hw) d
theorem rf_up {Q : W → Prop} (o : OrdW Q) {xs : List W} (h : ∀ x ∈ xs, Q x) : rfreeL xs = true := rfreeL_iff.mpr fun w hw => o.rf w (h w hw)

/-- a walk with an invariant, the whole list in sight -/
theorem forL_at {t : Tg} {body : Env → Sto → SR} (I : List W → Env → Sto → Prop) {all : List W} : ∀ {xs done : List W} {ρ : Env} {S : Sto}, all = done ++ xs → I done ρ S →
    (∀ d x r ρ S, all = d ++ x :: r → I d ρ S → ∃ ρ' ρ2 S2, bindT t x ρ = some ρ' ∧ (body ρ' S = .next ρ2 S2 ∨ body ρ' S = .cont ρ2 S2) ∧ I (d ++ [x]) ρ2 S2) → ∃ ρ2 S2, forL t body xs ρ S = .next ρ2 S2 ∧ I all ρ2 S2
  | [], done, ρ, S, e, h, _ => ⟨ρ, S, by simp [forL], by rw [e]; simpa using h⟩
  | x :: xs, done, ρ, S, e, h, st => by
    obtain ⟨ρ', ρ2, S2, h1, h2, h3⟩ := st done x xs ρ S e h
    obtain ⟨ρ3, S3, h4, h5⟩ := forL_at I (xs := xs) (done := done ++ [x]) (by rw [e]; simp) h3 st
    refine ⟨ρ3, S3, ?_, h5⟩
    simp only [forL, h1]
    rcases h2 with h2 | h2 <;> rw [h2] <;> exact h4
theorem ixN_neg1 {n : Nat} (h : 0 < n) : ixN n (-1) = some (n - 1) := by
  unfold ixN
  rw [if_neg (by omega), if_pos (by omega)]
  congr 1
  omega
theorem ixN_nat {n j : Nat} (h : j < n) : ixN n (j : Int) = some j := by
  unfold ixN
  rw [if_pos (by omega), if_pos (by omega)]
  congr 1
end Tw

namespace TwL
open Tw PySem PySem.Spec PyProof.Rows L2
def topS (i : Nat) : PySem.Stmt := PySem.Challenge.pw_tieword_k06_ranked.main.body.getD i (.Pass ⟨0, 0, 0, 0⟩)
def f0 : List Stm := [
  .asg (.one 1) (.mut (.op .lstD [])),
  .forIn (.one 2) .list [(.op .sorted [(.var 0)])] [
    .ite (.or [(.op .eq [(.var 1), (.op .lstD [])]), (.op .ne [(.op .idx [(.var 1), (.op .neg [(.con (.int 1))])]), (.var 2)])]) [
      .expr (.eff .append (.var 1) [(.var 2)])] []],
  .frz 1,
  .ret (.mut (.comp (.mth .list .mIndex (.var 1) [(.var 2)]) (.one 2) .list [(.var 0)] [] [2]))]
def d0 : DefI := ⟨"ranked", ["keys", "unlike", "key"], 1, topS 1, f0⟩
def f1 : List Stm := [
  .ite (.op .lt [(.var 1), (.op .len [(.var 0)])]) [
    .ret (.op .idx [(.var 0), (.var 1)])] [],
  .ret (.con (.int 0))]
def d1 : DefI := ⟨"_law_at", ["_law_script", "_law_k"], 2, topS 3, f1⟩
def f2 : List Stm := [
  .ret (.op .mod [(.op .mul [(.op .add [(.op .mod [(.var 0), (.con (.int 2147483647))]), (.con (.int 1))]), (.var 1)]), (.con (.int 2147483647))])]
def d2 : DefI := ⟨"_law_spread", ["_law_cell", "_law_factor"], 2, topS 4, f2⟩
def f3 : List Stm := [
  .ret (.and [(.op (.isi .int) [(.var 0)]), (.not (.op (.isi .bool) [(.var 0)]))])]
def d3 : DefI := ⟨"_law_whole", ["_law_found"], 1, topS 5, f3⟩
def f4 : List Stm := [
  .ite (.or [(.not (.op (.isi .list) [(.var 0)])), (.op .ne [(.op .len [(.var 0)]), (.op .len [(.var 1)])])]) [
    .ret (.con (.bl false))] [],
  .ret (.and [(.op .all [(.comp (.call .pure 3 [(.var 2)]) (.one 2) .list [(.var 0)] [] [2])]), (.op .eq [(.var 0), (.var 1)])])]
def d4 : DefI := ⟨"_law_numbers", ["_law_found", "_law_due", "_law_number"], 2, topS 6, f4⟩
def f5 : List Stm := [
  .asg (.one 2) (.op .sub [(.op .mod [(.var 0), (.op .pow [(.con (.int 10)), (.con (.int 30))])]), (.op .pow [(.con (.int 10)), (.con (.int 29))])]),
  .ite (.op .eq [(.op .mod [(.op .fdiv [(.var 1), (.con (.int 3))]), (.con (.int 2))]), (.con (.int 0))]) [
    .asg (.one 2) (.op .sub [(.op .mod [(.op .fdiv [(.call .pure 2 [(.var 0), (.con (.int 1530421987))]), (.con (.int 5))]), (.con (.int 7))]), (.con (.int 3))])] [],
  .asg (.one 3) (.op .add [(.op .idx [(.con (.str [97, 98, 99])), (.op .mod [(.var 2), (.con (.int 3))])]), (.op (.slice false true) [(.con (.str [97, 98, 99, 97])), (.toI (.op .mod [(.op .fdiv [(.var 2), (.con (.int 3))]), (.con (.int 3))]))])]),
  .ite (.op .eq [(.op .mod [(.var 1), (.con (.int 3))]), (.con (.int 0))]) [
    .ret (.var 2)] [],
  .ite (.op .eq [(.op .mod [(.var 1), (.con (.int 3))]), (.con (.int 1))]) [
    .ret (.var 3)] [],
  .ret (.op .tupD [(.op .mod [(.var 2), (.con (.int 4))]), (.var 3)])]
def d5 : DefI := ⟨"_law_key", ["_law_cell", "_law_sort", "_law_number", "_law_word"], 2, topS 7, f5⟩
def f6 : List Stm := [
  .asg (.one 1) (.op .fdiv [(.call .pure 2 [(.call .pure 1 [(.var 0), (.con (.int 0))]), (.con (.int 1873046521))]), (.con (.int 3))]),
  .asg (.one 2) (.comp (.call .pure 5 [(.var 8), (.var 1)]) (.one 8) .list [(.op .add [(.op .lstD [(.con (.int 5))]), (.op (.slice false true) [(.var 0), (.toI (.con (.int 80)))])])] [] [8]),
  .asg (.one 3) (.mut (.op .lstD [])),
  .forIn (.one 4) .list [(.var 2)] [
    .ite (.op .notin [(.var 4), (.var 3)]) [
      .expr (.eff .append (.var 3) [(.var 4)])] []],
  .frz 3,
  .asg (.one 5) (.comp (.op .len [(.comp (.var 9) (.one 9) .list [(.var 3)] [(.op .lt [(.var 9), (.var 4)])] [9])]) (.one 4) .list [(.var 2)] [] [4]),
  .asg (.one 6) (.mut (.op .list [(.var 2)])),
  .asg (.one 7) (.call .adopt 0 [(.var 6)]),
  .ite (.op .ne [(.var 6), (.var 2)]) [
    .ret (.con (.bl false))] [],
  .expr (.eff .append (.var 6) [(.op .idx [(.var 2), (.con (.int 0))])]),
  .ite (.not (.call .pure 4 [(.var 7), (.var 5)])) [
    .ret (.con (.bl false))] [],
  .expr (.eff .clear (.var 7) []),
  .ret (.and [(.call .pure 4 [(.call .pure 0 [(.op .list [(.var 2)])]), (.var 5)]), (.op .eq [(.call .pure 0 [(.op .lstD [])]), (.op .lstD [])])])]
def d6 : DefI := ⟨"law", ["_law_script", "_law_sort", "_law_keys", "_law_unlike", "_law_key_here", "_law_due", "_law_handed", "_law_found", "_law_cell", "_law_other"], 1, topS 8, f6⟩
def DD : List DefI := [d0, d1, d2, d3, d4, d5, d6]
def FN : List (PySem.Str × Nat × Nat) := [("ranked", 0, 1), ("_law_at", 1, 2), ("_law_spread", 2, 2), ("_law_whole", 3, 1), ("_law_numbers", 4, 2), ("_law_key", 5, 2), ("law", 6, 1)]
def CS : List (PySem.Str × W) := []
theorem dd_ok : DD.all (defC FN CS) = true := by decide +kernel
theorem fn_ok : fnmC FN DD = true := by decide +kernel
theorem all_mk {P : PySem.Program} {w : PySem.World} {K : PySem.W.Frag} {h : PySem.Heap} {mg : PySem.Str → Option PySem.Value} {fa : PySem.Addr} (X : K.In h) (G : h.Ns PySem.mainGlobals mg) (hfa : mg "law" = some (.ref fa))
    {g0 g1 g2 g3 g4 g5 g6 : PySem.Addr} {od0 an0 od1 an1 od2 an2 od3 an3 od4 an4 od5 an5 od6 an6 : Option PySem.Addr} {sl0 sl1 sl2 sl3 sl4 sl5 sl6 : Array (Option PySem.Value)} {oc0 kV0 dc0 pm0 cd0 ct0 oc1 kV1 dc1 pm1 cd1 ct1 oc2 kV2 dc2 pm2 cd2 ct2 oc3 kV3 dc3 pm3 cd3 ct3 oc4 kV4 dc4 pm4 cd4 ct4 oc5 kV5 dc5 pm5 cd5 ct5 oc6 kV6 dc6 pm6 cd6 ct6 : PySem.Value}
    (a0 : PySem.W.nsIn K PySem.mainGlobals "ranked" = some (some (.ref g0))) (l0 : K.lookup g0 = some ⟨oc0, od0, .func (PySem.W.fnOf "ranked" "ranked" (L2.defArgs (topS 1)) (L2.defBody (topS 1)) (L2.defScope (topS 1)) .none kV0 dc0 pm0 an0 cd0 ct0), sl0⟩) (c0 : PySem.W.codeIn K cd0 "ranked" = true) (k0 : PySem.W.keepIn K (.ref g0) = true)
    (a1 : PySem.W.nsIn K PySem.mainGlobals "_law_at" = some (some (.ref g1))) (l1 : K.lookup g1 = some ⟨oc1, od1, .func (PySem.W.fnOf "_law_at" "_law_at" (L2.defArgs (topS 3)) (L2.defBody (topS 3)) (L2.defScope (topS 3)) .none kV1 dc1 pm1 an1 cd1 ct1), sl1⟩) (c1 : PySem.W.codeIn K cd1 "_law_at" = true) (k1 : PySem.W.keepIn K (.ref g1) = true)
    (a2 : PySem.W.nsIn K PySem.mainGlobals "_law_spread" = some (some (.ref g2))) (l2 : K.lookup g2 = some ⟨oc2, od2, .func (PySem.W.fnOf "_law_spread" "_law_spread" (L2.defArgs (topS 4)) (L2.defBody (topS 4)) (L2.defScope (topS 4)) .none kV2 dc2 pm2 an2 cd2 ct2), sl2⟩) (c2 : PySem.W.codeIn K cd2 "_law_spread" = true) (k2 : PySem.W.keepIn K (.ref g2) = true)
    (a3 : PySem.W.nsIn K PySem.mainGlobals "_law_whole" = some (some (.ref g3))) (l3 : K.lookup g3 = some ⟨oc3, od3, .func (PySem.W.fnOf "_law_whole" "_law_whole" (L2.defArgs (topS 5)) (L2.defBody (topS 5)) (L2.defScope (topS 5)) .none kV3 dc3 pm3 an3 cd3 ct3), sl3⟩) (c3 : PySem.W.codeIn K cd3 "_law_whole" = true) (k3 : PySem.W.keepIn K (.ref g3) = true)
    (a4 : PySem.W.nsIn K PySem.mainGlobals "_law_numbers" = some (some (.ref g4))) (l4 : K.lookup g4 = some ⟨oc4, od4, .func (PySem.W.fnOf "_law_numbers" "_law_numbers" (L2.defArgs (topS 6)) (L2.defBody (topS 6)) (L2.defScope (topS 6)) .none kV4 dc4 pm4 an4 cd4 ct4), sl4⟩) (c4 : PySem.W.codeIn K cd4 "_law_numbers" = true) (k4 : PySem.W.keepIn K (.ref g4) = true)
    (a5 : PySem.W.nsIn K PySem.mainGlobals "_law_key" = some (some (.ref g5))) (l5 : K.lookup g5 = some ⟨oc5, od5, .func (PySem.W.fnOf "_law_key" "_law_key" (L2.defArgs (topS 7)) (L2.defBody (topS 7)) (L2.defScope (topS 7)) .none kV5 dc5 pm5 an5 cd5 ct5), sl5⟩) (c5 : PySem.W.codeIn K cd5 "_law_key" = true) (k5 : PySem.W.keepIn K (.ref g5) = true)
    (a6 : PySem.W.nsIn K PySem.mainGlobals "law" = some (some (.ref g6))) (l6 : K.lookup g6 = some ⟨oc6, od6, .func (PySem.W.fnOf "law" "law" (L2.defArgs (topS 8)) (L2.defBody (topS 8)) (L2.defScope (topS 8)) .none kV6 dc6 pm6 an6 cd6 ct6), sl6⟩) (c6 : PySem.W.codeIn K cd6 "law" = true) (k6 : PySem.W.keepIn K (.ref g6) = true)
    (z0 : PySem.W.nsIn K PySem.mainGlobals "len" = some none)
    (z1 : PySem.W.nsIn K PySem.mainGlobals "list" = some none)
    (z2 : PySem.W.nsIn K PySem.mainGlobals "tuple" = some none)
    (z3 : PySem.W.nsIn K PySem.mainGlobals "sorted" = some none)
    (z4 : PySem.W.nsIn K PySem.mainGlobals "all" = some none)
    (z5 : PySem.W.nsIn K PySem.mainGlobals "int" = some none)
    (z6 : PySem.W.nsIn K PySem.mainGlobals "min" = some none)
    (z7 : PySem.W.nsIn K PySem.mainGlobals "max" = some none)
    (z8 : PySem.W.nsIn K PySem.mainGlobals "range" = some none)
    (z9 : PySem.W.nsIn K PySem.mainGlobals "isinstance" = some none)
    (z10 : PySem.W.nsIn K PySem.mainGlobals "bool" = some none)
    (z11 : PySem.W.nsIn K PySem.mainGlobals "str" = some none)
    (z12 : PySem.W.nsIn K PySem.mainGlobals "enumerate" = some none)
    (z13 : PySem.W.nsIn K PySem.mainGlobals "zip" = some none)
    (Lm lv : Nat) (cad : Nat → PySem.Addr) (fld : Nat → List PySem.Str) : ∃ fd : PySem.FuncData, (∀ (s : PySem.Shared) (v : PySem.Value), BindsTo s fd ⟨[v], []⟩ [("_law_script", v)]) ∧ ∀ base : PySem.Heap, K.In base → base.Ns PySem.mainGlobals mg → L2.FnOk P w K mg base (L2.CX P w) lv fa fd ["_law_script"] (spL cad fld DD Lm lv 6 K) := by
  have F0 := L2.fun_mk (st := topS 1) l0 c0 k0
  have b0 := F0.binds (ps := ["keys"]) fun _ _ _ _ _ _ us hl => match us, hl with | [_], _ => rfl
  have F1 := L2.fun_mk (st := topS 3) l1 c1 k1
  have b1 := F1.binds (ps := ["_law_script", "_law_k"]) fun _ _ _ _ _ _ us hl => match us, hl with | [_, _], _ => rfl
  have F2 := L2.fun_mk (st := topS 4) l2 c2 k2
  have b2 := F2.binds (ps := ["_law_cell", "_law_factor"]) fun _ _ _ _ _ _ us hl => match us, hl with | [_, _], _ => rfl
  have F3 := L2.fun_mk (st := topS 5) l3 c3 k3
  have b3 := F3.binds (ps := ["_law_found"]) fun _ _ _ _ _ _ us hl => match us, hl with | [_], _ => rfl
  have F4 := L2.fun_mk (st := topS 6) l4 c4 k4
  have b4 := F4.binds (ps := ["_law_found", "_law_due"]) fun _ _ _ _ _ _ us hl => match us, hl with | [_, _], _ => rfl
  have F5 := L2.fun_mk (st := topS 7) l5 c5 k5
  have b5 := F5.binds (ps := ["_law_cell", "_law_sort"]) fun _ _ _ _ _ _ us hl => match us, hl with | [_, _], _ => rfl
  have F6 := L2.fun_mk (st := topS 8) l6 c6 k6
  have b6 := F6.binds (ps := ["_law_script"]) fun _ _ _ _ _ _ us hl => match us, hl with | [_], _ => rfl
  have wd : Wd K mg FN CS DD := by
    refine ⟨fun i d hd => ?_, fun x hx => ?_, fun x v hx => ?_⟩
    · match i, hd with
      | 0, hd => cases hd; exact ⟨g0, _, PySem.W.mg_of X G a0, b0, F0⟩
      | 1, hd => cases hd; exact ⟨g1, _, PySem.W.mg_of X G a1, b1, F1⟩
      | 2, hd => cases hd; exact ⟨g2, _, PySem.W.mg_of X G a2, b2, F2⟩
      | 3, hd => cases hd; exact ⟨g3, _, PySem.W.mg_of X G a3, b3, F3⟩
      | 4, hd => cases hd; exact ⟨g4, _, PySem.W.mg_of X G a4, b4, F4⟩
      | 5, hd => cases hd; exact ⟨g5, _, PySem.W.mg_of X G a5, b5, F5⟩
      | 6, hd => cases hd; exact ⟨g6, _, PySem.W.mg_of X G a6, b6, F6⟩
      | i + 7, hd => simp [DD] at hd
    · simp only [bltNames, List.mem_cons, List.not_mem_nil, or_false] at hx
      rcases hx with rfl | rfl | rfl | rfl | rfl | rfl | rfl | rfl | rfl | rfl | rfl | rfl | rfl | rfl
      · exact PySem.W.mg_none_of X G z0
      · exact PySem.W.mg_none_of X G z1
      · exact PySem.W.mg_none_of X G z2
      · exact PySem.W.mg_none_of X G z3
      · exact PySem.W.mg_none_of X G z4
      · exact PySem.W.mg_none_of X G z5
      · exact PySem.W.mg_none_of X G z6
      · exact PySem.W.mg_none_of X G z7
      · exact PySem.W.mg_none_of X G z8
      · exact PySem.W.mg_none_of X G z9
      · exact PySem.W.mg_none_of X G z10
      · exact PySem.W.mg_none_of X G z11
      · exact PySem.W.mg_none_of X G z12
      · exact PySem.W.mg_none_of X G z13
    · simp [CS] at hx
  have e := hfa.symm.trans (PySem.W.mg_of X G a6)
  cases e
  exact ⟨_, fun s v => .of_eq rfl, fun base _ _ => defs_ok (D := DD) (G := ⟨K, cad, fld⟩) rfl wd fn_ok dd_ok Lm lv 6 d6 _ _ rfl F6⟩
end TwL

namespace TwL
open Tw
abbrev LM : Nat := 2000
abbrev R (d : Nat) : CallF := runF (DD.map DefI.fn) LM d
theorem r_at {d : Nat} {ns : List Int} {S : Sto} : R (d + 1) 1 [.klst ns, .int 0] S = .ok (.int (ns.head?.getD 0)) S := by
  rw [show R (d + 1) = runF (DD.map DefI.fn) LM (d + 1) from rfl, runF_succ (x := d1) rfl rfl]
  cases ns with
  | nil => simp [d1, f1, execs, exec, ev, evs, Rs.bind, Rs.sr, SR.seq, opSem, ltSem, lenSem, seqOf, ofO]
  | cons n ns =>
    have : (0 : Int) < (ns.length : Int) + 1 := by omega
    simp [d1, f1, execs, exec, ev, evs, Rs.bind, Rs.sr, SR.seq, opSem, ltSem, lenSem, seqOf, ofO, idxSem, Tw.ixN, this]
def spread (a f : Int) : Int := (a % 2147483647 + 1) * f % 2147483647
theorem spread_rng (a f : Int) : 0 ≤ spread a f ∧ spread a f < 2147483647 := by
  unfold spread
  omega
theorem r_spread {d : Nat} {a f : Int} {S : Sto} (hf : -(2 ^ 64) < f ∧ f < 2 ^ 64) : R (d + 1) 2 [.int a, .int f] S = .ok (.int (spread a f)) S := by
  rw [show R (d + 1) = runF (DD.map DefI.fn) LM (d + 1) from rfl, runF_succ (x := d2) rfl rfl]
  have : CMul (a % 2147483647 + 1) f = true := by
    unfold CMul
    simp only [Bool.or_eq_true, Bool.and_eq_true, decide_eq_true_eq]
    exact .inr hf
  simp [d2, f2, execs, exec, ev, evs, Rs.bind, Rs.sr, SR.seq, opSem, opAdd, opMul, ofO, this, spread]
theorem r_whole {d : Nat} {a : Int} {S : Sto} : R (d + 1) 3 [.int a] S = .ok (.bl true) S := by
  rw [show R (d + 1) = runF (DD.map DefI.fn) LM (d + 1) from rfl, runF_succ (x := d3) rfl rfl]
  simp [d3, f3, execs, exec, ev, evs, evAnd, Rs.bind, Rs.sr, SR.seq, opSem, isiOp, ofO]

theorem r_numbers {d : Nat} {xs ys : List Int} (hx : xs.length < LIM) : R (d + 2) 4 [.lst (xs.map .int), .lst (ys.map .int)] [] = .ok (.bl (xs == ys)) [] := by
  rw [show R (d + 2) = runF (DD.map DefI.fn) LM (d + 1 + 1) from rfl, runF_succ (x := d4) rfl rfl]
  have cl : compL (fun ρ' S' => ev (R (d + 1)) (.call .pure 3 [.var 2]) ρ' S') (fun ρ' S' => evAll (R (d + 1)) [] ρ' S') (.one 2) (Tw.wipe [some (.lst (xs.map .int)), some (.lst (ys.map .int)), none] [2]) (xs.map .int) [] = .ok ((xs.map W.int).map fun _ => .bl true) [] := by
    apply compL_all (fun _ => W.bl true)
    intro x hx
    obtain ⟨i, _, rfl⟩ := List.mem_map.mp hx
    refine ⟨_, rfl, by simp, ?_⟩
    simp [Tw.wipe]
    exact call_pure rfl r_whole rfl
  have ab : allBl ((xs.map W.int).map fun _ => W.bl true) = some true := by
    rw [List.map_map]
    clear hx cl
    induction xs with
    | nil => rfl
    | cons x xs ih => simp only [List.map_cons, Function.comp, allBl]; rw [ih]; rfl

  have ec : ev (R (d + 1)) (.comp (.call .pure 3 [.var 2]) (.one 2) .list [.var 0] [] [2]) [some (.lst (xs.map .int)), some (.lst (ys.map .int)), none] [] = .ok (.lst ((xs.map W.int).map fun _ => .bl true)) [] :=
    s_comp (ws := [.lst (xs.map .int)]) (S1 := []) (by simp) rfl (by simpa using hx) cl
  have ab2 := ab
  rw [List.map_map] at ab2
  by_cases hl : xs.length = ys.length
  · simp [d4, f4, isiOp, lenSem, seqOf, hl, ec, lstOf, ab, ab2, eqOp, vw_id, rfree, rfree_int, datW, dat_int, eqW, eqL_int]
  · have hne : (xs == ys) = false := by
      rw [Bool.eq_false_iff]
      intro z
      exact hl (by rw [eq_of_beq z])
    have hl2 : ((xs.length : Int) == (ys.length : Int)) = false := by
      rw [Bool.eq_false_iff]
      intro z
      exact hl (by have := eq_of_beq z; omega)
    simp [d4, f4, isiOp, lenSem, seqOf, hl2, hne]

/-! ### ranked -/
def rank (xs : List W) (x : W) : Nat := (uniq [] xs).countP fun z => ltW z x
theorem dedup_step (u : List W) (x : W) (xs : List W) : dedup u (x :: xs) = dedup (if lastIs u x = false then u ++ [x] else u) xs := by
  rw [dedup]
  split <;> rfl
theorem dedup_app : ∀ (xs : List W) (u : List W) (x : W), dedup u (xs ++ [x]) = if lastIs (dedup u xs) x = false then dedup u xs ++ [x] else dedup u xs
  | [], u, x => by cases h : lastIs u x <;> simp [dedup, h]
  | y :: ys, u, x => by rw [List.cons_append, dedup_step, dedup_step, dedup_app ys]
theorem dedup_sub : ∀ (xs : List W) (u : List W) (z : W), z ∈ dedup u xs → z ∈ u ∨ z ∈ xs
  | [], u, z, h => .inl h
  | x :: xs, u, z, h => by
    rw [dedup_step] at h
    rcases dedup_sub xs _ z h with h | h
    · split at h
      · rcases List.mem_append.mp h with h | h
        · exact .inl h
        · simp at h; exact .inr (by simp [h])
      · exact .inl h
    · exact .inr (by simp [h])
theorem dedup_len : ∀ (xs : List W) (u : List W), (dedup u xs).length ≤ u.length + xs.length
  | [], u => by simp [dedup]
  | x :: xs, u => by
    rw [dedup_step]
    have := dedup_len xs (if lastIs u x = false then u ++ [x] else u)
    split at this <;> simp at this ⊢ <;> simp_all <;> omega
abbrev bdR (d : Nat) : Tw.Env → Sto → SR := fun ρ' S' => execs (R d) LM [.ite (.or [.op .eq [.var 1, .op .lstD []], .op .ne [.op .idx [.var 1, .op .neg [.con (.int 1)]], .var 2]]) [.expr (.eff .append (.var 1) [.var 2])] []] ρ' S'
theorem r_ranked {Q : W → Prop} (o : OrdW Q) {d : Nat} {xs : List W} (h : ∀ x ∈ xs, Q x) (hl : xs.length < LIM) : R (d + 1) 0 [.lst xs] [] = .ok (.ref 1) [.dead, .lst ((xs.map fun x => (rank xs x : Int)).map .int)] := by
  rw [show R (d + 1) = runF (DD.map DefI.fn) LM (d + 1) from rfl, runF_succ (x := d0) rfl rfl]
  have hs : ∀ x ∈ sortW xs, Q x := fun x hx => h x (sortW_mem.mp hx)
  have hsl : (sortW xs).length = xs.length := by unfold sortW; rw [List.length_mergeSort]
  let u := dedup [] (sortW xs)
  have hu : ∀ z ∈ u, Q z := fun z hz => by
    rcases dedup_sub _ _ z hz with h | h
    · cases h
    · exact hs z h
  have st : ∀ (dn : List W) (x : W) (r : List W) (ρ : Tw.Env) (S : Sto), sortW xs = dn ++ x :: r → ((∃ y, ρ = [some (.lst xs), some (.ref 0), y]) ∧ S = [.lst (dedup [] dn)]) →
      ∃ ρ' ρ2 S2, bindT (.one 2) x ρ = some ρ' ∧ (bdR d ρ' S = .next ρ2 S2 ∨ bdR d ρ' S = .cont ρ2 S2) ∧ ((∃ y, ρ2 = [some (.lst xs), some (.ref 0), y]) ∧ S2 = [.lst (dedup [] (dn ++ [x]))]) := by
    rintro dn x r ρ S e ⟨⟨y, rfl⟩, rfl⟩
    have qx : Q x := hs x (by rw [e]; simp)
    have qd : ∀ z ∈ dedup [] dn, Q z := fun z hz => by
      rcases dedup_sub _ _ z hz with h | h
      · cases h
      · exact hs z (by rw [e]; simp [h])
    have ln : (dedup [] dn).length < LIM := by
      have h1 := dedup_len dn []
      have h2 : dn.length ≤ (sortW xs).length := by rw [e]; simp
      rw [hsl] at h2
      simp at h1
      omega
    rw [dedup_app]
    generalize dedup [] dn = v at qd ln ⊢
    have e1 : eqOp [.lst v] (.ref 0) (.lst []) = some v.isEmpty := by
      have v1 : vw [.lst v] (.ref 0) = some (.lst v) := vw_cell rfl (rf_up o qd)
      have v2 : vw [.lst v] (.lst []) = some (.lst []) := rfl
      have v3 : datW 30 (.lst v) = true := dat_up o qd 28
      have v4 : datW 30 (.lst []) = true := rfl
      simp only [eqOp, v1, v2, v3, v4, Option.bind_some, Bool.and_self, if_true, eqW]
      cases v <;> rfl
    refine ⟨_, [some (.lst xs), some (.ref 0), some x], if lastIs v x = false then [.lst (v ++ [x])] else [.lst v], rfl, .inl ?_, ⟨_, rfl⟩, by split <;> rfl⟩
    cases v with
    | nil => simp [e1, LIM, tyOk, lstOf, effSem, lastIs]
    | cons z zs =>
      have hp : 0 < (z :: zs).length := by simp
      have hg : (z :: zs).getLast? = (z :: zs)[(z :: zs).length - 1]? := List.getLast?_eq_getElem?
      obtain ⟨w, hw⟩ : ∃ w, (z :: zs)[(z :: zs).length - 1]? = some w := ⟨_, List.getElem?_eq_getElem (by simp)⟩
      have qw : Q w := qd w (List.mem_of_getElem? hw)
      have e2 : idxSem [.lst (z :: zs)] (.ref 0) (.int (-1)) = some w := by
        simp only [idxSem, seqOf, List.getElem?_cons_zero]
        rw [ixN_neg1 hp]
        exact hw
      have e3 : eqOp [.lst (z :: zs)] w x = some (eqW w x) := eqOp_id (o.rf w qw) (o.rf x qx) (o.dat w qw 29) (o.dat x qx 29)
      have e4 : lastIs (z :: zs) x = eqW w x := by unfold lastIs; rw [hg, hw]
      rw [e4]
      cases hc : eqW w x with
      | true => simp [e1, LIM, e2, e3, hc]
      | false =>
        have ln' : zs.length + 1 < LIM := ln
        have l0 : 0 < LIM := by decide
        simp [e1, l0, e2, e3, hc, tyOk, lstOf, effSem, ln']
  obtain ⟨ρ2, S2, h1, ⟨y, rfl⟩, rfl⟩ := forL_at (fun dn ρ S => (∃ y, ρ = [some (.lst xs), some (.ref 0), y]) ∧ S = [.lst (dedup [] dn)]) (all := sortW xs) (xs := sortW xs) (done := []) (ρ := [some (.lst xs), some (.ref 0), none]) (S := [.lst []]) rfl ⟨⟨_, rfl⟩, rfl⟩ st
  have hsrc : evs (R d) [.op .sorted [.var 0]] [some (.lst xs), some (.ref 0), none] [.lst []] = .ok [.lst (sortW xs)] [.lst []] := by simp [sortedSem_id o h hl]
  have a1 : exec (R d) LM (.asg (.one 1) (.mut (.op .lstD []))) [some (.lst xs), none, none] [] = .next [some (.lst xs), some (.ref 0), none] [.lst []] := by simp [LIM]
  have cl : compL (fun ρ' S' => ev (R d) (.mth .list .mIndex (.var 1) [.var 2]) ρ' S') (fun ρ' S' => evAll (R d) [] ρ' S') (.one 2) (Tw.wipe [some (.lst xs), some (.lst u), y] [2]) xs [.dead] = .ok (xs.map fun x => .int (rank xs x : Int)) [.dead] := by
    apply compL_all (fun x => W.int (rank xs x : Int))
    intro x hx
    refine ⟨_, rfl, by simp, ?_⟩
    have hix : indexSem [.dead] (.lst u) x = some (rank xs x) := by
      simp only [indexSem, lstOf, vw_id (o.rf x (h x hx)), vws_id (rf_up o hu), Option.bind_some, o.dat x (h x hx) 29, dat_up o hu 29, Bool.and_self, if_true]
      exact rank_eq o h hx
    simp [Tw.wipe, tyOk, lstOf, hix]
  have e1 : execs (R d) LM f0 [some (.lst xs), none, none] [] = .ret (.ref 1) [.dead, .lst ((xs.map fun x => (rank xs x : Int)).map .int)] := by
    rw [f0, s_execs1, a1, s_seq, s_execs1, s_for hsrc rfl]
    rw [show (fun ρ' S' => execs (R d) LM _ ρ' S') = bdR d from rfl, h1, s_seq, s_execs1, s_frzL (n := 0) rfl rfl (rf_up o hu), s_seq, s_execs1]
    have ec : ev (R d) (.comp (.mth .list .mIndex (.var 1) [.var 2]) (.one 2) .list [.var 0] [] [2]) [some (.lst xs), some (.lst u), y] [.dead] = .ok (.lst (xs.map fun x => .int (rank xs x : Int))) [.dead] :=
      s_comp (ws := [.lst xs]) (S1 := [.dead]) (by simp) rfl hl cl
    have en : ([some (.lst xs), some (.ref 0), y] : Tw.Env).set 1 (some (.lst u)) = [some (.lst xs), some (.lst u), y] := rfl
    have es : ([.lst (dedup [] (sortW xs))] : Sto).set 0 .dead = [.dead] := rfl
    rw [show dedup [] (sortW xs) = u from rfl] at es ⊢
    rw [en, es, s_ret, s_mut, ec]
    simp [Function.comp_def]
  show (match execs (R d) LM f0 [some (.lst xs), none, none] [] with
    | .ret w S' => Rs.ok w S'
    | .next _ S' => .ok .non S'
    | .ex c S' => .ex c S'
    | _ => .bad) = _
  rw [e1]

/-! ### keys -/
def keyN (c s : Int) : Int := if s / 3 % 2 = 0 then spread c 1530421987 / 5 % 7 - 3 else c % 10 ^ 30 - 10 ^ 29
def keyS (n : Int) : List Nat := (97 + (n % 3).toNat) :: ([97, 98, 99, 97] : List Nat).take (n / 3 % 3).toNat
def keyW (c s : Int) : W := if s % 3 = 0 then .int (keyN c s) else if s % 3 = 1 then .str (keyS (keyN c s)) else .tup [.int (keyN c s % 4), .str (keyS (keyN c s))]
theorem idx_abc {S : Sto} (n : Int) : idxSem S (.str [97, 98, 99]) (.int (n % 3)) = some (.str [97 + (n % 3).toNat]) := by
  have h : n % 3 = 0 ∨ n % 3 = 1 ∨ n % 3 = 2 := by omega
  rcases h with h | h | h <;> rw [h] <;> rfl
theorem cut_abca {S : Sto} (n : Int) : sliceSem S (.str [97, 98, 99, 97]) none (some (n / 3 % 3)) = some (.str (([97, 98, 99, 97] : List Nat).take (n / 3 % 3).toNat)) := by
  have h : n / 3 % 3 = 0 ∨ n / 3 % 3 = 1 ∨ n / 3 % 3 = 2 := by omega
  rcases h with h | h | h <;> rw [h] <;> rfl
theorem keyS_ok (n : Int) : okStr (keyS n) := by
  have h1 : n % 3 = 0 ∨ n % 3 = 1 ∨ n % 3 = 2 := by omega
  have h2 : n / 3 % 3 = 0 ∨ n / 3 % 3 = 1 ∨ n / 3 % 3 = 2 := by omega
  unfold okStr keyS
  rcases h1 with h1 | h1 | h1 <;> rcases h2 with h2 | h2 | h2 <;> rw [h1, h2] <;> simp [LIM]
theorem key_ord (s : Int) : ∃ Q : W → Prop, OrdW Q ∧ ∀ c, Q (keyW c s) := by
  by_cases h0 : s % 3 = 0
  · exact ⟨_, ordInt, fun c => ⟨keyN c s, by simp [keyW, h0]⟩⟩
  · by_cases h1 : s % 3 = 1
    · exact ⟨_, ordStr, fun c => ⟨keyS (keyN c s), by simp [keyW, h1], keyS_ok _⟩⟩
    · exact ⟨_, ordPair, fun c => ⟨keyN c s % 4, keyS (keyN c s), by simp [keyW, h0, h1], keyS_ok _⟩⟩
theorem r_key {d : Nat} {c s : Int} {S : Sto} : R (d + 2) 5 [.int c, .int s] S = .ok (keyW c s) S := by
  rw [show R (d + 2) = runF (DD.map DefI.fn) LM (d + 1 + 1) from rfl, runF_succ (x := d5) rfl rfl]
  have hs : ∀ S, callSem (R (d + 1)) .pure 2 [.int c, .int 1530421987] S = .ok (.int (spread c 1530421987)) S := fun S => call_pure rfl (r_spread (by decide)) rfl
  have c3 : CDiv 3 = true := by decide
  have c5 : CDiv 5 = true := by decide
  have p30 : CPow 10 30 = true := by decide
  have p29 : CPow 10 29 = true := by decide
  have hp : (0 : Int) < 10 ^ 30 := by decide
  have e1 : ((10 : Int) ^ (30 : Int).toNat) = 10 ^ 30 := rfl
  have e2 : ((10 : Int) ^ (29 : Int).toNat) = 10 ^ 29 := rfl
  have key : execs (R (d + 1)) LM f5 [some (.int c), some (.int s), none, none] S = .ret (keyW c s) S := by
    have a1 : exec (R (d + 1)) LM (.asg (.one 2) (.op .sub [(.op .mod [(.var 0), (.op .pow [(.con (.int 10)), (.con (.int 30))])]), (.op .pow [(.con (.int 10)), (.con (.int 29))])])) [some (.int c), some (.int s), none, none] S = .next [some (.int c), some (.int s), some (.int (c % 10 ^ 30 - 10 ^ 29)), none] S := by
      simp [p30, p29]
    have a2 : exec (R (d + 1)) LM (.ite (.op .eq [(.op .mod [(.op .fdiv [(.var 1), (.con (.int 3))]), (.con (.int 2))]), (.con (.int 0))]) [
    .asg (.one 2) (.op .sub [(.op .mod [(.op .fdiv [(.call .pure 2 [(.var 0), (.con (.int 1530421987))]), (.con (.int 5))]), (.con (.int 7))]), (.con (.int 3))])] []) [some (.int c), some (.int s), some (.int (c % 10 ^ 30 - 10 ^ 29)), none] S = .next [some (.int c), some (.int s), some (.int (keyN c s)), none] S := by
      by_cases h : s / 3 % 2 = 0
      · have hb : (s / 3 % 2 == 0) = true := by simp [h]
        simp only [s_ite, s_op, s_evs1, s_evs0, s_var, s_con, s_bind, List.getElem?_cons_succ, List.getElem?_cons_zero, o_fdiv, c3, if_true, s_some, o_mod, show (0 : Int) < 2 by decide, o_eq, o_eqI, Option.map_some, s_sr, hb, s_execs1, s_execs0, s_asg, s_call, hs, c5, show (0 : Int) < 7 by decide, o_sub, s_one, List.set, s_seq]
        simp [keyN, h]
      · have hb : (s / 3 % 2 == 0) = false := by simp [h]
        simp only [s_ite, s_op, s_evs1, s_evs0, s_var, s_con, s_bind, List.getElem?_cons_succ, List.getElem?_cons_zero, o_fdiv, c3, if_true, s_some, o_mod, show (0 : Int) < 2 by decide, o_eq, o_eqI, Option.map_some, s_sr, hb, s_execs0]
        simp [keyN, h]
    rw [f5, s_execs1, a1, s_seq, s_execs1, a2, s_seq]
    generalize hn : keyN c s = n
    have a3 : opAdd S (.str [97 + (n % 3).toNat]) (.str (([97, 98, 99, 97] : List Nat).take (n / 3 % 3).toNat)) = some (.str (keyS n)) := by
      simp only [opAdd]
      rw [if_pos]
      · rfl
      · have : (([97, 98, 99, 97] : List Nat).take (n / 3 % 3).toNat).length ≤ 4 := by rw [List.length_take]; exact Nat.min_le_right _ _
        simp [LIM] at this ⊢
        omega
    by_cases h0 : s % 3 = 0
    · have b0 : (s % 3 == 0) = true := by simp [h0]
      simp [c3, idx_abc, cut_abca, a3, b0, keyW, h0, hn]
    · have b0 : (s % 3 == 0) = false := by simp [h0]
      by_cases h1 : s % 3 = 1
      · have b1 : (s % 3 == 1) = true := by simp [h1]
        simp [c3, idx_abc, cut_abca, a3, b0, b1, keyW, h1, hn]
      · have b1 : (s % 3 == 1) = false := by simp [h1]
        simp [c3, idx_abc, cut_abca, a3, b0, b1, keyW, h0, h1, hn, LIM]
  show (match execs (R (d + 1)) LM f5 [some (.int c), some (.int s), none, none] S with
    | .ret w S' => Rs.ok w S'
    | .next _ S' => .ok .non S'
    | .ex c S' => .ex c S'
    | _ => .bad) = _
  rw [key]

/-! ### the law -/
theorem uniq_step (u : List W) (x : W) (xs : List W) : uniq u (x :: xs) = uniq (if u.any (fun z => eqW z x) then u else u ++ [x]) xs := by
  rw [uniq]
  split <;> rfl
theorem uniq_app : ∀ (xs : List W) (u : List W) (x : W), uniq u (xs ++ [x]) = if (uniq u xs).any (fun z => eqW z x) then uniq u xs else uniq u xs ++ [x]
  | [], u, x => by cases h : u.any (fun z => eqW z x) <;> simp [uniq, h]
  | y :: ys, u, x => by rw [List.cons_append, uniq_step, uniq_step, uniq_app ys]
theorem uniq_sub : ∀ (xs : List W) (u : List W) (z : W), z ∈ uniq u xs → z ∈ u ∨ z ∈ xs
  | [], u, z, h => .inl h
  | x :: xs, u, z, h => by
    rw [uniq_step] at h
    rcases uniq_sub xs _ z h with h | h
    · split at h
      · exact .inl h
      · rcases List.mem_append.mp h with h | h
        · exact .inl h
        · simp at h; exact .inr (by simp [h])
    · exact .inr (by simp [h])
theorem uniq_len : ∀ (xs : List W) (u : List W), (uniq u xs).length ≤ u.length + xs.length
  | [], u => by simp [uniq]
  | x :: xs, u => by
    rw [uniq_step]
    cases h : u.any (fun z => eqW z x) with
    | true =>
      have := uniq_len xs u
      simp only [if_true, List.length_cons]
      omega
    | false =>
      have := uniq_len xs (u ++ [x])
      simp only [List.length_append, List.length_cons, List.length_nil] at this ⊢
      simp only [Bool.false_eq_true, if_false]
      omega
abbrev bd6 : Tw.Env → Sto → SR := fun ρ' S' => execs (R 9) LM [.ite (.op .notin [.var 4, .var 3]) [.expr (.eff .append (.var 3) [.var 4])] []] ρ' S'
theorem law_true (ns : List Int) (hl : ns.length ≤ 63) : ∃ S', runF (DD.map DefI.fn) LM 10 6 [.klst ns] [] = .ok (.bl true) S' := by
  rw [runF_succ (x := d6) rfl rfl]
  obtain ⟨s, hs⟩ : ∃ s, s = spread (ns.head?.getD 0) 1873046521 / 3 := ⟨_, rfl⟩
  obtain ⟨Q, o, hQ⟩ := key_ord s
  let xs : List W := ((5 : Int) :: ns).map fun c => keyW c s
  have hx : ∀ x ∈ xs, Q x := by
    intro x hx
    obtain ⟨c, _, rfl⟩ := List.mem_map.mp hx
    exact hQ c
  have lx : xs.length < LIM := by simp [xs, LIM]; omega
  have c3 : CDiv 3 = true := by decide
  have n0 : ∀ {S : Sto}, callSem (R 9) .pure 1 [.klst ns, .int 0] S = .ok (.int (ns.head?.getD 0)) S := call_pure rfl r_at rfl
  have n1 : ∀ {S : Sto} {a : Int}, callSem (R 9) .pure 2 [.int a, .int 1873046521] S = .ok (.int (spread a 1873046521)) S := call_pure rfl (r_spread (by decide)) rfl
  have a1 : exec (R 9) LM (.asg (.one 1) (.op .fdiv [(.call .pure 2 [(.call .pure 1 [(.var 0), (.con (.int 0))]), (.con (.int 1873046521))]), (.con (.int 3))])) [some (.klst ns), none, none, none, none, none, none, none, none, none] [] = .next [some (.klst ns), some (.int s), none, none, none, none, none, none, none, none] [] := by
    simp [n0, n1, c3, hs]
  have cl2 : compL (fun ρ' S' => ev (R 9) (.call .pure 5 [(.var 8), (.var 1)]) ρ' S') (fun ρ' S' => evAll (R 9) [] ρ' S') (.one 8) (Tw.wipe [some (.klst ns), some (.int s), none, none, none, none, none, none, none, none] [8]) (((5 : Int) :: ns).map .int) [] = .ok xs [] := by
    have := compL_all (elt := fun ρ' S' => ev (R 9) (.call .pure 5 [(.var 8), (.var 1)]) ρ' S') (cond := fun ρ' S' => evAll (R 9) [] ρ' S') (t := .one 8) (ρ := Tw.wipe [some (.klst ns), some (.int s), none, none, none, none, none, none, none, none] [8]) (S := []) (fun w => match w with | .int c => keyW c s | w => w) (xs := ((5 : Int) :: ns).map .int) (by
      intro x hx
      obtain ⟨c, _, rfl⟩ := List.mem_map.mp hx
      refine ⟨_, rfl, by simp, ?_⟩
      simp [Tw.wipe]
      exact call_pure rfl r_key (vw_id (o.rf _ (hQ c))))
    rw [this]
    simp [xs, Function.comp_def]
  have cutn : cut (ns.map W.int) none (some 80) = ns.map .int := by
    show ((ns.map W.int).drop 0).take (min (80 : Int).toNat (ns.map W.int).length - 0) = _
    have : (80 : Int).toNat = 80 := rfl
    rw [List.drop_zero, Nat.sub_zero, this, Nat.min_eq_right (by rw [List.length_map]; omega), List.take_length]
  have sr2 : evs (R 9) [(.op .add [(.op .lstD [(.con (.int 5))]), (.op (.slice false true) [(.var 0), (.toI (.con (.int 80)))])])] [some (.klst ns), some (.int s), none, none, none, none, none, none, none, none] [] = .ok [.lst (((5 : Int) :: ns).map .int)] [] := by
    have e : opAdd [] (.lst [.int 5]) (.lst (ns.map .int)) = some (.lst (.int 5 :: ns.map .int)) := by
      simp only [opAdd, lstOf]
      rw [if_pos]
      · rfl
      · simp [LIM]
        omega
    simp [LIM, sliceSem, cutn, e]
  have a2 : exec (R 9) LM (.asg (.one 2) (.comp (.call .pure 5 [(.var 8), (.var 1)]) (.one 8) .list [(.op .add [(.op .lstD [(.con (.int 5))]), (.op (.slice false true) [(.var 0), (.toI (.con (.int 80)))])])] [] [8])) [some (.klst ns), some (.int s), none, none, none, none, none, none, none, none] [] = .next [some (.klst ns), some (.int s), some (.lst xs), none, none, none, none, none, none, none] [] := by
    rw [s_asg, s_comp sr2 rfl (by simp [LIM]; omega) cl2]
    rfl
  have a3 : exec (R 9) LM (.asg (.one 3) (.mut (.op .lstD []))) [some (.klst ns), some (.int s), some (.lst xs), none, none, none, none, none, none, none] [] = .next [some (.klst ns), some (.int s), some (.lst xs), some (.ref 0), none, none, none, none, none, none] [.lst []] := by simp [LIM]
  have st : ∀ (dn : List W) (x : W) (r : List W) (ρ : Tw.Env) (S : Sto), xs = dn ++ x :: r → ((∃ y, ρ = [some (.klst ns), some (.int s), some (.lst xs), some (.ref 0), y, none, none, none, none, none]) ∧ S = [.lst (uniq [] dn)]) →
      ∃ ρ' ρ2 S2, bindT (.one 4) x ρ = some ρ' ∧ (bd6 ρ' S = .next ρ2 S2 ∨ bd6 ρ' S = .cont ρ2 S2) ∧ ((∃ y, ρ2 = [some (.klst ns), some (.int s), some (.lst xs), some (.ref 0), y, none, none, none, none, none]) ∧ S2 = [.lst (uniq [] (dn ++ [x]))]) := by
    rintro dn x r ρ S e ⟨⟨y, rfl⟩, rfl⟩
    have qx : Q x := hx x (by rw [e]; simp)
    have qd : ∀ z ∈ uniq [] dn, Q z := fun z hz => by
      rcases uniq_sub _ _ z hz with h | h
      · cases h
      · exact hx z (by rw [e]; simp [h])
    have ln : (uniq [] dn).length < LIM := by
      have h1 := uniq_len dn []
      have h2 : dn.length ≤ xs.length := by rw [e]; simp
      simp at h1
      omega
    rw [uniq_app]
    generalize uniq [] dn = v at qd ln ⊢
    have e1 : inOp [.lst v] x (.ref 0) = some (v.any fun z => eqW z x) := by
      simp only [inOp, dicOf, lstOf, List.getElem?_cons_zero, vw_id (o.rf x qx), vws_id (rf_up o qd), Option.bind_some, o.dat x qx 29, dat_up o qd 28, Bool.and_self, if_true]
    refine ⟨_, [some (.klst ns), some (.int s), some (.lst xs), some (.ref 0), some x, none, none, none, none, none], if v.any (fun z => eqW z x) then [.lst v] else [.lst (v ++ [x])], rfl, .inl ?_, ⟨_, rfl⟩, by cases v.any (fun z => eqW z x) <;> rfl⟩
    cases hc : v.any (fun z => eqW z x) with
    | true =>
      rw [hc] at e1
      simp [bd6, e1]
    | false =>
      rw [hc] at e1
      simp [bd6, e1, tyOk, lstOf, effSem, ln]
  obtain ⟨ρ2, S2, h1, ⟨y, rfl⟩, rfl⟩ := forL_at (fun dn ρ S => (∃ y, ρ = [some (.klst ns), some (.int s), some (.lst xs), some (.ref 0), y, none, none, none, none, none]) ∧ S = [.lst (uniq [] dn)]) (all := xs) (xs := xs) (done := []) (ρ := [some (.klst ns), some (.int s), some (.lst xs), some (.ref 0), none, none, none, none, none, none]) (S := [.lst []]) rfl ⟨⟨_, rfl⟩, rfl⟩ st
  have src4 : evs (R 9) [.var 2] [some (.klst ns), some (.int s), some (.lst xs), some (.ref 0), none, none, none, none, none, none] [.lst []] = .ok [.lst xs] [.lst []] := by simp
  let u := uniq [] xs
  have hu : ∀ z ∈ u, Q z := fun z hz => by
    rcases uniq_sub _ _ z hz with h | h
    · cases h
    · exact hx z h
  have lu : u.length < LIM := by
    have h1 := uniq_len xs []
    simp at h1
    exact Nat.lt_of_le_of_lt h1 lx
  -- the due ranks
  have cl5 : compL (fun ρ' S' => ev (R 9) (.op .len [(.comp (.var 9) (.one 9) .list [(.var 3)] [(.op .lt [(.var 9), (.var 4)])] [9])]) ρ' S') (fun ρ' S' => evAll (R 9) [] ρ' S') (.one 4) (Tw.wipe [some (.klst ns), some (.int s), some (.lst xs), some (.lst u), y, none, none, none, none, none] [4]) xs [.dead] = .ok (xs.map fun x => .int (rank xs x : Int)) [.dead] := by
    apply compL_all (fun x => W.int (rank xs x : Int))
    intro x hxx
    refine ⟨_, rfl, by simp, ?_⟩
    have inner : compL (fun ρ' S' => ev (R 9) (.var 9) ρ' S') (fun ρ' S' => evAll (R 9) [(.op .lt [(.var 9), (.var 4)])] ρ' S') (.one 9) (Tw.wipe [some (.klst ns), some (.int s), some (.lst xs), some (.lst u), some x, none, none, none, none, none] [9]) u [.dead] = .ok (u.filter fun z => ltW z x) [.dead] := by
      have := compL_map (elt := fun ρ' S' => ev (R 9) (.var 9) ρ' S') (cond := fun ρ' S' => evAll (R 9) [(.op .lt [(.var 9), (.var 4)])] ρ' S') (t := .one 9) (ρ := Tw.wipe [some (.klst ns), some (.int s), some (.lst xs), some (.lst u), some x, none, none, none, none, none] [9]) (S := [.dead]) (fun w => w) (fun z => ltW z x) (xs := u) (by
        intro z hz
        have e1 : ltSem [.dead] z x = some (ltW z x) := ltSem_id (o.rf z (hu z hz)) (o.rf x (hx x hxx)) (o.dat z (hu z hz) 29) (o.dat x (hx x hxx) 29) (o.ali z x (hu z hz) (hx x hxx)) (o.non z (hu z hz))
        refine ⟨_, rfl, ?_, fun _ => ?_⟩
        · simp [Tw.wipe, e1]
        · simp [Tw.wipe])
      rw [this]
      simp
    have ec : ev (R 9) (.comp (.var 9) (.one 9) .list [(.var 3)] [(.op .lt [(.var 9), (.var 4)])] [9]) [some (.klst ns), some (.int s), some (.lst xs), some (.lst u), some x, none, none, none, none, none] [.dead] = .ok (.lst (u.filter fun z => ltW z x)) [.dead] :=
      s_comp (ws := [.lst u]) (S1 := [.dead]) (by simp) rfl lu inner
    show ev (R 9) (.op .len _) [some (.klst ns), some (.int s), some (.lst xs), some (.lst u), some x, none, none, none, none, none] [.dead] = _
    rw [s_op, s_evs1, ec]
    simp [lenSem, seqOf, rank, List.countP_eq_length_filter, u]
  have a5 : exec (R 9) LM (.asg (.one 5) (.comp (.op .len [(.comp (.var 9) (.one 9) .list [(.var 3)] [(.op .lt [(.var 9), (.var 4)])] [9])]) (.one 4) .list [(.var 2)] [] [4])) [some (.klst ns), some (.int s), some (.lst xs), some (.lst u), y, none, none, none, none, none] [.dead] = .next [some (.klst ns), some (.int s), some (.lst xs), some (.lst u), y, some (.lst ((xs.map fun x => (rank xs x : Int)).map .int)), none, none, none, none] [.dead] := by
    rw [s_asg, s_comp (ws := [.lst xs]) (S1 := [.dead]) (by simp) rfl lx cl5]
    simp [Function.comp_def]
  generalize hrk : (xs.map fun x => (rank xs x : Int)) = rk at a5
  have lrk : rk.length < LIM := by rw [← hrk]; simpa using lx
  have a6 : exec (R 9) LM (.asg (.one 6) (.mut (.op .list [(.var 2)]))) [some (.klst ns), some (.int s), some (.lst xs), some (.lst u), y, some (.lst (rk.map .int)), none, none, none, none] [.dead] = .next [some (.klst ns), some (.int s), some (.lst xs), some (.lst u), y, some (.lst (rk.map .int)), some (.ref 1), none, none, none] [.dead, .lst xs] := by simp [seqOf]
  have v1 : vws [.dead, .lst xs] [.ref 1] = some [.lst xs] := by
    have := vw_cell (S := [.dead, .lst xs]) (n := 1) rfl (rf_up o hx)
    simp only [vw, vws, subL] at this ⊢
    rw [this]
    rfl
  have c7 : callSem (R 9) .adopt 0 [.ref 1] [.dead, .lst xs] = .ok (.ref 2) [.dead, .lst xs, .lst (rk.map .int)] := by
    have := r_ranked o (d := 8) hx lx
    rw [hrk] at this
    exact call_adoptB rfl v1 this rfl (subB_int rk)
  have e8 : eqOp [.dead, .lst xs, .lst (rk.map .int)] (.ref 1) (.lst xs) = some true := by
    have w1 : vw [.dead, .lst xs, .lst (rk.map .int)] (.ref 1) = some (.lst xs) := vw_cell rfl (rf_up o hx)
    have w2 : vw [.dead, .lst xs, .lst (rk.map .int)] (.lst xs) = some (.lst xs) := vw_id (by show rfreeL xs = true; exact rf_up o hx)
    have w3 : datW 30 (.lst xs) = true := dat_up o hx 28
    have w4 : eqL xs xs = true := by
      have : ∀ l : List W, (∀ x ∈ l, Q x) → eqL l l = true := by
        intro l hl
        induction l with
        | nil => rfl
        | cons a l ih => simp only [eqL, (o.eq a a (hl a (by simp)) (hl a (by simp))).mpr rfl, ih fun z hz => hl z (by simp [hz])]; rfl
      exact this xs hx
    simp only [eqOp, w1, w2, w3, Option.bind_some, Bool.and_self, if_true, eqW, w4]
  have hx0 : ∃ x0 xr, xs = x0 :: xr := ⟨_, _, rfl⟩
  obtain ⟨x0, xr, hx0⟩ := hx0
  have e9 : ∀ S, idxSem S (.lst xs) (.int 0) = some x0 := by
    intro S
    rw [hx0]
    simp [idxSem, seqOf, Tw.ixN]
  have nb : ∀ S, callSem (R 9) .pure 4 [.lst (rk.map .int), .lst (rk.map .int)] S = .ok (.bl true) S := by
    intro S
    have := r_numbers (d := 7) (xs := rk) (ys := rk) lrk
    rw [beq_self_eq_true] at this
    exact call_pure (by simp [rfreeL, rfree, rfree_int]) this rfl
  have nbB : callSem (R 9) .pure 4 [.ref 2, .lst (rk.map .int)] [.dead, .lst (xs ++ [x0]), .lst (rk.map .int)] = .ok (.bl true) [.dead, .lst (xs ++ [x0]), .lst (rk.map .int)] := by
    have := r_numbers (d := 7) (xs := rk) (ys := rk) lrk
    rw [beq_self_eq_true] at this
    refine call_pureB (us := [.lst (rk.map .int), .lst (rk.map .int)]) rfl ?_ this rfl
    have w1 := vw_cell (S := [.dead, .lst (xs ++ [x0]), .lst (rk.map .int)]) (n := 2) rfl (rfree_int rk)
    have w2 : vw [.dead, .lst (xs ++ [x0]), .lst (rk.map .int)] (.lst (rk.map .int)) = some (.lst (rk.map .int)) := vw_id (by show rfreeL _ = true; exact rfree_int rk)
    simp only [vw, vws, subL] at w1 w2 ⊢
    rw [w1, w2]
    rfl
  have ra : ∀ S, callSem (R 9) .pure 0 [.lst xs] S = .ok (.lst (rk.map .int)) S := by
    intro S
    have := r_ranked o (d := 8) hx lx
    rw [hrk] at this
    exact call_pure (by simp [rfreeL, rfree, rf_up o hx]) this (vw_cell rfl (rfree_int rk))
  have r0 : ∀ S, callSem (R 9) .pure 0 [.lst []] S = .ok (.lst []) S := by
    intro S
    have := r_ranked ordInt (d := 8) (xs := []) (by simp) (by simp [LIM])
    exact call_pure rfl this rfl
  have lx1 : xs.length < LIM := lx
  have main : ∃ S', execs (R 9) LM f6 [some (.klst ns), none, none, none, none, none, none, none, none, none] [] = .ret (.bl true) S' := by
    rw [f6, s_execs1, a1, s_seq, s_execs1, a2, s_seq, s_execs1, a3, s_seq, s_execs1, s_for src4 rfl]
    rw [show (fun ρ' S' => execs (R 9) LM _ ρ' S') = bd6 from rfl, h1, s_seq, s_execs1, s_frzL (n := 0) rfl rfl (rf_up o hu), s_seq, s_execs1]
    have en : ([some (.klst ns), some (.int s), some (.lst xs), some (.ref 0), y, none, none, none, none, none] : Tw.Env).set 3 (some (.lst u)) = [some (.klst ns), some (.int s), some (.lst xs), some (.lst u), y, none, none, none, none, none] := rfl
    have es : ([.lst (uniq [] xs)] : Sto).set 0 .dead = [.dead] := rfl
    rw [show uniq [] xs = u from rfl] at es ⊢
    rw [en, es, a5, s_seq, s_execs1, a6, s_seq]
    refine ⟨[.dead, .lst (xs ++ [x0]), .lst []], ?_⟩
    have e0 : ∀ S, eqOp S (.lst []) (.lst []) = some true := fun _ => rfl
    have l0 : 0 < LIM := by decide
    simp [c7, e8, e9, e0, l0, tyOk, lstOf, effSem, lx1, nbB, seqOf, ra, nb, r0]
  obtain ⟨S', main⟩ := main
  refine ⟨S', ?_⟩
  show (match execs (R 9) LM f6 [some (.klst ns), none, none, none, none, none, none, none, none, none] [] with
    | .ret w S' => Rs.ok w S'
    | .next _ S' => .ok .non S'
    | .ex c S' => .ex c S'
    | _ => .bad) = _
  rw [main]
end TwL
namespace TwL
open Tw PySem L2
def cad : Nat → Addr := fun _ => 0
def fld : Nat → List PySem.Str := fun _ => []
def spLaw (K : PySem.W.Frag) : Sp := spL cad fld DD LM 10 6 K
end TwL
open PySem PySem.W PyProof.Rows
set_option maxHeartbeats 0 in
theorem PySem.Challenge.cw_tieword_k06_ranked_holds : PySem.Challenge.rw_tieword_k06_ranked.Holds := by
  w_on; o_law; k_head; (case hw => w_witness2)
  k_fill
  refine L2.walk_of (l := PySem.Challenge.rw_tieword_k06_ranked) (n := 63) (k := 10) (x := "_law_script") (CX := fun w => L2.CX PySem.Challenge.rw_tieword_k06_ranked.prog w) (sp := fun w => TwL.spLaw _) rfl (by decide) rfl ⟨rfl, by decide, by decide⟩ (fun w h Y => PySem.W.kIn_of Y) ?F (fun _ _ a ns hl _ hS => Tw.spL_here hS (TwL.law_true ns hl)) (fun _ _ _ _ _ h => Tw.cx_none h)
  case F =>
    intro w mg fa h KX G hmg
    refine' TwL.all_mk KX G hmg ?a0 ?l0 ?c0 ?k0 ?a1 ?l1 ?c1 ?k1 ?a2 ?l2 ?c2 ?k2 ?a3 ?l3 ?c3 ?k3 ?a4 ?l4 ?c4 ?k4 ?a5 ?l5 ?c5 ?k5 ?a6 ?l6 ?c6 ?k6 ?z0 ?z1 ?z2 ?z3 ?z4 ?z5 ?z6 ?z7 ?z8 ?z9 ?z10 ?z11 ?z12 ?z13 TwL.LM 10 TwL.cad TwL.fld
    (case a0 => k_is)
    (case l0 => k_is)
    (case c0 => k_is)
    (case k0 => k_is)
    (case a1 => k_is)
    (case l1 => k_is)
    (case c1 => k_is)
    (case k1 => k_is)
    (case a2 => k_is)
    (case l2 => k_is)
    (case c2 => k_is)
    (case k2 => k_is)
    (case a3 => k_is)
    (case l3 => k_is)
    (case c3 => k_is)
    (case k3 => k_is)
    (case a4 => k_is)
    (case l4 => k_is)
    (case c4 => k_is)
    (case k4 => k_is)
    (case a5 => k_is)
    (case l5 => k_is)
    (case c5 => k_is)
    (case k5 => k_is)
    (case a6 => k_is)
    (case l6 => k_is)
    (case c6 => k_is)
    (case k6 => k_is)
    (case z0 => k_is)
    (case z1 => k_is)
    (case z2 => k_is)
    (case z3 => k_is)
    (case z4 => k_is)
    (case z5 => k_is)
    (case z6 => k_is)
    (case z7 => k_is)
    (case z8 => k_is)
    (case z9 => k_is)
    (case z10 => k_is)
    (case z11 => k_is)
    (case z12 => k_is)
    (case z13 => k_is)
