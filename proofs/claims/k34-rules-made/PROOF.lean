import PyProof.Rows.All
import HandS.ForMost
import HandS.ForExc
import HandS.Deep
import HandS.SortOrd
import HandS.Conv
import HandS.TupLen
import KE.LtData
import KE.SortData
import HandS.IsInst
import HandS.SetFor
import HandS.SortInts
import HandS.More
import HandS.Text
import PyProof.Rows.StrFirst
import PyProof.DictMoreH
import HandS.ExcIs
import HandS.RevRange
import HandS.FStr
import HandS.CallSlots
import HandS.Small
import HandS.Style
import HandS.Steps
import HandS.ExcOwn
import HandS.ExcBuiltin
import HandS.TryOnly
import HandS.Iter
import HandS.DictTup
import PySem.Challenge.RW_tieword_k34_rules_made
set_option linter.all false
set_option Elab.async false
set_option maxRecDepth 100000
set_option maxHeartbeats 4000000
/-! Tw, part A: a small interpreter over a simple domain, in plain Lean. -/
namespace Tw

/-- values: what is frozen is a value (lst, dic, rec); what is changed stands in a cell, ref n -/
inductive W where
  | non
  | bl (b : Bool)
  | int (i : Int)
  | str (s : List Nat)
  | tup (xs : List W)
  | lst (xs : List W)
  | dic (t : Bool) (ks vs : List W)
  | rcd (c : Nat) (xs : List W)
  | ref (n : Nat)
  | exn (c : Nat)
  | klst (ns : List Int)
  deriving Inhabited

/-- cells -/
inductive Ob where
  | lst (xs : List W)
  | dic (t : Bool) (ks vs : List W)
  | ins (c : Nat) (xs : List W)
  | dead
  deriving Inhabited

/-- classes: below 9 own ones; 9 is ValueError; 10 is WebError; behind it what is derived of it -/
def subX (k c : Nat) : Bool := k == c || (c == 10 && decide (10 ≤ k)) || (c == 9 && decide (10 ≤ k))
abbrev Sto := List Ob
abbrev Env := List (Option W)
abbrev LIM : Nat := 100000

inductive Rs (α : Type) where
  | ok (a : α) (S : Sto)
  | ex (c : Nat) (S : Sto)
  | bad

inductive SR where
  | next (ρ : Env) (S : Sto)
  | ret (w : W) (S : Sto)
  | brk (ρ : Env) (S : Sto)
  | cont (ρ : Env) (S : Sto)
  | ex (ρ : Env) (c : Nat) (S : Sto)
  | bad

/-! ### equality, order, what holds no cell -/
mutual
def eqW : W → W → Bool
  | .non, .non => true
  | .bl a, .bl b => a == b
  | .bl a, .int j => (if a then 1 else 0) == j
  | .int i, .bl b => i == (if b then 1 else 0)
  | .int i, .int j => i == j
  | .str x, .str y => x == y
  | .lst xs, .lst ys => eqL xs ys
  | .tup xs, .tup ys => eqL xs ys
  | _, _ => false
def eqL : List W → List W → Bool
  | [], [] => true
  | x :: xs, y :: ys => eqW x y && eqL xs ys
  | [], _ :: _ => false
  | _ :: _, [] => false
end

mutual
/-- plain data of depth below d: nothing but none, bools, ints, texts, tuples, lists -/
def datW : Nat → W → Bool
  | _, .non => true
  | _, .bl _ => true
  | _, .int _ => true
  | _, .str s => s.all (fun c => decide (c < 128)) && decide (s.length < LIM)
  | d, .lst xs => match d with
    | 0 => false
    | d + 1 => datL d xs
  | d, .tup xs => match d with
    | 0 => false
    | d + 1 => datL d xs
  | _, _ => false
def datL : Nat → List W → Bool
  | _, [] => true
  | d, x :: xs => datW d x && datL d xs
end

mutual
/-- the two can be compared, place by place -/
def alikeW : W → W → Bool
  | .non, .non => true
  | .bl _, .bl _ => true
  | .int _, .int _ => true
  | .str _, .str _ => true
  | .lst xs, .lst ys => alikeL xs ys
  | .tup xs, .tup ys => alikeL xs ys
  | _, _ => false
def alikeL : List W → List W → Bool
  | x :: xs, y :: ys => alikeW x y && alikeL xs ys
  | [], _ => true
  | _ :: _, [] => true
end

mutual
/-- a < b by Python's order, where both are data of one shape -/
def ltW : W → W → Bool
  | .int i, .int j => decide (i < j)
  | .bl a, .bl b => !a && b
  | .str x, .str y => decide (x < y)
  | .lst xs, .lst ys => ltL xs ys
  | .tup xs, .tup ys => ltL xs ys
  | _, _ => false
def ltL : List W → List W → Bool
  | [], [] => false
  | [], _ :: _ => true
  | _ :: _, [] => false
  | x :: xs, y :: ys => if eqW x y then ltL xs ys else ltW x y
end

mutual
/-- no ref within -/
def rfree : W → Bool
  | .tup xs => rfreeL xs
  | .lst xs => rfreeL xs
  | .dic _ ks vs => rfreeL ks && rfreeL vs
  | .rcd _ xs => rfreeL xs
  | .ref _ => false
  | _ => true
def rfreeL : List W → Bool
  | [] => true
  | x :: xs => rfree x && rfreeL xs
end

mutual
/-- no list, dict, record, ref within -/
def lfree : W → Bool
  | .tup xs => lfreeL xs
  | .lst _ => false
  | .dic _ _ _ => false
  | .rcd _ _ => false
  | .ref _ => false
  | .klst _ => false
  | .exn _ => false
  | _ => true
def lfreeL : List W → Bool
  | [] => true
  | x :: xs => lfree x && lfreeL xs
end

mutual
/-- the refs put in by g; b: what else is there must hold no list -/
def sub (b : Bool) (g : Nat → Option W) : W → Option W
  | .tup xs => (subL b g xs).map .tup
  | .lst xs => if b then none else (subL b g xs).map .lst
  | .dic t ks vs => if b then none else (subL b g ks).bind fun ks' => (subL b g vs).map (.dic t ks')
  | .rcd c xs => if b then none else (subL b g xs).map (.rcd c)
  | .ref n => g n
  | .klst ns => if b then none else some (.klst ns)
  | .exn c => if b then none else some (.exn c)
  | w => some w
def subL (b : Bool) (g : Nat → Option W) : List W → Option (List W)
  | [] => some []
  | x :: xs => (sub b g x).bind fun x' => (subL b g xs).map (x' :: ·)
end

def cellW (b : Bool) (S : Sto) (g : Nat → Option W) (n : Nat) : Option W :=
  match S[n]? with
  | some (.lst xs) => (subL b g xs).map .lst
  | some (.dic t ks vs) => (subL b g ks).bind fun ks' => (subL b g vs).map (.dic t ks')
  | some (.ins c xs) => (subL b g xs).map (.rcd c)
  | _ => none
def lev (b : Bool) (S : Sto) : Nat → Nat → Option W
  | 0 => fun _ => none
  | k + 1 => cellW b S (lev b S k)
/-- the value as it stands, cells read out (three deep) -/
def vw (S : Sto) (w : W) : Option W := sub false (lev false S 3) w
/-- the same, and no list is there that stands in no cell -/
def vwB (S : Sto) (w : W) : Option W := sub true (lev true S 3) w
def vws (S : Sto) (ws : List W) : Option (List W) := subL false (lev false S 3) ws

/-! ### reading -/
def seqOf (S : Sto) : W → Option (List W)
  | .lst xs => some xs
  | .tup xs => some xs
  | .ref n => match S[n]? with
    | some (.lst xs) => some xs
    | _ => none
  | .klst ns => some (ns.map .int)
  | _ => none
def lstOf (S : Sto) : W → Option (List W)
  | .lst xs => some xs
  | .ref n => match S[n]? with
    | some (.lst xs) => some xs
    | _ => none
  | _ => none
def dicOf (S : Sto) : W → Option (Bool × List W × List W)
  | .dic t ks vs => some (t, ks, vs)
  | .ref n => match S[n]? with
    | some (.dic t ks vs) => some (t, ks, vs)
    | _ => none
  | _ => none
def recOf (S : Sto) : W → Option (Nat × List W)
  | .rcd c xs => some (c, xs)
  | .ref n => match S[n]? with
    | some (.ins c xs) => some (c, xs)
    | _ => none
  | _ => none

/-- a key of a dict: an int or a text; a tuple of such -/
def key1 : W → Bool
  | .int _ => true
  | .str _ => true
  | _ => false
def isKey (t : Bool) : W → Bool
  | .tup xs => t && xs.all key1
  | w => !t && key1 w
def dget : List W → List W → W → Option W
  | k :: ks, v :: vs, x => if eqW k x then some v else dget ks vs x
  | _, _, _ => none
/-- d[k] = v: where it stands, or behind all -/
def dhas (ks : List W) (x : W) : Bool := ks.any fun k => eqW k x
def dmapV : List W → List W → W → W → List W
  | k :: ks, v :: vs, x, y => (if eqW k x then y else v) :: dmapV ks vs x y
  | _, _, _, _ => []
def dputV (ks vs : List W) (x y : W) : List W := if dhas ks x then dmapV ks vs x y else vs ++ [y]
def dputK (ks : List W) (x : W) : List W := if dhas ks x then ks else ks ++ [x]
def ddelV : List W → List W → W → List W
  | k :: ks, v :: vs, x => if eqW k x then vs else v :: ddelV ks vs x
  | _, _, _ => []
def ddelK : List W → W → List W
  | k :: ks, x => if eqW k x then ks else k :: ddelK ks x
  | [], _ => []

def ixN (n : Nat) (i : Int) : Option Nat := if 0 ≤ i then (if i < n then some i.toNat else none) else if -(n : Int) ≤ i then some (i + n).toNat else none
def sIx (n d : Nat) : Option Int → Nat
  | none => d
  | some v => if v < 0 then (v + (n : Int)).toNat else min v.toNat n
def cut {α : Type} (xs : List α) (lo hi : Option Int) : List α := (xs.drop (sIx xs.length 0 lo)).take (sIx xs.length xs.length hi - sIx xs.length 0 lo)

/-! ### sorting, stable -/
def notNone : W → Bool
  | .non => false
  | _ => true
def isTup1 : W → Bool
  | .tup (_ :: _) => true
  | _ => false
def isTup : W → Bool
  | .tup _ => true
  | _ => false
/-- all pairs can be compared -/
def sortOk (xs : List W) : Bool := (xs.all fun x => xs.all fun y => alikeW x y) && (xs.all isTup1 || xs.all fun x => notNone x && !isTup x)
def sortW (xs : List W) : List W := xs.mergeSort fun a b => !ltW b a

/-! ### operations -/
inductive IsT where
  | int | bool | str | list | tuple | cls (c : Nat)
inductive Op where
  | add | sub | mul | fdiv | mod | pow | neg
  | eq | ne | lt | le | gt | ge | isin | notin | isnone | notnone
  | idx | slice (lo hi : Bool)
  | len | list | tuple | sorted | all | int | min | max | str
  | tupD | lstD | dicD (t : Bool)
  | isi (t : IsT)
  | mIndex | mCount | mGet2 | mGet1 | mJoin | mFind | mStarts
  | rangeL (tp two : Bool)

def strI (i : Int) : List Nat := (toString i).toList.map Char.toNat
def isDig (c : Nat) : Bool := decide (48 ≤ c) && decide (c ≤ 57)
def digVal (s : List Nat) : Nat := s.foldl (fun acc c => acc * 10 + (c - 48)) 0
def joinS (sep : List Nat) : List (List Nat) → List Nat
  | [] => []
  | [x] => x
  | x :: y :: r => x ++ (sep ++ joinS sep (y :: r))
def strsOf : List W → Option (List (List Nat))
  | [] => some []
  | .str s :: r => (strsOf r).map (s :: ·)
  | _ => none
def idxI (s : List Nat) (c : Nat) : Int := match s.findIdx? (· == c) with
  | some j => (j : Int)
  | none => -1
def cmpI : Op → Int → Int → Option Bool
  | .lt, i, j => some (decide (i < j))
  | .le, i, j => some (decide (i ≤ j))
  | .gt, i, j => some (decide (j < i))
  | .ge, i, j => some (decide (j ≤ i))
  | _, _, _ => none

def CDiv (j : Int) : Bool := decide (0 < j) && decide (j < 1073741824)
/-- (by natAbs: a look at a difference with a great number would be unrolled by the kernel) -/
def CMul (i j : Int) : Bool := decide (i.natAbs < 2 ^ 64) || decide (j.natAbs < 2 ^ 64)
def CPow (i j : Int) : Bool := decide (0 ≤ j) && decide (j ≤ 1000000) && decide (i.natAbs < 2 ^ 64)

def opAdd (S : Sto) : W → W → Option W
  | .int a, .int b => some (.int (a + b))
  | .str a, .str b => if a.length + b.length < LIM then some (.str (a ++ b)) else none
  | x, y => match lstOf S x, lstOf S y with
    | some a, some b => if a.length + b.length < LIM then some (.lst (a ++ b)) else none
    | _, _ => none
def opMul (S : Sto) : W → W → Option W
  | .int a, .int b => if CMul a b then some (.int (a * b)) else none
  | .str s, .int n => if decide (n.natAbs < LIM) && decide (s.length * n.toNat < LIM) then some (.str (List.replicate n.toNat s).flatten) else none
  | x, .int n => match lstOf S x with
    | some xs => if decide (n.natAbs < LIM) && decide (xs.length * n.toNat < LIM) then some (.lst (List.replicate n.toNat xs).flatten) else none
    | none => none
  | _, _ => none

def eqOp (S : Sto) (x y : W) : Option Bool :=
  match x, y with
  | .str a, .str b => some (a == b)
  | .int a, .int b => some (a == b)
  | .bl a, .bl b => some (a == b)
  | x, y => (vw S x).bind fun x' => (vw S y).bind fun y' => if datW 30 x' && datW 30 y' then some (eqW x' y') else none

def flatW : W → Bool
  | .non => true
  | .bl _ => true
  | .int _ => true
  | .str _ => true
  | _ => false
def inOp (S : Sto) (x y : W) : Option Bool :=
  match y with
  | .str b => match x with
    | .str [c] => some (b.contains c)
    | _ => none
  | y => match dicOf S y with
    | some (t, ks, _) => if isKey t x then some (dhas ks x) else none
    | none => match lstOf S y with
      | some ys => (vw S x).bind fun x' => (vws S ys).bind fun ys' => if datW 30 x' && datL 29 ys' then some (ys'.any fun z => eqW z x') else none
      | none => match y with
        | .tup ys => if flatW x && ys.all flatW then some (ys.any fun z => eqW z x) else none
        | _ => none

def ltOp (S : Sto) (x y : W) : Option Bool :=
  (vw S x).bind fun x' => (vw S y).bind fun y' => if datW 30 x' && datW 30 y' && alikeW x' y' && notNone x' then some (ltW x' y') else none

def ltSem (S : Sto) : W → W → Option Bool
  | .int a, .int b => some (decide (a < b))
  | x, y => ltOp S x y

def isiOp : IsT → W → Sto → Option Bool
  | .int, .int _, _ => some true
  | .int, .bl _, _ => some true
  | .int, .str _, _ => some false
  | .int, .tup _, _ => some false
  | .int, .lst _, _ => some false
  | .int, .ref n, S => match S[n]? with
    | some (.lst _) => some false
    | _ => none
  | .bool, .int _, _ => some false
  | .bool, .bl _, _ => some true
  | .bool, .str _, _ => some false
  | .str, .int _, _ => some false
  | .str, .bl _, _ => some false
  | .str, .str _, _ => some true
  | .list, .lst _, _ => some true
  | .list, .ref n, S => match S[n]? with
    | some (.lst _) => some true
    | _ => none
  | .tuple, .tup _, _ => some true
  | _, _, _ => none

def allBl : List W → Option Bool
  | [] => some true
  | .bl b :: r => (allBl r).map (b && ·)
  | _ => none

def allInt : List W → Bool
  | [] => true
  | .int _ :: r => allInt r
  | _ => false
def sortedSem (S : Sto) (x : W) : Option (List W) :=
  match lstOf S x with
  | some xs => if datL 30 xs && sortOk xs && decide (xs.length < LIM) then some (sortW xs) else none
  | none => match dicOf S x with
    | some (false, ks, _) => if allInt ks && decide (ks.length < 64) then some (sortW ks) else none
    | _ => none
/-- len -/
def lenSem (S : Sto) (x : W) : Option Int :=
  match x with
  | .str s => if s.length < LIM then some s.length else none
  | x => match seqOf S x with
    | some xs => some xs.length
    | none => (dicOf S x).map fun d => (d.2.1.length : Int)
/-- x[i] -/
def idxSem (S : Sto) (x y : W) : Option W :=
  match x with
  | .str s => match y with
    | .int i => if s.length < LIM then (ixN s.length i).bind fun j => s[j]?.map fun c => .str [c] else none
    | _ => none
  | x => match seqOf S x with
    | some xs => match y with
      | .int i => (ixN xs.length i).bind fun j => xs[j]?
      | _ => none
    | none => match dicOf S x with
      | some (t, ks, vs) => if isKey t y then dget ks vs y else none
      | none => none
/-- x[i:j] -/
def sliceSem (S : Sto) (x : W) (i j : Option Int) : Option W :=
  match x with
  | .str s => if s.length < LIM then some (.str (cut s i j)) else none
  | .klst ns => some (.lst (cut (ns.map .int) i j))
  | x => (lstOf S x).map fun xs => .lst (cut xs i j)
def partsOf (lo hi : Bool) (r : List W) : Option (Option Int × Option Int) :=
  match lo, hi, r with
  | false, false, [] => some (none, none)
  | true, false, [.int i] => some (some i, none)
  | false, true, [.int j] => some (none, some j)
  | true, true, [.int i, .int j] => some (some i, some j)
  | _, _, _ => none
def indexSem (S : Sto) (x y : W) : Option Nat :=
  match lstOf S x with
  | some xs => (vw S y).bind fun y' => (vws S xs).bind fun xs' => if datW 30 y' && datL 30 xs' then xs'.findIdx? fun z => eqW z y' else none
  | none => none
def isInt : W → Bool
  | .int _ => true
  | _ => false
def countSem (S : Sto) (x y : W) : Option Nat :=
  match lstOf S x with
  | some xs => if isInt y && allInt xs then some (xs.countP fun z => eqW z y) else none
  | none => none

/-- a, a + 1, .. below n, as a list or a tuple -/
def rgW (tp : Bool) (a n : Int) : W := if tp then .tup ((List.range (n - a).toNat).map fun (k : Nat) => W.int (a + k)) else .lst ((List.range (n - a).toNat).map fun (k : Nat) => W.int (a + k))

def opSem (o : Op) (ws : List W) (S : Sto) : Option W :=
  match o, ws with
  | .add, [x, y] => opAdd S x y
  | .sub, [.int a, .int b] => some (.int (a - b))
  | .mul, [x, y] => opMul S x y
  | .fdiv, [.int a, .int b] => if CDiv b then some (.int (a / b)) else none
  | .mod, [.int a, .int b] => if 0 < b then some (.int (a % b)) else none
  | .pow, [.int a, .int b] => if CPow a b then some (.int (a ^ b.toNat)) else none
  | .neg, [.int a] => some (.int (-a))
  | .eq, [x, y] => (eqOp S x y).map .bl
  | .ne, [x, y] => (eqOp S x y).map fun b => .bl (!b)
  | .le, [.int a, .int b] => some (.bl (decide (a ≤ b)))
  | .gt, [.int a, .int b] => some (.bl (decide (b < a)))
  | .ge, [.int a, .int b] => some (.bl (decide (b ≤ a)))
  | .lt, [x, y] => (ltSem S x y).map .bl
  | .isin, [x, y] => (inOp S x y).map .bl
  | .notin, [x, y] => (inOp S x y).map fun b => .bl (!b)
  | .isnone, [x] => some (.bl (!notNone x))
  | .notnone, [x] => some (.bl (notNone x))
  | .idx, [x, y] => idxSem S x y
  | .slice lo hi, x :: r => (partsOf lo hi r).bind fun b => sliceSem S x b.1 b.2
  | .len, [x] => (lenSem S x).map .int
  | .list, [x] => (seqOf S x).map .lst
  | .tuple, [x] => (seqOf S x).map .tup
  | .sorted, [x] => (sortedSem S x).map .lst
  | .all, [x] => (lstOf S x).bind fun xs => (allBl xs).map .bl
  | .int, [.int i] => some (.int i)
  | .int, [.bl b] => some (.int (if b then 1 else 0))
  | .int, [.str s] => if !s.isEmpty && s.all isDig && decide (s.length < 600) then some (.int (digVal s)) else none
  | .str, [.int i] => if decide (i.natAbs < 10 ^ 60) then some (.str (strI i)) else none
  | .min, [.int a, .int b] => some (.int (if b < a then b else a))
  | .max, [.int a, .int b] => some (.int (if a < b then b else a))
  | .tupD, ws => if ws.length < LIM then some (.tup ws) else none
  | .lstD, ws => if ws.length < LIM then some (.lst ws) else none
  | .dicD t, [] => some (.dic t [] [])
  | .isi t, [x] => (isiOp t x S).map .bl
  | .mIndex, [x, y] => (indexSem S x y).map fun (j : Nat) => W.int (j : Int)
  | .mCount, [x, y] => (countSem S x y).map fun (j : Nat) => W.int (j : Int)
  | .mGet2, [x, k, v] => match dicOf S x with
    | some (t, ks, vs) => if isKey t k then some ((dget ks vs k).getD v) else none
    | none => none
  | .mGet1, [x, k] => match dicOf S x with
    | some (t, ks, vs) => if isKey t k then some ((dget ks vs k).getD .non) else none
    | none => none
  | .mJoin, [.str p, x] => match seqOf S x with
    | some xs => (strsOf xs).bind fun ss => if decide ((joinS p ss).length < LIM) && decide (p.length < LIM) then some (.str (joinS p ss)) else none
    | none => none
  | .mFind, [.str s, .str [c]] => if s.length < LIM then some (.int (idxI s c)) else none
  | .mStarts, [.str s, .str p] => some (.bl (p.isPrefixOf s))
  | .rangeL tp false, [.int n] => if decide (n.natAbs < LIM) then some (rgW tp 0 n) else none
  | .rangeL tp true, [.int a, .int n] => if decide (n.natAbs < LIM) && decide (a.natAbs < LIM) then some (rgW tp a n) else none
  | _, _ => none

/-! ### what changes a cell -/
inductive Eff where
  | append | extend | clear | pop0 | pop1 | insert | reverse | remove | dpop | setd
def effSem (o : Eff) (ws : List W) (S : Sto) : Option (W × Sto) :=
  match ws with
  | .ref n :: r => match S[n]? with
    | some (.lst xs) => match o, r with
      | .append, [x] => if xs.length < LIM then some (.non, S.set n (.lst (xs ++ [x]))) else none
      | .extend, [.lst ys] => if xs.length + ys.length < LIM then some (.non, S.set n (.lst (xs ++ ys))) else none
      | .clear, [] => some (.non, S.set n (.lst []))
      | .pop0, [] => match xs.getLast? with
        | some x => some (x, S.set n (.lst xs.dropLast))
        | none => none
      | .pop1, [.int i] => (ixN xs.length i).bind fun j => xs[j]?.map fun x => (x, S.set n (.lst (xs.eraseIdx j)))
      | .reverse, [] => some (.non, S.set n (.lst xs.reverse))
      | .insert, [.int i, x] => if decide (0 ≤ i) && decide (i.natAbs < LIM) && decide (xs.length < LIM) then some (.non, S.set n (.lst (xs.take i.toNat ++ x :: xs.drop i.toNat))) else none
      | .remove, [x] => (vw S x).bind fun x' => (vws S xs).bind fun xs' => if datW 30 x' && datL 30 xs' then (xs'.findIdx? fun z => eqW z x').map fun j => (.non, S.set n (.lst (xs.eraseIdx j))) else none
      | _, _ => none
    | some (.dic t ks vs) => match o, r with
      | .dpop, [k] => if !t && isKey t k then (dget ks vs k).map fun v => (v, S.set n (.dic t (ddelK ks k) (ddelV ks vs k))) else none
      | .setd, [k, v] => if t && isKey t k && decide (ks.length < LIM) then (match dget ks vs k with
        | some u => some (u, S)
        | none => some (v, S.set n (.dic t (ks ++ [k]) (vs ++ [v])))) else none
      | _, _ => none
    | _ => none
  | _ => none

/-- o[k] = v -/
def setSem (S : Sto) (o k v : W) : Option Sto :=
  match o with
  | .ref n => match S[n]? with
    | some (.lst xs) => match k with
      | .int i => (ixN xs.length i).map fun j => S.set n (.lst (xs.set j v))
      | _ => none
    | some (.dic t ks vs) => if isKey t k && decide (ks.length < LIM) then some (S.set n (.dic t (dputK ks k) (dputV ks vs k v))) else none
    | _ => none
  | _ => none
/-- o.f = v, the i-th field of the class c -/
def setFld (S : Sto) (c i : Nat) (o v : W) : Option Sto :=
  match o with
  | .ref n => match S[n]? with
    | some (.ins c' xs) => if c' = c then (if i < xs.length then some (S.set n (.ins c (xs.set i v))) else if i = xs.length then some (S.set n (.ins c (xs ++ [v]))) else none) else none
    | _ => none
  | _ => none

/-! ### what a for walks -/
inductive ItK where
  | list | tup | str | range1 | range2 | range3 | enum | zip | revL | revR
def zipT : List W → List W → List W
  | x :: xs, y :: ys => .tup [x, y] :: zipT xs ys
  | _, _ => []
def enumT : Nat → List W → List W
  | _, [] => []
  | i, x :: xs => .tup [.int i, x] :: enumT (i + 1) xs
def itVals (k : ItK) (ws : List W) : Option (List W) :=
  match k, ws with
  | .list, [.lst xs] => some xs
  | .list, [.klst ns] => some (ns.map .int)
  | .tup, [.tup xs] => some xs
  | .str, [.str s] => some (s.map fun c => .str [c])
  | .range1, [.int n] => if decide (n.natAbs < LIM) then some ((List.range n.toNat).map fun (j : Nat) => W.int (j : Int)) else none
  | .range2, [.int a, .int b] => if decide (a.natAbs < LIM) && decide (b.natAbs < LIM) then some ((List.range (b - a).toNat).map fun (j : Nat) => W.int (a + j)) else none
  | .range3, [.int a, .int b, .int c] => if decide (a.natAbs < LIM) && decide (b.natAbs < LIM) && decide (0 < c) && decide (c < 1000000) then some ((List.range (if a < b then ((b - a - 1) / c + 1).toNat else 0)).map fun (j : Nat) => W.int (a + j * c)) else none
  | .revL, [.lst xs] => some xs.reverse
  | .revR, [.int n] => if decide (n.natAbs < LIM) then some ((List.range n.toNat).map fun (j : Nat) => W.int (n - 1 - j)) else none
  | .enum, [.lst xs] => some (enumT 0 xs)
  | .zip, [.lst xs, .lst ys] => some (zipT xs ys)
  | _, _ => none

/-- a target: one name, or a tuple of names -/
inductive Tg where
  | one (i : Nat)
  | tup (is : List Nat)
def setAll : List Nat → List W → Env → Option Env
  | [], [], ρ => some ρ
  | i :: is, x :: xs, ρ => setAll is xs (ρ.set i (some x))
  | _, _, _ => none
def bindT (t : Tg) (x : W) (ρ : Env) : Option Env :=
  match t with
  | .one i => some (ρ.set i (some x))
  | .tup is => match x with
    | .tup xs => setAll is xs ρ
    | _ => none
def wipe (ρ : Env) : List Nat → Env
  | [] => ρ
  | v :: vs => (wipe ρ vs).set v none

/-! ### the mini-syntax -/
inductive Md where
  | pure | adopt | shared | move
/-- a method's receiver -/
inductive MTy where
  | list | dict | str
def tyOk (t : MTy) (w : W) (S : Sto) : Bool :=
  match t with
  | .list => (lstOf S w).isSome
  | .dict => (dicOf S w).isSome
  | .str => match w with
    | .str _ => true
    | _ => false
inductive E where
  | var (i : Nat)
  | con (w : W)
  | op (o : Op) (as : List E)
  | mth (t : MTy) (o : Op) (a : E) (as : List E)
  | eff (o : Eff) (a : E) (as : List E)
  | and (as : List E)
  | or (as : List E)
  | not (a : E)
  | ife (c a b : E)
  | chain (o1 o2 : Op) (a b c : E)
  | comp (elt : E) (t : Tg) (k : ItK) (srcs : List E) (cond : List E) (own : List Nat)
  | call (m : Md) (f : Nat) (as : List E)
  | new (m : Md) (c f : Nat) (as : List E)
  | mcall (m : Md) (c f : Nat) (a : E) (as : List E)
  | fld (c i : Nat) (a : E)
  | isx (cs : List Nat) (a : E)
  | fstr (as : List E)
  | compR (elt : E) (t : Tg) (a : E) (cond : List E) (own : List Nat)
  | mut (a : E)
  | toI (a : E)
  | disp (k v : E)

abbrev CallF := Nat → List W → Sto → Rs W

def Rs.bind {α β : Type} (r : Rs α) (f : α → Sto → Rs β) : Rs β :=
  match r with
  | .ok a S => f a S
  | .ex c S => .ex c S
  | .bad => .bad
def ofO {α : Type} (o : Option α) (S : Sto) : Rs α :=
  match o with
  | some a => .ok a S
  | none => .bad

/-- a callee's cells put behind the caller's -/
def shR (k : Nat) (n : Nat) : Option W := some (.ref (n + k))
def shO (b : Bool) (g : Nat → Option W) : Ob → Option Ob
  | .lst xs => (subL b g xs).map .lst
  | .dic t ks vs => (subL b g ks).bind fun ks' => (subL b g vs).map (.dic t ks')
  | .ins c xs => (subL b g xs).map (.ins c)
  | .dead => some .dead
def shS (b : Bool) (g : Nat → Option W) : Sto → Option Sto
  | [] => some []
  | o :: S => (shO b g o).bind fun o' => (shS b g S).map (o' :: ·)
/-- a call: pure: the arguments as they stand, a store of its own, what it tells frozen -/
def callSem (cf : CallF) (m : Md) (f : Nat) (ws : List W) (S : Sto) : Rs W :=
  match m with
  | .shared => cf f ws S
  | .pure => match vws S ws with
    | none => .bad
    | some us => match cf f us [] with
      | .ok w S' => ofO (if rfreeL ws then vw S' w else vwB S' w) S
      | .ex c _ => .ex c S
      | .bad => .bad
  | .adopt => match vws S ws with
    | none => .bad
    | some us => match cf f us [] with
      | .ok (.ref n) S' => match S'[n]? with
        | some (.lst xs) => match (if rfreeL ws then vws (S'.set n .dead) xs else subL true (lev true (S'.set n .dead) 3) xs) with
          | some ys => .ok (.ref S.length) (S ++ [.lst ys])
          | none => .bad
        | _ => .bad
      | .ok _ _ => .bad
      | .ex c _ => .ex c S
      | .bad => .bad
  | .move => match vws S ws with
    | none => .bad
    | some us => match cf f us [] with
      | .ok w S' => match sub (!rfreeL ws) (shR S.length) w, shS (!rfreeL ws) (shR S.length) S' with
        | some w', some S'' => .ok w' (S ++ S'')
        | _, _ => .bad
      | .ex c _ => .ex c S
      | .bad => .bad
def newSem (cf : CallF) (m : Md) (c f : Nat) (ws : List W) (S : Sto) : Rs W :=
  match m with
  | .shared => match cf f (.ref S.length :: ws) (S ++ [.ins c []]) with
    | .ok .non S' => .ok (.ref S.length) S'
    | .ok _ _ => .bad
    | .ex c' S' => .ex c' S'
    | .bad => .bad
  | .pure => match vws S ws with
    | none => .bad
    | some us => match cf f (.ref 0 :: us) [.ins c []] with
      | .ok .non S' => ofO (if rfreeL ws then vw S' (.ref 0) else vwB S' (.ref 0)) S
      | .ok _ _ => .bad
      | .ex c' _ => .ex c' S
      | .bad => .bad
  | _ => .bad

/-- o.f -/
def fldSem (S : Sto) (c i : Nat) (w : W) : Option W := match recOf S w with
  | some (c', xs) => if c' = c then xs[i]? else none
  | none => none
/-- isinstance(x, own classes) -/
def isxSem (cs : List Nat) (S : Sto) : W → Option Bool
  | .non => if cs.all (fun c => decide (9 ≤ c)) then some false else none
  | .exn k => if cs.all (fun c => decide (9 ≤ c)) then some (cs.any fun c => subX k c) else none
  | .rcd k _ => if cs = [k] && decide (k < 9) then some true else none
  | .ref n => match S[n]? with
    | some (.ins k _) => if cs = [k] && decide (k < 9) then some true else none
    | _ => none
  | _ => none
/-- what an f-string's part tells -/
def fpart : W → Option (List Nat)
  | .str s => some s
  | .int i => if decide (i.natAbs < 10 ^ 60) then some (strI i) else none
  | _ => none
def fcat : List W → Option (List Nat)
  | [] => some []
  | x :: xs => (fpart x).bind fun s => (fcat xs).map (s ++ ·)
/-- a comprehension's turns -/
def compL (elt cond : Env → Sto → Rs W) (t : Tg) (ρ : Env) : List W → Sto → Rs (List W)
  | [], S => .ok [] S
  | x :: xs, S => match bindT t x ρ with
    | none => .bad
    | some ρ' => match cond ρ' S with
      | .ok (.bl true) S1 => match elt ρ' S1 with
        | .ok y S2 => (compL elt cond t ρ xs S2).bind fun ys S3 => .ok (y :: ys) S3
        | _ => .bad
      | .ok (.bl false) S1 => compL elt cond t ρ xs S1
      | _ => .bad

/-- over a cell, by places -/
def compC (elt cond : Env → Sto → Rs W) (t : Tg) (ρ : Env) (n : Nat) : Nat → Nat → Sto → Rs (List W)
  | 0, _, _ => .bad
  | k + 1, i, S => match S[n]? with
    | some (.lst xs) => match xs[i]? with
      | none => .ok [] S
      | some x => match bindT t x ρ with
        | none => .bad
        | some ρ' => match cond ρ' S with
          | .ok (.bl true) S1 => match elt ρ' S1 with
            | .ok y S2 => (compC elt cond t ρ n k (i + 1) S2).bind fun ys S3 => .ok (y :: ys) S3
            | _ => .bad
          | .ok (.bl false) S1 => compC elt cond t ρ n k (i + 1) S1
          | _ => .bad
    | _ => .bad
def isDicM : Eff → Bool
  | .dpop => true
  | .setd => true
  | _ => false
def effTy (o : Eff) : MTy := if isDicM o then .dict else .list
mutual
def ev (cf : CallF) : E → Env → Sto → Rs W
  | .var i, ρ, S => match ρ[i]? with
    | some (some w) => .ok w S
    | _ => .bad
  | .con w, _, S => .ok w S
  | .op o as, ρ, S => (evs cf as ρ S).bind fun ws S' => ofO (opSem o ws S') S'
  | .mth t o a as, ρ, S => (ev cf a ρ S).bind fun w S1 => if tyOk t w S1 then (evs cf as ρ S1).bind fun ws S2 => ofO (opSem o (w :: ws) S2) S2 else .bad
  | .eff o a as, ρ, S => (ev cf a ρ S).bind fun w S1 => if tyOk (effTy o) w S1 then (evs cf as ρ S1).bind fun ws S2 => match effSem o (w :: ws) S2 with
    | some (w', S3) => .ok w' S3
    | none => .bad
    else .bad
  | .and as, ρ, S => evAnd cf as ρ S
  | .or as, ρ, S => evOr cf as ρ S
  | .not a, ρ, S => (ev cf a ρ S).bind fun w S' => match w with
    | .bl b => .ok (.bl (!b)) S'
    | _ => .bad
  | .ife c a b, ρ, S => (ev cf c ρ S).bind fun w S' => match w with
    | .bl true => ev cf a ρ S'
    | .bl false => ev cf b ρ S'
    | _ => .bad
  | .chain o1 o2 a b c, ρ, S => (ev cf a ρ S).bind fun x S1 => (ev cf b ρ S1).bind fun y S2 => match opSem o1 [x, y] S2 with
    | some (.bl true) => (ev cf c ρ S2).bind fun z S3 => ofO (opSem o2 [y, z] S3) S3
    | some (.bl false) => .ok (.bl false) S2
    | _ => .bad
  | .comp elt t k srcs cond own, ρ, S => (evs cf srcs ρ S).bind fun ws S1 => match itVals k ws with
    | some xs => if xs.length < LIM then (compL (fun ρ' S' => ev cf elt ρ' S') (fun ρ' S' => evAll cf cond ρ' S') t (wipe ρ own) xs S1).bind fun ys S2 => .ok (.lst ys) S2 else .bad
    | none => .bad
  | .call m f as, ρ, S => (evs cf as ρ S).bind fun ws S1 => callSem cf m f ws S1
  | .new m c f as, ρ, S => (evs cf as ρ S).bind fun ws S1 => newSem cf m c f ws S1
  | .mcall m c f a as, ρ, S => (ev cf a ρ S).bind fun w S1 => match recOf S1 w with
    | some (c', _) => if c' = c then (evs cf as ρ S1).bind fun ws S2 => callSem cf m f (w :: ws) S2 else .bad
    | none => .bad
  | .fld c i a, ρ, S => (ev cf a ρ S).bind fun w S1 => ofO (fldSem S1 c i w) S1
  | .isx cs a, ρ, S => (ev cf a ρ S).bind fun w S1 => ofO ((isxSem cs S1 w).map .bl) S1
  | .fstr as, ρ, S => (evs cf as ρ S).bind fun ws S1 => match fcat ws with
    | some s => if s.length < LIM then .ok (.str s) S1 else .bad
    | none => .bad
  | .compR elt t a cond own, ρ, S => (ev cf a ρ S).bind fun w S1 => match w with
    | .ref n => (compC (fun ρ' S' => ev cf elt ρ' S') (fun ρ' S' => evAll cf cond ρ' S') t (wipe ρ own) n LIM 0 S1).bind fun ys S2 => .ok (.lst ys) S2
    | _ => .bad
  | .mut a, ρ, S => (ev cf a ρ S).bind fun w S1 => match w with
    | .lst xs => .ok (.ref S1.length) (S1 ++ [.lst xs])
    | .dic t ks vs => .ok (.ref S1.length) (S1 ++ [.dic t ks vs])
    | _ => .bad
  | .toI a, ρ, S => (ev cf a ρ S).bind fun w S1 => match w with
    | .int i => .ok (.int i) S1
    | _ => .bad
  | .disp k v, ρ, S => (ev cf k ρ S).bind fun x S1 => (ev cf v ρ S1).bind fun y S2 => if isKey false x then .ok (.ref S2.length) (S2 ++ [.dic false [x] [y]]) else .bad
def evs (cf : CallF) : List E → Env → Sto → Rs (List W)
  | [], _, S => .ok [] S
  | a :: as, ρ, S => (ev cf a ρ S).bind fun w S1 => (evs cf as ρ S1).bind fun ws S2 => .ok (w :: ws) S2
def evAnd (cf : CallF) : List E → Env → Sto → Rs W
  | [], _, _ => .bad
  | [a], ρ, S => (ev cf a ρ S).bind fun w S1 => match w with
    | .bl b => .ok (.bl b) S1
    | _ => .bad
  | a :: as, ρ, S => (ev cf a ρ S).bind fun w S1 => match w with
    | .bl true => evAnd cf as ρ S1
    | .bl false => .ok (.bl false) S1
    | _ => .bad
def evOr (cf : CallF) : List E → Env → Sto → Rs W
  | [], _, _ => .bad
  | [a], ρ, S => (ev cf a ρ S).bind fun w S1 => match w with
    | .bl b => .ok (.bl b) S1
    | _ => .bad
  | a :: as, ρ, S => (ev cf a ρ S).bind fun w S1 => match w with
    | .bl true => .ok (.bl true) S1
    | .bl false => evOr cf as ρ S1
    | _ => .bad
/-- the conditions of a comprehension: none or one -/
def evAll (cf : CallF) : List E → Env → Sto → Rs W
  | [], _, S => .ok (.bl true) S
  | a :: _, ρ, S => ev cf a ρ S
end

/-- x op= y where the place is stored anew -/
def augSem (o : Op) (x y : W) : Option W :=
  match o, x, y with
  | .add, .int a, .int b => some (.int (a + b))
  | .add, .str a, .str b => if a.length + b.length < LIM then some (.str (a ++ b)) else none
  | .sub, .int a, .int b => some (.int (a - b))
  | .mul, .int a, .int b => if CMul a b then some (.int (a * b)) else none
  | _, _, _ => none

/-! ### statements -/
inductive Stm where
  | expr (e : E)
  | asg (t : Tg) (e : E)
  | setI (v o k : E)
  | setF (c i : Nat) (v o : E)
  | aug (i : Nat) (o : Op) (e : E)
  | ite (c : E) (a b : List Stm)
  | forIn (t : Tg) (k : ItK) (srcs : List E) (body : List Stm)
  | forR (t : Tg) (a : E) (body : List Stm)
  | whil (c : E) (body : List Stm)
  | ret (e : E)
  | cont
  | brk
  | pass
  | rais (c : Nat)
  | frz (i : Nat)
  | wipe (vs : List Nat)
  | augF (c i : Nat) (v : E) (o : Op) (e : E)
  | augS (v k : E) (o : Op) (e : E)
  | forD (t : Tg) (both : Bool) (a : E) (body : List Stm)
  | tryE (ks : List Nat) (body : List Stm) (c : Nat) (i : Option Nat) (hd : List Stm)

def forL (t : Tg) (body : Env → Sto → SR) : List W → Env → Sto → SR
  | [], ρ, S => .next ρ S
  | x :: xs, ρ, S => match bindT t x ρ with
    | none => .bad
    | some ρ' => match body ρ' S with
      | .next ρ2 S2 => forL t body xs ρ2 S2
      | .cont ρ2 S2 => forL t body xs ρ2 S2
      | .brk ρ2 S2 => .next ρ2 S2
      | r => r
/-- over a cell, by places -/
def forC (t : Tg) (body : Env → Sto → SR) (n : Nat) : Nat → Nat → Env → Sto → SR
  | 0, _, _, _ => .bad
  | k + 1, i, ρ, S => match S[n]? with
    | some (.lst xs) => match xs[i]? with
      | none => .next ρ S
      | some x => match bindT t x ρ with
        | none => .bad
        | some ρ' => match body ρ' S with
          | .next ρ2 S2 => forC t body n k (i + 1) ρ2 S2
          | .cont ρ2 S2 => forC t body n k (i + 1) ρ2 S2
          | .brk ρ2 S2 => .next ρ2 S2
          | r => r
    | _ => .bad
def whileL (c : Env → Sto → Rs W) (body : Env → Sto → SR) : Nat → Env → Sto → SR
  | 0, _, _ => .bad
  | k + 1, ρ, S => match c ρ S with
    | .ok (.bl true) S1 => match body ρ S1 with
      | .next ρ2 S2 => whileL c body k ρ2 S2
      | .cont ρ2 S2 => whileL c body k ρ2 S2
      | .brk ρ2 S2 => .next ρ2 S2
      | r => r
    | .ok (.bl false) S1 => .next ρ S1
    | .ex x S1 => .ex ρ x S1
    | _ => .bad

def SR.seq (r : SR) (f : Env → Sto → SR) : SR :=
  match r with
  | .next ρ S => f ρ S
  | r => r
def Rs.sr {α : Type} (r : Rs α) (ρ : Env) (f : α → Sto → SR) : SR :=
  match r with
  | .ok a S => f a S
  | .ex c S => .ex ρ c S
  | .bad => .bad
/-- the cell n is put back -/
def SR.back (r : SR) (n : Nat) (o : Ob) : SR :=
  match r with
  | .next ρ S => .next ρ (S.set n o)
  | .ret w S => .ret w (S.set n o)
  | .brk ρ S => .brk ρ (S.set n o)
  | .cont ρ S => .cont ρ (S.set n o)
  | _ => .bad
/-- the caught exception's name goes -/
def unE (i : Option Nat) (ρ : Env) : Env := match i with
  | some i => ρ.set i none
  | none => ρ
def SR.unb (r : SR) (i : Option Nat) : SR :=
  match r with
  | .next ρ S => .next (unE i ρ) S
  | .ret w S => .ret w S
  | .brk ρ S => .brk (unE i ρ) S
  | .cont ρ S => .cont (unE i ρ) S
  | _ => .bad
def zip2 : List W → List W → List W
  | k :: ks, v :: vs => .tup [k, v] :: zip2 ks vs
  | _, _ => []

mutual
def exec (cf : CallF) (L : Nat) : Stm → Env → Sto → SR
  | .expr e, ρ, S => (ev cf e ρ S).sr ρ fun _ S1 => .next ρ S1
  | .asg t e, ρ, S => (ev cf e ρ S).sr ρ fun w S1 => match bindT t w ρ with
    | some ρ' => .next ρ' S1
    | none => .bad
  | .setI v o k, ρ, S => (ev cf v ρ S).sr ρ fun v' S1 => (ev cf o ρ S1).sr ρ fun o' S2 => (ev cf k ρ S2).sr ρ fun k' S3 => match setSem S3 o' k' v' with
    | some S4 => .next ρ S4
    | none => .bad
  | .setF c i v o, ρ, S => (ev cf v ρ S).sr ρ fun v' S1 => (ev cf o ρ S1).sr ρ fun o' S2 => match setFld S2 c i o' v' with
    | some S3 => .next ρ S3
    | none => .bad
  | .aug i o e, ρ, S => match ρ[i]? with
    | some (some x) => (ev cf e ρ S).sr ρ fun y S1 => match augSem o x y with
      | some z => .next (ρ.set i (some z)) S1
      | none => .bad
    | _ => .bad
  | .ite c a b, ρ, S => (ev cf c ρ S).sr ρ fun w S1 => match w with
    | .bl true => execs cf L a ρ S1
    | .bl false => execs cf L b ρ S1
    | _ => .bad
  | .forIn t k srcs body, ρ, S => (evs cf srcs ρ S).sr ρ fun ws S1 => match itVals k ws with
    | some xs => forL t (fun ρ' S' => execs cf L body ρ' S') xs ρ S1
    | none => .bad
  | .forR t a body, ρ, S => (ev cf a ρ S).sr ρ fun w S1 => match w with
    | .ref n => forC t (fun ρ' S' => execs cf L body ρ' S') n L 0 ρ S1
    | _ => .bad
  | .whil c body, ρ, S => whileL (fun ρ' S' => ev cf c ρ' S') (fun ρ' S' => execs cf L body ρ' S') L ρ S
  | .ret e, ρ, S => (ev cf e ρ S).sr ρ fun w S1 => .ret w S1
  | .cont, ρ, S => .cont ρ S
  | .brk, ρ, S => .brk ρ S
  | .pass, ρ, S => .next ρ S
  | .rais c, ρ, S => .ex ρ c S
  | .frz i, ρ, S => match ρ[i]? with
    | some (some (.ref n)) => match S[n]? with
      | some (.lst xs) => if rfreeL xs then .next (ρ.set i (some (.lst xs))) (S.set n .dead) else .bad
      | some (.dic t ks vs) => if rfreeL ks && rfreeL vs then .next (ρ.set i (some (.dic t ks vs))) (S.set n .dead) else .bad
      | _ => .bad
    | _ => .bad
  | .wipe vs, ρ, S => .next (wipe ρ vs) S
  | .augF c i v o e, ρ, S => (ev cf v ρ S).sr ρ fun w S1 => match fldSem S1 c i w with
    | some x => (ev cf e ρ S1).sr ρ fun y S2 => match augSem o x y with
      | some z => match setFld S2 c i w z with
        | some S3 => .next ρ S3
        | none => .bad
      | none => .bad
    | none => .bad
  | .augS v k o e, ρ, S => (ev cf v ρ S).sr ρ fun d S1 => (ev cf k ρ S1).sr ρ fun k' S2 => match dicOf S2 d with
    | some (t, ks, vs) => if isKey t k' then (match dget ks vs k' with
      | some x => (ev cf e ρ S2).sr ρ fun y S3 => match augSem o x y with
        | some z => match setSem S3 d k' z with
          | some S4 => .next ρ S4
          | none => .bad
        | none => .bad
      | none => .bad) else .bad
    | none => .bad
  | .forD t both a body, ρ, S => (ev cf a ρ S).sr ρ fun w S1 => match w with
    | .ref n => match S1[n]? with
      | some (.dic b ks vs) => if b = both then (forL t (fun ρ' S' => execs cf L body ρ' S') (if both then zip2 ks vs else vs) ρ (S1.set n .dead)).back n (.dic b ks vs) else .bad
      | _ => .bad
    | _ => .bad
  | .tryE ks body c i hd, ρ, S => match execs cf L body ρ S with
    | .ex ρ1 k S1 => if ks.contains k then (if subX k c then (execs cf L hd (match i with
      | some i => ρ1.set i (some (.exn k))
      | none => ρ1) S1).unb i else .ex ρ1 k S1) else .bad
    | r => r
def execs (cf : CallF) (L : Nat) : List Stm → Env → Sto → SR
  | [], ρ, S => .next ρ S
  | s :: ss, ρ, S => (exec cf L s ρ S).seq fun ρ1 S1 => execs cf L ss ρ1 S1
end

structure Fn where
  np : Nat
  ns : Nat
  body : List Stm

def runF (P : Nat → Option Fn) (L : Nat) : Nat → CallF
  | 0, _, _, _ => .bad
  | d + 1, f, ws, S => match P f with
    | none => .bad
    | some fn => if ws.length = fn.np then
        match execs (runF P L d) L fn.body (ws.map some ++ List.replicate (fn.ns - fn.np) none) S with
        | .ret w S' => .ok w S'
        | .next _ S' => .ok .non S'
        | .ex _ c S' => .ex c S'
        | _ => .bad
      else .bad

end Tw

/-! Tw, part B: what a value stands for in the hand layer's abstract heap. -/
namespace Tw
open PySem PySem.Spec PyProof.Rows L2

structure Gx where
  K : PySem.W.Frag
  cad : Nat → Addr
  fld : Nat → List PySem.Str
  exs : List Nat

def kW : Key → W
  | .inl i => .int i
  | .inr x => .str x.cps.toList

/-- an exception that was caught: what is kept of it -/
def ExK (C a : Addr) : HO := .ext fun h => ∃ (oe : Obj) (vs : Array Value), h.get? a = some oe ∧ Zc (.ref C) none oe ∧ oe.data = .fields vs
mutual
/-- w stands at v; I: what never changes; φ: the cells' addresses -/
def Rel (G : Gx) (I : Hp) (φ : List Addr) : W → V → Prop
  | .non, v => v = .non
  | .bl b, v => v = .bl b
  | .int i, v => v = .int i
  | .str s, v => v = .str ⟨s.toArray⟩
  | .tup ws, v => ∃ a vs, v = .ref a ∧ I a = some (.tup vs) ∧ Rels G I φ ws vs
  | .lst ws, v => ∃ a vs, v = .ref a ∧ I a = some (.lst vs) ∧ Rels G I φ ws vs
  | .dic false ks vs, v => ∃ a kvs, v = .ref a ∧ I a = some (.dK kvs) ∧ ks = kvs.map (fun p => kW p.1) ∧ Rels G I φ vs (kvs.map (·.2))
  | .dic true ks vs, v => ∃ a kvs, v = .ref a ∧ I a = some (.dT kvs) ∧ ks = kvs.map (fun p => .tup (p.1.map kW)) ∧ Rels G I φ vs (kvs.map (·.2))
  | .rcd c ws, v => ∃ a dx fs, v = .ref a ∧ I a = some (.ins (G.cad c) dx fs) ∧ fs.map (·.1) = (G.fld c).take fs.length ∧ Rels G I φ ws (fs.map (·.2))
  | .ref n, v => ∃ a, v = .ref a ∧ φ[n]? = some a
  | .exn c, v => ∃ a, v = .ref a ∧ I a = some (ExK (G.cad c) a) ∧ c ∈ G.exs
  | .klst ns, v => ∃ a, v = .ref a ∧ SqL G.K I a (ns.map V.int)
def Rels (G : Gx) (I : Hp) (φ : List Addr) : List W → List V → Prop
  | [], vs => vs = []
  | w :: ws, vs => ∃ x xs, vs = x :: xs ∧ Rel G I φ w x ∧ Rels G I φ ws xs
end

variable {G : Gx} {I I' I1 I2 H H' H1 H2 : Hp} {φ φ' φ1 φ2 : List Addr}

theorem rd_mono {a : Addr} {o : HO} (s : Same I I') (h : I a = some o) : Rd I' a o := .inl (s _ _ h)
def Pre (φ φ' : List Addr) : Prop := ∃ ψ, φ' = φ ++ ψ
theorem Pre.refl (φ : List Addr) : Pre φ φ := ⟨[], by simp⟩
theorem Pre.trans (a : Pre φ φ1) (b : Pre φ1 φ2) : Pre φ φ2 := by
  obtain ⟨x, rfl⟩ := a
  obtain ⟨y, rfl⟩ := b
  exact ⟨x ++ y, by simp⟩
theorem Pre.get {n : Nat} {a : Addr} (p : Pre φ φ') (h : φ[n]? = some a) : φ'[n]? = some a := by
  obtain ⟨x, rfl⟩ := p
  have := (List.getElem?_eq_some_iff.mp h).1
  rw [List.getElem?_append_left this]
  exact h
mutual
theorem Rel.mono (s : Same I I') (p : Pre φ φ') : ∀ {w : W} {v : V}, Rel G I φ w v → Rel G I' φ' w v
  | .non, _, h => h
  | .bl _, _, h => h
  | .int _, _, h => h
  | .str _, _, h => h
  | .tup ws, _, ⟨a, vs, e, h, r⟩ => ⟨a, vs, e, s _ _ h, Rels.mono s p r⟩
  | .lst ws, _, ⟨a, vs, e, h, r⟩ => ⟨a, vs, e, s _ _ h, Rels.mono s p r⟩
  | .dic false ks vs, _, ⟨a, kvs, e, h, k, r⟩ => ⟨a, kvs, e, s _ _ h, k, Rels.mono s p r⟩
  | .dic true ks vs, _, ⟨a, kvs, e, h, k, r⟩ => ⟨a, kvs, e, s _ _ h, k, Rels.mono s p r⟩
  | .rcd c ws, _, ⟨a, dx, fs, e, h, k, r⟩ => ⟨a, dx, fs, e, s _ _ h, k, Rels.mono s p r⟩
  | .ref n, _, ⟨a, e, h⟩ => ⟨a, e, p.get h⟩
  | .exn _, _, ⟨a, e, h, hk⟩ => ⟨a, e, s _ _ h, hk⟩
  | .klst ns, _, ⟨a, e, h⟩ => ⟨a, e, s.seq h⟩
theorem Rels.mono (s : Same I I') (p : Pre φ φ') : ∀ {ws : List W} {vs : List V}, Rels G I φ ws vs → Rels G I' φ' ws vs
  | [], _, h => h
  | w :: ws, _, ⟨x, xs, e, h, r⟩ => ⟨x, xs, e, Rel.mono s p h, Rels.mono s p r⟩
end
mutual
/-- a value without refs does not ask for the cells; I may be changed where the value does not look -/
theorem Rel.rfree : ∀ {w : W} {v : V}, rfree w = true → Rel G I φ w v → Rel G I φ' w v
  | .non, _, _, h => h
  | .bl _, _, _, h => h
  | .int _, _, _, h => h
  | .str _, _, _, h => h
  | .tup ws, _, f, ⟨a, vs, e, h, r⟩ => ⟨a, vs, e, h, Rels.rfree (by simpa [Tw.rfree] using f) r⟩
  | .lst ws, _, f, ⟨a, vs, e, h, r⟩ => ⟨a, vs, e, h, Rels.rfree (by simpa [Tw.rfree] using f) r⟩
  | .dic false ks vs, _, f, ⟨a, kvs, e, h, k, r⟩ => ⟨a, kvs, e, h, k, Rels.rfree (by simp [Tw.rfree] at f; exact f.2) r⟩
  | .dic true ks vs, _, f, ⟨a, kvs, e, h, k, r⟩ => ⟨a, kvs, e, h, k, Rels.rfree (by simp [Tw.rfree] at f; exact f.2) r⟩
  | .rcd c ws, _, f, ⟨a, dx, fs, e, h, k, r⟩ => ⟨a, dx, fs, e, h, k, Rels.rfree (by simpa [Tw.rfree] using f) r⟩
  | .ref n, _, f, _ => by simp [Tw.rfree] at f
  | .exn _, _, _, h => h
  | .klst _, _, _, h => h
theorem Rels.rfree : ∀ {ws : List W} {vs : List V}, rfreeL ws = true → Rels G I φ ws vs → Rels G I φ' ws vs
  | [], _, _, h => h
  | w :: ws, _, f, ⟨x, xs, e, h, r⟩ => by
    simp [rfreeL] at f
    exact ⟨x, xs, e, Rel.rfree f.1 h, Rels.rfree f.2 r⟩
end
theorem Rels.length : ∀ {ws : List W} {vs : List V}, Rels G I φ ws vs → vs.length = ws.length
  | [], _, h => by rw [show _ = [] from h]; rfl
  | w :: ws, _, ⟨x, xs, e, _, r⟩ => by rw [e, List.length_cons, List.length_cons, Rels.length r]
theorem Rels.get : ∀ {ws : List W} {vs : List V} {i : Nat} {w : W}, Rels G I φ ws vs → ws[i]? = some w → ∃ v, vs[i]? = some v ∧ Rel G I φ w v
  | [], _, _, _, _, e => by simp at e
  | w :: ws, _, 0, _, ⟨x, xs, e, h, _⟩, g => by
    simp at g; subst g; subst e; exact ⟨x, rfl, h⟩
  | w :: ws, _, i + 1, _, ⟨x, xs, e, _, r⟩, g => by
    subst e
    obtain ⟨v, h1, h2⟩ := Rels.get (i := i) r (by simpa using g)
    exact ⟨v, by simpa using h1, h2⟩
theorem Rels.get' : ∀ {ws : List W} {vs : List V} {i : Nat} {v : V}, Rels G I φ ws vs → vs[i]? = some v → ∃ w, ws[i]? = some w ∧ Rel G I φ w v
  | [], _, _, _, h, e => by rw [show _ = [] from h] at e; simp at e
  | w :: ws, _, 0, _, ⟨x, xs, e, h, _⟩, g => by
    subst e; simp at g; subst g; exact ⟨w, rfl, h⟩
  | w :: ws, _, i + 1, _, ⟨x, xs, e, _, r⟩, g => by
    subst e
    obtain ⟨v, h1, h2⟩ := Rels.get' (i := i) r (by simpa using g)
    exact ⟨v, by simpa using h1, h2⟩
theorem Rels.append : ∀ {ws us : List W} {vs xs : List V}, Rels G I φ ws vs → Rels G I φ us xs → Rels G I φ (ws ++ us) (vs ++ xs)
  | [], _, _, _, h, r => by rw [show _ = [] from h]; exact r
  | w :: ws, _, _, _, ⟨x, xs, e, h, t⟩, r => by subst e; exact ⟨x, _, rfl, h, Rels.append t r⟩
theorem Rels.one {w : W} {v : V} (h : Rel G I φ w v) : Rels G I φ [w] [v] := ⟨v, [], rfl, h, rfl⟩
theorem Rels.take : ∀ {ws : List W} {vs : List V} (n : Nat), Rels G I φ ws vs → Rels G I φ (ws.take n) (vs.take n)
  | _, _, 0, _ => by simp only [List.take_zero]; rfl
  | [], _, n + 1, h => by rw [show _ = [] from h]; rfl
  | w :: ws, _, n + 1, ⟨x, xs, e, h, r⟩ => by subst e; exact ⟨x, _, rfl, h, Rels.take n r⟩
theorem Rels.drop : ∀ {ws : List W} {vs : List V} (n : Nat), Rels G I φ ws vs → Rels G I φ (ws.drop n) (vs.drop n)
  | _, _, 0, r => r
  | [], _, n + 1, h => by rw [show _ = [] from h]; rfl
  | w :: ws, _, n + 1, ⟨x, xs, e, h, r⟩ => by subst e; exact Rels.drop n r
theorem Rels.set {w : W} {v : V} (h0 : Rel G I φ w v) : ∀ {ws : List W} {vs : List V} (i : Nat), Rels G I φ ws vs → Rels G I φ (ws.set i w) (vs.set i v)
  | [], _, _, h => by rw [show _ = [] from h]; rfl
  | _ :: ws, _, 0, ⟨x, xs, e, h, r⟩ => by subst e; exact ⟨v, _, rfl, h0, r⟩
  | _ :: ws, _, i + 1, ⟨x, xs, e, h, r⟩ => by subst e; exact ⟨x, _, rfl, h, Rels.set h0 i r⟩
theorem Rels.eraseIdx : ∀ {ws : List W} {vs : List V} (i : Nat), Rels G I φ ws vs → Rels G I φ (ws.eraseIdx i) (vs.eraseIdx i)
  | [], _, _, h => by rw [show _ = [] from h]; rfl
  | _ :: ws, _, 0, ⟨x, xs, e, h, r⟩ => by subst e; exact r
  | _ :: ws, _, i + 1, ⟨x, xs, e, h, r⟩ => by subst e; exact ⟨x, _, rfl, h, Rels.eraseIdx i r⟩
theorem Rels.reverse : ∀ {ws : List W} {vs : List V}, Rels G I φ ws vs → Rels G I φ ws.reverse vs.reverse
  | [], _, h => by rw [show _ = [] from h]; rfl
  | _ :: ws, _, ⟨x, xs, e, h, r⟩ => by
    subst e
    rw [List.reverse_cons, List.reverse_cons]
    exact Rels.append (Rels.reverse r) (Rels.one h)
theorem Rels.cons {w : W} {ws : List W} {v : V} {vs : List V} (h : Rel G I φ w v) (r : Rels G I φ ws vs) : Rels G I φ (w :: ws) (v :: vs) := ⟨v, vs, rfl, h, r⟩
theorem Rels.nil : Rels G I φ [] [] := rfl

/-! ### the store -/
def Live (S : Sto) (n : Nat) : Prop := ∃ o, S[n]? = some o ∧ o ≠ .dead
def CellOk (G : Gx) (I : Hp) (φ : List Addr) (H : Hp) (a : Addr) : Ob → Prop
  | .lst ws => ∃ vs, H a = some (.lst vs) ∧ Rels G I φ ws vs
  | .dic false ks vs => ∃ kvs, H a = some (.dK kvs) ∧ ks = kvs.map (fun p => kW p.1) ∧ Rels G I φ vs (kvs.map (·.2))
  | .dic true ks vs => ∃ kvs, H a = some (.dT kvs) ∧ ks = kvs.map (fun p => .tup (p.1.map kW)) ∧ Rels G I φ vs (kvs.map (·.2))
  | .ins c ws => ∃ dx fs, H a = some (.ins (G.cad c) dx fs) ∧ fs.map (·.1) = (G.fld c).take fs.length ∧ Rels G I φ ws (fs.map (·.2))
  | .dead => True
structure Sim (G : Gx) (I : Hp) (φ : List Addr) (S : Sto) (H : Hp) : Prop where
  same : Same I H
  len : φ.length = S.length
  nd : φ.Nodup
  out : ∀ (n : Nat) (a : Addr) (o : Ob), φ[n]? = some a → S[n]? = some o → o ≠ .dead → I a = none
  old : ∀ (n : Nat) (a : Addr), φ[n]? = some a → (H a).isSome = true
  cell : ∀ (n : Nat) (a : Addr) (o : Ob), φ[n]? = some a → S[n]? = some o → CellOk G I φ H a o
structure Ext (I : Hp) (φ : List Addr) (H : Hp) (I' : Hp) (φ' : List Addr) (H' : Hp) : Prop where
  same : Same I I'
  pre : ∃ ψ, φ' = φ ++ ψ ∧ ∀ a ∈ ψ, H a = none
  frame : ∀ a o, a ∉ φ → H a = some o → H' a = some o
  keep : ∀ a, (H a).isSome = true → (H' a).isSome = true
  fresh : ∀ a, (I' a).isSome = true → (I a).isSome = true ∨ H a = none ∨ a ∈ φ ∨ ∃ vs, H a = some (.tup vs)
theorem Ext.pre' (e : Ext I φ H I' φ' H') : Pre φ φ' := let ⟨ψ, h, _⟩ := e.pre; ⟨ψ, h⟩
theorem Ext.refl (I : Hp) (φ : List Addr) (H : Hp) : Ext I φ H I φ H := ⟨Same.refl _, ⟨[], by simp, by simp⟩, fun _ _ _ h => h, fun _ h => h, fun _ h => .inl h⟩
theorem none_of {a : Addr} (h : ¬ (H a).isSome = true) : H a = none := by
  cases e : H a with
  | none => rfl
  | some o => rw [e] at h; simp at h
theorem Ext.trans (a : Ext I φ H I1 φ1 H1) (b : Ext I1 φ1 H1 I2 φ2 H2) : Ext I φ H I2 φ2 H2 := by
  obtain ⟨x, rfl, hx⟩ := a.pre
  obtain ⟨y, rfl, hy⟩ := b.pre
  have fr : ∀ c, H1 c = none → H c = none := fun c h => none_of fun q => by
    have := a.keep c q
    rw [h] at this
    simp at this
  refine ⟨a.same.trans b.same, ⟨x ++ y, by simp, fun c hc => ?_⟩, fun c o hc e => ?_, fun c e => b.keep c (a.keep c e), fun c hc => ?_⟩
  · rcases List.mem_append.mp hc with h | h
    · exact hx c h
    · exact fr c (hy c h)
  · refine b.frame c o (fun z => ?_) (a.frame c o hc e)
    rcases List.mem_append.mp z with h | h
    · exact hc h
    · rw [hx c h] at e; cases e
  · rcases b.fresh c hc with h | h | h | ⟨vs, h⟩
    · exact a.fresh c h
    · exact .inr (.inl (fr c h))
    · rcases List.mem_append.mp h with h | h
      · exact .inr (.inr (.inl h))
      · exact .inr (.inl (hx c h))
    · by_cases hc : c ∈ φ
      · exact .inr (.inr (.inl hc))
      · cases e : H c with
        | none => exact .inr (.inl rfl)
        | some o =>
          have := a.frame c o hc e
          rw [h] at this
          cases this
          exact .inr (.inr (.inr ⟨vs, rfl⟩))
theorem Rel.ext {w : W} {v : V} (e : Ext I φ H I' φ' H') (h : Rel G I φ w v) : Rel G I' φ' w v := h.mono e.same e.pre'
theorem Rels.ext {ws : List W} {vs : List V} (e : Ext I φ H I' φ' H') (h : Rels G I φ ws vs) : Rels G I' φ' ws vs := h.mono e.same e.pre'

/-- the slots -/
structure Envs (G : Gx) (I : Hp) (φ : List Addr) (ρ : Env) (σ : L2.St) : Prop where
  len : ρ.length = σ.length
  at_ : ∀ (i : Nat) (w : W), ρ[i]? = some (some w) → ∃ v, σ[i]? = some (some v) ∧ Rel G I φ w v
theorem Envs.ext {ρ : Env} {σ : L2.St} (e : Ext I φ H I' φ' H') (h : Envs G I φ ρ σ) : Envs G I' φ' ρ σ :=
  ⟨h.len, fun i w q => let ⟨v, h1, h2⟩ := h.at_ i w q; ⟨v, h1, h2.ext e⟩⟩
theorem Envs.set {ρ : Env} {σ : L2.St} {i : Nat} {w : W} {v : V} (h : Envs G I φ ρ σ) (r : Rel G I φ w v) : Envs G I φ (ρ.set i (some w)) (σ.set i (some v)) := by
  refine ⟨by simp [h.len], fun j u q => ?_⟩
  by_cases hj : i = j
  · subst hj
    by_cases hl : i < ρ.length
    · rw [List.getElem?_set_self hl] at q
      cases q
      exact ⟨v, by rw [List.getElem?_set_self (by rw [← h.len]; exact hl)], r⟩
    · rw [List.getElem?_eq_none (by simp; omega)] at q; cases q
  · rw [List.getElem?_set_ne hj] at q
    obtain ⟨v', h1, h2⟩ := h.at_ j u q
    exact ⟨v', by rw [List.getElem?_set_ne hj]; exact h1, h2⟩
theorem Envs.wipe {ρ : Env} {σ : L2.St} (h : Envs G I φ ρ σ) : ∀ (vs : List Nat), Envs G I φ (Tw.wipe ρ vs) (L2.wipe σ vs)
  | [] => h
  | v :: vs => by
    have ih := Envs.wipe h vs
    show Envs G I φ ((Tw.wipe ρ vs).set v none) ((L2.wipe σ vs).set v none)
    refine ⟨by simp [ih.len], fun j u q => ?_⟩
    by_cases hj : v = j
    · subst hj
      by_cases hl : v < (Tw.wipe ρ vs).length
      · rw [List.getElem?_set_self hl] at q; cases q
      · rw [List.getElem?_eq_none (by simp; omega)] at q; cases q
    · rw [List.getElem?_set_ne hj] at q
      obtain ⟨v', h1, h2⟩ := ih.at_ j u q
      exact ⟨v', by rw [List.getElem?_set_ne hj]; exact h1, h2⟩

/-! ### new things -/
theorem same_upd {p : Addr} {o : HO} (h : H p = none) : Same H (upd H p o) := fun b u e => by
  rw [upd_ne (ne_of_none e h)]
  exact e
theorem Sim.iNone {S : Sto} {p : Addr} (s : Sim G I φ S H) (h : H p = none) : I p = none := by
  cases e : I p with
  | none => rfl
  | some o => rw [s.same p o e] at h; cases h
theorem Sim.notIn {S : Sto} {p : Addr} (s : Sim G I φ S H) (h : H p = none) : p ∉ φ := fun z => by
  obtain ⟨n, hn, e⟩ := List.getElem_of_mem z
  have := s.old n p (by rw [List.getElem?_eq_getElem hn, e])
  rw [h] at this
  simp at this
theorem CellOk.mono {a : Addr} {o : Ob} (s : Same I I') (p : Pre φ φ') (e : ∀ u, H a = some u → H' a = some u) (h : CellOk G I φ H a o) : CellOk G I' φ' H' a o := by
  cases o with
  | lst ws => obtain ⟨vs, q, r⟩ := h; exact ⟨vs, e _ q, r.mono s p⟩
  | dic t ks vs =>
    cases t with
    | false => obtain ⟨kvs, q, k, r⟩ := h; exact ⟨kvs, e _ q, k, r.mono s p⟩
    | true => obtain ⟨kvs, q, k, r⟩ := h; exact ⟨kvs, e _ q, k, r.mono s p⟩
  | ins c ws => obtain ⟨dx, fs, q, k, r⟩ := h; exact ⟨dx, fs, e _ q, k, r.mono s p⟩
  | dead => trivial
/-- a frozen thing is laid at p -/
theorem Sim.newI {S : Sto} {p : Addr} {o : HO} (s : Sim G I φ S H) (h : H p = none) : Sim G (upd I p o) φ S (upd H p o) ∧ Ext I φ H (upd I p o) φ (upd H p o) := by
  have hi := s.iNone h
  have hs : Same I (upd I p o) := same_upd hi
  have ne : ∀ a, (H a).isSome = true → a ≠ p := fun a q z => by rw [z, h] at q; simp at q
  refine ⟨⟨fun a u e => ?_, s.len, s.nd, fun n a u e1 e2 e3 => ?_, fun n a e => ?_, fun n a u e1 e2 => ?_⟩, ⟨hs, ⟨[], by simp, by simp⟩, fun a u _ e => ?_, fun a e => ?_, fun a e => ?_⟩⟩
  · by_cases z : a = p
    · subst z; rw [upd_same] at e; rw [upd_same]; exact e
    · rw [upd_ne z] at e; rw [upd_ne z]; exact s.same a u e
  · rw [upd_ne (ne a (s.old n a e1))]
    exact s.out n a u e1 e2 e3
  · rw [upd_ne (ne a (s.old n a e))]
    exact s.old n a e
  · exact (s.cell n a u e1 e2).mono hs (Pre.refl _) fun u q => by rw [upd_ne (ne a (s.old n a e1))]; exact q
  · rw [upd_ne (ne_of_none e h)]
    exact e
  · rw [upd_ne (ne a e)]
    exact e
  · by_cases z : a = p
    · subst z; exact .inr (.inl h)
    · rw [upd_ne z] at e; exact .inl e
/-- a cell is laid at p -/
theorem Sim.newC {S : Sto} {p : Addr} {o : Ob} {u : HO} (s : Sim G I φ S H) (h : H p = none) (c : CellOk G I (φ ++ [p]) (upd H p u) p o) : Sim G I (φ ++ [p]) (S ++ [o]) (upd H p u) ∧ Ext I φ H I (φ ++ [p]) (upd H p u) := by
  have hi := s.iNone h
  have ne : ∀ a, (H a).isSome = true → a ≠ p := fun a q z => by rw [z, h] at q; simp at q
  have hn := s.notIn h
  have at_ : ∀ (n : Nat) (a : Addr), (φ ++ [p])[n]? = some a → φ[n]? = some a ∨ (n = φ.length ∧ a = p) := fun n a e => by
    by_cases q : n < φ.length
    · rw [List.getElem?_append_left q] at e; exact .inl e
    · rw [List.getElem?_append_right (by omega)] at e
      have hl := (List.getElem?_eq_some_iff.mp e).1
      simp at hl
      have e0 : n - φ.length = 0 := by omega
      rw [e0] at e
      simp at e
      exact .inr ⟨by omega, e.symm⟩
  refine ⟨⟨fun a w e => ?_, by simp [s.len], ?_, fun n a w e1 e2 e3 => ?_, fun n a e => ?_, fun n a w e1 e2 => ?_⟩, ⟨Same.refl _, ⟨[p], rfl, fun a ha => ?_⟩, fun a w _ e => ?_, fun a e => ?_, fun a e => .inl e⟩⟩
  · rw [upd_ne (ne a (by rw [s.same a w e]; rfl))]
    exact s.same a w e
  · rw [List.nodup_append]
    exact ⟨s.nd, by simp, fun a ha b hb => by simp at hb; subst hb; exact fun z => hn (z ▸ ha)⟩
  · rcases at_ n a e1 with q | ⟨q1, q2⟩
    · have hl : n < S.length := by rw [← s.len]; exact (List.getElem?_eq_some_iff.mp q).1
      rw [List.getElem?_append_left hl] at e2
      exact s.out n a w q e2 e3
    · subst q2; exact hi
  · rcases at_ n a e with q | ⟨q1, q2⟩
    · rw [upd_ne (ne a (s.old n a q))]; exact s.old n a q
    · subst q2; rw [upd_same]; rfl
  · rcases at_ n a e1 with q | ⟨q1, q2⟩
    · have hl : n < S.length := by rw [← s.len]; exact (List.getElem?_eq_some_iff.mp q).1
      rw [List.getElem?_append_left hl] at e2
      exact (s.cell n a w q e2).mono (Same.refl _) ⟨[p], rfl⟩ fun u q' => by rw [upd_ne (ne a (s.old n a q))]; exact q'
    · subst q2
      rw [List.getElem?_append_right (by rw [q1, s.len]; omega)] at e2
      rw [q1, s.len] at e2
      simp at e2
      subst e2
      exact c
  · simp at ha; subst ha; exact h
  · rw [upd_ne (ne_of_none e h)]; exact e
  · rw [upd_ne (ne a e)]; exact e
/-- a cell is written -/
theorem Sim.put {S : Sto} {n : Nat} {p : Addr} {o o' : Ob} {u : HO} (s : Sim G I φ S H) (hn : φ[n]? = some p) (ho : S[n]? = some o) (hd : o ≠ .dead) (c : CellOk G I φ (upd H p u) p o') : Sim G I φ (S.set n o') (upd H p u) ∧ Ext I φ H I φ (upd H p u) := by
  have hi := s.out n p o hn ho hd
  have un : ∀ (m : Nat), φ[m]? = some p → m = n := fun m e => by
    have h1 := (List.getElem?_eq_some_iff.mp e).1
    have h2 := (List.getElem?_eq_some_iff.mp hn).1
    exact (List.getElem_inj s.nd).mp ((List.getElem?_eq_some_iff.mp e).2.trans (List.getElem?_eq_some_iff.mp hn).2.symm)
  have hnS : n < S.length := (List.getElem?_eq_some_iff.mp ho).1
  refine ⟨⟨fun a w e => ?_, by simp [s.len], s.nd, fun m a w e1 e2 e3 => ?_, fun m a e => ?_, fun m a w e1 e2 => ?_⟩, ⟨Same.refl _, ⟨[], by simp, by simp⟩, fun a w ha e => ?_, fun a e => ?_, fun a e => .inl e⟩⟩
  · rw [upd_ne (fun z => by rw [z, hi] at e; cases e)]
    exact s.same a w e
  · by_cases z : m = n
    · subst z; rw [hn] at e1; cases e1; exact hi
    · rw [List.getElem?_set_ne (Ne.symm z)] at e2
      exact s.out m a w e1 e2 e3
  · by_cases z : a = p
    · subst z; rw [upd_same]; rfl
    · rw [upd_ne z]; exact s.old m a e
  · by_cases z : m = n
    · subst z
      rw [hn] at e1; cases e1
      rw [List.getElem?_set_self hnS] at e2
      cases e2
      exact c
    · rw [List.getElem?_set_ne (Ne.symm z)] at e2
      exact (s.cell m a w e1 e2).mono (Same.refl _) (Pre.refl _) fun u q => by rw [upd_ne (fun y => z (un m (by rw [← y]; exact e1)))]; exact q
  · rw [upd_ne (fun z => ha (by rw [z]; exact List.mem_of_getElem? hn))]
    exact e
  · by_cases z : a = p
    · subst z; rw [upd_same]; rfl
    · rw [upd_ne z]; exact e
end Tw

/-! Tw, part C: the operations. -/
namespace Tw
open PySem PySem.Spec PyProof.Rows L2

variable {G : Gx} {I I' I1 I2 H H' H1 H2 : Hp} {φ φ' φ1 φ2 : List Addr} {S S' : Sto} {K : PySem.W.Frag}

/-! ### what follows -/
def KE (G : Gx) (I : Hp) (φ : List Addr) (H : Hp) (S' : Sto) (w : W) (Q : VK) : Prop :=
  ∀ v I' φ' H', Ext I φ H I' φ' H' → Sim G I' φ' S' H' → Rel G I' φ' w v → Q v H'
def KF (G : Gx) (I : Hp) (φ : List Addr) (H : Hp) (S' : Sto) (xs : List W) (Q : VK) : Prop :=
  ∀ p us I' φ' H', Ext I φ H I' φ' H' → Sim G I' φ' S' H' → H' p = none → Rels G I' φ' xs us → us.length ≤ sizeLine → Q (.ref p) (upd H' p (.lst us))
theorem KE.here {w : W} {v : V} {Q : VK} (k : KE G I φ H S w Q) (s : Sim G I φ S H) (r : Rel G I φ w v) : Q v H := k v I φ H (Ext.refl _ _ _) s r
theorem KE.toKF {xs : List W} {Q : VK} (k : KE G I φ H S (.lst xs) Q) : KF G I φ H S xs Q := fun p us I' φ' H' e s hp r _ => by
  obtain ⟨s2, e2⟩ := s.newI (o := .lst us) hp
  exact k _ _ _ _ (e.trans e2) s2 ⟨p, us, rfl, upd_same, r.mono e2.same e2.pre'⟩
theorem KF.here {xs : List W} {us : List V} {p : Addr} {Q : VK} (k : KF G I φ H S xs Q) (s : Sim G I φ S H) (hp : H p = none) (r : Rels G I φ xs us) (hl : us.length ≤ sizeLine) : Q (.ref p) (upd H p (.lst us)) := k p us I φ H (Ext.refl _ _ _) s hp r hl
theorem KE.tup {xs : List W} {us : List V} {p : Addr} {Q : VK} (k : KE G I φ H S (.tup xs) Q) (s : Sim G I φ S H) (hp : H p = none) (r : Rels G I φ xs us) : Q (.ref p) (upd H p (.tup us)) := by
  obtain ⟨s2, e2⟩ := s.newI (o := .tup us) hp
  exact k _ _ _ _ e2 s2 ⟨p, us, rfl, upd_same, r.mono e2.same e2.pre'⟩

/-! ### small things -/
theorem lim_ok {n : Nat} (h : n < LIM) : n < sizeLine := Nat.lt_of_lt_of_le h (by decide)
theorem rels1 {ws : List W} {x : V} (r : Rels G I φ ws [x]) : ∃ a, ws = [a] ∧ Rel G I φ a x := by
  cases ws with
  | nil => exact absurd (show [x] = [] from r) (by simp)
  | cons a r' =>
    obtain ⟨y, ys, e, h, t⟩ := r
    cases e
    cases r' with
    | nil => exact ⟨a, rfl, h⟩
    | cons b r'' => obtain ⟨_, _, e, _⟩ := t; cases e
theorem rels2 {ws : List W} {x y : V} (r : Rels G I φ ws [x, y]) : ∃ a b, ws = [a, b] ∧ Rel G I φ a x ∧ Rel G I φ b y := by
  cases ws with
  | nil => exact absurd (show [x, y] = [] from r) (by simp)
  | cons a r' =>
    obtain ⟨y, ys, e, h, t⟩ := r
    cases e
    obtain ⟨b, rfl, hb⟩ := rels1 t
    exact ⟨a, b, rfl, h, hb⟩
theorem rels3 {ws : List W} {x y z : V} (r : Rels G I φ ws [x, y, z]) : ∃ a b c, ws = [a, b, c] ∧ Rel G I φ a x ∧ Rel G I φ b y ∧ Rel G I φ c z := by
  cases ws with
  | nil => exact absurd (show [x, y, z] = [] from r) (by simp)
  | cons a r' =>
    obtain ⟨y, ys, e, h, t⟩ := r
    cases e
    obtain ⟨b, c, rfl, hb, hc⟩ := rels2 t
    exact ⟨a, b, c, rfl, h, hb, hc⟩
theorem rels0 {ws : List W} (r : Rels G I φ ws []) : ws = [] := by
  cases ws with
  | nil => rfl
  | cons a r' => obtain ⟨_, _, e, _⟩ := r; cases e
theorem rel_int {i : Int} {v : V} (r : Rel G I φ (.int i) v) : v = .int i := r
theorem sq_rd {a : Addr} {vs : List V} (h : Rd H a (.lst vs)) : SqL K H a vs := .inl h
theorem relsI : ∀ (ns : List Int), Rels G I φ (ns.map W.int) (ns.map V.int)
  | [] => rfl
  | _ :: ns => ⟨_, _, rfl, rfl, relsI ns⟩
/-- a list or tuple that is read -/
theorem seqRel {w : W} {v : V} {xs : List W} (hk : K = G.K) (s : Sim G I φ S H) (r : Rel G I φ w v) (e : seqOf S w = some xs) : ∃ a vs, v = .ref a ∧ (SqL K H a vs ∨ SqT K H a vs) ∧ Rels G I φ xs vs := by
  cases w with
  | lst ws =>
    obtain ⟨a, vs, rfl, h, q⟩ := r
    cases e
    exact ⟨a, vs, rfl, .inl (.inl (rd_mono s.same h)), q⟩
  | tup ws =>
    obtain ⟨a, vs, rfl, h, q⟩ := r
    cases e
    exact ⟨a, vs, rfl, .inr (.inl (.inl (s.same _ _ h))), q⟩
  | ref n =>
    obtain ⟨a, rfl, h⟩ := r
    cases hS : S[n]? with
    | none => simp [seqOf, hS] at e
    | some o =>
      cases o with
      | lst ws =>
        simp [seqOf, hS] at e
        subst e
        obtain ⟨vs, h1, h2⟩ := s.cell n a _ h hS
        exact ⟨a, vs, rfl, .inl (.inl (.inl h1)), h2⟩
      | _ => simp [seqOf, hS] at e
  | klst ns =>
    obtain ⟨a, rfl, h⟩ := r
    cases e
    subst hk
    exact ⟨a, _, rfl, .inl (s.same.seq h), relsI ns⟩
  | _ => simp [seqOf] at e
theorem lstRel {w : W} {v : V} {xs : List W} (s : Sim G I φ S H) (r : Rel G I φ w v) (e : lstOf S w = some xs) : ∃ a vs, v = .ref a ∧ SqL K H a vs ∧ Rels G I φ xs vs := by
  cases w with
  | lst ws =>
    obtain ⟨a, vs, rfl, h, q⟩ := r
    cases e
    exact ⟨a, vs, rfl, .inl (rd_mono s.same h), q⟩
  | ref n =>
    obtain ⟨a, rfl, h⟩ := r
    cases hS : S[n]? with
    | none => simp [lstOf, hS] at e
    | some o =>
      cases o with
      | lst ws =>
        simp [lstOf, hS] at e
        subst e
        obtain ⟨vs, h1, h2⟩ := s.cell n a _ h hS
        exact ⟨a, vs, rfl, .inl (.inl h1), h2⟩
      | _ => simp [lstOf, hS] at e
  | _ => simp [lstOf] at e
theorem dicRelK {w : W} {v : V} {ks vs : List W} (s : Sim G I φ S H) (r : Rel G I φ w v) (e : dicOf S w = some (false, ks, vs)) :
    ∃ a kvs, v = .ref a ∧ H a = some (.dK kvs) ∧ ks = kvs.map (fun p => kW p.1) ∧ Rels G I φ vs (kvs.map (·.2)) := by
  cases w with
  | dic t ks' vs' =>
    simp [dicOf] at e
    obtain ⟨rfl, rfl, rfl⟩ := e
    obtain ⟨a, kvs, rfl, h, k, q⟩ := r
    exact ⟨a, kvs, rfl, s.same _ _ h, k, q⟩
  | ref n =>
    obtain ⟨a, rfl, h⟩ := r
    cases hS : S[n]? with
    | none => simp [dicOf, hS] at e
    | some o =>
      cases o with
      | dic t ks' vs' =>
        simp [dicOf, hS] at e
        obtain ⟨rfl, rfl, rfl⟩ := e
        obtain ⟨kvs, h1, h2, h3⟩ := s.cell n a _ h hS
        exact ⟨a, kvs, rfl, h1, h2, h3⟩
      | _ => simp [dicOf, hS] at e
  | _ => simp [dicOf] at e
theorem dicRelT {w : W} {v : V} {ks vs : List W} (s : Sim G I φ S H) (r : Rel G I φ w v) (e : dicOf S w = some (true, ks, vs)) :
    ∃ a kvs, v = .ref a ∧ H a = some (.dT kvs) ∧ ks = kvs.map (fun p => .tup (p.1.map kW)) ∧ Rels G I φ vs (kvs.map (·.2)) := by
  cases w with
  | dic t ks' vs' =>
    simp [dicOf] at e
    obtain ⟨rfl, rfl, rfl⟩ := e
    obtain ⟨a, kvs, rfl, h, k, q⟩ := r
    exact ⟨a, kvs, rfl, s.same _ _ h, k, q⟩
  | ref n =>
    obtain ⟨a, rfl, h⟩ := r
    cases hS : S[n]? with
    | none => simp [dicOf, hS] at e
    | some o =>
      cases o with
      | dic t ks' vs' =>
        simp [dicOf, hS] at e
        obtain ⟨rfl, rfl, rfl⟩ := e
        obtain ⟨kvs, h1, h2, h3⟩ := s.cell n a _ h hS
        exact ⟨a, kvs, rfl, h1, h2, h3⟩
      | _ => simp [dicOf, hS] at e
  | _ => simp [dicOf] at e

/-! ### data -/
mutual
def toD : W → PyData
  | .bl b => .bool b
  | .int i => .int i
  | .str s => .str ⟨s.toArray⟩
  | .tup xs => .tuple (toDs xs)
  | .lst xs => .list (toDs xs)
  | _ => .none
def toDs : List W → List PyData
  | [] => []
  | x :: xs => toD x :: toDs xs
end
theorem toDs_map : ∀ xs : List W, toDs xs = xs.map toD
  | [] => rfl
  | x :: xs => by rw [toDs, List.map_cons, toDs_map xs]
mutual
theorem dat_lay : ∀ (n : Nat) (w : W), datW n w = true → (toD w).canLay0 = true ∧ (toD w).depth ≤ n
  | n, .non, _ => by simp [toD, PyData.canLay0, PyData.depth]
  | n, .bl _, _ => by simp [toD, PyData.canLay0, PyData.depth]
  | n, .int _, _ => by simp [toD, PyData.canLay0, PyData.depth]
  | n, .str s, h => by
    simp [datW] at h
    refine ⟨?_, by simp [toD, PyData.depth]⟩
    simp only [toD, PyData.canLay0, PyData.strOk]
    simp
    intro x hx
    have := h.1 x hx
    omega
  | 0, .lst xs, h => by simp [datW] at h
  | n + 1, .lst xs, h => by
    simp [datW] at h
    have := dat_layL n xs h
    simp only [toD, PyData.canLay0, PyData.depth]
    exact ⟨this.1, by omega⟩
  | 0, .tup xs, h => by simp [datW] at h
  | n + 1, .tup xs, h => by
    simp [datW] at h
    have := dat_layL n xs h
    simp only [toD, PyData.canLay0, PyData.depth]
    exact ⟨this.1, by omega⟩
  | n, .dic _ _ _, h => by simp [datW] at h
  | n, .rcd _ _, h => by simp [datW] at h
  | n, .ref _, h => by simp [datW] at h
  | n, .exn _, h => by simp [datW] at h
theorem dat_layL : ∀ (n : Nat) (xs : List W), datL n xs = true → PyData.canLayAll0 (toDs xs) = true ∧ PyData.depthAll (toDs xs) ≤ n
  | n, [], _ => by simp [toDs, PyData.canLayAll0, PyData.depthAll]
  | n, x :: xs, h => by
    simp [datL] at h
    have h1 := dat_lay n x h.1
    have h2 := dat_layL n xs h.2
    simp only [toDs, PyData.canLayAll0, PyData.depthAll, Bool.and_eq_true]
    exact ⟨⟨h1.1, h2.1⟩, by omega⟩
end
theorem dat_shaped {w : W} (h : datW 30 w = true) : SeqAt.shaped (toD w) = true := by
  obtain ⟨h1, h2⟩ := dat_lay 30 w h
  show ((toD w).canLay0 && decide ((toD w).depth ≤ 64)) = true
  rw [h1, decide_eq_true (by omega)]
  rfl
theorem datL_shaped {xs : List W} (h : datL 30 xs = true) : SeqAt.shaped (.list (toDs xs)) = true := by
  obtain ⟨h1, h2⟩ := dat_layL 30 xs h
  have e1 : PyData.canLay0 (.list (toDs xs)) = true := by simp only [PyData.canLay0]; exact h1
  have e2 : PyData.depth (.list (toDs xs)) ≤ 64 := by simp only [PyData.depth]; omega
  show (PyData.canLay0 (.list (toDs xs)) && decide (PyData.depth (.list (toDs xs)) ≤ 64)) = true
  rw [e1, decide_eq_true e2]
  rfl
mutual
theorem eqW_eqv : ∀ (n m : Nat) (x y : W), datW n x = true → datW m y = true → PyData.eqv (toD x) (toD y) = eqW x y
  | n, m, .non, y, _, h => by cases y <;> simp_all [toD, PyData.eqv, eqW, datW]
  | n, m, .bl a, y, _, h => by cases y <;> simp_all [toD, PyData.eqv, eqW, datW]
  | n, m, .int a, y, _, h => by cases y <;> simp_all [toD, PyData.eqv, eqW, datW]
  | n, m, .str a, y, _, h => by
    cases y <;> simp_all [toD, PyData.eqv, eqW, datW]
    rename_i b
    rw [Bool.eq_iff_iff]
    simp
  | n + 1, m + 1, .lst xs, .lst ys, h1, h2 => by
    simp [datW] at h1 h2
    simp only [toD, PyData.eqv, eqW]
    exact eqL_eqv n m xs ys h1 h2
  | n + 1, m + 1, .tup xs, .tup ys, h1, h2 => by
    simp [datW] at h1 h2
    simp only [toD, PyData.eqv, eqW]
    exact eqL_eqv n m xs ys h1 h2
  | 0, m, .lst xs, y, h, _ => by simp [datW] at h
  | 0, m, .tup xs, y, h, _ => by simp [datW] at h
  | n + 1, 0, .lst xs, y, _, h => by cases y <;> simp_all [toD, PyData.eqv, eqW, datW]
  | n + 1, 0, .tup xs, y, _, h => by cases y <;> simp_all [toD, PyData.eqv, eqW, datW]
  | n + 1, m + 1, .lst xs, .non, _, h => by simp [toD, PyData.eqv, eqW]
  | n + 1, m + 1, .lst xs, .bl _, _, h => by simp [toD, PyData.eqv, eqW]
  | n + 1, m + 1, .lst xs, .int _, _, h => by simp [toD, PyData.eqv, eqW]
  | n + 1, m + 1, .lst xs, .str _, _, h => by simp [toD, PyData.eqv, eqW]
  | n + 1, m + 1, .lst xs, .tup _, _, h => by simp [toD, PyData.eqv, eqW]
  | n + 1, m + 1, .lst xs, .dic _ _ _, _, h => by simp [datW] at h
  | n + 1, m + 1, .lst xs, .rcd _ _, _, h => by simp [datW] at h
  | n + 1, m + 1, .lst xs, .ref _, _, h => by simp [datW] at h
  | n + 1, m + 1, .lst xs, .exn _, _, h => by simp [datW] at h
  | n + 1, m + 1, .tup xs, .non, _, h => by simp [toD, PyData.eqv, eqW]
  | n + 1, m + 1, .tup xs, .bl _, _, h => by simp [toD, PyData.eqv, eqW]
  | n + 1, m + 1, .tup xs, .int _, _, h => by simp [toD, PyData.eqv, eqW]
  | n + 1, m + 1, .tup xs, .str _, _, h => by simp [toD, PyData.eqv, eqW]
  | n + 1, m + 1, .tup xs, .lst _, _, h => by simp [toD, PyData.eqv, eqW]
  | n + 1, m + 1, .tup xs, .dic _ _ _, _, h => by simp [datW] at h
  | n + 1, m + 1, .tup xs, .rcd _ _, _, h => by simp [datW] at h
  | n + 1, m + 1, .tup xs, .ref _, _, h => by simp [datW] at h
  | n + 1, m + 1, .tup xs, .exn _, _, h => by simp [datW] at h
  | n, m, .dic _ _ _, _, h, _ => by simp [datW] at h
  | n, m, .rcd _ _, _, h, _ => by simp [datW] at h
  | n, m, .ref _, _, h, _ => by simp [datW] at h
  | n, m, .exn _, _, h, _ => by simp [datW] at h
theorem eqL_eqv : ∀ (n m : Nat) (xs ys : List W), datL n xs = true → datL m ys = true → PyData.eqvAll (toDs xs) (toDs ys) = eqL xs ys
  | n, m, [], [], _, _ => by simp [toDs, PyData.eqvAll, eqL]
  | n, m, [], y :: ys, _, _ => by simp [toDs, PyData.eqvAll, eqL]
  | n, m, x :: xs, [], _, _ => by simp [toDs, PyData.eqvAll, eqL]
  | n, m, x :: xs, y :: ys, h1, h2 => by
    simp [datL] at h1 h2
    simp only [toDs, PyData.eqvAll, eqL]
    rw [eqW_eqv n m x y h1.1 h2.1, eqL_eqv n m xs ys h1.2 h2.2]
end

/-! ### the view is what is read -/
/-- what g tells of a cell is what stands there -/
def Tells (G : Gx) (K : PySem.W.Frag) (I : Hp) (φ : List Addr) (H : Hp) (g : Nat → Option W) : Prop :=
  ∀ n a w d, φ[n]? = some a → g n = some w → datW d w = true → Dp K H (.ref a) (toD w)
theorem dpAll_nil : DpAll K H [] (toDs []) := by rw [toDs]; exact .nil
mutual
theorem sub_dp (s : Same I H) {g : Nat → Option W} (T : Tells G K I φ H g) : ∀ (d : Nat) (w : W) (v : V) (w' : W), Rel G I φ w v → sub false g w = some w' → datW d w' = true → Dp K H v (toD w')
  | d, .non, v, w', r, e, _ => by simp [sub] at e; subst e; rw [show v = .non from r]; exact .non
  | d, .bl b, v, w', r, e, _ => by simp [sub] at e; subst e; rw [show v = .bl b from r]; exact .bl b
  | d, .int i, v, w', r, e, _ => by simp [sub] at e; subst e; rw [show v = .int i from r]; exact .int i
  | d, .str x, v, w', r, e, _ => by simp [sub] at e; subst e; rw [show v = .str ⟨x.toArray⟩ from r]; exact .str _
  | d, .tup xs, v, w', r, e, h => by
    simp [sub] at e
    obtain ⟨ys, e1, rfl⟩ := e
    obtain ⟨a, vs, rfl, ha, q⟩ := r
    cases d with
    | zero => simp [datW] at h
    | succ d =>
      simp [datW] at h
      rw [toD]
      exact .tup (.inl (.inl (s _ _ ha))) (sub_dpL s T d xs vs ys q e1 h)
  | d, .lst xs, v, w', r, e, h => by
    simp [sub] at e
    obtain ⟨ys, e1, rfl⟩ := e
    obtain ⟨a, vs, rfl, ha, q⟩ := r
    cases d with
    | zero => simp [datW] at h
    | succ d =>
      simp [datW] at h
      rw [toD]
      exact .lst (.inl (rd_mono s ha)) (sub_dpL s T d xs vs ys q e1 h)
  | d, .ref n, v, w', r, e, h => by
    simp [sub] at e
    obtain ⟨a, rfl, ha⟩ := r
    exact T n a w' d ha e h
  | d, .dic t ks vs, v, w', r, e, h => by
    simp [sub, Option.bind_eq_some_iff] at e
    obtain ⟨_, _, _, _, rfl⟩ := e
    simp [datW] at h
  | d, .rcd c xs, v, w', r, e, h => by
    simp [sub] at e
    obtain ⟨_, _, rfl⟩ := e
    simp [datW] at h
  | d, .exn c, v, w', r, e, h => by
    simp [sub] at e
    subst e
    simp [datW] at h
  | d, .klst ns, v, w', r, e, h => by
    simp [sub] at e
    subst e
    simp [datW] at h
theorem sub_dpL (s : Same I H) {g : Nat → Option W} (T : Tells G K I φ H g) : ∀ (d : Nat) (ws : List W) (vs : List V) (ws' : List W), Rels G I φ ws vs → subL false g ws = some ws' → datL d ws' = true → DpAll K H vs (toDs ws')
  | d, [], vs, ws', r, e, _ => by simp [subL] at e; subst e; rw [show vs = [] from r]; exact dpAll_nil
  | d, w :: ws, vs, ws', r, e, h => by
    simp [subL, Option.bind_eq_some_iff] at e
    obtain ⟨w', e1, ws'', e2, rfl⟩ := e
    obtain ⟨x, xs, rfl, q1, q2⟩ := r
    simp [datL] at h
    rw [toDs]
    exact .cons (sub_dp s T d w x w' q1 e1 h.1) (sub_dpL s T d ws xs ws'' q2 e2 h.2)
end
theorem tells_lev (s : Sim G I φ S H) : ∀ k, Tells G K I φ H (lev false S k)
  | 0 => fun n a w d _ e _ => by simp [lev] at e
  | k + 1 => fun n a w d ha e h => by
    simp only [lev, cellW] at e
    cases hS : S[n]? with
    | none => simp [hS] at e
    | some o =>
      rw [hS] at e
      cases o with
      | lst xs =>
        simp at e
        obtain ⟨ys, e1, rfl⟩ := e
        obtain ⟨vs, h1, h2⟩ := s.cell n a _ ha hS
        cases d with
        | zero => simp [datW] at h
        | succ d =>
          simp [datW] at h
          rw [toD]
          exact .lst (.inl (.inl h1)) (sub_dpL s.same (tells_lev s k) d xs vs ys h2 e1 h)
      | dic t ks vs =>
        simp [Option.bind_eq_some_iff] at e
        obtain ⟨_, _, _, _, rfl⟩ := e
        simp [datW] at h
      | ins c xs =>
        simp at e
        obtain ⟨_, _, rfl⟩ := e
        simp [datW] at h
      | dead => simp at e
theorem vw_dp (s : Sim G I φ S H) {d : Nat} {w w' : W} {v : V} (r : Rel G I φ w v) (e : vw S w = some w') (h : datW d w' = true) : Dp K H v (toD w') :=
  sub_dp s.same (tells_lev s 3) d w v w' r e h
theorem vws_dp (s : Sim G I φ S H) {d : Nat} {ws ws' : List W} {vs : List V} (r : Rels G I φ ws vs) (e : vws S ws = some ws') (h : datL d ws' = true) : DpAll K H vs (toDs ws') :=
  sub_dpL s.same (tells_lev s 3) d ws vs ws' r e h
end Tw

/-! Tw, part D: each operation keeps its promise. -/
namespace Tw
open PySem PySem.Spec PyProof.Rows L2

variable {G : Gx} {I I' I1 I2 H H' H1 H2 : Hp} {φ φ' φ1 φ2 : List Addr} {S S' : Sto} {K : PySem.W.Frag} {X : Cx}

def rOp (G : Gx) (o : Op) (vs : List V) (H : Hp) (Q : VK) : Prop :=
  ∃ I φ S ws w, Sim G I φ S H ∧ Rels G I φ ws vs ∧ opSem o ws S = some w ∧ KE G I φ H S w Q
/-- the same where a new list comes -/
def rFr (G : Gx) (o : Op) (vs : List V) (H : Hp) (Q : VK) : Prop :=
  ∃ I φ S ws xs, Sim G I φ S H ∧ Rels G I φ ws vs ∧ opSem o ws S = some (.lst xs) ∧ KF G I φ H S xs Q

/-! ### ints -/
theorem or_sub : OpR X (binaryOp .Sub) (fun x y => rOp G .sub [x, y]) := by
  rintro pins s σ H x y v u Q J rx ry ⟨I, φ, S, ws, w, sm, rs, e, k⟩
  obtain ⟨a, b, rfl, ra, rb⟩ := rels2 rs
  cases a <;> first | (cases e; done) | skip
  cases b <;> first | (cases e; done) | skip
  cases e
  obtain rfl := rel_int ra
  obtain rfl := rel_int rb
  exact op_sub pins s σ H _ _ v u Q J rx ry ⟨_, _, rfl, rfl, k.here sm rfl⟩
theorem or_fdiv : OpR X (binaryOp .FloorDiv) (fun x y => rOp G .fdiv [x, y]) := by
  rintro pins s σ H x y v u Q J rx ry ⟨I, φ, S, ws, w, sm, rs, e, k⟩
  obtain ⟨a, b, rfl, ra, rb⟩ := rels2 rs
  cases a <;> first | (cases e; done) | skip
  cases b <;> first | (cases e; done) | skip
  obtain rfl := rel_int ra
  obtain rfl := rel_int rb
  simp only [opSem] at e
  split at e
  · rename_i hc
    cases e
    simp only [Tw.CDiv, Bool.and_eq_true, decide_eq_true_eq] at hc
    exact op_fdiv pins s σ H _ _ v u Q J rx ry ⟨_, _, rfl, rfl, hc, k.here sm rfl⟩
  · cases e
theorem or_mod : OpR X (binaryOp .Mod) (fun x y => rOp G .mod [x, y]) := by
  rintro pins s σ H x y v u Q J rx ry ⟨I, φ, S, ws, w, sm, rs, e, k⟩
  obtain ⟨a, b, rfl, ra, rb⟩ := rels2 rs
  cases a <;> first | (cases e; done) | skip
  cases b <;> first | (cases e; done) | skip
  obtain rfl := rel_int ra
  obtain rfl := rel_int rb
  simp only [opSem] at e
  split at e
  · rename_i hc
    cases e
    exact op_mod pins s σ H _ _ v u Q J rx ry ⟨_, _, rfl, rfl, hc, k.here sm rfl⟩
  · cases e
theorem or_pow : OpR X (binaryOp .Pow) (fun x y => rOp G .pow [x, y]) := by
  rintro pins s σ H x y v u Q J rx ry ⟨I, φ, S, ws, w, sm, rs, e, k⟩
  obtain ⟨a, b, rfl, ra, rb⟩ := rels2 rs
  cases a <;> first | (cases e; done) | skip
  cases b <;> first | (cases e; done) | skip
  obtain rfl := rel_int ra
  obtain rfl := rel_int rb
  simp only [opSem] at e
  split at e
  · rename_i hc
    cases e
    simp only [Tw.CPow, Bool.and_eq_true, decide_eq_true_eq] at hc
    exact op_pow pins s σ H _ _ v u Q J rx ry ⟨_, _, rfl, rfl, ⟨hc.1.1, hc.1.2, hc.2⟩, k.here sm rfl⟩
  · cases e
theorem or_neg : UnR X (unaryOp .USub) (fun x => rOp G .neg [x]) := by
  rintro pins s σ H x v Q J rx ⟨I, φ, S, ws, w, sm, rs, e, k⟩
  obtain ⟨a, rfl, ra⟩ := rels1 rs
  cases a <;> first | (cases e; done) | skip
  cases e
  obtain rfl := rel_int ra
  exact un_neg pins s σ H _ v Q J rx ⟨_, rfl, k.here sm rfl⟩

/-! ### list + list, list * int -/
theorem lstAt {w : W} {v : V} {xs : List W} (s : Sim G I φ S H) (r : Rel G I φ w v) (e : lstOf S w = some xs) : ∃ a vs, v = .ref a ∧ H a = some (.lst vs) ∧ Rels G I φ xs vs := by
  cases w with
  | lst ws =>
    obtain ⟨a, vs, rfl, h, q⟩ := r
    cases e
    exact ⟨a, vs, rfl, s.same _ _ h, q⟩
  | ref n =>
    obtain ⟨a, rfl, h⟩ := r
    cases hS : S[n]? with
    | none => simp [lstOf, hS] at e
    | some o =>
      cases o with
      | lst ws =>
        simp [lstOf, hS] at e
        subst e
        obtain ⟨vs, h1, h2⟩ := s.cell n a _ h hS
        exact ⟨a, vs, rfl, h1, h2⟩
      | _ => simp [lstOf, hS] at e
  | _ => simp [lstOf] at e
theorem opAdd_cases {a b w : W} (e : opAdd S a b = some w) :
    (∃ i j, a = .int i ∧ b = .int j ∧ w = .int (i + j)) ∨ (∃ x y, a = .str x ∧ b = .str y ∧ x.length + y.length < LIM ∧ w = .str (x ++ y)) ∨
    ∃ xs ys, lstOf S a = some xs ∧ lstOf S b = some ys ∧ xs.length + ys.length < LIM ∧ w = .lst (xs ++ ys) := by
  unfold opAdd at e
  split at e
  · cases e; exact .inl ⟨_, _, rfl, rfl, rfl⟩
  · split at e
    · rename_i hl
      cases e; exact .inr (.inl ⟨_, _, rfl, rfl, hl, rfl⟩)
    · cases e
  · split at e
    · split at e
      · rename_i hl
        cases e
        rename_i h1 h2
        exact .inr (.inr ⟨_, _, h1, h2, hl, rfl⟩)
      · cases e
    · cases e
theorem or_addF : OpR X (binaryOp .Add) (fun x y => rFr G .add [x, y]) := by
  rintro pins s σ H x y v u Q J rx ry ⟨I, φ, S, ws, xs, sm, rs, e, k⟩
  obtain ⟨a, b, rfl, ra, rb⟩ := rels2 rs
  rcases opAdd_cases (show opAdd S a b = some _ from e) with ⟨i, j, _, _, z⟩ | ⟨i, j, _, _, _, z⟩ | ⟨as, bs, h1, h2, hl, z⟩
  · cases z
  · cases z
  · cases z
    obtain ⟨p, vs, rfl, s1, r1⟩ := lstAt sm ra h1
    obtain ⟨q, us, rfl, s2, r2⟩ := lstAt sm rb h2
    have l1 := r1.length
    have l2 := r2.length
    have := lim_ok hl
    exact op_cat pins s σ H _ _ v u Q J rx ry ⟨p, q, vs, us, rfl, rfl, s1, s2, by omega, fun p hp => k.here sm hp (r1.append r2) (by rw [List.length_append]; omega)⟩
theorem or_add : OpR X (binaryOp .Add) (fun x y => rOp G .add [x, y]) := by
  rintro pins s σ H x y v u Q J rx ry ⟨I, φ, S, ws, w, sm, rs, e, k⟩
  obtain ⟨a, b, rfl, ra, rb⟩ := rels2 rs
  rcases opAdd_cases (show opAdd S a b = some _ from e) with ⟨i, j, rfl, rfl, rfl⟩ | ⟨i, j, rfl, rfl, hl, rfl⟩ | ⟨as, bs, h1, h2, hl, rfl⟩
  · obtain rfl := rel_int ra
    obtain rfl := rel_int rb
    exact op_add pins s σ H _ _ v u Q J rx ry ⟨_, _, rfl, rfl, k.here sm rfl⟩
  · obtain rfl : x = .str ⟨i.toArray⟩ := ra
    obtain rfl : y = .str ⟨j.toArray⟩ := rb
    refine op_add_str pins s σ H _ _ v u Q J rx ry ⟨_, _, rfl, rfl, ?_, k.here sm ?_⟩
    · show i.toArray.size + j.toArray.size ≤ sizeLine
      simp only [List.size_toArray]
      exact Nat.le_of_lt (lim_ok hl)
    · show V.str _ = V.str _
      congr 1
      show Str.append _ _ = _
      simp [Str.append]
  · exact or_addF pins s σ H x y v u Q J rx ry ⟨I, φ, S, _, _, sm, rs, e, k.toKF⟩

theorem opMul_cases {a b w : W} (e : opMul S a b = some w) :
    (∃ i j, a = .int i ∧ b = .int j ∧ CMul i j = true ∧ w = .int (i * j)) ∨ (∃ s n, a = .str s ∧ b = .int n ∧ n.natAbs < LIM ∧ s.length * n.toNat < LIM ∧ w = .str (List.replicate n.toNat s).flatten) ∨
    ∃ xs n, lstOf S a = some xs ∧ b = .int n ∧ n.natAbs < LIM ∧ xs.length * n.toNat < LIM ∧ w = .lst (List.replicate n.toNat xs).flatten := by
  unfold opMul at e
  split at e
  · split at e
    · rename_i hc
      cases e; exact .inl ⟨_, _, rfl, rfl, hc, rfl⟩
    · cases e
  · split at e
    · rename_i hc
      simp only [Bool.and_eq_true, decide_eq_true_eq] at hc
      cases e; exact .inr (.inl ⟨_, _, rfl, rfl, hc.1, hc.2, rfl⟩)
    · cases e
  · split at e
    · rename_i h
      split at e
      · rename_i hc
        simp only [Bool.and_eq_true, decide_eq_true_eq] at hc
        cases e; exact .inr (.inr ⟨_, _, h, rfl, hc.1, hc.2, rfl⟩)
      · cases e
    · cases e
  · cases e
theorem Rels.rep {ws : List W} {vs : List V} (r : Rels G I φ ws vs) : ∀ n, Rels G I φ (List.replicate n ws).flatten (List.replicate n vs).flatten
  | 0 => .nil
  | n + 1 => by
    simp only [List.replicate_succ, List.flatten_cons]
    exact r.append (Rels.rep r n)
theorem flat_len {α : Type} (xs : List α) (n : Nat) : ((List.replicate n xs).flatten).length = xs.length * n := by
  induction n with
  | zero => simp
  | succ n ih => simp only [List.replicate_succ, List.flatten_cons, List.length_append, ih, Nat.mul_add]; omega
theorem str_short {n : Nat} (h : n < 100000) : Builtin.Str.tooLong n = false := by
  unfold Builtin.Str.tooLong
  simp
  have : 100000 ≤ sizeLine := by decide
  omega
theorem or_mulF : OpR X (binaryOp .Mult) (fun x y => rFr G .mul [x, y]) := by
  rintro pins s σ H x y v u Q J rx ry ⟨I, φ, S, ws, xs, sm, rs, e, k⟩
  obtain ⟨a, b, rfl, ra, rb⟩ := rels2 rs
  rcases opMul_cases (show opMul S a b = some _ from e) with ⟨i, j, _, _, _, z⟩ | ⟨i, j, _, _, _, _, z⟩ | ⟨as, n, h1, rfl, h2, hl, z⟩
  · cases z
  · cases z
  · cases z
    obtain ⟨p, vs, rfl, s1, r1⟩ := lstAt sm ra h1
    obtain rfl := rel_int rb
    have l1 := r1.length
    have l2 := Nat.le_of_lt (lim_ok hl)
    have hn : n.natAbs < 100000 := h2
    exact op_rep pins s σ H _ _ v u Q J rx ry ⟨p, n, vs, rfl, rfl, s1, by omega, by omega, by rw [l1]; exact l2, fun p hp => k.here sm hp (r1.rep _) (by rw [flat_len, l1]; exact l2)⟩
theorem or_mul : OpR X (binaryOp .Mult) (fun x y => rOp G .mul [x, y]) := by
  rintro pins s σ H x y v u Q J rx ry ⟨I, φ, S, ws, w, sm, rs, e, k⟩
  obtain ⟨a, b, rfl, ra, rb⟩ := rels2 rs
  rcases opMul_cases (show opMul S a b = some _ from e) with ⟨i, j, rfl, rfl, hc, rfl⟩ | ⟨i, n, rfl, rfl, hn, hl, rfl⟩ | ⟨as, n, h1, rfl, h2, hl, rfl⟩
  · obtain rfl := rel_int ra
    obtain rfl := rel_int rb
    refine op_mul pins s σ H _ _ v u Q J rx ry ⟨_, _, rfl, rfl, ?_, k.here sm rfl⟩
    simp only [CMul, Bool.or_eq_true, decide_eq_true_eq] at hc
    exact hc.imp (fun h => ⟨by omega, by omega⟩) (fun h => ⟨by omega, by omega⟩)
  · obtain rfl : x = .str ⟨i.toArray⟩ := ra
    obtain rfl := rel_int rb
    have hn : n.natAbs < 100000 := hn
    have hl : i.length * n.toNat < 100000 := hl
    obtain ⟨t1, rfl⟩ := (show ∃ t, v = Value.str ⟨i.toArray⟩ t from rx)
    obtain ⟨t2, rfl⟩ := (show ∃ t, u = Value.int n t from ry)
    refine PySem.SB.mul ⟨?_, fun h1 _ => ?_, fun _ _ => ?_⟩ fun t' k' => ⟨.str (Txt.mul ⟨i.toArray⟩ n), H, J.tok _, ⟨_, rfl⟩, ?_⟩
    · rw [Bool.or_eq_false_iff]
      exact ⟨decide_eq_false (by omega), decide_eq_false (by omega)⟩
    · show ¬ ((i.toArray.size : Int) > (2 ^ 63 - 1) / n)
      rw [List.size_toArray]
      intro h
      have h2 := Int.ediv_lt_iff_lt_mul (by omega : 0 < n) |>.mp h
      have h3 : ((i.length : Int) * n) = ((i.length * n.toNat : Nat) : Int) := by
        rw [Int.natCast_mul, Int.toNat_of_nonneg (by omega)]
      rw [h3] at h2
      omega
    · have : i.toArray.size * n.toNat < 100000 := by simpa using hl
      show Builtin.Str.tooLong (i.toArray.size * n.toNat) = false
      exact str_short this
    · refine k.here sm ?_
      show V.str _ = V.str _
      congr 1
      unfold Txt.mul
      have fo : ∀ (m : Nat) (acc : Array Nat), List.foldl (fun a b => a ++ b) acc (List.replicate m i.toArray) = acc ++ (List.replicate m i).flatten.toArray := by
        intro m
        induction m with
        | zero => intro acc; simp
        | succ m ih => intro acc; rw [List.replicate_succ, List.foldl_cons, ih]; simp [List.replicate_succ]
      by_cases h1 : n < 1
      · rw [if_pos h1, show n.toNat = 0 by omega]
        rfl
      · rw [if_neg h1]
        split
        · rename_i hc
          rw [Bool.or_eq_true] at hc
          rcases hc with hc | hc
          · have : n = 1 := by simpa using hc
            subst this
            show _ = Str.mk (List.replicate 1 i).flatten.toArray
            simp
          · have h0 : i.toArray.size = 0 := by simpa [Str.length] using hc
            have : i = [] := by simpa using h0
            subst this
            simp
        · rw [fo]
          simp
  · exact or_mulF pins s σ H x y v u Q J rx ry ⟨I, φ, S, _, _, sm, rs, e, k.toKF⟩

/-! ### == and != -/
theorem eqOp_cases {a b : W} {r : Bool} (e : eqOp S a b = some r) :
    (∃ x y, a = .str x ∧ b = .str y ∧ r = (x == y)) ∨ (∃ i j, a = .int i ∧ b = .int j ∧ r = (i == j)) ∨ (∃ i j, a = .bl i ∧ b = .bl j ∧ r = (i == j)) ∨
    ∃ x y, vw S a = some x ∧ vw S b = some y ∧ datW 30 x = true ∧ datW 30 y = true ∧ r = eqW x y := by
  unfold eqOp at e
  split at e
  · cases e; exact .inl ⟨_, _, rfl, rfl, rfl⟩
  · cases e; exact .inr (.inl ⟨_, _, rfl, rfl, rfl⟩)
  · cases e; exact .inr (.inr (.inl ⟨_, _, rfl, rfl, rfl⟩))
  · simp only [Option.bind_eq_some_iff] at e
    obtain ⟨x, h1, y, h2, e⟩ := e
    split at e
    · rename_i hc
      cases e
      simp only [Bool.and_eq_true] at hc
      exact .inr (.inr (.inr ⟨x, y, h1, h2, hc.1, hc.2, rfl⟩))
    · cases e
theorem str_beq (x y : List Nat) : decide (V.str ⟨x.toArray⟩ = V.str ⟨y.toArray⟩) = (x == y) := by
  rw [Bool.eq_iff_iff]
  simp
theorem int_beq (x y : Int) : decide (V.int x = V.int y) = (x == y) := by
  rw [Bool.eq_iff_iff]
  simp
theorem bl_beq (x y : Bool) : decide (V.bl x = V.bl y) = (x == y) := by
  rw [Bool.eq_iff_iff]
  simp
theorem or_eq (hu : X.A.units + 64 < cLine) : OpR X (compareOp .Eq) (fun x y => rOp G .eq [x, y]) := by
  rintro pins s σ H x y v u Q J rx ry ⟨I, φ, S, ws, w, sm, rs, e, k⟩
  obtain ⟨a, b, rfl, ra, rb⟩ := rels2 rs
  simp only [opSem, Option.map_eq_some_iff] at e
  obtain ⟨r, e, rfl⟩ := e
  have fin : Q (.bl r) H := k.here sm rfl
  rcases eqOp_cases e with ⟨i, j, rfl, rfl, rfl⟩ | ⟨i, j, rfl, rfl, rfl⟩ | ⟨i, j, rfl, rfl, rfl⟩ | ⟨x', y', h1, h2, d1, d2, rfl⟩
  · obtain rfl : x = .str ⟨i.toArray⟩ := ra
    obtain rfl : y = .str ⟨j.toArray⟩ := rb
    exact op_eq pins s σ H _ _ v u Q J rx ry ⟨rfl, by rw [str_beq]; exact fin⟩
  · obtain rfl := rel_int ra
    obtain rfl := rel_int rb
    exact op_eq pins s σ H _ _ v u Q J rx ry ⟨rfl, by rw [int_beq]; exact fin⟩
  · obtain rfl : x = .bl i := ra
    obtain rfl : y = .bl j := rb
    exact op_eq pins s σ H _ _ v u Q J rx ry ⟨rfl, by rw [bl_beq]; exact fin⟩
  · refine op_eqD hu pins s σ H x y v u Q J rx ry ⟨toD x', toD y', vw_dp sm ra h1 d1, vw_dp sm rb h2 d2, dat_shaped d1, dat_shaped d2, ?_⟩
    rw [eqW_eqv 30 30 x' y' d1 d2]
    exact fin
theorem or_ne (hu : X.A.units + 64 < cLine) : OpR X (compareOp .NotEq) (fun x y => rOp G .ne [x, y]) := by
  rintro pins s σ H x y v u Q J rx ry ⟨I, φ, S, ws, w, sm, rs, e, k⟩
  obtain ⟨a, b, rfl, ra, rb⟩ := rels2 rs
  simp only [opSem, Option.map_eq_some_iff] at e
  obtain ⟨r, e, rfl⟩ := e
  have fin : Q (.bl (!r)) H := k.here sm rfl
  rcases eqOp_cases e with ⟨i, j, rfl, rfl, rfl⟩ | ⟨i, j, rfl, rfl, rfl⟩ | ⟨i, j, rfl, rfl, rfl⟩ | ⟨x', y', h1, h2, d1, d2, rfl⟩
  · obtain rfl : x = .str ⟨i.toArray⟩ := ra
    obtain rfl : y = .str ⟨j.toArray⟩ := rb
    exact op_ne pins s σ H _ _ v u Q J rx ry ⟨rfl, by rw [str_beq]; exact fin⟩
  · obtain rfl := rel_int ra
    obtain rfl := rel_int rb
    exact op_ne pins s σ H _ _ v u Q J rx ry ⟨rfl, by rw [int_beq]; exact fin⟩
  · obtain rfl : x = .bl i := ra
    obtain rfl : y = .bl j := rb
    exact op_ne pins s σ H _ _ v u Q J rx ry ⟨rfl, by rw [bl_beq]; exact fin⟩
  · refine op_neD hu pins s σ H x y v u Q J rx ry ⟨toD x', toD y', vw_dp sm ra h1 d1, vw_dp sm rb h2 d2, dat_shaped d1, dat_shaped d2, ?_⟩
    rw [eqW_eqv 30 30 x' y' d1 d2]
    exact fin

/-! ### < -/
mutual
theorem alike_toD : ∀ (x y : W), alikeW x y = true → PySem.W.alike (toD x) (toD y) = true
  | .non, y, h => by cases y <;> simp_all [alikeW, toD, PySem.W.alike]
  | .bl _, y, h => by cases y <;> simp_all [alikeW, toD, PySem.W.alike]
  | .int _, y, h => by cases y <;> simp_all [alikeW, toD, PySem.W.alike]
  | .str _, y, h => by cases y <;> simp_all [alikeW, toD, PySem.W.alike]
  | .lst xs, y, h => by
    cases y with
    | lst ys =>
      simp only [toD, PySem.W.alike]
      exact alike_toDs xs ys (by simpa [alikeW] using h)
    | _ => simp [alikeW] at h
  | .tup xs, y, h => by
    cases y with
    | tup ys =>
      simp only [toD, PySem.W.alike]
      exact alike_toDs xs ys (by simpa [alikeW] using h)
    | _ => simp [alikeW] at h
  | .dic _ _ _, y, h => by simp [alikeW] at h
  | .rcd _ _, y, h => by simp [alikeW] at h
  | .ref _, y, h => by simp [alikeW] at h
  | .exn _, y, h => by simp [alikeW] at h
theorem alike_toDs : ∀ (xs ys : List W), alikeL xs ys = true → PySem.W.alikeAll (toDs xs) (toDs ys) = true
  | [], ys, _ => by cases ys <;> simp [toDs, PySem.W.alikeAll]
  | x :: xs, [], _ => by simp [toDs, PySem.W.alikeAll]
  | x :: xs, y :: ys, h => by
    simp only [alikeL, Bool.and_eq_true] at h
    simp only [toDs, PySem.W.alikeAll, alike_toD x y h.1, alike_toDs xs ys h.2, Bool.and_self]
end
theorem eqW_alike {n m : Nat} {x y : W} (h1 : datW n x = true) (h2 : datW m y = true) : PyData.eqv (toD x) (toD y) = eqW x y := eqW_eqv n m x y h1 h2
mutual
theorem lt_toD : ∀ (n m : Nat) (x y : W), datW n x = true → datW m y = true → alikeW x y = true → PySem.W.dataLt (toD x) (toD y) = ltW x y
  | n, m, .non, y, _, _, h => by
    cases y with
    | non => simp only [toD, ltW]; rfl
    | _ => simp [alikeW] at h
  | n, m, .bl a, y, _, _, h => by
    cases y with
    | bl b => simp only [toD, ltW, PySem.W.dataLt_bool]; cases a <;> cases b <;> rfl
    | _ => simp [alikeW] at h
  | n, m, .int a, y, _, _, h => by
    cases y with
    | int b => simp only [toD, ltW, PySem.W.dataLt_int]
    | _ => simp [alikeW] at h
  | n, m, .str a, y, _, _, h => by
    cases y with
    | str b => simp only [toD, ltW, PySem.W.dataLt_str]
    | _ => simp [alikeW] at h
  | 0, m, .lst xs, y, h, _, _ => by simp [datW] at h
  | 0, m, .tup xs, y, h, _, _ => by simp [datW] at h
  | n + 1, m, .lst xs, y, h1, h2, h => by
    cases y with
    | lst ys =>
      cases m with
      | zero => simp [datW] at h2
      | succ m =>
        simp only [toD, ltW, PySem.W.dataLt_list]
        exact lt_toDs n m xs ys (by simpa [datW] using h1) (by simpa [datW] using h2) (by simpa [alikeW] using h)
    | _ => simp [alikeW] at h
  | n + 1, m, .tup xs, y, h1, h2, h => by
    cases y with
    | tup ys =>
      cases m with
      | zero => simp [datW] at h2
      | succ m =>
        simp only [toD, ltW, PySem.W.dataLt_tuple]
        exact lt_toDs n m xs ys (by simpa [datW] using h1) (by simpa [datW] using h2) (by simpa [alikeW] using h)
    | _ => simp [alikeW] at h
  | n, m, .dic _ _ _, y, h, _, _ => by simp [datW] at h
  | n, m, .rcd _ _, y, h, _, _ => by simp [datW] at h
  | n, m, .ref _, y, h, _, _ => by simp [datW] at h
  | n, m, .exn _, y, h, _, _ => by simp [datW] at h
theorem lt_toDs : ∀ (n m : Nat) (xs ys : List W), datL n xs = true → datL m ys = true → alikeL xs ys = true → PyProof.Rows.lexLt itemOrd (PySem.W.keyToksAll (toDs xs)) (PySem.W.keyToksAll (toDs ys)) = ltL xs ys
  | n, m, [], [], _, _, _ => by
    simp only [toDs, ltL, PySem.W.keyToksAll]
    exact lex_irrefl _
  | n, m, [], y :: ys, _, _, _ => by
    simp only [toDs, ltL]
    rw [PySem.W.toks_all_cons]
    simp only [PySem.W.keyToksAll]
    rw [lex_diff (O := itemOrd) (by simp)]
    simp [itemLt]
  | n, m, x :: xs, [], _, _, _ => by
    simp only [toDs, ltL]
    rw [PySem.W.toks_all_cons]
    simp only [PySem.W.keyToksAll]
    rw [lex_diff (O := itemOrd) (by simp)]
    simp [itemLt]
  | n, m, x :: xs, y :: ys, h1, h2, h => by
    simp only [alikeL, Bool.and_eq_true] at h
    simp only [datL, Bool.and_eq_true] at h1 h2
    simp only [toDs, ltL]
    have ha := alike_toD x y h.1
    have he := eqW_eqv n m x y h1.1 h2.1
    cases hq : eqW x y with
    | true =>
      rw [hq] at he
      rw [PySem.W.dataLt_all_yes ha he, if_pos rfl]
      exact lt_toDs n m xs ys h1.2 h2.2 h.2
    | false =>
      rw [hq] at he
      rw [PySem.W.dataLt_all_no ha he, if_neg (by simp)]
      exact lt_toD n m x y h1.1 h2.1 h.1
end
theorem or_lt (hu : X.A.units + 64 < cLine) : OpR X (compareOp .Lt) (fun x y => rOp G .lt [x, y]) := by
  rintro pins s σ H x y v u Q J rx ry ⟨I, φ, S, ws, w, sm, rs, e, k⟩
  obtain ⟨a, b, rfl, ra, rb⟩ := rels2 rs
  have main : (∃ i j, a = .int i ∧ b = .int j ∧ w = .bl (decide (i < j))) ∨ (ltOp S a b).map .bl = some w := by
    have e' : (ltSem S a b).map W.bl = some w := e
    unfold ltSem at e'
    split at e'
    · cases e'; exact .inl ⟨_, _, rfl, rfl, rfl⟩
    · exact .inr e'
  clear e
  rcases main with ⟨i, j, rfl, rfl, rfl⟩ | e
  · obtain rfl := rel_int ra
    obtain rfl := rel_int rb
    exact op_lt pins s σ H _ _ v u Q J rx ry ⟨_, _, rfl, rfl, k.here sm rfl⟩
  · simp only [Option.map_eq_some_iff, ltOp, Option.bind_eq_some_iff] at e
    obtain ⟨r, ⟨x', h1, y', h2, e⟩, rfl⟩ := e
    split at e
    · rename_i hc
      cases e
      simp only [Bool.and_eq_true] at hc
      obtain ⟨⟨⟨d1, d2⟩, al⟩, nn⟩ := hc
      obtain ⟨as, r1⟩ := Dp.reads J _ x v (vw_dp sm ra h1 d1) rx
      obtain ⟨bs, r2⟩ := Dp.reads J _ y u (vw_dp sm rb h2 d2) ry
      have dp := (dat_lay 30 x' d1).2
      have hroom : X.A.units + min (toD x').depth (toD y').depth < cLine := by
        have := Nat.min_le_left (toD x').depth (toD y').depth
        omega
      have hnn : toD x' ≠ .none := by
        cases x' <;> simp_all [toD, notNone, datW]
      have := PySem.W.rcLt_alike _ _ X.A s v u as bs r1 r2 (alike_toD x' y' al) hnn hroom X.prog X.w X.xe (EP X pins σ Q)
      rw [lt_toD 30 30 x' y' d1 d2 al] at this
      exact this ⟨.bl _, H, J, rfl, k.here sm rfl⟩
    · cases e
end Tw

/-! Tw, part E: more operations. -/
namespace Tw
open PySem PySem.Spec PyProof.Rows L2

variable {G : Gx} {I I' I1 I2 H H' H1 H2 : Hp} {φ φ' φ1 φ2 : List Addr} {S S' : Sto} {K : PySem.W.Frag} {X : Cx}

theorem or_le : OpR X (compareOp .LtE) (fun x y => rOp G .le [x, y]) := by
  rintro pins s σ H x y v u Q J rx ry ⟨I, φ, S, ws, w, sm, rs, e, k⟩
  obtain ⟨a, b, rfl, ra, rb⟩ := rels2 rs
  cases a <;> first | (cases e; done) | skip
  cases b <;> first | (cases e; done) | skip
  cases e
  obtain rfl := rel_int ra
  obtain rfl := rel_int rb
  exact op_le pins s σ H _ _ v u Q J rx ry ⟨_, _, rfl, rfl, k.here sm rfl⟩
theorem or_gt : OpR X (compareOp .Gt) (fun x y => rOp G .gt [x, y]) := by
  rintro pins s σ H x y v u Q J rx ry ⟨I, φ, S, ws, w, sm, rs, e, k⟩
  obtain ⟨a, b, rfl, ra, rb⟩ := rels2 rs
  cases a <;> first | (cases e; done) | skip
  cases b <;> first | (cases e; done) | skip
  cases e
  obtain rfl := rel_int ra
  obtain rfl := rel_int rb
  exact op_gt pins s σ H _ _ v u Q J rx ry ⟨_, _, rfl, rfl, k.here sm rfl⟩
theorem or_ge : OpR X (compareOp .GtE) (fun x y => rOp G .ge [x, y]) := by
  rintro pins s σ H x y v u Q J rx ry ⟨I, φ, S, ws, w, sm, rs, e, k⟩
  obtain ⟨a, b, rfl, ra, rb⟩ := rels2 rs
  cases a <;> first | (cases e; done) | skip
  cases b <;> first | (cases e; done) | skip
  cases e
  obtain rfl := rel_int ra
  obtain rfl := rel_int rb
  exact op_ge pins s σ H _ _ v u Q J rx ry ⟨_, _, rfl, rfl, k.here sm rfl⟩
theorem rel_non {w : W} {v : V} (r : Rel G I φ w v) : decide (v = .non) = !notNone w := by
  cases w with
  | non => obtain rfl : v = .non := r; rfl
  | bl b => obtain rfl : v = .bl b := r; rfl
  | int b => obtain rfl : v = .int b := r; rfl
  | str b => obtain rfl : v = .str _ := r; rfl
  | tup _ => obtain ⟨a, _, rfl, _⟩ := r; rfl
  | lst _ => obtain ⟨a, _, rfl, _⟩ := r; rfl
  | dic t _ _ => cases t <;> (obtain ⟨a, _, rfl, _⟩ := r; rfl)
  | rcd _ _ => obtain ⟨a, _, _, rfl, _⟩ := r; rfl
  | ref _ => obtain ⟨a, rfl, _⟩ := r; rfl
  | exn _ => obtain ⟨a, rfl, _⟩ := r; rfl
  | klst _ => obtain ⟨a, rfl, _⟩ := r; rfl
theorem or_isnone : OpR X (compareOp .Is) (fun x y H Q => y = .non ∧ rOp G .isnone [x] H Q) := by
  rintro pins s σ H x y v u Q J rx ry ⟨rfl, I, φ, S, ws, w, sm, rs, e, k⟩
  obtain ⟨a, rfl, ra⟩ := rels1 rs
  refine op_isN pins s σ H _ _ v u Q J rx ry ⟨rfl, ?_⟩
  rw [rel_non ra]
  cases e
  exact k.here sm rfl
theorem or_notnone : OpR X (compareOp .IsNot) (fun x y H Q => y = .non ∧ rOp G .notnone [x] H Q) := by
  rintro pins s σ H x y v u Q J rx ry ⟨rfl, I, φ, S, ws, w, sm, rs, e, k⟩
  obtain ⟨a, rfl, ra⟩ := rels1 rs
  refine op_notN pins s σ H _ _ v u Q J rx ry ⟨rfl, ?_⟩
  rw [rel_non ra, Bool.not_not]
  cases e
  exact k.here sm rfl

/-! ### keys of dicts -/
theorem eqW_kW (a b : Key) : eqW (kW a) (kW b) = decide (a = b) := by
  cases a with
  | inl i => cases b with
    | inl j => simp only [kW, eqW]; rw [key_ll]
    | inr y => simp only [kW, eqW]; rw [key_lr]
  | inr x => cases b with
    | inl j => simp only [kW, eqW]; rw [key_rl]
    | inr y =>
      simp only [kW, eqW]
      rw [key_rr, Bool.eq_iff_iff]
      obtain ⟨x⟩ := x
      obtain ⟨y⟩ := y
      simp [Array.toList_inj]
theorem eqL_kW : ∀ (a b : List Key), eqL (a.map kW) (b.map kW) = decide (a = b)
  | [], [] => by simp [eqL]
  | [], _ :: _ => by simp [eqL]
  | _ :: _, [] => by simp [eqL]
  | x :: a, y :: b => by
    simp only [List.map_cons, eqL]
    rw [eqW_kW, eqL_kW a b, Bool.eq_iff_iff]
    simp
theorem key_one {w : W} {v : V} (r : Rel G I φ w v) (h : key1 w = true) : ∃ k : Key, w = kW k ∧ v = kV k := by
  cases w <;> first | (simp [key1] at h; done) | skip
  · rename_i i; exact ⟨.inl i, rfl, r⟩
  · rename_i s; exact ⟨.inr ⟨s.toArray⟩, rfl, r⟩
theorem key_all : ∀ {ws : List W} {vs : List V}, Rels G I φ ws vs → ws.all key1 = true → ∃ ks : List Key, ws = ks.map kW ∧ vs = ks.map kV
  | [], _, r, _ => ⟨[], rfl, r⟩
  | w :: ws, _, ⟨x, xs, e, h, r⟩, f => by
    simp only [List.all_cons, Bool.and_eq_true] at f
    obtain ⟨k, rfl, rfl⟩ := key_one h f.1
    obtain ⟨ks, rfl, rfl⟩ := key_all r f.2
    exact ⟨k :: ks, rfl, e⟩
theorem keyF {w : W} {v : V} (r : Rel G I φ w v) (h : isKey false w = true) : ∃ k : Key, w = kW k ∧ v = kV k := by
  cases w <;> first | (simp [isKey, key1] at h; done) | skip
  · rename_i i; exact ⟨.inl i, rfl, r⟩
  · rename_i s; exact ⟨.inr ⟨s.toArray⟩, rfl, r⟩
theorem keyT {w : W} {v : V} (r : Rel G I φ w v) (h : isKey true w = true) : ∃ (k : List Key) (a : Addr), w = .tup (k.map kW) ∧ v = .ref a ∧ I a = some (.tup (k.map kV)) := by
  cases w <;> first | (simp [isKey, key1] at h; done) | skip
  rename_i xs
  simp [isKey] at h
  obtain ⟨a, vs, rfl, ha, q⟩ := r
  obtain ⟨ks, rfl, rfl⟩ := key_all q (by simpa using h)
  exact ⟨ks, a, rfl, rfl, ha⟩
section
variable {κ : Type} [DecidableEq κ]
theorem dget_val (f : κ → W) (hf : ∀ a b, eqW (f a) (f b) = decide (a = b)) (k : κ) : ∀ {kvs : List (κ × V)} {vs : List W}, Rels G I φ vs (kvs.map (·.2)) →
    match dget (kvs.map fun p => f p.1) vs (f k) with
    | some w => ∃ v, valV kvs k = some v ∧ Rel G I φ w v
    | none => valV kvs k = none
  | [], vs, r => by
    have : vs = [] := rels0 r
    subst this
    simp [dget, valV]
  | p :: kvs, [], r => by
    have := r.length
    simp at this
  | p :: kvs, v :: vs, r => by
    obtain ⟨x, xs, e, h, t⟩ := r
    simp only [List.map_cons, List.cons.injEq] at e
    obtain ⟨e1, e2⟩ := e
    subst e2
    simp only [List.map_cons, dget]
    rw [hf]
    by_cases hk : p.1 = k
    · rw [if_pos (decide_eq_true hk)]
      exact ⟨p.2, valV_pos hk, e1 ▸ h⟩
    · rw [if_neg (by simpa using hk), valV_neg hk]
      exact dget_val f hf k t
theorem dhas_val (f : κ → W) (hf : ∀ a b, eqW (f a) (f b) = decide (a = b)) (k : κ) (kvs : List (κ × V)) : dhas (kvs.map fun p => f p.1) (f k) = (valV kvs k).isSome := by
  rw [← valV_any k kvs]
  unfold dhas
  rw [List.any_map]
  congr 1
  funext p
  exact hf _ _
end
theorem hfK : ∀ a b : Key, eqW (kW a) (kW b) = decide (a = b) := eqW_kW
theorem hfT : ∀ a b : List Key, eqW (.tup (a.map kW)) (.tup (b.map kW)) = decide (a = b) := fun a b => by rw [eqW]; exact eqL_kW a b
/-- what the dict holds -/
theorem dget_rel {w x : W} {v y : V} {t : Bool} {ks vs : List W} (s : Sim G I φ S H) (r : Rel G I φ w v) (e : dicOf S w = some (t, ks, vs)) (rk : Rel G I φ x y) (hk : isKey t x = true) :
    ∃ a o, v = .ref a ∧ DGet H a y o ∧ (dhas ks x = o.isSome) ∧ match dget ks vs x with
      | some z => ∃ u, o = some u ∧ Rel G I φ z u
      | none => o = none := by
  cases t with
  | false =>
    obtain ⟨a, kvs, rfl, ha, rfl, rv⟩ := dicRelK s r e
    obtain ⟨k, rfl, rfl⟩ := keyF rk hk
    exact ⟨a, _, rfl, .k ha, dhas_val kW hfK k kvs, dget_val kW hfK k rv⟩
  | true =>
    obtain ⟨a, kvs, rfl, ha, rfl, rv⟩ := dicRelT s r e
    obtain ⟨k, b, rfl, rfl, hb⟩ := keyT rk hk
    exact ⟨a, _, rfl, .t ha (s.same _ _ hb), dhas_val (fun k => .tup (k.map kW)) hfT k kvs, dget_val (fun k => .tup (k.map kW)) hfT k rv⟩

/-! ### in -/
theorem flat_rel {w : W} {v : V} (r : Rel G I φ w v) (h : flatW w = true) : flatV v = true := by
  cases w <;> first | (simp [flatW] at h; done) | (rw [show v = _ from r]; rfl)
theorem flat_all : ∀ {ws : List W} {vs : List V}, Rels G I φ ws vs → ws.all flatW = true → vs.all flatV = true
  | [], _, r, _ => by rw [show _ = [] from r]; rfl
  | w :: ws, _, ⟨x, xs, e, h, r⟩, f => by
    simp only [List.all_cons, Bool.and_eq_true] at f
    subst e
    simp only [List.all_cons, Bool.and_eq_true]
    exact ⟨flat_rel h f.1, flat_all r f.2⟩
theorem eq_flat {w u : W} {v x : V} (r : Rel G I φ w v) (q : Rel G I φ u x) (h : flatW w = true) (h' : flatW u = true) : eqV v x = eqW w u := by
  cases w <;> first | (simp [flatW] at h; done) | skip
  all_goals (rw [show v = _ from r])
  all_goals (cases u <;> first | (simp [flatW] at h'; done) | skip)
  all_goals (rw [show x = _ from q])
  all_goals first | rfl | skip
  rename_i a b
  simp only [eqV, eqW]
  rw [Bool.eq_iff_iff]
  simp
theorem any_flat {u : W} {x : V} (q : Rel G I φ u x) (h' : flatW u = true) : ∀ {ws : List W} {vs : List V}, Rels G I φ ws vs → ws.all flatW = true → (vs.any fun y => eqV y x) = ws.any fun z => eqW z u
  | [], _, r, _ => by rw [show _ = [] from r]; rfl
  | w :: ws, _, ⟨y, ys, e, h, r⟩, f => by
    simp only [List.all_cons, Bool.and_eq_true] at f
    subst e
    simp only [List.any_cons]
    rw [eq_flat h q f.1 h', any_flat q h' r f.2]
theorem any_eqv {x' : W} (d1 : datW 30 x' = true) : ∀ {ys : List W} {n : Nat}, datL n ys = true → ((toDs ys).any fun z => PyData.eqv z (toD x')) = ys.any fun z => eqW z x'
  | [], _, _ => by rw [toDs]; rfl
  | y :: ys, n, h => by
    simp only [datL, Bool.and_eq_true] at h
    rw [toDs, List.any_cons, List.any_cons, eqW_eqv n 30 y x' h.1 d1, any_eqv d1 h.2]
/-- the three ways in which in is asked -/
theorem inOp_ok {x y : W} {v u : V} {r : Bool} (s : Sim G I φ S H) (rx : Rel G I φ x v) (ry : Rel G I φ y u) (e : inOp S x y = some r) :
    (∃ (c : Nat) (z : Str), v = .str ⟨#[c]⟩ ∧ u = .str z ∧ r = decide (c ∈ z.cps.toList)) ∨ (∃ a o, u = .ref a ∧ DGet H a v o ∧ r = o.isSome) ∨
    (∃ d ds, Dp K H v d ∧ Dp K H u (.list ds) ∧ SeqAt.shaped d = true ∧ SeqAt.shaped (.list ds) = true ∧ r = ds.any fun z => PyData.eqv z d) ∨
    (∃ p xs, u = .ref p ∧ (SqL K H p xs ∨ SqT K H p xs) ∧ flatV v = true ∧ xs.all flatV = true ∧ r = inV v xs) := by
  unfold inOp at e
  split at e
  · rename_i b
    split at e
    · rename_i c
      cases e
      refine .inl ⟨c, ⟨b.toArray⟩, rx, ry, ?_⟩
      rw [Bool.eq_iff_iff]
      simp
    · cases e
  · split at e
    · rename_i t ks vs hd
      split at e
      · rename_i hk
        cases e
        obtain ⟨a, o, rfl, g, h, _⟩ := dget_rel s ry hd rx hk
        exact .inr (.inl ⟨a, o, rfl, g, h⟩)
      · cases e
    · split at e
      · rename_i ys hl
        simp only [Option.bind_eq_some_iff] at e
        obtain ⟨x', h1, ys', h2, e⟩ := e
        split at e
        · rename_i hc
          cases e
          simp only [Bool.and_eq_true] at hc
          obtain ⟨a, vs, rfl, sq, rs⟩ := lstRel (K := K) s ry hl
          have dl : datL 30 ys' = true → SeqAt.shaped (.list (toDs ys')) = true := datL_shaped
          have mono : ∀ (n : Nat), datL n ys' = true → datL (n + 1) ys' = true := by
            intro n hn
            exact (datL_mono n ys' hn)
          refine .inr (.inr (.inl ⟨toD x', toDs ys', vw_dp s rx h1 hc.1, .lst sq (vws_dp s rs h2 hc.2), dat_shaped hc.1, datL_shaped (mono 29 hc.2), ?_⟩))
          exact (any_eqv hc.1 hc.2).symm
        · cases e
      · split at e
        · rename_i ys
          split at e
          · rename_i hc
            cases e
            simp only [Bool.and_eq_true] at hc
            obtain ⟨a, vs, rfl, ha, rs⟩ := ry
            refine .inr (.inr (.inr ⟨a, vs, rfl, .inr (.inl (.inl (s.same _ _ ha))), flat_rel rx hc.1, flat_all rs hc.2, ?_⟩))
            exact (any_flat rx hc.1 rs hc.2).symm
          · cases e
        · cases e
where
  datW_mono : ∀ (n : Nat) (w : W), datW n w = true → datW (n + 1) w = true
    | _, .non, _ => by simp [datW]
    | _, .bl _, _ => by simp [datW]
    | _, .int _, _ => by simp [datW]
    | _, .str s, h => by simpa [datW] using h
    | 0, .lst xs, h => by simp [datW] at h
    | 0, .tup xs, h => by simp [datW] at h
    | n + 1, .lst xs, h => by simp [datW] at h ⊢; exact datL_mono n xs h
    | n + 1, .tup xs, h => by simp [datW] at h ⊢; exact datL_mono n xs h
    | _, .dic _ _ _, h => by simp [datW] at h
    | _, .rcd _ _, h => by simp [datW] at h
    | _, .ref _, h => by simp [datW] at h
    | _, .exn _, h => by simp [datW] at h
  datL_mono : ∀ (n : Nat) (ws : List W), datL n ws = true → datL (n + 1) ws = true
    | _, [], _ => by simp [datL]
    | n, w :: ws, h => by
      simp only [datL, Bool.and_eq_true] at h ⊢
      exact ⟨datW_mono n w h.1, datL_mono n ws h.2⟩
theorem or_in (hu : X.A.units + 65 < cLine) : OpR X (compareOp .In) (fun x y => rOp G .isin [x, y]) := by
  rintro pins s σ H x y v u Q J rx ry ⟨I, φ, S, ws, w, sm, rs, e, k⟩
  obtain ⟨a, b, rfl, ra, rb⟩ := rels2 rs
  simp only [opSem, Option.map_eq_some_iff] at e
  obtain ⟨r, e, rfl⟩ := e
  have fin : Q (.bl r) H := k.here sm rfl
  rcases inOp_ok (K := X.K) sm ra rb e with ⟨c, z, rfl, rfl, rfl⟩ | ⟨p, o, rfl, g, rfl⟩ | ⟨d, ds, h1, h2, h3, h4, rfl⟩ | ⟨p, xs, rfl, h1, h2, h3, rfl⟩
  · exact op_in_sign pins s σ H _ _ v u Q J rx ry ⟨c, z, rfl, rfl, fin⟩
  · cases ry
    exact d_in (by omega) J g rx fun s' J' => ⟨.bl o.isSome, H, J', rfl, fin⟩
  · exact op_inD hu pins s σ H _ _ v u Q J rx ry ⟨d, ds, h1, h2, h3, h4, fin⟩
  · exact op_in_seq pins s σ H _ _ v u Q J rx ry ⟨p, xs, rfl, h1, h2, h3, fin⟩
theorem or_notin (hu : X.A.units + 65 < cLine) : OpR X (compareOp .NotIn) (fun x y => rOp G .notin [x, y]) := by
  rintro pins s σ H x y v u Q J rx ry ⟨I, φ, S, ws, w, sm, rs, e, k⟩
  obtain ⟨a, b, rfl, ra, rb⟩ := rels2 rs
  simp only [opSem, Option.map_eq_some_iff] at e
  obtain ⟨r, e, rfl⟩ := e
  have fin : Q (.bl (!r)) H := k.here sm rfl
  rcases inOp_ok (K := X.K) sm ra rb e with ⟨c, z, rfl, rfl, rfl⟩ | ⟨p, o, rfl, g, rfl⟩ | ⟨d, ds, h1, h2, h3, h4, rfl⟩ | ⟨p, xs, rfl, h1, h2, h3, rfl⟩
  · exact op_notIn_sign pins s σ H _ _ v u Q J rx ry ⟨c, z, rfl, rfl, fin⟩
  · cases ry
    exact d_notIn (by omega) J g rx fun s' J' => ⟨.bl (!o.isSome), H, J', rfl, fin⟩
  · exact op_notInD hu pins s σ H _ _ v u Q J rx ry ⟨d, ds, h1, h2, h3, h4, fin⟩
  · exact op_notIn_seq pins s σ H _ _ v u Q J rx ry ⟨p, xs, rfl, h1, h2, h3, fin⟩

/-! ### x[i] -/
theorem ix_dict (hu : X.A.units + 1 < cLine) : IxR X (fun x y H Q => ∃ a v, x = .ref a ∧ DGet H a y (some v) ∧ Q v H) := by
  rintro value slice pins s σ H x y v u Q J rx ry ⟨a, z, rfl, g, q⟩ hs
  cases rx
  have hT := dict_typeIs J g
  have h2 : wpAny (model X.prog X.w) X.A (getItem (.ref a) u) (EP X pins σ Q) X.xe s := d_getItem hu J g ry fun w' s3 J3 rw' => ⟨z, H, J3, rw', q⟩
  unfold subscriptTail
  refine wpAny_bind ?_
  rw [getitemInPython_of_ne hT.not_modules]
  refine wpAny_bind (wpAny_specialOf hT PySem.F.slot_dict_getitem.lookup ?_)
  have fin : wpAny (model X.prog X.w) X.A (subscripted slice false (.ref a) u) (fun r s₃ => wpAny (model X.prog X.w) X.A (letTemporaryGo value (.ref a) r >>= fun _ => pure r) (EP X pins σ Q) X.xe s₃) X.xe s := by
    rw [hs]
    exact wpAny_operating (wpAny_mono h2 (fun r s₃ h₃ => wpAny_bind (wpAny_letTemporaryGo (wpAny_pure h₃))) fun _ _ x => x)
  first
    | exact wpAny_pure (wpAny_bind fin)
    | exact wpAny_bind (wpAny_pure (wpAny_bind fin))
    | exact wpAny_bind fin
theorem ixN_eq (n : Nat) (i : Int) : Tw.ixN n i = L2.ixN n i := rfl
theorem or_idx (hk : X.K = G.K) (hu : X.A.units + 1 < cLine) : IxR X (fun x y => rOp G .idx [x, y]) := by
  rintro value slice pins s σ H x y v u Q J rx ry ⟨I, φ, S, ws, w, sm, rs, e, k⟩ hs
  obtain ⟨a, b, rfl, ra, rb⟩ := rels2 rs
  simp only [opSem] at e
  unfold idxSem at e
  split at e
  · rename_i z
    split at e
    · rename_i i
      split at e
      · rename_i hl
        simp only [Option.bind_eq_some_iff, Option.map_eq_some_iff] at e
        obtain ⟨j, h1, c, h2, rfl⟩ := e
        obtain rfl : x = .str ⟨z.toArray⟩ := ra
        obtain rfl := rel_int rb
        refine ix_str value slice pins s σ H _ _ v u Q J rx ry ⟨⟨z.toArray⟩, i, c, rfl, rfl, ?_, ?_, ?_⟩ hs
        · show z.toArray.size ≤ sizeLine
          simpa using Nat.le_of_lt (lim_ok hl)
        · show (L2.ixN z.toArray.toList.length i).bind _ = _
          simp only [List.toList_toArray]
          rw [← ixN_eq, h1]
          exact h2
        · exact k.here sm (by show _ = _; simp)
      · cases e
    · cases e
  · split at e
    · rename_i xs hq
      split at e
      · rename_i i
        simp only [Option.bind_eq_some_iff] at e
        obtain ⟨j, h1, h2⟩ := e
        obtain rfl := rel_int rb
        obtain ⟨p, vs, rfl, sq, rv⟩ := seqRel (K := X.K) hk sm ra hq
        obtain ⟨z, hz, rz⟩ := rv.get h2
        have hat : atI vs i = some z := by
          show (L2.ixN vs.length i).bind _ = _
          rw [rv.length, ← ixN_eq, h1]
          exact hz
        rcases sq with sq | sq
        · exact ix_list value slice pins s σ H _ _ v u Q J rx ry ⟨p, vs, i, z, rfl, rfl, sq, hat, k.here sm rz⟩ hs
        · exact ix_tup value slice pins s σ H _ _ v u Q J rx ry ⟨p, vs, i, z, rfl, rfl, sq, hat, k.here sm rz⟩ hs
      · cases e
    · split at e
      · rename_i t ks vs hd
        split at e
        · rename_i hk
          obtain ⟨p, o, rfl, g, _, hm⟩ := dget_rel sm ra hd rb hk
          rw [e] at hm
          obtain ⟨z, rfl, rz⟩ := hm
          exact ix_dict hu value slice pins s σ H _ _ v u Q J rx ry ⟨p, z, rfl, g, k.here sm rz⟩ hs
        · cases e
      · cases e

/-! ### slices -/
theorem Rels.cut {ws : List W} {vs : List V} (r : Rels G I φ ws vs) (lo hi : Option Int) : Rels G I φ (Tw.cut ws lo hi) (cutV vs lo hi) := by
  have e : ∀ n d o, Tw.sIx n d o = HT.sIx n d o := fun n d o => by cases o <;> rfl
  unfold Tw.cut cutV
  rw [r.length, e, e]
  exact (r.drop _).take _
def rSlice (G : Gx) (fr : Bool) (x : V) (lo hi : Option Int) (H : Hp) (Q : VK) : Prop :=
  ∃ I φ S a w, Sim G I φ S H ∧ Rel G I φ a x ∧ sliceSem S a lo hi = some w ∧ if fr then ∃ xs, w = .lst xs ∧ KF G I φ H S xs Q else KE G I φ H S w Q
theorem sliceSem_cases {a w : W} {lo hi : Option Int} (e : sliceSem S a lo hi = some w) : (∃ z, a = .str z ∧ z.length < LIM ∧ w = .str (Tw.cut z lo hi)) ∨ ∃ xs, (lstOf S a = some xs ∨ ∃ ns, a = .klst ns ∧ xs = ns.map .int) ∧ w = .lst (Tw.cut xs lo hi) := by
  unfold sliceSem at e
  split at e
  · split at e
    · rename_i hl
      cases e
      exact .inl ⟨_, rfl, hl, rfl⟩
    · cases e
  · cases e
    exact .inr ⟨_, .inr ⟨_, rfl, rfl⟩, rfl⟩
  · simp only [Option.map_eq_some_iff] at e
    obtain ⟨xs, h, rfl⟩ := e
    exact .inr ⟨xs, .inl h, rfl⟩
theorem cutS_eq (z : List Nat) (lo hi : Option Int) : cutS ⟨z.toArray⟩ lo hi = ⟨(Tw.cut z lo hi).toArray⟩ := by
  have e : ∀ n d o, Tw.sIx n d o = HT.sIx n d o := fun n d o => by cases o <;> rfl
  unfold cutS Tw.cut
  rw [e, e]
  simp [PySem.Str.length]
theorem sr_slice (hk : X.K = G.K) (fr : Bool) : SlR X (rSlice G fr) := by
  rintro pins s σ H x v vl vu lo hi sl Q J rx hs pl pu ⟨I, φ, S, a, w, sm, ra, e, k⟩
  rcases sliceSem_cases e with ⟨z, rfl, hl, rfl⟩ | ⟨xs, h, rfl⟩
  · cases fr with
    | true => obtain ⟨_, e, _⟩ := k; cases e
    | false =>
      obtain rfl : x = .str ⟨z.toArray⟩ := ra
      refine sl_str pins s σ H _ v vl vu lo hi sl Q J rx hs pl pu ⟨_, rfl, ?_, ?_⟩
      · show z.toArray.size ≤ sizeLine
        simpa using Nat.le_of_lt (lim_ok hl)
      · rw [cutS_eq]
        exact KE.here k sm rfl
  · have hh : ∃ a vs, x = .ref a ∧ SqL X.K H a vs ∧ Rels G I φ xs vs := by
      rcases h with h | ⟨ns, rfl, rfl⟩
      · exact lstRel (K := X.K) sm ra h
      · obtain ⟨p, hp, sq⟩ := ra
        exact ⟨p, _, hp, by rw [hk]; exact sm.same.seq sq, relsI ns⟩
    obtain ⟨p, vs, rfl, sq, rv⟩ := hh
    have kf : KF G I φ H S (Tw.cut xs lo hi) Q := by
      cases fr with
      | true => obtain ⟨_, e, k⟩ := k; cases e; exact k
      | false => exact KE.toKF k
    refine sl_list pins s σ H _ v vl vu lo hi sl Q J rx hs pl pu ⟨p, vs, rfl, sq, fun q hq => kf.here sm hq (rv.cut lo hi) ?_⟩
    have := cutV_length vs lo hi
    obtain ⟨_, rv', _, hz⟩ := J.list sq
    exact Nat.le_trans this hz

/-! ### calls of built-ins -/
theorem or_len (hk : X.K = G.K) : CallR X (.builtin "len") (rOp G .len) := by
  rintro pins s σ H xs us Q J rs ⟨I, φ, S, ws, w, sm, rws, e0, k⟩
  match ws, e0 with
  | [a], e =>
    obtain ⟨x, xs', rfl, ra, rr⟩ := rws
    obtain rfl : xs' = [] := rr
    simp only [opSem, Option.map_eq_some_iff] at e
    obtain ⟨n, e, rfl⟩ := e
    unfold lenSem at e
    split at e
    · rename_i z
      split at e
      · rename_i hl
        cases e
        obtain rfl : x = .str ⟨z.toArray⟩ := ra
        refine call_len_str pins s σ H _ us Q J rs ⟨_, rfl, ?_, ?_⟩
        · show z.toArray.size ≤ sizeLine
          simpa using Nat.le_of_lt (lim_ok hl)
        · exact k.here sm (by show V.int _ = V.int _; simp [PySem.Str.length])
      · cases e
    · split at e
      · rename_i ys hq
        cases e
        obtain ⟨p, vs, rfl, sq, rv⟩ := seqRel (K := X.K) hk sm ra hq
        refine call_len_seq pins s σ H _ us Q J rs ⟨p, vs, rfl, sq, ?_⟩
        rw [rv.length]
        exact k.here sm rfl
      · simp only [Option.map_eq_some_iff] at e
        obtain ⟨⟨t, ks, vs⟩, hd, rfl⟩ := e
        cases t with
        | false =>
          obtain ⟨p, kvs, rfl, hp, rfl, _⟩ := dicRelK sm ra hd
          refine call_lenD pins s σ H _ us Q J rs ⟨p, kvs, rfl, hp, k.here sm ?_⟩
          show V.int _ = V.int _
          simp
        | true =>
          obtain ⟨p, kvs, rfl, hp, rfl, _⟩ := dicRelT sm ra hd
          refine call_len_dT pins s σ H _ us Q J rs ⟨p, kvs, rfl, hp, k.here sm ?_⟩
          show V.int _ = V.int _
          simp
theorem or_listF (hk : X.K = G.K) : CallR X (.type "list") (rFr G .list) := by
  rintro pins s σ H xs us Q J rs ⟨I, φ, S, ws, ys, sm, rws, e0, k⟩
  match ws, e0 with
  | [a], e =>
    obtain ⟨x, xs', rfl, ra, rr⟩ := rws
    obtain rfl : xs' = [] := rr
    simp only [opSem, Option.map_eq_some_iff] at e
    obtain ⟨zs, hq, e⟩ := e
    cases e
    obtain ⟨p, vs, rfl, sq, rv⟩ := seqRel (K := X.K) hk sm ra hq
    have hz : vs.length ≤ sizeLine := by
      rcases sq with sq | sq
      · exact (J.list sq).choose_spec.2.2
      · exact (J.tuple sq).choose_spec.2.2
    exact call_list_of pins s σ H _ us Q J rs ⟨p, vs, rfl, sq, fun l hl => k.here sm hl rv hz⟩
theorem fr_op {f : Value} {o : Op} (h : CallR X f (rFr G o)) (ho : ∀ ws S w, opSem o ws S = some w → ∃ xs, w = .lst xs) : CallR X f (rOp G o) := by
  rintro pins s σ H xs us Q J rs ⟨I, φ, S, ws, w, sm, rws, e, k⟩
  obtain ⟨ys, rfl⟩ := ho ws S w e
  exact h pins s σ H xs us Q J rs ⟨I, φ, S, ws, ys, sm, rws, e, k.toKF⟩
theorem or_tuple (hk : X.K = G.K) : CallR X (.type "tuple") (rOp G .tuple) := by
  rintro pins s σ H xs us Q J rs ⟨I, φ, S, ws, w, sm, rws, e0, k⟩
  match ws, e0 with
  | [a], e =>
    obtain ⟨x, xs', rfl, ra, rr⟩ := rws
    obtain rfl : xs' = [] := rr
    simp only [opSem, Option.map_eq_some_iff] at e
    obtain ⟨zs, hq, rfl⟩ := e
    cases a with
    | tup zs' =>
      cases hq
      obtain ⟨p, vs, rfl, hp, rv⟩ := ra
      exact call_tuple_of pins s σ H _ us Q J rs ⟨p, vs, rfl, .inr ⟨.inl (.inl (sm.same _ _ hp)), k.here sm ⟨p, vs, rfl, hp, rv⟩⟩⟩
    | lst zs' =>
      obtain ⟨p, vs, rfl, sq, rv⟩ := lstRel (K := X.K) sm ra hq
      exact call_tuple_of pins s σ H _ us Q J rs ⟨p, vs, rfl, .inl ⟨sq, fun l hl => k.tup sm hl rv⟩⟩
    | ref n =>
      have hq' : lstOf S (.ref n) = some zs := hq
      obtain ⟨p, vs, rfl, sq, rv⟩ := lstRel (K := X.K) sm ra hq'
      exact call_tuple_of pins s σ H _ us Q J rs ⟨p, vs, rfl, .inl ⟨sq, fun l hl => k.tup sm hl rv⟩⟩
    | klst ns =>
      obtain ⟨p, vs, rfl, sq, rv⟩ := seqRel (K := X.K) hk sm ra hq
      rcases sq with sq | sq
      · exact call_tuple_of pins s σ H _ us Q J rs ⟨p, vs, rfl, .inl ⟨sq, fun l hl => k.tup sm hl rv⟩⟩
      · obtain ⟨q, hq2, sq2⟩ := ra
        cases hq2
        cases hq
        have sq3 : SqL X.K H p (ns.map V.int) := by rw [hk]; exact sm.same.seq sq2
        exact call_tuple_of pins s σ H _ us Q J rs ⟨p, _, rfl, .inl ⟨sq3, fun l hl => k.tup sm hl (relsI ns)⟩⟩
    | _ => simp [seqOf] at hq
theorem digVal_eq (l : List Nat) : NumText.digitsVal l = digVal l := rfl
theorem strI_v (i : Int) : V.str (PySem.Str.ofString (toString i)) = V.str ⟨(strI i).toArray⟩ := by
  rw [PySem.Str.ofString_eq_toList]
  rfl
theorem or_str : CallR X (.type "str") (rOp G .str) := by
  rintro pins s σ H xs us Q J rs ⟨I, φ, S, ws, w, sm, rws, e0, k⟩
  match ws, e0 with
  | [.int i], e =>
    simp only [opSem] at e
    split at e
    · rename_i hc
      cases e
      obtain ⟨x, xs', rfl, ra, rr⟩ := rws
      obtain rfl : xs' = [] := rr
      obtain rfl := rel_int ra
      simp only [decide_eq_true_eq] at hc
      refine call_str_int pins s σ H _ us Q J rs ⟨i, rfl, ?_, ?_⟩
      · have : i.natAbs < 2 ^ 1920 := Nat.lt_trans hc (by decide)
        by_cases h0 : i.natAbs = 0
        · rw [h0]; decide
        · exact (Nat.log2_lt h0).mpr this
      · rw [strI_v]
        exact k.here sm rfl
    · cases e
theorem or_int : CallR X (.type "int") (rOp G .int) := by
  rintro pins s σ H xs us Q J rs ⟨I, φ, S, ws, w, sm, rws, e0, k⟩
  match ws, e0 with
  | [.int i], e =>
    cases e
    obtain ⟨x, xs', rfl, ra, rr⟩ := rws
    obtain rfl : xs' = [] := rr
    obtain rfl := rel_int ra
    exact call_int1 pins s σ H _ us Q J rs (.inl ⟨i, rfl, k.here sm rfl⟩)
  | [.bl b], e =>
    cases e
    obtain ⟨x, xs', rfl, ra, rr⟩ := rws
    obtain rfl : xs' = [] := rr
    obtain rfl : x = .bl b := ra
    exact call_int1 pins s σ H _ us Q J rs (.inr ⟨b, rfl, k.here sm rfl⟩)
  | [.str z], e =>
    simp only [opSem] at e
    split at e
    · rename_i hc
      cases e
      obtain ⟨x, xs', rfl, ra, rr⟩ := rws
      obtain rfl : xs' = [] := rr
      obtain rfl : x = .str ⟨z.toArray⟩ := ra
      simp only [Bool.and_eq_true, decide_eq_true_eq, List.all_eq_true, isDig] at hc
      obtain ⟨⟨h1, h2⟩, h3⟩ := hc
      refine call_int_str pins s σ H _ us Q J rs ⟨⟨z.toArray⟩, (digVal z : Nat), rfl, ?_, ?_, k.here sm rfl⟩
      · rw [intText_digits (x := ⟨z.toArray⟩) (fun c hc => h2 c (by simpa using hc)) (by simpa using h1) (by show z.toArray.size ≤ 4300; simp; omega), ← digVal_eq]
      · show z.toArray.size ≤ 640
        simp
        omega
    · cases e
theorem or_max (hc : X.calm = true) : CallR X (.builtin "max") (rOp G .max) := by
  rintro pins s σ H xs us Q J rs ⟨I, φ, S, ws, w, sm, rws, e0, k⟩
  match ws, e0 with
  | [.int i, .int j], e =>
    cases e
    obtain ⟨x, xs', rfl, ra, y, ys, rfl, rb, rr⟩ := rws
    obtain rfl : ys = [] := rr
    obtain rfl := rel_int ra
    obtain rfl := rel_int rb
    exact call_max2 hc pins s σ H _ us Q J rs ⟨i, j, rfl, k.here sm rfl⟩
theorem or_min (hc : X.calm = true) : CallR X (.builtin "min") (rOp G .min) := by
  rintro pins s σ H xs us Q J rs ⟨I, φ, S, ws, w, sm, rws, e0, k⟩
  match ws, e0 with
  | [.int i, .int j], e =>
    cases e
    obtain ⟨x, xs', rfl, ra, y, ys, rfl, rb, rr⟩ := rws
    obtain rfl : ys = [] := rr
    obtain rfl := rel_int ra
    obtain rfl := rel_int rb
    exact call_min2 hc pins s σ H _ us Q J rs ⟨i, j, rfl, k.here sm rfl⟩
theorem allBl_rel : ∀ {ws : List W} {vs : List V} {b : Bool}, Rels G I φ ws vs → allBl ws = some b → ∃ bs : List Bool, vs = bs.map V.bl ∧ b = bs.all id
  | [], _, _, r, e => by cases e; exact ⟨[], r, rfl⟩
  | w :: ws, _, _, ⟨x, xs, e1, h, r⟩, e => by
    cases w <;> first | (simp [allBl] at e; done) | skip
    rename_i b
    simp only [allBl, Option.map_eq_some_iff] at e
    obtain ⟨c, e2, rfl⟩ := e
    obtain ⟨bs, rfl, rfl⟩ := allBl_rel r e2
    obtain rfl : x = .bl b := h
    exact ⟨b :: bs, e1, rfl⟩
theorem or_all (hc : X.calm = true) : CallR X (.builtin "all") (rOp G .all) := by
  rintro pins s σ H xs us Q J rs ⟨I, φ, S, ws, w, sm, rws, e0, k⟩
  match ws, e0 with
  | [a], e =>
    obtain ⟨x, xs', rfl, ra, rr⟩ := rws
    obtain rfl : xs' = [] := rr
    simp only [opSem, Option.bind_eq_some_iff, Option.map_eq_some_iff] at e
    obtain ⟨zs, hq, b, hb, rfl⟩ := e
    obtain ⟨p, vs, rfl, sq, rv⟩ := lstRel (K := X.K) sm ra hq
    obtain ⟨bs, rfl, rfl⟩ := allBl_rel rv hb
    exact cr_all hc pins s σ H _ us Q J rs ⟨p, bs, rfl, sq, k.here sm rfl⟩
end Tw

/-! Tw, part F: sorted, index, count, get, isinstance; what changes a cell. -/
namespace Tw
open PySem PySem.Spec PyProof.Rows L2

variable {G : Gx} {I I' I1 I2 H H' H1 H2 : Hp} {φ φ' φ1 φ2 : List Addr} {S S' : Sto} {K : PySem.W.Frag} {X : Cx}

mutual
theorem dat_sub (b : Bool) (g : Nat → Option W) : ∀ (n : Nat) (w : W), datW n w = true → sub false g w = some w
  | _, .non, _ => by simp [sub]
  | _, .bl _, _ => by simp [sub]
  | _, .int _, _ => by simp [sub]
  | _, .str _, _ => by simp [sub]
  | 0, .lst xs, h => by simp [datW] at h
  | 0, .tup xs, h => by simp [datW] at h
  | n + 1, .lst xs, h => by simp [datW] at h; simp [sub, dat_subL b g n xs h]
  | n + 1, .tup xs, h => by simp [datW] at h; simp [sub, dat_subL b g n xs h]
  | _, .dic _ _ _, h => by simp [datW] at h
  | _, .rcd _ _, h => by simp [datW] at h
  | _, .ref _, h => by simp [datW] at h
  | _, .exn _, h => by simp [datW] at h
theorem dat_subL (b : Bool) (g : Nat → Option W) : ∀ (n : Nat) (ws : List W), datL n ws = true → subL false g ws = some ws
  | _, [], _ => by simp [subL]
  | n, w :: ws, h => by
    simp only [datL, Bool.and_eq_true] at h
    simp [subL, dat_sub b g n w h.1, dat_subL b g n ws h.2]
end
theorem dat_dp (s : Sim G I φ S H) {n : Nat} {w : W} {v : V} (r : Rel G I φ w v) (h : datW n w = true) : Dp K H v (toD w) :=
  vw_dp s r (dat_sub false _ n w h) h
theorem datL_mem : ∀ {n : Nat} {ws : List W}, datL n ws = true → ∀ w ∈ ws, datW n w = true
  | _, [], _, _, h => by cases h
  | n, x :: xs, f, w, h => by
    simp only [datL, Bool.and_eq_true] at f
    rcases List.mem_cons.mp h with rfl | h
    · exact f.1
    · exact datL_mem f.2 w h
def RU (G : Gx) (I : Hp) (φ : List Addr) (u : Value) (w : W) : Prop := ∃ v, L2.RelV v u ∧ Rel G I φ w v
theorem each_of : ∀ {ws : List W} {vs : List V} {us : List Value}, Rels G I φ ws vs → Vals vs us → PySem.W.EachIs (RU G I φ) us ws
  | [], _, _, r, q => by rw [show _ = [] from r] at q; cases q; exact .nil
  | w :: ws, _, _, ⟨x, xs, e, h, r⟩, q => by
    subst e
    cases q with
    | cons q1 q2 => exact .cons ⟨x, q1, h⟩ (each_of r q2)
theorem of_each : ∀ {ws : List W} {us : List Value}, PySem.W.EachIs (RU G I φ) us ws → ∃ vs, Rels G I φ ws vs ∧ Vals vs us
  | _, _, .nil => ⟨[], rfl, .nil⟩
  | _, _, .cons ⟨v, q, h⟩ t => by
    obtain ⟨vs, r, q2⟩ := of_each t
    exact ⟨v :: vs, ⟨v, vs, rfl, h, r⟩, .cons q q2⟩
theorem sort_eq {xs : List W} (hd : datL 30 xs = true) (ha : (xs.all fun x => xs.all fun y => alikeW x y) = true) : xs.mergeSort (PySem.W.dataLe false toD) = sortW xs := by
  refine PySem.W.sort_congr fun a ha' b hb' => ?_
  simp only [List.all_eq_true] at ha
  rw [PySem.W.dataLe_eq]
  show (!PySem.W.dataLt (toD b) (toD a)) = !ltW b a
  rw [lt_toD 30 30 b a (datL_mem hd b hb') (datL_mem hd a ha') (ha b hb' a ha')]
theorem rels_mem : ∀ {ws : List W} {vs : List V}, Rels G I φ ws vs → ∀ w ∈ ws, ∃ v, Rel G I φ w v
  | [], _, _, _, h => by cases h
  | w :: ws, _, ⟨x, xs, e, h, r⟩, z, hz => by
    rcases List.mem_cons.mp hz with rfl | hz
    · exact ⟨x, h⟩
    · exact rels_mem r z hz
theorem allInt_map : ∀ {ws : List W}, allInt ws = true → ∃ ns : List Int, ws = ns.map W.int
  | [], _ => ⟨[], rfl⟩
  | w :: ws, h => by
    cases w <;> first | (simp [allInt] at h; done) | skip
    rename_i i
    obtain ⟨ns, rfl⟩ := allInt_map (ws := ws) (by simpa [allInt] using h)
    exact ⟨i :: ns, rfl⟩
theorem rels_ints : ∀ {ns : List Int} {vs : List V}, Rels G I φ (ns.map W.int) vs → vs = ns.map V.int
  | [], _, r => r
  | n :: ns, _, ⟨x, xs, e, h, r⟩ => by
    obtain rfl : x = .int n := h
    rw [e, rels_ints r]
    rfl
theorem ints_rels : ∀ (ns : List Int), Rels G I φ (ns.map W.int) (ns.map V.int)
  | [] => rfl
  | n :: ns => ⟨.int n, _, rfl, rfl, ints_rels ns⟩
theorem sortW_ints (ns : List Int) : sortW (ns.map W.int) = (ns.mergeSort fun a b => decide (a ≤ b)).map W.int := by
  unfold sortW
  refine (PySem.W.sort_maps W.int fun a _ b _ => ?_).symm
  show decide (a ≤ b) = !ltW (.int b) (.int a)
  simp only [ltW]
  rw [Bool.eq_iff_iff]
  simp
theorem or_sortedF (hc : X.calm = true) (hu : X.A.units + 64 < cLine) : CallR X (.builtin "sorted") (rFr G .sorted) := by
  rintro pins s σ H xs us Q J rs ⟨I, φ, S, ws, ys, sm, rws, e0, k⟩
  match ws, e0 with
  | [a], e =>
    obtain ⟨x, xs', rfl, ra, rr⟩ := rws
    obtain rfl : xs' = [] := rr
    simp only [opSem, Option.map_eq_some_iff] at e
    obtain ⟨zs, e, ez⟩ := e
    cases ez
    unfold sortedSem at e
    split at e
    · rename_i ws' hq
      split at e
      · rename_i hcond
        cases e
        simp only [Bool.and_eq_true, decide_eq_true_eq] at hcond
        obtain ⟨⟨hd, hs⟩, hl⟩ := hcond
        simp only [sortOk, Bool.and_eq_true] at hs
        obtain ⟨ha, hs⟩ := hs
        obtain ⟨p, vs, rfl, sq, rv⟩ := lstRel (K := X.K) sm ra hq
        obtain ⟨its, rvl, pl, hz⟩ := J.list sq
        obtain ⟨u, rfl, ru⟩ := vals1 rs
        obtain rfl : u = Value.ref p := ru
        have hlen := rv.length
        have hd' := hd
        refine PySem.W.sorted_data (β := W) (enc := toD) (bs := ws') (R := RU G I φ) pl.isList (each_of rv rvl) ?_ ?_ ?_ ?_ ?_ ?_
        · have : ∀ (ws : List W) (vs : List V) (its : List Value), datL 30 ws = true → Rels G I φ ws vs → Vals vs its → PySem.W.EachIs (fun v b => ∃ as, Reads s.heap v (toD b) as) its ws := by
            intro ws
            induction ws with
            | nil => intro vs its _ r q; rw [show vs = [] from r] at q; cases q; exact .nil
            | cons w ws ih =>
              intro vs its hd r q
              obtain ⟨x, xs, e, h, r⟩ := r
              subst e
              simp only [datL, Bool.and_eq_true] at hd
              cases q with
              | cons q1 q2 => exact .cons (Dp.reads J _ x _ (dat_dp sm h hd.1) q1) (ih _ _ hd.2 r q2)
          exact this ws' vs its hd rv rvl
        · intro d hd1 d' hd2
          obtain ⟨b, hb, rfl⟩ := List.mem_map.mp hd1
          obtain ⟨b', hb', rfl⟩ := List.mem_map.mp hd2
          simp only [List.all_eq_true] at ha
          exact alike_toD _ _ (ha b hb b' hb')
        · simp only [Bool.or_eq_true, List.all_eq_true] at hs
          rcases hs with hs | hs
          · refine .inl fun d hd1 => ?_
            obtain ⟨b, hb, rfl⟩ := List.mem_map.mp hd1
            have := hs b hb
            cases b <;> first | (simp [isTup1] at this; done) | skip
            rename_i l
            cases l with
            | nil => simp [isTup1] at this
            | cons y l => exact ⟨toD y, toDs l, by simp [toD, toDs]⟩
          · refine .inr fun d hd1 => ?_
            obtain ⟨b, hb, rfl⟩ := List.mem_map.mp hd1
            have h1 := hs b hb
            have h2 := datL_mem hd' b hb
            cases b <;> simp_all [notNone, isTup, toD, datW]
        · exact Nat.le_of_lt (lim_ok hl)
        · intro b hb
          have := (dat_lay 30 b (datL_mem hd b hb)).2
          omega
        · intro out ho hout
          rw [sort_eq hd ha] at hout
          obtain ⟨vs', r', q'⟩ := of_each hout
          have hl' := q'.length
          have kp : ∀ b o, s.heap.get? b = some o → (sortedAll s.heap its out.toArray).get? b = some o := fun b o e => sortedAll_old e
          obtain ⟨n, hn⟩ := sortedAll_at s.heap its out.toArray
          have hf : H (s.heap.objs.size + 1) = none := J.hok.fresh (Nat.le_succ _)
          have hle : vs'.length ≤ sizeLine := by rw [hl', ho]; exact Nat.le_of_lt (lim_ok hl)
          exact ⟨.ref (s.heap.objs.size + 1), _, J.laid (t' := s.toks) (o := .lst vs') kp (Nat.le_succ _) ⟨hle, out, n, q', hn⟩, rfl, k.here sm hf r' hle⟩
      · cases e
    · split at e
      · rename_i ks vs hd
        split at e
        · rename_i hcond
          cases e
          simp only [Bool.and_eq_true, decide_eq_true_eq] at hcond
          obtain ⟨hi, hl⟩ := hcond
          obtain ⟨p, kvs, rfl, hp, hks, _⟩ := dicRelK sm ra hd
          obtain ⟨ns, rfl⟩ := allInt_map hi
          have hk : kvs.map (·.1) = ns.map Sum.inl := by
            have : ∀ (kvs : List (Key × V)) (ns : List Int), ns.map W.int = kvs.map (fun p => kW p.1) → kvs.map (·.1) = ns.map Sum.inl := by
              intro kvs
              induction kvs with
              | nil => intro ns h; cases ns with
                | nil => rfl
                | cons _ _ => simp at h
              | cons p kvs ih =>
                intro ns h
                cases ns with
                | nil => simp at h
                | cons n ns =>
                  simp only [List.map_cons, List.cons.injEq] at h ⊢
                  refine ⟨?_, ih ns h.2⟩
                  cases hp : p.1 with
                  | inl i => rw [hp] at h; simp only [kW, W.int.injEq] at h; rw [h.1]
                  | inr x => rw [hp] at h; simp [kW] at h
            exact this kvs ns hks
          refine call_sortedDI hc pins s σ H _ us Q J rs ⟨p, kvs, ns, rfl, .inl hp, hk, by simpa using hl, fun ys q hpm hpw hq => ?_⟩
          have hys : ys = ns.mergeSort fun a b => decide (a ≤ b) := by
            refine PySem.W.ksm_same (hpm.trans (List.mergeSort_perm ns _).symm) hpw ?_
            have := List.pairwise_mergeSort (le := fun (a b : Int) => decide (a ≤ b)) (by intro a b c h1 h2; simp at *; omega) (by intro a b; simp; omega) ns
            exact this.imp fun h => by simpa using h
          rw [sortW_ints, ← hys] at k
          exact k.here sm hq (ints_rels ys) (by
            have := hpm.length_eq
            have hl2 : ns.length < 64 := by simpa using hl
            rw [List.length_map, this, sizeLine_eq]
            omega)
        · cases e
      · cases e

/-! ### methods that read -/
theorem or_index (hu : X.A.units + 65 < cLine) : MtR X "list.index" (fun x xs => rOp G .mIndex (x :: xs)) := by
  rintro pins s σ H x xs v us Q J rx rxs ⟨I, φ, S, ws, w, sm, rws, e0, k⟩
  match ws, e0 with
  | [a, b], e =>
    obtain ⟨x, xs', e1, ra, y, ys, rfl, rb, rr⟩ := rws
    obtain rfl : ys = [] := rr
    cases e1
    simp only [opSem, Option.map_eq_some_iff] at e
    obtain ⟨j, e, rfl⟩ := e
    unfold indexSem at e
    split at e
    · rename_i zs hq
      simp only [Option.bind_eq_some_iff] at e
      obtain ⟨y', h1, zs', h2, e⟩ := e
      split at e
      · rename_i hc
        simp only [Bool.and_eq_true] at hc
        obtain ⟨p, vs, rfl, sq, rv⟩ := lstRel (K := X.K) sm ra hq
        rw [List.findIdx?_eq_some_iff_getElem] at e
        obtain ⟨hj, hz, hno⟩ := e
        have get : ∀ m (hm : m < zs'.length), (toDs zs')[m]? = some (toD zs'[m]) := fun m hm => by rw [toDs_map, List.getElem?_map, List.getElem?_eq_getElem hm]; rfl
        have eqv' : ∀ m (hm : m < zs'.length), PyData.eqv (toD zs'[m]) (toD y') = eqW zs'[m] y' := fun m hm => eqW_eqv 30 30 _ _ (datL_mem hc.2 _ (List.getElem_mem hm)) hc.1
        refine mt_indexD hu pins s σ H _ _ v us Q J rx rxs ⟨p, y, toD y', toDs zs', j, toD zs'[j], rfl, rfl, .lst sq (vws_dp sm rv h2 hc.2), vw_dp sm rb h1 hc.1, datL_shaped hc.2, dat_shaped hc.1, get j hj, ?_, ?_, k.here sm rfl⟩
        · rw [eqv' j hj]; exact hz
        · intro m z' hm hz'
          have hmz : m < zs'.length := Nat.lt_trans hm hj
          rw [get m hmz] at hz'
          cases hz'
          rw [eqv' m hmz]
          simpa using hno m hm
      · cases e
    · cases e
theorem or_count : MtR X "list.count" (fun x xs => rOp G .mCount (x :: xs)) := by
  rintro pins s σ H x xs v us Q J rx rxs ⟨I, φ, S, ws, w, sm, rws, e0, k⟩
  match ws, e0 with
  | [a, b], e =>
    obtain ⟨x, xs', e1, ra, y, ys, rfl, rb, rr⟩ := rws
    obtain rfl : ys = [] := rr
    cases e1
    simp only [opSem, Option.map_eq_some_iff] at e
    obtain ⟨j, e, rfl⟩ := e
    unfold countSem at e
    split at e
    · rename_i zs hq
      split at e
      · rename_i hc
        cases e
        simp only [Bool.and_eq_true] at hc
        obtain ⟨p, vs, rfl, sq, rv⟩ := lstRel (K := X.K) sm ra hq
        obtain ⟨ns, rfl⟩ := allInt_map hc.2
        have hb := hc.1
        cases b <;> first | (simp [isInt] at hb; done) | skip
        rename_i i
        obtain rfl := rel_int rb
        have := rels_ints rv
        subst this
        refine mt_lcount pins s σ H _ _ v us Q J rx rxs ⟨p, ns, i, rfl, rfl, sq, k.here sm ?_⟩
        show V.int _ = V.int _
        congr 1
        have : ∀ ns : List Int, List.countP (fun z => eqW z (.int i)) (ns.map W.int) = ns.count i := by
          intro ns
          rw [List.countP_map, List.count]
          congr 1
        exact congrArg Int.ofNat (this ns).symm
      · cases e
    · cases e

/-! ### isinstance -/
theorem isi_ty {w : W} {v : V} {t : IsT} {b : Bool} (s : Sim G I φ S H) (r : Rel G I φ w v) (e : isiOp t w S = some b) :
    ∃ (T : String) (C : String), TyX K H v (.type T) ∧ kitB T C = some b ∧ (match t with | .int => C = "int" | .bool => C = "bool" | .str => C = "str" | .list => C = "list" | .tuple => C = "tuple" | .cls _ => False) := by
  cases t <;> cases w <;> first | (simp [isiOp] at e; done) | skip
  all_goals first
    | (cases e; rw [show v = _ from r]; first
        | exact ⟨"int", _, .base (.int _), by decide +kernel, rfl⟩
        | exact ⟨"bool", _, .base (.bl _), by decide +kernel, rfl⟩
        | exact ⟨"str", _, .base (.str _), by decide +kernel, rfl⟩)
    | (cases e; obtain ⟨a, vs, rfl, ha, _⟩ := r; first
        | exact ⟨"tuple", _, .base (.tup (s.same _ _ ha)), by decide +kernel, rfl⟩
        | exact ⟨"list", _, .base (.lst (s.same _ _ ha)), by decide +kernel, rfl⟩)
    | (rename_i n
       obtain ⟨a, rfl, ha⟩ := r
       simp only [isiOp] at e
       split at e
       · rename_i xs hS
         cases e
         obtain ⟨vs, h1, _⟩ := s.cell n a _ ha hS
         exact ⟨"list", _, .base (.lst h1), by decide +kernel, rfl⟩
       · cases e)

/-! ### what changes a cell -/
theorem rels_one {v : List V} {w : W} (h : Rels G I φ [w] v) : ∃ y, v = [y] ∧ Rel G I φ w y := by
  obtain ⟨y, ys, rfl, ry, rr⟩ := h
  obtain rfl : ys = [] := rr
  exact ⟨y, rfl, ry⟩
theorem rels_two {v : List V} {w w' : W} (h : Rels G I φ [w, w'] v) : ∃ y y', v = [y, y'] ∧ Rel G I φ w y ∧ Rel G I φ w' y' := by
  obtain ⟨y, ys, rfl, ry, rr⟩ := h
  obtain ⟨y', rfl, ry'⟩ := rels_one rr
  exact ⟨y, y', rfl, ry, ry'⟩
def KU (G : Gx) (I : Hp) (φ : List Addr) (H : Hp) (S' : Sto) (w : W) (Q : VK) : Prop := KE G I φ H S' w Q
def rEff (G : Gx) (o : Eff) (vs : List V) (H : Hp) (Q : VK) : Prop :=
  ∃ I φ S ws w S', Sim G I φ S H ∧ Rels G I φ ws vs ∧ effSem o ws S = some (w, S') ∧ KE G I φ H S' w Q
theorem effSem_ref {o : Eff} {ws : List W} {w : W} (ho : isDicM o = false) (e : effSem o ws S = some (w, S')) : ∃ n r xs, ws = .ref n :: r ∧ S[n]? = some (.lst xs) := by
  unfold effSem at e
  split at e
  · split at e
    · exact ⟨_, _, _, rfl, by assumption⟩
    · cases o <;> first | (cases ho; done) | (simp at e; done)
    · cases e
  · cases e
theorem Sim.cellL {n : Nat} {a : Addr} {xs : List W} (s : Sim G I φ S H) (hn : φ[n]? = some a) (hS : S[n]? = some (.lst xs)) : ∃ vs, H a = some (.lst vs) ∧ Rels G I φ xs vs := s.cell n a _ hn hS
/-- a list's cell is written, and w told -/
theorem KE.put {n : Nat} {a : Addr} {xs ys : List W} {us : List V} {w : W} {v : V} {Q : VK} (s : Sim G I φ S H) (hn : φ[n]? = some a) (hS : S[n]? = some (.lst xs)) (k : KE G I φ H (S.set n (.lst ys)) w Q) (r : Rels G I φ ys us) (rw' : Rel G I φ w v) : Q v (upd H a (.lst us)) := by
  obtain ⟨s2, e2⟩ := s.put (o' := .lst ys) (u := .lst us) hn hS (by simp) ⟨us, upd_same, r⟩
  exact k _ _ _ _ e2 s2 rw'
theorem or_append : MtR X "list.append" (fun x xs => rEff G .append (x :: xs)) := by
  rintro pins s σ H x xs v us Q J rx rxs ⟨I, φ, S, ws, w, S', sm, rws, e0, k⟩
  obtain ⟨n, r, zs, rfl, hS⟩ := effSem_ref rfl e0
  simp only [effSem, hS] at e0
  match r, e0 with
  | [b], e =>
    obtain ⟨x, xs', e1, ra, y, ys, rfl, rb, rr⟩ := rws
    obtain rfl : ys = [] := rr
    cases e1
    obtain ⟨p, rfl, hn⟩ := ra
    simp only at e
    split at e
    · rename_i hl
      cases e
      obtain ⟨vs, h1, rv⟩ := sm.cellL hn hS
      refine mt_append pins s σ H _ _ v us Q J rx rxs ⟨p, vs, y, rfl, rfl, h1, ?_, KE.put sm hn hS k (rv.append (Rels.one rb)) rfl⟩
      rw [rv.length]
      exact lim_ok hl
    · cases e
theorem or_clear : MtR X "list.clear" (fun x xs => rEff G .clear (x :: xs)) := by
  rintro pins s σ H x xs v us Q J rx rxs ⟨I, φ, S, ws, w, S', sm, rws, e0, k⟩
  obtain ⟨n, r, zs, rfl, hS⟩ := effSem_ref rfl e0
  simp only [effSem, hS] at e0
  match r, e0 with
  | [], e =>
    obtain ⟨x, xs', e1, ra, rr⟩ := rws
    obtain rfl : xs' = [] := rr
    cases e1
    obtain ⟨p, rfl, hn⟩ := ra
    cases e
    obtain ⟨vs, h1, rv⟩ := sm.cellL hn hS
    exact mt_clear pins s σ H _ _ v us Q J rx rxs ⟨p, vs, rfl, rfl, h1, KE.put (ys := []) sm hn hS k rfl rfl⟩
theorem or_reverse : MtR X "list.reverse" (fun x xs => rEff G .reverse (x :: xs)) := by
  rintro pins s σ H x xs v us Q J rx rxs ⟨I, φ, S, ws, w, S', sm, rws, e0, k⟩
  obtain ⟨n, r, zs, rfl, hS⟩ := effSem_ref rfl e0
  simp only [effSem, hS] at e0
  match r, e0 with
  | [], e =>
    obtain ⟨x, xs', e1, ra, rr⟩ := rws
    obtain rfl : xs' = [] := rr
    cases e1
    obtain ⟨p, rfl, hn⟩ := ra
    cases e
    obtain ⟨vs, h1, rv⟩ := sm.cellL hn hS
    exact mt_reverse pins s σ H _ _ v us Q J rx rxs ⟨p, vs, rfl, rfl, h1, KE.put sm hn hS k rv.reverse rfl⟩
theorem rels_dropLast : ∀ {ws : List W} {vs : List V}, Rels G I φ ws vs → Rels G I φ ws.dropLast vs.dropLast
  | [], _, h => by rw [show _ = [] from h]; rfl
  | [w], _, ⟨x, xs, e, h, r⟩ => by
    obtain rfl : xs = [] := r
    subst e
    rfl
  | w :: u :: ws, _, ⟨x, xs, e, h, r⟩ => by
    obtain ⟨y, ys, e2, h2, r2⟩ := r
    subst e2
    subst e
    exact ⟨x, _, rfl, h, rels_dropLast (ws := u :: ws) ⟨y, ys, rfl, h2, r2⟩⟩
theorem or_pop0 : MtR X "list.pop" (fun x xs => rEff G .pop0 (x :: xs)) := by
  rintro pins s σ H x xs v us Q J rx rxs ⟨I, φ, S, ws, w, S', sm, rws, e0, k⟩
  obtain ⟨n, r, zs, rfl, hS⟩ := effSem_ref rfl e0
  simp only [effSem, hS] at e0
  match r, e0 with
  | [], e =>
    obtain ⟨x, xs', e1, ra, rr⟩ := rws
    obtain rfl : xs' = [] := rr
    cases e1
    obtain ⟨p, rfl, hn⟩ := ra
    simp only at e
    split at e
    · rename_i z hz
      cases e
      obtain ⟨vs, h1, rv⟩ := sm.cellL hn hS
      rw [List.getLast?_eq_getElem?] at hz
      obtain ⟨y, hy, ry⟩ := rv.get hz
      rw [← rv.length] at hy
      exact mt_pop pins s σ H _ _ v us Q J rx rxs ⟨p, vs, y, rfl, rfl, h1, hy, KE.put sm hn hS k (rels_dropLast rv) ry⟩
    · cases e
theorem or_pop1 : MtR X "list.pop" (fun x xs => rEff G .pop1 (x :: xs)) := by
  rintro pins s σ H x xs v us Q J rx rxs ⟨I, φ, S, ws, w, S', sm, rws, e0, k⟩
  obtain ⟨n, r, zs, rfl, hS⟩ := effSem_ref rfl e0
  simp only [effSem, hS] at e0
  match r, e0 with
  | [.int i], e =>
    obtain ⟨x, xs', e1, ra, y, ys, rfl, rb, rr⟩ := rws
    obtain rfl : ys = [] := rr
    cases e1
    obtain ⟨p, rfl, hn⟩ := ra
    obtain rfl := rel_int rb
    simp only [Option.bind_eq_some_iff, Option.map_eq_some_iff] at e
    obtain ⟨j, hj, z, hz, e⟩ := e
    cases e
    obtain ⟨vs, h1, rv⟩ := sm.cellL hn hS
    obtain ⟨y, hy, ry⟩ := rv.get hz
    rw [← rv.length, ixN_eq] at hj
    obtain ⟨q1, q2, q3, q4⟩ := ixN_seq hj
    have hz := (J.hok _ _ h1).1
    have hsl := sizeLine_eq
    exact mt_popAt pins s σ H _ _ v us Q J rx rxs ⟨p, vs, i, j, y, rfl, rfl, h1, by omega, by omega, q1, hy, KE.put sm hn hS k (rv.eraseIdx j) ry⟩
theorem or_insert : MtR X "list.insert" (fun x xs => rEff G .insert (x :: xs)) := by
  rintro pins s σ H x xs v us Q J rx rxs ⟨I, φ, S, ws, w, S', sm, rws, e0, k⟩
  obtain ⟨n, r, zs, rfl, hS⟩ := effSem_ref rfl e0
  simp only [effSem, hS] at e0
  match r, e0 with
  | [.int i, b], e =>
    obtain ⟨x, xs', e1, ra, ri, ys, rfl, rb, rr⟩ := rws
    cases e1
    obtain ⟨y, rfl, ry⟩ := rels_one rr
    obtain ⟨p, rfl, hn⟩ := ra
    obtain rfl := rel_int rb
    simp only at e
    split at e
    · rename_i hc
      cases e
      simp only [Bool.and_eq_true, decide_eq_true_eq] at hc
      obtain ⟨⟨h0, h2⟩, hl⟩ := hc
      have h2 : i.natAbs < 100000 := h2
      obtain ⟨vs, h1, rv⟩ := sm.cellL hn hS
      have key := KE.put (us := vs.take i.toNat ++ [y] ++ vs.drop i.toNat) sm hn hS k (by
        have := ((rv.take i.toNat).append (Rels.one ry)).append (rv.drop i.toNat)
        simpa using this) rfl
      refine mt_insert pins s σ H _ _ v us Q J rx rxs ⟨p, vs, i, y, rfl, rfl, h1, ?_, h0, by omega, key⟩
      rw [rv.length]
      exact lim_ok hl
    · cases e
end Tw

/-! Tw, part Fs: methods of texts; extend. -/
namespace Tw
open PySem PySem.Spec PyProof.Rows L2

variable {G : Gx} {I I' I1 I2 H H' H1 H2 : Hp} {φ φ' φ1 φ2 : List Addr} {S S' : Sto} {K : PySem.W.Frag} {X : Cx}

theorem joinS_eq (p : List Nat) : ∀ l : List (List Nat), TL.joinL p l = joinS p l
  | [] => rfl
  | [_] => rfl
  | x :: y :: r => by rw [TL.joinL, joinS, joinS_eq p (y :: r)]
theorem joinS_len (p : List Nat) : ∀ l : List (List Nat), (l.map List.length).sum + l.length * p.length ≤ (joinS p l).length + p.length
  | [] => by simp [joinS]
  | [x] => by simp [joinS]
  | x :: y :: r => by
    have ih := joinS_len p (y :: r)
    simp only [joinS, List.map_cons, List.sum_cons, List.length_append, List.length_cons, Nat.add_mul] at *
    omega
theorem strsOf_some {w : W} {ws : List W} {ss : List (List Nat)} (e : strsOf (w :: ws) = some ss) : ∃ s tt, w = .str s ∧ strsOf ws = some tt ∧ ss = s :: tt := by
  unfold strsOf at e
  split at e
  · rename_i heq; cases heq
  · rename_i s r heq
    cases heq
    simp only [Option.map_eq_some_iff] at e
    obtain ⟨tt, e2, rfl⟩ := e
    exact ⟨s, tt, rfl, e2, rfl⟩
  · cases e
theorem strsOf_rel (ws : List W) : ∀ {vs : List V} {ss : List (List Nat)}, Rels G I φ ws vs → strsOf ws = some ss → vs = (ss.map fun s => PySem.Str.mk s.toArray).map V.str := by
  induction ws with
  | nil =>
    intro vs ss r e
    cases e
    exact r
  | cons w ws ih =>
    intro vs ss r e
    obtain ⟨s, tt, rfl, e2, rfl⟩ := strsOf_some e
    obtain ⟨x, xs, e1, rx, r⟩ := r
    subst e1
    obtain rfl : x = .str ⟨s.toArray⟩ := rx
    rw [ih r e2]
    rfl
theorem or_join (hk : X.K = G.K) : MtR X "str.join" (fun x xs => rOp G .mJoin (x :: xs)) := by
  rintro pins s σ H x xs v us Q J rx rxs ⟨I, φ, S, ws, w, sm, rws, e0, k⟩
  match ws, e0 with
  | [.str p, b], e =>
    obtain ⟨x, xs', e1, ra, y, ys, rfl, rb, rr⟩ := rws
    obtain rfl : ys = [] := rr
    cases e1
    obtain rfl : x = .str ⟨p.toArray⟩ := ra
    simp only [opSem] at e
    split at e
    · rename_i zs hq
      simp only [Option.bind_eq_some_iff] at e
      obtain ⟨ss, h1, e⟩ := e
      split at e
      · rename_i hl
        cases e
        simp only [Bool.and_eq_true, decide_eq_true_eq] at hl
        obtain ⟨hl, hp⟩ := hl
        have hl : (joinS p ss).length < 100000 := hl
        have hp : p.length < 100000 := hp
        obtain ⟨q, vs, rfl, sq, rv⟩ := seqRel (K := X.K) hk sm rb hq
        have hv := strsOf_rel _ rv h1
        subst hv
        refine mt_join pins s σ H _ _ v us Q J rx rxs ⟨_, q, _, rfl, rfl, sq, ?_, k.here sm ?_⟩
        · have := joinS_len p ss
          rw [List.map_map, List.length_map]
          have e3 : (List.map ((fun x : PySem.Str => x.length) ∘ fun s => PySem.Str.mk s.toArray) ss) = ss.map List.length := by
            apply List.map_congr_left
            intro a _
            show a.toArray.size = a.length
            simp
          have e4 : (PySem.Str.mk p.toArray).length = p.length := by show p.toArray.size = _; simp
          rw [e4]
          rw [show (List.map ((·.length) ∘ fun s => PySem.Str.mk s.toArray) ss) = ss.map List.length from e3]
          omega
        · show V.str _ = V.str _
          congr 1
          rw [TL.join_eq]
          apply TL.ext_tl
          rw [TL.tl_join, TL.tl_mk, TL.tl_mk, joinS_eq]
          congr 1
          rw [List.map_map]
          exact List.map_id _
      · cases e
    · cases e
theorem pre_one (c : Nat) (l : List Nat) : TL.pre [c] l = (l.head? == some c) := by
  unfold TL.pre
  cases l with
  | nil => rfl
  | cons x l =>
    show ((x :: l).take 1 == [c]) = (some x == some c)
    simp
theorem find_one (s : List Nat) (c : Nat) : Txt.find ⟨s.toArray⟩ ⟨#[c]⟩ = idxI s c := by
  have hat : ∀ i, StrLaws.At ⟨s.toArray⟩ ⟨#[c]⟩ (PySem.Str.mk s.toArray).length i ↔ s[i]? = some c := by
    intro i
    rw [TL.at_iff (y := ⟨#[c]⟩) (by simp [TL.tl]) i]
    show TL.pre [c] (s.drop i) = true ↔ _
    rw [pre_one, beq_iff_eq, List.head?_drop]
  unfold idxI
  rcases find_whole ⟨s.toArray⟩ ⟨#[c]⟩ with ⟨h1, h2⟩ | ⟨i, h1, h2, h3⟩
  · rw [h1]
    have : s.findIdx? (· == c) = none := by
      rw [List.findIdx?_eq_none_iff]
      intro x hx
      obtain ⟨j, hj⟩ := List.getElem?_of_mem hx
      cases hxc : (x == c) with
      | false => rfl
      | true =>
        rw [beq_iff_eq] at hxc
        subst hxc
        exact absurd ((hat j).mpr hj) (h2 j)
    rw [this]
  · rw [h1]
    have h2' := (hat i).mp h2
    obtain ⟨hi, hc⟩ := List.getElem?_eq_some_iff.mp h2'
    have : s.findIdx? (· == c) = some i := by
      rw [List.findIdx?_eq_some_iff_getElem]
      refine ⟨hi, by simp [hc], fun j hj => ?_⟩
      intro hjc
      have hjl : j < s.length := by omega
      refine h3 j hj ((hat j).mpr ?_)
      rw [List.getElem?_eq_getElem hjl]
      simpa using hjc
    rw [this]
theorem or_find : MtR X "str.find" (fun x xs => rOp G .mFind (x :: xs)) := by
  rintro pins s σ H x xs v us Q J rx rxs ⟨I, φ, S, ws, w, sm, rws, e0, k⟩
  match ws, e0 with
  | [.str z, .str [c]], e =>
    obtain ⟨x, xs', e1, ra, y, ys, rfl, rb, rr⟩ := rws
    obtain rfl : ys = [] := rr
    cases e1
    obtain rfl : x = .str ⟨z.toArray⟩ := ra
    obtain rfl : y = .str ⟨#[c]⟩ := rb
    simp only [opSem] at e
    split at e
    · cases e
      exact mt_find pins s σ H _ _ v us Q J rx rxs ⟨_, _, rfl, rfl, by rw [find_one]; exact k.here sm rfl⟩
    · cases e
theorem or_starts : MtR X "str.startswith" (fun x xs => rOp G .mStarts (x :: xs)) := by
  rintro pins s σ H x xs v us Q J rx rxs ⟨I, φ, S, ws, w, sm, rws, e0, k⟩
  match ws, e0 with
  | [.str z, .str p], e =>
    obtain ⟨x, xs', e1, ra, y, ys, rfl, rb, rr⟩ := rws
    obtain rfl : ys = [] := rr
    cases e1
    obtain rfl : x = .str ⟨z.toArray⟩ := ra
    obtain rfl : y = .str ⟨p.toArray⟩ := rb
    simp only [opSem] at e
    cases e
    refine mt_startswith pins s σ H _ _ v us Q J rx rxs ⟨_, _, rfl, rfl, k.here sm ?_⟩
    show V.bl _ = V.bl _
    congr 1
    have hlen : (PySem.Str.mk p.toArray).length = p.length := by show p.toArray.size = _; simp
    have hlen2 : (PySem.Str.mk z.toArray).length = z.length := by show z.toArray.size = _; simp
    have main : Txt.startswith ⟨z.toArray⟩ ⟨p.toArray⟩ = true ↔ p.isPrefixOf z = true := by
      by_cases hp : p = []
      · subst hp
        simp [Txt.startswith, Builtin.Str.subAt, PySem.Str.length]
      · have h := TL.at_iff (x := ⟨z.toArray⟩) (y := ⟨p.toArray⟩) (by simpa [TL.tl] using hp) 0
        have e1 : Txt.startswith ⟨z.toArray⟩ ⟨p.toArray⟩ = true ↔ StrLaws.At ⟨z.toArray⟩ ⟨p.toArray⟩ (PySem.Str.mk z.toArray).length 0 := by
          unfold Txt.startswith StrLaws.At
          rw [Bool.and_eq_true, decide_eq_true_eq]
        rw [e1, h]
        show TL.pre p z = true ↔ _
        unfold TL.pre
        rw [beq_iff_eq, List.isPrefixOf_iff_prefix, List.prefix_iff_eq_take]
        exact eq_comm
    exact Bool.eq_iff_iff.mpr main
theorem or_extend : MtR X "list.extend" (fun x xs => rEff G .extend (x :: xs)) := by
  rintro pins s σ H x xs v us Q J rx rxs ⟨I, φ, S, ws, w, S', sm, rws, e0, k⟩
  obtain ⟨n, r, zs, rfl, hS⟩ := effSem_ref rfl e0
  simp only [effSem, hS] at e0
  match r, e0 with
  | [.lst b], e =>
    obtain ⟨x, xs', e1, ra, y, ys, rfl, rb, rr⟩ := rws
    obtain rfl : ys = [] := rr
    cases e1
    obtain ⟨p, rfl, hn⟩ := ra
    obtain ⟨q, us', rfl, hq, rq⟩ := rb
    simp only at e
    split at e
    · rename_i hl
      cases e
      obtain ⟨vs, h1, rv⟩ := sm.cellL hn hS
      refine mt_extend pins s σ H _ _ v us Q J rx rxs ⟨p, q, vs, us', rfl, rfl, h1, sm.same _ _ hq, ?_, KE.put sm hn hS k (rv.append rq) rfl⟩
      rw [rv.length, rq.length]
      exact Nat.le_of_lt (lim_ok hl)
    · cases e
/-! ### dicts -/
section
variable {κ : Type} [DecidableEq κ]
theorem dputK_ok (f : κ → W) (hf : ∀ a b, eqW (f a) (f b) = decide (a = b)) (k : κ) (v : V) (kvs : List (κ × V)) : dputK (kvs.map fun p => f p.1) (f k) = (putK kvs k v).map fun p => f p.1 := by
  unfold dputK putK
  have h : dhas (kvs.map fun p => f p.1) (f k) = kvs.any fun kv => decide (kv.1 = k) := by rw [dhas_val f hf k kvs, valV_any]
  rw [h]
  split
  · rw [List.map_map]
    apply List.map_congr_left
    intro p _
    simp only [Function.comp]
    split <;> rfl
  · simp
theorem dmapV_ok (f : κ → W) (hf : ∀ a b, eqW (f a) (f b) = decide (a = b)) (k : κ) {w : W} {v : V} (r : Rel G I φ w v) : ∀ {kvs : List (κ × V)} {vs : List W}, Rels G I φ vs (kvs.map (·.2)) →
    Rels G I φ (dmapV (kvs.map fun p => f p.1) vs (f k) w) ((kvs.map (fun kv => if kv.1 = k then (kv.1, v) else kv)).map (·.2))
  | [], vs, h => by
    have : vs = [] := rels0 h
    subst this
    exact .nil
  | p :: kvs, [], h => by have := h.length; simp at this
  | p :: kvs, u :: vs, h => by
    obtain ⟨x, xs, e, hx, t⟩ := h
    simp only [List.map_cons, List.cons.injEq] at e
    obtain ⟨rfl, rfl⟩ := e
    simp only [List.map_cons, dmapV]
    rw [hf]
    refine .cons ?_ (dmapV_ok f hf k r t)
    by_cases hk : p.1 = k
    · rw [if_pos hk, if_pos (decide_eq_true hk)]
      exact r
    · rw [if_neg hk, if_neg (by simpa using hk)]
      exact hx
theorem dputV_ok (f : κ → W) (hf : ∀ a b, eqW (f a) (f b) = decide (a = b)) (k : κ) {w : W} {v : V} (r : Rel G I φ w v) {kvs : List (κ × V)} {vs : List W} (h : Rels G I φ vs (kvs.map (·.2))) :
    Rels G I φ (dputV (kvs.map fun p => f p.1) vs (f k) w) ((putK kvs k v).map (·.2)) := by
  unfold dputV putK
  have hh : dhas (kvs.map fun p => f p.1) (f k) = kvs.any fun kv => decide (kv.1 = k) := by rw [dhas_val f hf k kvs, valV_any]
  rw [hh]
  split
  · exact dmapV_ok f hf k r h
  · rw [List.map_append]
    exact h.append (Rels.one r)
end
theorem putK_new {κ : Type} [DecidableEq κ] {kvs : List (κ × V)} {k : κ} {v : V} (h : valV kvs k = none) : putK kvs k v = kvs ++ [(k, v)] := by
  unfold putK
  rw [if_neg]
  rw [valV_any, h]
  simp
/-- d.setdefault(k, v), tuple keys -/
theorem or_setd (hu : X.A.units + 1 < cLine) : MtR X "dict.setdefault" (fun x xs => rEff G .setd (x :: xs)) := by
  rintro pins s σ H x xs v us Q J rx rxs ⟨I, φ, S, ws, w, S', sm, rws, e0, k⟩
  match ws, e0 with
  | .ref n :: r, e0 =>
    simp only [effSem] at e0
    split at e0
    · exact absurd e0 (by simp)
    · rename_i t ks vs hS
      match r, e0 with
      | [kw, dw], e0 =>
        simp only at e0
        split at e0
        · rename_i hc
          simp only [Bool.and_eq_true, decide_eq_true_eq] at hc
          obtain ⟨⟨rfl, hk⟩, hl⟩ := hc
          obtain ⟨x, xs', e1, ra, rr⟩ := rws
          obtain ⟨kv, dv, rfl, rk, rd⟩ := rels_two rr
          cases e1
          obtain ⟨p, rfl, hn⟩ := ra
          obtain ⟨kvs, h1, rfl, rv⟩ := sm.cell n p _ hn hS
          obtain ⟨key, b, rfl, rfl, hb⟩ := keyT rk hk
          have hb' := sm.same _ _ hb
          obtain ⟨z, hd, ys, rel, dd⟩ := dt_of J.hok h1
          cases rx
          cases rxs with
          | cons rx1 rxs =>
            cases rxs with
            | cons rx2 rxs =>
              cases rxs
              cases rx1
              have hll : kvs.length < sizeLine := by have := lim_ok hl; simpa using this
              have hdv := dget_val (fun k => W.tup (k.map kW)) hfT key rv
              have hyl : ys.length ≤ sizeLine := by
                have := Paired.length rel
                omega
              refine PySem.call_setdefault_heap (knd := tupleKind (mixKind X.prog X.w)) (hsz := hyl) (tupleKind_room_in1 hu) (key_of J.hok hb') hd dd (fun q hq => ?_) (fun hno h' dd' hs => ?_)
              · have rq := rel.val key
                rw [hq] at rq
                cases hvk : valV kvs key with
                | none => rw [hvk] at rq; exact rq.elim
                | some u0 =>
                  rw [hvk] at rq hdv
                  split at e0
                  · rename_i u hu2
                    cases e0
                    rw [hu2] at hdv
                    obtain ⟨u1, hu1, ru⟩ := hdv
                    cases hu1
                    exact ⟨u0, H, J.tok _, rq, k.here sm ru⟩
                  · rename_i hnn
                    rw [hnn] at hdv
                    cases hdv
              · have rq := rel.val key
                rw [hno] at rq
                cases hvk : valV kvs key with
                | some u0 => rw [hvk] at rq; exact rq.elim
                | none =>
                  rw [hvk] at hdv
                  split at e0
                  · rename_i u hu2
                    rw [hu2] at hdv
                    obtain ⟨u1, hu1, _⟩ := hdv
                    cases hu1
                  · cases e0
                    obtain ⟨q, es, ep, hq, h2, h3, h4, _, h5⟩ := dd'
                    have J2 := d_write (ob := .dT (putK kvs key dv)) (t' := s.toks + (tupleKind (mixKind X.prog X.w)).draws key) J (by rw [h1]; exact True.intro) hs ⟨q, hq⟩
                      ⟨by have := length_putK kvs key dv; omega, hd, _, (rel.put key hb' rx2).keeps (fun c ys' ec => by rw [upd_ne (ne_of ec h1 (fun z => nomatch z))]; exact ec), q, es, ep, hq, h2, h3, h4, h5⟩
                    obtain ⟨s2, e2⟩ := sm.put (o' := .dic true ((kvs.map fun p => W.tup (p.1.map kW)) ++ [.tup (key.map kW)]) (vs ++ [w])) (u := .dT (putK kvs key dv)) hn hS (by simp)
                      ⟨putK kvs key dv, upd_same, by rw [putK_new hvk]; simp, by rw [putK_new hvk, List.map_append]; exact rv.append (Rels.one rd)⟩
                    exact ⟨dv, _, J2, rx2, k _ _ _ _ e2 s2 rd⟩
        · cases e0
    · cases e0
theorem or_get2 (hu : X.A.units + 1 < cLine) : MtR X "dict.get" (fun x xs => rOp G .mGet2 (x :: xs)) := by
  rintro pins s σ H x xs v us Q J rx rxs ⟨I, φ, S, ws, w, sm, rws, e0, k⟩
  match ws, e0 with
  | [a, b, c], e =>
    obtain ⟨x, xs', e1, ra, rr⟩ := rws
    obtain ⟨kv, dv, rfl, rk, rd⟩ := rels_two rr
    cases e1
    simp only [opSem] at e
    split at e
    · rename_i t ks vs hdc
      split at e
      · rename_i hk
        cases e
        obtain ⟨p, o, rfl, g, _, hm⟩ := dget_rel sm ra hdc rk hk
        cases rx
        cases rxs with
        | cons rx1 rxs =>
          cases rxs with
          | cons rx2 rxs =>
            cases rxs
            refine d_get2 hu J g rx1 rx2 fun w' s' J' r' => ⟨_, H, J', r', k.here sm ?_⟩
            split at hm
            · rename_i z hz
              obtain ⟨u, rfl, ru⟩ := hm
              rw [hz]
              exact ru
            · rename_i hz
              subst hm
              rw [hz]
              exact rd
      · cases e
    · cases e
theorem or_get1 (hu : X.A.units + 1 < cLine) : MtR X "dict.get" (fun x xs => rOp G .mGet1 (x :: xs)) := by
  rintro pins s σ H x xs v us Q J rx rxs ⟨I, φ, S, ws, w, sm, rws, e0, k⟩
  match ws, e0 with
  | [a, b], e =>
    obtain ⟨x, xs', e1, ra, rr⟩ := rws
    obtain ⟨kv, rfl, rk⟩ := rels_one rr
    cases e1
    simp only [opSem] at e
    split at e
    · rename_i t ks vs hdc
      split at e
      · rename_i hk
        cases e
        obtain ⟨p, o, rfl, g, _, hm⟩ := dget_rel sm ra hdc rk hk
        cases rx
        cases rxs with
        | cons rx1 rxs =>
          cases rxs
          refine d_get1 hu J g rx1 fun w' s' J' r' => ⟨_, H, J', r', k.here sm ?_⟩
          split at hm
          · rename_i z hz
            obtain ⟨u, rfl, ru⟩ := hm
            rw [hz]
            exact ru
          · rename_i hz
            subst hm
            rw [hz]
            exact rfl
      · cases e
    · cases e
theorem ddel_ok {κ : Type} [DecidableEq κ] (f : κ → W) (hf : ∀ a b, eqW (f a) (f b) = decide (a = b)) (k : κ) : ∀ {kvs : List (κ × V)} {vs : List W}, (kvs.map (·.1)).Nodup → Rels G I φ vs (kvs.map (·.2)) →
    ddelK (kvs.map fun p => f p.1) (f k) = (dropK kvs k).map (fun p => f p.1) ∧ Rels G I φ (ddelV (kvs.map fun p => f p.1) vs (f k)) ((dropK kvs k).map (·.2))
  | [], vs, _, h => by
    have : vs = [] := rels0 h
    subst this
    exact ⟨rfl, .nil⟩
  | p :: kvs, [], _, h => by have := h.length; simp at this
  | p :: kvs, u :: vs, hn, h => by
    obtain ⟨x, xs, e, hx, t⟩ := h
    simp only [List.map_cons, List.cons.injEq] at e
    obtain ⟨rfl, rfl⟩ := e
    have hn' := List.nodup_cons.mp hn
    simp only [List.map_cons, ddelK, ddelV, hf, dropK, List.filter_cons]
    by_cases hk : p.1 = k
    · have hno : kvs.filter (fun kv => decide (kv.1 ≠ k)) = kvs := by
        rw [List.filter_eq_self]
        intro q hq
        refine decide_eq_true fun z => hn'.1 ?_
        show p.1 ∈ _
        rw [hk, ← z]
        exact List.mem_map_of_mem hq
      simp only [hk, decide_true, if_true, ne_eq, not_true_eq_false, decide_false, Bool.false_eq_true, if_false]
      have hno' : List.filter (fun kv => decide ¬kv.fst = k) kvs = kvs := hno
      rw [hno']
      exact ⟨rfl, t⟩
    · have ih := ddel_ok f hf k hn'.2 t
      unfold dropK at ih
      simp only [hk, decide_false, Bool.false_eq_true, if_false, ne_eq, not_false_eq_true, decide_true, if_true, List.map_cons]
      exact ⟨by rw [ih.1], .cons hx ih.2⟩
theorem kv_keys {kvs : List (Key × V)} {ys : List (Key × Value)} (rel : KV kvs ys) : kvs.map (·.1) = ys.map (·.1) := by
  unfold KV at rel
  induction rel with
  | nil => rfl
  | cons h _ ih => simp only [List.map_cons, h.1, ih]
theorem or_dpop : MtR X "dict.pop" (fun x xs => rEff G .dpop (x :: xs)) := by
  rintro pins s σ H x xs v us Q J rx rxs ⟨I, φ, S, ws, w, S', sm, rws, e0, k⟩
  match ws, e0 with
  | .ref n :: r, e0 =>
    simp only [effSem] at e0
    split at e0
    · exact absurd e0 (by simp)
    · rename_i t ks vs hS
      match r, e0 with
      | [kw], e0 =>
        simp only at e0
        split at e0
        · rename_i hc
          simp only [Bool.and_eq_true, Bool.not_eq_true'] at hc
          obtain ⟨rfl, hk⟩ := hc
          simp only [Option.map_eq_some_iff] at e0
          obtain ⟨w0, hg, e0⟩ := e0
          cases e0
          obtain ⟨x, xs', e1, ra, rr⟩ := rws
          obtain ⟨kv, rfl, rk⟩ := rels_one rr
          cases e1
          obtain ⟨p, rfl, hn⟩ := ra
          obtain ⟨kvs, h1, rfl, rv⟩ := sm.cell n p _ hn hS
          obtain ⟨key, rfl, rfl⟩ := keyF rk hk
          have hdv := dget_val kW hfK key rv
          rw [hg] at hdv
          obtain ⟨u, hu, ru⟩ := hdv
          cases rx
          cases rxs with
          | cons rx1 rxs =>
            cases rxs
            refine d_pop J h1 rx1 hu (.inl rfl) fun w' s' J' r' => ⟨u, _, J', r', ?_⟩
            have hnd : (kvs.map (·.1)).Nodup := by
              obtain ⟨_, _, ys, rel, dd⟩ := dk_of J.hok h1
              rw [kv_keys rel]
              obtain ⟨_, _, _, _, _, _, _, hnn⟩ := dd
              first | exact hnn | exact hnn.2 | exact hnn.1
            have dl := ddel_ok kW hfK key hnd rv
            obtain ⟨s2, e2⟩ := sm.put (o' := .dic false (ddelK (kvs.map fun p => kW p.1) (kW key)) (ddelV (kvs.map fun p => kW p.1) vs (kW key))) (u := .dK (dropK kvs key)) hn hS (by simp) ⟨dropK kvs key, upd_same, dl.1, dl.2⟩
            exact k _ _ _ _ e2 s2 ru
        · cases e0
    · cases e0
end Tw

/-! Tw, part G: the checker of expressions, and that it is right. -/
namespace Tw
open PySem PySem.Spec PyProof.Rows L2

/-- a class: its name, number, the def of its __init__, that one's parameters, the fields in the order in which they are first stored -/
structure ClsI where
  nm : PySem.Str
  c : Nat
  init : Nat
  np : Nat
  flds : List PySem.Str
/-- what a def may lean on; cm: nothing is being handled; mts: class, method, its def, parameters; exc: exceptions' classes -/
structure Tab where
  N : List PySem.Str
  fnm : List (PySem.Str × Nat × Nat)
  cst : List (PySem.Str × W)
  cm : Bool
  cls : List ClsI
  mts : List (Nat × PySem.Str × Nat × Nat)
  exc : List (PySem.Str × Nat)

def vis (sc : Scope) (x : PySem.Str) : Bool := match sc.names.lookup x with
  | some .local => true
  | some .cell => true
  | some .free => true
  | _ => false
def loc (sc : Scope) (x : PySem.Str) : Bool := match sc.names.lookup x with
  | some .local => true
  | some .cell => true
  | _ => false
def isGl (sc : Scope) (x : PySem.Str) : Bool := match sc.names.lookup x with
  | some .globalImplicit => true
  | _ => false
theorem vis_ok {sc : Scope} {x : PySem.Str} (h : vis sc x = true) : Vis sc x := by
  unfold vis at h
  split at h
  · exact .inl (by assumption)
  · exact .inr (.inl (by assumption))
  · exact .inr (.inr (by assumption))
  · cases h
theorem loc_ok {sc : Scope} {x : PySem.Str} (h : loc sc x = true) : Loc sc x := by
  unfold loc at h
  split at h
  · exact .inl (by assumption)
  · exact .inr (by assumption)
  · cases h
theorem isGl_ok {sc : Scope} {x : PySem.Str} (h : isGl sc x = true) : sc.names.lookup x = some .globalImplicit := by
  unfold isGl at h
  split at h
  · assumption
  · cases h
def dbg (x : PySem.Str) : Bool := (x == ("__debug__" : PySem.Str)) || (x == ("__classdict__" : PySem.Str)) || (x == ("__name__" : PySem.Str))
/-- an expression of the plain kinds -/
def plainE : Expr → Bool
  | .BoolOp _ _ _ => true
  | .BinOp _ _ _ _ => true
  | .UnaryOp _ _ _ => true
  | .IfExp _ _ _ _ => true
  | .Dict _ _ _ => true
  | .ListComp _ _ _ _ => true
  | .Compare _ _ _ _ => true
  | .Call _ _ _ _ => true
  | .JoinedStr _ _ => true
  | .Constant _ _ _ => true
  | .Attribute _ _ _ => true
  | .Subscript _ _ _ => true
  | .Name _ _ => true
  | .List _ _ => true
  | .Tuple _ _ _ => true
  | _ => false
/-- what may stand ahead of a method's dot -/
def baseE : Expr → Bool
  | .Name _ _ => true
  | .Subscript _ _ _ => true
  | .Attribute _ _ _ => true
  | .Constant _ _ _ => true
  | _ => false
theorem star_plain {e : Expr} {es : List Expr} {env : PySem.Env} (h : plainE e = true) : starEach (e :: es) env = (false, eval e env) :: starEach es env := by
  cases e <;> first | (simp [plainE] at h; done) | rfl
theorem star_all {env : PySem.Env} : ∀ {es : List Expr}, es.all plainE = true → starEach es env = es.map fun e => (false, eval e env)
  | [], _ => rfl
  | e :: es, h => by
    simp only [List.all_cons, Bool.and_eq_true] at h
    rw [star_plain h.1, star_all h.2]
    rfl
theorem star_none {env : PySem.Env} {es : List Expr} {pos : Pos} (h : es.all plainE = true) : (backTo pos (starEach es env)).any (·.1) = false := by
  rw [star_all h]
  unfold backTo
  rw [List.map_map, List.any_map]
  rw [List.any_eq_false]
  intro e _
  simp
theorem base_ok {e : Expr} {a : PySem.Str} {env : PySem.Env} {x : Sem Value} (h : baseE e = true) : attributeBase e a env x = x := by
  cases e <;> first | (simp [baseE] at h; done) | rfl
theorem set_ok {e : Expr} {env : PySem.Env} (h : plainE e = true) : ∀ x, foldedSetIterable e env x = pure x := by
  intro x
  cases e <;> first | (simp [plainE] at h; done) | rfl
theorem marks_ok {e : Expr} {op : CmpOp} (h : plainE e = true) : behindInMarks op e = false := by
  cases e <;> first | (simp [plainE] at h; done) | rfl
theorem plainIx_ok {e : Expr} (h : plainE e = true) : PlainIx e := by
  intro o i
  cases e <;> first | (simp [plainE] at h; done) | rfl

variable {G : Gx} {I I' I1 I2 H H' H1 H2 : Hp} {φ φ' φ1 φ2 : List Addr} {S S' : Sto} {K : PySem.W.Frag} {X : Cx} {cf : CallF}

/-! ### what follows behind an evaluation -/
def KX (G : Gx) (Ex : XK) (I : Hp) (φ : List Addr) (H : Hp) (c : Nat) (S' : Sto) : Prop :=
  ∀ I' φ' H', Ext I φ H I' φ' H' → Sim G I' φ' S' H' → Ex (.ref (G.cad c)) none H'
/-- r came of the state (I, φ, H); k: what is wanted of what is told -/
def Post {α : Type} (G : Gx) (Ex : XK) (I : Hp) (φ : List Addr) (H : Hp) (r : Rs α) (k : α → Sto → Prop) : Prop :=
  match r with
  | .ok a S' => k a S'
  | .ex c S' => KX G Ex I φ H c S'
  | .bad => False
theorem KE.ext {w : W} {Q : VK} (e : Ext I φ H I1 φ1 H1) (k : KE G I φ H S w Q) : KE G I1 φ1 H1 S w Q := fun v I' φ' H' e' s r => k v I' φ' H' (e.trans e') s r
theorem KF.ext {xs : List W} {Q : VK} (e : Ext I φ H I1 φ1 H1) (k : KF G I φ H S xs Q) : KF G I1 φ1 H1 S xs Q := fun p us I' φ' H' e' s h r l => k p us I' φ' H' (e.trans e') s h r l
theorem KX.ext {Ex : XK} {c : Nat} (e : Ext I φ H I1 φ1 H1) (k : KX G Ex I φ H c S) : KX G Ex I1 φ1 H1 c S := fun I' φ' H' e' s => k I' φ' H' (e.trans e') s
def tE (G : Gx) (cf : CallF) (Ex : L2.St → XK) (m : E) : TE := fun σ H Q => ∃ I φ ρ S, Sim G I φ S H ∧ Envs G I φ ρ σ ∧ Post G (Ex σ) I φ H (ev cf m ρ S) fun w S' => KE G I φ H S' w Q
/-- a new list -/
def tF (G : Gx) (cf : CallF) (Ex : L2.St → XK) (m : E) : TE := fun σ H Q => ∃ I φ ρ S, Sim G I φ S H ∧ Envs G I φ ρ σ ∧ Post G (Ex σ) I φ H (ev cf m ρ S) fun w S' => ∃ xs, w = .lst xs ∧ KF G I φ H S' xs Q
def tT (G : Gx) (cf : CallF) (Ex : L2.St → XK) (m : E) : TT := fun σ H Q => ∃ I φ ρ S, Sim G I φ S H ∧ Envs G I φ ρ σ ∧ Post G (Ex σ) I φ H (ev cf m ρ S) fun w S' => ∃ b, w = .bl b ∧ ∀ I' φ' H', Ext I φ H I' φ' H' → Sim G I' φ' S' H' → Q b H'
def tA (G : Gx) (cf : CallF) (Ex : L2.St → XK) (ms : List E) : TA := fun σ H Q => ∃ I φ ρ S, Sim G I φ S H ∧ Envs G I φ ρ σ ∧ Post G (Ex σ) I φ H (evs cf ms ρ S) fun ws S' => ∀ vs I' φ' H', Ext I φ H I' φ' H' → Sim G I' φ' S' H' → Rels G I' φ' ws vs → Q vs H'
theorem PE_imp {e : Expr} {t t' : TE} (h : PE X e t) (i : ∀ σ H Q, t' σ H Q → t σ H Q) : PE X e t' := ⟨fun pins s σ H Q J q => h.run pins s σ H Q J (i σ H Q q)⟩
theorem PT_imp {e : Expr} {t t' : TT} (h : PT X e t) (i : ∀ σ H Q, t' σ H Q → t σ H Q) : PT X e t' := ⟨fun pins s σ H Q J q => h.run pins s σ H Q J (i σ H Q q)⟩
theorem PA_imp {e : List Expr} {t t' : TA} (h : PA X e t) (i : ∀ σ H Q, t' σ H Q → t σ H Q) : PA X e t' := ⟨fun pos pins s σ H Q J q => h.run pos pins s σ H Q J (i σ H Q q)⟩
theorem PW_imp {e : Expr} {t t' : TT} (h : PW X e t) (i : ∀ σ H Q, t' σ H Q → t σ H Q) : PW X e t' := ⟨fun wh pins s σ H Q J q => h.run wh pins s σ H Q J (i σ H Q q)⟩
/-- a first part's answer -/
theorem Post.bind {α β : Type} {Ex : XK} {r : Rs α} {f : α → Sto → Rs β} {k : β → Sto → Prop} (h : Post G Ex I φ H (r.bind f) k) : Post G Ex I φ H r fun a S1 => Post G Ex I φ H (f a S1) k := by
  cases r with
  | ok a S => exact h
  | ex c S => exact h
  | bad => exact h
theorem Post.ofO {α : Type} {Ex : XK} {o : Option α} {k : α → Sto → Prop} (h : Post G Ex I φ H (ofO o S) k) : ∃ a, o = some a ∧ k a S := by
  cases o with
  | none => exact h.elim
  | some a => exact ⟨a, rfl, h⟩
theorem Post.imp {α : Type} {Ex : XK} {r : Rs α} {k k' : α → Sto → Prop} (h : Post G Ex I φ H r k) (i : ∀ a S', r = .ok a S' → k a S' → k' a S') : Post G Ex I φ H r k' := by
  cases r with
  | ok a S => exact i a S rfl h
  | ex c S => exact h
  | bad => exact h
theorem Post.ext {α : Type} {Ex : XK} {r : Rs α} {k k' : α → Sto → Prop} (e : Ext I φ H I1 φ1 H1) (h : Post G Ex I φ H r k) (i : ∀ a S', r = .ok a S' → k a S' → k' a S') : Post G Ex I1 φ1 H1 r k' := by
  cases r with
  | ok a S => exact i a S rfl h
  | ex c S => exact KX.ext e h
  | bad => exact h

/-! ### the pieces: from the parts' readings to the whole's -/
/-- one operand -/
theorem tE_step {Ex : L2.St → XK} {a : E} {σ : L2.St} {ρ : Env} {Q : VK} (s : Sim G I φ S H) (ev' : Envs G I φ ρ σ) (h : Post G (Ex σ) I φ H (ev cf a ρ S) fun w S1 => ∀ v I1 φ1 H1, Ext I φ H I1 φ1 H1 → Sim G I1 φ1 S1 H1 → Rel G I1 φ1 w v → Q v H1) : tE G cf Ex a σ H Q :=
  ⟨I, φ, ρ, S, s, ev', h⟩
theorem tOp_of {Ex : L2.St → XK} {o : Op} {a b : E} (r : R2) (hr : ∀ x y H Q, rOp G o [x, y] H Q → r x y H Q) : ∀ σ H Q, tE G cf Ex (.op o [a, b]) σ H Q → tOp r (tE G cf Ex a) (tE G cf Ex b) σ H Q := by
  rintro σ H Q ⟨I, φ, ρ, S, s, en, h⟩
  simp only [ev, evs] at h
  refine tE_step s en (h.bind.bind.imp fun wa S1 _ h1 => ?_)
  intro v I1 φ1 H1 e1 s1 r1
  refine tE_step s1 (en.ext e1) (h1.bind.bind.ext e1 fun wb S2 _ h2 => ?_)
  intro u I2 φ2 H2 e2 s2 r2
  simp only [Rs.bind] at h2
  obtain ⟨w, hw, k⟩ := Post.ofO h2
  exact hr _ _ _ _ ⟨I2, φ2, S2, _, w, s2, .cons (r1.ext e2) (.cons r2 .nil), hw, KE.ext (e1.trans e2) k⟩
theorem tOpF_of {Ex : L2.St → XK} {o : Op} {a b : E} (r : R2) (hr : ∀ x y H Q, rFr G o [x, y] H Q → r x y H Q) : ∀ σ H Q, tF G cf Ex (.op o [a, b]) σ H Q → tOp r (tE G cf Ex a) (tE G cf Ex b) σ H Q := by
  rintro σ H Q ⟨I, φ, ρ, S, s, en, h⟩
  simp only [ev, evs] at h
  refine tE_step s en (h.bind.bind.imp fun wa S1 _ h1 => ?_)
  intro v I1 φ1 H1 e1 s1 r1
  refine tE_step s1 (en.ext e1) (h1.bind.bind.ext e1 fun wb S2 _ h2 => ?_)
  intro u I2 φ2 H2 e2 s2 r2
  simp only [Rs.bind] at h2
  obtain ⟨w, hw, xs, rfl, k⟩ := Post.ofO h2
  exact hr _ _ _ _ ⟨I2, φ2, S2, _, xs, s2, .cons (r1.ext e2) (.cons r2 .nil), hw, KF.ext (e1.trans e2) k⟩
theorem tUn_of {Ex : L2.St → XK} {o : Op} {a : E} (r : V → Hp → VK → Prop) (hr : ∀ x H Q, rOp G o [x] H Q → r x H Q) : ∀ σ H Q, tE G cf Ex (.op o [a]) σ H Q → tUn r (tE G cf Ex a) σ H Q := by
  rintro σ H Q ⟨I, φ, ρ, S, s, en, h⟩
  simp only [ev, evs] at h
  refine tE_step s en (h.bind.bind.imp fun wa S1 _ h1 => ?_)
  intro v I1 φ1 H1 e1 s1 r1
  simp only [Rs.bind] at h1
  obtain ⟨w, hw, k⟩ := Post.ofO h1
  exact hr _ _ _ ⟨I1, φ1, S1, _, w, s1, .cons r1 .nil, hw, KE.ext e1 k⟩
theorem tCB_of {Ex : L2.St → XK} {o : Op} {as : List E} : ∀ σ H Q, tE G cf Ex (.op o as) σ H Q → tCB (rOp G o) (tA G cf Ex as) σ H Q := by
  rintro σ H Q ⟨I, φ, ρ, S, s, en, h⟩
  simp only [ev] at h
  refine ⟨I, φ, ρ, S, s, en, h.bind.imp fun ws S1 _ h1 => ?_⟩
  intro vs I1 φ1 H1 e1 s1 r1
  obtain ⟨w, hw, k⟩ := Post.ofO h1
  exact ⟨I1, φ1, S1, _, w, s1, r1, hw, KE.ext e1 k⟩
theorem tCBF_of {Ex : L2.St → XK} {o : Op} {as : List E} : ∀ σ H Q, tF G cf Ex (.op o as) σ H Q → tCB (rFr G o) (tA G cf Ex as) σ H Q := by
  rintro σ H Q ⟨I, φ, ρ, S, s, en, h⟩
  simp only [ev] at h
  refine ⟨I, φ, ρ, S, s, en, h.bind.imp fun ws S1 _ h1 => ?_⟩
  intro vs I1 φ1 H1 e1 s1 r1
  obtain ⟨w, hw, xs, rfl, k⟩ := Post.ofO h1
  exact ⟨I1, φ1, S1, _, xs, s1, r1, hw, KF.ext e1 k⟩
/-- from a new list to a frozen one -/
theorem tE_tF {Ex : L2.St → XK} {m : E} (hm : ∀ ρ S w S', ev cf m ρ S = .ok w S' → ∃ xs, w = .lst xs) : ∀ σ H Q, tE G cf Ex m σ H Q → tF G cf Ex m σ H Q := by
  rintro σ H Q ⟨I, φ, ρ, S, s, en, h⟩
  refine ⟨I, φ, ρ, S, s, en, h.imp fun w S1 e h1 => ?_⟩
  obtain ⟨xs, rfl⟩ := hm ρ S w S1 e
  exact ⟨xs, rfl, h1.toKF⟩

/-! ### lists of arguments -/
inductive PEs (G : Gx) (cf : CallF) (Ex : L2.St → XK) (X : Cx) : List E → List Expr → Prop
  | nil : PEs G cf Ex X [] []
  | cons {m : E} {ms : List E} {e : Expr} {es : List Expr} : plainE e = true → PE X e (tE G cf Ex m) → PEs G cf Ex X ms es → PEs G cf Ex X (m :: ms) (e :: es)
theorem PEs.all {Ex : L2.St → XK} {ms : List E} {es : List Expr} (h : PEs G cf Ex X ms es) : es.all plainE = true := by
  induction h with
  | nil => rfl
  | cons a _ _ ih => simp [a, ih]
theorem PEs.pa {Ex : L2.St → XK} : ∀ {ms : List E} {es : List Expr}, PEs G cf Ex X ms es → PA X es (tA G cf Ex ms)
  | _, _, .nil => PA_imp pa_nil fun σ H Q ⟨I, φ, ρ, S, s, en, h⟩ => by
    simp only [evs] at h
    exact h [] I φ H (Ext.refl _ _ _) s rfl
  | m :: ms, e :: es, .cons p h t => by
    refine PA_imp (pa_cons h t.pa (star_plain p)) fun σ H Q ⟨I, φ, ρ, S, s, en, h⟩ => ?_
    simp only [evs] at h
    refine tE_step s en (h.bind.imp fun wa S1 _ h1 => ?_)
    intro v I1 φ1 H1 e1 s1 r1
    refine ⟨I1, φ1, ρ, S1, s1, en.ext e1, h1.bind.ext e1 fun ws S2 _ h2 => ?_⟩
    intro vs I2 φ2 H2 e2 s2 r2
    exact h2 _ _ _ _ (e1.trans e2) s2 (.cons (r1.ext e2) r2)

/-! ### where one stands -/
def bltNames : List PySem.Str := ["len", "list", "tuple", "sorted", "all", "int", "min", "max", "range", "isinstance", "bool", "str", "enumerate", "zip", "reversed", "ValueError", "set", "sum"]
def spF (G : Gx) (cf : CallF) (i np : Nat) : Sp := fun vs H Q Ex => vs.length = np ∧ ∃ I φ S ws, Sim G I φ S H ∧ Rels G I φ ws vs ∧ Post G Ex I φ H (cf i ws S) fun w S' => KE G I φ H S' w Q
/-- what of the text a class must have -/
structure ClsF (K : PySem.W.Frag) (C : Addr) : Prop extends Cls K C where
  ha : PySem.W.findIn K (.ref C) "__class__" = some (some (.builtin "object.__class__"))
  hn : PySem.W.specialIn K (.builtin "object.__class__") "__get__" = some (some (.builtin "getset_descriptor.__get__"))
  ht : PySem.W.takesIn K (.builtin "object.__class__") = some true
  hm : PySem.W.mroIn K C (.type "object") = some true
/-- a class as isinstance and except name it -/
def cvO (G : Gx) (c : Nat) : Value := if c = 9 then .type "ValueError" else .ref (G.cad c)
abbrev bmVE : List Value := [.type "ValueError", .type "Exception", .type "BaseException", .type "object"]
/-- what of the text an exception's class must have -/
structure ExcF (K : PySem.W.Frag) (C : Addr) : Prop extends ExcC K C where
  ex : PySem.W.excIn K C bmVE "ValueError.__new__" = true
  kp : PySem.W.keepIn K (.ref C) = true
  ev : PySem.W.exmOne K (.ref C) (.type "ValueError") = some true
  me : PySem.W.exmOne K (.ref C) (.ref C) = some true
  tp : PySem.W.typeIn K (.ref C) = some (.type "type")
structure XOk (T : Tab) (G : Gx) (cf : CallF) (Ex : L2.St → XK) (n : Nat) (sc : Scope) (X : Cx) : Prop where
  calm : T.cm = true → X.calm = true
  hk : X.K = G.K
  nd : X.N.Nodup
  hN : X.N = T.N
  hsc : X.env.scope = sc
  un : X.A.units + 65 < cLine
  room : T.cm = true → Room (2 * n + 1) X.A
  blt : ∀ x ∈ bltNames, X.mg x = none
  fns : ∀ x i np, (x, i, np) ∈ T.fnm → ∃ f fd ps, ps.length = np ∧ X.mg x = some (.ref f) ∧ PySem.W.keepIn X.K (.ref f) = true ∧ Binds X.K fd ps [] ∧ FnOk X.prog X.w X.K X.mg X.base (L2.CX X.prog X.w) (2 * n) f fd ps (spF G cf i np)
  csts : ∀ x w, (x, w) ∈ T.cst → ∃ u v, X.mg x = some u ∧ L2.RelV v u ∧ ∀ I φ, Rel G I φ w v
  cls : ∀ c ∈ T.cls, X.mg c.nm = some (.ref (G.cad c.c)) ∧ ClsF X.K (G.cad c.c) ∧ c.c < 9 ∧ G.fld c.c = c.flds ∧ c.flds.Nodup ∧ (∀ f ∈ c.flds, NoAttr X.K (G.cad c.c) f) ∧
    ∃ f fd ps, ps.length = c.np ∧ Mk X.K (G.cad c.c) f ∧ Binds X.K fd ps [] ∧ FnOk X.prog X.w X.K X.mg X.base (L2.CX X.prog X.w) (2 * n) f fd ps (spF G cf c.init c.np)
  mts : ∀ c m i np, (c, m, i, np) ∈ T.mts → Cls X.K (G.cad c) ∧ m ∉ G.fld c ∧ ∃ f fd ps, ps.length = np ∧ Meth X.K (G.cad c) m f ∧ Binds X.K fd ps [] ∧ FnOk X.prog X.w X.K X.mg X.base (L2.CX X.prog X.w) (2 * n) f fd ps (spF G cf i np)
  exc : ∀ x k, (x, k) ∈ T.exc → X.mg x = some (.ref (G.cad k)) ∧ ExcF X.K (G.cad k) ∧ 10 ≤ k ∧ PySem.W.kitOne X.K (.ref (G.cad k)) (.type "ValueError") = some true ∧ PySem.W.kitOne X.K (.type "NoneType") (.ref (G.cad k)) = some false ∧ k ∈ G.exs ∧ ∀ y j, (y, j) ∈ T.exc → PySem.W.kitOne X.K (.ref (G.cad k)) (.ref (G.cad j)) = some (subX k j)
  exs : ∀ k ∈ G.exs, ∃ x, (x, k) ∈ T.exc
  pass : ∀ σ, PassesAt (L2.CX X.prog X.w) X σ (Ex σ)
theorem XOk.gl {T : Tab} {Ex : L2.St → XK} {n : Nat} {sc : Scope} (x : XOk T G cf Ex n sc X) {y : PySem.Str} (h : isGl sc y = true) : Gl X y := by
  show X.env.scope.names.lookup y = _
  rw [x.hsc]
  exact isGl_ok h
theorem XOk.hu {T : Tab} {Ex : L2.St → XK} {n : Nat} {sc : Scope} (x : XOk T G cf Ex n sc X) : X.A.units + 65 < cLine := x.un
end Tw

/-! Tw, part H: what is walked; calls of defs. -/
namespace Tw
open PySem PySem.Spec PyProof.Rows L2

variable {G : Gx} {I I' I1 I2 H H' H1 H2 : Hp} {φ φ' φ1 φ2 : List Addr} {S S' : Sto} {K : PySem.W.Frag} {X : Cx} {cf : CallF} {T : Tab} {Ex : L2.St → XK} {n : Nat} {sc : Scope}

/-! ### walks -/
def Yields (G : Gx) (J : It) (I : Hp) (φ : List Addr) (xs : List W) : Prop :=
  ∀ I' φ' S' H', Same I I' → Pre φ φ' → Sim G I' φ' S' H' → ∀ i,
    (∀ w, xs[i]? = some w → J.go i H' ∧ ∀ v H'', J.yld i H' v H'' → ∃ I'', Ext I' φ' H' I'' φ' H'' ∧ Sim G I'' φ' S' H'' ∧ Rel G I'' φ' w v) ∧ (xs.length ≤ i → J.stop i H')
theorem rangeSize_up {a b c : Int} (hc : 0 < c) : Builtin.Range.rangeSize a b c = ((if a < b then ((b - a - 1) / c + 1).toNat else 0 : Nat) : Int) := by
  unfold Builtin.Range.rangeSize
  rw [if_pos (show c > 0 from hc)]
  split
  · have : 0 ≤ (b - a - 1) / c := Int.ediv_nonneg (by omega) (by omega)
    omega
  · rfl
theorem rgC_up {a b c : Int} (hc : 0 < c) (hc2 : c < 1000000) (ha : a.natAbs < 100000) (hb : b.natAbs < 100000) : RgC a b c (if a < b then ((b - a - 1) / c + 1).toNat else 0) := by
  refine ⟨by omega, by omega, ?_, rangeSize_up hc⟩
  have hs := rangeSize_up (a := a) (b := b) hc
  have hbd : ((if a < b then ((b - a - 1) / c + 1).toNat else 0 : Nat) : Int) ≤ 200001 := by
    split
    · have h1 : (b - a - 1) / c ≤ b - a - 1 := Int.ediv_le_self _ (by omega)
      omega
    · omega
  have h0 : 0 ≤ ((if a < b then ((b - a - 1) / c + 1).toNat else 0 : Nat) : Int) := Int.natCast_nonneg _
  unfold Builtin.Range.small
  rw [hs, if_pos (show c > 0 from hc)]
  generalize ((if a < b then ((b - a - 1) / c + 1).toNat else 0 : Nat) : Int) = m at hbd h0
  simp only [Builtin.Range.rangeFitsLong, Bool.and_eq_true, Bool.or_eq_true, decide_eq_true_eq, beq_iff_eq]
  omega
theorem yields_rangeC (lo c : Int) (n : Nat) : Yields G (Itc lo c n) I φ ((List.range n).map fun (j : Nat) => W.int (lo + j * c)) := by
  intro I' φ' S' H' h1 h2 s i
  refine ⟨fun w hw => ?_, fun hl => by show n ≤ i; simpa using hl⟩
  rw [List.getElem?_map] at hw
  cases hr : (List.range n)[i]? with
  | none => rw [hr] at hw; cases hw
  | some j =>
    rw [hr] at hw
    cases hw
    have hi := (List.getElem?_eq_some_iff.mp hr).1
    have hj : j = i := by
      have := (List.getElem?_eq_some_iff.mp hr).2
      simp at this
      exact this.symm
    subst hj
    refine ⟨by show j < n; simpa using hi, fun u H'' hy => ?_⟩
    obtain ⟨rfl, rfl⟩ := hy
    exact ⟨I', Ext.refl _ _ _, s, rfl⟩
theorem yields_rev {a : Addr} {vs : List V} {xs : List W} (ha : I a = some (.lst vs)) (r : Rels G I φ xs vs) : Yields G (Itv K a vs.length) I φ xs.reverse := by
  intro I' φ' S' H' h1 h2 s i
  have hq : SqL K H' a vs := .inl (rd_mono (h1.trans s.same) ha)
  have hl := r.length
  refine ⟨fun w hw => ?_, fun hle => by show vs.length ≤ i; rw [List.length_reverse] at hle; omega⟩
  obtain ⟨hi, hw'⟩ := List.getElem?_eq_some_iff.mp hw
  rw [List.length_reverse] at hi
  rw [List.getElem_reverse] at hw'
  have hx : xs[vs.length - 1 - i]? = some w := by
    rw [hl, List.getElem?_eq_getElem (by omega), hw']
  obtain ⟨v, hv, rv⟩ := r.get hx
  refine ⟨⟨by omega, vs, v, hq, hv⟩, fun u H'' hy => ?_⟩
  obtain ⟨rfl, hy⟩ := hy
  have := hy vs hq
  rw [hv] at this
  cases this
  exact ⟨I', Ext.refl _ _ _, s, rv.mono h1 h2⟩
def tI (G : Gx) (cf : CallF) (Ex : L2.St → XK) (k : ItK) (srcs : List E) : TI := fun σ H R => ∃ I φ ρ S, Sim G I φ S H ∧ Envs G I φ ρ σ ∧ Post G (Ex σ) I φ H (evs cf srcs ρ S) fun ws S1 =>
  ∃ xs, itVals k ws = some xs ∧ ∀ J I1 φ1 H1, Ext I φ H I1 φ1 H1 → Sim G I1 φ1 S1 H1 → Yields G J I1 φ1 xs → R J H1
theorem PI_imp {tg e : Expr} {t t' : TI} (h : PI X tg e t) (i : ∀ σ H Q, t' σ H Q → t σ H Q) : PI X tg e t' := ⟨fun pins s σ H Q J q => h.run pins s σ H Q J (i σ H Q q)⟩

theorem yields_list {a : Addr} {vs : List V} {xs : List W} (ha : I a = some (.lst vs)) (r : Rels G I φ xs vs) : Yields G (Itl K a) I φ xs := by
  intro I' φ' S' H' h1 h2 s i
  have hq : SqL K H' a vs := .inl (rd_mono (h1.trans s.same) ha)
  refine ⟨fun w hw => ?_, fun hl => ⟨vs, hq, by rw [r.length]; exact hl⟩⟩
  obtain ⟨v, hv, rv⟩ := r.get hw
  refine ⟨⟨vs, v, hq, hv⟩, fun u H'' hy => ?_⟩
  obtain ⟨rfl, hy⟩ := hy
  have := hy vs hq
  rw [hv] at this
  cases this
  exact ⟨I', Ext.refl _ _ _, s, rv.mono h1 h2⟩
theorem yields_klst {a : Addr} {ns : List Int} (hk : K = G.K) (ha : SqL G.K I a (ns.map V.int)) : Yields G (Itl K a) I φ (ns.map .int) := by
  subst hk
  intro I' φ' S' H' h1 h2 s i
  have hq : SqL G.K H' a (ns.map V.int) := (h1.trans s.same).seq ha
  refine ⟨fun w hw => ?_, fun hl => ⟨_, hq, by simpa using hl⟩⟩
  obtain ⟨v, hv, rv⟩ := (relsI (G := G) (I := I') (φ := φ') ns).get hw
  refine ⟨⟨_, v, hq, hv⟩, fun u H'' hy => ?_⟩
  obtain ⟨rfl, hy⟩ := hy
  have := hy _ hq
  rw [hv] at this
  cases this
  exact ⟨I', Ext.refl _ _ _, s, rv⟩
theorem yields_tup {a : Addr} {vs : List V} {xs : List W} (ha : I a = some (.tup vs)) (r : Rels G I φ xs vs) : Yields G (Itt K a) I φ xs := by
  intro I' φ' S' H' h1 h2 s i
  have hq : SqT K H' a vs := .inl (.inl (s.same _ _ (h1 _ _ ha)))
  refine ⟨fun w hw => ?_, fun hl => ⟨vs, hq, by rw [r.length]; exact hl⟩⟩
  obtain ⟨v, hv, rv⟩ := r.get hw
  refine ⟨⟨vs, v, hq, hv⟩, fun u H'' hy => ?_⟩
  obtain ⟨rfl, hy⟩ := hy
  have := hy vs hq
  rw [hv] at this
  cases this
  exact ⟨I', Ext.refl _ _ _, s, rv.mono h1 h2⟩
theorem yields_range (lo : Int) (n : Nat) : Yields G (Itr lo n) I φ ((List.range n).map fun (j : Nat) => W.int (lo + j)) := by
  intro I' φ' S' H' h1 h2 s i
  refine ⟨fun w hw => ?_, fun hl => by show n ≤ i; simpa using hl⟩
  rw [List.getElem?_map] at hw
  cases hr : (List.range n)[i]? with
  | none => rw [hr] at hw; cases hw
  | some j =>
    rw [hr] at hw
    cases hw
    have hi := (List.getElem?_eq_some_iff.mp hr).1
    have hj : j = i := by
      have := (List.getElem?_eq_some_iff.mp hr).2
      simp at this
      exact this.symm
    subst hj
    refine ⟨by show j < n; simpa using hi, fun u H'' hy => ?_⟩
    obtain ⟨rfl, rfl⟩ := hy
    exact ⟨I', Ext.refl _ _ _, s, rfl⟩
theorem yields_str (z : List Nat) : Yields G (Its ⟨z.toArray⟩) I φ (z.map fun c => .str [c]) := by
  intro I' φ' S' H' h1 h2 s i
  refine ⟨fun w hw => ?_, fun hl => ?_⟩
  · rw [List.getElem?_map] at hw
    cases hr : z[i]? with
    | none => rw [hr] at hw; cases hw
    | some c =>
      rw [hr] at hw
      cases hw
      refine ⟨?_, fun u H'' hy => ?_⟩
      · show i < z.toArray.size
        simpa using (List.getElem?_eq_some_iff.mp hr).1
      · obtain ⟨rfl, d, hd, rfl⟩ := hy
        have : z[i]? = some d := by simpa using hd
        rw [hr] at this
        cases this
        exact ⟨I', Ext.refl _ _ _, s, rfl⟩
  · show z.toArray.size ≤ i
    simpa using hl
theorem enumT_get : ∀ (xs : List W) (k i : Nat), (enumT k xs)[i]? = xs[i]?.map fun x => W.tup [.int ((k + i : Nat) : Int), x]
  | [], k, i => by simp [enumT]
  | x :: xs, k, 0 => by simp [enumT]
  | x :: xs, k, i + 1 => by
    simp only [enumT, List.getElem?_cons_succ]
    rw [enumT_get xs (k + 1) i]
    congr 1
    funext y
    congr 3
    omega
theorem enumT_len : ∀ (xs : List W) (k : Nat), (enumT k xs).length = xs.length
  | [], _ => rfl
  | x :: xs, k => by simp [enumT, enumT_len xs]
theorem yields_enum {a : Addr} {vs : List V} {xs : List W} (ha : I a = some (.lst vs)) (r : Rels G I φ xs vs) : Yields G (Ite K a) I φ (enumT 0 xs) := by
  intro I' φ' S' H' h1 h2 s i
  have hq : SqL K H' a vs := .inl (rd_mono (h1.trans s.same) ha)
  refine ⟨fun w hw => ?_, fun hl => ⟨vs, hq, by rw [r.length]; rw [enumT_len] at hl; exact hl⟩⟩
  rw [enumT_get] at hw
  cases hx : xs[i]? with
  | none => rw [hx] at hw; cases hw
  | some x =>
    rw [hx] at hw
    cases hw
    obtain ⟨v, hv, rv⟩ := r.get hx
    refine ⟨⟨vs, v, hq, hv⟩, fun u H'' hy => ?_⟩
    obtain ⟨T, y, rfl, hT, rfl, hy⟩ := hy
    have := hy vs hq
    rw [hv] at this
    cases this
    obtain ⟨s2, e2⟩ := s.newI (o := .tup [.int (i : Nat), v]) hT
    refine ⟨_, e2, s2, ⟨T, _, rfl, upd_same, ?_⟩⟩
    refine ⟨_, _, rfl, ?_, Rels.one ((rv.mono h1 h2).mono e2.same e2.pre')⟩
    simp [Rel]
theorem zipT_get : ∀ (xs ys : List W) (i : Nat), (zipT xs ys)[i]? = match xs[i]?, ys[i]? with
    | some x, some y => some (.tup [x, y])
    | _, _ => none
  | [], ys, i => by simp [zipT]
  | x :: xs, [], i => by cases h : (x :: xs)[i]? <;> simp [zipT]
  | x :: xs, y :: ys, 0 => by simp [zipT]
  | x :: xs, y :: ys, i + 1 => by simp only [zipT, List.getElem?_cons_succ]; exact zipT_get xs ys i
theorem zipT_len : ∀ (xs ys : List W), (zipT xs ys).length = min xs.length ys.length
  | [], _ => by simp [zipT]
  | _ :: _, [] => by simp [zipT]
  | x :: xs, y :: ys => by simp [zipT, zipT_len xs ys]
theorem yields_zip {a b : Addr} {vs us : List V} {xs ys : List W} (ha : I a = some (.lst vs)) (r : Rels G I φ xs vs) (hb : I b = some (.lst us)) (r2 : Rels G I φ ys us) : Yields G (Itz K a b) I φ (zipT xs ys) := by
  intro I' φ' S' H' h1 h2 s i
  have hq : SqL K H' a vs := .inl (rd_mono (h1.trans s.same) ha)
  have hq2 : SqL K H' b us := .inl (rd_mono (h1.trans s.same) hb)
  have l1 := r.length
  have l2 := r2.length
  refine ⟨fun w hw => ?_, fun hl => ⟨vs, us, hq, hq2, by rw [zipT_len] at hl; omega⟩⟩
  rw [zipT_get] at hw
  split at hw
  · rename_i x y hx hy
    cases hw
    obtain ⟨v, hv, rv⟩ := r.get hx
    obtain ⟨v2, hv2, rv2⟩ := r2.get hy
    refine ⟨⟨vs, us, v, v2, hq, hq2, hv, hv2⟩, fun u H'' hyy => ?_⟩
    obtain ⟨T, y1, y2, rfl, hT, rfl, hy1, hy2⟩ := hyy
    have := hy1 vs hq
    rw [hv] at this
    cases this
    have := hy2 us hq2
    rw [hv2] at this
    cases this
    obtain ⟨s2, e2⟩ := s.newI (o := .tup [v, v2]) hT
    exact ⟨_, e2, s2, ⟨T, _, rfl, upd_same, .cons ((rv.mono h1 h2).mono e2.same e2.pre') (Rels.one ((rv2.mono h1 h2).mono e2.same e2.pre'))⟩⟩
  · cases hw
theorem tI_one {k : ItK} {m : E} : ∀ σ H R, tI G cf Ex k [m] σ H R → tE G cf Ex m σ H fun v H1 => ∃ I1 φ1 S1 w xs, Sim G I1 φ1 S1 H1 ∧ Rel G I1 φ1 w v ∧ itVals k [w] = some xs ∧ ∀ J, Yields G J I1 φ1 xs → R J H1 := by
  rintro σ H R ⟨I, φ, ρ, S, s, en, h⟩
  simp only [evs] at h
  refine tE_step s en (h.bind.imp fun w S1 _ h1 => ?_)
  intro v I1 φ1 H1 e1 s1 r1
  simp only [Rs.bind] at h1
  obtain ⟨xs, hx, q⟩ := h1
  exact ⟨I1, φ1, S1, w, xs, s1, r1, hx, fun J y => q J I1 φ1 H1 e1 s1 y⟩
theorem tE_mono {m : E} {σ : L2.St} {Q Q' : VK} (i : ∀ v H, Q v H → Q' v H) (h : tE G cf Ex m σ H Q) : tE G cf Ex m σ H Q' := by
  obtain ⟨I, φ, ρ, S, s, en, h⟩ := h
  exact ⟨I, φ, ρ, S, s, en, h.imp fun w S1 _ h1 v I' φ' H' e s r => i _ _ (h1 v I' φ' H' e s r)⟩
/-- the walk's syntax: the expressions that it asks -/
def itSyn (sc : Scope) (k : ItK) (tg e : Expr) : Option (List Expr) :=
  match k, e with
  | .range1, .Call (.Name f _) [a] [] _ => if decide (f = ("range" : PySem.Str)) && isGl sc f && plainE a then some [a] else none
  | .range2, .Call (.Name f _) [a, b] [] _ => if decide (f = ("range" : PySem.Str)) && isGl sc f && plainE a && plainE b then some [a, b] else none
  | .enum, .Call (.Name f _) [a] [] _ => match tg with
    | .Tuple _ _ _ => if decide (f = ("enumerate" : PySem.Str)) && isGl sc f && plainE a then some [a] else none
    | _ => none
  | .zip, .Call (.Name f _) [a, b] [] _ => match tg with
    | .Tuple _ _ _ => if decide (f = ("zip" : PySem.Str)) && isGl sc f && plainE a && plainE b then some [a, b] else none
    | _ => none
  | .range3, .Call (.Name f _) [a, b, c] [] _ => if decide (f = ("range" : PySem.Str)) && isGl sc f && plainE a && plainE b && plainE c then some [a, b, c] else none
  | .revL, .Call (.Name f _) [a] [] _ => if decide (f = ("reversed" : PySem.Str)) && isGl sc f && plainE a then some [a] else none
  | .revR, .Call (.Name f _) [.Call (.Name g _) [a] [] _] [] _ => if decide (f = ("reversed" : PySem.Str)) && isGl sc f && decide (g = ("range" : PySem.Str)) && isGl sc g && plainE a then some [a] else none
  | .list, e => if plainE e then some [e] else none
  | .tup, e => if plainE e then some [e] else none
  | .str, e => if plainE e then some [e] else none
  | _, _ => none
theorem PEs.one_inv {ms : List E} {e : Expr} (h : PEs G cf Ex X ms [e]) : ∃ m, ms = [m] ∧ plainE e = true ∧ PE X e (tE G cf Ex m) := by
  cases h with
  | cons p h t => cases t; exact ⟨_, rfl, p, h⟩
theorem PEs.two_inv {ms : List E} {a b : Expr} (h : PEs G cf Ex X ms [a, b]) : ∃ m m', ms = [m, m'] ∧ plainE a = true ∧ PE X a (tE G cf Ex m) ∧ plainE b = true ∧ PE X b (tE G cf Ex m') := by
  cases h with
  | cons p h t => obtain ⟨m', rfl, p', h'⟩ := t.one_inv; exact ⟨_, _, rfl, p, h, p', h'⟩
theorem PEs.three_inv {ms : List E} {a b c : Expr} (h : PEs G cf Ex X ms [a, b, c]) : ∃ m m' m'', ms = [m, m', m''] ∧ plainE a = true ∧ PE X a (tE G cf Ex m) ∧ plainE b = true ∧ PE X b (tE G cf Ex m') ∧ plainE c = true ∧ PE X c (tE G cf Ex m'') := by
  cases h with
  | cons p h t => obtain ⟨m', m'', rfl, r⟩ := t.two_inv; exact ⟨_, _, _, rfl, p, h, r⟩
theorem range_eq (n : Nat) : ((List.range n).map fun (j : Nat) => W.int ((0 : Int) + j)) = (List.range n).map fun (j : Nat) => W.int j := by
  congr 1
  funext j
  rw [Int.zero_add]

theorem itOk {k : ItK} {tg e : Expr} {es : List Expr} {ms : List E} (h : itSyn sc k tg e = some es) (x : XOk T G cf Ex n sc X) (p : PEs G cf Ex X ms es) : PI X tg e (tI G cf Ex k ms) ∧ plainE e = true := by
  unfold itSyn at h
  split at h
  · split at h
    · rename_i hc
      cases h
      simp only [Bool.and_eq_true, decide_eq_true_eq] at hc
      obtain ⟨⟨rfl, hg⟩, pa⟩ := hc
      obtain ⟨m, rfl, _, _⟩ := p.one_inv
      refine ⟨PI_imp (pi_range1 (x.gl hg) (x.blt _ (by simp [bltNames])) p.pa (star_plain pa)) ?_, rfl⟩
      rintro σ H R ⟨I, φ, ρ, S, s, en, q⟩
      refine ⟨I, φ, ρ, S, s, en, q.imp fun ws S1 _ h1 => ?_⟩
      intro vs I1 φ1 H1 e1 s1 r1
      obtain ⟨xs, hx, q⟩ := h1
      match ws, hx with
      | [.int j], hx =>
        obtain ⟨y, rfl, ry⟩ := rels_one r1
        obtain rfl := rel_int ry
        simp only [itVals] at hx
        split at hx
        · rename_i hj
          cases hx
          simp only [Bool.and_eq_true, decide_eq_true_eq, LIM] at hj
          refine ⟨j, rfl, by omega, by omega, q _ I1 φ1 H1 e1 s1 ?_⟩
          rw [← range_eq]
          exact yields_range 0 j.toNat
        · cases hx
    · cases h
  · split at h
    · rename_i hc
      cases h
      simp only [Bool.and_eq_true, decide_eq_true_eq] at hc
      obtain ⟨⟨⟨rfl, hg⟩, pa⟩, pb⟩ := hc
      obtain ⟨m, m', rfl, _, _, _, _⟩ := p.two_inv
      refine ⟨PI_imp (pi_range2 (x.gl hg) (x.blt _ (by simp [bltNames])) p.pa (by rw [star_plain pa, star_plain pb]; rfl) (star_plain pb)) ?_, rfl⟩
      rintro σ H R ⟨I, φ, ρ, S, s, en, q⟩
      refine ⟨I, φ, ρ, S, s, en, q.imp fun ws S1 _ h1 => ?_⟩
      intro vs I1 φ1 H1 e1 s1 r1
      obtain ⟨xs, hx, q⟩ := h1
      match ws, hx with
      | [.int i, .int j], hx =>
        obtain ⟨y, y', rfl, ry, ry'⟩ := rels_two r1
        obtain rfl := rel_int ry
        obtain rfl := rel_int ry'
        simp only [itVals] at hx
        split at hx
        · rename_i hj
          cases hx
          simp only [Bool.and_eq_true, decide_eq_true_eq, LIM] at hj
          refine ⟨i, j, rfl, by omega, q _ I1 φ1 H1 e1 s1 ?_⟩
          exact yields_range i (j - i).toNat
        · cases hx
    · cases h
  · split at h
    · split at h
      · rename_i hc
        cases h
        simp only [Bool.and_eq_true, decide_eq_true_eq] at hc
        obtain ⟨⟨rfl, hg⟩, pa⟩ := hc
        obtain ⟨m, rfl, _, _⟩ := p.one_inv
        refine ⟨PI_imp (pi_enum (x.gl hg) (x.blt _ (by simp [bltNames])) p.pa (star_plain pa)) ?_, rfl⟩
        rintro σ H R ⟨I, φ, ρ, S, s, en, q⟩
        refine ⟨I, φ, ρ, S, s, en, q.imp fun ws S1 _ h1 => ?_⟩
        intro vs I1 φ1 H1 e1 s1 r1
        obtain ⟨xs, hx, q⟩ := h1
        match ws, hx with
        | [.lst zs], hx =>
          cases hx
          obtain ⟨y, rfl, ry⟩ := rels_one r1
          obtain ⟨a, us, rfl, hr, rr⟩ := ry
          exact ⟨a, us, rfl, .inl (rd_mono s1.same hr), q _ I1 φ1 H1 e1 s1 (yields_enum hr rr)⟩
      · cases h
    · cases h
  · split at h
    · split at h
      · rename_i hc
        cases h
        simp only [Bool.and_eq_true, decide_eq_true_eq] at hc
        obtain ⟨⟨⟨rfl, hg⟩, pa⟩, pb⟩ := hc
        obtain ⟨m, m', rfl, _, _, _, _⟩ := p.two_inv
        refine ⟨PI_imp (pi_zip (x.gl hg) (x.blt _ (by simp [bltNames])) p.pa (star_plain pa) (star_none (by simp [pb]))) ?_, rfl⟩
        rintro σ H R ⟨I, φ, ρ, S, s, en, q⟩
        refine ⟨I, φ, ρ, S, s, en, q.imp fun ws S1 _ h1 => ?_⟩
        intro vs I1 φ1 H1 e1 s1 r1
        obtain ⟨xs, hx, q⟩ := h1
        match ws, hx with
        | [.lst zs, .lst zs'], hx =>
          cases hx
          obtain ⟨y, y', rfl, ry, ry'⟩ := rels_two r1
          obtain ⟨a, us, rfl, hr, rr⟩ := ry
          obtain ⟨a', us', rfl, hr', rr'⟩ := ry'
          exact ⟨a, a', us, us', rfl, .inl (rd_mono s1.same hr), .inl (rd_mono s1.same hr'), q _ I1 φ1 H1 e1 s1 (yields_zip hr rr hr' rr')⟩
      · cases h
    · cases h
  · split at h
    · rename_i hc
      cases h
      simp only [Bool.and_eq_true, decide_eq_true_eq] at hc
      obtain ⟨⟨⟨⟨rfl, hg⟩, pa⟩, pb⟩, pc⟩ := hc
      obtain ⟨m, m', m'', rfl, _, _, _, _, _, _⟩ := p.three_inv
      refine ⟨PI_imp (pi_range3 (x.gl hg) (x.blt _ (by simp [bltNames])) p.pa (star_plain pa) (star_none (by simp [pb, pc]))) ?_, rfl⟩
      rintro σ H R ⟨I, φ, ρ, S, s, en, q⟩
      refine ⟨I, φ, ρ, S, s, en, q.imp fun ws S1 _ h1 => ?_⟩
      intro vs I1 φ1 H1 e1 s1 r1
      obtain ⟨xs, hx, q⟩ := h1
      match ws, hx with
      | [.int i, .int j, .int c], hx =>
        obtain ⟨y, ys, rfl, ry, r2⟩ := r1
        obtain ⟨y', y'', rfl, ry', ry''⟩ := rels_two r2
        obtain rfl := rel_int ry
        obtain rfl := rel_int ry'
        obtain rfl := rel_int ry''
        simp only [itVals] at hx
        split at hx
        · rename_i hj
          cases hx
          simp only [Bool.and_eq_true, decide_eq_true_eq, LIM] at hj
          exact ⟨i, j, c, _, rfl, rgC_up hj.1.2 hj.2 hj.1.1.1 hj.1.1.2, q _ I1 φ1 H1 e1 s1 (yields_rangeC i c _)⟩
        · cases hx
    · cases h
  · split at h
    · rename_i hc
      cases h
      simp only [Bool.and_eq_true, decide_eq_true_eq] at hc
      obtain ⟨⟨rfl, hg⟩, pa⟩ := hc
      obtain ⟨m, rfl, _, _⟩ := p.one_inv
      refine ⟨PI_imp (pi_reversed (x.gl hg) (x.blt _ (by simp [bltNames])) p.pa (star_plain pa)) ?_, rfl⟩
      rintro σ H R ⟨I, φ, ρ, S, s, en, q⟩
      refine ⟨I, φ, ρ, S, s, en, q.imp fun ws S1 _ h1 => ?_⟩
      intro vs I1 φ1 H1 e1 s1 r1
      obtain ⟨xs, hx, q⟩ := h1
      match ws, hx with
      | [.lst zs], hx =>
        cases hx
        obtain ⟨y, rfl, ry⟩ := rels_one r1
        obtain ⟨a, us, rfl, hr, rr⟩ := ry
        exact ⟨a, us, rfl, .inl (rd_mono s1.same hr), q _ I1 φ1 H1 e1 s1 (yields_rev hr rr)⟩
    · cases h
  · split at h
    · rename_i hc
      cases h
      simp only [Bool.and_eq_true, decide_eq_true_eq] at hc
      obtain ⟨⟨⟨⟨rfl, hg⟩, rfl⟩, hg2⟩, pa⟩ := hc
      obtain ⟨m, rfl, _, hm⟩ := p.one_inv
      refine ⟨PI_imp (pi_revR (x.gl hg) (x.blt _ (by simp [bltNames])) (prg_1 (x.gl hg2) (x.blt _ (by simp [bltNames])) hm (star_plain pa)) (star_plain rfl)) ?_, rfl⟩
      rintro σ H R q
      refine tE_mono ?_ (tI_one σ H R q)
      rintro v H1 ⟨I1, φ1, S1, w, xs, s1, r1, hx, q⟩
      match w, hx with
      | .int j, hx =>
        obtain rfl := rel_int r1
        simp only [itVals] at hx
        split at hx
        · rename_i hj
          cases hx
          simp only [decide_eq_true_eq, LIM] at hj
          refine ⟨j, rfl, by omega, by omega, by omega, by omega, q _ ?_⟩
          have := yields_rangeC (G := G) (I := I1) (φ := φ1) (0 + (((j - 0).toNat : Nat) : Int) - 1) (-1) (j - 0).toNat
          have e : ((List.range (j - 0).toNat).map fun (k : Nat) => W.int (0 + (((j - 0).toNat : Nat) : Int) - 1 + k * (-1))) = (List.range j.toNat).map fun (k : Nat) => W.int (j - 1 - k) := by
            rw [Int.sub_zero]
            apply List.map_congr_left
            intro k hk
            have := List.mem_range.mp hk
            congr 1
            omega
          rw [e] at this
          exact this
        · cases hx
    · cases h
  · split at h
    · rename_i hc
      cases h
      obtain ⟨m, rfl, _, hm⟩ := p.one_inv
      refine ⟨PI_imp (pi_list hm) ?_, hc⟩
      intro σ H R q
      refine tE_mono ?_ (tI_one σ H R q)
      rintro v H1 ⟨I1, φ1, S1, w, xs, s1, r1, hx, q⟩
      match w, hx with
      | .lst zs, hx =>
        cases hx
        obtain ⟨a, us, rfl, hr, rr⟩ := r1
        exact ⟨a, rfl, ⟨us, .inl (rd_mono s1.same hr)⟩, q _ (yields_list hr rr)⟩
      | .klst ns, hx =>
        cases hx
        obtain ⟨a, rfl, hr⟩ := r1
        exact ⟨a, rfl, ⟨_, by rw [x.hk]; exact s1.same.seq hr⟩, q _ (yields_klst x.hk hr)⟩
    · cases h
  · split at h
    · rename_i hc
      cases h
      obtain ⟨m, rfl, _, hm⟩ := p.one_inv
      refine ⟨PI_imp (pi_tup hm) ?_, hc⟩
      intro σ H R q
      refine tE_mono ?_ (tI_one σ H R q)
      rintro v H1 ⟨I1, φ1, S1, w, xs, s1, r1, hx, q⟩
      match w, hx with
      | .tup zs, hx =>
        cases hx
        obtain ⟨a, us, rfl, hr, rr⟩ := r1
        exact ⟨a, rfl, ⟨us, .inl (.inl (s1.same _ _ hr))⟩, q _ (yields_tup hr rr)⟩
    · cases h
  · split at h
    · rename_i hc
      cases h
      obtain ⟨m, rfl, _, hm⟩ := p.one_inv
      refine ⟨PI_imp (pi_str hm) ?_, hc⟩
      intro σ H R q
      refine tE_mono ?_ (tI_one σ H R q)
      rintro v H1 ⟨I1, φ1, S1, w, xs, s1, r1, hx, q⟩
      match w, hx with
      | .str zs, hx =>
        cases hx
        obtain rfl : v = _ := r1
        exact ⟨_, rfl, q _ (yields_str zs)⟩
    · cases h
  · cases h
end Tw

/-! Tw, part I: the operations' syntax. -/
namespace Tw
open PySem PySem.Spec PyProof.Rows L2

variable {G : Gx} {I I' I1 I2 H H' H1 H2 : Hp} {φ φ' φ1 φ2 : List Addr} {S S' : Sto} {K : PySem.W.Frag} {X : Cx} {cf : CallF} {T : Tab} {Ex : L2.St → XK} {n : Nat} {sc : Scope}

def binTab : Op → Option Operator
  | .add => some .Add
  | .sub => some .Sub
  | .mul => some .Mult
  | .fdiv => some .FloorDiv
  | .mod => some .Mod
  | .pow => some .Pow
  | _ => none
def cmpTab : Op → Option CmpOp
  | .eq => some .Eq
  | .ne => some .NotEq
  | .lt => some .Lt
  | .le => some .LtE
  | .gt => some .Gt
  | .ge => some .GtE
  | .isin => some .In
  | .notin => some .NotIn
  | _ => none
def callTab : Op → Option (PySem.Str × Value)
  | .len => some ("len", .builtin "len")
  | .list => some ("list", .type "list")
  | .tuple => some ("tuple", .type "tuple")
  | .sorted => some ("sorted", .builtin "sorted")
  | .all => some ("all", .builtin "all")
  | .int => some ("int", .type "int")
  | .min => some ("min", .builtin "min")
  | .max => some ("max", .builtin "max")
  | .str => some ("str", .type "str")
  | _ => none
theorem binTab_ok {o : Op} {c : Operator} (h : binTab o = some c) : OpR X (binaryOp c) (fun x y => rOp G o [x, y]) := by
  cases o <;> cases h
  · exact or_add
  · exact or_sub
  · exact or_mul
  · exact or_fdiv
  · exact or_mod
  · exact or_pow
theorem cmpTab_ok {o : Op} {c : CmpOp} (h : cmpTab o = some c) (hu : X.A.units + 65 < cLine) : OpR X (compareOp c) (fun x y => rOp G o [x, y]) := by
  cases o <;> cases h
  · exact or_eq (by omega)
  · exact or_ne (by omega)
  · exact or_lt (by omega)
  · exact or_le
  · exact or_gt
  · exact or_ge
  · exact or_in hu
  · exact or_notin hu
theorem sortedSem_lst {ws : List W} {S : Sto} {w : W} (h : opSem .sorted ws S = some w) : ∃ xs, w = .lst xs := by
  unfold opSem at h
  split at h <;> try (cases h; done)
  all_goals first
    | (rename_i hh; cases hh; done)
    | skip
  rename_i x hh
  cases hs : sortedSem S x with
  | none => rw [hs] at h; cases h
  | some xs => rw [hs] at h; cases h; exact ⟨xs, rfl⟩
theorem listSem_lst {ws : List W} {S : Sto} {w : W} (h : opSem .list ws S = some w) : ∃ xs, w = .lst xs := by
  unfold opSem at h
  split at h <;> try (cases h; done)
  all_goals first
    | (rename_i hh; cases hh; done)
    | skip
  rename_i x hh
  cases hs : seqOf S x with
  | none => rw [hs] at h; cases h
  | some xs => rw [hs] at h; cases h; exact ⟨xs, rfl⟩
/-- what is asked only where nothing is being handled -/
def calmOp : Op → Bool
  | .sorted => true
  | .all => true
  | .min => true
  | .max => true
  | .rangeL _ _ => true
  | _ => false
theorem callTab_ok {o : Op} {f : PySem.Str} {v : Value} (hk : X.K = G.K) (h : callTab o = some (f, v)) (hc : calmOp o = true → X.calm = true) (hu : X.A.units + 65 < cLine) :
    CallR X v (rOp G o) ∧ bootBuiltins f = some v ∧ f ∈ bltNames ∧ f ≠ "__name__" ∧ (f == ("__debug__" : PySem.Str)) = false ∧ ((∃ id, v = .builtin id) ∨ ∃ t, v = .type t) := by
  cases o <;> cases h
  · exact ⟨or_len hk, by decide +kernel, by simp [bltNames], by decide, by decide, .inl ⟨_, rfl⟩⟩
  · exact ⟨fr_op (or_listF hk) fun _ _ _ => listSem_lst, by decide +kernel, by simp [bltNames], by decide, by decide, .inr ⟨_, rfl⟩⟩
  · exact ⟨or_tuple hk, by decide +kernel, by simp [bltNames], by decide, by decide, .inr ⟨_, rfl⟩⟩
  · exact ⟨fr_op (or_sortedF (hc rfl) (by omega)) fun _ _ _ => sortedSem_lst, by decide +kernel, by simp [bltNames], by decide, by decide, .inl ⟨_, rfl⟩⟩
  · exact ⟨or_all (hc rfl), by decide +kernel, by simp [bltNames], by decide, by decide, .inl ⟨_, rfl⟩⟩
  · exact ⟨or_int, by decide +kernel, by simp [bltNames], by decide, by decide, .inr ⟨_, rfl⟩⟩
  · exact ⟨or_min (hc rfl), by decide +kernel, by simp [bltNames], by decide, by decide, .inl ⟨_, rfl⟩⟩
  · exact ⟨or_max (hc rfl), by decide +kernel, by simp [bltNames], by decide, by decide, .inl ⟨_, rfl⟩⟩
  · exact ⟨or_str, by decide +kernel, by simp [bltNames], by decide, by decide, .inr ⟨_, rfl⟩⟩
def rgOf : Op → Option (Bool × Bool)
  | .rangeL tp two => some (tp, two)
  | _ => none
def rgNm : Bool → PySem.Str
  | true => "tuple"
  | false => "list"
/-- list(range(..)), tuple(range(..)) -/
def rgSyn (sc : Scope) (tp two : Bool) (f : PySem.Str) (a : Expr) (as : List Expr) : Option (List Expr) :=
  match as, a with
  | [], .Call (.Name g _) es [] _ => if decide (f = rgNm tp) && isGl sc f && decide (g = ("range" : PySem.Str)) && isGl sc g then (match two, es with
    | false, [x] => some [x]
    | true, [x, y] => some [x, y]
    | _, _ => none) else none
  | _, _ => none
def isiOf : Op → Option String
  | .isi .int => some "int"
  | .isi .bool => some "bool"
  | .isi .str => some "str"
  | .isi .list => some "list"
  | .isi .tuple => some "tuple"
  | _ => none
theorem isiOf_ok {o : Op} {c : String} (h : isiOf o = some c) : ∃ t, o = .isi t ∧ (match t with | .int => c = "int" | .bool => c = "bool" | .str => c = "str" | .list => c = "list" | .tuple => c = "tuple" | .cls _ => False) ∧ PySem.Str.ofString c ∈ bltNames ∧ bootBuiltins (PySem.Str.ofString c) = some (.type c) ∧ PySem.Str.ofString c ≠ "__name__" ∧ (PySem.Str.ofString c == ("__debug__" : PySem.Str)) = false := by
  unfold isiOf at h
  split at h <;> cases h
  · exact ⟨_, rfl, rfl, by simp [bltNames], by decide +kernel, by decide, by decide⟩
  · exact ⟨_, rfl, rfl, by simp [bltNames], by decide +kernel, by decide, by decide⟩
  · exact ⟨_, rfl, rfl, by simp [bltNames], by decide +kernel, by decide, by decide⟩
  · exact ⟨_, rfl, rfl, by simp [bltNames], by decide +kernel, by decide, by decide⟩
  · exact ⟨_, rfl, rfl, by simp [bltNames], by decide +kernel, by decide, by decide⟩
/-- an operation's syntax: the expressions that it asks, from the left -/
def opSyn (sc : Scope) (o : Op) (e : Expr) : Option (List Expr) :=
  match e with
  | .BinOp a c b _ => if decide (binTab o = some c) then some [a, b] else none
  | .UnaryOp .USub a _ => match o with
    | .neg => some [a]
    | _ => none
  | .Compare a [c] [b] _ => match o with
    | .isnone => match c, b with
      | .Is, .Constant .none _ _ => some [a]
      | _, _ => none
    | .notnone => match c, b with
      | .IsNot, .Constant .none _ _ => some [a]
      | _, _ => none
    | o => if decide (cmpTab o = some c) then some [a, b] else none
  | .Subscript a (.Slice lo hi none _) _ => match o, lo, hi with
    | .slice false false, none, none => some [a]
    | .slice true false, some l, none => some [a, l]
    | .slice false true, none, some h => some [a, h]
    | .slice true true, some l, some h => some [a, l, h]
    | _, _, _ => none
  | .Subscript a b _ => match o with
    | .idx => some [a, b]
    | _ => none
  | .Call (.Name f _) (a :: as) [] _ => match rgOf o with
    | some (tp, two) => rgSyn sc tp two f a as
    | none => match isiOf o with
      | some c => match as with
        | [.Name g _] => if decide (f = ("isinstance" : PySem.Str)) && isGl sc f && decide (g = PySem.Str.ofString c) && isGl sc g then some [a] else none
        | _ => none
      | none => match callTab o with
        | some (g, _) => if decide (f = g) && isGl sc f then some (a :: as) else none
        | none => none
  | .Tuple es _ _ => match o with
    | .tupD => some es
    | _ => none
  | .List es _ => match o with
    | .lstD => some es
    | _ => none
  | _ => none
theorem tCall_ok {o : Op} {f : PySem.Str} {v : Value} {g : PySem.Str} {a : Expr} {as : List Expr} {p pos : Pos} {r : List V → Hp → VK → Prop} {t : TA} (h : callTab o = some (g, v)) (hf : f = g) (hg : isGl sc f = true) (x : XOk T G cf Ex n sc X) (hcm : calmOp o = true → T.cm = true) (hr : CallR X v r) (pl : (a :: as).all plainE = true) (pa : PA X (a :: as) t) :
    PE X (.Call (.Name f p) (a :: as) [] pos) (tCB r t) := by
  subst hf
  obtain ⟨_, h2, h3, h4, h5, h6⟩ := callTab_ok (G := G) x.hk h (fun z => x.calm (hcm z)) x.hu
  have pl1 : plainE a = true := by simp only [List.all_cons, Bool.and_eq_true] at pl; exact pl.1
  have pl2 : as.all plainE = true := by simp only [List.all_cons, Bool.and_eq_true] at pl; exact pl.2
  rcases h6 with ⟨id, rfl⟩ | ⟨t, rfl⟩
  · exact pe_callB hr (x.gl hg) (x.blt _ h3) h2 pa h4 h5 (star_plain pl1) (star_none pl2)
  · exact pe_callTy hr (x.gl hg) (x.blt _ h3) h2 pa h4 h5 (star_plain pl1) (star_none pl2)

/-- what follows, told again from a later state -/
theorem evs_nil {ρ : Env} {S : Sto} : evs cf [] ρ S = .ok [] S := by simp [evs]
theorem evs_cons {m : E} {ms : List E} {ρ : Env} {S : Sto} : evs cf (m :: ms) ρ S = (ev cf m ρ S).bind fun w S1 => (evs cf ms ρ S1).bind fun ws S2 => .ok (w :: ws) S2 := by simp [evs]
theorem bind_assoc {α β γ : Type} {r : Rs α} {f : α → Sto → Rs β} {g : β → Sto → Rs γ} : (r.bind f).bind g = r.bind fun a S => (f a S).bind g := by
  cases r <;> rfl
theorem bind_ok {α β : Type} {a : α} {S : Sto} {f : α → Sto → Rs β} : (Rs.ok a S).bind f = f a S := rfl
theorem isn_ok {o : Op} {c : CmpOp} (ho : OpR X (compareOp c) (fun x y H Q => y = .non ∧ rOp G o [x] H Q)) {a : Expr} {m : E} {j} {p pos : Pos} (ha : PE X a (tE G cf Ex m)) (hm : behindInMarks c (.Constant .none j p) = false) :
    PE X (.Compare a [c] [.Constant .none j p] pos) (tE G cf Ex (.op o [m])) ∧ PT X (.Compare a [c] [.Constant .none j p] pos) (tTest (tE G cf Ex (.op o [m]))) := by
  refine ⟨PE_imp (pe_cmpR ho ha pe_non hm) fun σ H Q h => ?_, PT_imp (pt_cmpR ho ha pe_non hm) fun σ H Q h => ?_⟩
  · exact tUn_of (fun x H Q => rOp G o [x] H Q) (fun _ _ _ h => h) σ H _ h |> tE_mono fun v H1 h1 => ⟨rfl, h1⟩
  · exact tUn_of (fun x H Q => rOp G o [x] H Q) (fun _ _ _ h => h) σ H _ h |> tE_mono fun v H1 h1 => ⟨rfl, h1⟩
theorem tT_test {m : E} : ∀ σ H Q, tT G cf Ex m σ H Q → tTest (tE G cf Ex m) σ H Q := by
  rintro σ H Q ⟨I, φ, ρ, S, s, en, h⟩
  refine ⟨I, φ, ρ, S, s, en, h.imp fun w S1 _ h1 => ?_⟩
  obtain ⟨b, rfl, q⟩ := h1
  intro v I1 φ1 H1 e1 s1 r1
  exact ⟨b, r1, q _ _ _ e1 s1⟩
/-- a test whose truth is its value's -/
def truE : Expr → Bool
  | .UnaryOp op _ _ => decide (op ≠ .Not)
  | .BoolOp _ _ _ => false
  | .IfExp _ _ _ _ => false
  | .Compare _ _ _ _ => false
  | _ => true
theorem tru_ok {e : Expr} {m : E} (h : PE X e (tE G cf Ex m)) (he : truE e = true) : PT X e (tT G cf Ex m) := by
  refine PT_imp (pt_val h ?_) fun σ H Q h => tT_test σ H Q h
  intro w
  cases e with
  | UnaryOp op a p => cases op <;> first | (simp [truE] at he; done) | rfl
  | _ => first | (simp [truE] at he; done) | rfl
theorem pe_pt {e : Expr} {m : E} (h : PT X e (tTest (tE G cf Ex m))) : PT X e (tT G cf Ex m) := PT_imp h fun σ H Q h => tT_test σ H Q h

/-- one more operand, of a list of them -/
theorem ops_step {m : E} {ms : List E} {σ : L2.St} {ρ : Env} {α : Type} {f : List W → Sto → Rs α} {k : α → Sto → Prop} (s : Sim G I φ S H) (en : Envs G I φ ρ σ) (h : Post G (Ex σ) I φ H ((evs cf (m :: ms) ρ S).bind f) k) :
    tE G cf Ex m σ H fun v H1 => ∃ I1 φ1 S1 w, Ext I φ H I1 φ1 H1 ∧ Sim G I1 φ1 S1 H1 ∧ Envs G I1 φ1 ρ σ ∧ Rel G I1 φ1 w v ∧ ev cf m ρ S = .ok w S1 ∧ Post G (Ex σ) I1 φ1 H1 ((evs cf ms ρ S1).bind fun ws S2 => f (w :: ws) S2) k := by
  rw [evs_cons, bind_assoc] at h
  refine tE_step s en (h.bind.imp fun w S1 he h1 => ?_)
  intro v I1 φ1 H1 e1 s1 r1
  refine ⟨I1, φ1, S1, w, e1, s1, en.ext e1, r1, he, ?_⟩
  rw [bind_assoc] at h1
  exact h1.ext e1 fun _ _ _ h => h
def isToI : E → Bool
  | .toI _ => true
  | _ => false
theorem toI_int {m : E} (hm : isToI m = true) {ρ : Env} {S S1 : Sto} {w : W} (h : ev cf m ρ S = .ok w S1) : ∃ i, w = .int i := by
  cases m <;> first | (cases hm; done) | skip
  rename_i a
  simp only [ev] at h
  cases he : ev cf a ρ S with
  | ok x S2 =>
    rw [he] at h
    simp only [Rs.bind] at h
    split at h
    · cases h; exact ⟨_, rfl⟩
    · cases h
  | ex c S2 => rw [he] at h; cases h
  | bad => rw [he] at h; cases h
/-- a slice's part -/
theorem part_step {m : E} {ms : List E} {σ : L2.St} {ρ : Env} {α : Type} {f : List W → Sto → Rs α} {k : α → Sto → Prop} {Q : Option Int → Hp → Prop} (hm : isToI m = true) (s : Sim G I φ S H) (en : Envs G I φ ρ σ) (h : Post G (Ex σ) I φ H ((evs cf (m :: ms) ρ S).bind f) k)
    (hQ : ∀ i I1 φ1 S1 H1, Ext I φ H I1 φ1 H1 → Sim G I1 φ1 S1 H1 → Envs G I1 φ1 ρ σ → Post G (Ex σ) I1 φ1 H1 ((evs cf ms ρ S1).bind fun ws S2 => f (.int i :: ws) S2) k → Q (some i) H1) : tPart (tE G cf Ex m) σ H Q := by
  refine tE_mono ?_ (ops_step s en h)
  rintro v H1 ⟨I1, φ1, S1, w, e1, s1, en1, r1, he, h1⟩
  obtain ⟨i, rfl⟩ := toI_int hm he
  exact ⟨i, rel_int r1, hQ i I1 φ1 S1 H1 e1 s1 en1 h1⟩
/-- the end of a slice's walk: the frozen and the new one -/
def slK (G : Gx) (fr : Bool) (I : Hp) (φ : List Addr) (H : Hp) (S' : Sto) (w : W) (Q : VK) : Prop := if fr then ∃ xs, w = .lst xs ∧ KF G I φ H S' xs Q else KE G I φ H S' w Q
theorem slK.ext {fr : Bool} {w : W} {Q : VK} (e : Ext I φ H I1 φ1 H1) (h : slK G fr I φ H S w Q) : slK G fr I1 φ1 H1 S w Q := by
  cases fr with
  | true => exact let ⟨xs, hw, k⟩ := h; ⟨xs, hw, k.ext e⟩
  | false => exact KE.ext e h
theorem sl_end {fr : Bool} {x : V} {w z : W} {lo hi : Option Int} {Q : VK} (s : Sim G I φ S H) (r : Rel G I φ z x) (h : sliceSem S z lo hi = some w) (k : slK G fr I φ H S w Q) : rSlice G fr x lo hi H Q :=
  ⟨I, φ, S, z, w, s, r, h, by cases fr <;> exact k⟩
/-- either reading -/
def tG (G : Gx) (cf : CallF) (Ex : L2.St → XK) (fr : Bool) (m : E) : TE := fun σ H Q => ∃ I φ ρ S, Sim G I φ S H ∧ Envs G I φ ρ σ ∧ Post G (Ex σ) I φ H (ev cf m ρ S) fun w S' => slK G fr I φ H S' w Q
theorem slice_tt (fr : Bool) {m ml mh : E} (hl : isToI ml = true) (hh : isToI mh = true) : ∀ σ H Q, tG G cf Ex fr (.op (.slice true true) [m, ml, mh]) σ H Q → tSl (rSlice G fr) (tE G cf Ex m) (tPart (tE G cf Ex ml)) (tPart (tE G cf Ex mh)) σ H Q := by
  rintro σ H Q ⟨I, φ, ρ, S, s, en, h⟩
  simp only [ev] at h
  refine tE_mono ?_ (ops_step s en h)
  rintro v H1 ⟨I1, φ1, S1, w, e1, s1, en1, r1, he, h1⟩
  refine part_step hl s1 en1 h1 fun i I2 φ2 S2 H2 e2 s2 en2 h2 => part_step hh s2 en2 h2 fun j I3 φ3 S3 H3 e3 s3 en3 h3 => ?_
  simp only [evs_nil, bind_ok] at h3
  obtain ⟨z, hz, k⟩ := Post.ofO h3
  exact sl_end s3 ((r1.ext e2).ext e3) (by simpa [opSem, partsOf] using hz) (slK.ext ((e1.trans e2).trans e3) k)
theorem slice_tf (fr : Bool) {m ml : E} (hl : isToI ml = true) : ∀ σ H Q, tG G cf Ex fr (.op (.slice true false) [m, ml]) σ H Q → tSl (rSlice G fr) (tE G cf Ex m) (tPart (tE G cf Ex ml)) tNoPart σ H Q := by
  rintro σ H Q ⟨I, φ, ρ, S, s, en, h⟩
  simp only [ev] at h
  refine tE_mono ?_ (ops_step s en h)
  rintro v H1 ⟨I1, φ1, S1, w, e1, s1, en1, r1, he, h1⟩
  refine part_step hl s1 en1 h1 fun i I2 φ2 S2 H2 e2 s2 en2 h2 => ?_
  simp only [evs_nil, bind_ok] at h2
  obtain ⟨z, hz, k⟩ := Post.ofO h2
  exact sl_end s2 (r1.ext e2) (by simpa [opSem, partsOf] using hz) (slK.ext (e1.trans e2) k)
theorem slice_ft (fr : Bool) {m mh : E} (hh : isToI mh = true) : ∀ σ H Q, tG G cf Ex fr (.op (.slice false true) [m, mh]) σ H Q → tSl (rSlice G fr) (tE G cf Ex m) tNoPart (tPart (tE G cf Ex mh)) σ H Q := by
  rintro σ H Q ⟨I, φ, ρ, S, s, en, h⟩
  simp only [ev] at h
  refine tE_mono ?_ (ops_step s en h)
  rintro v H1 ⟨I1, φ1, S1, w, e1, s1, en1, r1, he, h1⟩
  show tPart (tE G cf Ex mh) σ H1 (fun u H3 => rSlice G fr v none u H3 Q)
  refine part_step hh s1 en1 h1 fun i I2 φ2 S2 H2 e2 s2 en2 h2 => ?_
  simp only [evs_nil, bind_ok] at h2
  obtain ⟨z, hz, k⟩ := Post.ofO h2
  exact sl_end s2 (r1.ext e2) (by simpa [opSem, partsOf] using hz) (slK.ext (e1.trans e2) k)
theorem slice_ff (fr : Bool) {m : E} : ∀ σ H Q, tG G cf Ex fr (.op (.slice false false) [m]) σ H Q → tSl (rSlice G fr) (tE G cf Ex m) tNoPart tNoPart σ H Q := by
  rintro σ H Q ⟨I, φ, ρ, S, s, en, h⟩
  simp only [ev] at h
  refine tE_mono ?_ (ops_step s en h)
  rintro v H1 ⟨I1, φ1, S1, w, e1, s1, en1, r1, he, h1⟩
  simp only [evs_nil, bind_ok] at h1
  obtain ⟨z, hz, k⟩ := Post.ofO h1
  exact sl_end s1 r1 (by simpa [opSem, partsOf] using hz) (slK.ext e1 k)
/-- what an operation asks of its operands' terms -/
def opAux : Op → List E → Bool
  | .slice _ _, _ :: r => r.all isToI
  | .slice _ _, [] => false
  | _, _ => true
theorem tG_E {m : E} : ∀ σ H Q, tE G cf Ex m σ H Q → tG G cf Ex false m σ H Q := fun _ _ _ h => h
theorem tG_F {m : E} : ∀ σ H Q, tF G cf Ex m σ H Q → tG G cf Ex true m σ H Q := fun _ _ _ h => h
theorem sliceOk (hk : X.K = G.K) {o : Op} {a : Expr} {lo hi : Option Expr} {p2 pos : Pos} {es : List Expr} {ms : List E} (fr : Bool) (h : opSyn sc o (.Subscript a (.Slice lo hi none p2) pos) = some es) (p : PEs G cf Ex X ms es) (ha : opAux o ms = true) :
    PE X (.Subscript a (.Slice lo hi none p2) pos) (tG G cf Ex fr (.op o ms)) := by
  simp only [opSyn] at h
  split at h
  · cases h
    obtain ⟨m, rfl, _, h1⟩ := p.one_inv
    exact PE_imp (pe_slice (sr_slice hk fr) h1 po_none po_none) (slice_ff fr)
  · cases h
    obtain ⟨m, ml, rfl, _, h1, _, h2⟩ := p.two_inv
    simp [opAux] at ha
    exact PE_imp (pe_slice (sr_slice hk fr) h1 (po_some h2) po_none) (slice_tf fr ha)
  · cases h
    obtain ⟨m, ml, rfl, _, h1, _, h2⟩ := p.two_inv
    simp [opAux] at ha
    exact PE_imp (pe_slice (sr_slice hk fr) h1 po_none (po_some h2)) (slice_ft fr ha)
  · cases h
    obtain ⟨m, ml, mh, rfl, _, h1, _, h2, _, h3⟩ := p.three_inv
    simp [opAux] at ha
    exact PE_imp (pe_slice (sr_slice hk fr) h1 (po_some h2) (po_some h3)) (slice_tt fr ha.1 ha.2)
  · cases h
theorem KE_tupD {ws : List W} {us : List V} {Q : VK} (s : Sim G I φ S H) (r : Rels G I φ ws us) (k : KE G I φ H S (.tup ws) Q) (p : Addr) (hp : H p = none) : Q (.ref p) (upd H p (.tup us)) := k.tup s hp r
theorem all_cons {a : Expr} {as : List Expr} (h : (a :: as).all plainE = true) : plainE a = true ∧ as.all plainE = true := by simpa using h
/-- the operations that tell a new list -/
def freshOp : Op → Bool
  | .add => true
  | .mul => true
  | .slice _ _ => true
  | .list => true
  | .sorted => true
  | .lstD => true
  | .rangeL tp _ => !tp
  | _ => false

theorem rels_rg (a n : Int) : Rels G I φ ((List.range (n - a).toNat).map fun (k : Nat) => W.int (a + k)) (rgV a n) := by
  unfold rgV
  have : ∀ l : List Nat, Rels G I φ (l.map fun (k : Nat) => W.int (a + k)) (l.map fun i => V.int (a + (i : Nat))) := by
    intro l
    induction l with
    | nil => exact .nil
    | cons k l ih => exact .cons rfl ih
  exact this _
theorem rgOk_lim {a n : Int} (h1 : -(LIM : Int) < n) (h2 : n < LIM) (h3 : -(LIM : Int) < a) (h4 : a < LIM) : RgOk a n := by
  unfold RgOk
  simp only [LIM] at *
  omega
/-- what is asked of the bounds -/
theorem rg_sem {tp two : Bool} {ws : List W} {S : Sto} {w : W} (h : opSem (.rangeL tp two) ws S = some w) : ∃ a n, (if two then ws = [.int a, .int n] else a = 0 ∧ ws = [.int n]) ∧ RgOk a n ∧ w = rgW tp a n := by
  cases two with
  | false =>
    match ws, h with
    | [.int n], h =>
      simp only [opSem] at h
      split at h
      · rename_i hc
        simp only [decide_eq_true_eq] at hc
        cases h
        exact ⟨0, n, ⟨rfl, rfl⟩, rgOk_lim (by omega) (by omega) (by decide) (by decide), rfl⟩
      · cases h
  | true =>
    match ws, h with
    | [.int a, .int n], h =>
      simp only [opSem] at h
      split at h
      · rename_i hc
        simp only [Bool.and_eq_true, decide_eq_true_eq] at hc
        cases h
        exact ⟨a, n, rfl, rgOk_lim (by omega) (by omega) (by omega) (by omega), rfl⟩
      · cases h
/-- the bounds' reading -/
theorem prg_ok {f : PySem.Str} {two : Bool} {es : List Expr} {p pos : Pos} {ms : List E} (hf : f = "range") (hg : isGl sc f = true) (x : XOk T G cf Ex n sc X) (pp : PEs G cf Ex X ms es) (h : two = false ∧ es.length = 1 ∨ two = true ∧ es.length = 2) :
    PRg X (.Call (.Name f p) es [] pos) (fun σ H Q => tA G cf Ex ms σ H fun vs H1 => ∃ a b, (if two then vs = [.int a, .int b] else a = 0 ∧ vs = [.int b]) ∧ Q a b H1) := by
  subst hf
  rcases h with ⟨rfl, hl⟩ | ⟨rfl, hl⟩
  · match es, hl with
    | [e], _ =>
      obtain ⟨m, rfl, p1, h1⟩ := pp.one_inv
      intro pins s σ H Q I q
      refine prg_1 (x.gl hg) (x.blt _ (by simp [bltNames])) h1 (star_plain p1) pins s σ H Q I ?_
      obtain ⟨I2, φ, ρ, S, s2, en, hq⟩ := q
      simp only [evs] at hq
      refine tE_step s2 en (hq.bind.imp fun w S1 _ h2 => ?_)
      intro v I1 φ1 H1 e1 s1 r1
      simp only [Rs.bind] at h2
      obtain ⟨a, b, ⟨rfl, hv⟩, q⟩ := h2 [v] I1 φ1 H1 e1 s1 (Rels.one r1)
      cases hv
      exact ⟨b, rfl, q⟩
  · match es, hl with
    | [e, e'], _ =>
      obtain ⟨m, m', rfl, p1, h1, p2, h2⟩ := pp.two_inv
      intro pins s σ H Q I q
      refine prg_2 (x.gl hg) (x.blt _ (by simp [bltNames])) h1 h2 (star_plain p1) (star_plain p2) (star_none (by simp [p2])) pins s σ H Q I ?_
      obtain ⟨I2, φ, ρ, S, s2, en, hq⟩ := q
      simp only [evs] at hq
      refine tE_step s2 en (hq.bind.imp fun w S1 _ h3 => ?_)
      intro v I1 φ1 H1 e1 s1 r1
      refine tE_step s1 (en.ext e1) (h3.bind.bind.ext e1 fun w2 S2 _ h4 => ?_)
      intro u I3 φ3 H3 e3 s3 r3
      simp only [Rs.bind] at h4
      obtain ⟨a, b, hv, q⟩ := h4 [v, u] I3 φ3 H3 (e1.trans e3) s3 (.cons (r1.ext e3) (Rels.one r3))
      have hv : [v, u] = [V.int a, V.int b] := hv
      cases hv
      exact ⟨a, b, rfl, rfl, q⟩
theorem rg_parts {tp two : Bool} {f : PySem.Str} {a : Expr} {as es : List Expr} (h : rgSyn sc tp two f a as = some es) : as = [] ∧ f = rgNm tp ∧ isGl sc f = true ∧ ∃ g p pos, a = .Call (.Name g p) es [] pos ∧ g = ("range" : PySem.Str) ∧ isGl sc g = true ∧ (two = false ∧ es.length = 1 ∨ two = true ∧ es.length = 2) := by
  unfold rgSyn at h
  split at h
  · split at h
    · rename_i hc
      simp only [Bool.and_eq_true, decide_eq_true_eq] at hc
      obtain ⟨⟨⟨h1, h2⟩, h3⟩, h4⟩ := hc
      split at h
      · cases h; exact ⟨rfl, h1, h2, _, _, _, rfl, h3, h4, .inl ⟨rfl, rfl⟩⟩
      · cases h; exact ⟨rfl, h1, h2, _, _, _, rfl, h3, h4, .inr ⟨rfl, rfl⟩⟩
      · cases h
    · cases h
  · cases h
theorem rg_val {two : Bool} {a n : Int} {ws : List W} {vs : List V} (h : if two then ws = [.int a, .int n] else a = 0 ∧ ws = [.int n]) (r : Rels G I φ ws vs) : if two then vs = [V.int a, V.int n] else a = 0 ∧ vs = [V.int n] := by
  cases two with
  | false =>
    obtain ⟨rfl, rfl⟩ := h
    obtain ⟨y, rfl, ry⟩ := rels_one r
    obtain rfl := rel_int ry
    exact ⟨rfl, rfl⟩
  | true =>
    have h : ws = [.int a, .int n] := h
    subst h
    obtain ⟨y, y', rfl, ry, ry'⟩ := rels_two r
    obtain rfl := rel_int ry
    obtain rfl := rel_int ry'
    rfl
theorem rgOkF {o : Op} {tp two : Bool} {f : PySem.Str} {a : Expr} {as es : List Expr} {ms : List E} {p pos : Pos} (hf : freshOp o = true) (hr : rgOf o = some (tp, two)) (h : rgSyn sc tp two f a as = some es) (x : XOk T G cf Ex n sc X) (hcm : T.cm = true) (pp : PEs G cf Ex X ms es) :
    PE X (.Call (.Name f p) (a :: as) [] pos) (tF G cf Ex (.op o ms)) := by
  cases o <;> cases hr
  obtain ⟨rfl, h1, h2, g, p2, pos2, rfl, h3, h4, h5⟩ := rg_parts h
  cases tp with
  | true => cases hf
  | false =>
    have h1 : f = ("list" : PySem.Str) := h1
    subst h1
    refine PE_imp (pe_listRg (x.calm hcm) (x.gl h2) (x.blt _ (by simp [bltNames])) (prg_ok h3 h4 x pp h5) (by rfl)) fun σ H Q q => ?_
    obtain ⟨I2, φ, ρ, S, s2, en, hq⟩ := q
    simp only [ev] at hq
    refine ⟨I2, φ, ρ, S, s2, en, hq.bind.imp fun ws S1 _ hk => ?_⟩
    intro vs I1 φ1 H1 e1 s1 r1
    obtain ⟨w, hw, xs, rfl, k⟩ := Post.ofO hk
    obtain ⟨a, n, hws, hok, hwr⟩ := rg_sem hw
    refine ⟨a, n, rg_val hws r1, hok, fun q hqn => ?_⟩
    have : xs = (List.range (n - a).toNat).map fun (k : Nat) => W.int (a + k) := by
      unfold rgW at hwr
      rw [if_neg Bool.false_ne_true] at hwr
      injection hwr
    subst this
    refine (KF.ext e1 k).here s1 hqn (rels_rg a n) ?_
    rw [rgV_length]
    exact hok.2.2.2.2
theorem rgOk {o : Op} {tp two : Bool} {f : PySem.Str} {a : Expr} {as es : List Expr} {ms : List E} {p pos : Pos} (hr : rgOf o = some (tp, two)) (h : rgSyn sc tp two f a as = some es) (x : XOk T G cf Ex n sc X) (hcm : T.cm = true) (pp : PEs G cf Ex X ms es) :
    PE X (.Call (.Name f p) (a :: as) [] pos) (tE G cf Ex (.op o ms)) := by
  cases tp with
  | false =>
    have hf : freshOp o = true := by cases o <;> cases hr; rfl
    refine PE_imp (rgOkF hf hr h x hcm pp) (tE_tF fun ρ S w S' he => ?_)
    cases o <;> cases hr
    simp only [ev] at he
    cases hv : evs cf ms ρ S with
    | ok ws S1 =>
      rw [hv] at he
      simp only [Rs.bind] at he
      cases ho : opSem (.rangeL false two) ws S1 with
      | none => rw [ho] at he; cases he
      | some u =>
        rw [ho] at he
        cases he
        obtain ⟨a, n, _, _, hw⟩ := rg_sem ho
        exact ⟨_, hw⟩
    | ex c S1 => rw [hv] at he; cases he
    | bad => rw [hv] at he; cases he
  | true =>
    cases o <;> cases hr
    obtain ⟨rfl, h1, h2, g, p2, pos2, rfl, h3, h4, h5⟩ := rg_parts h
    have h1 : f = ("tuple" : PySem.Str) := h1
    subst h1
    refine PE_imp (pe_tupRg (x.calm hcm) (x.gl h2) (x.blt _ (by simp [bltNames])) (prg_ok h3 h4 x pp h5) (by rfl)) fun σ H Q q => ?_
    obtain ⟨I2, φ, ρ, S, s2, en, hq⟩ := q
    simp only [ev] at hq
    refine ⟨I2, φ, ρ, S, s2, en, hq.bind.imp fun ws S1 _ hk => ?_⟩
    intro vs I1 φ1 H1 e1 s1 r1
    obtain ⟨w, hw, k⟩ := Post.ofO hk
    obtain ⟨a, n, hws, hok, rfl⟩ := rg_sem hw
    refine ⟨a, n, rg_val hws r1, hok, fun q hqn => ?_⟩
    exact (KE.ext e1 k).tup s1 hqn (rels_rg a n)
theorem isiOk {o : Op} {c : String} {a : Expr} {m : E} {p1 p2 pos : Pos} (hc : isiOf o = some c) (x : XOk T G cf Ex n sc X) (g1 : isGl sc "isinstance" = true) (g2 : isGl sc (PySem.Str.ofString c) = true) (pl : plainE a = true) (ha : PE X a (tE G cf Ex m)) :
    PE X (.Call (.Name "isinstance" p1) [a, .Name (PySem.Str.ofString c) p2] [] pos) (tE G cf Ex (.op o [m])) := by
  obtain ⟨t, rfl, ht, hb, hv, hn, hd⟩ := isiOf_ok hc
  refine PE_imp (pe_callB (call_isi (X := X)) (x.gl g1) (x.blt _ (by simp [bltNames])) (by decide +kernel) (pa_cons ha (pa_cons (pe_bltn (v := .ty c) (x.gl g2) (x.blt _ hb) hv rfl hn hd) pa_nil (by rfl)) (star_plain pl)) (by decide) (by decide) (star_plain pl) (by rfl)) ?_
  intro σ H Q h
  refine tUn_of (fun y H Q => rIsi X.K [y, .ty c] H Q) ?_ σ H Q h
  rintro y H Q ⟨I, φ, S, ws, w, s, rs, e, k⟩
  obtain ⟨a, rfl, r⟩ := rels1 rs
  simp only [opSem, Option.map_eq_some_iff] at e
  obtain ⟨b, hb2, rfl⟩ := e
  obtain ⟨T, C, ty, kb, hC⟩ := isi_ty (K := X.K) s r hb2
  have : C = c := by cases t <;> simp_all
  subst this
  exact ⟨y, .ty C, .type T, .type C, b, rfl, .ty C, ty, kit_ty kb, k.here s rfl⟩
theorem opOk {o : Op} {e : Expr} {es : List Expr} {ms : List E} (h : opSyn sc o e = some es) (x : XOk T G cf Ex n sc X) (hcm : calmOp o = true → T.cm = true) (p : PEs G cf Ex X ms es) (hx : opAux o ms = true) : PE X e (tE G cf Ex (.op o ms)) := by
  have h0 := h
  unfold opSyn at h
  split at h
  · split at h
    · rename_i hb
      cases h
      obtain ⟨m, m', rfl, _, h1, _, h2⟩ := p.two_inv
      exact PE_imp (pe_op (binTab_ok (of_decide_eq_true hb)) h1 h2) (tOp_of _ fun _ _ _ _ h => h)
    · cases h
  · split at h
    · cases h
      obtain ⟨m, rfl, _, h1⟩ := p.one_inv
      exact PE_imp (pe_un or_neg h1) (tUn_of _ fun _ _ _ h => h)
    · cases h
  · split at h
    · split at h
      · cases h
        obtain ⟨m, rfl, _, h1⟩ := p.one_inv
        exact (isn_ok or_isnone h1 rfl).1
      · cases h
    · split at h
      · cases h
        obtain ⟨m, rfl, _, h1⟩ := p.one_inv
        exact (isn_ok or_notnone h1 rfl).1
      · cases h
    · split at h
      · rename_i hb
        cases h
        obtain ⟨m, m', rfl, _, h1, p2, h2⟩ := p.two_inv
        exact PE_imp (pe_cmpR (cmpTab_ok (of_decide_eq_true hb) x.hu) h1 h2 (marks_ok p2)) (tOp_of _ fun _ _ _ _ h => h)
      · cases h
  · exact PE_imp (sliceOk x.hk false h0 p hx) tG_E
  · split at h
    · cases h
      obtain ⟨m, m', rfl, _, h1, p2, h2⟩ := p.two_inv
      exact PE_imp (pe_ix (or_idx x.hk (by have := x.hu; omega)) h1 h2 (plainIx_ok p2)) (tOp_of _ fun _ _ _ _ h => h)
    · cases h
  · split at h
    · rename_i tp two hr
      exact rgOk hr h x (hcm (by cases o <;> first | (cases hr; done) | rfl)) p
    · split at h
      · rename_i c hc
        split at h
        · split at h
          · rename_i hb
            cases h
            simp only [Bool.and_eq_true, decide_eq_true_eq] at hb
            obtain ⟨⟨⟨rfl, g1⟩, rfl⟩, g2⟩ := hb
            obtain ⟨m, rfl, p1, h1⟩ := p.one_inv
            exact isiOk hc x g1 g2 p1 h1
          · cases h
        · cases h
      · split at h
        · rename_i g v hc
          split at h
          · rename_i hb
            cases h
            simp only [Bool.and_eq_true, decide_eq_true_eq] at hb
            exact PE_imp (tCall_ok hc hb.1 hb.2 x hcm (callTab_ok (G := G) x.hk hc (fun z => x.calm (hcm z)) x.hu).1 p.all p.pa) tCB_of
          · cases h
        · cases h
  · split at h
    · cases h
      refine PE_imp (pe_tup p.pa) fun σ H Q ⟨I, φ, ρ, S, s, en, h⟩ => ?_
      simp only [ev] at h
      refine ⟨I, φ, ρ, S, s, en, h.bind.imp fun ws S1 _ h1 => ?_⟩
      intro vs I1 φ1 H1 e1 s1 r1
      obtain ⟨w, hw, k⟩ := Post.ofO h1
      simp only [opSem] at hw
      split at hw
      · rename_i hl
        cases hw
        exact ⟨by rw [r1.length]; exact Nat.le_of_lt (lim_ok hl), fun q hq => (KE.ext e1 k).tup s1 hq r1⟩
      · cases hw
    · cases h
  · split at h
    · cases h
      refine PE_imp (pe_lst p.pa) fun σ H Q ⟨I, φ, ρ, S, s, en, h⟩ => ?_
      simp only [ev] at h
      refine ⟨I, φ, ρ, S, s, en, h.bind.imp fun ws S1 _ h1 => ?_⟩
      intro vs I1 φ1 H1 e1 s1 r1
      obtain ⟨w, hw, k⟩ := Post.ofO h1
      simp only [opSem] at hw
      split at hw
      · rename_i hl
        cases hw
        have hl' : vs.length ≤ sizeLine := by rw [r1.length]; exact Nat.le_of_lt (lim_ok hl)
        exact ⟨hl', fun q hq => (KE.ext e1 k).toKF.here s1 hq r1 hl'⟩
      · cases hw
    · cases h
  · cases h
/-- the same as a test -/
theorem opOkT {o : Op} {e : Expr} {es : List Expr} {ms : List E} (h : opSyn sc o e = some es) (x : XOk T G cf Ex n sc X) (hcm : calmOp o = true → T.cm = true) (p : PEs G cf Ex X ms es) (hx : opAux o ms = true) : PT X e (tT G cf Ex (.op o ms)) := by
  by_cases ht : truE e = true
  · exact tru_ok (opOk h x hcm p hx) ht
  · unfold opSyn at h
    split at h
    · exact absurd rfl ht
    · exact absurd rfl ht
    · split at h
      · split at h
        · cases h
          obtain ⟨m, rfl, _, h1⟩ := p.one_inv
          exact pe_pt (isn_ok or_isnone h1 rfl).2
        · cases h
      · split at h
        · cases h
          obtain ⟨m, rfl, _, h1⟩ := p.one_inv
          exact pe_pt (isn_ok or_notnone h1 rfl).2
        · cases h
      · split at h
        · rename_i hb
          cases h
          obtain ⟨m, m', rfl, _, h1, p2, h2⟩ := p.two_inv
          exact pe_pt (PT_imp (pt_cmpR (cmpTab_ok (of_decide_eq_true hb) x.hu) h1 h2 (marks_ok p2)) fun σ H Q h => tOp_of _ (fun _ _ _ _ h => h) σ H _ h)
        · cases h
    all_goals first | exact absurd rfl ht | cases h
theorem opOkF {o : Op} {e : Expr} {es : List Expr} {ms : List E} (hf : freshOp o = true) (h : opSyn sc o e = some es) (x : XOk T G cf Ex n sc X) (hcm : calmOp o = true → T.cm = true) (p : PEs G cf Ex X ms es) (hx : opAux o ms = true) : PE X e (tF G cf Ex (.op o ms)) := by
  have h0 := h
  unfold opSyn at h
  split at h
  · split at h
    · rename_i hb
      cases h
      obtain ⟨m, m', rfl, _, h1, _, h2⟩ := p.two_inv
      cases o <;> first | (cases hf; done) | (simp [binTab] at hb; done) | skip
      · simp [binTab] at hb
        subst hb
        exact PE_imp (pe_op or_addF h1 h2) (tOpF_of _ fun _ _ _ _ h => h)
      · simp [binTab] at hb
        subst hb
        exact PE_imp (pe_op or_mulF h1 h2) (tOpF_of _ fun _ _ _ _ h => h)
    · cases h
  · split at h
    · cases hf
    · cases h
  · split at h
    · cases hf
    · cases hf
    · split at h
      · rename_i hb
        cases o <;> first | (cases hf; done) | (simp [cmpTab] at hb; done)
      · cases h
  · exact PE_imp (sliceOk x.hk true h0 p hx) tG_F
  · split at h
    · cases hf
    · cases h
  · split at h
    · rename_i tp two hr
      exact rgOkF hf hr h x (hcm (by cases o <;> first | (cases hr; done) | rfl)) p
    · split at h
      · rename_i c hc
        cases o <;> first | (cases hf; done) | (cases hc; done)
      · split at h
        · rename_i g v hc
          split at h
          · rename_i hb
            cases h
            simp only [Bool.and_eq_true, decide_eq_true_eq] at hb
            cases o <;> first | (cases hf; done) | (cases hc; done) | skip
            · cases hc
              exact PE_imp (tCall_ok (o := .list) rfl hb.1 hb.2 x hcm (or_listF x.hk) p.all p.pa) tCBF_of
            · cases hc
              exact PE_imp (tCall_ok (o := .sorted) rfl hb.1 hb.2 x hcm (or_sortedF (x.calm (hcm rfl)) (by have := x.hu; omega)) p.all p.pa) tCBF_of
          · cases h
        · cases h
  · split at h
    · cases hf
    · cases h
  · split at h
    · cases h
      refine PE_imp (pe_lst p.pa) fun σ H Q ⟨I, φ, ρ, S, s, en, h⟩ => ?_
      simp only [ev] at h
      refine ⟨I, φ, ρ, S, s, en, h.bind.imp fun ws S1 _ h1 => ?_⟩
      intro vs I1 φ1 H1 e1 s1 r1
      obtain ⟨w, hw, xs, rfl, k⟩ := Post.ofO h1
      simp only [opSem] at hw
      split at hw
      · rename_i hl
        cases hw
        have hl' : vs.length ≤ sizeLine := by rw [r1.length]; exact Nat.le_of_lt (lim_ok hl)
        exact ⟨hl', fun q hq => (KF.ext e1 k).here s1 hq r1 hl'⟩
      · cases hw
    · cases h
  · cases h
end Tw

/-! Tw, part J: methods of lists. -/
namespace Tw
open PySem PySem.Spec PyProof.Rows L2

variable {G : Gx} {I I' I1 I2 H H' H1 H2 : Hp} {φ φ' φ1 φ2 : List Addr} {S S' : Sto} {K : PySem.W.Frag} {X : Cx} {cf : CallF} {T : Tab} {Ex : L2.St → XK} {n : Nat} {sc : Scope}

def effTab : Eff → Option PySem.Str
  | .append => some "append"
  | .clear => some "clear"
  | .pop0 => some "pop"
  | .pop1 => some "pop"
  | .reverse => some "reverse"
  | .insert => some "insert"
  | .extend => some "extend"
  | .setd => some "setdefault"
  | .dpop => some "pop"
  | _ => none
def tyS : MTy → String
  | .list => "list"
  | .dict => "dict"
  | .str => "str"
theorem effTab_ok {o : Eff} {nm : PySem.Str} (h : effTab o = some nm) (hu : X.A.units + 65 < cLine) : ∃ id, PlainAttrs (tyS (effTy o)) ∧ Slot (tyS (effTy o)) nm id ∧ typeOf (.builtin id) = pure (.type "method_descriptor") ∧ MtR X id (fun x xs => rEff G o (x :: xs)) := by
  cases o <;> cases h
  · exact ⟨_, PySem.F.plainAttrs_list, PySem.F.slot_list_append, PySem.F.type_list_append, or_append⟩
  · exact ⟨_, PySem.F.plainAttrs_list, PySem.F.slot_list_extend, PySem.F.type_list_extend, or_extend⟩
  · exact ⟨_, PySem.F.plainAttrs_list, PySem.F.slot_list_clear, PySem.F.type_list_clear, or_clear⟩
  · exact ⟨_, PySem.F.plainAttrs_list, PySem.F.slot_list_pop, PySem.F.type_list_pop, or_pop0⟩
  · exact ⟨_, PySem.F.plainAttrs_list, PySem.F.slot_list_pop, PySem.F.type_list_pop, or_pop1⟩
  · exact ⟨_, PySem.F.plainAttrs_list, PySem.F.slot_list_insert, PySem.F.type_list_insert, or_insert⟩
  · exact ⟨_, PySem.F.plainAttrs_list, PySem.F.slot_list_reverse, PySem.F.type_list_reverse, or_reverse⟩
  · exact ⟨_, PySem.F.plainAttrs_dict, PySem.F.slot_dict_pop, PySem.F.type_dict_pop, or_dpop⟩
  · exact ⟨_, PySem.F.plainAttrs_dict, PySem.F.slot_dict_setdefault, PySem.F.type_dict_setdefault, or_setd (by omega)⟩
def mthTab : MTy → Op → Option PySem.Str
  | .list, .mIndex => some "index"
  | .list, .mCount => some "count"
  | .dict, .mGet2 => some "get"
  | .dict, .mGet1 => some "get"
  | .str, .mJoin => some "join"
  | .str, .mFind => some "find"
  | .str, .mStarts => some "startswith"
  | _, _ => none
theorem mthTab_ok {t : MTy} {o : Op} {nm : PySem.Str} (hk : X.K = G.K) (h : mthTab t o = some nm) (hu : X.A.units + 65 < cLine) : ∃ id, PlainAttrs (tyS t) ∧ Slot (tyS t) nm id ∧ typeOf (.builtin id) = pure (.type "method_descriptor") ∧ MtR X id (fun x xs => rOp G o (x :: xs)) := by
  cases t <;> cases o <;> cases h
  · exact ⟨_, PySem.F.plainAttrs_list, PySem.F.slot_list_index, PySem.F.type_list_index, or_index hu⟩
  · exact ⟨_, PySem.F.plainAttrs_list, PySem.F.slot_list_count, PySem.F.type_list_count, or_count⟩
  · exact ⟨_, PySem.F.plainAttrs_dict, PySem.F.slot_dict_get, PySem.F.type_dict_get, or_get2 (by omega)⟩
  · exact ⟨_, PySem.F.plainAttrs_dict, PySem.F.slot_dict_get, PySem.F.type_dict_get, or_get1 (by omega)⟩
  · exact ⟨_, PySem.F.plainAttrs_str, PySem.F.slot_str_join, PySem.F.type_str_join, or_join hk⟩
  · exact ⟨_, PySem.F.plainAttrs_str, PySem.F.slot_str_find, PySem.F.type_str_find, or_find⟩
  · exact ⟨_, PySem.F.plainAttrs_str, PySem.F.slot_str_startswith, PySem.F.type_str_startswith, or_starts⟩
theorem tyV_of {w : W} {v : V} {t : MTy} (s : Sim G I φ S H) (r : Rel G I φ w v) (h : tyOk t w S = true) : tyV K (tyS t) v H := by
  cases t with
  | list =>
    simp only [tyOk] at h
    cases w with
    | lst xs =>
      obtain ⟨a, vs, rfl, ha, _⟩ := r
      exact .inl ⟨rfl, vs, .inl (rd_mono s.same ha)⟩
    | ref m =>
      obtain ⟨a, rfl, ha⟩ := r
      simp only [lstOf] at h
      split at h
      · rename_i xs hS
        obtain ⟨vs, h1, _⟩ := s.cell m a _ ha hS
        exact .inl ⟨rfl, vs, .inl (.inl h1)⟩
      · cases h
    | _ => simp [lstOf] at h
  | dict =>
    simp only [tyOk] at h
    cases hd : dicOf S w with
    | none => rw [hd] at h; cases h
    | some q =>
      obtain ⟨b, ks, vs⟩ := q
      cases b with
      | false =>
        obtain ⟨a, kvs, rfl, ha, _, _⟩ := dicRelK s r hd
        exact .inr (.inr (.inl ⟨rfl, .inl ⟨kvs, ha⟩⟩))
      | true =>
        obtain ⟨a, kvs, rfl, ha, _, _⟩ := dicRelT s r hd
        exact .inr (.inr (.inl ⟨rfl, .inr ⟨kvs, ha⟩⟩))
  | str =>
    simp only [tyOk] at h
    split at h
    · obtain rfl : v = _ := r
      rfl
    · cases h
theorem few_ok {es : List Expr} {cpos : Pos} {env : PySem.Env} (h : es.all plainE = true) (hl : es.length < 30) :
    ((backTo cpos (starEach es env)).all (fun x => !x.1) && (backToKw cpos (keywordEach [] env)).all (fun x => x.1.isSome) && decide (es.length + ([] : List Keyword).length + (if ([] : List Keyword).isEmpty then 0 else 1) < 30)) = true := by
  have h1 : (backTo cpos (starEach es env)).all (fun x => !x.1) = true := by
    rw [List.all_eq_true]
    intro y hy
    have := star_none (env := env) (pos := cpos) h
    rw [List.any_eq_false] at this
    simpa using this y hy
  have h2 : (backToKw cpos (keywordEach [] env)).all (fun x => x.1.isSome) = true := rfl
  rw [h1, h2]
  simpa using hl
/-- o.m(..) -/
def mthSyn (nm : PySem.Str) (e : Expr) : Option (Expr × List Expr) :=
  match e with
  | .Call (.Attribute o f apos) es [] cpos => if decide (f = nm) && baseE o && (apos.endLine == cpos.line) && decide (es.length < 30) then some (o, es) else none
  | _ => none

theorem tA_nil {σ : L2.St} {Q : List V → Hp → Prop} (h : tA G cf Ex [] σ H Q) : Q [] H := by
  obtain ⟨I, φ, ρ, S, s, en, h⟩ := h
  rw [evs_nil] at h
  exact h [] I φ H (Ext.refl _ _ _) s rfl
theorem mthE {nm : PySem.Str} {e o : Expr} {es : List Expr} {id : String} {r : V → List V → Hp → VK → Prop} {a : E} {ms : List E} {ty : String} (h : mthSyn nm e = some (o, es)) (pat : PlainAttrs ty) (slot : Slot ty nm id) (hty : typeOf (.builtin id) = pure (.type "method_descriptor")) (hm : MtR X id r) (ho : PE X o (tE G cf Ex a)) (p : PEs G cf Ex X ms es) :
    PE X e fun σ H Q => tE G cf Ex a σ H fun x H1 => tyV X.K ty x H1 ∧ tA G cf Ex ms σ H1 fun xs H2 => r x xs H2 Q := by
  unfold mthSyn at h
  split at h
  · split at h
    · rename_i hc
      cases h
      simp only [Bool.and_eq_true, decide_eq_true_eq] at hc
      obtain ⟨⟨⟨rfl, hb⟩, hl⟩, hn⟩ := hc
      cases p with
      | nil =>
        refine PE_imp (pe_bm0 pat slot hty hm ho (base_ok hb) hl) fun σ H Q q => tE_mono ?_ q
        rintro v H1 ⟨h1, h2⟩
        exact ⟨h1, tA_nil h2⟩
      | cons hp h1 t =>
        have pa := (PEs.cons hp h1 t).pa
        have al := (PEs.cons hp h1 t).all
        exact pe_bm pat slot hty hm ho pa (base_ok hb) (few_ok al hn) hl (star_plain hp) (star_none t.all)
    · cases h
  · cases h
theorem mthOk {t : MTy} {o : Op} {nm : PySem.Str} {e b : Expr} {es : List Expr} {a : E} {ms : List E} (hn : mthTab t o = some nm) (h : mthSyn nm e = some (b, es)) (x : XOk T G cf Ex n sc X) (ho : PE X b (tE G cf Ex a)) (p : PEs G cf Ex X ms es) : PE X e (tE G cf Ex (.mth t o a ms)) := by
  obtain ⟨id, h0, h1, h2, h3⟩ := mthTab_ok (G := G) x.hk hn x.hu
  refine PE_imp (mthE h h0 h1 h2 h3 ho p) fun σ H Q ⟨I, φ, ρ, S, s, en, q⟩ => ?_
  simp only [ev] at q
  refine tE_step s en (q.bind.imp fun w S1 _ h1 => ?_)
  intro v I1 φ1 H1 e1 s1 r1
  split at h1
  · rename_i ht
    refine ⟨tyV_of s1 r1 ht, I1, φ1, ρ, S1, s1, en.ext e1, h1.bind.ext e1 fun ws S2 _ h2 => ?_⟩
    intro vs I2 φ2 H2 e2 s2 r2
    obtain ⟨w', hw, k⟩ := Post.ofO h2
    exact ⟨I2, φ2, S2, _, w', s2, .cons (r1.ext e2) r2, hw, KE.ext (e1.trans e2) k⟩
  · exact h1.elim
theorem effOk {o : Eff} {nm : PySem.Str} {e b : Expr} {es : List Expr} {a : E} {ms : List E} (hn : effTab o = some nm) (h : mthSyn nm e = some (b, es)) (x : XOk T G cf Ex n sc X) (ho : PE X b (tE G cf Ex a)) (p : PEs G cf Ex X ms es) : PE X e (tE G cf Ex (.eff o a ms)) := by
  obtain ⟨id, h0, h1, h2, h3⟩ := effTab_ok (G := G) (X := X) hn x.hu
  refine PE_imp (mthE h h0 h1 h2 h3 ho p) fun σ H Q ⟨I, φ, ρ, S, s, en, q⟩ => ?_
  simp only [ev] at q
  refine tE_step s en (q.bind.imp fun w S1 _ h1 => ?_)
  intro v I1 φ1 H1 e1 s1 r1
  split at h1
  · rename_i ht
    refine ⟨tyV_of s1 r1 ht, I1, φ1, ρ, S1, s1, en.ext e1, h1.bind.ext e1 fun ws S2 _ h2 => ?_⟩
    intro vs I2 φ2 H2 e2 s2 r2
    split at h2
    · rename_i w' S3 hw
      exact ⟨I2, φ2, S2, _, w', S3, s2, .cons (r1.ext e2) r2, hw, KE.ext (e1.trans e2) h2⟩
    · exact h2.elim
  · exact h1.elim

/-! ### what is read out of cells -/
/-- J holds what I1 holds and the live cells as they stand -/
structure Holds (b : Bool) (I1 : Hp) (φ1 : List Addr) (S1 : Sto) (H1 : Hp) (J : Hp) : Prop where
  i : b = false → ∀ a o, I1 a = some o → J a = some o
  t : ∀ a vs, I1 a = some (.tup vs) → J a = some (.tup vs)
  c : ∀ (m : Nat) (a : Addr) (o : Ob), φ1[m]? = some a → S1[m]? = some o → o ≠ .dead → J a = H1 a
theorem subL_keyl {b : Bool} {g : Nat → Option W} : ∀ {ks : List Key} {ks' : List W}, subL b g (ks.map kW) = some ks' → ks' = ks.map kW
  | [], _, e => by cases e; rfl
  | k :: r, _, e => by
    simp only [List.map_cons, subL, Option.bind_eq_some_iff, Option.map_eq_some_iff] at e
    obtain ⟨w', hw, ws', hws, rfl⟩ := e
    rw [subL_keyl hws]
    cases k <;> (simp only [kW, sub] at hw; cases hw; rfl)
theorem subL_keys {b : Bool} {g : Nat → Option W} : ∀ {kvs : List (Key × V)} {ks' : List W}, subL b g (kvs.map fun p => kW p.1) = some ks' → ks' = kvs.map fun p => kW p.1
  | [], _, e => by cases e; rfl
  | (k, v) :: r, _, e => by
    simp only [List.map_cons, subL, Option.bind_eq_some_iff, Option.map_eq_some_iff] at e
    obtain ⟨w', hw, ws', hws, rfl⟩ := e
    rw [subL_keys hws]
    cases k <;> (simp only [kW, sub] at hw; cases hw; rfl)
theorem subL_keysT {b : Bool} {g : Nat → Option W} : ∀ {kvs : List (List Key × V)} {ks' : List W}, subL b g (kvs.map fun p => W.tup (p.1.map kW)) = some ks' → ks' = kvs.map fun p => W.tup (p.1.map kW)
  | [], _, e => by cases e; rfl
  | (k, v) :: r, _, e => by
    simp only [List.map_cons, subL, Option.bind_eq_some_iff, Option.map_eq_some_iff] at e
    obtain ⟨w', hw, ws', hws, rfl⟩ := e
    rw [subL_keysT hws]
    simp only [sub, Option.map_eq_some_iff] at hw
    obtain ⟨ys, hy, rfl⟩ := hw
    rw [subL_keyl hy]
    rfl
mutual
theorem sub_rel {b : Bool} {g : Nat → Option W} {J : Hp} {ψ : List Addr} (hi : b = false → ∀ a o, I1 a = some o → J a = some o) (ht : ∀ a vs, I1 a = some (.tup vs) → J a = some (.tup vs)) (hg : ∀ m w a, g m = some w → φ1[m]? = some a → Rel G J ψ w (.ref a)) : ∀ {w w' : W} {v : V}, sub b g w = some w' → Rel G I1 φ1 w v → Rel G J ψ w' v
  | .non, _, _, e, h => by cases e; exact h
  | .bl _, _, _, e, h => by cases e; exact h
  | .int _, _, _, e, h => by cases e; exact h
  | .str _, _, _, e, h => by cases e; exact h
  | .tup xs, _, _, e, h => by
    simp only [sub, Option.map_eq_some_iff] at e
    obtain ⟨ys, hy, rfl⟩ := e
    obtain ⟨a, vs, rfl, ha, r⟩ := h
    exact ⟨a, vs, rfl, ht _ _ ha, subL_rel hi ht hg hy r⟩
  | .lst xs, _, _, e, h => by
    simp only [sub] at e
    split at e
    · cases e
    · rename_i hb
      have hi' := hi (by simpa using hb)
      simp only [Option.map_eq_some_iff] at e
      obtain ⟨ys, hy, rfl⟩ := e
      obtain ⟨a, vs, rfl, ha, r⟩ := h
      exact ⟨a, vs, rfl, hi' _ _ ha, subL_rel hi ht hg hy r⟩
  | .dic t ks xs, _, _, e, h => by
    simp only [sub] at e
    split at e
    · cases e
    · rename_i hb
      have hi' := hi (by simpa using hb)
      simp only [Option.bind_eq_some_iff, Option.map_eq_some_iff] at e
      obtain ⟨ks', hk, ys, hy, rfl⟩ := e
      cases t with
      | false =>
        obtain ⟨a, kvs, rfl, ha, rfl, r⟩ := h
        refine ⟨a, kvs, rfl, hi' _ _ ha, ?_, subL_rel hi ht hg hy r⟩
        exact subL_keys hk
      | true =>
        obtain ⟨a, kvs, rfl, ha, rfl, r⟩ := h
        refine ⟨a, kvs, rfl, hi' _ _ ha, ?_, subL_rel hi ht hg hy r⟩
        exact subL_keysT hk
  | .rcd c xs, _, _, e, h => by
    simp only [sub] at e
    split at e
    · cases e
    · rename_i hb
      have hi' := hi (by simpa using hb)
      simp only [Option.map_eq_some_iff] at e
      obtain ⟨ys, hy, rfl⟩ := e
      obtain ⟨a, dx, fs, rfl, ha, hf, r⟩ := h
      exact ⟨a, dx, fs, rfl, hi' _ _ ha, hf, subL_rel hi ht hg hy r⟩
  | .ref m, _, _, e, h => by
    obtain ⟨a, rfl, ha⟩ := h
    exact hg m _ a e ha
  | .exn c, _, _, e, h => by
    simp only [sub] at e
    split at e
    · cases e
    · rename_i hb
      have hi' := hi (by simpa using hb)
      cases e
      obtain ⟨a, rfl, ha, hk⟩ := h
      exact ⟨a, rfl, hi' _ _ ha, hk⟩
  | .klst ns, _, _, e, h => by
    simp only [sub] at e
    split at e
    · cases e
    · rename_i hb
      have hi' := hi (by simpa using hb)
      cases e
      obtain ⟨a, rfl, ha⟩ := h
      exact ⟨a, rfl, Same.seq hi' ha⟩
theorem subL_rel {b : Bool} {g : Nat → Option W} {J : Hp} {ψ : List Addr} (hi : b = false → ∀ a o, I1 a = some o → J a = some o) (ht : ∀ a vs, I1 a = some (.tup vs) → J a = some (.tup vs)) (hg : ∀ m w a, g m = some w → φ1[m]? = some a → Rel G J ψ w (.ref a)) : ∀ {ws ws' : List W} {vs : List V}, subL b g ws = some ws' → Rels G I1 φ1 ws vs → Rels G J ψ ws' vs
  | [], _, _, e, h => by cases e; exact h
  | w :: ws, _, _, e, h => by
    simp only [subL, Option.bind_eq_some_iff, Option.map_eq_some_iff] at e
    obtain ⟨w', hw, ws', hws, rfl⟩ := e
    obtain ⟨x, xs, rfl, r, rr⟩ := h
    exact ⟨x, xs, rfl, sub_rel hi ht hg hw r, subL_rel hi ht hg hws rr⟩
end
theorem lev_rel {b : Bool} {J : Hp} {ψ : List Addr} (s : Sim G I1 φ1 S H1) (hj : Holds b I1 φ1 S H1 J) : ∀ (k : Nat) (m : Nat) (w : W) (a : Addr), lev b S k m = some w → φ1[m]? = some a → Rel G J ψ w (.ref a)
  | 0, m, w, a, e, h => by cases e
  | k + 1, m, w, a, e, h => by
    simp only [lev, cellW] at e
    have ih := lev_rel (b := b) (ψ := ψ) s hj k
    split at e
    · rename_i xs hS
      simp only [Option.map_eq_some_iff] at e
      obtain ⟨ys, hy, rfl⟩ := e
      obtain ⟨vs, h1, r⟩ := s.cell m a _ h hS
      exact ⟨a, vs, rfl, (by rw [hj.c m a _ h hS (by simp)]; exact h1), subL_rel hj.i hj.t ih hy r⟩
    · rename_i t ks xs hS
      simp only [Option.bind_eq_some_iff, Option.map_eq_some_iff] at e
      obtain ⟨ks', hk, ys, hy, rfl⟩ := e
      cases t with
      | false =>
        obtain ⟨kvs, h1, rfl, r⟩ := s.cell m a _ h hS
        exact ⟨a, kvs, rfl, by rw [hj.c m a _ h hS (by simp)]; exact h1, subL_keys hk, subL_rel hj.i hj.t ih hy r⟩
      | true =>
        obtain ⟨kvs, h1, rfl, r⟩ := s.cell m a _ h hS
        exact ⟨a, kvs, rfl, by rw [hj.c m a _ h hS (by simp)]; exact h1, subL_keysT hk, subL_rel hj.i hj.t ih hy r⟩
    · rename_i c xs hS
      simp only [Option.map_eq_some_iff] at e
      obtain ⟨ys, hy, rfl⟩ := e
      obtain ⟨dx, fs, h1, hf, r⟩ := s.cell m a _ h hS
      exact ⟨a, dx, fs, rfl, by rw [hj.c m a _ h hS (by simp)]; exact h1, hf, subL_rel hj.i hj.t ih hy r⟩
    · cases e
theorem vw_rel {J : Hp} {ψ : List Addr} {w w' : W} {v : V} (s : Sim G I1 φ1 S H1) (hj : Holds false I1 φ1 S H1 J) (e : vw S w = some w') (r : Rel G I1 φ1 w v) : Rel G J ψ w' v := sub_rel hj.i hj.t (lev_rel s hj 3) e r
theorem vwB_rel {J : Hp} {ψ : List Addr} {w w' : W} {v : V} (s : Sim G I1 φ1 S H1) (hj : Holds true I1 φ1 S H1 J) (e : vwB S w = some w') (r : Rel G I1 φ1 w v) : Rel G J ψ w' v := sub_rel hj.i hj.t (lev_rel s hj 3) e r
theorem vws_rel {J : Hp} {ψ : List Addr} {ws ws' : List W} {vs : List V} (s : Sim G I1 φ1 S H1) (hj : Holds false I1 φ1 S H1 J) (e : vws S ws = some ws') (r : Rels G I1 φ1 ws vs) : Rels G J ψ ws' vs := subL_rel hj.i hj.t (lev_rel s hj 3) e r
end Tw

/-! Tw, part K: calls. -/
namespace Tw
open PySem PySem.Spec PyProof.Rows L2

variable {G : Gx} {I I' I1 I2 H H' H1 H2 : Hp} {φ φ' φ1 φ2 : List Addr} {S S' S1 : Sto} {K : PySem.W.Frag} {X : Cx} {cf : CallF} {T : Tab} {Ex : L2.St → XK} {n : Nat} {sc : Scope}

theorem same_refl (H : Hp) : Same H H := Same.refl _
open Classical in
/-- what is frozen and the live cells as they stand -/
noncomputable def snap (b : Bool) (I : Hp) (φ : List Addr) (S : Sto) (H : Hp) : Hp := fun a => if (I a).isSome = true then I a else if b = true ∧ ∃ (m : Nat) (o : Ob), φ[m]? = some a ∧ S[m]? = some o ∧ o ≠ .dead then H a else none
theorem snap_i {b : Bool} {a : Addr} {o : HO} (h : I a = some o) : snap b I φ S H a = some o := by
  unfold snap
  rw [if_pos (by rw [h]; rfl), h]
theorem snap_cases {b : Bool} {a : Addr} {o : HO} (h : snap b I φ S H a = some o) : I a = some o ∨ (b = true ∧ H a = some o ∧ ∃ (m : Nat) (o : Ob), φ[m]? = some a ∧ S[m]? = some o ∧ o ≠ .dead) := by
  unfold snap at h
  split at h
  · exact .inl h
  · split at h
    · rename_i q; exact .inr ⟨q.1, h, q.2⟩
    · cases h
theorem snap_sim {b : Bool} (s : Sim G I φ S H) : Sim G (snap b I φ S H) [] [] H where
  same := fun a o h => by
    rcases snap_cases h with h | ⟨_, h, _⟩
    · exact s.same _ _ h
    · exact h
  len := rfl
  nd := List.nodup_nil
  out := fun n a o h => by simp at h
  old := fun n a h => by simp at h
  cell := fun n a o h => by simp at h
theorem snap_holds (s : Sim G I φ S H) : Holds false I φ S H (snap true I φ S H) where
  i := fun _ a o h => snap_i h
  t := fun a o h => snap_i h
  c := fun m a o h h1 h2 => by
    unfold snap
    rw [if_neg (by rw [s.out m a o h h1 h2]; simp), if_pos ⟨rfl, m, o, h, h1, h2⟩]
mutual
theorem sub_rfree {b : Bool} {g : Nat → Option W} : ∀ {w w' : W}, rfree w = true → sub b g w = some w' → w' = w
  | .non, _, _, e => by cases e; rfl
  | .bl _, _, _, e => by cases e; rfl
  | .int _, _, _, e => by cases e; rfl
  | .str _, _, _, e => by cases e; rfl
  | .exn _, _, _, e => by
    simp only [sub] at e
    split at e
    · cases e
    · cases e; rfl
  | .klst _, _, _, e => by
    simp only [sub] at e
    split at e
    · cases e
    · cases e; rfl
  | .ref _, _, h, _ => by simp [rfree] at h
  | .tup xs, _, h, e => by
    simp only [sub, Option.map_eq_some_iff] at e
    obtain ⟨ys, hy, rfl⟩ := e
    simp only [rfree] at h
    rw [subL_rfree h hy]
  | .lst xs, _, h, e => by
    simp only [sub] at e
    split at e
    · cases e
    · simp only [Option.map_eq_some_iff] at e
      obtain ⟨ys, hy, rfl⟩ := e
      simp only [rfree] at h
      rw [subL_rfree h hy]
  | .dic t ks xs, _, h, e => by
    simp only [sub] at e
    split at e
    · cases e
    · simp only [Option.bind_eq_some_iff, Option.map_eq_some_iff] at e
      obtain ⟨ks', hk, ys, hy, rfl⟩ := e
      simp only [rfree, Bool.and_eq_true] at h
      rw [subL_rfree h.1 hk, subL_rfree h.2 hy]
  | .rcd c xs, _, h, e => by
    simp only [sub] at e
    split at e
    · cases e
    · simp only [Option.map_eq_some_iff] at e
      obtain ⟨ys, hy, rfl⟩ := e
      simp only [rfree] at h
      rw [subL_rfree h hy]
theorem subL_rfree {b : Bool} {g : Nat → Option W} : ∀ {ws ws' : List W}, rfreeL ws = true → subL b g ws = some ws' → ws' = ws
  | [], _, _, e => by cases e; rfl
  | w :: ws, _, h, e => by
    simp only [subL, Option.bind_eq_some_iff, Option.map_eq_some_iff] at e
    obtain ⟨w', hw, ws', hws, rfl⟩ := e
    simp only [rfreeL, Bool.and_eq_true] at h
    rw [sub_rfree h.1 hw, subL_rfree h.2 hws]
end
open Classical in
/-- what the caller holds frozen behind the call -/
noncomputable def after (I H H' : Hp) : Hp := fun a => if (I a).isSome = true then I a else if H a = none then H' a else if ∃ vs, H a = some (.tup vs) then H a else none
theorem none_isSome {o : Option HO} (h : ¬ o.isSome = true) : o = none := by cases o <;> simp_all
theorem after_sim (s : Sim G I φ S H) {b : Bool} (e : Ext (snap b I φ S H) [] H I' φ' H') (s' : Sim G I' φ' S' H') : Sim G (after I H H') φ S H' ∧ Ext I φ H (after I H H') φ H' := by
  have hI : ∀ a o, I a = some o → H' a = some o := fun a o h => s'.same _ _ (e.same _ _ (snap_i h))
  have sI : Same I (after I H H') := fun a o h => by unfold after; rw [if_pos (by rw [h]; rfl), h]
  have fr : ∀ a o, H a = some o → H' a = some o := fun a o h => e.frame a o (by simp) h
  refine ⟨⟨fun a o h => ?_, s.len, s.nd, fun m a o h h1 h2 => ?_, fun m a h => e.keep a (s.old m a h), fun m a o h h1 => ?_⟩, sI, ⟨[], by simp, by simp⟩, fun a o _ h => fr a o h, e.keep, fun a h => ?_⟩
  · unfold after at h
    split at h
    · exact hI a o h
    · split at h
      · exact h
      · split at h
        · exact fr a o h
        · cases h
  · unfold after
    rw [if_neg (by rw [s.out m a o h h1 h2]; simp), if_neg (fun z => by have := s.old m a h; rw [z] at this; cases this), if_neg]
    rintro ⟨vs, z⟩
    have := s.cell m a o h h1
    cases o with
    | lst _ => obtain ⟨_, z2, _⟩ := this; rw [z] at z2; cases z2
    | dic t _ _ =>
      cases t with
      | false => obtain ⟨_, z2, _⟩ := this; rw [z] at z2; cases z2
      | true => obtain ⟨_, z2, _⟩ := this; rw [z] at z2; cases z2
    | ins _ _ => obtain ⟨_, _, z2, _⟩ := this; rw [z] at z2; cases z2
    | dead => exact h2 rfl
  · exact (s.cell m a o h h1).mono sI (Pre.refl _) (fr a)
  · unfold after at h
    split at h
    · exact .inl (by assumption)
    · split at h
      · exact .inr (.inl (by assumption))
      · split at h
        · exact .inr (.inr (.inr (by assumption)))
        · cases h
/-- what comes of the callee, seen by the caller -/
theorem after_holds (s : Sim G I φ S H) {b : Bool} (e : Ext (snap b I φ S H) [] H I' φ' H') (s' : Sim G I' φ' S' H') : Holds b I' φ' S' H' (after I H H') := by
  have key : ∀ a o, I' a = some o → (b = true → ∃ vs, o = .tup vs) → after I H H' a = some o := fun a o h hb => by
    rcases e.fresh a (by rw [h]; rfl) with q | q | q | ⟨vs, q⟩
    · cases hs : snap b I φ S H a with
      | none => rw [hs] at q; cases q
      | some o' =>
        have := e.same _ _ hs
        rw [h] at this
        cases this
        rcases snap_cases hs with z | ⟨z, z2, m, ob, h1, h2, h3⟩
        · unfold after
          rw [if_pos (by rw [z]; rfl), z]
        · obtain ⟨vs, rfl⟩ := hb z
          have := s.cell m a ob h1 h2
          cases ob with
          | lst _ => obtain ⟨_, z3, _⟩ := this; rw [z2] at z3; cases z3
          | dic t _ _ =>
            cases t with
            | false => obtain ⟨_, z3, _⟩ := this; rw [z2] at z3; cases z3
            | true => obtain ⟨_, z3, _⟩ := this; rw [z2] at z3; cases z3
          | ins _ _ => obtain ⟨_, _, z3, _⟩ := this; rw [z2] at z3; cases z3
          | dead => exact absurd rfl h3
    · unfold after
      by_cases hi : (I a).isSome = true
      · cases hI : I a with
        | none => rw [hI] at hi; cases hi
        | some o' => have := s.same _ _ hI; rw [q] at this; cases this
      · rw [if_neg hi, if_pos q]
        exact s'.same _ _ h
    · simp at q
    · have h1 := e.frame a _ (by simp) q
      have h2 := s'.same _ _ h
      rw [h1] at h2
      cases h2
      unfold after
      by_cases hi : (I a).isSome = true
      · cases hI : I a with
        | none => rw [hI] at hi; cases hi
        | some o' => have := s.same _ _ hI; rw [q] at this; cases this; simp
      · rw [if_neg hi, if_neg (by rw [q]; simp), if_pos ⟨vs, q⟩]
        exact q
  refine ⟨fun hb a o h => key a o h (fun z => by rw [hb] at z; cases z), fun a vs h => key a _ h (fun _ => ⟨vs, rfl⟩), fun m a o h h1 h2 => ?_⟩
  obtain ⟨ψ, hψ, hn⟩ := e.pre
  have hH : H a = none := hn a (by rw [hψ] at h; exact List.mem_of_getElem? (by simpa using h))
  unfold after
  rw [if_neg (fun z => by
    cases hI : I a with
    | none => rw [hI] at z; cases z
    | some o' => have := s.same _ _ hI; rw [hH] at this; cases this), if_pos hH]
theorem Sim.kill (s : Sim G I φ S H) (m : Nat) : Sim G I φ (S.set m .dead) H where
  same := s.same
  len := by rw [List.length_set]; exact s.len
  nd := s.nd
  out := fun k a o h h1 h2 => by
    rw [List.getElem?_set] at h1
    split at h1
    · split at h1
      · cases h1; exact absurd rfl h2
      · cases h1
    · exact s.out k a o h h1 h2
  old := s.old
  cell := fun k a o h h1 => by
    rw [List.getElem?_set] at h1
    split at h1
    · split at h1
      · cases h1; exact True.intro
      · cases h1
    · exact s.cell k a o h h1
theorem shS_get {b : Bool} {g : Nat → Option W} : ∀ {S S'' : Sto}, shS b g S = some S'' → S''.length = S.length ∧ ∀ (m : Nat) (o' : Ob), S''[m]? = some o' → ∃ o, S[m]? = some o ∧ shO b g o = some o'
  | [], _, h => by cases h; exact ⟨rfl, fun m o' h => by simp at h⟩
  | o :: S, S'', h => by
    simp only [shS, Option.bind_eq_some_iff, Option.map_eq_some_iff] at h
    obtain ⟨o1, h1, S1, h2, rfl⟩ := h
    obtain ⟨l, q⟩ := shS_get h2
    refine ⟨by simp [l], fun m o' hm => ?_⟩
    cases m with
    | zero => simp at hm; subst hm; exact ⟨o, rfl, h1⟩
    | succ m => exact q m o' (by simpa using hm)
open Classical in
/-- what the caller holds frozen where the callee's cells became its own -/
noncomputable def moved (I : Hp) (H : Hp) (φ' : List Addr) (S' : Sto) (H' : Hp) : Hp := fun a => if ∃ (m : Nat) (o : Ob), φ'[m]? = some a ∧ S'[m]? = some o ∧ o ≠ .dead then none else after I H H' a
theorem move_sim (s : Sim G I φ S H) {b : Bool} (e : Ext (snap b I φ S H) [] H I' φ' H') (s' : Sim G I' φ' S' H') {S2 : Sto} (hS : shS b (shR S.length) S' = some S2) :
    Sim G (moved I H φ' S' H') (φ ++ φ') (S ++ S2) H' ∧ Ext I φ H (moved I H φ' S' H') (φ ++ φ') H' ∧ ∀ (w w' : W) (v : V), sub b (shR S.length) w = some w' → Rel G I' φ' w v → Rel G (moved I H φ' S' H') (φ ++ φ') w' v := by
  obtain ⟨s2, e2⟩ := after_sim s e s'
  have hh := after_holds s e s'
  obtain ⟨lS, gS⟩ := shS_get hS
  have pn : ∀ (m : Nat) (a : Addr), φ'[m]? = some a → H a = none := fun m a hm => by
    obtain ⟨ψ, hψ, hn⟩ := e.pre
    exact hn a (by rw [hψ] at hm; exact List.mem_of_getElem? (by simpa using hm))
  have jI : Same I (moved I H φ' S' H') := fun a o h => by
    unfold moved
    rw [if_neg]
    · exact e2.same _ _ h
    · rintro ⟨m, ob, hm, _, _⟩
      have := s.same _ _ h
      rw [pn m a hm] at this
      cases this
  have jle : ∀ a o, moved I H φ' S' H' a = some o → after I H H' a = some o := fun a o h => by
    unfold moved at h
    split at h
    · cases h
    · exact h
  have live : ∀ a o, I' a = some o → moved I H φ' S' H' a = after I H H' a := fun a o h => by
    unfold moved
    rw [if_neg]
    rintro ⟨m, ob, hm, h1, h2⟩
    rw [s'.out m a ob hm h1 h2] at h
    cases h
  have hi : b = false → ∀ a o, I' a = some o → moved I H φ' S' H' a = some o := fun hb a o h => by rw [live a o h]; exact hh.i hb a o h
  have ht : ∀ a vs, I' a = some (.tup vs) → moved I H φ' S' H' a = some (.tup vs) := fun a vs h => by rw [live a _ h]; exact hh.t a vs h
  have hix : ∀ (m : Nat) (a : Addr), φ'[m]? = some a → (φ ++ φ')[m + S.length]? = some a := fun m a h => by
    rw [List.getElem?_append_right (by rw [s.len]; omega), s.len]
    simpa using h
  have hg : ∀ m w a, shR S.length m = some w → φ'[m]? = some a → Rel G (moved I H φ' S' H') (φ ++ φ') w (.ref a) := fun m w a h1 h2 => by
    cases h1
    exact ⟨a, rfl, hix m a h2⟩
  refine ⟨⟨fun a o h => s2.same _ _ (jle a o h), by simp [s.len, s'.len, lS], ?_, ?_, ?_, ?_⟩, ⟨jI, ⟨φ', rfl, fun a ha => ?_⟩, e2.frame, e2.keep, fun a h => ?_⟩, fun w w' v h r => sub_rel hi ht hg h r⟩
  · rw [List.nodup_append]
    refine ⟨s.nd, s'.nd, fun a ha c hc z => ?_⟩
    subst z
    obtain ⟨m, hm⟩ := List.getElem?_of_mem ha
    obtain ⟨m', hm'⟩ := List.getElem?_of_mem hc
    have := s.old m a hm
    rw [pn m' a hm'] at this
    cases this
  · intro k a o hk ho hd
    by_cases hlt : k < φ.length
    · rw [List.getElem?_append_left hlt] at hk
      rw [List.getElem?_append_left (by rw [← s.len]; exact hlt)] at ho
      unfold moved
      split
      · rfl
      · exact s2.out k a o hk ho hd
    · rw [List.getElem?_append_right (by omega)] at hk
      rw [List.getElem?_append_right (by rw [← s.len]; omega), ← s.len] at ho
      obtain ⟨ob, h1, h2⟩ := gS _ _ ho
      unfold moved
      rw [if_pos]
      refine ⟨k - φ.length, ob, hk, h1, fun z => ?_⟩
      rw [z] at h2
      cases h2
      exact hd rfl
  · intro k a hk
    by_cases hlt : k < φ.length
    · rw [List.getElem?_append_left hlt] at hk
      exact s2.old k a hk
    · rw [List.getElem?_append_right (by omega)] at hk
      exact s'.old _ a hk
  · intro k a o hk ho
    by_cases hlt : k < φ.length
    · rw [List.getElem?_append_left hlt] at hk
      rw [List.getElem?_append_left (by rw [← s.len]; exact hlt)] at ho
      exact (s.cell k a o hk ho).mono jI ⟨φ', rfl⟩ (fun u hu => e.frame a u (by simp) hu)
    · rw [List.getElem?_append_right (by omega)] at hk
      rw [List.getElem?_append_right (by rw [← s.len]; omega), ← s.len] at ho
      obtain ⟨ob, h1, h2⟩ := gS _ _ ho
      have c := s'.cell _ a ob hk h1
      cases ob with
      | dead => cases h2; exact True.intro
      | lst xs =>
        simp only [shO, Option.map_eq_some_iff] at h2
        obtain ⟨ys, hy, rfl⟩ := h2
        obtain ⟨vs, c1, c2⟩ := c
        exact ⟨vs, c1, subL_rel hi ht hg hy c2⟩
      | ins c0 xs =>
        simp only [shO, Option.map_eq_some_iff] at h2
        obtain ⟨ys, hy, rfl⟩ := h2
        obtain ⟨dx, fs, c1, c2, c3⟩ := c
        exact ⟨dx, fs, c1, c2, subL_rel hi ht hg hy c3⟩
      | dic t ks vs =>
        simp only [shO, Option.bind_eq_some_iff, Option.map_eq_some_iff] at h2
        obtain ⟨ks', hk', ys, hy, rfl⟩ := h2
        cases t with
        | false =>
          obtain ⟨kvs, c1, rfl, c3⟩ := c
          exact ⟨kvs, c1, subL_keys hk', subL_rel hi ht hg hy c3⟩
        | true =>
          obtain ⟨kvs, c1, rfl, c3⟩ := c
          exact ⟨kvs, c1, subL_keysT hk', subL_rel hi ht hg hy c3⟩
  · obtain ⟨m, hm⟩ := List.getElem?_of_mem ha
    exact pn m a hm
  · cases hq : moved I H φ' S' H' a with
    | none => rw [hq] at h; cases h
    | some o => exact e2.fresh a (by rw [jle a o hq]; rfl)
theorem call_ok {E1 : XK} {m : Md} {f : Nat} {ws : List W} {vs : List V} {Q : VK} (s : Sim G I φ S H) (r : Rels G I φ ws vs) (h : Post G E1 I φ H (callSem cf m f ws S) fun w S' => KE G I φ H S' w Q) :
    ∃ I' φ' S' ws', Sim G I' φ' S' H ∧ Rels G I' φ' ws' vs ∧ Post G E1 I' φ' H (cf f ws' S') fun w S'' => KE G I' φ' H S'' w Q := by
  cases m with
  | shared => exact ⟨I, φ, S, ws, s, r, h⟩
  | pure =>
    simp only [callSem] at h
    split at h
    · exact h.elim
    · rename_i us hu
      have rr : Rels G (snap (!rfreeL ws) I φ S H) [] us vs := by
        cases hb : rfreeL ws with
        | true =>
          rw [subL_rfree hb hu]
          exact Rels.rfree hb (r.mono (fun a o h => snap_i h) (Pre.refl _))
        | false => exact vws_rel s (snap_holds s) hu r
      refine ⟨_, [], [], us, snap_sim s, rr, ?_⟩
      split at h
      · rename_i w S1 hc
        rw [hc]
        obtain ⟨w2, hw, k⟩ := Post.ofO h
        intro v I' φ' H' e s' rv
        obtain ⟨s2, e2⟩ := after_sim s e s'
        refine k v _ _ _ e2 s2 ?_
        have hh := after_holds s e s'
        cases hb : rfreeL ws with
        | true => rw [hb] at hh; rw [if_pos hb] at hw; exact vw_rel s' hh hw rv
        | false => rw [hb] at hh; rw [if_neg (by rw [hb]; simp)] at hw; exact vwB_rel s' hh hw rv
      · rename_i c S1 hc
        rw [hc]
        intro I' φ' H' e s'
        obtain ⟨s2, e2⟩ := after_sim s e s'
        exact h _ _ _ e2 s2
      · exact h.elim
  | adopt =>
    simp only [callSem] at h
    split at h
    · exact h.elim
    · rename_i us hu
      have rr : Rels G (snap (!rfreeL ws) I φ S H) [] us vs := by
        cases hb : rfreeL ws with
        | true =>
          rw [subL_rfree hb hu]
          exact Rels.rfree hb (r.mono (fun a o h => snap_i h) (Pre.refl _))
        | false => exact vws_rel s (snap_holds s) hu r
      refine ⟨_, [], [], us, snap_sim s, rr, ?_⟩
      split at h
      · rename_i m S1 hc
        rw [hc]
        split at h
        · rename_i xs hS
          split at h
          · rename_i ys hy
            intro v I' φ' H' e s' rv
            obtain ⟨a, rfl, ha⟩ := rv
            obtain ⟨s2, e2⟩ := after_sim s e s'
            have hh := after_holds s e (s'.kill m)
            obtain ⟨us', hl, rl⟩ := s'.cell m a _ ha hS
            have hHa : H a = none := by
              obtain ⟨ψ, hψ, hn⟩ := e.pre
              exact hn a (by rw [hψ] at ha; exact List.mem_of_getElem? (by simpa using ha))
            have hIa : I a = none := s.iNone hHa
            have naφ : a ∉ φ := s.notIn hHa
            have hI'a : I' a = none := s'.out m a _ ha hS (by simp)
            let J : Hp := fun b => if b = a then none else after I H H' b
            have jI : Same I J := fun b o q => by
              show (if b = a then none else after I H H' b) = some o
              rw [if_neg (fun z => by rw [z, hIa] at q; cases q)]
              exact e2.same _ _ q
            have jle : ∀ b o, J b = some o → after I H H' b = some o := fun b o q => by
              have q : (if b = a then none else after I H H' b) = some o := q
              split at q
              · cases q
              · exact q
            have hj : Holds (!rfreeL ws) I' φ' (S1.set m .dead) H' J := by
              refine ⟨fun hb b o q => ?_, fun b vs q => ?_, fun k b o q q1 q2 => ?_⟩
              · show (if b = a then none else after I H H' b) = some o
                rw [if_neg (fun z => by rw [z, hI'a] at q; cases q)]
                exact hh.i hb b o q
              · show (if b = a then none else after I H H' b) = _
                rw [if_neg (fun z => by rw [z, hI'a] at q; cases q)]
                exact hh.t b vs q
              · show (if b = a then none else after I H H' b) = _
                rw [if_neg (fun z => ?_)]
                · exact hh.c k b o q q1 q2
                · rw [z] at q
                  have hk : k < φ'.length := (List.getElem?_eq_some_iff.mp q).1
                  have : k = m := by
                    apply (List.getElem?_inj hk s'.nd).mp
                    rw [q, ha]
                  subst this
                  rw [List.getElem?_set] at q1
                  simp at q1
                  exact q2 q1.2.symm
            have rl2 : Rels G J (φ ++ [a]) ys us' := by
              cases hb : rfreeL ws with
              | true => rw [hb] at hj; rw [if_pos hb] at hy; exact vws_rel (s'.kill m) hj hy rl
              | false => rw [hb] at hj; rw [if_neg (by rw [hb]; simp)] at hy; exact subL_rel hj.i hj.t (lev_rel (s'.kill m) hj 3) hy rl
            refine h (.ref a) J (φ ++ [a]) H' ?_ ?_ ⟨a, rfl, by rw [← s.len]; simp⟩
            · exact ⟨jI, ⟨[a], rfl, by simpa using hHa⟩, e2.frame, e2.keep, fun b q => by
                cases hq : J b with
                | none => rw [hq] at q; cases q
                | some o => exact e2.fresh b (by rw [jle b o hq]; rfl)⟩
            · refine ⟨fun b o q => s2.same _ _ (jle b o q), by simp [s.len], ?_, ?_, ?_, ?_⟩
              · rw [List.nodup_append]
                refine ⟨s.nd, by simp, ?_⟩
                intro b hb c hc z
                have : c = a := by simpa using hc
                subst this
                subst z
                exact naφ hb
              · intro k b o q q1 q2
                show (if b = a then none else after I H H' b) = none
                by_cases hk : k < φ.length
                · rw [List.getElem?_append_left hk] at q
                  rw [List.getElem?_append_left (by rw [← s.len]; exact hk)] at q1
                  split
                  · rfl
                  · exact s2.out k b o q q1 q2
                · have : k = φ.length := by
                    have := (List.getElem?_eq_some_iff.mp q).1
                    simp at this
                    omega
                  subst this
                  simp at q
                  rw [if_pos q.symm]
              · intro k b q
                by_cases hk : k < φ.length
                · rw [List.getElem?_append_left hk] at q
                  exact s2.old k b q
                · have : k = φ.length := by
                    have := (List.getElem?_eq_some_iff.mp q).1
                    simp at this
                    omega
                  subst this
                  simp at q
                  rw [← q, hl]
                  rfl
              · intro k b o q q1
                by_cases hk : k < φ.length
                · rw [List.getElem?_append_left hk] at q
                  rw [List.getElem?_append_left (by rw [← s.len]; exact hk)] at q1
                  exact (s.cell k b o q q1).mono jI ⟨[a], rfl⟩ (fun u hu => e.frame b u (by simp) hu)
                · have : k = φ.length := by
                    have := (List.getElem?_eq_some_iff.mp q).1
                    simp at this
                    omega
                  subst this
                  simp at q
                  rw [s.len] at q1
                  simp at q1
                  subst q
                  subst q1
                  exact ⟨us', hl, rl2⟩
          · exact h.elim
        · exact h.elim
      · exact h.elim
      · rename_i c S1 hc
        rw [hc]
        intro I' φ' H' e s'
        obtain ⟨s2, e2⟩ := after_sim s e s'
        exact h _ _ _ e2 s2
      · exact h.elim
  | move =>
    simp only [callSem] at h
    split at h
    · exact h.elim
    · rename_i us hu
      have rr : Rels G (snap (!rfreeL ws) I φ S H) [] us vs := by
        cases hb : rfreeL ws with
        | true =>
          rw [subL_rfree hb hu]
          exact Rels.rfree hb (r.mono (fun a o h => snap_i h) (Pre.refl _))
        | false => exact vws_rel s (snap_holds s) hu r
      refine ⟨_, [], [], us, snap_sim s, rr, ?_⟩
      split at h
      · rename_i w S1 hc
        rw [hc]
        split at h
        · rename_i w' S2 hw hS
          intro v I' φ' H' e s' rv
          obtain ⟨s2, e2, q⟩ := move_sim s e s' hS
          exact h v _ _ _ e2 s2 (q w w' v hw rv)
        · exact h.elim
      · rename_i c S1 hc
        rw [hc]
        intro I' φ' H' e s'
        obtain ⟨s2, e2⟩ := after_sim s e s'
        exact h _ _ _ e2 s2
      · exact h.elim
end Tw

/-! Tw, part L: comprehensions. -/
namespace Tw
open PySem PySem.Spec PyProof.Rows L2

variable {G : Gx} {I I' I1 I2 H H' H1 H2 : Hp} {φ φ' φ1 φ2 : List Addr} {S S' S1 : Sto} {K : PySem.W.Frag} {X : Cx} {cf : CallF} {T : Tab} {Ex : L2.St → XK} {n : Nat} {sc : Scope}

def rm (H : Hp) (D : Addr) : Hp := fun a => if a = D then none else H a
theorem rm_ne {D a : Addr} (h : a ≠ D) : rm H D a = H a := by unfold rm; rw [if_neg h]
theorem rm_self {D : Addr} : rm H D D = none := by unfold rm; rw [if_pos rfl]
theorem rm_some {D a : Addr} {o : HO} (h : rm H D a = some o) : a ≠ D ∧ H a = some o := by
  unfold rm at h
  split at h
  · cases h
  · exact ⟨by assumption, h⟩
theorem rm_none {D : Addr} (h : H D = none) : rm H D = H := by
  funext a
  unfold rm
  split
  · rename_i z; rw [z, h]
  · rfl
theorem rm_upd {D : Addr} {o : HO} : rm (upd H D o) D = rm H D := by
  funext a
  by_cases h : a = D
  · rw [h, rm_self, rm_self]
  · rw [rm_ne h, rm_ne h]
    exact upd_ne h
theorem upd_rm {D : Addr} {o : HO} (h : H D = some o) : upd (rm H D) D o = H := by
  funext a
  by_cases z : a = D
  · rw [z, upd_same, h]
  · rw [upd_ne z, rm_ne z]
theorem Sim.plusD {D : Addr} (s : Sim G I φ S (rm H D)) : Sim G I φ S H where
  same := fun a o h => (rm_some (s.same _ _ h)).2
  len := s.len
  nd := s.nd
  out := s.out
  old := fun m a h => by
    have := s.old m a h
    cases q : rm H D a with
    | none => rw [q] at this; cases this
    | some o => rw [(rm_some q).2]; rfl
  cell := fun m a o h h1 => (s.cell m a o h h1).mono (Same.refl _) (Pre.refl _) fun u hu => (rm_some hu).2
theorem peel {D : Addr} {o : HO} (sm : Sim G I φ S (rm H D)) (hD : H D = some o) (e : Ext I φ H I' φ' H') (s' : Sim G I' φ' S' H') (ho : ∀ vs, o ≠ .tup vs := by intro _ z; cases z) : Sim G I' φ' S' (rm H' D) ∧ Ext I φ (rm H D) I' φ' (rm H' D) ∧ H' D = some o := by
  have nφ : D ∉ φ := fun z => by
    obtain ⟨m, hm⟩ := List.getElem?_of_mem z
    have := sm.old m D hm
    rw [rm_self] at this
    cases this
  have nI : I D = none := by
    cases h : I D with
    | none => rfl
    | some u => have := sm.same _ _ h; rw [rm_self] at this; cases this
  obtain ⟨ψ, hψ, hn⟩ := e.pre
  have nφ' : D ∉ φ' := fun z => by
    rw [hψ] at z
    rcases List.mem_append.mp z with z | z
    · exact nφ z
    · rw [hn D z] at hD; cases hD
  have nI' : I' D = none := by
    cases h : I' D with
    | none => rfl
    | some u =>
      rcases e.fresh D (by rw [h]; rfl) with z | z | z | ⟨vs, z⟩
      · rw [nI] at z; cases z
      · rw [hD] at z; cases z
      · exact absurd z nφ
      · rw [hD] at z; cases z; exact (ho vs rfl).elim
  have ne : ∀ (m : Nat) (a : Addr), φ'[m]? = some a → a ≠ D := fun m a h z => nφ' (by rw [← z]; exact List.mem_of_getElem? h)
  refine ⟨⟨fun a u h => ?_, s'.len, s'.nd, s'.out, fun m a h => ?_, fun m a u h h1 => ?_⟩, ⟨e.same, ⟨ψ, hψ, fun a ha => ?_⟩, fun a u ha h => ?_, fun a h => ?_, fun a h => ?_⟩, e.frame D o nφ hD⟩
  · rw [rm_ne (fun z => by rw [z, nI'] at h; cases h)]
    exact s'.same _ _ h
  · rw [rm_ne (ne m a h)]
    exact s'.old m a h
  · refine (s'.cell m a u h h1).mono (Same.refl _) (Pre.refl _) fun x hx => ?_
    rw [rm_ne (ne m a h)]
    exact hx
  · have hz := hn a ha
    unfold rm
    split
    · rfl
    · exact hz
  · obtain ⟨h1, h2⟩ := rm_some h
    rw [rm_ne h1]
    exact e.frame a u ha h2
  · have h1 : a ≠ D := fun z => by rw [z, rm_self] at h; cases h
    rw [rm_ne h1] at h ⊢
    exact e.keep a h
  · rcases e.fresh a h with z | z | z | ⟨vs, z⟩
    · exact .inl z
    · refine .inr (.inl ?_)
      unfold rm
      split
      · rfl
      · exact z
    · exact .inr (.inr (.inl z))
    · refine .inr (.inr (.inr ⟨vs, ?_⟩))
      rw [rm_ne (fun y => by rw [y, hD] at z; cases z; exact ho vs rfl)]
      exact z

/-! ### targets -/
def slots : Tg → List Nat
  | .one i => [i]
  | .tup is => is
def tTgt (G : Gx) (t : Tg) : TG := fun v σ H Q => ∃ I φ ρ S w ρ', Sim G I φ S H ∧ Envs G I φ ρ σ ∧ Rel G I φ w v ∧ bindT t w ρ = some ρ' ∧
  ∀ σ', Envs G I φ ρ' σ' → (∀ own : List Nat, (slots t).all (fun i => own.contains i) = true → L2.wipe σ' own = L2.wipe σ own) → Q σ' H
theorem wipe_set {σ : L2.St} {i : Nat} {x : Option V} : ∀ {own : List Nat}, i ∈ own → L2.wipe (σ.set i x) own = L2.wipe σ own
  | [], h => by cases h
  | v :: vs, h => by
    unfold L2.wipe
    by_cases hv : i = v
    · subst hv
      by_cases hm : i ∈ vs
      · rw [wipe_set hm]
      · have : ∀ (vs : List Nat), i ∉ vs → L2.wipe (σ.set i x) vs = (L2.wipe σ vs).set i x := by
          intro vs
          induction vs with
          | nil => intro _; rfl
          | cons u us ih =>
            intro hu
            unfold L2.wipe
            rw [ih (fun z => hu (List.mem_cons_of_mem _ z)), List.set_comm _ _ (fun z => hu (by rw [← z]; simp))]
        rw [this vs hm, List.set_set]
    · have hm : i ∈ vs := by
        rcases List.mem_cons.mp h with z | z
        · exact absurd z hv
        · exact z
      rw [wipe_set hm]
def nameAt (N : List PySem.Str) (sc : Scope) (i : Nat) : Expr → Bool
  | .Name x _ => decide (N[i]? = some x) && loc sc x
  | _ => false
def namesAt (N : List PySem.Str) (sc : Scope) : List Nat → List Expr → Bool
  | [], [] => true
  | i :: is, e :: es => nameAt N sc i e && namesAt N sc is es
  | _, _ => false
/-- sc: the scope as it is written -/
def tgOk (N : List PySem.Str) (sc : Scope) (t : Tg) (tg : Expr) : Bool :=
  match t, tg with
  | .one i, e => nameAt N sc i e
  | .tup is, .Tuple es _ _ => namesAt N sc is es
  | _, _ => false
/-- what a written scope says of the one that runs -/
def Wr (asc : Scope) (X : Cx) : Prop := ∀ x, (asc.names.lookup x = some .local → X.env.scope.names.lookup x = some .local) ∧ (asc.names.lookup x = some .cell → X.env.scope.names.lookup x = some .cell ∧ X.fn x = true)
theorem nameAt_ok {asc : Scope} {i : Nat} {e : Expr} (h : nameAt T.N asc i e = true) (hN : X.N = T.N) (hnd : X.N.Nodup) (hw : Wr asc X) : PG X e (gName i) := by
  unfold nameAt at h
  split at h
  · simp only [Bool.and_eq_true, decide_eq_true_eq] at h
    obtain ⟨h1, h2⟩ := h
    have hl := loc_ok h2
    rw [← hN] at h1
    have hi := h1
    rcases hl with hl | hl
    · exact pg_name hnd hi (.inl ((hw _).1 hl)) (.inr ((hw _).1 hl))
    · exact pg_name hnd hi (.inr ((hw _).2 hl).1) (.inl ((hw _).2 hl).2)
  · cases h
def setσ : List Nat → List V → L2.St → L2.St
  | i :: is, v :: vs, σ => setσ is vs (σ.set i (some v))
  | _, _, σ => σ
def gSetAll (is : List Nat) : TGs := fun vs σ H Q => vs.length = is.length ∧ Q (setσ is vs σ) H
theorem PGs_imp {es : List Expr} {t t' : TGs} (h : PGs X es t) (i : ∀ vs σ H Q, t' vs σ H Q → t vs σ H Q) : PGs X es t' := ⟨fun pins s σ H vs us Q I r q => h.run pins s σ H vs us Q I r (i vs σ H Q q)⟩
theorem PG_imp {e : Expr} {t t' : TG} (h : PG X e t) (i : ∀ v σ H Q, t' v σ H Q → t v σ H Q) : PG X e t' := ⟨fun pins s σ H v u Q I r q => h.run pins s σ H v u Q I r (i v σ H Q q)⟩
theorem namesAt_len {N : List PySem.Str} {sc : Scope} : ∀ {is : List Nat} {es : List Expr}, namesAt N sc is es = true → is.length = es.length
  | [], [], _ => rfl
  | i :: is, e :: es, h => by
    simp only [namesAt, Bool.and_eq_true] at h
    simp [namesAt_len h.2]
  | [], _ :: _, h => by cases h
  | _ :: _, [], h => by cases h
theorem namesAt_ok {asc : Scope} (hN : X.N = T.N) (hnd : X.N.Nodup) (hw : Wr asc X) : ∀ {is : List Nat} {es : List Expr}, namesAt T.N asc is es = true → PGs X es (gSetAll is) ∧ (assignEach es X.env).length = es.length ∧ (assignEach es X.env).findIdx? (·.1) = none
  | [], [], _ => by
    refine ⟨PGs_imp pgs_nil fun vs σ H Q q => ?_, rfl, rfl⟩
    obtain ⟨hl, q⟩ := q
    cases vs with
    | nil => exact ⟨rfl, q⟩
    | cons v vs => cases hl
  | i :: is, e :: es, h => by
    simp only [namesAt, Bool.and_eq_true] at h
    obtain ⟨h1, h2, h3⟩ := namesAt_ok hN hnd hw h.2
    have he := nameAt_ok h.1 hN hnd hw
    have hs : assignEach (e :: es) X.env = (false, assign e X.env) :: assignEach es X.env := by
      have h1 := h.1
      unfold nameAt at h1
      split at h1
      · rfl
      · cases h1
    refine ⟨PGs_imp (pgs_cons he h1 (by rw [hs]; rfl)) fun vs σ H Q q => ?_, by rw [hs]; simp [h2], ?_⟩
    · obtain ⟨hl, q⟩ := q
      cases vs with
      | nil => cases hl
      | cons v vs => exact ⟨v, vs, rfl, by simpa using hl, q⟩
    · rw [hs, List.findIdx?_cons]
      simp [h3]
  | [], _ :: _, h => by cases h
  | _ :: _, [], h => by cases h
theorem setAll_ok : ∀ {is : List Nat} {xs : List W} {vs : List V} {ρ ρ' : Env} {σ : L2.St}, Tw.setAll is xs ρ = some ρ' → Rels G I φ xs vs → Envs G I φ ρ σ → Envs G I φ ρ' (setσ is vs σ) ∧ vs.length = is.length ∧ ∀ own : List Nat, is.all (fun i => own.contains i) = true → L2.wipe (setσ is vs σ) own = L2.wipe σ own
  | [], [], _, _, _, _, h, r, en => by
    cases h
    obtain rfl : _ = [] := r
    exact ⟨en, rfl, fun _ _ => rfl⟩
  | i :: is, x :: xs, _, ρ, ρ', σ, h, r, en => by
    obtain ⟨v, vs, rfl, rv, rr⟩ := r
    obtain ⟨h1, h2, h3⟩ := setAll_ok (is := is) (ρ := ρ.set i (some x)) h rr (en.set rv)
    refine ⟨h1, by simp [h2], fun own ho => ?_⟩
    simp only [List.all_cons, Bool.and_eq_true] at ho
    show L2.wipe (setσ is vs (σ.set i (some v))) own = _
    rw [h3 own ho.2, wipe_set (by simpa using ho.1)]
  | [], _ :: _, _, _, _, _, h, _, _ => by cases h
  | _ :: _, [], _, _, _, _, h, _, _ => by cases h
def isTg1 : Tg → Bool
  | .one _ => true
  | _ => false
theorem tgOk_ok {asc : Scope} {t : Tg} {tg : Expr} (hc : isTg1 t = false → X.calm = true) (hN : X.N = T.N) (hnd : X.N.Nodup) (hw : Wr asc X) (h : tgOk T.N asc t tg = true) : PG X tg (tTgt G t) := by
  unfold tgOk at h
  split at h
  · rename_i i
    refine PG_imp (nameAt_ok h hN hnd hw) fun v σ H Q ⟨I, φ, ρ, S, w, ρ', s, en, r, hb, q⟩ => ?_
    cases hb
    refine q _ (en.set r) fun own ho => wipe_set ?_
    simpa [slots] using ho
  · rename_i is es _ _
    obtain ⟨h1, h2, h3⟩ := namesAt_ok hN hnd hw h
    refine PG_imp (pg_tup (hc rfl) h1 h2 h3) fun v σ H Q ⟨I, φ, ρ, S, w, ρ', s, en, r, hb, q⟩ => ?_
    match w, hb with
    | .tup xs, hb =>
      obtain ⟨a, vs, rfl, ha, rr⟩ := r
      obtain ⟨e1, e2, e3⟩ := setAll_ok hb rr en
      exact ⟨a, vs, rfl, .inl (.inl (s.same _ _ ha)), by rw [e2]; exact namesAt_len h, e2, q _ e1 e3⟩
  · cases h

/-! ### comprehensions -/
abbrev EN : L2.St → XK := fun _ => E0
def tCond (G : Gx) (cf : CallF) (cond : List E) : TT := fun σ H Q => ∃ I φ ρ S, Sim G I φ S H ∧ Envs G I φ ρ σ ∧ Post G E0 I φ H (evAll cf cond ρ S) fun w S' => ∃ b, w = .bl b ∧ ∀ I' φ' H', Ext I φ H I' φ' H' → Sim G I' φ' S' H' → Q b H'
theorem compL_noex {elt cond : Env → Sto → Rs W} {t : Tg} {ρ : Env} : ∀ {xs : List W} {S S' : Sto} {c : Nat}, compL elt cond t ρ xs S ≠ .ex c S'
  | [], _, _, _, h => by simp [compL] at h
  | x :: xs, S, S', c, h => by
    simp only [compL] at h
    split at h
    · cases h
    · split at h
      · split at h
        · rename_i y S2 _
          cases hc : compL elt cond t ρ xs S2 with
          | ok ys S3 => rw [hc] at h; cases h
          | ex c' S3 => exact compL_noex hc
          | bad => rw [hc] at h; cases h
        · cases h
      · exact compL_noex h
      · cases h
theorem comp_ok {elt : E} {t : Tg} {k : ItK} {srcs cond : List E} {own : List Nat} (hs : (slots t).all (fun i => own.contains i) = true) : ∀ σ H Q, tF G cf Ex (.comp elt t k srcs cond own) σ H Q → tLc (tI G cf Ex k srcs) (tTgt G t) (tCond G cf cond) (tE G cf EN elt) own σ H Q := by
  rintro σ H Q ⟨I, φ, ρ, S, s, en, h⟩
  simp only [ev] at h
  refine ⟨I, φ, ρ, S, s, en, h.bind.imp fun ws S1 _ h1 => ?_⟩
  split at h1
  · rename_i xs hx
    refine ⟨xs, hx, ?_⟩
    intro J I1 φ1 H1 e1 s1 hy D hD
    split at h1
    · rename_i hlen
      cases hc : compL (fun ρ' S' => ev cf elt ρ' S') (fun ρ' S' => evAll cf cond ρ' S') t (Tw.wipe ρ own) xs S1 with
      | bad => rw [hc] at h1; exact h1.elim
      | ex c S2 => exact absurd hc compL_noex
      | ok ys Sf =>
        rw [hc] at h1
        obtain ⟨zs, hz, kf⟩ := h1
        cases hz
        have kf : KF G I φ H Sf ys Q := kf
        have iD : I1 D = none := s1.iNone hD
        refine ⟨fun i m H' => m = xs.length - i ∧ i ≤ xs.length ∧ ∃ I2 φ2 S2 aw av rs, Ext I1 φ1 H1 I2 φ2 (rm H' D) ∧ Sim G I2 φ2 S2 (rm H' D) ∧ H' D = some (.lst av) ∧ Rels G I2 φ2 aw av ∧ aw.length ≤ i ∧
          compL (fun ρ' S' => ev cf elt ρ' S') (fun ρ' S' => evAll cf cond ρ' S') t (Tw.wipe ρ own) (xs.drop i) S2 = .ok rs Sf ∧ ys = aw ++ rs, ⟨xs.length, ?_⟩, ?_⟩
        · refine ⟨by simp, Nat.zero_le _, I1, φ1, S1, [], [], ys, ?_, ?_, upd_same, rfl, Nat.le_refl _, by simpa using hc, rfl⟩
          · rw [rm_upd, rm_none hD]; exact Ext.refl _ _ _
          · rw [rm_upd, rm_none hD]; exact s1
        · rintro i m H' ⟨rfl, hi, I2, φ2, S2, aw, av, rs, e2, s2, hDv, ra, hal, hcl, hys⟩
          have s2' := s2.plusD
          have hyy := hy I2 φ2 S2 H' e2.same e2.pre' s2' i
          by_cases hlt : i < xs.length
          · right
            have hxi : xs[i]? = some xs[i] := List.getElem?_eq_getElem hlt
            obtain ⟨hgo, hyl⟩ := hyy.1 _ hxi
            refine ⟨hgo, fun H'' => (i + 1 ≤ xs.length) ∧ ∃ I2 φ2 S2 aw av rs, Ext I1 φ1 H1 I2 φ2 (rm H'' D) ∧ Sim G I2 φ2 S2 (rm H'' D) ∧ H'' D = some (.lst av) ∧ Rels G I2 φ2 aw av ∧ aw.length ≤ i + 1 ∧
              compL (fun ρ' S' => ev cf elt ρ' S') (fun ρ' S' => evAll cf cond ρ' S') t (Tw.wipe ρ own) (xs.drop (i + 1)) S2 = .ok rs Sf ∧ ys = aw ++ rs, fun H'' q => ⟨xs.length - (i + 1), by omega, rfl, q⟩, ?_⟩
            intro v H3 hv
            obtain ⟨I3, e3, s3, r3⟩ := hyl v H3 hv
            obtain ⟨s3r, e3r, hD3⟩ := peel s2 hDv e3 s3
            rw [List.drop_eq_getElem_cons hlt] at hcl
            simp only [compL] at hcl
            split at hcl
            · cases hcl
            · rename_i ρ' hb
              have en1 : Envs G I3 φ2 (Tw.wipe ρ own) (L2.wipe σ own) := ((en.ext e1).ext (e2.trans e3r)).wipe own
              refine ⟨I3, φ2, Tw.wipe ρ own, S2, _, ρ', s3, en1, r3, hb, fun σ' en2 hw => ?_⟩
              have hww : L2.wipe σ' own = L2.wipe σ own := by
                rw [hw own hs]
                have : ∀ (o : List Nat) (σ : L2.St), L2.wipe (L2.wipe σ o) o = L2.wipe σ o := by
                  intro o σ
                  apply List.ext_getElem?
                  intro j
                  have key : ∀ (o : List Nat) (σ : L2.St), (L2.wipe σ o)[j]? = if j ∈ o then (if j < σ.length then some none else none) else σ[j]? := by
                    intro o
                    induction o with
                    | nil => intro σ; simp [L2.wipe]
                    | cons u us ih =>
                      intro σ
                      unfold L2.wipe
                      rw [List.getElem?_set, ih, wipe_length]
                      by_cases huj : u = j
                      · subst huj; simp
                      · rw [if_neg huj]
                        have hju : j ≠ u := fun z => huj z.symm
                        by_cases hj : j ∈ us
                        · simp [hj, hju]
                        · simp [hj, hju]
                  rw [key, key, wipe_length]
                  by_cases hj : j ∈ o
                  · simp [hj]
                  · simp [hj]
                exact this own σ
              refine ⟨hww, ?_⟩
              refine ⟨I3, φ2, ρ', S2, s3, en2, ?_⟩
              split at hcl
              · rename_i S3 hcond
                rw [hcond]
                split at hcl
                · rename_i y S4 helt
                  refine ⟨true, rfl, fun I4 φ4 H4 e4 s4 => ?_⟩
                  show tE G cf EN elt σ' H4 _
                  obtain ⟨s4r, e4r, hD4⟩ := peel s3r hD3 e4 s4
                  refine ⟨I4, φ4, ρ', S3, s4, en2.ext e4, ?_⟩
                  rw [helt]
                  intro yv I5 φ5 H5 e5 s5 r5
                  obtain ⟨s5r, e5r, hD5⟩ := peel s4r hD4 e5 s5
                  refine ⟨av, hD5, ?_, ?_⟩
                  · rw [ra.length]
                    exact lim_ok (Nat.lt_of_le_of_lt hal (Nat.lt_trans hlt hlen))
                  · cases hrest : compL (fun ρ' S' => ev cf elt ρ' S') (fun ρ' S' => evAll cf cond ρ' S') t (Tw.wipe ρ own) (xs.drop (i + 1)) S4 with
                    | bad => rw [hrest] at hcl; cases hcl
                    | ex c S' => exact absurd hrest compL_noex
                    | ok rs' Sf' =>
                      rw [hrest] at hcl
                      cases hcl
                      refine ⟨hlt, I5, φ5, S4, aw ++ [y], av ++ [yv], rs', ?_, ?_, upd_same, ?_, ?_, hrest, ?_⟩
                      · rw [rm_upd]
                        exact e2.trans (e3r.trans (e4r.trans e5r))
                      · rw [rm_upd]; exact s5r
                      · exact ((ra.ext (e3.trans (e4.trans e5)))).append (Rels.one r5)
                      · simp; omega
                      · rw [hys]; simp
                · cases hcl
              · rename_i S3 hcond
                rw [hcond]
                refine ⟨false, rfl, fun I4 φ4 H4 e4 s4 => ?_⟩
                refine ite_ff ?_
                obtain ⟨s4r, e4r, hD4⟩ := peel s3r hD3 e4 s4
                exact ⟨hlt, I4, φ4, S3, aw, av, rs, e2.trans (e3r.trans e4r), s4r, hD4, ra.ext (e3.trans e4), by omega, hcl, hys⟩
              · cases hcl
          · left
            have hi' : i = xs.length := by omega
            refine ⟨hyy.2 (by omega), ?_⟩
            subst hi'
            rw [List.drop_length] at hcl
            simp only [compL] at hcl
            cases hcl
            have := kf D av I2 φ2 (rm H' D) (e1.trans e2) s2 rm_self (by rw [hys]; simpa using ra) (by
              rw [ra.length]
              exact Nat.le_of_lt (lim_ok (Nat.lt_of_le_of_lt hal hlen)))
            rw [upd_rm hDv] at this
            exact this
    · exact h1.elim
  · exact h1.elim
end Tw

/-! Tw, part Ln: new instances; comprehensions over cells. -/
namespace Tw
open PySem PySem.Spec PyProof.Rows L2

variable {G : Gx} {I I' I1 I2 H H' H1 H2 : Hp} {φ φ' φ1 φ2 : List Addr} {S S' S1 : Sto} {K : PySem.W.Frag} {X : Cx} {cf : CallF} {T : Tab} {Ex : L2.St → XK} {n : Nat} {sc : Scope}

theorem ext_plus {D : Addr} {o : HO} (h : H D = none) : Ext I φ H I φ (upd H D o) :=
  ⟨Same.refl _, ⟨[], by simp, by simp⟩, fun a u _ e => by rw [upd_ne (fun z => by rw [z, h] at e; cases e)]; exact e, fun a e => by
    by_cases z : a = D
    · rw [z, upd_same]; rfl
    · rw [upd_ne z]; exact e, fun a e => .inl e⟩
theorem Sim.plus {D : Addr} {o : HO} (s : Sim G I φ S H) (h : H D = none) : Sim G I φ S (upd H D o) := Sim.plusD (D := D) (by rw [rm_upd, rm_none h]; exact s)
/-- a new instance, without fields -/
theorem new_cell {c : Nat} {x dx : Addr} (s : Sim G I φ S H) (hx : H x = none) (hd : H dx = none) (hne : dx ≠ x) :
    Sim G I (φ ++ [x]) (S ++ [.ins c []]) (upd (upd H dx (.own x)) x (.ins (G.cad c) dx [])) ∧ Ext I φ H I (φ ++ [x]) (upd (upd H dx (.own x)) x (.ins (G.cad c) dx [])) := by
  have h1 : upd H dx (.own x) x = none := by rw [upd_ne (fun z => hne z.symm)]; exact hx
  obtain ⟨s2, e2⟩ := (s.plus (o := .own x) hd).newC (o := .ins c []) (u := .ins (G.cad c) dx []) h1 ⟨dx, [], upd_same, rfl, rfl⟩
  exact ⟨s2, (ext_plus hd).trans e2⟩
theorem new_ok {E1 : XK} {m : Md} {c f : Nat} {ws : List W} {vs : List V} {Q : VK} (s : Sim G I φ S H) (r : Rels G I φ ws vs) (h : Post G E1 I φ H (newSem cf m c f ws S) fun w S' => KE G I φ H S' w Q)
    {x dx : Addr} (hx : H x = none) (hd : H dx = none) (hne : dx ≠ x) :
    ∃ I' φ' S' ws', Sim G I' φ' S' (upd (upd H dx (.own x)) x (.ins (G.cad c) dx [])) ∧ Rels G I' φ' ws' (.ref x :: vs) ∧
      Post G E1 I' φ' (upd (upd H dx (.own x)) x (.ins (G.cad c) dx [])) (cf f ws' S') fun w S'' => KE G I' φ' (upd (upd H dx (.own x)) x (.ins (G.cad c) dx [])) S'' w fun v H2 => v = .non ∧ Q (.ref x) H2 := by
  cases m with
  | shared =>
    obtain ⟨s2, e2⟩ := new_cell (c := c) s hx hd hne
    refine ⟨I, φ ++ [x], S ++ [.ins c []], .ref S.length :: ws, s2, .cons ⟨x, rfl, by rw [← s.len]; simp⟩ (r.ext e2), ?_⟩
    simp only [newSem] at h
    split at h
    · rename_i S3 hc
      rw [hc]
      intro v I' φ' H' e s' rv
      refine ⟨rv, (KE.ext (e2.trans e) h).here s' ⟨x, rfl, e.pre'.get (by rw [← s.len]; simp)⟩⟩
    · exact h.elim
    · rename_i c' S3 hc
      rw [hc]
      exact KX.ext e2 h
    · exact h.elim
  | pure =>
    simp only [newSem] at h
    split at h
    · exact h.elim
    · rename_i us hu
      have rr : Rels G (snap (!rfreeL ws) I φ S H) [] us vs := by
        cases hb : rfreeL ws with
        | true =>
          rw [subL_rfree hb hu]
          exact Rels.rfree hb (r.mono (fun a o h => snap_i h) (Pre.refl _))
        | false => exact vws_rel s (snap_holds s) hu r
      obtain ⟨s2, e2⟩ := new_cell (c := c) (snap_sim (b := !rfreeL ws) s) hx hd hne
      refine ⟨_, [] ++ [x], [] ++ [.ins c []], .ref 0 :: us, s2, .cons ⟨x, rfl, rfl⟩ (rr.ext e2), ?_⟩
      split at h
      · rename_i S3 hc
        rw [show ([] ++ [Ob.ins c []] : Sto) = [.ins c []] from rfl, hc]
        obtain ⟨w2, hw, k⟩ := Post.ofO h
        intro v I' φ' H' e s' rv
        have et := e2.trans e
        obtain ⟨s3, e3⟩ := after_sim s et s'
        refine ⟨rv, k (.ref x) _ _ _ e3 s3 ?_⟩
        have hh := after_holds s et s'
        have r0 : Rel G I' φ' (.ref 0) (.ref x) := ⟨x, rfl, e.pre'.get rfl⟩
        cases hb : rfreeL ws with
        | true => rw [hb] at hh; rw [if_pos hb] at hw; exact vw_rel s' hh hw r0
        | false => rw [hb] at hh; rw [if_neg (by rw [hb]; simp)] at hw; exact vwB_rel s' hh hw r0
      · exact h.elim
      · rename_i c' S3 hc
        rw [show ([] ++ [Ob.ins c []] : Sto) = [.ins c []] from rfl, hc]
        intro I' φ' H' e s'
        obtain ⟨s3, e3⟩ := after_sim s (e2.trans e) s'
        exact h _ _ _ e3 s3
      · exact h.elim
  | adopt => exact h.elim
  | move => exact h.elim

/-! ### comprehensions over cells -/
theorem compC_noex {elt cond : Env → Sto → Rs W} {t : Tg} {ρ : Env} {n : Nat} : ∀ {k i : Nat} {S S' : Sto} {c : Nat}, compC elt cond t ρ n k i S ≠ .ex c S'
  | 0, _, _, _, _, h => by simp [compC] at h
  | k + 1, i, S, S', c, h => by
    simp only [compC] at h
    split at h
    · split at h
      · cases h
      · split at h
        · cases h
        · split at h
          · split at h
            · rename_i y S2 _
              cases hc : compC elt cond t ρ n k (i + 1) S2 with
              | ok ys S3 => rw [hc] at h; cases h
              | ex c' S3 => exact compC_noex hc
              | bad => rw [hc] at h; cases h
            · cases h
          · exact compC_noex h
          · cases h
    · cases h
theorem wipe_twice (o : List Nat) (σ : L2.St) : L2.wipe (L2.wipe σ o) o = L2.wipe σ o := by
  apply List.ext_getElem?
  intro j
  have key : ∀ (o : List Nat) (σ : L2.St), (L2.wipe σ o)[j]? = if j ∈ o then (if j < σ.length then some none else none) else σ[j]? := by
    intro o
    induction o with
    | nil => intro σ; simp [L2.wipe]
    | cons u us ih =>
      intro σ
      unfold L2.wipe
      rw [List.getElem?_set, ih, wipe_length]
      by_cases huj : u = j
      · subst huj; simp
      · rw [if_neg huj]
        have hju : j ≠ u := fun z => huj z.symm
        by_cases hj : j ∈ us
        · simp [hj, hju]
        · simp [hj, hju]
  rw [key, key, wipe_length]
  by_cases hj : j ∈ o
  · simp [hj]
  · simp [hj]
theorem compR_ok {elt : E} {t : Tg} {a : E} {cond : List E} {own : List Nat} (hs : (slots t).all (fun i => own.contains i) = true) : ∀ σ H Q, tF G cf Ex (.compR elt t a cond own) σ H Q → tLc (iList K (tE G cf Ex a)) (tTgt G t) (tCond G cf cond) (tE G cf EN elt) own σ H Q := by
  rintro σ H Q ⟨I, φ, ρ, S, s, en, h⟩
  simp only [ev] at h
  refine ⟨I, φ, ρ, S, s, en, h.bind.imp fun w S1 _ h1 => ?_⟩
  intro v I1 φ1 H1 e1 s1 r1
  split at h1
  · rename_i m _
    obtain ⟨p, rfl, hp⟩ := r1
    cases hc : compC (fun ρ' S' => ev cf elt ρ' S') (fun ρ' S' => evAll cf cond ρ' S') t (Tw.wipe ρ own) m LIM 0 S1 with
    | bad => rw [hc] at h1; exact h1.elim
    | ex c S2 => exact absurd hc compC_noex
    | ok ys Sf =>
      rw [hc] at h1
      obtain ⟨zs, hz, kf⟩ := h1
      cases hz
      have kf : KF G I φ H Sf ys Q := kf
      have hL : ∃ xs, S1[m]? = some (.lst xs) := by
        obtain ⟨k, hk⟩ : ∃ k, LIM = k + 1 := ⟨99999, rfl⟩
        rw [hk, compC] at hc
        split at hc
        · exact ⟨_, by assumption⟩
        · cases hc
      obtain ⟨xs0, hS0⟩ := hL
      obtain ⟨vs0, hv0, _⟩ := s1.cell m p _ hp hS0
      refine ⟨p, rfl, ⟨vs0, .inl (.inl hv0)⟩, ?_⟩
      intro D hD
      have iD : I1 D = none := s1.iNone hD
      refine ⟨fun i k H' => i + k = LIM ∧ ∃ I2 φ2 S2 aw av rs, Ext I1 φ1 H1 I2 φ2 (rm H' D) ∧ Sim G I2 φ2 S2 (rm H' D) ∧ H' D = some (.lst av) ∧ Rels G I2 φ2 aw av ∧ aw.length ≤ i ∧
        compC (fun ρ' S' => ev cf elt ρ' S') (fun ρ' S' => evAll cf cond ρ' S') t (Tw.wipe ρ own) m k i S2 = .ok rs Sf ∧ ys = aw ++ rs, ⟨LIM, ?_⟩, ?_⟩
      · refine ⟨by simp, I1, φ1, S1, [], [], ys, ?_, ?_, upd_same, rfl, Nat.le_refl _, hc, rfl⟩
        · rw [rm_upd, rm_none hD]; exact Ext.refl _ _ _
        · rw [rm_upd, rm_none hD]; exact s1
      · rintro i k H' ⟨hik, I2, φ2, S2, aw, av, rs, e2, s2, hDv, ra, hal, hcl, hys⟩
        cases k with
        | zero => simp [compC] at hcl
        | succ k =>
          have hiL : i < LIM := by omega
          simp only [compC] at hcl
          split at hcl
          · rename_i xs hS
            have hp2 : φ2[m]? = some p := e2.pre'.get hp
            obtain ⟨vs, hv, rv⟩ := s2.cell m p _ hp2 hS
            have hpD : p ≠ D := fun z => by rw [z, rm_self] at hv; cases hv
            rw [rm_ne hpD] at hv
            have hq : SqL K H' p vs := .inl (.inl hv)
            split at hcl
            · rename_i hxi
              left
              cases hcl
              refine ⟨⟨vs, hq, by rw [rv.length]; exact List.getElem?_eq_none_iff.mp hxi⟩, ?_⟩
              have := kf D av I2 φ2 (rm H' D) (e1.trans e2) s2 rm_self (by rw [hys]; simpa using ra) (by
                rw [ra.length]
                exact Nat.le_of_lt (lim_ok (by omega)))
              rw [upd_rm hDv] at this
              exact this
            · rename_i x hxi
              right
              obtain ⟨xv, hxv, rx⟩ := rv.get hxi
              refine ⟨⟨vs, xv, hq, hxv⟩, fun H'' => (i + 1) + k = LIM ∧ ∃ I2 φ2 S2 aw av rs, Ext I1 φ1 H1 I2 φ2 (rm H'' D) ∧ Sim G I2 φ2 S2 (rm H'' D) ∧ H'' D = some (.lst av) ∧ Rels G I2 φ2 aw av ∧ aw.length ≤ i + 1 ∧
                compC (fun ρ' S' => ev cf elt ρ' S') (fun ρ' S' => evAll cf cond ρ' S') t (Tw.wipe ρ own) m k (i + 1) S2 = .ok rs Sf ∧ ys = aw ++ rs, fun H'' q => ⟨k, Nat.lt_succ_self k, q⟩, ?_⟩
              intro v' H3 hy
              obtain ⟨rfl, hy⟩ := hy
              have := hy vs hq
              rw [hxv] at this
              cases this
              split at hcl
              · cases hcl
              · rename_i ρ' hb
                have s2' := s2.plusD
                have en1 : Envs G I2 φ2 (Tw.wipe ρ own) (L2.wipe σ own) := ((en.ext e1).ext e2).wipe own
                refine ⟨I2, φ2, Tw.wipe ρ own, S2, _, ρ', s2', en1, rx, hb, fun σ' en2 hw => ?_⟩
                have hww : L2.wipe σ' own = L2.wipe σ own := by
                  rw [hw own hs]
                  exact wipe_twice own σ
                refine ⟨hww, ?_⟩
                refine ⟨I2, φ2, ρ', S2, s2', en2, ?_⟩
                split at hcl
                · rename_i S3 hcond
                  rw [hcond]
                  split at hcl
                  · rename_i y S4 helt
                    refine ⟨true, rfl, fun I4 φ4 H4 e4 s4 => ?_⟩
                    show tE G cf EN elt σ' H4 _
                    obtain ⟨s4r, e4r, hD4⟩ := peel s2 hDv e4 s4
                    refine ⟨I4, φ4, ρ', S3, s4, en2.ext e4, ?_⟩
                    rw [helt]
                    intro yv I5 φ5 H5 e5 s5 r5
                    obtain ⟨s5r, e5r, hD5⟩ := peel s4r hD4 e5 s5
                    refine ⟨av, hD5, ?_, ?_⟩
                    · rw [ra.length]
                      exact lim_ok (by omega)
                    · cases hrest : compC (fun ρ' S' => ev cf elt ρ' S') (fun ρ' S' => evAll cf cond ρ' S') t (Tw.wipe ρ own) m k (i + 1) S4 with
                      | bad => rw [hrest] at hcl; cases hcl
                      | ex c S' => exact absurd hrest compC_noex
                      | ok rs' Sf' =>
                        rw [hrest] at hcl
                        cases hcl
                        refine ⟨by omega, I5, φ5, S4, aw ++ [y], av ++ [yv], rs', ?_, ?_, upd_same, ?_, ?_, hrest, ?_⟩
                        · rw [rm_upd]
                          exact e2.trans (e4r.trans e5r)
                        · rw [rm_upd]; exact s5r
                        · exact ((ra.ext (e4.trans e5))).append (Rels.one r5)
                        · simp; omega
                        · rw [hys]; simp
                  · cases hcl
                · rename_i S3 hcond
                  rw [hcond]
                  refine ⟨false, rfl, fun I4 φ4 H4 e4 s4 => ?_⟩
                  refine ite_ff ?_
                  obtain ⟨s4r, e4r, hD4⟩ := peel s2 hDv e4 s4
                  exact ⟨by omega, I4, φ4, S3, aw, av, rs, e2.trans e4r, s4r, hD4, ra.ext e4, by omega, hcl, hys⟩
                · cases hcl
          · cases hcl
  · exact h1.elim
end Tw

/-! Tw, part M: the checker of expressions. -/
namespace Tw
open PySem PySem.Spec PyProof.Rows L2

variable {G : Gx} {I I' I1 I2 H H' H1 H2 : Hp} {φ φ' φ1 φ2 : List Addr} {S S' S1 : Sto} {K : PySem.W.Frag} {X : Cx} {cf : CallF} {T : Tab} {Ex : L2.St → XK} {n : Nat} {sc : Scope}

def conSyn (T : Tab) (sc : Scope) (w : W) (e : Expr) : Bool :=
  match e with
  | .Constant (.int i) _ _ => match w with
    | .int j => decide (i = j)
    | _ => false
  | .Constant (.bool b) _ _ => match w with
    | .bl c => b == c
    | _ => false
  | .Constant .none _ _ => match w with
    | .non => true
    | _ => false
  | .Constant (.str x) _ _ => match w with
    | .str s => decide (x = ⟨s.toArray⟩)
    | _ => false
  | .Name x _ => isGl sc x && !dbg x && (match w, T.cst.lookup x with
    | .int i, some (.int j) => decide (i = j)
    | .str s, some (.str t) => decide (s = t)
    | _, _ => false)
  | _ => false
def isFresh : E → Bool
  | .op o _ => freshOp o
  | .comp _ _ _ _ _ _ => true
  | .compR _ _ _ _ _ => true
  | _ => false
def isDic : E → Bool
  | .op (.dicD _) [] => true
  | _ => false
def dicSyn : Expr → Bool
  | .Dict [] [] _ => true
  | _ => false
def namSyn (T : Tab) (sc : Scope) (i : Nat) : Expr → Bool
  | .Name x _ => decide (T.N[i]? = some x) && vis sc x && !dbg x
  | _ => false
def callSyn (T : Tab) (sc : Scope) (f k : Nat) : Expr → Option (List Expr)
  | .Call (.Name x _) es [] _ => if isGl sc x && !dbg x && decide ((x, f, k) ∈ T.fnm) then some es else none
  | _ => none
def ownOf (N : List PySem.Str) (own : List Nat) : List (PySem.Str × Nat) := own.map fun i => ((N[i]?).getD "", i)
def andSyn : Expr → Option (List Expr)
  | .BoolOp .And es _ => some es
  | _ => none
def orSyn : Expr → Option (List Expr)
  | .BoolOp .Or es _ => some es
  | _ => none
def notSyn : Expr → Option Expr
  | .UnaryOp .Not b _ => some b
  | _ => none
def ifeSyn : Expr → Option (Expr × Expr × Expr)
  | .IfExp c a b _ => some (c, a, b)
  | _ => none
def chainSyn (o1 o2 : Op) : Expr → Option (Expr × Expr × Expr)
  | .Compare a [c1, c2] [b, c] _ => if decide (cmpTab o1 = some c1) && decide (cmpTab o2 = some c2) && plainE b && plainE c then some (a, b, c) else none
  | _ => none
def compSyn : Expr → Option (Expr × Expr × Expr × List Expr × Scope)
  | .ListComp elt [⟨tg, iter, ifs, 0⟩] scope _ => some (elt, tg, iter, ifs, scope)
  | _ => none
/-- C(..) -/
def newSyn (T : Tab) (sc : Scope) (c f k : Nat) : Expr → Option (List Expr)
  | .Call (.Name x _) es [] _ => if isGl sc x && !dbg x && (T.cls.any fun l => decide (l.nm = x) && l.c == c && l.init == f && l.np == k + 1) then some es else none
  | _ => none
/-- o.m(..) of an own class -/
def mcSyn (T : Tab) (c f k : Nat) : Expr → Option (Expr × List Expr)
  | .Call (.Attribute o m apos) es [] cpos => if baseE o && (apos.endLine == cpos.line) && decide (es.length < 30) && decide ((c, m, f, k + 1) ∈ T.mts) then some (o, es) else none
  | _ => none
/-- o.f -/
def fldSyn (T : Tab) (c i : Nat) : Expr → Option Expr
  | .Attribute o f _ => if baseE o && (T.cls.any fun l => l.c == c && decide (l.flds[i]? = some f)) then some o else none
  | _ => none
/-- a class that isinstance names -/
def clsNm (T : Tab) (sc : Scope) (c : Nat) : Expr → Bool
  | .Name x _ => isGl sc x && !dbg x && (if c == 9 then decide (x = ("ValueError" : PySem.Str)) else decide ((x, c) ∈ T.exc) || (T.cls.any fun l => decide (l.nm = x) && l.c == c))
  | _ => false
def clsNms (T : Tab) (sc : Scope) : List Nat → List Expr → Bool
  | [], [] => true
  | c :: cs, e :: es => clsNm T sc c e && clsNms T sc cs es
  | _, _ => false
def isxSyn (T : Tab) (sc : Scope) (cs : List Nat) : Expr → Option Expr
  | .Call (.Name f _) [a, k] [] _ => if decide (f = ("isinstance" : PySem.Str)) && isGl sc f && plainE a && decide (cs.length < 30) then (match k with
    | .Tuple es _ _ => if clsNms T sc cs es then some a else none
    | k => match cs with
      | [c] => if clsNm T sc c k then some a else none
      | _ => none) else none
  | _ => none
/-- an f-string's parts: texts, names -/
def isVarE : E → Bool
  | .var _ => true
  | _ => false
def litE : E → Option (List Nat)
  | .con (.str z) => some z
  | _ => none
def fpsSyn : Expr → Option (List Expr)
  | .JoinedStr (a :: b :: r) _ => some (a :: b :: r)
  | _ => none
def dispSyn : Expr → Option (Expr × Expr)
  | .Dict [some k] [v] _ => some (k, v)
  | _ => none
mutual
def chk (T : Tab) (md : Bool) (sc : Scope) : E → Expr → Bool
  | .var i, e => namSyn T sc i e
  | .con w, e => conSyn T sc w e
  | .op o as, e => match opSyn sc o e with
    | some es => (T.cm || !calmOp o) && opAux o as && chks T false sc as es
    | none => false
  | .mth t o a as, e => match mthTab t o with
    | some nm => match mthSyn nm e with
      | some (b, es) => chk T false sc a b && chks T false sc as es
      | none => false
    | none => false
  | .eff o a as, e => match effTab o with
    | some nm => match mthSyn nm e with
      | some (b, es) => chk T false sc a b && chks T false sc as es
      | none => false
    | none => false
  | .and as, e => match andSyn e with
    | some es => !as.isEmpty && chks T md sc as es
    | none => false
  | .or as, e => match orSyn e with
    | some es => !as.isEmpty && chks T md sc as es
    | none => false
  | .not a, e => match notSyn e with
    | some b => chk T md sc a b
    | none => false
  | .ife c a b, e => match ifeSyn e with
    | some (c', a', b') => !md && chk T true sc c c' && chk T false sc a a' && chk T false sc b b'
    | none => false
  | .chain o1 o2 a b c, e => match chainSyn o1 o2 e with
    | some (a', b', c') => chk T false sc a a' && chk T false sc b b' && chk T false sc c c'
    | none => false
  | .comp elt t k srcs cond own, e => match compSyn e with
    | some (elt', tg, iter, ifs, scope) => match itSyn sc k tg iter with
      | some es => T.cm && chks T false sc srcs es && blkC T.N sc scope (ownOf T.N own) && tgOk T.N scope t tg && (slots t).all (fun i => own.contains i) && decide (cond.length ≤ 1) &&
        chks T true (relS scope sc) cond ifs && chk T false (relS scope sc) elt elt'
      | none => false
    | none => false
  | .call m f as, e => match callSyn T sc f as.length e with
    | some es => T.cm && chks T false sc as es
    | none => false
  | .new _ c f as, e => match newSyn T sc c f as.length e with
    | some es => T.cm && chks T false sc as es
    | none => false
  | .mcall _ c f a as, e => match mcSyn T c f as.length e with
    | some (b, es) => T.cm && chk T false sc a b && chks T false sc as es
    | none => false
  | .fld c i a, e => match fldSyn T c i e with
    | some b => chk T false sc a b
    | none => false
  | .isx cs a, e => match isxSyn T sc cs e with
    | some b => chk T false sc a b
    | none => false
  | .fstr as, e => match fpsSyn e with
    | some es => !md && chkp T sc as es
    | none => false
  | .compR elt t a cond own, e => match compSyn e with
    | some (elt', tg, iter, ifs, scope) => T.cm && plainE iter && chk T false sc a iter && blkC T.N sc scope (ownOf T.N own) && tgOk T.N scope t tg && (slots t).all (fun i => own.contains i) && decide (cond.length ≤ 1) &&
        chks T true (relS scope sc) cond ifs && chk T false (relS scope sc) elt elt'
    | none => false
  | .mut a, e => !md && ((isDic a && dicSyn e) || (isFresh a && chk T false sc a e))
  | .toI a, e => !md && chk T false sc a e
  | .disp k v, e => match dispSyn e with
    | some (k', v') => !md && chk T false sc k k' && chk T false sc v v'
    | none => false
def chks (T : Tab) (md : Bool) (sc : Scope) : List E → List Expr → Bool
  | [], [] => true
  | a :: as, e :: es => plainE e && chk T md sc a e && chks T md sc as es
  | _, _ => false
def chkp (T : Tab) (sc : Scope) : List E → List Expr → Bool
  | [], [] => true
  | a :: as, e :: es => (match e with
    | .Constant (.str s) _ _ => decide (litE a = some s.cps.toList)
    | .FormattedValue b (-1) none _ => isVarE a && chk T false sc a b
    | _ => false) && chkp T sc as es
  | _, _ => false
end

/-! ### it is right -/
def Good (G : Gx) (cf : CallF) (Ex : L2.St → XK) (X : Cx) (md : Bool) (m : E) (e : Expr) : Prop :=
  match md with
  | true => PT X e (tT G cf Ex m)
  | false => PE X e (tE G cf Ex m) ∧ (isFresh m = true → PE X e (tF G cf Ex m))
inductive GoodL (G : Gx) (cf : CallF) (Ex : L2.St → XK) (X : Cx) (md : Bool) : List E → List Expr → Prop
  | nil : GoodL G cf Ex X md [] []
  | cons {m : E} {ms : List E} {e : Expr} {es : List Expr} : plainE e = true → Good G cf Ex X md m e → GoodL G cf Ex X md ms es → GoodL G cf Ex X md (m :: ms) (e :: es)
theorem GoodL.pes : ∀ {ms : List E} {es : List Expr}, GoodL G cf Ex X false ms es → PEs G cf Ex X ms es
  | _, _, .nil => .nil
  | _, _, .cons p h t => .cons p h.1 t.pes
theorem dbg_ok {x : PySem.Str} (h : (!dbg x) = true) : (x == ("__debug__" : PySem.Str)) = false ∧ (x == ("__classdict__" : PySem.Str)) = false ∧ x ≠ ("__name__" : PySem.Str) := by
  unfold dbg at h
  simp only [Bool.not_or, Bool.and_eq_true, Bool.not_eq_true'] at h
  exact ⟨h.1.1, h.1.2, by simpa using h.2⟩
theorem good_of {md : Bool} {m : E} {e : Expr} (hf : isFresh m = false) (ht : truE e = true) (h : PE X e (tE G cf Ex m)) : Good G cf Ex X md m e := by
  cases md with
  | true => exact tru_ok h ht
  | false => exact ⟨h, fun z => by rw [hf] at z; cases z⟩
theorem tVar_ok {i : Nat} : ∀ σ H Q, tE G cf Ex (.var i) σ H Q → tVar i σ H Q := by
  rintro σ H Q ⟨I, φ, ρ, S, s, en, h⟩
  simp only [ev] at h
  split at h
  · rename_i w hw
    obtain ⟨v, hv, r⟩ := en.at_ i w hw
    exact ⟨v, hv, KE.here h s r⟩
  · exact h.elim
theorem tCon_ok {w : W} {v : V} (r : ∀ I φ, Rel G I φ w v) : ∀ σ H Q, tE G cf Ex (.con w) σ H Q → tC v σ H Q := by
  rintro σ H Q ⟨I, φ, ρ, S, s, en, h⟩
  simp only [ev] at h
  exact KE.here h s (r _ _)
theorem lookup_mem {α : Type} {l : List (PySem.Str × α)} {x : PySem.Str} {w : α} (h : l.lookup x = some w) : (x, w) ∈ l := by
  induction l with
  | nil => cases h
  | cons p l ih =>
    obtain ⟨a, b⟩ := p
    rw [List.lookup_cons] at h
    split at h
    · rename_i hb
      cases h
      have : x = a := by simpa using hb
      subst this
      exact List.mem_cons_self
    · exact List.mem_cons_of_mem _ (ih h)
theorem conOk {w : W} {e : Expr} (h : conSyn T sc w e = true) (x : XOk T G cf Ex n sc X) : PE X e (tE G cf Ex (.con w)) ∧ truE e = true := by
  unfold conSyn at h
  split at h
  · split at h
    · cases of_decide_eq_true h
      exact ⟨PE_imp pe_int (tCon_ok fun _ _ => rfl), rfl⟩
    · cases h
  · split at h
    · obtain rfl := eq_of_beq h
      exact ⟨PE_imp pe_bl (tCon_ok fun _ _ => rfl), rfl⟩
    · cases h
  · split at h
    · exact ⟨PE_imp pe_non (tCon_ok fun _ _ => rfl), rfl⟩
    · cases h
  · split at h
    · cases of_decide_eq_true h
      exact ⟨PE_imp pe_str (tCon_ok fun _ _ => rfl), rfl⟩
    · cases h
  · simp only [Bool.and_eq_true] at h
    obtain ⟨⟨h1, h2⟩, h3⟩ := h
    have hd := (dbg_ok h2).1
    split at h3
    · rename_i hl
      cases of_decide_eq_true h3
      obtain ⟨u, v, hu, rv, r⟩ := x.csts _ _ (lookup_mem hl)
      exact ⟨PE_imp (pe_glob (x.gl h1) hu rv hd) (tCon_ok r), rfl⟩
    · rename_i hl
      cases of_decide_eq_true h3
      obtain ⟨u, v, hu, rv, r⟩ := x.csts _ _ (lookup_mem hl)
      exact ⟨PE_imp (pe_glob (x.gl h1) hu rv hd) (tCon_ok r), rfl⟩
    · cases h3
  · cases h
theorem post_bl {Ex : XK} {r : Rs W} {k : W → Sto → Prop} {f : Bool → Sto → Rs W} (h : Post G Ex I φ H (r.bind fun w S1 => match w with | .bl b => f b S1 | _ => .bad) k) : Post G Ex I φ H r fun w S1 => ∃ b, w = .bl b ∧ Post G Ex I φ H (f b S1) k := by
  refine h.bind.imp fun w S1 _ h1 => ?_
  split at h1
  · exact ⟨_, rfl, h1⟩
  · exact h1.elim
theorem notPE {a : E} : ∀ σ H Q, tE G cf Ex (.not a) σ H Q → tNotV (tE G cf Ex a) σ H Q := by
  rintro σ H Q ⟨I, φ, ρ, S, s, en, h⟩
  simp only [ev] at h
  refine ⟨I, φ, ρ, S, s, en, h.bind.imp fun w S1 _ h1 => ?_⟩
  intro v I1 φ1 H1 e1 s1 r1
  split at h1
  · obtain rfl : v = _ := r1
    exact ⟨_, rfl, (KE.ext e1 h1).here s1 rfl⟩
  · exact h1.elim
theorem notPT {a : E} : ∀ σ H Q, tT G cf Ex (.not a) σ H Q → tNot (tT G cf Ex a) σ H Q := by
  rintro σ H Q ⟨I, φ, ρ, S, s, en, h⟩
  simp only [ev] at h
  refine ⟨I, φ, ρ, S, s, en, h.bind.imp fun w S1 _ h1 => ?_⟩
  split at h1
  · obtain ⟨b, hb, q⟩ := h1
    cases hb
    exact ⟨_, rfl, q⟩
  · exact h1.elim
theorem evAnd1 {a : E} {ρ : Env} {S : Sto} : evAnd cf [a] ρ S = (ev cf a ρ S).bind fun w S1 => match w with
    | .bl b => .ok (.bl b) S1
    | _ => .bad := by
  rw [evAnd] <;> rfl
theorem evAnd2 {a b : E} {as : List E} {ρ : Env} {S : Sto} : evAnd cf (a :: b :: as) ρ S = (ev cf a ρ S).bind fun w S1 => match w with
    | .bl true => evAnd cf (b :: as) ρ S1
    | .bl false => .ok (.bl false) S1
    | _ => .bad := by
  rw [evAnd] <;> first | rfl | simp
theorem evOr1 {a : E} {ρ : Env} {S : Sto} : evOr cf [a] ρ S = (ev cf a ρ S).bind fun w S1 => match w with
    | .bl b => .ok (.bl b) S1
    | _ => .bad := by
  rw [evOr] <;> rfl
theorem evOr2 {a b : E} {as : List E} {ρ : Env} {S : Sto} : evOr cf (a :: b :: as) ρ S = (ev cf a ρ S).bind fun w S1 => match w with
    | .bl true => .ok (.bl true) S1
    | .bl false => evOr cf (b :: as) ρ S1
    | _ => .bad := by
  rw [evOr] <;> first | rfl | simp
theorem andPE {pos : Pos} : ∀ {ms : List E} {es : List Expr}, ms ≠ [] → GoodL G cf Ex X false ms es → PE X (.BoolOp .And es pos) (tE G cf Ex (.and ms))
  | [], _, h, _ => absurd rfl h
  | [m], _, _, .cons p h .nil => PE_imp (pe_one h.1) fun σ H Q ⟨I, φ, ρ, S, s, en, q⟩ => by
    simp only [ev, evAnd1] at q
    refine ⟨I, φ, ρ, S, s, en, q.bind.imp fun w S1 _ h1 => ?_⟩
    split at h1
    · exact h1
    · exact h1.elim
  | m :: m' :: ms, _, _, .cons p h (.cons p' h' t) => by
    refine PE_imp (pe_and h.1 (andPE (by simp) (.cons p' h' t))) fun σ H Q ⟨I, φ, ρ, S, s, en, q⟩ => ?_
    simp only [ev, evAnd2] at q
    refine ⟨I, φ, ρ, S, s, en, q.bind.imp fun w S1 _ h1 => ?_⟩
    intro v I1 φ1 H1 e1 s1 r1
    split at h1
    · obtain rfl : v = _ := r1
      refine ⟨true, rfl, ?_⟩
      refine ite_tt ⟨I1, φ1, ρ, S1, s1, en.ext e1, ?_⟩
      simp only [ev]
      exact h1.ext e1 fun _ _ _ k => KE.ext e1 k
    · obtain rfl : v = _ := r1
      exact ⟨false, rfl, ite_ff ((KE.ext e1 h1).here s1 rfl)⟩
    · exact h1.elim
theorem orPE {pos : Pos} : ∀ {ms : List E} {es : List Expr}, ms ≠ [] → GoodL G cf Ex X false ms es → PE X (.BoolOp .Or es pos) (tE G cf Ex (.or ms))
  | [], _, h, _ => absurd rfl h
  | [m], _, _, .cons p h .nil => PE_imp (pe_one h.1) fun σ H Q ⟨I, φ, ρ, S, s, en, q⟩ => by
    simp only [ev, evOr1] at q
    refine ⟨I, φ, ρ, S, s, en, q.bind.imp fun w S1 _ h1 => ?_⟩
    split at h1
    · exact h1
    · exact h1.elim
  | m :: m' :: ms, _, _, .cons p h (.cons p' h' t) => by
    refine PE_imp (pe_or h.1 (orPE (by simp) (.cons p' h' t))) fun σ H Q ⟨I, φ, ρ, S, s, en, q⟩ => ?_
    simp only [ev, evOr2] at q
    refine ⟨I, φ, ρ, S, s, en, q.bind.imp fun w S1 _ h1 => ?_⟩
    intro v I1 φ1 H1 e1 s1 r1
    split at h1
    · obtain rfl : v = _ := r1
      exact ⟨true, rfl, ite_tt ((KE.ext e1 h1).here s1 rfl)⟩
    · obtain rfl : v = _ := r1
      refine ⟨false, rfl, ?_⟩
      refine ite_ff ⟨I1, φ1, ρ, S1, s1, en.ext e1, ?_⟩
      simp only [ev]
      exact h1.ext e1 fun _ _ _ k => KE.ext e1 k
    · exact h1.elim
theorem andPT {pos : Pos} : ∀ {ms : List E} {es : List Expr}, ms ≠ [] → GoodL G cf Ex X true ms es → PW X (.BoolOp .And es pos) (tT G cf Ex (.and ms))
  | [], _, h, _ => absurd rfl h
  | [m], _, _, .cons p h .nil => PW_imp (pw_and1 h) fun σ H Q ⟨I, φ, ρ, S, s, en, q⟩ => by
    simp only [ev, evAnd1] at q
    refine ⟨I, φ, ρ, S, s, en, q.bind.imp fun w S1 _ h1 => ?_⟩
    split at h1
    · exact h1
    · exact h1.elim
  | m :: m' :: ms, _, _, .cons p h (.cons p' h' t) => by
    refine PW_imp (pw_and h (andPT (by simp) (.cons p' h' t))) fun σ H Q ⟨I, φ, ρ, S, s, en, q⟩ => ?_
    simp only [ev, evAnd2] at q
    refine ⟨I, φ, ρ, S, s, en, q.bind.imp fun w S1 _ h1 => ?_⟩
    split at h1
    · refine ⟨true, rfl, fun I1 φ1 H1 e1 s1 => ite_tt ⟨I1, φ1, ρ, S1, s1, en.ext e1, ?_⟩⟩
      simp only [ev]
      exact h1.ext e1 fun _ _ _ ⟨b, hb, k⟩ => ⟨b, hb, fun I2 φ2 H2 e2 s2 => k I2 φ2 H2 (e1.trans e2) s2⟩
    · obtain ⟨b, hb, k⟩ := h1
      cases hb
      exact ⟨false, rfl, fun I1 φ1 H1 e1 s1 => ite_ff (k _ _ _ e1 s1)⟩
    · exact h1.elim
theorem orPT {pos : Pos} : ∀ {ms : List E} {es : List Expr}, ms ≠ [] → GoodL G cf Ex X true ms es → PW X (.BoolOp .Or es pos) (tT G cf Ex (.or ms))
  | [], _, h, _ => absurd rfl h
  | [m], _, _, .cons p h .nil => PW_imp (pw_or1 h) fun σ H Q ⟨I, φ, ρ, S, s, en, q⟩ => by
    simp only [ev, evOr1] at q
    refine ⟨I, φ, ρ, S, s, en, q.bind.imp fun w S1 _ h1 => ?_⟩
    split at h1
    · exact h1
    · exact h1.elim
  | m :: m' :: ms, _, _, .cons p h (.cons p' h' t) => by
    refine PW_imp (pw_or h (orPT (by simp) (.cons p' h' t))) fun σ H Q ⟨I, φ, ρ, S, s, en, q⟩ => ?_
    simp only [ev, evOr2] at q
    refine ⟨I, φ, ρ, S, s, en, q.bind.imp fun w S1 _ h1 => ?_⟩
    split at h1
    · obtain ⟨b, hb, k⟩ := h1
      cases hb
      exact ⟨true, rfl, fun I1 φ1 H1 e1 s1 => ite_tt (k _ _ _ e1 s1)⟩
    · refine ⟨false, rfl, fun I1 φ1 H1 e1 s1 => ite_ff ⟨I1, φ1, ρ, S1, s1, en.ext e1, ?_⟩⟩
      simp only [ev]
      exact h1.ext e1 fun _ _ _ ⟨b, hb, k⟩ => ⟨b, hb, fun I2 φ2 H2 e2 s2 => k I2 φ2 H2 (e1.trans e2) s2⟩
    · exact h1.elim
theorem ifeOk {c a b : E} : ∀ σ H Q, tE G cf Ex (.ife c a b) σ H Q → tIf (tT G cf Ex c) (tE G cf Ex a) (tE G cf Ex b) σ H Q := by
  rintro σ H Q ⟨I, φ, ρ, S, s, en, h⟩
  simp only [ev] at h
  refine ⟨I, φ, ρ, S, s, en, h.bind.imp fun w S1 _ h1 => ?_⟩
  split at h1
  · exact ⟨true, rfl, fun I1 φ1 H1 e1 s1 => ite_tt ⟨I1, φ1, ρ, S1, s1, en.ext e1, h1.ext e1 fun _ _ _ k => KE.ext e1 k⟩⟩
  · exact ⟨false, rfl, fun I1 φ1 H1 e1 s1 => ite_ff ⟨I1, φ1, ρ, S1, s1, en.ext e1, h1.ext e1 fun _ _ _ k => KE.ext e1 k⟩⟩
  · exact h1.elim
theorem chainOk {o1 o2 : Op} {a b c : E} : ∀ σ H Q, tE G cf Ex (.chain o1 o2 a b c) σ H Q → tChain (fun x y => rOp G o1 [x, y]) (fun x y => rOp G o2 [x, y]) (tE G cf Ex a) (tE G cf Ex b) (tE G cf Ex c) σ H Q := by
  rintro σ H Q ⟨I, φ, ρ, S, s, en, h⟩
  simp only [ev] at h
  refine ⟨I, φ, ρ, S, s, en, h.bind.imp fun x S1 _ h1 => ?_⟩
  intro xv I1 φ1 H1 e1 s1 r1
  refine ⟨I1, φ1, ρ, S1, s1, en.ext e1, h1.bind.ext e1 fun y S2 _ h2 => ?_⟩
  intro yv I2 φ2 H2 e2 s2 r2
  have e12 := e1.trans e2
  split at h2
  · rename_i hop
    refine ⟨I2, φ2, S2, _, _, s2, .cons (r1.ext e2) (.cons r2 .nil), hop, ?_⟩
    intro z I3 φ3 H3 e3 s3 r3
    obtain rfl : z = _ := r3
    refine ⟨true, rfl, ite_tt ⟨I3, φ3, ρ, S2, s3, (en.ext e12).ext e3, h2.bind.ext (e12.trans e3) fun w S4 _ h4 => ?_⟩⟩
    intro wv I4 φ4 H4 e4 s4 r4
    obtain ⟨u, hu, k⟩ := Post.ofO h4
    exact ⟨I4, φ4, S4, _, u, s4, .cons ((r2.ext e3).ext e4) (.cons r4 .nil), hu, KE.ext ((e12.trans e3).trans e4) k⟩
  · rename_i hop
    refine ⟨I2, φ2, S2, _, _, s2, .cons (r1.ext e2) (.cons r2 .nil), hop, ?_⟩
    intro z I3 φ3 H3 e3 s3 r3
    obtain rfl : z = _ := r3
    exact ⟨false, rfl, ite_ff ((KE.ext (e12.trans e3) h2).here s3 rfl)⟩
  · exact h2.elim
theorem fresh_op {o : Op} {ws : List W} {S : Sto} {w : W} (hf : freshOp o = true) (h : opSem o ws S = some w) : ∀ t ks vs, w ≠ .dic t ks vs := by
  rintro t ks vs rfl
  cases o <;> first | (cases hf; done) | skip
  · -- add
    unfold opSem at h
    split at h <;> try (cases h; done)
    all_goals try (rename_i hh; cases hh; done)
    rename_i x y hh
    unfold opAdd at h
    split at h
    · cases h
    · split at h <;> cases h
    · split at h
      · split at h <;> cases h
      · cases h
  · -- mul
    unfold opSem at h
    split at h <;> try (cases h; done)
    all_goals try (rename_i hh; cases hh; done)
    rename_i x y hh
    rcases opMul_cases h with ⟨_, _, _, _, _, z⟩ | ⟨_, _, _, _, _, _, z⟩ | ⟨_, _, _, _, _, _, z⟩ <;> cases z
  · unfold opSem at h
    split at h <;> try (cases h; done)
    all_goals try (rename_i hh; cases hh; done)
    rename_i hh
    cases hp : partsOf _ _ _ with
    | none => rw [hp] at h; cases h
    | some b =>
      rw [hp] at h
      simp only [Option.bind_some] at h
      unfold sliceSem at h
      split at h
      · split at h <;> cases h
      · cases h
      · simp at h
  · obtain ⟨xs, hx⟩ := listSem_lst h
    cases hx
  · obtain ⟨xs, hx⟩ := sortedSem_lst h
    cases hx
  · have : opSem .lstD ws S = if ws.length < LIM then some (.lst ws) else none := by simp [opSem]
    rw [this] at h
    split at h <;> cases h
  · obtain ⟨a, n, _, _, hw⟩ := rg_sem h
    unfold rgW at hw
    split at hw <;> cases hw
theorem fresh_compR {elt : E} {t : Tg} {a : E} {cond : List E} {own : List Nat} {ρ : Env} {S S' : Sto} {w : W} (h : ev cf (.compR elt t a cond own) ρ S = .ok w S') : ∃ xs, w = .lst xs := by
  simp only [ev] at h
  cases he : ev cf a ρ S with
  | ok u S1 =>
    rw [he] at h
    simp only [Rs.bind] at h
    split at h
    · rename_i u' m
      cases hc : compC (fun ρ' S' => ev cf elt ρ' S') (fun ρ' S' => evAll cf cond ρ' S') t (Tw.wipe ρ own) m LIM 0 S1 with
      | ok ys S2 => rw [hc] at h; cases h; exact ⟨ys, rfl⟩
      | ex c S2 => rw [hc] at h; cases h
      | bad => rw [hc] at h; cases h
    · cases h
  | ex c S1 => rw [he] at h; cases h
  | bad => rw [he] at h; cases h
theorem fresh_ev {a : E} (hf : isFresh a = true) {ρ : Env} {S S' : Sto} {w : W} (h : ev cf a ρ S = .ok w S') : ∀ t ks vs, w ≠ .dic t ks vs := by
  cases a <;> first | (cases hf; done) | skip
  · rename_i o as
    simp only [ev] at h
    cases he : evs cf as ρ S with
    | ok ws S1 =>
      rw [he] at h
      simp only [Rs.bind] at h
      cases ho : opSem o ws S1 with
      | none => rw [ho] at h; cases h
      | some u => rw [ho] at h; cases h; exact fresh_op hf ho
    | ex c S1 => rw [he] at h; cases h
    | bad => rw [he] at h; cases h
  · rename_i elt t k srcs cond own
    simp only [ev] at h
    cases he : evs cf srcs ρ S with
    | ok ws S1 =>
      rw [he] at h
      simp only [Rs.bind] at h
      split at h
      · split at h
        · rename_i xs _ _
          cases hc : compL (fun ρ' S' => ev cf elt ρ' S') (fun ρ' S' => evAll cf cond ρ' S') t (Tw.wipe ρ own) xs S1 with
          | ok ys S2 => rw [hc] at h; cases h; intro _ _ _ z; cases z
          | ex c S2 => rw [hc] at h; cases h
          | bad => rw [hc] at h; cases h
        · cases h
      · cases h
    | ex c S1 => rw [he] at h; cases h
    | bad => rw [he] at h; cases h
  · obtain ⟨xs, rfl⟩ := fresh_compR h
    intro _ _ _ z
    cases z
theorem mutOk {a : E} (hf : isFresh a = true) : ∀ σ H Q, tE G cf Ex (.mut a) σ H Q → tF G cf Ex a σ H Q := by
  rintro σ H Q ⟨I, φ, ρ, S, s, en, h⟩
  simp only [ev] at h
  refine ⟨I, φ, ρ, S, s, en, h.bind.imp fun w S1 hw h1 => ?_⟩
  split at h1
  · rename_i xs
    refine ⟨xs, rfl, ?_⟩
    intro p us I1 φ1 H1 e1 s1 hp r hlen
    have h1 : KE G I φ H (S1 ++ [.lst xs]) (.ref S1.length) Q := h1
    obtain ⟨s2, e2⟩ := s1.newC (o := .lst xs) (u := .lst us) hp ⟨us, upd_same, r.mono (Same.refl _) ⟨[p], rfl⟩⟩
    exact (KE.ext (e1.trans e2) h1).here s2 ⟨p, rfl, by rw [← s1.len]; simp⟩
  · exact absurd rfl (fresh_ev hf hw _ _ _)
  · exact h1.elim
theorem dicOk {t : Bool} {e : Expr} (h : dicSyn e = true) : PE X e (tE G cf Ex (.mut (.op (.dicD t) []))) := by
  unfold dicSyn at h
  split at h
  · cases t with
    | false =>
      refine PE_imp pe_dnewK ?_
      rintro σ H Q ⟨I, φ, ρ, S, s, en, h⟩ p hp
      simp only [ev, evs, Rs.bind, ofO, opSem] at h
      have h1 : KE G I φ H (S ++ [.dic false [] []]) (.ref S.length) Q := h
      obtain ⟨s2, e2⟩ := s.newC (o := .dic false [] []) (u := .dK []) hp ⟨[], upd_same, rfl, rfl⟩
      exact (KE.ext e2 h1).here s2 ⟨p, rfl, by rw [← s.len]; simp⟩
    | true =>
      refine PE_imp pe_dnewT ?_
      rintro σ H Q ⟨I, φ, ρ, S, s, en, h⟩ p hp
      simp only [ev, evs, Rs.bind, ofO, opSem] at h
      have h1 : KE G I φ H (S ++ [.dic true [] []]) (.ref S.length) Q := h
      obtain ⟨s2, e2⟩ := s.newC (o := .dic true [] []) (u := .dT []) hp ⟨[], upd_same, rfl, rfl⟩
      exact (KE.ext e2 h1).here s2 ⟨p, rfl, by rw [← s.len]; simp⟩
  · cases h
theorem upd_rm2 {D : Addr} {o : HO} : upd (rm H D) D o = upd H D o := by
  funext a
  by_cases z : a = D
  · rw [z, upd_same, upd_same]
  · rw [upd_ne z, upd_ne z, rm_ne z]
theorem dispOk {k v : E} : ∀ σ H Q, tE G cf Ex (.disp k v) σ H Q → tDisp [(tE G cf Ex k, tE G cf Ex v)] σ H Q := by
  rintro σ H Q ⟨I, φ, ρ, S, s, en, h⟩ p hp
  simp only [ev] at h
  have s0 : Sim G I φ S (upd H p (.dK [])) := Sim.plusD (D := p) (by rw [rm_upd, rm_none hp]; exact s)
  have s0' : Sim G I φ S (rm (upd H p (.dK [])) p) := by rw [rm_upd, rm_none hp]; exact s
  refine ⟨I, φ, ρ, S, s0, en, h.bind.ext (ext_plus hp) fun x S1 _ h1 => ?_⟩
  intro xv I1 φ1 H1 e1 s1 r1
  obtain ⟨s1r, e1r, hp1⟩ := peel s0' upd_same e1 s1
  refine ⟨I1, φ1, ρ, S1, s1, en.ext e1, h1.bind.ext ((ext_plus hp).trans e1) fun y S2 _ h2 => ?_⟩
  intro yv I2 φ2 H2 e2 s2 r2
  obtain ⟨s2r, e2r, hp2⟩ := peel s1r hp1 e2 s2
  refine ⟨hp2, ?_⟩
  split at h2
  · rename_i hk
    obtain ⟨key, rfl, rfl⟩ := keyF r1 hk
    refine ⟨[(key, yv)], rfl, by simp, ?_⟩
    obtain ⟨s3, e3⟩ := s2r.newC (o := .dic false [kW key] [y]) (u := .dK [(key, yv)]) rm_self ⟨[(key, yv)], upd_same, rfl, (Rels.one r2).mono (Same.refl _) ⟨[p], rfl⟩⟩
    have h2 : KE G I φ H (S2 ++ [.dic false [kW key] [y]]) (.ref S2.length) Q := h2
    have eb : Ext I φ H I2 φ2 (rm H2 p) := by
      have := e1r.trans e2r
      rw [rm_upd, rm_none hp] at this
      exact this
    have := (KE.ext (eb.trans e3) h2).here s3 ⟨p, rfl, by rw [← s2.len]; simp⟩
    rw [upd_rm2] at this
    exact this
  · exact h2.elim
theorem toIOk {a : E} : ∀ σ H Q, tE G cf Ex (.toI a) σ H Q → tE G cf Ex a σ H Q := by
  rintro σ H Q ⟨I, φ, ρ, S, s, en, h⟩
  simp only [ev] at h
  refine ⟨I, φ, ρ, S, s, en, h.bind.imp fun w S1 _ h1 => ?_⟩
  split at h1
  · exact h1
  · exact h1.elim
theorem evs_len {ρ : Env} : ∀ (as : List E) (S S1 : Sto) (ws : List W), evs cf as ρ S = .ok ws S1 → ws.length = as.length := by
  intro as
  induction as with
  | nil => intro S S1 ws h; rw [evs_nil] at h; cases h; rfl
  | cons a as ih =>
    intro S S1 ws h
    rw [evs_cons] at h
    cases ha : ev cf a ρ S with
    | ok w S2 =>
      rw [ha] at h
      cases hb : evs cf as ρ S2 with
      | ok ws' S3 =>
        simp only [Rs.bind, hb] at h
        cases h
        simp [ih _ _ _ hb]
      | ex c S3 => simp only [Rs.bind, hb] at h; cases h
      | bad => simp only [Rs.bind, hb] at h; cases h
    | ex c S2 => rw [ha] at h; cases h
    | bad => rw [ha] at h; cases h
/-! ### calls where what is raised is wished for at the slots -/
section
variable {k : Nat} {f C : Addr} {fd : FuncData} {ps : List PySem.Str} {sp : Sp} {x m : PySem.Str} {p pos apos : Pos} {e o : Expr} {es : List Expr} {ta : TE} {t : TA}
theorem pe_callS0 (F : FnOk X.prog X.w X.K X.mg X.base (L2.CX X.prog X.w) k f fd ps sp) (hr : Room k X.A) (hg : Gl X x) (hm : X.mg x = some (.ref f)) (hk : PySem.W.keepIn X.K (.ref f) = true) (hb : Binds X.K fd ps []) (hx : ∀ σ, PassesAt (L2.CX X.prog X.w) X σ (Ex σ))
    (hdb : (x == ("__debug__" : PySem.Str)) = false) : PE X (.Call (.Name x p) [] [] pos) (tCallS sp Ex tNil) := .mk fun pins s σ H Q J h =>
  wpAny_Call_Name_kw (ld_glob J hg hm (PySem.W.callWith_K0 J.kIn hk (run_fnS (us := []) F hr hb (hx σ) J .nil h)) hdb)
def tMethS (C : Addr) (m : PySem.Str) (sp : Sp) (Ex : L2.St → XK) (ta : TE) (t : TA) : TE := fun σ H Q => ta σ H fun x H1 => ∃ a dx fs, x = .ref a ∧ H1 a = some (.ins C dx fs) ∧ fs.lookup m = none ∧ t σ H1 fun vs H2 => sp (x :: vs) H2 Q (Ex σ)
theorem meth_tree {m : PySem.Str} (args : List Expr) (h : args.all plainE = true) (hb : baseE o = true) : True := trivial
theorem pe_methS1 {pl : Sem Bool} (he : PE X o ta) (c : Cls X.K C) (hm : Meth X.K C m f) (F : FnOk X.prog X.w X.K X.mg X.base (L2.CX X.prog X.w) k f fd ps sp) (hr : Room k X.A) (hb : Binds X.K fd ps []) (hx : ∀ σ, PassesAt (L2.CX X.prog X.w) X σ (Ex σ)) (ha : PA X (e :: es) t)
    (hst : starEach (e :: es) X.env = (false, eval e X.env) :: starEach es X.env) (hpl : (backTo pos (starEach es X.env)).any (·.1) = false)
    (ht : eval (.Call (.Attribute o m apos) (e :: es) [] pos) X.env = (do
      let y ← eval o X.env
      standAt apos.atName
      let (g, gs) ← holding [y] (getMethod y m pl)
      callWith pos g gs (backTo pos (starEach (e :: es) X.env)) (backToKw pos (keywordEach [] X.env)))) :
    PE X (.Call (.Attribute o m apos) (e :: es) [] pos) (tMethS C m sp Ex ta t) := .mk fun pins s σ H Q J h => by
  refine PySem.W.methodCall_KW (pl := pl) (thn (he.run pins s σ H _ J h) fun u s1 hu => ?_) ht
  obtain ⟨_, H1, J1, rx, a, dx, fs, rfl, ea, l, q⟩ := hu
  cases rx
  refine getmeth_ok J1 ea c hm l (PySem.W.callWith_K (first := [.ref a]) (h₀ := X.base) J.ok.mod.kin hm.kp (thn (ha.run pos pins s1 σ H1 _ J1 q) fun us s2 hq => ?_) hst hpl)
  obtain ⟨vs, H2, J2, r, q2⟩ := hq
  exact ⟨J2.kIn, run_fnS (us := .ref a :: us) (vs := .ref a :: vs) F hr hb (hx σ) J2 (.cons rfl r) q2⟩
theorem pe_methS0 {pl : Sem Bool} (he : PE X o ta) (c : Cls X.K C) (hm : Meth X.K C m f) (F : FnOk X.prog X.w X.K X.mg X.base (L2.CX X.prog X.w) k f fd ps sp) (hr : Room k X.A) (hb : Binds X.K fd ps []) (hx : ∀ σ, PassesAt (L2.CX X.prog X.w) X σ (Ex σ))
    (ht : eval (.Call (.Attribute o m apos) [] [] pos) X.env = (do
      let y ← eval o X.env
      standAt apos.atName
      let (g, gs) ← holding [y] (getMethod y m pl)
      callWith pos g gs (backTo pos (starEach [] X.env)) (backToKw pos (keywordEach [] X.env)))) :
    PE X (.Call (.Attribute o m apos) [] [] pos) (tMethS C m sp Ex ta tNil) := .mk fun pins s σ H Q J h => by
  refine PySem.W.methodCall_KW (pl := pl) (thn (he.run pins s σ H _ J h) fun u s1 hu => ?_) ht
  obtain ⟨_, H1, J1, rx, a, dx, fs, rfl, ea, l, q⟩ := hu
  cases rx
  exact getmeth_ok J1 ea c hm l (PySem.W.callWith_K0 (first := [.ref a]) J1.kIn hm.kp (run_fnS (us := [.ref a]) (vs := [.ref a]) F hr hb (hx σ) J1 (.cons rfl .nil) q))
def tMakeS (C : Addr) (sp : Sp) (Ex : L2.St → XK) (t : TA) : TE := fun σ H Q => t σ H fun vs H1 => ∀ x dx, H1 x = none → H1 dx = none → dx ≠ x →
  sp (.ref x :: vs) (upd (upd H1 dx (.own x)) x (.ins C dx [])) (fun v H2 => v = .non ∧ Q (.ref x) H2) (Ex σ)
theorem run_makeS {E1 : XK} {pins : List (Addr × Obj)} {σ : L2.St} {H : Hp} {s : Shared} {Q : VK} {us : List Value} {vs : List V} (M : Mk X.K C f) (F : FnOk X.prog X.w X.K X.mg X.base (L2.CX X.prog X.w) k f fd ps sp) (hr : Room (k + 1) X.A) (hb : Binds X.K fd ps [])
    (hx : PassesAt (L2.CX X.prog X.w) X σ E1) (J : L2.Inv X pins σ H s) (r : Vals vs us)
    (h : ∀ x dx, H x = none → H dx = none → dx ≠ x → sp (.ref x :: vs) (upd (upd H dx (.own x)) x (.ins C dx [])) (fun v H2 => v = .non ∧ Q (.ref x) H2) E1) :
    wpAny (model X.prog X.w) X.A (call (.ref C) us) (EP X pins σ Q) X.xe s := by
  have hq := h _ _ (J.hok.fresh (Nat.le_succ _)) (J.hok.fresh (Nat.le_refl s.heap.objs.size)) (Nat.ne_of_lt (Nat.lt_succ_self _))
  have J2 := Inv.made (C := C) J
  have r2 : Vals (V.ref (s.heap.objs.size + 1) :: vs) (Value.ref (s.heap.objs.size + 1) :: us) := .cons rfl r
  have hl : ((Value.ref (s.heap.objs.size + 1) :: us) ++ []).length = ps.length := by rw [List.append_nil, ← r2.length, F.len _ _ _ _ hq]
  have hbt := hb _ (Value.ref (s.heap.objs.size + 1) :: us) J2.kIn hl
  rw [List.append_nil] at hbt
  refine wpAny_call (make_map (f := f) J.kIn M.makes M.init (beq_iff_eq.mp M.fn) (codeAny_mono (F.run _ X.stack _ _ ⟨Value.ref (s.heap.objs.size + 1) :: us, []⟩ _ _ _ E1 (hr.make C us []) (J2.env0.make C us []) hbt r2 hq) fun rs s' hq' => ?_))
  rcases rs with e | fl
  · exact hx pins _ _ e s' J2 hq'
  · cases fl with
    | ret u =>
      obtain ⟨v, H', J3, rv, hv, q3⟩ := J2.after hq'
      rw [hv] at rv
      exact ⟨rv, ⟨.ref (s.heap.objs.size + 1), H', J3, rfl, q3⟩⟩
    | _ => exact hq'.elim
theorem pe_makeS1 (M : Mk X.K C f) (F : FnOk X.prog X.w X.K X.mg X.base (L2.CX X.prog X.w) k f fd ps sp) (hr : Room (k + 1) X.A) (hg : Gl X x) (hm : X.mg x = some (.ref C)) (hb : Binds X.K fd ps []) (hx : ∀ σ, PassesAt (L2.CX X.prog X.w) X σ (Ex σ))
    (ha : PA X (e :: es) t) (hdb : (x == ("__debug__" : PySem.Str)) = false) (he : starEach (e :: es) X.env = (false, eval e X.env) :: starEach es X.env) (hpl : (backTo pos (starEach es X.env)).any (·.1) = false) :
    PE X (.Call (.Name x p) (e :: es) [] pos) (tMakeS C sp Ex t) := .mk fun pins s σ H Q J h =>
  wpAny_Call_Name_kw (ld_glob J hg hm (PySem.W.callWith_K (h₀ := X.base) J.ok.mod.kin M.kp (thn (ha.run pos pins s σ H _ J h) fun us s1 hq => by
    obtain ⟨vs, H1, J1, r, q⟩ := hq
    exact ⟨J1.kIn, run_makeS M F hr hb (hx σ) J1 r q⟩) he hpl) hdb)
theorem pe_makeS0 (M : Mk X.K C f) (F : FnOk X.prog X.w X.K X.mg X.base (L2.CX X.prog X.w) k f fd ps sp) (hr : Room (k + 1) X.A) (hg : Gl X x) (hm : X.mg x = some (.ref C)) (hb : Binds X.K fd ps []) (hx : ∀ σ, PassesAt (L2.CX X.prog X.w) X σ (Ex σ))
    (hdb : (x == ("__debug__" : PySem.Str)) = false) : PE X (.Call (.Name x p) [] [] pos) (tMakeS C sp Ex tNil) := .mk fun pins s σ H Q J h =>
  wpAny_Call_Name_kw (ld_glob J hg hm (PySem.W.callWith_K0 J.kIn M.kp (run_makeS (us := []) M F hr hb (hx σ) J .nil h)) hdb)
end
theorem callOk {m : Md} {f : Nat} {as : List E} {e : Expr} {es : List Expr} (h : callSyn T sc f as.length e = some es) (hcm : T.cm = true) (x : XOk T G cf Ex n sc X) (p : PEs G cf Ex X as es) : PE X e (tE G cf Ex (.call m f as)) ∧ truE e = true := by
  unfold callSyn at h
  split at h
  · split at h
    · rename_i hc
      cases h
      simp only [Bool.and_eq_true, decide_eq_true_eq] at hc
      obtain ⟨⟨hg, hd⟩, hm⟩ := hc
      obtain ⟨fa, fd, ps, hl, h1, h2, h3, h4⟩ := x.fns _ _ _ hm
      refine ⟨?_, rfl⟩
      have key : ∀ σ H Q, tE G cf Ex (.call m f as) σ H Q → tCallS (spF G cf f as.length) Ex (tA G cf Ex as) σ H Q := by
        rintro σ H Q ⟨I, φ, ρ, S, s, en, h⟩
        simp only [ev] at h
        refine ⟨I, φ, ρ, S, s, en, h.bind.imp fun ws S1 hws hk => ?_⟩
        intro vs I1 φ1 H1 e1 s1 r1
        refine ⟨?_, call_ok s1 r1 (hk.ext e1 fun _ _ _ k => KE.ext e1 k)⟩
        rw [r1.length]
        exact evs_len as S S1 ws hws
      have hroom := (x.room hcm).mono (show 2 * n ≤ 2 * n + 1 by omega)
      cases p with
      | nil => exact PE_imp (pe_callS0 h4 hroom (x.gl hg) h1 h2 h3 x.pass (dbg_ok hd).1) fun σ H Q q => tA_nil (key σ H Q q)
      | cons hp hh t => exact PE_imp (pe_callS h4 hroom (x.gl hg) h1 h2 h3 x.pass (PEs.cons hp hh t).pa (dbg_ok hd).1 (star_plain hp) (star_none t.all)) key
    · cases h
  · cases h
theorem newOk {m : Md} {c f : Nat} {as : List E} {e : Expr} {es : List Expr} (h : newSyn T sc c f as.length e = some es) (hcm : T.cm = true) (x : XOk T G cf Ex n sc X) (p : PEs G cf Ex X as es) : PE X e (tE G cf Ex (.new m c f as)) ∧ truE e = true := by
  unfold newSyn at h
  split at h
  · split at h
    · rename_i hc
      cases h
      simp only [Bool.and_eq_true, List.any_eq_true, decide_eq_true_eq, beq_iff_eq] at hc
      obtain ⟨⟨hg, hd⟩, cl, hcl, ⟨⟨rfl, rfl⟩, rfl⟩, hnp⟩ := hc
      obtain ⟨h1, _, _, _, _, _, fa, fd, ps, hl, hM, hB, hF⟩ := x.cls cl hcl
      refine ⟨?_, rfl⟩
      have key : ∀ σ H Q, tE G cf Ex (.new m cl.c cl.init as) σ H Q → tMakeS (G.cad cl.c) (spF G cf cl.init cl.np) Ex (tA G cf Ex as) σ H Q := by
        rintro σ H Q ⟨I, φ, ρ, S, s, en, h⟩
        simp only [ev] at h
        refine ⟨I, φ, ρ, S, s, en, h.bind.imp fun ws S1 hws hk => ?_⟩
        intro vs I1 φ1 H1 e1 s1 r1 a dx ha hdx hne
        refine ⟨?_, new_ok s1 r1 (hk.ext e1 fun _ _ _ k => KE.ext e1 k) ha hdx hne⟩
        rw [List.length_cons, r1.length, evs_len as S S1 ws hws, hnp]
      cases p with
      | nil => exact PE_imp (pe_makeS0 hM hF (x.room hcm) (x.gl hg) h1 hB x.pass (dbg_ok hd).1) fun σ H Q q => tA_nil (key σ H Q q)
      | cons hp hh t => exact PE_imp (pe_makeS1 hM hF (x.room hcm) (x.gl hg) h1 hB x.pass (PEs.cons hp hh t).pa (dbg_ok hd).1 (star_plain hp) (star_none t.all)) key
    · cases h
  · cases h
theorem recRel {w : W} {v : V} {c : Nat} {xs : List W} (s : Sim G I φ S H) (r : Rel G I φ w v) (e : recOf S w = some (c, xs)) : ∃ a dx fs, v = .ref a ∧ H a = some (.ins (G.cad c) dx fs) ∧ fs.map (·.1) = (G.fld c).take fs.length ∧ Rels G I φ xs (fs.map (·.2)) := by
  cases w with
  | rcd c' ys =>
    cases e
    obtain ⟨a, dx, fs, rfl, h1, h2, h3⟩ := r
    exact ⟨a, dx, fs, rfl, s.same _ _ h1, h2, h3⟩
  | ref m =>
    obtain ⟨a, rfl, ha⟩ := r
    simp only [recOf] at e
    split at e
    · rename_i c' ys hS
      cases e
      obtain ⟨dx, fs, h1, h2, h3⟩ := s.cell m a _ ha hS
      exact ⟨a, dx, fs, rfl, h1, h2, h3⟩
    · cases e
  | _ => simp [recOf] at e
theorem lookup_none {fs : List (PySem.Str × V)} {m : PySem.Str} (h : m ∉ fs.map (·.1)) : fs.lookup m = none := by
  induction fs with
  | nil => rfl
  | cons p fs ih =>
    obtain ⟨a, b⟩ := p
    simp only [List.map_cons, List.mem_cons, not_or] at h
    rw [List.lookup_cons, (by simpa using h.1 : (m == a) = false)]
    exact ih h.2
theorem lookup_at {fs : List (PySem.Str × V)} {m : PySem.Str} {i : Nat} {v : V} (hn : (fs.map (·.1)).Nodup) (h1 : (fs.map (·.1))[i]? = some m) (h2 : (fs.map (·.2))[i]? = some v) : fs.lookup m = some v := by
  induction fs generalizing i with
  | nil => simp at h1
  | cons p fs ih =>
    obtain ⟨a, b⟩ := p
    rw [List.map_cons, List.nodup_cons] at hn
    cases i with
    | zero =>
      simp at h1 h2
      subst h1 h2
      simp [List.lookup]
    | succ i =>
      simp only [List.map_cons, List.getElem?_cons_succ] at h1 h2
      have hne : (m == a) = false := by
        rw [Bool.eq_false_iff]
        intro z
        rw [beq_iff_eq] at z
        exact hn.1 (z ▸ List.mem_of_getElem? h1)
      rw [List.lookup_cons, hne]
      exact ih hn.2 h1 h2
theorem fldOk {c i : Nat} {a : E} {e b : Expr} (h : fldSyn T c i e = some b) (x : XOk T G cf Ex n sc X) (ho : PE X b (tE G cf Ex a)) : PE X e (tE G cf Ex (.fld c i a)) ∧ truE e = true := by
  unfold fldSyn at h
  split at h
  · split at h
    · rename_i o f pos hc
      cases h
      simp only [Bool.and_eq_true, List.any_eq_true, decide_eq_true_eq, beq_iff_eq] at hc
      obtain ⟨hb, cl, hcl, rfl, hfi⟩ := hc
      obtain ⟨_, hC, _, hG, hnd, hN, _⟩ := x.cls cl hcl
      refine ⟨PE_imp (pe_fld ho (base_ok hb)) fun σ H Q ⟨I, φ, ρ, S, s, en, q⟩ => ?_, rfl⟩
      simp only [ev] at q
      refine tE_step s en (q.bind.imp fun w S1 _ h1 => ?_)
      intro v I1 φ1 H1 e1 s1 r1
      obtain ⟨u, hu, k⟩ := Post.ofO h1
      unfold fldSem at hu
      split at hu
      · rename_i c' xs hr
        split at hu
        · rename_i hcc
          subst hcc
          obtain ⟨p, dx, fs, rfl, hp, hf, rr⟩ := recRel s1 r1 hr
          obtain ⟨y, hy, ry⟩ := rr.get hu
          have hil : i < fs.length := by have := (List.getElem?_eq_some_iff.mp hy).1; simpa using this
          have h1' : (fs.map (·.1))[i]? = some f := by rw [hf, hG, List.getElem?_take, if_pos hil]; exact hfi
          have hnd' : (fs.map (·.1)).Nodup := by rw [hf, hG]; exact hnd.sublist (List.take_sublist _ _)
          exact ⟨p, _, dx, fs, y, rfl, hp, hC.toCls, hN f (List.mem_of_getElem? hfi), lookup_at hnd' h1' hy, (KE.ext e1 k).here s1 ry⟩
        · cases hu
      · cases hu
    · cases h
  · cases h
theorem meth_eval {o : Expr} {m : PySem.Str} {apos pos : Pos} {args : List Expr} {env : PySem.Env} (hb : baseE o = true) (hp : args.all plainE = true) (hl : args.length < 30) (hline : (apos.endLine == pos.line) = true) :
    ∃ pl : Sem Bool, eval (.Call (.Attribute o m apos) args [] pos) env = (do
      let y ← eval o env
      standAt apos.atName
      let (g, gs) ← holding [y] (getMethod y m pl)
      callWith pos g gs (backTo pos (starEach args env)) (backToKw pos (keywordEach [] env))) := by
  have hform : methodCallForm (args.length + ([] : List Keyword).length) (backTo pos (starEach args env)) (backToKw pos (keywordEach [] env)) = true := few_ok hp hl
  have hpos : methodCallPos true o env apos pos = pure pos := by unfold methodCallPos; simp [hline]
  refine ⟨do return (← importBound o env).getD true, ?_⟩
  rw [arm_eval_Call, base_ok hb]
  unfold methodCall
  rw [hform, hpos]
  rfl
theorem mcSyn_parts {c f k : Nat} {e b : Expr} {es : List Expr} (h : mcSyn T c f k e = some (b, es)) : ∃ mn apos cpos, e = .Call (.Attribute b mn apos) es [] cpos ∧ baseE b = true ∧ (apos.endLine == cpos.line) = true ∧ es.length < 30 ∧ (c, mn, f, k + 1) ∈ T.mts := by
  unfold mcSyn at h
  split at h
  · split at h
    · rename_i hc
      cases h
      simp only [Bool.and_eq_true, decide_eq_true_eq] at hc
      exact ⟨_, _, _, rfl, hc.1.1.1, hc.1.1.2, hc.1.2, hc.2⟩
    · cases h
  · cases h
theorem mcOk {m : Md} {c f : Nat} {a : E} {as : List E} {e b : Expr} {es : List Expr} (h : mcSyn T c f as.length e = some (b, es)) (hcm : T.cm = true) (x : XOk T G cf Ex n sc X) (ho : PE X b (tE G cf Ex a)) (p : PEs G cf Ex X as es) : PE X e (tE G cf Ex (.mcall m c f a as)) ∧ truE e = true := by
      obtain ⟨mn, apos, cpos, rfl, hb, hline, hl30, hm⟩ := mcSyn_parts h
      obtain ⟨hC, hnf, fa, fd, ps, hl, hM, hB, hF⟩ := x.mts _ _ _ _ hm
      refine ⟨?_, rfl⟩
      have key : ∀ σ H Q, tE G cf Ex (.mcall m c f a as) σ H Q → tMethS (G.cad c) mn (spF G cf f (as.length + 1)) Ex (tE G cf Ex a) (tA G cf Ex as) σ H Q := by
        rintro σ H Q ⟨I, φ, ρ, S, s, en, h⟩
        simp only [ev] at h
        refine tE_step s en (h.bind.imp fun w S1 _ h1 => ?_)
        intro v I1 φ1 H1 e1 s1 r1
        split at h1
        · rename_i c' xs hr
          split at h1
          · rename_i hcc
            subst hcc
            obtain ⟨p, dx, fs, rfl, hp, hf, rr⟩ := recRel s1 r1 hr
            refine ⟨p, dx, fs, rfl, hp, lookup_none (fun z => hnf (by rw [hf] at z; exact List.mem_of_mem_take z)), I1, φ1, ρ, S1, s1, en.ext e1, h1.bind.ext e1 fun ws S2 hws h2 => ?_⟩
            intro vs I2 φ2 H2 e2 s2 r2
            refine ⟨?_, call_ok s2 (.cons (r1.ext e2) r2) (h2.ext (e1.trans e2) fun _ _ _ k => KE.ext (e1.trans e2) k)⟩
            rw [List.length_cons, r2.length, evs_len as S1 S2 ws hws]
          · exact h1.elim
        · exact h1.elim
      have hroom := (x.room hcm).mono (show 2 * n ≤ 2 * n + 1 by omega)
      cases p with
      | nil =>
        obtain ⟨pl, ht⟩ := meth_eval (m := mn) (apos := apos) (pos := cpos) (args := []) (env := X.env) hb rfl (by decide) hline
        refine PE_imp (pe_methS0 ho hC hM hF hroom hB x.pass ht) fun σ H Q q => ?_
        refine tE_mono ?_ (key σ H Q q)
        rintro v H1 ⟨p, dx, fs, h1, h2, h3, h4⟩
        exact ⟨p, dx, fs, h1, h2, h3, tA_nil h4⟩
      | cons hp hh t =>
        obtain ⟨pl, ht⟩ := meth_eval (m := mn) (apos := apos) (pos := cpos) (args := _ :: _) (env := X.env) hb (PEs.cons hp hh t).all hl30 hline
        exact PE_imp (pe_methS1 ho hC hM hF hroom hB x.pass (PEs.cons hp hh t).pa (star_plain hp) (star_none t.all) ht) key
/-! ### isinstance of own classes -/
theorem kitAny_all {K : PySem.W.Frag} {t : Value} {f : Nat → Bool} : ∀ {cs : List Nat} {g : Nat → Value}, (∀ c ∈ cs, PySem.W.kitOne K t (g c) = some (f c)) → PySem.W.kitAny K t (cs.map g) = some (cs.any f)
  | [], _, _ => rfl
  | c :: cs, g, h => by
    have h1 := h c (by simp)
    have h2 := kitAny_all (cs := cs) (g := g) fun c' hc' => h c' (by simp [hc'])
    cases hf : f c with
    | true =>
      rw [hf] at h1
      simp only [List.map_cons, List.any_cons, hf, Bool.true_or]
      exact kitAny_cons h1 (fun z => by cases z) fun _ => rfl
    | false =>
      rw [hf] at h1
      simp only [List.map_cons, List.any_cons, hf, Bool.false_or]
      exact kitAny_cons h1 (fun _ => h2) fun z => by cases z
theorem rdC {w : W} {v : V} {u : Value} {pins : List (Addr × Obj)} {s : Shared} {σ : L2.St} {cs : List Nat} {b : Bool} (x : XOk T G cf Ex n sc X) (J : L2.Inv X pins σ H s) (sm : Sim G I φ S H) (r : Rel G I φ w v) (ru : L2.RelV v u) (e : isxSem cs S w = some b)
    (hcs : ∀ c ∈ cs, c = 9 ∨ (∃ y, (y, c) ∈ T.exc) ∨ ∃ l ∈ T.cls, l.c = c) :
    ∃ (t : Value) (P : Heap → Prop), PySem.W.KitX X.K u t P ∧ P s.heap ∧ u ≠ .builtin "__main__.__loader__#opaque" ∧ PySem.W.kitAny X.K t (cs.map (cvO G)) = some b ∧ ∀ c, cs = [c] → PySem.W.kitOne X.K t (cvO G c) = some b := by
  have big : ∀ c ∈ cs, 9 ≤ c → c = 9 ∨ ∃ y, (y, c) ∈ T.exc := by
    intro c hc h9
    rcases hcs c hc with h | h | ⟨l, hl, rfl⟩
    · exact .inl h
    · exact .inr h
    · have := (x.cls l hl).2.2.1
      omega
  have own : ∀ k xs, recOf S w = some (k, xs) → (cs == [k] && decide (k < 9)) = true → b = true → ∃ (t : Value) (P : Heap → Prop), PySem.W.KitX X.K u t P ∧ P s.heap ∧ u ≠ .builtin "__main__.__loader__#opaque" ∧ PySem.W.kitAny X.K t (cs.map (cvO G)) = some b ∧ ∀ c, cs = [c] → PySem.W.kitOne X.K t (cvO G c) = some b := by
    intro k xs hr hk hb
    subst hb
    simp only [Bool.and_eq_true, beq_iff_eq, decide_eq_true_eq] at hk
    obtain ⟨hk1, hk2⟩ := hk
    subst hk1
    obtain ⟨a, dx, fs, rfl, ha, _, _⟩ := recRel sm r hr
    have hC : ClsF X.K (G.cad k) := by
      rcases hcs k (by simp) with h | ⟨y, h⟩ | ⟨l, hl, rfl⟩
      · omega
      · have := (x.exc y k h).2.2.1
        omega
      · exact (x.cls l hl).2.1
    obtain ⟨P, Z, p, hx⟩ := kit_of J ru (.base (.ins ha hC.toCls hC.ha hC.hn hC.ht hC.hm))
    have e1 : PySem.W.kitOne X.K (.ref (G.cad k)) (cvO G k) = some true := by
      unfold cvO PySem.W.kitOne
      rw [if_neg (by omega : ¬ k = 9), if_pos (by simp)]
    refine ⟨_, P, Z, p, hx, ?_, fun c hc => ?_⟩
    · exact kitAny_cons e1 (fun z => by cases z) fun _ => rfl
    · cases hc; exact e1
  have one : ∀ {t : Value} {f : Nat → Bool}, (∀ c ∈ cs, PySem.W.kitOne X.K t (cvO G c) = some (f c)) → ∀ c, cs = [c] → PySem.W.kitOne X.K t (cvO G c) = some (cs.any f) := by
    intro t f h c hc
    subst hc
    rw [h c (by simp)]
    simp
  have cv9 : cvO G 9 = .type "ValueError" := by unfold cvO; rw [if_pos rfl]
  have cvn : ∀ c, c ≠ 9 → cvO G c = .ref (G.cad c) := fun c h => by unfold cvO; rw [if_neg h]
  unfold isxSem at e
  split at e
  · split at e
    · rename_i hall
      cases e
      simp only [List.all_eq_true, decide_eq_true_eq] at hall
      obtain rfl : v = .non := r
      cases ru
      have h : ∀ c ∈ cs, PySem.W.kitOne X.K (.type "NoneType") (cvO G c) = some ((fun _ => false) c) := by
        intro c hc
        rcases big c hc (hall c hc) with rfl | ⟨y, h⟩
        · rw [cv9]; exact kit_ty (by decide +kernel)
        · have := x.exc y c h
          rw [cvn c (by omega)]
          exact this.2.2.2.2.1
      have ha : cs.any (fun _ => false) = false := by simp
      refine ⟨_, _, PySem.W.kitx_none, True.intro, (fun z => nomatch z), ?_, ?_⟩
      · have := kitAny_all h; rw [ha] at this; exact this
      · have := one h; rw [ha] at this; exact this
    · cases e
  · split at e
    · rename_i k hall
      cases e
      simp only [List.all_eq_true, decide_eq_true_eq] at hall
      obtain ⟨a, rfl, ha, hk⟩ := r
      cases ru
      obtain ⟨xk, hxk⟩ := x.exs k hk
      obtain ⟨_, hE, hk10, hVE, _, _, hpair⟩ := x.exc xk k hxk
      obtain ⟨⟨oe, vs, ho, hz, hd⟩, _⟩ := J.hok a _ (sm.same _ _ ha)
      have J2 : PySem.W.InstAt s.heap a oe (G.cad k) none := by
        obtain ⟨oc, od, oda, osl⟩ := oe
        obtain ⟨h1, h2⟩ := hz
        dsimp only at h1 h2 hd
        subst h1 h2 hd
        exact ⟨ho, rfl, rfl, trivial⟩
      have h : ∀ c ∈ cs, PySem.W.kitOne X.K (.ref (G.cad k)) (cvO G c) = some ((fun c => subX k c) c) := by
        intro c hc
        rcases big c hc (hall c hc) with rfl | ⟨y, h⟩
        · rw [cv9, hVE]
          congr 1
          unfold subX
          simp [hk10]
        · have := (x.exc y c h).2.2.1
          rw [cvn c (by omega)]
          exact hpair y c h
      exact ⟨_, _, PySem.W.handS_kitx_exc hE.hg hE.hk hE.hs hE.hd hE.ha hE.hn hE.ht hE.hm, J2, (fun z => nomatch z), kitAny_all h, one h⟩
    · cases e
  · split at e
    · rename_i k xs hk
      cases e
      exact own k xs rfl (by simpa using hk) rfl
    · cases e
  · rename_i m
    split at e
    · rename_i k xs hS
      split at e
      · rename_i hk
        cases e
        exact own k xs (by simp [recOf, hS]) (by simpa using hk) rfl
      · cases e
    · cases e
  · cases e
def rIsx (G : Gx) (cs : List Nat) : List V → Hp → VK → Prop := fun xs H Q => ∃ I φ S w v c b, xs = [v, c] ∧ Sim G I φ S H ∧ Rel G I φ w v ∧ isxSem cs S w = some b ∧ ((∃ k, cs = [k] ∧ ClsV c (cvO G k)) ∨ ∃ tp vs, c = .ref tp ∧ H tp = some (.tup vs) ∧ Paired ClsV vs (cs.map (cvO G))) ∧ Q (.bl b) H
theorem call_isx {cs : List Nat} (x : XOk T G cf Ex n sc X) (hcs : ∀ c ∈ cs, c = 9 ∨ (∃ y, (y, c) ∈ T.exc) ∨ ∃ l ∈ T.cls, l.c = c) : CallR X (.builtin "isinstance") (rIsx G cs) := by
  intro pins s σ H xs us Q J r h
  obtain ⟨I, φ, S, w, v, c, b, rfl, sm, rv, e, hc, q⟩ := h
  cases r with
  | cons r1 r =>
    cases r with
    | cons r2 r =>
      cases r
      obtain ⟨t, P, Z, p, hx, e1, e2⟩ := rdC x J sm rv r1 e hcs
      rcases hc with ⟨k, rfl, hk⟩ | ⟨tp, vs, rfl, hT, hp⟩
      · have := hk.eq r2
        subst this
        exact PySem.W.kia_one Z J.kIn p (e2 k rfl) hx fun tk => ⟨.bl b, H, J.tok tk, rfl, q⟩
      · cases r2
        obtain ⟨_, its, rvs, o, h1, h2, m, h3⟩ := J.hok tp _ hT
        have e3 := ClsV.all hp rvs
        subst e3
        obtain ⟨oc, od, dt, sl⟩ := o
        dsimp only at h2 h3
        subst h2 h3
        exact PySem.W.kia_tup Z J.kIn p h1 e1 hx fun tk => ⟨.bl b, H, J.tok tk, rfl, q⟩
theorem clsNm_ok {c : Nat} {k : Expr} (h : clsNm T sc c k = true) (x : XOk T G cf Ex n sc X) : plainE k = true ∧ (c = 9 ∨ (∃ y, (y, c) ∈ T.exc) ∨ ∃ l ∈ T.cls, l.c = c) ∧ ∃ v : V, ClsV v (cvO G c) ∧ PE X k (tC v) := by
  unfold clsNm at h
  split at h
  · rename_i y p
    simp only [Bool.and_eq_true] at h
    obtain ⟨⟨h1, h2⟩, h3⟩ := h
    have hd := dbg_ok h2
    refine ⟨rfl, ?_⟩
    split at h3
    · rename_i h9
      have h9 : c = 9 := by simpa using h9
      subst h9
      have hy : y = "ValueError" := of_decide_eq_true h3
      subst hy
      refine ⟨.inl rfl, .ty "ValueError", .ty _, pe_bltn (x.gl h1) (x.blt _ (by simp [bltNames])) (by decide +kernel) rfl (by decide) (by decide)⟩
    · rename_i h9
      have hc9 : c ≠ 9 := by simpa using h9
      have hcv : cvO G c = .ref (G.cad c) := by unfold cvO; rw [if_neg hc9]
      rw [hcv]
      simp only [Bool.or_eq_true, decide_eq_true_eq, List.any_eq_true, Bool.and_eq_true, beq_iff_eq] at h3
      rcases h3 with h3 | ⟨l, hl, h4, h5⟩
      · exact ⟨.inr (.inl ⟨y, h3⟩), .ref (G.cad c), .own _, pe_glob (x.gl h1) (x.exc _ _ h3).1 rfl hd.1⟩
      · subst h4 h5
        exact ⟨.inr (.inr ⟨l, hl, rfl⟩), .ref (G.cad l.c), .own _, pe_glob (x.gl h1) (x.cls _ hl).1 rfl hd.1⟩
  · cases h
theorem clsNms_ok (x : XOk T G cf Ex n sc X) : ∀ {cs : List Nat} {es : List Expr}, clsNms T sc cs es = true → es.all plainE = true ∧ (∀ c ∈ cs, c = 9 ∨ (∃ y, (y, c) ∈ T.exc) ∨ ∃ l ∈ T.cls, l.c = c) ∧ ∃ vs : List V, Paired ClsV vs (cs.map (cvO G)) ∧ PA X es (fun _ H Q => Q vs H)
  | [], [], _ => ⟨rfl, by simp, [], .nil, PA_imp pa_nil fun _ _ _ q => q⟩
  | c :: cs, e :: es, h => by
    simp only [clsNms, Bool.and_eq_true] at h
    obtain ⟨h1, h2, v, h3, h4⟩ := clsNm_ok h.1 x
    obtain ⟨g1, g2, vs, g3, g4⟩ := clsNms_ok x h.2
    refine ⟨by simp [h1, g1], ?_, v :: vs, .cons h3 g3, PA_imp (pa_cons h4 g4 (star_plain h1)) fun _ _ _ q => q⟩
    intro c' hc'
    rcases List.mem_cons.mp hc' with rfl | hc'
    · exact h2
    · exact g2 c' hc'
  | [], _ :: _, h => by cases h
  | _ :: _, [], h => by cases h
theorem isxOk {cs : List Nat} {a : E} {e b : Expr} (h : isxSyn T sc cs e = some b) (x : XOk T G cf Ex n sc X) (ho : PE X b (tE G cf Ex a)) : PE X e (tE G cf Ex (.isx cs a)) ∧ truE e = true := by
  unfold isxSyn at h
  split at h
  · rename_i f pf a' k pos
    split at h
    · rename_i hc
      simp only [Bool.and_eq_true, decide_eq_true_eq] at hc
      obtain ⟨⟨⟨rfl, hg⟩, hp⟩, hl⟩ := hc
      have key : ∀ {kk : Expr} {t : TE}, a' = b → plainE kk = true → (∀ c ∈ cs, c = 9 ∨ (∃ y, (y, c) ∈ T.exc) ∨ ∃ l ∈ T.cls, l.c = c) → PE X kk t →
          (∀ σ H (Q : V → Hp → Prop), (∀ c H', (H' = H ∧ ∃ k, cs = [k] ∧ ClsV c (cvO G k)) ∨ (∃ tp vs, c = .ref tp ∧ H tp = none ∧ H' = upd H tp (.tup vs) ∧ Paired ClsV vs (cs.map (cvO G))) → Q c H') → t σ H Q) →
          PE X (.Call (.Name "isinstance" pf) [a', kk] [] pos) (tE G cf Ex (.isx cs a)) := by
        intro kk t hab hk hcs pk ht
        subst hab
        refine PE_imp (pe_callB (call_isx x hcs) (x.gl hg) (x.blt _ (by simp [bltNames])) (by decide +kernel) (pa_cons ho (pa_cons pk pa_nil (star_plain hk)) (star_plain hp)) (by decide) (by decide) (star_plain hp) (star_none (by simp [hk]))) fun σ H Q ⟨I, φ, ρ, S, s, en, q⟩ => ?_
        simp only [ev] at q
        refine tE_step s en (q.bind.imp fun w S1 _ h1 => ?_)
        intro v I1 φ1 H1 e1 s1 r1
        obtain ⟨u, hu, kq⟩ := Post.ofO h1
        simp only [Option.map_eq_some_iff] at hu
        obtain ⟨bb, hb, rfl⟩ := hu
        refine ht σ H1 _ ?_
        rintro c H' (⟨rfl, k, hk1, hk2⟩ | ⟨tp, vs, rfl, hn, rfl, hpv⟩)
        · exact ⟨I1, φ1, S1, w, v, c, bb, rfl, s1, r1, hb, .inl ⟨k, hk1, hk2⟩, (KE.ext e1 kq).here s1 rfl⟩
        · have s2 := s1.plus (o := .tup vs) hn
          exact ⟨I1, φ1, S1, w, v, .ref tp, bb, rfl, s2, r1, hb, .inr ⟨tp, vs, rfl, upd_same, hpv⟩, (KE.ext (e1.trans (ext_plus hn)) kq).here s2 rfl⟩
      refine ⟨?_, by split at h <;> rfl⟩
      split at h
      · rename_i es kt pt
        split at h
        · rename_i hns
          cases h
          obtain ⟨g1, g2, vs, g3, g4⟩ := clsNms_ok x hns
          refine key rfl rfl g2 (pe_tup g4) fun σ H Q q => ⟨?_, fun p hp => q _ _ (.inr ⟨p, vs, rfl, hp, rfl, g3⟩)⟩
          have : vs.length = cs.length := by
            have := Paired.length g3
            simpa using this
          rw [this]
          have := lim_ok (show cs.length < LIM by unfold LIM; omega)
          omega
        · cases h
      · split at h
        · rename_i c
          split at h
          · rename_i hnm
            cases h
            obtain ⟨h1, h2, v, h3, h4⟩ := clsNm_ok hnm x
            refine key rfl h1 (by intro c' hc'; simp at hc'; subst hc'; exact h2) h4 fun σ H Q q => q v H (.inl ⟨rfl, c, rfl, h3⟩)
          · cases h
        · cases h
    · cases h
  · cases h
/-! ### f-strings -/
inductive GoodP (G : Gx) (cf : CallF) (Ex : L2.St → XK) (X : Cx) : List E → List Expr → Prop
  | nil : GoodP G cf Ex X [] []
  | lit {z : List Nat} {ms : List E} {j : Nat} {p : Pos} {es : List Expr} : GoodP G cf Ex X ms es → GoodP G cf Ex X (.con (.str z) :: ms) (.Constant (.str ⟨z.toArray⟩) j p :: es)
  | val {i : Nat} {ms : List E} {b : Expr} {p : Pos} {es : List Expr} : PE X b (tE G cf Ex (.var i)) → GoodP G cf Ex X ms es → GoodP G cf Ex X (.var i :: ms) (.FormattedValue b (-1) none p :: es)
def tFp (G : Gx) (cf : CallF) (Ex : L2.St → XK) : List E → List TE
  | [] => []
  | .con (.str z) :: ms => tC (.str ⟨z.toArray⟩) :: tFp G cf Ex ms
  | m :: ms => tFmt (tE G cf Ex m) :: tFp G cf Ex ms
theorem goodP_pj {ms : List E} {es : List Expr} (h : GoodP G cf Ex X ms es) : PJ X es (tFp G cf Ex ms) := by
  induction h with
  | nil => exact .nil
  | lit _ ih => exact .cons pe_str ih
  | val hb _ ih => exact .cons (pe_fmt hb) ih
/-- names and texts raise nothing and change nothing -/
theorem goodP_evs {ms : List E} {es : List Expr} (h : GoodP G cf Ex X ms es) {ρ : Env} {S : Sto} : (∃ ws, evs cf ms ρ S = .ok ws S) ∨ evs cf ms ρ S = .bad := by
  induction h with
  | nil => exact .inl ⟨[], by rw [evs_nil]⟩
  | lit _ ih =>
    rw [evs_cons]
    simp only [ev, Rs.bind]
    rcases ih with ⟨ws, h⟩ | h
    · exact .inl ⟨_, by rw [h]⟩
    · exact .inr (by rw [h])
  | val _ _ ih =>
    rw [evs_cons]
    simp only [ev]
    split
    · simp only [Rs.bind]
      rcases ih with ⟨ws, h⟩ | h
      · exact .inl ⟨_, by rw [h]⟩
      · exact .inr (by rw [h])
    · exact .inr rfl
theorem fcat_cons {w : W} {ws : List W} {s : List Nat} (h : fcat (w :: ws) = some s) : ∃ a b, fpart w = some a ∧ fcat ws = some b ∧ s = a ++ b := by
  simp only [fcat, Option.bind_eq_some_iff, Option.map_eq_some_iff] at h
  obtain ⟨a, h1, b, h2, rfl⟩ := h
  exact ⟨a, b, h1, h2, rfl⟩
theorem short_ok {n : Nat} (h : n < 100000) : n ≤ sizeLine := by
  have : 100000 ≤ sizeLine := by decide
  omega
theorem fstr_run {ms : List E} {es : List Expr} (h : GoodP G cf Ex X ms es) : ∀ {I H : Hp} {φ : List Addr} {acc : List Nat} {ρ : Env} {σ : L2.St} {ws : List W} {s : List Nat} {Q : V → Hp → Prop}, Sim G I φ S H → Envs G I φ ρ σ → evs cf ms ρ S = .ok ws S → fcat ws = some s → (acc ++ s).length < 100000 →
    KE G I φ H S (.str (acc ++ s)) Q → tJs (tFp G cf Ex ms) ⟨acc.toArray⟩ σ H (fun out H1 => Q (.str out) H1) := by
  induction h with
  | nil =>
    intro I H φ acc ρ σ ws s Q sm en he hf hl q
    rw [evs_nil] at he
    cases he
    cases hf
    rw [List.append_nil] at q
    exact q.here sm rfl
  | @lit z ms j p es _ ih =>
    intro I H φ acc ρ σ ws s Q sm en he hf hl q
    rw [evs_cons] at he
    simp only [ev, Rs.bind] at he
    split at he
    · rename_i ws' S' he'
      cases he
      obtain ⟨a, b, h1, h2, rfl⟩ := fcat_cons hf
      cases h1
      simp only [List.length_append] at hl
      refine ⟨⟨z.toArray⟩, rfl, ?_, ?_⟩
      · refine short_ok ?_
        show (acc.toArray ++ z.toArray).size < 100000
        simp
        omega
      · have e : (PySem.Str.mk acc.toArray ++ PySem.Str.mk z.toArray) = PySem.Str.mk (acc ++ z).toArray := by
          show PySem.Str.mk (acc.toArray ++ z.toArray) = _
          simp
        rw [e]
        refine ih (acc := acc ++ z) (s := b) sm en he' h2 (by simp; omega) (by rw [List.append_assoc]; exact q)
    · cases he
    · cases he
  | @val i ms b' p es _ _ ih =>
    intro I H φ acc ρ σ ws s Q sm en he hf hl q
    rw [evs_cons] at he
    simp only [ev] at he
    split at he
    · rename_i w hw
      simp only [Rs.bind] at he
      split at he
      · rename_i ws' S' he'
        cases he
        obtain ⟨a, b, h1, h2, rfl⟩ := fcat_cons hf
        simp only [List.length_append] at hl
        have e : (PySem.Str.mk acc.toArray ++ PySem.Str.mk a.toArray) = PySem.Str.mk (acc ++ a).toArray := by
          show PySem.Str.mk (acc.toArray ++ a.toArray) = _
          simp
        have hlen : (PySem.Str.mk acc.toArray ++ PySem.Str.mk a.toArray).length ≤ sizeLine := by
          refine short_ok ?_
          show (acc.toArray ++ a.toArray).size < 100000
          simp
          omega
        refine ⟨I, φ, ρ, S, sm, en, ?_⟩
        simp only [ev, hw]
        intro v I1 φ1 H1 e1 s1 r1
        have step : tJs (tFp G cf Ex ms) ⟨(acc ++ a).toArray⟩ σ H1 (fun out H1 => Q (.str out) H1) := ih (acc := acc ++ a) (s := b) s1 (en.ext e1) he' h2 (by simp; omega) (by rw [List.append_assoc]; exact KE.ext e1 q)
        unfold fpart at h1
        split at h1
        · rename_i y
          cases h1
          obtain rfl : v = _ := r1
          refine .inl ⟨_, rfl, ?_, _, rfl, hlen, by rw [e]; exact step⟩
          refine short_ok ?_
          show (Array.size _) < 100000
          simp
          omega
        · rename_i j
          split at h1
          · rename_i hj
            cases h1
            obtain rfl : v = _ := r1
            simp only [decide_eq_true_eq] at hj
            refine .inr ⟨j, rfl, ?_, PySem.Str.mk (strI j).toArray, strI_v j, hlen, by rw [e]; exact step⟩
            have : j.natAbs < 2 ^ 1920 := Nat.lt_trans hj (by decide)
            by_cases h0 : j.natAbs = 0
            · rw [h0]; decide
            · exact (Nat.log2_lt h0).mpr this
          · cases h1
        · cases h1
      · cases he
      · cases he
    · cases he
theorem fstrOk {ms : List E} {e : Expr} {es : List Expr} (h : fpsSyn e = some es) (p : GoodP G cf Ex X ms es) : PE X e (tE G cf Ex (.fstr ms)) := by
  unfold fpsSyn at h
  split at h
  · cases h
    refine PE_imp (pe_joined (goodP_pj p)) fun σ H Q ⟨I, φ, ρ, S, s, en, q⟩ => ?_
    simp only [ev] at q
    rcases goodP_evs p (ρ := ρ) (S := S) with ⟨ws, he⟩ | he
    · rw [he] at q
      simp only [Rs.bind] at q
      split at q
      · rename_i z hz
        split at q
        · rename_i hl
          exact fstr_run p (acc := []) s en he hz hl q
        · exact q.elim
      · exact q.elim
    · rw [he] at q
      exact q.elim
  · cases h
theorem ownOf_snd {N : List PySem.Str} {own : List Nat} : (ownOf N own).map (·.2) = own := by
  unfold ownOf
  rw [List.map_map]
  exact List.map_id _
theorem blk_wr {scope : Scope} {cl : List (PySem.Str × Addr)} {C : Addr} {s : Shared} {fp : List Addr} : Wr scope (X.blk s H scope (compEnvC scope cl C X.env) fp) := by
  intro y
  refine ⟨fun h => lookup_relS_keep (by simp) h, fun h => ⟨lookup_relS_keep (by simp) h, ?_⟩⟩
  show (scope.names.lookup y == some .cell) = true
  rw [h]
  rfl
theorem blk_ok {scope : Scope} {cl : List (PySem.Str × Addr)} {C : Addr} {s : Shared} {fp : List Addr} (x : XOk T G cf Ex n sc X) : XOk T G cf EN n (relS scope sc) (X.blk s H scope (compEnvC scope cl C X.env) fp) where
  calm := x.calm
  hk := x.hk
  nd := x.nd
  hN := x.hN
  hsc := by show relS scope X.env.scope = _; rw [x.hsc]
  un := x.un
  room := x.room
  blt := x.blt
  fns := x.fns
  csts := x.csts
  cls := x.cls
  mts := x.mts
  exc := x.exc
  exs := x.exs
  pass := fun σ pins H s e s' J c => passL pins σ H s e s' J c
theorem lastM {c1 c2 : CmpOp} {b c : Expr} (h : plainE c = true) : lastMarks [c1, c2] [b, c] = false := marks_ok h
theorem condOk {cond : List E} {ifs : List Expr} (hl : cond.length ≤ 1) (p : GoodL G cf EN X true cond ifs) : PTs X ifs (tCond G cf cond) := by
  cases p with
  | nil =>
    refine ⟨fun pins s σ H Q I q => pts_nil.run pins s σ H Q I ?_⟩
    obtain ⟨I, φ, ρ, S, s, en, h⟩ := q
    simp only [evAll] at h
    obtain ⟨b, hb, k⟩ := h
    cases hb
    exact k _ _ _ (Ext.refl _ _ _) s
  | cons hp hg ht =>
    cases ht with
    | nil =>
      refine ⟨fun pins s σ H Q I q => (pts_one hg).run pins s σ H Q I ?_⟩
      obtain ⟨I, φ, ρ, S, s, en, h⟩ := q
      simp only [evAll] at h
      exact ⟨I, φ, ρ, S, s, en, h⟩
    | cons _ _ _ => simp at hl
theorem comp_lst {elt : E} {t : Tg} {k : ItK} {srcs cond : List E} {own : List Nat} {ρ : Env} {S S' : Sto} {w : W} (h : ev cf (.comp elt t k srcs cond own) ρ S = .ok w S') : ∃ xs, w = .lst xs := by
  simp only [ev] at h
  cases he : evs cf srcs ρ S with
  | ok ws S1 =>
    rw [he] at h
    simp only [Rs.bind] at h
    split at h
    · split at h
      · rename_i xs _ _
        cases hc : compL (fun ρ' S' => ev cf elt ρ' S') (fun ρ' S' => evAll cf cond ρ' S') t (Tw.wipe ρ own) xs S1 with
        | ok ys S2 => rw [hc] at h; cases h; exact ⟨ys, rfl⟩
        | ex c S2 => rw [hc] at h; cases h
        | bad => rw [hc] at h; cases h
      · cases h
    · cases h
  | ex c S1 => rw [he] at h; cases h
  | bad => rw [he] at h; cases h
mutual
theorem chk_ok : ∀ (m : E) {md : Bool} {e : Expr} {sc : Scope} {Ex : L2.St → XK} {X : Cx}, chk T md sc m e = true → XOk T G cf Ex n sc X → Good G cf Ex X md m e
  | .var i, md, e, sc, Ex, X, h, x => by
    rw [chk] at h
    unfold namSyn at h
    split at h
    · simp only [Bool.and_eq_true, decide_eq_true_eq] at h
      obtain ⟨⟨h1, h2⟩, h3⟩ := h
      have hd := dbg_ok h3
      refine good_of rfl rfl (PE_imp (pe_var (by rw [x.hN]; exact h1) (by have := vis_ok h2; rw [← x.hsc] at this; exact this) hd.1 hd.2.1) tVar_ok)
    · cases h
  | .con w, md, e, sc, Ex, X, h, x => by
    rw [chk] at h
    obtain ⟨h1, h2⟩ := conOk h x
    exact good_of rfl h2 h1
  | .op o as, md, e, sc, Ex, X, h, x => by
    rw [chk] at h
    split at h
    · rename_i es hs
      simp only [Bool.and_eq_true] at h
      have p := (chks_ok as h.2 x).pes
      have hcm : calmOp o = true → T.cm = true := fun z => by
        have := h.1.1
        rw [z] at this
        simpa using this
      cases md with
      | true => exact opOkT hs x hcm p h.1.2
      | false => exact ⟨opOk hs x hcm p h.1.2, fun hf => opOkF hf hs x hcm p h.1.2⟩
    · cases h
  | .mth t o a as, md, e, sc, Ex, X, h, x => by
    rw [chk] at h
    split at h
    · rename_i nm hn
      split at h
      · rename_i b es hm
        simp only [Bool.and_eq_true] at h
        have h1 := chk_ok a h.1 x
        have p := (chks_ok as h.2 x).pes
        have := mthOk hn hm x h1.1 p
        refine good_of rfl ?_ this
        unfold mthSyn at hm
        split at hm
        · rfl
        · cases hm
      · cases h
    · cases h
  | .eff o a as, md, e, sc, Ex, X, h, x => by
    rw [chk] at h
    split at h
    · rename_i nm hn
      split at h
      · rename_i b es hm
        simp only [Bool.and_eq_true] at h
        have h1 := chk_ok a h.1 x
        have p := (chks_ok as h.2 x).pes
        have := effOk hn hm x h1.1 p
        refine good_of rfl ?_ this
        unfold mthSyn at hm
        split at hm
        · rfl
        · cases hm
      · cases h
    · cases h
  | .and as, md, e, sc, Ex, X, h, x => by
    rw [chk] at h
    split at h
    · rename_i es he
      simp only [Bool.and_eq_true] at h
      have p := chks_ok as h.2 x
      have hne : as ≠ [] := by
        rintro rfl
        simp at h
      unfold andSyn at he
      split at he
      · cases he
        cases md with
        | true => exact (andPT hne p).pt
        | false => exact ⟨andPE hne p, fun z => by cases z⟩
      · cases he
    · cases h
  | .or as, md, e, sc, Ex, X, h, x => by
    rw [chk] at h
    split at h
    · rename_i es he
      simp only [Bool.and_eq_true] at h
      have p := chks_ok as h.2 x
      have hne : as ≠ [] := by
        rintro rfl
        simp at h
      unfold orSyn at he
      split at he
      · cases he
        cases md with
        | true => exact (orPT hne p).pt
        | false => exact ⟨orPE hne p, fun z => by cases z⟩
      · cases he
    · cases h
  | .not a, md, e, sc, Ex, X, h, x => by
    rw [chk] at h
    split at h
    · rename_i b he
      have p := chk_ok a h x
      unfold notSyn at he
      split at he
      · cases he
        cases md with
        | true => exact PT_imp (pt_not p) notPT
        | false => exact ⟨PE_imp (pe_not p.1) notPE, fun z => by cases z⟩
      · cases he
    · cases h
  | .ife c a b, md, e, sc, Ex, X, h, x => by
    rw [chk] at h
    split at h
    · rename_i c' a' b' he
      simp only [Bool.and_eq_true] at h
      obtain ⟨⟨⟨h0, h1⟩, h2⟩, h3⟩ := h
      have p1 := chk_ok c h1 x
      have p2 := chk_ok a h2 x
      have p3 := chk_ok b h3 x
      unfold ifeSyn at he
      split at he
      · cases he
        cases md with
        | true => cases h0
        | false => exact ⟨PE_imp (pe_ifExp p1 p2.1 p3.1) ifeOk, fun z => by cases z⟩
      · cases he
    · cases h
  | .chain o1 o2 a b c, md, e, sc, Ex, X, h, x => by
    rw [chk] at h
    split at h
    · rename_i a' b' c' he
      simp only [Bool.and_eq_true] at h
      obtain ⟨⟨h5, h6⟩, h7⟩ := h
      have p1 := chk_ok a h5 x
      have p2 := chk_ok b h6 x
      have p3 := chk_ok c h7 x
      unfold chainSyn at he
      split at he
      · split at he
        · rename_i hc
          cases he
          simp only [Bool.and_eq_true, decide_eq_true_eq] at hc
          obtain ⟨⟨⟨h1, h2⟩, h3⟩, h4⟩ := hc
          cases md with
          | true => exact PT_imp (pt_chain (cmpTab_ok h1 x.hu) (cmpTab_ok h2 x.hu) p1.1 p2.1 p3.1 (lastM h4)) fun σ H Q q => chainOk σ H _ (tT_test σ H Q q)
          | false => exact ⟨PE_imp (pe_chain (cmpTab_ok h1 x.hu) (cmpTab_ok h2 x.hu) p1.1 p2.1 p3.1 (lastM h4)) chainOk, fun z => by cases z⟩
        · cases he
      · cases he
    · cases h
  | .comp elt t k srcs cond own, md, e, sc, Ex, X, h, x => by
    rw [chk] at h
    split at h
    · rename_i elt' tg iter ifs scope he
      split at h
      · rename_i es hi
        simp only [Bool.and_eq_true, decide_eq_true_eq] at h
        obtain ⟨⟨⟨⟨⟨⟨⟨hcm, h1⟩, h2⟩, h3⟩, h4⟩, h5⟩, h6⟩, h7⟩ := h
        have p := (chks_ok srcs h1 x).pes
        obtain ⟨q1, q2⟩ := itOk hi x p
        unfold compSyn at he
        split at he
        · rename_i pos
          cases he
          have key : PE X (.ListComp elt' [⟨tg, iter, ifs, 0⟩] scope pos) (tF G cf Ex (.comp elt t k srcs cond own)) := by
            refine PE_imp (pe_lc (g := tTgt G t) (tt := tCond G cf cond) (te := tE G cf EN elt) (own := ownOf T.N own) (x.calm hcm) x.nd q1 (by rw [x.hN, x.hsc]; exact blkOk_by h2) ?_ ?_ ?_ (set_ok q2)) ?_
            · intro s H C cl fp
              exact tgOk_ok (fun _ => x.calm hcm) x.hN x.nd blk_wr h3
            · intro s H C cl fp
              have pc := chks_ok (Ex := EN) cond h6 (blk_ok (s := s) (H := H) (C := C) (cl := cl) (fp := fp) (scope := scope) x)
              exact condOk h5 pc
            · intro s H C cl fp
              exact (chk_ok elt h7 (blk_ok x)).1
            · rw [ownOf_snd]
              exact comp_ok h4
          have key2 := PE_imp key (tE_tF fun ρ S w S' he => comp_lst he)
          cases md with
          | true => exact tru_ok key2 rfl
          | false => exact ⟨key2, fun _ => key⟩
        · cases he
      · cases h
    · cases h
  | .call m f as, md, e, sc, Ex, X, h, x => by
    rw [chk] at h
    split at h
    · rename_i es hs
      simp only [Bool.and_eq_true] at h
      have p := (chks_ok as h.2 x).pes
      obtain ⟨h1, h2⟩ := callOk (m := m) hs h.1 x p
      exact good_of rfl h2 h1
    · cases h
  | .new m c f as, md, e, sc, Ex, X, h, x => by
    rw [chk] at h
    split at h
    · rename_i es hs
      simp only [Bool.and_eq_true] at h
      have p := (chks_ok as h.2 x).pes
      obtain ⟨h1, h2⟩ := newOk (m := m) hs h.1 x p
      exact good_of rfl h2 h1
    · cases h
  | .mcall m c f a as, md, e, sc, Ex, X, h, x => by
    rw [chk] at h
    split at h
    · rename_i b es hs
      simp only [Bool.and_eq_true] at h
      have p1 := chk_ok a h.1.2 x
      have p := (chks_ok as h.2 x).pes
      obtain ⟨h1, h2⟩ := mcOk (m := m) hs h.1.1 x p1.1 p
      exact good_of rfl h2 h1
    · cases h
  | .fld c i a, md, e, sc, Ex, X, h, x => by
    rw [chk] at h
    split at h
    · rename_i b hs
      have p1 := chk_ok a h x
      obtain ⟨h1, h2⟩ := fldOk hs x p1.1
      exact good_of rfl h2 h1
    · cases h
  | .isx cs a, md, e, sc, Ex, X, h, x => by
    rw [chk] at h
    split at h
    · rename_i b hs
      have p1 := chk_ok a h x
      obtain ⟨h1, h2⟩ := isxOk hs x p1.1
      exact good_of rfl h2 h1
    · cases h
  | .fstr as, md, e, sc, Ex, X, h, x => by
    rw [chk] at h
    split at h
    · rename_i es hs
      simp only [Bool.and_eq_true] at h
      cases md with
      | true => cases h.1
      | false => exact ⟨fstrOk hs (chkp_ok as h.2 x), fun z => by cases z⟩
    · cases h
  | .compR elt t a cond own, md, e, sc, Ex, X, h, x => by
    rw [chk] at h
    split at h
    · rename_i elt' tg iter ifs scope he
      simp only [Bool.and_eq_true, decide_eq_true_eq] at h
      obtain ⟨⟨⟨⟨⟨⟨⟨⟨hcm, hpl⟩, h1⟩, h2⟩, h3⟩, h4⟩, h5⟩, h6⟩, h7⟩ := h
      have p1 := (chk_ok a h1 x).1
      unfold compSyn at he
      split at he
      · rename_i pos
        cases he
        have key : PE X (.ListComp elt' [⟨tg, iter, ifs, 0⟩] scope pos) (tF G cf Ex (.compR elt t a cond own)) := by
          refine PE_imp (pe_lc (g := tTgt G t) (tt := tCond G cf cond) (te := tE G cf EN elt) (own := ownOf T.N own) (x.calm hcm) x.nd (pi_list p1) (by rw [x.hN, x.hsc]; exact blkOk_by h2) ?_ ?_ ?_ (set_ok hpl)) ?_
          · intro s H C cl fp
            exact tgOk_ok (fun _ => x.calm hcm) x.hN x.nd blk_wr h3
          · intro s H C cl fp
            have pc := chks_ok (Ex := EN) cond h6 (blk_ok (s := s) (H := H) (C := C) (cl := cl) (fp := fp) (scope := scope) x)
            exact condOk h5 pc
          · intro s H C cl fp
            exact (chk_ok elt h7 (blk_ok x)).1
          · rw [ownOf_snd]
            exact compR_ok h4
        have key2 := PE_imp key (tE_tF fun ρ S w S' he => fresh_compR he)
        cases md with
        | true => exact tru_ok key2 rfl
        | false => exact ⟨key2, fun _ => key⟩
      · cases he
    · cases h
  | .mut a, md, e, sc, Ex, X, h, x => by
    rw [chk] at h
    simp only [Bool.and_eq_true, Bool.or_eq_true] at h
    obtain ⟨h0, h⟩ := h
    cases md with
    | true => cases h0
    | false =>
      refine ⟨?_, fun z => by cases z⟩
      rcases h with ⟨h1, h2⟩ | ⟨h1, h2⟩
      · unfold isDic at h1
        split at h1
        · exact dicOk h2
        · cases h1
      · exact PE_imp ((chk_ok a h2 x).2 h1) (mutOk h1)
  | .toI a, md, e, sc, Ex, X, h, x => by
    rw [chk] at h
    simp only [Bool.and_eq_true] at h
    obtain ⟨h0, h⟩ := h
    cases md with
    | true => cases h0
    | false => exact ⟨PE_imp (chk_ok a h x).1 toIOk, fun z => by cases z⟩
  | .disp k v, md, e, sc, Ex, X, h, x => by
    rw [chk] at h
    split at h
    · rename_i k' v' he
      simp only [Bool.and_eq_true] at h
      obtain ⟨⟨h0, h1⟩, h2⟩ := h
      have p1 := (chk_ok k h1 x).1
      have p2 := (chk_ok v h2 x).1
      unfold dispSyn at he
      split at he
      · cases he
        cases md with
        | true => cases h0
        | false => exact ⟨PE_imp (pe_disp (pps_cons p1 p2 pps_nil) (by rfl) (by rfl) (by simp) (by simp)) dispOk, fun z => by cases z⟩
      · cases he
    · cases h
theorem chks_ok : ∀ (ms : List E) {md : Bool} {es : List Expr} {sc : Scope} {Ex : L2.St → XK} {X : Cx}, chks T md sc ms es = true → XOk T G cf Ex n sc X → GoodL G cf Ex X md ms es
  | [], md, es, sc, Ex, X, h, x => by
    cases es with
    | nil => exact .nil
    | cons e es => simp [chks] at h
  | m :: ms, md, es, sc, Ex, X, h, x => by
    cases es with
    | nil => simp [chks] at h
    | cons e es =>
      rw [chks] at h
      simp only [Bool.and_eq_true] at h
      exact .cons h.1.1 (chk_ok m h.1.2 x) (chks_ok ms h.2 x)
theorem chkp_ok : ∀ (ms : List E) {es : List Expr} {sc : Scope} {Ex : L2.St → XK} {X : Cx}, chkp T sc ms es = true → XOk T G cf Ex n sc X → GoodP G cf Ex X ms es
  | [], es, sc, Ex, X, h, x => by
    cases es with
    | nil => exact .nil
    | cons e es => simp [chkp] at h
  | m :: ms, es, sc, Ex, X, h, x => by
    cases es with
    | nil => simp [chkp] at h
    | cons e es =>
      unfold chkp at h
      simp only [Bool.and_eq_true] at h
      obtain ⟨h1, h2⟩ := h
      split at h1
      · have h1 := of_decide_eq_true h1
        unfold litE at h1
        split at h1
        · rename_i z
          cases h1
          exact .lit (chkp_ok ms h2 x)
        · cases h1
      · simp only [Bool.and_eq_true] at h1
        have h3 := (chk_ok m h1.2 x).1
        have h4 := h1.1
        unfold isVarE at h4
        split at h4
        · exact .val h3 (chkp_ok ms h2 x)
        · cases h4
      · cases h1
end
end Tw

/-! Tw, part N: statements. -/
namespace Tw
open PySem PySem.Spec PyProof.Rows L2

variable {G : Gx} {I I' I1 I2 H H' H1 H2 : Hp} {φ φ' φ1 φ2 : List Addr} {S S' S1 : Sto} {K : PySem.W.Frag} {X : Cx} {cf : CallF} {T : Tab} {Ex : L2.St → XK} {n L : Nat} {sc : Scope}

/-! ### what a statement's end promises -/
def KS (G : Gx) (I : Hp) (φ : List Addr) (H : Hp) (ρ : Env) (S : Sto) (N : L2.St → Hp → Prop) : Prop :=
  ∀ σ I' φ' H', Ext I φ H I' φ' H' → Sim G I' φ' S H' → Envs G I' φ' ρ σ → N σ H'
theorem KS.ext {ρ : Env} {N : L2.St → Hp → Prop} (e : Ext I φ H I1 φ1 H1) (k : KS G I φ H ρ S N) : KS G I1 φ1 H1 ρ S N := fun σ I' φ' H' e' s en => k σ I' φ' H' (e.trans e') s en
def PostS (G : Gx) (Ex : L2.St → XK) (I : Hp) (φ : List Addr) (H : Hp) (r : SR) (D : Ends) : Prop :=
  match r with
  | .next ρ S => KS G I φ H ρ S D.nx
  | .ret w S => KE G I φ H S w D.rt
  | .brk ρ S => KS G I φ H ρ S D.bk
  | .cont ρ S => KS G I φ H ρ S D.ct
  | .ex ρ c S => ∀ σ I' φ' H', Ext I φ H I' φ' H' → Sim G I' φ' S H' → Envs G I' φ' ρ σ → Ex σ (.ref (G.cad c)) none H'
  | .bad => False
theorem PostS.ext {r : SR} {D : Ends} (e : Ext I φ H I1 φ1 H1) (h : PostS G Ex I φ H r D) : PostS G Ex I1 φ1 H1 r D := by
  cases r with
  | next ρ S => exact KS.ext e h
  | ret w S => exact KE.ext e h
  | brk ρ S => exact KS.ext e h
  | cont ρ S => exact KS.ext e h
  | ex ρ c S => exact fun σ I' φ' H' e' s en => h σ I' φ' H' (e.trans e') s en
  | bad => exact h
def tS (G : Gx) (cf : CallF) (L : Nat) (Ex : L2.St → XK) (m : Stm) : TS := fun D σ H => ∃ I φ ρ S, Sim G I φ S H ∧ Envs G I φ ρ σ ∧ PostS G Ex I φ H (exec cf L m ρ S) D
def tSs (G : Gx) (cf : CallF) (L : Nat) (Ex : L2.St → XK) (ms : List Stm) : TS := fun D σ H => ∃ I φ ρ S, Sim G I φ S H ∧ Envs G I φ ρ σ ∧ PostS G Ex I φ H (execs cf L ms ρ S) D
theorem PS_imp {e : Stmt} {t t' : TS} (h : PS X e t) (i : ∀ D σ H, t' D σ H → t D σ H) : PS X e t' := ⟨fun pins s σ H D J q => h.run pins s σ H D J (i D σ H q)⟩
theorem PSs_imp {e : List Stmt} {t t' : TS} (h : PSs X e t) (i : ∀ D σ H, t' D σ H → t D σ H) : PSs X e t' := ⟨fun pins s σ H D J q => h.run pins s σ H D J (i D σ H q)⟩
/-- an evaluation, then the rest -/
theorem PostS.sr {α : Type} {r : Rs α} {ρ : Env} {σ : L2.St} {f : α → Sto → SR} {D : Ends} (h : PostS G Ex I φ H (r.sr ρ f) D) (en : Envs G I φ ρ σ) : Post G (Ex σ) I φ H r fun a S1 => PostS G Ex I φ H (f a S1) D := by
  cases r with
  | ok a S => exact h
  | ex c S => exact fun I' φ' H' e s => h σ I' φ' H' e s (en.ext e)
  | bad => exact h
theorem PostS.imp {r : SR} {D D' : Ends} (h : PostS G Ex I φ H r D) (i1 : ∀ σ H, D.nx σ H → D'.nx σ H) (i2 : ∀ v H, D.rt v H → D'.rt v H) (i3 : ∀ σ H, D.bk σ H → D'.bk σ H) (i4 : ∀ σ H, D.ct σ H → D'.ct σ H) : PostS G Ex I φ H r D' := by
  cases r with
  | next ρ S => exact fun σ I' φ' H' e s en => i1 _ _ (h σ I' φ' H' e s en)
  | ret w S => exact fun v I' φ' H' e s r => i2 _ _ (h v I' φ' H' e s r)
  | brk ρ S => exact fun σ I' φ' H' e s en => i3 _ _ (h σ I' φ' H' e s en)
  | cont ρ S => exact fun σ I' φ' H' e s en => i4 _ _ (h σ I' φ' H' e s en)
  | ex ρ c S => exact h
  | bad => exact h
theorem PostS.seq {r : SR} {f : Env → Sto → SR} {D : Ends} (h : PostS G Ex I φ H (r.seq f) D) (N : L2.St → Hp → Prop)
    (hN : ∀ ρ S, r = .next ρ S → ∀ σ I' φ' H', Ext I φ H I' φ' H' → Sim G I' φ' S H' → Envs G I' φ' ρ σ → PostS G Ex I' φ' H' (f ρ S) D → N σ H') : PostS G Ex I φ H r { D with nx := N } := by
  cases r with
  | next ρ S => exact fun σ I' φ' H' e s en => hN ρ S rfl σ I' φ' H' e s en (PostS.ext e h)
  | ret w S => exact h
  | brk ρ S => exact h
  | cont ρ S => exact h
  | ex ρ c S => exact h
  | bad => exact h
theorem tTgt_of {t : Tg} {w : W} {v : V} {ρ : Env} {σ : L2.St} {N : L2.St → Hp → Prop} (s : Sim G I φ S H) (en : Envs G I φ ρ σ) (r : Rel G I φ w v) {D : Ends} {f : Env → Sto → SR}
    (h : PostS G Ex I φ H (match bindT t w ρ with | some ρ' => f ρ' S | none => .bad) D)
    (hN : ∀ ρ' σ', bindT t w ρ = some ρ' → Envs G I φ ρ' σ' → PostS G Ex I φ H (f ρ' S) D → N σ' H) : tTgt G t v σ H N := by
  split at h
  · rename_i ρ' hb
    exact ⟨I, φ, ρ, S, w, ρ', s, en, r, hb, fun σ' en' _ => hN ρ' σ' hb en' h⟩
  · exact h.elim
theorem asgS {t : Tg} {m : E} : ∀ D σ H, tS G cf L Ex (.asg t m) D σ H → tAsg (tE G cf Ex m) (tTgt G t) D σ H := by
  rintro D σ H ⟨I, φ, ρ, S, s, en, h⟩
  simp only [exec] at h
  refine ⟨I, φ, ρ, S, s, en, (h.sr en).imp fun w S1 _ h1 => ?_⟩
  intro v I1 φ1 H1 e1 s1 r1
  exact tTgt_of s1 (en.ext e1) r1 (f := fun ρ' S' => .next ρ' S') (PostS.ext e1 h1) fun ρ' σ' hb en' k => k σ' I1 φ1 H1 (Ext.refl _ _ _) s1 en'
/-- the same where a comprehension's list is stored -/
theorem asgF {t : Tg} {m : E} (hm : ∀ ρ S w S', ev cf m ρ S = .ok w S' → ∃ xs, w = .lst xs) : ∀ D σ H, tS G cf L Ex (.asg t m) D σ H → tAsg (tF G cf Ex m) (tTgt G t) D σ H := by
  intro D σ H h
  exact tE_tF hm σ H _ (asgS D σ H h)
theorem asgM {t : Tg} {m : E} (hm : isFresh m = true) : ∀ D σ H, tS G cf L Ex (.asg t (.mut m)) D σ H → tAsg (tF G cf Ex m) (tTgt G t) D σ H := by
  intro D σ H h
  exact mutOk hm σ H _ (asgS D σ H h)
theorem exprS {m : E} : ∀ D σ H, tS G cf L Ex (.expr m) D σ H → tDrop (tE G cf Ex m) D σ H := by
  rintro D σ H ⟨I, φ, ρ, S, s, en, h⟩
  simp only [exec] at h
  refine ⟨I, φ, ρ, S, s, en, (h.sr en).imp fun w S1 _ h1 => ?_⟩
  intro v I1 φ1 H1 e1 s1 r1
  exact h1 σ I1 φ1 H1 e1 s1 (en.ext e1)
theorem retS {m : E} : ∀ D σ H, tS G cf L Ex (.ret m) D σ H → tRet (tE G cf Ex m) D σ H := by
  rintro D σ H ⟨I, φ, ρ, S, s, en, h⟩
  simp only [exec] at h
  exact ⟨I, φ, ρ, S, s, en, (h.sr en).imp fun w S1 _ h1 => h1⟩
theorem iteS {c : E} {a b : List Stm} : ∀ D σ H, tS G cf L Ex (.ite c a b) D σ H → tIfS (tT G cf Ex c) (tSs G cf L Ex a) (tSs G cf L Ex b) D σ H := by
  rintro D σ H ⟨I, φ, ρ, S, s, en, h⟩
  simp only [exec] at h
  refine ⟨I, φ, ρ, S, s, en, (h.sr en).imp fun w S1 _ h1 => ?_⟩
  split at h1
  · exact ⟨true, rfl, fun I1 φ1 H1 e1 s1 => ite_tt ⟨I1, φ1, ρ, S1, s1, en.ext e1, PostS.ext e1 h1⟩⟩
  · exact ⟨false, rfl, fun I1 φ1 H1 e1 s1 => ite_ff ⟨I1, φ1, ρ, S1, s1, en.ext e1, PostS.ext e1 h1⟩⟩
  · exact h1.elim
theorem seqS {m : Stm} {ms : List Stm} : ∀ D σ H, tSs G cf L Ex (m :: ms) D σ H → tSeq (tS G cf L Ex m) (tSs G cf L Ex ms) D σ H := by
  rintro D σ H ⟨I, φ, ρ, S, s, en, h⟩
  simp only [execs] at h
  exact ⟨I, φ, ρ, S, s, en, h.seq _ fun ρ1 S1 _ σ1 I1 φ1 H1 e1 s1 en1 k => ⟨I1, φ1, ρ1, S1, s1, en1, k⟩⟩
theorem nilS : ∀ D σ H, tSs G cf L Ex [] D σ H → tNext D σ H := by
  rintro D σ H ⟨I, φ, ρ, S, s, en, h⟩
  simp only [execs] at h
  exact h σ I φ H (Ext.refl _ _ _) s en
theorem passS : ∀ D σ H, tS G cf L Ex .pass D σ H → tNext D σ H := by
  rintro D σ H ⟨I, φ, ρ, S, s, en, h⟩
  simp only [exec] at h
  exact h σ I φ H (Ext.refl _ _ _) s en
theorem brkS : ∀ D σ H, tS G cf L Ex .brk D σ H → tBreak D σ H := by
  rintro D σ H ⟨I, φ, ρ, S, s, en, h⟩
  simp only [exec] at h
  exact h σ I φ H (Ext.refl _ _ _) s en
theorem contS : ∀ D σ H, tS G cf L Ex .cont D σ H → tCont D σ H := by
  rintro D σ H ⟨I, φ, ρ, S, s, en, h⟩
  simp only [exec] at h
  exact h σ I φ H (Ext.refl _ _ _) s en
/-- a cell frozen: no statement of the text -/
theorem frzS {i : Nat} {ms : List Stm} : ∀ D σ H, tSs G cf L Ex (.frz i :: ms) D σ H → tSs G cf L Ex ms D σ H := by
  rintro D σ H ⟨I, φ, ρ, S, s, en, h⟩
  simp only [execs, exec] at h
  have key : ∀ (w : W) (m : Nat) (o : Ob) (a : Addr) (u : HO), φ[m]? = some a → S[m]? = some o → o ≠ .dead → H a = some u → ρ[i]? = some (some (.ref m)) → (∀ J, Same I J → J a = some u → Rel G J φ w (.ref a)) →
      PostS G Ex I φ H (execs cf L ms (ρ.set i (some w)) (S.set m .dead)) D → tSs G cf L Ex ms D σ H := by
    intro w m o a u hm hS hd hu hi hr h
    have hIa : I a = none := s.out m a o hm hS hd
    have sI : Same I (upd I a u) := same_upd hIa
    have e : Ext I φ H (upd I a u) φ H := ⟨sI, ⟨[], by simp, by simp⟩, fun _ _ _ h => h, fun _ h => h, fun b hb => by
      by_cases hba : b = a
      · exact .inr (.inr (.inl (by rw [hba]; exact List.mem_of_getElem? hm)))
      · rw [upd_ne hba] at hb; exact .inl hb⟩
    have s' : Sim G (upd I a u) φ (S.set m .dead) H := by
      refine ⟨fun b o' hb => ?_, by rw [List.length_set]; exact s.len, s.nd, fun k b o' hk hk1 hk2 => ?_, s.old, fun k b o' hk hk1 => ?_⟩
      · by_cases hba : b = a
        · rw [hba, upd_same] at hb; cases hb; rw [hba]; exact hu
        · rw [upd_ne hba] at hb; exact s.same _ _ hb
      · rw [List.getElem?_set] at hk1
        split at hk1
        · split at hk1
          · cases hk1; exact absurd rfl hk2
          · cases hk1
        · rename_i hne
          rw [upd_ne (fun z => hne ?_)]
          · exact s.out k b o' hk hk1 hk2
          · rw [z] at hk
            have hlt : m < φ.length := (List.getElem?_eq_some_iff.mp hm).1
            exact (List.getElem?_inj hlt s.nd).mp (by rw [hm, hk])
      · rw [List.getElem?_set] at hk1
        split at hk1
        · split at hk1
          · cases hk1; exact True.intro
          · cases hk1
        · exact (s.cell k b o' hk hk1).mono sI (Pre.refl _) fun _ z => z
    refine ⟨upd I a u, φ, ρ.set i (some w), S.set m .dead, s', ⟨by rw [List.length_set]; exact en.len, fun k w' hk => ?_⟩, PostS.ext e h⟩
    rw [List.getElem?_set] at hk
    split at hk
    · rename_i hik
      split at hk
      · cases hk
        obtain ⟨v, hv, rv⟩ := (en.ext e).at_ i _ hi
        obtain ⟨a', rfl, ha'⟩ := rv
        rw [hm] at ha'
        cases ha'
        exact ⟨.ref a, by rw [← hik]; exact hv, hr _ sI upd_same⟩
      · cases hk
    · exact (en.ext e).at_ k w' hk
  split at h
  · rename_i m hi
    obtain ⟨v, hv, a, rfl, ha⟩ := en.at_ i _ hi
    split at h
    · rename_i xs hS
      split at h
      · obtain ⟨vs, h1, r⟩ := s.cell m a _ ha hS
        exact key (.lst xs) m _ a _ ha hS (by simp) h1 hi (fun J sJ hJ => ⟨a, vs, rfl, hJ, r.mono sJ (Pre.refl _)⟩) h
      · exact h.elim
    · rename_i t ks vs hS
      split at h
      · cases t with
        | false =>
          obtain ⟨kvs, h1, hk, r⟩ := s.cell m a _ ha hS
          exact key (.dic false ks vs) m _ a _ ha hS (by simp) h1 hi (fun J sJ hJ => ⟨a, kvs, rfl, hJ, hk, r.mono sJ (Pre.refl _)⟩) h
        | true =>
          obtain ⟨kvs, h1, hk, r⟩ := s.cell m a _ ha hS
          exact key (.dic true ks vs) m _ a _ ha hS (by simp) h1 hi (fun J sJ hJ => ⟨a, kvs, rfl, hJ, hk, r.mono sJ (Pre.refl _)⟩) h
      · exact h.elim
    · exact h.elim
  · exact h.elim

/-! ### loops -/
theorem forS {t : Tg} {k : ItK} {srcs : List E} {body : List Stm} : ∀ D σ H, tS G cf L Ex (.forIn t k srcs body) D σ H → tFor (tI G cf Ex k srcs) (tTgt G t) (tSs G cf L Ex body) D σ H := by
  rintro D σ H ⟨I, φ, ρ, S, s, en, h⟩
  simp only [exec] at h
  refine ⟨I, φ, ρ, S, s, en, (h.sr en).imp fun ws S1 _ h1 => ?_⟩
  split at h1
  · rename_i xs hx
    refine ⟨xs, hx, ?_⟩
    intro J I1 φ1 H1 e1 s1 hy
    let R : Nat → L2.St → Hp → Prop := fun i σ' H' => i ≤ xs.length ∧ ∃ I2 φ2 ρ2 S2, Ext I1 φ1 H1 I2 φ2 H' ∧ Sim G I2 φ2 S2 H' ∧ Envs G I2 φ2 ρ2 σ' ∧ PostS G Ex I2 φ2 H' (forL t (fun ρ' S' => execs cf L body ρ' S') (xs.drop i) ρ2 S2) D
    refine ⟨fun i m σ' H' => m = xs.length - i ∧ R i σ' H', ⟨xs.length, by simp, Nat.zero_le _, I1, φ1, ρ, S1, Ext.refl _ _ _, s1, en.ext e1, by simpa using PostS.ext e1 h1⟩, ?_⟩
    rintro i m σ' H' ⟨rfl, hi, I2, φ2, ρ2, S2, e2, s2, en2, h2⟩
    have hyy := hy I2 φ2 S2 H' e2.same e2.pre' s2 i
    by_cases hlt : i < xs.length
    · right
      obtain ⟨hgo, hyl⟩ := hyy.1 _ (List.getElem?_eq_getElem hlt)
      refine ⟨hgo, fun σ3 H3 => R (i + 1) σ3 H3, fun σ3 H3 q => ⟨xs.length - (i + 1), by omega, rfl, q⟩, ?_⟩
      intro v H3 hv
      obtain ⟨I3, e3, s3, r3⟩ := hyl v H3 hv
      rw [List.drop_eq_getElem_cons hlt] at h2
      simp only [forL] at h2
      have h3 := PostS.ext e3 h2
      split at h3
      · exact h3.elim
      · rename_i ρ' hb
        refine ⟨I3, φ2, ρ2, S2, _, ρ', s3, en2.ext e3, r3, hb, fun σ4 en4 _ => ?_⟩
        refine ⟨I3, φ2, ρ', S2, s3, en4, ?_⟩
        split at h3
        · rename_i ρ5 S5 hbd
          rw [hbd]
          exact fun σ5 I5 φ5 H5 e5 s5 en5 => ⟨hlt, I5, φ5, ρ5, S5, e2.trans (e3.trans e5), s5, en5, PostS.ext e5 h3⟩
        · rename_i ρ5 S5 hbd
          rw [hbd]
          exact fun σ5 I5 φ5 H5 e5 s5 en5 => ⟨hlt, I5, φ5, ρ5, S5, e2.trans (e3.trans e5), s5, en5, PostS.ext e5 h3⟩
        · rename_i ρ5 S5 hbd
          rw [hbd]
          exact h3
        · rename_i r hr1 hr2 hr3
          cases hbd : execs cf L body ρ' S2 with
          | next ρ5 S5 => exact absurd hbd (hr1 ρ5 S5)
          | cont ρ5 S5 => exact absurd hbd (hr2 ρ5 S5)
          | brk ρ5 S5 => exact absurd hbd (hr3 ρ5 S5)
          | ret w S5 => rw [hbd] at h3; exact h3
          | ex ρ5 c S5 => rw [hbd] at h3; exact h3
          | bad => rw [hbd] at h3; exact h3
    · left
      have hi' : i = xs.length := by omega
      subst hi'
      rw [List.drop_length] at h2
      exact ⟨hyy.2 (Nat.le_refl _), h2 σ' I2 φ2 H' (Ext.refl _ _ _) s2 en2⟩
  · exact h1.elim
theorem forRS {t : Tg} {a : E} {body : List Stm} : ∀ D σ H, tS G cf L Ex (.forR t a body) D σ H → tFor (iList K (tE G cf Ex a)) (tTgt G t) (tSs G cf L Ex body) D σ H := by
  rintro D σ H ⟨I, φ, ρ, S, s, en, h⟩
  simp only [exec] at h
  refine ⟨I, φ, ρ, S, s, en, (h.sr en).imp fun w S1 _ h1 => ?_⟩
  intro v I1 φ1 H1 e1 s1 r1
  split at h1
  · rename_i n _
    obtain ⟨p, rfl, hp⟩ := r1
    have h1 := PostS.ext e1 h1
    have hL : ∃ xs, S1[n]? = some (.lst xs) := by
      cases L with
      | zero => exact h1.elim
      | succ L =>
        simp only [forC] at h1
        split at h1
        · exact ⟨_, by assumption⟩
        · exact h1.elim
    obtain ⟨xs0, hS0⟩ := hL
    obtain ⟨vs0, hv0, _⟩ := s1.cell n p _ hp hS0
    refine ⟨p, rfl, ⟨vs0, .inl (.inl hv0)⟩, ?_⟩
    let R : Nat → Nat → L2.St → Hp → Prop := fun i k σ' H' => ∃ I2 φ2 ρ2 S2, Ext I1 φ1 H1 I2 φ2 H' ∧ Sim G I2 φ2 S2 H' ∧ Envs G I2 φ2 ρ2 σ' ∧ PostS G Ex I2 φ2 H' (forC t (fun ρ' S' => execs cf L body ρ' S') n k i ρ2 S2) D
    refine ⟨R, ⟨L, I1, φ1, ρ, S1, Ext.refl _ _ _, s1, en.ext e1, h1⟩, ?_⟩
    rintro i k σ' H' ⟨I2, φ2, ρ2, S2, e2, s2, en2, h2⟩
    cases k with
    | zero => exact h2.elim
    | succ k =>
      simp only [forC] at h2
      split at h2
      · rename_i xs hS
        have hp2 : φ2[n]? = some p := e2.pre'.get hp
        obtain ⟨vs, hv, rv⟩ := s2.cell n p _ hp2 hS
        have hq : SqL K H' p vs := .inl (.inl hv)
        split at h2
        · rename_i hxi
          left
          refine ⟨⟨vs, hq, ?_⟩, h2 σ' I2 φ2 H' (Ext.refl _ _ _) s2 en2⟩
          rw [rv.length]
          exact List.getElem?_eq_none_iff.mp hxi
        · rename_i x hxi
          right
          obtain ⟨xv, hxv, rx⟩ := rv.get hxi
          refine ⟨⟨vs, xv, hq, hxv⟩, fun σ3 H3 => R (i + 1) k σ3 H3, fun σ3 H3 q => ⟨k, Nat.lt_succ_self k, q⟩, ?_⟩
          intro v H3 hy
          obtain ⟨rfl, hy⟩ := hy
          have := hy vs hq
          rw [hxv] at this
          cases this
          split at h2
          · exact h2.elim
          · rename_i ρ' hb
            refine ⟨I2, φ2, ρ2, S2, _, ρ', s2, en2, rx, hb, fun σ4 en4 _ => ?_⟩
            refine ⟨I2, φ2, ρ', S2, s2, en4, ?_⟩
            split at h2
            · rename_i ρ5 S5 hbd
              rw [hbd]
              exact fun σ5 I5 φ5 H5 e5 s5 en5 => ⟨I5, φ5, ρ5, S5, e2.trans e5, s5, en5, PostS.ext e5 h2⟩
            · rename_i ρ5 S5 hbd
              rw [hbd]
              exact fun σ5 I5 φ5 H5 e5 s5 en5 => ⟨I5, φ5, ρ5, S5, e2.trans e5, s5, en5, PostS.ext e5 h2⟩
            · rename_i ρ5 S5 hbd
              rw [hbd]
              exact h2
            · rename_i r hr1 hr2 hr3
              cases hbd : execs cf L body ρ' S2 with
              | next ρ5 S5 => exact absurd hbd (hr1 ρ5 S5)
              | cont ρ5 S5 => exact absurd hbd (hr2 ρ5 S5)
              | brk ρ5 S5 => exact absurd hbd (hr3 ρ5 S5)
              | ret w S5 => rw [hbd] at h2; exact h2
              | ex ρ5 c S5 => rw [hbd] at h2; exact h2
              | bad => rw [hbd] at h2; exact h2
      · exact h2.elim
  · exact h1.elim
theorem whileS {c : E} {body : List Stm} : ∀ D σ H, tS G cf L Ex (.whil c body) D σ H → tWhile (tT G cf Ex c) (tSs G cf L Ex body) D σ H := by
  rintro D σ H ⟨I, φ, ρ, S, s, en, h⟩
  simp only [exec] at h
  let R : Nat → L2.St → Hp → Prop := fun k σ' H' => ∃ I2 φ2 ρ2 S2, Sim G I2 φ2 S2 H' ∧ Envs G I2 φ2 ρ2 σ' ∧ PostS G Ex I2 φ2 H' (whileL (fun ρ' S' => ev cf c ρ' S') (fun ρ' S' => execs cf L body ρ' S') k ρ2 S2) D
  refine ⟨R, ⟨L, I, φ, ρ, S, s, en, h⟩, ?_⟩
  rintro k σ' H' ⟨I2, φ2, ρ2, S2, s2, en2, h2⟩
  cases k with
  | zero => exact h2.elim
  | succ k =>
    simp only [whileL] at h2
    refine ⟨I2, φ2, ρ2, S2, s2, en2, ?_⟩
    split at h2
    · rename_i S3 hc
      rw [hc]
      refine ⟨true, rfl, fun I3 φ3 H3 e3 s3 => ite_tt ⟨fun σ4 H4 => R k σ4 H4, fun σ4 H4 q => ⟨k, Nat.lt_succ_self k, q⟩, ?_⟩⟩
      refine ⟨I3, φ3, ρ2, S3, s3, en2.ext e3, ?_⟩
      have h3 := PostS.ext e3 h2
      split at h3
      · rename_i ρ5 S5 hbd
        rw [hbd]
        exact fun σ5 I5 φ5 H5 e5 s5 en5 => ⟨I5, φ5, ρ5, S5, s5, en5, PostS.ext e5 h3⟩
      · rename_i ρ5 S5 hbd
        rw [hbd]
        exact fun σ5 I5 φ5 H5 e5 s5 en5 => ⟨I5, φ5, ρ5, S5, s5, en5, PostS.ext e5 h3⟩
      · rename_i ρ5 S5 hbd
        rw [hbd]
        exact h3
      · rename_i r hr1 hr2 hr3
        cases hbd : execs cf L body ρ2 S3 with
        | next ρ5 S5 => exact absurd hbd (hr1 ρ5 S5)
        | cont ρ5 S5 => exact absurd hbd (hr2 ρ5 S5)
        | brk ρ5 S5 => exact absurd hbd (hr3 ρ5 S5)
        | ret w S5 => rw [hbd] at h3; exact h3
        | ex ρ5 c S5 => rw [hbd] at h3; exact h3
        | bad => rw [hbd] at h3; exact h3
    · rename_i S3 hc
      rw [hc]
      exact ⟨false, rfl, fun I3 φ3 H3 e3 s3 => ite_ff (h2 σ' I3 φ3 H3 e3 s3 (en2.ext e3))⟩
    · rename_i x S3 hc
      rw [hc]
      exact fun I' φ' H' e s => h2 σ' I' φ' H' e s (en2.ext e)
    · exact h2.elim

/-! ### o[k] = v -/
def rSetG (G : Gx) : TSet := fun o i v H Q => ∃ I φ S wo wk wv S', Sim G I φ S H ∧ Rel G I φ wo o ∧ Rel G I φ wk i ∧ Rel G I φ wv v ∧ setSem S wo wk wv = some S' ∧ ∀ I' φ' H', Ext I φ H I' φ' H' → Sim G I' φ' S' H' → Q H'
theorem ixN_ok {n : Nat} {i : Int} : Tw.ixN n i = L2.ixN n i := by
  first | rfl | (unfold Tw.ixN L2.ixN; rfl)
end Tw

/-! Tw, part O: storing into lists and dicts; assignments. -/
namespace Tw
open PySem PySem.Spec PyProof.Rows L2

variable {G : Gx} {I I' I1 I2 H H' H1 H2 : Hp} {φ φ' φ1 φ2 : List Addr} {S S' S1 : Sto} {K : PySem.W.Frag} {X : Cx} {cf : CallF} {T : Tab} {Ex : L2.St → XK} {n L : Nat} {sc : Scope}

theorem pset_ok (hu : X.A.units + 1 < cLine) : PSet X (rSetG G) := by
  rintro pins s σ H o i v ov iv u Q J ro ri rv ⟨I, φ, S, wo, wk, wv, S', sm, qo, qk, qv, e, k⟩
  match wo, e with
  | .ref m, e =>
    obtain ⟨a, rfl, ha⟩ := qo
    simp only [setSem] at e
    split at e
    · rename_i xs hS
      match wk, e with
      | .int z, e =>
        obtain rfl : i = _ := qk
        simp only [Option.map_eq_some_iff] at e
        obtain ⟨j, hj, rfl⟩ := e
        obtain ⟨vs, h1, r⟩ := sm.cell m a _ ha hS
        refine set_list pins s σ H _ _ v ov iv u Q J ro ri rv ⟨a, vs, z, j, rfl, rfl, h1, by rw [r.length]; exact hj, ?_⟩
        obtain ⟨s2, e2⟩ := sm.put (o' := .lst (xs.set j wv)) (u := .lst (vs.set j v)) ha hS (by simp) ⟨_, upd_same, r.set qv j⟩
        exact k _ _ _ e2 s2
    · rename_i t ks vs hS
      split at e
      · rename_i hc
        cases e
        simp only [Bool.and_eq_true, decide_eq_true_eq] at hc
        cases t with
        | false =>
          obtain ⟨kvs, h1, rfl, r⟩ := sm.cell m a _ ha hS
          obtain ⟨key, rfl, rfl⟩ := keyF qk hc.1
          have hl : kvs.length < sizeLine := by have := lim_ok hc.2; simpa using this
          refine set_dict hu pins s σ H _ _ v ov iv u Q J ro ri rv ⟨a, _, rfl, .k h1 hl, ?_⟩
          obtain ⟨s2, e2⟩ := sm.put (o' := .dic false (dputK (kvs.map fun p => kW p.1) (kW key)) (dputV (kvs.map fun p => kW p.1) vs (kW key) wv)) (u := .dK (putK kvs key v)) ha hS (by simp)
            ⟨_, upd_same, dputK_ok kW hfK key v kvs, dputV_ok kW hfK key qv r⟩
          exact k _ _ _ e2 s2
        | true =>
          obtain ⟨kvs, h1, rfl, r⟩ := sm.cell m a _ ha hS
          obtain ⟨key, b, rfl, rfl, hb⟩ := keyT qk hc.1
          have hl : kvs.length < sizeLine := by have := lim_ok hc.2; simpa using this
          refine set_dict hu pins s σ H _ _ v ov iv u Q J ro ri rv ⟨a, _, rfl, .t h1 (sm.same _ _ hb) hl, ?_⟩
          obtain ⟨s2, e2⟩ := sm.put (o' := .dic true (dputK (kvs.map fun p => W.tup (p.1.map kW)) (.tup (key.map kW))) (dputV (kvs.map fun p => W.tup (p.1.map kW)) vs (.tup (key.map kW)) wv)) (u := .dT (putK kvs key v)) ha hS (by simp)
            ⟨_, upd_same, dputK_ok (fun k => .tup (k.map kW)) hfT key v kvs, dputV_ok (fun k => .tup (k.map kW)) hfT key qv r⟩
          exact k _ _ _ e2 s2
      · cases e
    · cases e

/-! ### where a statement stands -/
structure XSk (T : Tab) (G : Gx) (cf : CallF) (Ex : L2.St → XK) (n : Nat) (sc : Scope) (X : Cx) : Prop extends XOk T G cf Ex n sc X where
  wr : Wr sc X
  own : T.cm = true → PassesOwn (model X.prog X.w) X.A X.env X.xe
  tk : T.cm = true → Takes X (fun cls d σ H => Ex σ cls d H)
  stk : X.stack = X.env :: X.outer
  frm : X.env.frame = some X.env.locals
  knd : sc.kind = .function

/-! ### assignments -/
def isLC : Expr → Bool
  | .ListComp _ _ _ _ => true
  | _ => false
def isTupE : Expr → Bool
  | .Tuple _ _ _ => true
  | _ => false
/-- the store swapped into a comprehension's end -/
def swNow (sc : Scope) (tg v : Expr) : Bool :=
  match tg, v with
  | .Name y py, .ListComp _ _ scope pos => decide (sc.names.lookup y = some .local) && (py.line == pos.line) && !(scope.names.any fun (n, k) => n == y && (k == .local || k == .cell))
  | _, _ => false
theorem sw_false {tg v : Expr} {l : Nat} (x : XSk T G cf Ex n sc X) (hv : plainE v = true) (h : swNow sc tg v = false) : swapsWithSole [tg] v l X.env = pure false := by
  show swapsWith v (some tg) l X.env = pure false
  cases v <;> first | (simp [plainE] at hv; done) | rfl | skip
  rename_i elt gs scope pos
  cases tg <;> first | rfl | skip
  rename_i y py
  have hb : X.env.blockKind = .function := by unfold PySem.Env.blockKind; rw [x.hsc, x.knd]; rfl
  have hk : X.env.kindOf y = sc.names.lookup y := by show X.env.scope.names.lookup y = _; rw [x.hsc]
  unfold swapsWith
  simp only [hb, hk]
  show (pure _ : Sem Bool) = pure false
  congr 1
  unfold swNow at h
  simp only at h
  rw [← h]
  cases hl : sc.names.lookup y with
  | none => rfl
  | some k => cases k <;> rfl
theorem st_none {tg v : Expr} (hv : plainE v = true) (h : isTupE tg = false ∨ isTupE v = false) {N : List PySem.Str} {t : Tg} {asc : Scope} (ht : tgOk N asc t tg = true) : swappedStores [tg] v X.env = pure none := by
  cases tg <;> first
    | rfl
    | (cases v <;> first | (simp [plainE] at hv; done) | rfl | (rcases h with h | h <;> cases h; done))
    | (cases t <;> simp [tgOk, nameAt] at ht; done)
theorem asg1 {t : Tg} {tg : Expr} (ht : tgOk T.N sc t tg = true) : (assignEach [tg] X.env).map (·.2) = [assign tg X.env] := by
  cases tg <;> first
    | rfl
    | (cases t <;> simp [tgOk, nameAt] at ht; done)
theorem asgOk {t : Tg} {tg v : Expr} {m : E} {pos : Pos} (x : XSk T G cf Ex n sc X) (hcm : isTg1 t = true ∨ T.cm = true) (ht : tgOk T.N sc t tg = true) (hv : plainE v = true) (hs : swNow sc tg v = false) (h2 : isTupE tg = false ∨ isTupE v = false) (hm : PE X v (tE G cf Ex m)) :
    PS X (.Assign [tg] v pos) (tS G cf L Ex (.asg t m)) :=
  PS_imp (ps_asg hm (tgOk_ok (fun z => x.calm (hcm.resolve_left (by rw [z]; simp))) x.hN x.nd x.wr ht) (sw_false x hv hs) (st_none hv h2 ht) (asg1 ht)) asgS
/-- .. of a comprehension stored on its own line -/
theorem asgLc {i : Nat} {y : PySem.Str} {py pos spos : Pos} {elt' tg iter : Expr} {ifs : List Expr} {scope : Scope} {elt : E} {t : Tg} {k : ItK} {srcs cond : List E} {own : List Nat} (x : XSk T G cf Ex n sc X) (hcm : T.cm = true)
    (hi : nameAt T.N sc i (.Name y py) = true) (hs : swNow sc (.Name y py) (.ListComp elt' [⟨tg, iter, ifs, 0⟩] scope pos) = true)
    (hc : chk T false sc (.comp elt t k srcs cond own) (.ListComp elt' [⟨tg, iter, ifs, 0⟩] scope pos) = true) (md : Bool) :
    PS X (.Assign [.Name y py] (.ListComp elt' [⟨tg, iter, ifs, 0⟩] scope pos) spos) (tS G cf L Ex (.asg (.one i) (if md then .mut (.comp elt t k srcs cond own) else .comp elt t k srcs cond own))) := by
  rw [chk] at hc
  simp only [compSyn] at hc
  split at hc
  · rename_i es hie
    simp only [Bool.and_eq_true, decide_eq_true_eq] at hc
    obtain ⟨⟨⟨⟨⟨⟨⟨_, h1⟩, h2⟩, h3⟩, h4⟩, h5⟩, h6⟩, h7⟩ := hc
    have p := (chks_ok srcs h1 x.toXOk).pes
    obtain ⟨q1, q2⟩ := itOk hie x.toXOk p
    simp only [nameAt, Bool.and_eq_true, decide_eq_true_eq] at hi
    simp only [swNow, Bool.and_eq_true, decide_eq_true_eq] at hs
    obtain ⟨⟨s1, s2⟩, s3⟩ := hs
    have hl : X.env.scope.names.lookup y = some .local := by rw [x.hsc]; exact s1
    have key : PS X (.Assign [.Name y py] (.ListComp elt' [⟨tg, iter, ifs, 0⟩] scope pos) spos) (tAsg (tF G cf Ex (.comp elt t k srcs cond own)) (tTgt G (.one i))) := by
      refine PS_imp (ps_setLc (i := i) (g := tTgt G t) (tt := tCond G cf cond) (te := tE G cf EN elt) (own := ownOf T.N own) (x.calm hcm) x.nd (by rw [x.hN]; exact hi.1) hl (sw_true (by rw [x.hsc]; exact x.knd) hl s2 (by simpa using s3)) q1 (by rw [x.hN, x.hsc]; exact blkOk_by h2) ?_ ?_ ?_ (set_ok q2)) ?_
      · intro s H C cl fp
        exact tgOk_ok (fun _ => x.calm hcm) x.hN x.nd blk_wr h3
      · intro s H C cl fp
        have pc := chks_ok (Ex := EN) cond h6 (blk_ok (s := s) (H := H) (C := C) (cl := cl) (fp := fp) (scope := scope) x.toXOk)
        exact condOk h5 pc
      · intro s H C cl fp
        exact (chk_ok elt h7 (blk_ok x.toXOk)).1
      · intro D σ H q
        rw [ownOf_snd]
        refine comp_ok h4 σ H _ ?_
        obtain ⟨I, φ, ρ, S, s, en, q⟩ := q
        refine ⟨I, φ, ρ, S, s, en, q.imp fun w S1 _ ⟨xs, hw, kf⟩ => ⟨xs, hw, ?_⟩⟩
        intro p us I1 φ1 H1 e1 s1 hp r hlen
        obtain ⟨J, ψ, ρ2, S2, w2, ρ3, sJ, enJ, rJ, hb, kJ⟩ := kf p us I1 φ1 H1 e1 s1 hp r hlen
        cases hb
        exact kJ _ (enJ.set rJ) fun own ho => wipe_set (by simpa [slots] using ho)
    cases md with
    | false => exact PS_imp key (asgF fun ρ S w S' he => comp_lst he)
    | true => exact PS_imp key (asgM rfl)
  · cases hc
end Tw

/-! Tw, part Os: storing into fields, augmented stores, raise. -/
namespace Tw
open PySem PySem.Spec PyProof.Rows L2

variable {G : Gx} {I I' I1 I2 H H' H1 H2 : Hp} {φ φ' φ1 φ2 : List Addr} {S S' S1 : Sto} {K : PySem.W.Frag} {X : Cx} {cf : CallF} {T : Tab} {Ex : L2.St → XK} {n L : Nat} {sc : Scope}

/-! ### x op= e -/
def augTab : Op → Option Operator
  | .add => some .Add
  | .sub => some .Sub
  | .mul => some .Mult
  | _ => none
def rAug (G : Gx) (o : Op) (x y : V) (H : Hp) (Q : VK) : Prop := ∃ I φ S a b w, Sim G I φ S H ∧ Rel G I φ a x ∧ Rel G I φ b y ∧ augSem o a b = some w ∧ KE G I φ H S w Q
theorem augTab_ok {o : Op} {c : Operator} (h : augTab o = some c) : PIp X c (rAug G o) := by
  rintro pins s σ H x y v u Q J rx ry ⟨I, φ, S, a, b, w, sm, ra, rb, e, k⟩
  cases o <;> cases h
  · cases a <;> cases b <;> first | (simp [augSem] at e; done) | skip
    · rename_i i j
      cases e
      exact in_add pins s σ H x y v u Q J rx ry ⟨i, j, ra, rb, k.here sm rfl⟩
    · rename_i i j
      simp only [augSem] at e
      split at e
      · rename_i hl
        cases e
        refine iop_add_str pins s σ H x y v u Q J rx ry ⟨_, _, ra, rb, ?_, k.here sm ?_⟩
        · have := Nat.le_of_lt (lim_ok hl)
          show i.toArray.size + j.toArray.size ≤ sizeLine
          simpa using this
        · show V.str _ = V.str _
          congr 1
          show PySem.Str.mk _ = PySem.Str.mk _
          congr 1
          simp
      · cases e
  · cases a <;> cases b <;> first | (simp [augSem] at e; done) | skip
    rename_i i j
    cases e
    exact in_sub pins s σ H x y v u Q J rx ry ⟨i, j, ra, rb, k.here sm rfl⟩
  · cases a <;> cases b <;> first | (simp [augSem] at e; done) | skip
    rename_i i j
    simp only [augSem] at e
    split at e
    · rename_i hc
      cases e
      refine iop_mul pins s σ H x y v u Q J rx ry ⟨i, j, ra, rb, (by simp only [CMul, Bool.or_eq_true, decide_eq_true_eq] at hc; exact hc.imp (fun h => ⟨by omega, by omega⟩) (fun h => ⟨by omega, by omega⟩)), k.here sm rfl⟩
    · cases e
theorem augS {i : Nat} {o : Op} {m : E} : ∀ D σ H, tS G cf L Ex (.aug i o m) D σ H → tAug i (tE G cf Ex m) (rAug G o) D σ H := by
  rintro D σ H ⟨I, φ, ρ, S, s, en, h⟩
  simp only [exec] at h
  split at h
  · rename_i x hx
    obtain ⟨v, hv, rv⟩ := en.at_ i x hx
    refine ⟨v, hv, I, φ, ρ, S, s, en, (h.sr en).imp fun w S1 _ h1 => ?_⟩
    intro y I1 φ1 H1 e1 s1 r1
    split at h1
    · rename_i z hz
      refine ⟨I1, φ1, S1, x, w, z, s1, rv.ext e1, r1, hz, ?_⟩
      intro zv I2 φ2 H2 e2 s2 r2
      exact h1 _ I2 φ2 H2 (e1.trans e2) s2 (((en.ext e1).ext e2).set r2)
    · exact h1.elim
  · exact h.elim

/-! ### o.f = v -/
theorem putF_at {f : PySem.Str} {y : V} : ∀ {fs : List (PySem.Str × V)} {i : Nat}, (fs.map (·.1)).Nodup → (fs.map (·.1))[i]? = some f →
    (putF f y fs).map (·.1) = fs.map (·.1) ∧ (putF f y fs).map (·.2) = (fs.map (·.2)).set i y
  | [], i, _, h => by simp at h
  | (g, x) :: r, 0, _, h => by
    simp only [List.map_cons, List.getElem?_cons_zero, Option.some.injEq] at h
    simp only [putF, h, if_true, List.map_cons, List.set_cons_zero]
    exact ⟨trivial, trivial⟩
  | (g, x) :: r, i + 1, nd, h => by
    simp only [List.map_cons, List.getElem?_cons_succ] at h
    simp only [List.map_cons, List.nodup_cons] at nd
    have hne : ¬ g = f := fun z => nd.1 (by rw [z]; exact List.mem_of_getElem? h)
    obtain ⟨h1, h2⟩ := putF_at (y := y) nd.2 h
    simp only [putF, if_neg hne, List.map_cons, h1, h2, List.set_cons_succ]
    exact ⟨trivial, trivial⟩
theorem putF_new {f : PySem.Str} {y : V} : ∀ {fs : List (PySem.Str × V)}, f ∉ fs.map (·.1) → putF f y fs = fs ++ [(f, y)]
  | [], _ => rfl
  | (g, x) :: r, h => by
    simp only [List.map_cons, List.mem_cons, not_or] at h
    simp only [putF, if_neg (Ne.symm h.1), putF_new h.2, List.cons_append]
theorem setFld_ok {c i : Nat} {f : PySem.Str} {wo wv : W} {x y : V} (hf : (G.fld c)[i]? = some f) (hnd : (G.fld c).Nodup) (s : Sim G I φ S H) (ro : Rel G I φ wo x) (rv : Rel G I φ wv y) (hS : setFld S c i wo wv = some S') :
    ∃ p dx fs, x = .ref p ∧ H p = some (.ins (G.cad c) dx fs) ∧ fs.length ≤ (G.fld c).length ∧ Sim G I φ S' (upd H p (.ins (G.cad c) dx (putF f y fs))) ∧ Ext I φ H I φ (upd H p (.ins (G.cad c) dx (putF f y fs))) := by
  unfold setFld at hS
  split at hS
  · rename_i m
    split at hS
    · rename_i c' xs hm
      split at hS
      · rename_i hcc
        subst hcc
        obtain ⟨p, rfl, hp⟩ := ro
        obtain ⟨dx, fs, hH, hk, rr⟩ := s.cell m p _ hp hm
        have hlen : fs.length ≤ (G.fld c').length := by
          have := congrArg List.length hk
          simp at this
          omega
        have hxl : fs.length = xs.length := by have := rr.length; simpa using this
        have ndf : (fs.map (·.1)).Nodup := by rw [hk]; exact hnd.sublist (List.take_sublist _ _)
        split at hS
        · rename_i hi
          cases hS
          have h1 : (fs.map (·.1))[i]? = some f := by rw [hk, List.getElem?_take, if_pos (by omega)]; exact hf
          obtain ⟨q1, q2⟩ := putF_at (y := y) ndf h1
          have hl2 : (putF f y fs).length = fs.length := by have := congrArg List.length q1; simpa using this
          obtain ⟨s2, e2⟩ := s.put (o' := .ins c' (xs.set i wv)) (u := .ins (G.cad c') dx (putF f y fs)) hp hm (by simp) ⟨dx, _, upd_same, by rw [q1, hl2, hk], by rw [q2]; exact rr.set rv i⟩
          exact ⟨p, dx, fs, rfl, hH, hlen, s2, e2⟩
        · split at hS
          · rename_i hi _ hi2
            cases hS
            have hnew : f ∉ fs.map (·.1) := by
              rw [hk]
              intro z
              obtain ⟨j, hj, e⟩ := List.getElem_of_mem z
              have hj' : j < fs.length := by simp at hj; omega
              have hj2 : (G.fld c')[j]? = some f := by
                rw [List.getElem_take] at e
                rw [List.getElem?_eq_getElem (by omega), e]
              have := (List.getElem?_inj (by omega) hnd).mp (hj2.trans hf.symm)
              omega
            have hpu := putF_new (y := y) hnew
            obtain ⟨s2, e2⟩ := s.put (o' := .ins c' (xs ++ [wv])) (u := .ins (G.cad c') dx (putF f y fs)) hp hm (by simp) ⟨dx, _, upd_same, by
              rw [hpu, List.map_append, hk]
              simp only [List.map_cons, List.map_nil, List.length_append, List.length_cons, List.length_nil, Nat.zero_add]
              have hil : fs.length < (G.fld c').length := by have := (List.getElem?_eq_some_iff.mp hf).1; omega
              rw [List.take_succ_eq_append_getElem hil]
              congr 1
              have : (G.fld c')[fs.length]? = some f := by rw [hxl, ← hi2]; exact hf
              rw [List.getElem?_eq_getElem hil] at this
              exact congrArg (· :: []) (Option.some.inj this).symm, by
              rw [hpu, List.map_append]
              exact rr.append (Rels.one rv)⟩
            exact ⟨p, dx, fs, rfl, hH, hlen, s2, e2⟩
          · cases hS
      · cases hS
    · cases hS
  · cases hS
theorem setFS {c i : Nat} {f : PySem.Str} {v o : E} (hC : Cls K (G.cad c)) (hn : NoAttr K (G.cad c) f) (hnd : (G.fld c).Nodup) (hf : (G.fld c)[i]? = some f) (hl : (G.fld c).length < 1000) :
    ∀ D σ H, tS G cf L Ex (.setF c i v o) D σ H → sFld K (tE G cf Ex o) (tE G cf Ex v) f D σ H := by
  rintro D σ H ⟨I, φ, ρ, S, s, en, h⟩
  simp only [exec] at h
  refine ⟨I, φ, ρ, S, s, en, (h.sr en).imp fun w S1 _ h1 => ?_⟩
  intro v1 I1 φ1 H1 e1 s1 r1
  refine ⟨I1, φ1, ρ, S1, s1, en.ext e1, ((PostS.ext e1 h1).sr (en.ext e1)).imp fun w2 S2 _ h2 => ?_⟩
  intro v2 I2 φ2 H2 e2 s2 r2
  have h3 := PostS.ext e2 h2
  split at h3
  · rename_i S3 hS
    obtain ⟨p, dx, fs, rfl, hp, hlen, s4, e4⟩ := setFld_ok hf hnd s2 r2 (r1.ext e2) hS
    exact ⟨p, _, dx, fs, rfl, hp, hC, hn, by omega, h3 σ _ _ _ e4 s4 (((en.ext e1).ext e2).ext e4)⟩
  · exact h3.elim
/-- o.f op= e -/
theorem augFS {c i : Nat} {f : PySem.Str} {v e : E} {o : Op} (hC : Cls K (G.cad c)) (hn : NoAttr K (G.cad c) f) (hnd : (G.fld c).Nodup) (hf : (G.fld c)[i]? = some f) (hl : (G.fld c).length < 1000) :
    ∀ D σ H, tS G cf L Ex (.augF c i v o e) D σ H → sFldAug K (tE G cf Ex v) (tE G cf Ex e) (rAug G o) f D σ H := by
  rintro D σ H ⟨I, φ, ρ, S, s, en, h⟩
  simp only [exec] at h
  refine ⟨I, φ, ρ, S, s, en, (h.sr en).imp fun w S1 _ h1 => ?_⟩
  intro v1 I1 φ1 H1 e1 s1 r1
  have h1 := PostS.ext e1 h1
  split at h1
  · rename_i x hx
    unfold fldSem at hx
    split at hx
    · rename_i c' xs hr
      split at hx
      · rename_i hcc
        subst hcc
        obtain ⟨p, dx, fs, rfl, hp, hfk, rr⟩ := recRel s1 r1 hr
        obtain ⟨y, hy, ry⟩ := rr.get hx
        have hil : i < fs.length := by have := (List.getElem?_eq_some_iff.mp hy).1; simpa using this
        have h1' : (fs.map (·.1))[i]? = some f := by rw [hfk, List.getElem?_take, if_pos hil]; exact hf
        have hnd' : (fs.map (·.1)).Nodup := by rw [hfk]; exact hnd.sublist (List.take_sublist _ _)
        refine ⟨p, _, dx, fs, y, rfl, hp, hC, hn, lookup_at hnd' h1' hy, I1, φ1, ρ, S1, s1, en.ext e1, (h1.sr (en.ext e1)).imp fun w2 S2 _ h2 => ?_⟩
        intro v2 I2 φ2 H2 e2 s2 r2
        have h2 := PostS.ext e2 h2
        split at h2
        · rename_i z hz
          refine ⟨I2, φ2, S2, x, w2, z, s2, ry.ext e2, r2, hz, ?_⟩
          intro v3 I3 φ3 H3 e3 s3 r3
          have h3 := PostS.ext e3 h2
          split at h3
          · rename_i S3 hS
            obtain ⟨p', dx', fs', ep, hp', hlen, s4, e4⟩ := setFld_ok hf hnd s3 ((r1.ext e2).ext e3) r3 hS
            cases ep
            exact ⟨dx', fs', hp', by omega, h3 σ _ _ _ e4 s4 ((((en.ext e1).ext e2).ext e3).ext e4)⟩
          · exact h3.elim
        · exact h2.elim
      · cases hx
    · cases hx
  · exact h1.elim
/-- a stored value: where it stands -/
theorem setSem_dict {m : Nat} {t : Bool} {ks vs : List W} {wk wv : W} {x : V} {kv v : V} (s : Sim G I φ S H) (hS : S[m]? = some (.dic t ks vs)) (ro : Rel G I φ (.ref m) x) (rk : Rel G I φ wk kv) (rv : Rel G I φ wv v) (e : setSem S (.ref m) wk wv = some S') :
    ∃ a H2, x = .ref a ∧ DPut H a kv v H2 ∧ Sim G I φ S' H2 ∧ Ext I φ H I φ H2 := by
  obtain ⟨a, rfl, ha⟩ := ro
  simp only [setSem, hS] at e
  split at e
  · rename_i hc
    cases e
    simp only [Bool.and_eq_true, decide_eq_true_eq] at hc
    cases t with
    | false =>
      obtain ⟨kvs, h1, rfl, r⟩ := s.cell m a _ ha hS
      obtain ⟨key, rfl, rfl⟩ := keyF rk hc.1
      have hl : kvs.length < sizeLine := by have := lim_ok hc.2; simpa using this
      obtain ⟨s2, e2⟩ := s.put (o' := .dic false (dputK (kvs.map fun p => kW p.1) (kW key)) (dputV (kvs.map fun p => kW p.1) vs (kW key) wv)) (u := .dK (putK kvs key v)) ha hS (by simp)
        ⟨_, upd_same, dputK_ok kW hfK key v kvs, dputV_ok kW hfK key rv r⟩
      exact ⟨a, _, rfl, .k h1 hl, s2, e2⟩
    | true =>
      obtain ⟨kvs, h1, rfl, r⟩ := s.cell m a _ ha hS
      obtain ⟨key, b, rfl, rfl, hb⟩ := keyT rk hc.1
      have hl : kvs.length < sizeLine := by have := lim_ok hc.2; simpa using this
      obtain ⟨s2, e2⟩ := s.put (o' := .dic true (dputK (kvs.map fun p => W.tup (p.1.map kW)) (.tup (key.map kW))) (dputV (kvs.map fun p => W.tup (p.1.map kW)) vs (.tup (key.map kW)) wv)) (u := .dT (putK kvs key v)) ha hS (by simp)
        ⟨_, upd_same, dputK_ok (fun k => .tup (k.map kW)) hfT key v kvs, dputV_ok (fun k => .tup (k.map kW)) hfT key rv r⟩
      exact ⟨a, _, rfl, .t h1 (s.same _ _ hb) hl, s2, e2⟩
  · cases e
/-- what leaves the store as it is -/
def isVC : E → Bool
  | .var _ => true
  | .con _ => true
  | _ => false
def stillE : E → Bool
  | .fstr as => as.all isVC
  | e => isVC e
theorem vc_ok {e : E} (h : isVC e = true) {ρ : Env} {w : W} (he : ev cf e ρ S = .ok w S') : S = S' := by
  cases e <;> first | (simp [isVC] at h; done) | skip
  · simp only [ev] at he
    split at he
    · cases he; rfl
    · cases he
  · simp only [ev] at he
    cases he; rfl
theorem vcs_ok {ρ : Env} : ∀ {es : List E} {S S' : Sto} {ws : List W}, es.all isVC = true → evs cf es ρ S = .ok ws S' → S = S'
  | [], S, S', ws, _, he => by
    simp only [evs] at he
    cases he; rfl
  | e :: es, S, S', ws, h, he => by
    simp only [List.all_cons, Bool.and_eq_true] at h
    simp only [evs] at he
    cases h1 : ev cf e ρ S with
    | ok w S1 =>
      rw [h1] at he
      simp only [Rs.bind] at he
      cases vc_ok h.1 h1
      cases h2 : evs cf es ρ S with
      | ok ws2 S2 =>
        rw [h2] at he
        simp only [Rs.bind] at he
        cases he
        exact vcs_ok h.2 h2
      | ex c S2 => rw [h2] at he; cases he
      | bad => rw [h2] at he; cases he
    | ex c S1 => rw [h1] at he; cases he
    | bad => rw [h1] at he; cases he
theorem still_ok {e : E} (h : stillE e = true) (ρ : Env) (S : Sto) (w : W) (S' : Sto) (he : ev cf e ρ S = .ok w S') : S = S' := by
  unfold stillE at h
  split at h
  · rename_i as
    simp only [ev] at he
    cases h1 : evs cf as ρ S with
    | ok ws S1 =>
      rw [h1] at he
      simp only [Rs.bind] at he
      split at he
      · split at he
        · cases he
          exact vcs_ok h h1
        · cases he
      · cases he
    | ex c S1 => rw [h1] at he; cases he
    | bad => rw [h1] at he; cases he
  · exact vc_ok h he

theorem setSem_dic {d k v : W} {t : Bool} {ks vs : List W} (hd : dicOf S d = some (t, ks, vs)) (hS : setSem S d k v = some S') : ∃ m, d = .ref m ∧ S[m]? = some (.dic t ks vs) := by
  cases d <;> first | (simp [setSem] at hS; done) | skip
  rename_i m
  simp only [dicOf] at hd
  split at hd
  · rename_i t' ks' vs' hS2
    cases hd
    exact ⟨m, rfl, hS2⟩
  · cases hd
/-- d[k] op= e -/
theorem augDS {v k e : E} {o : Op} (hst : ∀ ρ S w S', ev cf e ρ S = .ok w S' → S = S') : ∀ D σ H, tS G cf L Ex (.augS v k o e) D σ H → sDAug (tE G cf Ex v) (tE G cf Ex k) (tE G cf Ex e) (rAug G o) D σ H := by
  rintro D σ H ⟨I, φ, ρ, S, s, en, h⟩
  simp only [exec] at h
  refine ⟨I, φ, ρ, S, s, en, (h.sr en).imp fun d S1 _ h1 => ?_⟩
  intro v1 I1 φ1 H1 e1 s1 r1
  refine ⟨I1, φ1, ρ, S1, s1, en.ext e1, ((PostS.ext e1 h1).sr (en.ext e1)).imp fun wk S2 _ h2 => ?_⟩
  intro v2 I2 φ2 H2 e2 s2 r2
  have h2 := PostS.ext e2 h2
  split at h2
  · rename_i t ks vs hd
    split at h2
    · rename_i hk
      split at h2
      · rename_i x hx
        obtain ⟨a, oo, rfl, hg, _, hm⟩ := dget_rel s2 (r1.ext e2) hd r2 hk
        rw [hx] at hm
        obtain ⟨u, rfl, ru⟩ := hm
        refine ⟨a, u, rfl, hg, I2, φ2, ρ, S2, s2, (en.ext e1).ext e2, (h2.sr ((en.ext e1).ext e2)).imp fun w3 S3 hev h3 => ?_⟩
        have hss := hst _ _ _ _ hev
        subst hss
        intro v3 I3 φ3 H3 e3 s3 r3
        have h3 := PostS.ext e3 h3
        split at h3
        · rename_i z hz
          refine ⟨I3, φ3, S2, x, w3, z, s3, ru.ext e3, r3, hz, ?_⟩
          intro v4 I4 φ4 H4 e4 s4 r4
          have h4 := PostS.ext e4 h3
          split at h4
          · rename_i S4 hS
            have hd4 := setSem_dic hd hS
            obtain ⟨m, rfl, hSm⟩ := hd4
            obtain ⟨a', H5, ea, hput, s5, e5⟩ := setSem_dict s4 hSm (((r1.ext e2).ext e3).ext e4) ((r2.ext e3).ext e4) r4 hS
            cases ea
            exact ⟨H5, hput, h4 σ _ _ _ e5 s5 (((((en.ext e1).ext e2).ext e3).ext e4).ext e5)⟩
          · exact h4.elim
        · exact h3.elim
      · exact h2.elim
    · exact h2.elim
  · exact h2.elim

/-! ### raise -/
theorem raisS {c : Nat} : ∀ D σ H, tS G cf L Ex (.rais c) D σ H → Ex σ (.ref (G.cad c)) none H := by
  rintro D σ H ⟨I, φ, ρ, S, s, en, h⟩
  simp only [exec] at h
  exact h σ I φ H (Ext.refl _ _ _) s en
def raisSyn (T : Tab) (sc : Scope) (c : Nat) : Stmt → Bool
  | .Raise (some (.Call (.Name x _) [.Constant (.str _) _ _] [] _)) none _ => isGl sc x && !dbg x && T.exc.any fun e => e.1 == x && e.2 == c
  | _ => false
theorem dbg_not {x : PySem.Str} (h : (!dbg x) = true) : (x == ("__debug__" : PySem.Str)) = false := by
  simp only [dbg, Bool.not_eq_true', Bool.or_eq_false_iff] at h
  exact h.1.1
theorem raisOk {c : Nat} {s : Stmt} (h : raisSyn T sc c s = true) (hcm : T.cm = true) (x : XSk T G cf Ex n sc X) : PS X s (tS G cf L Ex (.rais c)) := by
  unfold raisSyn at h
  split at h
  · rename_i y p m j p2 pos pos'
    simp only [Bool.and_eq_true, List.any_eq_true, beq_iff_eq] at h
    obtain ⟨⟨h1, h2⟩, ⟨e1, e2⟩, he, rfl, rfl⟩ := h
    obtain ⟨gC, F, _⟩ := x.exc _ _ he
    refine PS_imp (ps_raise (x.calm hcm) (x.tk hcm) (pmk_own PySem.F.excBase_ValueError F.ex gC F.kp (raises_own F.hs F.tp) (x.toXOk.gl h1) (dbg_not h2))) raisS
  · cases h
/-- an own class's fields -/
def setFSyn (T : Tab) (c i : Nat) : Expr → Option Expr
  | .Attribute o f _ => if baseE o && T.cls.any (fun cl => cl.c == c && decide (cl.flds[i]? = some f) && decide (cl.flds.length < 1000)) then some o else none
  | _ => none
theorem sw_attr {o v : Expr} {f : PySem.Str} {p : Pos} {l : Nat} (hv : plainE v = true) : swapsWith v (some (.Attribute o f p)) l X.env = pure false := by
  cases v <;> first | (simp [plainE] at hv; done) | rfl
def augStoreOk : Expr → Bool
  | .Name _ _ => true
  | .Constant _ _ _ => true
  | .Subscript _ _ _ => true
  | .Attribute _ _ _ => true
  | .BinOp _ _ _ _ => true
  | .Call _ _ _ _ => true
  | _ => false
theorem aug_store {i : Expr} (h : augStoreOk i = true) (ov iv new : Value) : augStore i ov iv new = (do holding [new, ov, iv] (setItem ov iv new); release [new, ov, iv] []; pure .next) := by
  cases i <;> first | (simp [augStoreOk] at h; done) | rfl
theorem setFOk {c i : Nat} {v o : E} {tg o' v' : Expr} {pos : Pos} (h : setFSyn T c i tg = some o') (hv : plainE v' = true) (x : XSk T G cf Ex n sc X) (p1 : PE X v' (tE G cf Ex v)) (p2 : PE X o' (tE G cf Ex o)) : PS X (.Assign [tg] v' pos) (tS G cf L Ex (.setF c i v o)) := by
  unfold setFSyn at h
  split at h
  · rename_i o2 f pos'
    split at h
    · rename_i hc
      cases h
      simp only [Bool.and_eq_true, List.any_eq_true, decide_eq_true_eq, beq_iff_eq] at hc
      obtain ⟨hb, cl, hcl, ⟨rfl, hfi⟩, hl⟩ := hc
      obtain ⟨_, hC, _, hG, hnd, hN, _⟩ := x.cls cl hcl
      refine PS_imp (ps_fld p2 p1 (sw_attr hv)) (setFS hC.toCls (hN f (List.mem_of_getElem? hfi)) (by rw [hG]; exact hnd) (by rw [hG]; exact hfi) (by rw [hG]; exact hl))
    · cases h
  · cases h
theorem augFOk {c i : Nat} {v e : E} {o : Op} {op : Operator} {tg o' v' : Expr} {pos : Pos} (h : setFSyn T c i tg = some o') (ho : augTab o = some op) (x : XSk T G cf Ex n sc X) (p1 : PE X v' (tE G cf Ex e)) (p2 : PE X o' (tE G cf Ex v)) : PS X (.AugAssign tg op v' pos) (tS G cf L Ex (.augF c i v o e)) := by
  unfold setFSyn at h
  split at h
  · rename_i o2 f pos'
    split at h
    · rename_i hc
      cases h
      simp only [Bool.and_eq_true, List.any_eq_true, decide_eq_true_eq, beq_iff_eq] at hc
      obtain ⟨hb, cl, hcl, ⟨rfl, hfi⟩, hl⟩ := hc
      obtain ⟨_, hC, _, hG, hnd, hN, _⟩ := x.cls cl hcl
      refine PS_imp (ps_fldaug p2 p1 (augTab_ok ho)) (augFS hC.toCls (hN f (List.mem_of_getElem? hfi)) (by rw [hG]; exact hnd) (by rw [hG]; exact hfi) (by rw [hG]; exact hl))
    · cases h
  · cases h
def augSSyn : Expr → Option (Expr × Expr)
  | .Subscript o k _ => if augStoreOk k then some (o, k) else none
  | _ => none
theorem augSOk {v k e : E} {o : Op} {op : Operator} {tg o' k' v' : Expr} {pos : Pos} (h : augSSyn tg = some (o', k')) (hst : stillE e = true) (ho : augTab o = some op) (x : XSk T G cf Ex n sc X) (p1 : PE X v' (tE G cf Ex e)) (p2 : PE X o' (tE G cf Ex v)) (p3 : PE X k' (tE G cf Ex k)) :
    PS X (.AugAssign tg op v' pos) (tS G cf L Ex (.augS v k o e)) := by
  unfold augSSyn at h
  split at h
  · split at h
    · rename_i hk
      cases h
      exact PS_imp (ps_daug (by have := x.hu; omega) p2 p3 p1 (augTab_ok ho) (aug_store hk)) (augDS (still_ok hst))
    · cases h
  · cases h
end Tw

/-! Tw, part Ot: try .. except. -/
namespace Tw
open PySem PySem.Spec PyProof.Rows L2

variable {G : Gx} {I I' I1 I2 H H' H1 H2 : Hp} {φ φ' φ1 φ2 : List Addr} {S S' S1 : Sto} {K : PySem.W.Frag} {X : Cx} {cf : CallF} {T : Tab} {Ex : L2.St → XK} {n L : Nat} {sc : Scope}

/-! ### the caught exception is kept -/
theorem inv_lay {pins : List (Addr × Obj)} {σ : L2.St} {s : Shared} {sI : Shared} {a : Addr} {oe : Obj} {vs : Array Value} {C : Addr} (I : Inv X pins σ H s) (J : Inv X pins σ H sI) (hs : X.stack = X.env :: X.outer)
    (ha : s.heap.get? a = some oe) (hz : Zc (.ref C) none oe) (hd : oe.data = .fields vs) (na : H a = none) (hI : sI.heap.get? a = none) :
    Inv (X.suite a (X.pn ++ pins)) [] σ (upd H a (ExK C a)) s := by
  have gone : ∀ b o, sI.heap.get? b = some o → b ≠ a := fun b o e z => by rw [z, hI] at e; cases e
  have notH : ∀ b o, H b = some o → b ≠ a := fun b o e z => by rw [z, na] at e; cases e
  refine ⟨I.ok.suite _ _, I.os, I.bare, ⟨I.base.keep, I.base.slot, fun b o e n hx => ?_, I.base.there, fun b xs e => ?_, fun b o u e => ?_, fun b ps e => ?_⟩, I.loc, I.cell, ?_, fun x c e => ?_, fun p hp => ?_, fun b o e => ?_, I.len⟩
  · obtain ⟨o', e1⟩ := J.base.there b o e hx
    show upd H a (ExK C a) b = none
    rw [upd_ne (gone b o' e1)]
    exact I.base.free b o e n hx
  · have q := I.base.tups b xs e
    show upd H a (ExK C a) b = _
    rw [upd_ne (notH b _ q)]; exact q
  · have q := I.base.frzs b o u e
    show upd H a (ExK C a) b = _
    rw [upd_ne (notH b _ q)]; exact q
  · obtain ⟨m, q⟩ := I.base.tbls b ps e
    exact ⟨m, by show upd H a (ExK C a) b = _; rw [upd_ne (notH b _ q)]; exact q⟩
  · show upd H a (ExK C a) X.env.locals = none
    obtain ⟨m, ⟨oL, _, _, e, _⟩, _⟩ := J.loc
    rw [upd_ne (gone _ _ e)]
    exact I.free
  · show upd H a (ExK C a) c = none
    obtain ⟨v, o, e1, _⟩ := J.cell x c e
    rw [upd_ne (gone _ _ e1)]
    exact I.freeC x c e
  · have hp' : p ∈ X.pn ++ pins := by rw [List.append_nil] at hp; exact hp
    obtain ⟨q1, q2, q3⟩ := I.pin p hp'
    refine ⟨q1, ?_, q3⟩
    show upd H a (ExK C a) p.1 = none
    rw [upd_ne (gone _ _ (J.pin p hp').1)]
    exact q2
  · show ObjOk X.prog X.w (upd H a (ExK C a)) s.heap b o
    have e : upd H a (ExK C a) b = some o := e
    by_cases hb : b = a
    · rw [hb, upd_same] at e
      cases e
      rw [hb]
      exact ⟨⟨oe, vs, ha, hz, hd⟩, ⟨oe, ha⟩, fun h1 h2 ⟨oe', vs', e1, e2, e3⟩ k => ⟨oe', vs', k _ e1, e2, e3⟩⟩
    · rw [upd_ne hb] at e
      refine (I.hok b o e).stay (fun c v _ q => q) (fun c q => ?_) fun c xs q => ?_
      · rw [upd_ne (notH c _ q)]; exact q
      · rw [upd_ne (notH c _ q)]; exact q
/-- what the clause 'except x as n' wishes: slot i is n's; the exception is kept -/
def wLay (K : PySem.W.Frag) (c : Value) (i : Nat) (ts : TS) (Wout : WX) (D : Ends) : WX := fun cls d σ H =>
  ∃ b, PySem.W.exmOne K cls c = some b ∧ (b = true → ∃ C, cls = .ref C ∧ d = none ∧ ∀ a, H a = none → ts { nx := fun σ' H' => D.nx (σ'.set i none) H', rt := D.rt, bk := fun σ' H' => D.bk (σ'.set i none) H', ct := fun σ' H' => D.ct (σ'.set i none) H' } (σ.set i (some (.ref a))) (upd H a (ExK C a))) ∧
    (b = false → Wout cls d σ H)
theorem ps_try_lay {x n : PySem.Str} {c : Value} {i : Nat} {body suite : List Stmt} {b₀ : Stmt} {np pos pos' : Pos} {tb : WX → TS} {ts : TS} {Wout : WX} (hs : X.stack = X.env :: X.outer) (hf : X.env.frame = some X.env.locals) (hN : X.N.Nodup) (hi : X.N[i]? = some n) (hln : X.env.kindOf n = some .local) (hc : Names X x c) (tk : Takes X Wout)
    (hb : ∀ (W : WX) (pn : List (Addr × Obj)) (xe : Value → Shared → Prop), Takes (X.tr pn xe) W → PassesOwn (model X.prog X.w) X.A X.env xe → PSs (X.tr pn xe) body (tb W))
    (hsu : ∀ (a : Addr) (pn : List (Addr × Obj)), PSs (X.suite a pn) (b₀ :: suite) ts) :
    PS X (.Try body [.ExceptHandler (some (.Name x np)) (some n) (b₀ :: suite) pos'] [] [] pos) (fun D σ H => tb (wLay X.K c i ts Wout D) D σ H) := by
  refine ⟨fun pins s σ H D I h => ?_⟩
  have ok := I.ok
  have hfr : X.A.frames = some (X.env :: X.outer) := by rw [ok.frames, hs]
  have hloc : Loc X.env.scope n := .inl hln
  refine wpAny_Try_except ?_
  refine wpAny_mono ((hb (wLay X.K c i ts Wout D) (X.pn ++ pins) (fun e s₁ => wpAny (model X.prog X.w) X.A (noteFrame e X.env) (fun _ s₂ => wpAny (model X.prog X.w) X.A (setFlight e none) (fun _ s₃ =>
    wpAny (model X.prog X.w) X.A (handleBy e X.env [.ExceptHandler (some (.Name x np)) (some n) (b₀ :: suite) pos']) (SP X pins D) X.xe s₃) X.xe s₂) X.xe s₁) (fun u s' xx => ?_) PassesOwn.looking).run [] s σ H D (I.toTry _) h) (fun f s1 hsp => ?_) (fun e s1 he => he)
  · obtain ⟨a, B, sI, pins', σ', H', cls, d, rfl, J', nb, up, sky, na, os, ag, b, hb1, hyes, hno⟩ := xx
    have J : Inv X pins σ' H' sI := J'.ofTry ok
    have sky' : Sky B (X.env :: X.outer) a (Zc cls d) X.env.locals s'.heap := by rw [← hs]; exact sky
    show wpAny (model X.prog X.w) X.A (noteFrame (.ref a) X.env) _ _ _
    refine Sky.land Zc.steady hfr hf sky' fun h3 fl3 up3 => ?_
    have J3 : Inv X pins σ' H' { s' with heap := h3 } := J.landed nb fl3.1 (up.trans up3) os ag
    obtain ⟨oe3, vs3, he3, hz3, hd3⟩ := fl3.there
    have notFr : ∀ {h : Heap} {o : Obj} {vs : Array Value}, h.FunFrames B (X.env :: X.outer) → h.get? a = some o → o.data = .fields vs → a ∉ frs (X.env :: X.outer) := fun {h o vs} ff e dd hm => by
      obtain ⟨_, o', e', hnf⟩ := ff.mem hm
      rw [e] at e'; cases e'
      exact hnf _ dd
    have nfr := notFr fl3.2.2.1 he3 hd3
    have nL : a ≠ X.env.locals := fun z => nfr (List.mem_filterMap.mpr ⟨X.env, List.mem_cons_self, by rw [hf, z]⟩)
    have nF : a ∉ X.fs := fun hm => by
      obtain ⟨e, he, q⟩ := List.mem_filterMap.mp hm
      exact nfr (List.mem_filterMap.mpr ⟨e, List.mem_cons_of_mem _ he, q⟩)
    have hIa : sI.heap.get? a = none := by
      cases e : sI.heap.get? a with
      | none => rfl
      | some o =>
        have := nb a o e (by rw [hs]; exact nfr)
        rw [fl3.2.1] at this
        cases this
    have S3 := J3.suite he3 hd3 na nL nF
    refine wpAny_handleBy_cons (codeAny_handlers_test ?_) (by intro q; cases q)
    have LT : PySem.W.Looks (model X.prog X.w) h3 (typeOf (.ref a)) cls := fun A Q E s k q => wpAny_typeOf_ref (k _ _ he3) (by rw [hz3.1]; exact q)
    have LM := PySem.W.exm_one (M := model X.prog X.w) (J3.kIn) LT hb1
    have test : ∀ {Q : Value → Shared → Prop} {E : Value → Shared → Prop}, Q c { s' with heap := h3 } → wpAny (model X.prog X.w) (X.A.mark (some (.ref a))) (eval (.Name x np) X.env) Q E { s' with heap := h3 } := fun {Q E} q => by
      obtain ⟨hg, hdbg, hm | ⟨hm, hv, hnn⟩⟩ := hc
      · exact ld_glob (X := X.suite a ((a, oe3) :: (X.pn ++ pins))) S3 hg hm q hdbg
      · exact ld_blt (X := X.suite a ((a, oe3) :: (X.pn ++ pins))) S3 hg hm hv q hnn hdbg
    refine test (LM.here ?_)
    cases b with
    | true =>
      obtain ⟨C, rfl, rfl, hgo⟩ := hyes rfl
      refine codeAny_handlers_suite_as ?_
      refine HandSPX.lands_againZ fl3 fun h4 fl4 up4 => ?_
      have J4 : Inv X pins σ' H' { s' with heap := h4 } := J.landed nb fl4.1 ((up.trans up3).trans up4) os ag
      obtain ⟨oe4, vs4, he4, hz4, hd4⟩ := fl4.there
      have S4 := inv_lay J4 J hs he4 hz4 hd4 na hIa
      refine store_ok (X := X.suite a (X.pn ++ pins)) (v := .ref a) S4 hN hi hloc rfl (fun s5 S5 => ?_) (.inr hln)
      refine wpAny_mono ((hsu a (X.pn ++ pins)).run [] s5 _ _ _ S5 (hgo a na)) (fun f s6 hsp => ?_) (fun _ _ z => False.elim z)
      have uns : ∀ {σ6 : L2.St} {H6 : Hp}, Inv (X.suite a (X.pn ++ pins)) [] σ6 H6 s6 → Inv X pins σ6 H6 s6 := fun I =>
        ⟨ok, I.os, I.bare, I.base, I.loc, I.cell, I.free, I.freeC, fun p hp => I.pin p (List.mem_append_left _ hp), I.hok, I.len⟩
      have end_ : ∀ {σ6 : L2.St} {H6 : Hp} {Q : Shared → Prop}, Inv (X.suite a (X.pn ++ pins)) [] σ6 H6 s6 → (∀ s7, Inv X pins (σ6.set i none) H6 s7 → Q s7) →
          wpAny (model X.prog X.w) X.A (do bindName X.env n .none; unbindBehindTheSuite X.env n pos') (fun _ s7 => Q s7) X.xe s6 := fun {σ6 H6 Q} S6 hq => gone_ok (uns S6) hN hi hln hq
      cases f with
      | next =>
        obtain ⟨σ6, H6, S6, q6⟩ := hsp
        exact end_ S6 fun s7 J7 => ⟨_, _, J7, q6⟩
      | brk =>
        obtain ⟨σ6, H6, S6, q6⟩ := hsp
        exact end_ S6 fun s7 J7 => ⟨_, _, J7, q6⟩
      | cont =>
        obtain ⟨σ6, H6, S6, q6⟩ := hsp
        exact end_ S6 fun s7 J7 => ⟨_, _, J7, q6⟩
      | ret u =>
        obtain ⟨v6, σ6, H6, S6, r6, q6⟩ := hsp
        exact end_ S6 fun s7 J7 => ⟨_, _, _, J7, r6, q6⟩
    | false =>
      show wpAny _ X.A (handleBy (.ref a) X.env []) _ _ _
      refine wpAny_handleBy_nil ?_
      obtain ⟨k1, k2, k3, oe, vs, T, oT, ts', he, hz, hd, h1, hr⟩ := id fl3
      unfold PySem.passOn
      refine wpAny_bind (wpAny_field he hd h1 ?_)
      rw [if_neg (show ¬ ((Value.ref T == Value.none) = true) from by simp)]
      have fin : wpAny (model X.prog X.w) X.A (setFlight (.ref a) X.env.frame) (fun _ s4 => wpAny (model X.prog X.w) X.A (throw (.ref a) : Sem Flow) (SP X pins D) X.xe s4) X.xe { s' with heap := h3 } := by
        rw [hf]
        refine HandSPX.setFlight_upZ fl3 fun h4 hh4 up4 => wpAny_throw (tk _ _ ?_)
        exact ⟨a, B, sI, pins, σ', H', cls, d, rfl, J, nb, (up.trans up3).trans up4, .inr (.inr (by rw [hs]; exact hh4)), na, os, ag, hno rfl⟩
      first
        | exact wpAny_bind (wpAny_pure (wpAny_bind fin))
        | exact wpAny_bind fin
  · cases f with
    | next =>
      obtain ⟨σ', H', J', q⟩ := hsp
      exact wpAny_execs_nil ⟨σ', H', J'.ofTry ok, q⟩
    | brk =>
      obtain ⟨σ', H', J', q⟩ := hsp
      exact ⟨σ', H', J'.ofTry ok, q⟩
    | cont =>
      obtain ⟨σ', H', J', q⟩ := hsp
      exact ⟨σ', H', J'.ofTry ok, q⟩
    | ret u =>
      obtain ⟨v, σ', H', J', r, q⟩ := hsp
      exact ⟨v, σ', H', J'.ofTry ok, r, q⟩

/-! ### what the clauses ask -/
abbrev ExW (W : WX) : L2.St → XK := fun σ cls d H => W cls d σ H
/-- in a clause's suite -/
def Tab.hot (T : Tab) : Tab := { T with cm := false }
theorem XSk.tr (x : XSk T G cf Ex n sc X) {W : WX} {pn : List (Addr × Obj)} {xe : Value → Shared → Prop} (tk : Takes (X.tr pn xe) W) (po : PassesOwn (model X.prog X.w) X.A X.env xe) : XSk T G cf (ExW W) n sc (X.tr pn xe) where
  calm := x.calm
  hk := x.hk
  nd := x.nd
  hN := x.hN
  hsc := x.hsc
  un := x.un
  room := x.room
  blt := x.blt
  fns := x.fns
  csts := x.csts
  cls := x.cls
  mts := x.mts
  exc := x.exc
  exs := x.exs
  pass := fun σ => passAt tk σ
  wr := x.wr
  own := fun _ => po
  tk := fun _ => tk
  stk := x.stk
  frm := x.frm
  knd := x.knd
theorem XSk.hot (x : XSk T G cf Ex n sc X) {a : Addr} {pn : List (Addr × Obj)} : XSk T.hot G cf EN n sc (X.suite a pn) where
  calm := fun z => by cases z
  hk := x.hk
  nd := x.nd
  hN := x.hN
  hsc := x.hsc
  un := x.un
  room := fun z => by cases z
  blt := x.blt
  fns := x.fns
  csts := x.csts
  cls := x.cls
  mts := x.mts
  exc := x.exc
  exs := x.exs
  pass := fun σ pins H s e s' I c => by
    obtain ⟨a, B, H', cls, d, rfl, fl, hok, ub, na, os, ag, hE⟩ := c
    exact hE.elim
  wr := x.wr
  own := fun z => by cases z
  tk := fun z => by cases z
  stk := x.stk
  frm := x.frm
  knd := x.knd
theorem exm_at (x : XOk T G cf Ex n sc X) {y z : PySem.Str} {k c : Nat} (h : (y, k) ∈ T.exc) (hc : c = 9 ∨ (z, c) ∈ T.exc) : PySem.W.exmOne X.K (.ref (G.cad k)) (cvO G c) = some (subX k c) := by
  obtain ⟨_, F, hk, _, _, _, hp⟩ := x.exc _ _ h
  rcases hc with rfl | hc
  · have e1 : cvO G 9 = .type "ValueError" := rfl
    have e2 : subX k 9 = true := by simp [subX]; omega
    rw [e1, e2]
    exact F.ev
  · obtain ⟨_, F', hk', _⟩ := x.exc _ _ hc
    have e1 : cvO G c = .ref (G.cad c) := by unfold cvO; rw [if_neg (by omega)]
    rw [e1]
    have hkit := hp _ _ hc
    by_cases he : G.cad k = G.cad c
    · rw [he] at hkit ⊢
      have : PySem.W.kitOne X.K (.ref (G.cad c)) (.ref (G.cad c)) = some true := by unfold PySem.W.kitOne; simp
      rw [this] at hkit
      rw [← hkit]
      exact F'.me
    · unfold PySem.W.kitOne at hkit
      rw [if_neg (by simpa using he)] at hkit
      unfold PySem.W.exmOne
      rw [if_pos (by rw [F'.hs]; rfl)]
      exact hkit
/-- a suite's end, where its name goes -/
theorem PostS.unb {r : SR} {i : Option Nat} {D : Ends} (h : PostS G Ex I φ H (r.unb i) D) : PostS G EN I φ H r { nx := fun σ' H' => D.nx (match i with | some i => σ'.set i none | none => σ') H', rt := D.rt, bk := fun σ' H' => D.bk (match i with | some i => σ'.set i none | none => σ') H', ct := fun σ' H' => D.ct (match i with | some i => σ'.set i none | none => σ') H' } := by
  have w : ∀ {ρ : Env} {σ : L2.St} {I' : Hp} {φ' : List Addr}, Envs G I' φ' ρ σ → Envs G I' φ' (unE i ρ) (match i with | some i => σ.set i none | none => σ) := fun en => by
    cases i with
    | none => exact en
    | some i => exact en.wipe [i]
  cases r with
  | next ρ S => exact fun σ I' φ' H' e s en => h _ I' φ' H' e s (w en)
  | ret w S => exact h
  | brk ρ S => exact fun σ I' φ' H' e s en => h _ I' φ' H' e s (w en)
  | cont ρ S => exact fun σ I' φ' H' e s en => h _ I' φ' H' e s (w en)
  | ex ρ c S => exact h.elim
  | bad => exact h
theorem tryS0 {ks : List Nat} {body hd : List Stm} {c : Nat} {cv : Value} (hks : ∀ k ∈ ks, PySem.W.exmOne K (.ref (G.cad k)) cv = some (subX k c)) :
    ∀ D σ H, tS G cf L Ex (.tryE ks body c none hd) D σ H → tSs G cf L (ExW (wOnly K cv (fun _ _ _ => tSs G cf L EN hd) (fun cls d σ H => Ex σ cls d H) D)) body D σ H := by
  rintro D σ H ⟨I, φ, ρ, S, s, en, h⟩
  simp only [exec] at h
  refine ⟨I, φ, ρ, S, s, en, ?_⟩
  cases hb : execs cf L body ρ S with
  | next ρ1 S1 => rw [hb] at h; exact h
  | ret w S1 => rw [hb] at h; exact h
  | brk ρ1 S1 => rw [hb] at h; exact h
  | cont ρ1 S1 => rw [hb] at h; exact h
  | bad => rw [hb] at h; exact h
  | ex ρ1 k S1 =>
    rw [hb] at h
    simp only at h
    split at h
    · rename_i hk
      have hk : k ∈ ks := by simpa using hk
      intro σ1 I1 φ1 H1 e1 s1 en1
      refine ⟨_, hks k hk, fun z => ?_, fun z => ?_⟩
      · rw [if_pos z] at h
        intro a na
        exact ⟨I1, φ1, ρ1, S1, s1, en1, (PostS.ext e1 h).unb⟩
      · rw [if_neg (by rw [z]; simp)] at h
        exact h σ1 I1 φ1 H1 e1 s1 en1
    · exact h.elim
theorem tryS1 {ks : List Nat} {body hd : List Stm} {c i : Nat} {cv : Value} (hks : ∀ k ∈ ks, PySem.W.exmOne K (.ref (G.cad k)) cv = some (subX k c)) (hex : ∀ k ∈ ks, k ∈ G.exs) :
    ∀ D σ H, tS G cf L Ex (.tryE ks body c (some i) hd) D σ H → tSs G cf L (ExW (wLay K cv i (tSs G cf L EN hd) (fun cls d σ H => Ex σ cls d H) D)) body D σ H := by
  rintro D σ H ⟨I, φ, ρ, S, s, en, h⟩
  simp only [exec] at h
  refine ⟨I, φ, ρ, S, s, en, ?_⟩
  cases hb : execs cf L body ρ S with
  | next ρ1 S1 => rw [hb] at h; exact h
  | ret w S1 => rw [hb] at h; exact h
  | brk ρ1 S1 => rw [hb] at h; exact h
  | cont ρ1 S1 => rw [hb] at h; exact h
  | bad => rw [hb] at h; exact h
  | ex ρ1 k S1 =>
    rw [hb] at h
    simp only at h
    split at h
    · rename_i hk
      have hk : k ∈ ks := by simpa using hk
      intro σ1 I1 φ1 H1 e1 s1 en1
      refine ⟨_, hks k hk, fun z => ?_, fun z => ?_⟩
      · rw [if_pos z] at h
        refine ⟨_, rfl, rfl, fun a na => ?_⟩
        obtain ⟨s2, e2⟩ := s1.newI (o := ExK (G.cad k) a) na
        exact ⟨_, φ1, ρ1.set i (some (.exn k)), S1, s2, (en1.ext e2).set ⟨a, rfl, upd_same, hex k hk⟩, (PostS.ext (e1.trans e2) h).unb⟩
      · rw [if_neg (by rw [z]; simp)] at h
        exact h σ1 I1 φ1 H1 e1 s1 en1
    · exact h.elim
def trySyn : Stmt → Option (List Stmt × PySem.Str × Option PySem.Str × List Stmt)
  | .Try body [.ExceptHandler (some (.Name x _)) nm (b :: suite) _] [] [] _ => some (body, x, nm, b :: suite)
  | _ => none
/-- the clause's class and name -/
def tryChk (T : Tab) (sc : Scope) (ks : List Nat) (c : Nat) (i : Option Nat) (x : PySem.Str) (nm : Option PySem.Str) : Bool :=
  T.cm && (ks.all fun k => T.exc.any fun e => e.2 == k) && isGl sc x && !dbg x && ((c == 9 && x == ("ValueError" : PySem.Str)) || T.exc.any fun e => e.1 == x && e.2 == c) &&
  match i, nm with
  | none, none => true
  | some i, some n => decide (T.N[i]? = some n) && decide (sc.names.lookup n = some .local)
  | _, _ => false
theorem tryOk {ks : List Nat} {c : Nat} {i : Option Nat} {ms hd : List Stm} {st : Stmt} {body suite : List Stmt} {y : PySem.Str} {nm : Option PySem.Str} (h : trySyn st = some (body, y, nm, suite)) (hc : tryChk T sc ks c i y nm = true) (x : XSk T G cf Ex n sc X)
    (hb : ∀ {Ex' : L2.St → XK} {X' : Cx}, XSk T G cf Ex' n sc X' → PSs X' body (tSs G cf L Ex' ms)) (hs : ∀ {Ex' : L2.St → XK} {X' : Cx}, XSk T.hot G cf Ex' n sc X' → PSs X' suite (tSs G cf L Ex' hd)) : PS X st (tS G cf L Ex (.tryE ks ms c i hd)) := by
  unfold trySyn at h
  split at h
  · rename_i b y' np nm' b0 suite' pos' pos
    cases h
    simp only [tryChk, Bool.and_eq_true, List.all_eq_true, List.any_eq_true, beq_iff_eq, Bool.or_eq_true] at hc
    obtain ⟨⟨⟨⟨⟨hcm, h1⟩, h2⟩, h3⟩, h4⟩, h5⟩ := hc
    have hc' : c = 9 ∨ (y, c) ∈ T.exc := by
      rcases h4 with ⟨a, _⟩ | ⟨⟨e1, e2⟩, he, rfl, rfl⟩
      · exact .inl a
      · exact .inr he
    have hks : ∀ k ∈ ks, PySem.W.exmOne X.K (.ref (G.cad k)) (cvO G c) = some (subX k c) := fun k hk => by
      obtain ⟨⟨e1, e2⟩, he, rfl⟩ := h1 k hk
      exact exm_at x.toXOk he hc'
    have hex : ∀ k ∈ ks, k ∈ G.exs := fun k hk => by
      obtain ⟨⟨e1, e2⟩, he, rfl⟩ := h1 k hk
      exact (x.exc _ _ he).2.2.2.2.2.1
    have hnm : Names X y (cvO G c) := by
      rcases h4 with ⟨a, b⟩ | ⟨⟨e1, e2⟩, he, rfl, rfl⟩
      · subst a b
        exact names_blt (x.toXOk.gl h2) (x.blt _ (by decide)) boot_ValueError
      · obtain ⟨g, _, hk, _⟩ := x.exc _ _ he
        have : cvO G e2 = .ref (G.cad e2) := by unfold cvO; rw [if_neg (by omega)]
        rw [this]
        exact ⟨x.toXOk.gl h2, dbg_not h3, .inl g⟩
    cases i with
    | none =>
      cases nm with
      | some _ => cases h5
      | none =>
        exact PS_imp (ps_try_only (tb := fun W => tSs G cf L (ExW W) ms) (ts := fun _ _ _ => tSs G cf L EN hd) x.stk x.frm hnm (x.tk hcm) (fun W pn xe tk po => hb (x.tr tk po)) (fun a oe cls d pn _ _ => hs x.hot)) (tryS0 hks)
    | some i =>
      cases nm with
      | none => cases h5
      | some nn =>
        simp only [Bool.and_eq_true, decide_eq_true_eq] at h5
        exact PS_imp (ps_try_lay (tb := fun W => tSs G cf L (ExW W) ms) (ts := tSs G cf L EN hd) x.stk x.frm x.nd (by rw [x.hN]; exact h5.1) (by show X.env.scope.names.lookup nn = _; rw [x.hsc]; exact h5.2) hnm (x.tk hcm) (fun W pn xe tk po => hb (x.tr tk po)) (fun a pn => hs x.hot)) (tryS1 hks hex)
  · cases h
end Tw

/-! Tw, part Od: for over a dict's items or values. -/
namespace L2
open PySem PySem.Spec PyProof.Rows
/-! ### the items of a dict with tuple keys -/
section
variable {X : Cx} {pins : List (Addr × Obj)} {σ : St} {H : Hp} {s : Shared} {d : Addr} {o : Obj}
theorem Inv.frzTv {kvs : List (List Key × V)} (I : Inv X pins σ H s) (h : H d = some (.frz o (.dT kvs))) :
    (d == sysModules) = false ∧ s.heap.get? d = some o ∧ o.ExactDict ∧ ∃ (es : Array DictEntry) (ep : Nat), o.data = .dict es ep ∧ es.size = kvs.length ∧
      ∀ (i : Nat) (k : List Key) (v : V), kvs[i]? = some (k, v) → ∃ (en : DictEntry) (q : Addr), es[i]? = some en ∧ en.key = .ref q ∧ H q = some (.tup (k.map kV)) ∧ RelV v en.val := by
  obtain ⟨hd, z, hs, xs, pr, o', es, ep, ho, hx, hdt, he, _⟩ := I.hok d _ h
  rw [hd] at ho
  cases ho
  refine ⟨hs, hd, hx, es, ep, hdt, ?_, fun i k v e => ?_⟩
  · have l1 : es.size = xs.length := size_of_entries he
    have l2 : kvs.length = xs.length := Paired.length pr
    omega
  · obtain ⟨b, hb, e1, e2, e3⟩ := paired_get pr e
    have q := entry_at he i
    rw [hb] at q
    exact ⟨_, b.2.1, q, rfl, e2, e3⟩
end
def Itit (d : Addr) (o : Obj) (kvs : List (List Key × V)) : It :=
  ⟨fun i H => H d = some (.frz o (.dT kvs)) ∧ i < kvs.length, fun i H x H' => ∃ T q k v, kvs[i]? = some (k, v) ∧ x = .ref T ∧ H q = some (.tup (k.map kV)) ∧ H T = none ∧ H' = upd H T (.tup [.ref q, v]), fun i H => H d = some (.frz o (.dT kvs)) ∧ kvs.length ≤ i⟩
section
variable {P : Program} {w : World} {K : PySem.W.Frag} {tg : Expr} {d : Addr} {o : Obj} {es : Array DictEntry} {ep : Nat}
theorem turn_itemsT {kvs : List (List Key × V)} {elts : List Expr} {kk : Nat} {tpos : Pos} (it : Addr) (hod : o.data = .dict es ep) :
    Turn P w K (.Tuple elts kk tpos) (Itit d o kvs) [it] it (fun i h => ∃ ok ov, IsItemIter h it d i kvs.length ep ok ov) where
  mem := by simp
  obj := fun i h st b hb => by
    have e : b = it := by simpa using hb
    subst e
    obtain ⟨ok, ov, e⟩ := st
    exact ⟨_, e, fun v z => nomatch z⟩
  keep := fun i h h' st k => let ⟨ok, ov, e⟩ := st; ⟨ok, ov, k it (by simp) _ e⟩
  item := by
    intro X hP hw hK hc i pins s σ H E I hf st hg
    subst hP hw hK
    obtain ⟨hd, hi⟩ := hg
    obtain ⟨hs, hgd, hx, es', ep', hdt, hsz, ent⟩ := I.frzTv hd
    obtain ⟨rfl, rfl⟩ := dict_ep hod hdt
    obtain ⟨⟨k, v⟩, hkv⟩ : ∃ p, kvs[i]? = some p := ⟨kvs[i], List.getElem?_eq_getElem hi⟩
    obtain ⟨en, q, hen, hkey, hq, rv⟩ := ent i k v hkv
    obtain ⟨ok, ov, he⟩ := st
    rw [← hsz] at he
    have hlt : it < s.heap.objs.size := Heap.lt_size he
    have hie : i < es'.size := by rw [hsz]; exact hi
    have hen' : es'[i] = en := by rw [Array.getElem?_eq_getElem hie] at hen; exact Option.some.inj hen
    refine DT.nextI he ⟨o, hgd, hx, hdt⟩ hie fun h' ho hT hz hk => ?_
    rw [hen', hkey] at hT ho
    refine ⟨_, rfl, wpAny_letOwnedTupleGo_items (s := { s with heap := h' }) ho fun h'' he' sb => ?_⟩
    have hT2 : h''.get? s.heap.objs.size = some { cls := .type "tuple", data := .seq #[.ref q, en.val] } := (sb.2 _ (Nat.ne_of_gt hlt)).trans hT
    have new : ObjOk X.prog X.w (upd H s.heap.objs.size (.tup [.ref q, v])) h'' s.heap.objs.size (.tup [.ref q, v]) :=
      ⟨by show 2 ≤ sizeLine; decide, [.ref q, en.val], .cons rfl (.cons rv .nil), ⟨_, hT2, rfl, _, rfl⟩⟩
    have I1 : Inv X pins σ (upd H s.heap.objs.size (.tup [.ref q, v])) { s with heap := h'' } :=
      I.turnedNew (t' := s.toks) (ch := [it]) (fun b ob hb e => (sb.2 b (by simpa using hb)).trans (hk b ob (by simpa using hb) e)) hf (Nat.le_refl _) new
    refine ⟨.ref s.heap.objs.size, _, I1, rfl, ⟨_, q, k, v, hkv, rfl, hq, I.hok.fresh (Nat.le_refl _), rfl⟩, ⟨.ref q, en.val, ?_⟩, fun b hb => ?_⟩
    · rw [← hsz]; exact he'
    · have e : b = it := by simpa using hb
      rw [e, upd_ne (Nat.ne_of_lt hlt)]
      exact (hf it (by simp)).1
  done := by
    intro X hP hw hK hc i pins s σ H E I hf st hg
    subst hP hw hK
    obtain ⟨hd, hi⟩ := hg
    obtain ⟨f0, f1, f2, f3, f4, f5⟩ := hf it (by simp)
    obtain ⟨hs, hgd, hx, es', ep', hdt, hsz, ent⟩ := I.frzTv hd
    obtain ⟨rfl, rfl⟩ := dict_ep hod hdt
    obtain ⟨ok, ov, he⟩ := st
    rw [← hsz] at he
    exact DT.endI (I.ok.hd hc) he ⟨o, hgd, hx, hdt⟩ (by omega) fun h' eb => ⟨rfl, I.turned (t' := s.toks) (fun b ob hb e => eb b ob hb e) f0 f1 f3 f4 f5⟩
  self := fun A i s Q E st h => let ⟨_, _, e⟩ := st; PySem.W.kcp_self e h
end
def iItemsT (td : TE) : TI := fun σ H R => td σ H fun x H1 => ∃ d o kvs, x = .ref d ∧ H1 d = some (.frz o (.dT kvs)) ∧ R (Itit d o kvs) H1
theorem pi_itemsT {X : Cx} {e : Expr} {td : TE} {apos cpos : Pos} {elts : List Expr} {kk : Nat} {tpos : Pos} (he : PE X e td) (hbase : attributeBase e "items" X.env (eval e X.env) = eval e X.env := by rfl) (hline : (apos.endLine == cpos.line) = true := by rfl) :
    PI X (.Tuple elts kk tpos) (.Call (.Attribute e "items" apos) [] [] cpos) (iItemsT td) := by
  refine ⟨fun pins s σ H R I h => ?_⟩
  refine wpAny_Call_method (T := "dict") (id := "dict.items") hbase rfl hline F.plainAttrs_dict F.slot_dict_items F.type_dict_items (thn (he.run pins s σ H _ I h) fun u s1 ⟨x, H1, I1, rx, d, o, kvs, ex, hd, q⟩ => ?_)
  subst ex
  obtain rfl : u = Value.ref d := rx
  obtain ⟨hs, hgd, hx, es, ep, hdt, hsz, ent⟩ := I1.frzTv hd
  have hm : DT.Raw s1.heap d es ep := ⟨o, hgd, hx, hdt⟩
  refine ⟨hm.typeIs, fun a ea => by cases ea; exact ⟨o, hgd, hx.2.1⟩, ?_⟩
  have I2 : Inv X pins σ H1 { s1 with heap := s1.heap.push { cls := .type "dict_items", data := .fields #[.ref d] } } := I1.kept (t' := s1.toks) fun b ob q => Heap.get?_push_of_some _ q
  have fin : wpAny (model X.prog X.w) X.A (pyIter (.ref s1.heap.objs.size)) (PIE X pins σ (.Tuple elts kk tpos) R) X.xe { s1 with heap := s1.heap.push { cls := .type "dict_items", data := .fields #[.ref d] } } := by
    refine DT.iterI (d := d) (es := es) (ep := ep) ⟨_, Heap.get?_push_size _ rfl, rfl, rfl⟩ (hm.push _) (pi_one (tk := s1.toks) I2 _ (turn_itemsT _ hdt) ⟨.none, .none, ?_⟩ q)
    rw [hsz]
    exact Heap.get?_push_size _ rfl
  show wpAny _ _ (callWith cpos (.builtin "dict.items") [.ref d] [] []) _ X.xe s1
  exact method_meetsIn F.slot_dict_items F.entry_dict_items rfl (PySem.evalArgs_none ⟨rfl, hm.typeIs, F.args_dict_items_1 _, _, DT.meetsItems (es := es) (ep := ep) hs, ⟨hm, fin⟩⟩)
end L2
namespace Tw
open PySem PySem.Spec PyProof.Rows L2

variable {G : Gx} {I I' I1 I2 H H' H1 H2 : Hp} {φ φ' φ1 φ2 : List Addr} {S S' S1 : Sto} {K : PySem.W.Frag} {X : Cx} {cf : CallF} {T : Tab} {Ex : L2.St → XK} {n L : Nat} {sc : Scope}

/-! ### a cell locked, and given back -/
def rem (I : Hp) (d : Addr) : Hp := fun a => if a = d then none else I a
theorem rem_ne {a d : Addr} (h : a ≠ d) : rem I d a = I a := by unfold rem; rw [if_neg h]
theorem rem_same {d : Addr} : rem I d d = none := by unfold rem; rw [if_pos rfl]
/-- a dict, locked -/
def LkD (I : Hp) (d : Addr) : Prop := ∃ od u, I d = some (.frz od u) ∧ ∀ xs, u ≠ .lst xs
theorem LkD.ne {d a : Addr} {o : HO} (h : LkD I d) (e : I a = some o) (ho : ∀ od u, o ≠ .frz od u) : a ≠ d := fun z => by
  obtain ⟨od, u, h1, _⟩ := h
  rw [z, h1] at e
  cases e
  exact ho _ _ rfl
mutual
theorem Rel.rem {d : Addr} (h : LkD I d) : ∀ {w : W} {v : V}, Rel G I φ w v → Rel G (rem I d) φ w v
  | .non, _, r => r
  | .bl _, _, r => r
  | .int _, _, r => r
  | .str _, _, r => r
  | .tup ws, _, ⟨a, vs, e, q, r⟩ => ⟨a, vs, e, by rw [rem_ne (h.ne q fun _ _ z => nomatch z)]; exact q, Rels.rem h r⟩
  | .lst ws, _, ⟨a, vs, e, q, r⟩ => ⟨a, vs, e, by rw [rem_ne (h.ne q fun _ _ z => nomatch z)]; exact q, Rels.rem h r⟩
  | .dic false ks vs, _, ⟨a, kvs, e, q, k, r⟩ => ⟨a, kvs, e, by rw [rem_ne (h.ne q fun _ _ z => nomatch z)]; exact q, k, Rels.rem h r⟩
  | .dic true ks vs, _, ⟨a, kvs, e, q, k, r⟩ => ⟨a, kvs, e, by rw [rem_ne (h.ne q fun _ _ z => nomatch z)]; exact q, k, Rels.rem h r⟩
  | .rcd c ws, _, ⟨a, dx, fs, e, q, k, r⟩ => ⟨a, dx, fs, e, by rw [rem_ne (h.ne q fun _ _ z => nomatch z)]; exact q, k, Rels.rem h r⟩
  | .ref n, _, r => r
  | .exn _, _, ⟨a, e, q, hk⟩ => ⟨a, e, by rw [rem_ne (h.ne q fun _ _ z => nomatch z)]; exact q, hk⟩
  | .klst ns, _, ⟨a, e, q⟩ => ⟨a, e, by
    rcases q with (q | ⟨od, q⟩) | q
    · exact .inl (.inl (by rw [rem_ne (h.ne q fun _ _ z => nomatch z)]; exact q))
    · refine .inl (.inr ⟨od, ?_⟩)
      rw [rem_ne]
      · exact q
      · intro z
        obtain ⟨od', u, h1, h2⟩ := h
        rw [z, h1] at q
        cases q
        exact h2 _ rfl
    · exact .inr q⟩
theorem Rels.rem {d : Addr} (h : LkD I d) : ∀ {ws : List W} {vs : List V}, Rels G I φ ws vs → Rels G (rem I d) φ ws vs
  | [], _, r => r
  | w :: ws, _, ⟨x, xs, e, q, r⟩ => ⟨x, xs, e, Rel.rem h q, Rels.rem h r⟩
end
theorem at_inj {m n : Nat} {a b : Addr} (nd : φ.Nodup) (hm : φ[m]? = some a) (hn : φ[n]? = some b) (e : a = b) : m = n := by
  subst e
  have h1 := (List.getElem?_eq_some_iff.mp hm).1
  exact (List.getElem?_inj h1 nd).mp (by rw [hm, hn])
theorem Sim.lock {d : Addr} {m : Nat} {o : Ob} {od : Obj} {u : HO} (s : Sim G I φ S H) (hm : φ[m]? = some d) (hS : S[m]? = some o) (hd : o ≠ .dead) :
    Sim G (upd I d (.frz od u)) φ (S.set m .dead) (upd H d (.frz od u)) ∧ Ext I φ H (upd I d (.frz od u)) φ (upd H d (.frz od u)) ∧ I d = none := by
  have hI := s.out m d o hm hS hd
  have sI : Same I (upd I d (.frz od u)) := same_upd hI
  have neS : ∀ k a o', φ[k]? = some a → (S.set m Ob.dead)[k]? = some o' → o' ≠ Ob.dead → a ≠ d ∧ S[k]? = some o' := fun k a o' h1 h2 h3 => by
    by_cases z : k = m
    · subst z
      rw [List.getElem?_set_self (List.getElem?_eq_some_iff.mp hS).1] at h2
      cases h2
      exact absurd rfl h3
    · rw [List.getElem?_set_ne (Ne.symm z)] at h2
      exact ⟨fun y => z (at_inj s.nd h1 hm y), h2⟩
  refine ⟨⟨fun a o' e => ?_, by simpa using s.len, s.nd, fun k a o' h1 h2 h3 => ?_, fun k a h1 => ?_, fun k a o' h1 h2 => ?_⟩, ⟨sI, ⟨[], by simp, by simp⟩, fun a o' ha e => ?_, fun a e => ?_, fun a e => ?_⟩, hI⟩
  · by_cases z : a = d
    · rw [z, upd_same] at e ⊢; exact e
    · rw [upd_ne z] at e ⊢; exact s.same a o' e
  · obtain ⟨q1, q2⟩ := neS k a o' h1 h2 h3
    rw [upd_ne q1]
    exact s.out k a o' h1 q2 h3
  · by_cases z : a = d
    · rw [z, upd_same]; rfl
    · rw [upd_ne z]; exact s.old k a h1
  · by_cases h3 : o' = Ob.dead
    · subst h3; trivial
    · obtain ⟨q1, q2⟩ := neS k a o' h1 h2 h3
      exact (s.cell k a o' h1 q2).mono sI (Pre.refl _) fun u q => by rw [upd_ne q1]; exact q
  · rw [upd_ne (fun z => ha (by rw [z]; exact List.mem_of_getElem? hm))]; exact e
  · by_cases z : a = d
    · rw [z, upd_same]; rfl
    · rw [upd_ne z]; exact e
  · by_cases z : a = d
    · exact .inr (.inr (.inl (by rw [z]; exact List.mem_of_getElem? hm)))
    · rw [upd_ne z] at e; exact .inl e
theorem Sim.unlock {d : Addr} {m : Nat} {o : Ob} {od : Obj} {u : HO} (s : Sim G I φ S H) (hm : φ[m]? = some d) (hI : I d = none) (hu : ∀ xs, u ≠ .lst xs) (hc : CellOk G I φ H d o) (hH : H d = some u)
    {S2 : Sto} (e : Ext (upd I d (.frz od u)) φ (upd H d (.frz od u)) I' φ' H') (s2 : Sim G I' φ' S2 H') :
    Sim G (rem I' d) φ' (S2.set m o) (upd H' d u) ∧ Ext I φ H (rem I' d) φ' (upd H' d u) ∧ LkD I' d ∧ H' d = some (.frz od u) := by
  have hI' : I' d = some (.frz od u) := e.same _ _ upd_same
  have hH' : H' d = some (.frz od u) := s2.same _ _ hI'
  have lk : LkD I' d := ⟨od, u, hI', hu⟩
  have hm' : φ'[m]? = some d := e.pre'.get hm
  have sI : Same I (rem I' d) := fun a o' q => by
    have ne : a ≠ d := fun z => by rw [z, hI] at q; cases q
    rw [rem_ne ne]
    exact e.same a o' (by rw [upd_ne ne]; exact q)
  have hml : m < S2.length := by rw [← s2.len]; exact (List.getElem?_eq_some_iff.mp hm').1
  refine ⟨⟨fun a o' q => ?_, by simpa using s2.len, s2.nd, fun k a o' h1 h2 h3 => ?_, fun k a h1 => ?_, fun k a o' h1 h2 => ?_⟩, ⟨sI, ?_, fun a o' ha q => ?_, fun a q => ?_, fun a q => ?_⟩, lk, hH'⟩
  · by_cases z : a = d
    · rw [z, rem_same] at q; cases q
    · rw [rem_ne z] at q; rw [upd_ne z]; exact s2.same a o' q
  · by_cases z : k = m
    · subst z; rw [hm'] at h1; cases h1; exact rem_same
    · have ne : a ≠ d := fun y => z (at_inj s2.nd h1 hm' y)
      rw [List.getElem?_set_ne (Ne.symm z)] at h2
      rw [rem_ne ne]
      exact s2.out k a o' h1 h2 h3
  · by_cases z : a = d
    · rw [z, upd_same]; rfl
    · rw [upd_ne z]; exact s2.old k a h1
  · by_cases z : k = m
    · subst z
      rw [hm'] at h1; cases h1
      rw [List.getElem?_set_self hml] at h2
      cases h2
      refine hc.mono sI ?_ fun u' q => ?_
      · exact e.pre'
      · rw [hH] at q; cases q; exact upd_same
    · have ne : a ≠ d := fun y => z (at_inj s2.nd h1 hm' y)
      rw [List.getElem?_set_ne (Ne.symm z)] at h2
      have c := s2.cell k a o' h1 h2
      have hk : ∀ u', H' a = some u' → upd H' d u a = some u' := fun u' q => by rw [upd_ne ne]; exact q
      cases o' with
      | lst ws => obtain ⟨vs, q, r⟩ := c; exact ⟨vs, hk _ q, r.rem lk⟩
      | dic t ks vs =>
        cases t with
        | false => obtain ⟨kvs, q, k', r⟩ := c; exact ⟨kvs, hk _ q, k', r.rem lk⟩
        | true => obtain ⟨kvs, q, k', r⟩ := c; exact ⟨kvs, hk _ q, k', r.rem lk⟩
      | ins c' ws => obtain ⟨dx, fs, q, k', r⟩ := c; exact ⟨dx, fs, hk _ q, k', r.rem lk⟩
      | dead => trivial
  · obtain ⟨ψ, h1, h2⟩ := e.pre
    refine ⟨ψ, h1, fun a ha => ?_⟩
    have := h2 a ha
    by_cases z : a = d
    · rw [z, upd_same] at this; cases this
    · rw [upd_ne z] at this; exact this
  · have ne : a ≠ d := fun z => ha (z ▸ List.mem_of_getElem? hm)
    rw [upd_ne ne]
    exact e.frame a o' ha (by rw [upd_ne ne]; exact q)
  · by_cases z : a = d
    · rw [z, upd_same]; rfl
    · rw [upd_ne z]; exact e.keep a (by rw [upd_ne z]; exact q)
  · by_cases z : a = d
    · rw [z, rem_same] at q; cases q
    · rw [rem_ne z] at q
      rcases e.fresh a q with h | h | h | ⟨vs, h⟩
      · rw [upd_ne z] at h; exact .inl h
      · rw [upd_ne z] at h; exact .inr (.inl h)
      · exact .inr (.inr (.inl h))
      · rw [upd_ne z] at h; exact .inr (.inr (.inr ⟨vs, h⟩))
/-- a tuple that stands in the heap, kept -/
theorem Sim.tupI {q : Addr} {us : List V} (s : Sim G I φ S H) (h : H q = some (.tup us)) : Sim G (upd I q (.tup us)) φ S H ∧ Ext I φ H (upd I q (.tup us)) φ H := by
  have sI : Same I (upd I q (.tup us)) := fun a o e => by
    by_cases z : a = q
    · rw [z] at e ⊢
      have := s.same _ _ e
      rw [h] at this
      cases this
      exact upd_same
    · rw [upd_ne z]; exact e
  refine ⟨⟨fun a o e => ?_, s.len, s.nd, fun k a o h1 h2 h3 => ?_, s.old, fun k a o h1 h2 => (s.cell k a o h1 h2).mono sI (Pre.refl _) fun _ q => q⟩, ⟨sI, ⟨[], by simp, by simp⟩, fun _ _ _ e => e, fun _ e => e, fun a e => ?_⟩⟩
  · by_cases z : a = q
    · rw [z, upd_same] at e; cases e; rw [z]; exact h
    · rw [upd_ne z] at e; exact s.same a o e
  · have ne : a ≠ q := fun z => by
      have c := s.cell k a o h1 h2
      rw [z] at c
      cases o with
      | lst ws => obtain ⟨vs, q, r⟩ := c; rw [h] at q; cases q
      | dic t ks vs =>
        cases t with
        | false => obtain ⟨kvs, q, k', r⟩ := c; rw [h] at q; cases q
        | true => obtain ⟨kvs, q, k', r⟩ := c; rw [h] at q; cases q
      | ins c' ws => obtain ⟨dx, fs, q, k', r⟩ := c; rw [h] at q; cases q
      | dead => exact h3 rfl
    rw [upd_ne ne]
    exact s.out k a o h1 h2 h3
  · by_cases z : a = q
    · exact .inr (.inr (.inr ⟨us, z ▸ h⟩))
    · rw [upd_ne z] at e; exact .inl e

/-! ### the statement -/
def simpA : E → Bool
  | .var _ => true
  | .fld _ _ (.var _) => true
  | _ => false
theorem simpA_ev {a : E} (ha : simpA a = true) (cf : CallF) (ρ : Env) (S : Sto) :
    (∀ c S1, ev cf a ρ S ≠ .ex c S1) ∧ ∀ w S1, ev cf a ρ S = .ok w S1 → S1 = S ∧ ∀ m t ks vs, S[m]? = some (.dic t ks vs) → ev cf a ρ (S.set m .dead) = .ok w (S.set m .dead) := by
  have hvar : ∀ j, (∀ c S1, ev cf (.var j) ρ S ≠ .ex c S1) ∧ ∀ w S1, ev cf (.var j) ρ S = .ok w S1 → S1 = S ∧ ρ[j]? = some (some w) := fun j => by
    simp only [ev]
    constructor
    · intro c S1; split <;> simp
    · intro w S1 h
      split at h
      · cases h; exact ⟨rfl, by assumption⟩
      · cases h
  cases a <;> first | (simp [simpA] at ha; done) | skip
  · rename_i j
    refine ⟨(hvar j).1, fun w S1 h => ?_⟩
    obtain ⟨rfl, h2⟩ := (hvar j).2 w S1 h
    refine ⟨rfl, fun m t ks vs _ => ?_⟩
    simp only [ev, h2]
  · rename_i c i b
    cases b <;> first | (simp [simpA] at ha; done) | skip
    rename_i j
    simp only [ev]
    cases hj : ρ[j]? with
    | none => simp [Rs.bind]
    | some x =>
      cases x with
      | none => simp [Rs.bind]
      | some w0 =>
        simp only [Rs.bind]
        constructor
        · intro c' S1
          unfold ofO
          split <;> simp
        · intro w S1 h
          unfold ofO at h
          split at h
          · rename_i x hx
            cases h
            refine ⟨rfl, fun m t ks vs hm => ?_⟩
            have : fldSem (S.set m .dead) c i w0 = fldSem S c i w0 := by
              unfold fldSem
              have hr : recOf (S.set m .dead) w0 = recOf S w0 := by
                unfold recOf
                split
                · rfl
                · rename_i k
                  by_cases z : k = m
                  · subst z
                    rw [hm, List.getElem?_set_self (List.getElem?_eq_some_iff.mp hm).1]
                  · rw [List.getElem?_set_ne (Ne.symm z)]
                · rfl
              rw [hr]
            rw [this, hx]
            rfl
          · cases h
theorem PostS.back {r : SR} {d : Addr} {m : Nat} {o : Ob} {od : Obj} {u : HO} {D : Ends} (s : Sim G I φ S H) (hm : φ[m]? = some d) (hI : I d = none) (hu : ∀ xs, u ≠ .lst xs) (hc : CellOk G I φ H d o) (hH : H d = some u)
    (h : PostS G Ex I φ H (r.back m o) D) : PostS G Ex (upd I d (.frz od u)) φ (upd H d (.frz od u)) r ⟨fun σ' H' => H' d = some (.frz od u) ∧ D.nx σ' (upd H' d u), fun v H' => H' d = some (.frz od u) ∧ D.rt v (upd H' d u), fun σ' H' => H' d = some (.frz od u) ∧ D.bk σ' (upd H' d u), fun σ' H' => H' d = some (.frz od u) ∧ D.ct σ' (upd H' d u)⟩ := by
  have en' : ∀ {ρ : Env} {σ : L2.St} {I' : Hp} {φ' : List Addr}, LkD I' d → Envs G I' φ' ρ σ → Envs G (rem I' d) φ' ρ σ := fun lk en => ⟨en.len, fun i w q => let ⟨v, h1, h2⟩ := en.at_ i w q; ⟨v, h1, h2.rem lk⟩⟩
  cases r with
  | next ρ S2 =>
    intro σ I' φ' H' e s2 en
    obtain ⟨s3, e3, lk, q⟩ := s.unlock hm hI hu hc hH e s2
    exact ⟨q, h σ _ _ _ e3 s3 (en' lk en)⟩
  | ret w S2 =>
    intro v I' φ' H' e s2 r2
    obtain ⟨s3, e3, lk, q⟩ := s.unlock hm hI hu hc hH e s2
    exact ⟨q, h v _ _ _ e3 s3 (r2.rem lk)⟩
  | brk ρ S2 =>
    intro σ I' φ' H' e s2 en
    obtain ⟨s3, e3, lk, q⟩ := s.unlock hm hI hu hc hH e s2
    exact ⟨q, h σ _ _ _ e3 s3 (en' lk en)⟩
  | cont ρ S2 =>
    intro σ I' φ' H' e s2 en
    obtain ⟨s3, e3, lk, q⟩ := s.unlock hm hI hu hc hH e s2
    exact ⟨q, h σ _ _ _ e3 s3 (en' lk en)⟩
  | ex ρ c S2 => exact h.elim
  | bad => exact h
theorem rels_key : ∀ (k : List Key), Rels G I φ (k.map kW) (k.map kV)
  | [] => rfl
  | .inl i :: r => ⟨_, _, rfl, rfl, rels_key r⟩
  | .inr x :: r => ⟨_, _, rfl, by show V.str x = V.str _; simp, rels_key r⟩
theorem zip2_get : ∀ {ks vs : List W} {i : Nat} {k v : W}, ks[i]? = some k → vs[i]? = some v → (zip2 ks vs)[i]? = some (.tup [k, v])
  | [], _, _, _, _, h, _ => by simp at h
  | _ :: _, [], _, _, _, _, h => by simp at h
  | k :: ks, v :: vs, 0, _, _, h1, h2 => by
    simp at h1 h2
    subst h1 h2
    rfl
  | k :: ks, v :: vs, i + 1, _, _, h1, h2 => by
    simp at h1 h2
    simp only [zip2, List.getElem?_cons_succ]
    exact zip2_get h1 h2
theorem zip2_len : ∀ {ks vs : List W}, ks.length = vs.length → (zip2 ks vs).length = vs.length
  | [], [], _ => rfl
  | [], _ :: _, h => by simp at h
  | _ :: _, [], h => by simp at h
  | _ :: ks, _ :: vs, h => by simp [zip2, zip2_len (ks := ks) (vs := vs) (by simpa using h)]
/-- the turns: xs the values walked over; each is laid by the iterator -/
theorem forD_turns {t : Tg} {body : List Stm} {D : Ends} {xs : List W} {J : It} {σ0 : L2.St} {ρ0 : Env} {S0 : Sto} {I0 H0 : Hp} {φ0 : List Addr} {N : Nat} (hN : xs.length = N)
    (hgo : ∀ i I3 φ3 H', Ext I0 φ0 H0 I3 φ3 H' → ∀ S3, Sim G I3 φ3 S3 H' → (i < N → J.go i H') ∧ (N ≤ i → J.stop i H') ∧ ∀ x H4 w, xs[i]? = some w → J.yld i H' x H4 → ∃ I4, Ext I3 φ3 H' I4 φ3 H4 ∧ Sim G I4 φ3 S3 H4 ∧ Rel G I4 φ3 w x)
    (s0 : Sim G I0 φ0 S0 H0) (en0 : Envs G I0 φ0 ρ0 σ0) (h : PostS G Ex I0 φ0 H0 (forL t (fun ρ' S' => execs cf L body ρ' S') xs ρ0 S0) D) :
    ∃ W : Nat → Nat → L2.St → Hp → Prop, (∃ m, W 0 m σ0 H0) ∧ ∀ i m σ H, W i m σ H →
      (J.stop i H ∧ D.nx σ H) ∨ (J.go i H ∧ ∃ N : L2.St → Hp → Prop, (∀ σ' H', N σ' H' → ∃ m', m' < m ∧ W (i + 1) m' σ' H') ∧ ∀ x H', J.yld i H x H' → tTgt G t x σ H' fun σ2 H2 => tSs G cf L Ex body { D with nx := N, ct := N, bk := D.nx } σ2 H2) := by
  let R : Nat → L2.St → Hp → Prop := fun i σ' H' => ∃ I2 φ2 ρ2 S2, Ext I0 φ0 H0 I2 φ2 H' ∧ Sim G I2 φ2 S2 H' ∧ Envs G I2 φ2 ρ2 σ' ∧ PostS G Ex I2 φ2 H' (forL t (fun ρ' S' => execs cf L body ρ' S') (xs.drop i) ρ2 S2) D
  refine ⟨fun i m σ' H' => m = N - i ∧ i ≤ N ∧ R i σ' H', ⟨N, by simp, Nat.zero_le _, I0, φ0, ρ0, S0, Ext.refl _ _ _, s0, en0, h⟩, ?_⟩
  rintro i m σ' H' ⟨rfl, hiN, I2, φ2, ρ2, S2, e2, s2, en2, h2⟩
  obtain ⟨g1, g2, g3⟩ := hgo i I2 φ2 H' e2 S2 s2
  by_cases hlt : i < N
  · right
    have hlt' : i < xs.length := by omega
    refine ⟨g1 hlt, R (i + 1), fun σ3 H3 q => ⟨N - (i + 1), by omega, rfl, hlt, q⟩, ?_⟩
    intro x H3 hy
    obtain ⟨I3, e3, s3, r3⟩ := g3 x H3 _ (List.getElem?_eq_getElem hlt') hy
    rw [List.drop_eq_getElem_cons hlt'] at h2
    simp only [forL] at h2
    have h3 := PostS.ext e3 h2
    split at h3
    · exact h3.elim
    · rename_i ρ' hb
      refine ⟨I3, φ2, ρ2, S2, _, ρ', s3, en2.ext e3, r3, hb, fun σ4 en4 _ => ?_⟩
      refine ⟨I3, φ2, ρ', S2, s3, en4, ?_⟩
      split at h3
      · rename_i ρ5 S5 hbd
        rw [hbd]
        exact fun σ5 I5 φ5 H5 e5 s5 en5 => ⟨I5, φ5, ρ5, S5, e2.trans (e3.trans e5), s5, en5, PostS.ext e5 h3⟩
      · rename_i ρ5 S5 hbd
        rw [hbd]
        exact fun σ5 I5 φ5 H5 e5 s5 en5 => ⟨I5, φ5, ρ5, S5, e2.trans (e3.trans e5), s5, en5, PostS.ext e5 h3⟩
      · rename_i ρ5 S5 hbd
        rw [hbd]
        exact h3
      · rename_i r hr1 hr2 hr3
        cases hbd : execs cf L body ρ' S2 with
        | next ρ5 S5 => exact absurd hbd (hr1 ρ5 S5)
        | cont ρ5 S5 => exact absurd hbd (hr2 ρ5 S5)
        | brk ρ5 S5 => exact absurd hbd (hr3 ρ5 S5)
        | ret w S5 => rw [hbd] at h3; exact h3
        | ex ρ5 c S5 => rw [hbd] at h3; exact h3
        | bad => rw [hbd] at h3; exact h3
  · left
    have hi' : i = xs.length := by omega
    subst hi'
    rw [List.drop_length] at h2
    exact ⟨g2 (by omega), h2 σ' I2 φ2 H' (Ext.refl _ _ _) s2 en2⟩
theorem forDT {t : Tg} {a : E} {body : List Stm} (ha : simpA a = true) : ∀ D σ H, tS G cf L Ex (.forD t true a body) D σ H → tLock (tFor (iItemsT (tE G cf Ex a)) (tTgt G t) (tSs G cf L Ex body)) D σ H := by
  rintro D σ H ⟨I, φ, ρ, S, s, en, h⟩
  simp only [exec] at h
  obtain ⟨a1, a2⟩ := simpA_ev ha cf ρ S
  cases hev : ev cf a ρ S with
  | bad => rw [hev] at h; exact h.elim
  | ex c S1 => exact absurd hev (a1 c S1)
  | ok w S1 =>
    rw [hev] at h
    obtain ⟨rfl, a3⟩ := a2 w S1 hev
    simp only [Rs.sr] at h
    split at h
    · rename_i m
      split at h
      · rename_i b ks vs hS
        split at h
        · rename_i hb
          subst hb
          simp only [if_true] at h
          have hφ : ∃ d, φ[m]? = some d := by
            have : m < φ.length := by rw [s.len]; exact (List.getElem?_eq_some_iff.mp hS).1
            exact ⟨_, List.getElem?_eq_getElem this⟩
          obtain ⟨d, hd⟩ := hφ
          have hcell := s.cell m d _ hd hS
          obtain ⟨kvs, hH, rfl, rr⟩ := id hcell
          refine ⟨d, .dT kvs, hH, True.intro, fun od => ?_⟩
          obtain ⟨s1, e1, hI⟩ := s.lock (od := od) (u := .dT kvs) hd hS (by simp)
          have hp := h.back (od := od) s hd hI (by simp) hcell hH
          refine ⟨_, φ, ρ, _, s1, en.ext e1, ?_⟩
          rw [a3 m _ _ _ hS]
          intro v I2 φ2 H2 e2 s2 r2
          obtain ⟨d', rfl, hd'⟩ := r2
          have : d' = d := by rw [e2.pre'.get hd] at hd'; exact (Option.some.inj hd').symm
          subst this
          have at_ : ∀ {I3 φ3 H3 S3}, Ext I2 φ2 H2 I3 φ3 H3 → Sim G I3 φ3 S3 H3 → H3 d' = some (.frz od (.dT kvs)) := fun e3 s3 => s3.same _ _ (e3.same _ _ (e2.same _ _ upd_same))
          refine ⟨d', od, kvs, rfl, at_ (Ext.refl _ _ _) s2, ?_⟩
          have rr2 : Rels G I2 φ2 vs (kvs.map (·.2)) := rr.ext (e1.trans e2)
          have hl : (kvs.map fun p => W.tup (p.1.map kW)).length = vs.length := by have := rr.length; simp at this ⊢; omega
          refine forD_turns (N := kvs.length) (by rw [zip2_len hl, ← hl]; simp) (fun i I3 φ3 H3 e3 S3 s3 => ⟨fun z => ⟨at_ e3 s3, z⟩, fun z => ⟨at_ e3 s3, z⟩, fun x H4 w hw hy => ?_⟩) s2 ((en.ext e1).ext e2) (PostS.ext e2 hp)
          obtain ⟨Tt, q, k, v, hkv, rfl, hq, hT, rfl⟩ := hy
          obtain ⟨wv, hwv, rwv⟩ := (rr2.ext e3).get' (i := i) (v := v) (by simp [hkv])
          have hw2 := zip2_get (i := i) (k := .tup (k.map kW)) (ks := kvs.map fun p => W.tup (p.1.map kW)) (by simp [hkv]) hwv
          rw [hw2] at hw
          cases hw
          obtain ⟨s4, e4⟩ := s3.tupI hq
          obtain ⟨s5, e5⟩ := s4.newI (o := .tup [.ref q, v]) hT
          have e45 := e4.trans e5
          refine ⟨_, e45, s5, Tt, [.ref q, v], rfl, upd_same, .cons ⟨q, k.map kV, rfl, ?_, rels_key k⟩ (.cons (rwv.ext e45) .nil)⟩
          rw [upd_ne (fun z => by rw [← z, hq] at hT; cases hT)]
          exact upd_same
        · exact h.elim
      · exact h.elim
    · exact h.elim
theorem forDK {t : Tg} {a : E} {body : List Stm} (ha : simpA a = true) : ∀ D σ H, tS G cf L Ex (.forD t false a body) D σ H → tLock (tFor (iVals (tE G cf Ex a)) (tTgt G t) (tSs G cf L Ex body)) D σ H := by
  rintro D σ H ⟨I, φ, ρ, S, s, en, h⟩
  simp only [exec] at h
  obtain ⟨a1, a2⟩ := simpA_ev ha cf ρ S
  cases hev : ev cf a ρ S with
  | bad => rw [hev] at h; exact h.elim
  | ex c S1 => exact absurd hev (a1 c S1)
  | ok w S1 =>
    rw [hev] at h
    obtain ⟨rfl, a3⟩ := a2 w S1 hev
    simp only [Rs.sr] at h
    split at h
    · rename_i m
      split at h
      · rename_i b ks vs hS
        split at h
        · rename_i hb
          subst hb
          simp only [Bool.false_eq_true, if_false] at h
          have hφ : ∃ d, φ[m]? = some d := by
            have : m < φ.length := by rw [s.len]; exact (List.getElem?_eq_some_iff.mp hS).1
            exact ⟨_, List.getElem?_eq_getElem this⟩
          obtain ⟨d, hd⟩ := hφ
          have hcell := s.cell m d _ hd hS
          obtain ⟨kvs, hH, rfl, rr⟩ := id hcell
          refine ⟨d, .dK kvs, hH, True.intro, fun od => ?_⟩
          obtain ⟨s1, e1, hI⟩ := s.lock (od := od) (u := .dK kvs) hd hS (by simp)
          have hp := h.back (od := od) s hd hI (by simp) hcell hH
          refine ⟨_, φ, ρ, _, s1, en.ext e1, ?_⟩
          rw [a3 m _ _ _ hS]
          intro v I2 φ2 H2 e2 s2 r2
          obtain ⟨d', rfl, hd'⟩ := r2
          have : d' = d := by rw [e2.pre'.get hd] at hd'; exact (Option.some.inj hd').symm
          subst this
          have at_ : ∀ {I3 φ3 H3 S3}, Ext I2 φ2 H2 I3 φ3 H3 → Sim G I3 φ3 S3 H3 → H3 d' = some (.frz od (.dK kvs)) := fun e3 s3 => s3.same _ _ (e3.same _ _ (e2.same _ _ upd_same))
          refine ⟨d', od, kvs, rfl, at_ (Ext.refl _ _ _) s2, ?_⟩
          have rr2 : Rels G I2 φ2 vs (kvs.map (·.2)) := rr.ext (e1.trans e2)
          have hl : vs.length = kvs.length := by have := rr.length; simp at this; omega
          refine forD_turns (N := kvs.length) hl (fun i I3 φ3 H3 e3 S3 s3 => ⟨fun z => ⟨at_ e3 s3, z⟩, fun z => ⟨at_ e3 s3, z⟩, fun x H4 w hw hy => ?_⟩) s2 ((en.ext e1).ext e2) (PostS.ext e2 hp)
          obtain ⟨rfl, k, hkv⟩ := hy
          obtain ⟨wv, hwv, rwv⟩ := (rr2.ext e3).get' (i := i) (v := x) (by simp [hkv])
          rw [hwv] at hw
          cases hw
          exact ⟨_, Ext.refl _ _ _, s3, rwv⟩
        · exact h.elim
      · exact h.elim
    · exact h.elim
def valSyn : Expr → Option Expr
  | .Call (.Attribute o m apos) [] [] cpos => if baseE o && (apos.endLine == cpos.line) && m == ("values" : PySem.Str) then some o else none
  | _ => none
def itmSyn : Expr → Expr → Option Expr
  | .Tuple _ _ _, .Call (.Attribute o m apos) [] [] cpos => if baseE o && (apos.endLine == cpos.line) && m == ("items" : PySem.Str) then some o else none
  | _, _ => none
def forDSyn (both : Bool) (tg iter : Expr) : Option Expr := match both with
  | true => itmSyn tg iter
  | false => valSyn iter
theorem forDOk {t : Tg} {both : Bool} {a : E} {ms : List Stm} {tg iter o : Expr} {body : List Stmt} {pos : Pos} (h : forDSyn both tg iter = some o) (ha : simpA a = true) (hcm : T.cm = true) (x : XSk T G cf Ex n sc X) (ht : tgOk T.N sc t tg = true) (p1 : PE X o (tE G cf Ex a)) (p3 : PSs X body (tSs G cf L Ex ms)) :
    PS X (.For tg iter body [] pos) (tS G cf L Ex (.forD t both a ms)) := by
  cases both with
  | true =>
    simp only [forDSyn] at h
    unfold itmSyn at h
    split at h
    · split at h
      · rename_i hc
        cases h
        simp only [Bool.and_eq_true, beq_iff_eq] at hc
        obtain ⟨⟨hb, hl⟩, rfl⟩ := hc
        exact PS_imp (ps_lock (ps_for (x.own hcm) (x.calm hcm) (pi_itemsT p1 (base_ok hb) (by simpa using hl)) (tgOk_ok (fun _ => x.calm hcm) x.hN x.nd x.wr ht) p3)) (forDT ha)
      · cases h
    · cases h
  | false =>
    simp only [forDSyn] at h
    unfold valSyn at h
    split at h
    · split at h
      · rename_i hc
        cases h
        simp only [Bool.and_eq_true, beq_iff_eq] at hc
        obtain ⟨⟨hb, hl⟩, rfl⟩ := hc
        exact PS_imp (ps_lock (ps_for (x.own hcm) (x.calm hcm) (pi_values p1 (base_ok hb) (by simpa using hl)) (tgOk_ok (fun _ => x.calm hcm) x.hN x.nd x.wr ht) p3)) (forDK ha)
      · cases h
    · cases h
end Tw

/-! Tw, part P: the checker of statements. -/
namespace Tw
open PySem PySem.Spec PyProof.Rows L2

variable {G : Gx} {I I' I1 I2 H H' H1 H2 : Hp} {φ φ' φ1 φ2 : List Addr} {S S' S1 : Sto} {K : PySem.W.Frag} {X : Cx} {cf : CallF} {T : Tab} {Ex : L2.St → XK} {n L : Nat} {sc : Scope}

/-! ### a, b = x, y -/
def parSyn (N : List PySem.Str) (sc : Scope) (i j : Nat) (tg v : Expr) : Option (List Expr) :=
  match tg, v with
  | .Tuple [.Name x px, .Name y py] _ _, .Tuple [a, b] _ _ => if decide (N[i]? = some x) && decide (N[j]? = some y) && decide (i ≠ j) && decide (sc.names.lookup x = some .local) && decide (sc.names.lookup y = some .local) && decide (py.line = px.line) && !(x == y) && plainE a && plainE b && !(foldedForSure 8 a && foldedForSure 8 b) && !(constantsAlone 8 a && constantsAlone 8 b) then some [a, b] else none
  | _, _ => none
def parSyn3 (N : List PySem.Str) (sc : Scope) (i j l : Nat) (tg v : Expr) : Option (List Expr) :=
  match tg, v with
  | .Tuple [.Name x px, .Name y py, .Name z pz] _ _, .Tuple [a, b, c] _ _ => if decide (N[i]? = some x) && decide (N[j]? = some y) && decide (N[l]? = some z) && decide (i ≠ j) && decide (i ≠ l) && decide (j ≠ l) && decide (sc.names.lookup x = some .local) && decide (sc.names.lookup y = some .local) && decide (sc.names.lookup z = some .local) &&
      decide (py.line = px.line) && decide (pz.line = px.line) && !(x == y) && !(x == z) && !(y == z) && plainE a && plainE b && plainE c && !(foldedForSure 8 a && foldedForSure 8 b && foldedForSure 8 c) && !(constantsAlone 8 a && constantsAlone 8 b && constantsAlone 8 c) then some [a, b, c] else none
  | _, _ => none
theorem blk_fn (x : XSk T G cf Ex n sc X) : X.env.blockKind = .function := by unfold PySem.Env.blockKind; rw [x.hsc, x.knd]; rfl
theorem star_any {vs : List Expr} (h : vs.all plainE = true) : (vs.any fun | .Starred .. => true | _ => false) = false := by
  rw [List.any_eq_false]
  intro v hv
  have := List.all_eq_true.mp h v hv
  cases v <;> first | (simp [plainE] at this; done) | simp
theorem noStar {v : Expr} (z : (match v with | .Starred _ _ => true | _ => false) = true) (h : plainE v = true) : False := by
  cases v <;> first | (simp [plainE] at h; done) | (simp at z; done)
theorem parOk {i j : Nat} {tg v : Expr} {es : List Expr} {ms : List E} {pos : Pos} (h : parSyn T.N sc i j tg v = some es) (x : XSk T G cf Ex n sc X) (hcm : T.cm = true) (p : PEs G cf Ex X ms es) :
    PS X (.Assign [tg] v pos) (tS G cf L Ex (.asg (.tup [i, j]) (.op .tupD ms))) := by
  unfold parSyn at h
  split at h
  · rename_i xn px yn py kt pt a b k2 pt2
    split at h
    · rename_i hc
      cases h
      simp only [Bool.and_eq_true, decide_eq_true_eq, Bool.not_eq_true', bne_iff_ne] at hc
      obtain ⟨⟨⟨⟨⟨⟨⟨⟨⟨⟨h1, h2⟩, h3⟩, h4⟩, h5⟩, h6⟩, h7⟩, h8⟩, h9⟩, h10⟩, h11⟩ := hc
      have hx : X.env.scope.names.lookup xn = some .local := by rw [x.hsc]; exact h4
      have hy : X.env.scope.names.lookup yn = some .local := by rw [x.hsc]; exact h5
      have kx : X.env.kindOf xn = some .local := hx
      have ky : X.env.kindOf yn = some .local := hy
      have hst : (([a, b] : List Expr).any fun | .Starred .. => true | _ => false) = false := star_any (by simp [h8, h9])
      refine PS_imp (ps_par (i := i) (j := j) (x.calm hcm) x.nd (by rw [x.hN]; exact h1) (by rw [x.hN]; exact h2) h3 hx hy p.pa ?_) ?_
      · have hxy : (xn == yn) = false := h7
        have hyx : (yn == xn) = false := by rw [Bool.eq_false_iff] at hxy ⊢; intro z; exact hxy (by rw [beq_iff_eq] at z ⊢; exact z.symm)
        have hf : (([a, b] : List Expr).all (foldedForSure 8)) = false := by
          simp only [List.all_cons, List.all_nil, Bool.and_true]
          exact h10
        have hd : ([xn, yn] : List PySem.Str).eraseDups.length = 2 := by
          simp [List.eraseDups, List.eraseDupsBy, List.eraseDupsBy.loop, hyx]
        have hc11 : ¬ (constantsAlone 8 a = true ∧ constantsAlone 8 b = true) := by
          rintro ⟨z1, z2⟩
          rw [z1, z2] at h11
          cases h11
        unfold swappedStores
        simp only [blk_fn x, kx, ky, h6, hf, Expr.pos]
        simp [hd, hc11, kx, ky, h6]
        intro hh
        exfalso
        rcases hh with hh | hh
        · exact noStar hh h8
        · exact noStar hh h9
      · rintro D σ H ⟨I, φ, ρ, S, s, en, h⟩
        simp only [exec, ev] at h
        refine ⟨I, φ, ρ, S, s, en, (h.sr en).bind.imp fun ws S1 _ h1 => ?_⟩
        intro vs I1 φ1 H1 e1 s1 r1
        have h2 := Post.ofO (Ex := Ex σ) (I := I) (φ := φ) (H := H) h1
        obtain ⟨w, hw, h3⟩ := h2
        have : opSem .tupD ws S1 = if ws.length < LIM then some (.tup ws) else none := by simp [opSem]
        rw [this] at hw
        split at hw
        · cases hw
          simp only [bindT] at h3
          match ws, h3 with
          | [w1, w2], h3 =>
            obtain ⟨v1, v2, rfl, r1, r2⟩ := rels_two r1
            refine ⟨v1, v2, rfl, ?_⟩
            simp only [Tw.setAll] at h3
            exact h3 _ I1 φ1 H1 e1 s1 (((en.ext e1).set r1).set r2)
          | [], h3 => exact h3.elim
          | [_], h3 => exact h3.elim
          | _ :: _ :: _ :: _, h3 => exact h3.elim
        · cases hw
    · cases h
  · cases h
theorem parOk3 {i j l : Nat} {tg v : Expr} {es : List Expr} {ms : List E} {pos : Pos} (h : parSyn3 T.N sc i j l tg v = some es) (x : XSk T G cf Ex n sc X) (hcm : T.cm = true) (p : PEs G cf Ex X ms es) :
    PS X (.Assign [tg] v pos) (tS G cf L Ex (.asg (.tup [i, j, l]) (.op .tupD ms))) := by
  unfold parSyn3 at h
  split at h
  · rename_i xn px yn py zn pz kt pt a b c k2 pt2
    split at h
    · rename_i hc
      cases h
      simp only [Bool.and_eq_true, decide_eq_true_eq, Bool.not_eq_true', bne_iff_ne] at hc
      obtain ⟨⟨⟨⟨⟨⟨⟨⟨⟨⟨⟨⟨⟨⟨⟨⟨⟨⟨h1, h2⟩, h3⟩, n1⟩, n2⟩, n3⟩, l1⟩, l2⟩, l3⟩, h6⟩, h7⟩, d1⟩, d2⟩, d3⟩, p1⟩, p2⟩, p3⟩, h10⟩, h11⟩ := hc
      have hx : X.env.scope.names.lookup xn = some .local := by rw [x.hsc]; exact l1
      have hy : X.env.scope.names.lookup yn = some .local := by rw [x.hsc]; exact l2
      have hz : X.env.scope.names.lookup zn = some .local := by rw [x.hsc]; exact l3
      have kx : X.env.kindOf xn = some .local := hx
      have ky : X.env.kindOf yn = some .local := hy
      have kz : X.env.kindOf zn = some .local := hz
      refine PS_imp (ps_par3 (i := i) (j := j) (l := l) (x.calm hcm) x.nd (by rw [x.hN]; exact h1) (by rw [x.hN]; exact h2) (by rw [x.hN]; exact h3) n1 n2 n3 hx hy hz p.pa ?_) ?_
      · have hf : (([a, b, c] : List Expr).all (foldedForSure 8)) = false := by
          simp only [List.all_cons, List.all_nil, Bool.and_true]
          rw [← Bool.and_assoc]
          exact h10
        have flip : ∀ {p q : PySem.Str}, (p == q) = false → (q == p) = false := fun {p q} h => by rw [Bool.eq_false_iff] at h ⊢; intro z; exact h (by rw [beq_iff_eq] at z ⊢; exact z.symm)
        have hd : ([xn, yn, zn] : List PySem.Str).eraseDups.length = 3 := by
          simp [List.eraseDups, List.eraseDupsBy, List.eraseDupsBy.loop, flip d1, flip d2, flip d3]
        have hc11 : ¬ (constantsAlone 8 a = true ∧ constantsAlone 8 b = true ∧ constantsAlone 8 c = true) := by
          rintro ⟨z1, z2, z3⟩
          rw [z1, z2, z3] at h11
          cases h11
        unfold swappedStores
        simp only [blk_fn x, kx, ky, kz, h6, h7, hf, Expr.pos]
        simp [hd, hc11, kx, ky, kz, h6, h7]
        intro hh
        exfalso
        rcases hh with hh | hh | hh
        · exact noStar hh p1
        · exact noStar hh p2
        · exact noStar hh p3
      · rintro D σ H ⟨I, φ, ρ, S, s, en, h⟩
        simp only [exec, ev] at h
        refine ⟨I, φ, ρ, S, s, en, (h.sr en).bind.imp fun ws S1 _ h1 => ?_⟩
        intro vs I1 φ1 H1 e1 s1 r1
        have h2 := Post.ofO (Ex := Ex σ) (I := I) (φ := φ) (H := H) h1
        obtain ⟨w, hw, h3⟩ := h2
        have : opSem .tupD ws S1 = if ws.length < LIM then some (.tup ws) else none := by simp [opSem]
        rw [this] at hw
        split at hw
        · cases hw
          simp only [bindT] at h3
          match ws, h3 with
          | [w1, w2, w3], h3 =>
            obtain ⟨v1, vr, rfl, r1, rr⟩ := r1
            obtain ⟨v2, v3, rfl, r2, r3⟩ := rels_two rr
            refine ⟨v1, v2, v3, rfl, ?_⟩
            simp only [Tw.setAll] at h3
            exact h3 _ I1 φ1 H1 e1 s1 ((((en.ext e1).set r1).set r2).set r3)
          | [], h3 => exact h3.elim
          | [_], h3 => exact h3.elim
          | [_, _], h3 => exact h3.elim
          | _ :: _ :: _ :: _ :: _, h3 => exact h3.elim
        · cases hw
    · cases h
  · cases h

/-! ### the checker -/
def exprSyn : Stmt → Option Expr
  | .Expr e _ => some e
  | _ => none
def passSyn : Stmt → Bool
  | .Pass _ => true
  | .Expr (.Constant (.str _) _ _) _ => true
  | _ => false
def asgSyn : Stmt → Option (Expr × Expr)
  | .Assign [tg] v _ => some (tg, v)
  | _ => none
def setSyn : Expr → Option (Expr × Expr)
  | .Subscript o k _ => if plainE k then some (o, k) else none
  | _ => none
def augSyn : Stmt → Option (Expr × Operator × Expr)
  | .AugAssign (.Name y p) op v _ => some (.Name y p, op, v)
  | _ => none
def iteSyn : Stmt → Option (Expr × List Stmt × List Stmt)
  | .If c a b _ => some (c, a, b)
  | _ => none
def forSyn : Stmt → Option (Expr × Expr × List Stmt)
  | .For tg iter body [] _ => some (tg, iter, body)
  | _ => none
def whileSyn : Stmt → Option (Expr × List Stmt)
  | .While c body [] _ => some (c, body)
  | _ => none
def retSyn : Stmt → Option (Option Expr)
  | .Return e _ => some e
  | _ => none
def isCont : Stmt → Bool
  | .Continue _ => true
  | _ => false
def isBrk : Stmt → Bool
  | .Break _ => true
  | _ => false
def isFrz : Stm → Bool
  | .frz _ => true
  | .wipe _ => true
  | _ => false
def augAny : Stmt → Option (Expr × Operator × Expr)
  | .AugAssign tg op v _ => some (tg, op, v)
  | _ => none
def isNonC : E → Bool
  | .con .non => true
  | _ => false
def compOf : E → Option (Bool × E)
  | .comp a b c d e f => some (false, .comp a b c d e f)
  | .mut (.comp a b c d e f) => some (true, .comp a b c d e f)
  | _ => none
def tupOf : E → Option (List E)
  | .op .tupD ms => some ms
  | _ => none
/-- an assignment -/
def asgChk (T : Tab) (sc : Scope) (t : Tg) (m : E) (tg v : Expr) : Bool :=
  match t, tupOf m with
  | .tup [i, j], some ms => match parSyn T.N sc i j tg v with
    | some es => T.cm && chks T false sc ms es
    | none => false
  | .tup [i, j, l], some ms => match parSyn3 T.N sc i j l tg v with
    | some es => T.cm && chks T false sc ms es
    | none => false
  | t, _ => tgOk T.N sc t tg && (isTg1 t || T.cm) && plainE v && (isTupE tg == false || isTupE v == false) && (if swNow sc tg v then
      match t, compOf m with
      | .one _, some (_, c) => T.cm && chk T false sc c v
      | _, _ => false
    else chk T false sc m v)
def unC : List Stmt → Option (Stmt × List Stmt)
  | s :: ss => some (s, ss)
  | [] => none
mutual
def chkS : Stm → Tab → Scope → Stmt → Bool
  | .expr m, T, sc, s => match exprSyn s with
    | some e => plainE e && !isLC e && chk T false sc m e
    | none => false
  | .pass, _, _, s => passSyn s
  | .asg t m, T, sc, s => match asgSyn s with
    | some (tg, v) => asgChk T sc t m tg v
    | none => false
  | .setI v o k, T, sc, s => match asgSyn s with
    | some (tg, v') => match setSyn tg with
      | some (o', k') => plainE v' && chk T false sc v v' && chk T false sc o o' && chk T false sc k k'
      | none => false
    | none => false
  | .setF c i v o, T, sc, s => match asgSyn s with
    | some (tg, v') => match setFSyn T c i tg with
      | some o' => plainE v' && chk T false sc v v' && chk T false sc o o'
      | none => false
    | none => false
  | .aug i o m, T, sc, s => match augSyn s with
    | some (tg, op, v) => decide (augTab o = some op) && nameAt T.N sc i tg && chk T false sc m v
    | none => false
  | .augF c i v o m, T, sc, s => match augAny s with
    | some (tg, op, v') => match setFSyn T c i tg with
      | some o' => decide (augTab o = some op) && chk T false sc m v' && chk T false sc v o'
      | none => false
    | none => false
  | .augS v k o m, T, sc, s => match augAny s with
    | some (tg, op, v') => match augSSyn tg with
      | some (o', k') => stillE m && decide (augTab o = some op) && chk T false sc m v' && chk T false sc v o' && chk T false sc k k'
      | none => false
    | none => false
  | .ite c a b, T, sc, s => match iteSyn s with
    | some (c', a', b') => chk T true sc c c' && chkSs a T sc a' && chkSs b T sc b'
    | none => false
  | .forIn t k srcs body, T, sc, s => match forSyn s with
    | some (tg, iter, body') => match itSyn sc k tg iter with
      | some es => T.cm && chks T false sc srcs es && tgOk T.N sc t tg && chkSs body T sc body'
      | none => false
    | none => false
  | .forR t a body, T, sc, s => match forSyn s with
    | some (tg, iter, body') => T.cm && plainE iter && chk T false sc a iter && tgOk T.N sc t tg && chkSs body T sc body'
    | none => false
  | .forD t both a body, T, sc, s => match forSyn s with
    | some (tg, iter, body') => match forDSyn both tg iter with
      | some o => T.cm && simpA a && chk T false sc a o && tgOk T.N sc t tg && chkSs body T sc body'
      | none => false
    | none => false
  | .whil c body, T, sc, s => match whileSyn s with
    | some (c', body') => T.cm && chk T true sc c c' && chkSs body T sc body'
    | none => false
  | .ret m, T, sc, s => match retSyn s with
    | some (some e) => chk T false sc m e
    | some none => isNonC m
    | none => false
  | .cont, _, _, s => isCont s
  | .brk, _, _, s => isBrk s
  | .rais c, T, sc, s => T.cm && raisSyn T sc c s
  | .tryE ks body c i hd, T, sc, s => match trySyn s with
    | some (body', y, nm, suite) => tryChk T sc ks c i y nm && chkSs body T sc body' && chkSs hd T.hot sc suite
    | none => false
  | .frz _, _, _, _ => false
  | .wipe _, _, _, _ => false
def chkSs : List Stm → Tab → Scope → List Stmt → Bool
  | [], _, _, ss => ss.isEmpty
  | m :: ms, T, sc, ss => if isFrz m then chkSs ms T sc ss else match unC ss with
    | none => false
    | some (s, ss') => chkS m T sc s && chkSs ms T sc ss'
end
theorem lc_false {e : Expr} {l : Nat} (hv : plainE e = true) (h : (!isLC e) = true) : swapsWith e none l X.env = pure false := by
  cases e <;> first | (simp [plainE] at hv; done) | (simp [isLC] at h; done) | rfl
theorem set_assign {o i : Expr} {pos : Pos} (hp : plainE i = true) : ∀ v, assign (.Subscript o i pos) X.env v = (do
      let ov ← holding [v] (eval o X.env)
      let iv ← holding [v, ov] (eval i X.env)
      standAt pos
      holding [v, ov, iv] (setItem ov iv v)
      release [v, ov, iv] []) := by
  intro v
  cases i <;> first | (simp [plainE] at hp; done) | rfl
theorem set_sw {o i v : Expr} {p : Pos} {l : Nat} (hv : plainE v = true) : swapsWithSole [.Subscript o i p] v l X.env = pure false := by
  cases v <;> first | (simp [plainE] at hv; done) | rfl
theorem setS {v o k : E} : ∀ D σ H, tS G cf L Ex (.setI v o k) D σ H → tAsg (tE G cf Ex v) (gSub (tE G cf Ex o) (tE G cf Ex k) (rSetG G)) D σ H := by
  rintro D σ H ⟨I, φ, ρ, S, s, en, h⟩
  simp only [exec] at h
  refine ⟨I, φ, ρ, S, s, en, (h.sr en).imp fun w S1 _ h1 => ?_⟩
  intro v1 I1 φ1 H1 e1 s1 r1
  refine ⟨I1, φ1, ρ, S1, s1, en.ext e1, ((PostS.ext e1 h1).sr (en.ext e1)).imp fun w2 S2 _ h2 => ?_⟩
  intro v2 I2 φ2 H2 e2 s2 r2
  refine ⟨I2, φ2, ρ, S2, s2, (en.ext e1).ext e2, ((PostS.ext e2 h2).sr ((en.ext e1).ext e2)).imp fun w3 S3 _ h3 => ?_⟩
  intro v3 I3 φ3 H3 e3 s3 r3
  have h4 := PostS.ext e3 h3
  split at h4
  · rename_i S4 hS
    refine ⟨I3, φ3, S3, w2, w3, w, S4, s3, r2.ext e3, r3, (r1.ext e2).ext e3, hS, fun I4 φ4 H4 e4 s4 => ?_⟩
    exact h4 σ I4 φ4 H4 e4 s4 ((((en.ext e1).ext e2).ext e3).ext e4)
  · exact h4.elim
theorem asgChk_ok {t : Tg} {m : E} {tg v : Expr} {pos : Pos} (h : asgChk T sc t m tg v = true) (x : XSk T G cf Ex n sc X) : PS X (.Assign [tg] v pos) (tS G cf L Ex (.asg t m)) := by
  unfold asgChk at h
  split at h
  · rename_i i j ms hm
    split at h
    · rename_i es he
      rw [Bool.and_eq_true] at h
      have p := (chks_ok ms h.2 x.toXOk).pes
      have : m = .op .tupD ms := by
        unfold tupOf at hm
        split at hm
        · cases hm; rfl
        · cases hm
      rw [this]
      exact parOk he x h.1 p
    · cases h
  · rename_i i j l ms hm
    split at h
    · rename_i es he
      rw [Bool.and_eq_true] at h
      have p := (chks_ok ms h.2 x.toXOk).pes
      have : m = .op .tupD ms := by
        unfold tupOf at hm
        split at hm
        · cases hm; rfl
        · cases hm
      rw [this]
      exact parOk3 he x h.1 p
    · cases h
  · simp only [Bool.and_eq_true, Bool.or_eq_true, beq_iff_eq] at h
    obtain ⟨⟨⟨⟨h1, h0⟩, h2⟩, h3⟩, h4⟩ := h
    split at h4
    · rename_i hsw
      split at h4
      · rename_i i md c hc _hs _hs2
        have hsw2 := hsw
        unfold swNow at hsw
        split at hsw
        · rename_i y py elt gs scope pos'
          unfold compOf at hc
          split at hc
          · cases hc
            have h5 := (Bool.and_eq_true _ _ ▸ h4).2
            rw [chk] at h5
            split at h5
            · rename_i a1 a2 a3 a4 a5 he
              unfold compSyn at he
              split at he
              · rename_i hq
                cases hq
                exact asgLc (L := L) (spos := pos) (md := false) x (Bool.and_eq_true _ _ ▸ h4).1 h1 hsw2 (Bool.and_eq_true _ _ ▸ h4).2
              · cases he
            · cases h5
          · cases hc
            have h5 := (Bool.and_eq_true _ _ ▸ h4).2
            rw [chk] at h5
            split at h5
            · rename_i a1 a2 a3 a4 a5 he
              unfold compSyn at he
              split at he
              · rename_i hq
                cases hq
                exact asgLc (L := L) (spos := pos) (md := true) x (Bool.and_eq_true _ _ ▸ h4).1 h1 hsw2 (Bool.and_eq_true _ _ ▸ h4).2
              · cases he
            · cases h5
          · cases hc
        · cases hsw
      · cases h4
    · rename_i hsw
      exact asgOk x h0 h1 h2 (by simpa using hsw) h3 (chk_ok m h4 x.toXOk).1
theorem Envs.forget {ρ : Env} {σ : L2.St} (h : Envs G I φ ρ σ) : ∀ (vs : List Nat), Envs G I φ (Tw.wipe ρ vs) σ
  | [] => h
  | v :: vs => by
    have ih := Envs.forget h vs
    show Envs G I φ ((Tw.wipe ρ vs).set v none) σ
    refine ⟨by simp [ih.len], fun j u q => ?_⟩
    by_cases hj : v = j
    · subst hj
      by_cases hl : v < (Tw.wipe ρ vs).length
      · rw [List.getElem?_set_self hl] at q; cases q
      · rw [List.getElem?_eq_none (by simp; omega)] at q; cases q
    · rw [List.getElem?_set_ne hj] at q
      exact ih.at_ j u q
theorem wipeS {vs : List Nat} {ms : List Stm} : ∀ D σ H, tSs G cf L Ex (.wipe vs :: ms) D σ H → tSs G cf L Ex ms D σ H := by
  rintro D σ H ⟨I, φ, ρ, S, s, en, h⟩
  simp only [execs, exec, SR.seq] at h
  exact ⟨I, φ, _, S, s, en.forget vs, h⟩
theorem exprOk {m : E} {s : Stmt} {e : Expr} (he : exprSyn s = some e) (h : (plainE e && !isLC e && chk T false sc m e) = true) (x : XSk T G cf Ex n sc X) : PS X s (tS G cf L Ex (.expr m)) := by
  simp only [Bool.and_eq_true] at h
  have h1 := (chk_ok m h.2 x.toXOk).1
  unfold exprSyn at he
  split at he
  · cases he
    exact PS_imp (ps_expr h1 (lc_false h.1.1 h.1.2)) exprS
  · cases he
theorem passOk {s : Stmt} (h : passSyn s = true) (x : XSk T G cf Ex n sc X) : PS X s (tS G cf L Ex .pass) := by
  unfold passSyn at h
  split at h
  · exact PS_imp ps_pass passS
  · exact PS_imp ps_doc passS
  · cases h
theorem asgOk' {t : Tg} {m : E} {s : Stmt} {tg v : Expr} (he : asgSyn s = some (tg, v)) (h : asgChk T sc t m tg v = true) (x : XSk T G cf Ex n sc X) : PS X s (tS G cf L Ex (.asg t m)) := by
  unfold asgSyn at he
  split at he
  · cases he
    exact asgChk_ok h x
  · cases he
theorem setIOk {v o k : E} {s : Stmt} {tg v' o' k' : Expr} (he : asgSyn s = some (tg, v')) (hk : setSyn tg = some (o', k')) (h : (plainE v' && chk T false sc v v' && chk T false sc o o' && chk T false sc k k') = true) (x : XSk T G cf Ex n sc X) : PS X s (tS G cf L Ex (.setI v o k)) := by
  simp only [Bool.and_eq_true] at h
  obtain ⟨⟨⟨h1, h2⟩, h3⟩, h4⟩ := h
  have p1 := (chk_ok v h2 x.toXOk).1
  have p2 := (chk_ok o h3 x.toXOk).1
  have p3 := (chk_ok k h4 x.toXOk).1
  unfold asgSyn at he
  split at he
  · cases he
    unfold setSyn at hk
    split at hk
    · split at hk
      · rename_i hp
        cases hk
        refine PS_imp (ps_asg p1 (pg_sub p2 p3 (pset_ok (by have := x.hu; omega)) (set_assign hp)) (set_sw h1) rfl rfl) setS
      · cases hk
    · cases hk
  · cases he
theorem setFOk' {c i : Nat} {v o : E} {s : Stmt} {tg v' o' : Expr} (he : asgSyn s = some (tg, v')) (hk : setFSyn T c i tg = some o') (h : (plainE v' && chk T false sc v v' && chk T false sc o o') = true) (x : XSk T G cf Ex n sc X) : PS X s (tS G cf L Ex (.setF c i v o)) := by
  simp only [Bool.and_eq_true] at h
  obtain ⟨⟨h1, h2⟩, h3⟩ := h
  have p1 := (chk_ok v h2 x.toXOk).1
  have p2 := (chk_ok o h3 x.toXOk).1
  unfold asgSyn at he
  split at he
  · cases he
    exact setFOk hk h1 x p1 p2
  · cases he
theorem augOk' {i : Nat} {o : Op} {m : E} {s : Stmt} {tg v : Expr} {op : Operator} (he : augSyn s = some (tg, op, v)) (h : (decide (augTab o = some op) && nameAt T.N sc i tg && chk T false sc m v) = true) (x : XSk T G cf Ex n sc X) : PS X s (tS G cf L Ex (.aug i o m)) := by
  simp only [Bool.and_eq_true, decide_eq_true_eq] at h
  obtain ⟨⟨h1, h2⟩, h3⟩ := h
  have p1 := (chk_ok m h3 x.toXOk).1
  unfold augSyn at he
  split at he
  · cases he
    simp only [nameAt, Bool.and_eq_true, decide_eq_true_eq] at h2
    have hl := loc_ok h2.2
    have hi := h2.1
    rw [← x.hN] at hi
    rcases hl with hl | hl
    · exact PS_imp (ps_aug x.nd hi (.inl ((x.wr _).1 hl)) p1 (augTab_ok h1) (.inr ((x.wr _).1 hl))) augS
    · exact PS_imp (ps_aug x.nd hi (.inr ((x.wr _).2 hl).1) p1 (augTab_ok h1) (.inl ((x.wr _).2 hl).2)) augS
  · cases he
theorem augFOk' {c i : Nat} {v m : E} {o : Op} {s : Stmt} {tg v' o' : Expr} {op : Operator} (he : augAny s = some (tg, op, v')) (hk : setFSyn T c i tg = some o') (h : (decide (augTab o = some op) && chk T false sc m v' && chk T false sc v o') = true) (x : XSk T G cf Ex n sc X) : PS X s (tS G cf L Ex (.augF c i v o m)) := by
  simp only [Bool.and_eq_true, decide_eq_true_eq] at h
  obtain ⟨⟨h1, h2⟩, h3⟩ := h
  unfold augAny at he
  split at he
  · cases he
    exact augFOk hk h1 x (chk_ok m h2 x.toXOk).1 (chk_ok v h3 x.toXOk).1
  · cases he
theorem augSOk' {v k m : E} {o : Op} {s : Stmt} {tg v' o' k' : Expr} {op : Operator} (he : augAny s = some (tg, op, v')) (hk : augSSyn tg = some (o', k')) (h : (stillE m && decide (augTab o = some op) && chk T false sc m v' && chk T false sc v o' && chk T false sc k k') = true) (x : XSk T G cf Ex n sc X) : PS X s (tS G cf L Ex (.augS v k o m)) := by
  simp only [Bool.and_eq_true, decide_eq_true_eq] at h
  obtain ⟨⟨⟨⟨h0, h1⟩, h2⟩, h3⟩, h4⟩ := h
  unfold augAny at he
  split at he
  · cases he
    exact augSOk hk h0 h1 x (chk_ok m h2 x.toXOk).1 (chk_ok v h3 x.toXOk).1 (chk_ok k h4 x.toXOk).1
  · cases he
theorem iteOk {c : E} {a b : List Stm} {s : Stmt} {c' : Expr} {a' b' : List Stmt} (he : iteSyn s = some (c', a', b')) (h1 : chk T true sc c c' = true) (x : XSk T G cf Ex n sc X) (p2 : PSs X a' (tSs G cf L Ex a)) (p3 : PSs X b' (tSs G cf L Ex b)) : PS X s (tS G cf L Ex (.ite c a b)) := by
  have p1 := chk_ok c h1 x.toXOk
  unfold iteSyn at he
  split at he
  · cases he
    exact PS_imp (ps_if p1 p2 p3) iteS
  · cases he
theorem forOk {t : Tg} {k : ItK} {srcs : List E} {body : List Stm} {s : Stmt} {tg iter : Expr} {body' : List Stmt} {es : List Expr} (he : forSyn s = some (tg, iter, body')) (hi : itSyn sc k tg iter = some es) (h : (T.cm && chks T false sc srcs es && tgOk T.N sc t tg) = true) (x : XSk T G cf Ex n sc X) (p3 : PSs X body' (tSs G cf L Ex body)) : PS X s (tS G cf L Ex (.forIn t k srcs body)) := by
  simp only [Bool.and_eq_true] at h
  obtain ⟨⟨hcm, h1⟩, h2⟩ := h
  have p := (chks_ok srcs h1 x.toXOk).pes
  obtain ⟨q1, q2⟩ := itOk hi x.toXOk p
  unfold forSyn at he
  split at he
  · cases he
    exact PS_imp (ps_for (x.own hcm) (x.calm hcm) q1 (tgOk_ok (fun _ => x.calm hcm) x.hN x.nd x.wr h2) p3 (set_ok q2)) forS
  · cases he
theorem forROk {t : Tg} {a : E} {body : List Stm} {s : Stmt} {tg iter : Expr} {body' : List Stmt} (he : forSyn s = some (tg, iter, body')) (h : (T.cm && plainE iter && chk T false sc a iter && tgOk T.N sc t tg) = true) (x : XSk T G cf Ex n sc X) (p3 : PSs X body' (tSs G cf L Ex body)) : PS X s (tS G cf L Ex (.forR t a body)) := by
  simp only [Bool.and_eq_true] at h
  obtain ⟨⟨⟨hcm, h0⟩, h1⟩, h2⟩ := h
  have p1 := (chk_ok a h1 x.toXOk).1
  unfold forSyn at he
  split at he
  · cases he
    exact PS_imp (ps_for (x.own hcm) (x.calm hcm) (pi_list p1) (tgOk_ok (fun _ => x.calm hcm) x.hN x.nd x.wr h2) p3 (set_ok h0)) forRS
  · cases he
theorem forDOk' {t : Tg} {both : Bool} {a : E} {body : List Stm} {s : Stmt} {tg iter o : Expr} {body' : List Stmt} (he : forSyn s = some (tg, iter, body')) (hd : forDSyn both tg iter = some o) (h : (T.cm && simpA a && chk T false sc a o && tgOk T.N sc t tg) = true) (x : XSk T G cf Ex n sc X) (p3 : PSs X body' (tSs G cf L Ex body)) : PS X s (tS G cf L Ex (.forD t both a body)) := by
  simp only [Bool.and_eq_true] at h
  obtain ⟨⟨⟨hcm, h0⟩, h1⟩, h2⟩ := h
  unfold forSyn at he
  split at he
  · cases he
    exact forDOk hd h0 hcm x h2 (chk_ok a h1 x.toXOk).1 p3
  · cases he
theorem whilOk {c : E} {body : List Stm} {s : Stmt} {c' : Expr} {body' : List Stmt} (he : whileSyn s = some (c', body')) (h : (T.cm && chk T true sc c c') = true) (x : XSk T G cf Ex n sc X) (p2 : PSs X body' (tSs G cf L Ex body)) : PS X s (tS G cf L Ex (.whil c body)) := by
  simp only [Bool.and_eq_true] at h
  have p1 := chk_ok c h.2 x.toXOk
  unfold whileSyn at he
  split at he
  · cases he
    exact PS_imp (ps_while (x.own h.1) p1 p2) whileS
  · cases he
theorem retOk {m : E} {s : Stmt} {e : Expr} (he : retSyn s = some (some e)) (h : chk T false sc m e = true) (x : XSk T G cf Ex n sc X) : PS X s (tS G cf L Ex (.ret m)) := by
  have p1 := (chk_ok m h x.toXOk).1
  unfold retSyn at he
  split at he
  · cases he
    exact PS_imp (ps_ret p1) retS
  · cases he
theorem retNOk {m : E} {s : Stmt} (he : retSyn s = some none) (h : isNonC m = true) (x : XSk T G cf Ex n sc X) : PS X s (tS G cf L Ex (.ret m)) := by
  unfold retSyn at he
  split at he
  · cases he
    unfold isNonC at h
    split at h
    · refine PS_imp ps_retN ?_
      rintro D σ H ⟨I, φ, ρ, S, s, en, h⟩
      simp only [exec, ev, Rs.sr] at h
      exact KE.here h s rfl
    · cases h
  · cases he
theorem contOk {s : Stmt} (h : isCont s = true) (x : XSk T G cf Ex n sc X) : PS X s (tS G cf L Ex .cont) := by
  unfold isCont at h
  split at h
  · exact PS_imp ps_continue contS
  · cases h
theorem brkOk {s : Stmt} (h : isBrk s = true) (x : XSk T G cf Ex n sc X) : PS X s (tS G cf L Ex .brk) := by
  unfold isBrk at h
  split at h
  · exact PS_imp ps_break brkS
  · cases h
mutual
theorem chkS_ok : ∀ (m : Stm) {T : Tab} {s : Stmt} {sc : Scope} {Ex : L2.St → XK} {X : Cx}, chkS m T sc s = true → XSk T G cf Ex n sc X → PS X s (tS G cf L Ex m)
  | .expr m, T, s, sc, Ex, X, h, x => by
    rw [chkS] at h
    split at h
    · exact exprOk (by assumption) h x
    · cases h
  | .pass, T, s, sc, Ex, X, h, x => by
    rw [chkS] at h
    exact passOk h x
  | .asg t m, T, s, sc, Ex, X, h, x => by
    rw [chkS] at h
    split at h
    · exact asgOk' (by assumption) h x
    · cases h
  | .setI v o k, T, s, sc, Ex, X, h, x => by
    rw [chkS] at h
    split at h
    · split at h
      · exact setIOk (by assumption) (by assumption) h x
      · cases h
    · cases h
  | .setF c i v o, T, s, sc, Ex, X, h, x => by
    rw [chkS] at h
    split at h
    · split at h
      · exact setFOk' (by assumption) (by assumption) h x
      · cases h
    · cases h
  | .aug i o m, T, s, sc, Ex, X, h, x => by
    rw [chkS] at h
    split at h
    · exact augOk' (by assumption) h x
    · cases h
  | .augF c i v o m, T, s, sc, Ex, X, h, x => by
    rw [chkS] at h
    split at h
    · split at h
      · exact augFOk' (by assumption) (by assumption) h x
      · cases h
    · cases h
  | .augS v k o m, T, s, sc, Ex, X, h, x => by
    rw [chkS] at h
    split at h
    · split at h
      · exact augSOk' (by assumption) (by assumption) h x
      · cases h
    · cases h
  | .ite c a b, T, s, sc, Ex, X, h, x => by
    rw [chkS] at h
    split at h
    · rename_i c' a' b' he
      simp only [Bool.and_eq_true] at h
      exact iteOk he h.1.1 x (chkSs_ok a h.1.2 x) (chkSs_ok b h.2 x)
    · cases h
  | .forIn t k srcs body, T, s, sc, Ex, X, h, x => by
    rw [chkS] at h
    split at h
    · rename_i tg iter body' he
      split at h
      · rename_i es hi
        rw [Bool.and_eq_true] at h
        exact forOk he hi h.1 x (chkSs_ok body h.2 x)
      · cases h
    · cases h
  | .forR t a body, T, s, sc, Ex, X, h, x => by
    rw [chkS] at h
    split at h
    · rename_i tg iter body' he
      rw [Bool.and_eq_true] at h
      exact forROk he h.1 x (chkSs_ok body h.2 x)
    · cases h
  | .forD t both a body, T, s, sc, Ex, X, h, x => by
    rw [chkS] at h
    split at h
    · rename_i tg iter body' he
      split at h
      · rename_i o hi
        rw [Bool.and_eq_true] at h
        exact forDOk' he hi h.1 x (chkSs_ok body h.2 x)
      · cases h
    · cases h
  | .whil c body, T, s, sc, Ex, X, h, x => by
    rw [chkS] at h
    split at h
    · rename_i c' body' he
      rw [Bool.and_eq_true] at h
      exact whilOk he h.1 x (chkSs_ok body h.2 x)
    · cases h
  | .ret m, T, s, sc, Ex, X, h, x => by
    rw [chkS] at h
    split at h
    · exact retOk (by assumption) h x
    · exact retNOk (by assumption) h x
    · cases h
  | .cont, T, s, sc, Ex, X, h, x => by
    rw [chkS] at h
    exact contOk h x
  | .brk, T, s, sc, Ex, X, h, x => by
    rw [chkS] at h
    exact brkOk h x
  | .rais c, T, s, sc, Ex, X, h, x => by
    rw [chkS] at h
    rw [Bool.and_eq_true] at h
    exact raisOk h.2 h.1 x
  | .tryE ks body c i hd, T, s, sc, Ex, X, h, x => by
    rw [chkS] at h
    split at h
    · rename_i body' y nm suite he
      simp only [Bool.and_eq_true] at h
      exact tryOk he h.1.1 x (fun x' => chkSs_ok body h.1.2 x') (fun x' => chkSs_ok hd h.2 x')
    · cases h
  | .frz _, T, s, sc, Ex, X, h, x => by rw [chkS] at h; cases h
  | .wipe _, T, s, sc, Ex, X, h, x => by rw [chkS] at h; cases h
theorem chkSs_ok : ∀ (ms : List Stm) {T : Tab} {ss : List Stmt} {sc : Scope} {Ex : L2.St → XK} {X : Cx}, chkSs ms T sc ss = true → XSk T G cf Ex n sc X → PSs X ss (tSs G cf L Ex ms)
  | [], T, ss, sc, Ex, X, h, x => by
    rw [chkSs] at h
    cases ss with
    | nil => exact PSs_imp pss_nil nilS
    | cons s ss => cases h
  | m :: ms, T, ss, sc, Ex, X, h, x => by
    rw [chkSs] at h
    split at h
    · rename_i hf
      have p := chkSs_ok ms h x
      unfold isFrz at hf
      split at hf
      · exact PSs_imp p frzS
      · exact PSs_imp p wipeS
      · cases hf
    · cases ss with
      | nil => simp [unC] at h
      | cons s ss =>
        simp only [unC] at h
        simp only [Bool.and_eq_true] at h
        exact PSs_imp (pss_cons (chkS_ok m h.1 x) (chkSs_ok ms h.2 x)) seqS
end
end Tw

/-! Tw, part Q: defs, classes, the law's end. -/
namespace Tw
open PySem PySem.Spec PyProof.Rows L2

variable {G : Gx} {I I' I1 I2 H H' H1 H2 : Hp} {φ φ' φ1 φ2 : List Addr} {S S' S1 : Sto} {X : Cx} {T : Tab} {Ex : L2.St → XK} {n L : Nat} {sc : Scope}

/-- a def; own: the class in which it stands -/
structure DefI where
  nm : PySem.Str
  qn : PySem.Str
  own : Option Nat
  N : List PySem.Str
  np : Nat
  st : Stmt
  body : List Stm
def DefI.ps (d : DefI) : List PySem.Str := d.N.take d.np
def DefI.fn (d : DefI) : Fn := ⟨d.np, d.N.length, d.body⟩
/-- the j-th statement of a class's body -/
def inCls (s : Stmt) (j : Nat) : Stmt := match s with
  | .ClassDef _ _ _ b _ _ _ _ _ _ _ => b.getD j (.Pass ⟨0, 0, 0, 0⟩)
  | _ => .Pass ⟨0, 0, 0, 0⟩
def isFun : ScopeKind → Bool
  | .function => true
  | _ => false
def nodupC : List PySem.Str → Bool
  | [] => true
  | x :: r => !(r.contains x) && nodupC r
theorem nodupC_ok : ∀ {l : List PySem.Str}, nodupC l = true → l.Nodup
  | [], _ => List.nodup_nil
  | x :: r, h => by
    simp only [nodupC, Bool.and_eq_true] at h
    exact List.nodup_cons.mpr ⟨by simpa using h.1, nodupC_ok h.2⟩
def scopeC (d : DefI) : Bool :=
  isFun (defScope d.st).kind && !(defScope d.st).isCoroutine && !(defScope d.st).isGenerator && nodupC d.N && decide (d.np ≤ d.N.length) && d.ps.all (loc (defScope d.st)) && (defScope d.st).names.all fun y => !(y.2 == .free)
theorem scopeC_ok {d : DefI} (h : scopeC d = true) : FnScope d.N d.ps (defScope d.st) := by
  unfold scopeC at h
  simp only [Bool.and_eq_true, decide_eq_true_eq] at h
  obtain ⟨⟨⟨⟨⟨⟨h1, h2⟩, h3⟩, h4⟩, h5⟩, h6⟩, h7⟩ := h
  refine ⟨?_, by simpa using h2, by simpa using h3, nodupC_ok h4, ?_, fun x hx => loc_ok (List.all_eq_true.mp h6 x hx), fun y hy => ?_⟩
  · unfold isFun at h1
    split at h1
    · assumption
    · cases h1
  · unfold DefI.ps
    rw [List.length_take, Nat.min_eq_left h5]
  · have := List.all_eq_true.mp h7 y hy
    intro z
    rw [z] at this
    cases this
/-- the tables of a text -/
structure Tx where
  fnm : List (PySem.Str × Nat × Nat)
  cst : List (PySem.Str × W)
  cls : List ClsI
  mts : List (Nat × PySem.Str × Nat × Nat)
  exc : List (PySem.Str × Nat)
def Tx.tab (t : Tx) (N : List PySem.Str) : Tab := ⟨N, t.fnm, t.cst, true, t.cls, t.mts, t.exc⟩
def Tx.fld (t : Tx) (c : Nat) : List PySem.Str := match t.cls.find? fun k => k.c == c with
  | some k => k.flds
  | none => []
def Tx.exs (t : Tx) : List Nat := t.exc.map (·.2)
def defC (t : Tx) (d : DefI) : Bool := scopeC d && chkSs d.body (t.tab d.N) (defScope d.st) (defBody d.st)
def prg (D : List (Nat × DefI)) : Nat → Option Fn := fun f => (D.lookup f).map DefI.fn
theorem lookup_memN {α : Type} {l : List (Nat × α)} {x : Nat} {w : α} (h : l.lookup x = some w) : (x, w) ∈ l := by
  induction l with
  | nil => cases h
  | cons p l ih =>
    obtain ⟨a, b⟩ := p
    rw [List.lookup_cons] at h
    split at h
    · rename_i hb
      cases h
      have : x = a := by simpa using hb
      subst this
      exact List.mem_cons_self
    · exact List.mem_cons_of_mem _ (ih h)

/-! ### looks at what the top has written -/
def initS : PySem.Str := "__init__"
def clsB (K : PySem.W.Frag) (C : Addr) (flds : List PySem.Str) : Bool :=
  PySem.W.plainGet K C Str.empty && PySem.W.hasDictIn K C && PySem.W.plainOver K C && (PySem.W.findIn K (.ref C) "__setattr__" == some (some (.builtin "object.__setattr__"))) && (PySem.W.findIn K (.ref C) "__class__" == some (some (.builtin "object.__class__"))) &&
    (PySem.W.specialIn K (.builtin "object.__class__") "__get__" == some (some (.builtin "getset_descriptor.__get__"))) && (PySem.W.takesIn K (.builtin "object.__class__") == some true) && (PySem.W.mroIn K C (.type "object") == some true) && flds.all fun x => PySem.W.findIn K (.ref C) x == some none
theorem clsB_ok {K : PySem.W.Frag} {C : Addr} {flds : List PySem.Str} (h : clsB K C flds = true) : ClsF K C ∧ ∀ f ∈ flds, NoAttr K C f := by
  unfold clsB at h
  simp only [Bool.and_eq_true, List.all_eq_true, beq_iff_eq] at h
  obtain ⟨⟨⟨⟨⟨⟨⟨⟨h1, h2⟩, h3⟩, h4⟩, h5⟩, h6⟩, h7⟩, h8⟩, h9⟩ := h
  exact ⟨{ pg := h1, hd := h2, po := h3, sa := h4, ha := h5, hn := h6, ht := h7, hm := h8 }, h9⟩
def mkB (K : PySem.W.Frag) (C f : Addr) : Bool := PySem.W.makesIn K C && (PySem.W.findIn K (.ref C) "__init__" == some (some (.ref f))) && PySem.W.isFn K (.ref f) && PySem.W.keepIn K (.ref C)
theorem mkB_ok {K : PySem.W.Frag} {C f : Addr} (h : mkB K C f = true) : Mk K C f := by
  unfold mkB at h
  simp only [Bool.and_eq_true, beq_iff_eq] at h
  exact ⟨h.1.1.1, h.1.1.2, h.1.2, h.2⟩
def methB (K : PySem.W.Frag) (C : Addr) (m : PySem.Str) (f : Addr) : Bool := (PySem.W.findIn K (.ref C) m == some (some (.ref f))) && PySem.W.isFn K (.ref f) && PySem.W.keepIn K (.ref f)
theorem methB_ok {K : PySem.W.Frag} {C f : Addr} {m : PySem.Str} (h : methB K C m f = true) : Meth K C m f := by
  unfold methB at h
  simp only [Bool.and_eq_true, beq_iff_eq] at h
  exact ⟨h.1.1, h.1.2, h.2⟩
def excB (K : PySem.W.Frag) (C : Addr) : Bool :=
  (PySem.W.findIn K (.ref C) "__getattribute__" == some (some (.builtin "BaseException.__getattribute__"))) && (PySem.W.findIn K (.ref C) "__getattr__" == some none) && (PySem.W.subIn K (.ref C) (.type "BaseException") == some true) && PySem.W.hasDictIn K C &&
    (PySem.W.findIn K (.ref C) "__class__" == some (some (.builtin "object.__class__"))) && (PySem.W.specialIn K (.builtin "object.__class__") "__get__" == some (some (.builtin "getset_descriptor.__get__"))) && (PySem.W.takesIn K (.builtin "object.__class__") == some true) && (PySem.W.mroIn K C (.type "object") == some true) &&
    PySem.W.excIn K C bmVE "ValueError.__new__" && PySem.W.keepIn K (.ref C) && (PySem.W.exmOne K (.ref C) (.type "ValueError") == some true) && (PySem.W.exmOne K (.ref C) (.ref C) == some true) && (PySem.W.typeIn K (.ref C) == some (.type "type")) &&
    (PySem.W.kitOne K (.ref C) (.type "ValueError") == some true) && (PySem.W.kitOne K (.type "NoneType") (.ref C) == some false)
theorem excB_ok {K : PySem.W.Frag} {C : Addr} (h : excB K C = true) : ExcF K C ∧ PySem.W.kitOne K (.ref C) (.type "ValueError") = some true ∧ PySem.W.kitOne K (.type "NoneType") (.ref C) = some false := by
  unfold excB at h
  simp only [Bool.and_eq_true, beq_iff_eq] at h
  obtain ⟨⟨⟨⟨⟨⟨⟨⟨⟨⟨⟨⟨⟨⟨h1, h2⟩, h3⟩, h4⟩, h5⟩, h6⟩, h7⟩, h8⟩, h9⟩, h10⟩, h11⟩, h12⟩, h13⟩, h14⟩, h15⟩ := h
  exact ⟨{ hg := h1, hk := h2, hs := h3, hd := h4, ha := h5, hn := h6, ht := h7, hm := h8, ex := h9, kp := h10, ev := h11, me := h12, tp := h13 }, h14, h15⟩
/-- one exception's class against all -/
def excR (K : PySem.W.Frag) (exc : List (PySem.Str × Nat)) (cad : Nat → Addr) (k : Nat) : Bool := exc.all fun e => PySem.W.kitOne K (.ref (cad k)) (.ref (cad e.2)) == some (subX k e.2)
theorem excR_ok {K : PySem.W.Frag} {exc : List (PySem.Str × Nat)} {cad : Nat → Addr} {k : Nat} (h : excR K exc cad k = true) : ∀ y j, (y, j) ∈ exc → PySem.W.kitOne K (.ref (cad k)) (.ref (cad j)) = some (subX k j) := by
  unfold excR at h
  simp only [List.all_eq_true, beq_iff_eq] at h
  exact fun y j hj => h (y, j) hj
section
variable {P : Program} {w : World} {K : PySem.W.Frag} {mg : PySem.Str → Option Value} {base : Heap}
/-- where a def stands -/
def placed (K : PySem.W.Frag) (mg : PySem.Str → Option Value) (cad : Nat → Addr) (d : DefI) (f : Addr) : Prop := match d.own with
  | none => mg d.nm = some (.ref f)
  | some c => if d.nm = initS then Mk K (cad c) f else Meth K (cad c) d.nm f
structure Wd (K : PySem.W.Frag) (mg : PySem.Str → Option Value) (cad : Nat → Addr) (t : Tx) (D : List (Nat × DefI)) : Prop where
  defs : ∀ (i : Nat) (d : DefI), (i, d) ∈ D → ∃ f fd, placed K mg cad d f ∧ Binds K fd d.ps [] ∧ Fun K d.nm d.qn d.st f fd
  blt : ∀ x ∈ bltNames, mg x = none
  csts : ∀ x v, (x, v) ∈ t.cst → ∃ u y, mg x = some u ∧ L2.RelV y u ∧ ∀ (G : Gx) I φ, Rel G I φ v y
  cls : ∀ c ∈ t.cls, mg c.nm = some (.ref (cad c.c)) ∧ clsB K (cad c.c) c.flds = true
  exc : ∀ x k, (x, k) ∈ t.exc → mg x = some (.ref (cad k)) ∧ excB K (cad k) = true ∧ excR K t.exc cad k = true
def defAt (D : List (Nat × DefI)) (i np : Nat) (q : DefI → Bool) : Bool := match D.lookup i with
  | some d => d.np == np && decide (d.np ≤ d.N.length) && q d
  | none => false
theorem defAt_ok {D : List (Nat × DefI)} {i np : Nat} {q : DefI → Bool} (h : defAt D i np q = true) : ∃ d, D.lookup i = some d ∧ d.np = np ∧ d.ps.length = np ∧ q d = true := by
  unfold defAt at h
  split at h
  · rename_i d hd
    simp only [Bool.and_eq_true, beq_iff_eq, decide_eq_true_eq] at h
    obtain ⟨⟨h1, h2⟩, h3⟩ := h
    exact ⟨d, hd, h1, by unfold DefI.ps; rw [List.length_take, Nat.min_eq_left h2]; exact h1, h3⟩
  · cases h
/-- the tables agree with the defs -/
def txC (t : Tx) (D : List (Nat × DefI)) : Bool :=
  (t.fnm.all fun p => defAt D p.2.1 p.2.2 fun d => d.own.isNone && d.nm == p.1) &&
  (t.cls.all fun c => decide (c.c < 9) && (t.fld c.c == c.flds) && nodupC c.flds && defAt D c.init c.np fun d => d.own == some c.c && d.nm == initS) &&
  (t.mts.all fun p => !((t.fld p.1).contains p.2.1) && (t.cls.any fun c => c.c == p.1) && defAt D p.2.2.1 p.2.2.2 fun d => d.own == some p.1 && d.nm == p.2.1 && !(d.nm == initS)) &&
  (t.exc.all fun p => decide (10 ≤ p.2))
theorem defs_ok {lib : Nat → Option Fn} {t : Tx} {D : List (Nat × DefI)} (hl : ∀ i d, D.lookup i = some d → lib i = some d.fn) (hG : K = G.K) (hfl : G.fld = t.fld) (hex : G.exs = t.exs) (wd : Wd K mg G.cad t D) (hf : txC t D = true) (hD : D.all (fun p => defC t p.2) = true) (L : Nat) :
    ∀ (n i : Nat) (d : DefI) (f : Addr) (fd : FuncData), D.lookup i = some d → Fun K d.nm d.qn d.st f fd → FnOk P w K mg base (L2.CX P w) (2 * n) f fd d.ps (spF G (runF lib L n) i d.np)
  | 0, i, d, f, fd, hd, F => by
    have no : ∀ {vs : List V} {H : Hp} {Q : VK} {E : XK}, spF G (runF lib L 0) i d.np vs H Q E → False := by
      rintro vs H Q E ⟨_, I, φ, S, ws, _, _, h⟩
      exact h
    exact ⟨fun vs H Q E h => (no h).elim, fun A outer s H args us vs Q E _ _ _ _ h => (no h).elim⟩
  | n + 1, i, d, f, fd, hd, F => by
    have ih := defs_ok hl hG hfl hex wd hf hD L n
    have hc := List.all_eq_true.mp hD (i, d) (lookup_memN hd)
    simp only at hc
    unfold defC at hc
    simp only [Bool.and_eq_true] at hc
    have SC := scopeC_ok hc.1
    have hnp : d.np ≤ d.N.length := by
      have := hc.1
      unfold scopeC at this
      simp only [Bool.and_eq_true, decide_eq_true_eq] at this
      exact this.1.1.2
    unfold txC at hf
    simp only [Bool.and_eq_true] at hf
    obtain ⟨⟨⟨hf1, hf2⟩, hf3⟩, hf4⟩ := hf
    have get : ∀ {j np : Nat} {q : DefI → Bool}, defAt D j np q = true → ∃ d2 f2 fd2, q d2 = true ∧ d2.ps.length = np ∧ placed K mg G.cad d2 f2 ∧ Binds K fd2 d2.ps [] ∧ Fun K d2.nm d2.qn d2.st f2 fd2 ∧ FnOk P w K mg base (L2.CX P w) (2 * n) f2 fd2 d2.ps (spF G (runF lib L n) j np) := by
      intro j np q h
      obtain ⟨d2, hd2, e1, e2, e3⟩ := defAt_ok h
      obtain ⟨f2, fd2, h1, h2, h3⟩ := wd.defs j d2 (lookup_memN hd2)
      exact ⟨d2, f2, fd2, e3, e2, h1, h2, h3, e1 ▸ ih j d2 f2 fd2 hd2 h3⟩
    have hclsF : ∀ c ∈ t.cls, ClsF K (G.cad c.c) ∧ ∀ f ∈ c.flds, NoAttr K (G.cad c.c) f := fun c hcm => clsB_ok (wd.cls c hcm).2
    refine F.okX (k := 2 * n + 1) SC (fun vs H Q E h => ?_) fun cdv A outer s H vs Q E hr h => ?_
    · rw [h.1]
      unfold DefI.ps
      rw [List.length_take, Nat.min_eq_left hnp]
    · obtain ⟨hlen0, I, φ, S, ws, sm, rws, hp⟩ := h
      have tk : Takes (cxOf (L2.CX P w) P w K mg base d.N d.qn (defScope d.st) f cdv A outer s H E) (fun cls dd _ H => E cls dd H) := takes_of rfl rfl rfl rfl
      have x : XSk (t.tab d.N) G (runF lib L n) (fun _ => E) n (defScope d.st) (cxOf (L2.CX P w) P w K mg base d.N d.qn (defScope d.st) f cdv A outer s H E) :=
        { calm := fun _ => rfl, hk := hG, nd := SC.nd, hN := rfl, hsc := rfl,
          un := by have := hr.un; show (A.deeper _).units + 65 < cLine; omega
          room := fun _ => hr, blt := wd.blt,
          fns := fun y j np hm => by
            obtain ⟨d2, f2, fd2, e, hps, pl, b, F2, ok⟩ := get (List.all_eq_true.mp hf1 _ hm)
            simp only [Bool.and_eq_true, beq_iff_eq, Option.isNone_iff_eq_none] at e
            unfold placed at pl
            rw [e.1] at pl
            simp only at pl
            rw [e.2] at pl
            exact ⟨f2, fd2, d2.ps, hps, pl, F2.kp, b, ok⟩
          csts := fun y v hm => by
            obtain ⟨u, z, h1, h2, h3⟩ := wd.csts y v hm
            exact ⟨u, z, h1, h2, h3 G⟩
          cls := fun c hcm => by
            have hq := List.all_eq_true.mp hf2 c hcm
            simp only [Bool.and_eq_true, decide_eq_true_eq, beq_iff_eq] at hq
            obtain ⟨⟨⟨q1, q2⟩, q3⟩, q4⟩ := hq
            obtain ⟨d2, f2, fd2, e, hps, pl, b, F2, ok⟩ := get q4
            simp only [Bool.and_eq_true, beq_iff_eq] at e
            unfold placed at pl
            rw [e.1] at pl
            simp only at pl
            rw [if_pos e.2] at pl
            obtain ⟨c1, c2⟩ := hclsF c hcm
            exact ⟨(wd.cls c hcm).1, c1, q1, by rw [hfl]; exact q2, nodupC_ok q3, c2, f2, fd2, d2.ps, hps, pl, b, ok⟩
          mts := fun c m j np hm => by
            have hq := List.all_eq_true.mp hf3 _ hm
            simp only [Bool.and_eq_true, Bool.not_eq_true', List.any_eq_true, beq_iff_eq] at hq
            obtain ⟨⟨q1, cl, hcl, q2⟩, q4⟩ := hq
            obtain ⟨d2, f2, fd2, e, hps, pl, b, F2, ok⟩ := get q4
            simp only [Bool.and_eq_true, beq_iff_eq, Bool.not_eq_true', beq_eq_false_iff_ne] at e
            unfold placed at pl
            rw [e.1.1] at pl
            simp only at pl
            rw [if_neg e.2, e.1.2] at pl
            have := (hclsF cl hcl).1.toCls
            rw [q2] at this
            exact ⟨this, by rw [hfl]; simpa using q1, f2, fd2, d2.ps, hps, pl, b, ok⟩
          exc := fun y k hm => by
            obtain ⟨e1, e2, e3⟩ := wd.exc y k hm
            obtain ⟨q1, q2, q3⟩ := excB_ok e2
            have q4 : 10 ≤ k := by simpa using List.all_eq_true.mp hf4 _ hm
            exact ⟨e1, q1, q4, q2, q3, by rw [hex]; exact List.mem_map.mpr ⟨_, hm, rfl⟩, excR_ok e3⟩
          exs := fun k hk => by
            rw [hex] at hk
            obtain ⟨⟨y, k'⟩, hm, rfl⟩ := List.mem_map.mp hk
            exact ⟨y, hm⟩
          pass := fun σ => passAt tk σ
          wr := fun y => ⟨fun z => z, fun z => ⟨z, rfl⟩⟩
          own := fun _ => passes_of rfl
          tk := fun _ => tk
          stk := rfl
          frm := rfl
          knd := SC.kind }
      refine ⟨_, chkSs_ok (L := L) d.body hc.2 x, ?_⟩
      have hlen := rws.length
      refine ⟨I, φ, ws.map some ++ List.replicate (d.N.length - d.np) none, S, sm, ⟨?_, ?_⟩, ?_⟩
      · unfold L2.start
        have hnw : ws.length = d.np := by omega
        rw [List.length_append, List.length_append, List.length_map, List.length_map, List.length_replicate, List.length_replicate, hlen, hnw]
      · intro k w' hk
        unfold L2.start
        rw [List.getElem?_append] at hk ⊢
        simp only [List.length_map] at hk ⊢
        rw [hlen]
        split at hk
        · rename_i hlt
          rw [if_pos hlt]
          rw [List.getElem?_map] at hk ⊢
          cases hw : ws[k]? with
          | none => rw [hw] at hk; cases hk
          | some u =>
            rw [hw] at hk
            cases hk
            obtain ⟨v, hv, r⟩ := rws.get hw
            exact ⟨v, by rw [hv]; rfl, r⟩
        · rw [List.getElem?_replicate] at hk
          split at hk <;> cases hk
      · simp only [runF] at hp
        rw [hl i d hd] at hp
        simp only at hp
        have e1 : ws.length = d.fn.np := by rw [← hlen, hlen0]; rfl
        rw [if_pos e1] at hp
        have e2 : d.fn.ns - d.fn.np = d.N.length - d.np := rfl
        rw [e2] at hp
        have e3 : d.fn.body = d.body := rfl
        rw [e3] at hp
        cases hx : execs (runF lib L n) L d.body (ws.map some ++ List.replicate (d.N.length - d.np) none) S with
        | ret v S' => rw [hx] at hp; exact hp
        | next ρ S' => rw [hx] at hp; exact fun σ I' φ' H' e s en => hp .non I' φ' H' e s rfl
        | ex ρ c S' => rw [hx] at hp; exact fun σ I' φ' H' e s en => hp I' φ' H' e s
        | brk ρ S' => rw [hx] at hp; exact hp.elim
        | cont ρ S' => rw [hx] at hp; exact hp.elim
        | bad => rw [hx] at hp; exact hp.elim
/-- the law's promise: handed numbers for which it runs true, it answers true -/
def spQ (lib : Nat → Option Fn) (L k i : Nat) (K : PySem.W.Frag) : Sp := fun vs H Q E => ∃ a ns, vs = [.ref a] ∧ SqL K H a (ns.map V.int) ∧ (∃ S', runF lib L k i [.klst ns] [] = .ok (.bl true) S') ∧ ∀ H', Q (.bl true) H'
theorem spQ_of {lib : Nat → Option Fn} {L k i : Nat} {vs : List V} {H : Hp} {Q : VK} {E : XK} (h : spQ lib L k i G.K vs H Q E) : spF G (runF lib L k) i 1 vs H Q E := by
  obtain ⟨a, ns, rfl, hS, ⟨S', hr⟩, q⟩ := h
  refine ⟨rfl, H, [], [], [.klst ns], ⟨Same.refl _, rfl, List.nodup_nil, by simp, by simp, by simp⟩, Rels.one ⟨a, rfl, hS⟩, ?_⟩
  rw [hr]
  intro v I' φ' H' e s r
  rw [show v = _ from r]
  exact q H'
theorem spQ_here {lib : Nat → Option Fn} {L k i : Nat} {H : Hp} {a : Addr} {ns : List Int} {E : XK} (hS : SqL K H a (ns.map V.int)) (h : ∃ S', runF lib L k i [.klst ns] [] = .ok (.bl true) S') :
    spQ lib L k i K [.ref a] H (fun v _ => v = .bl true) E := ⟨a, ns, rfl, hS, h, fun _ => rfl⟩
theorem cx_none {P : Program} {w : World} {H : Hp} {s : Shared} {e : Value} {s' : Shared} (h : L2.CX P w [] H s (fun _ _ _ => False) e s') : False := by
  obtain ⟨_, _, _, _, _, _, _, _, _, _, _, _, z⟩ := h
  exact z.elim
/-- addresses by number -/
def cadL (l : List (Nat × Addr)) (k : Nat) : Addr := (l.lookup k).getD 0
end
end Tw

/-! Tw, part R: running, in plain Lean. -/
namespace Tw
theorem runF_succ {P : Nat → Option Fn} {L d f : Nat} {ws : List W} {S : Sto} {x : Fn} (h : P f = some x) (hl : ws.length = x.np) : runF P L (d + 1) f ws S = match execs (runF P L d) L x.body (ws.map some ++ List.replicate (x.ns - x.np) none) S with
        | .ret w S' => .ok w S'
        | .next _ S' => .ok .non S'
        | .ex _ c S' => .ex c S'
        | _ => .bad := by
  rw [runF, h]
  simp only
  rw [if_pos hl] <;> rfl
/-- a comprehension without effect, its turns -/
theorem compL_map {elt cond : Env → Sto → Rs W} {t : Tg} {ρ : Env} {S : Sto} (f : W → W) (c : W → Bool) : ∀ {xs : List W}, (∀ x ∈ xs, ∃ ρ', bindT t x ρ = some ρ' ∧ cond ρ' S = .ok (.bl (c x)) S ∧ (c x = true → elt ρ' S = .ok (f x) S)) → compL elt cond t ρ xs S = .ok ((xs.filter c).map f) S
  | [], _ => by simp [compL]
  | x :: xs, h => by
    obtain ⟨ρ', h1, h2, h3⟩ := h x (by simp)
    have ih := compL_map f c (xs := xs) fun y hy => h y (by simp [hy])
    simp only [compL, h1, h2]
    cases hc : c x with
    | true =>
      simp only [h3 hc, ih, Rs.bind, List.filter_cons, hc, if_true, List.map_cons]
    | false =>
      simp only [ih, List.filter_cons, hc]
      simp
/-- the same, kept by all -/
theorem compL_all {elt cond : Env → Sto → Rs W} {t : Tg} {ρ : Env} {S : Sto} (f : W → W) {xs : List W} (h : ∀ x ∈ xs, ∃ ρ', bindT t x ρ = some ρ' ∧ cond ρ' S = .ok (.bl true) S ∧ elt ρ' S = .ok (f x) S) : compL elt cond t ρ xs S = .ok (xs.map f) S := by
  have := compL_map f (fun _ => true) (elt := elt) (cond := cond) (t := t) (ρ := ρ) (S := S) (xs := xs) fun x hx => by
    obtain ⟨ρ', h1, h2, h3⟩ := h x hx
    exact ⟨ρ', h1, h2, fun _ => h3⟩
  rw [this, List.filter_eq_self.mpr (by simp)]
/-- a walk with an invariant: after the turns of xs.take k the state stands as I k tells -/
theorem forL_inv {t : Tg} {body : Env → Sto → SR} (I : List W → Env → Sto → Prop) : ∀ {xs done : List W} {ρ : Env} {S : Sto}, I done ρ S →
    (∀ d x ρ S, I d ρ S → x ∈ xs → ∃ ρ' ρ2 S2, bindT t x ρ = some ρ' ∧ (body ρ' S = .next ρ2 S2 ∨ body ρ' S = .cont ρ2 S2) ∧ I (d ++ [x]) ρ2 S2) → ∃ ρ2 S2, forL t body xs ρ S = .next ρ2 S2 ∧ I (done ++ xs) ρ2 S2
  | [], done, ρ, S, h, _ => ⟨ρ, S, by simp [forL], by simpa using h⟩
  | x :: xs, done, ρ, S, h, st => by
    obtain ⟨ρ', ρ2, S2, h1, h2, h3⟩ := st done x ρ S h (by simp)
    obtain ⟨ρ3, S3, h4, h5⟩ := forL_inv I (xs := xs) h3 fun d y ρ S hI hy => st d y ρ S hI (by simp [hy])
    refine ⟨ρ3, S3, ?_, by simpa using h5⟩
    simp only [forL, h1]
    rcases h2 with h2 | h2 <;> rw [h2] <;> exact h4

/-! ### values in order -/
/-- values that the order compares strictly -/
structure OrdW (Q : W → Prop) : Prop where
  eq : ∀ x y, Q x → Q y → (eqW x y = true ↔ x = y)
  irr : ∀ x, Q x → ltW x x = false
  tr : ∀ x y z, Q x → Q y → Q z → ltW x y = true → ltW y z = true → ltW x z = true
  tot : ∀ x y, Q x → Q y → x ≠ y → ltW x y = true ∨ ltW y x = true
  dat : ∀ x, Q x → ∀ d, datW (d + 1) x = true
  rf : ∀ x, Q x → rfree x = true
  ali : ∀ x y, Q x → Q y → alikeW x y = true
  one : (∀ x, Q x → isTup1 x = true) ∨ ∀ x, Q x → (notNone x && !isTup x) = true
  non : ∀ x, Q x → notNone x = true
theorem OrdW.asym {Q : W → Prop} (o : OrdW Q) {x y : W} (hx : Q x) (hy : Q y) (h : ltW x y = true) : ltW y x = false := by
  cases h2 : ltW y x with
  | false => rfl
  | true => have := o.tr x y x hx hy hx h h2; rw [o.irr x hx] at this; cases this
theorem ordInt : OrdW fun w => ∃ i, w = .int i := by
  refine ⟨?_, ?_, ?_, ?_, ?_, ?_, ?_, .inr ?_, ?_⟩
  · rintro _ _ ⟨i, rfl⟩ ⟨j, rfl⟩; simp [eqW]
  · rintro _ ⟨i, rfl⟩; simp [ltW]
  · rintro _ _ _ ⟨i, rfl⟩ ⟨j, rfl⟩ ⟨k, rfl⟩ h1 h2; simp [ltW] at *; omega
  · rintro _ _ ⟨i, rfl⟩ ⟨j, rfl⟩ h; simp [ltW] at *; omega
  · rintro _ ⟨i, rfl⟩ d; rfl
  · rintro _ ⟨i, rfl⟩; rfl
  · rintro _ _ ⟨i, rfl⟩ ⟨j, rfl⟩; rfl
  · rintro _ ⟨i, rfl⟩; rfl
  · rintro _ ⟨i, rfl⟩; rfl
def okStr (s : List Nat) : Prop := (∀ c ∈ s, c < 128) ∧ s.length < LIM
theorem ordStr : OrdW fun w => ∃ s, w = .str s ∧ okStr s := by
  refine ⟨?_, ?_, ?_, ?_, ?_, ?_, ?_, .inr ?_, ?_⟩
  · rintro _ _ ⟨i, rfl, _⟩ ⟨j, rfl, _⟩; simp [eqW]
  · rintro _ ⟨i, rfl, _⟩; simp [ltW, List.lt_irrefl]
  · rintro _ _ _ ⟨i, rfl, _⟩ ⟨j, rfl, _⟩ ⟨k, rfl, _⟩ h1 h2; simp [ltW] at *; exact List.lt_trans h1 h2
  · rintro _ _ ⟨i, rfl, _⟩ ⟨j, rfl, _⟩ h
    simp only [ltW, decide_eq_true_eq]
    have h : i ≠ j := fun z => h (by rw [z])
    rcases Classical.em (i < j) with z | z
    · exact .inl z
    · rcases Classical.em (j < i) with z2 | z2
      · exact .inr z2
      · exact absurd (List.le_antisymm z2 z) h
  · rintro _ ⟨i, rfl, h⟩ d; simp only [datW, Bool.and_eq_true, List.all_eq_true, decide_eq_true_eq]; exact h
  · rintro _ ⟨i, rfl, _⟩; rfl
  · rintro _ _ ⟨i, rfl, _⟩ ⟨j, rfl, _⟩; rfl
  · rintro _ ⟨i, rfl, _⟩; rfl
  · rintro _ ⟨i, rfl, _⟩; rfl
theorem ordPair : OrdW fun w => ∃ i s, w = .tup [.int i, .str s] ∧ okStr s := by
  have os := ordStr
  refine ⟨?_, ?_, ?_, ?_, ?_, ?_, ?_, .inl ?_, ?_⟩
  · rintro _ _ ⟨i, a, rfl, _⟩ ⟨j, b, rfl, _⟩; simp [eqW, eqL]
  · rintro _ ⟨i, a, rfl, h⟩; simp [ltW, ltL, eqW]
  · rintro _ _ _ ⟨i, a, rfl, ha⟩ ⟨j, b, rfl, hb⟩ ⟨k, c, rfl, hc⟩ h1 h2
    have t := os.tr (.str a) (.str b) (.str c) ⟨a, rfl, ha⟩ ⟨b, rfl, hb⟩ ⟨c, rfl, hc⟩
    simp only [ltW, ltL, eqW] at *
    by_cases ij : i = j
    · subst ij
      by_cases jk : i = k
      · subst jk
        simp only [beq_self_eq_true, if_true] at *
        by_cases ab : a = b
        · subst ab; exact h2
        · by_cases bc : b = c
          · subst bc; exact h1
          · simp [ab] at h1
            simp [bc] at h2
            have := t (by simpa using h1) (by simpa using h2)
            by_cases ac : a = c
            · subst ac
              exact absurd (List.lt_trans h1 h2) (List.lt_irrefl a)
            · simpa [ac] using this
      · simp [jk] at h2 ⊢; exact h2
    · by_cases jk : j = k
      · subst jk; simp [ij] at h1 ⊢; exact h1
      · simp [ij] at h1
        simp [jk] at h2
        have : i ≠ k := by omega
        simp [this]
        omega
  · rintro _ _ ⟨i, a, rfl, ha⟩ ⟨j, b, rfl, hb⟩ h
    simp only [ltW, ltL, eqW]
    by_cases ij : i = j
    · subst ij
      have hab : a ≠ b := fun z => h (by rw [z])
      have := os.tot (.str a) (.str b) ⟨a, rfl, ha⟩ ⟨b, rfl, hb⟩ (by simpa using hab)
      have hba : b ≠ a := fun z => hab z.symm
      simpa [hab, hba, ltW] using this
    · have ji : j ≠ i := fun z => ij z.symm
      simp [ij, ji]
      omega
  · rintro _ ⟨i, a, rfl, ha⟩ d
    simp only [datW, datL, Bool.and_eq_true, List.all_eq_true, decide_eq_true_eq]
    exact ⟨trivial, ha, trivial⟩
  · rintro _ ⟨i, a, rfl, ha⟩; rfl
  · rintro _ _ ⟨i, a, rfl, _⟩ ⟨j, b, rfl, _⟩; rfl
  · rintro _ ⟨i, a, rfl, _⟩; rfl
  · rintro _ ⟨i, a, rfl, _⟩; rfl

/-! ### sorted, without doubles, counted -/
/-- one after another, none twice on end -/
def lastIs (u : List W) (x : W) : Bool := match u.getLast? with
  | some y => eqW y x
  | none => false
def dedup : List W → List W → List W
  | u, [] => u
  | u, x :: xs => if lastIs u x = false then dedup (u ++ [x]) xs else dedup u xs
def ltP (x y : W) : Prop := ltW x y = true
theorem dedup_ok {Q : W → Prop} (o : OrdW Q) : ∀ {xs u : List W}, (∀ x ∈ u, Q x) → (∀ x ∈ xs, Q x) → u.Pairwise ltP → xs.Pairwise (fun a b => ltW b a = false) → (∀ y ∈ u, ∀ x ∈ xs, ltW x y = false) →
    (dedup u xs).Pairwise ltP ∧ ∀ z, z ∈ dedup u xs ↔ z ∈ u ∨ z ∈ xs
  | [], u, hu, _, pu, _, _ => ⟨pu, by simp [dedup]⟩
  | x :: xs, u, hu, hx, pu, px, hux => by
    have qx := hx x (by simp)
    have px' := (List.pairwise_cons.mp px)
    unfold dedup
    split
    · rename_i hc
      have key : ∀ y ∈ u, ltW y x = true := by
        intro y hy
        have h1 := hux y hy x (by simp)
        by_cases hyx : y = x
        · subst hyx
          exfalso
          cases hl : u.getLast? with
          | none => rw [List.getLast?_eq_none_iff] at hl; rw [hl] at hy; cases hy
          | some z =>
            have hz : z ∈ u := List.mem_of_getLast? hl
            have hze : z = y := by
              by_cases hzy : z = y
              · exact hzy
              · exfalso
                -- y is ahead of z in u, so y < z, while z is not greater than x = y
                obtain ⟨ini, rfl⟩ := List.getLast?_eq_some_iff.mp hl
                rcases List.mem_append.mp hy with h | h
                · have := (List.pairwise_append.mp pu).2.2 y h z (by simp)
                  have h2 := hux z (by simp) y (by simp)
                  unfold ltP at this
                  rw [this] at h2
                  cases h2
                · simp at h; exact hzy h.symm
            subst hze
            unfold lastIs at hc
            rw [hl] at hc
            have e := (o.eq z z qx qx).mpr rfl
            simp [e] at hc
        · rcases o.tot y x (hu y hy) qx hyx with h | h
          · exact h
          · rw [h1] at h; cases h
      have ih := dedup_ok o (xs := xs) (u := u ++ [x]) (by
          intro z hz
          rcases List.mem_append.mp hz with h | h
          · exact hu z h
          · simp at h; rw [h]; exact qx) (fun z hz => hx z (by simp [hz])) (by
          rw [List.pairwise_append]
          exact ⟨pu, by simp, fun a ha b hb => by simp at hb; rw [hb]; exact key a ha⟩) px'.2 (by
          intro y hy z hz
          rcases List.mem_append.mp hy with h | h
          · exact hux y h z (by simp [hz])
          · simp at h; rw [h]; exact px'.1 z hz)
      refine ⟨ih.1, fun z => ?_⟩
      rw [ih.2 z]
      simp [or_assoc]
    · rename_i hc
      have hmem : x ∈ u := by
        unfold lastIs at hc
        cases hl : u.getLast? with
        | none => rw [hl] at hc; simp at hc
        | some y =>
          rw [hl] at hc
          simp at hc
          have hy := List.mem_of_getLast? hl
          rw [← (o.eq y x (hu y hy) qx).mp hc]
          exact hy
      have ih := dedup_ok o (xs := xs) (u := u) hu (fun z hz => hx z (by simp [hz])) pu px'.2 (fun y hy z hz => hux y hy z (by simp [hz]))
      refine ⟨ih.1, fun z => ?_⟩
      rw [ih.2 z]
      constructor
      · rintro (h | h)
        · exact .inl h
        · exact .inr (by simp [h])
      · rintro (h | h)
        · exact .inl h
        · rcases List.mem_cons.mp h with h | h
          · rw [h]; exact .inl hmem
          · exact .inr h
theorem sortW_mem {xs : List W} {z : W} : z ∈ sortW xs ↔ z ∈ xs := by
  unfold sortW
  exact List.mem_mergeSort
theorem sortW_pw {Q : W → Prop} (o : OrdW Q) {xs : List W} (h : ∀ x ∈ xs, Q x) : (sortW xs).Pairwise fun a b => ltW b a = false := by
  -- the order outside Q is made one by a trick: sorted by a total order that agrees on Q
  let le : W → W → Bool := fun a b => !ltW b a
  have aux : ∀ ys : List W, (∀ y ∈ ys, Q y) → (ys.mergeSort le).Pairwise fun a b => le a b = true := by
    intro ys hy
    have hs := List.pairwise_mergeSort (le := fun (a b : {w // Q w}) => le a.1 b.1) (by
      intro a b c h1 h2
      simp only [le, Bool.not_eq_true'] at h1 h2 ⊢
      cases h3 : ltW c.1 a.1 with
      | false => rfl
      | true =>
        by_cases hab : a.1 = b.1
        · rw [hab] at h3; rw [h2] at h3; cases h3
        · rcases o.tot a.1 b.1 a.2 b.2 hab with h | h
          · have := o.tr c.1 a.1 b.1 c.2 a.2 b.2 h3 h
            rw [h2] at this; cases this
          · rw [h1] at h; cases h) (by
      intro a b
      simp only [le, Bool.or_eq_true, Bool.not_eq_true']
      cases h3 : ltW b.1 a.1 with
      | false => exact .inl rfl
      | true => exact .inr (o.asym b.2 a.2 h3)) (ys.attachWith Q hy)
    have e : ((ys.attachWith Q hy).mergeSort (fun a b => le a.1 b.1)).map Subtype.val = ys.mergeSort le := by
      rw [List.map_mergeSort (s := le) (fun a _ b _ => rfl), List.attachWith_map_subtype_val]
    rw [← e, List.pairwise_map]
    exact hs
  exact (aux xs h).imp fun {a b} h => by simpa [le] using h
/-- the place of a value in a strictly rising list is the number of those that are less -/
theorem findIdx_count {Q : W → Prop} (o : OrdW Q) : ∀ {u : List W} {x : W}, (∀ y ∈ u, Q y) → u.Pairwise ltP → x ∈ u → u.findIdx? (fun z => eqW z x) = some (u.countP fun z => ltW z x)
  | [], _, _, _, h => by cases h
  | y :: u, x, hu, pu, hx => by
    have qy := hu y (by simp)
    have qx := hu x hx
    have pu' := List.pairwise_cons.mp pu
    rw [List.findIdx?_cons, List.countP_cons]
    by_cases hyx : y = x
    · subst hyx
      rw [(o.eq y y qy qy).mpr rfl, o.irr y qy]
      have : u.countP (fun z => ltW z y) = 0 := by
        rw [List.countP_eq_zero]
        intro z hz
        rw [o.asym qy (hu z (by simp [hz])) (pu'.1 z hz)]
        simp
      simp [this]
    · have hx' : x ∈ u := by
        rcases List.mem_cons.mp hx with h | h
        · exact absurd h.symm hyx
        · exact h
      have e : eqW y x = false := by
        cases h : eqW y x with
        | false => rfl
        | true => exact absurd ((o.eq y x qy qx).mp h) hyx
      have l : ltW y x = true := pu'.1 x hx'
      rw [e, l, findIdx_count o (fun z hz => hu z (by simp [hz])) pu'.2 hx']
      simp
/-- a list made by taking in what is not there yet -/
def uniq : List W → List W → List W
  | u, [] => u
  | u, x :: xs => if u.any (fun z => eqW z x) then uniq u xs else uniq (u ++ [x]) xs
theorem uniq_ok {Q : W → Prop} (o : OrdW Q) : ∀ {xs u : List W}, (∀ x ∈ u, Q x) → (∀ x ∈ xs, Q x) → u.Nodup → (uniq u xs).Nodup ∧ ∀ z, z ∈ uniq u xs ↔ z ∈ u ∨ z ∈ xs
  | [], u, _, _, pu => ⟨pu, by simp [uniq]⟩
  | x :: xs, u, hu, hx, pu => by
    have qx := hx x (by simp)
    have anyx : u.any (fun z => eqW z x) = true ↔ x ∈ u := by
      rw [List.any_eq_true]
      constructor
      · rintro ⟨z, hz, e⟩
        rw [← (o.eq z x (hu z hz) qx).mp e]
        exact hz
      · intro h
        exact ⟨x, h, (o.eq x x qx qx).mpr rfl⟩
    unfold uniq
    split
    · rename_i hc
      have hm := anyx.mp hc
      have ih := uniq_ok o (xs := xs) (u := u) hu (fun z hz => hx z (by simp [hz])) pu
      refine ⟨ih.1, fun z => ?_⟩
      rw [ih.2 z]
      constructor
      · rintro (h | h)
        · exact .inl h
        · exact .inr (by simp [h])
      · rintro (h | h)
        · exact .inl h
        · rcases List.mem_cons.mp h with h | h
          · rw [h]; exact .inl hm
          · exact .inr h
    · rename_i hc
      have hn : x ∉ u := fun z => hc (anyx.mpr z)
      have ih := uniq_ok o (xs := xs) (u := u ++ [x]) (by
          intro z hz
          rcases List.mem_append.mp hz with h | h
          · exact hu z h
          · simp at h; rw [h]; exact qx) (fun z hz => hx z (by simp [hz])) (by
          rw [List.nodup_append]
          exact ⟨pu, by simp, fun a ha b hb => by simp at hb; rw [hb]; exact fun z => hn (z ▸ ha)⟩)
      refine ⟨ih.1, fun z => ?_⟩
      rw [ih.2 z]
      simp [or_assoc]
theorem rank_eq {Q : W → Prop} (o : OrdW Q) {xs : List W} (h : ∀ x ∈ xs, Q x) {x : W} (hx : x ∈ xs) :
    (dedup [] (sortW xs)).findIdx? (fun z => eqW z x) = some ((uniq [] xs).countP fun z => ltW z x) := by
  have h1 := dedup_ok o (xs := sortW xs) (u := []) (by simp) (fun z hz => h z (sortW_mem.mp hz)) List.Pairwise.nil (sortW_pw o h) (by simp)
  have h2 := uniq_ok o (xs := xs) (u := []) (by simp) h List.nodup_nil
  have q1 : ∀ z ∈ dedup [] (sortW xs), Q z := fun z hz => by
    rcases (h1.2 z).mp hz with hz | hz
    · cases hz
    · exact h z (sortW_mem.mp hz)
  rw [findIdx_count o q1 h1.1 ((h1.2 x).mpr (.inr (sortW_mem.mpr hx)))]
  congr 1
  apply List.Perm.countP_eq
  rw [List.perm_ext_iff_of_nodup _ h2.1]
  · intro z
    rw [h1.2 z, h2.2 z, sortW_mem]
  · exact h1.1.imp_of_mem fun {a b} ha hb hab => by
      intro z
      subst z
      have := o.irr a (q1 a ha)
      unfold ltP at hab
      rw [hab] at this
      cases this
end Tw

/-! Tw, part S: more about running. -/
namespace Tw
/-- turns of a while, of a for over a cell: no more -/
abbrev LM : Nat := 100000
mutual
theorem sub_id {g : Nat → Option W} : ∀ {w : W}, rfree w = true → sub false g w = some w
  | .non, _ => rfl
  | .bl _, _ => rfl
  | .int _, _ => rfl
  | .str _, _ => rfl
  | .exn _, _ => rfl
  | .klst _, _ => by simp [sub]
  | .ref _, h => by simp [rfree] at h
  | .tup xs, h => by
    simp only [rfree] at h
    simp [sub, subL_id h]
  | .lst xs, h => by
    simp only [rfree] at h
    simp [sub, subL_id h]
  | .dic t ks vs, h => by
    simp only [rfree, Bool.and_eq_true] at h
    simp [sub, subL_id h.1, subL_id h.2]
  | .rcd c xs, h => by
    simp only [rfree] at h
    simp [sub, subL_id h]
theorem subL_id {g : Nat → Option W} : ∀ {ws : List W}, rfreeL ws = true → subL false g ws = some ws
  | [], _ => rfl
  | w :: ws, h => by
    simp only [rfreeL, Bool.and_eq_true] at h
    simp [subL, sub_id h.1, subL_id h.2]
end
theorem vw_id {S : Sto} {w : W} (h : rfree w = true) : vw S w = some w := sub_id h
theorem vws_id {S : Sto} {ws : List W} (h : rfreeL ws = true) : vws S ws = some ws := subL_id h
theorem rfreeL_iff : ∀ {ws : List W}, rfreeL ws = true ↔ ∀ w ∈ ws, rfree w = true
  | [] => by simp [rfreeL]
  | w :: ws => by simp [rfreeL, rfreeL_iff (ws := ws)]
theorem datL_iff {d : Nat} : ∀ {ws : List W}, datL d ws = true ↔ ∀ w ∈ ws, datW d w = true
  | [] => by simp [datL]
  | w :: ws => by simp [datL, datL_iff (ws := ws)]
theorem rfree_int (ns : List Int) : rfreeL (ns.map W.int) = true := by
  rw [rfreeL_iff]
  intro w hw
  obtain ⟨i, _, rfl⟩ := List.mem_map.mp hw
  rfl
theorem dat_int (d : Nat) (ns : List Int) : datL d (ns.map W.int) = true := by
  rw [datL_iff]
  intro w hw
  obtain ⟨i, _, rfl⟩ := List.mem_map.mp hw
  cases d <;> rfl
theorem eqL_int : ∀ (xs ys : List Int), eqL (xs.map W.int) (ys.map W.int) = (xs == ys)
  | [], [] => rfl
  | [], _ :: _ => rfl
  | _ :: _, [] => rfl
  | x :: xs, y :: ys => by
    simp only [List.map_cons, eqL, eqW, eqL_int xs ys]
    rfl
/-- deeper data is data -/
theorem call_pure {cf : CallF} {f : Nat} {ws : List W} {S S' : Sto} {w w' : W} (hr : rfreeL ws = true) (h : cf f ws [] = .ok w S') (hv : vw S' w = some w') : callSem cf .pure f ws S = .ok w' S := by
  simp [callSem, vws_id hr, h, hr, hv, ofO]
/-- of arguments that hold cells -/
theorem call_pureB {cf : CallF} {f : Nat} {ws us : List W} {S S' : Sto} {w w' : W} (hr : rfreeL ws = false) (hu : vws S ws = some us) (h : cf f us [] = .ok w S') (hv : vwB S' w = some w') : callSem cf .pure f ws S = .ok w' S := by
  simp [callSem, hu, h, hr, hv, ofO]
theorem call_adopt {cf : CallF} {f m : Nat} {ws xs ys : List W} {S S' : Sto} (hr : rfreeL ws = true) (h : cf f ws [] = .ok (.ref m) S') (hS : S'[m]? = some (.lst xs)) (hv : vws (S'.set m .dead) xs = some ys) : callSem cf .adopt f ws S = .ok (.ref S.length) (S ++ [.lst ys]) := by
  simp [callSem, vws_id hr, h, hr, hS, hv]
theorem call_adoptB {cf : CallF} {f m : Nat} {ws us xs ys : List W} {S S' : Sto} (hr : rfreeL ws = false) (hu : vws S ws = some us) (h : cf f us [] = .ok (.ref m) S') (hS : S'[m]? = some (.lst xs)) (hv : subL true (lev true (S'.set m .dead) 3) xs = some ys) :
    callSem cf .adopt f ws S = .ok (.ref S.length) (S ++ [.lst ys]) := by
  simp [callSem, hu, h, hr, hS, hv]
theorem set_last {S : Sto} {o o' : Ob} : (S ++ [o]).set S.length o' = S ++ [o'] := by simp
theorem get_last {S : Sto} {o : Ob} : (S ++ [o])[S.length]? = some o := by simp

/-- on what a truth value tells -/
def onB {α : Type} (w : W) (a b k : α) : α := match w with
  | .bl true => a
  | .bl false => b
  | _ => k
def onOB {α : Type} (w : Option W) (a b k : α) : α := match w with
  | some (.bl true) => a
  | some (.bl false) => b
  | _ => k
@[simp] theorem onB_bl {α : Type} {c : Bool} {a b k : α} : onB (.bl c) a b k = if c = true then a else b := by cases c <;> rfl
@[simp] theorem onOB_bl {α : Type} {c : Bool} {a b k : α} : onOB (some (.bl c)) a b k = if c = true then a else b := by cases c <;> rfl
@[simp] theorem onOB_none {α : Type} {a b k : α} : onOB none a b k = k := rfl
def notB (w : W) (S : Sto) : Rs W := match w with
  | .bl b => .ok (.bl (!b)) S
  | _ => .bad
def isB (w : W) (S : Sto) : Rs W := match w with
  | .bl b => .ok (.bl b) S
  | _ => .bad
@[simp] theorem notB_bl {b : Bool} {S : Sto} : notB (.bl b) S = .ok (.bl (!b)) S := rfl
@[simp] theorem isB_bl {b : Bool} {S : Sto} : isB (.bl b) S = .ok (.bl b) S := rfl
/-- a def's end -/
def fin (r : SR) : Rs W := match r with
  | .ret w S' => .ok w S'
  | .next _ S' => .ok .non S'
  | .ex _ c S' => .ex c S'
  | _ => .bad
@[simp] theorem fin_ret {w : W} {S : Sto} : fin (.ret w S) = .ok w S := rfl
@[simp] theorem fin_next {ρ : Env} {S : Sto} : fin (.next ρ S) = .ok .non S := rfl
@[simp] theorem fin_ex {ρ : Env} {c : Nat} {S : Sto} : fin (.ex ρ c S) = .ex c S := rfl
@[simp] theorem fin_bad : fin .bad = .bad := rfl
@[simp] theorem fin_ite {c : Prop} [Decidable c] {a b : SR} : fin (if c then a else b) = if c then fin a else fin b := by split <;> rfl
@[simp] theorem bind_ite {α β : Type} {c : Prop} [Decidable c] {a b : Rs α} {f : α → Sto → Rs β} : (if c then a else b).bind f = if c then a.bind f else b.bind f := by split <;> rfl
@[simp] theorem sr_ite {α : Type} {c : Prop} [Decidable c] {a b : Rs α} {ρ : Env} {f : α → Sto → SR} : (if c then a else b).sr ρ f = if c then a.sr ρ f else b.sr ρ f := by split <;> rfl
@[simp] theorem seq_ite {c : Prop} [Decidable c] {a b : SR} {f : Env → Sto → SR} : (if c then a else b).seq f = if c then a.seq f else b.seq f := by split <;> rfl
theorem runF_fin {P : Nat → Option Fn} {L d f : Nat} {ws : List W} {S : Sto} {x : Fn} (h : P f = some x) (hl : ws.length = x.np) : runF P L (d + 1) f ws S = fin (execs (runF P L d) L x.body (ws.map some ++ List.replicate (x.ns - x.np) none) S) := by
  rw [runF_succ h hl]
  rfl

/-! ### steps -/
section
variable {cf : CallF} {ρ : Env} {S : Sto} {L : Nat}
@[simp] theorem s_var {i : Nat} : ev cf (.var i) ρ S = match ρ[i]? with
  | some (some w) => .ok w S
  | _ => .bad := by rw [ev] <;> rfl
@[simp] theorem s_con {w : W} : ev cf (.con w) ρ S = .ok w S := by rw [ev]
@[simp] theorem s_op {o : Op} {as : List E} : ev cf (.op o as) ρ S = (evs cf as ρ S).bind fun ws S' => ofO (opSem o ws S') S' := by rw [ev]
@[simp] theorem s_mth {t : MTy} {o : Op} {a : E} {as : List E} : ev cf (.mth t o a as) ρ S = (ev cf a ρ S).bind fun w S1 => if tyOk t w S1 then (evs cf as ρ S1).bind fun ws S2 => ofO (opSem o (w :: ws) S2) S2 else .bad := by rw [ev]
@[simp] theorem s_eff {o : Eff} {a : E} {as : List E} : ev cf (.eff o a as) ρ S = (ev cf a ρ S).bind fun w S1 => if tyOk (effTy o) w S1 then (evs cf as ρ S1).bind fun ws S2 => match effSem o (w :: ws) S2 with
    | some (w', S3) => .ok w' S3
    | none => .bad
    else .bad := by rw [ev] <;> rfl
@[simp] theorem s_and {as : List E} : ev cf (.and as) ρ S = evAnd cf as ρ S := by rw [ev]
@[simp] theorem s_or {as : List E} : ev cf (.or as) ρ S = evOr cf as ρ S := by rw [ev]
@[simp] theorem s_not {a : E} : ev cf (.not a) ρ S = (ev cf a ρ S).bind fun w S' => notB w S' := by
  rw [ev]
  rfl
@[simp] theorem s_ife {c a b : E} : ev cf (.ife c a b) ρ S = (ev cf c ρ S).bind fun w S' => onB w (ev cf a ρ S') (ev cf b ρ S') .bad := by
  rw [ev]
  rfl
@[simp] theorem s_chain {o1 o2 : Op} {a b c : E} : ev cf (.chain o1 o2 a b c) ρ S = (ev cf a ρ S).bind fun x S1 => (ev cf b ρ S1).bind fun y S2 => onOB (opSem o1 [x, y] S2) ((ev cf c ρ S2).bind fun z S3 => ofO (opSem o2 [y, z] S3) S3) (.ok (.bl false) S2) .bad := by
  rw [ev]
  rfl
@[simp] theorem s_call {m : Md} {f : Nat} {as : List E} : ev cf (.call m f as) ρ S = (evs cf as ρ S).bind fun ws S1 => callSem cf m f ws S1 := by rw [ev]
@[simp] theorem s_mut {a : E} : ev cf (.mut a) ρ S = (ev cf a ρ S).bind fun w S1 => match w with
    | .lst xs => .ok (.ref S1.length) (S1 ++ [.lst xs])
    | .dic t ks vs => .ok (.ref S1.length) (S1 ++ [.dic t ks vs])
    | _ => .bad := by rw [ev] <;> rfl
@[simp] theorem s_toI {a : E} : ev cf (.toI a) ρ S = (ev cf a ρ S).bind fun w S1 => match w with
    | .int i => .ok (.int i) S1
    | _ => .bad := by rw [ev] <;> rfl
@[simp] theorem s_evs0 : evs cf [] ρ S = .ok [] S := by rw [evs]
@[simp] theorem s_evs1 {a : E} {as : List E} : evs cf (a :: as) ρ S = (ev cf a ρ S).bind fun w S1 => (evs cf as ρ S1).bind fun ws S2 => .ok (w :: ws) S2 := by rw [evs]
@[simp] theorem s_and1 {a : E} : evAnd cf [a] ρ S = (ev cf a ρ S).bind fun w S1 => isB w S1 := by
  rw [evAnd]
  rfl
@[simp] theorem s_and2 {a b : E} {as : List E} : evAnd cf (a :: b :: as) ρ S = (ev cf a ρ S).bind fun w S1 => onB w (evAnd cf (b :: as) ρ S1) (.ok (.bl false) S1) .bad := by
  rw [evAnd]
  · rfl
  · simp
@[simp] theorem s_or1 {a : E} : evOr cf [a] ρ S = (ev cf a ρ S).bind fun w S1 => isB w S1 := by
  rw [evOr]
  rfl
@[simp] theorem s_or2 {a b : E} {as : List E} : evOr cf (a :: b :: as) ρ S = (ev cf a ρ S).bind fun w S1 => onB w (.ok (.bl true) S1) (evOr cf (b :: as) ρ S1) .bad := by
  rw [evOr]
  · rfl
  · simp
@[simp] theorem s_all0 : evAll cf [] ρ S = .ok (.bl true) S := by rw [evAll]
@[simp] theorem s_all1 {a : E} {as : List E} : evAll cf (a :: as) ρ S = ev cf a ρ S := by rw [evAll]
@[simp] theorem s_bind {α β : Type} {a : α} {f : α → Sto → Rs β} : (Rs.ok a S).bind f = f a S := rfl
@[simp] theorem s_sr {α : Type} {a : α} {f : α → Sto → SR} : (Rs.ok a S).sr ρ f = f a S := rfl
@[simp] theorem s_some {α : Type} {a : α} : ofO (some a) S = .ok a S := rfl
@[simp] theorem s_seq {f : Env → Sto → SR} : (SR.next ρ S).seq f = f ρ S := rfl
@[simp] theorem s_seqr {f : Env → Sto → SR} {w : W} : (SR.ret w S).seq f = .ret w S := rfl
@[simp] theorem s_seqc {f : Env → Sto → SR} : (SR.cont ρ S).seq f = .cont ρ S := rfl
@[simp] theorem s_seqb {f : Env → Sto → SR} : (SR.brk ρ S).seq f = .brk ρ S := rfl
@[simp] theorem s_seqe {f : Env → Sto → SR} {c : Nat} : (SR.ex ρ c S).seq f = .ex ρ c S := rfl
@[simp] theorem s_execs0 : execs cf L [] ρ S = .next ρ S := by rw [execs]
@[simp] theorem s_execs1 {m : Stm} {ms : List Stm} : execs cf L (m :: ms) ρ S = (exec cf L m ρ S).seq fun ρ1 S1 => execs cf L ms ρ1 S1 := by rw [execs]
@[simp] theorem s_expr {e : E} : exec cf L (.expr e) ρ S = (ev cf e ρ S).sr ρ fun _ S1 => .next ρ S1 := by rw [exec]
@[simp] theorem s_asg {t : Tg} {e : E} : exec cf L (.asg t e) ρ S = (ev cf e ρ S).sr ρ fun w S1 => match bindT t w ρ with
    | some ρ' => .next ρ' S1
    | none => .bad := by rw [exec] <;> rfl
@[simp] theorem s_ite {c : E} {a b : List Stm} : exec cf L (.ite c a b) ρ S = (ev cf c ρ S).sr ρ fun w S1 => onB w (execs cf L a ρ S1) (execs cf L b ρ S1) .bad := by
  rw [exec]
  rfl
@[simp] theorem s_ret {e : E} : exec cf L (.ret e) ρ S = (ev cf e ρ S).sr ρ fun w S1 => .ret w S1 := by rw [exec]
@[simp] theorem s_pass : exec cf L .pass ρ S = .next ρ S := by rw [exec]
@[simp] theorem s_contS : exec cf L .cont ρ S = .cont ρ S := by rw [exec]
@[simp] theorem s_brkS : exec cf L .brk ρ S = .brk ρ S := by rw [exec]
@[simp] theorem s_aug {i : Nat} {o : Op} {e : E} : exec cf L (.aug i o e) ρ S = match ρ[i]? with
    | some (some x) => (ev cf e ρ S).sr ρ fun y S1 => match augSem o x y with
      | some z => .next (ρ.set i (some z)) S1
      | none => .bad
    | _ => .bad := by rw [exec] <;> rfl
@[simp] theorem s_one {i : Nat} {x : W} : bindT (.one i) x ρ = some (ρ.set i (some x)) := rfl
theorem s_frzL {i n : Nat} {xs : List W} (h : ρ[i]? = some (some (.ref n))) (hS : S[n]? = some (.lst xs)) (hr : rfreeL xs = true) : exec cf L (.frz i) ρ S = .next (ρ.set i (some (.lst xs))) (S.set n .dead) := by
  rw [exec]
  simp [h, hS, hr]
theorem s_for {t : Tg} {k : ItK} {srcs : List E} {body : List Stm} {ws xs : List W} {S1 : Sto} (h : evs cf srcs ρ S = .ok ws S1) (hx : itVals k ws = some xs) : exec cf L (.forIn t k srcs body) ρ S = forL t (fun ρ' S' => execs cf L body ρ' S') xs ρ S1 := by
  rw [exec, h]
  simp [hx]
theorem s_comp {elt : E} {t : Tg} {k : ItK} {srcs cond : List E} {own : List Nat} {ws xs ys : List W} {S1 S2 : Sto} (h : evs cf srcs ρ S = .ok ws S1) (hx : itVals k ws = some xs) (hl : xs.length < LIM)
    (hc : compL (fun ρ' S' => ev cf elt ρ' S') (fun ρ' S' => evAll cf cond ρ' S') t (wipe ρ own) xs S1 = .ok ys S2) : ev cf (.comp elt t k srcs cond own) ρ S = .ok (.lst ys) S2 := by
  rw [ev, h]
  simp only [s_bind, hx]
  rw [if_pos hl, hc]
  rfl
end

/-! ### operations, one by one -/
section
variable {S : Sto} {x y : W} {a b : Int}
@[simp] theorem o_add : opSem .add [x, y] S = opAdd S x y := by simp [opSem]
@[simp] theorem o_sub : opSem .sub [.int a, .int b] S = some (.int (a - b)) := by simp [opSem]
@[simp] theorem o_mul : opSem .mul [x, y] S = opMul S x y := by simp [opSem]
@[simp] theorem o_fdiv : opSem .fdiv [.int a, .int b] S = if CDiv b then some (.int (a / b)) else none := by simp [opSem]
@[simp] theorem o_mod : opSem .mod [.int a, .int b] S = if 0 < b then some (.int (a % b)) else none := by simp [opSem]
@[simp] theorem o_pow : opSem .pow [.int a, .int b] S = if CPow a b then some (.int (a ^ b.toNat)) else none := by simp [opSem]
@[simp] theorem o_neg : opSem .neg [.int a] S = some (.int (-a)) := by simp [opSem]
@[simp] theorem o_eq : opSem .eq [x, y] S = (eqOp S x y).map .bl := by simp [opSem]
@[simp] theorem o_ne : opSem .ne [x, y] S = (eqOp S x y).map fun b => .bl (!b) := by simp [opSem]
@[simp] theorem o_le : opSem .le [.int a, .int b] S = some (.bl (decide (a ≤ b))) := by simp [opSem]
@[simp] theorem o_gt : opSem .gt [.int a, .int b] S = some (.bl (decide (b < a))) := by simp [opSem]
@[simp] theorem o_ge : opSem .ge [.int a, .int b] S = some (.bl (decide (b ≤ a))) := by simp [opSem]
@[simp] theorem o_lt : opSem .lt [x, y] S = (ltSem S x y).map .bl := by simp [opSem]
@[simp] theorem o_isin : opSem .isin [x, y] S = (inOp S x y).map .bl := by simp [opSem]
@[simp] theorem o_notin : opSem .notin [x, y] S = (inOp S x y).map fun b => .bl (!b) := by simp [opSem]
@[simp] theorem o_isnone : opSem .isnone [x] S = some (.bl (!notNone x)) := by simp [opSem]
@[simp] theorem o_notnone : opSem .notnone [x] S = some (.bl (notNone x)) := by simp [opSem]
@[simp] theorem o_idx : opSem .idx [x, y] S = idxSem S x y := by simp [opSem]
@[simp] theorem o_slice {lo hi : Bool} {r : List W} : opSem (.slice lo hi) (x :: r) S = (partsOf lo hi r).bind fun b => sliceSem S x b.1 b.2 := by simp [opSem]
@[simp] theorem o_len : opSem .len [x] S = (lenSem S x).map .int := by simp [opSem]
@[simp] theorem o_list : opSem .list [x] S = (seqOf S x).map .lst := by simp [opSem]
@[simp] theorem o_tuple : opSem .tuple [x] S = (seqOf S x).map .tup := by simp [opSem]
@[simp] theorem o_sorted : opSem .sorted [x] S = (sortedSem S x).map .lst := by simp [opSem]
@[simp] theorem o_all : opSem .all [x] S = (lstOf S x).bind fun xs => (allBl xs).map .bl := by simp [opSem]
@[simp] theorem o_min : opSem .min [.int a, .int b] S = some (.int (if b < a then b else a)) := by simp [opSem]
@[simp] theorem o_max : opSem .max [.int a, .int b] S = some (.int (if a < b then b else a)) := by simp [opSem]
@[simp] theorem o_tupD {ws : List W} : opSem .tupD ws S = if ws.length < LIM then some (.tup ws) else none := by simp [opSem]
@[simp] theorem o_lstD {ws : List W} : opSem .lstD ws S = if ws.length < LIM then some (.lst ws) else none := by simp [opSem]
@[simp] theorem o_isi {t : IsT} : opSem (.isi t) [x] S = (isiOp t x S).map .bl := by simp [opSem]
@[simp] theorem o_index : opSem .mIndex [x, y] S = (indexSem S x y).map fun (j : Nat) => W.int (j : Int) := by simp [opSem]
@[simp] theorem o_count : opSem .mCount [x, y] S = (countSem S x y).map fun (j : Nat) => W.int (j : Int) := by simp [opSem]
@[simp] theorem o_addI : opAdd S (.int a) (.int b) = some (.int (a + b)) := rfl
@[simp] theorem o_mulI : opMul S (.int a) (.int b) = if CMul a b then some (.int (a * b)) else none := rfl
@[simp] theorem o_eqI : eqOp S (.int a) (.int b) = some (a == b) := rfl
@[simp] theorem o_ltI : ltSem S (.int a) (.int b) = some (decide (a < b)) := rfl
@[simp] theorem p_ff : partsOf false false [] = some (none, none) := rfl
@[simp] theorem p_tf : partsOf true false [.int a] = some (some a, none) := rfl
@[simp] theorem p_ft : partsOf false true [.int a] = some (none, some a) := rfl
@[simp] theorem p_tt : partsOf true true [.int a, .int b] = some (some a, some b) := rfl
end

theorem eqOp_id {S : Sto} {x y : W} (hx : rfree x = true) (hy : rfree y = true) (dx : datW 30 x = true) (dy : datW 30 y = true) : eqOp S x y = some (eqW x y) := by
  unfold eqOp
  split
  · simp [eqW]
  · simp [eqW]
  · simp [eqW]
  · simp [vw_id hx, vw_id hy, dx, dy]
theorem ltSem_id {S : Sto} {x y : W} (hx : rfree x = true) (hy : rfree y = true) (dx : datW 30 x = true) (dy : datW 30 y = true) (a : alikeW x y = true) (nn : notNone x = true) : ltSem S x y = some (ltW x y) := by
  unfold ltSem
  split
  · simp [ltW]
  · simp [ltOp, vw_id hx, vw_id hy, dx, dy, a, nn]
theorem sortedSem_id {Q : W → Prop} (o : OrdW Q) {S : Sto} {xs : List W} (h : ∀ x ∈ xs, Q x) (hl : xs.length < LIM) : sortedSem S (.lst xs) = some (sortW xs) := by
  have h1 : datL 30 xs = true := datL_iff.mpr fun w hw => o.dat w (h w hw) 29
  have h2 : sortOk xs = true := by
    unfold sortOk
    simp only [Bool.and_eq_true, Bool.or_eq_true, List.all_eq_true]
    refine ⟨fun x hx y hy => o.ali x y (h x hx) (h y hy), ?_⟩
    rcases o.one with q | q
    · exact .inl fun x hx => q x (h x hx)
    · exact .inr fun x hx => by simpa using q x (h x hx)
  simp [sortedSem, lstOf, h1, h2, hl]
theorem vw_cell {S : Sto} {n : Nat} {xs : List W} (hS : S[n]? = some (.lst xs)) (hr : rfreeL xs = true) : vw S (.ref n) = some (.lst xs) := by
  simp [vw, sub, lev, cellW, hS, subL_id hr]
theorem vw_non {S : Sto} : vw S .non = some .non := rfl
theorem vwB_bl {S : Sto} {b : Bool} : vwB S (.bl b) = some (.bl b) := rfl
theorem subB_int {g : Nat → Option W} : ∀ ns : List Int, subL true g (ns.map W.int) = some (ns.map W.int)
  | [] => rfl
  | n :: ns => by simp [subL, sub, subB_int ns]
theorem dat_up {Q : W → Prop} (o : OrdW Q) {xs : List W} (h : ∀ x ∈ xs, Q x) (d : Nat) : datL (d + 1) xs = true := datL_iff.mpr fun w hw => o.dat w (h w hw) d
theorem rf_up {Q : W → Prop} (o : OrdW Q) {xs : List W} (h : ∀ x ∈ xs, Q x) : rfreeL xs = true := rfreeL_iff.mpr fun w hw => o.rf w (h w hw)

/-- a walk with an invariant, the whole list in sight -/
theorem forL_at {t : Tg} {body : Env → Sto → SR} (I : List W → Env → Sto → Prop) {all : List W} : ∀ {xs done : List W} {ρ : Env} {S : Sto}, all = done ++ xs → I done ρ S →
    (∀ d x r ρ S, all = d ++ x :: r → I d ρ S → ∃ ρ' ρ2 S2, bindT t x ρ = some ρ' ∧ (body ρ' S = .next ρ2 S2 ∨ body ρ' S = .cont ρ2 S2) ∧ I (d ++ [x]) ρ2 S2) → ∃ ρ2 S2, forL t body xs ρ S = .next ρ2 S2 ∧ I all ρ2 S2
  | [], done, ρ, S, e, h, _ => ⟨ρ, S, by simp [forL], by rw [e]; simpa using h⟩
  | x :: xs, done, ρ, S, e, h, st => by
    obtain ⟨ρ', ρ2, S2, h1, h2, h3⟩ := st done x xs ρ S e h
    obtain ⟨ρ3, S3, h4, h5⟩ := forL_at I (xs := xs) (done := done ++ [x]) (by rw [e]; simp) h3 st
    refine ⟨ρ3, S3, ?_, h5⟩
    simp only [forL, h1]
    rcases h2 with h2 | h2 <;> rw [h2] <;> exact h4
theorem ixN_neg1 {n : Nat} (h : 0 < n) : ixN n (-1) = some (n - 1) := by
  unfold ixN
  rw [if_neg (by omega), if_pos (by omega)]
  congr 1
  omega
theorem ixN_nat {n j : Nat} (h : j < n) : ixN n (j : Int) = some j := by
  unfold ixN
  rw [if_pos (by omega), if_pos (by omega)]
  congr 1

theorem o_rangeL {S : Sto} {tp : Bool} {n : Int} (h1 : -100000 < n) (h2 : n < 100000) : opSem (.rangeL tp false) [.int n] S = some (rgW tp 0 n) := by
  have c : decide (n.natAbs < LIM) = true := by
    simp only [decide_eq_true_eq, LIM]
    omega
  simp only [opSem]
  rw [if_pos c]
theorem it_range1 {n : Int} (h1 : -100000 < n) (h2 : n < 100000) : itVals .range1 [.int n] = some ((List.range n.toNat).map fun (j : Nat) => W.int (j : Int)) := by
  have c : decide (n.natAbs < LIM) = true := by
    simp only [decide_eq_true_eq, LIM]
    omega
  simp only [itVals]
  rw [if_pos c]
theorem rgW_nat {n : Nat} : rgW false 0 (n : Int) = .lst ((List.range n).map fun (k : Nat) => W.int (k : Int)) := by
  unfold rgW
  simp

theorem mul_ok {S : Sto} {a b : Int} (h : CMul a b = true) : opSem .mul [.int a, .int b] S = some (.int (a * b)) := by
  rw [o_mul]
  show (if CMul a b = true then some (W.int (a * b)) else none) = _
  rw [if_pos h]
theorem cmul_small {a b : Int} (h1 : -1000000000 < a) (h2 : a < 1000000000) : CMul a b = true := by
  unfold CMul
  simp only [Bool.or_eq_true, decide_eq_true_eq]
  exact .inl (by omega)
end Tw

/-! Tw, part T: more steps; loops; typed data. -/
namespace Tw
section
variable {cf : CallF} {ρ : Env} {S : Sto} {L : Nat}
@[simp] theorem s_new {m : Md} {c f : Nat} {as : List E} : ev cf (.new m c f as) ρ S = (evs cf as ρ S).bind fun ws S1 => newSem cf m c f ws S1 := by rw [ev]
@[simp] theorem s_mcall {m : Md} {c f : Nat} {a : E} {as : List E} : ev cf (.mcall m c f a as) ρ S = (ev cf a ρ S).bind fun w S1 => match recOf S1 w with
    | some (c', _) => if c' = c then (evs cf as ρ S1).bind fun ws S2 => callSem cf m f (w :: ws) S2 else .bad
    | none => .bad := by rw [ev] <;> rfl
@[simp] theorem s_fld {c i : Nat} {a : E} : ev cf (.fld c i a) ρ S = (ev cf a ρ S).bind fun w S1 => ofO (fldSem S1 c i w) S1 := by rw [ev]
@[simp] theorem s_isx {cs : List Nat} {a : E} : ev cf (.isx cs a) ρ S = (ev cf a ρ S).bind fun w S1 => ofO ((isxSem cs S1 w).map .bl) S1 := by rw [ev]
@[simp] theorem s_fstr {as : List E} : ev cf (.fstr as) ρ S = (evs cf as ρ S).bind fun ws S1 => match fcat ws with
    | some s => if s.length < LIM then .ok (.str s) S1 else .bad
    | none => .bad := by rw [ev] <;> rfl
@[simp] theorem s_disp {k v : E} : ev cf (.disp k v) ρ S = (ev cf k ρ S).bind fun x S1 => (ev cf v ρ S1).bind fun y S2 => if isKey false x then .ok (.ref S2.length) (S2 ++ [.dic false [x] [y]]) else .bad := by rw [ev]
@[simp] theorem s_setI {v o k : E} : exec cf L (.setI v o k) ρ S = (ev cf v ρ S).sr ρ fun v' S1 => (ev cf o ρ S1).sr ρ fun o' S2 => (ev cf k ρ S2).sr ρ fun k' S3 => match setSem S3 o' k' v' with
    | some S4 => .next ρ S4
    | none => .bad := by rw [exec] <;> rfl
@[simp] theorem s_setF {c i : Nat} {v o : E} : exec cf L (.setF c i v o) ρ S = (ev cf v ρ S).sr ρ fun v' S1 => (ev cf o ρ S1).sr ρ fun o' S2 => match setFld S2 c i o' v' with
    | some S3 => .next ρ S3
    | none => .bad := by rw [exec] <;> rfl
@[simp] theorem s_rais {c : Nat} : exec cf L (.rais c) ρ S = .ex ρ c S := by rw [exec]
@[simp] theorem s_wipe {vs : List Nat} : exec cf L (.wipe vs) ρ S = .next (wipe ρ vs) S := by rw [exec]
@[simp] theorem s_srx {α : Type} {c : Nat} {f : α → Sto → SR} : (Rs.ex c S).sr ρ f = .ex ρ c S := rfl
@[simp] theorem s_srb {α : Type} {f : α → Sto → SR} : (Rs.bad : Rs α).sr ρ f = .bad := rfl
@[simp] theorem s_bindx {α β : Type} {c : Nat} {f : α → Sto → Rs β} : (Rs.ex c S : Rs α).bind f = .ex c S := rfl
@[simp] theorem s_bindb {α β : Type} {f : α → Sto → Rs β} : (Rs.bad : Rs α).bind f = .bad := rfl
@[simp] theorem s_seqbad {f : Env → Sto → SR} : SR.bad.seq f = .bad := rfl
@[simp] theorem s_none {α : Type} : ofO (none : Option α) S = .bad := rfl
@[simp] theorem w_nil : wipe ρ [] = ρ := rfl
@[simp] theorem w_cons {v : Nat} {vs : List Nat} : wipe ρ (v :: vs) = (wipe ρ vs).set v none := rfl
@[simp] theorem t_tup {is : List Nat} {xs : List W} : bindT (.tup is) (.tup xs) ρ = setAll is xs ρ := rfl
@[simp] theorem t_nil : setAll [] [] ρ = some ρ := rfl
@[simp] theorem t_cons {i : Nat} {is : List Nat} {x : W} {xs : List W} : setAll (i :: is) (x :: xs) ρ = setAll is xs (ρ.set i (some x)) := rfl
@[simp] theorem u_none : unE none ρ = ρ := rfl
@[simp] theorem u_some {i : Nat} : unE (some i) ρ = ρ.set i none := rfl
@[simp] theorem unb_next {i : Option Nat} : (SR.next ρ S).unb i = .next (unE i ρ) S := rfl
@[simp] theorem unb_ret {i : Option Nat} {w : W} : (SR.ret w S).unb i = .ret w S := rfl
theorem s_whil {c : E} {body : List Stm} : exec cf L (.whil c body) ρ S = whileL (fun ρ' S' => ev cf c ρ' S') (fun ρ' S' => execs cf L body ρ' S') L ρ S := by rw [exec]
theorem s_tryN {ks : List Nat} {body hd : List Stm} {c : Nat} {i : Option Nat} {ρ1 : Env} {S1 : Sto} (h : execs cf L body ρ S = .next ρ1 S1) : exec cf L (.tryE ks body c i hd) ρ S = .next ρ1 S1 := by
  rw [exec, h]
theorem s_tryX {ks : List Nat} {body hd : List Stm} {c k i : Nat} {ρ1 : Env} {S1 : Sto} (h : execs cf L body ρ S = .ex ρ1 k S1) (hk : ks.contains k = true) (hc : subX k c = true) :
    exec cf L (.tryE ks body c (some i) hd) ρ S = (execs cf L hd (ρ1.set i (some (.exn k))) S1).unb (some i) := by
  rw [exec, h]
  simp only
  rw [if_pos hk, if_pos hc]
end
/-- an if without a change of what stands -/
theorem rs_ite {α : Type} {c : Bool} {a b : α} {S : Sto} : (if c = true then Rs.ok a S else Rs.ok b S) = Rs.ok (if c then a else b) S := by cases c <;> rfl
@[simp] theorem m_bl {α : Type} {c : Bool} {a b : α} {k : α} : (match W.bl c with
    | .bl true => a
    | .bl false => b
    | _ => k) = if c then a else b := by cases c <;> rfl
/-- a loop that only looks: all turns go on, or the first that does not is told -/
theorem forL_all {α : Type} {t : Tg} {body : Env → Sto → SR} {ρ : Env} {S : Sto} (enc : α → W) (good : α → Bool) (out : SR) (ho : ∀ ρ S, out ≠ .next ρ S) (hc : ∀ ρ S, out ≠ .cont ρ S) (hb : ∀ ρ S, out ≠ .brk ρ S) :
    ∀ {xs : List α}, (∀ x ∈ xs, ∃ ρ', bindT t (enc x) ρ = some ρ' ∧ body ρ' S = if good x then .next ρ S else out) → forL t body (xs.map enc) ρ S = if xs.all good then .next ρ S else out
  | [], _ => by simp [forL]
  | x :: xs, h => by
    obtain ⟨ρ', h1, h2⟩ := h x (by simp)
    have ih := forL_all enc good out ho hc hb (xs := xs) fun y hy => h y (by simp [hy])
    cases hg : good x with
    | true =>
      rw [hg, if_pos rfl] at h2
      simp only [List.map_cons, forL, h1, h2, List.all_cons, hg, Bool.true_and]
      exact ih
    | false =>
      rw [hg, if_neg (by simp)] at h2
      simp only [List.map_cons, forL, h1, h2, List.all_cons, hg, Bool.false_and, Bool.false_eq_true, if_false]
/-- a loop that carries a typed state -/
theorem forL_fold {α σ : Type} {t : Tg} {body : Env → Sto → SR} (enc : α → W) (st : σ → Env) (sto : σ → Sto) (f : σ → α → σ) (Inv : σ → Prop) :
    ∀ {xs : List α} {s : σ}, Inv s → (∀ s x, x ∈ xs → Inv s → Inv (f s x) ∧ ∃ ρ', bindT t (enc x) (st s) = some ρ' ∧ (body ρ' (sto s) = .next (st (f s x)) (sto (f s x)) ∨ body ρ' (sto s) = .cont (st (f s x)) (sto (f s x)))) →
    forL t body (xs.map enc) (st s) (sto s) = .next (st (xs.foldl f s)) (sto (xs.foldl f s)) ∧ Inv (xs.foldl f s)
  | [], s, hi, _ => ⟨by simp [forL], by simpa using hi⟩
  | x :: xs, s, hi, h => by
    obtain ⟨h1, ρ', h2, h3⟩ := h s x (by simp) hi
    have ih := forL_fold enc st sto f Inv (xs := xs) h1 fun s y hy => h s y (by simp [hy])
    simp only [List.map_cons, forL, h2, List.foldl_cons]
    rcases h3 with h3 | h3 <;> rw [h3] <;> exact ih
/-- the same by places: the first j turns are done -/
theorem forL_pl {α : Type} {t : Tg} {body : Env → Sto → SR} (enc : α → W) (P : Nat → Env → Sto → Prop) {all : List α} : ∀ {xs : List α} {j : Nat} {ρ : Env} {S : Sto}, all.drop j = xs → P j ρ S →
    (∀ j x ρ S, all[j]? = some x → P j ρ S → ∃ ρ' ρ2 S2, bindT t (enc x) ρ = some ρ' ∧ (body ρ' S = .next ρ2 S2 ∨ body ρ' S = .cont ρ2 S2) ∧ P (j + 1) ρ2 S2) → ∃ ρ2 S2, forL t body (xs.map enc) ρ S = .next ρ2 S2 ∧ P (j + xs.length) ρ2 S2
  | [], j, ρ, S, _, h, _ => ⟨ρ, S, by simp [forL], by simpa using h⟩
  | x :: xs, j, ρ, S, e, h, st => by
    have hx : all[j]? = some x := by
      have := congrArg List.head? e
      rw [List.head?_drop] at this
      simpa using this
    obtain ⟨ρ', ρ2, S2, h1, h2, h3⟩ := st j x ρ S hx h
    obtain ⟨ρ3, S3, h4, h5⟩ := forL_pl enc P (all := all) (xs := xs) (j := j + 1) (by rw [← List.drop_drop, e]; rfl) h3 st
    refine ⟨ρ3, S3, ?_, by simpa [Nat.add_comm, Nat.add_left_comm, Nat.add_assoc] using h5⟩
    simp only [List.map_cons, forL, h1]
    rcases h2 with h2 | h2 <;> rw [h2] <;> exact h4
/-- a dict's loop -/
theorem s_forD {cf : CallF} {ρ : Env} {S S1 : Sto} {L : Nat} {t : Tg} {both : Bool} {a : E} {body : List Stm} {n : Nat} {ks vs : List W} (h : ev cf a ρ S = .ok (.ref n) S1) (hS : S1[n]? = some (.dic both ks vs)) :
    exec cf L (.forD t both a body) ρ S = (forL t (fun ρ' S' => execs cf L body ρ' S') (if both then zip2 ks vs else vs) ρ (S1.set n .dead)).back n (.dic both ks vs) := by
  rw [exec, h]
  simp [hS]
@[simp] theorem back_next {ρ : Env} {S : Sto} {n : Nat} {o : Ob} : (SR.next ρ S).back n o = .next ρ (S.set n o) := rfl
theorem zip2_map {α β : Type} (f : α → W) (g : β → W) : ∀ {xs : List α} {ys : List β}, zip2 (xs.map f) (ys.map g) = (xs.zip ys).map fun p => W.tup [f p.1, g p.2]
  | [], _ => by simp [zip2]
  | _ :: _, [] => by simp [zip2]
  | x :: xs, y :: ys => by simp [zip2, zip2_map f g (xs := xs) (ys := ys)]
theorem shS_all {b : Bool} {g : Nat → Option W} : ∀ {S : Sto}, (∀ o ∈ S, ∃ o', shO b g o = some o') → ∃ S', shS b g S = some S' ∧ S'.length = S.length ∧ ∀ (i : Nat) (o : Ob), S[i]? = some o → ∃ o', shO b g o = some o' ∧ S'[i]? = some o'
  | [], _ => ⟨[], rfl, rfl, by simp⟩
  | o :: S, h => by
    obtain ⟨o', ho⟩ := h o (by simp)
    obtain ⟨S', h1, h2, h3⟩ := shS_all (S := S) fun q hq => h q (by simp [hq])
    refine ⟨o' :: S', by simp [shS, ho, h1], by simp [h2], fun i q hi => ?_⟩
    cases i with
    | zero =>
      simp at hi
      subst hi
      exact ⟨o', ho, rfl⟩
    | succ i => simpa using h3 i q (by simpa using hi)
mutual
/-- what holds no list and no cell is copied as it is -/
theorem sub_lf {b : Bool} {g : Nat → Option W} : ∀ {w : W}, lfree w = true → sub b g w = some w
  | .non, _ => rfl
  | .bl _, _ => rfl
  | .int _, _ => rfl
  | .str _, _ => rfl
  | .exn _, h => by simp [lfree] at h
  | .klst _, h => by simp [lfree] at h
  | .ref _, h => by simp [lfree] at h
  | .lst _, h => by simp [lfree] at h
  | .dic _ _ _, h => by simp [lfree] at h
  | .rcd _ _, h => by simp [lfree] at h
  | .tup xs, h => by
    simp only [lfree] at h
    simp [sub, subL_lf h]
theorem subL_lf {b : Bool} {g : Nat → Option W} : ∀ {ws : List W}, lfreeL ws = true → subL b g ws = some ws
  | [], _ => rfl
  | w :: ws, h => by
    simp only [lfreeL, Bool.and_eq_true] at h
    simp [subL, sub_lf h.1, subL_lf h.2]
end
theorem lfreeL_map {α : Type} {f : α → W} (h : ∀ a, lfree (f a) = true) : ∀ xs : List α, lfreeL (xs.map f) = true
  | [] => rfl
  | x :: xs => by simp [lfreeL, h x, lfreeL_map h xs]
theorem subL_map {α : Type} {b : Bool} {g : Nat → Option W} {f f' : α → W} (h : ∀ a, sub b g (f a) = some (f' a)) : ∀ xs : List α, subL b g (xs.map f) = some (xs.map f')
  | [] => rfl
  | x :: xs => by simp [subL, h x, subL_map h xs]
theorem rfreeL_map {α : Type} {f : α → W} (h : ∀ a, rfree (f a) = true) : ∀ xs : List α, rfreeL (xs.map f) = true
  | [] => rfl
  | x :: xs => by simp [rfreeL, h x, rfreeL_map h xs]
end Tw

/-! Tw, part U: orders of tuples of plain things; sorted typed lists. -/
namespace Tw
inductive At where
  | int | bl | str
def isAt : At → W → Prop
  | .int, w => ∃ i, w = .int i
  | .bl, w => ∃ b, w = .bl b
  | .str, w => ∃ s, w = .str s ∧ okStr s
def isAts : List At → List W → Prop
  | [], ws => ws = []
  | a :: as, ws => ∃ w r, ws = w :: r ∧ isAt a w ∧ isAts as r
theorem at_eq {a : At} {x y : W} (hx : isAt a x) (hy : isAt a y) : eqW x y = true ↔ x = y := by
  cases a
  · obtain ⟨i, rfl⟩ := hx; obtain ⟨j, rfl⟩ := hy; simp [eqW]
  · obtain ⟨i, rfl⟩ := hx; obtain ⟨j, rfl⟩ := hy; simp [eqW]
  · obtain ⟨i, rfl, _⟩ := hx; obtain ⟨j, rfl, _⟩ := hy; simp [eqW]
theorem at_irr {a : At} {x : W} (hx : isAt a x) : ltW x x = false := by
  cases a
  · obtain ⟨i, rfl⟩ := hx; simp [ltW]
  · obtain ⟨i, rfl⟩ := hx; cases i <;> rfl
  · obtain ⟨i, rfl, _⟩ := hx; simp [ltW, List.lt_irrefl]
theorem at_tr {a : At} {x y z : W} (hx : isAt a x) (hy : isAt a y) (hz : isAt a z) (h1 : ltW x y = true) (h2 : ltW y z = true) : ltW x z = true := by
  cases a
  · obtain ⟨i, rfl⟩ := hx; obtain ⟨j, rfl⟩ := hy; obtain ⟨k, rfl⟩ := hz; simp [ltW] at *; omega
  · obtain ⟨i, rfl⟩ := hx; obtain ⟨j, rfl⟩ := hy; obtain ⟨k, rfl⟩ := hz; cases i <;> cases j <;> cases k <;> simp [ltW] at *
  · exact ordStr.tr x y z hx hy hz h1 h2
theorem at_tot {a : At} {x y : W} (hx : isAt a x) (hy : isAt a y) (h : x ≠ y) : ltW x y = true ∨ ltW y x = true := by
  cases a
  · exact ordInt.tot x y hx hy h
  · obtain ⟨i, rfl⟩ := hx; obtain ⟨j, rfl⟩ := hy; cases i <;> cases j <;> simp [ltW] at *
  · exact ordStr.tot x y hx hy h
theorem at_dat {a : At} {x : W} (hx : isAt a x) (d : Nat) : datW d x = true := by
  cases a
  · obtain ⟨i, rfl⟩ := hx; cases d <;> rfl
  · obtain ⟨i, rfl⟩ := hx; cases d <;> rfl
  · obtain ⟨i, rfl, h⟩ := hx
    cases d <;> (simp only [datW, Bool.and_eq_true, List.all_eq_true, decide_eq_true_eq]; exact h)
theorem at_rf {a : At} {x : W} (hx : isAt a x) : rfree x = true := by
  cases a
  · obtain ⟨i, rfl⟩ := hx; rfl
  · obtain ⟨i, rfl⟩ := hx; rfl
  · obtain ⟨i, rfl, h⟩ := hx; rfl
theorem at_ali {a : At} {x y : W} (hx : isAt a x) (hy : isAt a y) : alikeW x y = true := by
  cases a
  · obtain ⟨i, rfl⟩ := hx; obtain ⟨j, rfl⟩ := hy; rfl
  · obtain ⟨i, rfl⟩ := hx; obtain ⟨j, rfl⟩ := hy; rfl
  · obtain ⟨i, rfl, _⟩ := hx; obtain ⟨j, rfl, _⟩ := hy; rfl
theorem ats_eq : ∀ {as : List At} {xs ys : List W}, isAts as xs → isAts as ys → (eqL xs ys = true ↔ xs = ys)
  | [], _, _, hx, hy => by rw [show _ = [] from hx, show _ = [] from hy]; simp [eqL]
  | a :: as, _, _, ⟨x, xs, rfl, h1, h2⟩, ⟨y, ys, rfl, g1, g2⟩ => by
    simp only [eqL, Bool.and_eq_true, at_eq h1 g1, ats_eq h2 g2, List.cons.injEq]
theorem ats_irr : ∀ {as : List At} {xs : List W}, isAts as xs → ltL xs xs = false
  | [], _, hx => by rw [show _ = [] from hx]; rfl
  | a :: as, _, ⟨x, xs, rfl, h1, h2⟩ => by
    simp only [ltL, (at_eq h1 h1).mpr rfl, if_true, ats_irr h2]
theorem ltL_cons {a : At} {x y : W} {xs ys : List W} (h1 : isAt a x) (g1 : isAt a y) : ltL (x :: xs) (y :: ys) = true ↔ ltW x y = true ∨ (x = y ∧ ltL xs ys = true) := by
  simp only [ltL]
  by_cases e : x = y
  · subst e
    simp [(at_eq h1 h1).mpr rfl, at_irr h1]
  · have : eqW x y = false := by
      cases h : eqW x y with
      | false => rfl
      | true => exact absurd ((at_eq h1 g1).mp h) e
    simp [this, e]
theorem ats_tr : ∀ {as : List At} {xs ys zs : List W}, isAts as xs → isAts as ys → isAts as zs → ltL xs ys = true → ltL ys zs = true → ltL xs zs = true
  | [], _, _, _, hx, hy, hz, h, _ => by rw [show _ = [] from hx, show _ = [] from hy] at h; cases h
  | a :: as, _, _, _, ⟨x, xs, rfl, h1, h2⟩, ⟨y, ys, rfl, g1, g2⟩, ⟨z, zs, rfl, k1, k2⟩, p, q => by
    rw [ltL_cons h1 g1] at p
    rw [ltL_cons g1 k1] at q
    rw [ltL_cons h1 k1]
    rcases p with p | ⟨rfl, p⟩
    · rcases q with q | ⟨rfl, q⟩
      · exact .inl (at_tr h1 g1 k1 p q)
      · exact .inl p
    · rcases q with q | ⟨rfl, q⟩
      · exact .inl q
      · exact .inr ⟨rfl, ats_tr h2 g2 k2 p q⟩
theorem ats_tot : ∀ {as : List At} {xs ys : List W}, isAts as xs → isAts as ys → xs ≠ ys → ltL xs ys = true ∨ ltL ys xs = true
  | [], _, _, hx, hy, h => by rw [show _ = [] from hx, show _ = [] from hy] at h; exact absurd rfl h
  | a :: as, _, _, ⟨x, xs, rfl, h1, h2⟩, ⟨y, ys, rfl, g1, g2⟩, h => by
    rw [ltL_cons h1 g1, ltL_cons g1 h1]
    by_cases e : x = y
    · subst e
      rcases ats_tot h2 g2 (fun z => h (by rw [z])) with q | q
      · exact .inl (.inr ⟨rfl, q⟩)
      · exact .inr (.inr ⟨rfl, q⟩)
    · rcases at_tot h1 g1 e with q | q
      · exact .inl (.inl q)
      · exact .inr (.inl q)
theorem ats_dat : ∀ {as : List At} {xs : List W}, isAts as xs → ∀ d, datL d xs = true
  | [], _, hx, d => by rw [show _ = [] from hx]; rfl
  | a :: as, _, ⟨x, xs, rfl, h1, h2⟩, d => by simp [datL, at_dat h1, ats_dat h2]
theorem ats_rf : ∀ {as : List At} {xs : List W}, isAts as xs → rfreeL xs = true
  | [], _, hx => by rw [show _ = [] from hx]; rfl
  | a :: as, _, ⟨x, xs, rfl, h1, h2⟩ => by simp [rfreeL, at_rf h1, ats_rf h2]
theorem ats_ali : ∀ {as : List At} {xs ys : List W}, isAts as xs → isAts as ys → alikeL xs ys = true
  | [], _, _, hx, hy => by rw [show _ = [] from hx, show _ = [] from hy]; rfl
  | a :: as, _, _, ⟨x, xs, rfl, h1, h2⟩, ⟨y, ys, rfl, g1, g2⟩ => by simp [alikeL, at_ali h1 g1, ats_ali h2 g2]
/-- tuples of one shape -/
theorem ordTup {a : At} {as : List At} : OrdW fun w => ∃ ws, w = .tup ws ∧ isAts (a :: as) ws := by
  refine ⟨?_, ?_, ?_, ?_, ?_, ?_, ?_, .inl ?_, ?_⟩
  · rintro _ _ ⟨xs, rfl, hx⟩ ⟨ys, rfl, hy⟩
    rw [eqW, ats_eq hx hy]
    simp
  · rintro _ ⟨xs, rfl, hx⟩
    rw [ltW]; exact ats_irr hx
  · rintro _ _ _ ⟨xs, rfl, hx⟩ ⟨ys, rfl, hy⟩ ⟨zs, rfl, hz⟩ h1 h2
    rw [ltW] at *
    exact ats_tr hx hy hz h1 h2
  · rintro _ _ ⟨xs, rfl, hx⟩ ⟨ys, rfl, hy⟩ h
    rw [ltW, ltW]
    exact ats_tot hx hy fun z => h (by rw [z])
  · rintro _ ⟨xs, rfl, hx⟩ d
    rw [datW]; exact ats_dat hx d
  · rintro _ ⟨xs, rfl, hx⟩
    rw [rfree]; exact ats_rf hx
  · rintro _ _ ⟨xs, rfl, hx⟩ ⟨ys, rfl, hy⟩
    rw [alikeW]; exact ats_ali hx hy
  · rintro _ ⟨xs, rfl, x, r, rfl, _⟩; rfl
  · rintro _ ⟨xs, rfl, hx⟩; rfl
/-- a typed list, sorted -/
def sortBy {α : Type} (enc : α → W) (xs : List α) : List α := xs.mergeSort fun a b => !ltW (enc b) (enc a)
theorem sortW_map {α : Type} (enc : α → W) (xs : List α) : sortW (xs.map enc) = (sortBy enc xs).map enc := by
  unfold sortW sortBy
  rw [List.map_mergeSort (s := fun a b => !ltW b a) (fun a _ b _ => rfl)]
theorem sortBy_perm {α : Type} (enc : α → W) (xs : List α) : (sortBy enc xs).Perm xs := List.mergeSort_perm _ _
theorem sortBy_len {α : Type} (enc : α → W) (xs : List α) : (sortBy enc xs).length = xs.length := (sortBy_perm enc xs).length_eq
theorem sorted_map {α : Type} {Q : W → Prop} (o : OrdW Q) (enc : α → W) {S : Sto} {x : W} {xs : List α} (hl : lstOf S x = some (xs.map enc)) (hq : ∀ a ∈ xs, Q (enc a)) (hn : xs.length < LIM) : sortedSem S x = some ((sortBy enc xs).map enc) := by
  have h := sortedSem_id o (S := S) (xs := xs.map enc) (by
    intro w hw
    obtain ⟨a, ha, rfl⟩ := List.mem_map.mp hw
    exact hq a ha) (by simpa using hn)
  unfold sortedSem at h ⊢
  rw [hl]
  simp only [lstOf] at h
  dsimp only
  rw [h, sortW_map]
/-- a loop that only looks, and ends at the first that is not good -/
theorem forL_find {α : Type} {t : Tg} {body : Env → Sto → SR} {ρ : Env} {S : Sto} (enc : α → W) (good : α → Bool) (out : α → SR) (ho : ∀ x, match out x with | .ret _ _ => True | .ex _ _ _ => True | _ => False) :
    ∀ {xs : List α}, (∀ x ∈ xs, ∃ ρ', bindT t (enc x) ρ = some ρ' ∧ body ρ' S = if good x then .next ρ S else out x) → forL t body (xs.map enc) ρ S = match xs.find? fun x => !good x with
      | none => .next ρ S
      | some x => out x
  | [], _ => by simp [forL]
  | x :: xs, h => by
    obtain ⟨ρ', h1, h2⟩ := h x (by simp)
    have ih := forL_find enc good out ho (xs := xs) fun y hy => h y (by simp [hy])
    cases hg : good x with
    | true =>
      rw [hg, if_pos rfl] at h2
      simp only [List.map_cons, forL, h1, h2, List.find?_cons, hg, Bool.not_true]
      exact ih
    | false =>
      rw [hg, if_neg (by simp)] at h2
      have hx := ho x
      simp only [List.map_cons, forL, h1, h2, List.find?_cons, hg, Bool.not_false]
      cases e : out x <;> rw [e] at hx <;> first | rfl | exact hx.elim
/-- a comprehension of typed things -/
theorem comp_map {α β : Type} {cf : CallF} {ρ : Env} {S : Sto} {elt : E} {t : Tg} {k : ItK} {srcs : List E} {own : List Nat} {ws : List W} {xs : List α} (enc : α → W) (enc' : β → W) (f : α → β) (h : evs cf srcs ρ S = .ok ws S) (hx : itVals k ws = some (xs.map enc)) (hl : xs.length < LIM)
    (he : ∀ x ∈ xs, ∃ ρ', bindT t (enc x) (wipe ρ own) = some ρ' ∧ ev cf elt ρ' S = .ok (enc' (f x)) S) : ev cf (.comp elt t k srcs [] own) ρ S = .ok (.lst ((xs.map f).map enc')) S := by
  refine s_comp h hx (by simpa using hl) ?_
  have key : ∀ ys : List α, (∀ y ∈ ys, y ∈ xs) → compL (fun ρ' S' => ev cf elt ρ' S') (fun ρ' S' => evAll cf [] ρ' S') t (wipe ρ own) (ys.map enc) S = .ok ((ys.map f).map enc') S := by
    intro ys
    induction ys with
    | nil => intro _; simp [compL]
    | cons y ys ih =>
      intro hy
      obtain ⟨ρ', h1, h2⟩ := he y (hy y (by simp))
      have ih := ih fun z hz => hy z (by simp [hz])
      simp only [s_all0] at ih ⊢
      simp only [List.map_cons, compL, h1, h2, ih, Rs.bind]
  exact key xs fun y hy => hy
/-- .. with a condition -/
theorem comp_filter {α β : Type} {cf : CallF} {ρ : Env} {S : Sto} {elt c : E} {t : Tg} {k : ItK} {srcs : List E} {own : List Nat} {ws : List W} {xs : List α} (enc : α → W) (enc' : β → W) (f : α → β) (p : α → Bool) (h : evs cf srcs ρ S = .ok ws S) (hx : itVals k ws = some (xs.map enc)) (hl : xs.length < LIM)
    (he : ∀ x ∈ xs, ∃ ρ', bindT t (enc x) (wipe ρ own) = some ρ' ∧ ev cf c ρ' S = .ok (.bl (p x)) S ∧ (p x = true → ev cf elt ρ' S = .ok (enc' (f x)) S)) : ev cf (.comp elt t k srcs [c] own) ρ S = .ok (.lst (((xs.filter p).map f).map enc')) S := by
  refine s_comp h hx (by simpa using hl) ?_
  have key : ∀ ys : List α, (∀ y ∈ ys, y ∈ xs) → compL (fun ρ' S' => ev cf elt ρ' S') (fun ρ' S' => evAll cf [c] ρ' S') t (wipe ρ own) (ys.map enc) S = .ok (((ys.filter p).map f).map enc') S := by
    intro ys
    induction ys with
    | nil => intro _; simp [compL]
    | cons y ys ih =>
      intro hy
      obtain ⟨ρ', h1, h2, h3⟩ := he y (hy y (by simp))
      have ih := ih fun z hz => hy z (by simp [hz])
      simp only [s_all1] at ih ⊢
      cases hp : p y with
      | true =>
        rw [hp] at h2
        simp only [List.map_cons, compL, h1, h2, h3 hp, ih, Rs.bind, List.filter_cons, hp, if_true]
      | false =>
        rw [hp] at h2
        simp only [List.map_cons, compL, h1, h2, ih, List.filter_cons, hp, Bool.false_eq_true, if_false]
  exact key xs fun y hy => hy
theorem range_get {n j x : Nat} (h : (List.range n)[j]? = some x) : x = j ∧ j < n := by
  have hl := (List.getElem?_eq_some_iff.mp h).1
  simp at hl
  rw [List.getElem?_range hl] at h
  cases h
  exact ⟨rfl, hl⟩
theorem execs_app {cf : CallF} {L : Nat} {ρ : Env} {S : Sto} : ∀ (xs ys : List Stm), execs cf L (xs ++ ys) ρ S = (execs cf L xs ρ S).seq fun ρ1 S1 => execs cf L ys ρ1 S1
  | [], ys => by simp
  | x :: xs, ys => by
    simp only [List.cons_append, s_execs1]
    cases exec cf L x ρ S with
    | next ρ1 S1 => simp only [s_seq]; exact execs_app xs ys
    | ret w S1 => rfl
    | brk ρ1 S1 => rfl
    | cont ρ1 S1 => rfl
    | ex ρ1 c S1 => rfl
    | bad => rfl
/-- a while that ends after n turns -/
theorem whileL_meas {c : Env → Sto → Rs W} {body : Env → Sto → SR} (P : Nat → Env → Sto → Prop) (Q : Env → Sto → Prop)
    (st : ∀ n ρ S, P (n + 1) ρ S → ∃ S1 ρ2 S2, c ρ S = .ok (.bl true) S1 ∧ (body ρ S1 = .next ρ2 S2 ∨ body ρ S1 = .cont ρ2 S2) ∧ P n ρ2 S2) (en : ∀ ρ S, P 0 ρ S → ∃ S1, c ρ S = .ok (.bl false) S1 ∧ Q ρ S1) :
    ∀ (n k : Nat) (ρ : Env) (S : Sto), n < k → P n ρ S → ∃ ρ' S', whileL c body k ρ S = .next ρ' S' ∧ Q ρ' S'
  | _, 0, _, _, h, _ => absurd h (Nat.not_lt_zero _)
  | 0, k + 1, ρ, S, _, h => by
    obtain ⟨S1, h1, h2⟩ := en ρ S h
    exact ⟨ρ, S1, by simp only [whileL, h1], h2⟩
  | n + 1, k + 1, ρ, S, hk, h => by
    obtain ⟨S1, ρ2, S2, h1, h2, h3⟩ := st n ρ S h
    obtain ⟨ρ', S', h4, h5⟩ := whileL_meas P Q st en n k ρ2 S2 (by omega) h3
    refine ⟨ρ', S', ?_, h5⟩
    simp only [whileL, h1]
    rcases h2 with h2 | h2 <;> rw [h2] <;> exact h4
theorem erase_map {α β : Type} (f : α → β) : ∀ (xs : List α) (j : Nat), (xs.map f).eraseIdx j = (xs.eraseIdx j).map f
  | [], _ => by simp
  | x :: xs, 0 => by simp
  | x :: xs, j + 1 => by simp [erase_map f xs j]
theorem erase_perm {α : Type} : ∀ {xs : List α} {j : Nat} (h : j < xs.length), (xs[j] :: xs.eraseIdx j).Perm xs
  | x :: xs, 0, h => by simp
  | x :: xs, j + 1, h => by
    have ih := erase_perm (xs := xs) (j := j) (by simpa using h)
    simp only [List.getElem_cons_succ, List.eraseIdx_cons_succ]
    exact (List.Perm.swap x _ _).trans (ih.cons x)
end Tw

namespace TwL
open Tw PySem PySem.Spec PyProof.Rows L2
def topS (i : Nat) : PySem.Stmt := PySem.Challenge.pw_tieword_k34_rules_made.main.body.getD i (.Pass ⟨0, 0, 0, 0⟩)
def f11 : List Stm := [
  .ret (.op .len [(.fld 0 0 (.var 0))])]
def f12 : List Stm := [
  .ret (.and [(.op (.isi .int) [(.var 0)]), (.not (.op (.isi .bool) [(.var 0)]))])]
def f16 : List Stm := [
  .ite (.or [(.op .lt [(.op .len [(.var 1)]), (.con (.int 1))]), (.op .gt [(.op .len [(.var 1)]), (.con (.int 7))]), (.op .gt [(.op .len [(.var 2)]), (.con (.int 12))])]) [
    .rais 11] [],
  .forIn (.one 3) .list [(.var 1)] [
    .ite (.not (.call .pure 19 [(.var 3)])) [
      .rais 12] [],
    .wipe [3]],
  .forIn (.one 4) .list [(.var 2)] [
    .ite (.not (.call .pure 18 [(.op .len [(.var 1)]), (.var 4)])) [
      .rais 13] [],
    .wipe [4]],
  .setF 0 0 (.mut (.op .list [(.var 1)])) (.var 0),
  .setF 0 1 (.mut (.op .sorted [(.comp (.call .pure 20 [(.var 4)]) (.one 4) .list [(.var 2)] [] [4])])) (.var 0),
  .setF 0 2 (.call .move 17 [(.fld 0 1 (.var 0))]) (.var 0)]
def f17 : List Stm := [
  .asg (.one 1) (.mut (.op (.dicD true) [])),
  .forIn (.tup [3, 4, 5, 6]) .list [(.var 0)] [
    .asg (.one 7) (.eff .setd (.var 1) [(.op .tupD [(.var 3), (.var 4)]), (.mut (.op .lstD []))]),
    .asg (.one 8) (.eff .setd (.var 1) [(.op .tupD [(.var 4), (.var 3)]), (.mut (.op .lstD []))]),
    .ite (.var 6) [
      .expr (.eff .append (.var 7) [(.op .tupD [(.var 5), (.con (.int 1))])]),
      .expr (.eff .append (.var 8) [(.op .tupD [(.var 5), (.con (.int 2))])])] [
      .expr (.eff .append (.var 7) [(.op .tupD [(.var 5), (.con (.int 0))])]),
      .expr (.eff .append (.var 8) [(.op .tupD [(.var 5), (.con (.int 0))])])],
    .wipe [3, 4, 5, 6, 7, 8]],
  .asg (.one 2) (.mut (.op (.dicD true) [])),
  .forD (.tup [9, 10]) true (.var 1) [
    .setI (.op .tuple [(.op .sorted [(.var 10)])]) (.var 2) (.var 9),
    .wipe [9, 10]],
  .ret (.var 2)]
def f18 : List Stm := [
  .asg (.tup [2, 3, 4]) (.op .tupD [(.op .idx [(.var 1), (.con (.int 0))]), (.op .idx [(.var 1), (.con (.int 1))]), (.op .idx [(.var 1), (.con (.int 2))])]),
  .ite (.or [(.op .eq [(.var 2), (.var 3)]), (.not (.chain .le .lt (.con (.int 0)) (.var 2) (.var 0))), (.not (.chain .le .lt (.con (.int 0)) (.var 3) (.var 0)))]) [
    .ret (.con (.bl false))] [],
  .ret (.chain .le .lt (.con (.int 0)) (.var 4) (.op .pow [(.con (.int 10)), (.con (.int 30))]))]
def f19 : List Stm := [
  .ite (.or [(.op .lt [(.op .len [(.var 0)]), (.con (.int 1))]), (.op .gt [(.op .len [(.var 0)]), (.con (.int 3))])]) [
    .ret (.con (.bl false))] [],
  .forIn (.one 1) .str [(.var 0)] [
    .ite (.op .notin [(.var 1), (.con (.str [97, 98, 99, 100, 101, 102, 103, 104, 105, 106, 107, 108, 109, 110, 111, 112, 113, 114, 115, 116, 117, 118, 119, 120, 121, 122]))]) [
      .ret (.con (.bl false))] [],
    .wipe [1]],
  .ret (.con (.bl true))]
def f20 : List Stm := [
  .ite (.and [(.not (.op .idx [(.var 0), (.con (.int 3))])), (.op .gt [(.op .idx [(.var 0), (.con (.int 0))]), (.op .idx [(.var 0), (.con (.int 1))])])]) [
    .ret (.op .tupD [(.op .idx [(.var 0), (.con (.int 1))]), (.op .idx [(.var 0), (.con (.int 0))]), (.op .idx [(.var 0), (.con (.int 2))]), (.op .idx [(.var 0), (.con (.int 3))])])] [],
  .ret (.var 0)]
def f24 : List Stm := [
  .asg (.one 2) (.op .mod [(.op .mul [(.op .add [(.op .add [(.op .mod [(.var 0), (.con (.int 2147483647))]), (.con (.int 1))]), (.op .mul [(.op .mul [(.con (.int 7919)), (.var 1)]), (.var 1)])]), (.con (.int 48271))]), (.con (.int 2147483629))]),
  .ret (.op .mod [(.op .mul [(.var 2), (.var 2)]), (.con (.int 998244353))])]
def f26 : List Stm := [
  .asg (.one 2) (.con (.str [97, 98, 99, 100, 101, 102, 103, 104, 105, 106, 107, 108, 109, 110, 111, 112, 113, 114, 115, 116, 117, 118, 119, 120, 121, 122])),
  .asg (.one 3) (.mth .str .mJoin (.con (.str [])) [(.comp (.op .idx [(.var 2), (.op .mod [(.op .add [(.op .fdiv [(.var 0), (.con (.int 9))]), (.op .mul [(.con (.int 7)), (.var 7)])]), (.con (.int 26))])]) (.one 7) .range1 [(.con (.int 3))] [] [7])]),
  .asg (.one 4) (.op .add [(.con (.int 1)), (.op .mod [(.var 0), (.con (.int 3))])]),
  .ite (.op .eq [(.op .mod [(.op .fdiv [(.var 0), (.con (.int 3))]), (.con (.int 4))]), (.con (.int 0))]) [
    .ret (.op (.slice false true) [(.var 3), (.toI (.op .add [(.con (.int 1)), (.op .mod [(.var 1), (.con (.int 3))])]))])] [],
  .asg (.one 5) (.op .mod [(.op .fdiv [(.var 0), (.con (.int 3))]), (.var 4)]),
  .asg (.one 6) (.op .idx [(.var 2), (.op .mod [(.op .add [(.op .add [(.op .fdiv [(.var 0), (.con (.int 9))]), (.op .mul [(.con (.int 7)), (.var 5)])]), (.var 1)]), (.con (.int 26))])]),
  .ret (.op .add [(.op .add [(.op (.slice false true) [(.var 3), (.toI (.var 5))]), (.var 6)]), (.op (.slice true true) [(.var 3), (.toI (.op .add [(.var 5), (.con (.int 1))])), (.toI (.var 4))])])]
def f28 : List Stm := [
  .asg (.one 2) (.op .mod [(.op .mul [(.op .add [(.var 1), (.con (.int 1))]), (.con (.int 618033988749894848204586834367))]), (.op .pow [(.con (.int 10)), (.con (.int 30))])]),
  .asg (.one 3) (.op .mod [(.call .pure 24 [(.var 0), (.con (.int 3))]), (.con (.int 5))]),
  .ite (.op .eq [(.var 3), (.con (.int 4))]) [
    .ret (.op .mod [(.var 0), (.op .pow [(.con (.int 10)), (.con (.int 30))])])] [],
  .ret (.op .idx [(.op .lstD [(.var 2), (.var 2), (.op .mod [(.op .add [(.var 2), (.con (.int 1))]), (.op .pow [(.con (.int 10)), (.con (.int 30))])]), (.con (.int 0))]), (.var 3)])]
def f29 : List Stm := [
  .ret (.mut (.op (.slice false true) [(.op .add [(.op (.slice true true) [(.var 0), (.toI (.var 1)), (.toI (.op .add [(.var 1), (.var 2)]))]), (.op .lstD [(.op .add [(.var 1), (.con (.int 1))]), (.con (.int 5)), (.con (.int 2)), (.con (.int 9)), (.con (.int 4)), (.con (.int 7)), (.con (.int 1)), (.con (.int 8)), (.con (.int 3)), (.con (.int 6)), (.con (.int 0)), (.con (.int 11)), (.con (.int 13)), (.con (.int 12)), (.con (.int 10)), (.con (.int 14))])]), (.toI (.var 2))]))]
def f32 : List Stm := [
  .asg (.one 3) (.call .pure 33 [(.var 1), (.var 2)]),
  .asg (.one 4) (.op .mod [(.op .mul [(.op .add [(.var 1), (.con (.int 1))]), (.con (.int 618033988749894848204586834367))]), (.op .pow [(.con (.int 10)), (.con (.int 30))])]),
  .asg (.one 5) (.mut (.comp (.op .tupD [(.op .idx [(.var 3), (.var 11)]), (.op .idx [(.var 3), (.var 12)]), (.var 4), (.op .eq [(.op .mod [(.op .fdiv [(.var 1), (.con (.int 6))]), (.con (.int 2))]), (.con (.int 1))])]) (.tup [11, 12]) .list [(.call .pure 34 [(.var 1), (.var 2)])] [] [11, 12])),
  .forIn (.one 6) .list [(.var 0)] [
    .asg (.one 9) (.call .pure 24 [(.var 6), (.con (.int 8))]),
    .ite (.and [(.op .gt [(.var 2), (.con (.int 1))]), (.op .lt [(.op .len [(.var 5)]), (.con (.int 12))]), (.or [(.op .eq [(.op .mod [(.var 1), (.con (.int 6))]), (.con (.int 0))]), (.op .eq [(.op .mod [(.var 9), (.con (.int 6))]), (.con (.int 0))])])]) [
      .asg (.one 11) (.op .mod [(.op .fdiv [(.var 9), (.con (.int 6))]), (.var 2)]),
      .asg (.one 12) (.op .mod [(.op .add [(.op .add [(.var 11), (.con (.int 1))]), (.op .mod [(.op .fdiv [(.var 9), (.con (.int 60))]), (.op .sub [(.var 2), (.con (.int 1))])])]), (.var 2)]),
      .expr (.eff .append (.var 5) [(.op .tupD [(.var 11), (.var 12), (.call .pure 28 [(.var 6), (.var 1)]), (.op .eq [(.op .mod [(.op .fdiv [(.var 9), (.con (.int 7))]), (.con (.int 3))]), (.con (.int 0))])])]),
      .ite (.and [(.op .eq [(.op .mod [(.op .fdiv [(.var 9), (.con (.int 21))]), (.con (.int 5))]), (.con (.int 0))]), (.op .lt [(.op .len [(.var 5)]), (.con (.int 12))])]) [
        .expr (.eff .append (.var 5) [(.op .idx [(.var 5), (.op .neg [(.con (.int 1))])])])] []] [],
    .wipe [6, 9, 11, 12]],
  .asg (.one 7) (.mut (.op .lstD [])),
  .forIn (.one 8) .range1 [(.var 2)] [
    .asg (.one 10) (.con (.int 0)),
    .ite (.op .eq [(.op .mod [(.op .fdiv [(.var 1), (.con (.int 12))]), (.con (.int 2))]), (.con (.int 1))]) [
      .asg (.one 10) (.op .mod [(.call .pure 24 [(.op .idx [(.var 0), (.op .mod [(.var 8), (.op .len [(.var 0)])])]), (.op .add [(.con (.int 20)), (.var 8)])]), (.con (.int 3))])] [],
    .expr (.eff .append (.var 7) [(.call .pure 26 [(.var 1), (.var 10)])]),
    .wipe [8, 10]],
  .ret (.op .tupD [(.var 7), (.var 5)])]
def f33 : List Stm := [
  .asg (.one 2) (.mut (.op (.rangeL false false) [(.var 1)])),
  .asg (.one 3) (.mut (.op .lstD [])),
  .whil (.op .gt [(.op .len [(.var 2)]), (.con (.int 0))]) [
    .expr (.eff .append (.var 3) [(.eff .pop1 (.var 2) [(.op .mod [(.call .pure 24 [(.var 0), (.op .add [(.con (.int 50)), (.op .len [(.var 2)])])]), (.op .len [(.var 2)])])])])],
  .ret (.var 3)]
def f34 : List Stm := [
  .asg (.one 2) (.op .mod [(.var 0), (.con (.int 6))]),
  .asg (.one 3) (.op .fdiv [(.var 1), (.con (.int 2))]),
  .ite (.and [(.op .eq [(.var 2), (.con (.int 1))]), (.op .gt [(.var 1), (.con (.int 1))])]) [
    .ret (.mut (.comp (.op .tupD [(.var 5), (.op .mod [(.op .add [(.var 5), (.con (.int 1))]), (.var 1)])]) (.one 5) .range1 [(.var 1)] [] [5]))] [],
  .ite (.op .eq [(.var 2), (.con (.int 2))]) [
    .ret (.mut (.comp (.op .tupD [(.con (.int 0)), (.var 5)]) (.one 5) .range2 [(.con (.int 1)), (.var 1)] [] [5]))] [],
  .ite (.op .eq [(.var 2), (.con (.int 3))]) [
    .ret (.mut (.op .add [(.comp (.op .tupD [(.var 5), (.op .add [(.var 5), (.con (.int 1))])]) (.one 5) .range1 [(.op .sub [(.var 3), (.con (.int 1))])] [] [5]), (.comp (.op .tupD [(.var 5), (.op .add [(.var 5), (.con (.int 1))])]) (.one 5) .range2 [(.var 3), (.op .sub [(.op .mul [(.con (.int 2)), (.var 3)]), (.con (.int 1))])] [] [5])]))] [],
  .asg (.one 4) (.mut (.op .lstD [])),
  .ite (.and [(.op .eq [(.var 2), (.con (.int 4))]), (.op .lt [(.var 1), (.con (.int 6))])]) [
    .forIn (.one 5) .range1 [(.var 1)] [
      .expr (.eff .extend (.var 4) [(.comp (.op .tupD [(.var 6), (.var 5)]) (.one 6) .range1 [(.var 5)] [] [6])]),
      .wipe [5]]] [],
  .ret (.var 4)]
def f46 : List Stm := [
  .ite (.or [(.not (.op (.isi .tuple) [(.var 0)])), (.op .ne [(.op .len [(.var 0)]), (.con (.int 4))]), (.not (.op (.isi .bool) [(.op .idx [(.var 0), (.con (.int 3))])]))]) [
    .ret (.con (.bl false))] [],
  .ret (.and [(.call .pure 12 [(.op .idx [(.var 0), (.con (.int 0))])]), (.call .pure 12 [(.op .idx [(.var 0), (.con (.int 1))])]), (.call .pure 12 [(.op .idx [(.var 0), (.con (.int 2))])]), (.op .eq [(.var 0), (.var 1)])])]
def f308 : List Stm := [
  .asg (.one 1) (.mut (.op .lstD [])),
  .forIn (.one 2) .range3 [(.con (.int 0)), (.op .max [(.con (.int 1)), (.op .len [(.var 0)])]), (.con (.int 12))] [
    .asg (.one 3) (.call .pure 29 [(.var 0), (.var 2), (.con (.int 12))]),
    .asg (.one 4) (.call .pure 32 [(.op (.slice true true) [(.var 3), (.toI (.con (.int 1))), (.toI (.con (.int 5)))]), (.call .pure 24 [(.op .idx [(.var 3), (.con (.int 0))]), (.con (.int 1))]), (.op .add [(.con (.int 1)), (.op .mod [(.call .pure 24 [(.op .idx [(.var 3), (.con (.int 0))]), (.con (.int 2))]), (.con (.int 7))])])]),
    .asg (.one 5) (.call .pure 32 [(.op (.slice true true) [(.var 3), (.toI (.con (.int 5))), (.toI (.con (.int 9)))]), (.call .pure 24 [(.op .idx [(.var 3), (.con (.int 0))]), (.con (.int 3))]), (.op .add [(.con (.int 1)), (.op .mod [(.call .pure 24 [(.op .idx [(.var 3), (.con (.int 0))]), (.con (.int 4))]), (.con (.int 7))])])]),
    .asg (.one 6) (.call .pure 309 [(.op .idx [(.var 3), (.con (.int 9))])]),
    .asg (.one 7) (.con .non),
    .asg (.one 8) (.con (.bl false)),
    .tryE [11, 12, 13, 20] [
      .asg (.one 7) (.new .pure 2 310 [(.new .pure 0 16 [(.op .idx [(.var 4), (.con (.int 0))]), (.op .idx [(.var 4), (.con (.int 1))])]), (.new .pure 0 16 [(.op .idx [(.var 5), (.con (.int 0))]), (.op .idx [(.var 5), (.con (.int 1))])]), (.var 6)])] 10 (some 9) [
      .asg (.one 8) (.and [(.isx [20] (.var 9)), (.isx [9] (.var 9)), (.not (.isx [17, 14, 12, 16, 13, 21, 19, 11, 15, 18] (.var 9)))])],
    .ite (.chain .le .le (.con (.int 0)) (.var 6) (.op .min [(.op .len [(.op .idx [(.var 4), (.con (.int 0))])]), (.op .len [(.op .idx [(.var 5), (.con (.int 0))])])])) [
      .expr (.eff .append (.var 1) [(.op .tupD [(.var 7), (.var 4), (.var 5), (.var 6)])])] [
      .ite (.or [(.op .notnone [(.var 7)]), (.not (.var 8))]) [
        .ret (.con (.bl false))] []],
    .wipe [2, 3, 4, 5, 6, 7, 8]],
  .frz 1,
  .forIn (.tup [7, 4, 5, 6]) .list [(.var 1)] [
    .ite (.not (.call .pure 311 [(.var 7), (.var 4), (.var 5), (.var 6)])) [
      .ret (.con (.bl false))] [],
    .wipe [4, 5, 6, 7]],
  .ret (.con (.bl true))]
def f309 : List Stm := [
  .asg (.one 1) (.call .pure 24 [(.var 0), (.con (.int 7))]),
  .asg (.one 2) (.op .mod [(.var 0), (.op .pow [(.con (.int 10)), (.con (.int 30))])]),
  .ite (.op .eq [(.op .mod [(.var 1), (.con (.int 16))]), (.con (.int 5))]) [
    .ret (.var 2)] [],
  .ite (.op .eq [(.op .mod [(.var 1), (.con (.int 16))]), (.con (.int 11))]) [
    .ret (.op .neg [(.var 2)])] [],
  .ret (.op .sub [(.op .mod [(.op .fdiv [(.var 1), (.con (.int 16))]), (.con (.int 11))]), (.con (.int 2))])]
def f310 : List Stm := [
  .ite (.or [(.op .lt [(.var 3), (.con (.int 0))]), (.op .gt [(.var 3), (.mcall .pure 0 11 (.var 1) [])]), (.op .gt [(.var 3), (.mcall .pure 0 11 (.var 2) [])])]) [
    .rais 20] [],
  .setF 2 0 (.var 1) (.var 0),
  .setF 2 1 (.var 2) (.var 0),
  .setF 2 2 (.var 3) (.var 0)]
def f311 : List Stm := [
  .ite (.or [(.not (.isx [2] (.var 0))), (.not (.call .pure 12 [(.fld 2 2 (.var 0))])), (.op .ne [(.fld 2 2 (.var 0)), (.var 3)])]) [
    .ret (.con (.bl false))] [],
  .ret (.and [(.call .pure 312 [(.fld 2 0 (.var 0)), (.op .idx [(.var 1), (.con (.int 0))]), (.op .idx [(.var 1), (.con (.int 1))])]), (.call .pure 312 [(.fld 2 1 (.var 0)), (.op .idx [(.var 2), (.con (.int 0))]), (.op .idx [(.var 2), (.con (.int 1))])])])]
def f312 : List Stm := [
  .ite (.or [(.not (.isx [0] (.var 0))), (.not (.op (.isi .list) [(.fld 0 0 (.var 0))])), (.not (.op (.isi .list) [(.fld 0 1 (.var 0))]))]) [
    .ret (.con (.bl false))] [],
  .ite (.or [(.op .ne [(.op .len [(.fld 0 1 (.var 0))]), (.op .len [(.var 2)])]), (.op .ne [(.fld 0 0 (.var 0)), (.var 1)])]) [
    .ret (.con (.bl false))] [],
  .forIn (.one 3) .list [(.fld 0 0 (.var 0))] [
    .ite (.not (.op (.isi .str) [(.var 3)])) [
      .ret (.con (.bl false))] [],
    .wipe [3]],
  .forIn (.tup [4, 5]) .zip [(.fld 0 1 (.var 0)), (.call .pure 313 [(.var 2)])] [
    .ite (.not (.call .pure 46 [(.var 4), (.var 5)])) [
      .ret (.con (.bl false))] [],
    .wipe [4, 5]],
  .ret (.con (.bl true))]
def f313 : List Stm := [
  .asg (.one 1) (.mut (.op .lstD [])),
  .forIn (.tup [2, 3, 4, 5]) .list [(.var 0)] [
    .ite (.var 5) [
      .expr (.eff .append (.var 1) [(.op .tupD [(.var 2), (.var 3), (.var 4), (.con (.bl true))])])] [
      .expr (.eff .append (.var 1) [(.op .tupD [(.op .min [(.var 2), (.var 3)]), (.op .max [(.var 2), (.var 3)]), (.var 4), (.con (.bl false))])])],
    .wipe [2, 3, 4, 5]],
  .frz 1,
  .ret (.mut (.op .sorted [(.var 1)]))]
def d11 : DefI := ⟨"size", "Web.size", some 0, ["self"], 1, inCls (topS 22) 1, f11⟩
def d12 : DefI := ⟨"_law_whole", "_law_whole", none, ["_law_found"], 1, topS 28, f12⟩
def d16 : DefI := ⟨"__init__", "Web.__init__", some 0, ["self", "kinds", "ties", "kind", "tie"], 3, inCls (topS 22) 0, f16⟩
def d17 : DefI := ⟨"pairs_between", "pairs_between", none, ["ties", "found", "told", "one", "other", "kind", "oneway", "there", "back", "ends", "pairs"], 1, topS 21, f17⟩
def d18 : DefI := ⟨"is_tie", "is_tie", none, ["size", "tie", "one", "other", "kind"], 2, topS 19, f18⟩
def d19 : DefI := ⟨"is_word", "is_word", none, ["kind", "sign"], 1, topS 18, f19⟩
def d20 : DefI := ⟨"plain_tie", "plain_tie", none, ["tie"], 1, topS 20, f20⟩
def d24 : DefI := ⟨"_law_mix", "_law_mix", none, ["_law_cell", "_law_k", "_law_seed"], 2, topS 27, f24⟩
def d26 : DefI := ⟨"_law_word", "_law_word", none, ["_law_seed", "_law_which", "_law_letters", "_law_base", "_law_size", "_law_place", "_law_sign", "_law_k"], 2, topS 29, f26⟩
def d28 : DefI := ⟨"_law_kind", "_law_kind", none, ["_law_cell", "_law_seed", "_law_far", "_law_how"], 2, topS 30, f28⟩
def d29 : DefI := ⟨"_law_cells", "_law_cells", none, ["_law_script", "_law_at", "_law_many"], 3, topS 26, f29⟩
def d32 : DefI := ⟨"_law_web", "_law_web", none, ["_law_cells_here", "_law_seed", "_law_many", "_law_order", "_law_far", "_law_ties", "_law_cell", "_law_kinds", "_law_k", "_law_draw", "_law_which", "_law_one", "_law_other"], 3, topS 33, f32⟩
def d33 : DefI := ⟨"_law_shuffled", "_law_shuffled", none, ["_law_seed", "_law_many", "_law_rest", "_law_order"], 2, topS 31, f33⟩
def d34 : DefI := ⟨"_law_family", "_law_family", none, ["_law_seed", "_law_many", "_law_how", "_law_half", "_law_ends", "_law_k", "_law_j"], 2, topS 32, f34⟩
def d46 : DefI := ⟨"_law_tie_is", "_law_tie_is", none, ["_law_found", "_law_due"], 2, topS 35, f46⟩
def d308 : DefI := ⟨"law", "law", none, ["_law_script", "_law_held", "_law_at", "_law_cells_here", "_law_left", "_law_right", "_law_kept", "_law_made", "_law_refused", "error"], 1, topS 39, f308⟩
def d309 : DefI := ⟨"_law_number", "_law_number", none, ["_law_cell", "_law_seed", "_law_far"], 1, topS 37, f309⟩
def d310 : DefI := ⟨"__init__", "Rule.__init__", some 2, ["self", "left", "right", "kept"], 4, inCls (topS 24) 0, f310⟩
def d311 : DefI := ⟨"_law_rule_is", "_law_rule_is", none, ["_law_made", "_law_left", "_law_right", "_law_kept"], 4, topS 38, f311⟩
def d312 : DefI := ⟨"_law_web_is", "_law_web_is", none, ["_law_web_here", "_law_kinds", "_law_ties", "_law_kind_here", "_law_found", "_law_due"], 3, topS 36, f312⟩
def d313 : DefI := ⟨"_law_plain", "_law_plain", none, ["_law_ties", "_law_made", "_law_one", "_law_other", "_law_kind_here", "_law_oneway"], 1, topS 34, f313⟩
def DD : List (Nat × DefI) := [(11, d11), (12, d12), (16, d16), (17, d17), (18, d18), (19, d19), (20, d20), (24, d24), (26, d26), (28, d28), (29, d29), (32, d32), (33, d33), (34, d34), (46, d46), (308, d308), (309, d309), (310, d310), (311, d311), (312, d312), (313, d313)]
def TX : Tx := ⟨[("_law_whole", 12, 1), ("pairs_between", 17, 1), ("is_tie", 18, 2), ("is_word", 19, 1), ("plain_tie", 20, 1), ("_law_mix", 24, 2), ("_law_word", 26, 2), ("_law_kind", 28, 2), ("_law_cells", 29, 3), ("_law_web", 32, 3), ("_law_shuffled", 33, 2), ("_law_family", 34, 2), ("_law_tie_is", 46, 2), ("law", 308, 1), ("_law_number", 309, 1), ("_law_rule_is", 311, 4), ("_law_web_is", 312, 3), ("_law_plain", 313, 1)], [("LETTERS", (.str [97, 98, 99, 100, 101, 102, 103, 104, 105, 106, 107, 108, 109, 110, 111, 112, 113, 114, 115, 116, 117, 118, 119, 120, 121, 122])), ("MOST_PLACES", (.int 7)), ("MOST_TIES", (.int 12))], [⟨"Web", 0, 16, 3, ["kinds", "ties", "links"]⟩, ⟨"Rule", 2, 310, 4, ["left", "right", "kept"]⟩], [(0, "size", 11, 1)], [("WebError", 10), ("TooGreat", 11), ("BadPlace", 12), ("BadTie", 13), ("BadOrder", 14), ("TooMany", 15), ("BadText", 16), ("BadName", 17), ("Twice", 18), ("NoWeb", 19), ("BadRule", 20), ("NoWay", 21)]⟩
def lib : Nat → Option Fn := prg DD
theorem lib_11 : lib 11 = some ⟨1, 1, f11⟩ := rfl
theorem lib_12 : lib 12 = some ⟨1, 1, f12⟩ := rfl
theorem lib_16 : lib 16 = some ⟨3, 5, f16⟩ := rfl
theorem lib_17 : lib 17 = some ⟨1, 11, f17⟩ := rfl
theorem lib_18 : lib 18 = some ⟨2, 5, f18⟩ := rfl
theorem lib_19 : lib 19 = some ⟨1, 2, f19⟩ := rfl
theorem lib_20 : lib 20 = some ⟨1, 1, f20⟩ := rfl
theorem lib_24 : lib 24 = some ⟨2, 3, f24⟩ := rfl
theorem lib_26 : lib 26 = some ⟨2, 8, f26⟩ := rfl
theorem lib_28 : lib 28 = some ⟨2, 4, f28⟩ := rfl
theorem lib_29 : lib 29 = some ⟨3, 3, f29⟩ := rfl
theorem lib_32 : lib 32 = some ⟨3, 13, f32⟩ := rfl
theorem lib_33 : lib 33 = some ⟨2, 4, f33⟩ := rfl
theorem lib_34 : lib 34 = some ⟨2, 7, f34⟩ := rfl
theorem lib_46 : lib 46 = some ⟨2, 2, f46⟩ := rfl
theorem lib_308 : lib 308 = some ⟨1, 10, f308⟩ := rfl
theorem lib_309 : lib 309 = some ⟨1, 3, f309⟩ := rfl
theorem lib_310 : lib 310 = some ⟨4, 4, f310⟩ := rfl
theorem lib_311 : lib 311 = some ⟨4, 4, f311⟩ := rfl
theorem lib_312 : lib 312 = some ⟨3, 6, f312⟩ := rfl
theorem lib_313 : lib 313 = some ⟨1, 6, f313⟩ := rfl
end TwL

/-! the web module's runs -/
namespace TwL
open Tw
abbrev R (d : Nat) : CallF := runF lib LM d
theorem run {d f : Nat} {ws : List W} {S : Sto} {x : Fn} (h : lib f = some x) (hl : ws.length = x.np) : R (d + 1) f ws S = fin (execs (R d) LM x.body (ws.map some ++ List.replicate (x.ns - x.np) none) S) := runF_fin h hl
def letter (c : Nat) : Bool := decide (97 ≤ c) && decide (c ≤ 122)
def isWord (s : List Nat) : Bool := decide (1 ≤ s.length) && decide (s.length ≤ 3) && s.all letter
abbrev Tie := Int × Int × Int × Bool
def encT (t : Tie) : W := .tup [.int t.1, .int t.2.1, .int t.2.2.1, .bl t.2.2.2]
def isTie (n : Int) (t : Tie) : Bool := !decide (t.1 = t.2.1) && (decide (0 ≤ t.1) && decide (t.1 < n)) && (decide (0 ≤ t.2.1) && decide (t.2.1 < n)) && (decide (0 ≤ t.2.2.1) && decide (t.2.2.1 < 10 ^ 30))
def plainT (t : Tie) : Tie := if !t.2.2.2 && decide (t.2.1 < t.1) then (t.2.1, t.1, t.2.2.1, t.2.2.2) else t
theorem r_plain {d : Nat} {t : Tie} {S : Sto} : R (d + 1) 20 [encT t] S = .ok (encT (plainT t)) S := by
  rw [run lib_20 rfl]
  obtain ⟨a, b, k, o⟩ := t
  cases o <;> by_cases h : b < a <;> simp [idxSem, seqOf, Tw.ixN, LIM, lenSem, opAdd, lstOf, eqOp, ltSem, CDiv, isiOp, fldSem, recOf, tyOk, effTy, isDicM, effSem, callSem, newSem, sliceSem, f20, encT, plainT, h]
theorem ten30 : (10 : Int) ^ (30 : Int).toNat = 10 ^ 30 := rfl
theorem r_tie {d : Nat} {n : Int} {t : Tie} {S : Sto} : R (d + 1) 18 [.int n, encT t] S = .ok (.bl (isTie n t)) S := by
  rw [run lib_18 rfl]
  obtain ⟨a, b, k, o⟩ := t
  simp [idxSem, seqOf, Tw.ixN, LIM, lenSem, opAdd, lstOf, eqOp, ltSem, CDiv, isiOp, fldSem, recOf, tyOk, effTy, isDicM, effSem, callSem, newSem, sliceSem, f18, encT, isTie, CPow]
  by_cases h1 : a = b <;> by_cases h2 : 0 ≤ a <;> by_cases h3 : n ≤ a <;> by_cases h4 : 0 ≤ b <;> by_cases h5 : n ≤ b <;> by_cases h6 : 0 ≤ k <;> simp [h1, h2, h3, h4, h5, h6] <;> omega
def abc : List Nat := [97, 98, 99, 100, 101, 102, 103, 104, 105, 106, 107, 108, 109, 110, 111, 112, 113, 114, 115, 116, 117, 118, 119, 120, 121, 122]
theorem abc_letter (c : Nat) : abc.contains c = letter c := by
  unfold letter
  by_cases h : 97 ≤ c ∧ c ≤ 122
  · obtain ⟨h1, h2⟩ := h
    have : c = 97 ∨ c = 98 ∨ c = 99 ∨ c = 100 ∨ c = 101 ∨ c = 102 ∨ c = 103 ∨ c = 104 ∨ c = 105 ∨ c = 106 ∨ c = 107 ∨ c = 108 ∨ c = 109 ∨ c = 110 ∨ c = 111 ∨ c = 112 ∨ c = 113 ∨ c = 114 ∨ c = 115 ∨ c = 116 ∨ c = 117 ∨ c = 118 ∨ c = 119 ∨ c = 120 ∨ c = 121 ∨ c = 122 := by omega
    rcases this with h | h | h | h | h | h | h | h | h | h | h | h | h | h | h | h | h | h | h | h | h | h | h | h | h | h <;> subst h <;> decide
  · have e : (decide (97 ≤ c) && decide (c ≤ 122)) = false := by
      rw [Bool.and_eq_false_iff, decide_eq_false_iff_not, decide_eq_false_iff_not]
      omega
    rw [e]
    simp only [abc, List.contains_eq_any_beq, List.any_cons, List.any_nil, Bool.or_false]
    simp
    omega
theorem abc_mem (c : Nat) : (c ∈ abc) = (letter c = true) := by
  rw [← abc_letter, List.contains_eq_mem]
  simp
theorem r_word {d : Nat} {s : List Nat} {S : Sto} (hs : s.length < LIM) : R (d + 1) 19 [.str s] S = .ok (.bl (isWord s)) S := by
  rw [run lib_19 rfl]
  have e := s_for (cf := R d) (L := LM) (t := .one 1) (k := .str) (srcs := [.var 0]) (body := [.ite (.op .notin [.var 1, .con (.str abc)]) [.ret (.con (.bl false))] [], .wipe [1]]) (ρ := [some (.str s), none]) (S := S) (ws := [.str s]) (xs := s.map fun c => W.str [c]) (S1 := S) (by simp) rfl
  rw [forL_all (fun c => W.str [c]) letter (.ret (.bl false) S) (by simp) (by simp) (by simp) fun c hc => ⟨_, rfl, by cases h : letter c <;> simp [idxSem, seqOf, Tw.ixN, LIM, lenSem, opAdd, lstOf, eqOp, ltSem, CDiv, isiOp, fldSem, recOf, tyOk, effTy, isDicM, effSem, callSem, newSem, sliceSem, inOp, abc_mem, h]⟩] at e
  unfold abc at e
  have hs : s.length < 100000 := hs
  unfold isWord
  generalize s.all letter = q at e ⊢
  simp [idxSem, seqOf, Tw.ixN, LIM, lenSem, opAdd, lstOf, eqOp, ltSem, CDiv, isiOp, fldSem, recOf, tyOk, effTy, isDicM, effSem, callSem, newSem, sliceSem, f19, hs, e]
  by_cases h1 : (s.length : Int) < 1
  · rw [if_pos h1]
    have : ¬ 1 ≤ s.length := by omega
    simp [this]
  · rw [if_neg h1]
    have : 1 ≤ s.length := by omega
    by_cases h2 : 3 < (s.length : Int)
    · have h3 : ¬ s.length ≤ 3 := by omega
      simp [h2, h3]
    · have h3 : s.length ≤ 3 := by omega
      cases q <;> simp [h2, h3, this]

/-! ### pairs_between -/
abbrev Ends := Int × Int
def encE (e : Ends) : W := .tup [.int e.1, .int e.2]
abbrev Found := List (Ends × List Ends)
def touch (f : Found) (e : Ends) : Found := if f.any (fun p => decide (p.1 = e)) then f else f ++ [(e, [])]
def app (f : Found) (e : Ends) (p : Ends) : Found := f.map fun x => if x.1 = e then (x.1, x.2 ++ [p]) else x
def stepF (f : Found) (t : Tie) : Found :=
  app (app (touch (touch f (t.1, t.2.1)) (t.2.1, t.1)) (t.1, t.2.1) (t.2.2.1, if t.2.2.2 then 1 else 0)) (t.2.1, t.1) (t.2.2.1, if t.2.2.2 then 2 else 0)
def foundOf (ts : List Tie) : Found := ts.foldl stepF []
theorem eqE (a b : Ends) : eqW (encE a) (encE b) = decide (a = b) := by
  obtain ⟨a1, a2⟩ := a
  obtain ⟨b1, b2⟩ := b
  rw [Bool.eq_iff_iff]
  simp [encE, eqW, eqL, Prod.ext_iff]
/-- the dict in cell 0 and its lists -/
def okC (o : Ob) : Prop := (∃ ps : List Ends, o = .lst (ps.map encE)) ∨ ∃ (es : List Ends) (ns : List Nat), o = .dic true (es.map encE) (ns.map .ref)
structure FR (f : Found) (ns : List Nat) (S : Sto) : Prop where
  all : ∀ o ∈ S, okC o
  len : ns.length = f.length
  nd : ns.Nodup
  kd : (f.map (·.1)).Nodup
  dic : S[0]? = some (.dic true (f.map fun p => encE p.1) (ns.map .ref))
  pos : ∀ n ∈ ns, 0 < n
  cell : ∀ (i n : Nat) (p : Ends × List Ends), f[i]? = some p → ns[i]? = some n → S[n]? = some (.lst (p.2.map encE))
def AtN (f : Found) (ns : List Nat) (e : Ends) (n : Nat) : Prop := ∃ (i : Nat) (p : Ends × List Ends), f[i]? = some p ∧ p.1 = e ∧ ns[i]? = some n
theorem dget_found {f : Found} {ns : List Nat} (e : Ends) : ns.length = f.length →
    (f.any (fun p => decide (p.1 = e)) = false ∧ dget (f.map fun p => encE p.1) (ns.map W.ref) (encE e) = none) ∨ ∃ n, f.any (fun p => decide (p.1 = e)) = true ∧ dget (f.map fun p => encE p.1) (ns.map W.ref) (encE e) = some (.ref n) ∧ AtN f ns e n := by
  induction f generalizing ns with
  | nil => intro _; left; simp [dget]
  | cons p f ih =>
    intro hl
    cases ns with
    | nil => simp at hl
    | cons n ns =>
      simp only [List.map_cons, dget, eqE, List.any_cons]
      by_cases h : p.1 = e
      · right
        exact ⟨n, by simp [h], by simp [h], 0, p, rfl, h, rfl⟩
      · simp only [h, decide_false, Bool.false_or, Bool.false_eq_true, if_false]
        rcases ih (ns := ns) (by simpa using hl) with q | ⟨m, q1, q2, i, x, h1, h2, h3⟩
        · exact .inl q
        · exact .inr ⟨m, q1, q2, i + 1, x, by simpa using h1, h2, by simpa using h3⟩
theorem key_E (e : Ends) : isKey true (encE e) = true := by simp [encE, isKey, key1]
theorem setd_ok {f : Found} {ns : List Nat} {S : Sto} {e : Ends} (h : FR f ns S) (hl : f.length < 1000) (hS : 0 < S.length) :
    ∃ n S' ns', effSem .setd [.ref 0, encE e, .ref S.length] (S ++ [.lst []]) = some (.ref n, S') ∧ FR (touch f e) (ns ++ ns') S' ∧ AtN (touch f e) (ns ++ ns') e n ∧ S.length < S'.length := by
  have hd : (S ++ [Ob.lst []])[0]? = some (.dic true (f.map fun p => encE p.1) (ns.map .ref)) := by rw [List.getElem?_append_left hS]; exact h.dic
  have lim : decide ((f.map fun p => encE p.1).length < LIM) = true := by simp only [List.length_map, decide_eq_true_eq, LIM]; omega
  have old : ∀ n ∈ ns, n < S.length := fun n hn => by
    obtain ⟨i, hi, rfl⟩ := List.getElem_of_mem hn
    have hf : i < f.length := by rw [← h.len]; exact hi
    have := h.cell i ns[i] f[i] (List.getElem?_eq_getElem hf) (List.getElem?_eq_getElem hi)
    exact (List.getElem?_eq_some_iff.mp this).1
  rcases dget_found (f := f) (ns := ns) e h.len with ⟨q1, q2⟩ | ⟨n, q1, q2, q3⟩
  · have e1 : touch f e = f ++ [(e, [])] := by unfold touch; rw [q1]; rfl
    have hnot : ∀ p ∈ f, p.1 ≠ e := fun p hp z => by
      have := List.any_eq_false.mp q1 p hp
      simp [z] at this
    refine ⟨S.length, (S ++ [Ob.lst []]).set 0 (.dic true ((f.map fun p => encE p.1) ++ [encE e]) (ns.map .ref ++ [.ref S.length])), [S.length], ?_, ?_, ?_, by simp⟩
    · simp only [effSem, hd, key_E, lim, Bool.and_self, if_true, q2]
    · rw [e1]
      have g0 : ∀ m, 0 < m → ((S ++ [Ob.lst []]).set 0 (.dic true ((f.map fun p => encE p.1) ++ [encE e]) (ns.map .ref ++ [.ref S.length])))[m]? = (S ++ [Ob.lst []])[m]? := fun m hm => List.getElem?_set_ne (by omega)
      refine ⟨fun o ho => ?_, by simp [h.len], ?_, ?_, ?_, ?_, ?_⟩
      · rcases List.mem_or_eq_of_mem_set ho with ho | ho
        · rcases List.mem_append.mp ho with ho | ho
          · exact h.all o ho
          · simp at ho
            exact .inl ⟨[], by rw [ho]; rfl⟩
        · exact .inr ⟨f.map (·.1) ++ [e], ns ++ [S.length], by rw [ho]; simp⟩
      · rw [List.nodup_append]
        exact ⟨h.nd, by simp, fun a ha b hb => by simp at hb; have := old a ha; omega⟩
      · rw [List.map_append, List.nodup_append]
        refine ⟨h.kd, by simp, fun a ha b hb => ?_⟩
        simp at hb
        obtain ⟨p, hp, rfl⟩ := List.mem_map.mp ha
        rw [hb]
        exact hnot p hp
      · rw [List.getElem?_set_self (by simp)]
        simp
      · intro n hn
        rcases List.mem_append.mp hn with hn | hn
        · exact h.pos n hn
        · simp at hn; omega
      · intro i n p hf hn
        by_cases hi : i < f.length
        · rw [List.getElem?_append_left hi] at hf
          rw [List.getElem?_append_left (by rw [h.len]; exact hi)] at hn
          have hm := List.mem_of_getElem? hn
          rw [g0 n (h.pos n hm), List.getElem?_append_left (old n hm)]
          exact h.cell i n p hf hn
        · rw [List.getElem?_append_right (by omega)] at hf
          rw [List.getElem?_append_right (by rw [h.len]; omega), h.len] at hn
          have hz : i - f.length = 0 := by
            have := (List.getElem?_eq_some_iff.mp hf).1
            simp at this
            omega
          rw [hz] at hf hn
          simp at hf hn
          subst hf hn
          rw [g0 _ hS]
          simp
    · rw [e1]
      exact ⟨f.length, (e, []), by simp, rfl, by rw [← h.len]; simp⟩
  · have e1 : touch f e = f := by unfold touch; rw [q1]; rfl
    refine ⟨n, S ++ [Ob.lst []], [], ?_, ?_, by rw [e1, List.append_nil]; exact q3, by simp⟩
    · simp only [effSem, hd, key_E, lim, Bool.and_self, if_true, q2]
    · rw [e1, List.append_nil]
      refine ⟨fun o ho => ?_, h.len, h.nd, h.kd, hd, h.pos, fun i n p hf hn => ?_⟩
      · rcases List.mem_append.mp ho with ho | ho
        · exact h.all o ho
        · simp at ho
          exact .inl ⟨[], by rw [ho]; rfl⟩
      rw [List.getElem?_append_left (old n (List.mem_of_getElem? hn))]
      exact h.cell i n p hf hn
theorem AtN.touch {f : Found} {ns ns' : List Nat} {e e' : Ends} {n : Nat} (h : AtN f ns e n) : AtN (touch f e') (ns ++ ns') e n := by
  obtain ⟨i, p, h1, h2, h3⟩ := h
  refine ⟨i, p, ?_, h2, ?_⟩
  · unfold TwL.touch
    split
    · exact h1
    · rw [List.getElem?_append_left (List.getElem?_eq_some_iff.mp h1).1]; exact h1
  · rw [List.getElem?_append_left (List.getElem?_eq_some_iff.mp h3).1]; exact h3
theorem AtN.app {f : Found} {ns : List Nat} {e e' q : Ends} {n : Nat} (h : AtN f ns e n) : AtN (app f e' q) ns e n := by
  obtain ⟨i, p, h1, h2, h3⟩ := h
  refine ⟨i, if p.1 = e' then (p.1, p.2 ++ [q]) else p, ?_, ?_, h3⟩
  · unfold TwL.app
    rw [List.getElem?_map, h1]
    rfl
  · split <;> exact h2
theorem append_ok {f : Found} {ns : List Nat} {S : Sto} {e q : Ends} {n : Nat} (h : FR f ns S) (ha : AtN f ns e n) (hl : ∀ p ∈ f, p.2.length < 1000) :
    ∃ S', effSem .append [.ref n, encE q] S = some (.non, S') ∧ FR (app f e q) ns S' ∧ S'.length = S.length ∧ tyOk .list (.ref n) S = true := by
  obtain ⟨i, p, h1, h2, h3⟩ := ha
  have hc := h.cell i n p h1 h3
  have lim : (p.2.map encE).length < LIM := by
    have := hl p (List.mem_of_getElem? h1)
    simp only [List.length_map, LIM]; omega
  refine ⟨S.set n (.lst (p.2.map encE ++ [encE q])), ?_, ⟨fun o ho => ?_, by simp [app, h.len], h.nd, ?_, ?_, h.pos, ?_⟩, by simp, by simp [tyOk, lstOf, hc]⟩
  · simp only [effSem, hc, lim, if_true]
  · rcases List.mem_or_eq_of_mem_set ho with ho | ho
    · exact h.all o ho
    · exact .inl ⟨p.2 ++ [q], by rw [ho]; simp⟩
  · have : (app f e q).map (·.1) = f.map (·.1) := by
      unfold app
      rw [List.map_map]
      apply List.map_congr_left
      intro x _
      simp only [Function.comp]
      split <;> rfl
    rw [this]
    exact h.kd
  · have hn := h.pos n (List.mem_of_getElem? h3)
    rw [List.getElem?_set_ne (by omega), h.dic]
    congr 2
    unfold app
    rw [List.map_map]
    apply List.map_congr_left
    intro x _
    simp only [Function.comp]
    split <;> rfl
  · intro j m x hf hn
    unfold app at hf
    rw [List.getElem?_map] at hf
    cases hj : f[j]? with
    | none => rw [hj] at hf; cases hf
    | some y =>
      rw [hj] at hf
      simp at hf
      by_cases hji : j = i
      · subst hji
        rw [h1] at hj
        cases hj
        rw [h3] at hn
        cases hn
        rw [List.getElem?_set_self (List.getElem?_eq_some_iff.mp hc).1]
        rw [if_pos h2] at hf
        subst hf
        simp
      · have hne : y.1 ≠ e := fun z => by
          apply hji
          have a1 : (f.map (·.1))[j]? = some e := by rw [List.getElem?_map, hj]; simp [z]
          have a2 : (f.map (·.1))[i]? = some e := by rw [List.getElem?_map, h1]; simp [h2]
          exact (List.getElem?_inj (List.getElem?_eq_some_iff.mp a1).1 h.kd).mp (a1.trans a2.symm)
        rw [if_neg hne] at hf
        subst hf
        have hmn : n ≠ m := fun z => by
          subst z
          exact hji ((List.getElem?_inj (List.getElem?_eq_some_iff.mp hn).1 h.nd).mp (hn.trans h3.symm))
        rw [List.getElem?_set_ne hmn]
        exact h.cell j m y hj hn

def Bd (f : Found) (m : Nat) : Prop := f.length ≤ 2 * m ∧ ∀ p ∈ f, p.2.length ≤ 2 * m
theorem touch_len (f : Found) (e : Ends) : (touch f e).length ≤ f.length + 1 := by
  unfold touch; split <;> simp
theorem touch_mem {f : Found} {e : Ends} {p : Ends × List Ends} (h : p ∈ touch f e) : p ∈ f ∨ p.2 = [] := by
  unfold touch at h
  split at h
  · exact .inl h
  · rcases List.mem_append.mp h with h | h
    · exact .inl h
    · simp at h; exact .inr (by rw [h])
theorem app_len (f : Found) (e q : Ends) : (app f e q).length = f.length := by simp [app]
theorem app_mem {f : Found} {e q : Ends} {p : Ends × List Ends} (h : p ∈ app f e q) : ∃ p' ∈ f, p.2.length ≤ p'.2.length + 1 := by
  unfold app at h
  obtain ⟨p', h1, rfl⟩ := List.mem_map.mp h
  refine ⟨p', h1, ?_⟩
  split <;> simp
theorem Bd.touch {f : Found} {m k : Nat} {e : Ends} (h : f.length ≤ k ∧ ∀ p ∈ f, p.2.length ≤ m) : (touch f e).length ≤ k + 1 ∧ ∀ p ∈ TwL.touch f e, p.2.length ≤ m := by
  refine ⟨by have := touch_len f e; omega, fun p hp => ?_⟩
  rcases touch_mem hp with q | q
  · exact h.2 p q
  · rw [q]; simp
theorem Bd.app {f : Found} {m k : Nat} {e q : Ends} (h : f.length ≤ k ∧ ∀ p ∈ f, p.2.length ≤ m) : (app f e q).length ≤ k ∧ ∀ p ∈ TwL.app f e q, p.2.length ≤ m + 1 := by
  refine ⟨by rw [app_len]; exact h.1, fun p hp => ?_⟩
  obtain ⟨p', h1, h2⟩ := app_mem hp
  have := h.2 p' h1
  omega
theorem Bd.step {f : Found} {m : Nat} (t : Tie) (h : Bd f m) : Bd (stepF f t) (m + 1) := by
  have h1 := Bd.touch (e := (t.1, t.2.1)) h
  have h2 := Bd.touch (e := (t.2.1, t.1)) h1
  have h3 := Bd.app (e := (t.1, t.2.1)) (q := (t.2.2.1, if t.2.2.2 then 1 else 0)) h2
  have h4 := Bd.app (e := (t.2.1, t.1)) (q := (t.2.2.1, if t.2.2.2 then 2 else 0)) h3
  exact ⟨by have := h4.1; unfold stepF; omega, fun p hp => by have := h4.2 p hp; omega⟩
def b17 : List Stm := match f17 with
  | _ :: .forIn _ _ _ b :: _ => b
  | _ => []
abbrev e17 (L : W) : Tw.Env := [some L, some (.ref 0), none, none, none, none, none, none, none, none, none]
theorem pb_step {d : Nat} {f : Found} {ns : List Nat} {S : Sto} {L : W} {a b k : Int} {o : Bool} (h : FR f ns S) (hb : Bd f 400) (hS : 0 < S.length) :
    ∃ S' ns', execs (R d) LM b17 [some L, some (.ref 0), none, some (.int a), some (.int b), some (.int k), some (.bl o), none, none, none, none] S = .next (e17 L) S' ∧ FR (stepF f (a, b, k, o)) ns' S' ∧ 0 < S'.length := by
  obtain ⟨n1, S1, x1, e1, h1, at1, l1⟩ := setd_ok (e := (a, b)) h (by have := hb.1; omega) hS
  have b1 := Bd.touch (e := (a, b)) hb
  obtain ⟨n2, S2, x2, e2, h2, at2, l2⟩ := setd_ok (e := (b, a)) h1 (by have := b1.1; omega) (by omega)
  have b2 := Bd.touch (e := (b, a)) b1
  obtain ⟨S3, e3, h3, l3, t3⟩ := append_ok (q := (k, if o then 1 else 0)) h2 at1.touch (fun p hp => by have := b2.2 p hp; omega)
  have b3 := Bd.app (e := (a, b)) (q := (k, if o then 1 else 0)) b2
  obtain ⟨S4, e4, h4, l4, t4⟩ := append_ok (q := (k, if o then 2 else 0)) h3 at2.app (fun p hp => by have := b3.2 p hp; omega)
  have ty0 : tyOk (effTy .setd) (.ref 0) S = true := by simp [tyOk, effTy, isDicM, dicOf, h.dic]
  have ty1 : tyOk (effTy .setd) (.ref 0) S1 = true := by simp [tyOk, effTy, isDicM, dicOf, h1.dic]
  have ty3 : tyOk (effTy .append) (.ref n1) S2 = true := t3
  have ty4 : tyOk (effTy .append) (.ref n2) S3 = true := t4
  simp only [encE] at e1 e2 e3 e4
  refine ⟨S4, _, ?_, h4, by omega⟩
  cases o <;> simp only [if_true, Bool.false_eq_true, if_false] at e3 e4 <;> simp [b17, f17, LIM, ty0, ty1, ty3, ty4, e1, e2, e3, e4]

theorem Bd.mono {f : Found} {m k : Nat} (h : Bd f m) (hk : m ≤ k) : Bd f k := ⟨by have := h.1; omega, fun p hp => by have := h.2 p hp; omega⟩
theorem found_bd : ∀ (ts : List Tie) {f : Found} {m : Nat}, Bd f m → Bd (ts.foldl stepF f) (m + ts.length)
  | [], _, _, h => by simpa using h
  | t :: ts, f, m, h => by
    have := found_bd ts (h.step t)
    simp only [List.foldl_cons, List.length_cons]
    rw [show m + (ts.length + 1) = m + 1 + ts.length by omega]
    exact this
theorem bd_nil : Bd [] 0 := ⟨by simp, by simp⟩
theorem pb_loop {d : Nat} {ts : List Tie} (hl : ts.length ≤ 300) : ∃ ns S, forL (.tup [3, 4, 5, 6]) (fun ρ' S' => execs (R d) LM b17 ρ' S') (ts.map encT) (e17 (.lst (ts.map encT))) [.dic true [] []] = .next (e17 (.lst (ts.map encT))) S ∧ FR (foundOf ts) ns S := by
  have h0 : FR (foundOf (ts.take 0)) [] [.dic true [] []] := by
    refine ⟨fun o ho => ?_, rfl, List.nodup_nil, by simp [foundOf], rfl, by simp, by simp [foundOf]⟩
    simp at ho
    exact .inr ⟨[], [], by rw [ho]; rfl⟩
  obtain ⟨ρ2, S2, h1, rfl, ns, h2, _⟩ := forL_pl (body := fun ρ' S' => execs (R d) LM b17 ρ' S') (t := .tup [3, 4, 5, 6]) encT (fun j ρ S => ρ = e17 (.lst (ts.map encT)) ∧ ∃ ns, FR (foundOf (ts.take j)) ns S ∧ 0 < S.length) (all := ts) (xs := ts) (j := 0) (ρ := e17 (.lst (ts.map encT))) (S := [.dic true [] []]) rfl ⟨rfl, [], h0, by simp⟩ (by
    rintro j x ρ S hx ⟨rfl, ns, hf, hS⟩
    obtain ⟨a, b, k, o⟩ := x
    have hjl : j < ts.length := (List.getElem?_eq_some_iff.mp hx).1
    have hb : Bd (foundOf (ts.take j)) 400 := by
      have := found_bd (ts.take j) bd_nil
      exact Bd.mono this (by simp; omega)
    obtain ⟨S', ns', h1, h2, h3⟩ := pb_step (d := d) (L := .lst (ts.map encT)) (a := a) (b := b) (k := k) (o := o) hf hb hS
    refine ⟨_, _, S', rfl, .inl h1, rfl, ns', ?_, h3⟩
    rw [List.take_succ, hx]
    simp only [Option.toList_some, foundOf, List.foldl_append, List.foldl_cons, List.foldl_nil]
    exact h2)
  refine ⟨ns, S2, h1, ?_⟩
  simpa using h2
def valE (ps : List Ends) : W := .tup ((sortBy encE ps).map encE)
/-- the links of a web -/
def links (ts : List Tie) : List (Ends × W) := (foundOf ts).map fun p => (p.1, valE p.2)
theorem ordE : OrdW fun w => ∃ ws, w = .tup ws ∧ isAts [.int, .int] ws := ordTup
theorem isE (e : Ends) : ∃ ws, encE e = .tup ws ∧ isAts [.int, .int] ws := ⟨_, rfl, _, _, rfl, ⟨_, rfl⟩, _, _, rfl, ⟨_, rfl⟩, rfl⟩
def b17b : List Stm := match f17 with
  | _ :: _ :: _ :: .forD _ _ _ b :: _ => b
  | _ => []
theorem dhas_E (es : List Ends) (e : Ends) : dhas (es.map encE) (encE e) = decide (e ∈ es) := by
  unfold dhas
  rw [List.any_map]
  induction es with
  | nil => simp
  | cons x es ih =>
    simp only [List.any_cons, Function.comp, eqE, List.mem_cons]
    rw [show (es.any ((fun k => eqW k (encE e)) ∘ encE)) = decide (e ∈ es) from ih, Bool.eq_iff_iff]
    simp only [Bool.or_eq_true, decide_eq_true_eq]
    constructor
    · rintro (h | h)
      · exact .inl h.symm
      · exact .inr h
    · rintro (h | h)
      · exact .inl h.symm
      · exact .inr h
abbrev e17b (L : W) (m : Nat) : Tw.Env := [some L, some (.ref 0), some (.ref m), none, none, none, none, none, none, none, none]
theorem pb_loop2 {d : Nat} {L : W} {f : Found} {ns : List Nat} {S : Sto} (h : FR f ns S) (hb : Bd f 400) :
    forL (.tup [9, 10]) (fun ρ' S' => execs (R d) LM b17b ρ' S') (zip2 (f.map fun p => encE p.1) (ns.map .ref)) (e17b L S.length) (S.set 0 .dead ++ [.dic true [] []]) =
      .next (e17b L S.length) (S.set 0 .dead ++ [.dic true (f.map fun p => encE p.1) (f.map fun p => valE p.2)]) := by
  rw [zip2_map (fun p : Ends × List Ends => encE p.1) W.ref]
  have hzl : (f.zip ns).length = f.length := by rw [List.length_zip, h.len]; simp
  obtain ⟨ρ2, S2, h1, rfl, rfl⟩ := forL_pl (body := fun ρ' S' => execs (R d) LM b17b ρ' S') (t := .tup [9, 10]) (fun p : (Ends × List Ends) × Nat => W.tup [encE p.1.1, .ref p.2])
    (fun j ρ S' => ρ = e17b L S.length ∧ S' = S.set 0 .dead ++ [.dic true ((f.take j).map fun p => encE p.1) ((f.take j).map fun p => valE p.2)]) (all := f.zip ns) (xs := f.zip ns) (j := 0) (ρ := e17b L S.length) (S := S.set 0 .dead ++ [.dic true [] []]) rfl ⟨rfl, rfl⟩ (by
    rintro j ⟨p, n⟩ ρ S' hx ⟨rfl, rfl⟩
    rw [List.getElem?_zip_eq_some] at hx
    obtain ⟨hp, hn⟩ := hx
    have hjl : j < f.length := (List.getElem?_eq_some_iff.mp hp).1
    have hc := h.cell j n p hp hn
    have hn0 := h.pos n (List.mem_of_getElem? hn)
    have hnS : n < S.length := (List.getElem?_eq_some_iff.mp hc).1
    have hc' : (S.set 0 .dead ++ [Ob.dic true ((f.take j).map fun p => encE p.1) ((f.take j).map fun p => valE p.2)])[n]? = some (.lst (p.2.map encE)) := by
      rw [List.getElem?_append_left (by simpa using hnS), List.getElem?_set_ne (by omega)]
      exact hc
    have hm : (S.set 0 .dead ++ [Ob.dic true ((f.take j).map fun p => encE p.1) ((f.take j).map fun p => valE p.2)])[S.length]? = some (.dic true ((f.take j).map fun p => encE p.1) ((f.take j).map fun p => valE p.2)) := by
      rw [List.getElem?_append_right (by simp)]
      simp
    have hs : sortedSem (S.set 0 .dead ++ [Ob.dic true ((f.take j).map fun p => encE p.1) ((f.take j).map fun p => valE p.2)]) (.ref n) = some ((sortBy encE p.2).map encE) :=
      sorted_map ordE encE (by unfold lstOf; simp only [hc']) (fun a _ => isE a) (by have := hb.2 p (List.mem_of_getElem? hp); simp only [LIM]; omega)
    have hnew : dhas ((f.take j).map fun p => encE p.1) (encE p.1) = false := by
      have e1 : ((f.take j).map fun p => encE p.1) = (((f.map (·.1)).take j).map encE) := by rw [← List.map_take, List.map_map]; rfl
      rw [e1, dhas_E, decide_eq_false_iff_not]
      intro z
      have a1 : (f.map (·.1))[j]? = some p.1 := by rw [List.getElem?_map, hp]; rfl
      obtain ⟨i, hi, e⟩ := List.getElem_of_mem z
      have hi' : i < j := by simp at hi; omega
      have a2 : (f.map (·.1))[i]? = some p.1 := by
        rw [List.getElem_take] at e
        rw [List.getElem?_eq_getElem (by simp; omega), e]
      have := (List.getElem?_inj (List.getElem?_eq_some_iff.mp a2).1 h.kd).mp (a2.trans a1.symm)
      omega
    have lim : ((f.take j).map fun p => encE p.1).length < 100000 := by have := hb.1; rw [List.length_map, List.length_take]; omega
    refine ⟨_, _, _, rfl, .inl ?_, rfl, rfl⟩
    have hset : setSem (S.set 0 .dead ++ [Ob.dic true ((f.take j).map fun p => encE p.1) ((f.take j).map fun p => valE p.2)]) (.ref S.length) (encE p.1) (valE p.2) = some (S.set 0 .dead ++ [Ob.dic true ((f.take (j + 1)).map fun p => encE p.1) ((f.take (j + 1)).map fun p => valE p.2)]) := by
      have tk : f.take (j + 1) = f.take j ++ [p] := by rw [List.take_succ, hp]; rfl
      simp only [setSem, hm, key_E, Bool.true_and, LIM, decide_eq_true_eq]
      rw [if_pos lim]
      congr 1
      simp only [dputK, dputV, hnew, Bool.false_eq_true, if_false]
      rw [List.set_append_right _ _ (by simp), tk]
      simp
    generalize S.set 0 .dead ++ [Ob.dic true ((f.take j).map fun p => encE p.1) ((f.take j).map fun p => valE p.2)] = T at hs hset ⊢
    generalize S.set 0 .dead ++ [Ob.dic true ((f.take (j + 1)).map fun p => encE p.1) ((f.take (j + 1)).map fun p => valE p.2)] = T' at hset ⊢
    simp only [valE] at hset
    simp [b17b, f17, hs, seqOf, hset])
  rw [h1, hzl]
  simp

def lkK (ts : List Tie) : List W := (links ts).map fun p => encE p.1
def lkV (ts : List Tie) : List W := (links ts).map (·.2)
theorem r_pairs {d : Nat} {ts : List Tie} (hl : ts.length ≤ 300) : ∃ S, R (d + 1) 17 [.lst (ts.map encT)] [] = .ok (.ref S.length) (S ++ [.dic true (lkK ts) (lkV ts)]) ∧ ∀ o ∈ S, okC o := by
  rw [run lib_17 rfl]
  obtain ⟨ns, S, h1, h2⟩ := pb_loop (d := d) hl
  have hb : Bd (foundOf ts) 400 := by
    have := found_bd ts bd_nil
    exact Bd.mono this (by omega)
  have h3 := pb_loop2 (d := d) (L := .lst (ts.map encT)) h2 hb
  have hS : 0 < S.length := (List.getElem?_eq_some_iff.mp h2.dic).1
  have e1 := s_for (cf := R d) (L := LM) (t := .tup [3, 4, 5, 6]) (k := .list) (srcs := [.var 0]) (body := b17) (ρ := e17 (.lst (ts.map encT))) (S := [.dic true [] []]) (ws := [.lst (ts.map encT)]) (xs := ts.map encT) (S1 := [.dic true [] []]) (by simp [e17]) rfl
  rw [h1] at e1
  have e2 := s_forD (cf := R d) (L := LM) (t := .tup [9, 10]) (both := true) (a := .var 1) (body := b17b) (ρ := e17b (.lst (ts.map encT)) S.length) (S := S ++ [.dic true [] []]) (S1 := S ++ [.dic true [] []]) (n := 0) (by simp [e17b]) (by rw [List.getElem?_append_left hS]; exact h2.dic)
  rw [if_pos rfl, List.set_append_left _ _ hS, h3, back_next, List.set_append_left _ _ (by simpa using hS), List.set_set] at e2
  have e3 : S.set 0 (Ob.dic true ((foundOf ts).map fun p => encE p.1) (ns.map .ref)) = S := by
    apply List.ext_getElem?
    intro i
    by_cases hi : i = 0
    · subst hi
      rw [List.getElem?_set_self hS]
      exact h2.dic.symm
    · rw [List.getElem?_set_ne (Ne.symm hi)]
  rw [e3] at e2
  refine ⟨S, ?_, h2.all⟩
  have kk : lkK ts = (foundOf ts).map fun p => encE p.1 := by unfold lkK links; rw [List.map_map]; rfl
  have vv : lkV ts = (foundOf ts).map fun p => valE p.2 := by unfold lkV links; rw [List.map_map]; rfl
  rw [kk, vv]
  have bb : f17 = [.asg (.one 1) (.mut (.op (.dicD true) [])), .forIn (.tup [3, 4, 5, 6]) .list [.var 0] b17, .asg (.one 2) (.mut (.op (.dicD true) [])), .forD (.tup [9, 10]) true (.var 1) b17b, .ret (.var 2)] := rfl
  rw [bb]
  simp [opSem, e1, e17, e2, e17b]
theorem lf_E (e : Ends) : lfree (encE e) = true := rfl
theorem lf_valE (ps : List Ends) : lfree (valE ps) = true := by
  unfold valE
  rw [lfree]
  exact lfreeL_map lf_E _
theorem shO_ok {b : Bool} {k : Nat} {o : Ob} (h : okC o) : ∃ o', shO b (shR k) o = some o' := by
  rcases h with ⟨ps, rfl⟩ | ⟨es, ns, rfl⟩
  · refine ⟨.lst (ps.map encE), ?_⟩
    simp [shO, subL_lf (lfreeL_map lf_E ps)]
  · refine ⟨.dic true (es.map encE) (ns.map fun n => .ref (n + k)), ?_⟩
    have q := subL_map (b := b) (g := shR k) (f := W.ref) (f' := fun n => W.ref (n + k)) (fun n => rfl) ns
    simp [shO, subL_lf (lfreeL_map lf_E es), q]
theorem move_pairs {d : Nat} {ts : List Tie} {S : Sto} {w : W} (hl : ts.length ≤ 300) (hw : vws S [w] = some [.lst (ts.map encT)]) : ∃ X, callSem (R (d + 1)) .move 17 [w] S = .ok (.ref (X.length + S.length)) (S ++ (X ++ [.dic true (lkK ts) (lkV ts)])) := by
  obtain ⟨S', h1, h2⟩ := r_pairs (d := d) hl
  have hlast : ∀ b k, shO b (shR k) (.dic true (lkK ts) (lkV ts)) = some (.dic true (lkK ts) (lkV ts)) := fun b k => by
    have v1 : lfreeL (lkK ts) = true := lfreeL_map (f := fun p : Ends × W => encE p.1) (fun p => lf_E p.1) _
    have v2 : lfreeL (lkV ts) = true := by
      unfold lkV links
      rw [List.map_map]
      exact lfreeL_map (fun p => lf_valE _) _
    simp [shO, subL_lf v1, subL_lf v2]
  obtain ⟨X, q1, q2, q3⟩ := shS_all (b := !rfreeL [w]) (g := shR S.length) (S := S' ++ [.dic true (lkK ts) (lkV ts)]) (fun o ho => by
    rcases List.mem_append.mp ho with ho | ho
    · exact shO_ok (h2 o ho)
    · simp at ho; rw [ho]; exact ⟨_, hlast _ _⟩)
  obtain ⟨o', q4, q5⟩ := q3 S'.length (.dic true (lkK ts) (lkV ts)) (by simp)
  rw [hlast] at q4
  cases q4
  have hX : X = X.take S'.length ++ [.dic true (lkK ts) (lkV ts)] := by
    apply List.ext_getElem?
    intro i
    by_cases hi : i < S'.length
    · rw [List.getElem?_append_left (by rw [List.length_take, q2]; simp; omega), List.getElem?_take, if_pos hi]
    · have hlt : (X.take S'.length).length = S'.length := by rw [List.length_take, q2]; simp
      rw [List.getElem?_append_right (by omega), hlt]
      by_cases hi2 : i = S'.length
      · subst hi2; rw [q5]; simp
      · rw [List.getElem?_eq_none (by rw [q2]; simp; omega), List.getElem?_eq_none (by simp; omega)]
  refine ⟨X.take S'.length, ?_⟩
  rw [← hX]
  have hlt : (X.take S'.length).length = S'.length := by rw [List.length_take, q2]; simp
  rw [hlt]
  simp [callSem, hw, h1, q1, sub, shR]

/-! ### Web -/
/-- what a web is refused for -/
def webErr (ks : List (List Nat)) (ts : List Tie) : Option Nat :=
  if ks.length < 1 ∨ 7 < ks.length ∨ 12 < ts.length then some 11 else if !ks.all isWord then some 12 else if !ts.all (isTie ks.length) then some 13 else none
def tiesOf (ts : List Tie) : List Tie := sortBy encT (ts.map plainT)
def encWeb (ks : List (List Nat)) (ts : List Tie) : W := .rcd 0 [.lst (ks.map .str), .lst (ts.map encT), .dic true (lkK ts) (lkV ts)]
theorem ordT : OrdW fun w => ∃ ws, w = .tup ws ∧ isAts [.int, .int, .int, .bl] ws := ordTup
theorem isT (t : Tie) : ∃ ws, encT t = .tup ws ∧ isAts [.int, .int, .int, .bl] ws := ⟨_, rfl, _, _, rfl, ⟨_, rfl⟩, _, _, rfl, ⟨_, rfl⟩, _, _, rfl, ⟨_, rfl⟩, _, _, rfl, ⟨_, rfl⟩, rfl⟩
theorem rf_T (t : Tie) : rfree (encT t) = true := rfl
theorem lf_T (t : Tie) : lfree (encT t) = true := rfl
def b16k : List Stm := match f16 with
  | _ :: .forIn _ _ _ b :: _ => b
  | _ => []
def b16t : List Stm := match f16 with
  | _ :: _ :: .forIn _ _ _ b :: _ => b
  | _ => []
theorem find_all {α : Type} {p : α → Bool} : ∀ {xs : List α}, (match xs.find? fun x => !p x with | none => xs.all p = true | some x => xs.all p = false)
  | [] => rfl
  | x :: xs => by
    have ih := find_all (p := p) (xs := xs)
    simp only [List.find?_cons, List.all_cons]
    cases h : p x with
    | true => simpa using ih
    | false => simp
abbrev e16 (ks : List (List Nat)) (ts : List Tie) : Tw.Env := [some (.ref 0), some (.lst (ks.map .str)), some (.lst (ts.map encT)), none, none]
theorem r_init {d : Nat} {ks : List (List Nat)} {ts : List Tie} (hk : ∀ k ∈ ks, k.length < LIM) (hl : ks.length < LIM) (hl2 : ts.length < LIM) :
    match webErr ks ts with
    | some c => ∃ S', R (d + 2) 16 [.ref 0, .lst (ks.map .str), .lst (ts.map encT)] [.ins 0 []] = .ex c S'
    | none => ∃ X, R (d + 2) 16 [.ref 0, .lst (ks.map .str), .lst (ts.map encT)] [.ins 0 []] = .ok .non ([.ins 0 [.ref 1, .ref 2, .ref (X.length + 3)], .lst (ks.map .str), .lst ((tiesOf ts).map encT)] ++ (X ++ [.dic true (lkK (tiesOf ts)) (lkV (tiesOf ts))])) := by
  have hks : ks.length < 100000 := hl
  have hts : ts.length < 100000 := hl2
  have l1 : forL (.one 3) (fun ρ' S' => execs (R (d + 1)) LM b16k ρ' S') (ks.map .str) (e16 ks ts) [.ins 0 []] = _ :=
    forL_find (S := [.ins 0 []]) W.str isWord (fun k => .ex [some (.ref 0), some (.lst (ks.map .str)), some (.lst (ts.map encT)), some (.str k), none] 12 [.ins 0 []]) (fun _ => trivial) fun k hk' => ⟨_, rfl, by
      have h1 : callSem (R (d + 1)) .pure 19 [.str k] [.ins 0 []] = .ok (.bl (isWord k)) [.ins 0 []] := call_pure rfl (r_word (hk k hk')) rfl
      cases h : isWord k <;> simp [b16k, f16, h1, h]⟩
  have l2 : forL (.one 4) (fun ρ' S' => execs (R (d + 1)) LM b16t ρ' S') (ts.map encT) (e16 ks ts) [.ins 0 []] = _ :=
    forL_find (S := [.ins 0 []]) encT (isTie ks.length) (fun t => .ex [some (.ref 0), some (.lst (ks.map .str)), some (.lst (ts.map encT)), none, some (encT t)] 13 [.ins 0 []]) (fun _ => trivial) fun t ht' => ⟨_, rfl, by
      have h1 : callSem (R (d + 1)) .pure 18 [.int ks.length, encT t] [.ins 0 []] = .ok (.bl (isTie ks.length t)) [.ins 0 []] := call_pure rfl r_tie rfl
      cases h : isTie ks.length t <;> simp [b16t, f16, h1, h, lenSem, seqOf]⟩
  have bb : f16 = [.ite (.or [(.op .lt [(.op .len [(.var 1)]), (.con (.int 1))]), (.op .gt [(.op .len [(.var 1)]), (.con (.int 7))]), (.op .gt [(.op .len [(.var 2)]), (.con (.int 12))])]) [.rais 11] [],
    .forIn (.one 3) .list [.var 1] b16k, .forIn (.one 4) .list [.var 2] b16t,
    .setF 0 0 (.mut (.op .list [(.var 1)])) (.var 0),
    .setF 0 1 (.mut (.op .sorted [(.comp (.call .pure 20 [(.var 4)]) (.one 4) .list [(.var 2)] [] [4])])) (.var 0),
    .setF 0 2 (.call .move 17 [(.fld 0 1 (.var 0))]) (.var 0)] := rfl
  have s1 := s_for (cf := R (d + 1)) (L := LM) (t := .one 3) (k := .list) (srcs := [.var 1]) (body := b16k) (ρ := e16 ks ts) (S := [.ins 0 []]) (ws := [.lst (ks.map .str)]) (xs := ks.map .str) (S1 := [.ins 0 []]) (by simp [e16]) rfl
  have s2 := s_for (cf := R (d + 1)) (L := LM) (t := .one 4) (k := .list) (srcs := [.var 2]) (body := b16t) (ρ := e16 ks ts) (S := [.ins 0 []]) (ws := [.lst (ts.map encT)]) (xs := ts.map encT) (S1 := [.ins 0 []]) (by simp [e16]) rfl
  rw [l1] at s1
  rw [l2] at s2
  rw [run lib_16 rfl, bb]
  unfold webErr
  by_cases c1 : ks.length < 1 ∨ 7 < ks.length ∨ 12 < ts.length
  · rw [if_pos c1]
    refine ⟨[.ins 0 []], ?_⟩
    rcases c1 with c | c | c
    · have : (ks.length : Int) < 1 := by omega
      simp [idxSem, seqOf, Tw.ixN, LIM, lenSem, opAdd, lstOf, eqOp, ltSem, CDiv, isiOp, fldSem, recOf, tyOk, effTy, isDicM, effSem, callSem, newSem, sliceSem, this]
    · have h1 : ¬ (ks.length : Int) < 1 := by omega
      have : (7 : Int) < ks.length := by omega
      simp [idxSem, seqOf, Tw.ixN, LIM, lenSem, opAdd, lstOf, eqOp, ltSem, CDiv, isiOp, fldSem, recOf, tyOk, effTy, isDicM, effSem, callSem, newSem, sliceSem, this, h1]
    · have : (12 : Int) < ts.length := by omega
      simp [idxSem, seqOf, Tw.ixN, LIM, lenSem, opAdd, lstOf, eqOp, ltSem, CDiv, isiOp, fldSem, recOf, tyOk, effTy, isDicM, effSem, callSem, newSem, sliceSem, this]
  · rw [if_neg c1]
    have h1 : ¬ (ks.length : Int) < 1 := by omega
    have h2 : ¬ (7 : Int) < ks.length := by omega
    have h3 : ¬ (12 : Int) < ts.length := by omega
    have f1 := find_all (p := isWord) (xs := ks)
    cases e1 : ks.find? (fun x => !isWord x) with
    | some k =>
      rw [e1] at f1 s1
      simp only at f1 s1
      rw [f1]
      refine ⟨[.ins 0 []], ?_⟩
      simp [idxSem, seqOf, Tw.ixN, LIM, lenSem, opAdd, lstOf, eqOp, ltSem, CDiv, isiOp, fldSem, recOf, tyOk, effTy, isDicM, effSem, callSem, newSem, sliceSem, h1, h2, h3, s1, e16]
    | none =>
      rw [e1] at f1 s1
      simp only at f1 s1
      rw [f1]
      have f2 := find_all (p := isTie ks.length) (xs := ts)
      cases e2 : ts.find? (fun x => !isTie ks.length x) with
      | some t =>
        rw [e2] at f2 s2
        simp only at f2 s2
        rw [f2]
        refine ⟨[.ins 0 []], ?_⟩
        simp [idxSem, seqOf, Tw.ixN, LIM, lenSem, opAdd, lstOf, eqOp, ltSem, CDiv, isiOp, fldSem, recOf, tyOk, effTy, isDicM, effSem, callSem, newSem, sliceSem, h1, h2, h3, s1, s2, e16]
      | none =>
        rw [e2] at f2 s2
        simp only at f2 s2
        rw [f2]
        simp only [Bool.not_true, Bool.false_eq_true, if_false]
        have hcomp : ev (R (d + 1)) (.comp (.call .pure 20 [(.var 4)]) (.one 4) .list [(.var 2)] [] [4]) (e16 ks ts) [.ins 0 [.ref 1], .lst (ks.map .str)] = .ok (.lst ((ts.map plainT).map encT)) [.ins 0 [.ref 1], .lst (ks.map .str)] :=
          comp_map encT encT plainT (ws := [.lst (ts.map encT)]) (by simp [e16]) rfl hl2 fun t ht => ⟨_, rfl, by
            have q : callSem (R (d + 1)) .pure 20 [encT t] [.ins 0 [.ref 1], .lst (ks.map .str)] = .ok (encT (plainT t)) [.ins 0 [.ref 1], .lst (ks.map .str)] := call_pure rfl r_plain rfl
            simp [e16, q]⟩
        have hsort : sortedSem [.ins 0 [.ref 1], .lst (ks.map .str)] (.lst ((ts.map plainT).map encT)) = some ((tiesOf ts).map encT) := sorted_map ordT encT rfl (fun t _ => isT t) (by simpa using hl2)
        have hw : vws [.ins 0 [.ref 1, .ref 2], .lst (ks.map .str), .lst ((tiesOf ts).map encT)] [.ref 2] = some [.lst ((tiesOf ts).map encT)] := by
          simp [vws, subL, sub, lev, cellW, subL_lf (lfreeL_map lf_T (tiesOf ts))]
        obtain ⟨X, hX⟩ := move_pairs (d := d) (ts := tiesOf ts) (by unfold tiesOf; rw [sortBy_len, List.length_map]; omega) hw
        refine ⟨X, ?_⟩
        simp only [List.length_cons, List.length_nil] at hX
        generalize (ts.map plainT).map encT = P at hcomp hsort
        generalize (tiesOf ts).map encT = P' at hsort hX ⊢
        generalize Ob.dic true (lkK (tiesOf ts)) (lkV (tiesOf ts)) = Dd at hX ⊢
        unfold e16 at hcomp s1 s2
        simp only [Nat.zero_add, Nat.reduceAdd] at hX
        simp [lenSem, seqOf, LIM, h1, h2, h3, s1, s2, setFld, hcomp, hsort, fldSem, recOf, hX]

theorem lf_str (k : List Nat) : lfree (W.str k) = true := rfl
theorem lfree_lkK (ts : List Tie) : lfreeL (lkK ts) = true := lfreeL_map (f := fun p : Ends × W => encE p.1) (fun p => lf_E p.1) _
theorem lfree_lkV (ts : List Tie) : lfreeL (lkV ts) = true := by
  unfold lkV links
  rw [List.map_map]
  exact lfreeL_map (fun p => lf_valE _) _
theorem web_vw {b : Bool} {ks : List (List Nat)} {ts : List Tie} {X : Sto} :
    sub b (lev b ([.ins 0 [.ref 1, .ref 2, .ref (X.length + 3)], .lst (ks.map .str), .lst (ts.map encT)] ++ (X ++ [.dic true (lkK ts) (lkV ts)])) 3) (.ref 0) = some (encWeb ks ts) := by
  have h3 : ([Ob.ins 0 [.ref 1, .ref 2, .ref (X.length + 3)], .lst (ks.map .str), .lst (ts.map encT)] ++ (X ++ [.dic true (lkK ts) (lkV ts)]))[X.length + 3]? = some (.dic true (lkK ts) (lkV ts)) := by
    rw [List.getElem?_append_right (by simp)]
    simp
  have h0 : ([Ob.ins 0 [.ref 1, .ref 2, .ref (X.length + 3)], .lst (ks.map .str), .lst (ts.map encT)] ++ (X ++ [.dic true (lkK ts) (lkV ts)]))[0]? = some (.ins 0 [.ref 1, .ref 2, .ref (X.length + 3)]) := rfl
  have h1 : ([Ob.ins 0 [.ref 1, .ref 2, .ref (X.length + 3)], .lst (ks.map .str), .lst (ts.map encT)] ++ (X ++ [.dic true (lkK ts) (lkV ts)]))[1]? = some (.lst (ks.map .str)) := rfl
  have h2 : ([Ob.ins 0 [.ref 1, .ref 2, .ref (X.length + 3)], .lst (ks.map .str), .lst (ts.map encT)] ++ (X ++ [.dic true (lkK ts) (lkV ts)]))[2]? = some (.lst (ts.map encT)) := rfl
  generalize [Ob.ins 0 [.ref 1, .ref 2, .ref (X.length + 3)], .lst (ks.map .str), .lst (ts.map encT)] ++ (X ++ [.dic true (lkK ts) (lkV ts)]) = S at h0 h1 h2 h3 ⊢
  have q1 : ∀ g : Nat → Option W, subL b g (ks.map W.str) = some (ks.map .str) := fun g => subL_lf (lfreeL_map lf_str ks)
  have q2 : ∀ g : Nat → Option W, subL b g (ts.map encT) = some (ts.map encT) := fun g => subL_lf (lfreeL_map lf_T ts)
  have q3 : ∀ g : Nat → Option W, subL b g (lkK ts) = some (lkK ts) := fun g => subL_lf (lfree_lkK ts)
  have q4 : ∀ g : Nat → Option W, subL b g (lkV ts) = some (lkV ts) := fun g => subL_lf (lfree_lkV ts)
  simp [sub, lev, cellW, h0, subL, h1, h2, h3, q1, q2, q3, q4, encWeb]
/-- Web(kinds, ties) -/
theorem new_web {d : Nat} {ks : List (List Nat)} {ts : List Tie} {ws : List W} {S : Sto} (hw : vws S ws = some [.lst (ks.map .str), .lst (ts.map encT)]) (hk : ∀ k ∈ ks, k.length < LIM) (hl : ks.length < LIM) (hl2 : ts.length < LIM) :
    newSem (R (d + 2)) .pure 0 16 ws S = match webErr ks ts with
      | some c => .ex c S
      | none => .ok (encWeb ks (tiesOf ts)) S := by
  have h := r_init (d := d) hk hl hl2
  simp only [newSem, hw]
  cases e : webErr ks ts with
  | some c =>
    rw [e] at h
    obtain ⟨S', h⟩ := h
    rw [h]
  | none =>
    rw [e] at h
    obtain ⟨X, h⟩ := h
    rw [h]
    have v1 := web_vw (b := false) (ks := ks) (ts := tiesOf ts) (X := X)
    have v2 := web_vw (b := true) (ks := ks) (ts := tiesOf ts) (X := X)
    simp only
    split
    · rw [show vw _ (.ref 0) = _ from v1]; rfl
    · rw [show vwB _ (.ref 0) = _ from v2]; rfl
theorem rf_web (ks : List (List Nat)) (ts : List Tie) : rfree (encWeb ks ts) = true := by
  have q1 := rfreeL_map (f := W.str) (fun _ => rfl) ks
  have q2 := rfreeL_map (f := encT) (fun _ => rfl) ts
  have q3 : rfreeL (lkK ts) = true := rfreeL_map (f := fun p : Ends × W => encE p.1) (fun p => rfl) _
  have q4 : rfreeL (lkV ts) = true := by
    unfold lkV links
    rw [List.map_map]
    exact rfreeL_map (fun p => by simp only [Function.comp, valE, rfree]; exact rfreeL_map (fun _ => rfl) _) _
  simp [encWeb, rfree, rfreeL, q1, q2, q3, q4]
theorem r_size {d : Nat} {ks : List (List Nat)} {ts : List Tie} {S : Sto} : R (d + 1) 11 [encWeb ks ts] S = .ok (.int ks.length) S := by
  rw [run lib_11 rfl]
  simp [idxSem, seqOf, Tw.ixN, LIM, lenSem, opAdd, lstOf, eqOp, ltSem, CDiv, isiOp, fldSem, recOf, tyOk, effTy, isDicM, effSem, callSem, newSem, sliceSem, f11, encWeb]
end TwL

/-! what many laws share: numbers, words, kinds -/
namespace TwL
open Tw
theorem cut_map {α β : Type} (f : α → β) (xs : List α) (lo hi : Option Int) : cut (xs.map f) lo hi = (cut xs lo hi).map f := by
  simp [cut]
theorem cmul_r {a b : Int} (h : b.natAbs < 2 ^ 64) : CMul a b = true := by
  unfold CMul
  simp only [Bool.or_eq_true, decide_eq_true_eq]
  exact .inr h
theorem cmul_l {a b : Int} (h : a.natAbs < 2 ^ 64) : CMul a b = true := by
  unfold CMul
  simp only [Bool.or_eq_true, decide_eq_true_eq]
  exact .inl h
theorem mulO {S : Sto} {a b : Int} (h : CMul a b = true) : opMul S (.int a) (.int b) = some (.int (a * b)) := by
  simp [opMul, h]
def mix (c k : Int) : Int := ((c % 2147483647 + 1 + 7919 * k * k) * 48271 % 2147483629) * ((c % 2147483647 + 1 + 7919 * k * k) * 48271 % 2147483629) % 998244353
theorem mix_rng (c k : Int) : 0 ≤ mix c k ∧ mix c k < 998244353 := by
  unfold mix
  constructor
  · exact Int.emod_nonneg _ (by omega)
  · exact Int.emod_lt_of_pos _ (by omega)
theorem r_mix {d : Nat} {c k : Int} {S : Sto} (hk : 0 ≤ k ∧ k < 1000000) : R (d + 1) 24 [.int c, .int k] S = .ok (.int (mix c k)) S := by
  rw [run lib_24 rfl]
  have h1 : CMul 7919 k = true := cmul_l (by decide)
  have h2 : CMul (7919 * k) k = true := cmul_r (by omega)
  have h3 : ∀ x, CMul x 48271 = true := fun x => cmul_r (by decide)
  have h4 : ∀ x : Int, CMul (x % 2147483629) (x % 2147483629) = true := fun x => cmul_r (by omega)
  simp [f24, h1, h2, h3, h4, mix]
theorem r_whole {d : Nat} {a : Int} {S : Sto} : R (d + 1) 12 [.int a] S = .ok (.bl true) S := by
  rw [run lib_12 rfl]
  simp [idxSem, seqOf, Tw.ixN, LIM, lenSem, opAdd, lstOf, eqOp, ltSem, CDiv, isiOp, fldSem, recOf, tyOk, effTy, isDicM, effSem, callSem, newSem, sliceSem, f12]
def cells (ns : List Int) (a m : Int) : List Int := cut (cut ns (some a) (some (a + m)) ++ [a + 1, 5, 2, 9, 4, 7, 1, 8, 3, 6, 0, 11, 13, 12, 10, 14]) none (some m)
theorem cells_len (ns : List Int) (a : Int) : (cells ns a 12).length = 12 := by
  unfold cells
  generalize cut ns (some a) (some (a + 12)) = xs
  simp [cut, sIx]
theorem cut_len {α : Type} (xs : List α) (lo hi : Option Int) : (cut xs lo hi).length ≤ xs.length := by
  simp [cut]
  omega
theorem r_cells {d : Nat} {ns : List Int} {a m : Int} (hl : ns.length < 1000) : R (d + 1) 29 [.klst ns, .int a, .int m] [] = .ok (.ref 0) [.lst ((cells ns a m).map .int)] := by
  rw [run lib_29 rfl]
  have e1 : cut (ns.map W.int) (some a) (some (a + m)) = (cut ns (some a) (some (a + m))).map .int := cut_map _ _ _ _
  have e2 := cut_len ns (some a) (some (a + m))
  have e3 : ((cut ns (some a) (some (a + m))).map W.int).length + 16 < 100000 := by rw [List.length_map]; omega
  have e4 : (cells ns a m).map W.int = cut ((cut ns (some a) (some (a + m))).map W.int ++ [.int (a + 1), .int 5, .int 2, .int 9, .int 4, .int 7, .int 1, .int 8, .int 3, .int 6, .int 0, .int 11, .int 13, .int 12, .int 10, .int 14]) none (some m) := by
    unfold cells
    rw [← cut_map]
    simp
  rw [e4]
  generalize (cut ns (some a) (some (a + m))).map W.int = P at e1 e3 ⊢
  simp [idxSem, seqOf, Tw.ixN, LIM, lenSem, opAdd, lstOf, eqOp, ltSem, CDiv, isiOp, fldSem, recOf, tyOk, effTy, isDicM, effSem, callSem, newSem, sliceSem, f29, e1, e3]

/-- the letters, by a number -/
theorem idx_abc (S : Sto) (x : Int) : ∃ c, letter c = true ∧ idxSem S (.str abc) (.int (x % 26)) = some (.str [c]) := by
  have h1 := Int.emod_nonneg x (show (26 : Int) ≠ 0 by omega)
  have h2 := Int.emod_lt_of_pos x (show (0 : Int) < 26 by omega)
  generalize x % 26 = y at h1 h2
  have : y = 0 ∨ y = 1 ∨ y = 2 ∨ y = 3 ∨ y = 4 ∨ y = 5 ∨ y = 6 ∨ y = 7 ∨ y = 8 ∨ y = 9 ∨ y = 10 ∨ y = 11 ∨ y = 12 ∨ y = 13 ∨ y = 14 ∨ y = 15 ∨ y = 16 ∨ y = 17 ∨ y = 18 ∨ y = 19 ∨ y = 20 ∨ y = 21 ∨ y = 22 ∨ y = 23 ∨ y = 24 ∨ y = 25 := by omega
  rcases this with h | h | h | h | h | h | h | h | h | h | h | h | h | h | h | h | h | h | h | h | h | h | h | h | h | h <;> subst h <;> exact ⟨_, by decide, rfl⟩
theorem letter_lt {c : Nat} (h : letter c = true) : c < 128 := by
  unfold letter at h
  simp at h
  omega
theorem cut_mem {α : Type} {xs : List α} {lo hi : Option Int} {x : α} (h : x ∈ cut xs lo hi) : x ∈ xs := List.mem_of_mem_drop (List.mem_of_mem_take h)
theorem cut_lo {α : Type} (xs : List α) {p : Int} (hp : 0 ≤ p) : (cut xs none (some p)).length ≤ p.toNat := by
  have : ¬ p < 0 := by omega
  simp [cut, sIx, this]
  omega
theorem cut_mid {α : Type} (xs : List α) {i j : Int} (hi : 0 ≤ i) (hj : 0 ≤ j) : (cut xs (some i) (some j)).length ≤ (j - i).toNat := by
  have h1 : ¬ i < 0 := by omega
  have h2 : ¬ j < 0 := by omega
  simp [cut, sIx, h1, h2]
  omega
/-- a word of the law's: letters, no more than three -/
def okW (s : List Nat) : Prop := s.length ≤ 3 ∧ ∀ c ∈ s, letter c = true
theorem r_lword {d : Nat} {a b : Int} {S : Sto} (ha : 0 ≤ a) : ∃ s, okW s ∧ 1 ≤ s.length ∧ R (d + 1) 26 [.int a, .int b] S = .ok (.str s) S := by
  obtain ⟨c0, l0, i0⟩ := idx_abc S (a / 9)
  obtain ⟨c1, l1, i1⟩ := idx_abc S (a / 9 + 7)
  obtain ⟨c2, l2, i2⟩ := idx_abc S (a / 9 + 14)
  obtain ⟨c3, l3, i3⟩ := idx_abc S (a / 9 + 7 * (a / 3 % (1 + a % 3)) + b)
  have hcomp : ev (R d) (.comp (.op .idx [(.var 2), (.op .mod [(.op .add [(.op .fdiv [(.var 0), (.con (.int 9))]), (.op .mul [(.con (.int 7)), (.var 7)])]), (.con (.int 26))])]) (.one 7) .range1 [(.con (.int 3))] [] [7]) [some (.int a), some (.int b), some (.str abc), none, none, none, none, none] S = .ok (.lst [.str [c0], .str [c1], .str [c2]]) S := by
    refine s_comp (ws := [.int 3]) (xs := [.int 0, .int 1, .int 2]) (S1 := S) (by simp) rfl (by decide) ?_
    have m : ∀ x : Int, CMul 7 x = true := fun x => cmul_l (by decide)
    simp [compL, CDiv, m, i0, i1, i2]
  have hbase : ∀ c ∈ [c0, c1, c2], letter c = true := by simp [l0, l1, l2]
  have m7 : ∀ x : Int, CMul 7 x = true := fun x => cmul_l (by decide)
  have hj : joinS [] [[c0], [c1], [c2]] = [c0, c1, c2] := rfl
  have z1 := Int.emod_nonneg a (show (3 : Int) ≠ 0 by omega)
  have z2 := Int.emod_lt_of_pos a (show (0 : Int) < 3 by omega)
  have z3 : (0 : Int) < 1 + a % 3 := by omega
  have p1 := Int.emod_nonneg (a / 3) (show (1 + a % 3 : Int) ≠ 0 by omega)
  have p2 := Int.emod_lt_of_pos (a / 3) z3
  rw [run lib_26 rfl]
  unfold abc at hcomp i3
  by_cases h : a / 3 % 4 = 0
  · refine ⟨cut [c0, c1, c2] none (some (1 + b % 3)), ⟨cut_len _ _ _, fun c hc => hbase c (cut_mem hc)⟩, ?_, ?_⟩
    · have b1 := Int.emod_nonneg b (show (3 : Int) ≠ 0 by omega)
      have b2 : ¬ 1 + b % 3 < 0 := by omega
      simp [cut, sIx, b2]
      omega
    simp [idxSem, seqOf, Tw.ixN, LIM, lenSem, opAdd, lstOf, eqOp, ltSem, CDiv, isiOp, fldSem, recOf, tyOk, effTy, isDicM, effSem, callSem, newSem, sliceSem, f26, hcomp, strsOf, opSem, hj, h]
  · refine ⟨cut [c0, c1, c2] none (some (a / 3 % (1 + a % 3))) ++ [c3] ++ cut [c0, c1, c2] (some (a / 3 % (1 + a % 3) + 1)) (some (1 + a % 3)), ⟨?_, fun c hc => ?_⟩, by simp; omega, ?_⟩
    · have q1 := cut_lo [c0, c1, c2] p1
      have q2 := cut_mid [c0, c1, c2] (show 0 ≤ a / 3 % (1 + a % 3) + 1 by omega) (show 0 ≤ 1 + a % 3 by omega)
      simp only [List.length_append, List.length_cons, List.length_nil]
      omega
    · rcases List.mem_append.mp hc with hc | hc
      · rcases List.mem_append.mp hc with hc | hc
        · exact hbase c (cut_mem hc)
        · simp at hc; rw [hc]; exact l3
      · exact hbase c (cut_mem hc)
    · have w1 := cut_len [c0, c1, c2] none (some (a / 3 % (1 + a % 3)))
      have w2 := cut_len [c0, c1, c2] (some (a / 3 % (1 + a % 3) + 1)) (some (1 + a % 3))
      simp only [List.length_cons, List.length_nil] at w1 w2
      generalize hP : cut [c0, c1, c2] none (some (a / 3 % (1 + a % 3))) = P at w1 ⊢
      generalize hQ : cut [c0, c1, c2] (some (a / 3 % (1 + a % 3) + 1)) (some (1 + a % 3)) = Q at w2 ⊢
      have b1 : P.length + 1 < 100000 := by omega
      have b2 : P.length + 1 + Q.length < 100000 := by omega
      simp [f26, hcomp, strsOf, opSem, hj, h, z3, m7, i3, hP, hQ, b1, b2, seqOf, LIM, opAdd, eqOp, CDiv, tyOk, sliceSem]

theorem pow30 : CPow 10 30 = true := by decide
theorem idx_map {α : Type} (enc : α → W) {S : Sto} {xs : List α} {y : Int} (h1 : 0 ≤ y) (h2 : y < xs.length) : ∃ x, x ∈ xs ∧ xs[y.toNat]? = some x ∧ idxSem S (.lst (xs.map enc)) (.int y) = some (enc x) := by
  have hl : y.toNat < xs.length := by omega
  refine ⟨xs[y.toNat], List.getElem_mem hl, List.getElem?_eq_getElem hl, ?_⟩
  have e : Tw.ixN xs.length y = some y.toNat := by
    unfold Tw.ixN
    rw [if_pos h1, if_pos (by omega)]
  simp [idxSem, seqOf, e, hl]
def okK (i : Int) : Prop := 0 ≤ i ∧ i < 10 ^ 30
theorem p30 : (10 : Int) ^ 30 = 1000000000000000000000000000000 := by decide
theorem r_kind {d : Nat} {c a : Int} {S : Sto} (ha : 0 ≤ a ∧ a < 1000000000) : ∃ i, okK i ∧ R (d + 2) 28 [.int c, .int a] S = .ok (.int i) S := by
  have hm : callSem (R (d + 1)) .pure 24 [.int c, .int 3] S = .ok (.int (mix c 3)) S := call_pure rfl (r_mix (by omega)) rfl
  have c1 : CMul (a + 1) 618033988749894848204586834367 = true := cmul_l (by omega)
  have h1 := Int.emod_nonneg (mix c 3) (show (5 : Int) ≠ 0 by omega)
  have h2 := Int.emod_lt_of_pos (mix c 3) (show (0 : Int) < 5 by omega)
  have q : ∀ x : Int, okK (x % 1000000000000000000000000000000) := fun x => ⟨Int.emod_nonneg x (by omega), by rw [p30]; exact Int.emod_lt_of_pos x (by omega)⟩
  rw [run lib_28 rfl]
  by_cases h4 : mix c 3 % 5 = 4
  · exact ⟨_, q c, by simp [f28, hm, c1, pow30, h4, eqOp]⟩
  · obtain ⟨x, hx, _, hi⟩ := idx_map W.int (S := S) (xs := [(a + 1) * 618033988749894848204586834367 % 1000000000000000000000000000000, (a + 1) * 618033988749894848204586834367 % 1000000000000000000000000000000, ((a + 1) * 618033988749894848204586834367 + 1) % 1000000000000000000000000000000, 0]) h1 (by simp; omega)
    refine ⟨x, ?_, ?_⟩
    · simp only [List.mem_cons, List.not_mem_nil, or_false] at hx
      rcases hx with hx | hx | hx | hx <;> rw [hx]
      · exact q _
      · exact q _
      · exact q _
      · exact ⟨by omega, by rw [p30]; omega⟩
    · simp only [List.map_cons, List.map_nil] at hi
      simp [f28, hm, c1, pow30, h4, eqOp, hi, LIM]
end TwL

/-! family A: webs drawn -/
namespace TwL
open Tw
abbrev encN : Nat → W := fun j => .int (j : Int)
def c33 : E := .op .gt [(.op .len [(.var 2)]), (.con (.int 0))]
def b33 : List Stm := match f33 with
  | _ :: _ :: .whil _ b :: _ => b
  | _ => []
theorem r_shuffled {d : Nat} {a : Int} {n : Nat} (hn : n ≤ 50) : ∃ os : List Nat, os.Perm (List.range n) ∧ R (d + 2) 33 [.int a, .int (n : Int)] [] = .ok (.ref 1) [.lst [], .lst (os.map encN)] := by
  have key := whileL_meas (c := fun ρ' S' => ev (R (d + 1)) c33 ρ' S') (body := fun ρ' S' => execs (R (d + 1)) LM b33 ρ' S')
    (fun k ρ S => ρ = [some (.int a), some (.int (n : Int)), some (.ref 0), some (.ref 1)] ∧ ∃ rest os : List Nat, S = [.lst (rest.map encN), .lst (os.map encN)] ∧ rest.length = k ∧ k ≤ 50 ∧ os.length ≤ 50 ∧ (os ++ rest).Perm (List.range n))
    (fun ρ S => ρ = [some (.int a), some (.int (n : Int)), some (.ref 0), some (.ref 1)] ∧ ∃ os : List Nat, S = [.lst [], .lst (os.map encN)] ∧ os.Perm (List.range n)) (by
      rintro k ρ S ⟨rfl, rest, os, rfl, h1, h2, h3, h4⟩
      obtain ⟨L, hL⟩ : ∃ L : Int, L = rest.length := ⟨_, rfl⟩
      have hlen : lenSem [.lst (rest.map encN), .lst (os.map encN)] (.ref 0) = some L := by simp [lenSem, seqOf, hL]
      have hm : callSem (R (d + 1)) .pure 24 [.int a, .int (50 + L)] [.lst (rest.map encN), .lst (os.map encN)] = .ok (.int (mix a (50 + L))) [.lst (rest.map encN), .lst (os.map encN)] := call_pure rfl (r_mix (by omega)) rfl
      have L0 : 0 < L := by omega
      have q1 := Int.emod_nonneg (mix a (50 + L)) (show L ≠ 0 by omega)
      have q2 := Int.emod_lt_of_pos (mix a (50 + L)) L0
      generalize hj : (mix a (50 + L) % L).toNat = j
      have hjl : j < rest.length := by omega
      have hix : Tw.ixN (rest.map encN).length (mix a (50 + L) % L) = some j := by
        unfold Tw.ixN
        rw [if_pos q1, if_pos (by simp; omega), hj]
      have hpop : effSem .pop1 [.ref 0, .int (mix a (50 + L) % L)] [.lst (rest.map encN), .lst (os.map encN)] = some (encN rest[j], [.lst ((rest.eraseIdx j).map encN), .lst (os.map encN)]) := by
        simp only [effSem, List.getElem?_cons_zero, hix, Option.bind_some, List.getElem?_map, List.getElem?_eq_getElem hjl, Option.map_some, List.set_cons_zero, erase_map]
      have hlo : (os.map encN).length < 100000 := by rw [List.length_map]; omega
      have happ : effSem .append [.ref 1, encN rest[j]] [.lst ((rest.eraseIdx j).map encN), .lst (os.map encN)] = some (.non, [.lst ((rest.eraseIdx j).map encN), .lst ((os ++ [rest[j]]).map encN)]) := by
        simp only [effSem, List.getElem?_cons_succ, List.getElem?_cons_zero, LIM, hlo, if_true, List.set_cons_succ, List.set_cons_zero, List.map_append, List.map_cons, List.map_nil]
      refine ⟨[.lst (rest.map encN), .lst (os.map encN)], _, [.lst ((rest.eraseIdx j).map encN), .lst ((os ++ [rest[j]]).map encN)], ?_, .inl ?_, rfl, rest.eraseIdx j, os ++ [rest[j]], rfl, ?_, ?_, ?_, ?_⟩
      · simp [c33, hlen, L0]
      · have t0 : tyOk (effTy .pop1) (.ref 0) [.lst (rest.map encN), .lst (os.map encN)] = true := rfl
        have t1 : tyOk (effTy .append) (.ref 1) [.lst (rest.map encN), .lst (os.map encN)] = true := rfl
        simp only [encN] at hpop happ
        simp [b33, f33, hlen, hm, L0, t0, t1, hpop, happ]
      · rw [List.length_eraseIdx_of_lt hjl]; omega
      · omega
      · have hp := h4.length_eq
        simp at hp
        simp
        omega
      · refine List.Perm.trans ?_ h4
        rw [List.append_assoc]
        refine List.Perm.append_left os ?_
        exact erase_perm hjl) (by
      rintro ρ S ⟨rfl, rest, os, rfl, h1, h2, h3, h4⟩
      have : rest = [] := List.length_eq_zero_iff.mp h1
      subst this
      exact ⟨[.lst [], .lst (os.map encN)], by simp [c33, lenSem, seqOf], rfl, os, rfl, by simpa using h4⟩)
    n LM [some (.int a), some (.int (n : Int)), some (.ref 0), some (.ref 1)] [.lst ((List.range n).map encN), .lst []] (by simp only [LM]; omega) ⟨rfl, List.range n, [], rfl, by simp, hn, by simp, by simp⟩
  obtain ⟨ρ', S', h1, rfl, os, rfl, h2⟩ := key
  refine ⟨os, h2, ?_⟩
  have hw : exec (R (d + 1)) LM (.whil c33 b33) [some (.int a), some (.int (n : Int)), some (.ref 0), some (.ref 1)] [.lst ((List.range n).map encN), .lst []] = _ := s_whil
  rw [h1] at hw
  have bb : f33 = [.asg (.one 2) (.mut (.op (.rangeL false false) [(.var 1)])), .asg (.one 3) (.mut (.op .lstD [])), .whil c33 b33, .ret (.var 3)] := rfl
  have hr : opSem (.rangeL false false) [.int (n : Int)] [] = some (.lst ((List.range n).map encN)) := by
    rw [o_rangeL (by omega) (by omega), rgW_nat]
  rw [run lib_33 rfl, bb]
  simp [LIM, hr, hw]

abbrev encNN : Nat × Nat → W := fun p => .tup [.int (p.1 : Int), .int (p.2 : Int)]
def famOf (h m : Nat) : List (Nat × Nat) :=
  if h = 1 ∧ 1 < m then (List.range m).map fun k => (k, (k + 1) % m)
  else if h = 2 then (List.range (m - 1)).map fun k => (0, k + 1)
  else if h = 3 then ((List.range (m / 2 - 1)).map fun k => (k, k + 1)) ++ ((List.range (m / 2 - 1)).map fun k => (m / 2 + k, m / 2 + k + 1))
  else if h = 4 ∧ m < 6 then (List.range m).flatMap fun k => (List.range k).map fun j => (j, k)
  else []
def okNN (m : Nat) (ps : List (Nat × Nat)) : Bool := decide (ps.length ≤ 10) && ps.all fun p => decide (p.1 < m) && decide (p.2 < m) && decide (p.1 ≠ p.2)
theorem fam_ok (h m : Nat) (h1 : h < 6) (h2 : 1 ≤ m ∧ m ≤ 7) : okNN m (famOf h m) = true := by
  have e1 : h = 0 ∨ h = 1 ∨ h = 2 ∨ h = 3 ∨ h = 4 ∨ h = 5 := by omega
  have e2 : m = 1 ∨ m = 2 ∨ m = 3 ∨ m = 4 ∨ m = 5 ∨ m = 6 ∨ m = 7 := by omega
  rcases e1 with e | e | e | e | e | e <;> subst e <;> rcases e2 with e | e | e | e | e | e | e <;> subst e <;> decide
theorem r_family {d : Nat} {a : Int} {h m : Nat} (ha : a % 6 = h) (h2 : 1 ≤ m ∧ m ≤ 7) : R (d + 1) 34 [.int a, .int (m : Int)] [] = .ok (.ref 0) [.lst ((famOf h m).map encNN)] := by
  have h1 : h < 6 := by omega
  have e1 : h = 0 ∨ h = 1 ∨ h = 2 ∨ h = 3 ∨ h = 4 ∨ h = 5 := by omega
  have e2 : m = 1 ∨ m = 2 ∨ m = 3 ∨ m = 4 ∨ m = 5 ∨ m = 6 ∨ m = 7 := by omega
  have key : execs (R d) LM f34.tail [some (.int a), some (.int (m : Int)), some (.int (h : Int)), none, none, none, none] [] = .ret (.ref 0) [.lst ((famOf h m).map encNN)] := by
    clear ha
    rcases e1 with e | e | e | e | e | e <;> subst e <;> rcases e2 with e | e | e | e | e | e | e <;> subst e <;> rfl
  have bb : f34 = .asg (.one 2) (.op .mod [(.var 0), (.con (.int 6))]) :: f34.tail := rfl
  rw [run lib_34 rfl, bb]
  simp [ha, key]
end TwL

/-! family A: webs drawn, on -/
namespace TwL
open Tw
theorem other_ne {o r m : Int} (h0 : 0 ≤ o) (h1 : o < m) (r1 : 1 ≤ r) (r2 : r < m) : (o + r) % m ≠ o ∧ 0 ≤ (o + r) % m ∧ (o + r) % m < m := by
  by_cases h : o + r < m
  · rw [Int.emod_eq_of_lt (by omega) h]
    omega
  · have e : (o + r) % m = o + r - m := by
      have : o + r = (o + r - m) + m := by omega
      rw [this]
      have h2 : (o + r - m + m) % m = (o + r - m) % m := by first | exact Int.add_emod_right _ _ | exact Int.add_emod_self
      rw [h2, Int.emod_eq_of_lt (by omega) (by omega)]
      omega
    rw [e]
    omega
def b32t : List Stm := match f32 with
  | _ :: _ :: _ :: .forIn _ _ _ b :: _ => b
  | _ => []
def b32k : List Stm := match f32 with
  | _ :: _ :: _ :: _ :: _ :: .forIn _ _ _ b :: _ => b
  | _ => []
abbrev e32 (cs : List Int) (a m : Int) (os : List Nat) (far : Int) : Tw.Env := [some (.lst (cs.map .int)), some (.int a), some (.int m), some (.lst (os.map encN)), some (.int far), some (.ref 0), none, none, none, none, none, none, none]
theorem isTie_mk {m o r k : Int} {b : Bool} (h0 : 0 ≤ o) (h1 : o < m) (r1 : 1 ≤ r) (r2 : r < m) (hk : okK k) : isTie m (o, (o + r) % m, k, b) = true := by
  obtain ⟨q1, q2, q3⟩ := other_ne h0 h1 r1 r2
  obtain ⟨k1, k2⟩ := hk
  unfold isTie
  have : ¬ o = (o + r) % m := fun z => q1 z.symm
  simp [this, h0, h1, q2, q3, k1]
  exact k2
theorem r_awt {d : Nat} {cs : List Int} {a m c far : Int} {os : List Nat} {ts : List Tie} (ha : 0 ≤ a ∧ a < 1000000000) (hl : ts.length ≤ 12) (ho : ∀ t ∈ ts, isTie m t = true) :
    ∃ ts' : List Tie, ts'.length ≤ 12 ∧ (∀ t ∈ ts', isTie m t = true) ∧ execs (R (d + 2)) LM b32t ((e32 cs a m os far).set 6 (some (.int c))) [.lst (ts.map encT)] = .next (e32 cs a m os far) [.lst (ts'.map encT)] := by
  have h8 : callSem (R (d + 2)) .pure 24 [.int c, .int 8] [.lst (ts.map encT)] = .ok (.int (mix c 8)) [.lst (ts.map encT)] := call_pure rfl (r_mix (by omega)) rfl
  generalize mix c 8 = x at h8
  obtain ⟨n, hn⟩ : ∃ n : Int, n = ts.length := ⟨_, rfl⟩
  have hlen : lenSem [.lst (ts.map encT)] (.ref 0) = some n := by simp [lenSem, seqOf, hn]
  by_cases hm : 1 < m
  · by_cases hc : n < 12
    · by_cases hx : a % 6 = 0 ∨ x % 6 = 0
      · obtain ⟨k, hk, hkr⟩ := r_kind (d := d) (c := c) (S := []) ha
        have hk' : callSem (R (d + 2)) .pure 28 [.int c, .int a] [.lst (ts.map encT)] = .ok (.int k) [.lst (ts.map encT)] := call_pure rfl hkr rfl
        have m0 : 0 < m := by omega
        let t : Tie := (x / 6 % m, (x / 6 % m + 1 + x / 60 % (m - 1)) % m, k, x / 7 % 3 == 0)
        have ht : isTie m t = true := by
          have e : x / 6 % m + 1 + x / 60 % (m - 1) = x / 6 % m + (1 + x / 60 % (m - 1)) := by omega
          have p1 := Int.emod_nonneg (x / 6) (show m ≠ 0 by omega)
          have p2 := Int.emod_lt_of_pos (x / 6) m0
          have p3 := Int.emod_nonneg (x / 60) (show m - 1 ≠ 0 by omega)
          have p4 := Int.emod_lt_of_pos (x / 60) (show 0 < m - 1 by omega)
          show isTie m (_, (x / 6 % m + 1 + x / 60 % (m - 1)) % m, _, _) = true
          rw [e]
          exact isTie_mk p1 p2 (by omega) (by omega) hk
        have hlt : (ts.map encT).length < 100000 := by rw [List.length_map]; omega
        have hT : encT t = .tup [.int (x / 6 % m), .int ((x / 6 % m + 1 + x / 60 % (m - 1)) % m), .int k, .bl (x / 7 % 3 == 0)] := rfl
        have app1 : effSem .append [.ref 0, encT t] [.lst (ts.map encT)] = some (.non, [.lst ((ts ++ [t]).map encT)]) := by
          simp only [effSem, List.getElem?_cons_zero, LIM, hlt, if_true, List.set_cons_zero, List.map_append, List.map_cons, List.map_nil]
        have ty0 : tyOk (effTy .append) (.ref 0) [.lst (ts.map encT)] = true := rfl
        have ty1 : tyOk (effTy .append) (.ref 0) [.lst ((ts ++ [t]).map encT)] = true := rfl
        have hlen2 : lenSem [.lst ((ts ++ [t]).map encT)] (.ref 0) = some (n + 1) := by simp [lenSem, seqOf, hn]
        have hlast : idxSem [.lst ((ts ++ [t]).map encT)] (.ref 0) (.int (-1)) = some (encT t) := by
          have e : Tw.ixN ((ts ++ [t]).map encT).length (-1) = some ts.length := by
            rw [ixN_neg1 (by simp)]
            simp
          simp only [idxSem, seqOf, List.getElem?_cons_zero, e, Option.bind_some]
          simp
        have hlt2 : ((ts ++ [t]).map encT).length < 100000 := by rw [List.length_map]; simp; omega
        have app2 : effSem .append [.ref 0, encT t] [.lst ((ts ++ [t]).map encT)] = some (.non, [.lst ((ts ++ [t] ++ [t]).map encT)]) := by
          have e : (ts ++ [t] ++ [t]).map encT = (ts ++ [t]).map encT ++ [encT t] := by simp
          rw [e]
          generalize (ts ++ [t]).map encT = B at hlt2
          simp only [effSem, List.getElem?_cons_zero, LIM, hlt2, if_true, List.set_cons_zero]
        have ho1 : ∀ q ∈ ts ++ [t], isTie m q = true := fun q hq => by
          rcases List.mem_append.mp hq with hq | hq
          · exact ho q hq
          · simp at hq; rw [hq]; exact ht
        by_cases hd : x / 21 % 5 = 0 ∧ n + 1 < 12
        · obtain ⟨d1, d2⟩ := hd
          refine ⟨ts ++ [t] ++ [t], by simp; omega, fun q hq => ?_, ?_⟩
          · rcases List.mem_append.mp hq with hq | hq
            · exact ho1 q hq
            · simp at hq; rw [hq]; exact ht
          · rw [hT] at app1 app2 hlast
            generalize (ts ++ [t]).map encT = B1 at *
            generalize (ts ++ [t] ++ [t]).map encT = B2 at *
            generalize ts.map encT = B0 at *
            rcases hx with hx | hx
            · simp [b32t, f32, e32, h8, hm, hc, hx, hlen, eqOp, CDiv, m0, hk', LIM, ty0, app1, d1, d2, hlen2, ty1, hlast, app2]
            · by_cases hx2 : a % 6 = 0 <;> simp [b32t, f32, e32, h8, hm, hc, hx, hx2, hlen, eqOp, CDiv, m0, hk', LIM, ty0, app1, d1, d2, hlen2, ty1, hlast, app2]
        · refine ⟨ts ++ [t], by simp; omega, ho1, ?_⟩
          rw [hT] at app1
          generalize (ts ++ [t]).map encT = B1 at *
          generalize ts.map encT = B0 at *
          by_cases d1 : x / 21 % 5 = 0
          · have d2 : ¬ n + 1 < 12 := fun z => hd ⟨d1, z⟩
            rcases hx with hx | hx
            · simp [b32t, f32, e32, h8, hm, hc, hx, hlen, eqOp, CDiv, m0, hk', LIM, ty0, app1, d1, d2, hlen2]
            · by_cases hx2 : a % 6 = 0 <;> simp [b32t, f32, e32, h8, hm, hc, hx, hx2, hlen, eqOp, CDiv, m0, hk', LIM, ty0, app1, d1, d2, hlen2]
          · rcases hx with hx | hx
            · simp [b32t, f32, e32, h8, hm, hc, hx, hlen, eqOp, CDiv, m0, hk', LIM, ty0, app1, d1]
            · by_cases hx2 : a % 6 = 0 <;> simp [b32t, f32, e32, h8, hm, hc, hx, hx2, hlen, eqOp, CDiv, m0, hk', LIM, ty0, app1, d1]
      · refine ⟨ts, hl, ho, ?_⟩
        have g1 : ¬ a % 6 = 0 := fun z => hx (.inl z)
        have g2 : ¬ x % 6 = 0 := fun z => hx (.inr z)
        simp [b32t, f32, e32, h8, hm, hc, g1, g2, hlen, eqOp]
    · refine ⟨ts, hl, ho, ?_⟩
      simp [b32t, f32, e32, h8, hm, hc, hlen]
  · refine ⟨ts, hl, ho, ?_⟩
    simp [b32t, f32, e32, h8, hm]

theorem okW_is {s : List Nat} (h : okW s) (h1 : 1 ≤ s.length) : isWord s = true := by
  unfold isWord
  have e : s.all letter = true := List.all_eq_true.mpr h.2
  simp [e, h1, h.1]
abbrev e32k (cs : List Int) (a m : Int) (os : List Nat) (far : Int) : Tw.Env := [some (.lst (cs.map .int)), some (.int a), some (.int m), some (.lst (os.map encN)), some (.int far), some (.ref 0), none, some (.ref 1), none, none, none, none, none]
theorem r_awk {d : Nat} {cs : List Int} {a m J far : Int} {os : List Nat} {T : List W} {ks : List (List Nat)} {j : Nat} (hJ : J = (j : Int)) (hc : 1 ≤ cs.length) (ha : 0 ≤ a ∧ a < 1000000000) (hl : ks.length = j) (hj : j < 100) (ho : ∀ k ∈ ks, okW k ∧ isWord k = true) :
    ∃ ks' : List (List Nat), ks'.length = j + 1 ∧ (∀ k ∈ ks', okW k ∧ isWord k = true) ∧ execs (R (d + 2)) LM b32k ((e32k cs a m os far).set 8 (some (.int J))) [.lst T, .lst (ks.map .str)] = .next (e32k cs a m os far) [.lst T, .lst (ks'.map .str)] := by
  obtain ⟨L, hL⟩ : ∃ L : Int, L = cs.length := ⟨_, rfl⟩
  have L0 : 0 < L := by omega
  have hlen : lenSem [.lst T, .lst (ks.map .str)] (.lst (cs.map .int)) = some L := by simp [lenSem, seqOf, hL]
  obtain ⟨c, _, _, hi⟩ := idx_map W.int (S := [.lst T, .lst (ks.map .str)]) (xs := cs) (y := J % L) (Int.emod_nonneg _ (by omega)) (by have := Int.emod_lt_of_pos J L0; omega)
  have hm : callSem (R (d + 2)) .pure 24 [.int c, .int (20 + J)] [.lst T, .lst (ks.map .str)] = .ok (.int (mix c (20 + J))) [.lst T, .lst (ks.map .str)] := call_pure rfl (r_mix (by omega)) rfl
  have hlk : (ks.map W.str).length < 100000 := by rw [List.length_map]; omega
  have step : ∀ w : Int, ∃ s, okW s ∧ 1 ≤ s.length ∧ callSem (R (d + 2)) .pure 26 [.int a, .int w] [.lst T, .lst (ks.map .str)] = .ok (.str s) [.lst T, .lst (ks.map .str)] := fun w => by
    obtain ⟨s, h1, h2, h3⟩ := r_lword (d := d + 1) (a := a) (b := w) (S := []) ha.1
    exact ⟨s, h1, h2, call_pure rfl h3 rfl⟩
  have app : ∀ s : List Nat, effSem .append [.ref 1, .str s] [.lst T, .lst (ks.map .str)] = some (.non, [.lst T, .lst ((ks ++ [s]).map .str)]) := fun s => by
    simp only [effSem, List.getElem?_cons_succ, List.getElem?_cons_zero, LIM, hlk, if_true, List.set_cons_succ, List.set_cons_zero, List.map_append, List.map_cons, List.map_nil]
  have ty : tyOk (effTy .append) (.ref 1) [.lst T, .lst (ks.map .str)] = true := rfl
  have fin' : ∀ s, okW s → 1 ≤ s.length → (ks ++ [s]).length = j + 1 ∧ ∀ k ∈ ks ++ [s], okW k ∧ isWord k = true := fun s h1 h2 => by
    refine ⟨by simp [hl], fun k hk => ?_⟩
    rcases List.mem_append.mp hk with hk | hk
    · exact ho k hk
    · simp at hk; rw [hk]; exact ⟨h1, okW_is h1 h2⟩
  by_cases h : a / 12 % 2 = 1
  · obtain ⟨s, h1, h2, h3⟩ := step (mix c (20 + J) % 3)
    obtain ⟨f1, f2⟩ := fin' s h1 h2
    have app := app s
    refine ⟨ks ++ [s], f1, f2, ?_⟩
    generalize (ks ++ [s]).map W.str = B1 at *
    generalize ks.map W.str = B0 at *
    simp [b32k, f32, e32k, eqOp, CDiv, h, hlen, L0, hi, hm, h3, ty, app]
  · obtain ⟨s, h1, h2, h3⟩ := step 0
    obtain ⟨f1, f2⟩ := fin' s h1 h2
    have app := app s
    refine ⟨ks ++ [s], f1, f2, ?_⟩
    generalize (ks ++ [s]).map W.str = B1 at *
    generalize ks.map W.str = B0 at *
    simp [b32k, f32, e32k, eqOp, CDiv, h, h3, ty, app]

/-- a web that is one -/
def goodW (m : Nat) (ks : List (List Nat)) (ts : List Tie) : Prop := ks.length = m ∧ (∀ k ∈ ks, okW k ∧ isWord k = true) ∧ ts.length ≤ 12 ∧ ∀ t ∈ ts, isTie (m : Int) t = true
theorem webErr_good {m : Nat} {ks : List (List Nat)} {ts : List Tie} (h : goodW m ks ts) (h1 : 1 ≤ m ∧ m ≤ 7) : webErr ks ts = none := by
  obtain ⟨g1, g2, g3, g4⟩ := h
  unfold webErr
  have e1 : ks.all isWord = true := List.all_eq_true.mpr fun k hk => (g2 k hk).2
  have e2 : ts.all (isTie ks.length) = true := List.all_eq_true.mpr fun t ht => by rw [g1]; exact g4 t ht
  rw [if_neg (by omega), e1, e2]
  rfl
theorem r_aweb {d : Nat} {cs : List Int} {a : Int} {m : Nat} (hc : 1 ≤ cs.length) (hc2 : cs.length < 1000) (ha : 0 ≤ a ∧ a < 1000000000) (hm : 1 ≤ m ∧ m ≤ 7) :
    ∃ (ks : List (List Nat)) (ts : List Tie), goodW m ks ts ∧ ∃ S' w, R (d + 3) 32 [.lst (cs.map .int), .int a, .int (m : Int)] [] = .ok w S' ∧ vw S' w = some (.tup [.lst (ks.map .str), .lst (ts.map encT)]) := by
  obtain ⟨os, hos, hsr⟩ := r_shuffled (d := d) (a := a) (n := m) (by omega)
  have hsh : callSem (R (d + 2)) .pure 33 [.int a, .int (m : Int)] [] = .ok (.lst (os.map encN)) [] := call_pure rfl hsr (vw_cell rfl (rfreeL_map (fun _ => rfl) _))
  have hol : os.length = m := by rw [hos.length_eq]; simp
  have hin : ∀ i ∈ os, i < m := fun i hi => by have := hos.mem_iff.mp hi; simpa using this
  have hnd : os.Nodup := hos.nodup_iff.mpr List.nodup_range
  obtain ⟨h, hh⟩ : ∃ h : Nat, a % 6 = h := ⟨(a % 6).toNat, by have := Int.emod_nonneg a (show (6 : Int) ≠ 0 by omega); omega⟩
  have hfam : callSem (R (d + 2)) .pure 34 [.int a, .int (m : Int)] [] = .ok (.lst ((famOf h m).map encNN)) [] := call_pure rfl (r_family (d := d + 1) hh hm) (vw_cell rfl (rfreeL_map (fun _ => rfl) _))
  have hfo := fam_ok h m (by omega) hm
  generalize famOf h m = fam at hfam hfo
  unfold okNN at hfo
  simp only [Bool.and_eq_true, decide_eq_true_eq, List.all_eq_true] at hfo
  obtain ⟨fl, fo⟩ := hfo
  have c1 : CMul (a + 1) 618033988749894848204586834367 = true := cmul_l (by omega)
  obtain ⟨far, hfar⟩ : ∃ far : Int, far = (a + 1) * 618033988749894848204586834367 % 1000000000000000000000000000000 := ⟨_, rfl⟩
  have hfk : okK far := by rw [hfar]; exact ⟨Int.emod_nonneg _ (by omega), by rw [p30]; exact Int.emod_lt_of_pos _ (by omega)⟩
  let mk : Nat × Nat → Tie := fun p => ((os[p.1]?.getD 0 : Nat), (os[p.2]?.getD 0 : Nat), far, a / 6 % 2 == 1)
  have hget : ∀ i, i < m → ∃ o, os[i]? = some o ∧ idxSem [] (.lst (os.map encN)) (.int (i : Int)) = some (encN o) := fun i hi => by
    obtain ⟨o, _, h1, h2⟩ := idx_map encN (S := []) (xs := os) (y := (i : Int)) (by omega) (by omega)
    exact ⟨o, by simpa using h1, h2⟩
  have hcomp : ev (R (d + 2)) (.comp (.op .tupD [(.op .idx [(.var 3), (.var 11)]), (.op .idx [(.var 3), (.var 12)]), (.var 4), (.op .eq [(.op .mod [(.op .fdiv [(.var 1), (.con (.int 6))]), (.con (.int 2))]), (.con (.int 1))])]) (.tup [11, 12]) .list [(.call .pure 34 [(.var 1), (.var 2)])] [] [11, 12])
      [some (.lst (cs.map .int)), some (.int a), some (.int (m : Int)), some (.lst (os.map encN)), some (.int far), none, none, none, none, none, none, none, none] [] = .ok (.lst ((fam.map mk).map encT)) [] :=
    comp_map encNN encT mk (ws := [.lst (fam.map encNN)]) (by simp [hfam]) rfl (by simp only [LIM]; omega) fun p hp => ⟨_, rfl, by
      have hpo := fo p hp
      obtain ⟨o1, g1, i1⟩ := hget p.1 hpo.1.1
      obtain ⟨o2, g2, i2⟩ := hget p.2 hpo.1.2
      simp [i1, i2, eqOp, CDiv, LIM, mk, g1, g2, encT]⟩
  have ho0 : ∀ t ∈ fam.map mk, isTie (m : Int) t = true := fun t ht => by
    obtain ⟨p, hp, rfl⟩ := List.mem_map.mp ht
    have hpo := fo p hp
    obtain ⟨o1, g1, _⟩ := hget p.1 hpo.1.1
    obtain ⟨o2, g2, _⟩ := hget p.2 hpo.1.2
    have b1 := hin o1 (List.mem_of_getElem? g1)
    have b2 := hin o2 (List.mem_of_getElem? g2)
    have ne : o1 ≠ o2 := fun z => hpo.2 ((List.getElem?_inj (by omega) hnd).mp (by rw [g1, g2, z]))
    have ne' : ¬ (o1 : Int) = (o2 : Int) := by omega
    obtain ⟨k1, k2⟩ := hfk
    rw [p30] at k2
    simp [isTie, mk, g1, g2, ne, ne', b1, b2, k1, k2]
  -- the ties
  obtain ⟨ρ1, S1, l1, rfl, ts, rfl, t1, t2⟩ := forL_pl (body := fun ρ' S' => execs (R (d + 2)) LM b32t ρ' S') (t := .one 6) W.int (fun j ρ S => ρ = e32 cs a m os far ∧ ∃ ts : List Tie, S = [.lst (ts.map encT)] ∧ ts.length ≤ 12 ∧ ∀ t ∈ ts, isTie (m : Int) t = true) (all := cs) (xs := cs) (j := 0) (ρ := e32 cs a m os far) (S := [.lst ((fam.map mk).map encT)]) rfl ⟨rfl, _, rfl, by simp; omega, ho0⟩ (by
    rintro j x ρ S hx ⟨rfl, ts, rfl, t1, t2⟩
    obtain ⟨ts', q1, q2, q3⟩ := r_awt (d := d) (cs := cs) (a := a) (m := m) (c := x) (far := far) (os := os) ha t1 t2
    exact ⟨_, _, _, rfl, .inl q3, rfl, ts', rfl, q1, q2⟩)
  have e1 := s_for (cf := R (d + 2)) (L := LM) (t := .one 6) (k := .list) (srcs := [.var 0]) (body := b32t) (ρ := e32 cs a m os far) (S := [.lst ((fam.map mk).map encT)]) (ws := [.lst (cs.map .int)]) (xs := cs.map .int) (S1 := [.lst ((fam.map mk).map encT)]) (by simp [e32]) rfl
  rw [l1] at e1
  -- the kinds
  obtain ⟨ρ2, S2, l2, rfl, ks, rfl, u1, u2⟩ := forL_pl (body := fun ρ' S' => execs (R (d + 2)) LM b32k ρ' S') (t := .one 8) encN (fun j ρ S => ρ = e32k cs a m os far ∧ ∃ ks : List (List Nat), S = [.lst (ts.map encT), .lst (ks.map .str)] ∧ ks.length = j ∧ ∀ k ∈ ks, okW k ∧ isWord k = true) (all := List.range m) (xs := List.range m) (j := 0) (ρ := e32k cs a m os far) (S := [.lst (ts.map encT), .lst []]) rfl ⟨rfl, [], rfl, rfl, by simp⟩ (by
    rintro j x ρ S hx ⟨rfl, ks, rfl, u1, u2⟩
    obtain ⟨rfl, hj⟩ := range_get hx
    obtain ⟨ks', q1, q2, q3⟩ := r_awk (d := d) (cs := cs) (a := a) (m := m) (J := (x : Int)) (far := far) (os := os) (T := ts.map encT) rfl hc ha u1 (by omega) u2
    exact ⟨_, _, _, rfl, .inl q3, rfl, ks', rfl, q1, q2⟩)
  have e2 := s_for (cf := R (d + 2)) (L := LM) (t := .one 8) (k := .range1) (srcs := [.var 2]) (body := b32k) (ρ := e32k cs a m os far) (S := [.lst (ts.map encT), .lst []]) (ws := [.int (m : Int)]) (xs := (List.range m).map encN) (S1 := [.lst (ts.map encT), .lst []]) (by simp [e32k]) (by rw [it_range1 (by omega) (by omega)]; simp)
  rw [l2] at e2
  have bb : f32 = [.asg (.one 3) (.call .pure 33 [(.var 1), (.var 2)]), .asg (.one 4) (.op .mod [(.op .mul [(.op .add [(.var 1), (.con (.int 1))]), (.con (.int 618033988749894848204586834367))]), (.op .pow [(.con (.int 10)), (.con (.int 30))])]),
    .asg (.one 5) (.mut (.comp (.op .tupD [(.op .idx [(.var 3), (.var 11)]), (.op .idx [(.var 3), (.var 12)]), (.var 4), (.op .eq [(.op .mod [(.op .fdiv [(.var 1), (.con (.int 6))]), (.con (.int 2))]), (.con (.int 1))])]) (.tup [11, 12]) .list [(.call .pure 34 [(.var 1), (.var 2)])] [] [11, 12])),
    .forIn (.one 6) .list [.var 0] b32t, .asg (.one 7) (.mut (.op .lstD [])), .forIn (.one 8) .range1 [.var 2] b32k, .ret (.op .tupD [(.var 7), (.var 5)])] := rfl
  refine ⟨ks, ts, ⟨by simpa using u1, u2, t1, t2⟩, [.lst (ts.map encT), .lst (ks.map .str)], .tup [.ref 1, .ref 0], ?_, ?_⟩
  · rw [run lib_32 rfl, bb]
    generalize (fam.map mk).map encT = B0 at *
    generalize hTs : ts.map encT = B1 at *
    generalize hKs : ks.map W.str = B2 at *
    unfold e32 at e1
    unfold e32k at e2
    simp [hsh, c1, pow30, ← hfar, hcomp, LIM, e1, e2]
  · have q1 := subL_lf (b := false) (g := lev false [.lst (ts.map encT), .lst (ks.map .str)] 2) (lfreeL_map lf_str ks)
    have q2 := subL_lf (b := false) (g := lev false [.lst (ts.map encT), .lst (ks.map .str)] 2) (lfreeL_map lf_T ts)
    simp [vw, sub, subL, lev, cellW]
    simp only [lev] at q1 q2
    simp [q1, q2]
end TwL

/-! k34: rules made -/
namespace TwL
open Tw
/-- Rule(before, after, kept) -/
theorem new_rule {d : Nat} {ks1 ks2 : List (List Nat)} {ts1 ts2 : List Tie} {k : Int} {S : Sto} :
    newSem (R (d + 2)) .pure 2 310 [encWeb ks1 ts1, encWeb ks2 ts2, .int k] S = if k < 0 ∨ ks1.length < k ∨ ks2.length < k then .ex 20 S else .ok (.rcd 2 [encWeb ks1 ts1, encWeb ks2 ts2, .int k]) S := by
  have r1 := rf_web ks1 ts1
  have r2 := rf_web ks2 ts2
  have hr : rfreeL [encWeb ks1 ts1, encWeb ks2 ts2, .int k] = true := by simp [rfreeL, r1, r2, rfree]
  obtain ⟨n1, hn1⟩ : ∃ n : Int, n = ks1.length := ⟨_, rfl⟩
  obtain ⟨n2, hn2⟩ : ∃ n : Int, n = ks2.length := ⟨_, rfl⟩
  have c1 : callSem (R (d + 1)) .pure 11 [encWeb ks1 ts1] [.ins 2 []] = .ok (.int n1) [.ins 2 []] := by rw [hn1]; exact call_pure (by simp [rfreeL, r1]) r_size rfl
  have c2 : callSem (R (d + 1)) .pure 11 [encWeb ks2 ts2] [.ins 2 []] = .ok (.int n2) [.ins 2 []] := by rw [hn2]; exact call_pure (by simp [rfreeL, r2]) r_size rfl
  obtain ⟨x1, hx1⟩ : ∃ xs, encWeb ks1 ts1 = .rcd 0 xs := ⟨_, rfl⟩
  obtain ⟨x2, hx2⟩ : ∃ xs, encWeb ks2 ts2 = .rcd 0 xs := ⟨_, rfl⟩
  rw [hx1] at c1
  rw [hx2] at c2
  rw [← hn1, ← hn2, hx1, hx2]
  rw [hx1, hx2] at hr
  rw [hx1] at r1
  rw [hx2] at r2
  by_cases h : k < 0 ∨ n1 < k ∨ n2 < k
  · rw [if_pos h]
    have hrun : R (d + 2) 310 [.ref 0, .rcd 0 x1, .rcd 0 x2, .int k] [.ins 2 []] = .ex 20 [.ins 2 []] := by
      rw [run lib_310 rfl]
      by_cases h1 : k < 0
      · simp [f310, recOf, c1, c2, h1]
      · by_cases h2 : n1 < k
        · simp [f310, recOf, c1, c2, h1, h2]
        · have h3 : n2 < k := by omega
          simp [f310, recOf, c1, c2, h1, h2, h3]
    simp only [newSem, vws_id hr, hrun]
  · rw [if_neg h]
    have h1 : ¬ k < 0 := by omega
    have h2 : ¬ n1 < k := by omega
    have h3 : ¬ n2 < k := by omega
    have hrun : R (d + 2) 310 [.ref 0, .rcd 0 x1, .rcd 0 x2, .int k] [.ins 2 []] = .ok .non [.ins 2 [.rcd 0 x1, .rcd 0 x2, .int k]] := by
      rw [run lib_310 rfl]
      simp [f310, recOf, c1, c2, h1, h2, h3, setFld]
    simp only [newSem, vws_id hr, hrun, hr, if_true]
    have v : vw [.ins 2 [.rcd 0 x1, .rcd 0 x2, .int k]] (.ref 0) = some (.rcd 2 [.rcd 0 x1, .rcd 0 x2, .int k]) := by
      simp only [vw, sub, lev, cellW, List.getElem?_cons_zero, subL_id hr, Option.map_some]
    rw [v]
    rfl

/-- a kind that the law hands in: short, plain -/
def okS (s : List Nat) : Prop := s.length ≤ 4 ∧ ∀ c ∈ s, c < 128
theorem okW_S {s : List Nat} (h : okW s) : okS s := ⟨by have := h.1; omega, fun c hc => letter_lt (h.2 c hc)⟩
def b313 : List Stm := match f313 with
  | _ :: .forIn _ _ _ b :: _ => b
  | _ => []
abbrev e313 (L : W) : Tw.Env := [some L, some (.ref 0), none, none, none, none]
theorem r_lplain313 {d : Nat} {ts : List Tie} (hl : ts.length < 1000) : R (d + 1) 313 [.lst (ts.map encT)] [] = .ok (.ref 1) [.dead, .lst ((tiesOf ts).map encT)] := by
  obtain ⟨ρ2, S2, h2, rfl, rfl⟩ := forL_pl (body := fun ρ' S' => execs (R d) LM b313 ρ' S') (t := .tup [2, 3, 4, 5]) encT (fun j ρ S => ρ = e313 (.lst (ts.map encT)) ∧ S = [.lst (((ts.take j).map plainT).map encT)]) (all := ts) (xs := ts) (j := 0) (ρ := e313 (.lst (ts.map encT))) (S := [.lst []]) rfl ⟨rfl, rfl⟩ (by
    rintro j ⟨a, b, k, o⟩ ρ S hx ⟨rfl, rfl⟩
    have hjl : j < ts.length := (List.getElem?_eq_some_iff.mp hx).1
    have tk : ((ts.take (j + 1)).map plainT).map encT = ((ts.take j).map plainT).map encT ++ [encT (plainT (a, b, k, o))] := by
      rw [List.take_succ, hx]; simp
    have hlt : (((ts.take j).map plainT).map encT).length < 100000 := by rw [List.length_map, List.length_map, List.length_take]; omega
    refine ⟨_, _, _, rfl, .inl ?_, rfl, rfl⟩
    rw [tk]
    generalize ((ts.take j).map plainT).map encT = P at hlt ⊢
    cases o
    · by_cases h : b < a
      · have h' : ¬ a < b := by omega
        simp [b313, f313, encT, plainT, e313, tyOk, effTy, isDicM, lstOf, effSem, LIM, hlt, h, h']
      · by_cases h2 : a < b
        · simp [b313, f313, encT, plainT, e313, tyOk, effTy, isDicM, lstOf, effSem, LIM, hlt, h, h2]
        · have h3 : a = b := by omega
          subst h3
          simp [b313, f313, encT, plainT, e313, tyOk, effTy, isDicM, lstOf, effSem, LIM, hlt]
    · simp [b313, f313, encT, plainT, e313, tyOk, effTy, isDicM, lstOf, effSem, LIM, hlt])
  have e1 := s_for (cf := R d) (L := LM) (t := .tup [2, 3, 4, 5]) (k := .list) (srcs := [.var 0]) (body := b313) (ρ := e313 (.lst (ts.map encT))) (S := [.lst []]) (ws := [.lst (ts.map encT)]) (xs := ts.map encT) (S1 := [.lst []]) (by simp [e313]) rfl
  rw [h2] at e1
  simp only [Nat.zero_add, List.take_length] at e1
  have hfrz := s_frzL (cf := R d) (ρ := e313 (.lst (ts.map encT))) (S := [.lst ((ts.map plainT).map encT)]) (L := LM) (i := 1) (n := 0) rfl rfl (rfreeL_map rf_T _)
  have hsort : sortedSem [.dead] (.lst ((ts.map plainT).map encT)) = some ((tiesOf ts).map encT) := sorted_map ordT encT rfl (fun t _ => isT t) (by simp [LIM]; omega)
  have bb : f313 = [.asg (.one 1) (.mut (.op .lstD [])), .forIn (.tup [2, 3, 4, 5]) .list [.var 0] b313, .frz 1, .ret (.mut (.op .sorted [.var 1]))] := rfl
  rw [run lib_313 rfl, bb]
  generalize (ts.map plainT).map encT = P at e1 hfrz hsort
  unfold e313 at e1 hfrz
  simp only [List.set_cons_succ, List.set_cons_zero] at hfrz
  simp [LIM, e1, hfrz, hsort]
theorem eq_T (t : Tie) : eqW (encT t) (encT t) = true := by
  obtain ⟨a, b, k, o⟩ := t
  simp [encT, eqW, eqL]
theorem eqL_self {α : Type} {enc : α → W} (h : ∀ a, eqW (enc a) (enc a) = true) : ∀ xs : List α, eqL (xs.map enc) (xs.map enc) = true
  | [] => rfl
  | x :: xs => by simp [eqL, h x, eqL_self h xs]
theorem dat_S {s : List Nat} (h : okS s) (d : Nat) : datW d (.str s) = true := by
  have h1 := h.1
  cases d <;> (simp only [datW, Bool.and_eq_true, List.all_eq_true, decide_eq_true_eq, LIM]; exact ⟨h.2, by omega⟩)
theorem datL_S {ks : List (List Nat)} (h : ∀ k ∈ ks, okS k) (d : Nat) : datL d (ks.map .str) = true := by
  rw [datL_iff]
  intro w hw
  obtain ⟨k, hk, rfl⟩ := List.mem_map.mp hw
  exact dat_S (h k hk) d
theorem eq_ks {S : Sto} {ks : List (List Nat)} (h : ∀ k ∈ ks, okS k) : eqOp S (.lst (ks.map .str)) (.lst (ks.map .str)) = some true := by
  have r : rfree (.lst (ks.map W.str)) = true := by rw [rfree]; exact rfreeL_map (fun _ => rfl) _
  have dd : datW 30 (.lst (ks.map W.str)) = true := by rw [datW]; exact datL_S h 29
  rw [eqOp_id r r dd dd, eqW, eqL_self (enc := W.str) (fun a => by simp [eqW]) ks]
theorem zipT_self (xs : List W) : zipT xs xs = xs.map fun x => .tup [x, x] := by
  induction xs with
  | nil => rfl
  | cons x xs ih => simp [zipT, ih]
theorem r_tieis46 {d : Nat} {t : Tie} {S : Sto} : R (d + 2) 46 [encT t, encT t] S = .ok (.bl true) S := by
  have hw : ∀ a : Int, callSem (R (d + 1)) .pure 12 [.int a] S = .ok (.bl true) S := fun a => call_pure rfl r_whole rfl
  have he : eqOp S (encT t) (encT t) = some true := by
    rw [eqOp_id (rf_T t) (rf_T t) rfl rfl, eq_T]
  obtain ⟨a, b, k, o⟩ := t
  rw [run lib_46 rfl]
  simp only [encT] at he ⊢
  simp [f46, hw, lenSem, seqOf, LIM, idxSem, Tw.ixN, isiOp, he]

def b312k : List Stm := match f312 with
  | _ :: _ :: .forIn _ _ _ b :: _ => b
  | _ => []
def b312t : List Stm := match f312 with
  | _ :: _ :: _ :: .forIn _ _ _ b :: _ => b
  | _ => []
theorem r_webis312 {d : Nat} {ks : List (List Nat)} {ts : List Tie} {S : Sto} (hk : ∀ k ∈ ks, okS k) (hl : ts.length < 1000) : R (d + 3) 312 [encWeb ks (tiesOf ts), .lst (ks.map .str), .lst (ts.map encT)] S = .ok (.bl true) S := by
  have hlen : (tiesOf ts).length = ts.length := by unfold tiesOf; rw [sortBy_len, List.length_map]
  obtain ⟨n, hn⟩ : ∃ n : Int, n = ts.length := ⟨_, rfl⟩
  have l1 : lenSem S (.lst ((tiesOf ts).map encT)) = some n := by simp [lenSem, seqOf, hlen, hn]
  have l2 : lenSem S (.lst (ts.map encT)) = some n := by simp [lenSem, seqOf, hn]
  have hp : callSem (R (d + 2)) .pure 313 [.lst (ts.map encT)] S = .ok (.lst ((tiesOf ts).map encT)) S :=
    call_pure (by simp [rfreeL, rfree, rfreeL_map rf_T]) (r_lplain313 (d := d + 1) hl) (vw_cell rfl (rfreeL_map rf_T _))
  have f0 : fldSem S 0 0 (encWeb ks (tiesOf ts)) = some (.lst (ks.map .str)) := rfl
  have f1 : fldSem S 0 1 (encWeb ks (tiesOf ts)) = some (.lst ((tiesOf ts).map encT)) := rfl
  have ix : isxSem [0] S (encWeb ks (tiesOf ts)) = some true := rfl
  have hek := eq_ks (S := S) hk
  generalize hW : encWeb ks (tiesOf ts) = Wb at f0 f1 ix
  have a1 : forL (.one 3) (fun ρ' S' => execs (R (d + 2)) LM b312k ρ' S') (ks.map .str) [some Wb, some (.lst (ks.map .str)), some (.lst (ts.map encT)), none, none, none] S = _ :=
    forL_all W.str (fun _ => true) (.ret (.bl false) S) (by simp) (by simp) (by simp) fun k _ => ⟨_, rfl, by simp [b312k, f312, isiOp]⟩
  have a2 : forL (.tup [4, 5]) (fun ρ' S' => execs (R (d + 2)) LM b312t ρ' S') ((tiesOf ts).map fun t => W.tup [encT t, encT t]) [some Wb, some (.lst (ks.map .str)), some (.lst (ts.map encT)), none, none, none] S = _ :=
    forL_all (fun t => W.tup [encT t, encT t]) (fun _ => true) (.ret (.bl false) S) (by simp) (by simp) (by simp) fun t _ => ⟨_, rfl, by
      have hq : callSem (R (d + 2)) .pure 46 [encT t, encT t] S = .ok (.bl true) S := call_pure rfl r_tieis46 rfl
      simp [b312t, f312, hq]⟩
  rw [if_pos (by simp)] at a1 a2
  have s1 := s_for (cf := R (d + 2)) (L := LM) (t := .one 3) (k := .list) (srcs := [.fld 0 0 (.var 0)]) (body := b312k) (ρ := [some Wb, some (.lst (ks.map .str)), some (.lst (ts.map encT)), none, none, none]) (S := S) (ws := [.lst (ks.map .str)]) (xs := ks.map .str) (S1 := S) (by simp [f0]) rfl
  have s2 := s_for (cf := R (d + 2)) (L := LM) (t := .tup [4, 5]) (k := .zip) (srcs := [.fld 0 1 (.var 0), .call .pure 313 [.var 2]]) (body := b312t) (ρ := [some Wb, some (.lst (ks.map .str)), some (.lst (ts.map encT)), none, none, none]) (S := S) (ws := [.lst ((tiesOf ts).map encT), .lst ((tiesOf ts).map encT)]) (xs := (tiesOf ts).map fun t => W.tup [encT t, encT t]) (S1 := S) (by simp [f1, hp]) (by simp only [itVals, zipT_self, List.map_map]; rfl)
  rw [a1] at s1
  rw [a2] at s2
  have bb : f312 = [.ite (.or [(.not (.isx [0] (.var 0))), (.not (.op (.isi .list) [(.fld 0 0 (.var 0))])), (.not (.op (.isi .list) [(.fld 0 1 (.var 0))]))]) [.ret (.con (.bl false))] [],
    .ite (.or [(.op .ne [(.op .len [(.fld 0 1 (.var 0))]), (.op .len [(.var 2)])]), (.op .ne [(.fld 0 0 (.var 0)), (.var 1)])]) [.ret (.con (.bl false))] [],
    .forIn (.one 3) .list [.fld 0 0 (.var 0)] b312k, .forIn (.tup [4, 5]) .zip [.fld 0 1 (.var 0), .call .pure 313 [.var 2]] b312t, .ret (.con (.bl true))] := rfl
  rw [run lib_312 rfl, bb]
  generalize (tiesOf ts).map encT = P at *
  generalize ks.map W.str = Q at *
  generalize ts.map encT = Z at *
  simp [f0, f1, ix, isiOp, l1, l2, hek, s1, s2]
end TwL

/-! k34: the law -/
namespace TwL
open Tw
theorem r_number {d : Nat} {c : Int} {S : Sto} : ∃ k : Int, R (d + 2) 309 [.int c] S = .ok (.int k) S := by
  have hm : callSem (R (d + 1)) .pure 24 [.int c, .int 7] S = .ok (.int (mix c 7)) S := call_pure rfl (r_mix (by omega)) rfl
  generalize mix c 7 = x at hm
  rw [run lib_309 rfl]
  by_cases h1 : x % 16 = 5
  · exact ⟨_, by simp [f309, hm, pow30, eqOp, h1]; rfl⟩
  · by_cases h2 : x % 16 = 11
    · exact ⟨_, by simp [f309, hm, pow30, eqOp, h2]; rfl⟩
    · exact ⟨_, by simp [f309, hm, pow30, eqOp, h1, h2, CDiv]; rfl⟩
/-- a pair of kinds and ties, as the law keeps it -/
def encP (ks : List (List Nat)) (ts : List Tie) : W := .tup [.lst (ks.map .str), .lst (ts.map encT)]
theorem rf_P (ks : List (List Nat)) (ts : List Tie) : rfree (encP ks ts) = true := by
  simp [encP, rfree, rfreeL, rfreeL_map rf_T, rfreeL_map (f := W.str) (fun _ => rfl)]
theorem r_ruleis {d : Nat} {k1 k2 : List (List Nat)} {t1 t2 : List Tie} {k : Int} {S : Sto} (h1 : ∀ q ∈ k1, okS q) (h2 : ∀ q ∈ k2, okS q) (l1 : t1.length < 1000) (l2 : t2.length < 1000) :
    R (d + 4) 311 [.rcd 2 [encWeb k1 (tiesOf t1), encWeb k2 (tiesOf t2), .int k], encP k1 t1, encP k2 t2, .int k] S = .ok (.bl true) S := by
  have c0 : callSem (R (d + 3)) .pure 12 [.int k] S = .ok (.bl true) S := call_pure rfl r_whole rfl
  have r1 := rf_web k1 (tiesOf t1)
  have r2 := rf_web k2 (tiesOf t2)
  have c1 : callSem (R (d + 3)) .pure 312 [encWeb k1 (tiesOf t1), .lst (k1.map .str), .lst (t1.map encT)] S = .ok (.bl true) S := call_pure (by simp [rfreeL, r1, rfree, rfreeL_map rf_T, rfreeL_map (f := W.str) (fun _ => rfl)]) (r_webis312 h1 l1) rfl
  have c2 : callSem (R (d + 3)) .pure 312 [encWeb k2 (tiesOf t2), .lst (k2.map .str), .lst (t2.map encT)] S = .ok (.bl true) S := call_pure (by simp [rfreeL, r2, rfree, rfreeL_map rf_T, rfreeL_map (f := W.str) (fun _ => rfl)]) (r_webis312 h2 l2) rfl
  rw [run lib_311 rfl]
  generalize encWeb k1 (tiesOf t1) = A at *
  generalize encWeb k2 (tiesOf t2) = B at *
  simp only [encP]
  generalize k1.map W.str = Q1 at *
  generalize k2.map W.str = Q2 at *
  generalize t1.map encT = Z1 at *
  generalize t2.map encT = Z2 at *
  simp [f311, isxSem, fldSem, recOf, c0, eqOp, idxSem, seqOf, Tw.ixN, c1, c2]

structure Ru where
  k1 : List (List Nat)
  t1 : List Tie
  k2 : List (List Nat)
  t2 : List Tie
  k : Int
def encR (r : Ru) : W := .tup [.rcd 2 [encWeb r.k1 (tiesOf r.t1), encWeb r.k2 (tiesOf r.t2), .int r.k], encP r.k1 r.t1, encP r.k2 r.t2, .int r.k]
def okR (r : Ru) : Prop := (∀ q ∈ r.k1, okS q) ∧ (∀ q ∈ r.k2, okS q) ∧ r.t1.length < 1000 ∧ r.t2.length < 1000
def b308 : List Stm := match f308 with
  | _ :: .forIn _ _ _ b :: _ => b
  | _ => []
abbrev e308 (ns : List Int) : Tw.Env := [some (.klst ns), some (.ref 0), none, none, none, none, none, none, none, none]
theorem slice_int {S : Sto} {cs : List Int} (i j : Int) : sliceSem S (.lst (cs.map .int)) (some i) (some j) = some (.lst ((cut cs (some i) (some j)).map .int)) := by
  simp only [sliceSem, lstOf, Option.map_some, cut_map]
theorem cut_four (cs : List Int) (h : cs.length = 12) : (cut cs (some 1) (some 5)).length = 4 ∧ (cut cs (some 5) (some 9)).length = 4 := by
  simp [cut, sIx, h]
theorem okW_S' {ks : List (List Nat)} (h : ∀ k ∈ ks, okW k ∧ isWord k = true) : ∀ k ∈ ks, okS k := fun k hk => okW_S (h k hk).1
theorem web_call {d : Nat} {cs : List Int} {a : Int} {m : Nat} {S : Sto} (hc : 1 ≤ cs.length) (hc2 : cs.length < 1000) (ha : 0 ≤ a ∧ a < 1000000000) (hm : 1 ≤ m ∧ m ≤ 7) :
    ∃ (ks : List (List Nat)) (ts : List Tie), goodW m ks ts ∧ callSem (R (d + 3)) .pure 32 [.lst (cs.map .int), .int a, .int (m : Int)] S = .ok (encP ks ts) S := by
  obtain ⟨ks, ts, h1, S', w, h2, h3⟩ := r_aweb (d := d) hc hc2 ha hm
  exact ⟨ks, ts, h1, call_pure (by simp [rfreeL, rfree, rfree_int]) h2 h3⟩
theorem law_step34 {d : Nat} {ns : List Int} {a : Int} {H : List Ru} (hl : ns.length < 1000) (hH : H.length < 1000) :
    ∃ H' : List Ru, (H' = H ∨ ∃ h, okR h ∧ H' = H ++ [h]) ∧ execs (R (d + 6)) LM b308 [some (.klst ns), some (.ref 0), some (.int a), none, none, none, none, none, none, none] [.lst (H.map encR)] = .next (e308 ns) [.lst (H'.map encR)] := by
  have hcells : callSem (R (d + 6)) .pure 29 [.klst ns, .int a, .int 12] [.lst (H.map encR)] = .ok (.lst ((cells ns a 12).map .int)) [.lst (H.map encR)] :=
    call_pure rfl (r_cells hl) (vw_cell rfl (rfree_int _))
  have hcl := cells_len ns a
  generalize cells ns a 12 = cs at hcells hcl
  obtain ⟨f1, f2⟩ := cut_four cs hcl
  have s1 := slice_int (S := [.lst (H.map encR)]) (cs := cs) 1 5
  have s2 := slice_int (S := [.lst (H.map encR)]) (cs := cs) 5 9
  obtain ⟨c0, _, _, i0⟩ := idx_map W.int (S := [.lst (H.map encR)]) (xs := cs) (y := 0) (by omega) (by omega)
  obtain ⟨c9, _, _, i9⟩ := idx_map W.int (S := [.lst (H.map encR)]) (xs := cs) (y := 9) (by omega) (by omega)
  have hm : ∀ j : Int, 0 ≤ j → j < 100 → callSem (R (d + 6)) .pure 24 [.int c0, .int j] [.lst (H.map encR)] = .ok (.int (mix c0 j)) [.lst (H.map encR)] := fun j h1 h2 => call_pure rfl (r_mix (by omega)) rfl
  have m1 := hm 1 (by omega) (by omega)
  have m2 := hm 2 (by omega) (by omega)
  have m3 := hm 3 (by omega) (by omega)
  have m4 := hm 4 (by omega) (by omega)
  have g1 := mix_rng c0 1
  have g3 := mix_rng c0 3
  obtain ⟨n1, hn1⟩ : ∃ n : Nat, (n : Int) = 1 + mix c0 2 % 7 := ⟨(1 + mix c0 2 % 7).toNat, by omega⟩
  obtain ⟨n2, hn2⟩ : ∃ n : Nat, (n : Int) = 1 + mix c0 4 % 7 := ⟨(1 + mix c0 4 % 7).toNat, by omega⟩
  obtain ⟨k1, t1, gw1, w1⟩ := web_call (d := d + 3) (cs := cut cs (some 1) (some 5)) (a := mix c0 1) (m := n1) (S := [.lst (H.map encR)]) (by omega) (by omega) (by omega) (by omega)
  obtain ⟨k2, t2, gw2, w2⟩ := web_call (d := d + 3) (cs := cut cs (some 5) (some 9)) (a := mix c0 3) (m := n2) (S := [.lst (H.map encR)]) (by omega) (by omega) (by omega) (by omega)
  rw [hn1] at w1
  rw [hn2] at w2
  obtain ⟨k, hk⟩ := r_number (d := d + 4) (c := c9) (S := [])
  have hk' : callSem (R (d + 6)) .pure 309 [.int c9] [.lst (H.map encR)] = .ok (.int k) [.lst (H.map encR)] := call_pure rfl hk rfl
  have ok1 := okW_S' gw1.2.1
  have ok2 := okW_S' gw2.2.1
  have e1 := webErr_good gw1 (by omega)
  have e2 := webErr_good gw2 (by omega)
  have rfk : ∀ (ks : List (List Nat)) (ts : List Tie), rfreeL [.lst (ks.map .str), .lst (ts.map encT)] = true := fun ks ts => by
    simp [rfreeL, rfree, rfreeL_map rf_T, rfreeL_map (f := W.str) (fun _ => rfl)]
  have nw1 := new_web (d := d + 4) (ks := k1) (ts := t1) (S := [.lst (H.map encR)]) (vws_id (rfk k1 t1)) (fun k hk => by have := (ok1 k hk).1; simp only [LIM]; omega) (by have := gw1.1; simp only [LIM]; omega) (by have := gw1.2.2.1; simp only [LIM]; omega)
  have nw2 := new_web (d := d + 4) (ks := k2) (ts := t2) (S := [.lst (H.map encR)]) (vws_id (rfk k2 t2)) (fun k hk => by have := (ok2 k hk).1; simp only [LIM]; omega) (by have := gw2.1; simp only [LIM]; omega) (by have := gw2.2.2.1; simp only [LIM]; omega)
  rw [e1] at nw1
  rw [e2] at nw2
  have nr := new_rule (d := d + 4) (ks1 := k1) (ks2 := k2) (ts1 := tiesOf t1) (ts2 := tiesOf t2) (k := k) (S := [.lst (H.map encR)])
  obtain ⟨p1, hp1⟩ : ∃ p : Int, p = k1.length := ⟨_, rfl⟩
  obtain ⟨p2, hp2⟩ : ∃ p : Int, p = k2.length := ⟨_, rfl⟩
  have ln1 : lenSem [.lst (H.map encR)] (.lst (k1.map .str)) = some p1 := by simp [lenSem, seqOf, hp1]
  have ln2 : lenSem [.lst (H.map encR)] (.lst (k2.map .str)) = some p2 := by simp [lenSem, seqOf, hp2]
  rw [← hp1, ← hp2] at nr
  have hlt : (H.map encR).length < 100000 := by rw [List.length_map]; omega
  have app : effSem .append [.ref 0, encR (Ru.mk k1 t1 k2 t2 k)] [.lst (H.map encR)] = some (.non, [.lst ((H ++ [Ru.mk k1 t1 k2 t2 k]).map encR)]) := by
    simp only [effSem, List.getElem?_cons_zero, LIM, hlt, if_true, List.set_cons_zero, List.map_append, List.map_cons, List.map_nil]
  have ty : tyOk (effTy .append) (.ref 0) [.lst (H.map encR)] = true := rfl
  have j0 : ∀ (ks : List (List Nat)) (ts : List Tie), idxSem [.lst (H.map encR)] (encP ks ts) (.int 0) = some (.lst (ks.map .str)) := fun ks ts => rfl
  have j1 : ∀ (ks : List (List Nat)) (ts : List Tie), idxSem [.lst (H.map encR)] (encP ks ts) (.int 1) = some (.lst (ts.map encT)) := fun ks ts => rfl
  have bb : b308 = [.asg (.one 3) (.call .pure 29 [(.var 0), (.var 2), (.con (.int 12))]),
    .asg (.one 4) (.call .pure 32 [(.op (.slice true true) [(.var 3), (.toI (.con (.int 1))), (.toI (.con (.int 5)))]), (.call .pure 24 [(.op .idx [(.var 3), (.con (.int 0))]), (.con (.int 1))]), (.op .add [(.con (.int 1)), (.op .mod [(.call .pure 24 [(.op .idx [(.var 3), (.con (.int 0))]), (.con (.int 2))]), (.con (.int 7))])])]),
    .asg (.one 5) (.call .pure 32 [(.op (.slice true true) [(.var 3), (.toI (.con (.int 5))), (.toI (.con (.int 9)))]), (.call .pure 24 [(.op .idx [(.var 3), (.con (.int 0))]), (.con (.int 3))]), (.op .add [(.con (.int 1)), (.op .mod [(.call .pure 24 [(.op .idx [(.var 3), (.con (.int 0))]), (.con (.int 4))]), (.con (.int 7))])])]),
    .asg (.one 6) (.call .pure 309 [(.op .idx [(.var 3), (.con (.int 9))])]), .asg (.one 7) (.con .non), .asg (.one 8) (.con (.bl false)),
    .tryE [11, 12, 13, 20] [.asg (.one 7) (.new .pure 2 310 [(.new .pure 0 16 [(.op .idx [(.var 4), (.con (.int 0))]), (.op .idx [(.var 4), (.con (.int 1))])]), (.new .pure 0 16 [(.op .idx [(.var 5), (.con (.int 0))]), (.op .idx [(.var 5), (.con (.int 1))])]), (.var 6)])] 10 (some 9) [
      .asg (.one 8) (.and [(.isx [20] (.var 9)), (.isx [9] (.var 9)), (.not (.isx [17, 14, 12, 16, 13, 21, 19, 11, 15, 18] (.var 9)))])],
    .ite (.chain .le .le (.con (.int 0)) (.var 6) (.op .min [(.op .len [(.op .idx [(.var 4), (.con (.int 0))])]), (.op .len [(.op .idx [(.var 5), (.con (.int 0))])])])) [
      .expr (.eff .append (.var 1) [(.op .tupD [(.var 7), (.var 4), (.var 5), (.var 6)])])] [.ite (.or [(.op .notnone [(.var 7)]), (.not (.var 8))]) [.ret (.con (.bl false))] []],
    .wipe [2, 3, 4, 5, 6, 7, 8]] := rfl
  simp only [encR] at app
  have okr : okR (Ru.mk k1 t1 k2 t2 k) := ⟨ok1, ok2, by have := gw1.2.2.1; show t1.length < 1000; omega, by have := gw2.2.2.1; show t2.length < 1000; omega⟩
  rw [bb]
  have i0' := j0 k1 t1
  have i1' := j1 k1 t1
  have i2' := j0 k2 t2
  have i3' := j1 k2 t2
  clear j0 j1
  generalize encWeb k1 (tiesOf t1) = A at *
  generalize encWeb k2 (tiesOf t2) = B at *
  generalize encP k1 t1 = P1 at *
  generalize encP k2 t2 = P2 at *
  generalize k1.map W.str = Q1 at *
  generalize k2.map W.str = Q2 at *
  generalize t1.map encT = Z1 at *
  generalize t2.map encT = Z2 at *
  by_cases h : k < 0 ∨ p1 < k ∨ p2 < k
  · rw [if_pos h] at nr
    refine ⟨H, .inl rfl, ?_⟩
    have htry : exec (R (d + 6)) LM (.tryE [11, 12, 13, 20] [.asg (.one 7) (.new .pure 2 310 [(.new .pure 0 16 [(.op .idx [(.var 4), (.con (.int 0))]), (.op .idx [(.var 4), (.con (.int 1))])]), (.new .pure 0 16 [(.op .idx [(.var 5), (.con (.int 0))]), (.op .idx [(.var 5), (.con (.int 1))])]), (.var 6)])] 10 (some 9) [
      .asg (.one 8) (.and [(.isx [20] (.var 9)), (.isx [9] (.var 9)), (.not (.isx [17, 14, 12, 16, 13, 21, 19, 11, 15, 18] (.var 9)))])])
      [some (.klst ns), some (.ref 0), some (.int a), some (.lst (cs.map .int)), some P1, some P2, some (.int k), some .non, some (.bl false), none] [.lst (H.map encR)] =
      .next [some (.klst ns), some (.ref 0), some (.int a), some (.lst (cs.map .int)), some P1, some P2, some (.int k), some .non, some (.bl true), none] [.lst (H.map encR)] := by
      rw [s_tryX (k := 20) (ρ1 := [some (.klst ns), some (.ref 0), some (.int a), some (.lst (cs.map .int)), some P1, some P2, some (.int k), some .non, some (.bl false), none]) (S1 := [.lst (H.map encR)]) (by simp [i0', i1', i2', i3', nw1, nw2, nr]) rfl rfl]
      simp [isxSem, subX]
    generalize H.map encR = HH at *
    have hmin : (if p2 < p1 then p2 else p1) < k ∨ k < 0 := by split <;> omega
    by_cases hk0 : 0 ≤ k
    · have hm2 : ¬ k ≤ (if p2 < p1 then p2 else p1) := by rcases hmin with z | z <;> omega
      simp [hcells, s1, s2, i0, i9, m1, m2, m3, m4, w1, w2, hk', htry, i0', i2', ln1, ln2, hk0, hm2, notNone]
    · simp [hcells, s1, s2, i0, i9, m1, m2, m3, m4, w1, w2, hk', htry, i0', i2', ln1, ln2, hk0, notNone]
  · rw [if_neg h] at nr
    refine ⟨H ++ [Ru.mk k1 t1 k2 t2 k], .inr ⟨_, okr, rfl⟩, ?_⟩
    have htry : exec (R (d + 6)) LM (.tryE [11, 12, 13, 20] [.asg (.one 7) (.new .pure 2 310 [(.new .pure 0 16 [(.op .idx [(.var 4), (.con (.int 0))]), (.op .idx [(.var 4), (.con (.int 1))])]), (.new .pure 0 16 [(.op .idx [(.var 5), (.con (.int 0))]), (.op .idx [(.var 5), (.con (.int 1))])]), (.var 6)])] 10 (some 9) [
      .asg (.one 8) (.and [(.isx [20] (.var 9)), (.isx [9] (.var 9)), (.not (.isx [17, 14, 12, 16, 13, 21, 19, 11, 15, 18] (.var 9)))])])
      [some (.klst ns), some (.ref 0), some (.int a), some (.lst (cs.map .int)), some P1, some P2, some (.int k), some .non, some (.bl false), none] [.lst (H.map encR)] =
      .next [some (.klst ns), some (.ref 0), some (.int a), some (.lst (cs.map .int)), some P1, some P2, some (.int k), some (.rcd 2 [A, B, .int k]), some (.bl false), none] [.lst (H.map encR)] :=
      s_tryN (by simp [i0', i1', i2', i3', nw1, nw2, nr])
    generalize (H ++ [Ru.mk k1 t1 k2 t2 k]).map encR = HH2 at *
    generalize H.map encR = HH at *
    have hk0 : 0 ≤ k := by omega
    have hm2 : k ≤ (if p2 < p1 then p2 else p1) := by split <;> omega
    simp [hcells, s1, s2, i0, i9, m1, m2, m3, m4, w1, w2, hk', htry, i0', i2', ln1, ln2, hk0, hm2, LIM, ty, app]

def b308b : List Stm := match f308 with
  | _ :: _ :: _ :: .forIn _ _ _ b :: _ => b
  | _ => []
theorem r_law34 {d : Nat} {ns : List Int} (hl : ns.length ≤ 63) : ∃ S', R (d + 7) 308 [.klst ns] [] = .ok (.bl true) S' := by
  obtain ⟨n, hn⟩ : ∃ n : Int, n = ns.length := ⟨_, rfl⟩
  have hlen : ∀ S : Sto, lenSem S (.klst ns) = some n := fun S => by simp [lenSem, seqOf, hn]
  obtain ⟨m, hm⟩ : ∃ m : Int, m = if 1 < n then n else 1 := ⟨_, rfl⟩
  have m1 : 0 < m ∧ m ≤ 63 := by rw [hm]; split <;> omega
  have hit : itVals .range3 [.int 0, .int m, .int 12] = some ((List.range ((m - 0 - 1) / 12 + 1).toNat).map fun (j : Nat) => W.int (0 + j * 12)) := by
    have c : (decide ((0 : Int).natAbs < LIM) && decide (m.natAbs < LIM) && decide ((0 : Int) < 12) && decide ((12 : Int) < 1000000)) = true := by
      simp only [Bool.and_eq_true, decide_eq_true_eq, LIM]
      omega
    simp only [itVals]
    rw [if_pos c, if_pos m1.1]
  obtain ⟨ρ2, S2, h2, rfl, H, rfl, hH, hok⟩ := forL_pl (body := fun ρ' S' => execs (R (d + 6)) LM b308 ρ' S') (t := .one 2) (fun j : Nat => W.int (0 + j * 12)) (fun j ρ S => ρ = e308 ns ∧ ∃ H : List Ru, S = [.lst (H.map encR)] ∧ H.length ≤ j ∧ ∀ h ∈ H, okR h)
    (all := List.range ((m - 0 - 1) / 12 + 1).toNat) (xs := List.range ((m - 0 - 1) / 12 + 1).toNat) (j := 0) (ρ := e308 ns) (S := [.lst []]) rfl ⟨rfl, [], rfl, by simp, by simp⟩ (by
    rintro j x ρ S hx ⟨rfl, H, rfl, hH, hok⟩
    obtain ⟨rfl, hj⟩ := range_get hx
    obtain ⟨H', h1, h2⟩ := law_step34 (d := d) (ns := ns) (a := 0 + x * 12) (H := H) (by omega) (by omega)
    refine ⟨_, _, _, rfl, .inl h2, rfl, H', rfl, ?_, ?_⟩
    · rcases h1 with h | ⟨h, _, e⟩
      · rw [h]; omega
      · rw [e]; simp; omega
    · rcases h1 with h | ⟨h, ho, e⟩
      · rw [h]; exact hok
      · rw [e]
        intro q hq
        rcases List.mem_append.mp hq with hq | hq
        · exact hok q hq
        · simp at hq; rw [hq]; exact ho)
  have e1 := s_for (cf := R (d + 6)) (L := LM) (t := .one 2) (k := .range3) (srcs := [.con (.int 0), .op .max [.con (.int 1), .op .len [.var 0]], .con (.int 12)]) (body := b308) (ρ := e308 ns) (S := [.lst []]) (ws := [.int 0, .int m, .int 12]) (S1 := [.lst []]) (by simp [e308, hlen, hm]) hit
  rw [h2] at e1
  have rfR : ∀ r : Ru, rfree (encR r) = true := fun r => by
    simp only [encR, rfree, rfreeL, rf_web, rf_P, Bool.and_self]
  have hfrz := s_frzL (cf := R (d + 6)) (ρ := e308 ns) (S := [.lst (H.map encR)]) (L := LM) (i := 1) (n := 0) rfl rfl (rfreeL_map rfR H)
  have a2 : forL (.tup [7, 4, 5, 6]) (fun ρ' S' => execs (R (d + 6)) LM b308b ρ' S') (H.map encR) [some (.klst ns), some (.lst (H.map encR)), none, none, none, none, none, none, none, none] [.dead] = _ :=
    forL_all (S := [.dead]) encR (fun _ => true) (.ret (.bl false) [.dead]) (by simp) (by simp) (by simp) fun h hh => ⟨_, rfl, by
      obtain ⟨k1, t1, k2, t2, k⟩ := h
      obtain ⟨o1, o2, o3, o4⟩ := hok _ hh
      have hr1 : rfreeL [.rcd 2 [encWeb k1 (tiesOf t1), encWeb k2 (tiesOf t2), .int k], encP k1 t1, encP k2 t2, .int k] = true := by
        simp only [rfree, rfreeL, rf_web, rf_P, Bool.and_self]
      have c1 : callSem (R (d + 6)) .pure 311 [.rcd 2 [encWeb k1 (tiesOf t1), encWeb k2 (tiesOf t2), .int k], encP k1 t1, encP k2 t2, .int k] [.dead] = .ok (.bl true) [.dead] := call_pure hr1 (r_ruleis (d := d + 2) o1 o2 o3 o4) rfl
      generalize H.map encR = Hh
      generalize W.rcd 2 [encWeb k1 (tiesOf t1), encWeb k2 (tiesOf t2), .int k] = A at *
      generalize encP k1 t1 = P1 at *
      generalize encP k2 t2 = P2 at *
      simp [b308b, f308, c1]⟩
  rw [if_pos (by simp)] at a2
  have e2 := s_for (cf := R (d + 6)) (L := LM) (t := .tup [7, 4, 5, 6]) (k := .list) (srcs := [.var 1]) (body := b308b) (ρ := [some (.klst ns), some (.lst (H.map encR)), none, none, none, none, none, none, none, none]) (S := [.dead]) (ws := [.lst (H.map encR)]) (xs := H.map encR) (S1 := [.dead]) (by simp) rfl
  rw [a2] at e2
  have bb : f308 = [.asg (.one 1) (.mut (.op .lstD [])), .forIn (.one 2) .range3 [(.con (.int 0)), (.op .max [(.con (.int 1)), (.op .len [(.var 0)])]), (.con (.int 12))] b308, .frz 1, .forIn (.tup [7, 4, 5, 6]) .list [(.var 1)] b308b, .ret (.con (.bl true))] := rfl
  refine ⟨[.dead], ?_⟩
  rw [run lib_308 rfl, bb]
  generalize H.map encR = Hh at *
  unfold e308 at e1 hfrz
  simp only [List.set_cons_succ, List.set_cons_zero] at hfrz
  simp [LIM, e1, hfrz, e2]
theorem law_true (ns : List Int) (hl : ns.length ≤ 63) : ∃ S', R 10 308 [.klst ns] [] = .ok (.bl true) S' := r_law34 (d := 3) hl
end TwL

namespace TwL
open Tw PySem PySem.Spec PyProof.Rows L2
theorem tx_ok : txC TX DD = true := by decide +kernel
theorem dd_ok : DD.all (fun p => defC TX p.2) = true := by decide +kernel
theorem all_mk {P : PySem.Program} {w : PySem.World} {K : PySem.W.Frag} {h : PySem.Heap} {mg : PySem.Str → Option PySem.Value} {fa : PySem.Addr} (X : K.In h) (G : h.Ns PySem.mainGlobals mg) (hfa : mg "law" = some (.ref fa))
    {g11 g12 g16 g17 g18 g19 g20 g24 g26 g28 g29 g32 g33 g34 g46 g308 g309 g310 g311 g312 g313 C0 C2 C10 C11 C12 C13 C14 C15 C16 C17 C18 C19 C20 C21 : PySem.Addr} {od11 an11 od12 an12 od16 an16 od17 an17 od18 an18 od19 an19 od20 an20 od24 an24 od26 an26 od28 an28 od29 an29 od32 an32 od33 an33 od34 an34 od46 an46 od308 an308 od309 an309 od310 an310 od311 an311 od312 an312 od313 an313 : Option PySem.Addr} {sl11 sl12 sl16 sl17 sl18 sl19 sl20 sl24 sl26 sl28 sl29 sl32 sl33 sl34 sl46 sl308 sl309 sl310 sl311 sl312 sl313 : Array (Option PySem.Value)} {oc11 kV11 dc11 pm11 cd11 ct11 oc12 kV12 dc12 pm12 cd12 ct12 oc16 kV16 dc16 pm16 cd16 ct16 oc17 kV17 dc17 pm17 cd17 ct17 oc18 kV18 dc18 pm18 cd18 ct18 oc19 kV19 dc19 pm19 cd19 ct19 oc20 kV20 dc20 pm20 cd20 ct20 oc24 kV24 dc24 pm24 cd24 ct24 oc26 kV26 dc26 pm26 cd26 ct26 oc28 kV28 dc28 pm28 cd28 ct28 oc29 kV29 dc29 pm29 cd29 ct29 oc32 kV32 dc32 pm32 cd32 ct32 oc33 kV33 dc33 pm33 cd33 ct33 oc34 kV34 dc34 pm34 cd34 ct34 oc46 kV46 dc46 pm46 cd46 ct46 oc308 kV308 dc308 pm308 cd308 ct308 oc309 kV309 dc309 pm309 cd309 ct309 oc310 kV310 dc310 pm310 cd310 ct310 oc311 kV311 dc311 pm311 cd311 ct311 oc312 kV312 dc312 pm312 cd312 ct312 oc313 kV313 dc313 pm313 cd313 ct313 : PySem.Value}
    (q0 : PySem.W.nsIn K PySem.mainGlobals "Web" = some (some (.ref C0)))
    (qb0 : clsB K C0 ["kinds", "ties", "links"] = true)
    (q2 : PySem.W.nsIn K PySem.mainGlobals "Rule" = some (some (.ref C2)))
    (qb2 : clsB K C2 ["left", "right", "kept"] = true)
    (q10 : PySem.W.nsIn K PySem.mainGlobals "WebError" = some (some (.ref C10)))
    (q11 : PySem.W.nsIn K PySem.mainGlobals "TooGreat" = some (some (.ref C11)))
    (q12 : PySem.W.nsIn K PySem.mainGlobals "BadPlace" = some (some (.ref C12)))
    (q13 : PySem.W.nsIn K PySem.mainGlobals "BadTie" = some (some (.ref C13)))
    (q14 : PySem.W.nsIn K PySem.mainGlobals "BadOrder" = some (some (.ref C14)))
    (q15 : PySem.W.nsIn K PySem.mainGlobals "TooMany" = some (some (.ref C15)))
    (q16 : PySem.W.nsIn K PySem.mainGlobals "BadText" = some (some (.ref C16)))
    (q17 : PySem.W.nsIn K PySem.mainGlobals "BadName" = some (some (.ref C17)))
    (q18 : PySem.W.nsIn K PySem.mainGlobals "Twice" = some (some (.ref C18)))
    (q19 : PySem.W.nsIn K PySem.mainGlobals "NoWeb" = some (some (.ref C19)))
    (q20 : PySem.W.nsIn K PySem.mainGlobals "BadRule" = some (some (.ref C20)))
    (q21 : PySem.W.nsIn K PySem.mainGlobals "NoWay" = some (some (.ref C21)))
    (qb10 : excB K C10 = true)
    (qr10 : excR K TX.exc (cadL [(0, C0), (2, C2), (10, C10), (11, C11), (12, C12), (13, C13), (14, C14), (15, C15), (16, C16), (17, C17), (18, C18), (19, C19), (20, C20), (21, C21)]) 10 = true)
    (qb11 : excB K C11 = true)
    (qr11 : excR K TX.exc (cadL [(0, C0), (2, C2), (10, C10), (11, C11), (12, C12), (13, C13), (14, C14), (15, C15), (16, C16), (17, C17), (18, C18), (19, C19), (20, C20), (21, C21)]) 11 = true)
    (qb12 : excB K C12 = true)
    (qr12 : excR K TX.exc (cadL [(0, C0), (2, C2), (10, C10), (11, C11), (12, C12), (13, C13), (14, C14), (15, C15), (16, C16), (17, C17), (18, C18), (19, C19), (20, C20), (21, C21)]) 12 = true)
    (qb13 : excB K C13 = true)
    (qr13 : excR K TX.exc (cadL [(0, C0), (2, C2), (10, C10), (11, C11), (12, C12), (13, C13), (14, C14), (15, C15), (16, C16), (17, C17), (18, C18), (19, C19), (20, C20), (21, C21)]) 13 = true)
    (qb14 : excB K C14 = true)
    (qr14 : excR K TX.exc (cadL [(0, C0), (2, C2), (10, C10), (11, C11), (12, C12), (13, C13), (14, C14), (15, C15), (16, C16), (17, C17), (18, C18), (19, C19), (20, C20), (21, C21)]) 14 = true)
    (qb15 : excB K C15 = true)
    (qr15 : excR K TX.exc (cadL [(0, C0), (2, C2), (10, C10), (11, C11), (12, C12), (13, C13), (14, C14), (15, C15), (16, C16), (17, C17), (18, C18), (19, C19), (20, C20), (21, C21)]) 15 = true)
    (qb16 : excB K C16 = true)
    (qr16 : excR K TX.exc (cadL [(0, C0), (2, C2), (10, C10), (11, C11), (12, C12), (13, C13), (14, C14), (15, C15), (16, C16), (17, C17), (18, C18), (19, C19), (20, C20), (21, C21)]) 16 = true)
    (qb17 : excB K C17 = true)
    (qr17 : excR K TX.exc (cadL [(0, C0), (2, C2), (10, C10), (11, C11), (12, C12), (13, C13), (14, C14), (15, C15), (16, C16), (17, C17), (18, C18), (19, C19), (20, C20), (21, C21)]) 17 = true)
    (qb18 : excB K C18 = true)
    (qr18 : excR K TX.exc (cadL [(0, C0), (2, C2), (10, C10), (11, C11), (12, C12), (13, C13), (14, C14), (15, C15), (16, C16), (17, C17), (18, C18), (19, C19), (20, C20), (21, C21)]) 18 = true)
    (qb19 : excB K C19 = true)
    (qr19 : excR K TX.exc (cadL [(0, C0), (2, C2), (10, C10), (11, C11), (12, C12), (13, C13), (14, C14), (15, C15), (16, C16), (17, C17), (18, C18), (19, C19), (20, C20), (21, C21)]) 19 = true)
    (qb20 : excB K C20 = true)
    (qr20 : excR K TX.exc (cadL [(0, C0), (2, C2), (10, C10), (11, C11), (12, C12), (13, C13), (14, C14), (15, C15), (16, C16), (17, C17), (18, C18), (19, C19), (20, C20), (21, C21)]) 20 = true)
    (qb21 : excB K C21 = true)
    (qr21 : excR K TX.exc (cadL [(0, C0), (2, C2), (10, C10), (11, C11), (12, C12), (13, C13), (14, C14), (15, C15), (16, C16), (17, C17), (18, C18), (19, C19), (20, C20), (21, C21)]) 21 = true)
    (a11 : PySem.W.findIn K (.ref C0) "size" = some (some (.ref g11)))
    (l11 : K.lookup g11 = some ⟨oc11, od11, .func (PySem.W.fnOf "size" "Web.size" (L2.defArgs d11.st) (L2.defBody d11.st) (L2.defScope d11.st) .none kV11 dc11 pm11 an11 cd11 ct11), sl11⟩)
    (c11 : PySem.W.codeIn K cd11 "Web.size" = true)
    (k11 : PySem.W.keepIn K (.ref g11) = true)
    (m11 : methB K C0 "size" g11 = true)
    (a12 : PySem.W.nsIn K PySem.mainGlobals "_law_whole" = some (some (.ref g12)))
    (l12 : K.lookup g12 = some ⟨oc12, od12, .func (PySem.W.fnOf "_law_whole" "_law_whole" (L2.defArgs d12.st) (L2.defBody d12.st) (L2.defScope d12.st) .none kV12 dc12 pm12 an12 cd12 ct12), sl12⟩)
    (c12 : PySem.W.codeIn K cd12 "_law_whole" = true)
    (k12 : PySem.W.keepIn K (.ref g12) = true)
    (a16 : PySem.W.findIn K (.ref C0) "__init__" = some (some (.ref g16)))
    (l16 : K.lookup g16 = some ⟨oc16, od16, .func (PySem.W.fnOf "__init__" "Web.__init__" (L2.defArgs d16.st) (L2.defBody d16.st) (L2.defScope d16.st) .none kV16 dc16 pm16 an16 cd16 ct16), sl16⟩)
    (c16 : PySem.W.codeIn K cd16 "Web.__init__" = true)
    (k16 : PySem.W.keepIn K (.ref g16) = true)
    (m16 : mkB K C0 g16 = true)
    (a17 : PySem.W.nsIn K PySem.mainGlobals "pairs_between" = some (some (.ref g17)))
    (l17 : K.lookup g17 = some ⟨oc17, od17, .func (PySem.W.fnOf "pairs_between" "pairs_between" (L2.defArgs d17.st) (L2.defBody d17.st) (L2.defScope d17.st) .none kV17 dc17 pm17 an17 cd17 ct17), sl17⟩)
    (c17 : PySem.W.codeIn K cd17 "pairs_between" = true)
    (k17 : PySem.W.keepIn K (.ref g17) = true)
    (a18 : PySem.W.nsIn K PySem.mainGlobals "is_tie" = some (some (.ref g18)))
    (l18 : K.lookup g18 = some ⟨oc18, od18, .func (PySem.W.fnOf "is_tie" "is_tie" (L2.defArgs d18.st) (L2.defBody d18.st) (L2.defScope d18.st) .none kV18 dc18 pm18 an18 cd18 ct18), sl18⟩)
    (c18 : PySem.W.codeIn K cd18 "is_tie" = true)
    (k18 : PySem.W.keepIn K (.ref g18) = true)
    (a19 : PySem.W.nsIn K PySem.mainGlobals "is_word" = some (some (.ref g19)))
    (l19 : K.lookup g19 = some ⟨oc19, od19, .func (PySem.W.fnOf "is_word" "is_word" (L2.defArgs d19.st) (L2.defBody d19.st) (L2.defScope d19.st) .none kV19 dc19 pm19 an19 cd19 ct19), sl19⟩)
    (c19 : PySem.W.codeIn K cd19 "is_word" = true)
    (k19 : PySem.W.keepIn K (.ref g19) = true)
    (a20 : PySem.W.nsIn K PySem.mainGlobals "plain_tie" = some (some (.ref g20)))
    (l20 : K.lookup g20 = some ⟨oc20, od20, .func (PySem.W.fnOf "plain_tie" "plain_tie" (L2.defArgs d20.st) (L2.defBody d20.st) (L2.defScope d20.st) .none kV20 dc20 pm20 an20 cd20 ct20), sl20⟩)
    (c20 : PySem.W.codeIn K cd20 "plain_tie" = true)
    (k20 : PySem.W.keepIn K (.ref g20) = true)
    (a24 : PySem.W.nsIn K PySem.mainGlobals "_law_mix" = some (some (.ref g24)))
    (l24 : K.lookup g24 = some ⟨oc24, od24, .func (PySem.W.fnOf "_law_mix" "_law_mix" (L2.defArgs d24.st) (L2.defBody d24.st) (L2.defScope d24.st) .none kV24 dc24 pm24 an24 cd24 ct24), sl24⟩)
    (c24 : PySem.W.codeIn K cd24 "_law_mix" = true)
    (k24 : PySem.W.keepIn K (.ref g24) = true)
    (a26 : PySem.W.nsIn K PySem.mainGlobals "_law_word" = some (some (.ref g26)))
    (l26 : K.lookup g26 = some ⟨oc26, od26, .func (PySem.W.fnOf "_law_word" "_law_word" (L2.defArgs d26.st) (L2.defBody d26.st) (L2.defScope d26.st) .none kV26 dc26 pm26 an26 cd26 ct26), sl26⟩)
    (c26 : PySem.W.codeIn K cd26 "_law_word" = true)
    (k26 : PySem.W.keepIn K (.ref g26) = true)
    (a28 : PySem.W.nsIn K PySem.mainGlobals "_law_kind" = some (some (.ref g28)))
    (l28 : K.lookup g28 = some ⟨oc28, od28, .func (PySem.W.fnOf "_law_kind" "_law_kind" (L2.defArgs d28.st) (L2.defBody d28.st) (L2.defScope d28.st) .none kV28 dc28 pm28 an28 cd28 ct28), sl28⟩)
    (c28 : PySem.W.codeIn K cd28 "_law_kind" = true)
    (k28 : PySem.W.keepIn K (.ref g28) = true)
    (a29 : PySem.W.nsIn K PySem.mainGlobals "_law_cells" = some (some (.ref g29)))
    (l29 : K.lookup g29 = some ⟨oc29, od29, .func (PySem.W.fnOf "_law_cells" "_law_cells" (L2.defArgs d29.st) (L2.defBody d29.st) (L2.defScope d29.st) .none kV29 dc29 pm29 an29 cd29 ct29), sl29⟩)
    (c29 : PySem.W.codeIn K cd29 "_law_cells" = true)
    (k29 : PySem.W.keepIn K (.ref g29) = true)
    (a32 : PySem.W.nsIn K PySem.mainGlobals "_law_web" = some (some (.ref g32)))
    (l32 : K.lookup g32 = some ⟨oc32, od32, .func (PySem.W.fnOf "_law_web" "_law_web" (L2.defArgs d32.st) (L2.defBody d32.st) (L2.defScope d32.st) .none kV32 dc32 pm32 an32 cd32 ct32), sl32⟩)
    (c32 : PySem.W.codeIn K cd32 "_law_web" = true)
    (k32 : PySem.W.keepIn K (.ref g32) = true)
    (a33 : PySem.W.nsIn K PySem.mainGlobals "_law_shuffled" = some (some (.ref g33)))
    (l33 : K.lookup g33 = some ⟨oc33, od33, .func (PySem.W.fnOf "_law_shuffled" "_law_shuffled" (L2.defArgs d33.st) (L2.defBody d33.st) (L2.defScope d33.st) .none kV33 dc33 pm33 an33 cd33 ct33), sl33⟩)
    (c33 : PySem.W.codeIn K cd33 "_law_shuffled" = true)
    (k33 : PySem.W.keepIn K (.ref g33) = true)
    (a34 : PySem.W.nsIn K PySem.mainGlobals "_law_family" = some (some (.ref g34)))
    (l34 : K.lookup g34 = some ⟨oc34, od34, .func (PySem.W.fnOf "_law_family" "_law_family" (L2.defArgs d34.st) (L2.defBody d34.st) (L2.defScope d34.st) .none kV34 dc34 pm34 an34 cd34 ct34), sl34⟩)
    (c34 : PySem.W.codeIn K cd34 "_law_family" = true)
    (k34 : PySem.W.keepIn K (.ref g34) = true)
    (a46 : PySem.W.nsIn K PySem.mainGlobals "_law_tie_is" = some (some (.ref g46)))
    (l46 : K.lookup g46 = some ⟨oc46, od46, .func (PySem.W.fnOf "_law_tie_is" "_law_tie_is" (L2.defArgs d46.st) (L2.defBody d46.st) (L2.defScope d46.st) .none kV46 dc46 pm46 an46 cd46 ct46), sl46⟩)
    (c46 : PySem.W.codeIn K cd46 "_law_tie_is" = true)
    (k46 : PySem.W.keepIn K (.ref g46) = true)
    (a308 : PySem.W.nsIn K PySem.mainGlobals "law" = some (some (.ref g308)))
    (l308 : K.lookup g308 = some ⟨oc308, od308, .func (PySem.W.fnOf "law" "law" (L2.defArgs d308.st) (L2.defBody d308.st) (L2.defScope d308.st) .none kV308 dc308 pm308 an308 cd308 ct308), sl308⟩)
    (c308 : PySem.W.codeIn K cd308 "law" = true)
    (k308 : PySem.W.keepIn K (.ref g308) = true)
    (a309 : PySem.W.nsIn K PySem.mainGlobals "_law_number" = some (some (.ref g309)))
    (l309 : K.lookup g309 = some ⟨oc309, od309, .func (PySem.W.fnOf "_law_number" "_law_number" (L2.defArgs d309.st) (L2.defBody d309.st) (L2.defScope d309.st) .none kV309 dc309 pm309 an309 cd309 ct309), sl309⟩)
    (c309 : PySem.W.codeIn K cd309 "_law_number" = true)
    (k309 : PySem.W.keepIn K (.ref g309) = true)
    (a310 : PySem.W.findIn K (.ref C2) "__init__" = some (some (.ref g310)))
    (l310 : K.lookup g310 = some ⟨oc310, od310, .func (PySem.W.fnOf "__init__" "Rule.__init__" (L2.defArgs d310.st) (L2.defBody d310.st) (L2.defScope d310.st) .none kV310 dc310 pm310 an310 cd310 ct310), sl310⟩)
    (c310 : PySem.W.codeIn K cd310 "Rule.__init__" = true)
    (k310 : PySem.W.keepIn K (.ref g310) = true)
    (m310 : mkB K C2 g310 = true)
    (a311 : PySem.W.nsIn K PySem.mainGlobals "_law_rule_is" = some (some (.ref g311)))
    (l311 : K.lookup g311 = some ⟨oc311, od311, .func (PySem.W.fnOf "_law_rule_is" "_law_rule_is" (L2.defArgs d311.st) (L2.defBody d311.st) (L2.defScope d311.st) .none kV311 dc311 pm311 an311 cd311 ct311), sl311⟩)
    (c311 : PySem.W.codeIn K cd311 "_law_rule_is" = true)
    (k311 : PySem.W.keepIn K (.ref g311) = true)
    (a312 : PySem.W.nsIn K PySem.mainGlobals "_law_web_is" = some (some (.ref g312)))
    (l312 : K.lookup g312 = some ⟨oc312, od312, .func (PySem.W.fnOf "_law_web_is" "_law_web_is" (L2.defArgs d312.st) (L2.defBody d312.st) (L2.defScope d312.st) .none kV312 dc312 pm312 an312 cd312 ct312), sl312⟩)
    (c312 : PySem.W.codeIn K cd312 "_law_web_is" = true)
    (k312 : PySem.W.keepIn K (.ref g312) = true)
    (a313 : PySem.W.nsIn K PySem.mainGlobals "_law_plain" = some (some (.ref g313)))
    (l313 : K.lookup g313 = some ⟨oc313, od313, .func (PySem.W.fnOf "_law_plain" "_law_plain" (L2.defArgs d313.st) (L2.defBody d313.st) (L2.defScope d313.st) .none kV313 dc313 pm313 an313 cd313 ct313), sl313⟩)
    (c313 : PySem.W.codeIn K cd313 "_law_plain" = true)
    (k313 : PySem.W.keepIn K (.ref g313) = true)
    (z0 : PySem.W.nsIn K PySem.mainGlobals "len" = some none)
    (z1 : PySem.W.nsIn K PySem.mainGlobals "list" = some none)
    (z2 : PySem.W.nsIn K PySem.mainGlobals "tuple" = some none)
    (z3 : PySem.W.nsIn K PySem.mainGlobals "sorted" = some none)
    (z4 : PySem.W.nsIn K PySem.mainGlobals "all" = some none)
    (z5 : PySem.W.nsIn K PySem.mainGlobals "int" = some none)
    (z6 : PySem.W.nsIn K PySem.mainGlobals "min" = some none)
    (z7 : PySem.W.nsIn K PySem.mainGlobals "max" = some none)
    (z8 : PySem.W.nsIn K PySem.mainGlobals "range" = some none)
    (z9 : PySem.W.nsIn K PySem.mainGlobals "isinstance" = some none)
    (z10 : PySem.W.nsIn K PySem.mainGlobals "bool" = some none)
    (z11 : PySem.W.nsIn K PySem.mainGlobals "str" = some none)
    (z12 : PySem.W.nsIn K PySem.mainGlobals "enumerate" = some none)
    (z13 : PySem.W.nsIn K PySem.mainGlobals "zip" = some none)
    (z14 : PySem.W.nsIn K PySem.mainGlobals "reversed" = some none)
    (z15 : PySem.W.nsIn K PySem.mainGlobals "ValueError" = some none)
    (z16 : PySem.W.nsIn K PySem.mainGlobals "set" = some none)
    (z17 : PySem.W.nsIn K PySem.mainGlobals "sum" = some none)
    {u0 : PySem.Tok}
    (y0 : PySem.W.nsIn K PySem.mainGlobals "LETTERS" = some (some (.str "abcdefghijklmnopqrstuvwxyz" u0)))
    {u1 : PySem.Tok}
    (y1 : PySem.W.nsIn K PySem.mainGlobals "MOST_PLACES" = some (some (.int 7 u1)))
    {u2 : PySem.Tok}
    (y2 : PySem.W.nsIn K PySem.mainGlobals "MOST_TIES" = some (some (.int 12 u2)))
    (Lm lv : Nat) : ∃ fd : PySem.FuncData, (∀ (s : PySem.Shared) (v : PySem.Value), BindsTo s fd ⟨[v], []⟩ [("_law_script", v)]) ∧ ∀ base : PySem.Heap, K.In base → base.Ns PySem.mainGlobals mg → L2.FnOk P w K mg base (L2.CX P w) (2 * lv) fa fd ["_law_script"] (spQ lib Lm lv 308 K) := by
  have F11 := L2.fun_mk (st := d11.st) l11 c11 k11
  have b11 := F11.binds (ps := ["self"]) fun _ _ _ _ _ _ us hl => match us, hl with | [_], _ => rfl
  have F12 := L2.fun_mk (st := d12.st) l12 c12 k12
  have b12 := F12.binds (ps := ["_law_found"]) fun _ _ _ _ _ _ us hl => match us, hl with | [_], _ => rfl
  have F16 := L2.fun_mk (st := d16.st) l16 c16 k16
  have b16 := F16.binds (ps := ["self", "kinds", "ties"]) fun _ _ _ _ _ _ us hl => match us, hl with | [_, _, _], _ => rfl
  have F17 := L2.fun_mk (st := d17.st) l17 c17 k17
  have b17 := F17.binds (ps := ["ties"]) fun _ _ _ _ _ _ us hl => match us, hl with | [_], _ => rfl
  have F18 := L2.fun_mk (st := d18.st) l18 c18 k18
  have b18 := F18.binds (ps := ["size", "tie"]) fun _ _ _ _ _ _ us hl => match us, hl with | [_, _], _ => rfl
  have F19 := L2.fun_mk (st := d19.st) l19 c19 k19
  have b19 := F19.binds (ps := ["kind"]) fun _ _ _ _ _ _ us hl => match us, hl with | [_], _ => rfl
  have F20 := L2.fun_mk (st := d20.st) l20 c20 k20
  have b20 := F20.binds (ps := ["tie"]) fun _ _ _ _ _ _ us hl => match us, hl with | [_], _ => rfl
  have F24 := L2.fun_mk (st := d24.st) l24 c24 k24
  have b24 := F24.binds (ps := ["_law_cell", "_law_k"]) fun _ _ _ _ _ _ us hl => match us, hl with | [_, _], _ => rfl
  have F26 := L2.fun_mk (st := d26.st) l26 c26 k26
  have b26 := F26.binds (ps := ["_law_seed", "_law_which"]) fun _ _ _ _ _ _ us hl => match us, hl with | [_, _], _ => rfl
  have F28 := L2.fun_mk (st := d28.st) l28 c28 k28
  have b28 := F28.binds (ps := ["_law_cell", "_law_seed"]) fun _ _ _ _ _ _ us hl => match us, hl with | [_, _], _ => rfl
  have F29 := L2.fun_mk (st := d29.st) l29 c29 k29
  have b29 := F29.binds (ps := ["_law_script", "_law_at", "_law_many"]) fun _ _ _ _ _ _ us hl => match us, hl with | [_, _, _], _ => rfl
  have F32 := L2.fun_mk (st := d32.st) l32 c32 k32
  have b32 := F32.binds (ps := ["_law_cells_here", "_law_seed", "_law_many"]) fun _ _ _ _ _ _ us hl => match us, hl with | [_, _, _], _ => rfl
  have F33 := L2.fun_mk (st := d33.st) l33 c33 k33
  have b33 := F33.binds (ps := ["_law_seed", "_law_many"]) fun _ _ _ _ _ _ us hl => match us, hl with | [_, _], _ => rfl
  have F34 := L2.fun_mk (st := d34.st) l34 c34 k34
  have b34 := F34.binds (ps := ["_law_seed", "_law_many"]) fun _ _ _ _ _ _ us hl => match us, hl with | [_, _], _ => rfl
  have F46 := L2.fun_mk (st := d46.st) l46 c46 k46
  have b46 := F46.binds (ps := ["_law_found", "_law_due"]) fun _ _ _ _ _ _ us hl => match us, hl with | [_, _], _ => rfl
  have F308 := L2.fun_mk (st := d308.st) l308 c308 k308
  have b308 := F308.binds (ps := ["_law_script"]) fun _ _ _ _ _ _ us hl => match us, hl with | [_], _ => rfl
  have F309 := L2.fun_mk (st := d309.st) l309 c309 k309
  have b309 := F309.binds (ps := ["_law_cell"]) fun _ _ _ _ _ _ us hl => match us, hl with | [_], _ => rfl
  have F310 := L2.fun_mk (st := d310.st) l310 c310 k310
  have b310 := F310.binds (ps := ["self", "left", "right", "kept"]) fun _ _ _ _ _ _ us hl => match us, hl with | [_, _, _, _], _ => rfl
  have F311 := L2.fun_mk (st := d311.st) l311 c311 k311
  have b311 := F311.binds (ps := ["_law_made", "_law_left", "_law_right", "_law_kept"]) fun _ _ _ _ _ _ us hl => match us, hl with | [_, _, _, _], _ => rfl
  have F312 := L2.fun_mk (st := d312.st) l312 c312 k312
  have b312 := F312.binds (ps := ["_law_web_here", "_law_kinds", "_law_ties"]) fun _ _ _ _ _ _ us hl => match us, hl with | [_, _, _], _ => rfl
  have F313 := L2.fun_mk (st := d313.st) l313 c313 k313
  have b313 := F313.binds (ps := ["_law_ties"]) fun _ _ _ _ _ _ us hl => match us, hl with | [_], _ => rfl
  have wd : Wd K mg (cadL [(0, C0), (2, C2), (10, C10), (11, C11), (12, C12), (13, C13), (14, C14), (15, C15), (16, C16), (17, C17), (18, C18), (19, C19), (20, C20), (21, C21)]) TX DD := by
    refine ⟨fun i d hd => ?_, fun x hx => ?_, fun x v hx => ?_, fun c hc => ?_, fun x k hx => ?_⟩
    · simp only [DD, List.mem_cons, List.not_mem_nil, or_false, Prod.mk.injEq] at hd
      rcases hd with ⟨rfl, rfl⟩ | ⟨rfl, rfl⟩ | ⟨rfl, rfl⟩ | ⟨rfl, rfl⟩ | ⟨rfl, rfl⟩ | ⟨rfl, rfl⟩ | ⟨rfl, rfl⟩ | ⟨rfl, rfl⟩ | ⟨rfl, rfl⟩ | ⟨rfl, rfl⟩ | ⟨rfl, rfl⟩ | ⟨rfl, rfl⟩ | ⟨rfl, rfl⟩ | ⟨rfl, rfl⟩ | ⟨rfl, rfl⟩ | ⟨rfl, rfl⟩ | ⟨rfl, rfl⟩ | ⟨rfl, rfl⟩ | ⟨rfl, rfl⟩ | ⟨rfl, rfl⟩ | ⟨rfl, rfl⟩
      · exact ⟨g11, _, methB_ok m11, b11, F11⟩
      · exact ⟨g12, _, PySem.W.mg_of X G a12, b12, F12⟩
      · exact ⟨g16, _, mkB_ok m16, b16, F16⟩
      · exact ⟨g17, _, PySem.W.mg_of X G a17, b17, F17⟩
      · exact ⟨g18, _, PySem.W.mg_of X G a18, b18, F18⟩
      · exact ⟨g19, _, PySem.W.mg_of X G a19, b19, F19⟩
      · exact ⟨g20, _, PySem.W.mg_of X G a20, b20, F20⟩
      · exact ⟨g24, _, PySem.W.mg_of X G a24, b24, F24⟩
      · exact ⟨g26, _, PySem.W.mg_of X G a26, b26, F26⟩
      · exact ⟨g28, _, PySem.W.mg_of X G a28, b28, F28⟩
      · exact ⟨g29, _, PySem.W.mg_of X G a29, b29, F29⟩
      · exact ⟨g32, _, PySem.W.mg_of X G a32, b32, F32⟩
      · exact ⟨g33, _, PySem.W.mg_of X G a33, b33, F33⟩
      · exact ⟨g34, _, PySem.W.mg_of X G a34, b34, F34⟩
      · exact ⟨g46, _, PySem.W.mg_of X G a46, b46, F46⟩
      · exact ⟨g308, _, PySem.W.mg_of X G a308, b308, F308⟩
      · exact ⟨g309, _, PySem.W.mg_of X G a309, b309, F309⟩
      · exact ⟨g310, _, mkB_ok m310, b310, F310⟩
      · exact ⟨g311, _, PySem.W.mg_of X G a311, b311, F311⟩
      · exact ⟨g312, _, PySem.W.mg_of X G a312, b312, F312⟩
      · exact ⟨g313, _, PySem.W.mg_of X G a313, b313, F313⟩
    · simp only [bltNames, List.mem_cons, List.not_mem_nil, or_false] at hx
      rcases hx with rfl | rfl | rfl | rfl | rfl | rfl | rfl | rfl | rfl | rfl | rfl | rfl | rfl | rfl | rfl | rfl | rfl | rfl
      · exact PySem.W.mg_none_of X G z0
      · exact PySem.W.mg_none_of X G z1
      · exact PySem.W.mg_none_of X G z2
      · exact PySem.W.mg_none_of X G z3
      · exact PySem.W.mg_none_of X G z4
      · exact PySem.W.mg_none_of X G z5
      · exact PySem.W.mg_none_of X G z6
      · exact PySem.W.mg_none_of X G z7
      · exact PySem.W.mg_none_of X G z8
      · exact PySem.W.mg_none_of X G z9
      · exact PySem.W.mg_none_of X G z10
      · exact PySem.W.mg_none_of X G z11
      · exact PySem.W.mg_none_of X G z12
      · exact PySem.W.mg_none_of X G z13
      · exact PySem.W.mg_none_of X G z14
      · exact PySem.W.mg_none_of X G z15
      · exact PySem.W.mg_none_of X G z16
      · exact PySem.W.mg_none_of X G z17
    · simp only [TX, List.mem_cons, List.not_mem_nil, or_false, Prod.mk.injEq] at hx
      rcases hx with ⟨rfl, rfl⟩ | ⟨rfl, rfl⟩ | ⟨rfl, rfl⟩
      · exact ⟨_, _, PySem.W.mg_of X G y0, (show L2.RelV (.str "abcdefghijklmnopqrstuvwxyz") _ from ⟨_, rfl⟩), fun _ _ _ => rfl⟩
      · exact ⟨_, _, PySem.W.mg_of X G y1, (show L2.RelV (.int 7) _ from ⟨_, rfl⟩), fun _ _ _ => rfl⟩
      · exact ⟨_, _, PySem.W.mg_of X G y2, (show L2.RelV (.int 12) _ from ⟨_, rfl⟩), fun _ _ _ => rfl⟩
    · simp only [TX, List.mem_cons, List.not_mem_nil, or_false, Prod.mk.injEq] at hc
      rcases hc with rfl | rfl
      · exact ⟨PySem.W.mg_of X G q0, qb0⟩
      · exact ⟨PySem.W.mg_of X G q2, qb2⟩
    · simp only [TX, List.mem_cons, List.not_mem_nil, or_false, Prod.mk.injEq] at hx
      rcases hx with ⟨rfl, rfl⟩ | ⟨rfl, rfl⟩ | ⟨rfl, rfl⟩ | ⟨rfl, rfl⟩ | ⟨rfl, rfl⟩ | ⟨rfl, rfl⟩ | ⟨rfl, rfl⟩ | ⟨rfl, rfl⟩ | ⟨rfl, rfl⟩ | ⟨rfl, rfl⟩ | ⟨rfl, rfl⟩ | ⟨rfl, rfl⟩
      · exact ⟨PySem.W.mg_of X G q10, qb10, qr10⟩
      · exact ⟨PySem.W.mg_of X G q11, qb11, qr11⟩
      · exact ⟨PySem.W.mg_of X G q12, qb12, qr12⟩
      · exact ⟨PySem.W.mg_of X G q13, qb13, qr13⟩
      · exact ⟨PySem.W.mg_of X G q14, qb14, qr14⟩
      · exact ⟨PySem.W.mg_of X G q15, qb15, qr15⟩
      · exact ⟨PySem.W.mg_of X G q16, qb16, qr16⟩
      · exact ⟨PySem.W.mg_of X G q17, qb17, qr17⟩
      · exact ⟨PySem.W.mg_of X G q18, qb18, qr18⟩
      · exact ⟨PySem.W.mg_of X G q19, qb19, qr19⟩
      · exact ⟨PySem.W.mg_of X G q20, qb20, qr20⟩
      · exact ⟨PySem.W.mg_of X G q21, qb21, qr21⟩
  have e := hfa.symm.trans (PySem.W.mg_of X G a308)
  cases e
  exact ⟨_, fun s v => .of_eq rfl, fun base _ _ => (defs_ok (lib := lib) (D := DD) (t := TX) (G := ⟨K, cadL [(0, C0), (2, C2), (10, C10), (11, C11), (12, C12), (13, C13), (14, C14), (15, C15), (16, C16), (17, C17), (18, C18), (19, C19), (20, C20), (21, C21)], TX.fld, TX.exs⟩) (fun i d h => by show (DD.lookup i).map DefI.fn = _; rw [h]; rfl) rfl rfl rfl wd tx_ok dd_ok Lm lv 308 d308 _ _ rfl F308).imp fun vs H Q E h => spQ_of (G := ⟨K, cadL [(0, C0), (2, C2), (10, C10), (11, C11), (12, C12), (13, C13), (14, C14), (15, C15), (16, C16), (17, C17), (18, C18), (19, C19), (20, C20), (21, C21)], TX.fld, TX.exs⟩) h⟩
end TwL
open PySem PySem.W PyProof.Rows
set_option maxHeartbeats 0 in
theorem PySem.Challenge.cw_tieword_k34_rules_made_holds : PySem.Challenge.rw_tieword_k34_rules_made.Holds := by
  w_on; o_law; k_head; (case hw => w_witness2)
  k_fill
  refine L2.walk_of (l := PySem.Challenge.rw_tieword_k34_rules_made) (n := 63) (k := 2 * 10) (x := "_law_script") (CX := fun w => L2.CX PySem.Challenge.rw_tieword_k34_rules_made.prog w) (sp := fun w => Tw.spQ TwL.lib Tw.LM 10 308 _) rfl (by decide) rfl ⟨rfl, by decide, by decide⟩ (fun w h Y => PySem.W.kIn_of Y) ?F (fun _ _ a ns hl _ hS => Tw.spQ_here hS (TwL.law_true ns hl)) (fun _ _ _ _ _ h => Tw.cx_none h)
  case F =>
    intro w mg fa h KX G hmg
    refine' TwL.all_mk KX G hmg ?q0 ?qb0 ?q2 ?qb2 ?q10 ?q11 ?q12 ?q13 ?q14 ?q15 ?q16 ?q17 ?q18 ?q19 ?q20 ?q21 ?qb10 ?qr10 ?qb11 ?qr11 ?qb12 ?qr12 ?qb13 ?qr13 ?qb14 ?qr14 ?qb15 ?qr15 ?qb16 ?qr16 ?qb17 ?qr17 ?qb18 ?qr18 ?qb19 ?qr19 ?qb20 ?qr20 ?qb21 ?qr21 ?a11 ?l11 ?c11 ?k11 ?m11 ?a12 ?l12 ?c12 ?k12 ?a16 ?l16 ?c16 ?k16 ?m16 ?a17 ?l17 ?c17 ?k17 ?a18 ?l18 ?c18 ?k18 ?a19 ?l19 ?c19 ?k19 ?a20 ?l20 ?c20 ?k20 ?a24 ?l24 ?c24 ?k24 ?a26 ?l26 ?c26 ?k26 ?a28 ?l28 ?c28 ?k28 ?a29 ?l29 ?c29 ?k29 ?a32 ?l32 ?c32 ?k32 ?a33 ?l33 ?c33 ?k33 ?a34 ?l34 ?c34 ?k34 ?a46 ?l46 ?c46 ?k46 ?a308 ?l308 ?c308 ?k308 ?a309 ?l309 ?c309 ?k309 ?a310 ?l310 ?c310 ?k310 ?m310 ?a311 ?l311 ?c311 ?k311 ?a312 ?l312 ?c312 ?k312 ?a313 ?l313 ?c313 ?k313 ?z0 ?z1 ?z2 ?z3 ?z4 ?z5 ?z6 ?z7 ?z8 ?z9 ?z10 ?z11 ?z12 ?z13 ?z14 ?z15 ?z16 ?z17 ?y0 ?y1 ?y2 Tw.LM 10
    (case q0 => k_is)
    (case qb0 => kernel_rfl)
    (case q2 => k_is)
    (case qb2 => kernel_rfl)
    (case q10 => k_is)
    (case q11 => k_is)
    (case q12 => k_is)
    (case q13 => k_is)
    (case q14 => k_is)
    (case q15 => k_is)
    (case q16 => k_is)
    (case q17 => k_is)
    (case q18 => k_is)
    (case q19 => k_is)
    (case q20 => k_is)
    (case q21 => k_is)
    (case qb10 => kernel_rfl)
    (case qr10 => kernel_rfl)
    (case qb11 => kernel_rfl)
    (case qr11 => kernel_rfl)
    (case qb12 => kernel_rfl)
    (case qr12 => kernel_rfl)
    (case qb13 => kernel_rfl)
    (case qr13 => kernel_rfl)
    (case qb14 => kernel_rfl)
    (case qr14 => kernel_rfl)
    (case qb15 => kernel_rfl)
    (case qr15 => kernel_rfl)
    (case qb16 => kernel_rfl)
    (case qr16 => kernel_rfl)
    (case qb17 => kernel_rfl)
    (case qr17 => kernel_rfl)
    (case qb18 => kernel_rfl)
    (case qr18 => kernel_rfl)
    (case qb19 => kernel_rfl)
    (case qr19 => kernel_rfl)
    (case qb20 => kernel_rfl)
    (case qr20 => kernel_rfl)
    (case qb21 => kernel_rfl)
    (case qr21 => kernel_rfl)
    (case a11 => k_is)
    (case l11 => k_is)
    (case c11 => k_is)
    (case k11 => k_is)
    (case m11 => kernel_rfl)
    (case a12 => k_is)
    (case l12 => k_is)
    (case c12 => k_is)
    (case k12 => k_is)
    (case a16 => k_is)
    (case l16 => k_is)
    (case c16 => k_is)
    (case k16 => k_is)
    (case m16 => kernel_rfl)
    (case a17 => k_is)
    (case l17 => k_is)
    (case c17 => k_is)
    (case k17 => k_is)
    (case a18 => k_is)
    (case l18 => k_is)
    (case c18 => k_is)
    (case k18 => k_is)
    (case a19 => k_is)
    (case l19 => k_is)
    (case c19 => k_is)
    (case k19 => k_is)
    (case a20 => k_is)
    (case l20 => k_is)
    (case c20 => k_is)
    (case k20 => k_is)
    (case a24 => k_is)
    (case l24 => k_is)
    (case c24 => k_is)
    (case k24 => k_is)
    (case a26 => k_is)
    (case l26 => k_is)
    (case c26 => k_is)
    (case k26 => k_is)
    (case a28 => k_is)
    (case l28 => k_is)
    (case c28 => k_is)
    (case k28 => k_is)
    (case a29 => k_is)
    (case l29 => k_is)
    (case c29 => k_is)
    (case k29 => k_is)
    (case a32 => k_is)
    (case l32 => k_is)
    (case c32 => k_is)
    (case k32 => k_is)
    (case a33 => k_is)
    (case l33 => k_is)
    (case c33 => k_is)
    (case k33 => k_is)
    (case a34 => k_is)
    (case l34 => k_is)
    (case c34 => k_is)
    (case k34 => k_is)
    (case a46 => k_is)
    (case l46 => k_is)
    (case c46 => k_is)
    (case k46 => k_is)
    (case a308 => k_is)
    (case l308 => k_is)
    (case c308 => k_is)
    (case k308 => k_is)
    (case a309 => k_is)
    (case l309 => k_is)
    (case c309 => k_is)
    (case k309 => k_is)
    (case a310 => k_is)
    (case l310 => k_is)
    (case c310 => k_is)
    (case k310 => k_is)
    (case m310 => kernel_rfl)
    (case a311 => k_is)
    (case l311 => k_is)
    (case c311 => k_is)
    (case k311 => k_is)
    (case a312 => k_is)
    (case l312 => k_is)
    (case c312 => k_is)
    (case k312 => k_is)
    (case a313 => k_is)
    (case l313 => k_is)
    (case c313 => k_is)
    (case k313 => k_is)
    (case z0 => k_is)
    (case z1 => k_is)
    (case z2 => k_is)
    (case z3 => k_is)
    (case z4 => k_is)
    (case z5 => k_is)
    (case z6 => k_is)
    (case z7 => k_is)
    (case z8 => k_is)
    (case z9 => k_is)
    (case z10 => k_is)
    (case z11 => k_is)
    (case z12 => k_is)
    (case z13 => k_is)
    (case z14 => k_is)
    (case z15 => k_is)
    (case z16 => k_is)
    (case z17 => k_is)
    (case y0 => k_is)
    (case y1 => k_is)
    (case y2 => k_is)
