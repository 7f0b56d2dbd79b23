import PyProof.Rows.All
import HandS.ForMost
import HandS.ForExc
import HandS.Deep
import HandS.SortOrd
import HandS.Conv
import HandS.TupLen
import KE.LtData
import KE.SortData
import HandS.IsInst
import HandS.SetFor
import KE.DataCmp
import HandS.SortInts
import HandS.More
import KE.KDictSum
import KE.KDictCopyH
import KE.DataMinMax
import HandS.TupSets
import HandS.Text
import PyProof.Rows.StrFirst
import PyProof.DictMoreH
import HandS.ExcIs
import HandS.RevRange
import HandS.Zip
import PyProof.ListRange
import PyProof.AutoSeq1
import PyProof.FactsAll.range_iterator_1
import HandS.Rev
import HandS.FStr
import HandS.CallSlots
import KE.KDictDisplayH
import HandS.Small
import HandS.Style
import HandS.Steps
import HandS.ExcOwn
import HandS.ExcBuiltin
import HandS.TryOnly
import HandS.Iter
import HandS.DictTup
import PySem.Challenge.RW_tieword_k02_between_and_near
set_option linter.all false
set_option Elab.async false
set_option maxRecDepth 100000
set_option maxHeartbeats 4000000
namespace Tw

inductive W where
  | non
  | bl (b : Bool)
  | int (i : Int)
  | str (s : List Nat)
  | tup (xs : List W)
  | lst (xs : List W)
  | dic (t : Bool) (ks vs : List W)
  | rcd (c : Nat) (xs : List W)
  | ref (n : Nat)
  | exn (c : Nat)
  | klst (ns : List Int)
  deriving Inhabited

inductive Ob where
  | lst (xs : List W)
  | dic (t : Bool) (ks vs : List W)
  | ins (c : Nat) (xs : List W)
  | dead
  deriving Inhabited

def subX (k c : Nat) : Bool := k == c || (c == 10 && decide (10 ≤ k)) || (c == 9 && decide (10 ≤ k))
abbrev Sto := List Ob
abbrev Env := List (Option W)
abbrev LIM : Nat := 100000

inductive Rs (α : Type) where
  | ok (a : α) (S : Sto)
  | ex (c : Nat) (S : Sto)
  | bad

inductive SR where
  | next (ρ : Env) (S : Sto)
  | ret (w : W) (S : Sto)
  | brk (ρ : Env) (S : Sto)
  | cont (ρ : Env) (S : Sto)
  | ex (ρ : Env) (c : Nat) (S : Sto)
  | bad

mutual
def eqW : W → W → Bool
  | .non, .non => true
  | .bl a, .bl b => a == b
  | .bl a, .int j => (if a then 1 else 0) == j
  | .int i, .bl b => i == (if b then 1 else 0)
  | .int i, .int j => i == j
  | .str x, .str y => x == y
  | .lst xs, .lst ys => eqL xs ys
  | .tup xs, .tup ys => eqL xs ys
  | _, _ => false
def eqL : List W → List W → Bool
  | [], [] => true
  | x :: xs, y :: ys => eqW x y && eqL xs ys
  | [], _ :: _ => false
  | _ :: _, [] => false
end

mutual
/-- plain data of depth below d: nothing but none, bools, ints, texts, tuples, lists -/
def datW : Nat → W → Bool
  | _, .non => true
  | _, .bl _ => true
  | _, .int _ => true
  | _, .str s => s.all (fun c => decide (c < 128)) && decide (s.length < LIM)
  | d, .lst xs => match d with
    | 0 => false
    | d + 1 => datL d xs
  | d, .tup xs => match d with
    | 0 => false
    | d + 1 => datL d xs
  | _, _ => false
def datL : Nat → List W → Bool
  | _, [] => true
  | d, x :: xs => datW d x && datL d xs
end

mutual
/-- the two can be compared, place by place -/
def alikeW : W → W → Bool
  | .non, .non => true
  | .bl _, .bl _ => true
  | .int _, .int _ => true
  | .str _, .str _ => true
  | .lst xs, .lst ys => alikeL xs ys
  | .tup xs, .tup ys => alikeL xs ys
  | _, _ => false
def alikeL : List W → List W → Bool
  | x :: xs, y :: ys => alikeW x y && alikeL xs ys
  | [], _ => true
  | _ :: _, [] => true
end

mutual
/-- a < b by Python's order, where both are data of one shape -/
def ltW : W → W → Bool
  | .int i, .int j => decide (i < j)
  | .bl a, .bl b => !a && b
  | .str x, .str y => decide (x < y)
  | .lst xs, .lst ys => ltL xs ys
  | .tup xs, .tup ys => ltL xs ys
  | _, _ => false
def ltL : List W → List W → Bool
  | [], [] => false
  | [], _ :: _ => true
  | _ :: _, [] => false
  | x :: xs, y :: ys => if eqW x y then ltL xs ys else ltW x y
end

mutual
/-- no ref within -/
def rfree : W → Bool
  | .tup xs => rfreeL xs
  | .lst xs => rfreeL xs
  | .dic _ ks vs => rfreeL ks && rfreeL vs
  | .rcd _ xs => rfreeL xs
  | .ref _ => false
  | _ => true
def rfreeL : List W → Bool
  | [] => true
  | x :: xs => rfree x && rfreeL xs
end

mutual
/-- no list, dict, record, ref within -/
def lfree : W → Bool
  | .tup xs => lfreeL xs
  | .lst _ => false
  | .dic _ _ _ => false
  | .rcd _ _ => false
  | .ref _ => false
  | .klst _ => false
  | .exn _ => false
  | _ => true
def lfreeL : List W → Bool
  | [] => true
  | x :: xs => lfree x && lfreeL xs
end

mutual
/-- the refs put in by g; b: what else is there must hold no list -/
def sub (b : Bool) (g : Nat → Option W) : W → Option W
  | .tup xs => (subL b g xs).map .tup
  | .lst xs => if b then none else (subL b g xs).map .lst
  | .dic t ks vs => if b then none else (subL b g ks).bind fun ks' => (subL b g vs).map (.dic t ks')
  | .rcd c xs => if b then none else (subL b g xs).map (.rcd c)
  | .ref n => g n
  | .klst ns => if b then none else some (.klst ns)
  | .exn c => if b then none else some (.exn c)
  | w => some w
def subL (b : Bool) (g : Nat → Option W) : List W → Option (List W)
  | [] => some []
  | x :: xs => (sub b g x).bind fun x' => (subL b g xs).map (x' :: ·)
end

def cellW (b : Bool) (S : Sto) (g : Nat → Option W) (n : Nat) : Option W :=
  match S[n]? with
  | some (.lst xs) => (subL b g xs).map .lst
  | some (.dic t ks vs) => (subL b g ks).bind fun ks' => (subL b g vs).map (.dic t ks')
  | some (.ins c xs) => (subL b g xs).map (.rcd c)
  | _ => none
def lev (b : Bool) (S : Sto) : Nat → Nat → Option W
  | 0 => fun _ => none
  | k + 1 => cellW b S (lev b S k)
def vw (S : Sto) (w : W) : Option W := sub false (lev false S 3) w
def vwB (S : Sto) (w : W) : Option W := sub true (lev true S 3) w
def vws (S : Sto) (ws : List W) : Option (List W) := subL false (lev false S 3) ws

def seqOf (S : Sto) : W → Option (List W)
  | .lst xs => some xs
  | .tup xs => some xs
  | .ref n => match S[n]? with
    | some (.lst xs) => some xs
    | _ => none
  | .klst ns => some (ns.map .int)
  | _ => none
def lstOf (S : Sto) : W → Option (List W)
  | .lst xs => some xs
  | .ref n => match S[n]? with
    | some (.lst xs) => some xs
    | _ => none
  | _ => none
def dicOf (S : Sto) : W → Option (Bool × List W × List W)
  | .dic t ks vs => some (t, ks, vs)
  | .ref n => match S[n]? with
    | some (.dic t ks vs) => some (t, ks, vs)
    | _ => none
  | _ => none
def recOf (S : Sto) : W → Option (Nat × List W)
  | .rcd c xs => some (c, xs)
  | .ref n => match S[n]? with
    | some (.ins c xs) => some (c, xs)
    | _ => none
  | _ => none

def key1 : W → Bool
  | .int _ => true
  | .str _ => true
  | _ => false
def isKey (t : Bool) : W → Bool
  | .tup xs => t && xs.all key1
  | w => !t && key1 w
def dget : List W → List W → W → Option W
  | k :: ks, v :: vs, x => if eqW k x then some v else dget ks vs x
  | _, _, _ => none
def dhas (ks : List W) (x : W) : Bool := ks.any fun k => eqW k x
def dmapV : List W → List W → W → W → List W
  | k :: ks, v :: vs, x, y => (if eqW k x then y else v) :: dmapV ks vs x y
  | _, _, _, _ => []
def dputV (ks vs : List W) (x y : W) : List W := if dhas ks x then dmapV ks vs x y else vs ++ [y]
def dputK (ks : List W) (x : W) : List W := if dhas ks x then ks else ks ++ [x]
def ddelV : List W → List W → W → List W
  | k :: ks, v :: vs, x => if eqW k x then vs else v :: ddelV ks vs x
  | _, _, _ => []
def ddelK : List W → W → List W
  | k :: ks, x => if eqW k x then ks else k :: ddelK ks x
  | [], _ => []

def ixN (n : Nat) (i : Int) : Option Nat := if 0 ≤ i then (if i < n then some i.toNat else none) else if -(n : Int) ≤ i then some (i + n).toNat else none
def sIx (n d : Nat) : Option Int → Nat
  | none => d
  | some v => if v < 0 then (v + (n : Int)).toNat else min v.toNat n
def cut {α : Type} (xs : List α) (lo hi : Option Int) : List α := (xs.drop (sIx xs.length 0 lo)).take (sIx xs.length xs.length hi - sIx xs.length 0 lo)

def notNone : W → Bool
  | .non => false
  | _ => true
def isTup1 : W → Bool
  | .tup (_ :: _) => true
  | _ => false
def isTup : W → Bool
  | .tup _ => true
  | _ => false
def sortOk (xs : List W) : Bool := (xs.all fun x => xs.all fun y => alikeW x y) && (xs.all isTup1 || xs.all fun x => notNone x && !isTup x)
def sortW (xs : List W) : List W := xs.mergeSort fun a b => !ltW b a

inductive IsT where
  | int | bool | str | list | tuple | cls (c : Nat)
inductive Op where
  | add | sub | mul | fdiv | mod | pow | neg
  | eq | ne | lt | le | gt | ge | isin | notin | isnone | notnone
  | idx | slice (lo hi : Bool)
  | len | list | tuple | sorted | all | int | min | max | str
  | tupD | lstD | dicD (t : Bool)
  | isi (t : IsT)
  | mIndex | mCount | mGet2 | mGet1 | mJoin | mFind | mStarts
  | rangeL (tp two : Bool)
  | listD | sortedSet | listRev | listRevR

def strI (i : Int) : List Nat := (toString i).toList.map Char.toNat
def isDig (c : Nat) : Bool := decide (48 ≤ c) && decide (c ≤ 57)
def digVal (s : List Nat) : Nat := s.foldl (fun acc c => acc * 10 + (c - 48)) 0
def joinS (sep : List Nat) : List (List Nat) → List Nat
  | [] => []
  | [x] => x
  | x :: y :: r => x ++ (sep ++ joinS sep (y :: r))
def strsOf : List W → Option (List (List Nat))
  | [] => some []
  | .str s :: r => (strsOf r).map (s :: ·)
  | _ => none
def idxI (s : List Nat) (c : Nat) : Int := match s.findIdx? (· == c) with
  | some j => (j : Int)
  | none => -1
def CDiv (j : Int) : Bool := decide (0 < j) && decide (j < 1073741824)
def CMul (i j : Int) : Bool := decide (i.natAbs < 2 ^ 64) || decide (j.natAbs < 2 ^ 64)
def CPow (i j : Int) : Bool := decide (0 ≤ j) && decide (j ≤ 1000000) && decide (i.natAbs < 2 ^ 64)

def opAdd (S : Sto) : W → W → Option W
  | .int a, .int b => some (.int (a + b))
  | .str a, .str b => if a.length + b.length < LIM then some (.str (a ++ b)) else none
  | x, y => match lstOf S x, lstOf S y with
    | some a, some b => if a.length + b.length < LIM then some (.lst (a ++ b)) else none
    | _, _ => none
def opMul (S : Sto) : W → W → Option W
  | .int a, .int b => if CMul a b then some (.int (a * b)) else none
  | .str s, .int n => if decide (n.natAbs < LIM) && decide (s.length * n.toNat < LIM) then some (.str (List.replicate n.toNat s).flatten) else none
  | x, .int n => match lstOf S x with
    | some xs => if decide (n.natAbs < LIM) && decide (xs.length * n.toNat < LIM) then some (.lst (List.replicate n.toNat xs).flatten) else none
    | none => none
  | _, _ => none

def eqOp (S : Sto) (x y : W) : Option Bool :=
  match x, y with
  | .str a, .str b => some (a == b)
  | .int a, .int b => some (a == b)
  | .bl a, .bl b => some (a == b)
  | x, y => (vw S x).bind fun x' => (vw S y).bind fun y' => if datW 30 x' && datW 30 y' then some (eqW x' y') else none

def flatW : W → Bool
  | .non => true
  | .bl _ => true
  | .int _ => true
  | .str _ => true
  | _ => false
def inOp (S : Sto) (x y : W) : Option Bool :=
  match y with
  | .str b => match x with
    | .str [c] => some (b.contains c)
    | _ => none
  | y => match dicOf S y with
    | some (t, ks, _) => if isKey t x then some (dhas ks x) else none
    | none => match lstOf S y with
      | some ys => (vw S x).bind fun x' => (vws S ys).bind fun ys' => if datW 30 x' && datL 29 ys' then some (ys'.any fun z => eqW z x') else none
      | none => match y with
        | .tup ys => if flatW x && ys.all flatW then some (ys.any fun z => eqW z x) else none
        | _ => none

def ltOp (S : Sto) (x y : W) : Option Bool :=
  (vw S x).bind fun x' => (vw S y).bind fun y' => if datW 30 x' && datW 30 y' && alikeW x' y' && notNone x' then some (ltW x' y') else none

def ltSem (S : Sto) : W → W → Option Bool
  | .int a, .int b => some (decide (a < b))
  | x, y => ltOp S x y

def leOp (S : Sto) (x y : W) : Option Bool :=
  (vw S x).bind fun x' => (vw S y).bind fun y' => if datW 30 x' && datW 30 y' && alikeW x' y' && alikeW y' x' && notNone x' then some (!ltW y' x') else none
def leSem (S : Sto) : W → W → Option Bool
  | .int a, .int b => some (decide (a ≤ b))
  | x, y => leOp S x y

def isiOp : IsT → W → Sto → Option Bool
  | .int, .int _, _ => some true
  | .int, .bl _, _ => some true
  | .int, .str _, _ => some false
  | .int, .tup _, _ => some false
  | .int, .lst _, _ => some false
  | .int, .ref n, S => match S[n]? with
    | some (.lst _) => some false
    | _ => none
  | .bool, .int _, _ => some false
  | .bool, .bl _, _ => some true
  | .bool, .str _, _ => some false
  | .str, .int _, _ => some false
  | .str, .bl _, _ => some false
  | .str, .str _, _ => some true
  | .list, .lst _, _ => some true
  | .list, .ref n, S => match S[n]? with
    | some (.lst _) => some true
    | _ => none
  | .tuple, .tup _, _ => some true
  | _, _, _ => none

def allBl : List W → Option Bool
  | [] => some true
  | .bl b :: r => (allBl r).map (b && ·)
  | _ => none

def allInt : List W → Bool
  | [] => true
  | .int _ :: r => allInt r
  | _ => false
def sortedSem (S : Sto) (x : W) : Option (List W) :=
  match lstOf S x with
  | some xs => if datL 30 xs && sortOk xs && decide (xs.length < LIM) then some (sortW xs) else none
  | none => match dicOf S x with
    | some (false, ks, _) => if allInt ks && decide (ks.length < 64) then some (sortW ks) else none
    | some (true, ks, _) => if datL 30 ks && sortOk ks && decide (ks.length < LIM) then some (sortW ks) else none
    | none => none
def uniqW : List W → List W
  | [] => []
  | x :: xs => if xs.any fun z => eqW x z then uniqW xs else x :: uniqW xs
def minW (w : W) (ws : List W) : W := ws.foldl (fun a y => if ltW y a then y else a) w
def minSem (S : Sto) (x : W) : Option W :=
  match lstOf S x with
  | some (w :: ws) => if datL 30 (w :: ws) && ((w :: ws).all fun x => (w :: ws).all fun y => alikeW x y) && (w :: ws).all notNone && decide ((w :: ws).length < LIM) then some (minW w ws) else none
  | _ => none
def lenSem (S : Sto) (x : W) : Option Int :=
  match x with
  | .str s => if s.length < LIM then some s.length else none
  | x => match seqOf S x with
    | some xs => some xs.length
    | none => (dicOf S x).map fun d => (d.2.1.length : Int)
def idxSem (S : Sto) (x y : W) : Option W :=
  match x with
  | .str s => match y with
    | .int i => if s.length < LIM then (ixN s.length i).bind fun j => s[j]?.map fun c => .str [c] else none
    | _ => none
  | x => match seqOf S x with
    | some xs => match y with
      | .int i => (ixN xs.length i).bind fun j => xs[j]?
      | _ => none
    | none => match dicOf S x with
      | some (t, ks, vs) => if isKey t y then dget ks vs y else none
      | none => none
def sliceSem (S : Sto) (x : W) (i j : Option Int) : Option W :=
  match x with
  | .str s => if s.length < LIM then some (.str (cut s i j)) else none
  | .klst ns => some (.lst (cut (ns.map .int) i j))
  | x => (lstOf S x).map fun xs => .lst (cut xs i j)
def partsOf (lo hi : Bool) (r : List W) : Option (Option Int × Option Int) :=
  match lo, hi, r with
  | false, false, [] => some (none, none)
  | true, false, [.int i] => some (some i, none)
  | false, true, [.int j] => some (none, some j)
  | true, true, [.int i, .int j] => some (some i, some j)
  | _, _, _ => none
def indexSem (S : Sto) (x y : W) : Option Nat :=
  match lstOf S x with
  | some xs => (vw S y).bind fun y' => (vws S xs).bind fun xs' => if datW 30 y' && datL 30 xs' then xs'.findIdx? fun z => eqW z y' else none
  | none => none
def isInt : W → Bool
  | .int _ => true
  | _ => false
def countSem (S : Sto) (x y : W) : Option Nat :=
  match lstOf S x with
  | some xs => if isInt y && allInt xs then some (xs.countP fun z => eqW z y) else none
  | none => none

def rgW (tp : Bool) (a n : Int) : W := if tp then .tup ((List.range (n - a).toNat).map fun (k : Nat) => W.int (a + k)) else .lst ((List.range (n - a).toNat).map fun (k : Nat) => W.int (a + k))

def opSem (o : Op) (ws : List W) (S : Sto) : Option W :=
  match o with
  | .add => match ws with
    | [x, y] => opAdd S x y
    | _ => none
  | .sub => match ws with
    | [.int a, .int b] => some (.int (a - b))
    | _ => none
  | .mul => match ws with
    | [x, y] => opMul S x y
    | _ => none
  | .fdiv => match ws with
    | [.int a, .int b] => if CDiv b then some (.int (a / b)) else none
    | _ => none
  | .mod => match ws with
    | [.int a, .int b] => if 0 < b then some (.int (a % b)) else none
    | _ => none
  | .pow => match ws with
    | [.int a, .int b] => if CPow a b then some (.int (a ^ b.toNat)) else none
    | _ => none
  | .neg => match ws with
    | [.int a] => some (.int (-a))
    | _ => none
  | .eq => match ws with
    | [x, y] => (eqOp S x y).map .bl
    | _ => none
  | .ne => match ws with
    | [x, y] => (eqOp S x y).map fun b => .bl (!b)
    | _ => none
  | .le => match ws with
    | [x, y] => (leSem S x y).map .bl
    | _ => none
  | .gt => match ws with
    | [.int a, .int b] => some (.bl (decide (b < a)))
    | _ => none
  | .ge => match ws with
    | [.int a, .int b] => some (.bl (decide (b ≤ a)))
    | _ => none
  | .lt => match ws with
    | [x, y] => (ltSem S x y).map .bl
    | _ => none
  | .isin => match ws with
    | [x, y] => (inOp S x y).map .bl
    | _ => none
  | .notin => match ws with
    | [x, y] => (inOp S x y).map fun b => .bl (!b)
    | _ => none
  | .isnone => match ws with
    | [x] => some (.bl (!notNone x))
    | _ => none
  | .notnone => match ws with
    | [x] => some (.bl (notNone x))
    | _ => none
  | .idx => match ws with
    | [x, y] => idxSem S x y
    | _ => none
  | .slice lo hi => match ws with
    | x :: r => (partsOf lo hi r).bind fun b => sliceSem S x b.1 b.2
    | _ => none
  | .len => match ws with
    | [x] => (lenSem S x).map .int
    | _ => none
  | .list => match ws with
    | [x] => (seqOf S x).map .lst
    | _ => none
  | .tuple => match ws with
    | [x] => (seqOf S x).map .tup
    | _ => none
  | .sorted => match ws with
    | [x] => (sortedSem S x).map .lst
    | _ => none
  | .all => match ws with
    | [x] => (lstOf S x).bind fun xs => (allBl xs).map .bl
    | _ => none
  | .int => match ws with
    | [.int i] => some (.int i)
    | [.bl b] => some (.int (if b then 1 else 0))
    | [.str s] => if !s.isEmpty && s.all isDig && decide (s.length < 600) then some (.int (digVal s)) else none
    | _ => none
  | .str => match ws with
    | [.int i] => if decide (i.natAbs < 10 ^ 60) then some (.str (strI i)) else none
    | _ => none
  | .min => match ws with
    | [.int a, .int b] => some (.int (if b < a then b else a))
    | [x] => minSem S x
    | _ => none
  | .max => match ws with
    | [.int a, .int b] => some (.int (if a < b then b else a))
    | _ => none
  | .tupD => if ws.length < LIM then some (.tup ws) else none
  | .lstD => if ws.length < LIM then some (.lst ws) else none
  | .dicD t => match ws with
    | [] => some (.dic t [] [])
    | _ => none
  | .isi t => match ws with
    | [x] => (isiOp t x S).map .bl
    | _ => none
  | .mIndex => match ws with
    | [x, y] => (indexSem S x y).map fun (j : Nat) => W.int (j : Int)
    | _ => none
  | .mCount => match ws with
    | [x, y] => (countSem S x y).map fun (j : Nat) => W.int (j : Int)
    | _ => none
  | .mGet2 => match ws with
    | [x, k, v] => match dicOf S x with
      | some (t, ks, vs) => if isKey t k then some ((dget ks vs k).getD v) else none
      | none => none
    | _ => none
  | .mGet1 => match ws with
    | [x, k] => match dicOf S x with
      | some (t, ks, vs) => if isKey t k then some ((dget ks vs k).getD .non) else none
      | none => none
    | _ => none
  | .mJoin => match ws with
    | [.str p, x] => match seqOf S x with
      | some xs => (strsOf xs).bind fun ss => if decide ((joinS p ss).length < LIM) && decide (p.length < LIM) then some (.str (joinS p ss)) else none
      | none => none
    | _ => none
  | .mFind => match ws with
    | [.str s, .str [c]] => if s.length < LIM then some (.int (idxI s c)) else none
    | _ => none
  | .mStarts => match ws with
    | [.str s, .str p] => some (.bl (p.isPrefixOf s))
    | _ => none
  | .listD => match ws with
    | [x] => (dicOf S x).map fun d => .lst d.2.1
    | _ => none
  | .sortedSet => match ws with
    | [x] => (lstOf S x).bind fun xs => if allInt xs && decide (xs.length < 60) then some (.lst (sortW (uniqW xs))) else none
    | _ => none
  | .listRev => match ws with
    | [x] => (lstOf S x).bind fun xs => if xs.length < LIM then some (.lst xs.reverse) else none
    | _ => none
  | .listRevR => match ws with
    | [.int n] => if decide (n.natAbs < LIM) then some (.lst ((List.range n.toNat).map fun (j : Nat) => W.int (n - 1 - j))) else none
    | _ => none
  | .rangeL tp two => match two, ws with
    | false, [.int n] => if decide (n.natAbs < LIM) then some (rgW tp 0 n) else none
    | true, [.int a, .int n] => if decide (n.natAbs < LIM) && decide (a.natAbs < LIM) then some (rgW tp a n) else none
    | _, _ => none

inductive Eff where
  | append | extend | clear | pop0 | pop1 | insert | reverse | remove | dpop | setd
def effSem (o : Eff) (ws : List W) (S : Sto) : Option (W × Sto) :=
  match ws with
  | .ref n :: r => match S[n]? with
    | some (.lst xs) => match o, r with
      | .append, [x] => if xs.length < LIM then some (.non, S.set n (.lst (xs ++ [x]))) else none
      | .extend, [.lst ys] => if xs.length + ys.length < LIM then some (.non, S.set n (.lst (xs ++ ys))) else none
      | .clear, [] => some (.non, S.set n (.lst []))
      | .pop0, [] => match xs.getLast? with
        | some x => some (x, S.set n (.lst xs.dropLast))
        | none => none
      | .pop1, [.int i] => (ixN xs.length i).bind fun j => xs[j]?.map fun x => (x, S.set n (.lst (xs.eraseIdx j)))
      | .reverse, [] => some (.non, S.set n (.lst xs.reverse))
      | .insert, [.int i, x] => if decide (0 ≤ i) && decide (i.natAbs < LIM) && decide (xs.length < LIM) then some (.non, S.set n (.lst (xs.take i.toNat ++ x :: xs.drop i.toNat))) else none
      | .remove, [x] => (vw S x).bind fun x' => (vws S xs).bind fun xs' => if datW 30 x' && datL 30 xs' then (xs'.findIdx? fun z => eqW z x').map fun j => (.non, S.set n (.lst (xs.eraseIdx j))) else none
      | _, _ => none
    | some (.dic t ks vs) => match o, r with
      | .dpop, [k] => if !t && isKey t k then (dget ks vs k).map fun v => (v, S.set n (.dic t (ddelK ks k) (ddelV ks vs k))) else none
      | .setd, [k, v] => if t && isKey t k && decide (ks.length < LIM) then (match dget ks vs k with
        | some u => some (u, S)
        | none => some (v, S.set n (.dic t (ks ++ [k]) (vs ++ [v])))) else none
      | _, _ => none
    | _ => none
  | _ => none

def setSem (S : Sto) (o k v : W) : Option Sto :=
  match o with
  | .ref n => match S[n]? with
    | some (.lst xs) => match k with
      | .int i => (ixN xs.length i).map fun j => S.set n (.lst (xs.set j v))
      | _ => none
    | some (.dic t ks vs) => if isKey t k && decide (ks.length < LIM) then some (S.set n (.dic t (dputK ks k) (dputV ks vs k v))) else none
    | _ => none
  | _ => none
def setFld (S : Sto) (c i : Nat) (o v : W) : Option Sto :=
  match o with
  | .ref n => match S[n]? with
    | some (.ins c' xs) => if c' = c then (if i < xs.length then some (S.set n (.ins c (xs.set i v))) else if i = xs.length then some (S.set n (.ins c (xs ++ [v]))) else none) else none
    | _ => none
  | _ => none

inductive ItK where
  | list | tup | str | range1 | range2 | range3 | enum | zip | revL | revR
def zipT : List W → List W → List W
  | x :: xs, y :: ys => .tup [x, y] :: zipT xs ys
  | _, _ => []
def enumT : Nat → List W → List W
  | _, [] => []
  | i, x :: xs => .tup [.int i, x] :: enumT (i + 1) xs
def itVals (k : ItK) (ws : List W) : Option (List W) :=
  match k, ws with
  | .list, [.lst xs] => some xs
  | .list, [.klst ns] => some (ns.map .int)
  | .tup, [.tup xs] => some xs
  | .str, [.str s] => some (s.map fun c => .str [c])
  | .range1, [.int n] => if decide (n.natAbs < LIM) then some ((List.range n.toNat).map fun (j : Nat) => W.int (j : Int)) else none
  | .range2, [.int a, .int b] => if decide (a.natAbs < LIM) && decide (b.natAbs < LIM) then some ((List.range (b - a).toNat).map fun (j : Nat) => W.int (a + j)) else none
  | .range3, [.int a, .int b, .int c] => if decide (a.natAbs < LIM) && decide (b.natAbs < LIM) && decide (0 < c) && decide (c < 1000000) then some ((List.range (if a < b then ((b - a - 1) / c + 1).toNat else 0)).map fun (j : Nat) => W.int (a + j * c)) else none
  | .revL, [.lst xs] => some xs.reverse
  | .revR, [.int n] => if decide (n.natAbs < LIM) then some ((List.range n.toNat).map fun (j : Nat) => W.int (n - 1 - j)) else none
  | .enum, [.lst xs] => some (enumT 0 xs)
  | .zip, [.lst xs, .lst ys] => some (zipT xs ys)
  | .zip, [.tup xs, .tup ys] => some (zipT xs ys)
  | _, _ => none

inductive Tg where
  | one (i : Nat)
  | tup (is : List Nat)
def setAll : List Nat → List W → Env → Option Env
  | [], [], ρ => some ρ
  | i :: is, x :: xs, ρ => setAll is xs (ρ.set i (some x))
  | _, _, _ => none
def bindT (t : Tg) (x : W) (ρ : Env) : Option Env :=
  match t with
  | .one i => some (ρ.set i (some x))
  | .tup is => match x with
    | .tup xs => setAll is xs ρ
    | _ => none
def wipe (ρ : Env) : List Nat → Env
  | [] => ρ
  | v :: vs => (wipe ρ vs).set v none

inductive Md where
  | pure | adopt | shared | move
inductive MTy where
  | list | dict | str
def tyOk (t : MTy) (w : W) (S : Sto) : Bool :=
  match t with
  | .list => (lstOf S w).isSome
  | .dict => (dicOf S w).isSome
  | .str => match w with
    | .str _ => true
    | _ => false
inductive E where
  | var (i : Nat)
  | con (w : W)
  | op (o : Op) (as : List E)
  | mth (t : MTy) (o : Op) (a : E) (as : List E)
  | eff (o : Eff) (a : E) (as : List E)
  | and (as : List E)
  | or (as : List E)
  | not (a : E)
  | ife (c a b : E)
  | chain (o1 o2 : Op) (a b c : E)
  | comp (elt : E) (t : Tg) (k : ItK) (srcs : List E) (cond : List E) (own : List Nat)
  | call (m : Md) (f : Nat) (as : List E)
  | new (m : Md) (c f : Nat) (as : List E)
  | mcall (m : Md) (c f : Nat) (a : E) (as : List E)
  | fld (c i : Nat) (a : E)
  | isx (cs : List Nat) (a : E)
  | fstr (as : List E)
  | compR (elt : E) (t : Tg) (a : E) (cond : List E) (own : List Nat)
  | mut (a : E)
  | toI (a : E)
  | disp (k v : E)
  | dispT (k v : E)

abbrev CallF := Nat → List W → Sto → Rs W

def Rs.bind {α β : Type} (r : Rs α) (f : α → Sto → Rs β) : Rs β :=
  match r with
  | .ok a S => f a S
  | .ex c S => .ex c S
  | .bad => .bad
def ofO {α : Type} (o : Option α) (S : Sto) : Rs α :=
  match o with
  | some a => .ok a S
  | none => .bad

def shR (k : Nat) (n : Nat) : Option W := some (.ref (n + k))
def shO (b : Bool) (g : Nat → Option W) : Ob → Option Ob
  | .lst xs => (subL b g xs).map .lst
  | .dic t ks vs => (subL b g ks).bind fun ks' => (subL b g vs).map (.dic t ks')
  | .ins c xs => (subL b g xs).map (.ins c)
  | .dead => some .dead
def shS (b : Bool) (g : Nat → Option W) : Sto → Option Sto
  | [] => some []
  | o :: S => (shO b g o).bind fun o' => (shS b g S).map (o' :: ·)
def callSem (cf : CallF) (m : Md) (f : Nat) (ws : List W) (S : Sto) : Rs W :=
  match m with
  | .shared => cf f ws S
  | .pure => match vws S ws with
    | none => .bad
    | some us => match cf f us [] with
      | .ok w S' => ofO (if rfreeL ws then vw S' w else vwB S' w) S
      | .ex c _ => .ex c S
      | .bad => .bad
  | .adopt => match vws S ws with
    | none => .bad
    | some us => match cf f us [] with
      | .ok (.ref n) S' => match S'[n]? with
        | some (.lst xs) => match (if rfreeL ws then vws (S'.set n .dead) xs else subL true (lev true (S'.set n .dead) 3) xs) with
          | some ys => .ok (.ref S.length) (S ++ [.lst ys])
          | none => .bad
        | _ => .bad
      | .ok _ _ => .bad
      | .ex c _ => .ex c S
      | .bad => .bad
  | .move => match vws S ws with
    | none => .bad
    | some us => match cf f us [] with
      | .ok w S' => match sub (!rfreeL ws) (shR S.length) w, shS (!rfreeL ws) (shR S.length) S' with
        | some w', some S'' => .ok w' (S ++ S'')
        | _, _ => .bad
      | .ex c _ => .ex c S
      | .bad => .bad
def newSem (cf : CallF) (m : Md) (c f : Nat) (ws : List W) (S : Sto) : Rs W :=
  match m with
  | .shared => match cf f (.ref S.length :: ws) (S ++ [.ins c []]) with
    | .ok .non S' => .ok (.ref S.length) S'
    | .ok _ _ => .bad
    | .ex c' S' => .ex c' S'
    | .bad => .bad
  | .pure => match vws S ws with
    | none => .bad
    | some us => match cf f (.ref 0 :: us) [.ins c []] with
      | .ok .non S' => ofO (if rfreeL ws then vw S' (.ref 0) else vwB S' (.ref 0)) S
      | .ok _ _ => .bad
      | .ex c' _ => .ex c' S
      | .bad => .bad
  | _ => .bad

def fldSem (S : Sto) (c i : Nat) (w : W) : Option W := match recOf S w with
  | some (c', xs) => if c' = c then xs[i]? else none
  | none => none
def isxSem (cs : List Nat) (S : Sto) : W → Option Bool
  | .non => if cs.all (fun c => decide (9 ≤ c)) then some false else none
  | .exn k => if cs.all (fun c => decide (9 ≤ c)) then some (cs.any fun c => subX k c) else none
  | .rcd k _ => if cs = [k] && decide (k < 9) then some true else none
  | .ref n => match S[n]? with
    | some (.ins k _) => if cs = [k] && decide (k < 9) then some true else none
    | _ => none
  | _ => none
def fpart : W → Option (List Nat)
  | .str s => some s
  | .int i => if decide (i.natAbs < 10 ^ 60) then some (strI i) else none
  | _ => none
def fcat : List W → Option (List Nat)
  | [] => some []
  | x :: xs => (fpart x).bind fun s => (fcat xs).map (s ++ ·)
def compL (elt cond : Env → Sto → Rs W) (t : Tg) (ρ : Env) : List W → Sto → Rs (List W)
  | [], S => .ok [] S
  | x :: xs, S => match bindT t x ρ with
    | none => .bad
    | some ρ' => match cond ρ' S with
      | .ok (.bl true) S1 => match elt ρ' S1 with
        | .ok y S2 => (compL elt cond t ρ xs S2).bind fun ys S3 => .ok (y :: ys) S3
        | _ => .bad
      | .ok (.bl false) S1 => compL elt cond t ρ xs S1
      | _ => .bad

def compC (elt cond : Env → Sto → Rs W) (t : Tg) (ρ : Env) (n : Nat) : Nat → Nat → Sto → Rs (List W)
  | 0, _, _ => .bad
  | k + 1, i, S => match S[n]? with
    | some (.lst xs) => match xs[i]? with
      | none => .ok [] S
      | some x => match bindT t x ρ with
        | none => .bad
        | some ρ' => match cond ρ' S with
          | .ok (.bl true) S1 => match elt ρ' S1 with
            | .ok y S2 => (compC elt cond t ρ n k (i + 1) S2).bind fun ys S3 => .ok (y :: ys) S3
            | _ => .bad
          | .ok (.bl false) S1 => compC elt cond t ρ n k (i + 1) S1
          | _ => .bad
    | _ => .bad
def isDicM : Eff → Bool
  | .dpop => true
  | .setd => true
  | _ => false
def effTy (o : Eff) : MTy := if isDicM o then .dict else .list
mutual
def ev (cf : CallF) : E → Env → Sto → Rs W
  | .var i, ρ, S => match ρ[i]? with
    | some (some w) => .ok w S
    | _ => .bad
  | .con w, _, S => .ok w S
  | .op o as, ρ, S => (evs cf as ρ S).bind fun ws S' => ofO (opSem o ws S') S'
  | .mth t o a as, ρ, S => (ev cf a ρ S).bind fun w S1 => if tyOk t w S1 then (evs cf as ρ S1).bind fun ws S2 => ofO (opSem o (w :: ws) S2) S2 else .bad
  | .eff o a as, ρ, S => (ev cf a ρ S).bind fun w S1 => if tyOk (effTy o) w S1 then (evs cf as ρ S1).bind fun ws S2 => match effSem o (w :: ws) S2 with
    | some (w', S3) => .ok w' S3
    | none => .bad
    else .bad
  | .and as, ρ, S => evAnd cf as ρ S
  | .or as, ρ, S => evOr cf as ρ S
  | .not a, ρ, S => (ev cf a ρ S).bind fun w S' => match w with
    | .bl b => .ok (.bl (!b)) S'
    | _ => .bad
  | .ife c a b, ρ, S => (ev cf c ρ S).bind fun w S' => match w with
    | .bl true => ev cf a ρ S'
    | .bl false => ev cf b ρ S'
    | _ => .bad
  | .chain o1 o2 a b c, ρ, S => (ev cf a ρ S).bind fun x S1 => (ev cf b ρ S1).bind fun y S2 => match opSem o1 [x, y] S2 with
    | some (.bl true) => (ev cf c ρ S2).bind fun z S3 => ofO (opSem o2 [y, z] S3) S3
    | some (.bl false) => .ok (.bl false) S2
    | _ => .bad
  | .comp elt t k srcs cond own, ρ, S => (evs cf srcs ρ S).bind fun ws S1 => match itVals k ws with
    | some xs => if xs.length < LIM then (compL (fun ρ' S' => ev cf elt ρ' S') (fun ρ' S' => evAll cf cond ρ' S') t (wipe ρ own) xs S1).bind fun ys S2 => .ok (.lst ys) S2 else .bad
    | none => .bad
  | .call m f as, ρ, S => (evs cf as ρ S).bind fun ws S1 => callSem cf m f ws S1
  | .new m c f as, ρ, S => (evs cf as ρ S).bind fun ws S1 => newSem cf m c f ws S1
  | .mcall m c f a as, ρ, S => (ev cf a ρ S).bind fun w S1 => match recOf S1 w with
    | some (c', _) => if c' = c then (evs cf as ρ S1).bind fun ws S2 => callSem cf m f (w :: ws) S2 else .bad
    | none => .bad
  | .fld c i a, ρ, S => (ev cf a ρ S).bind fun w S1 => ofO (fldSem S1 c i w) S1
  | .isx cs a, ρ, S => (ev cf a ρ S).bind fun w S1 => ofO ((isxSem cs S1 w).map .bl) S1
  | .fstr as, ρ, S => (evs cf as ρ S).bind fun ws S1 => match fcat ws with
    | some s => if s.length < LIM then .ok (.str s) S1 else .bad
    | none => .bad
  | .compR elt t a cond own, ρ, S => (ev cf a ρ S).bind fun w S1 => match w with
    | .ref n => (compC (fun ρ' S' => ev cf elt ρ' S') (fun ρ' S' => evAll cf cond ρ' S') t (wipe ρ own) n LIM 0 S1).bind fun ys S2 => .ok (.lst ys) S2
    | _ => .bad
  | .mut a, ρ, S => (ev cf a ρ S).bind fun w S1 => match w with
    | .lst xs => .ok (.ref S1.length) (S1 ++ [.lst xs])
    | .dic t ks vs => .ok (.ref S1.length) (S1 ++ [.dic t ks vs])
    | _ => .bad
  | .toI a, ρ, S => (ev cf a ρ S).bind fun w S1 => match w with
    | .int i => .ok (.int i) S1
    | _ => .bad
  | .disp k v, ρ, S => (ev cf k ρ S).bind fun x S1 => (ev cf v ρ S1).bind fun y S2 => if isKey false x then .ok (.ref S2.length) (S2 ++ [.dic false [x] [y]]) else .bad
  | .dispT k v, ρ, S => (ev cf k ρ S).bind fun x S1 => (ev cf v ρ S1).bind fun y S2 => if isKey true x then .ok (.ref S2.length) (S2 ++ [.dic true [x] [y]]) else .bad
def evs (cf : CallF) : List E → Env → Sto → Rs (List W)
  | [], _, S => .ok [] S
  | a :: as, ρ, S => (ev cf a ρ S).bind fun w S1 => (evs cf as ρ S1).bind fun ws S2 => .ok (w :: ws) S2
def evAnd (cf : CallF) : List E → Env → Sto → Rs W
  | [], _, _ => .bad
  | [a], ρ, S => (ev cf a ρ S).bind fun w S1 => match w with
    | .bl b => .ok (.bl b) S1
    | _ => .bad
  | a :: as, ρ, S => (ev cf a ρ S).bind fun w S1 => match w with
    | .bl true => evAnd cf as ρ S1
    | .bl false => .ok (.bl false) S1
    | _ => .bad
def evOr (cf : CallF) : List E → Env → Sto → Rs W
  | [], _, _ => .bad
  | [a], ρ, S => (ev cf a ρ S).bind fun w S1 => match w with
    | .bl b => .ok (.bl b) S1
    | _ => .bad
  | a :: as, ρ, S => (ev cf a ρ S).bind fun w S1 => match w with
    | .bl true => .ok (.bl true) S1
    | .bl false => evOr cf as ρ S1
    | _ => .bad
/-- the conditions of a comprehension: none or one -/
def evAll (cf : CallF) : List E → Env → Sto → Rs W
  | [], _, S => .ok (.bl true) S
  | a :: _, ρ, S => ev cf a ρ S
end

def augSem (o : Op) (x y : W) : Option W :=
  match o, x, y with
  | .add, .int a, .int b => some (.int (a + b))
  | .add, .str a, .str b => if a.length + b.length < LIM then some (.str (a ++ b)) else none
  | .sub, .int a, .int b => some (.int (a - b))
  | .mul, .int a, .int b => if CMul a b then some (.int (a * b)) else none
  | _, _, _ => none

inductive Stm where
  | expr (e : E)
  | asg (t : Tg) (e : E)
  | setI (v o k : E)
  | setF (c i : Nat) (v o : E)
  | aug (i : Nat) (o : Op) (e : E)
  | ite (c : E) (a b : List Stm)
  | forIn (t : Tg) (k : ItK) (srcs : List E) (body : List Stm)
  | forR (t : Tg) (a : E) (body : List Stm)
  | forE (t : Tg) (a : E) (body : List Stm)
  | forZ (t : Tg) (srcs : List E) (body : List Stm)
  | whil (c : E) (body : List Stm)
  | ret (e : E)
  | cont
  | brk
  | pass
  | rais (c : Nat)
  | frz (i : Nat)
  | wipe (vs : List Nat)
  | augF (c i : Nat) (v : E) (o : Op) (e : E)
  | augS (v k : E) (o : Op) (e : E)
  | forD (t : Tg) (both : Bool) (a : E) (body : List Stm)
  | tryE (ks : List Nat) (body : List Stm) (c : Nat) (i : Option Nat) (hd : List Stm)

def forL (t : Tg) (body : Env → Sto → SR) : List W → Env → Sto → SR
  | [], ρ, S => .next ρ S
  | x :: xs, ρ, S => match bindT t x ρ with
    | none => .bad
    | some ρ' => match body ρ' S with
      | .next ρ2 S2 => forL t body xs ρ2 S2
      | .cont ρ2 S2 => forL t body xs ρ2 S2
      | .brk ρ2 S2 => .next ρ2 S2
      | r => r
def forC (t : Tg) (body : Env → Sto → SR) (n : Nat) : Nat → Nat → Env → Sto → SR
  | 0, _, _, _ => .bad
  | k + 1, i, ρ, S => match S[n]? with
    | some (.lst xs) => match xs[i]? with
      | none => .next ρ S
      | some x => match bindT t x ρ with
        | none => .bad
        | some ρ' => match body ρ' S with
          | .next ρ2 S2 => forC t body n k (i + 1) ρ2 S2
          | .cont ρ2 S2 => forC t body n k (i + 1) ρ2 S2
          | .brk ρ2 S2 => .next ρ2 S2
          | r => r
    | _ => .bad
def forCE (t : Tg) (body : Env → Sto → SR) (n : Nat) : Nat → Nat → Env → Sto → SR
  | 0, _, _, _ => .bad
  | k + 1, i, ρ, S => match S[n]? with
    | some (.lst xs) => match xs[i]? with
      | none => .next ρ S
      | some x => match bindT t (.tup [.int (i : Nat), x]) ρ with
        | none => .bad
        | some ρ' => match body ρ' S with
          | .next ρ2 S2 => forCE t body n k (i + 1) ρ2 S2
          | .cont ρ2 S2 => forCE t body n k (i + 1) ρ2 S2
          | .brk ρ2 S2 => .next ρ2 S2
          | r => r
    | _ => .bad
def forCZ (t : Tg) (body : Env → Sto → SR) (n : Nat) (ys : List W) : Nat → Nat → Env → Sto → SR
  | 0, _, _, _ => .bad
  | k + 1, i, ρ, S => match S[n]? with
    | some (.lst xs) => match xs[i]? with
      | none => .next ρ S
      | some x => match ys[i]? with
        | none => .next ρ S
        | some y => match bindT t (.tup [x, y]) ρ with
          | none => .bad
          | some ρ' => match body ρ' S with
            | .next ρ2 S2 => forCZ t body n ys k (i + 1) ρ2 S2
            | .cont ρ2 S2 => forCZ t body n ys k (i + 1) ρ2 S2
            | .brk ρ2 S2 => .next ρ2 S2
            | r => r
    | _ => .bad
def whileL (c : Env → Sto → Rs W) (body : Env → Sto → SR) : Nat → Env → Sto → SR
  | 0, _, _ => .bad
  | k + 1, ρ, S => match c ρ S with
    | .ok (.bl true) S1 => match body ρ S1 with
      | .next ρ2 S2 => whileL c body k ρ2 S2
      | .cont ρ2 S2 => whileL c body k ρ2 S2
      | .brk ρ2 S2 => .next ρ2 S2
      | r => r
    | .ok (.bl false) S1 => .next ρ S1
    | .ex x S1 => .ex ρ x S1
    | _ => .bad

def SR.seq (r : SR) (f : Env → Sto → SR) : SR :=
  match r with
  | .next ρ S => f ρ S
  | r => r
def Rs.sr {α : Type} (r : Rs α) (ρ : Env) (f : α → Sto → SR) : SR :=
  match r with
  | .ok a S => f a S
  | .ex c S => .ex ρ c S
  | .bad => .bad
def SR.back (r : SR) (n : Nat) (o : Ob) : SR :=
  match r with
  | .next ρ S => .next ρ (S.set n o)
  | .ret w S => .ret w (S.set n o)
  | .brk ρ S => .brk ρ (S.set n o)
  | .cont ρ S => .cont ρ (S.set n o)
  | _ => .bad
def unE (i : Option Nat) (ρ : Env) : Env := match i with
  | some i => ρ.set i none
  | none => ρ
def SR.unb (r : SR) (i : Option Nat) : SR :=
  match r with
  | .next ρ S => .next (unE i ρ) S
  | .ret w S => .ret w S
  | .brk ρ S => .brk (unE i ρ) S
  | .cont ρ S => .cont (unE i ρ) S
  | _ => .bad
def zip2 : List W → List W → List W
  | k :: ks, v :: vs => .tup [k, v] :: zip2 ks vs
  | _, _ => []

mutual
def exec (cf : CallF) (L : Nat) : Stm → Env → Sto → SR
  | .expr e, ρ, S => (ev cf e ρ S).sr ρ fun _ S1 => .next ρ S1
  | .asg t e, ρ, S => (ev cf e ρ S).sr ρ fun w S1 => match bindT t w ρ with
    | some ρ' => .next ρ' S1
    | none => .bad
  | .setI v o k, ρ, S => (ev cf v ρ S).sr ρ fun v' S1 => (ev cf o ρ S1).sr ρ fun o' S2 => (ev cf k ρ S2).sr ρ fun k' S3 => match setSem S3 o' k' v' with
    | some S4 => .next ρ S4
    | none => .bad
  | .setF c i v o, ρ, S => (ev cf v ρ S).sr ρ fun v' S1 => (ev cf o ρ S1).sr ρ fun o' S2 => match setFld S2 c i o' v' with
    | some S3 => .next ρ S3
    | none => .bad
  | .aug i o e, ρ, S => match ρ[i]? with
    | some (some x) => (ev cf e ρ S).sr ρ fun y S1 => match augSem o x y with
      | some z => .next (ρ.set i (some z)) S1
      | none => .bad
    | _ => .bad
  | .ite c a b, ρ, S => (ev cf c ρ S).sr ρ fun w S1 => match w with
    | .bl true => execs cf L a ρ S1
    | .bl false => execs cf L b ρ S1
    | _ => .bad
  | .forIn t k srcs body, ρ, S => (evs cf srcs ρ S).sr ρ fun ws S1 => match itVals k ws with
    | some xs => forL t (fun ρ' S' => execs cf L body ρ' S') xs ρ S1
    | none => .bad
  | .forR t a body, ρ, S => (ev cf a ρ S).sr ρ fun w S1 => match w with
    | .ref n => forC t (fun ρ' S' => execs cf L body ρ' S') n L 0 ρ S1
    | _ => .bad
  | .forE t a body, ρ, S => (ev cf a ρ S).sr ρ fun w S1 => match w with
    | .ref n => forCE t (fun ρ' S' => execs cf L body ρ' S') n L 0 ρ S1
    | _ => .bad
  | .forZ t srcs body, ρ, S => (evs cf srcs ρ S).sr ρ fun ws S1 => match ws with
    | [.ref n, .lst ys] => forCZ t (fun ρ' S' => execs cf L body ρ' S') n ys L 0 ρ S1
    | _ => .bad
  | .whil c body, ρ, S => whileL (fun ρ' S' => ev cf c ρ' S') (fun ρ' S' => execs cf L body ρ' S') L ρ S
  | .ret e, ρ, S => (ev cf e ρ S).sr ρ fun w S1 => .ret w S1
  | .cont, ρ, S => .cont ρ S
  | .brk, ρ, S => .brk ρ S
  | .pass, ρ, S => .next ρ S
  | .rais c, ρ, S => .ex ρ c S
  | .frz i, ρ, S => match ρ[i]? with
    | some (some (.ref n)) => match S[n]? with
      | some (.lst xs) => if rfreeL xs then .next (ρ.set i (some (.lst xs))) (S.set n .dead) else .bad
      | some (.dic t ks vs) => if rfreeL ks && rfreeL vs then .next (ρ.set i (some (.dic t ks vs))) (S.set n .dead) else .bad
      | _ => .bad
    | _ => .bad
  | .wipe vs, ρ, S => .next (wipe ρ vs) S
  | .augF c i v o e, ρ, S => (ev cf v ρ S).sr ρ fun w S1 => match fldSem S1 c i w with
    | some x => (ev cf e ρ S1).sr ρ fun y S2 => match augSem o x y with
      | some z => match setFld S2 c i w z with
        | some S3 => .next ρ S3
        | none => .bad
      | none => .bad
    | none => .bad
  | .augS v k o e, ρ, S => (ev cf v ρ S).sr ρ fun d S1 => (ev cf k ρ S1).sr ρ fun k' S2 => match dicOf S2 d with
    | some (t, ks, vs) => if isKey t k' then (match dget ks vs k' with
      | some x => (ev cf e ρ S2).sr ρ fun y S3 => match augSem o x y with
        | some z => match setSem S3 d k' z with
          | some S4 => .next ρ S4
          | none => .bad
        | none => .bad
      | none => .bad) else .bad
    | none => .bad
  | .forD t both a body, ρ, S => (ev cf a ρ S).sr ρ fun w S1 => match w with
    | .ref n => match S1[n]? with
      | some (.dic b ks vs) => if b = both then (forL t (fun ρ' S' => execs cf L body ρ' S') (if both then zip2 ks vs else vs) ρ (S1.set n .dead)).back n (.dic b ks vs) else .bad
      | _ => .bad
    | _ => .bad
  | .tryE ks body c i hd, ρ, S => match execs cf L body ρ S with
    | .ex ρ1 k S1 => if ks.contains k then (if subX k c then (execs cf L hd (match i with
      | some i => ρ1.set i (some (.exn k))
      | none => ρ1) S1).unb i else .ex ρ1 k S1) else .bad
    | r => r
def execs (cf : CallF) (L : Nat) : List Stm → Env → Sto → SR
  | [], ρ, S => .next ρ S
  | s :: ss, ρ, S => (exec cf L s ρ S).seq fun ρ1 S1 => execs cf L ss ρ1 S1
end

structure Fn where
  np : Nat
  ns : Nat
  body : List Stm

def runF (P : Nat → Option Fn) (L : Nat) : Nat → CallF
  | 0, _, _, _ => .bad
  | d + 1, f, ws, S => match P f with
    | none => .bad
    | some fn => if ws.length = fn.np then
        match execs (runF P L d) L fn.body (ws.map some ++ List.replicate (fn.ns - fn.np) none) S with
        | .ret w S' => .ok w S'
        | .next _ S' => .ok .non S'
        | .ex _ c S' => .ex c S'
        | _ => .bad
      else .bad

end Tw

namespace Tw
open PySem PySem.Spec PyProof.Rows L2

structure Gx where
  K : PySem.W.Frag
  cad : Nat → Addr
  fld : Nat → List PySem.Str
  exs : List Nat

def kW : Key → W
  | .inl i => .int i
  | .inr x => .str x.cps.toList

def ExK (C a : Addr) : HO := .ext fun h => ∃ (oe : Obj) (vs : Array Value), h.get? a = some oe ∧ Zc (.ref C) none oe ∧ oe.data = .fields vs
mutual
/-- w stands at v; I: what never changes; φ: the cells' addresses -/
def Rel (G : Gx) (I : Hp) (φ : List Addr) : W → V → Prop
  | .non, v => v = .non
  | .bl b, v => v = .bl b
  | .int i, v => v = .int i
  | .str s, v => v = .str ⟨s.toArray⟩
  | .tup ws, v => ∃ a vs, v = .ref a ∧ I a = some (.tup vs) ∧ Rels G I φ ws vs
  | .lst ws, v => ∃ a vs, v = .ref a ∧ I a = some (.lst vs) ∧ Rels G I φ ws vs
  | .dic false ks vs, v => ∃ a kvs, v = .ref a ∧ I a = some (.dK kvs) ∧ ks = kvs.map (fun p => kW p.1) ∧ Rels G I φ vs (kvs.map (·.2))
  | .dic true ks vs, v => ∃ a kvs, v = .ref a ∧ I a = some (.dT kvs) ∧ ks = kvs.map (fun p => .tup (p.1.map kW)) ∧ Rels G I φ vs (kvs.map (·.2))
  | .rcd c ws, v => ∃ a dx fs, v = .ref a ∧ I a = some (.ins (G.cad c) dx fs) ∧ fs.map (·.1) = (G.fld c).take fs.length ∧ Rels G I φ ws (fs.map (·.2))
  | .ref n, v => ∃ a, v = .ref a ∧ φ[n]? = some a
  | .exn c, v => ∃ a, v = .ref a ∧ I a = some (ExK (G.cad c) a) ∧ c ∈ G.exs
  | .klst ns, v => ∃ a, v = .ref a ∧ SqL G.K I a (ns.map V.int)
def Rels (G : Gx) (I : Hp) (φ : List Addr) : List W → List V → Prop
  | [], vs => vs = []
  | w :: ws, vs => ∃ x xs, vs = x :: xs ∧ Rel G I φ w x ∧ Rels G I φ ws xs
end

variable {G : Gx} {I I' I1 I2 H H' H1 H2 : Hp} {φ φ' φ1 φ2 : List Addr}

theorem rd_mono {a : Addr} {o : HO} (s : Same I I') (h : I a = some o) : Rd I' a o := .inl (s _ _ h)
def Pre (φ φ' : List Addr) : Prop := ∃ ψ, φ' = φ ++ ψ
theorem Pre.refl (φ : List Addr) : Pre φ φ := ⟨[], by simp⟩
theorem Pre.trans (a : Pre φ φ1) (b : Pre φ1 φ2) : Pre φ φ2 := by
  obtain ⟨x, rfl⟩ := a
  obtain ⟨y, rfl⟩ := b
  exact ⟨x ++ y, by simp⟩
theorem Pre.get {n : Nat} {a : Addr} (p : Pre φ φ') (h : φ[n]? = some a) : φ'[n]? = some a := by
  obtain ⟨x, rfl⟩ := p
  have := (List.getElem?_eq_some_iff.mp h).1
  rw [List.getElem?_append_left this]
  exact h
mutual
theorem Rel.mono (s : Same I I') (p : Pre φ φ') : ∀ {w : W} {v : V}, Rel G I φ w v → Rel G I' φ' w v
  | .non, _, h => h
  | .bl _, _, h => h
  | .int _, _, h => h
  | .str _, _, h => h
  | .tup ws, _, ⟨a, vs, e, h, r⟩ => ⟨a, vs, e, s _ _ h, Rels.mono s p r⟩
  | .lst ws, _, ⟨a, vs, e, h, r⟩ => ⟨a, vs, e, s _ _ h, Rels.mono s p r⟩
  | .dic false ks vs, _, ⟨a, kvs, e, h, k, r⟩ => ⟨a, kvs, e, s _ _ h, k, Rels.mono s p r⟩
  | .dic true ks vs, _, ⟨a, kvs, e, h, k, r⟩ => ⟨a, kvs, e, s _ _ h, k, Rels.mono s p r⟩
  | .rcd c ws, _, ⟨a, dx, fs, e, h, k, r⟩ => ⟨a, dx, fs, e, s _ _ h, k, Rels.mono s p r⟩
  | .ref n, _, ⟨a, e, h⟩ => ⟨a, e, p.get h⟩
  | .exn _, _, ⟨a, e, h, hk⟩ => ⟨a, e, s _ _ h, hk⟩
  | .klst ns, _, ⟨a, e, h⟩ => ⟨a, e, s.seq h⟩
theorem Rels.mono (s : Same I I') (p : Pre φ φ') : ∀ {ws : List W} {vs : List V}, Rels G I φ ws vs → Rels G I' φ' ws vs
  | [], _, h => h
  | w :: ws, _, ⟨x, xs, e, h, r⟩ => ⟨x, xs, e, Rel.mono s p h, Rels.mono s p r⟩
end
mutual
/-- a value without refs does not ask for the cells; I may be changed where the value does not look -/
theorem Rel.rfree : ∀ {w : W} {v : V}, rfree w = true → Rel G I φ w v → Rel G I φ' w v
  | .non, _, _, h => h
  | .bl _, _, _, h => h
  | .int _, _, _, h => h
  | .str _, _, _, h => h
  | .tup ws, _, f, ⟨a, vs, e, h, r⟩ => ⟨a, vs, e, h, Rels.rfree (by simpa [Tw.rfree] using f) r⟩
  | .lst ws, _, f, ⟨a, vs, e, h, r⟩ => ⟨a, vs, e, h, Rels.rfree (by simpa [Tw.rfree] using f) r⟩
  | .dic false ks vs, _, f, ⟨a, kvs, e, h, k, r⟩ => ⟨a, kvs, e, h, k, Rels.rfree (by simp [Tw.rfree] at f; exact f.2) r⟩
  | .dic true ks vs, _, f, ⟨a, kvs, e, h, k, r⟩ => ⟨a, kvs, e, h, k, Rels.rfree (by simp [Tw.rfree] at f; exact f.2) r⟩
  | .rcd c ws, _, f, ⟨a, dx, fs, e, h, k, r⟩ => ⟨a, dx, fs, e, h, k, Rels.rfree (by simpa [Tw.rfree] using f) r⟩
  | .ref n, _, f, _ => by simp [Tw.rfree] at f
  | .exn _, _, _, h => h
  | .klst _, _, _, h => h
theorem Rels.rfree : ∀ {ws : List W} {vs : List V}, rfreeL ws = true → Rels G I φ ws vs → Rels G I φ' ws vs
  | [], _, _, h => h
  | w :: ws, _, f, ⟨x, xs, e, h, r⟩ => by
    simp [rfreeL] at f
    exact ⟨x, xs, e, Rel.rfree f.1 h, Rels.rfree f.2 r⟩
end
theorem Rels.length : ∀ {ws : List W} {vs : List V}, Rels G I φ ws vs → vs.length = ws.length
  | [], _, h => by rw [show _ = [] from h]; rfl
  | w :: ws, _, ⟨x, xs, e, _, r⟩ => by rw [e, List.length_cons, List.length_cons, Rels.length r]
theorem Rels.get : ∀ {ws : List W} {vs : List V} {i : Nat} {w : W}, Rels G I φ ws vs → ws[i]? = some w → ∃ v, vs[i]? = some v ∧ Rel G I φ w v
  | [], _, _, _, _, e => by simp at e
  | w :: ws, _, 0, _, ⟨x, xs, e, h, _⟩, g => by
    simp at g; subst g; subst e; exact ⟨x, rfl, h⟩
  | w :: ws, _, i + 1, _, ⟨x, xs, e, _, r⟩, g => by
    subst e
    obtain ⟨v, h1, h2⟩ := Rels.get (i := i) r (by simpa using g)
    exact ⟨v, by simpa using h1, h2⟩
theorem Rels.get' : ∀ {ws : List W} {vs : List V} {i : Nat} {v : V}, Rels G I φ ws vs → vs[i]? = some v → ∃ w, ws[i]? = some w ∧ Rel G I φ w v
  | [], _, _, _, h, e => by rw [show _ = [] from h] at e; simp at e
  | w :: ws, _, 0, _, ⟨x, xs, e, h, _⟩, g => by
    subst e; simp at g; subst g; exact ⟨w, rfl, h⟩
  | w :: ws, _, i + 1, _, ⟨x, xs, e, _, r⟩, g => by
    subst e
    obtain ⟨v, h1, h2⟩ := Rels.get' (i := i) r (by simpa using g)
    exact ⟨v, by simpa using h1, h2⟩
theorem Rels.append : ∀ {ws us : List W} {vs xs : List V}, Rels G I φ ws vs → Rels G I φ us xs → Rels G I φ (ws ++ us) (vs ++ xs)
  | [], _, _, _, h, r => by rw [show _ = [] from h]; exact r
  | w :: ws, _, _, _, ⟨x, xs, e, h, t⟩, r => by subst e; exact ⟨x, _, rfl, h, Rels.append t r⟩
theorem Rels.one {w : W} {v : V} (h : Rel G I φ w v) : Rels G I φ [w] [v] := ⟨v, [], rfl, h, rfl⟩
theorem Rels.take : ∀ {ws : List W} {vs : List V} (n : Nat), Rels G I φ ws vs → Rels G I φ (ws.take n) (vs.take n)
  | _, _, 0, _ => by simp only [List.take_zero]; rfl
  | [], _, n + 1, h => by rw [show _ = [] from h]; rfl
  | w :: ws, _, n + 1, ⟨x, xs, e, h, r⟩ => by subst e; exact ⟨x, _, rfl, h, Rels.take n r⟩
theorem Rels.drop : ∀ {ws : List W} {vs : List V} (n : Nat), Rels G I φ ws vs → Rels G I φ (ws.drop n) (vs.drop n)
  | _, _, 0, r => r
  | [], _, n + 1, h => by rw [show _ = [] from h]; rfl
  | w :: ws, _, n + 1, ⟨x, xs, e, h, r⟩ => by subst e; exact Rels.drop n r
theorem Rels.set {w : W} {v : V} (h0 : Rel G I φ w v) : ∀ {ws : List W} {vs : List V} (i : Nat), Rels G I φ ws vs → Rels G I φ (ws.set i w) (vs.set i v)
  | [], _, _, h => by rw [show _ = [] from h]; rfl
  | _ :: ws, _, 0, ⟨x, xs, e, h, r⟩ => by subst e; exact ⟨v, _, rfl, h0, r⟩
  | _ :: ws, _, i + 1, ⟨x, xs, e, h, r⟩ => by subst e; exact ⟨x, _, rfl, h, Rels.set h0 i r⟩
theorem Rels.eraseIdx : ∀ {ws : List W} {vs : List V} (i : Nat), Rels G I φ ws vs → Rels G I φ (ws.eraseIdx i) (vs.eraseIdx i)
  | [], _, _, h => by rw [show _ = [] from h]; rfl
  | _ :: ws, _, 0, ⟨x, xs, e, h, r⟩ => by subst e; exact r
  | _ :: ws, _, i + 1, ⟨x, xs, e, h, r⟩ => by subst e; exact ⟨x, _, rfl, h, Rels.eraseIdx i r⟩
theorem Rels.reverse : ∀ {ws : List W} {vs : List V}, Rels G I φ ws vs → Rels G I φ ws.reverse vs.reverse
  | [], _, h => by rw [show _ = [] from h]; rfl
  | _ :: ws, _, ⟨x, xs, e, h, r⟩ => by
    subst e
    rw [List.reverse_cons, List.reverse_cons]
    exact Rels.append (Rels.reverse r) (Rels.one h)
theorem Rels.cons {w : W} {ws : List W} {v : V} {vs : List V} (h : Rel G I φ w v) (r : Rels G I φ ws vs) : Rels G I φ (w :: ws) (v :: vs) := ⟨v, vs, rfl, h, r⟩
theorem Rels.nil : Rels G I φ [] [] := rfl

def CellOk (G : Gx) (I : Hp) (φ : List Addr) (H : Hp) (a : Addr) : Ob → Prop
  | .lst ws => ∃ vs, H a = some (.lst vs) ∧ Rels G I φ ws vs
  | .dic false ks vs => ∃ kvs, H a = some (.dK kvs) ∧ ks = kvs.map (fun p => kW p.1) ∧ Rels G I φ vs (kvs.map (·.2))
  | .dic true ks vs => ∃ kvs, H a = some (.dT kvs) ∧ ks = kvs.map (fun p => .tup (p.1.map kW)) ∧ Rels G I φ vs (kvs.map (·.2))
  | .ins c ws => ∃ dx fs, H a = some (.ins (G.cad c) dx fs) ∧ fs.map (·.1) = (G.fld c).take fs.length ∧ Rels G I φ ws (fs.map (·.2))
  | .dead => True
structure Sim (G : Gx) (I : Hp) (φ : List Addr) (S : Sto) (H : Hp) : Prop where
  same : Same I H
  len : φ.length = S.length
  nd : φ.Nodup
  out : ∀ (n : Nat) (a : Addr) (o : Ob), φ[n]? = some a → S[n]? = some o → o ≠ .dead → I a = none
  old : ∀ (n : Nat) (a : Addr), φ[n]? = some a → (H a).isSome = true
  cell : ∀ (n : Nat) (a : Addr) (o : Ob), φ[n]? = some a → S[n]? = some o → CellOk G I φ H a o
structure Ext (I : Hp) (φ : List Addr) (H : Hp) (I' : Hp) (φ' : List Addr) (H' : Hp) : Prop where
  same : Same I I'
  pre : ∃ ψ, φ' = φ ++ ψ ∧ ∀ a ∈ ψ, H a = none
  frame : ∀ a o, a ∉ φ → H a = some o → H' a = some o
  keep : ∀ a, (H a).isSome = true → (H' a).isSome = true
  fresh : ∀ a, (I' a).isSome = true → (I a).isSome = true ∨ H a = none ∨ a ∈ φ ∨ ∃ vs, H a = some (.tup vs)
theorem Ext.pre' (e : Ext I φ H I' φ' H') : Pre φ φ' := let ⟨ψ, h, _⟩ := e.pre; ⟨ψ, h⟩
theorem Ext.refl (I : Hp) (φ : List Addr) (H : Hp) : Ext I φ H I φ H := ⟨Same.refl _, ⟨[], by simp, by simp⟩, fun _ _ _ h => h, fun _ h => h, fun _ h => .inl h⟩
theorem none_of {a : Addr} (h : ¬ (H a).isSome = true) : H a = none := by
  cases e : H a with
  | none => rfl
  | some o => rw [e] at h; simp at h
theorem Ext.trans (a : Ext I φ H I1 φ1 H1) (b : Ext I1 φ1 H1 I2 φ2 H2) : Ext I φ H I2 φ2 H2 := by
  obtain ⟨x, rfl, hx⟩ := a.pre
  obtain ⟨y, rfl, hy⟩ := b.pre
  have fr : ∀ c, H1 c = none → H c = none := fun c h => none_of fun q => by
    have := a.keep c q
    rw [h] at this
    simp at this
  refine ⟨a.same.trans b.same, ⟨x ++ y, by simp, fun c hc => ?_⟩, fun c o hc e => ?_, fun c e => b.keep c (a.keep c e), fun c hc => ?_⟩
  · rcases List.mem_append.mp hc with h | h
    · exact hx c h
    · exact fr c (hy c h)
  · refine b.frame c o (fun z => ?_) (a.frame c o hc e)
    rcases List.mem_append.mp z with h | h
    · exact hc h
    · rw [hx c h] at e; cases e
  · rcases b.fresh c hc with h | h | h | ⟨vs, h⟩
    · exact a.fresh c h
    · exact .inr (.inl (fr c h))
    · rcases List.mem_append.mp h with h | h
      · exact .inr (.inr (.inl h))
      · exact .inr (.inl (hx c h))
    · by_cases hc : c ∈ φ
      · exact .inr (.inr (.inl hc))
      · cases e : H c with
        | none => exact .inr (.inl rfl)
        | some o =>
          have := a.frame c o hc e
          rw [h] at this
          cases this
          exact .inr (.inr (.inr ⟨vs, rfl⟩))
theorem Rel.ext {w : W} {v : V} (e : Ext I φ H I' φ' H') (h : Rel G I φ w v) : Rel G I' φ' w v := h.mono e.same e.pre'
theorem Rels.ext {ws : List W} {vs : List V} (e : Ext I φ H I' φ' H') (h : Rels G I φ ws vs) : Rels G I' φ' ws vs := h.mono e.same e.pre'

structure Envs (G : Gx) (I : Hp) (φ : List Addr) (ρ : Env) (σ : L2.St) : Prop where
  len : ρ.length = σ.length
  at_ : ∀ (i : Nat) (w : W), ρ[i]? = some (some w) → ∃ v, σ[i]? = some (some v) ∧ Rel G I φ w v
theorem Envs.ext {ρ : Env} {σ : L2.St} (e : Ext I φ H I' φ' H') (h : Envs G I φ ρ σ) : Envs G I' φ' ρ σ :=
  ⟨h.len, fun i w q => let ⟨v, h1, h2⟩ := h.at_ i w q; ⟨v, h1, h2.ext e⟩⟩
theorem Envs.set {ρ : Env} {σ : L2.St} {i : Nat} {w : W} {v : V} (h : Envs G I φ ρ σ) (r : Rel G I φ w v) : Envs G I φ (ρ.set i (some w)) (σ.set i (some v)) := by
  refine ⟨by simp [h.len], fun j u q => ?_⟩
  by_cases hj : i = j
  · subst hj
    by_cases hl : i < ρ.length
    · rw [List.getElem?_set_self hl] at q
      cases q
      exact ⟨v, by rw [List.getElem?_set_self (by rw [← h.len]; exact hl)], r⟩
    · rw [List.getElem?_eq_none (by simp; omega)] at q; cases q
  · rw [List.getElem?_set_ne hj] at q
    obtain ⟨v', h1, h2⟩ := h.at_ j u q
    exact ⟨v', by rw [List.getElem?_set_ne hj]; exact h1, h2⟩
theorem Envs.wipe {ρ : Env} {σ : L2.St} (h : Envs G I φ ρ σ) : ∀ (vs : List Nat), Envs G I φ (Tw.wipe ρ vs) (L2.wipe σ vs)
  | [] => h
  | v :: vs => by
    have ih := Envs.wipe h vs
    show Envs G I φ ((Tw.wipe ρ vs).set v none) ((L2.wipe σ vs).set v none)
    refine ⟨by simp [ih.len], fun j u q => ?_⟩
    by_cases hj : v = j
    · subst hj
      by_cases hl : v < (Tw.wipe ρ vs).length
      · rw [List.getElem?_set_self hl] at q; cases q
      · rw [List.getElem?_eq_none (by simp; omega)] at q; cases q
    · rw [List.getElem?_set_ne hj] at q
      obtain ⟨v', h1, h2⟩ := ih.at_ j u q
      exact ⟨v', by rw [List.getElem?_set_ne hj]; exact h1, h2⟩

theorem same_upd {p : Addr} {o : HO} (h : H p = none) : Same H (upd H p o) := fun b u e => by
  rw [upd_ne (ne_of_none e h)]
  exact e
theorem Sim.iNone {S : Sto} {p : Addr} (s : Sim G I φ S H) (h : H p = none) : I p = none := by
  cases e : I p with
  | none => rfl
  | some o => rw [s.same p o e] at h; cases h
theorem Sim.notIn {S : Sto} {p : Addr} (s : Sim G I φ S H) (h : H p = none) : p ∉ φ := fun z => by
  obtain ⟨n, hn, e⟩ := List.getElem_of_mem z
  have := s.old n p (by rw [List.getElem?_eq_getElem hn, e])
  rw [h] at this
  simp at this
theorem CellOk.mono {a : Addr} {o : Ob} (s : Same I I') (p : Pre φ φ') (e : ∀ u, H a = some u → H' a = some u) (h : CellOk G I φ H a o) : CellOk G I' φ' H' a o := by
  cases o with
  | lst ws => obtain ⟨vs, q, r⟩ := h; exact ⟨vs, e _ q, r.mono s p⟩
  | dic t ks vs =>
    cases t with
    | false => obtain ⟨kvs, q, k, r⟩ := h; exact ⟨kvs, e _ q, k, r.mono s p⟩
    | true => obtain ⟨kvs, q, k, r⟩ := h; exact ⟨kvs, e _ q, k, r.mono s p⟩
  | ins c ws => obtain ⟨dx, fs, q, k, r⟩ := h; exact ⟨dx, fs, e _ q, k, r.mono s p⟩
  | dead => trivial
theorem Sim.newI {S : Sto} {p : Addr} {o : HO} (s : Sim G I φ S H) (h : H p = none) : Sim G (upd I p o) φ S (upd H p o) ∧ Ext I φ H (upd I p o) φ (upd H p o) := by
  have hi := s.iNone h
  have hs : Same I (upd I p o) := same_upd hi
  have ne : ∀ a, (H a).isSome = true → a ≠ p := fun a q z => by rw [z, h] at q; simp at q
  refine ⟨⟨fun a u e => ?_, s.len, s.nd, fun n a u e1 e2 e3 => ?_, fun n a e => ?_, fun n a u e1 e2 => ?_⟩, ⟨hs, ⟨[], by simp, by simp⟩, fun a u _ e => ?_, fun a e => ?_, fun a e => ?_⟩⟩
  · by_cases z : a = p
    · subst z; rw [upd_same] at e; rw [upd_same]; exact e
    · rw [upd_ne z] at e; rw [upd_ne z]; exact s.same a u e
  · rw [upd_ne (ne a (s.old n a e1))]
    exact s.out n a u e1 e2 e3
  · rw [upd_ne (ne a (s.old n a e))]
    exact s.old n a e
  · exact (s.cell n a u e1 e2).mono hs (Pre.refl _) fun u q => by rw [upd_ne (ne a (s.old n a e1))]; exact q
  · rw [upd_ne (ne_of_none e h)]
    exact e
  · rw [upd_ne (ne a e)]
    exact e
  · by_cases z : a = p
    · subst z; exact .inr (.inl h)
    · rw [upd_ne z] at e; exact .inl e
theorem Sim.newC {S : Sto} {p : Addr} {o : Ob} {u : HO} (s : Sim G I φ S H) (h : H p = none) (c : CellOk G I (φ ++ [p]) (upd H p u) p o) : Sim G I (φ ++ [p]) (S ++ [o]) (upd H p u) ∧ Ext I φ H I (φ ++ [p]) (upd H p u) := by
  have hi := s.iNone h
  have ne : ∀ a, (H a).isSome = true → a ≠ p := fun a q z => by rw [z, h] at q; simp at q
  have hn := s.notIn h
  have at_ : ∀ (n : Nat) (a : Addr), (φ ++ [p])[n]? = some a → φ[n]? = some a ∨ (n = φ.length ∧ a = p) := fun n a e => by
    by_cases q : n < φ.length
    · rw [List.getElem?_append_left q] at e; exact .inl e
    · rw [List.getElem?_append_right (by omega)] at e
      have hl := (List.getElem?_eq_some_iff.mp e).1
      simp at hl
      have e0 : n - φ.length = 0 := by omega
      rw [e0] at e
      simp at e
      exact .inr ⟨by omega, e.symm⟩
  refine ⟨⟨fun a w e => ?_, by simp [s.len], ?_, fun n a w e1 e2 e3 => ?_, fun n a e => ?_, fun n a w e1 e2 => ?_⟩, ⟨Same.refl _, ⟨[p], rfl, fun a ha => ?_⟩, fun a w _ e => ?_, fun a e => ?_, fun a e => .inl e⟩⟩
  · rw [upd_ne (ne a (by rw [s.same a w e]; rfl))]
    exact s.same a w e
  · rw [List.nodup_append]
    exact ⟨s.nd, by simp, fun a ha b hb => by simp at hb; subst hb; exact fun z => hn (z ▸ ha)⟩
  · rcases at_ n a e1 with q | ⟨q1, q2⟩
    · have hl : n < S.length := by rw [← s.len]; exact (List.getElem?_eq_some_iff.mp q).1
      rw [List.getElem?_append_left hl] at e2
      exact s.out n a w q e2 e3
    · subst q2; exact hi
  · rcases at_ n a e with q | ⟨q1, q2⟩
    · rw [upd_ne (ne a (s.old n a q))]; exact s.old n a q
    · subst q2; rw [upd_same]; rfl
  · rcases at_ n a e1 with q | ⟨q1, q2⟩
    · have hl : n < S.length := by rw [← s.len]; exact (List.getElem?_eq_some_iff.mp q).1
      rw [List.getElem?_append_left hl] at e2
      exact (s.cell n a w q e2).mono (Same.refl _) ⟨[p], rfl⟩ fun u q' => by rw [upd_ne (ne a (s.old n a q))]; exact q'
    · subst q2
      rw [List.getElem?_append_right (by rw [q1, s.len]; omega)] at e2
      rw [q1, s.len] at e2
      simp at e2
      subst e2
      exact c
  · simp at ha; subst ha; exact h
  · rw [upd_ne (ne_of_none e h)]; exact e
  · rw [upd_ne (ne a e)]; exact e
theorem Sim.put {S : Sto} {n : Nat} {p : Addr} {o o' : Ob} {u : HO} (s : Sim G I φ S H) (hn : φ[n]? = some p) (ho : S[n]? = some o) (hd : o ≠ .dead) (c : CellOk G I φ (upd H p u) p o') : Sim G I φ (S.set n o') (upd H p u) ∧ Ext I φ H I φ (upd H p u) := by
  have hi := s.out n p o hn ho hd
  have un : ∀ (m : Nat), φ[m]? = some p → m = n := fun m e => by
    have h1 := (List.getElem?_eq_some_iff.mp e).1
    have h2 := (List.getElem?_eq_some_iff.mp hn).1
    exact (List.getElem_inj s.nd).mp ((List.getElem?_eq_some_iff.mp e).2.trans (List.getElem?_eq_some_iff.mp hn).2.symm)
  have hnS : n < S.length := (List.getElem?_eq_some_iff.mp ho).1
  refine ⟨⟨fun a w e => ?_, by simp [s.len], s.nd, fun m a w e1 e2 e3 => ?_, fun m a e => ?_, fun m a w e1 e2 => ?_⟩, ⟨Same.refl _, ⟨[], by simp, by simp⟩, fun a w ha e => ?_, fun a e => ?_, fun a e => .inl e⟩⟩
  · rw [upd_ne (fun z => by rw [z, hi] at e; cases e)]
    exact s.same a w e
  · by_cases z : m = n
    · subst z; rw [hn] at e1; cases e1; exact hi
    · rw [List.getElem?_set_ne (Ne.symm z)] at e2
      exact s.out m a w e1 e2 e3
  · by_cases z : a = p
    · subst z; rw [upd_same]; rfl
    · rw [upd_ne z]; exact s.old m a e
  · by_cases z : m = n
    · subst z
      rw [hn] at e1; cases e1
      rw [List.getElem?_set_self hnS] at e2
      cases e2
      exact c
    · rw [List.getElem?_set_ne (Ne.symm z)] at e2
      exact (s.cell m a w e1 e2).mono (Same.refl _) (Pre.refl _) fun u q => by rw [upd_ne (fun y => z (un m (by rw [← y]; exact e1)))]; exact q
  · rw [upd_ne (fun z => ha (by rw [z]; exact List.mem_of_getElem? hn))]
    exact e
  · by_cases z : a = p
    · subst z; rw [upd_same]; rfl
    · rw [upd_ne z]; exact e
end Tw

namespace Tw
open PySem PySem.Spec PyProof.Rows L2

variable {G : Gx} {I I' I1 I2 H H' H1 H2 : Hp} {φ φ' φ1 φ2 : List Addr} {S S' : Sto} {K : PySem.W.Frag}

def KE (G : Gx) (I : Hp) (φ : List Addr) (H : Hp) (S' : Sto) (w : W) (Q : VK) : Prop :=
  ∀ v I' φ' H', Ext I φ H I' φ' H' → Sim G I' φ' S' H' → Rel G I' φ' w v → Q v H'
def KF (G : Gx) (I : Hp) (φ : List Addr) (H : Hp) (S' : Sto) (xs : List W) (Q : VK) : Prop :=
  ∀ p us I' φ' H', Ext I φ H I' φ' H' → Sim G I' φ' S' H' → H' p = none → Rels G I' φ' xs us → us.length ≤ sizeLine → Q (.ref p) (upd H' p (.lst us))
theorem KE.here {w : W} {v : V} {Q : VK} (k : KE G I φ H S w Q) (s : Sim G I φ S H) (r : Rel G I φ w v) : Q v H := k v I φ H (Ext.refl _ _ _) s r
theorem KE.toKF {xs : List W} {Q : VK} (k : KE G I φ H S (.lst xs) Q) : KF G I φ H S xs Q := fun p us I' φ' H' e s hp r _ => by
  obtain ⟨s2, e2⟩ := s.newI (o := .lst us) hp
  exact k _ _ _ _ (e.trans e2) s2 ⟨p, us, rfl, upd_same, r.mono e2.same e2.pre'⟩
theorem KF.here {xs : List W} {us : List V} {p : Addr} {Q : VK} (k : KF G I φ H S xs Q) (s : Sim G I φ S H) (hp : H p = none) (r : Rels G I φ xs us) (hl : us.length ≤ sizeLine) : Q (.ref p) (upd H p (.lst us)) := k p us I φ H (Ext.refl _ _ _) s hp r hl
theorem KE.tup {xs : List W} {us : List V} {p : Addr} {Q : VK} (k : KE G I φ H S (.tup xs) Q) (s : Sim G I φ S H) (hp : H p = none) (r : Rels G I φ xs us) : Q (.ref p) (upd H p (.tup us)) := by
  obtain ⟨s2, e2⟩ := s.newI (o := .tup us) hp
  exact k _ _ _ _ e2 s2 ⟨p, us, rfl, upd_same, r.mono e2.same e2.pre'⟩

theorem lim_ok {n : Nat} (h : n < LIM) : n < sizeLine := Nat.lt_of_lt_of_le h (by decide)
theorem rels1 {ws : List W} {x : V} (r : Rels G I φ ws [x]) : ∃ a, ws = [a] ∧ Rel G I φ a x := by
  cases ws with
  | nil => exact absurd (show [x] = [] from r) (by simp)
  | cons a r' =>
    obtain ⟨y, ys, e, h, t⟩ := r
    cases e
    cases r' with
    | nil => exact ⟨a, rfl, h⟩
    | cons b r'' => obtain ⟨_, _, e, _⟩ := t; cases e
theorem rels2 {ws : List W} {x y : V} (r : Rels G I φ ws [x, y]) : ∃ a b, ws = [a, b] ∧ Rel G I φ a x ∧ Rel G I φ b y := by
  cases ws with
  | nil => exact absurd (show [x, y] = [] from r) (by simp)
  | cons a r' =>
    obtain ⟨y, ys, e, h, t⟩ := r
    cases e
    obtain ⟨b, rfl, hb⟩ := rels1 t
    exact ⟨a, b, rfl, h, hb⟩
theorem rels0 {ws : List W} (r : Rels G I φ ws []) : ws = [] := by
  cases ws with
  | nil => rfl
  | cons a r' => obtain ⟨_, _, e, _⟩ := r; cases e
theorem rel_int {i : Int} {v : V} (r : Rel G I φ (.int i) v) : v = .int i := r
theorem relsI : ∀ (ns : List Int), Rels G I φ (ns.map W.int) (ns.map V.int)
  | [] => rfl
  | _ :: ns => ⟨_, _, rfl, rfl, relsI ns⟩
theorem seqRel {w : W} {v : V} {xs : List W} (hk : K = G.K) (s : Sim G I φ S H) (r : Rel G I φ w v) (e : seqOf S w = some xs) : ∃ a vs, v = .ref a ∧ (SqL K H a vs ∨ SqT K H a vs) ∧ Rels G I φ xs vs := by
  cases w with
  | lst ws =>
    obtain ⟨a, vs, rfl, h, q⟩ := r
    cases e
    exact ⟨a, vs, rfl, .inl (.inl (rd_mono s.same h)), q⟩
  | tup ws =>
    obtain ⟨a, vs, rfl, h, q⟩ := r
    cases e
    exact ⟨a, vs, rfl, .inr (.inl (.inl (s.same _ _ h))), q⟩
  | ref n =>
    obtain ⟨a, rfl, h⟩ := r
    cases hS : S[n]? with
    | none => simp [seqOf, hS] at e
    | some o =>
      cases o with
      | lst ws =>
        simp [seqOf, hS] at e
        subst e
        obtain ⟨vs, h1, h2⟩ := s.cell n a _ h hS
        exact ⟨a, vs, rfl, .inl (.inl (.inl h1)), h2⟩
      | _ => simp [seqOf, hS] at e
  | klst ns =>
    obtain ⟨a, rfl, h⟩ := r
    cases e
    subst hk
    exact ⟨a, _, rfl, .inl (s.same.seq h), relsI ns⟩
  | _ => simp [seqOf] at e
theorem lstRel {w : W} {v : V} {xs : List W} (s : Sim G I φ S H) (r : Rel G I φ w v) (e : lstOf S w = some xs) : ∃ a vs, v = .ref a ∧ SqL K H a vs ∧ Rels G I φ xs vs := by
  cases w with
  | lst ws =>
    obtain ⟨a, vs, rfl, h, q⟩ := r
    cases e
    exact ⟨a, vs, rfl, .inl (rd_mono s.same h), q⟩
  | ref n =>
    obtain ⟨a, rfl, h⟩ := r
    cases hS : S[n]? with
    | none => simp [lstOf, hS] at e
    | some o =>
      cases o with
      | lst ws =>
        simp [lstOf, hS] at e
        subst e
        obtain ⟨vs, h1, h2⟩ := s.cell n a _ h hS
        exact ⟨a, vs, rfl, .inl (.inl h1), h2⟩
      | _ => simp [lstOf, hS] at e
  | _ => simp [lstOf] at e
theorem dicRelK {w : W} {v : V} {ks vs : List W} (s : Sim G I φ S H) (r : Rel G I φ w v) (e : dicOf S w = some (false, ks, vs)) :
    ∃ a kvs, v = .ref a ∧ H a = some (.dK kvs) ∧ ks = kvs.map (fun p => kW p.1) ∧ Rels G I φ vs (kvs.map (·.2)) := by
  cases w with
  | dic t ks' vs' =>
    simp [dicOf] at e
    obtain ⟨rfl, rfl, rfl⟩ := e
    obtain ⟨a, kvs, rfl, h, k, q⟩ := r
    exact ⟨a, kvs, rfl, s.same _ _ h, k, q⟩
  | ref n =>
    obtain ⟨a, rfl, h⟩ := r
    cases hS : S[n]? with
    | none => simp [dicOf, hS] at e
    | some o =>
      cases o with
      | dic t ks' vs' =>
        simp [dicOf, hS] at e
        obtain ⟨rfl, rfl, rfl⟩ := e
        obtain ⟨kvs, h1, h2, h3⟩ := s.cell n a _ h hS
        exact ⟨a, kvs, rfl, h1, h2, h3⟩
      | _ => simp [dicOf, hS] at e
  | _ => simp [dicOf] at e
theorem dicRelT {w : W} {v : V} {ks vs : List W} (s : Sim G I φ S H) (r : Rel G I φ w v) (e : dicOf S w = some (true, ks, vs)) :
    ∃ a kvs, v = .ref a ∧ H a = some (.dT kvs) ∧ ks = kvs.map (fun p => .tup (p.1.map kW)) ∧ Rels G I φ vs (kvs.map (·.2)) := by
  cases w with
  | dic t ks' vs' =>
    simp [dicOf] at e
    obtain ⟨rfl, rfl, rfl⟩ := e
    obtain ⟨a, kvs, rfl, h, k, q⟩ := r
    exact ⟨a, kvs, rfl, s.same _ _ h, k, q⟩
  | ref n =>
    obtain ⟨a, rfl, h⟩ := r
    cases hS : S[n]? with
    | none => simp [dicOf, hS] at e
    | some o =>
      cases o with
      | dic t ks' vs' =>
        simp [dicOf, hS] at e
        obtain ⟨rfl, rfl, rfl⟩ := e
        obtain ⟨kvs, h1, h2, h3⟩ := s.cell n a _ h hS
        exact ⟨a, kvs, rfl, h1, h2, h3⟩
      | _ => simp [dicOf, hS] at e
  | _ => simp [dicOf] at e

mutual
def toD : W → PyData
  | .bl b => .bool b
  | .int i => .int i
  | .str s => .str ⟨s.toArray⟩
  | .tup xs => .tuple (toDs xs)
  | .lst xs => .list (toDs xs)
  | _ => .none
def toDs : List W → List PyData
  | [] => []
  | x :: xs => toD x :: toDs xs
end
theorem toDs_map : ∀ xs : List W, toDs xs = xs.map toD
  | [] => rfl
  | x :: xs => by rw [toDs, List.map_cons, toDs_map xs]
mutual
theorem dat_lay : ∀ (n : Nat) (w : W), datW n w = true → (toD w).canLay0 = true ∧ (toD w).depth ≤ n
  | n, .non, _ => by simp [toD, PyData.canLay0, PyData.depth]
  | n, .bl _, _ => by simp [toD, PyData.canLay0, PyData.depth]
  | n, .int _, _ => by simp [toD, PyData.canLay0, PyData.depth]
  | n, .str s, h => by
    simp [datW] at h
    refine ⟨?_, by simp [toD, PyData.depth]⟩
    simp only [toD, PyData.canLay0, PyData.strOk]
    simp
    intro x hx
    have := h.1 x hx
    omega
  | 0, .lst xs, h => by simp [datW] at h
  | n + 1, .lst xs, h => by
    simp [datW] at h
    have := dat_layL n xs h
    simp only [toD, PyData.canLay0, PyData.depth]
    exact ⟨this.1, by omega⟩
  | 0, .tup xs, h => by simp [datW] at h
  | n + 1, .tup xs, h => by
    simp [datW] at h
    have := dat_layL n xs h
    simp only [toD, PyData.canLay0, PyData.depth]
    exact ⟨this.1, by omega⟩
  | n, .dic _ _ _, h => by simp [datW] at h
  | n, .rcd _ _, h => by simp [datW] at h
  | n, .ref _, h => by simp [datW] at h
  | n, .exn _, h => by simp [datW] at h
theorem dat_layL : ∀ (n : Nat) (xs : List W), datL n xs = true → PyData.canLayAll0 (toDs xs) = true ∧ PyData.depthAll (toDs xs) ≤ n
  | n, [], _ => by simp [toDs, PyData.canLayAll0, PyData.depthAll]
  | n, x :: xs, h => by
    simp [datL] at h
    have h1 := dat_lay n x h.1
    have h2 := dat_layL n xs h.2
    simp only [toDs, PyData.canLayAll0, PyData.depthAll, Bool.and_eq_true]
    exact ⟨⟨h1.1, h2.1⟩, by omega⟩
end
theorem dat_shaped {w : W} (h : datW 30 w = true) : SeqAt.shaped (toD w) = true := by
  obtain ⟨h1, h2⟩ := dat_lay 30 w h
  show ((toD w).canLay0 && decide ((toD w).depth ≤ 64)) = true
  rw [h1, decide_eq_true (by omega)]
  rfl
theorem datL_shaped {xs : List W} (h : datL 30 xs = true) : SeqAt.shaped (.list (toDs xs)) = true := by
  obtain ⟨h1, h2⟩ := dat_layL 30 xs h
  have e1 : PyData.canLay0 (.list (toDs xs)) = true := by simp only [PyData.canLay0]; exact h1
  have e2 : PyData.depth (.list (toDs xs)) ≤ 64 := by simp only [PyData.depth]; omega
  show (PyData.canLay0 (.list (toDs xs)) && decide (PyData.depth (.list (toDs xs)) ≤ 64)) = true
  rw [e1, decide_eq_true e2]
  rfl
mutual
theorem eqW_eqv : ∀ (n m : Nat) (x y : W), datW n x = true → datW m y = true → PyData.eqv (toD x) (toD y) = eqW x y
  | n, m, .non, y, _, h => by cases y <;> simp_all [toD, PyData.eqv, eqW, datW]
  | n, m, .bl a, y, _, h => by cases y <;> simp_all [toD, PyData.eqv, eqW, datW]
  | n, m, .int a, y, _, h => by cases y <;> simp_all [toD, PyData.eqv, eqW, datW]
  | n, m, .str a, y, _, h => by
    cases y <;> simp_all [toD, PyData.eqv, eqW, datW]
    rename_i b
    rw [Bool.eq_iff_iff]
    simp
  | n + 1, m + 1, .lst xs, .lst ys, h1, h2 => by
    simp [datW] at h1 h2
    simp only [toD, PyData.eqv, eqW]
    exact eqL_eqv n m xs ys h1 h2
  | n + 1, m + 1, .tup xs, .tup ys, h1, h2 => by
    simp [datW] at h1 h2
    simp only [toD, PyData.eqv, eqW]
    exact eqL_eqv n m xs ys h1 h2
  | 0, m, .lst xs, y, h, _ => by simp [datW] at h
  | 0, m, .tup xs, y, h, _ => by simp [datW] at h
  | n + 1, 0, .lst xs, y, _, h => by cases y <;> simp_all [toD, PyData.eqv, eqW, datW]
  | n + 1, 0, .tup xs, y, _, h => by cases y <;> simp_all [toD, PyData.eqv, eqW, datW]
  | n + 1, m + 1, .lst xs, .non, _, h => by simp [toD, PyData.eqv, eqW]
  | n + 1, m + 1, .lst xs, .bl _, _, h => by simp [toD, PyData.eqv, eqW]
  | n + 1, m + 1, .lst xs, .int _, _, h => by simp [toD, PyData.eqv, eqW]
  | n + 1, m + 1, .lst xs, .str _, _, h => by simp [toD, PyData.eqv, eqW]
  | n + 1, m + 1, .lst xs, .tup _, _, h => by simp [toD, PyData.eqv, eqW]
  | n + 1, m + 1, .lst xs, .dic _ _ _, _, h => by simp [datW] at h
  | n + 1, m + 1, .lst xs, .rcd _ _, _, h => by simp [datW] at h
  | n + 1, m + 1, .lst xs, .ref _, _, h => by simp [datW] at h
  | n + 1, m + 1, .lst xs, .exn _, _, h => by simp [datW] at h
  | n + 1, m + 1, .tup xs, .non, _, h => by simp [toD, PyData.eqv, eqW]
  | n + 1, m + 1, .tup xs, .bl _, _, h => by simp [toD, PyData.eqv, eqW]
  | n + 1, m + 1, .tup xs, .int _, _, h => by simp [toD, PyData.eqv, eqW]
  | n + 1, m + 1, .tup xs, .str _, _, h => by simp [toD, PyData.eqv, eqW]
  | n + 1, m + 1, .tup xs, .lst _, _, h => by simp [toD, PyData.eqv, eqW]
  | n + 1, m + 1, .tup xs, .dic _ _ _, _, h => by simp [datW] at h
  | n + 1, m + 1, .tup xs, .rcd _ _, _, h => by simp [datW] at h
  | n + 1, m + 1, .tup xs, .ref _, _, h => by simp [datW] at h
  | n + 1, m + 1, .tup xs, .exn _, _, h => by simp [datW] at h
  | n, m, .dic _ _ _, _, h, _ => by simp [datW] at h
  | n, m, .rcd _ _, _, h, _ => by simp [datW] at h
  | n, m, .ref _, _, h, _ => by simp [datW] at h
  | n, m, .exn _, _, h, _ => by simp [datW] at h
theorem eqL_eqv : ∀ (n m : Nat) (xs ys : List W), datL n xs = true → datL m ys = true → PyData.eqvAll (toDs xs) (toDs ys) = eqL xs ys
  | n, m, [], [], _, _ => by simp [toDs, PyData.eqvAll, eqL]
  | n, m, [], y :: ys, _, _ => by simp [toDs, PyData.eqvAll, eqL]
  | n, m, x :: xs, [], _, _ => by simp [toDs, PyData.eqvAll, eqL]
  | n, m, x :: xs, y :: ys, h1, h2 => by
    simp [datL] at h1 h2
    simp only [toDs, PyData.eqvAll, eqL]
    rw [eqW_eqv n m x y h1.1 h2.1, eqL_eqv n m xs ys h1.2 h2.2]
end

def Tells (G : Gx) (K : PySem.W.Frag) (I : Hp) (φ : List Addr) (H : Hp) (g : Nat → Option W) : Prop :=
  ∀ n a w d, φ[n]? = some a → g n = some w → datW d w = true → Dp K H (.ref a) (toD w)
theorem dpAll_nil : DpAll K H [] (toDs []) := by rw [toDs]; exact .nil
mutual
theorem sub_dp (s : Same I H) {g : Nat → Option W} (T : Tells G K I φ H g) : ∀ (d : Nat) (w : W) (v : V) (w' : W), Rel G I φ w v → sub false g w = some w' → datW d w' = true → Dp K H v (toD w')
  | d, .non, v, w', r, e, _ => by simp [sub] at e; subst e; rw [show v = .non from r]; exact .non
  | d, .bl b, v, w', r, e, _ => by simp [sub] at e; subst e; rw [show v = .bl b from r]; exact .bl b
  | d, .int i, v, w', r, e, _ => by simp [sub] at e; subst e; rw [show v = .int i from r]; exact .int i
  | d, .str x, v, w', r, e, _ => by simp [sub] at e; subst e; rw [show v = .str ⟨x.toArray⟩ from r]; exact .str _
  | d, .tup xs, v, w', r, e, h => by
    simp [sub] at e
    obtain ⟨ys, e1, rfl⟩ := e
    obtain ⟨a, vs, rfl, ha, q⟩ := r
    cases d with
    | zero => simp [datW] at h
    | succ d =>
      simp [datW] at h
      rw [toD]
      exact .tup (.inl (.inl (s _ _ ha))) (sub_dpL s T d xs vs ys q e1 h)
  | d, .lst xs, v, w', r, e, h => by
    simp [sub] at e
    obtain ⟨ys, e1, rfl⟩ := e
    obtain ⟨a, vs, rfl, ha, q⟩ := r
    cases d with
    | zero => simp [datW] at h
    | succ d =>
      simp [datW] at h
      rw [toD]
      exact .lst (.inl (rd_mono s ha)) (sub_dpL s T d xs vs ys q e1 h)
  | d, .ref n, v, w', r, e, h => by
    simp [sub] at e
    obtain ⟨a, rfl, ha⟩ := r
    exact T n a w' d ha e h
  | d, .dic t ks vs, v, w', r, e, h => by
    simp [sub, Option.bind_eq_some_iff] at e
    obtain ⟨_, _, _, _, rfl⟩ := e
    simp [datW] at h
  | d, .rcd c xs, v, w', r, e, h => by
    simp [sub] at e
    obtain ⟨_, _, rfl⟩ := e
    simp [datW] at h
  | d, .exn c, v, w', r, e, h => by
    simp [sub] at e
    subst e
    simp [datW] at h
  | d, .klst ns, v, w', r, e, h => by
    simp [sub] at e
    subst e
    simp [datW] at h
theorem sub_dpL (s : Same I H) {g : Nat → Option W} (T : Tells G K I φ H g) : ∀ (d : Nat) (ws : List W) (vs : List V) (ws' : List W), Rels G I φ ws vs → subL false g ws = some ws' → datL d ws' = true → DpAll K H vs (toDs ws')
  | d, [], vs, ws', r, e, _ => by simp [subL] at e; subst e; rw [show vs = [] from r]; exact dpAll_nil
  | d, w :: ws, vs, ws', r, e, h => by
    simp [subL, Option.bind_eq_some_iff] at e
    obtain ⟨w', e1, ws'', e2, rfl⟩ := e
    obtain ⟨x, xs, rfl, q1, q2⟩ := r
    simp [datL] at h
    rw [toDs]
    exact .cons (sub_dp s T d w x w' q1 e1 h.1) (sub_dpL s T d ws xs ws'' q2 e2 h.2)
end
theorem tells_lev (s : Sim G I φ S H) : ∀ k, Tells G K I φ H (lev false S k)
  | 0 => fun n a w d _ e _ => by simp [lev] at e
  | k + 1 => fun n a w d ha e h => by
    simp only [lev, cellW] at e
    cases hS : S[n]? with
    | none => simp [hS] at e
    | some o =>
      rw [hS] at e
      cases o with
      | lst xs =>
        simp at e
        obtain ⟨ys, e1, rfl⟩ := e
        obtain ⟨vs, h1, h2⟩ := s.cell n a _ ha hS
        cases d with
        | zero => simp [datW] at h
        | succ d =>
          simp [datW] at h
          rw [toD]
          exact .lst (.inl (.inl h1)) (sub_dpL s.same (tells_lev s k) d xs vs ys h2 e1 h)
      | dic t ks vs =>
        simp [Option.bind_eq_some_iff] at e
        obtain ⟨_, _, _, _, rfl⟩ := e
        simp [datW] at h
      | ins c xs =>
        simp at e
        obtain ⟨_, _, rfl⟩ := e
        simp [datW] at h
      | dead => simp at e
theorem vw_dp (s : Sim G I φ S H) {d : Nat} {w w' : W} {v : V} (r : Rel G I φ w v) (e : vw S w = some w') (h : datW d w' = true) : Dp K H v (toD w') :=
  sub_dp s.same (tells_lev s 3) d w v w' r e h
theorem vws_dp (s : Sim G I φ S H) {d : Nat} {ws ws' : List W} {vs : List V} (r : Rels G I φ ws vs) (e : vws S ws = some ws') (h : datL d ws' = true) : DpAll K H vs (toDs ws') :=
  sub_dpL s.same (tells_lev s 3) d ws vs ws' r e h
end Tw

namespace Tw
open PySem PySem.Spec PyProof.Rows L2

variable {G : Gx} {I I' I1 I2 H H' H1 H2 : Hp} {φ φ' φ1 φ2 : List Addr} {S S' : Sto} {K : PySem.W.Frag} {X : Cx}

def rOp (G : Gx) (o : Op) (vs : List V) (H : Hp) (Q : VK) : Prop :=
  ∃ I φ S ws w, Sim G I φ S H ∧ Rels G I φ ws vs ∧ opSem o ws S = some w ∧ KE G I φ H S w Q
def rFr (G : Gx) (o : Op) (vs : List V) (H : Hp) (Q : VK) : Prop :=
  ∃ I φ S ws xs, Sim G I φ S H ∧ Rels G I φ ws vs ∧ opSem o ws S = some (.lst xs) ∧ KF G I φ H S xs Q

theorem or_sub : OpR X (binaryOp .Sub) (fun x y => rOp G .sub [x, y]) := by
  rintro pins s σ H x y v u Q J rx ry ⟨I, φ, S, ws, w, sm, rs, e, k⟩
  obtain ⟨a, b, rfl, ra, rb⟩ := rels2 rs
  cases a <;> first | (cases e; done) | skip
  cases b <;> first | (cases e; done) | skip
  cases e
  obtain rfl := rel_int ra
  obtain rfl := rel_int rb
  exact op_sub pins s σ H _ _ v u Q J rx ry ⟨_, _, rfl, rfl, k.here sm rfl⟩
theorem or_fdiv : OpR X (binaryOp .FloorDiv) (fun x y => rOp G .fdiv [x, y]) := by
  rintro pins s σ H x y v u Q J rx ry ⟨I, φ, S, ws, w, sm, rs, e, k⟩
  obtain ⟨a, b, rfl, ra, rb⟩ := rels2 rs
  cases a <;> first | (cases e; done) | skip
  cases b <;> first | (cases e; done) | skip
  obtain rfl := rel_int ra
  obtain rfl := rel_int rb
  simp only [opSem] at e
  split at e
  · rename_i hc
    cases e
    simp only [Tw.CDiv, Bool.and_eq_true, decide_eq_true_eq] at hc
    exact op_fdiv pins s σ H _ _ v u Q J rx ry ⟨_, _, rfl, rfl, hc, k.here sm rfl⟩
  · cases e
theorem or_mod : OpR X (binaryOp .Mod) (fun x y => rOp G .mod [x, y]) := by
  rintro pins s σ H x y v u Q J rx ry ⟨I, φ, S, ws, w, sm, rs, e, k⟩
  obtain ⟨a, b, rfl, ra, rb⟩ := rels2 rs
  cases a <;> first | (cases e; done) | skip
  cases b <;> first | (cases e; done) | skip
  obtain rfl := rel_int ra
  obtain rfl := rel_int rb
  simp only [opSem] at e
  split at e
  · rename_i hc
    cases e
    exact op_mod pins s σ H _ _ v u Q J rx ry ⟨_, _, rfl, rfl, hc, k.here sm rfl⟩
  · cases e
theorem or_pow : OpR X (binaryOp .Pow) (fun x y => rOp G .pow [x, y]) := by
  rintro pins s σ H x y v u Q J rx ry ⟨I, φ, S, ws, w, sm, rs, e, k⟩
  obtain ⟨a, b, rfl, ra, rb⟩ := rels2 rs
  cases a <;> first | (cases e; done) | skip
  cases b <;> first | (cases e; done) | skip
  obtain rfl := rel_int ra
  obtain rfl := rel_int rb
  simp only [opSem] at e
  split at e
  · rename_i hc
    cases e
    simp only [Tw.CPow, Bool.and_eq_true, decide_eq_true_eq] at hc
    exact op_pow pins s σ H _ _ v u Q J rx ry ⟨_, _, rfl, rfl, ⟨hc.1.1, hc.1.2, hc.2⟩, k.here sm rfl⟩
  · cases e
theorem or_neg : UnR X (unaryOp .USub) (fun x => rOp G .neg [x]) := by
  rintro pins s σ H x v Q J rx ⟨I, φ, S, ws, w, sm, rs, e, k⟩
  obtain ⟨a, rfl, ra⟩ := rels1 rs
  cases a <;> first | (cases e; done) | skip
  cases e
  obtain rfl := rel_int ra
  exact un_neg pins s σ H _ v Q J rx ⟨_, rfl, k.here sm rfl⟩

theorem lstAt {w : W} {v : V} {xs : List W} (s : Sim G I φ S H) (r : Rel G I φ w v) (e : lstOf S w = some xs) : ∃ a vs, v = .ref a ∧ H a = some (.lst vs) ∧ Rels G I φ xs vs := by
  cases w with
  | lst ws =>
    obtain ⟨a, vs, rfl, h, q⟩ := r
    cases e
    exact ⟨a, vs, rfl, s.same _ _ h, q⟩
  | ref n =>
    obtain ⟨a, rfl, h⟩ := r
    cases hS : S[n]? with
    | none => simp [lstOf, hS] at e
    | some o =>
      cases o with
      | lst ws =>
        simp [lstOf, hS] at e
        subst e
        obtain ⟨vs, h1, h2⟩ := s.cell n a _ h hS
        exact ⟨a, vs, rfl, h1, h2⟩
      | _ => simp [lstOf, hS] at e
  | _ => simp [lstOf] at e
theorem opAdd_cases {a b w : W} (e : opAdd S a b = some w) :
    (∃ i j, a = .int i ∧ b = .int j ∧ w = .int (i + j)) ∨ (∃ x y, a = .str x ∧ b = .str y ∧ x.length + y.length < LIM ∧ w = .str (x ++ y)) ∨
    ∃ xs ys, lstOf S a = some xs ∧ lstOf S b = some ys ∧ xs.length + ys.length < LIM ∧ w = .lst (xs ++ ys) := by
  unfold opAdd at e
  split at e
  · cases e; exact .inl ⟨_, _, rfl, rfl, rfl⟩
  · split at e
    · rename_i hl
      cases e; exact .inr (.inl ⟨_, _, rfl, rfl, hl, rfl⟩)
    · cases e
  · split at e
    · split at e
      · rename_i hl
        cases e
        rename_i h1 h2
        exact .inr (.inr ⟨_, _, h1, h2, hl, rfl⟩)
      · cases e
    · cases e
theorem or_addF : OpR X (binaryOp .Add) (fun x y => rFr G .add [x, y]) := by
  rintro pins s σ H x y v u Q J rx ry ⟨I, φ, S, ws, xs, sm, rs, e, k⟩
  obtain ⟨a, b, rfl, ra, rb⟩ := rels2 rs
  rcases opAdd_cases (show opAdd S a b = some _ from e) with ⟨i, j, _, _, z⟩ | ⟨i, j, _, _, _, z⟩ | ⟨as, bs, h1, h2, hl, z⟩
  · cases z
  · cases z
  · cases z
    obtain ⟨p, vs, rfl, s1, r1⟩ := lstAt sm ra h1
    obtain ⟨q, us, rfl, s2, r2⟩ := lstAt sm rb h2
    have l1 := r1.length
    have l2 := r2.length
    have := lim_ok hl
    exact op_cat pins s σ H _ _ v u Q J rx ry ⟨p, q, vs, us, rfl, rfl, s1, s2, by omega, fun p hp => k.here sm hp (r1.append r2) (by rw [List.length_append]; omega)⟩
theorem or_add : OpR X (binaryOp .Add) (fun x y => rOp G .add [x, y]) := by
  rintro pins s σ H x y v u Q J rx ry ⟨I, φ, S, ws, w, sm, rs, e, k⟩
  obtain ⟨a, b, rfl, ra, rb⟩ := rels2 rs
  rcases opAdd_cases (show opAdd S a b = some _ from e) with ⟨i, j, rfl, rfl, rfl⟩ | ⟨i, j, rfl, rfl, hl, rfl⟩ | ⟨as, bs, h1, h2, hl, rfl⟩
  · obtain rfl := rel_int ra
    obtain rfl := rel_int rb
    exact op_add pins s σ H _ _ v u Q J rx ry ⟨_, _, rfl, rfl, k.here sm rfl⟩
  · obtain rfl : x = .str ⟨i.toArray⟩ := ra
    obtain rfl : y = .str ⟨j.toArray⟩ := rb
    refine op_add_str pins s σ H _ _ v u Q J rx ry ⟨_, _, rfl, rfl, ?_, k.here sm ?_⟩
    · show i.toArray.size + j.toArray.size ≤ sizeLine
      simp only [List.size_toArray]
      exact Nat.le_of_lt (lim_ok hl)
    · show V.str _ = V.str _
      congr 1
      show Str.append _ _ = _
      simp [Str.append]
  · exact or_addF pins s σ H x y v u Q J rx ry ⟨I, φ, S, _, _, sm, rs, e, k.toKF⟩

theorem opMul_cases {a b w : W} (e : opMul S a b = some w) :
    (∃ i j, a = .int i ∧ b = .int j ∧ CMul i j = true ∧ w = .int (i * j)) ∨ (∃ s n, a = .str s ∧ b = .int n ∧ n.natAbs < LIM ∧ s.length * n.toNat < LIM ∧ w = .str (List.replicate n.toNat s).flatten) ∨
    ∃ xs n, lstOf S a = some xs ∧ b = .int n ∧ n.natAbs < LIM ∧ xs.length * n.toNat < LIM ∧ w = .lst (List.replicate n.toNat xs).flatten := by
  unfold opMul at e
  split at e
  · split at e
    · rename_i hc
      cases e; exact .inl ⟨_, _, rfl, rfl, hc, rfl⟩
    · cases e
  · split at e
    · rename_i hc
      simp only [Bool.and_eq_true, decide_eq_true_eq] at hc
      cases e; exact .inr (.inl ⟨_, _, rfl, rfl, hc.1, hc.2, rfl⟩)
    · cases e
  · split at e
    · rename_i h
      split at e
      · rename_i hc
        simp only [Bool.and_eq_true, decide_eq_true_eq] at hc
        cases e; exact .inr (.inr ⟨_, _, h, rfl, hc.1, hc.2, rfl⟩)
      · cases e
    · cases e
  · cases e
theorem Rels.rep {ws : List W} {vs : List V} (r : Rels G I φ ws vs) : ∀ n, Rels G I φ (List.replicate n ws).flatten (List.replicate n vs).flatten
  | 0 => .nil
  | n + 1 => by
    simp only [List.replicate_succ, List.flatten_cons]
    exact r.append (Rels.rep r n)
theorem flat_len {α : Type} (xs : List α) (n : Nat) : ((List.replicate n xs).flatten).length = xs.length * n := by
  induction n with
  | zero => simp
  | succ n ih => simp only [List.replicate_succ, List.flatten_cons, List.length_append, ih, Nat.mul_add]; omega
theorem str_short {n : Nat} (h : n < 100000) : Builtin.Str.tooLong n = false := by
  unfold Builtin.Str.tooLong
  simp
  have : 100000 ≤ sizeLine := by decide
  omega
theorem or_mulF : OpR X (binaryOp .Mult) (fun x y => rFr G .mul [x, y]) := by
  rintro pins s σ H x y v u Q J rx ry ⟨I, φ, S, ws, xs, sm, rs, e, k⟩
  obtain ⟨a, b, rfl, ra, rb⟩ := rels2 rs
  rcases opMul_cases (show opMul S a b = some _ from e) with ⟨i, j, _, _, _, z⟩ | ⟨i, j, _, _, _, _, z⟩ | ⟨as, n, h1, rfl, h2, hl, z⟩
  · cases z
  · cases z
  · cases z
    obtain ⟨p, vs, rfl, s1, r1⟩ := lstAt sm ra h1
    obtain rfl := rel_int rb
    have l1 := r1.length
    have l2 := Nat.le_of_lt (lim_ok hl)
    have hn : n.natAbs < 100000 := h2
    exact op_rep pins s σ H _ _ v u Q J rx ry ⟨p, n, vs, rfl, rfl, s1, by omega, by omega, by rw [l1]; exact l2, fun p hp => k.here sm hp (r1.rep _) (by rw [flat_len, l1]; exact l2)⟩
theorem or_mul : OpR X (binaryOp .Mult) (fun x y => rOp G .mul [x, y]) := by
  rintro pins s σ H x y v u Q J rx ry ⟨I, φ, S, ws, w, sm, rs, e, k⟩
  obtain ⟨a, b, rfl, ra, rb⟩ := rels2 rs
  rcases opMul_cases (show opMul S a b = some _ from e) with ⟨i, j, rfl, rfl, hc, rfl⟩ | ⟨i, n, rfl, rfl, hn, hl, rfl⟩ | ⟨as, n, h1, rfl, h2, hl, rfl⟩
  · obtain rfl := rel_int ra
    obtain rfl := rel_int rb
    refine op_mul pins s σ H _ _ v u Q J rx ry ⟨_, _, rfl, rfl, ?_, k.here sm rfl⟩
    simp only [CMul, Bool.or_eq_true, decide_eq_true_eq] at hc
    exact hc.imp (fun h => ⟨by omega, by omega⟩) (fun h => ⟨by omega, by omega⟩)
  · obtain rfl : x = .str ⟨i.toArray⟩ := ra
    obtain rfl := rel_int rb
    have hn : n.natAbs < 100000 := hn
    have hl : i.length * n.toNat < 100000 := hl
    obtain ⟨t1, rfl⟩ := (show ∃ t, v = Value.str ⟨i.toArray⟩ t from rx)
    obtain ⟨t2, rfl⟩ := (show ∃ t, u = Value.int n t from ry)
    refine PySem.SB.mul ⟨?_, fun h1 _ => ?_, fun _ _ => ?_⟩ fun t' k' => ⟨.str (Txt.mul ⟨i.toArray⟩ n), H, J.tok _, ⟨_, rfl⟩, ?_⟩
    · rw [Bool.or_eq_false_iff]
      exact ⟨decide_eq_false (by omega), decide_eq_false (by omega)⟩
    · show ¬ ((i.toArray.size : Int) > (2 ^ 63 - 1) / n)
      rw [List.size_toArray]
      intro h
      have h2 := Int.ediv_lt_iff_lt_mul (by omega : 0 < n) |>.mp h
      have h3 : ((i.length : Int) * n) = ((i.length * n.toNat : Nat) : Int) := by
        rw [Int.natCast_mul, Int.toNat_of_nonneg (by omega)]
      rw [h3] at h2
      omega
    · have : i.toArray.size * n.toNat < 100000 := by simpa using hl
      show Builtin.Str.tooLong (i.toArray.size * n.toNat) = false
      exact str_short this
    · refine k.here sm ?_
      show V.str _ = V.str _
      congr 1
      unfold Txt.mul
      have fo : ∀ (m : Nat) (acc : Array Nat), List.foldl (fun a b => a ++ b) acc (List.replicate m i.toArray) = acc ++ (List.replicate m i).flatten.toArray := by
        intro m
        induction m with
        | zero => intro acc; simp
        | succ m ih => intro acc; rw [List.replicate_succ, List.foldl_cons, ih]; simp [List.replicate_succ]
      by_cases h1 : n < 1
      · rw [if_pos h1, show n.toNat = 0 by omega]
        rfl
      · rw [if_neg h1]
        split
        · rename_i hc
          rw [Bool.or_eq_true] at hc
          rcases hc with hc | hc
          · have : n = 1 := by simpa using hc
            subst this
            show _ = Str.mk (List.replicate 1 i).flatten.toArray
            simp
          · have h0 : i.toArray.size = 0 := by simpa [Str.length] using hc
            have : i = [] := by simpa using h0
            subst this
            simp
        · rw [fo]
          simp
  · exact or_mulF pins s σ H x y v u Q J rx ry ⟨I, φ, S, _, _, sm, rs, e, k.toKF⟩

theorem eqOp_cases {a b : W} {r : Bool} (e : eqOp S a b = some r) :
    (∃ x y, a = .str x ∧ b = .str y ∧ r = (x == y)) ∨ (∃ i j, a = .int i ∧ b = .int j ∧ r = (i == j)) ∨ (∃ i j, a = .bl i ∧ b = .bl j ∧ r = (i == j)) ∨
    ∃ x y, vw S a = some x ∧ vw S b = some y ∧ datW 30 x = true ∧ datW 30 y = true ∧ r = eqW x y := by
  unfold eqOp at e
  split at e
  · cases e; exact .inl ⟨_, _, rfl, rfl, rfl⟩
  · cases e; exact .inr (.inl ⟨_, _, rfl, rfl, rfl⟩)
  · cases e; exact .inr (.inr (.inl ⟨_, _, rfl, rfl, rfl⟩))
  · simp only [Option.bind_eq_some_iff] at e
    obtain ⟨x, h1, y, h2, e⟩ := e
    split at e
    · rename_i hc
      cases e
      simp only [Bool.and_eq_true] at hc
      exact .inr (.inr (.inr ⟨x, y, h1, h2, hc.1, hc.2, rfl⟩))
    · cases e
theorem str_beq (x y : List Nat) : decide (V.str ⟨x.toArray⟩ = V.str ⟨y.toArray⟩) = (x == y) := by
  rw [Bool.eq_iff_iff]
  simp
theorem int_beq (x y : Int) : decide (V.int x = V.int y) = (x == y) := by
  rw [Bool.eq_iff_iff]
  simp
theorem bl_beq (x y : Bool) : decide (V.bl x = V.bl y) = (x == y) := by
  rw [Bool.eq_iff_iff]
  simp
theorem or_eq (hu : X.A.units + 64 < cLine) : OpR X (compareOp .Eq) (fun x y => rOp G .eq [x, y]) := by
  rintro pins s σ H x y v u Q J rx ry ⟨I, φ, S, ws, w, sm, rs, e, k⟩
  obtain ⟨a, b, rfl, ra, rb⟩ := rels2 rs
  simp only [opSem, Option.map_eq_some_iff] at e
  obtain ⟨r, e, rfl⟩ := e
  have fin : Q (.bl r) H := k.here sm rfl
  rcases eqOp_cases e with ⟨i, j, rfl, rfl, rfl⟩ | ⟨i, j, rfl, rfl, rfl⟩ | ⟨i, j, rfl, rfl, rfl⟩ | ⟨x', y', h1, h2, d1, d2, rfl⟩
  · obtain rfl : x = .str ⟨i.toArray⟩ := ra
    obtain rfl : y = .str ⟨j.toArray⟩ := rb
    exact op_eq pins s σ H _ _ v u Q J rx ry ⟨rfl, by rw [str_beq]; exact fin⟩
  · obtain rfl := rel_int ra
    obtain rfl := rel_int rb
    exact op_eq pins s σ H _ _ v u Q J rx ry ⟨rfl, by rw [int_beq]; exact fin⟩
  · obtain rfl : x = .bl i := ra
    obtain rfl : y = .bl j := rb
    exact op_eq pins s σ H _ _ v u Q J rx ry ⟨rfl, by rw [bl_beq]; exact fin⟩
  · refine op_eqD hu pins s σ H x y v u Q J rx ry ⟨toD x', toD y', vw_dp sm ra h1 d1, vw_dp sm rb h2 d2, dat_shaped d1, dat_shaped d2, ?_⟩
    rw [eqW_eqv 30 30 x' y' d1 d2]
    exact fin
theorem or_ne (hu : X.A.units + 64 < cLine) : OpR X (compareOp .NotEq) (fun x y => rOp G .ne [x, y]) := by
  rintro pins s σ H x y v u Q J rx ry ⟨I, φ, S, ws, w, sm, rs, e, k⟩
  obtain ⟨a, b, rfl, ra, rb⟩ := rels2 rs
  simp only [opSem, Option.map_eq_some_iff] at e
  obtain ⟨r, e, rfl⟩ := e
  have fin : Q (.bl (!r)) H := k.here sm rfl
  rcases eqOp_cases e with ⟨i, j, rfl, rfl, rfl⟩ | ⟨i, j, rfl, rfl, rfl⟩ | ⟨i, j, rfl, rfl, rfl⟩ | ⟨x', y', h1, h2, d1, d2, rfl⟩
  · obtain rfl : x = .str ⟨i.toArray⟩ := ra
    obtain rfl : y = .str ⟨j.toArray⟩ := rb
    exact op_ne pins s σ H _ _ v u Q J rx ry ⟨rfl, by rw [str_beq]; exact fin⟩
  · obtain rfl := rel_int ra
    obtain rfl := rel_int rb
    exact op_ne pins s σ H _ _ v u Q J rx ry ⟨rfl, by rw [int_beq]; exact fin⟩
  · obtain rfl : x = .bl i := ra
    obtain rfl : y = .bl j := rb
    exact op_ne pins s σ H _ _ v u Q J rx ry ⟨rfl, by rw [bl_beq]; exact fin⟩
  · refine op_neD hu pins s σ H x y v u Q J rx ry ⟨toD x', toD y', vw_dp sm ra h1 d1, vw_dp sm rb h2 d2, dat_shaped d1, dat_shaped d2, ?_⟩
    rw [eqW_eqv 30 30 x' y' d1 d2]
    exact fin

mutual
theorem alike_toD : ∀ (x y : W), alikeW x y = true → PySem.W.alike (toD x) (toD y) = true
  | .non, y, h => by cases y <;> simp_all [alikeW, toD, PySem.W.alike]
  | .bl _, y, h => by cases y <;> simp_all [alikeW, toD, PySem.W.alike]
  | .int _, y, h => by cases y <;> simp_all [alikeW, toD, PySem.W.alike]
  | .str _, y, h => by cases y <;> simp_all [alikeW, toD, PySem.W.alike]
  | .lst xs, y, h => by
    cases y with
    | lst ys =>
      simp only [toD, PySem.W.alike]
      exact alike_toDs xs ys (by simpa [alikeW] using h)
    | _ => simp [alikeW] at h
  | .tup xs, y, h => by
    cases y with
    | tup ys =>
      simp only [toD, PySem.W.alike]
      exact alike_toDs xs ys (by simpa [alikeW] using h)
    | _ => simp [alikeW] at h
  | .dic _ _ _, y, h => by simp [alikeW] at h
  | .rcd _ _, y, h => by simp [alikeW] at h
  | .ref _, y, h => by simp [alikeW] at h
  | .exn _, y, h => by simp [alikeW] at h
theorem alike_toDs : ∀ (xs ys : List W), alikeL xs ys = true → PySem.W.alikeAll (toDs xs) (toDs ys) = true
  | [], ys, _ => by cases ys <;> simp [toDs, PySem.W.alikeAll]
  | x :: xs, [], _ => by simp [toDs, PySem.W.alikeAll]
  | x :: xs, y :: ys, h => by
    simp only [alikeL, Bool.and_eq_true] at h
    simp only [toDs, PySem.W.alikeAll, alike_toD x y h.1, alike_toDs xs ys h.2, Bool.and_self]
end
mutual
theorem lt_toD : ∀ (n m : Nat) (x y : W), datW n x = true → datW m y = true → alikeW x y = true → PySem.W.dataLt (toD x) (toD y) = ltW x y
  | n, m, .non, y, _, _, h => by
    cases y with
    | non => simp only [toD, ltW]; rfl
    | _ => simp [alikeW] at h
  | n, m, .bl a, y, _, _, h => by
    cases y with
    | bl b => simp only [toD, ltW, PySem.W.dataLt_bool]; cases a <;> cases b <;> rfl
    | _ => simp [alikeW] at h
  | n, m, .int a, y, _, _, h => by
    cases y with
    | int b => simp only [toD, ltW, PySem.W.dataLt_int]
    | _ => simp [alikeW] at h
  | n, m, .str a, y, _, _, h => by
    cases y with
    | str b => simp only [toD, ltW, PySem.W.dataLt_str]
    | _ => simp [alikeW] at h
  | 0, m, .lst xs, y, h, _, _ => by simp [datW] at h
  | 0, m, .tup xs, y, h, _, _ => by simp [datW] at h
  | n + 1, m, .lst xs, y, h1, h2, h => by
    cases y with
    | lst ys =>
      cases m with
      | zero => simp [datW] at h2
      | succ m =>
        simp only [toD, ltW, PySem.W.dataLt_list]
        exact lt_toDs n m xs ys (by simpa [datW] using h1) (by simpa [datW] using h2) (by simpa [alikeW] using h)
    | _ => simp [alikeW] at h
  | n + 1, m, .tup xs, y, h1, h2, h => by
    cases y with
    | tup ys =>
      cases m with
      | zero => simp [datW] at h2
      | succ m =>
        simp only [toD, ltW, PySem.W.dataLt_tuple]
        exact lt_toDs n m xs ys (by simpa [datW] using h1) (by simpa [datW] using h2) (by simpa [alikeW] using h)
    | _ => simp [alikeW] at h
  | n, m, .dic _ _ _, y, h, _, _ => by simp [datW] at h
  | n, m, .rcd _ _, y, h, _, _ => by simp [datW] at h
  | n, m, .ref _, y, h, _, _ => by simp [datW] at h
  | n, m, .exn _, y, h, _, _ => by simp [datW] at h
theorem lt_toDs : ∀ (n m : Nat) (xs ys : List W), datL n xs = true → datL m ys = true → alikeL xs ys = true → PyProof.Rows.lexLt itemOrd (PySem.W.keyToksAll (toDs xs)) (PySem.W.keyToksAll (toDs ys)) = ltL xs ys
  | n, m, [], [], _, _, _ => by
    simp only [toDs, ltL, PySem.W.keyToksAll]
    exact lex_irrefl _
  | n, m, [], y :: ys, _, _, _ => by
    simp only [toDs, ltL]
    rw [PySem.W.toks_all_cons]
    simp only [PySem.W.keyToksAll]
    rw [lex_diff (O := itemOrd) (by simp)]
    simp [itemLt]
  | n, m, x :: xs, [], _, _, _ => by
    simp only [toDs, ltL]
    rw [PySem.W.toks_all_cons]
    simp only [PySem.W.keyToksAll]
    rw [lex_diff (O := itemOrd) (by simp)]
    simp [itemLt]
  | n, m, x :: xs, y :: ys, h1, h2, h => by
    simp only [alikeL, Bool.and_eq_true] at h
    simp only [datL, Bool.and_eq_true] at h1 h2
    simp only [toDs, ltL]
    have ha := alike_toD x y h.1
    have he := eqW_eqv n m x y h1.1 h2.1
    cases hq : eqW x y with
    | true =>
      rw [hq] at he
      rw [PySem.W.dataLt_all_yes ha he, if_pos rfl]
      exact lt_toDs n m xs ys h1.2 h2.2 h.2
    | false =>
      rw [hq] at he
      rw [PySem.W.dataLt_all_no ha he, if_neg (by simp)]
      exact lt_toD n m x y h1.1 h2.1 h.1
end
theorem or_lt (hu : X.A.units + 64 < cLine) : OpR X (compareOp .Lt) (fun x y => rOp G .lt [x, y]) := by
  rintro pins s σ H x y v u Q J rx ry ⟨I, φ, S, ws, w, sm, rs, e, k⟩
  obtain ⟨a, b, rfl, ra, rb⟩ := rels2 rs
  have main : (∃ i j, a = .int i ∧ b = .int j ∧ w = .bl (decide (i < j))) ∨ (ltOp S a b).map .bl = some w := by
    have e' : (ltSem S a b).map W.bl = some w := e
    unfold ltSem at e'
    split at e'
    · cases e'; exact .inl ⟨_, _, rfl, rfl, rfl⟩
    · exact .inr e'
  clear e
  rcases main with ⟨i, j, rfl, rfl, rfl⟩ | e
  · obtain rfl := rel_int ra
    obtain rfl := rel_int rb
    exact op_lt pins s σ H _ _ v u Q J rx ry ⟨_, _, rfl, rfl, k.here sm rfl⟩
  · simp only [Option.map_eq_some_iff, ltOp, Option.bind_eq_some_iff] at e
    obtain ⟨r, ⟨x', h1, y', h2, e⟩, rfl⟩ := e
    split at e
    · rename_i hc
      cases e
      simp only [Bool.and_eq_true] at hc
      obtain ⟨⟨⟨d1, d2⟩, al⟩, nn⟩ := hc
      obtain ⟨as, r1⟩ := Dp.reads J _ x v (vw_dp sm ra h1 d1) rx
      obtain ⟨bs, r2⟩ := Dp.reads J _ y u (vw_dp sm rb h2 d2) ry
      have dp := (dat_lay 30 x' d1).2
      have hroom : X.A.units + min (toD x').depth (toD y').depth < cLine := by
        have := Nat.min_le_left (toD x').depth (toD y').depth
        omega
      have hnn : toD x' ≠ .none := by
        cases x' <;> simp_all [toD, notNone, datW]
      have := PySem.W.rcLt_alike _ _ X.A s v u as bs r1 r2 (alike_toD x' y' al) hnn hroom X.prog X.w X.xe (EP X pins σ Q)
      rw [lt_toD 30 30 x' y' d1 d2 al] at this
      exact this ⟨.bl _, H, J, rfl, k.here sm rfl⟩
    · cases e
end Tw

namespace Tw
open PySem PySem.Spec PyProof.Rows L2

variable {G : Gx} {I I' I1 I2 H H' H1 H2 : Hp} {φ φ' φ1 φ2 : List Addr} {S S' : Sto} {K : PySem.W.Frag} {X : Cx}

theorem or_le (hu : X.A.units + 64 < cLine) : OpR X (compareOp .LtE) (fun x y => rOp G .le [x, y]) := by
  rintro pins s σ H x y v u Q J rx ry ⟨I, φ, S, ws, w, sm, rs, e, k⟩
  obtain ⟨a, b, rfl, ra, rb⟩ := rels2 rs
  have main : (∃ i j, a = .int i ∧ b = .int j ∧ w = .bl (decide (i ≤ j))) ∨ (leOp S a b).map .bl = some w := by
    have e' : (leSem S a b).map W.bl = some w := e
    unfold leSem at e'
    split at e'
    · cases e'; exact .inl ⟨_, _, rfl, rfl, rfl⟩
    · exact .inr e'
  clear e
  rcases main with ⟨i, j, rfl, rfl, rfl⟩ | e
  · obtain rfl := rel_int ra
    obtain rfl := rel_int rb
    exact op_le pins s σ H _ _ v u Q J rx ry ⟨_, _, rfl, rfl, k.here sm rfl⟩
  · simp only [Option.map_eq_some_iff, leOp, Option.bind_eq_some_iff] at e
    obtain ⟨r, ⟨x', h1, y', h2, e⟩, rfl⟩ := e
    split at e
    · rename_i hc
      cases e
      simp only [Bool.and_eq_true] at hc
      obtain ⟨⟨⟨⟨d1, d2⟩, al⟩, al2⟩, nn⟩ := hc
      obtain ⟨as, r1⟩ := Dp.reads J _ x v (vw_dp sm ra h1 d1) rx
      obtain ⟨bs, r2⟩ := Dp.reads J _ y u (vw_dp sm rb h2 d2) ry
      have dp := (dat_lay 30 x' d1).2
      have hroom : X.A.units + min (toD x').depth (toD y').depth < cLine := by
        have := Nat.min_le_left (toD x').depth (toD y').depth
        omega
      have hnn : toD x' ≠ .none := by
        cases x' <;> simp_all [toD, notNone, datW]
      have := PySem.W.rcLe_alike _ _ X.A s v u as bs r1 r2 (alike_toD x' y' al) hnn hroom X.prog X.w X.xe (EP X pins σ Q)
      rw [lt_toD 30 30 y' x' d2 d1 al2] at this
      exact this ⟨.bl _, H, J, rfl, k.here sm rfl⟩
    · cases e
theorem or_gt : OpR X (compareOp .Gt) (fun x y => rOp G .gt [x, y]) := by
  rintro pins s σ H x y v u Q J rx ry ⟨I, φ, S, ws, w, sm, rs, e, k⟩
  obtain ⟨a, b, rfl, ra, rb⟩ := rels2 rs
  cases a <;> first | (cases e; done) | skip
  cases b <;> first | (cases e; done) | skip
  cases e
  obtain rfl := rel_int ra
  obtain rfl := rel_int rb
  exact op_gt pins s σ H _ _ v u Q J rx ry ⟨_, _, rfl, rfl, k.here sm rfl⟩
theorem or_ge : OpR X (compareOp .GtE) (fun x y => rOp G .ge [x, y]) := by
  rintro pins s σ H x y v u Q J rx ry ⟨I, φ, S, ws, w, sm, rs, e, k⟩
  obtain ⟨a, b, rfl, ra, rb⟩ := rels2 rs
  cases a <;> first | (cases e; done) | skip
  cases b <;> first | (cases e; done) | skip
  cases e
  obtain rfl := rel_int ra
  obtain rfl := rel_int rb
  exact op_ge pins s σ H _ _ v u Q J rx ry ⟨_, _, rfl, rfl, k.here sm rfl⟩
theorem rel_non {w : W} {v : V} (r : Rel G I φ w v) : decide (v = .non) = !notNone w := by
  cases w with
  | non => obtain rfl : v = .non := r; rfl
  | bl b => obtain rfl : v = .bl b := r; rfl
  | int b => obtain rfl : v = .int b := r; rfl
  | str b => obtain rfl : v = .str _ := r; rfl
  | tup _ => obtain ⟨a, _, rfl, _⟩ := r; rfl
  | lst _ => obtain ⟨a, _, rfl, _⟩ := r; rfl
  | dic t _ _ => cases t <;> (obtain ⟨a, _, rfl, _⟩ := r; rfl)
  | rcd _ _ => obtain ⟨a, _, _, rfl, _⟩ := r; rfl
  | ref _ => obtain ⟨a, rfl, _⟩ := r; rfl
  | exn _ => obtain ⟨a, rfl, _⟩ := r; rfl
  | klst _ => obtain ⟨a, rfl, _⟩ := r; rfl
theorem or_isnone : OpR X (compareOp .Is) (fun x y H Q => y = .non ∧ rOp G .isnone [x] H Q) := by
  rintro pins s σ H x y v u Q J rx ry ⟨rfl, I, φ, S, ws, w, sm, rs, e, k⟩
  obtain ⟨a, rfl, ra⟩ := rels1 rs
  refine op_isN pins s σ H _ _ v u Q J rx ry ⟨rfl, ?_⟩
  rw [rel_non ra]
  cases e
  exact k.here sm rfl
theorem or_notnone : OpR X (compareOp .IsNot) (fun x y H Q => y = .non ∧ rOp G .notnone [x] H Q) := by
  rintro pins s σ H x y v u Q J rx ry ⟨rfl, I, φ, S, ws, w, sm, rs, e, k⟩
  obtain ⟨a, rfl, ra⟩ := rels1 rs
  refine op_notN pins s σ H _ _ v u Q J rx ry ⟨rfl, ?_⟩
  rw [rel_non ra, Bool.not_not]
  cases e
  exact k.here sm rfl

theorem eqW_kW (a b : Key) : eqW (kW a) (kW b) = decide (a = b) := by
  cases a with
  | inl i => cases b with
    | inl j => simp only [kW, eqW]; rw [key_ll]
    | inr y => simp only [kW, eqW]; rw [key_lr]
  | inr x => cases b with
    | inl j => simp only [kW, eqW]; rw [key_rl]
    | inr y =>
      simp only [kW, eqW]
      rw [key_rr, Bool.eq_iff_iff]
      obtain ⟨x⟩ := x
      obtain ⟨y⟩ := y
      simp [Array.toList_inj]
theorem eqL_kW : ∀ (a b : List Key), eqL (a.map kW) (b.map kW) = decide (a = b)
  | [], [] => by simp [eqL]
  | [], _ :: _ => by simp [eqL]
  | _ :: _, [] => by simp [eqL]
  | x :: a, y :: b => by
    simp only [List.map_cons, eqL]
    rw [eqW_kW, eqL_kW a b, Bool.eq_iff_iff]
    simp
theorem key_one {w : W} {v : V} (r : Rel G I φ w v) (h : key1 w = true) : ∃ k : Key, w = kW k ∧ v = kV k := by
  cases w <;> first | (simp [key1] at h; done) | skip
  · rename_i i; exact ⟨.inl i, rfl, r⟩
  · rename_i s; exact ⟨.inr ⟨s.toArray⟩, rfl, r⟩
theorem key_all : ∀ {ws : List W} {vs : List V}, Rels G I φ ws vs → ws.all key1 = true → ∃ ks : List Key, ws = ks.map kW ∧ vs = ks.map kV
  | [], _, r, _ => ⟨[], rfl, r⟩
  | w :: ws, _, ⟨x, xs, e, h, r⟩, f => by
    simp only [List.all_cons, Bool.and_eq_true] at f
    obtain ⟨k, rfl, rfl⟩ := key_one h f.1
    obtain ⟨ks, rfl, rfl⟩ := key_all r f.2
    exact ⟨k :: ks, rfl, e⟩
theorem keyF {w : W} {v : V} (r : Rel G I φ w v) (h : isKey false w = true) : ∃ k : Key, w = kW k ∧ v = kV k := by
  cases w <;> first | (simp [isKey, key1] at h; done) | skip
  · rename_i i; exact ⟨.inl i, rfl, r⟩
  · rename_i s; exact ⟨.inr ⟨s.toArray⟩, rfl, r⟩
theorem keyT {w : W} {v : V} (r : Rel G I φ w v) (h : isKey true w = true) : ∃ (k : List Key) (a : Addr), w = .tup (k.map kW) ∧ v = .ref a ∧ I a = some (.tup (k.map kV)) := by
  cases w <;> first | (simp [isKey, key1] at h; done) | skip
  rename_i xs
  simp [isKey] at h
  obtain ⟨a, vs, rfl, ha, q⟩ := r
  obtain ⟨ks, rfl, rfl⟩ := key_all q (by simpa using h)
  exact ⟨ks, a, rfl, rfl, ha⟩
section
variable {κ : Type} [DecidableEq κ]
theorem dget_val (f : κ → W) (hf : ∀ a b, eqW (f a) (f b) = decide (a = b)) (k : κ) : ∀ {kvs : List (κ × V)} {vs : List W}, Rels G I φ vs (kvs.map (·.2)) →
    match dget (kvs.map fun p => f p.1) vs (f k) with
    | some w => ∃ v, valV kvs k = some v ∧ Rel G I φ w v
    | none => valV kvs k = none
  | [], vs, r => by
    have : vs = [] := rels0 r
    subst this
    simp [dget, valV]
  | p :: kvs, [], r => by
    have := r.length
    simp at this
  | p :: kvs, v :: vs, r => by
    obtain ⟨x, xs, e, h, t⟩ := r
    simp only [List.map_cons, List.cons.injEq] at e
    obtain ⟨e1, e2⟩ := e
    subst e2
    simp only [List.map_cons, dget]
    rw [hf]
    by_cases hk : p.1 = k
    · rw [if_pos (decide_eq_true hk)]
      exact ⟨p.2, valV_pos hk, e1 ▸ h⟩
    · rw [if_neg (by simpa using hk), valV_neg hk]
      exact dget_val f hf k t
theorem dhas_val (f : κ → W) (hf : ∀ a b, eqW (f a) (f b) = decide (a = b)) (k : κ) (kvs : List (κ × V)) : dhas (kvs.map fun p => f p.1) (f k) = (valV kvs k).isSome := by
  rw [← valV_any k kvs]
  unfold dhas
  rw [List.any_map]
  congr 1
  funext p
  exact hf _ _
end
theorem hfK : ∀ a b : Key, eqW (kW a) (kW b) = decide (a = b) := eqW_kW
theorem hfT : ∀ a b : List Key, eqW (.tup (a.map kW)) (.tup (b.map kW)) = decide (a = b) := fun a b => by rw [eqW]; exact eqL_kW a b
theorem dget_rel {w x : W} {v y : V} {t : Bool} {ks vs : List W} (s : Sim G I φ S H) (r : Rel G I φ w v) (e : dicOf S w = some (t, ks, vs)) (rk : Rel G I φ x y) (hk : isKey t x = true) :
    ∃ a o, v = .ref a ∧ DGet H a y o ∧ (dhas ks x = o.isSome) ∧ match dget ks vs x with
      | some z => ∃ u, o = some u ∧ Rel G I φ z u
      | none => o = none := by
  cases t with
  | false =>
    obtain ⟨a, kvs, rfl, ha, rfl, rv⟩ := dicRelK s r e
    obtain ⟨k, rfl, rfl⟩ := keyF rk hk
    exact ⟨a, _, rfl, .k ha, dhas_val kW hfK k kvs, dget_val kW hfK k rv⟩
  | true =>
    obtain ⟨a, kvs, rfl, ha, rfl, rv⟩ := dicRelT s r e
    obtain ⟨k, b, rfl, rfl, hb⟩ := keyT rk hk
    exact ⟨a, _, rfl, .t ha (s.same _ _ hb), dhas_val (fun k => .tup (k.map kW)) hfT k kvs, dget_val (fun k => .tup (k.map kW)) hfT k rv⟩

theorem flat_rel {w : W} {v : V} (r : Rel G I φ w v) (h : flatW w = true) : flatV v = true := by
  cases w <;> first | (simp [flatW] at h; done) | (rw [show v = _ from r]; rfl)
theorem flat_all : ∀ {ws : List W} {vs : List V}, Rels G I φ ws vs → ws.all flatW = true → vs.all flatV = true
  | [], _, r, _ => by rw [show _ = [] from r]; rfl
  | w :: ws, _, ⟨x, xs, e, h, r⟩, f => by
    simp only [List.all_cons, Bool.and_eq_true] at f
    subst e
    simp only [List.all_cons, Bool.and_eq_true]
    exact ⟨flat_rel h f.1, flat_all r f.2⟩
theorem eq_flat {w u : W} {v x : V} (r : Rel G I φ w v) (q : Rel G I φ u x) (h : flatW w = true) (h' : flatW u = true) : eqV v x = eqW w u := by
  cases w <;> first | (simp [flatW] at h; done) | skip
  all_goals (rw [show v = _ from r])
  all_goals (cases u <;> first | (simp [flatW] at h'; done) | skip)
  all_goals (rw [show x = _ from q])
  all_goals first | rfl | skip
  rename_i a b
  simp only [eqV, eqW]
  rw [Bool.eq_iff_iff]
  simp
theorem any_flat {u : W} {x : V} (q : Rel G I φ u x) (h' : flatW u = true) : ∀ {ws : List W} {vs : List V}, Rels G I φ ws vs → ws.all flatW = true → (vs.any fun y => eqV y x) = ws.any fun z => eqW z u
  | [], _, r, _ => by rw [show _ = [] from r]; rfl
  | w :: ws, _, ⟨y, ys, e, h, r⟩, f => by
    simp only [List.all_cons, Bool.and_eq_true] at f
    subst e
    simp only [List.any_cons]
    rw [eq_flat h q f.1 h', any_flat q h' r f.2]
theorem any_eqv {x' : W} (d1 : datW 30 x' = true) : ∀ {ys : List W} {n : Nat}, datL n ys = true → ((toDs ys).any fun z => PyData.eqv z (toD x')) = ys.any fun z => eqW z x'
  | [], _, _ => by rw [toDs]; rfl
  | y :: ys, n, h => by
    simp only [datL, Bool.and_eq_true] at h
    rw [toDs, List.any_cons, List.any_cons, eqW_eqv n 30 y x' h.1 d1, any_eqv d1 h.2]
theorem inOp_ok {x y : W} {v u : V} {r : Bool} (s : Sim G I φ S H) (rx : Rel G I φ x v) (ry : Rel G I φ y u) (e : inOp S x y = some r) :
    (∃ (c : Nat) (z : Str), v = .str ⟨#[c]⟩ ∧ u = .str z ∧ r = decide (c ∈ z.cps.toList)) ∨ (∃ a o, u = .ref a ∧ DGet H a v o ∧ r = o.isSome) ∨
    (∃ d ds, Dp K H v d ∧ Dp K H u (.list ds) ∧ SeqAt.shaped d = true ∧ SeqAt.shaped (.list ds) = true ∧ r = ds.any fun z => PyData.eqv z d) ∨
    (∃ p xs, u = .ref p ∧ (SqL K H p xs ∨ SqT K H p xs) ∧ flatV v = true ∧ xs.all flatV = true ∧ r = inV v xs) := by
  unfold inOp at e
  split at e
  · rename_i b
    split at e
    · rename_i c
      cases e
      refine .inl ⟨c, ⟨b.toArray⟩, rx, ry, ?_⟩
      rw [Bool.eq_iff_iff]
      simp
    · cases e
  · split at e
    · rename_i t ks vs hd
      split at e
      · rename_i hk
        cases e
        obtain ⟨a, o, rfl, g, h, _⟩ := dget_rel s ry hd rx hk
        exact .inr (.inl ⟨a, o, rfl, g, h⟩)
      · cases e
    · split at e
      · rename_i ys hl
        simp only [Option.bind_eq_some_iff] at e
        obtain ⟨x', h1, ys', h2, e⟩ := e
        split at e
        · rename_i hc
          cases e
          simp only [Bool.and_eq_true] at hc
          obtain ⟨a, vs, rfl, sq, rs⟩ := lstRel (K := K) s ry hl
          have dl : datL 30 ys' = true → SeqAt.shaped (.list (toDs ys')) = true := datL_shaped
          have mono : ∀ (n : Nat), datL n ys' = true → datL (n + 1) ys' = true := by
            intro n hn
            exact (datL_mono n ys' hn)
          refine .inr (.inr (.inl ⟨toD x', toDs ys', vw_dp s rx h1 hc.1, .lst sq (vws_dp s rs h2 hc.2), dat_shaped hc.1, datL_shaped (mono 29 hc.2), ?_⟩))
          exact (any_eqv hc.1 hc.2).symm
        · cases e
      · split at e
        · rename_i ys
          split at e
          · rename_i hc
            cases e
            simp only [Bool.and_eq_true] at hc
            obtain ⟨a, vs, rfl, ha, rs⟩ := ry
            refine .inr (.inr (.inr ⟨a, vs, rfl, .inr (.inl (.inl (s.same _ _ ha))), flat_rel rx hc.1, flat_all rs hc.2, ?_⟩))
            exact (any_flat rx hc.1 rs hc.2).symm
          · cases e
        · cases e
where
  datW_mono : ∀ (n : Nat) (w : W), datW n w = true → datW (n + 1) w = true
    | _, .non, _ => by simp [datW]
    | _, .bl _, _ => by simp [datW]
    | _, .int _, _ => by simp [datW]
    | _, .str s, h => by simpa [datW] using h
    | 0, .lst xs, h => by simp [datW] at h
    | 0, .tup xs, h => by simp [datW] at h
    | n + 1, .lst xs, h => by simp [datW] at h ⊢; exact datL_mono n xs h
    | n + 1, .tup xs, h => by simp [datW] at h ⊢; exact datL_mono n xs h
    | _, .dic _ _ _, h => by simp [datW] at h
    | _, .rcd _ _, h => by simp [datW] at h
    | _, .ref _, h => by simp [datW] at h
    | _, .exn _, h => by simp [datW] at h
  datL_mono : ∀ (n : Nat) (ws : List W), datL n ws = true → datL (n + 1) ws = true
    | _, [], _ => by simp [datL]
    | n, w :: ws, h => by
      simp only [datL, Bool.and_eq_true] at h ⊢
      exact ⟨datW_mono n w h.1, datL_mono n ws h.2⟩
theorem or_in (hu : X.A.units + 65 < cLine) : OpR X (compareOp .In) (fun x y => rOp G .isin [x, y]) := by
  rintro pins s σ H x y v u Q J rx ry ⟨I, φ, S, ws, w, sm, rs, e, k⟩
  obtain ⟨a, b, rfl, ra, rb⟩ := rels2 rs
  simp only [opSem, Option.map_eq_some_iff] at e
  obtain ⟨r, e, rfl⟩ := e
  have fin : Q (.bl r) H := k.here sm rfl
  rcases inOp_ok (K := X.K) sm ra rb e with ⟨c, z, rfl, rfl, rfl⟩ | ⟨p, o, rfl, g, rfl⟩ | ⟨d, ds, h1, h2, h3, h4, rfl⟩ | ⟨p, xs, rfl, h1, h2, h3, rfl⟩
  · exact op_in_sign pins s σ H _ _ v u Q J rx ry ⟨c, z, rfl, rfl, fin⟩
  · cases ry
    exact d_in (by omega) J g rx fun s' J' => ⟨.bl o.isSome, H, J', rfl, fin⟩
  · exact op_inD hu pins s σ H _ _ v u Q J rx ry ⟨d, ds, h1, h2, h3, h4, fin⟩
  · exact op_in_seq pins s σ H _ _ v u Q J rx ry ⟨p, xs, rfl, h1, h2, h3, fin⟩
theorem or_notin (hu : X.A.units + 65 < cLine) : OpR X (compareOp .NotIn) (fun x y => rOp G .notin [x, y]) := by
  rintro pins s σ H x y v u Q J rx ry ⟨I, φ, S, ws, w, sm, rs, e, k⟩
  obtain ⟨a, b, rfl, ra, rb⟩ := rels2 rs
  simp only [opSem, Option.map_eq_some_iff] at e
  obtain ⟨r, e, rfl⟩ := e
  have fin : Q (.bl (!r)) H := k.here sm rfl
  rcases inOp_ok (K := X.K) sm ra rb e with ⟨c, z, rfl, rfl, rfl⟩ | ⟨p, o, rfl, g, rfl⟩ | ⟨d, ds, h1, h2, h3, h4, rfl⟩ | ⟨p, xs, rfl, h1, h2, h3, rfl⟩
  · exact op_notIn_sign pins s σ H _ _ v u Q J rx ry ⟨c, z, rfl, rfl, fin⟩
  · cases ry
    exact d_notIn (by omega) J g rx fun s' J' => ⟨.bl (!o.isSome), H, J', rfl, fin⟩
  · exact op_notInD hu pins s σ H _ _ v u Q J rx ry ⟨d, ds, h1, h2, h3, h4, fin⟩
  · exact op_notIn_seq pins s σ H _ _ v u Q J rx ry ⟨p, xs, rfl, h1, h2, h3, fin⟩

theorem ix_dict (hu : X.A.units + 1 < cLine) : IxR X (fun x y H Q => ∃ a v, x = .ref a ∧ DGet H a y (some v) ∧ Q v H) := by
  rintro value slice pins s σ H x y v u Q J rx ry ⟨a, z, rfl, g, q⟩ hs
  cases rx
  have hT := dict_typeIs J g
  have h2 : wpAny (model X.prog X.w) X.A (getItem (.ref a) u) (EP X pins σ Q) X.xe s := d_getItem hu J g ry fun w' s3 J3 rw' => ⟨z, H, J3, rw', q⟩
  unfold subscriptTail
  refine wpAny_bind ?_
  rw [getitemInPython_of_ne hT.not_modules]
  refine wpAny_bind (wpAny_specialOf hT PySem.F.slot_dict_getitem.lookup ?_)
  have fin : wpAny (model X.prog X.w) X.A (subscripted slice false (.ref a) u) (fun r s₃ => wpAny (model X.prog X.w) X.A (letTemporaryGo value (.ref a) r >>= fun _ => pure r) (EP X pins σ Q) X.xe s₃) X.xe s := by
    rw [hs]
    exact wpAny_operating (wpAny_mono h2 (fun r s₃ h₃ => wpAny_bind (wpAny_letTemporaryGo (wpAny_pure h₃))) fun _ _ x => x)
  first
    | exact wpAny_pure (wpAny_bind fin)
    | exact wpAny_bind (wpAny_pure (wpAny_bind fin))
    | exact wpAny_bind fin
theorem ixN_eq (n : Nat) (i : Int) : Tw.ixN n i = L2.ixN n i := rfl
theorem or_idx (hk : X.K = G.K) (hu : X.A.units + 1 < cLine) : IxR X (fun x y => rOp G .idx [x, y]) := by
  rintro value slice pins s σ H x y v u Q J rx ry ⟨I, φ, S, ws, w, sm, rs, e, k⟩ hs
  obtain ⟨a, b, rfl, ra, rb⟩ := rels2 rs
  simp only [opSem] at e
  unfold idxSem at e
  split at e
  · rename_i z
    split at e
    · rename_i i
      split at e
      · rename_i hl
        simp only [Option.bind_eq_some_iff, Option.map_eq_some_iff] at e
        obtain ⟨j, h1, c, h2, rfl⟩ := e
        obtain rfl : x = .str ⟨z.toArray⟩ := ra
        obtain rfl := rel_int rb
        refine ix_str value slice pins s σ H _ _ v u Q J rx ry ⟨⟨z.toArray⟩, i, c, rfl, rfl, ?_, ?_, ?_⟩ hs
        · show z.toArray.size ≤ sizeLine
          simpa using Nat.le_of_lt (lim_ok hl)
        · show (L2.ixN z.toArray.toList.length i).bind _ = _
          simp only [List.toList_toArray]
          rw [← ixN_eq, h1]
          exact h2
        · exact k.here sm (by show _ = _; simp)
      · cases e
    · cases e
  · split at e
    · rename_i xs hq
      split at e
      · rename_i i
        simp only [Option.bind_eq_some_iff] at e
        obtain ⟨j, h1, h2⟩ := e
        obtain rfl := rel_int rb
        obtain ⟨p, vs, rfl, sq, rv⟩ := seqRel (K := X.K) hk sm ra hq
        obtain ⟨z, hz, rz⟩ := rv.get h2
        have hat : atI vs i = some z := by
          show (L2.ixN vs.length i).bind _ = _
          rw [rv.length, ← ixN_eq, h1]
          exact hz
        rcases sq with sq | sq
        · exact ix_list value slice pins s σ H _ _ v u Q J rx ry ⟨p, vs, i, z, rfl, rfl, sq, hat, k.here sm rz⟩ hs
        · exact ix_tup value slice pins s σ H _ _ v u Q J rx ry ⟨p, vs, i, z, rfl, rfl, sq, hat, k.here sm rz⟩ hs
      · cases e
    · split at e
      · rename_i t ks vs hd
        split at e
        · rename_i hk
          obtain ⟨p, o, rfl, g, _, hm⟩ := dget_rel sm ra hd rb hk
          rw [e] at hm
          obtain ⟨z, rfl, rz⟩ := hm
          exact ix_dict hu value slice pins s σ H _ _ v u Q J rx ry ⟨p, z, rfl, g, k.here sm rz⟩ hs
        · cases e
      · cases e

theorem Rels.cut {ws : List W} {vs : List V} (r : Rels G I φ ws vs) (lo hi : Option Int) : Rels G I φ (Tw.cut ws lo hi) (cutV vs lo hi) := by
  have e : ∀ n d o, Tw.sIx n d o = HT.sIx n d o := fun n d o => by cases o <;> rfl
  unfold Tw.cut cutV
  rw [r.length, e, e]
  exact (r.drop _).take _
def rSlice (G : Gx) (fr : Bool) (x : V) (lo hi : Option Int) (H : Hp) (Q : VK) : Prop :=
  ∃ I φ S a w, Sim G I φ S H ∧ Rel G I φ a x ∧ sliceSem S a lo hi = some w ∧ if fr then ∃ xs, w = .lst xs ∧ KF G I φ H S xs Q else KE G I φ H S w Q
theorem sliceSem_cases {a w : W} {lo hi : Option Int} (e : sliceSem S a lo hi = some w) : (∃ z, a = .str z ∧ z.length < LIM ∧ w = .str (Tw.cut z lo hi)) ∨ ∃ xs, (lstOf S a = some xs ∨ ∃ ns, a = .klst ns ∧ xs = ns.map .int) ∧ w = .lst (Tw.cut xs lo hi) := by
  unfold sliceSem at e
  split at e
  · split at e
    · rename_i hl
      cases e
      exact .inl ⟨_, rfl, hl, rfl⟩
    · cases e
  · cases e
    exact .inr ⟨_, .inr ⟨_, rfl, rfl⟩, rfl⟩
  · simp only [Option.map_eq_some_iff] at e
    obtain ⟨xs, h, rfl⟩ := e
    exact .inr ⟨xs, .inl h, rfl⟩
theorem cutS_eq (z : List Nat) (lo hi : Option Int) : cutS ⟨z.toArray⟩ lo hi = ⟨(Tw.cut z lo hi).toArray⟩ := by
  have e : ∀ n d o, Tw.sIx n d o = HT.sIx n d o := fun n d o => by cases o <;> rfl
  unfold cutS Tw.cut
  rw [e, e]
  simp [PySem.Str.length]
theorem sr_slice (hk : X.K = G.K) (fr : Bool) : SlR X (rSlice G fr) := by
  rintro pins s σ H x v vl vu lo hi sl Q J rx hs pl pu ⟨I, φ, S, a, w, sm, ra, e, k⟩
  rcases sliceSem_cases e with ⟨z, rfl, hl, rfl⟩ | ⟨xs, h, rfl⟩
  · cases fr with
    | true => obtain ⟨_, e, _⟩ := k; cases e
    | false =>
      obtain rfl : x = .str ⟨z.toArray⟩ := ra
      refine sl_str pins s σ H _ v vl vu lo hi sl Q J rx hs pl pu ⟨_, rfl, ?_, ?_⟩
      · show z.toArray.size ≤ sizeLine
        simpa using Nat.le_of_lt (lim_ok hl)
      · rw [cutS_eq]
        exact KE.here k sm rfl
  · have hh : ∃ a vs, x = .ref a ∧ SqL X.K H a vs ∧ Rels G I φ xs vs := by
      rcases h with h | ⟨ns, rfl, rfl⟩
      · exact lstRel (K := X.K) sm ra h
      · obtain ⟨p, hp, sq⟩ := ra
        exact ⟨p, _, hp, by rw [hk]; exact sm.same.seq sq, relsI ns⟩
    obtain ⟨p, vs, rfl, sq, rv⟩ := hh
    have kf : KF G I φ H S (Tw.cut xs lo hi) Q := by
      cases fr with
      | true => obtain ⟨_, e, k⟩ := k; cases e; exact k
      | false => exact KE.toKF k
    refine sl_list pins s σ H _ v vl vu lo hi sl Q J rx hs pl pu ⟨p, vs, rfl, sq, fun q hq => kf.here sm hq (rv.cut lo hi) ?_⟩
    have := cutV_length vs lo hi
    obtain ⟨_, rv', _, hz⟩ := J.list sq
    exact Nat.le_trans this hz

theorem or_len (hk : X.K = G.K) : CallR X (.builtin "len") (rOp G .len) := by
  rintro pins s σ H xs us Q J rs ⟨I, φ, S, ws, w, sm, rws, e0, k⟩
  match ws, e0 with
  | [a], e =>
    obtain ⟨x, xs', rfl, ra, rr⟩ := rws
    obtain rfl : xs' = [] := rr
    simp only [opSem, Option.map_eq_some_iff] at e
    obtain ⟨n, e, rfl⟩ := e
    unfold lenSem at e
    split at e
    · rename_i z
      split at e
      · rename_i hl
        cases e
        obtain rfl : x = .str ⟨z.toArray⟩ := ra
        refine call_len_str pins s σ H _ us Q J rs ⟨_, rfl, ?_, ?_⟩
        · show z.toArray.size ≤ sizeLine
          simpa using Nat.le_of_lt (lim_ok hl)
        · exact k.here sm (by show V.int _ = V.int _; simp [PySem.Str.length])
      · cases e
    · split at e
      · rename_i ys hq
        cases e
        obtain ⟨p, vs, rfl, sq, rv⟩ := seqRel (K := X.K) hk sm ra hq
        refine call_len_seq pins s σ H _ us Q J rs ⟨p, vs, rfl, sq, ?_⟩
        rw [rv.length]
        exact k.here sm rfl
      · simp only [Option.map_eq_some_iff] at e
        obtain ⟨⟨t, ks, vs⟩, hd, rfl⟩ := e
        cases t with
        | false =>
          obtain ⟨p, kvs, rfl, hp, rfl, _⟩ := dicRelK sm ra hd
          refine call_lenD pins s σ H _ us Q J rs ⟨p, kvs, rfl, hp, k.here sm ?_⟩
          show V.int _ = V.int _
          simp
        | true =>
          obtain ⟨p, kvs, rfl, hp, rfl, _⟩ := dicRelT sm ra hd
          refine call_len_dT pins s σ H _ us Q J rs ⟨p, kvs, rfl, hp, k.here sm ?_⟩
          show V.int _ = V.int _
          simp
theorem or_listF (hk : X.K = G.K) : CallR X (.type "list") (rFr G .list) := by
  rintro pins s σ H xs us Q J rs ⟨I, φ, S, ws, ys, sm, rws, e0, k⟩
  match ws, e0 with
  | [a], e =>
    obtain ⟨x, xs', rfl, ra, rr⟩ := rws
    obtain rfl : xs' = [] := rr
    simp only [opSem, Option.map_eq_some_iff] at e
    obtain ⟨zs, hq, e⟩ := e
    cases e
    obtain ⟨p, vs, rfl, sq, rv⟩ := seqRel (K := X.K) hk sm ra hq
    have hz : vs.length ≤ sizeLine := by
      rcases sq with sq | sq
      · exact (J.list sq).choose_spec.2.2
      · exact (J.tuple sq).choose_spec.2.2
    exact call_list_of pins s σ H _ us Q J rs ⟨p, vs, rfl, sq, fun l hl => k.here sm hl rv hz⟩
theorem fr_op {f : Value} {o : Op} (h : CallR X f (rFr G o)) (ho : ∀ ws S w, opSem o ws S = some w → ∃ xs, w = .lst xs) : CallR X f (rOp G o) := by
  rintro pins s σ H xs us Q J rs ⟨I, φ, S, ws, w, sm, rws, e, k⟩
  obtain ⟨ys, rfl⟩ := ho ws S w e
  exact h pins s σ H xs us Q J rs ⟨I, φ, S, ws, ys, sm, rws, e, k.toKF⟩
theorem or_tuple (hk : X.K = G.K) : CallR X (.type "tuple") (rOp G .tuple) := by
  rintro pins s σ H xs us Q J rs ⟨I, φ, S, ws, w, sm, rws, e0, k⟩
  match ws, e0 with
  | [a], e =>
    obtain ⟨x, xs', rfl, ra, rr⟩ := rws
    obtain rfl : xs' = [] := rr
    simp only [opSem, Option.map_eq_some_iff] at e
    obtain ⟨zs, hq, rfl⟩ := e
    cases a with
    | tup zs' =>
      cases hq
      obtain ⟨p, vs, rfl, hp, rv⟩ := ra
      exact call_tuple_of pins s σ H _ us Q J rs ⟨p, vs, rfl, .inr ⟨.inl (.inl (sm.same _ _ hp)), k.here sm ⟨p, vs, rfl, hp, rv⟩⟩⟩
    | lst zs' =>
      obtain ⟨p, vs, rfl, sq, rv⟩ := lstRel (K := X.K) sm ra hq
      exact call_tuple_of pins s σ H _ us Q J rs ⟨p, vs, rfl, .inl ⟨sq, fun l hl => k.tup sm hl rv⟩⟩
    | ref n =>
      have hq' : lstOf S (.ref n) = some zs := hq
      obtain ⟨p, vs, rfl, sq, rv⟩ := lstRel (K := X.K) sm ra hq'
      exact call_tuple_of pins s σ H _ us Q J rs ⟨p, vs, rfl, .inl ⟨sq, fun l hl => k.tup sm hl rv⟩⟩
    | klst ns =>
      obtain ⟨p, vs, rfl, sq, rv⟩ := seqRel (K := X.K) hk sm ra hq
      rcases sq with sq | sq
      · exact call_tuple_of pins s σ H _ us Q J rs ⟨p, vs, rfl, .inl ⟨sq, fun l hl => k.tup sm hl rv⟩⟩
      · obtain ⟨q, hq2, sq2⟩ := ra
        cases hq2
        cases hq
        have sq3 : SqL X.K H p (ns.map V.int) := by rw [hk]; exact sm.same.seq sq2
        exact call_tuple_of pins s σ H _ us Q J rs ⟨p, _, rfl, .inl ⟨sq3, fun l hl => k.tup sm hl (relsI ns)⟩⟩
    | _ => simp [seqOf] at hq
theorem digVal_eq (l : List Nat) : NumText.digitsVal l = digVal l := rfl
theorem strI_v (i : Int) : V.str (PySem.Str.ofString (toString i)) = V.str ⟨(strI i).toArray⟩ := by
  rw [PySem.Str.ofString_eq_toList]
  rfl
theorem or_str : CallR X (.type "str") (rOp G .str) := by
  rintro pins s σ H xs us Q J rs ⟨I, φ, S, ws, w, sm, rws, e0, k⟩
  match ws, e0 with
  | [.int i], e =>
    simp only [opSem] at e
    split at e
    · rename_i hc
      cases e
      obtain ⟨x, xs', rfl, ra, rr⟩ := rws
      obtain rfl : xs' = [] := rr
      obtain rfl := rel_int ra
      simp only [decide_eq_true_eq] at hc
      refine call_str_int pins s σ H _ us Q J rs ⟨i, rfl, ?_, ?_⟩
      · have : i.natAbs < 2 ^ 1920 := Nat.lt_trans hc (by decide)
        by_cases h0 : i.natAbs = 0
        · rw [h0]; decide
        · exact (Nat.log2_lt h0).mpr this
      · rw [strI_v]
        exact k.here sm rfl
    · cases e
theorem or_int : CallR X (.type "int") (rOp G .int) := by
  rintro pins s σ H xs us Q J rs ⟨I, φ, S, ws, w, sm, rws, e0, k⟩
  match ws, e0 with
  | [.int i], e =>
    cases e
    obtain ⟨x, xs', rfl, ra, rr⟩ := rws
    obtain rfl : xs' = [] := rr
    obtain rfl := rel_int ra
    exact call_int1 pins s σ H _ us Q J rs (.inl ⟨i, rfl, k.here sm rfl⟩)
  | [.bl b], e =>
    cases e
    obtain ⟨x, xs', rfl, ra, rr⟩ := rws
    obtain rfl : xs' = [] := rr
    obtain rfl : x = .bl b := ra
    exact call_int1 pins s σ H _ us Q J rs (.inr ⟨b, rfl, k.here sm rfl⟩)
  | [.str z], e =>
    simp only [opSem] at e
    split at e
    · rename_i hc
      cases e
      obtain ⟨x, xs', rfl, ra, rr⟩ := rws
      obtain rfl : xs' = [] := rr
      obtain rfl : x = .str ⟨z.toArray⟩ := ra
      simp only [Bool.and_eq_true, decide_eq_true_eq, List.all_eq_true, isDig] at hc
      obtain ⟨⟨h1, h2⟩, h3⟩ := hc
      refine call_int_str pins s σ H _ us Q J rs ⟨⟨z.toArray⟩, (digVal z : Nat), rfl, ?_, ?_, k.here sm rfl⟩
      · rw [intText_digits (x := ⟨z.toArray⟩) (fun c hc => h2 c (by simpa using hc)) (by simpa using h1) (by show z.toArray.size ≤ 4300; simp; omega), ← digVal_eq]
      · show z.toArray.size ≤ 640
        simp
        omega
    · cases e
theorem or_max (hc : X.calm = true) : CallR X (.builtin "max") (rOp G .max) := by
  rintro pins s σ H xs us Q J rs ⟨I, φ, S, ws, w, sm, rws, e0, k⟩
  match ws, e0 with
  | [.int i, .int j], e =>
    cases e
    obtain ⟨x, xs', rfl, ra, y, ys, rfl, rb, rr⟩ := rws
    obtain rfl : ys = [] := rr
    obtain rfl := rel_int ra
    obtain rfl := rel_int rb
    exact call_max2 hc pins s σ H _ us Q J rs ⟨i, j, rfl, k.here sm rfl⟩
theorem allBl_rel : ∀ {ws : List W} {vs : List V} {b : Bool}, Rels G I φ ws vs → allBl ws = some b → ∃ bs : List Bool, vs = bs.map V.bl ∧ b = bs.all id
  | [], _, _, r, e => by cases e; exact ⟨[], r, rfl⟩
  | w :: ws, _, _, ⟨x, xs, e1, h, r⟩, e => by
    cases w <;> first | (simp [allBl] at e; done) | skip
    rename_i b
    simp only [allBl, Option.map_eq_some_iff] at e
    obtain ⟨c, e2, rfl⟩ := e
    obtain ⟨bs, rfl, rfl⟩ := allBl_rel r e2
    obtain rfl : x = .bl b := h
    exact ⟨b :: bs, e1, rfl⟩
theorem or_all (hc : X.calm = true) : CallR X (.builtin "all") (rOp G .all) := by
  rintro pins s σ H xs us Q J rs ⟨I, φ, S, ws, w, sm, rws, e0, k⟩
  match ws, e0 with
  | [a], e =>
    obtain ⟨x, xs', rfl, ra, rr⟩ := rws
    obtain rfl : xs' = [] := rr
    simp only [opSem, Option.bind_eq_some_iff, Option.map_eq_some_iff] at e
    obtain ⟨zs, hq, b, hb, rfl⟩ := e
    obtain ⟨p, vs, rfl, sq, rv⟩ := lstRel (K := X.K) sm ra hq
    obtain ⟨bs, rfl, rfl⟩ := allBl_rel rv hb
    exact cr_all hc pins s σ H _ us Q J rs ⟨p, bs, rfl, sq, k.here sm rfl⟩
end Tw

namespace Tw
open PySem PySem.Spec PyProof.Rows L2

variable {G : Gx} {I I' I1 I2 H H' H1 H2 : Hp} {φ φ' φ1 φ2 : List Addr} {S S' : Sto} {K : PySem.W.Frag} {X : Cx}

mutual
theorem dat_sub (b : Bool) (g : Nat → Option W) : ∀ (n : Nat) (w : W), datW n w = true → sub false g w = some w
  | _, .non, _ => by simp [sub]
  | _, .bl _, _ => by simp [sub]
  | _, .int _, _ => by simp [sub]
  | _, .str _, _ => by simp [sub]
  | 0, .lst xs, h => by simp [datW] at h
  | 0, .tup xs, h => by simp [datW] at h
  | n + 1, .lst xs, h => by simp [datW] at h; simp [sub, dat_subL b g n xs h]
  | n + 1, .tup xs, h => by simp [datW] at h; simp [sub, dat_subL b g n xs h]
  | _, .dic _ _ _, h => by simp [datW] at h
  | _, .rcd _ _, h => by simp [datW] at h
  | _, .ref _, h => by simp [datW] at h
  | _, .exn _, h => by simp [datW] at h
theorem dat_subL (b : Bool) (g : Nat → Option W) : ∀ (n : Nat) (ws : List W), datL n ws = true → subL false g ws = some ws
  | _, [], _ => by simp [subL]
  | n, w :: ws, h => by
    simp only [datL, Bool.and_eq_true] at h
    simp [subL, dat_sub b g n w h.1, dat_subL b g n ws h.2]
end
theorem dat_dp (s : Sim G I φ S H) {n : Nat} {w : W} {v : V} (r : Rel G I φ w v) (h : datW n w = true) : Dp K H v (toD w) :=
  vw_dp s r (dat_sub false _ n w h) h
theorem datL_mem : ∀ {n : Nat} {ws : List W}, datL n ws = true → ∀ w ∈ ws, datW n w = true
  | _, [], _, _, h => by cases h
  | n, x :: xs, f, w, h => by
    simp only [datL, Bool.and_eq_true] at f
    rcases List.mem_cons.mp h with rfl | h
    · exact f.1
    · exact datL_mem f.2 w h
def RU (G : Gx) (I : Hp) (φ : List Addr) (u : Value) (w : W) : Prop := ∃ v, L2.RelV v u ∧ Rel G I φ w v
theorem each_of : ∀ {ws : List W} {vs : List V} {us : List Value}, Rels G I φ ws vs → Vals vs us → PySem.W.EachIs (RU G I φ) us ws
  | [], _, _, r, q => by rw [show _ = [] from r] at q; cases q; exact .nil
  | w :: ws, _, _, ⟨x, xs, e, h, r⟩, q => by
    subst e
    cases q with
    | cons q1 q2 => exact .cons ⟨x, q1, h⟩ (each_of r q2)
theorem of_each : ∀ {ws : List W} {us : List Value}, PySem.W.EachIs (RU G I φ) us ws → ∃ vs, Rels G I φ ws vs ∧ Vals vs us
  | _, _, .nil => ⟨[], rfl, .nil⟩
  | _, _, .cons ⟨v, q, h⟩ t => by
    obtain ⟨vs, r, q2⟩ := of_each t
    exact ⟨v :: vs, ⟨v, vs, rfl, h, r⟩, .cons q q2⟩
theorem sort_eq {xs : List W} (hd : datL 30 xs = true) (ha : (xs.all fun x => xs.all fun y => alikeW x y) = true) : xs.mergeSort (PySem.W.dataLe false toD) = sortW xs := by
  refine PySem.W.sort_congr fun a ha' b hb' => ?_
  simp only [List.all_eq_true] at ha
  rw [PySem.W.dataLe_eq]
  show (!PySem.W.dataLt (toD b) (toD a)) = !ltW b a
  rw [lt_toD 30 30 b a (datL_mem hd b hb') (datL_mem hd a ha') (ha b hb' a ha')]
theorem allInt_map : ∀ {ws : List W}, allInt ws = true → ∃ ns : List Int, ws = ns.map W.int
  | [], _ => ⟨[], rfl⟩
  | w :: ws, h => by
    cases w <;> first | (simp [allInt] at h; done) | skip
    rename_i i
    obtain ⟨ns, rfl⟩ := allInt_map (ws := ws) (by simpa [allInt] using h)
    exact ⟨i :: ns, rfl⟩
theorem rels_ints : ∀ {ns : List Int} {vs : List V}, Rels G I φ (ns.map W.int) vs → vs = ns.map V.int
  | [], _, r => r
  | n :: ns, _, ⟨x, xs, e, h, r⟩ => by
    obtain rfl : x = .int n := h
    rw [e, rels_ints r]
    rfl
theorem ints_rels : ∀ (ns : List Int), Rels G I φ (ns.map W.int) (ns.map V.int)
  | [] => rfl
  | n :: ns => ⟨.int n, _, rfl, rfl, ints_rels ns⟩
theorem sortW_ints (ns : List Int) : sortW (ns.map W.int) = (ns.mergeSort fun a b => decide (a ≤ b)).map W.int := by
  unfold sortW
  refine (PySem.W.sort_maps W.int fun a _ b _ => ?_).symm
  show decide (a ≤ b) = !ltW (.int b) (.int a)
  simp only [ltW]
  rw [Bool.eq_iff_iff]
  simp
theorem Sim.tupI {q : Addr} {us : List V} (s : Sim G I φ S H) (h : H q = some (.tup us)) : Sim G (upd I q (.tup us)) φ S H ∧ Ext I φ H (upd I q (.tup us)) φ H := by
  have sI : Same I (upd I q (.tup us)) := fun a o e => by
    by_cases z : a = q
    · rw [z] at e ⊢
      have := s.same _ _ e
      rw [h] at this
      cases this
      exact upd_same
    · rw [upd_ne z]; exact e
  refine ⟨⟨fun a o e => ?_, s.len, s.nd, fun k a o h1 h2 h3 => ?_, s.old, fun k a o h1 h2 => (s.cell k a o h1 h2).mono sI (Pre.refl _) fun _ q => q⟩, ⟨sI, ⟨[], by simp, by simp⟩, fun _ _ _ e => e, fun _ e => e, fun a e => ?_⟩⟩
  · by_cases z : a = q
    · rw [z, upd_same] at e; cases e; rw [z]; exact h
    · rw [upd_ne z] at e; exact s.same a o e
  · have ne : a ≠ q := fun z => by
      have c := s.cell k a o h1 h2
      rw [z] at c
      cases o with
      | lst ws => obtain ⟨vs, q, r⟩ := c; rw [h] at q; cases q
      | dic t ks vs =>
        cases t with
        | false => obtain ⟨kvs, q, k', r⟩ := c; rw [h] at q; cases q
        | true => obtain ⟨kvs, q, k', r⟩ := c; rw [h] at q; cases q
      | ins c' ws => obtain ⟨dx, fs, q, k', r⟩ := c; rw [h] at q; cases q
      | dead => exact h3 rfl
    rw [upd_ne ne]
    exact s.out k a o h1 h2 h3
  · by_cases z : a = q
    · exact .inr (.inr (.inr ⟨us, z ▸ h⟩))
    · rw [upd_ne z] at e; exact .inl e

theorem rels_key : ∀ (k : List Key), Rels G I φ (k.map kW) (k.map kV)
  | [] => rfl
  | .inl i :: r => ⟨_, _, rfl, rfl, rels_key r⟩
  | .inr x :: r => ⟨_, _, rfl, by show V.str x = V.str _; simp, rels_key r⟩
theorem sorted_src {P : Program} {w : World} {A : Around} {E : Value → Shared → Prop} {s : Shared} {T : String} {r d : Addr} {n : Nat} {Pj : Nat → Value → Prop} {OK : Heap → Prop} {Q : Value → Shared → Prop} (K : PySem.W.KdlSrc P w T r d n Pj OK) (hh : A.handled = none) (hok : OK s.heap) (hn : n ≤ sizeLine)
    (h : ∀ (h' : Heap) (tk : Nat) (vs : List Value), (∀ b o, s.heap.get? b = some o → h'.get? b = some o) → vs.length = n → (∀ (j : Nat) (v : Value), vs[j]? = some v → Pj j v) →
      wpAny (model P w) A.in1 (call (.builtin "list.sort") [.ref h'.objs.size]) (fun _ s' => Q (.ref h'.objs.size) s') E { s with heap := h'.push { cls := .type "list", data := .seq vs.toArray }, toks := tk }) :
    wpAny (model P w) A (call (.builtin "sorted") [.ref r]) Q E s := by
  refine Calls.call_function_entry kind_sorted plain_sorted entry_sorted (args_sorted1 _) ?_
  unfold Builtin.«sorted»
  refine wpAny_bind (m := checkCount "sorted" 1 1 _) (wpAny_pure ?_)
  refine wpAny_bind (PySem.W.kdu_collect (A := A.in1) K hh hok hn fun h' tk acc hk hacc => ?_)
  have hl : acc.toList.length = n := by rw [Array.length_toList]; exact hacc.1
  refine wpAny_bind (wpAny_newList ?_ (by rw [hl]; exact hn))
  have hg := h h' tk acc.toList hk hl (fun j v e => hacc.2 j v (by rw [← Array.getElem?_toList]; exact e))
  refine wpAny_bind (wpAny_holding (wpAny_mono hg (fun _ s' x => ?_) fun _ _ e => e))
  exact wpAny_pure ⟨_, rfl, x⟩
theorem tupsI {kvs : List (List Key × V)} {xs : List (List Key × Addr × Value)} (r : KT H kvs xs) : ∀ {I : Hp}, Sim G I φ S H → ∃ I', Sim G I' φ S H ∧ Ext I φ H I' φ H ∧ ∀ x ∈ xs, I' x.2.1 = some (.tup (x.1.map kV)) := by
  induction r with
  | nil => intro I s; exact ⟨I, s, Ext.refl _ _ _, fun x hx => nomatch hx⟩
  | @cons p q ps qs h t ih =>
    intro I s
    have hq : H q.2.1 = some (.tup (q.1.map kV)) := by rw [← h.1]; exact h.2.1
    obtain ⟨s1, e1⟩ := Sim.tupI s hq
    obtain ⟨I', s2, e2, g⟩ := ih s1
    refine ⟨I', s2, e1.trans e2, fun x hx => ?_⟩
    rcases List.mem_cons.mp hx with z | z
    · rw [z]; exact e2.same _ _ upd_same
    · exact g x z
theorem keys_rel {kvs : List (List Key × V)} {xs : List (List Key × Addr × Value)} (r : KT H kvs xs) (hI : ∀ x ∈ xs, I x.2.1 = some (.tup (x.1.map kV))) : Rels G I φ (kvs.map fun p => .tup (p.1.map kW)) (xs.map fun x => V.ref x.2.1) := by
  induction r with
  | nil => rfl
  | @cons p q ps qs h t ih =>
    refine ⟨_, _, rfl, ⟨q.2.1, _, rfl, hI q (by simp), ?_⟩, ih fun x hx => hI x (by simp [hx])⟩
    rw [h.1]
    exact rels_key _
theorem keys_vals : ∀ {xs : List (List Key × Addr × Value)} {us : List Value}, us.length = xs.length → (∀ (j : Nat) (v : Value), us[j]? = some v → ∃ x, xs[j]? = some x ∧ v = .ref x.2.1) → Vals (xs.map fun x => V.ref x.2.1) us
  | [], [], _, _ => .nil
  | [], _ :: _, h, _ => by simp at h
  | _ :: _, [], h, _ => by simp at h
  | x :: xs, u :: us, h, g => by
    obtain ⟨y, hy, rfl⟩ := g 0 u rfl
    cases hy
    exact .cons rfl (keys_vals (by simpa using h) fun j v e => g (j + 1) v (by simpa using e))
mutual
theorem toD_inj : ∀ (n m : Nat) (x y : W), datW n x = true → datW m y = true → toD x = toD y → x = y
  | _, _, .non, y, _, h, e => by cases y <;> simp_all [toD, datW]
  | _, _, .bl _, y, _, h, e => by cases y <;> simp_all [toD]
  | _, _, .int _, y, _, h, e => by cases y <;> simp_all [toD]
  | _, _, .str a, y, _, h, e => by
    cases y <;> simp_all [toD]
  | 0, _, .lst xs, _, h, _, _ => by simp [datW] at h
  | 0, _, .tup xs, _, h, _, _ => by simp [datW] at h
  | n + 1, 0, .lst xs, y, h, h', e => by cases y <;> simp_all [toD, datW]
  | n + 1, 0, .tup xs, y, h, h', e => by cases y <;> simp_all [toD, datW]
  | n + 1, m + 1, .lst xs, y, h, h', e => by
    cases y <;> first | (simp [toD] at e; done) | skip
    rename_i ys
    simp only [toD, PyData.list.injEq] at e
    simp only [datW] at h h'
    rw [toDs_inj n m xs ys h h' e]
  | n + 1, m + 1, .tup xs, y, h, h', e => by
    cases y <;> first | (simp [toD] at e; done) | skip
    rename_i ys
    simp only [toD, PyData.tuple.injEq] at e
    simp only [datW] at h h'
    rw [toDs_inj n m xs ys h h' e]
  | _, _, .dic _ _ _, _, h, _, _ => by simp [datW] at h
  | _, _, .rcd _ _, _, h, _, _ => by simp [datW] at h
  | _, _, .ref _, _, h, _, _ => by simp [datW] at h
  | _, _, .exn _, _, h, _, _ => by simp [datW] at h
  | _, _, .klst _, _, h, _, _ => by simp [datW] at h
theorem toDs_inj : ∀ (n m : Nat) (xs ys : List W), datL n xs = true → datL m ys = true → toDs xs = toDs ys → xs = ys
  | _, _, [], ys, _, _, e => by cases ys <;> simp_all [toDs]
  | _, _, x :: xs, [], _, _, e => by simp [toDs] at e
  | n, m, x :: xs, y :: ys, h, h', e => by
    simp only [datL, Bool.and_eq_true] at h h'
    simp only [toDs, List.cons.injEq] at e
    rw [toD_inj n m x y h.1 h'.1 e.1, toDs_inj n m xs ys h.2 h'.2 e.2]
end
theorem minW_mem : ∀ (ws : List W) (w : W), minW w ws ∈ w :: ws
  | [], w => by simp [minW]
  | y :: ys, w => by
    have h : minW w (y :: ys) = minW (if ltW y w = true then y else w) ys := rfl
    rw [h]
    have := minW_mem ys (if ltW y w = true then y else w)
    rcases List.mem_cons.mp this with q | q
    · rw [q]; split <;> simp
    · simp [q]
theorem minW_toD : ∀ (ws : List W) (w : W), (∀ x ∈ w :: ws, datW 30 x = true) → (∀ x ∈ w :: ws, ∀ y ∈ w :: ws, alikeW x y = true) → PySem.W.minD (toD w) (toDs ws) = toD (minW w ws)
  | [], _, _, _ => rfl
  | y :: ys, w, hd, ha => by
    have e : PySem.W.dataLt (toD y) (toD w) = ltW y w := lt_toD 30 30 y w (hd y (by simp)) (hd w (by simp)) (ha y (by simp) w (by simp))
    have h : minW w (y :: ys) = minW (if ltW y w = true then y else w) ys := rfl
    have h2 : PySem.W.minD (toD w) (toDs (y :: ys)) = PySem.W.minD (if PySem.W.dataLt (toD y) (toD w) = true then toD y else toD w) (toDs ys) := rfl
    have sub : ∀ x, x ∈ (if ltW y w = true then y else w) :: ys → x ∈ w :: y :: ys := fun x hx => by
      rcases List.mem_cons.mp hx with q | q
      · rw [q]; split <;> simp
      · simp [q]
    rw [h, h2, e, ← minW_toD ys _ (fun x hx => hd x (sub x hx)) (fun x hx y hy => ha x (sub x hx) y (sub y hy))]
    split <;> rfl
theorem or_minF (hc : X.calm = true) (hu : X.A.units + 64 < cLine) : CallR X (.builtin "min") (rOp G .min) := by
  rintro pins s σ H xs us Q J rs ⟨I, φ, S, ws, w, sm, rws, e0, k⟩
  match ws, e0 with
  | [.int i, .int j], e =>
    cases e
    obtain ⟨x, xs', rfl, ra, y, ys, rfl, rb, rr⟩ := rws
    obtain rfl : ys = [] := rr
    obtain rfl := rel_int ra
    obtain rfl := rel_int rb
    exact call_min2 hc pins s σ H _ us Q J rs ⟨i, j, rfl, k.here sm rfl⟩
  | [a], e =>
    obtain ⟨x, xs', rfl, ra, rr⟩ := rws
    obtain rfl : xs' = [] := rr
    have e : minSem S a = some w := by rw [← e]; simp [opSem]
    unfold minSem at e
    split at e
    · rename_i w0 ws' hq
      split at e
      · rename_i hcond
        cases e
        simp only [Bool.and_eq_true, decide_eq_true_eq] at hcond
        obtain ⟨⟨⟨hd, ha⟩, hn⟩, hl⟩ := hcond
        obtain ⟨p, vs, rfl, sq, rv⟩ := lstRel (K := X.K) sm ra hq
        obtain ⟨its, rvl, pl, hz⟩ := J.list sq
        obtain ⟨u, rfl, ru⟩ := vals1 rs
        obtain rfl : u = Value.ref p := ru
        have hdm := datL_mem hd
        have ham : ∀ x ∈ w0 :: ws', ∀ y ∈ w0 :: ws', alikeW x y = true := fun x hx y hy => by
          simp only [List.all_eq_true] at ha
          exact ha x hx y hy
        have rAll : ∀ (ws : List W) (vs : List V) (its : List Value), datL 30 ws = true → Rels G I φ ws vs → Vals vs its → ∃ as, ReadsAll s.heap its (toDs ws) as ∧ ∀ (i : Nat) (v : Value), its[i]? = some v → ∃ wi xi as, ws[i]? = some wi ∧ L2.RelV xi v ∧ Rel G I φ wi xi ∧ Reads s.heap v (toD wi) as := by
          intro ws
          induction ws with
          | nil => intro vs its _ r q; rw [show vs = [] from r] at q; cases q; exact ⟨[], .nil, fun i v h => by simp at h⟩
          | cons w ws ih =>
            intro vs its hd r q
            obtain ⟨x, xs, e, h, r⟩ := r
            subst e
            simp only [datL, Bool.and_eq_true] at hd
            cases q with
            | cons q1 q2 =>
              obtain ⟨as1, r1⟩ := Dp.reads J _ x _ (dat_dp sm h hd.1) q1
              obtain ⟨as2, r2, r3⟩ := ih _ _ hd.2 r q2
              refine ⟨_, .cons r1 r2, fun i v hv => ?_⟩
              cases i with
              | zero => cases hv; exact ⟨w, x, as1, rfl, q1, h, r1⟩
              | succ i => exact r3 i v (by simpa using hv)
        obtain ⟨as, hr, hat⟩ := rAll (w0 :: ws') vs its hd rv rvl
        have dep : ∀ ws : List W, datL 30 ws = true → PyData.depthAll (toDs ws) ≤ 30 := by
          intro ws
          induction ws with
          | nil => intro _; simp [toDs, PyData.depthAll]
          | cons w ws ih =>
            intro hd
            simp only [datL, Bool.and_eq_true] at hd
            have h1 := (dat_lay 30 w hd.1).2
            have h2 := ih hd.2
            simp only [toDs, PyData.depthAll]
            omega
        have hdep := dep _ hd
        refine PySem.W.min_list_data (J.ok.hd hc) pl.isList (x := toD w0) (xs := toDs ws') (as := as) (by simpa [toDs] using hr) ⟨fun d hd1 d' hd2 => ?_, fun d hd1 => ?_⟩ ?_ fun i v h' tk bs hv hrd hk => ?_
        · rw [show toD w0 :: toDs ws' = toDs (w0 :: ws') from rfl, toDs_map] at hd1 hd2
          obtain ⟨b, hb, rfl⟩ := List.mem_map.mp hd1
          obtain ⟨b', hb', rfl⟩ := List.mem_map.mp hd2
          exact alike_toD _ _ (ham b hb b' hb')
        · rw [show toD w0 :: toDs ws' = toDs (w0 :: ws') from rfl, toDs_map] at hd1
          obtain ⟨b, hb, rfl⟩ := List.mem_map.mp hd1
          have h1 := List.all_eq_true.mp hn b hb
          have h2 := hdm b hb
          cases b <;> simp_all [notNone, toD, datW]
        · rw [show toD w0 :: toDs ws' = toDs (w0 :: ws') from rfl]
          omega
        · obtain ⟨wi, xi, as', a1, a2, a3, a4⟩ := hat i v (by simpa using hv)
          have e1 := (reads_det (fun b o e _ => hk b o e) a4 hrd).1
          rw [minW_toD ws' w0 hdm ham] at e1
          have wm : wi ∈ w0 :: ws' := List.mem_of_getElem? a1
          have e2 := toD_inj 30 30 _ _ (hdm _ (minW_mem ws' w0)) (hdm _ wm) e1
          rw [e2] at k
          exact ⟨xi, H, J.kept hk, a2, k.here sm a3⟩
      · cases e
    · cases e
theorem or_sortedF (hc : X.calm = true) (hu : X.A.units + 64 < cLine) : CallR X (.builtin "sorted") (rFr G .sorted) := by
  rintro pins s σ H xs us Q J rs ⟨I, φ, S, ws, ys, sm, rws, e0, k⟩
  match ws, e0 with
  | [a], e =>
    obtain ⟨x, xs', rfl, ra, rr⟩ := rws
    obtain rfl : xs' = [] := rr
    simp only [opSem, Option.map_eq_some_iff] at e
    obtain ⟨zs, e, ez⟩ := e
    cases ez
    unfold sortedSem at e
    split at e
    · rename_i ws' hq
      split at e
      · rename_i hcond
        cases e
        simp only [Bool.and_eq_true, decide_eq_true_eq] at hcond
        obtain ⟨⟨hd, hs⟩, hl⟩ := hcond
        simp only [sortOk, Bool.and_eq_true] at hs
        obtain ⟨ha, hs⟩ := hs
        obtain ⟨p, vs, rfl, sq, rv⟩ := lstRel (K := X.K) sm ra hq
        obtain ⟨its, rvl, pl, hz⟩ := J.list sq
        obtain ⟨u, rfl, ru⟩ := vals1 rs
        obtain rfl : u = Value.ref p := ru
        have hlen := rv.length
        have hd' := hd
        refine PySem.W.sorted_data (β := W) (enc := toD) (bs := ws') (R := RU G I φ) pl.isList (each_of rv rvl) ?_ ?_ ?_ ?_ ?_ ?_
        · have : ∀ (ws : List W) (vs : List V) (its : List Value), datL 30 ws = true → Rels G I φ ws vs → Vals vs its → PySem.W.EachIs (fun v b => ∃ as, Reads s.heap v (toD b) as) its ws := by
            intro ws
            induction ws with
            | nil => intro vs its _ r q; rw [show vs = [] from r] at q; cases q; exact .nil
            | cons w ws ih =>
              intro vs its hd r q
              obtain ⟨x, xs, e, h, r⟩ := r
              subst e
              simp only [datL, Bool.and_eq_true] at hd
              cases q with
              | cons q1 q2 => exact .cons (Dp.reads J _ x _ (dat_dp sm h hd.1) q1) (ih _ _ hd.2 r q2)
          exact this ws' vs its hd rv rvl
        · intro d hd1 d' hd2
          obtain ⟨b, hb, rfl⟩ := List.mem_map.mp hd1
          obtain ⟨b', hb', rfl⟩ := List.mem_map.mp hd2
          simp only [List.all_eq_true] at ha
          exact alike_toD _ _ (ha b hb b' hb')
        · simp only [Bool.or_eq_true, List.all_eq_true] at hs
          rcases hs with hs | hs
          · refine .inl fun d hd1 => ?_
            obtain ⟨b, hb, rfl⟩ := List.mem_map.mp hd1
            have := hs b hb
            cases b <;> first | (simp [isTup1] at this; done) | skip
            rename_i l
            cases l with
            | nil => simp [isTup1] at this
            | cons y l => exact ⟨toD y, toDs l, by simp [toD, toDs]⟩
          · refine .inr fun d hd1 => ?_
            obtain ⟨b, hb, rfl⟩ := List.mem_map.mp hd1
            have h1 := hs b hb
            have h2 := datL_mem hd' b hb
            cases b <;> simp_all [notNone, isTup, toD, datW]
        · exact Nat.le_of_lt (lim_ok hl)
        · intro b hb
          have := (dat_lay 30 b (datL_mem hd b hb)).2
          omega
        · intro out ho hout
          rw [sort_eq hd ha] at hout
          obtain ⟨vs', r', q'⟩ := of_each hout
          have hl' := q'.length
          have kp : ∀ b o, s.heap.get? b = some o → (sortedAll s.heap its out.toArray).get? b = some o := fun b o e => sortedAll_old e
          obtain ⟨n, hn⟩ := sortedAll_at s.heap its out.toArray
          have hf : H (s.heap.objs.size + 1) = none := J.hok.fresh (Nat.le_succ _)
          have hle : vs'.length ≤ sizeLine := by rw [hl', ho]; exact Nat.le_of_lt (lim_ok hl)
          exact ⟨.ref (s.heap.objs.size + 1), _, J.laid (t' := s.toks) (o := .lst vs') kp (Nat.le_succ _) ⟨hle, out, n, q', hn⟩, rfl, k.here sm hf r' hle⟩
      · cases e
    · split at e
      · rename_i ks vs hd
        split at e
        · rename_i hcond
          cases e
          simp only [Bool.and_eq_true, decide_eq_true_eq] at hcond
          obtain ⟨hi, hl⟩ := hcond
          obtain ⟨p, kvs, rfl, hp, hks, _⟩ := dicRelK sm ra hd
          obtain ⟨ns, rfl⟩ := allInt_map hi
          have hk : kvs.map (·.1) = ns.map Sum.inl := by
            have : ∀ (kvs : List (Key × V)) (ns : List Int), ns.map W.int = kvs.map (fun p => kW p.1) → kvs.map (·.1) = ns.map Sum.inl := by
              intro kvs
              induction kvs with
              | nil => intro ns h; cases ns with
                | nil => rfl
                | cons _ _ => simp at h
              | cons p kvs ih =>
                intro ns h
                cases ns with
                | nil => simp at h
                | cons n ns =>
                  simp only [List.map_cons, List.cons.injEq] at h ⊢
                  refine ⟨?_, ih ns h.2⟩
                  cases hp : p.1 with
                  | inl i => rw [hp] at h; simp only [kW, W.int.injEq] at h; rw [h.1]
                  | inr x => rw [hp] at h; simp [kW] at h
            exact this kvs ns hks
          refine call_sortedDI hc pins s σ H _ us Q J rs ⟨p, kvs, ns, rfl, .inl hp, hk, by simpa using hl, fun ys q hpm hpw hq => ?_⟩
          have hys : ys = ns.mergeSort fun a b => decide (a ≤ b) := by
            refine PySem.W.ksm_same (hpm.trans (List.mergeSort_perm ns _).symm) hpw ?_
            have := List.pairwise_mergeSort (le := fun (a b : Int) => decide (a ≤ b)) (by intro a b c h1 h2; simp at *; omega) (by intro a b; simp; omega) ns
            exact this.imp fun h => by simpa using h
          rw [sortW_ints, ← hys] at k
          exact k.here sm hq (ints_rels ys) (by
            have := hpm.length_eq
            have hl2 : ns.length < 64 := by simpa using hl
            rw [List.length_map, this, sizeLine_eq]
            omega)
        · cases e
      · rename_i ks vs hd
        split at e
        · rename_i hcond
          cases e
          simp only [Bool.and_eq_true, decide_eq_true_eq] at hcond
          obtain ⟨⟨hdl, hs⟩, hl⟩ := hcond
          simp only [sortOk, Bool.and_eq_true] at hs
          obtain ⟨ha, hs⟩ := hs
          obtain ⟨p, kvs, rfl, hp, hks, _⟩ := dicRelT sm ra hd
          obtain ⟨hz, hsys, xs, kt, o, es, ep, ho, hx, hdt, hes, _, _⟩ := dt_of J.hok hp
          obtain ⟨I', sm', e', hI⟩ := tupsI kt sm
          have rk := keys_rel (G := G) (φ := φ) kt hI
          rw [← hks] at rk
          obtain ⟨u, rfl, ru⟩ := vals1 rs
          obtain rfl : u = Value.ref p := ru
          have lk : kvs.length = xs.length := Paired.length kt
          have lks : ks.length = xs.length := by rw [hks, List.length_map, lk]
          have les : es.size = xs.length := size_of_entries hes
          have hraw : s.heap.DictRaw p es ep := ⟨o, ho, hx, hdt⟩
          refine sorted_src (PySem.KdlSrc.rawDict hsys) (J.ok.hd hc) hraw (by omega) fun h' tk us hk hlu hP => ?_
          have uv : Vals (xs.map fun x => V.ref x.2.1) us := keys_vals (by omega) fun j v ev => by
            obtain ⟨hi, e1⟩ := hP j v ev
            have e2 := entry_at hes j
            rw [Array.getElem?_eq_getElem hi] at e2
            cases hx : xs[j]? with
            | none => rw [hx] at e2; cases e2
            | some x =>
              rw [hx] at e2
              refine ⟨x, rfl, ?_⟩
              injection e2 with e2
              rw [e1, e2]
              rfl
          have hda := datL_mem hdl
          refine PySem.W.list_sort_data (β := W) (enc := toD) (bs := ks) (vs := us) (R := RU G I' φ) (n := 0) (Heap.get?_push_size _ rfl) (each_of rk uv) ?_ ?_ ?_ ?_ ?_ ?_
          · have : ∀ (ws : List W) (vs : List V) (its : List Value), datL 30 ws = true → Rels G I' φ ws vs → Vals vs its → PySem.W.EachIs (fun v b => ∃ as, Reads (h'.push { cls := .type "list", data := .seq us.toArray }) v (toD b) as ∧ h'.objs.size ∉ as) its ws := by
              intro ws
              induction ws with
              | nil => intro vs its _ r q; rw [show vs = [] from r] at q; cases q; exact .nil
              | cons w ws ih =>
                intro vs its hd r q
                obtain ⟨x, xs, e, h, r⟩ := r
                subst e
                simp only [datL, Bool.and_eq_true] at hd
                cases q with
                | cons q1 q2 =>
                  refine .cons ?_ (ih _ _ hd.2 r q2)
                  obtain ⟨as, ra⟩ := Dp.reads J _ x _ (dat_dp sm' h hd.1) q1
                  refine ⟨as, PyProof.Rows.Reads.keeps (fun b o e => Heap.get?_push_of_some _ (hk b o e)) ra, fun hm => ?_⟩
                  obtain ⟨o, ho⟩ := PyProof.On.reads_mem_get ra _ hm
                  exact absurd (Heap.lt_size (hk _ _ ho)) (Nat.lt_irrefl _)
            exact this ks _ us hdl rk uv
          · intro d hd1 d' hd2
            obtain ⟨b, hb, rfl⟩ := List.mem_map.mp hd1
            obtain ⟨b', hb', rfl⟩ := List.mem_map.mp hd2
            simp only [List.all_eq_true] at ha
            exact alike_toD _ _ (ha b hb b' hb')
          · simp only [Bool.or_eq_true, List.all_eq_true] at hs
            rcases hs with hs | hs
            · refine .inl fun d hd1 => ?_
              obtain ⟨b, hb, rfl⟩ := List.mem_map.mp hd1
              have := hs b hb
              cases b <;> first | (simp [isTup1] at this; done) | skip
              rename_i l
              cases l with
              | nil => simp [isTup1] at this
              | cons y l => exact ⟨toD y, toDs l, by simp [toD, toDs]⟩
            · refine .inr fun d hd1 => ?_
              obtain ⟨b, hb, rfl⟩ := List.mem_map.mp hd1
              have h1 := hs b hb
              have h2 := datL_mem hdl b hb
              cases b <;> simp_all [notNone, isTup, toD, datW]
          · exact Nat.le_of_lt (lim_ok hl)
          · intro b hb
            have := (dat_lay 30 b (datL_mem hdl b hb)).2
            show X.A.in1.units + 1 + _ < cLine
            have : X.A.in1.units = X.A.units + 1 := rfl
            omega
          · intro out ho hout
            rw [sort_eq hdl ha] at hout
            obtain ⟨vs', r', q'⟩ := of_each hout
            have hl' := q'.length
            have hle : vs'.length ≤ sizeLine := by rw [hl', ho]; exact Nat.le_of_lt (lim_ok hl)
            have J1 : Inv X pins σ H { s with heap := h', toks := tk } := J.kept hk
            have hoL : (h'.push (seqObj "list" us.toArray 0)).get? h'.objs.size = some (seqObj "list" us.toArray 0) := Heap.get?_push_size _ rfl
            obtain ⟨n, hn⟩ := PyProof.Rows.sortedHeap_at (vs := us) (out := out.toArray) hoL
            have hf : H h'.objs.size = none := J1.hok.fresh (Nat.le_refl _)
            have kp : ∀ b o, h'.get? b = some o → (sortedHeap (h'.push (seqObj "list" us.toArray 0)) h'.objs.size us out.toArray).get? b = some o := fun b o e => by
              have hb : b < h'.objs.size := Heap.lt_size e
              rw [PyProof.Rows.sortedHeap_old (Nat.ne_of_lt hb) (by rw [size_push']; exact Nat.lt_succ_of_lt hb)]
              exact Heap.get?_push_of_some _ e
            exact ⟨.ref h'.objs.size, _, J1.laid (t' := tk) (o := .lst vs') kp (Nat.le_refl _) ⟨hle, out, n, q', hn⟩, rfl, k _ _ _ _ _ e' sm' hf r' hle⟩
        · cases e
      · cases e

theorem or_index (hu : X.A.units + 65 < cLine) : MtR X "list.index" (fun x xs => rOp G .mIndex (x :: xs)) := by
  rintro pins s σ H x xs v us Q J rx rxs ⟨I, φ, S, ws, w, sm, rws, e0, k⟩
  match ws, e0 with
  | [a, b], e =>
    obtain ⟨x, xs', e1, ra, y, ys, rfl, rb, rr⟩ := rws
    obtain rfl : ys = [] := rr
    cases e1
    simp only [opSem, Option.map_eq_some_iff] at e
    obtain ⟨j, e, rfl⟩ := e
    unfold indexSem at e
    split at e
    · rename_i zs hq
      simp only [Option.bind_eq_some_iff] at e
      obtain ⟨y', h1, zs', h2, e⟩ := e
      split at e
      · rename_i hc
        simp only [Bool.and_eq_true] at hc
        obtain ⟨p, vs, rfl, sq, rv⟩ := lstRel (K := X.K) sm ra hq
        rw [List.findIdx?_eq_some_iff_getElem] at e
        obtain ⟨hj, hz, hno⟩ := e
        have get : ∀ m (hm : m < zs'.length), (toDs zs')[m]? = some (toD zs'[m]) := fun m hm => by rw [toDs_map, List.getElem?_map, List.getElem?_eq_getElem hm]; rfl
        have eqv' : ∀ m (hm : m < zs'.length), PyData.eqv (toD zs'[m]) (toD y') = eqW zs'[m] y' := fun m hm => eqW_eqv 30 30 _ _ (datL_mem hc.2 _ (List.getElem_mem hm)) hc.1
        refine mt_indexD hu pins s σ H _ _ v us Q J rx rxs ⟨p, y, toD y', toDs zs', j, toD zs'[j], rfl, rfl, .lst sq (vws_dp sm rv h2 hc.2), vw_dp sm rb h1 hc.1, datL_shaped hc.2, dat_shaped hc.1, get j hj, ?_, ?_, k.here sm rfl⟩
        · rw [eqv' j hj]; exact hz
        · intro m z' hm hz'
          have hmz : m < zs'.length := Nat.lt_trans hm hj
          rw [get m hmz] at hz'
          cases hz'
          rw [eqv' m hmz]
          simpa using hno m hm
      · cases e
    · cases e
theorem or_count : MtR X "list.count" (fun x xs => rOp G .mCount (x :: xs)) := by
  rintro pins s σ H x xs v us Q J rx rxs ⟨I, φ, S, ws, w, sm, rws, e0, k⟩
  match ws, e0 with
  | [a, b], e =>
    obtain ⟨x, xs', e1, ra, y, ys, rfl, rb, rr⟩ := rws
    obtain rfl : ys = [] := rr
    cases e1
    simp only [opSem, Option.map_eq_some_iff] at e
    obtain ⟨j, e, rfl⟩ := e
    unfold countSem at e
    split at e
    · rename_i zs hq
      split at e
      · rename_i hc
        cases e
        simp only [Bool.and_eq_true] at hc
        obtain ⟨p, vs, rfl, sq, rv⟩ := lstRel (K := X.K) sm ra hq
        obtain ⟨ns, rfl⟩ := allInt_map hc.2
        have hb := hc.1
        cases b <;> first | (simp [isInt] at hb; done) | skip
        rename_i i
        obtain rfl := rel_int rb
        have := rels_ints rv
        subst this
        refine mt_lcount pins s σ H _ _ v us Q J rx rxs ⟨p, ns, i, rfl, rfl, sq, k.here sm ?_⟩
        show V.int _ = V.int _
        congr 1
        have : ∀ ns : List Int, List.countP (fun z => eqW z (.int i)) (ns.map W.int) = ns.count i := by
          intro ns
          rw [List.countP_map, List.count]
          congr 1
        exact congrArg Int.ofNat (this ns).symm
      · cases e
    · cases e

theorem isi_ty {w : W} {v : V} {t : IsT} {b : Bool} (s : Sim G I φ S H) (r : Rel G I φ w v) (e : isiOp t w S = some b) :
    ∃ (T : String) (C : String), TyX K H v (.type T) ∧ kitB T C = some b ∧ (match t with | .int => C = "int" | .bool => C = "bool" | .str => C = "str" | .list => C = "list" | .tuple => C = "tuple" | .cls _ => False) := by
  cases t <;> cases w <;> first | (simp [isiOp] at e; done) | skip
  all_goals first
    | (cases e; rw [show v = _ from r]; first
        | exact ⟨"int", _, .base (.int _), by decide +kernel, rfl⟩
        | exact ⟨"bool", _, .base (.bl _), by decide +kernel, rfl⟩
        | exact ⟨"str", _, .base (.str _), by decide +kernel, rfl⟩)
    | (cases e; obtain ⟨a, vs, rfl, ha, _⟩ := r; first
        | exact ⟨"tuple", _, .base (.tup (s.same _ _ ha)), by decide +kernel, rfl⟩
        | exact ⟨"list", _, .base (.lst (s.same _ _ ha)), by decide +kernel, rfl⟩)
    | (rename_i n
       obtain ⟨a, rfl, ha⟩ := r
       simp only [isiOp] at e
       split at e
       · rename_i xs hS
         cases e
         obtain ⟨vs, h1, _⟩ := s.cell n a _ ha hS
         exact ⟨"list", _, .base (.lst h1), by decide +kernel, rfl⟩
       · cases e)

theorem rels_one {v : List V} {w : W} (h : Rels G I φ [w] v) : ∃ y, v = [y] ∧ Rel G I φ w y := by
  obtain ⟨y, ys, rfl, ry, rr⟩ := h
  obtain rfl : ys = [] := rr
  exact ⟨y, rfl, ry⟩
theorem rels_two {v : List V} {w w' : W} (h : Rels G I φ [w, w'] v) : ∃ y y', v = [y, y'] ∧ Rel G I φ w y ∧ Rel G I φ w' y' := by
  obtain ⟨y, ys, rfl, ry, rr⟩ := h
  obtain ⟨y', rfl, ry'⟩ := rels_one rr
  exact ⟨y, y', rfl, ry, ry'⟩
def rEff (G : Gx) (o : Eff) (vs : List V) (H : Hp) (Q : VK) : Prop :=
  ∃ I φ S ws w S', Sim G I φ S H ∧ Rels G I φ ws vs ∧ effSem o ws S = some (w, S') ∧ KE G I φ H S' w Q
theorem effSem_ref {o : Eff} {ws : List W} {w : W} (ho : isDicM o = false) (e : effSem o ws S = some (w, S')) : ∃ n r xs, ws = .ref n :: r ∧ S[n]? = some (.lst xs) := by
  unfold effSem at e
  split at e
  · split at e
    · exact ⟨_, _, _, rfl, by assumption⟩
    · cases o <;> first | (cases ho; done) | (simp at e; done)
    · cases e
  · cases e
theorem Sim.cellL {n : Nat} {a : Addr} {xs : List W} (s : Sim G I φ S H) (hn : φ[n]? = some a) (hS : S[n]? = some (.lst xs)) : ∃ vs, H a = some (.lst vs) ∧ Rels G I φ xs vs := s.cell n a _ hn hS
theorem KE.put {n : Nat} {a : Addr} {xs ys : List W} {us : List V} {w : W} {v : V} {Q : VK} (s : Sim G I φ S H) (hn : φ[n]? = some a) (hS : S[n]? = some (.lst xs)) (k : KE G I φ H (S.set n (.lst ys)) w Q) (r : Rels G I φ ys us) (rw' : Rel G I φ w v) : Q v (upd H a (.lst us)) := by
  obtain ⟨s2, e2⟩ := s.put (o' := .lst ys) (u := .lst us) hn hS (by simp) ⟨us, upd_same, r⟩
  exact k _ _ _ _ e2 s2 rw'
theorem or_append : MtR X "list.append" (fun x xs => rEff G .append (x :: xs)) := by
  rintro pins s σ H x xs v us Q J rx rxs ⟨I, φ, S, ws, w, S', sm, rws, e0, k⟩
  obtain ⟨n, r, zs, rfl, hS⟩ := effSem_ref rfl e0
  simp only [effSem, hS] at e0
  match r, e0 with
  | [b], e =>
    obtain ⟨x, xs', e1, ra, y, ys, rfl, rb, rr⟩ := rws
    obtain rfl : ys = [] := rr
    cases e1
    obtain ⟨p, rfl, hn⟩ := ra
    simp only at e
    split at e
    · rename_i hl
      cases e
      obtain ⟨vs, h1, rv⟩ := sm.cellL hn hS
      refine mt_append pins s σ H _ _ v us Q J rx rxs ⟨p, vs, y, rfl, rfl, h1, ?_, KE.put sm hn hS k (rv.append (Rels.one rb)) rfl⟩
      rw [rv.length]
      exact lim_ok hl
    · cases e
theorem or_clear : MtR X "list.clear" (fun x xs => rEff G .clear (x :: xs)) := by
  rintro pins s σ H x xs v us Q J rx rxs ⟨I, φ, S, ws, w, S', sm, rws, e0, k⟩
  obtain ⟨n, r, zs, rfl, hS⟩ := effSem_ref rfl e0
  simp only [effSem, hS] at e0
  match r, e0 with
  | [], e =>
    obtain ⟨x, xs', e1, ra, rr⟩ := rws
    obtain rfl : xs' = [] := rr
    cases e1
    obtain ⟨p, rfl, hn⟩ := ra
    cases e
    obtain ⟨vs, h1, rv⟩ := sm.cellL hn hS
    exact mt_clear pins s σ H _ _ v us Q J rx rxs ⟨p, vs, rfl, rfl, h1, KE.put (ys := []) sm hn hS k rfl rfl⟩
theorem or_reverse : MtR X "list.reverse" (fun x xs => rEff G .reverse (x :: xs)) := by
  rintro pins s σ H x xs v us Q J rx rxs ⟨I, φ, S, ws, w, S', sm, rws, e0, k⟩
  obtain ⟨n, r, zs, rfl, hS⟩ := effSem_ref rfl e0
  simp only [effSem, hS] at e0
  match r, e0 with
  | [], e =>
    obtain ⟨x, xs', e1, ra, rr⟩ := rws
    obtain rfl : xs' = [] := rr
    cases e1
    obtain ⟨p, rfl, hn⟩ := ra
    cases e
    obtain ⟨vs, h1, rv⟩ := sm.cellL hn hS
    exact mt_reverse pins s σ H _ _ v us Q J rx rxs ⟨p, vs, rfl, rfl, h1, KE.put sm hn hS k rv.reverse rfl⟩
theorem rels_dropLast : ∀ {ws : List W} {vs : List V}, Rels G I φ ws vs → Rels G I φ ws.dropLast vs.dropLast
  | [], _, h => by rw [show _ = [] from h]; rfl
  | [w], _, ⟨x, xs, e, h, r⟩ => by
    obtain rfl : xs = [] := r
    subst e
    rfl
  | w :: u :: ws, _, ⟨x, xs, e, h, r⟩ => by
    obtain ⟨y, ys, e2, h2, r2⟩ := r
    subst e2
    subst e
    exact ⟨x, _, rfl, h, rels_dropLast (ws := u :: ws) ⟨y, ys, rfl, h2, r2⟩⟩
theorem or_pop0 : MtR X "list.pop" (fun x xs => rEff G .pop0 (x :: xs)) := by
  rintro pins s σ H x xs v us Q J rx rxs ⟨I, φ, S, ws, w, S', sm, rws, e0, k⟩
  obtain ⟨n, r, zs, rfl, hS⟩ := effSem_ref rfl e0
  simp only [effSem, hS] at e0
  match r, e0 with
  | [], e =>
    obtain ⟨x, xs', e1, ra, rr⟩ := rws
    obtain rfl : xs' = [] := rr
    cases e1
    obtain ⟨p, rfl, hn⟩ := ra
    simp only at e
    split at e
    · rename_i z hz
      cases e
      obtain ⟨vs, h1, rv⟩ := sm.cellL hn hS
      rw [List.getLast?_eq_getElem?] at hz
      obtain ⟨y, hy, ry⟩ := rv.get hz
      rw [← rv.length] at hy
      exact mt_pop pins s σ H _ _ v us Q J rx rxs ⟨p, vs, y, rfl, rfl, h1, hy, KE.put sm hn hS k (rels_dropLast rv) ry⟩
    · cases e
theorem or_pop1 : MtR X "list.pop" (fun x xs => rEff G .pop1 (x :: xs)) := by
  rintro pins s σ H x xs v us Q J rx rxs ⟨I, φ, S, ws, w, S', sm, rws, e0, k⟩
  obtain ⟨n, r, zs, rfl, hS⟩ := effSem_ref rfl e0
  simp only [effSem, hS] at e0
  match r, e0 with
  | [.int i], e =>
    obtain ⟨x, xs', e1, ra, y, ys, rfl, rb, rr⟩ := rws
    obtain rfl : ys = [] := rr
    cases e1
    obtain ⟨p, rfl, hn⟩ := ra
    obtain rfl := rel_int rb
    simp only [Option.bind_eq_some_iff, Option.map_eq_some_iff] at e
    obtain ⟨j, hj, z, hz, e⟩ := e
    cases e
    obtain ⟨vs, h1, rv⟩ := sm.cellL hn hS
    obtain ⟨y, hy, ry⟩ := rv.get hz
    rw [← rv.length, ixN_eq] at hj
    obtain ⟨q1, q2, q3, q4⟩ := ixN_seq hj
    have hz := (J.hok _ _ h1).1
    have hsl := sizeLine_eq
    exact mt_popAt pins s σ H _ _ v us Q J rx rxs ⟨p, vs, i, j, y, rfl, rfl, h1, by omega, by omega, q1, hy, KE.put sm hn hS k (rv.eraseIdx j) ry⟩
theorem or_insert : MtR X "list.insert" (fun x xs => rEff G .insert (x :: xs)) := by
  rintro pins s σ H x xs v us Q J rx rxs ⟨I, φ, S, ws, w, S', sm, rws, e0, k⟩
  obtain ⟨n, r, zs, rfl, hS⟩ := effSem_ref rfl e0
  simp only [effSem, hS] at e0
  match r, e0 with
  | [.int i, b], e =>
    obtain ⟨x, xs', e1, ra, ri, ys, rfl, rb, rr⟩ := rws
    cases e1
    obtain ⟨y, rfl, ry⟩ := rels_one rr
    obtain ⟨p, rfl, hn⟩ := ra
    obtain rfl := rel_int rb
    simp only at e
    split at e
    · rename_i hc
      cases e
      simp only [Bool.and_eq_true, decide_eq_true_eq] at hc
      obtain ⟨⟨h0, h2⟩, hl⟩ := hc
      have h2 : i.natAbs < 100000 := h2
      obtain ⟨vs, h1, rv⟩ := sm.cellL hn hS
      have key := KE.put (us := vs.take i.toNat ++ [y] ++ vs.drop i.toNat) sm hn hS k (by
        have := ((rv.take i.toNat).append (Rels.one ry)).append (rv.drop i.toNat)
        simpa using this) rfl
      refine mt_insert pins s σ H _ _ v us Q J rx rxs ⟨p, vs, i, y, rfl, rfl, h1, ?_, h0, by omega, key⟩
      rw [rv.length]
      exact lim_ok hl
    · cases e
theorem isKeysI {kvs : List (List Key × V)} {bs : List Addr} (r : IsKeys H kvs bs) : ∀ {I : Hp}, Sim G I φ S H → ∃ I', Sim G I' φ S H ∧ Ext I φ H I' φ H ∧ Rels G I' φ (kvs.map fun p => .tup (p.1.map kW)) (bs.map V.ref) := by
  unfold IsKeys at r
  induction r with
  | nil => intro I s; exact ⟨I, s, Ext.refl _ _ _, rfl⟩
  | @cons p q ps qs h t ih =>
    intro I s
    obtain ⟨s1, e1⟩ := Sim.tupI s h
    obtain ⟨I', s2, e2, g⟩ := ih s1
    exact ⟨I', s2, e1.trans e2, ⟨_, _, rfl, ⟨q, _, rfl, e2.same _ _ upd_same, rels_key _⟩, g⟩⟩
theorem or_listDF (hc : X.calm = true) : CallR X (.type "list") (rFr G .listD) := by
  rintro pins s σ H xs us Q J rs ⟨I, φ, S, ws, ys, sm, rws, e0, k⟩
  match ws, e0 with
  | [a], e =>
    obtain ⟨x, xs', rfl, ra, rr⟩ := rws
    obtain rfl : xs' = [] := rr
    simp only [opSem, Option.map_eq_some_iff] at e
    obtain ⟨⟨t, ks, vs⟩, hd, e⟩ := e
    cases e
    cases t with
    | false =>
      obtain ⟨p, kvs, rfl, hp, hk, rv⟩ := dicRelK sm ra hd
      subst hk
      have hz := (dk_rd J.hok (.inl hp)).1
      refine call_listD hc pins s σ H _ us Q J rs ⟨p, kvs, rfl, .inl hp, fun l hl => k.here sm hl ?_ (by rw [List.length_map]; exact hz)⟩
      have := rels_key (G := G) (I := I) (φ := φ) (kvs.map (·.1))
      rw [List.map_map, List.map_map] at this
      exact this
    | true =>
      obtain ⟨p, kvs, rfl, hp, hk, rv⟩ := dicRelT sm ra hd
      subst hk
      have hz := (dt_of J.hok hp).1
      refine call_list_dT hc pins s σ H _ us Q J rs ⟨p, kvs, rfl, .inl hp, fun l bs hl ik => ?_⟩
      obtain ⟨I', sm', e', r'⟩ := isKeysI ik sm
      have hb : bs.length = kvs.length := (Paired.length ik).symm
      exact KF.here (I := I') (fun p us I2 φ2 H2 e2 => k p us I2 φ2 H2 (e'.trans e2)) sm' hl r' (by rw [List.length_map, hb]; exact hz)
theorem listDSem_lst {ws : List W} {S : Sto} {w : W} (h : opSem .listD ws S = some w) : ∃ xs, w = .lst xs := by
  simp only [opSem] at h
  split at h
  · rename_i x
    cases hs : dicOf S x with
    | none => rw [hs] at h; cases h
    | some d => rw [hs] at h; cases h; exact ⟨_, rfl⟩
  · cases h
end Tw

namespace Tw
open PySem PySem.Spec PyProof.Rows L2

variable {G : Gx} {I I' I1 I2 H H' H1 H2 : Hp} {φ φ' φ1 φ2 : List Addr} {S S' : Sto} {K : PySem.W.Frag} {X : Cx}

theorem joinS_eq (p : List Nat) : ∀ l : List (List Nat), TL.joinL p l = joinS p l
  | [] => rfl
  | [_] => rfl
  | x :: y :: r => by rw [TL.joinL, joinS, joinS_eq p (y :: r)]
theorem joinS_len (p : List Nat) : ∀ l : List (List Nat), (l.map List.length).sum + l.length * p.length ≤ (joinS p l).length + p.length
  | [] => by simp [joinS]
  | [x] => by simp [joinS]
  | x :: y :: r => by
    have ih := joinS_len p (y :: r)
    simp only [joinS, List.map_cons, List.sum_cons, List.length_append, List.length_cons, Nat.add_mul] at *
    omega
theorem strsOf_some {w : W} {ws : List W} {ss : List (List Nat)} (e : strsOf (w :: ws) = some ss) : ∃ s tt, w = .str s ∧ strsOf ws = some tt ∧ ss = s :: tt := by
  unfold strsOf at e
  split at e
  · rename_i heq; cases heq
  · rename_i s r heq
    cases heq
    simp only [Option.map_eq_some_iff] at e
    obtain ⟨tt, e2, rfl⟩ := e
    exact ⟨s, tt, rfl, e2, rfl⟩
  · cases e
theorem strsOf_rel (ws : List W) : ∀ {vs : List V} {ss : List (List Nat)}, Rels G I φ ws vs → strsOf ws = some ss → vs = (ss.map fun s => PySem.Str.mk s.toArray).map V.str := by
  induction ws with
  | nil =>
    intro vs ss r e
    cases e
    exact r
  | cons w ws ih =>
    intro vs ss r e
    obtain ⟨s, tt, rfl, e2, rfl⟩ := strsOf_some e
    obtain ⟨x, xs, e1, rx, r⟩ := r
    subst e1
    obtain rfl : x = .str ⟨s.toArray⟩ := rx
    rw [ih r e2]
    rfl
theorem or_join (hk : X.K = G.K) : MtR X "str.join" (fun x xs => rOp G .mJoin (x :: xs)) := by
  rintro pins s σ H x xs v us Q J rx rxs ⟨I, φ, S, ws, w, sm, rws, e0, k⟩
  match ws, e0 with
  | [.str p, b], e =>
    obtain ⟨x, xs', e1, ra, y, ys, rfl, rb, rr⟩ := rws
    obtain rfl : ys = [] := rr
    cases e1
    obtain rfl : x = .str ⟨p.toArray⟩ := ra
    simp only [opSem] at e
    split at e
    · rename_i zs hq
      simp only [Option.bind_eq_some_iff] at e
      obtain ⟨ss, h1, e⟩ := e
      split at e
      · rename_i hl
        cases e
        simp only [Bool.and_eq_true, decide_eq_true_eq] at hl
        obtain ⟨hl, hp⟩ := hl
        have hl : (joinS p ss).length < 100000 := hl
        have hp : p.length < 100000 := hp
        obtain ⟨q, vs, rfl, sq, rv⟩ := seqRel (K := X.K) hk sm rb hq
        have hv := strsOf_rel _ rv h1
        subst hv
        refine mt_join pins s σ H _ _ v us Q J rx rxs ⟨_, q, _, rfl, rfl, sq, ?_, k.here sm ?_⟩
        · have := joinS_len p ss
          rw [List.map_map, List.length_map]
          have e3 : (List.map ((fun x : PySem.Str => x.length) ∘ fun s => PySem.Str.mk s.toArray) ss) = ss.map List.length := by
            apply List.map_congr_left
            intro a _
            show a.toArray.size = a.length
            simp
          have e4 : (PySem.Str.mk p.toArray).length = p.length := by show p.toArray.size = _; simp
          rw [e4]
          rw [show (List.map ((·.length) ∘ fun s => PySem.Str.mk s.toArray) ss) = ss.map List.length from e3]
          omega
        · show V.str _ = V.str _
          congr 1
          rw [TL.join_eq]
          apply TL.ext_tl
          rw [TL.tl_join, TL.tl_mk, TL.tl_mk, joinS_eq]
          congr 1
          rw [List.map_map]
          exact List.map_id _
      · cases e
    · cases e
theorem pre_one (c : Nat) (l : List Nat) : TL.pre [c] l = (l.head? == some c) := by
  unfold TL.pre
  cases l with
  | nil => rfl
  | cons x l =>
    show ((x :: l).take 1 == [c]) = (some x == some c)
    simp
theorem find_one (s : List Nat) (c : Nat) : Txt.find ⟨s.toArray⟩ ⟨#[c]⟩ = idxI s c := by
  have hat : ∀ i, StrLaws.At ⟨s.toArray⟩ ⟨#[c]⟩ (PySem.Str.mk s.toArray).length i ↔ s[i]? = some c := by
    intro i
    rw [TL.at_iff (y := ⟨#[c]⟩) (by simp [TL.tl]) i]
    show TL.pre [c] (s.drop i) = true ↔ _
    rw [pre_one, beq_iff_eq, List.head?_drop]
  unfold idxI
  rcases find_whole ⟨s.toArray⟩ ⟨#[c]⟩ with ⟨h1, h2⟩ | ⟨i, h1, h2, h3⟩
  · rw [h1]
    have : s.findIdx? (· == c) = none := by
      rw [List.findIdx?_eq_none_iff]
      intro x hx
      obtain ⟨j, hj⟩ := List.getElem?_of_mem hx
      cases hxc : (x == c) with
      | false => rfl
      | true =>
        rw [beq_iff_eq] at hxc
        subst hxc
        exact absurd ((hat j).mpr hj) (h2 j)
    rw [this]
  · rw [h1]
    have h2' := (hat i).mp h2
    obtain ⟨hi, hc⟩ := List.getElem?_eq_some_iff.mp h2'
    have : s.findIdx? (· == c) = some i := by
      rw [List.findIdx?_eq_some_iff_getElem]
      refine ⟨hi, by simp [hc], fun j hj => ?_⟩
      intro hjc
      have hjl : j < s.length := by omega
      refine h3 j hj ((hat j).mpr ?_)
      rw [List.getElem?_eq_getElem hjl]
      simpa using hjc
    rw [this]
theorem or_find : MtR X "str.find" (fun x xs => rOp G .mFind (x :: xs)) := by
  rintro pins s σ H x xs v us Q J rx rxs ⟨I, φ, S, ws, w, sm, rws, e0, k⟩
  match ws, e0 with
  | [.str z, .str [c]], e =>
    obtain ⟨x, xs', e1, ra, y, ys, rfl, rb, rr⟩ := rws
    obtain rfl : ys = [] := rr
    cases e1
    obtain rfl : x = .str ⟨z.toArray⟩ := ra
    obtain rfl : y = .str ⟨#[c]⟩ := rb
    simp only [opSem] at e
    split at e
    · cases e
      exact mt_find pins s σ H _ _ v us Q J rx rxs ⟨_, _, rfl, rfl, by rw [find_one]; exact k.here sm rfl⟩
    · cases e
theorem or_starts : MtR X "str.startswith" (fun x xs => rOp G .mStarts (x :: xs)) := by
  rintro pins s σ H x xs v us Q J rx rxs ⟨I, φ, S, ws, w, sm, rws, e0, k⟩
  match ws, e0 with
  | [.str z, .str p], e =>
    obtain ⟨x, xs', e1, ra, y, ys, rfl, rb, rr⟩ := rws
    obtain rfl : ys = [] := rr
    cases e1
    obtain rfl : x = .str ⟨z.toArray⟩ := ra
    obtain rfl : y = .str ⟨p.toArray⟩ := rb
    simp only [opSem] at e
    cases e
    refine mt_startswith pins s σ H _ _ v us Q J rx rxs ⟨_, _, rfl, rfl, k.here sm ?_⟩
    show V.bl _ = V.bl _
    congr 1
    have hlen : (PySem.Str.mk p.toArray).length = p.length := by show p.toArray.size = _; simp
    have hlen2 : (PySem.Str.mk z.toArray).length = z.length := by show z.toArray.size = _; simp
    have main : Txt.startswith ⟨z.toArray⟩ ⟨p.toArray⟩ = true ↔ p.isPrefixOf z = true := by
      by_cases hp : p = []
      · subst hp
        simp [Txt.startswith, Builtin.Str.subAt, PySem.Str.length]
      · have h := TL.at_iff (x := ⟨z.toArray⟩) (y := ⟨p.toArray⟩) (by simpa [TL.tl] using hp) 0
        have e1 : Txt.startswith ⟨z.toArray⟩ ⟨p.toArray⟩ = true ↔ StrLaws.At ⟨z.toArray⟩ ⟨p.toArray⟩ (PySem.Str.mk z.toArray).length 0 := by
          unfold Txt.startswith StrLaws.At
          rw [Bool.and_eq_true, decide_eq_true_eq]
        rw [e1, h]
        show TL.pre p z = true ↔ _
        unfold TL.pre
        rw [beq_iff_eq, List.isPrefixOf_iff_prefix, List.prefix_iff_eq_take]
        exact eq_comm
    exact Bool.eq_iff_iff.mpr main
theorem or_extend : MtR X "list.extend" (fun x xs => rEff G .extend (x :: xs)) := by
  rintro pins s σ H x xs v us Q J rx rxs ⟨I, φ, S, ws, w, S', sm, rws, e0, k⟩
  obtain ⟨n, r, zs, rfl, hS⟩ := effSem_ref rfl e0
  simp only [effSem, hS] at e0
  match r, e0 with
  | [.lst b], e =>
    obtain ⟨x, xs', e1, ra, y, ys, rfl, rb, rr⟩ := rws
    obtain rfl : ys = [] := rr
    cases e1
    obtain ⟨p, rfl, hn⟩ := ra
    obtain ⟨q, us', rfl, hq, rq⟩ := rb
    simp only at e
    split at e
    · rename_i hl
      cases e
      obtain ⟨vs, h1, rv⟩ := sm.cellL hn hS
      refine mt_extend pins s σ H _ _ v us Q J rx rxs ⟨p, q, vs, us', rfl, rfl, h1, sm.same _ _ hq, ?_, KE.put sm hn hS k (rv.append rq) rfl⟩
      rw [rv.length, rq.length]
      exact Nat.le_of_lt (lim_ok hl)
    · cases e
section
variable {κ : Type} [DecidableEq κ]
theorem dputK_ok (f : κ → W) (hf : ∀ a b, eqW (f a) (f b) = decide (a = b)) (k : κ) (v : V) (kvs : List (κ × V)) : dputK (kvs.map fun p => f p.1) (f k) = (putK kvs k v).map fun p => f p.1 := by
  unfold dputK putK
  have h : dhas (kvs.map fun p => f p.1) (f k) = kvs.any fun kv => decide (kv.1 = k) := by rw [dhas_val f hf k kvs, valV_any]
  rw [h]
  split
  · rw [List.map_map]
    apply List.map_congr_left
    intro p _
    simp only [Function.comp]
    split <;> rfl
  · simp
theorem dmapV_ok (f : κ → W) (hf : ∀ a b, eqW (f a) (f b) = decide (a = b)) (k : κ) {w : W} {v : V} (r : Rel G I φ w v) : ∀ {kvs : List (κ × V)} {vs : List W}, Rels G I φ vs (kvs.map (·.2)) →
    Rels G I φ (dmapV (kvs.map fun p => f p.1) vs (f k) w) ((kvs.map (fun kv => if kv.1 = k then (kv.1, v) else kv)).map (·.2))
  | [], vs, h => by
    have : vs = [] := rels0 h
    subst this
    exact .nil
  | p :: kvs, [], h => by have := h.length; simp at this
  | p :: kvs, u :: vs, h => by
    obtain ⟨x, xs, e, hx, t⟩ := h
    simp only [List.map_cons, List.cons.injEq] at e
    obtain ⟨rfl, rfl⟩ := e
    simp only [List.map_cons, dmapV]
    rw [hf]
    refine .cons ?_ (dmapV_ok f hf k r t)
    by_cases hk : p.1 = k
    · rw [if_pos hk, if_pos (decide_eq_true hk)]
      exact r
    · rw [if_neg hk, if_neg (by simpa using hk)]
      exact hx
theorem dputV_ok (f : κ → W) (hf : ∀ a b, eqW (f a) (f b) = decide (a = b)) (k : κ) {w : W} {v : V} (r : Rel G I φ w v) {kvs : List (κ × V)} {vs : List W} (h : Rels G I φ vs (kvs.map (·.2))) :
    Rels G I φ (dputV (kvs.map fun p => f p.1) vs (f k) w) ((putK kvs k v).map (·.2)) := by
  unfold dputV putK
  have hh : dhas (kvs.map fun p => f p.1) (f k) = kvs.any fun kv => decide (kv.1 = k) := by rw [dhas_val f hf k kvs, valV_any]
  rw [hh]
  split
  · exact dmapV_ok f hf k r h
  · rw [List.map_append]
    exact h.append (Rels.one r)
end
theorem putK_new {κ : Type} [DecidableEq κ] {kvs : List (κ × V)} {k : κ} {v : V} (h : valV kvs k = none) : putK kvs k v = kvs ++ [(k, v)] := by
  unfold putK
  rw [if_neg]
  rw [valV_any, h]
  simp
theorem or_setd (hu : X.A.units + 1 < cLine) : MtR X "dict.setdefault" (fun x xs => rEff G .setd (x :: xs)) := by
  rintro pins s σ H x xs v us Q J rx rxs ⟨I, φ, S, ws, w, S', sm, rws, e0, k⟩
  match ws, e0 with
  | .ref n :: r, e0 =>
    simp only [effSem] at e0
    split at e0
    · exact absurd e0 (by simp)
    · rename_i t ks vs hS
      match r, e0 with
      | [kw, dw], e0 =>
        simp only at e0
        split at e0
        · rename_i hc
          simp only [Bool.and_eq_true, decide_eq_true_eq] at hc
          obtain ⟨⟨rfl, hk⟩, hl⟩ := hc
          obtain ⟨x, xs', e1, ra, rr⟩ := rws
          obtain ⟨kv, dv, rfl, rk, rd⟩ := rels_two rr
          cases e1
          obtain ⟨p, rfl, hn⟩ := ra
          obtain ⟨kvs, h1, rfl, rv⟩ := sm.cell n p _ hn hS
          obtain ⟨key, b, rfl, rfl, hb⟩ := keyT rk hk
          have hb' := sm.same _ _ hb
          obtain ⟨z, hd, ys, rel, dd⟩ := dt_of J.hok h1
          cases rx
          cases rxs with
          | cons rx1 rxs =>
            cases rxs with
            | cons rx2 rxs =>
              cases rxs
              cases rx1
              have hll : kvs.length < sizeLine := by have := lim_ok hl; simpa using this
              have hdv := dget_val (fun k => W.tup (k.map kW)) hfT key rv
              have hyl : ys.length ≤ sizeLine := by
                have := Paired.length rel
                omega
              refine PySem.call_setdefault_heap (knd := tupleKind (mixKind X.prog X.w)) (hsz := hyl) (tupleKind_room_in1 hu) (key_of J.hok hb') hd dd (fun q hq => ?_) (fun hno h' dd' hs => ?_)
              · have rq := rel.val key
                rw [hq] at rq
                cases hvk : valV kvs key with
                | none => rw [hvk] at rq; exact rq.elim
                | some u0 =>
                  rw [hvk] at rq hdv
                  split at e0
                  · rename_i u hu2
                    cases e0
                    rw [hu2] at hdv
                    obtain ⟨u1, hu1, ru⟩ := hdv
                    cases hu1
                    exact ⟨u0, H, J.tok _, rq, k.here sm ru⟩
                  · rename_i hnn
                    rw [hnn] at hdv
                    cases hdv
              · have rq := rel.val key
                rw [hno] at rq
                cases hvk : valV kvs key with
                | some u0 => rw [hvk] at rq; exact rq.elim
                | none =>
                  rw [hvk] at hdv
                  split at e0
                  · rename_i u hu2
                    rw [hu2] at hdv
                    obtain ⟨u1, hu1, _⟩ := hdv
                    cases hu1
                  · cases e0
                    obtain ⟨q, es, ep, hq, h2, h3, h4, _, h5⟩ := dd'
                    have J2 := d_write (ob := .dT (putK kvs key dv)) (t' := s.toks + (tupleKind (mixKind X.prog X.w)).draws key) J (by rw [h1]; exact True.intro) hs ⟨q, hq⟩
                      ⟨by have := length_putK kvs key dv; omega, hd, _, (rel.put key hb' rx2).keeps (fun c ys' ec => by rw [upd_ne (ne_of ec h1 (fun z => nomatch z))]; exact ec), q, es, ep, hq, h2, h3, h4, h5⟩
                    obtain ⟨s2, e2⟩ := sm.put (o' := .dic true ((kvs.map fun p => W.tup (p.1.map kW)) ++ [.tup (key.map kW)]) (vs ++ [w])) (u := .dT (putK kvs key dv)) hn hS (by simp)
                      ⟨putK kvs key dv, upd_same, by rw [putK_new hvk]; simp, by rw [putK_new hvk, List.map_append]; exact rv.append (Rels.one rd)⟩
                    exact ⟨dv, _, J2, rx2, k _ _ _ _ e2 s2 rd⟩
        · cases e0
    · cases e0
theorem or_get2 (hu : X.A.units + 1 < cLine) : MtR X "dict.get" (fun x xs => rOp G .mGet2 (x :: xs)) := by
  rintro pins s σ H x xs v us Q J rx rxs ⟨I, φ, S, ws, w, sm, rws, e0, k⟩
  match ws, e0 with
  | [a, b, c], e =>
    obtain ⟨x, xs', e1, ra, rr⟩ := rws
    obtain ⟨kv, dv, rfl, rk, rd⟩ := rels_two rr
    cases e1
    simp only [opSem] at e
    split at e
    · rename_i t ks vs hdc
      split at e
      · rename_i hk
        cases e
        obtain ⟨p, o, rfl, g, _, hm⟩ := dget_rel sm ra hdc rk hk
        cases rx
        cases rxs with
        | cons rx1 rxs =>
          cases rxs with
          | cons rx2 rxs =>
            cases rxs
            refine d_get2 hu J g rx1 rx2 fun w' s' J' r' => ⟨_, H, J', r', k.here sm ?_⟩
            split at hm
            · rename_i z hz
              obtain ⟨u, rfl, ru⟩ := hm
              rw [hz]
              exact ru
            · rename_i hz
              subst hm
              rw [hz]
              exact rd
      · cases e
    · cases e
theorem or_get1 (hu : X.A.units + 1 < cLine) : MtR X "dict.get" (fun x xs => rOp G .mGet1 (x :: xs)) := by
  rintro pins s σ H x xs v us Q J rx rxs ⟨I, φ, S, ws, w, sm, rws, e0, k⟩
  match ws, e0 with
  | [a, b], e =>
    obtain ⟨x, xs', e1, ra, rr⟩ := rws
    obtain ⟨kv, rfl, rk⟩ := rels_one rr
    cases e1
    simp only [opSem] at e
    split at e
    · rename_i t ks vs hdc
      split at e
      · rename_i hk
        cases e
        obtain ⟨p, o, rfl, g, _, hm⟩ := dget_rel sm ra hdc rk hk
        cases rx
        cases rxs with
        | cons rx1 rxs =>
          cases rxs
          refine d_get1 hu J g rx1 fun w' s' J' r' => ⟨_, H, J', r', k.here sm ?_⟩
          split at hm
          · rename_i z hz
            obtain ⟨u, rfl, ru⟩ := hm
            rw [hz]
            exact ru
          · rename_i hz
            subst hm
            rw [hz]
            exact rfl
      · cases e
    · cases e
theorem ddel_ok {κ : Type} [DecidableEq κ] (f : κ → W) (hf : ∀ a b, eqW (f a) (f b) = decide (a = b)) (k : κ) : ∀ {kvs : List (κ × V)} {vs : List W}, (kvs.map (·.1)).Nodup → Rels G I φ vs (kvs.map (·.2)) →
    ddelK (kvs.map fun p => f p.1) (f k) = (dropK kvs k).map (fun p => f p.1) ∧ Rels G I φ (ddelV (kvs.map fun p => f p.1) vs (f k)) ((dropK kvs k).map (·.2))
  | [], vs, _, h => by
    have : vs = [] := rels0 h
    subst this
    exact ⟨rfl, .nil⟩
  | p :: kvs, [], _, h => by have := h.length; simp at this
  | p :: kvs, u :: vs, hn, h => by
    obtain ⟨x, xs, e, hx, t⟩ := h
    simp only [List.map_cons, List.cons.injEq] at e
    obtain ⟨rfl, rfl⟩ := e
    have hn' := List.nodup_cons.mp hn
    simp only [List.map_cons, ddelK, ddelV, hf, dropK, List.filter_cons]
    by_cases hk : p.1 = k
    · have hno : kvs.filter (fun kv => decide (kv.1 ≠ k)) = kvs := by
        rw [List.filter_eq_self]
        intro q hq
        refine decide_eq_true fun z => hn'.1 ?_
        show p.1 ∈ _
        rw [hk, ← z]
        exact List.mem_map_of_mem hq
      simp only [hk, decide_true, if_true, ne_eq, not_true_eq_false, decide_false, Bool.false_eq_true, if_false]
      have hno' : List.filter (fun kv => decide ¬kv.fst = k) kvs = kvs := hno
      rw [hno']
      exact ⟨rfl, t⟩
    · have ih := ddel_ok f hf k hn'.2 t
      unfold dropK at ih
      simp only [hk, decide_false, Bool.false_eq_true, if_false, ne_eq, not_false_eq_true, decide_true, if_true, List.map_cons]
      exact ⟨by rw [ih.1], .cons hx ih.2⟩
theorem kv_keys {kvs : List (Key × V)} {ys : List (Key × Value)} (rel : KV kvs ys) : kvs.map (·.1) = ys.map (·.1) := by
  unfold KV at rel
  induction rel with
  | nil => rfl
  | cons h _ ih => simp only [List.map_cons, h.1, ih]
theorem or_dpop : MtR X "dict.pop" (fun x xs => rEff G .dpop (x :: xs)) := by
  rintro pins s σ H x xs v us Q J rx rxs ⟨I, φ, S, ws, w, S', sm, rws, e0, k⟩
  match ws, e0 with
  | .ref n :: r, e0 =>
    simp only [effSem] at e0
    split at e0
    · exact absurd e0 (by simp)
    · rename_i t ks vs hS
      match r, e0 with
      | [kw], e0 =>
        simp only at e0
        split at e0
        · rename_i hc
          simp only [Bool.and_eq_true, Bool.not_eq_true'] at hc
          obtain ⟨rfl, hk⟩ := hc
          simp only [Option.map_eq_some_iff] at e0
          obtain ⟨w0, hg, e0⟩ := e0
          cases e0
          obtain ⟨x, xs', e1, ra, rr⟩ := rws
          obtain ⟨kv, rfl, rk⟩ := rels_one rr
          cases e1
          obtain ⟨p, rfl, hn⟩ := ra
          obtain ⟨kvs, h1, rfl, rv⟩ := sm.cell n p _ hn hS
          obtain ⟨key, rfl, rfl⟩ := keyF rk hk
          have hdv := dget_val kW hfK key rv
          rw [hg] at hdv
          obtain ⟨u, hu, ru⟩ := hdv
          cases rx
          cases rxs with
          | cons rx1 rxs =>
            cases rxs
            refine d_pop J h1 rx1 hu (.inl rfl) fun w' s' J' r' => ⟨u, _, J', r', ?_⟩
            have hnd : (kvs.map (·.1)).Nodup := by
              obtain ⟨_, _, ys, rel, dd⟩ := dk_of J.hok h1
              rw [kv_keys rel]
              obtain ⟨_, _, _, _, _, _, _, hnn⟩ := dd
              first | exact hnn | exact hnn.2 | exact hnn.1
            have dl := ddel_ok kW hfK key hnd rv
            obtain ⟨s2, e2⟩ := sm.put (o' := .dic false (ddelK (kvs.map fun p => kW p.1) (kW key)) (ddelV (kvs.map fun p => kW p.1) vs (kW key))) (u := .dK (dropK kvs key)) hn hS (by simp) ⟨dropK kvs key, upd_same, dl.1, dl.2⟩
            exact k _ _ _ _ e2 s2 ru
        · cases e0
    · cases e0
end Tw

namespace Tw
open PySem PySem.Spec PyProof.Rows L2

structure ClsI where
  nm : PySem.Str
  c : Nat
  init : Nat
  np : Nat
  flds : List PySem.Str
structure Tab where
  N : List PySem.Str
  fnm : List (PySem.Str × Nat × Nat)
  cst : List (PySem.Str × W)
  cm : Bool
  cls : List ClsI
  mts : List (Nat × PySem.Str × Nat × Nat)
  exc : List (PySem.Str × Nat)

def vis (sc : Scope) (x : PySem.Str) : Bool := match sc.names.lookup x with
  | some .local => true
  | some .cell => true
  | some .free => true
  | _ => false
def loc (sc : Scope) (x : PySem.Str) : Bool := match sc.names.lookup x with
  | some .local => true
  | some .cell => true
  | _ => false
def isGl (sc : Scope) (x : PySem.Str) : Bool := match sc.names.lookup x with
  | some .globalImplicit => true
  | _ => false
theorem vis_ok {sc : Scope} {x : PySem.Str} (h : vis sc x = true) : Vis sc x := by
  unfold vis at h
  split at h
  · exact .inl (by assumption)
  · exact .inr (.inl (by assumption))
  · exact .inr (.inr (by assumption))
  · cases h
theorem loc_ok {sc : Scope} {x : PySem.Str} (h : loc sc x = true) : Loc sc x := by
  unfold loc at h
  split at h
  · exact .inl (by assumption)
  · exact .inr (by assumption)
  · cases h
theorem isGl_ok {sc : Scope} {x : PySem.Str} (h : isGl sc x = true) : sc.names.lookup x = some .globalImplicit := by
  unfold isGl at h
  split at h
  · assumption
  · cases h
def dbg (x : PySem.Str) : Bool := (x == ("__debug__" : PySem.Str)) || (x == ("__classdict__" : PySem.Str)) || (x == ("__name__" : PySem.Str))
def plainE : Expr → Bool
  | .BoolOp _ _ _ => true
  | .BinOp _ _ _ _ => true
  | .UnaryOp _ _ _ => true
  | .IfExp _ _ _ _ => true
  | .Dict _ _ _ => true
  | .ListComp _ _ _ _ => true
  | .Compare _ _ _ _ => true
  | .Call _ _ _ _ => true
  | .JoinedStr _ _ => true
  | .Constant _ _ _ => true
  | .Attribute _ _ _ => true
  | .Subscript _ _ _ => true
  | .Name _ _ => true
  | .List _ _ => true
  | .Tuple _ _ _ => true
  | _ => false
def baseE : Expr → Bool
  | .Name _ _ => true
  | .Subscript _ _ _ => true
  | .Attribute _ _ _ => true
  | .Constant _ _ _ => true
  | _ => false
theorem star_plain {e : Expr} {es : List Expr} {env : PySem.Env} (h : plainE e = true) : starEach (e :: es) env = (false, eval e env) :: starEach es env := by
  cases e <;> first | (simp [plainE] at h; done) | rfl
theorem star_all {env : PySem.Env} : ∀ {es : List Expr}, es.all plainE = true → starEach es env = es.map fun e => (false, eval e env)
  | [], _ => rfl
  | e :: es, h => by
    simp only [List.all_cons, Bool.and_eq_true] at h
    rw [star_plain h.1, star_all h.2]
    rfl
theorem star_none {env : PySem.Env} {es : List Expr} {pos : Pos} (h : es.all plainE = true) : (backTo pos (starEach es env)).any (·.1) = false := by
  rw [star_all h]
  unfold backTo
  rw [List.map_map, List.any_map]
  rw [List.any_eq_false]
  intro e _
  simp
theorem base_ok {e : Expr} {a : PySem.Str} {env : PySem.Env} {x : Sem Value} (h : baseE e = true) : attributeBase e a env x = x := by
  cases e <;> first | (simp [baseE] at h; done) | rfl
theorem set_ok {e : Expr} {env : PySem.Env} (h : plainE e = true) : ∀ x, foldedSetIterable e env x = pure x := by
  intro x
  cases e <;> first | (simp [plainE] at h; done) | rfl
theorem marks_ok {e : Expr} {op : CmpOp} (h : plainE e = true) : behindInMarks op e = false := by
  cases e <;> first | (simp [plainE] at h; done) | rfl
theorem plainIx_ok {e : Expr} (h : plainE e = true) : PlainIx e := by
  intro o i
  cases e <;> first | (simp [plainE] at h; done) | rfl

variable {G : Gx} {I I' I1 I2 H H' H1 H2 : Hp} {φ φ' φ1 φ2 : List Addr} {S S' : Sto} {K : PySem.W.Frag} {X : Cx} {cf : CallF}

def KX (G : Gx) (Ex : XK) (I : Hp) (φ : List Addr) (H : Hp) (c : Nat) (S' : Sto) : Prop :=
  ∀ I' φ' H', Ext I φ H I' φ' H' → Sim G I' φ' S' H' → Ex (.ref (G.cad c)) none H'
def Post {α : Type} (G : Gx) (Ex : XK) (I : Hp) (φ : List Addr) (H : Hp) (r : Rs α) (k : α → Sto → Prop) : Prop :=
  match r with
  | .ok a S' => k a S'
  | .ex c S' => KX G Ex I φ H c S'
  | .bad => False
theorem KE.ext {w : W} {Q : VK} (e : Ext I φ H I1 φ1 H1) (k : KE G I φ H S w Q) : KE G I1 φ1 H1 S w Q := fun v I' φ' H' e' s r => k v I' φ' H' (e.trans e') s r
theorem KF.ext {xs : List W} {Q : VK} (e : Ext I φ H I1 φ1 H1) (k : KF G I φ H S xs Q) : KF G I1 φ1 H1 S xs Q := fun p us I' φ' H' e' s h r l => k p us I' φ' H' (e.trans e') s h r l
theorem KX.ext {Ex : XK} {c : Nat} (e : Ext I φ H I1 φ1 H1) (k : KX G Ex I φ H c S) : KX G Ex I1 φ1 H1 c S := fun I' φ' H' e' s => k I' φ' H' (e.trans e') s
def tE (G : Gx) (cf : CallF) (Ex : L2.St → XK) (m : E) : TE := fun σ H Q => ∃ I φ ρ S, Sim G I φ S H ∧ Envs G I φ ρ σ ∧ Post G (Ex σ) I φ H (ev cf m ρ S) fun w S' => KE G I φ H S' w Q
def tF (G : Gx) (cf : CallF) (Ex : L2.St → XK) (m : E) : TE := fun σ H Q => ∃ I φ ρ S, Sim G I φ S H ∧ Envs G I φ ρ σ ∧ Post G (Ex σ) I φ H (ev cf m ρ S) fun w S' => ∃ xs, w = .lst xs ∧ KF G I φ H S' xs Q
def tT (G : Gx) (cf : CallF) (Ex : L2.St → XK) (m : E) : TT := fun σ H Q => ∃ I φ ρ S, Sim G I φ S H ∧ Envs G I φ ρ σ ∧ Post G (Ex σ) I φ H (ev cf m ρ S) fun w S' => ∃ b, w = .bl b ∧ ∀ I' φ' H', Ext I φ H I' φ' H' → Sim G I' φ' S' H' → Q b H'
def tA (G : Gx) (cf : CallF) (Ex : L2.St → XK) (ms : List E) : TA := fun σ H Q => ∃ I φ ρ S, Sim G I φ S H ∧ Envs G I φ ρ σ ∧ Post G (Ex σ) I φ H (evs cf ms ρ S) fun ws S' => ∀ vs I' φ' H', Ext I φ H I' φ' H' → Sim G I' φ' S' H' → Rels G I' φ' ws vs → Q vs H'
theorem PE_imp {e : Expr} {t t' : TE} (h : PE X e t) (i : ∀ σ H Q, t' σ H Q → t σ H Q) : PE X e t' := ⟨fun pins s σ H Q J q => h.run pins s σ H Q J (i σ H Q q)⟩
theorem PT_imp {e : Expr} {t t' : TT} (h : PT X e t) (i : ∀ σ H Q, t' σ H Q → t σ H Q) : PT X e t' := ⟨fun pins s σ H Q J q => h.run pins s σ H Q J (i σ H Q q)⟩
theorem PA_imp {e : List Expr} {t t' : TA} (h : PA X e t) (i : ∀ σ H Q, t' σ H Q → t σ H Q) : PA X e t' := ⟨fun pos pins s σ H Q J q => h.run pos pins s σ H Q J (i σ H Q q)⟩
theorem PW_imp {e : Expr} {t t' : TT} (h : PW X e t) (i : ∀ σ H Q, t' σ H Q → t σ H Q) : PW X e t' := ⟨fun wh pins s σ H Q J q => h.run wh pins s σ H Q J (i σ H Q q)⟩
theorem Post.bind {α β : Type} {Ex : XK} {r : Rs α} {f : α → Sto → Rs β} {k : β → Sto → Prop} (h : Post G Ex I φ H (r.bind f) k) : Post G Ex I φ H r fun a S1 => Post G Ex I φ H (f a S1) k := by
  cases r with
  | ok a S => exact h
  | ex c S => exact h
  | bad => exact h
theorem Post.ofO {α : Type} {Ex : XK} {o : Option α} {k : α → Sto → Prop} (h : Post G Ex I φ H (ofO o S) k) : ∃ a, o = some a ∧ k a S := by
  cases o with
  | none => exact h.elim
  | some a => exact ⟨a, rfl, h⟩
theorem Post.imp {α : Type} {Ex : XK} {r : Rs α} {k k' : α → Sto → Prop} (h : Post G Ex I φ H r k) (i : ∀ a S', r = .ok a S' → k a S' → k' a S') : Post G Ex I φ H r k' := by
  cases r with
  | ok a S => exact i a S rfl h
  | ex c S => exact h
  | bad => exact h
theorem Post.ext {α : Type} {Ex : XK} {r : Rs α} {k k' : α → Sto → Prop} (e : Ext I φ H I1 φ1 H1) (h : Post G Ex I φ H r k) (i : ∀ a S', r = .ok a S' → k a S' → k' a S') : Post G Ex I1 φ1 H1 r k' := by
  cases r with
  | ok a S => exact i a S rfl h
  | ex c S => exact KX.ext e h
  | bad => exact h

theorem tE_step {Ex : L2.St → XK} {a : E} {σ : L2.St} {ρ : Env} {Q : VK} (s : Sim G I φ S H) (ev' : Envs G I φ ρ σ) (h : Post G (Ex σ) I φ H (ev cf a ρ S) fun w S1 => ∀ v I1 φ1 H1, Ext I φ H I1 φ1 H1 → Sim G I1 φ1 S1 H1 → Rel G I1 φ1 w v → Q v H1) : tE G cf Ex a σ H Q :=
  ⟨I, φ, ρ, S, s, ev', h⟩
theorem tOp_of {Ex : L2.St → XK} {o : Op} {a b : E} (r : R2) (hr : ∀ x y H Q, rOp G o [x, y] H Q → r x y H Q) : ∀ σ H Q, tE G cf Ex (.op o [a, b]) σ H Q → tOp r (tE G cf Ex a) (tE G cf Ex b) σ H Q := by
  rintro σ H Q ⟨I, φ, ρ, S, s, en, h⟩
  simp only [ev, evs] at h
  refine tE_step s en (h.bind.bind.imp fun wa S1 _ h1 => ?_)
  intro v I1 φ1 H1 e1 s1 r1
  refine tE_step s1 (en.ext e1) (h1.bind.bind.ext e1 fun wb S2 _ h2 => ?_)
  intro u I2 φ2 H2 e2 s2 r2
  simp only [Rs.bind] at h2
  obtain ⟨w, hw, k⟩ := Post.ofO h2
  exact hr _ _ _ _ ⟨I2, φ2, S2, _, w, s2, .cons (r1.ext e2) (.cons r2 .nil), hw, KE.ext (e1.trans e2) k⟩
theorem tOpF_of {Ex : L2.St → XK} {o : Op} {a b : E} (r : R2) (hr : ∀ x y H Q, rFr G o [x, y] H Q → r x y H Q) : ∀ σ H Q, tF G cf Ex (.op o [a, b]) σ H Q → tOp r (tE G cf Ex a) (tE G cf Ex b) σ H Q := by
  rintro σ H Q ⟨I, φ, ρ, S, s, en, h⟩
  simp only [ev, evs] at h
  refine tE_step s en (h.bind.bind.imp fun wa S1 _ h1 => ?_)
  intro v I1 φ1 H1 e1 s1 r1
  refine tE_step s1 (en.ext e1) (h1.bind.bind.ext e1 fun wb S2 _ h2 => ?_)
  intro u I2 φ2 H2 e2 s2 r2
  simp only [Rs.bind] at h2
  obtain ⟨w, hw, xs, rfl, k⟩ := Post.ofO h2
  exact hr _ _ _ _ ⟨I2, φ2, S2, _, xs, s2, .cons (r1.ext e2) (.cons r2 .nil), hw, KF.ext (e1.trans e2) k⟩
theorem tUn_of {Ex : L2.St → XK} {o : Op} {a : E} (r : V → Hp → VK → Prop) (hr : ∀ x H Q, rOp G o [x] H Q → r x H Q) : ∀ σ H Q, tE G cf Ex (.op o [a]) σ H Q → tUn r (tE G cf Ex a) σ H Q := by
  rintro σ H Q ⟨I, φ, ρ, S, s, en, h⟩
  simp only [ev, evs] at h
  refine tE_step s en (h.bind.bind.imp fun wa S1 _ h1 => ?_)
  intro v I1 φ1 H1 e1 s1 r1
  simp only [Rs.bind] at h1
  obtain ⟨w, hw, k⟩ := Post.ofO h1
  exact hr _ _ _ ⟨I1, φ1, S1, _, w, s1, .cons r1 .nil, hw, KE.ext e1 k⟩
theorem tCB_of {Ex : L2.St → XK} {o : Op} {as : List E} : ∀ σ H Q, tE G cf Ex (.op o as) σ H Q → tCB (rOp G o) (tA G cf Ex as) σ H Q := by
  rintro σ H Q ⟨I, φ, ρ, S, s, en, h⟩
  simp only [ev] at h
  refine ⟨I, φ, ρ, S, s, en, h.bind.imp fun ws S1 _ h1 => ?_⟩
  intro vs I1 φ1 H1 e1 s1 r1
  obtain ⟨w, hw, k⟩ := Post.ofO h1
  exact ⟨I1, φ1, S1, _, w, s1, r1, hw, KE.ext e1 k⟩
theorem tCBF_of {Ex : L2.St → XK} {o : Op} {as : List E} : ∀ σ H Q, tF G cf Ex (.op o as) σ H Q → tCB (rFr G o) (tA G cf Ex as) σ H Q := by
  rintro σ H Q ⟨I, φ, ρ, S, s, en, h⟩
  simp only [ev] at h
  refine ⟨I, φ, ρ, S, s, en, h.bind.imp fun ws S1 _ h1 => ?_⟩
  intro vs I1 φ1 H1 e1 s1 r1
  obtain ⟨w, hw, xs, rfl, k⟩ := Post.ofO h1
  exact ⟨I1, φ1, S1, _, xs, s1, r1, hw, KF.ext e1 k⟩
theorem tE_tF {Ex : L2.St → XK} {m : E} (hm : ∀ ρ S w S', ev cf m ρ S = .ok w S' → ∃ xs, w = .lst xs) : ∀ σ H Q, tE G cf Ex m σ H Q → tF G cf Ex m σ H Q := by
  rintro σ H Q ⟨I, φ, ρ, S, s, en, h⟩
  refine ⟨I, φ, ρ, S, s, en, h.imp fun w S1 e h1 => ?_⟩
  obtain ⟨xs, rfl⟩ := hm ρ S w S1 e
  exact ⟨xs, rfl, h1.toKF⟩

inductive PEs (G : Gx) (cf : CallF) (Ex : L2.St → XK) (X : Cx) : List E → List Expr → Prop
  | nil : PEs G cf Ex X [] []
  | cons {m : E} {ms : List E} {e : Expr} {es : List Expr} : plainE e = true → PE X e (tE G cf Ex m) → PEs G cf Ex X ms es → PEs G cf Ex X (m :: ms) (e :: es)
theorem PEs.all {Ex : L2.St → XK} {ms : List E} {es : List Expr} (h : PEs G cf Ex X ms es) : es.all plainE = true := by
  induction h with
  | nil => rfl
  | cons a _ _ ih => simp [a, ih]
theorem PEs.pa {Ex : L2.St → XK} : ∀ {ms : List E} {es : List Expr}, PEs G cf Ex X ms es → PA X es (tA G cf Ex ms)
  | _, _, .nil => PA_imp pa_nil fun σ H Q ⟨I, φ, ρ, S, s, en, h⟩ => by
    simp only [evs] at h
    exact h [] I φ H (Ext.refl _ _ _) s rfl
  | m :: ms, e :: es, .cons p h t => by
    refine PA_imp (pa_cons h t.pa (star_plain p)) fun σ H Q ⟨I, φ, ρ, S, s, en, h⟩ => ?_
    simp only [evs] at h
    refine tE_step s en (h.bind.imp fun wa S1 _ h1 => ?_)
    intro v I1 φ1 H1 e1 s1 r1
    refine ⟨I1, φ1, ρ, S1, s1, en.ext e1, h1.bind.ext e1 fun ws S2 _ h2 => ?_⟩
    intro vs I2 φ2 H2 e2 s2 r2
    exact h2 _ _ _ _ (e1.trans e2) s2 (.cons (r1.ext e2) r2)

def bltNames : List PySem.Str := ["len", "list", "tuple", "sorted", "all", "int", "min", "max", "range", "isinstance", "bool", "str", "enumerate", "zip", "reversed", "ValueError", "set", "sum"]
def spF (G : Gx) (cf : CallF) (i np : Nat) : Sp := fun vs H Q Ex => vs.length = np ∧ ∃ I φ S ws, Sim G I φ S H ∧ Rels G I φ ws vs ∧ Post G Ex I φ H (cf i ws S) fun w S' => KE G I φ H S' w Q
structure ClsF (K : PySem.W.Frag) (C : Addr) : Prop extends Cls K C where
  ha : PySem.W.findIn K (.ref C) "__class__" = some (some (.builtin "object.__class__"))
  hn : PySem.W.specialIn K (.builtin "object.__class__") "__get__" = some (some (.builtin "getset_descriptor.__get__"))
  ht : PySem.W.takesIn K (.builtin "object.__class__") = some true
  hm : PySem.W.mroIn K C (.type "object") = some true
def cvO (G : Gx) (c : Nat) : Value := if c = 9 then .type "ValueError" else .ref (G.cad c)
abbrev bmVE : List Value := [.type "ValueError", .type "Exception", .type "BaseException", .type "object"]
structure ExcF (K : PySem.W.Frag) (C : Addr) : Prop extends ExcC K C where
  ex : PySem.W.excIn K C bmVE "ValueError.__new__" = true
  kp : PySem.W.keepIn K (.ref C) = true
  ev : PySem.W.exmOne K (.ref C) (.type "ValueError") = some true
  me : PySem.W.exmOne K (.ref C) (.ref C) = some true
  tp : PySem.W.typeIn K (.ref C) = some (.type "type")
structure XOk (T : Tab) (G : Gx) (cf : CallF) (Ex : L2.St → XK) (n : Nat) (sc : Scope) (X : Cx) : Prop where
  calm : T.cm = true → X.calm = true
  hk : X.K = G.K
  nd : X.N.Nodup
  hN : X.N = T.N
  hsc : X.env.scope = sc
  un : X.A.units + 65 < cLine
  room : T.cm = true → Room (2 * n + 1) X.A
  blt : ∀ x ∈ bltNames, X.mg x = none
  fns : ∀ x i np, (x, i, np) ∈ T.fnm → ∃ f fd ps, ps.length = np ∧ X.mg x = some (.ref f) ∧ PySem.W.keepIn X.K (.ref f) = true ∧ Binds X.K fd ps [] ∧ FnOk X.prog X.w X.K X.mg X.base (L2.CX X.prog X.w) (2 * n) f fd ps (spF G cf i np)
  csts : ∀ x w, (x, w) ∈ T.cst → ∃ u v, X.mg x = some u ∧ L2.RelV v u ∧ ∀ I φ, Rel G I φ w v
  cls : ∀ c ∈ T.cls, X.mg c.nm = some (.ref (G.cad c.c)) ∧ ClsF X.K (G.cad c.c) ∧ c.c < 9 ∧ G.fld c.c = c.flds ∧ c.flds.Nodup ∧ (∀ f ∈ c.flds, NoAttr X.K (G.cad c.c) f) ∧
    ∃ f fd ps, ps.length = c.np ∧ Mk X.K (G.cad c.c) f ∧ Binds X.K fd ps [] ∧ FnOk X.prog X.w X.K X.mg X.base (L2.CX X.prog X.w) (2 * n) f fd ps (spF G cf c.init c.np)
  mts : ∀ c m i np, (c, m, i, np) ∈ T.mts → Cls X.K (G.cad c) ∧ m ∉ G.fld c ∧ ∃ f fd ps, ps.length = np ∧ Meth X.K (G.cad c) m f ∧ Binds X.K fd ps [] ∧ FnOk X.prog X.w X.K X.mg X.base (L2.CX X.prog X.w) (2 * n) f fd ps (spF G cf i np)
  exc : ∀ x k, (x, k) ∈ T.exc → X.mg x = some (.ref (G.cad k)) ∧ ExcF X.K (G.cad k) ∧ 10 ≤ k ∧ PySem.W.kitOne X.K (.ref (G.cad k)) (.type "ValueError") = some true ∧ PySem.W.kitOne X.K (.type "NoneType") (.ref (G.cad k)) = some false ∧ k ∈ G.exs ∧ ∀ y j, (y, j) ∈ T.exc → PySem.W.kitOne X.K (.ref (G.cad k)) (.ref (G.cad j)) = some (subX k j)
  exs : ∀ k ∈ G.exs, ∃ x, (x, k) ∈ T.exc
  pass : ∀ σ, PassesAt (L2.CX X.prog X.w) X σ (Ex σ)
theorem XOk.gl {T : Tab} {Ex : L2.St → XK} {n : Nat} {sc : Scope} (x : XOk T G cf Ex n sc X) {y : PySem.Str} (h : isGl sc y = true) : Gl X y := by
  show X.env.scope.names.lookup y = _
  rw [x.hsc]
  exact isGl_ok h
theorem XOk.hu {T : Tab} {Ex : L2.St → XK} {n : Nat} {sc : Scope} (x : XOk T G cf Ex n sc X) : X.A.units + 65 < cLine := x.un
end Tw

namespace Tw
open PySem PySem.Spec PyProof.Rows L2

variable {G : Gx} {I I' I1 I2 H H' H1 H2 : Hp} {φ φ' φ1 φ2 : List Addr} {S S' : Sto} {K : PySem.W.Frag} {X : Cx} {cf : CallF} {T : Tab} {Ex : L2.St → XK} {n : Nat} {sc : Scope}

def Yields (G : Gx) (J : It) (I : Hp) (φ : List Addr) (xs : List W) : Prop :=
  ∀ I' φ' S' H', Same I I' → Pre φ φ' → Sim G I' φ' S' H' → ∀ i,
    (∀ w, xs[i]? = some w → J.go i H' ∧ ∀ v H'', J.yld i H' v H'' → ∃ I'', Ext I' φ' H' I'' φ' H'' ∧ Sim G I'' φ' S' H'' ∧ Rel G I'' φ' w v) ∧ (xs.length ≤ i → J.stop i H')
theorem rangeSize_up {a b c : Int} (hc : 0 < c) : Builtin.Range.rangeSize a b c = ((if a < b then ((b - a - 1) / c + 1).toNat else 0 : Nat) : Int) := by
  unfold Builtin.Range.rangeSize
  rw [if_pos (show c > 0 from hc)]
  split
  · have : 0 ≤ (b - a - 1) / c := Int.ediv_nonneg (by omega) (by omega)
    omega
  · rfl
theorem rgC_up {a b c : Int} (hc : 0 < c) (hc2 : c < 1000000) (ha : a.natAbs < 100000) (hb : b.natAbs < 100000) : RgC a b c (if a < b then ((b - a - 1) / c + 1).toNat else 0) := by
  refine ⟨by omega, by omega, ?_, rangeSize_up hc⟩
  have hs := rangeSize_up (a := a) (b := b) hc
  have hbd : ((if a < b then ((b - a - 1) / c + 1).toNat else 0 : Nat) : Int) ≤ 200001 := by
    split
    · have h1 : (b - a - 1) / c ≤ b - a - 1 := Int.ediv_le_self _ (by omega)
      omega
    · omega
  have h0 : 0 ≤ ((if a < b then ((b - a - 1) / c + 1).toNat else 0 : Nat) : Int) := Int.natCast_nonneg _
  unfold Builtin.Range.small
  rw [hs, if_pos (show c > 0 from hc)]
  generalize ((if a < b then ((b - a - 1) / c + 1).toNat else 0 : Nat) : Int) = m at hbd h0
  simp only [Builtin.Range.rangeFitsLong, Bool.and_eq_true, Bool.or_eq_true, decide_eq_true_eq, beq_iff_eq]
  omega
theorem yields_rangeC (lo c : Int) (n : Nat) : Yields G (Itc lo c n) I φ ((List.range n).map fun (j : Nat) => W.int (lo + j * c)) := by
  intro I' φ' S' H' h1 h2 s i
  refine ⟨fun w hw => ?_, fun hl => by show n ≤ i; simpa using hl⟩
  rw [List.getElem?_map] at hw
  cases hr : (List.range n)[i]? with
  | none => rw [hr] at hw; cases hw
  | some j =>
    rw [hr] at hw
    cases hw
    have hi := (List.getElem?_eq_some_iff.mp hr).1
    have hj : j = i := by
      have := (List.getElem?_eq_some_iff.mp hr).2
      simp at this
      exact this.symm
    subst hj
    refine ⟨by show j < n; simpa using hi, fun u H'' hy => ?_⟩
    obtain ⟨rfl, rfl⟩ := hy
    exact ⟨I', Ext.refl _ _ _, s, rfl⟩
theorem yields_rev {a : Addr} {vs : List V} {xs : List W} (ha : I a = some (.lst vs)) (r : Rels G I φ xs vs) : Yields G (Itv K a vs.length) I φ xs.reverse := by
  intro I' φ' S' H' h1 h2 s i
  have hq : SqL K H' a vs := .inl (rd_mono (h1.trans s.same) ha)
  have hl := r.length
  refine ⟨fun w hw => ?_, fun hle => by show vs.length ≤ i; rw [List.length_reverse] at hle; omega⟩
  obtain ⟨hi, hw'⟩ := List.getElem?_eq_some_iff.mp hw
  rw [List.length_reverse] at hi
  rw [List.getElem_reverse] at hw'
  have hx : xs[vs.length - 1 - i]? = some w := by
    rw [hl, List.getElem?_eq_getElem (by omega), hw']
  obtain ⟨v, hv, rv⟩ := r.get hx
  refine ⟨⟨by omega, vs, v, hq, hv⟩, fun u H'' hy => ?_⟩
  obtain ⟨rfl, hy⟩ := hy
  have := hy vs hq
  rw [hv] at this
  cases this
  exact ⟨I', Ext.refl _ _ _, s, rv.mono h1 h2⟩
def tI (G : Gx) (cf : CallF) (Ex : L2.St → XK) (k : ItK) (srcs : List E) : TI := fun σ H R => ∃ I φ ρ S, Sim G I φ S H ∧ Envs G I φ ρ σ ∧ Post G (Ex σ) I φ H (evs cf srcs ρ S) fun ws S1 =>
  ∃ xs, itVals k ws = some xs ∧ ∀ J I1 φ1 H1, Ext I φ H I1 φ1 H1 → Sim G I1 φ1 S1 H1 → Yields G J I1 φ1 xs → R J H1
theorem PI_imp {tg e : Expr} {t t' : TI} (h : PI X tg e t) (i : ∀ σ H Q, t' σ H Q → t σ H Q) : PI X tg e t' := ⟨fun pins s σ H Q J q => h.run pins s σ H Q J (i σ H Q q)⟩

theorem yields_list {a : Addr} {vs : List V} {xs : List W} (ha : I a = some (.lst vs)) (r : Rels G I φ xs vs) : Yields G (Itl K a) I φ xs := by
  intro I' φ' S' H' h1 h2 s i
  have hq : SqL K H' a vs := .inl (rd_mono (h1.trans s.same) ha)
  refine ⟨fun w hw => ?_, fun hl => ⟨vs, hq, by rw [r.length]; exact hl⟩⟩
  obtain ⟨v, hv, rv⟩ := r.get hw
  refine ⟨⟨vs, v, hq, hv⟩, fun u H'' hy => ?_⟩
  obtain ⟨rfl, hy⟩ := hy
  have := hy vs hq
  rw [hv] at this
  cases this
  exact ⟨I', Ext.refl _ _ _, s, rv.mono h1 h2⟩
theorem yields_klst {a : Addr} {ns : List Int} (hk : K = G.K) (ha : SqL G.K I a (ns.map V.int)) : Yields G (Itl K a) I φ (ns.map .int) := by
  subst hk
  intro I' φ' S' H' h1 h2 s i
  have hq : SqL G.K H' a (ns.map V.int) := (h1.trans s.same).seq ha
  refine ⟨fun w hw => ?_, fun hl => ⟨_, hq, by simpa using hl⟩⟩
  obtain ⟨v, hv, rv⟩ := (relsI (G := G) (I := I') (φ := φ') ns).get hw
  refine ⟨⟨_, v, hq, hv⟩, fun u H'' hy => ?_⟩
  obtain ⟨rfl, hy⟩ := hy
  have := hy _ hq
  rw [hv] at this
  cases this
  exact ⟨I', Ext.refl _ _ _, s, rv⟩
theorem yields_tup {a : Addr} {vs : List V} {xs : List W} (ha : I a = some (.tup vs)) (r : Rels G I φ xs vs) : Yields G (Itt K a) I φ xs := by
  intro I' φ' S' H' h1 h2 s i
  have hq : SqT K H' a vs := .inl (.inl (s.same _ _ (h1 _ _ ha)))
  refine ⟨fun w hw => ?_, fun hl => ⟨vs, hq, by rw [r.length]; exact hl⟩⟩
  obtain ⟨v, hv, rv⟩ := r.get hw
  refine ⟨⟨vs, v, hq, hv⟩, fun u H'' hy => ?_⟩
  obtain ⟨rfl, hy⟩ := hy
  have := hy vs hq
  rw [hv] at this
  cases this
  exact ⟨I', Ext.refl _ _ _, s, rv.mono h1 h2⟩
theorem yields_range (lo : Int) (n : Nat) : Yields G (Itr lo n) I φ ((List.range n).map fun (j : Nat) => W.int (lo + j)) := by
  intro I' φ' S' H' h1 h2 s i
  refine ⟨fun w hw => ?_, fun hl => by show n ≤ i; simpa using hl⟩
  rw [List.getElem?_map] at hw
  cases hr : (List.range n)[i]? with
  | none => rw [hr] at hw; cases hw
  | some j =>
    rw [hr] at hw
    cases hw
    have hi := (List.getElem?_eq_some_iff.mp hr).1
    have hj : j = i := by
      have := (List.getElem?_eq_some_iff.mp hr).2
      simp at this
      exact this.symm
    subst hj
    refine ⟨by show j < n; simpa using hi, fun u H'' hy => ?_⟩
    obtain ⟨rfl, rfl⟩ := hy
    exact ⟨I', Ext.refl _ _ _, s, rfl⟩
theorem yields_str (z : List Nat) : Yields G (Its ⟨z.toArray⟩) I φ (z.map fun c => .str [c]) := by
  intro I' φ' S' H' h1 h2 s i
  refine ⟨fun w hw => ?_, fun hl => ?_⟩
  · rw [List.getElem?_map] at hw
    cases hr : z[i]? with
    | none => rw [hr] at hw; cases hw
    | some c =>
      rw [hr] at hw
      cases hw
      refine ⟨?_, fun u H'' hy => ?_⟩
      · show i < z.toArray.size
        simpa using (List.getElem?_eq_some_iff.mp hr).1
      · obtain ⟨rfl, d, hd, rfl⟩ := hy
        have : z[i]? = some d := by simpa using hd
        rw [hr] at this
        cases this
        exact ⟨I', Ext.refl _ _ _, s, rfl⟩
  · show z.toArray.size ≤ i
    simpa using hl
theorem enumT_get : ∀ (xs : List W) (k i : Nat), (enumT k xs)[i]? = xs[i]?.map fun x => W.tup [.int ((k + i : Nat) : Int), x]
  | [], k, i => by simp [enumT]
  | x :: xs, k, 0 => by simp [enumT]
  | x :: xs, k, i + 1 => by
    simp only [enumT, List.getElem?_cons_succ]
    rw [enumT_get xs (k + 1) i]
    congr 1
    funext y
    congr 3
    omega
theorem enumT_len : ∀ (xs : List W) (k : Nat), (enumT k xs).length = xs.length
  | [], _ => rfl
  | x :: xs, k => by simp [enumT, enumT_len xs]
theorem yields_enum {a : Addr} {vs : List V} {xs : List W} (ha : I a = some (.lst vs)) (r : Rels G I φ xs vs) : Yields G (Ite K a) I φ (enumT 0 xs) := by
  intro I' φ' S' H' h1 h2 s i
  have hq : SqL K H' a vs := .inl (rd_mono (h1.trans s.same) ha)
  refine ⟨fun w hw => ?_, fun hl => ⟨vs, hq, by rw [r.length]; rw [enumT_len] at hl; exact hl⟩⟩
  rw [enumT_get] at hw
  cases hx : xs[i]? with
  | none => rw [hx] at hw; cases hw
  | some x =>
    rw [hx] at hw
    cases hw
    obtain ⟨v, hv, rv⟩ := r.get hx
    refine ⟨⟨vs, v, hq, hv⟩, fun u H'' hy => ?_⟩
    obtain ⟨T, y, rfl, hT, rfl, hy⟩ := hy
    have := hy vs hq
    rw [hv] at this
    cases this
    obtain ⟨s2, e2⟩ := s.newI (o := .tup [.int (i : Nat), v]) hT
    refine ⟨_, e2, s2, ⟨T, _, rfl, upd_same, ?_⟩⟩
    refine ⟨_, _, rfl, ?_, Rels.one ((rv.mono h1 h2).mono e2.same e2.pre')⟩
    simp [Rel]
theorem zipT_get : ∀ (xs ys : List W) (i : Nat), (zipT xs ys)[i]? = match xs[i]?, ys[i]? with
    | some x, some y => some (.tup [x, y])
    | _, _ => none
  | [], ys, i => by simp [zipT]
  | x :: xs, [], i => by cases h : (x :: xs)[i]? <;> simp [zipT]
  | x :: xs, y :: ys, 0 => by simp [zipT]
  | x :: xs, y :: ys, i + 1 => by simp only [zipT, List.getElem?_cons_succ]; exact zipT_get xs ys i
theorem zipT_len : ∀ (xs ys : List W), (zipT xs ys).length = min xs.length ys.length
  | [], _ => by simp [zipT]
  | _ :: _, [] => by simp [zipT]
  | x :: xs, y :: ys => by simp [zipT, zipT_len xs ys]
theorem yields_zip {a b : Addr} {vs us : List V} {xs ys : List W} (ha : I a = some (.lst vs)) (r : Rels G I φ xs vs) (hb : I b = some (.lst us)) (r2 : Rels G I φ ys us) : Yields G (Itz K a b) I φ (zipT xs ys) := by
  intro I' φ' S' H' h1 h2 s i
  have hq : SqL K H' a vs := .inl (rd_mono (h1.trans s.same) ha)
  have hq2 : SqL K H' b us := .inl (rd_mono (h1.trans s.same) hb)
  have l1 := r.length
  have l2 := r2.length
  refine ⟨fun w hw => ?_, fun hl => ⟨vs, us, hq, hq2, by rw [zipT_len] at hl; omega⟩⟩
  rw [zipT_get] at hw
  split at hw
  · rename_i x y hx hy
    cases hw
    obtain ⟨v, hv, rv⟩ := r.get hx
    obtain ⟨v2, hv2, rv2⟩ := r2.get hy
    refine ⟨⟨vs, us, v, v2, hq, hq2, hv, hv2⟩, fun u H'' hyy => ?_⟩
    obtain ⟨T, y1, y2, rfl, hT, rfl, hy1, hy2⟩ := hyy
    have := hy1 vs hq
    rw [hv] at this
    cases this
    have := hy2 us hq2
    rw [hv2] at this
    cases this
    obtain ⟨s2, e2⟩ := s.newI (o := .tup [v, v2]) hT
    exact ⟨_, e2, s2, ⟨T, _, rfl, upd_same, .cons ((rv.mono h1 h2).mono e2.same e2.pre') (Rels.one ((rv2.mono h1 h2).mono e2.same e2.pre'))⟩⟩
  · cases hw
theorem yields_zipT {a b : Addr} {vs us : List V} {xs ys : List W} (ha : I a = some (.tup vs)) (r : Rels G I φ xs vs) (hb : I b = some (.tup us)) (r2 : Rels G I φ ys us) : Yields G (RZ.ItzT K a b) I φ (zipT xs ys) := by
  intro I' φ' S' H' h1 h2 s i
  have hq : SqT K H' a vs := .inl (.inl (s.same _ _ (h1 _ _ ha)))
  have hq2 : SqT K H' b us := .inl (.inl (s.same _ _ (h1 _ _ hb)))
  have l1 := r.length
  have l2 := r2.length
  refine ⟨fun w hw => ?_, fun hl => ⟨vs, us, hq, hq2, by rw [zipT_len] at hl; omega⟩⟩
  rw [zipT_get] at hw
  split at hw
  · rename_i x y hx hy
    cases hw
    obtain ⟨v, hv, rv⟩ := r.get hx
    obtain ⟨v2, hv2, rv2⟩ := r2.get hy
    refine ⟨⟨vs, us, v, v2, hq, hq2, hv, hv2⟩, fun u H'' hyy => ?_⟩
    obtain ⟨T, y1, y2, rfl, hT, rfl, hy1, hy2⟩ := hyy
    have := hy1 vs hq
    rw [hv] at this
    cases this
    have := hy2 us hq2
    rw [hv2] at this
    cases this
    obtain ⟨s2, e2⟩ := s.newI (o := .tup [v, v2]) hT
    exact ⟨_, e2, s2, ⟨T, _, rfl, upd_same, .cons ((rv.mono h1 h2).mono e2.same e2.pre') (Rels.one ((rv2.mono h1 h2).mono e2.same e2.pre'))⟩⟩
  · cases hw
theorem tI_one {k : ItK} {m : E} : ∀ σ H R, tI G cf Ex k [m] σ H R → tE G cf Ex m σ H fun v H1 => ∃ I1 φ1 S1 w xs, Sim G I1 φ1 S1 H1 ∧ Rel G I1 φ1 w v ∧ itVals k [w] = some xs ∧ ∀ J, Yields G J I1 φ1 xs → R J H1 := by
  rintro σ H R ⟨I, φ, ρ, S, s, en, h⟩
  simp only [evs] at h
  refine tE_step s en (h.bind.imp fun w S1 _ h1 => ?_)
  intro v I1 φ1 H1 e1 s1 r1
  simp only [Rs.bind] at h1
  obtain ⟨xs, hx, q⟩ := h1
  exact ⟨I1, φ1, S1, w, xs, s1, r1, hx, fun J y => q J I1 φ1 H1 e1 s1 y⟩
theorem tE_mono {m : E} {σ : L2.St} {Q Q' : VK} (i : ∀ v H, Q v H → Q' v H) (h : tE G cf Ex m σ H Q) : tE G cf Ex m σ H Q' := by
  obtain ⟨I, φ, ρ, S, s, en, h⟩ := h
  exact ⟨I, φ, ρ, S, s, en, h.imp fun w S1 _ h1 v I' φ' H' e s r => i _ _ (h1 v I' φ' H' e s r)⟩
def itSyn (sc : Scope) (k : ItK) (tg e : Expr) : Option (List Expr) :=
  match k, e with
  | .range1, .Call (.Name f _) [a] [] _ => if decide (f = ("range" : PySem.Str)) && isGl sc f && plainE a then some [a] else none
  | .range2, .Call (.Name f _) [a, b] [] _ => if decide (f = ("range" : PySem.Str)) && isGl sc f && plainE a && plainE b then some [a, b] else none
  | .enum, .Call (.Name f _) [a] [] _ => match tg with
    | .Tuple _ _ _ => if decide (f = ("enumerate" : PySem.Str)) && isGl sc f && plainE a then some [a] else none
    | _ => none
  | .zip, .Call (.Name f _) [a, b] [] _ => match tg with
    | .Tuple _ _ _ => if decide (f = ("zip" : PySem.Str)) && isGl sc f && plainE a && plainE b then some [a, b] else none
    | _ => none
  | .range3, .Call (.Name f _) [a, b, c] [] _ => if decide (f = ("range" : PySem.Str)) && isGl sc f && plainE a && plainE b && plainE c then some [a, b, c] else none
  | .revL, .Call (.Name f _) [a] [] _ => if decide (f = ("reversed" : PySem.Str)) && isGl sc f && plainE a then some [a] else none
  | .revR, .Call (.Name f _) [.Call (.Name g _) [a] [] _] [] _ => if decide (f = ("reversed" : PySem.Str)) && isGl sc f && decide (g = ("range" : PySem.Str)) && isGl sc g && plainE a then some [a] else none
  | .list, e => if plainE e then some [e] else none
  | .tup, e => if plainE e then some [e] else none
  | .str, e => if plainE e then some [e] else none
  | _, _ => none
theorem PEs.one_inv {ms : List E} {e : Expr} (h : PEs G cf Ex X ms [e]) : ∃ m, ms = [m] ∧ plainE e = true ∧ PE X e (tE G cf Ex m) := by
  cases h with
  | cons p h t => cases t; exact ⟨_, rfl, p, h⟩
theorem PEs.two_inv {ms : List E} {a b : Expr} (h : PEs G cf Ex X ms [a, b]) : ∃ m m', ms = [m, m'] ∧ plainE a = true ∧ PE X a (tE G cf Ex m) ∧ plainE b = true ∧ PE X b (tE G cf Ex m') := by
  cases h with
  | cons p h t => obtain ⟨m', rfl, p', h'⟩ := t.one_inv; exact ⟨_, _, rfl, p, h, p', h'⟩
theorem PEs.three_inv {ms : List E} {a b c : Expr} (h : PEs G cf Ex X ms [a, b, c]) : ∃ m m' m'', ms = [m, m', m''] ∧ plainE a = true ∧ PE X a (tE G cf Ex m) ∧ plainE b = true ∧ PE X b (tE G cf Ex m') ∧ plainE c = true ∧ PE X c (tE G cf Ex m'') := by
  cases h with
  | cons p h t => obtain ⟨m', m'', rfl, r⟩ := t.two_inv; exact ⟨_, _, _, rfl, p, h, r⟩
theorem range_eq (n : Nat) : ((List.range n).map fun (j : Nat) => W.int ((0 : Int) + j)) = (List.range n).map fun (j : Nat) => W.int j := by
  congr 1
  funext j
  rw [Int.zero_add]

theorem itOk {k : ItK} {tg e : Expr} {es : List Expr} {ms : List E} (h : itSyn sc k tg e = some es) (x : XOk T G cf Ex n sc X) (p : PEs G cf Ex X ms es) : PI X tg e (tI G cf Ex k ms) ∧ plainE e = true := by
  unfold itSyn at h
  split at h
  · split at h
    · rename_i hc
      cases h
      simp only [Bool.and_eq_true, decide_eq_true_eq] at hc
      obtain ⟨⟨rfl, hg⟩, pa⟩ := hc
      obtain ⟨m, rfl, _, _⟩ := p.one_inv
      refine ⟨PI_imp (pi_range1 (x.gl hg) (x.blt _ (by simp [bltNames])) p.pa (star_plain pa)) ?_, rfl⟩
      rintro σ H R ⟨I, φ, ρ, S, s, en, q⟩
      refine ⟨I, φ, ρ, S, s, en, q.imp fun ws S1 _ h1 => ?_⟩
      intro vs I1 φ1 H1 e1 s1 r1
      obtain ⟨xs, hx, q⟩ := h1
      match ws, hx with
      | [.int j], hx =>
        obtain ⟨y, rfl, ry⟩ := rels_one r1
        obtain rfl := rel_int ry
        simp only [itVals] at hx
        split at hx
        · rename_i hj
          cases hx
          simp only [Bool.and_eq_true, decide_eq_true_eq, LIM] at hj
          refine ⟨j, rfl, by omega, by omega, q _ I1 φ1 H1 e1 s1 ?_⟩
          rw [← range_eq]
          exact yields_range 0 j.toNat
        · cases hx
    · cases h
  · split at h
    · rename_i hc
      cases h
      simp only [Bool.and_eq_true, decide_eq_true_eq] at hc
      obtain ⟨⟨⟨rfl, hg⟩, pa⟩, pb⟩ := hc
      obtain ⟨m, m', rfl, _, _, _, _⟩ := p.two_inv
      refine ⟨PI_imp (pi_range2 (x.gl hg) (x.blt _ (by simp [bltNames])) p.pa (by rw [star_plain pa, star_plain pb]; rfl) (star_plain pb)) ?_, rfl⟩
      rintro σ H R ⟨I, φ, ρ, S, s, en, q⟩
      refine ⟨I, φ, ρ, S, s, en, q.imp fun ws S1 _ h1 => ?_⟩
      intro vs I1 φ1 H1 e1 s1 r1
      obtain ⟨xs, hx, q⟩ := h1
      match ws, hx with
      | [.int i, .int j], hx =>
        obtain ⟨y, y', rfl, ry, ry'⟩ := rels_two r1
        obtain rfl := rel_int ry
        obtain rfl := rel_int ry'
        simp only [itVals] at hx
        split at hx
        · rename_i hj
          cases hx
          simp only [Bool.and_eq_true, decide_eq_true_eq, LIM] at hj
          refine ⟨i, j, rfl, by omega, q _ I1 φ1 H1 e1 s1 ?_⟩
          exact yields_range i (j - i).toNat
        · cases hx
    · cases h
  · split at h
    · split at h
      · rename_i hc
        cases h
        simp only [Bool.and_eq_true, decide_eq_true_eq] at hc
        obtain ⟨⟨rfl, hg⟩, pa⟩ := hc
        obtain ⟨m, rfl, _, _⟩ := p.one_inv
        refine ⟨PI_imp (pi_enum (x.gl hg) (x.blt _ (by simp [bltNames])) p.pa (star_plain pa)) ?_, rfl⟩
        rintro σ H R ⟨I, φ, ρ, S, s, en, q⟩
        refine ⟨I, φ, ρ, S, s, en, q.imp fun ws S1 _ h1 => ?_⟩
        intro vs I1 φ1 H1 e1 s1 r1
        obtain ⟨xs, hx, q⟩ := h1
        match ws, hx with
        | [.lst zs], hx =>
          cases hx
          obtain ⟨y, rfl, ry⟩ := rels_one r1
          obtain ⟨a, us, rfl, hr, rr⟩ := ry
          exact ⟨a, us, rfl, .inl (rd_mono s1.same hr), q _ I1 φ1 H1 e1 s1 (yields_enum hr rr)⟩
      · cases h
    · cases h
  · split at h
    · split at h
      · rename_i hc
        cases h
        simp only [Bool.and_eq_true, decide_eq_true_eq] at hc
        obtain ⟨⟨⟨rfl, hg⟩, pa⟩, pb⟩ := hc
        obtain ⟨m, m', rfl, _, _, _, _⟩ := p.two_inv
        refine ⟨PI_imp (RZ.pi_zipA (x.gl hg) (x.blt _ (by simp [bltNames])) p.pa (star_plain pa) (star_none (by simp [pb]))) ?_, rfl⟩
        rintro σ H R ⟨I, φ, ρ, S, s, en, q⟩
        refine ⟨I, φ, ρ, S, s, en, q.imp fun ws S1 _ h1 => ?_⟩
        intro vs I1 φ1 H1 e1 s1 r1
        obtain ⟨xs, hx, q⟩ := h1
        match ws, hx with
        | [.lst zs, .lst zs'], hx =>
          cases hx
          obtain ⟨y, y', rfl, ry, ry'⟩ := rels_two r1
          obtain ⟨a, us, rfl, hr, rr⟩ := ry
          obtain ⟨a', us', rfl, hr', rr'⟩ := ry'
          exact ⟨a, a', us, us', rfl, .inl ⟨.inl (rd_mono s1.same hr), .inl (rd_mono s1.same hr'), q _ I1 φ1 H1 e1 s1 (yields_zip hr rr hr' rr')⟩⟩
        | [.tup zs, .tup zs'], hx =>
          cases hx
          obtain ⟨y, y', rfl, ry, ry'⟩ := rels_two r1
          obtain ⟨a, us, rfl, hr, rr⟩ := ry
          obtain ⟨a', us', rfl, hr', rr'⟩ := ry'
          exact ⟨a, a', us, us', rfl, .inr ⟨.inl (.inl (s1.same _ _ hr)), .inl (.inl (s1.same _ _ hr')), q _ I1 φ1 H1 e1 s1 (yields_zipT hr rr hr' rr')⟩⟩
      · cases h
    · cases h
  · split at h
    · rename_i hc
      cases h
      simp only [Bool.and_eq_true, decide_eq_true_eq] at hc
      obtain ⟨⟨⟨⟨rfl, hg⟩, pa⟩, pb⟩, pc⟩ := hc
      obtain ⟨m, m', m'', rfl, _, _, _, _, _, _⟩ := p.three_inv
      refine ⟨PI_imp (pi_range3 (x.gl hg) (x.blt _ (by simp [bltNames])) p.pa (star_plain pa) (star_none (by simp [pb, pc]))) ?_, rfl⟩
      rintro σ H R ⟨I, φ, ρ, S, s, en, q⟩
      refine ⟨I, φ, ρ, S, s, en, q.imp fun ws S1 _ h1 => ?_⟩
      intro vs I1 φ1 H1 e1 s1 r1
      obtain ⟨xs, hx, q⟩ := h1
      match ws, hx with
      | [.int i, .int j, .int c], hx =>
        obtain ⟨y, ys, rfl, ry, r2⟩ := r1
        obtain ⟨y', y'', rfl, ry', ry''⟩ := rels_two r2
        obtain rfl := rel_int ry
        obtain rfl := rel_int ry'
        obtain rfl := rel_int ry''
        simp only [itVals] at hx
        split at hx
        · rename_i hj
          cases hx
          simp only [Bool.and_eq_true, decide_eq_true_eq, LIM] at hj
          exact ⟨i, j, c, _, rfl, rgC_up hj.1.2 hj.2 hj.1.1.1 hj.1.1.2, q _ I1 φ1 H1 e1 s1 (yields_rangeC i c _)⟩
        · cases hx
    · cases h
  · split at h
    · rename_i hc
      cases h
      simp only [Bool.and_eq_true, decide_eq_true_eq] at hc
      obtain ⟨⟨rfl, hg⟩, pa⟩ := hc
      obtain ⟨m, rfl, _, _⟩ := p.one_inv
      refine ⟨PI_imp (pi_reversed (x.gl hg) (x.blt _ (by simp [bltNames])) p.pa (star_plain pa)) ?_, rfl⟩
      rintro σ H R ⟨I, φ, ρ, S, s, en, q⟩
      refine ⟨I, φ, ρ, S, s, en, q.imp fun ws S1 _ h1 => ?_⟩
      intro vs I1 φ1 H1 e1 s1 r1
      obtain ⟨xs, hx, q⟩ := h1
      match ws, hx with
      | [.lst zs], hx =>
        cases hx
        obtain ⟨y, rfl, ry⟩ := rels_one r1
        obtain ⟨a, us, rfl, hr, rr⟩ := ry
        exact ⟨a, us, rfl, .inl (rd_mono s1.same hr), q _ I1 φ1 H1 e1 s1 (yields_rev hr rr)⟩
    · cases h
  · split at h
    · rename_i hc
      cases h
      simp only [Bool.and_eq_true, decide_eq_true_eq] at hc
      obtain ⟨⟨⟨⟨rfl, hg⟩, rfl⟩, hg2⟩, pa⟩ := hc
      obtain ⟨m, rfl, _, hm⟩ := p.one_inv
      refine ⟨PI_imp (pi_revR (x.gl hg) (x.blt _ (by simp [bltNames])) (prg_1 (x.gl hg2) (x.blt _ (by simp [bltNames])) hm (star_plain pa)) (star_plain rfl)) ?_, rfl⟩
      rintro σ H R q
      refine tE_mono ?_ (tI_one σ H R q)
      rintro v H1 ⟨I1, φ1, S1, w, xs, s1, r1, hx, q⟩
      match w, hx with
      | .int j, hx =>
        obtain rfl := rel_int r1
        simp only [itVals] at hx
        split at hx
        · rename_i hj
          cases hx
          simp only [decide_eq_true_eq, LIM] at hj
          refine ⟨j, rfl, by omega, by omega, by omega, by omega, q _ ?_⟩
          have := yields_rangeC (G := G) (I := I1) (φ := φ1) (0 + (((j - 0).toNat : Nat) : Int) - 1) (-1) (j - 0).toNat
          have e : ((List.range (j - 0).toNat).map fun (k : Nat) => W.int (0 + (((j - 0).toNat : Nat) : Int) - 1 + k * (-1))) = (List.range j.toNat).map fun (k : Nat) => W.int (j - 1 - k) := by
            rw [Int.sub_zero]
            apply List.map_congr_left
            intro k hk
            have := List.mem_range.mp hk
            congr 1
            omega
          rw [e] at this
          exact this
        · cases hx
    · cases h
  · split at h
    · rename_i hc
      cases h
      obtain ⟨m, rfl, _, hm⟩ := p.one_inv
      refine ⟨PI_imp (pi_list hm) ?_, hc⟩
      intro σ H R q
      refine tE_mono ?_ (tI_one σ H R q)
      rintro v H1 ⟨I1, φ1, S1, w, xs, s1, r1, hx, q⟩
      match w, hx with
      | .lst zs, hx =>
        cases hx
        obtain ⟨a, us, rfl, hr, rr⟩ := r1
        exact ⟨a, rfl, ⟨us, .inl (rd_mono s1.same hr)⟩, q _ (yields_list hr rr)⟩
      | .klst ns, hx =>
        cases hx
        obtain ⟨a, rfl, hr⟩ := r1
        exact ⟨a, rfl, ⟨_, by rw [x.hk]; exact s1.same.seq hr⟩, q _ (yields_klst x.hk hr)⟩
    · cases h
  · split at h
    · rename_i hc
      cases h
      obtain ⟨m, rfl, _, hm⟩ := p.one_inv
      refine ⟨PI_imp (pi_tup hm) ?_, hc⟩
      intro σ H R q
      refine tE_mono ?_ (tI_one σ H R q)
      rintro v H1 ⟨I1, φ1, S1, w, xs, s1, r1, hx, q⟩
      match w, hx with
      | .tup zs, hx =>
        cases hx
        obtain ⟨a, us, rfl, hr, rr⟩ := r1
        exact ⟨a, rfl, ⟨us, .inl (.inl (s1.same _ _ hr))⟩, q _ (yields_tup hr rr)⟩
    · cases h
  · split at h
    · rename_i hc
      cases h
      obtain ⟨m, rfl, _, hm⟩ := p.one_inv
      refine ⟨PI_imp (pi_str hm) ?_, hc⟩
      intro σ H R q
      refine tE_mono ?_ (tI_one σ H R q)
      rintro v H1 ⟨I1, φ1, S1, w, xs, s1, r1, hx, q⟩
      match w, hx with
      | .str zs, hx =>
        cases hx
        obtain rfl : v = _ := r1
        exact ⟨_, rfl, q _ (yields_str zs)⟩
    · cases h
  · cases h
end Tw

namespace Tw
open PySem PySem.Spec PyProof.Rows L2 RT
section
variable {prog : Program} {w : World} {A : Around} {E : Value → Shared → Prop} {s : Shared}
theorem nolen_rit : typeLookup (.type "range_iterator") "__len__" = pure none := by rw [typeLookup_type, builtinLookup_eq_fast]; kernel_rfl
theorem hint_rit : typeLookup (.type "range_iterator") "__length_hint__" = pure (some (.builtin "range_iterator.__length_hint__")) := by rw [typeLookup_type, builtinLookup_eq_fast]; kernel_rfl
theorem ext_rev {R : Result → Shared → Prop} {it l : Addr} {items : Array Value} (hh : A.handled = none) (hit : s.heap.IsRevIter it l ((items.size : Int) - 1)) (hl : s.heap.IsList l items) (hne : l ≠ it) (hn : items.size ≤ sizeLine) (S : Addr) (hSi : S ≠ it) (hSl : S ≠ l) (res : Value) (c₀ : Nat) (hS : s.heap.get? S = some { cls := .type "list", data := .seq #[] c₀ })
    (hR : ∀ h' tk acc' c', (∀ b o, b ≠ S → b ≠ it → s.heap.get? b = some o → h'.get? b = some o) → h'.get? S = some { cls := .type "list", dict := none, data := .seq acc' c', slots := #[] } →
      ItemsOf (fun i v => items[items.size - 1 - i]? = some v) acc' items.size → R (.ok (.ret res)) { s with heap := h', toks := tk }) :
    wpAny (model prog w) A.in1 (Builtin.List.listExtendWith (.ref S) (.ref it) res)
      (fun fin s' => match fin with | .done f => R (.ok f) s' | .again c' => c'.quiet = true ∧ codeAny (model prog w) A c' R s') (fun e s' => R (.error e) s') s := by
  have W := (Walks.listRev (prog := prog) (w := w) (A := A.in1) hh it l hne items).toS
  have hSf : S ∉ [it, l] := by simp only [List.mem_cons, List.not_mem_nil, or_false, not_or]; exact ⟨hSi, hSl⟩
  have hT : s.TypeIs (.ref it) "list_reverseiterator" := hit.typeIs
  have h1 : Builtin.List.listSameRef (.ref S) (.ref it) = false := by simp [Builtin.List.listSameRef, hSi]
  unfold Builtin.List.listExtendWith
  refine wpAny_bind (wpAny_typeOf hT ?_)
  rw [if_neg (by rw [h1]; decide)]
  refine wpAny_bind (wpAny_pyIter_revIter hit ?_)
  refine wpAny_bind (wpAny_holding ?_)
  unfold Builtin.List.listLengthHint
  refine wpAny_bind (wpAny_specialOf hT nolen_lri ?_)
  show wpAny _ A.in1 (specialOf (Value.ref it) (Str.ofString "__length_hint__") >>= _) _ _ _
  refine wpAny_bind (wpAny_specialOf hT hint_lri ?_)
  generalize hid : ("list_reverseiterator.__length_hint__" : String) = id0
  wp_delta
  rw [show splitId id0 = some ("list_reverseiterator", "__length_hint__") from by subst hid; decide +kernel]
  subst hid
  refine wpAny_bind (wpAny_isInstance (b := true) hT (by rw [isSubtype_type]; kernel_rfl) ?_)
  refine wpAny_pure ?_
  rw [if_neg (by decide)]
  have e0 : ((items.size : Nat) : Int) - 1 - ((0 : Nat) : Int) = (items.size : Int) - 1 := by omega
  refine wpAny_pure ⟨plainId_quiet F.plain_extend_loop _, codeAny_extend_loopS W hn _ hSf _ items.size 0 _ _ _ rfl (Nat.zero_le _) ⟨Nat.zero_le _, by rw [e0]; exact hit, hl⟩ hS (ItemsOf.nil _) fun s' acc' c' hm hS' hacc => ?_⟩
  rw [Moved.eq_with hm]
  refine hR s'.heap s'.toks acc' c' (fun b o hb hb2 e => hm.heap b o (fun hmem => ?_) e) hS' hacc
  rcases List.mem_cons.mp hmem with e' | hmem
  · exact hb e'
  · exact hb2 (List.mem_singleton.mp hmem)
theorem call_rit_hint {it : Addr} {a c n : Int} {Q : Value → Shared → Prop} (hit : IsRangeIter s.heap it a n c) (h : Q (.int n s.toks) { s with toks := s.toks + 1 }) : wpAny (model prog w) A (call (.builtin "range_iterator.__length_hint__") [.ref it]) Q E s := by
  refine wpAny_call_entry F.slot_range_iterator_length_hint ⟨_, hit, rfl⟩ F.entry_range_iterator_length_hint ?_ (F.args_range_iterator_length_hint_1 _)
  unfold Builtin.«range_iterator.__length_hint__»
  obtain ⟨hp, g, d, tk, os⟩ := s
  wp_walk using PySem.AutoSeq1.wpAny_loadPart' hit
  exact ⟨_, rfl, h⟩
theorem ext_rit {R : Result → Shared → Prop} {it : Addr} {a c : Int} {n : Nat} (hh : A.handled = none) (hit : IsRangeIter s.heap it a n c) (hn : n ≤ sizeLine) (S : Addr) (hSi : S ≠ it) (res : Value) (c₀ : Nat) (hS : s.heap.get? S = some { cls := .type "list", data := .seq #[] c₀ })
    (hR : ∀ h' tk acc' c', (∀ b o, b ≠ S → b ≠ it → s.heap.get? b = some o → h'.get? b = some o) → h'.get? S = some { cls := .type "list", dict := none, data := .seq acc' c', slots := #[] } →
      ItemsOf (fun i v => ∃ t, v = .int (a + i * c) t) acc' n → R (.ok (.ret res)) { s with heap := h', toks := tk }) :
    wpAny (model prog w) A.in1 (Builtin.List.listExtendWith (.ref S) (.ref it) res)
      (fun fin s' => match fin with | .done f => R (.ok f) s' | .again c' => c'.quiet = true ∧ codeAny (model prog w) A c' R s') (fun e s' => R (.error e) s') s := by
  have W := (Walks.range (prog := prog) (w := w) (A := A.in1) hh it a c n).toS
  have hSf : S ∉ [it] := by simp only [List.mem_cons, List.not_mem_nil, or_false]; exact hSi
  have hT : s.TypeIs (.ref it) "range_iterator" := ⟨_, hit, rfl⟩
  have h1 : Builtin.List.listSameRef (.ref S) (.ref it) = false := by simp [Builtin.List.listSameRef, hSi]
  unfold Builtin.List.listExtendWith
  refine wpAny_bind (wpAny_typeOf hT ?_)
  rw [if_neg (by rw [h1]; decide)]
  refine wpAny_bind (wpAny_pyIter_rangeiter hit ?_)
  refine wpAny_bind (wpAny_holding ?_)
  unfold Builtin.List.listLengthHint
  refine wpAny_bind (wpAny_specialOf hT nolen_rit ?_)
  show wpAny _ A.in1 (specialOf (Value.ref it) (Str.ofString "__length_hint__") >>= _) _ _ _
  refine wpAny_bind (wpAny_specialOf hT hint_rit ?_)
  generalize hid : ("range_iterator.__length_hint__" : String) = id0
  wp_delta
  rw [show splitId id0 = some ("range_iterator", "__length_hint__") from by subst hid; decide +kernel]
  subst hid
  refine wpAny_bind (wpAny_isInstance (b := true) hT (by rw [isSubtype_type]; kernel_rfl) ?_)
  rw [if_neg (by decide), if_pos (by decide +kernel)]
  try dsimp only
  rw [if_pos (by decide +kernel)]
  refine wpAny_bind (call_rit_hint hit ?_)
  refine wpAny_bind (m := asInt? _) (wpAny_pure ?_)
  have htl : Builtin.List.listTooLong ((n : Int).toNat) = false := by simp [Builtin.List.listTooLong]; omega
  refine wpAny_ite_split (fun hab => absurd hab (by rw [htl]; decide)) (fun _ => wpAny_pure (wpAny_pure ?_))
  have e0 : a + ((0 : Nat) : Int) * c = a := by omega
  have e1 : (n : Int) - ((0 : Nat) : Int) = n := by omega
  refine ⟨plainId_quiet F.plain_extend_loop _, codeAny_extend_loopS W hn _ hSf _ n 0 _ _ _ rfl (Nat.zero_le _) (by show IsRangeIter _ _ _ _ _; rw [e0, e1]; exact hit) hS (ItemsOf.nil _) fun s' acc' c' hm hS' hacc => ?_⟩
  rw [Moved.eq_with hm]
  refine hR s'.heap s'.toks acc' c' (fun b o hb hb2 e => hm.heap b o (fun hmem => ?_) e) hS' hacc
  rcases List.mem_cons.mp hmem with e' | hmem
  · exact hb e'
  · exact hb2 (List.mem_singleton.mp hmem)
theorem init_it {R : Result → Shared → Prop} {it : Addr} (S : Addr) (hS : s.heap.get? S = some { cls := .type "list", data := .seq #[] })
    (hx : ∀ (s' : Shared), (∀ b o, b ≠ S → s.heap.get? b = some o → s'.heap.get? b = some o) → s' = { s with heap := s'.heap } → (∃ c₀, s'.heap.get? S = some { cls := .type "list", data := .seq #[] c₀ }) →
      wpAny (model prog w) A.in1 (Builtin.List.listExtendWith (.ref S) (.ref it) .none)
      (fun fin s' => match fin with | .done f => R (.ok f) s' | .again c' => c'.quiet = true ∧ codeAny (model prog w) A c' R s') (fun e s' => R (.error e) s') s') :
    wpAny (model prog w) A.in1 (Builtin.«list.__init__» ⟨[.ref S, .ref it], []⟩)
      (fun fin s' => match fin with | .done f => R (.ok f) s' | .again c' => c'.quiet = true ∧ codeAny (model prog w) A c' R s') (fun e s' => R (.error e) s') s := by
  show wpAny _ _ (do let old ← Builtin.List.listItems (.ref S); Builtin.List.listUpdate (.ref S) (fun _ => #[]); letGo old.toList.reverse; Builtin.List.listExtendWith (.ref S) (.ref it) .none) _ _ s
  refine wpAny_bind ?_
  unfold Builtin.List.listItems
  refine wpAny_bind (wpAny_seqItems hS rfl (wpAny_pure ?_))
  show wpAny _ _ (updateSeq S (fun _ => #[]) >>= fun _ => letGo (#[] : Array Value).toList.reverse >>= fun _ => Builtin.List.listExtendWith (.ref S) (.ref it) .none) _ _ s
  refine wpAny_bind (wpAny_updateSeq hS rfl ?_)
  have hS₂ := Heap.get?_update_self (Obj.mapSeq (fun _ => (#[] : Array Value))) hS rfl
  refine wpAny_bind (wpAny_letGo ?_)
  exact hx _ (fun b o hb e => (Heap.get?_update_other _ _ (Ne.symm hb)).trans e) rfl ⟨_, hS₂⟩
theorem call_list_rev {it l : Addr} {items : Array Value} {Q : Value → Shared → Prop} (hh : A.handled = none) (hit : s.heap.IsRevIter it l ((items.size : Int) - 1)) (hl : s.heap.IsList l items) (hne : l ≠ it) (hn : items.size ≤ sizeLine)
    (hQ : ∀ h' tk acc' c', (∀ b o, b ≠ it → s.heap.get? b = some o → h'.get? b = some o) → h'.get? s.heap.objs.size = some { cls := .type "list", dict := none, data := .seq acc' c', slots := #[] } →
      ItemsOf (fun i v => items[items.size - 1 - i]? = some v) acc' items.size → Q (.ref s.heap.objs.size) { s with heap := h', toks := tk }) :
    wpAny (model prog w) A (call (.type "list") [.ref it]) Q E s := by
  refine callType_codes (Q₁ := fun obj s₁ => obj = .ref s.heap.objs.size ∧ s₁ = { s with heap := s.heap.push { cls := .type "list", data := .seq #[] } }) F.called_list (F.typeCall_list_1 _) F.entry_list_init
    (code_list_new _ ⟨rfl, rfl⟩) fun obj s₁ h₁ => ?_
  obtain ⟨rfl, rfl⟩ := h₁
  obtain ⟨oi, hoi, _⟩ := id hit
  obtain ⟨ol, hol, _⟩ := id hl
  have hSi : s.heap.objs.size ≠ it := Nat.ne_of_gt (Heap.lt_size hoi)
  have hSl : s.heap.objs.size ≠ l := Nat.ne_of_gt (Heap.lt_size hol)
  have hS : (s.heap.push { cls := .type "list", data := .seq #[] }).get? s.heap.objs.size = some { cls := .type "list", data := .seq #[] } := Heap.get?_push_size _ rfl
  refine ⟨⟨_, hS, rfl⟩, F.args_list_init_2 _ _, init_it (A := A.in1) _ hS fun s' hk es ⟨c₀, hS'⟩ => ?_⟩
  have k2 : ∀ b o, s.heap.get? b = some o → s'.heap.get? b = some o := fun b o e => hk b o (Nat.ne_of_lt (Heap.lt_size e)) (Heap.get?_push_of_some _ e)
  have hl' : s'.heap.IsList l items := by
    obtain ⟨o, ho, r⟩ := hl
    exact ⟨o, k2 _ _ ho, r⟩
  refine ext_rev (A := A.in1) hh (hit.at fun o e => k2 _ _ e) hl' hne hn _ hSi hSl _ c₀ hS' fun h' tk acc' c' hk' hS'' hacc => ?_
  rw [es]
  exact ⟨rfl, hQ h' tk acc' c' (fun b o hb e => hk' b o (Nat.ne_of_lt (Heap.lt_size e)) hb (k2 b o e)) hS'' hacc⟩
theorem call_list_rit {it : Addr} {a c : Int} {n : Nat} {Q : Value → Shared → Prop} (hh : A.handled = none) (hit : IsRangeIter s.heap it a n c) (hn : n ≤ sizeLine)
    (hQ : ∀ h' tk acc' c', (∀ b o, b ≠ it → s.heap.get? b = some o → h'.get? b = some o) → h'.get? s.heap.objs.size = some { cls := .type "list", dict := none, data := .seq acc' c', slots := #[] } →
      ItemsOf (fun i v => ∃ t, v = .int (a + i * c) t) acc' n → Q (.ref s.heap.objs.size) { s with heap := h', toks := tk }) :
    wpAny (model prog w) A (call (.type "list") [.ref it]) Q E s := by
  refine callType_codes (Q₁ := fun obj s₁ => obj = .ref s.heap.objs.size ∧ s₁ = { s with heap := s.heap.push { cls := .type "list", data := .seq #[] } }) F.called_list (F.typeCall_list_1 _) F.entry_list_init
    (code_list_new _ ⟨rfl, rfl⟩) fun obj s₁ h₁ => ?_
  obtain ⟨rfl, rfl⟩ := h₁
  have hSi : s.heap.objs.size ≠ it := Nat.ne_of_gt (Heap.lt_size hit)
  have hS : (s.heap.push { cls := .type "list", data := .seq #[] }).get? s.heap.objs.size = some { cls := .type "list", data := .seq #[] } := Heap.get?_push_size _ rfl
  refine ⟨⟨_, hS, rfl⟩, F.args_list_init_2 _ _, init_it (A := A.in1) _ hS fun s' hk es ⟨c₀, hS'⟩ => ?_⟩
  have k2 : ∀ b o, s.heap.get? b = some o → s'.heap.get? b = some o := fun b o e => hk b o (Nat.ne_of_lt (Heap.lt_size e)) (Heap.get?_push_of_some _ e)
  refine ext_rit (A := A.in1) hh (show IsRangeIter s'.heap it a n c from k2 _ _ hit) hn _ hSi _ c₀ hS' fun h' tk acc' c' hk' hS'' hacc => ?_
  rw [es]
  exact ⟨rfl, hQ h' tk acc' c' (fun b o hb e => hk' b o (Nat.ne_of_lt (Heap.lt_size e)) hb (k2 b o e)) hS'' hacc⟩
end
section
variable {X : Cx}
def tLstRev (K : PySem.W.Frag) (te : TE) : TE := fun σ H Q => te σ H fun v H1 => ∃ (a : Addr) (xs : List V), v = .ref a ∧ SqL K H1 a xs ∧ ∀ q, H1 q = none → Q (.ref q) (upd H1 q (.lst xs.reverse))
theorem pe_listRev {e : Expr} {te : TE} {p p2 pos pos2 : Pos} (hc : X.calm = true) (hg : Gl X "list") (hm : X.mg "list" = none) (hg2 : Gl X "reversed") (hm2 : X.mg "reversed" = none) (he : PE X e te)
    (hs : starEach [e] X.env = (false, eval e X.env) :: starEach [] X.env := by rfl)
    (hs2 : starEach [.Call (.Name "reversed" p2) [e] [] pos2] X.env = (false, eval (.Call (.Name "reversed" p2) [e] [] pos2) X.env) :: starEach [] X.env := by rfl) :
    PE X (.Call (.Name "list" p) [.Call (.Name "reversed" p2) [e] [] pos2] [] pos) (tLstRev X.K te) := by
  refine ⟨fun pins s σ H Q I h => ?_⟩
  refine Call_ (ld_blt I hg hm boot_list (PyProof.Rows.callWith_type1 (args_cons (Call_ (ld_blt I hg2 hm2 PyProof.Rows.boot_reversed (PyProof.Rows.callWith_type1 (args_cons (thn (he.run pins s σ H _ I h) fun u s1 ⟨v, H1, I1, r1, q1⟩ => args_nil ?_) hs) hs rfl))) hs2) hs2 rfl))
  obtain ⟨a, xs, ev, hq, q⟩ := q1
  subst ev
  obtain rfl : u = Value.ref a := r1
  obtain ⟨its, rv, p', hz⟩ := I1.list hq
  refine call_reversed_list p'.isList (args_nil ?_)
  have hl := p'.isList
  obtain ⟨ol, hol, _⟩ := id hl
  have hne : a ≠ s1.heap.objs.size := Nat.ne_of_lt (Heap.lt_size hol)
  have hn : its.toArray.size ≤ sizeLine := by rw [List.size_toArray, ← rv.length]; exact hz
  refine call_list_rev (s := { s1 with heap := s1.heap.push (revObj a ((its.toArray.size : Int) - 1)) }) (I1.ok.hd hc) ⟨_, Heap.get?_push_size _ rfl, rfl, rfl⟩ (hl.push _) hne hn fun h' tk acc c' hk e' hi => ?_
  have kk : ∀ b o, s1.heap.get? b = some o → h'.get? b = some o := fun b o e => hk b o (Nat.ne_of_lt (Heap.lt_size e)) (Heap.get?_push_of_some _ e)
  have hp : s1.heap.objs.size ≤ (s1.heap.push (revObj a ((its.toArray.size : Int) - 1))).objs.size := Nat.le_of_lt (Heap.lt_size (Heap.get?_push_size _ rfl))
  refine ⟨.ref (s1.heap.push (revObj a ((its.toArray.size : Int) - 1))).objs.size, upd H1 (s1.heap.push (revObj a ((its.toArray.size : Int) - 1))).objs.size (.lst xs.reverse), I1.laid kk hp (show ObjOk X.prog X.w _ _ _ (.lst xs.reverse) from ⟨?_, acc.toList, c', vals_rev rv hi, ?_⟩), rfl, q _ (I1.hok.fresh hp)⟩
  · rw [List.length_reverse]; exact hz
  · rw [Array.toArray_toList]; exact e'
def tLstRvR (te : L2.St → Hp → (Int → Int → Hp → Prop) → Prop) : TE := fun σ H Q => te σ H fun a b H1 => RgOk a b ∧ ∀ q, H1 q = none → Q (.ref q) (upd H1 q (.lst (rgV a b).reverse))
theorem vals_rvR {a b : Int} {acc : Array Value} (h : ItemsOf (fun i v => ∃ t, v = .int (b - 1 + i * (-1)) t) acc (b - a).toNat) (hab : a ≤ b) : Vals (rgV a b).reverse acc.toList := by
  have e : acc.toList.length = (b - a).toNat := by rw [Array.length_toList]; exact h.1
  have e2 : (rgV a b).reverse = (List.range acc.toList.length).map fun (i : Nat) => V.int (b - 1 - i) := by
    apply List.ext_getElem
    · rw [List.length_reverse, rgV_length, List.length_map, List.length_range, e]
    · intro j h1 h2
      rw [List.length_reverse, rgV_length] at h1
      rw [List.getElem_reverse]
      unfold rgV
      simp only [List.getElem_map, List.getElem_range, List.length_map, List.length_range]
      congr 1
      omega
  rw [e2]
  refine vals_of_get acc.toList _ fun j u hj => ?_
  obtain ⟨t, rfl⟩ := h.2 j u (by rw [← hj, Array.getElem?_toList])
  exact ⟨t, by congr 1; omega⟩
theorem pe_listRvR {e : Expr} {te : L2.St → Hp → (Int → Int → Hp → Prop) → Prop} {p p2 pos pos2 : Pos} (hc : X.calm = true) (hg : Gl X "list") (hm : X.mg "list" = none) (hg2 : Gl X "reversed") (hm2 : X.mg "reversed" = none) (he : PRg X e te)
    (hs : starEach [e] X.env = (false, eval e X.env) :: starEach [] X.env := by rfl)
    (hs2 : starEach [.Call (.Name "reversed" p2) [e] [] pos2] X.env = (false, eval (.Call (.Name "reversed" p2) [e] [] pos2) X.env) :: starEach [] X.env := by rfl) :
    PE X (.Call (.Name "list" p) [.Call (.Name "reversed" p2) [e] [] pos2] [] pos) (tLstRvR te) := by
  refine ⟨fun pins s σ H Q I h => ?_⟩
  refine Call_ (ld_blt I hg hm boot_list (PyProof.Rows.callWith_type1 (args_cons (Call_ (ld_blt I hg2 hm2 PyProof.Rows.boot_reversed (PyProof.Rows.callWith_type1 (args_cons (thn (he pins s σ H _ I h) fun u s1 ⟨r, a, b, t, w1, v, H1, eu, hr, I1, ok, q⟩ => args_nil ?_) hs) hs rfl))) hs2) hs2 rfl))
  subst eu
  obtain ⟨b1, b2, b3, b4, b5⟩ := ok
  have hn : Builtin.Range.rangeSize a b 1 = (((b - a).toNat : Nat) : Int) := rangeSize_nat a b
  refine call_reversed_range hr (smallRev_one b1 b2 b3 b4) (args_nil ?_)
  have hit : IsRangeIter (s1.heap.push (rngRevObj a b 1)) s1.heap.objs.size (a + (Builtin.Range.rangeSize a b 1 - 1) * 1) (((b - a).toNat : Nat) : Int) (-1) := by
    show (s1.heap.push (rngRevObj a b 1)).get? s1.heap.objs.size = _
    rw [← hn]
    exact Heap.get?_push_size _ rfl
  refine call_list_rit (s := { s1 with heap := s1.heap.push (rngRevObj a b 1) }) (I1.ok.hd hc) hit (by rw [sizeLine_eq]; omega) fun h' tk acc c' hk e' hi => ?_
  have kk : ∀ b' o, s1.heap.get? b' = some o → h'.get? b' = some o := fun b' o e => hk b' o (Nat.ne_of_lt (Heap.lt_size e)) (Heap.get?_push_of_some _ e)
  have hp : s1.heap.objs.size ≤ (s1.heap.push (rngRevObj a b 1)).objs.size := Nat.le_of_lt (Heap.lt_size (Heap.get?_push_size _ rfl))
  refine ⟨.ref (s1.heap.push (rngRevObj a b 1)).objs.size, upd H1 (s1.heap.push (rngRevObj a b 1)).objs.size (.lst (rgV a b).reverse), I1.laid kk hp (show ObjOk X.prog X.w _ _ _ (.lst (rgV a b).reverse) from ⟨?_, acc.toList, c', ?_, ?_⟩), rfl, q _ (I1.hok.fresh hp)⟩
  · rw [List.length_reverse, rgV_length, sizeLine_eq]; omega
  · by_cases hab : a ≤ b
    · refine vals_rvR ?_ hab
      refine ⟨hi.1, fun i v hv => ?_⟩
      obtain ⟨t', ht⟩ := hi.2 i v hv
      refine ⟨t', ht.trans ?_⟩
      congr 1
      rw [hn]
      omega
    · have z : (b - a).toNat = 0 := by omega
      rw [z] at hi
      have z2 : acc.toList = [] := List.length_eq_zero_iff.mp (by rw [Array.length_toList]; exact hi.1)
      unfold rgV
      rw [z, z2]
      exact .nil
  · rw [Array.toArray_toList]; exact e'
end
end Tw

namespace Tw
open PySem PySem.Spec PyProof.Rows L2

variable {G : Gx} {I I' I1 I2 H H' H1 H2 : Hp} {φ φ' φ1 φ2 : List Addr} {S S' : Sto} {K : PySem.W.Frag} {X : Cx} {cf : CallF} {T : Tab} {Ex : L2.St → XK} {n : Nat} {sc : Scope}

def binTab : Op → Option Operator
  | .add => some .Add
  | .sub => some .Sub
  | .mul => some .Mult
  | .fdiv => some .FloorDiv
  | .mod => some .Mod
  | .pow => some .Pow
  | _ => none
def cmpTab : Op → Option CmpOp
  | .eq => some .Eq
  | .ne => some .NotEq
  | .lt => some .Lt
  | .le => some .LtE
  | .gt => some .Gt
  | .ge => some .GtE
  | .isin => some .In
  | .notin => some .NotIn
  | _ => none
def callTab : Op → Option (PySem.Str × Value)
  | .len => some ("len", .builtin "len")
  | .list => some ("list", .type "list")
  | .tuple => some ("tuple", .type "tuple")
  | .sorted => some ("sorted", .builtin "sorted")
  | .all => some ("all", .builtin "all")
  | .int => some ("int", .type "int")
  | .min => some ("min", .builtin "min")
  | .max => some ("max", .builtin "max")
  | .str => some ("str", .type "str")
  | .listD => some ("list", .type "list")
  | _ => none
theorem binTab_ok {o : Op} {c : Operator} (h : binTab o = some c) : OpR X (binaryOp c) (fun x y => rOp G o [x, y]) := by
  cases o <;> cases h
  · exact or_add
  · exact or_sub
  · exact or_mul
  · exact or_fdiv
  · exact or_mod
  · exact or_pow
theorem cmpTab_ok {o : Op} {c : CmpOp} (h : cmpTab o = some c) (hu : X.A.units + 65 < cLine) : OpR X (compareOp c) (fun x y => rOp G o [x, y]) := by
  cases o <;> cases h
  · exact or_eq (by omega)
  · exact or_ne (by omega)
  · exact or_lt (by omega)
  · exact or_le (by omega)
  · exact or_gt
  · exact or_ge
  · exact or_in hu
  · exact or_notin hu
theorem sortedSem_lst {ws : List W} {S : Sto} {w : W} (h : opSem .sorted ws S = some w) : ∃ xs, w = .lst xs := by
  simp only [opSem] at h
  split at h
  · rename_i x
    cases hs : sortedSem S x with
    | none => rw [hs] at h; cases h
    | some xs => rw [hs] at h; cases h; exact ⟨xs, rfl⟩
  · cases h
theorem listSem_lst {ws : List W} {S : Sto} {w : W} (h : opSem .list ws S = some w) : ∃ xs, w = .lst xs := by
  simp only [opSem] at h
  split at h
  · rename_i x
    cases hs : seqOf S x with
    | none => rw [hs] at h; cases h
    | some xs => rw [hs] at h; cases h; exact ⟨xs, rfl⟩
  · cases h
def calmOp : Op → Bool
  | .sorted => true
  | .all => true
  | .min => true
  | .max => true
  | .rangeL _ _ => true
  | .listD => true
  | .sortedSet => true
  | .listRev => true
  | .listRevR => true
  | _ => false
theorem callTab_ok {o : Op} {f : PySem.Str} {v : Value} (hk : X.K = G.K) (h : callTab o = some (f, v)) (hc : calmOp o = true → X.calm = true) (hu : X.A.units + 65 < cLine) :
    CallR X v (rOp G o) ∧ bootBuiltins f = some v ∧ f ∈ bltNames ∧ f ≠ "__name__" ∧ (f == ("__debug__" : PySem.Str)) = false ∧ ((∃ id, v = .builtin id) ∨ ∃ t, v = .type t) := by
  cases o <;> cases h
  · exact ⟨or_len hk, by decide +kernel, by simp [bltNames], by decide, by decide, .inl ⟨_, rfl⟩⟩
  · exact ⟨fr_op (or_listF hk) fun _ _ _ => listSem_lst, by decide +kernel, by simp [bltNames], by decide, by decide, .inr ⟨_, rfl⟩⟩
  · exact ⟨or_tuple hk, by decide +kernel, by simp [bltNames], by decide, by decide, .inr ⟨_, rfl⟩⟩
  · exact ⟨fr_op (or_sortedF (hc rfl) (by omega)) fun _ _ _ => sortedSem_lst, by decide +kernel, by simp [bltNames], by decide, by decide, .inl ⟨_, rfl⟩⟩
  · exact ⟨or_all (hc rfl), by decide +kernel, by simp [bltNames], by decide, by decide, .inl ⟨_, rfl⟩⟩
  · exact ⟨or_int, by decide +kernel, by simp [bltNames], by decide, by decide, .inr ⟨_, rfl⟩⟩
  · exact ⟨or_minF (hc rfl) (by omega), by decide +kernel, by simp [bltNames], by decide, by decide, .inl ⟨_, rfl⟩⟩
  · exact ⟨or_max (hc rfl), by decide +kernel, by simp [bltNames], by decide, by decide, .inl ⟨_, rfl⟩⟩
  · exact ⟨or_str, by decide +kernel, by simp [bltNames], by decide, by decide, .inr ⟨_, rfl⟩⟩
  · exact ⟨fr_op (or_listDF (hc rfl)) fun _ _ _ => listDSem_lst, by decide +kernel, by simp [bltNames], by decide, by decide, .inr ⟨_, rfl⟩⟩
def rgOf : Op → Option (Bool × Bool)
  | .rangeL tp two => some (tp, two)
  | _ => none
def rgNm : Bool → PySem.Str
  | true => "tuple"
  | false => "list"
def rgSyn (sc : Scope) (tp two : Bool) (f : PySem.Str) (a : Expr) (as : List Expr) : Option (List Expr) :=
  match as, a with
  | [], .Call (.Name g _) es [] _ => if decide (f = rgNm tp) && isGl sc f && decide (g = ("range" : PySem.Str)) && isGl sc g then (match two, es with
    | false, [x] => some [x]
    | true, [x, y] => some [x, y]
    | _, _ => none) else none
  | _, _ => none
def rvOf : Op → Option Bool
  | .listRev => some false
  | .listRevR => some true
  | _ => none
def rvSyn (sc : Scope) (r : Bool) (f : PySem.Str) (a : Expr) (as : List Expr) : Option (List Expr) :=
  match as, a with
  | [], .Call (.Name g _) [b] [] _ => if decide (f = ("list" : PySem.Str)) && isGl sc f && decide (g = ("reversed" : PySem.Str)) && isGl sc g then (match r, b with
    | false, b => some [b]
    | true, .Call (.Name h _) [c] [] _ => if decide (h = ("range" : PySem.Str)) && isGl sc h then some [c] else none
    | _, _ => none) else none
  | _, _ => none
def isiOf : Op → Option String
  | .isi .int => some "int"
  | .isi .bool => some "bool"
  | .isi .str => some "str"
  | .isi .list => some "list"
  | .isi .tuple => some "tuple"
  | _ => none
theorem isiOf_ok {o : Op} {c : String} (h : isiOf o = some c) : ∃ t, o = .isi t ∧ (match t with | .int => c = "int" | .bool => c = "bool" | .str => c = "str" | .list => c = "list" | .tuple => c = "tuple" | .cls _ => False) ∧ PySem.Str.ofString c ∈ bltNames ∧ bootBuiltins (PySem.Str.ofString c) = some (.type c) ∧ PySem.Str.ofString c ≠ "__name__" ∧ (PySem.Str.ofString c == ("__debug__" : PySem.Str)) = false := by
  unfold isiOf at h
  split at h <;> cases h
  · exact ⟨_, rfl, rfl, by simp [bltNames], by decide +kernel, by decide, by decide⟩
  · exact ⟨_, rfl, rfl, by simp [bltNames], by decide +kernel, by decide, by decide⟩
  · exact ⟨_, rfl, rfl, by simp [bltNames], by decide +kernel, by decide, by decide⟩
  · exact ⟨_, rfl, rfl, by simp [bltNames], by decide +kernel, by decide, by decide⟩
  · exact ⟨_, rfl, rfl, by simp [bltNames], by decide +kernel, by decide, by decide⟩
def opSyn (sc : Scope) (o : Op) (e : Expr) : Option (List Expr) :=
  match e with
  | .BinOp a c b _ => if decide (binTab o = some c) then some [a, b] else none
  | .UnaryOp .USub a _ => match o with
    | .neg => some [a]
    | _ => none
  | .Compare a [c] [b] _ => match o with
    | .isnone => match c, b with
      | .Is, .Constant .none _ _ => some [a]
      | _, _ => none
    | .notnone => match c, b with
      | .IsNot, .Constant .none _ _ => some [a]
      | _, _ => none
    | o => if decide (cmpTab o = some c) then some [a, b] else none
  | .Subscript a (.Slice lo hi none _) _ => match o, lo, hi with
    | .slice false false, none, none => some [a]
    | .slice true false, some l, none => some [a, l]
    | .slice false true, none, some h => some [a, h]
    | .slice true true, some l, some h => some [a, l, h]
    | _, _, _ => none
  | .Subscript a b _ => match o with
    | .idx => some [a, b]
    | _ => none
  | .Call (.Name f _) (a :: as) [] _ => match rvOf o with
    | some r => rvSyn sc r f a as
    | none => match rgOf o with
      | some (tp, two) => rgSyn sc tp two f a as
      | none => match isiOf o with
        | some c => match as with
          | [.Name g _] => if decide (f = ("isinstance" : PySem.Str)) && isGl sc f && decide (g = PySem.Str.ofString c) && isGl sc g then some [a] else none
          | _ => none
        | none => match callTab o with
          | some (g, _) => if decide (f = g) && isGl sc f then some (a :: as) else none
          | none => none
  | .Tuple es _ _ => match o with
    | .tupD => some es
    | _ => none
  | .List es _ => match o with
    | .lstD => some es
    | _ => none
  | _ => none
theorem tCall_ok {o : Op} {f : PySem.Str} {v : Value} {g : PySem.Str} {a : Expr} {as : List Expr} {p pos : Pos} {r : List V → Hp → VK → Prop} {t : TA} (h : callTab o = some (g, v)) (hf : f = g) (hg : isGl sc f = true) (x : XOk T G cf Ex n sc X) (hcm : calmOp o = true → T.cm = true) (hr : CallR X v r) (pl : (a :: as).all plainE = true) (pa : PA X (a :: as) t) :
    PE X (.Call (.Name f p) (a :: as) [] pos) (tCB r t) := by
  subst hf
  obtain ⟨_, h2, h3, h4, h5, h6⟩ := callTab_ok (G := G) x.hk h (fun z => x.calm (hcm z)) x.hu
  have pl1 : plainE a = true := by simp only [List.all_cons, Bool.and_eq_true] at pl; exact pl.1
  have pl2 : as.all plainE = true := by simp only [List.all_cons, Bool.and_eq_true] at pl; exact pl.2
  rcases h6 with ⟨id, rfl⟩ | ⟨t, rfl⟩
  · exact pe_callB hr (x.gl hg) (x.blt _ h3) h2 pa h4 h5 (star_plain pl1) (star_none pl2)
  · exact pe_callTy hr (x.gl hg) (x.blt _ h3) h2 pa h4 h5 (star_plain pl1) (star_none pl2)

theorem evs_nil {ρ : Env} {S : Sto} : evs cf [] ρ S = .ok [] S := by simp [evs]
theorem evs_cons {m : E} {ms : List E} {ρ : Env} {S : Sto} : evs cf (m :: ms) ρ S = (ev cf m ρ S).bind fun w S1 => (evs cf ms ρ S1).bind fun ws S2 => .ok (w :: ws) S2 := by simp [evs]
theorem bind_assoc {α β γ : Type} {r : Rs α} {f : α → Sto → Rs β} {g : β → Sto → Rs γ} : (r.bind f).bind g = r.bind fun a S => (f a S).bind g := by
  cases r <;> rfl
theorem bind_ok {α β : Type} {a : α} {S : Sto} {f : α → Sto → Rs β} : (Rs.ok a S).bind f = f a S := rfl
theorem isn_ok {o : Op} {c : CmpOp} (ho : OpR X (compareOp c) (fun x y H Q => y = .non ∧ rOp G o [x] H Q)) {a : Expr} {m : E} {j} {p pos : Pos} (ha : PE X a (tE G cf Ex m)) (hm : behindInMarks c (.Constant .none j p) = false) :
    PE X (.Compare a [c] [.Constant .none j p] pos) (tE G cf Ex (.op o [m])) ∧ PT X (.Compare a [c] [.Constant .none j p] pos) (tTest (tE G cf Ex (.op o [m]))) := by
  refine ⟨PE_imp (pe_cmpR ho ha pe_non hm) fun σ H Q h => ?_, PT_imp (pt_cmpR ho ha pe_non hm) fun σ H Q h => ?_⟩
  · exact tUn_of (fun x H Q => rOp G o [x] H Q) (fun _ _ _ h => h) σ H _ h |> tE_mono fun v H1 h1 => ⟨rfl, h1⟩
  · exact tUn_of (fun x H Q => rOp G o [x] H Q) (fun _ _ _ h => h) σ H _ h |> tE_mono fun v H1 h1 => ⟨rfl, h1⟩
theorem tT_test {m : E} : ∀ σ H Q, tT G cf Ex m σ H Q → tTest (tE G cf Ex m) σ H Q := by
  rintro σ H Q ⟨I, φ, ρ, S, s, en, h⟩
  refine ⟨I, φ, ρ, S, s, en, h.imp fun w S1 _ h1 => ?_⟩
  obtain ⟨b, rfl, q⟩ := h1
  intro v I1 φ1 H1 e1 s1 r1
  exact ⟨b, r1, q _ _ _ e1 s1⟩
def truE : Expr → Bool
  | .UnaryOp op _ _ => decide (op ≠ .Not)
  | .BoolOp _ _ _ => false
  | .IfExp _ _ _ _ => false
  | .Compare _ _ _ _ => false
  | _ => true
theorem tru_ok {e : Expr} {m : E} (h : PE X e (tE G cf Ex m)) (he : truE e = true) : PT X e (tT G cf Ex m) := by
  refine PT_imp (pt_val h ?_) fun σ H Q h => tT_test σ H Q h
  intro w
  cases e with
  | UnaryOp op a p => cases op <;> first | (simp [truE] at he; done) | rfl
  | _ => first | (simp [truE] at he; done) | rfl
theorem pe_pt {e : Expr} {m : E} (h : PT X e (tTest (tE G cf Ex m))) : PT X e (tT G cf Ex m) := PT_imp h fun σ H Q h => tT_test σ H Q h

theorem ops_step {m : E} {ms : List E} {σ : L2.St} {ρ : Env} {α : Type} {f : List W → Sto → Rs α} {k : α → Sto → Prop} (s : Sim G I φ S H) (en : Envs G I φ ρ σ) (h : Post G (Ex σ) I φ H ((evs cf (m :: ms) ρ S).bind f) k) :
    tE G cf Ex m σ H fun v H1 => ∃ I1 φ1 S1 w, Ext I φ H I1 φ1 H1 ∧ Sim G I1 φ1 S1 H1 ∧ Envs G I1 φ1 ρ σ ∧ Rel G I1 φ1 w v ∧ ev cf m ρ S = .ok w S1 ∧ Post G (Ex σ) I1 φ1 H1 ((evs cf ms ρ S1).bind fun ws S2 => f (w :: ws) S2) k := by
  rw [evs_cons, bind_assoc] at h
  refine tE_step s en (h.bind.imp fun w S1 he h1 => ?_)
  intro v I1 φ1 H1 e1 s1 r1
  refine ⟨I1, φ1, S1, w, e1, s1, en.ext e1, r1, he, ?_⟩
  rw [bind_assoc] at h1
  exact h1.ext e1 fun _ _ _ h => h
def isToI : E → Bool
  | .toI _ => true
  | _ => false
theorem toI_int {m : E} (hm : isToI m = true) {ρ : Env} {S S1 : Sto} {w : W} (h : ev cf m ρ S = .ok w S1) : ∃ i, w = .int i := by
  cases m <;> first | (cases hm; done) | skip
  rename_i a
  simp only [ev] at h
  cases he : ev cf a ρ S with
  | ok x S2 =>
    rw [he] at h
    simp only [Rs.bind] at h
    split at h
    · cases h; exact ⟨_, rfl⟩
    · cases h
  | ex c S2 => rw [he] at h; cases h
  | bad => rw [he] at h; cases h
theorem part_step {m : E} {ms : List E} {σ : L2.St} {ρ : Env} {α : Type} {f : List W → Sto → Rs α} {k : α → Sto → Prop} {Q : Option Int → Hp → Prop} (hm : isToI m = true) (s : Sim G I φ S H) (en : Envs G I φ ρ σ) (h : Post G (Ex σ) I φ H ((evs cf (m :: ms) ρ S).bind f) k)
    (hQ : ∀ i I1 φ1 S1 H1, Ext I φ H I1 φ1 H1 → Sim G I1 φ1 S1 H1 → Envs G I1 φ1 ρ σ → Post G (Ex σ) I1 φ1 H1 ((evs cf ms ρ S1).bind fun ws S2 => f (.int i :: ws) S2) k → Q (some i) H1) : tPart (tE G cf Ex m) σ H Q := by
  refine tE_mono ?_ (ops_step s en h)
  rintro v H1 ⟨I1, φ1, S1, w, e1, s1, en1, r1, he, h1⟩
  obtain ⟨i, rfl⟩ := toI_int hm he
  exact ⟨i, rel_int r1, hQ i I1 φ1 S1 H1 e1 s1 en1 h1⟩
def slK (G : Gx) (fr : Bool) (I : Hp) (φ : List Addr) (H : Hp) (S' : Sto) (w : W) (Q : VK) : Prop := if fr then ∃ xs, w = .lst xs ∧ KF G I φ H S' xs Q else KE G I φ H S' w Q
theorem slK.ext {fr : Bool} {w : W} {Q : VK} (e : Ext I φ H I1 φ1 H1) (h : slK G fr I φ H S w Q) : slK G fr I1 φ1 H1 S w Q := by
  cases fr with
  | true => exact let ⟨xs, hw, k⟩ := h; ⟨xs, hw, k.ext e⟩
  | false => exact KE.ext e h
theorem sl_end {fr : Bool} {x : V} {w z : W} {lo hi : Option Int} {Q : VK} (s : Sim G I φ S H) (r : Rel G I φ z x) (h : sliceSem S z lo hi = some w) (k : slK G fr I φ H S w Q) : rSlice G fr x lo hi H Q :=
  ⟨I, φ, S, z, w, s, r, h, by cases fr <;> exact k⟩
def tG (G : Gx) (cf : CallF) (Ex : L2.St → XK) (fr : Bool) (m : E) : TE := fun σ H Q => ∃ I φ ρ S, Sim G I φ S H ∧ Envs G I φ ρ σ ∧ Post G (Ex σ) I φ H (ev cf m ρ S) fun w S' => slK G fr I φ H S' w Q
theorem slice_tt (fr : Bool) {m ml mh : E} (hl : isToI ml = true) (hh : isToI mh = true) : ∀ σ H Q, tG G cf Ex fr (.op (.slice true true) [m, ml, mh]) σ H Q → tSl (rSlice G fr) (tE G cf Ex m) (tPart (tE G cf Ex ml)) (tPart (tE G cf Ex mh)) σ H Q := by
  rintro σ H Q ⟨I, φ, ρ, S, s, en, h⟩
  simp only [ev] at h
  refine tE_mono ?_ (ops_step s en h)
  rintro v H1 ⟨I1, φ1, S1, w, e1, s1, en1, r1, he, h1⟩
  refine part_step hl s1 en1 h1 fun i I2 φ2 S2 H2 e2 s2 en2 h2 => part_step hh s2 en2 h2 fun j I3 φ3 S3 H3 e3 s3 en3 h3 => ?_
  simp only [evs_nil, bind_ok] at h3
  obtain ⟨z, hz, k⟩ := Post.ofO h3
  exact sl_end s3 ((r1.ext e2).ext e3) (by simpa [opSem, partsOf] using hz) (slK.ext ((e1.trans e2).trans e3) k)
theorem slice_tf (fr : Bool) {m ml : E} (hl : isToI ml = true) : ∀ σ H Q, tG G cf Ex fr (.op (.slice true false) [m, ml]) σ H Q → tSl (rSlice G fr) (tE G cf Ex m) (tPart (tE G cf Ex ml)) tNoPart σ H Q := by
  rintro σ H Q ⟨I, φ, ρ, S, s, en, h⟩
  simp only [ev] at h
  refine tE_mono ?_ (ops_step s en h)
  rintro v H1 ⟨I1, φ1, S1, w, e1, s1, en1, r1, he, h1⟩
  refine part_step hl s1 en1 h1 fun i I2 φ2 S2 H2 e2 s2 en2 h2 => ?_
  simp only [evs_nil, bind_ok] at h2
  obtain ⟨z, hz, k⟩ := Post.ofO h2
  exact sl_end s2 (r1.ext e2) (by simpa [opSem, partsOf] using hz) (slK.ext (e1.trans e2) k)
theorem slice_ft (fr : Bool) {m mh : E} (hh : isToI mh = true) : ∀ σ H Q, tG G cf Ex fr (.op (.slice false true) [m, mh]) σ H Q → tSl (rSlice G fr) (tE G cf Ex m) tNoPart (tPart (tE G cf Ex mh)) σ H Q := by
  rintro σ H Q ⟨I, φ, ρ, S, s, en, h⟩
  simp only [ev] at h
  refine tE_mono ?_ (ops_step s en h)
  rintro v H1 ⟨I1, φ1, S1, w, e1, s1, en1, r1, he, h1⟩
  show tPart (tE G cf Ex mh) σ H1 (fun u H3 => rSlice G fr v none u H3 Q)
  refine part_step hh s1 en1 h1 fun i I2 φ2 S2 H2 e2 s2 en2 h2 => ?_
  simp only [evs_nil, bind_ok] at h2
  obtain ⟨z, hz, k⟩ := Post.ofO h2
  exact sl_end s2 (r1.ext e2) (by simpa [opSem, partsOf] using hz) (slK.ext (e1.trans e2) k)
theorem slice_ff (fr : Bool) {m : E} : ∀ σ H Q, tG G cf Ex fr (.op (.slice false false) [m]) σ H Q → tSl (rSlice G fr) (tE G cf Ex m) tNoPart tNoPart σ H Q := by
  rintro σ H Q ⟨I, φ, ρ, S, s, en, h⟩
  simp only [ev] at h
  refine tE_mono ?_ (ops_step s en h)
  rintro v H1 ⟨I1, φ1, S1, w, e1, s1, en1, r1, he, h1⟩
  simp only [evs_nil, bind_ok] at h1
  obtain ⟨z, hz, k⟩ := Post.ofO h1
  exact sl_end s1 r1 (by simpa [opSem, partsOf] using hz) (slK.ext e1 k)
def opAux : Op → List E → Bool
  | .slice _ _, _ :: r => r.all isToI
  | .slice _ _, [] => false
  | _, _ => true
theorem tG_E {m : E} : ∀ σ H Q, tE G cf Ex m σ H Q → tG G cf Ex false m σ H Q := fun _ _ _ h => h
theorem tG_F {m : E} : ∀ σ H Q, tF G cf Ex m σ H Q → tG G cf Ex true m σ H Q := fun _ _ _ h => h
theorem sliceOk (hk : X.K = G.K) {o : Op} {a : Expr} {lo hi : Option Expr} {p2 pos : Pos} {es : List Expr} {ms : List E} (fr : Bool) (h : opSyn sc o (.Subscript a (.Slice lo hi none p2) pos) = some es) (p : PEs G cf Ex X ms es) (ha : opAux o ms = true) :
    PE X (.Subscript a (.Slice lo hi none p2) pos) (tG G cf Ex fr (.op o ms)) := by
  simp only [opSyn] at h
  split at h
  · cases h
    obtain ⟨m, rfl, _, h1⟩ := p.one_inv
    exact PE_imp (pe_slice (sr_slice hk fr) h1 po_none po_none) (slice_ff fr)
  · cases h
    obtain ⟨m, ml, rfl, _, h1, _, h2⟩ := p.two_inv
    simp [opAux] at ha
    exact PE_imp (pe_slice (sr_slice hk fr) h1 (po_some h2) po_none) (slice_tf fr ha)
  · cases h
    obtain ⟨m, ml, rfl, _, h1, _, h2⟩ := p.two_inv
    simp [opAux] at ha
    exact PE_imp (pe_slice (sr_slice hk fr) h1 po_none (po_some h2)) (slice_ft fr ha)
  · cases h
    obtain ⟨m, ml, mh, rfl, _, h1, _, h2, _, h3⟩ := p.three_inv
    simp [opAux] at ha
    exact PE_imp (pe_slice (sr_slice hk fr) h1 (po_some h2) (po_some h3)) (slice_tt fr ha.1 ha.2)
  · cases h
theorem all_cons {a : Expr} {as : List Expr} (h : (a :: as).all plainE = true) : plainE a = true ∧ as.all plainE = true := by simpa using h
def freshOp : Op → Bool
  | .add => true
  | .mul => true
  | .slice _ _ => true
  | .list => true
  | .sorted => true
  | .lstD => true
  | .rangeL tp _ => !tp
  | .listD => true
  | .listRev => true
  | .listRevR => true
  | _ => false

theorem rels_rg (a n : Int) : Rels G I φ ((List.range (n - a).toNat).map fun (k : Nat) => W.int (a + k)) (rgV a n) := by
  unfold rgV
  have : ∀ l : List Nat, Rels G I φ (l.map fun (k : Nat) => W.int (a + k)) (l.map fun i => V.int (a + (i : Nat))) := by
    intro l
    induction l with
    | nil => exact .nil
    | cons k l ih => exact .cons rfl ih
  exact this _
theorem rgOk_lim {a n : Int} (h1 : -(LIM : Int) < n) (h2 : n < LIM) (h3 : -(LIM : Int) < a) (h4 : a < LIM) : RgOk a n := by
  unfold RgOk
  simp only [LIM] at *
  omega
theorem rg_sem {tp two : Bool} {ws : List W} {S : Sto} {w : W} (h : opSem (.rangeL tp two) ws S = some w) : ∃ a n, (if two then ws = [.int a, .int n] else a = 0 ∧ ws = [.int n]) ∧ RgOk a n ∧ w = rgW tp a n := by
  cases two with
  | false =>
    match ws, h with
    | [.int n], h =>
      simp only [opSem] at h
      split at h
      · rename_i hc
        simp only [decide_eq_true_eq] at hc
        cases h
        exact ⟨0, n, ⟨rfl, rfl⟩, rgOk_lim (by omega) (by omega) (by decide) (by decide), rfl⟩
      · cases h
  | true =>
    match ws, h with
    | [.int a, .int n], h =>
      simp only [opSem] at h
      split at h
      · rename_i hc
        simp only [Bool.and_eq_true, decide_eq_true_eq] at hc
        cases h
        exact ⟨a, n, rfl, rgOk_lim (by omega) (by omega) (by omega) (by omega), rfl⟩
      · cases h
theorem prg_ok {f : PySem.Str} {two : Bool} {es : List Expr} {p pos : Pos} {ms : List E} (hf : f = "range") (hg : isGl sc f = true) (x : XOk T G cf Ex n sc X) (pp : PEs G cf Ex X ms es) (h : two = false ∧ es.length = 1 ∨ two = true ∧ es.length = 2) :
    PRg X (.Call (.Name f p) es [] pos) (fun σ H Q => tA G cf Ex ms σ H fun vs H1 => ∃ a b, (if two then vs = [.int a, .int b] else a = 0 ∧ vs = [.int b]) ∧ Q a b H1) := by
  subst hf
  rcases h with ⟨rfl, hl⟩ | ⟨rfl, hl⟩
  · match es, hl with
    | [e], _ =>
      obtain ⟨m, rfl, p1, h1⟩ := pp.one_inv
      intro pins s σ H Q I q
      refine prg_1 (x.gl hg) (x.blt _ (by simp [bltNames])) h1 (star_plain p1) pins s σ H Q I ?_
      obtain ⟨I2, φ, ρ, S, s2, en, hq⟩ := q
      simp only [evs] at hq
      refine tE_step s2 en (hq.bind.imp fun w S1 _ h2 => ?_)
      intro v I1 φ1 H1 e1 s1 r1
      simp only [Rs.bind] at h2
      obtain ⟨a, b, ⟨rfl, hv⟩, q⟩ := h2 [v] I1 φ1 H1 e1 s1 (Rels.one r1)
      cases hv
      exact ⟨b, rfl, q⟩
  · match es, hl with
    | [e, e'], _ =>
      obtain ⟨m, m', rfl, p1, h1, p2, h2⟩ := pp.two_inv
      intro pins s σ H Q I q
      refine prg_2 (x.gl hg) (x.blt _ (by simp [bltNames])) h1 h2 (star_plain p1) (star_plain p2) (star_none (by simp [p2])) pins s σ H Q I ?_
      obtain ⟨I2, φ, ρ, S, s2, en, hq⟩ := q
      simp only [evs] at hq
      refine tE_step s2 en (hq.bind.imp fun w S1 _ h3 => ?_)
      intro v I1 φ1 H1 e1 s1 r1
      refine tE_step s1 (en.ext e1) (h3.bind.bind.ext e1 fun w2 S2 _ h4 => ?_)
      intro u I3 φ3 H3 e3 s3 r3
      simp only [Rs.bind] at h4
      obtain ⟨a, b, hv, q⟩ := h4 [v, u] I3 φ3 H3 (e1.trans e3) s3 (.cons (r1.ext e3) (Rels.one r3))
      have hv : [v, u] = [V.int a, V.int b] := hv
      cases hv
      exact ⟨a, b, rfl, rfl, q⟩
theorem rg_parts {tp two : Bool} {f : PySem.Str} {a : Expr} {as es : List Expr} (h : rgSyn sc tp two f a as = some es) : as = [] ∧ f = rgNm tp ∧ isGl sc f = true ∧ ∃ g p pos, a = .Call (.Name g p) es [] pos ∧ g = ("range" : PySem.Str) ∧ isGl sc g = true ∧ (two = false ∧ es.length = 1 ∨ two = true ∧ es.length = 2) := by
  unfold rgSyn at h
  split at h
  · split at h
    · rename_i hc
      simp only [Bool.and_eq_true, decide_eq_true_eq] at hc
      obtain ⟨⟨⟨h1, h2⟩, h3⟩, h4⟩ := hc
      split at h
      · cases h; exact ⟨rfl, h1, h2, _, _, _, rfl, h3, h4, .inl ⟨rfl, rfl⟩⟩
      · cases h; exact ⟨rfl, h1, h2, _, _, _, rfl, h3, h4, .inr ⟨rfl, rfl⟩⟩
      · cases h
    · cases h
  · cases h
theorem rg_val {two : Bool} {a n : Int} {ws : List W} {vs : List V} (h : if two then ws = [.int a, .int n] else a = 0 ∧ ws = [.int n]) (r : Rels G I φ ws vs) : if two then vs = [V.int a, V.int n] else a = 0 ∧ vs = [V.int n] := by
  cases two with
  | false =>
    obtain ⟨rfl, rfl⟩ := h
    obtain ⟨y, rfl, ry⟩ := rels_one r
    obtain rfl := rel_int ry
    exact ⟨rfl, rfl⟩
  | true =>
    have h : ws = [.int a, .int n] := h
    subst h
    obtain ⟨y, y', rfl, ry, ry'⟩ := rels_two r
    obtain rfl := rel_int ry
    obtain rfl := rel_int ry'
    rfl
theorem rgOkF {o : Op} {tp two : Bool} {f : PySem.Str} {a : Expr} {as es : List Expr} {ms : List E} {p pos : Pos} (hf : freshOp o = true) (hr : rgOf o = some (tp, two)) (h : rgSyn sc tp two f a as = some es) (x : XOk T G cf Ex n sc X) (hcm : T.cm = true) (pp : PEs G cf Ex X ms es) :
    PE X (.Call (.Name f p) (a :: as) [] pos) (tF G cf Ex (.op o ms)) := by
  cases o <;> cases hr
  obtain ⟨rfl, h1, h2, g, p2, pos2, rfl, h3, h4, h5⟩ := rg_parts h
  cases tp with
  | true => cases hf
  | false =>
    have h1 : f = ("list" : PySem.Str) := h1
    subst h1
    refine PE_imp (pe_listRg (x.calm hcm) (x.gl h2) (x.blt _ (by simp [bltNames])) (prg_ok h3 h4 x pp h5) (by rfl)) fun σ H Q q => ?_
    obtain ⟨I2, φ, ρ, S, s2, en, hq⟩ := q
    simp only [ev] at hq
    refine ⟨I2, φ, ρ, S, s2, en, hq.bind.imp fun ws S1 _ hk => ?_⟩
    intro vs I1 φ1 H1 e1 s1 r1
    obtain ⟨w, hw, xs, rfl, k⟩ := Post.ofO hk
    obtain ⟨a, n, hws, hok, hwr⟩ := rg_sem hw
    refine ⟨a, n, rg_val hws r1, hok, fun q hqn => ?_⟩
    have : xs = (List.range (n - a).toNat).map fun (k : Nat) => W.int (a + k) := by
      unfold rgW at hwr
      rw [if_neg Bool.false_ne_true] at hwr
      injection hwr
    subst this
    refine (KF.ext e1 k).here s1 hqn (rels_rg a n) ?_
    rw [rgV_length]
    exact hok.2.2.2.2
theorem rgOk {o : Op} {tp two : Bool} {f : PySem.Str} {a : Expr} {as es : List Expr} {ms : List E} {p pos : Pos} (hr : rgOf o = some (tp, two)) (h : rgSyn sc tp two f a as = some es) (x : XOk T G cf Ex n sc X) (hcm : T.cm = true) (pp : PEs G cf Ex X ms es) :
    PE X (.Call (.Name f p) (a :: as) [] pos) (tE G cf Ex (.op o ms)) := by
  cases tp with
  | false =>
    have hf : freshOp o = true := by cases o <;> cases hr; rfl
    refine PE_imp (rgOkF hf hr h x hcm pp) (tE_tF fun ρ S w S' he => ?_)
    cases o <;> cases hr
    simp only [ev] at he
    cases hv : evs cf ms ρ S with
    | ok ws S1 =>
      rw [hv] at he
      simp only [Rs.bind] at he
      cases ho : opSem (.rangeL false two) ws S1 with
      | none => rw [ho] at he; cases he
      | some u =>
        rw [ho] at he
        cases he
        obtain ⟨a, n, _, _, hw⟩ := rg_sem ho
        exact ⟨_, hw⟩
    | ex c S1 => rw [hv] at he; cases he
    | bad => rw [hv] at he; cases he
  | true =>
    cases o <;> cases hr
    obtain ⟨rfl, h1, h2, g, p2, pos2, rfl, h3, h4, h5⟩ := rg_parts h
    have h1 : f = ("tuple" : PySem.Str) := h1
    subst h1
    refine PE_imp (pe_tupRg (x.calm hcm) (x.gl h2) (x.blt _ (by simp [bltNames])) (prg_ok h3 h4 x pp h5) (by rfl)) fun σ H Q q => ?_
    obtain ⟨I2, φ, ρ, S, s2, en, hq⟩ := q
    simp only [ev] at hq
    refine ⟨I2, φ, ρ, S, s2, en, hq.bind.imp fun ws S1 _ hk => ?_⟩
    intro vs I1 φ1 H1 e1 s1 r1
    obtain ⟨w, hw, k⟩ := Post.ofO hk
    obtain ⟨a, n, hws, hok, rfl⟩ := rg_sem hw
    refine ⟨a, n, rg_val hws r1, hok, fun q hqn => ?_⟩
    exact (KE.ext e1 k).tup s1 hqn (rels_rg a n)
theorem rv_parts {r : Bool} {f : PySem.Str} {a : Expr} {as es : List Expr} (h : rvSyn sc r f a as = some es) : as = [] ∧ f = ("list" : PySem.Str) ∧ isGl sc f = true ∧ ∃ g p b pos, a = .Call (.Name g p) [b] [] pos ∧ g = ("reversed" : PySem.Str) ∧ isGl sc g = true ∧ (r = false ∧ es = [b] ∨ r = true ∧ ∃ h p2 c pos2, b = .Call (.Name h p2) [c] [] pos2 ∧ h = ("range" : PySem.Str) ∧ isGl sc h = true ∧ es = [c]) := by
  unfold rvSyn at h
  split at h
  · split at h
    · rename_i hc
      simp only [Bool.and_eq_true, decide_eq_true_eq] at hc
      obtain ⟨⟨⟨h1, h2⟩, h3⟩, h4⟩ := hc
      split at h
      · cases h; exact ⟨rfl, h1, h2, _, _, _, _, rfl, h3, h4, .inl ⟨rfl, rfl⟩⟩
      · split at h
        · rename_i hd
          simp only [Bool.and_eq_true, decide_eq_true_eq] at hd
          cases h
          exact ⟨rfl, h1, h2, _, _, _, _, rfl, h3, h4, .inr ⟨rfl, _, _, _, _, rfl, hd.1, hd.2, rfl⟩⟩
        · cases h
      · cases h
    · cases h
  · cases h
theorem rv_lst {o : Op} {r : Bool} {ws : List W} {S : Sto} {w : W} (hr : rvOf o = some r) (h : opSem o ws S = some w) : ∃ xs, w = .lst xs := by
  match ws, h with
  | [], h => cases o <;> cases hr <;> simp [opSem] at h
  | [x], h =>
    cases o <;> cases hr
    · simp only [opSem, Option.bind_eq_some_iff] at h
      obtain ⟨ys, _, h⟩ := h
      split at h
      · cases h; exact ⟨_, rfl⟩
      · cases h
    · cases x with
      | int n =>
        have e : opSem .listRevR [.int n] S = if decide (n.natAbs < LIM) then some (.lst ((List.range n.toNat).map fun (j : Nat) => W.int (n - 1 - j))) else none := by simp [opSem]
        rw [e] at h
        split at h
        · cases h; exact ⟨_, rfl⟩
        · cases h
      | _ => simp [opSem] at h
  | x :: y :: r, h => cases o <;> cases hr <;> simp [opSem] at h
theorem rels_rvR (n : Int) : Rels G I φ ((List.range n.toNat).map fun (j : Nat) => W.int (n - 1 - j)) (rgV 0 n).reverse := by
  have e : (rgV 0 n).reverse = (List.range n.toNat).map fun (j : Nat) => V.int (n - 1 - j) := by
    apply List.ext_getElem
    · rw [List.length_reverse, rgV_length, List.length_map, List.length_range]; congr 1; omega
    · intro j h1 h2
      rw [List.length_reverse, rgV_length] at h1
      rw [List.getElem_reverse]
      unfold rgV
      simp only [List.getElem_map, List.getElem_range, List.length_map, List.length_range]
      congr 1
      omega
  rw [e]
  have : ∀ l : List Nat, Rels G I φ (l.map fun (j : Nat) => W.int (n - 1 - j)) (l.map fun (j : Nat) => V.int (n - 1 - j)) := by
    intro l
    induction l with
    | nil => exact .nil
    | cons k l ih => exact .cons rfl ih
  exact this _
theorem rvOkF {o : Op} {r : Bool} {f : PySem.Str} {a : Expr} {as es : List Expr} {ms : List E} {p pos : Pos} (hr : rvOf o = some r) (h : rvSyn sc r f a as = some es) (x : XOk T G cf Ex n sc X) (hcm : T.cm = true) (pp : PEs G cf Ex X ms es) :
    PE X (.Call (.Name f p) (a :: as) [] pos) (tF G cf Ex (.op o ms)) := by
  obtain ⟨rfl, h1, h2, g, p2, b, pos2, rfl, h3, h4, h5⟩ := rv_parts h
  subst h1 h3
  rcases h5 with ⟨rfl, rfl⟩ | ⟨rfl, hh, p3, c, pos3, rfl, h6, h7, rfl⟩
  · have ho : o = .listRev := by cases o <;> cases hr; rfl
    subst ho
    obtain ⟨m, rfl, pb, hb⟩ := pp.one_inv
    refine PE_imp (pe_listRev (x.calm hcm) (x.gl h2) (x.blt _ (by simp [bltNames])) (x.gl h4) (x.blt _ (by simp [bltNames])) hb (star_plain pb) (by rfl)) fun σ H Q q => ?_
    obtain ⟨I, φ, ρ, S, s, en, hq⟩ := q
    simp only [ev, evs_cons, evs_nil, bind_assoc, bind_ok] at hq
    refine tE_step s en (hq.bind.imp fun w S1 _ hk => ?_)
    intro v I1 φ1 H1 e1 s1 r1
    obtain ⟨w2, hw, xs, rfl, k⟩ := Post.ofO hk
    simp only [opSem, Option.bind_eq_some_iff] at hw
    obtain ⟨ys, hy, hw⟩ := hw
    split at hw
    · rename_i hl
      cases hw
      obtain ⟨q, vs, rfl, sq, rv⟩ := lstRel (K := X.K) s1 r1 hy
      refine ⟨q, vs, rfl, sq, fun l hln => ?_⟩
      exact (KF.ext e1 k).here s1 hln rv.reverse (by rw [List.length_reverse, rv.length]; exact Nat.le_of_lt (lim_ok hl))
    · cases hw
  · have ho : o = .listRevR := by cases o <;> cases hr; rfl
    subst ho h6
    obtain ⟨m, rfl, pb, hb⟩ := pp.one_inv
    refine PE_imp (pe_listRvR (x.calm hcm) (x.gl h2) (x.blt _ (by simp [bltNames])) (x.gl h4) (x.blt _ (by simp [bltNames])) (prg_1 (x.gl h7) (x.blt _ (by simp [bltNames])) hb (star_plain pb)) (by rfl) (by rfl)) fun σ H Q q => ?_
    obtain ⟨I, φ, ρ, S, s, en, hq⟩ := q
    simp only [ev, evs_cons, evs_nil, bind_assoc, bind_ok] at hq
    refine tE_step s en (hq.bind.imp fun w S1 _ hk => ?_)
    intro v I1 φ1 H1 e1 s1 r1
    obtain ⟨w2, hw, xs, rfl, k⟩ := Post.ofO hk
    cases w with
    | int n =>
      have e : opSem .listRevR [.int n] S1 = if decide (n.natAbs < LIM) then some (.lst ((List.range n.toNat).map fun (j : Nat) => W.int (n - 1 - j))) else none := by simp [opSem]
      rw [e] at hw
      split at hw
      · rename_i hl
        cases hw
        obtain rfl := rel_int r1
        have hl := of_decide_eq_true hl
        have ok : RgOk 0 n := rgOk_lim (by omega) (by omega) (by simp only [LIM]; omega) (by simp only [LIM]; omega)
        refine ⟨n, rfl, ok, fun q hqn => ?_⟩
        refine (KF.ext e1 k).here s1 hqn (rels_rvR n) ?_
        rw [List.length_reverse, rgV_length]
        exact ok.2.2.2.2
      · cases hw
    | _ => simp [opSem] at hw
theorem rvOk {o : Op} {r : Bool} {f : PySem.Str} {a : Expr} {as es : List Expr} {ms : List E} {p pos : Pos} (hr : rvOf o = some r) (h : rvSyn sc r f a as = some es) (x : XOk T G cf Ex n sc X) (hcm : T.cm = true) (pp : PEs G cf Ex X ms es) :
    PE X (.Call (.Name f p) (a :: as) [] pos) (tE G cf Ex (.op o ms)) := by
  refine PE_imp (rvOkF hr h x hcm pp) (tE_tF fun ρ S w S' he => ?_)
  simp only [ev] at he
  cases hv : evs cf ms ρ S with
  | ok ws S1 =>
    rw [hv] at he
    simp only [Rs.bind] at he
    cases ho : opSem o ws S1 with
    | none => rw [ho] at he; cases he
    | some u =>
      rw [ho] at he
      cases he
      exact rv_lst hr ho
  | ex c S1 => rw [hv] at he; cases he
  | bad => rw [hv] at he; cases he
theorem isiOk {o : Op} {c : String} {a : Expr} {m : E} {p1 p2 pos : Pos} (hc : isiOf o = some c) (x : XOk T G cf Ex n sc X) (g1 : isGl sc "isinstance" = true) (g2 : isGl sc (PySem.Str.ofString c) = true) (pl : plainE a = true) (ha : PE X a (tE G cf Ex m)) :
    PE X (.Call (.Name "isinstance" p1) [a, .Name (PySem.Str.ofString c) p2] [] pos) (tE G cf Ex (.op o [m])) := by
  obtain ⟨t, rfl, ht, hb, hv, hn, hd⟩ := isiOf_ok hc
  refine PE_imp (pe_callB (call_isi (X := X)) (x.gl g1) (x.blt _ (by simp [bltNames])) (by decide +kernel) (pa_cons ha (pa_cons (pe_bltn (v := .ty c) (x.gl g2) (x.blt _ hb) hv rfl hn hd) pa_nil (by rfl)) (star_plain pl)) (by decide) (by decide) (star_plain pl) (by rfl)) ?_
  intro σ H Q h
  refine tUn_of (fun y H Q => rIsi X.K [y, .ty c] H Q) ?_ σ H Q h
  rintro y H Q ⟨I, φ, S, ws, w, s, rs, e, k⟩
  obtain ⟨a, rfl, r⟩ := rels1 rs
  simp only [opSem, Option.map_eq_some_iff] at e
  obtain ⟨b, hb2, rfl⟩ := e
  obtain ⟨T, C, ty, kb, hC⟩ := isi_ty (K := X.K) s r hb2
  have : C = c := by cases t <;> simp_all
  subst this
  exact ⟨y, .ty C, .type T, .type C, b, rfl, .ty C, ty, kit_ty kb, k.here s rfl⟩
theorem opOk {o : Op} {e : Expr} {es : List Expr} {ms : List E} (h : opSyn sc o e = some es) (x : XOk T G cf Ex n sc X) (hcm : calmOp o = true → T.cm = true) (p : PEs G cf Ex X ms es) (hx : opAux o ms = true) : PE X e (tE G cf Ex (.op o ms)) := by
  have h0 := h
  unfold opSyn at h
  split at h
  · split at h
    · rename_i hb
      cases h
      obtain ⟨m, m', rfl, _, h1, _, h2⟩ := p.two_inv
      exact PE_imp (pe_op (binTab_ok (of_decide_eq_true hb)) h1 h2) (tOp_of _ fun _ _ _ _ h => h)
    · cases h
  · split at h
    · cases h
      obtain ⟨m, rfl, _, h1⟩ := p.one_inv
      exact PE_imp (pe_un or_neg h1) (tUn_of _ fun _ _ _ h => h)
    · cases h
  · split at h
    · split at h
      · cases h
        obtain ⟨m, rfl, _, h1⟩ := p.one_inv
        exact (isn_ok or_isnone h1 rfl).1
      · cases h
    · split at h
      · cases h
        obtain ⟨m, rfl, _, h1⟩ := p.one_inv
        exact (isn_ok or_notnone h1 rfl).1
      · cases h
    · split at h
      · rename_i hb
        cases h
        obtain ⟨m, m', rfl, _, h1, p2, h2⟩ := p.two_inv
        exact PE_imp (pe_cmpR (cmpTab_ok (of_decide_eq_true hb) x.hu) h1 h2 (marks_ok p2)) (tOp_of _ fun _ _ _ _ h => h)
      · cases h
  · exact PE_imp (sliceOk x.hk false h0 p hx) tG_E
  · split at h
    · cases h
      obtain ⟨m, m', rfl, _, h1, p2, h2⟩ := p.two_inv
      exact PE_imp (pe_ix (or_idx x.hk (by have := x.hu; omega)) h1 h2 (plainIx_ok p2)) (tOp_of _ fun _ _ _ _ h => h)
    · cases h
  · split at h
    · rename_i r hr
      exact rvOk hr h x (hcm (by cases o <;> first | (cases hr; done) | rfl)) p
    · split at h
      · rename_i tp two hr
        exact rgOk hr h x (hcm (by cases o <;> first | (cases hr; done) | rfl)) p
      · split at h
        · rename_i c hc
          split at h
          · split at h
            · rename_i hb
              cases h
              simp only [Bool.and_eq_true, decide_eq_true_eq] at hb
              obtain ⟨⟨⟨rfl, g1⟩, rfl⟩, g2⟩ := hb
              obtain ⟨m, rfl, p1, h1⟩ := p.one_inv
              exact isiOk hc x g1 g2 p1 h1
            · cases h
          · cases h
        · split at h
          · rename_i g v hc
            split at h
            · rename_i hb
              cases h
              simp only [Bool.and_eq_true, decide_eq_true_eq] at hb
              exact PE_imp (tCall_ok hc hb.1 hb.2 x hcm (callTab_ok (G := G) x.hk hc (fun z => x.calm (hcm z)) x.hu).1 p.all p.pa) tCB_of
            · cases h
          · cases h
  · split at h
    · cases h
      refine PE_imp (pe_tup p.pa) fun σ H Q ⟨I, φ, ρ, S, s, en, h⟩ => ?_
      simp only [ev] at h
      refine ⟨I, φ, ρ, S, s, en, h.bind.imp fun ws S1 _ h1 => ?_⟩
      intro vs I1 φ1 H1 e1 s1 r1
      obtain ⟨w, hw, k⟩ := Post.ofO h1
      simp only [opSem] at hw
      split at hw
      · rename_i hl
        cases hw
        exact ⟨by rw [r1.length]; exact Nat.le_of_lt (lim_ok hl), fun q hq => (KE.ext e1 k).tup s1 hq r1⟩
      · cases hw
    · cases h
  · split at h
    · cases h
      refine PE_imp (pe_lst p.pa) fun σ H Q ⟨I, φ, ρ, S, s, en, h⟩ => ?_
      simp only [ev] at h
      refine ⟨I, φ, ρ, S, s, en, h.bind.imp fun ws S1 _ h1 => ?_⟩
      intro vs I1 φ1 H1 e1 s1 r1
      obtain ⟨w, hw, k⟩ := Post.ofO h1
      simp only [opSem] at hw
      split at hw
      · rename_i hl
        cases hw
        have hl' : vs.length ≤ sizeLine := by rw [r1.length]; exact Nat.le_of_lt (lim_ok hl)
        exact ⟨hl', fun q hq => (KE.ext e1 k).toKF.here s1 hq r1 hl'⟩
      · cases hw
    · cases h
  · cases h
theorem opOkT {o : Op} {e : Expr} {es : List Expr} {ms : List E} (h : opSyn sc o e = some es) (x : XOk T G cf Ex n sc X) (hcm : calmOp o = true → T.cm = true) (p : PEs G cf Ex X ms es) (hx : opAux o ms = true) : PT X e (tT G cf Ex (.op o ms)) := by
  by_cases ht : truE e = true
  · exact tru_ok (opOk h x hcm p hx) ht
  · unfold opSyn at h
    split at h
    · exact absurd rfl ht
    · exact absurd rfl ht
    · split at h
      · split at h
        · cases h
          obtain ⟨m, rfl, _, h1⟩ := p.one_inv
          exact pe_pt (isn_ok or_isnone h1 rfl).2
        · cases h
      · split at h
        · cases h
          obtain ⟨m, rfl, _, h1⟩ := p.one_inv
          exact pe_pt (isn_ok or_notnone h1 rfl).2
        · cases h
      · split at h
        · rename_i hb
          cases h
          obtain ⟨m, m', rfl, _, h1, p2, h2⟩ := p.two_inv
          exact pe_pt (PT_imp (pt_cmpR (cmpTab_ok (of_decide_eq_true hb) x.hu) h1 h2 (marks_ok p2)) fun σ H Q h => tOp_of _ (fun _ _ _ _ h => h) σ H _ h)
        · cases h
    all_goals first | exact absurd rfl ht | cases h
theorem opOkF {o : Op} {e : Expr} {es : List Expr} {ms : List E} (hf : freshOp o = true) (h : opSyn sc o e = some es) (x : XOk T G cf Ex n sc X) (hcm : calmOp o = true → T.cm = true) (p : PEs G cf Ex X ms es) (hx : opAux o ms = true) : PE X e (tF G cf Ex (.op o ms)) := by
  have h0 := h
  unfold opSyn at h
  split at h
  · split at h
    · rename_i hb
      cases h
      obtain ⟨m, m', rfl, _, h1, _, h2⟩ := p.two_inv
      cases o <;> first | (cases hf; done) | (simp [binTab] at hb; done) | skip
      · simp [binTab] at hb
        subst hb
        exact PE_imp (pe_op or_addF h1 h2) (tOpF_of _ fun _ _ _ _ h => h)
      · simp [binTab] at hb
        subst hb
        exact PE_imp (pe_op or_mulF h1 h2) (tOpF_of _ fun _ _ _ _ h => h)
    · cases h
  · split at h
    · cases hf
    · cases h
  · split at h
    · cases hf
    · cases hf
    · split at h
      · rename_i hb
        cases o <;> first | (cases hf; done) | (simp [cmpTab] at hb; done)
      · cases h
  · exact PE_imp (sliceOk x.hk true h0 p hx) tG_F
  · split at h
    · cases hf
    · cases h
  · split at h
    · rename_i r hr
      exact rvOkF hr h x (hcm (by cases o <;> first | (cases hr; done) | rfl)) p
    · split at h
      · rename_i tp two hr
        exact rgOkF hf hr h x (hcm (by cases o <;> first | (cases hr; done) | rfl)) p
      · split at h
        · rename_i c hc
          cases o <;> first | (cases hf; done) | (cases hc; done)
        · split at h
          · rename_i g v hc
            split at h
            · rename_i hb
              cases h
              simp only [Bool.and_eq_true, decide_eq_true_eq] at hb
              cases o <;> first | (cases hf; done) | (cases hc; done) | skip
              · cases hc
                exact PE_imp (tCall_ok (o := .list) rfl hb.1 hb.2 x hcm (or_listF x.hk) p.all p.pa) tCBF_of
              · cases hc
                exact PE_imp (tCall_ok (o := .sorted) rfl hb.1 hb.2 x hcm (or_sortedF (x.calm (hcm rfl)) (by have := x.hu; omega)) p.all p.pa) tCBF_of
              · cases hc
                exact PE_imp (tCall_ok (o := .listD) rfl hb.1 hb.2 x hcm (or_listDF (x.calm (hcm rfl))) p.all p.pa) tCBF_of
            · cases h
          · cases h
  · split at h
    · cases hf
    · cases h
  · split at h
    · cases h
      refine PE_imp (pe_lst p.pa) fun σ H Q ⟨I, φ, ρ, S, s, en, h⟩ => ?_
      simp only [ev] at h
      refine ⟨I, φ, ρ, S, s, en, h.bind.imp fun ws S1 _ h1 => ?_⟩
      intro vs I1 φ1 H1 e1 s1 r1
      obtain ⟨w, hw, xs, rfl, k⟩ := Post.ofO h1
      simp only [opSem] at hw
      split at hw
      · rename_i hl
        cases hw
        have hl' : vs.length ≤ sizeLine := by rw [r1.length]; exact Nat.le_of_lt (lim_ok hl)
        exact ⟨hl', fun q hq => (KF.ext e1 k).here s1 hq r1 hl'⟩
      · cases hw
    · cases h
  · cases h
end Tw

namespace Tw
open PySem PySem.Spec PyProof.Rows L2

variable {G : Gx} {I I' I1 I2 H H' H1 H2 : Hp} {φ φ' φ1 φ2 : List Addr} {S S' : Sto} {K : PySem.W.Frag} {X : Cx} {cf : CallF} {T : Tab} {Ex : L2.St → XK} {n : Nat} {sc : Scope}

def effTab : Eff → Option PySem.Str
  | .append => some "append"
  | .clear => some "clear"
  | .pop0 => some "pop"
  | .pop1 => some "pop"
  | .reverse => some "reverse"
  | .insert => some "insert"
  | .extend => some "extend"
  | .setd => some "setdefault"
  | .dpop => some "pop"
  | _ => none
def tyS : MTy → String
  | .list => "list"
  | .dict => "dict"
  | .str => "str"
theorem effTab_ok {o : Eff} {nm : PySem.Str} (h : effTab o = some nm) (hu : X.A.units + 65 < cLine) : ∃ id, PlainAttrs (tyS (effTy o)) ∧ Slot (tyS (effTy o)) nm id ∧ typeOf (.builtin id) = pure (.type "method_descriptor") ∧ MtR X id (fun x xs => rEff G o (x :: xs)) := by
  cases o <;> cases h
  · exact ⟨_, PySem.F.plainAttrs_list, PySem.F.slot_list_append, PySem.F.type_list_append, or_append⟩
  · exact ⟨_, PySem.F.plainAttrs_list, PySem.F.slot_list_extend, PySem.F.type_list_extend, or_extend⟩
  · exact ⟨_, PySem.F.plainAttrs_list, PySem.F.slot_list_clear, PySem.F.type_list_clear, or_clear⟩
  · exact ⟨_, PySem.F.plainAttrs_list, PySem.F.slot_list_pop, PySem.F.type_list_pop, or_pop0⟩
  · exact ⟨_, PySem.F.plainAttrs_list, PySem.F.slot_list_pop, PySem.F.type_list_pop, or_pop1⟩
  · exact ⟨_, PySem.F.plainAttrs_list, PySem.F.slot_list_insert, PySem.F.type_list_insert, or_insert⟩
  · exact ⟨_, PySem.F.plainAttrs_list, PySem.F.slot_list_reverse, PySem.F.type_list_reverse, or_reverse⟩
  · exact ⟨_, PySem.F.plainAttrs_dict, PySem.F.slot_dict_pop, PySem.F.type_dict_pop, or_dpop⟩
  · exact ⟨_, PySem.F.plainAttrs_dict, PySem.F.slot_dict_setdefault, PySem.F.type_dict_setdefault, or_setd (by omega)⟩
def mthTab : MTy → Op → Option PySem.Str
  | .list, .mIndex => some "index"
  | .list, .mCount => some "count"
  | .dict, .mGet2 => some "get"
  | .dict, .mGet1 => some "get"
  | .str, .mJoin => some "join"
  | .str, .mFind => some "find"
  | .str, .mStarts => some "startswith"
  | _, _ => none
theorem mthTab_ok {t : MTy} {o : Op} {nm : PySem.Str} (hk : X.K = G.K) (h : mthTab t o = some nm) (hu : X.A.units + 65 < cLine) : ∃ id, PlainAttrs (tyS t) ∧ Slot (tyS t) nm id ∧ typeOf (.builtin id) = pure (.type "method_descriptor") ∧ MtR X id (fun x xs => rOp G o (x :: xs)) := by
  cases t <;> cases o <;> cases h
  · exact ⟨_, PySem.F.plainAttrs_list, PySem.F.slot_list_index, PySem.F.type_list_index, or_index hu⟩
  · exact ⟨_, PySem.F.plainAttrs_list, PySem.F.slot_list_count, PySem.F.type_list_count, or_count⟩
  · exact ⟨_, PySem.F.plainAttrs_dict, PySem.F.slot_dict_get, PySem.F.type_dict_get, or_get2 (by omega)⟩
  · exact ⟨_, PySem.F.plainAttrs_dict, PySem.F.slot_dict_get, PySem.F.type_dict_get, or_get1 (by omega)⟩
  · exact ⟨_, PySem.F.plainAttrs_str, PySem.F.slot_str_join, PySem.F.type_str_join, or_join hk⟩
  · exact ⟨_, PySem.F.plainAttrs_str, PySem.F.slot_str_find, PySem.F.type_str_find, or_find⟩
  · exact ⟨_, PySem.F.plainAttrs_str, PySem.F.slot_str_startswith, PySem.F.type_str_startswith, or_starts⟩
theorem tyV_of {w : W} {v : V} {t : MTy} (s : Sim G I φ S H) (r : Rel G I φ w v) (h : tyOk t w S = true) : tyV K (tyS t) v H := by
  cases t with
  | list =>
    simp only [tyOk] at h
    cases w with
    | lst xs =>
      obtain ⟨a, vs, rfl, ha, _⟩ := r
      exact .inl ⟨rfl, vs, .inl (rd_mono s.same ha)⟩
    | ref m =>
      obtain ⟨a, rfl, ha⟩ := r
      simp only [lstOf] at h
      split at h
      · rename_i xs hS
        obtain ⟨vs, h1, _⟩ := s.cell m a _ ha hS
        exact .inl ⟨rfl, vs, .inl (.inl h1)⟩
      · cases h
    | _ => simp [lstOf] at h
  | dict =>
    simp only [tyOk] at h
    cases hd : dicOf S w with
    | none => rw [hd] at h; cases h
    | some q =>
      obtain ⟨b, ks, vs⟩ := q
      cases b with
      | false =>
        obtain ⟨a, kvs, rfl, ha, _, _⟩ := dicRelK s r hd
        exact .inr (.inr (.inl ⟨rfl, .inl ⟨kvs, ha⟩⟩))
      | true =>
        obtain ⟨a, kvs, rfl, ha, _, _⟩ := dicRelT s r hd
        exact .inr (.inr (.inl ⟨rfl, .inr ⟨kvs, ha⟩⟩))
  | str =>
    simp only [tyOk] at h
    split at h
    · obtain rfl : v = _ := r
      rfl
    · cases h
theorem few_ok {es : List Expr} {cpos : Pos} {env : PySem.Env} (h : es.all plainE = true) (hl : es.length < 30) :
    ((backTo cpos (starEach es env)).all (fun x => !x.1) && (backToKw cpos (keywordEach [] env)).all (fun x => x.1.isSome) && decide (es.length + ([] : List Keyword).length + (if ([] : List Keyword).isEmpty then 0 else 1) < 30)) = true := by
  have h1 : (backTo cpos (starEach es env)).all (fun x => !x.1) = true := by
    rw [List.all_eq_true]
    intro y hy
    have := star_none (env := env) (pos := cpos) h
    rw [List.any_eq_false] at this
    simpa using this y hy
  have h2 : (backToKw cpos (keywordEach [] env)).all (fun x => x.1.isSome) = true := rfl
  rw [h1, h2]
  simpa using hl
def mthSyn (nm : PySem.Str) (e : Expr) : Option (Expr × List Expr) :=
  match e with
  | .Call (.Attribute o f apos) es [] cpos => if decide (f = nm) && baseE o && (apos.endLine == cpos.line) && decide (es.length < 30) then some (o, es) else none
  | _ => none

theorem tA_nil {σ : L2.St} {Q : List V → Hp → Prop} (h : tA G cf Ex [] σ H Q) : Q [] H := by
  obtain ⟨I, φ, ρ, S, s, en, h⟩ := h
  rw [evs_nil] at h
  exact h [] I φ H (Ext.refl _ _ _) s rfl
theorem mthE {nm : PySem.Str} {e o : Expr} {es : List Expr} {id : String} {r : V → List V → Hp → VK → Prop} {a : E} {ms : List E} {ty : String} (h : mthSyn nm e = some (o, es)) (pat : PlainAttrs ty) (slot : Slot ty nm id) (hty : typeOf (.builtin id) = pure (.type "method_descriptor")) (hm : MtR X id r) (ho : PE X o (tE G cf Ex a)) (p : PEs G cf Ex X ms es) :
    PE X e fun σ H Q => tE G cf Ex a σ H fun x H1 => tyV X.K ty x H1 ∧ tA G cf Ex ms σ H1 fun xs H2 => r x xs H2 Q := by
  unfold mthSyn at h
  split at h
  · split at h
    · rename_i hc
      cases h
      simp only [Bool.and_eq_true, decide_eq_true_eq] at hc
      obtain ⟨⟨⟨rfl, hb⟩, hl⟩, hn⟩ := hc
      cases p with
      | nil =>
        refine PE_imp (pe_bm0 pat slot hty hm ho (base_ok hb) hl) fun σ H Q q => tE_mono ?_ q
        rintro v H1 ⟨h1, h2⟩
        exact ⟨h1, tA_nil h2⟩
      | cons hp h1 t =>
        have pa := (PEs.cons hp h1 t).pa
        have al := (PEs.cons hp h1 t).all
        exact pe_bm pat slot hty hm ho pa (base_ok hb) (few_ok al hn) hl (star_plain hp) (star_none t.all)
    · cases h
  · cases h
theorem mthOk {t : MTy} {o : Op} {nm : PySem.Str} {e b : Expr} {es : List Expr} {a : E} {ms : List E} (hn : mthTab t o = some nm) (h : mthSyn nm e = some (b, es)) (x : XOk T G cf Ex n sc X) (ho : PE X b (tE G cf Ex a)) (p : PEs G cf Ex X ms es) : PE X e (tE G cf Ex (.mth t o a ms)) := by
  obtain ⟨id, h0, h1, h2, h3⟩ := mthTab_ok (G := G) x.hk hn x.hu
  refine PE_imp (mthE h h0 h1 h2 h3 ho p) fun σ H Q ⟨I, φ, ρ, S, s, en, q⟩ => ?_
  simp only [ev] at q
  refine tE_step s en (q.bind.imp fun w S1 _ h1 => ?_)
  intro v I1 φ1 H1 e1 s1 r1
  split at h1
  · rename_i ht
    refine ⟨tyV_of s1 r1 ht, I1, φ1, ρ, S1, s1, en.ext e1, h1.bind.ext e1 fun ws S2 _ h2 => ?_⟩
    intro vs I2 φ2 H2 e2 s2 r2
    obtain ⟨w', hw, k⟩ := Post.ofO h2
    exact ⟨I2, φ2, S2, _, w', s2, .cons (r1.ext e2) r2, hw, KE.ext (e1.trans e2) k⟩
  · exact h1.elim
theorem effOk {o : Eff} {nm : PySem.Str} {e b : Expr} {es : List Expr} {a : E} {ms : List E} (hn : effTab o = some nm) (h : mthSyn nm e = some (b, es)) (x : XOk T G cf Ex n sc X) (ho : PE X b (tE G cf Ex a)) (p : PEs G cf Ex X ms es) : PE X e (tE G cf Ex (.eff o a ms)) := by
  obtain ⟨id, h0, h1, h2, h3⟩ := effTab_ok (G := G) (X := X) hn x.hu
  refine PE_imp (mthE h h0 h1 h2 h3 ho p) fun σ H Q ⟨I, φ, ρ, S, s, en, q⟩ => ?_
  simp only [ev] at q
  refine tE_step s en (q.bind.imp fun w S1 _ h1 => ?_)
  intro v I1 φ1 H1 e1 s1 r1
  split at h1
  · rename_i ht
    refine ⟨tyV_of s1 r1 ht, I1, φ1, ρ, S1, s1, en.ext e1, h1.bind.ext e1 fun ws S2 _ h2 => ?_⟩
    intro vs I2 φ2 H2 e2 s2 r2
    split at h2
    · rename_i w' S3 hw
      exact ⟨I2, φ2, S2, _, w', S3, s2, .cons (r1.ext e2) r2, hw, KE.ext (e1.trans e2) h2⟩
    · exact h2.elim
  · exact h1.elim

structure Holds (b : Bool) (I1 : Hp) (φ1 : List Addr) (S1 : Sto) (H1 : Hp) (J : Hp) : Prop where
  i : b = false → ∀ a o, I1 a = some o → J a = some o
  t : ∀ a vs, I1 a = some (.tup vs) → J a = some (.tup vs)
  c : ∀ (m : Nat) (a : Addr) (o : Ob), φ1[m]? = some a → S1[m]? = some o → o ≠ .dead → J a = H1 a
theorem subL_keyl {b : Bool} {g : Nat → Option W} : ∀ {ks : List Key} {ks' : List W}, subL b g (ks.map kW) = some ks' → ks' = ks.map kW
  | [], _, e => by cases e; rfl
  | k :: r, _, e => by
    simp only [List.map_cons, subL, Option.bind_eq_some_iff, Option.map_eq_some_iff] at e
    obtain ⟨w', hw, ws', hws, rfl⟩ := e
    rw [subL_keyl hws]
    cases k <;> (simp only [kW, sub] at hw; cases hw; rfl)
theorem subL_keys {b : Bool} {g : Nat → Option W} : ∀ {kvs : List (Key × V)} {ks' : List W}, subL b g (kvs.map fun p => kW p.1) = some ks' → ks' = kvs.map fun p => kW p.1
  | [], _, e => by cases e; rfl
  | (k, v) :: r, _, e => by
    simp only [List.map_cons, subL, Option.bind_eq_some_iff, Option.map_eq_some_iff] at e
    obtain ⟨w', hw, ws', hws, rfl⟩ := e
    rw [subL_keys hws]
    cases k <;> (simp only [kW, sub] at hw; cases hw; rfl)
theorem subL_keysT {b : Bool} {g : Nat → Option W} : ∀ {kvs : List (List Key × V)} {ks' : List W}, subL b g (kvs.map fun p => W.tup (p.1.map kW)) = some ks' → ks' = kvs.map fun p => W.tup (p.1.map kW)
  | [], _, e => by cases e; rfl
  | (k, v) :: r, _, e => by
    simp only [List.map_cons, subL, Option.bind_eq_some_iff, Option.map_eq_some_iff] at e
    obtain ⟨w', hw, ws', hws, rfl⟩ := e
    rw [subL_keysT hws]
    simp only [sub, Option.map_eq_some_iff] at hw
    obtain ⟨ys, hy, rfl⟩ := hw
    rw [subL_keyl hy]
    rfl
mutual
theorem sub_rel {b : Bool} {g : Nat → Option W} {J : Hp} {ψ : List Addr} (hi : b = false → ∀ a o, I1 a = some o → J a = some o) (ht : ∀ a vs, I1 a = some (.tup vs) → J a = some (.tup vs)) (hg : ∀ m w a, g m = some w → φ1[m]? = some a → Rel G J ψ w (.ref a)) : ∀ {w w' : W} {v : V}, sub b g w = some w' → Rel G I1 φ1 w v → Rel G J ψ w' v
  | .non, _, _, e, h => by cases e; exact h
  | .bl _, _, _, e, h => by cases e; exact h
  | .int _, _, _, e, h => by cases e; exact h
  | .str _, _, _, e, h => by cases e; exact h
  | .tup xs, _, _, e, h => by
    simp only [sub, Option.map_eq_some_iff] at e
    obtain ⟨ys, hy, rfl⟩ := e
    obtain ⟨a, vs, rfl, ha, r⟩ := h
    exact ⟨a, vs, rfl, ht _ _ ha, subL_rel hi ht hg hy r⟩
  | .lst xs, _, _, e, h => by
    simp only [sub] at e
    split at e
    · cases e
    · rename_i hb
      have hi' := hi (by simpa using hb)
      simp only [Option.map_eq_some_iff] at e
      obtain ⟨ys, hy, rfl⟩ := e
      obtain ⟨a, vs, rfl, ha, r⟩ := h
      exact ⟨a, vs, rfl, hi' _ _ ha, subL_rel hi ht hg hy r⟩
  | .dic t ks xs, _, _, e, h => by
    simp only [sub] at e
    split at e
    · cases e
    · rename_i hb
      have hi' := hi (by simpa using hb)
      simp only [Option.bind_eq_some_iff, Option.map_eq_some_iff] at e
      obtain ⟨ks', hk, ys, hy, rfl⟩ := e
      cases t with
      | false =>
        obtain ⟨a, kvs, rfl, ha, rfl, r⟩ := h
        refine ⟨a, kvs, rfl, hi' _ _ ha, ?_, subL_rel hi ht hg hy r⟩
        exact subL_keys hk
      | true =>
        obtain ⟨a, kvs, rfl, ha, rfl, r⟩ := h
        refine ⟨a, kvs, rfl, hi' _ _ ha, ?_, subL_rel hi ht hg hy r⟩
        exact subL_keysT hk
  | .rcd c xs, _, _, e, h => by
    simp only [sub] at e
    split at e
    · cases e
    · rename_i hb
      have hi' := hi (by simpa using hb)
      simp only [Option.map_eq_some_iff] at e
      obtain ⟨ys, hy, rfl⟩ := e
      obtain ⟨a, dx, fs, rfl, ha, hf, r⟩ := h
      exact ⟨a, dx, fs, rfl, hi' _ _ ha, hf, subL_rel hi ht hg hy r⟩
  | .ref m, _, _, e, h => by
    obtain ⟨a, rfl, ha⟩ := h
    exact hg m _ a e ha
  | .exn c, _, _, e, h => by
    simp only [sub] at e
    split at e
    · cases e
    · rename_i hb
      have hi' := hi (by simpa using hb)
      cases e
      obtain ⟨a, rfl, ha, hk⟩ := h
      exact ⟨a, rfl, hi' _ _ ha, hk⟩
  | .klst ns, _, _, e, h => by
    simp only [sub] at e
    split at e
    · cases e
    · rename_i hb
      have hi' := hi (by simpa using hb)
      cases e
      obtain ⟨a, rfl, ha⟩ := h
      exact ⟨a, rfl, Same.seq hi' ha⟩
theorem subL_rel {b : Bool} {g : Nat → Option W} {J : Hp} {ψ : List Addr} (hi : b = false → ∀ a o, I1 a = some o → J a = some o) (ht : ∀ a vs, I1 a = some (.tup vs) → J a = some (.tup vs)) (hg : ∀ m w a, g m = some w → φ1[m]? = some a → Rel G J ψ w (.ref a)) : ∀ {ws ws' : List W} {vs : List V}, subL b g ws = some ws' → Rels G I1 φ1 ws vs → Rels G J ψ ws' vs
  | [], _, _, e, h => by cases e; exact h
  | w :: ws, _, _, e, h => by
    simp only [subL, Option.bind_eq_some_iff, Option.map_eq_some_iff] at e
    obtain ⟨w', hw, ws', hws, rfl⟩ := e
    obtain ⟨x, xs, rfl, r, rr⟩ := h
    exact ⟨x, xs, rfl, sub_rel hi ht hg hw r, subL_rel hi ht hg hws rr⟩
end
theorem lev_rel {b : Bool} {J : Hp} {ψ : List Addr} (s : Sim G I1 φ1 S H1) (hj : Holds b I1 φ1 S H1 J) : ∀ (k : Nat) (m : Nat) (w : W) (a : Addr), lev b S k m = some w → φ1[m]? = some a → Rel G J ψ w (.ref a)
  | 0, m, w, a, e, h => by cases e
  | k + 1, m, w, a, e, h => by
    simp only [lev, cellW] at e
    have ih := lev_rel (b := b) (ψ := ψ) s hj k
    split at e
    · rename_i xs hS
      simp only [Option.map_eq_some_iff] at e
      obtain ⟨ys, hy, rfl⟩ := e
      obtain ⟨vs, h1, r⟩ := s.cell m a _ h hS
      exact ⟨a, vs, rfl, (by rw [hj.c m a _ h hS (by simp)]; exact h1), subL_rel hj.i hj.t ih hy r⟩
    · rename_i t ks xs hS
      simp only [Option.bind_eq_some_iff, Option.map_eq_some_iff] at e
      obtain ⟨ks', hk, ys, hy, rfl⟩ := e
      cases t with
      | false =>
        obtain ⟨kvs, h1, rfl, r⟩ := s.cell m a _ h hS
        exact ⟨a, kvs, rfl, by rw [hj.c m a _ h hS (by simp)]; exact h1, subL_keys hk, subL_rel hj.i hj.t ih hy r⟩
      | true =>
        obtain ⟨kvs, h1, rfl, r⟩ := s.cell m a _ h hS
        exact ⟨a, kvs, rfl, by rw [hj.c m a _ h hS (by simp)]; exact h1, subL_keysT hk, subL_rel hj.i hj.t ih hy r⟩
    · rename_i c xs hS
      simp only [Option.map_eq_some_iff] at e
      obtain ⟨ys, hy, rfl⟩ := e
      obtain ⟨dx, fs, h1, hf, r⟩ := s.cell m a _ h hS
      exact ⟨a, dx, fs, rfl, by rw [hj.c m a _ h hS (by simp)]; exact h1, hf, subL_rel hj.i hj.t ih hy r⟩
    · cases e
theorem vw_rel {J : Hp} {ψ : List Addr} {w w' : W} {v : V} (s : Sim G I1 φ1 S H1) (hj : Holds false I1 φ1 S H1 J) (e : vw S w = some w') (r : Rel G I1 φ1 w v) : Rel G J ψ w' v := sub_rel hj.i hj.t (lev_rel s hj 3) e r
theorem vwB_rel {J : Hp} {ψ : List Addr} {w w' : W} {v : V} (s : Sim G I1 φ1 S H1) (hj : Holds true I1 φ1 S H1 J) (e : vwB S w = some w') (r : Rel G I1 φ1 w v) : Rel G J ψ w' v := sub_rel hj.i hj.t (lev_rel s hj 3) e r
theorem vws_rel {J : Hp} {ψ : List Addr} {ws ws' : List W} {vs : List V} (s : Sim G I1 φ1 S H1) (hj : Holds false I1 φ1 S H1 J) (e : vws S ws = some ws') (r : Rels G I1 φ1 ws vs) : Rels G J ψ ws' vs := subL_rel hj.i hj.t (lev_rel s hj 3) e r
end Tw

namespace Tw
open PySem PySem.Spec PyProof.Rows L2

variable {G : Gx} {I I' I1 I2 H H' H1 H2 : Hp} {φ φ' φ1 φ2 : List Addr} {S S' S1 : Sto} {K : PySem.W.Frag} {X : Cx} {cf : CallF} {T : Tab} {Ex : L2.St → XK} {n : Nat} {sc : Scope}

open Classical in
noncomputable def snap (b : Bool) (I : Hp) (φ : List Addr) (S : Sto) (H : Hp) : Hp := fun a => if (I a).isSome = true then I a else if b = true ∧ ∃ (m : Nat) (o : Ob), φ[m]? = some a ∧ S[m]? = some o ∧ o ≠ .dead then H a else none
theorem snap_i {b : Bool} {a : Addr} {o : HO} (h : I a = some o) : snap b I φ S H a = some o := by
  unfold snap
  rw [if_pos (by rw [h]; rfl), h]
theorem snap_cases {b : Bool} {a : Addr} {o : HO} (h : snap b I φ S H a = some o) : I a = some o ∨ (b = true ∧ H a = some o ∧ ∃ (m : Nat) (o : Ob), φ[m]? = some a ∧ S[m]? = some o ∧ o ≠ .dead) := by
  unfold snap at h
  split at h
  · exact .inl h
  · split at h
    · rename_i q; exact .inr ⟨q.1, h, q.2⟩
    · cases h
theorem snap_sim {b : Bool} (s : Sim G I φ S H) : Sim G (snap b I φ S H) [] [] H where
  same := fun a o h => by
    rcases snap_cases h with h | ⟨_, h, _⟩
    · exact s.same _ _ h
    · exact h
  len := rfl
  nd := List.nodup_nil
  out := fun n a o h => by simp at h
  old := fun n a h => by simp at h
  cell := fun n a o h => by simp at h
theorem snap_holds (s : Sim G I φ S H) : Holds false I φ S H (snap true I φ S H) where
  i := fun _ a o h => snap_i h
  t := fun a o h => snap_i h
  c := fun m a o h h1 h2 => by
    unfold snap
    rw [if_neg (by rw [s.out m a o h h1 h2]; simp), if_pos ⟨rfl, m, o, h, h1, h2⟩]
mutual
theorem sub_rfree {b : Bool} {g : Nat → Option W} : ∀ {w w' : W}, rfree w = true → sub b g w = some w' → w' = w
  | .non, _, _, e => by cases e; rfl
  | .bl _, _, _, e => by cases e; rfl
  | .int _, _, _, e => by cases e; rfl
  | .str _, _, _, e => by cases e; rfl
  | .exn _, _, _, e => by
    simp only [sub] at e
    split at e
    · cases e
    · cases e; rfl
  | .klst _, _, _, e => by
    simp only [sub] at e
    split at e
    · cases e
    · cases e; rfl
  | .ref _, _, h, _ => by simp [rfree] at h
  | .tup xs, _, h, e => by
    simp only [sub, Option.map_eq_some_iff] at e
    obtain ⟨ys, hy, rfl⟩ := e
    simp only [rfree] at h
    rw [subL_rfree h hy]
  | .lst xs, _, h, e => by
    simp only [sub] at e
    split at e
    · cases e
    · simp only [Option.map_eq_some_iff] at e
      obtain ⟨ys, hy, rfl⟩ := e
      simp only [rfree] at h
      rw [subL_rfree h hy]
  | .dic t ks xs, _, h, e => by
    simp only [sub] at e
    split at e
    · cases e
    · simp only [Option.bind_eq_some_iff, Option.map_eq_some_iff] at e
      obtain ⟨ks', hk, ys, hy, rfl⟩ := e
      simp only [rfree, Bool.and_eq_true] at h
      rw [subL_rfree h.1 hk, subL_rfree h.2 hy]
  | .rcd c xs, _, h, e => by
    simp only [sub] at e
    split at e
    · cases e
    · simp only [Option.map_eq_some_iff] at e
      obtain ⟨ys, hy, rfl⟩ := e
      simp only [rfree] at h
      rw [subL_rfree h hy]
theorem subL_rfree {b : Bool} {g : Nat → Option W} : ∀ {ws ws' : List W}, rfreeL ws = true → subL b g ws = some ws' → ws' = ws
  | [], _, _, e => by cases e; rfl
  | w :: ws, _, h, e => by
    simp only [subL, Option.bind_eq_some_iff, Option.map_eq_some_iff] at e
    obtain ⟨w', hw, ws', hws, rfl⟩ := e
    simp only [rfreeL, Bool.and_eq_true] at h
    rw [sub_rfree h.1 hw, subL_rfree h.2 hws]
end
open Classical in
noncomputable def after (I H H' : Hp) : Hp := fun a => if (I a).isSome = true then I a else if H a = none then H' a else if ∃ vs, H a = some (.tup vs) then H a else none
theorem after_sim (s : Sim G I φ S H) {b : Bool} (e : Ext (snap b I φ S H) [] H I' φ' H') (s' : Sim G I' φ' S' H') : Sim G (after I H H') φ S H' ∧ Ext I φ H (after I H H') φ H' := by
  have hI : ∀ a o, I a = some o → H' a = some o := fun a o h => s'.same _ _ (e.same _ _ (snap_i h))
  have sI : Same I (after I H H') := fun a o h => by unfold after; rw [if_pos (by rw [h]; rfl), h]
  have fr : ∀ a o, H a = some o → H' a = some o := fun a o h => e.frame a o (by simp) h
  refine ⟨⟨fun a o h => ?_, s.len, s.nd, fun m a o h h1 h2 => ?_, fun m a h => e.keep a (s.old m a h), fun m a o h h1 => ?_⟩, sI, ⟨[], by simp, by simp⟩, fun a o _ h => fr a o h, e.keep, fun a h => ?_⟩
  · unfold after at h
    split at h
    · exact hI a o h
    · split at h
      · exact h
      · split at h
        · exact fr a o h
        · cases h
  · unfold after
    rw [if_neg (by rw [s.out m a o h h1 h2]; simp), if_neg (fun z => by have := s.old m a h; rw [z] at this; cases this), if_neg]
    rintro ⟨vs, z⟩
    have := s.cell m a o h h1
    cases o with
    | lst _ => obtain ⟨_, z2, _⟩ := this; rw [z] at z2; cases z2
    | dic t _ _ =>
      cases t with
      | false => obtain ⟨_, z2, _⟩ := this; rw [z] at z2; cases z2
      | true => obtain ⟨_, z2, _⟩ := this; rw [z] at z2; cases z2
    | ins _ _ => obtain ⟨_, _, z2, _⟩ := this; rw [z] at z2; cases z2
    | dead => exact h2 rfl
  · exact (s.cell m a o h h1).mono sI (Pre.refl _) (fr a)
  · unfold after at h
    split at h
    · exact .inl (by assumption)
    · split at h
      · exact .inr (.inl (by assumption))
      · split at h
        · exact .inr (.inr (.inr (by assumption)))
        · cases h
theorem after_holds (s : Sim G I φ S H) {b : Bool} (e : Ext (snap b I φ S H) [] H I' φ' H') (s' : Sim G I' φ' S' H') : Holds b I' φ' S' H' (after I H H') := by
  have key : ∀ a o, I' a = some o → (b = true → ∃ vs, o = .tup vs) → after I H H' a = some o := fun a o h hb => by
    rcases e.fresh a (by rw [h]; rfl) with q | q | q | ⟨vs, q⟩
    · cases hs : snap b I φ S H a with
      | none => rw [hs] at q; cases q
      | some o' =>
        have := e.same _ _ hs
        rw [h] at this
        cases this
        rcases snap_cases hs with z | ⟨z, z2, m, ob, h1, h2, h3⟩
        · unfold after
          rw [if_pos (by rw [z]; rfl), z]
        · obtain ⟨vs, rfl⟩ := hb z
          have := s.cell m a ob h1 h2
          cases ob with
          | lst _ => obtain ⟨_, z3, _⟩ := this; rw [z2] at z3; cases z3
          | dic t _ _ =>
            cases t with
            | false => obtain ⟨_, z3, _⟩ := this; rw [z2] at z3; cases z3
            | true => obtain ⟨_, z3, _⟩ := this; rw [z2] at z3; cases z3
          | ins _ _ => obtain ⟨_, _, z3, _⟩ := this; rw [z2] at z3; cases z3
          | dead => exact absurd rfl h3
    · unfold after
      by_cases hi : (I a).isSome = true
      · cases hI : I a with
        | none => rw [hI] at hi; cases hi
        | some o' => have := s.same _ _ hI; rw [q] at this; cases this
      · rw [if_neg hi, if_pos q]
        exact s'.same _ _ h
    · simp at q
    · have h1 := e.frame a _ (by simp) q
      have h2 := s'.same _ _ h
      rw [h1] at h2
      cases h2
      unfold after
      by_cases hi : (I a).isSome = true
      · cases hI : I a with
        | none => rw [hI] at hi; cases hi
        | some o' => have := s.same _ _ hI; rw [q] at this; cases this; simp
      · rw [if_neg hi, if_neg (by rw [q]; simp), if_pos ⟨vs, q⟩]
        exact q
  refine ⟨fun hb a o h => key a o h (fun z => by rw [hb] at z; cases z), fun a vs h => key a _ h (fun _ => ⟨vs, rfl⟩), fun m a o h h1 h2 => ?_⟩
  obtain ⟨ψ, hψ, hn⟩ := e.pre
  have hH : H a = none := hn a (by rw [hψ] at h; exact List.mem_of_getElem? (by simpa using h))
  unfold after
  rw [if_neg (fun z => by
    cases hI : I a with
    | none => rw [hI] at z; cases z
    | some o' => have := s.same _ _ hI; rw [hH] at this; cases this), if_pos hH]
theorem Sim.kill (s : Sim G I φ S H) (m : Nat) : Sim G I φ (S.set m .dead) H where
  same := s.same
  len := by rw [List.length_set]; exact s.len
  nd := s.nd
  out := fun k a o h h1 h2 => by
    rw [List.getElem?_set] at h1
    split at h1
    · split at h1
      · cases h1; exact absurd rfl h2
      · cases h1
    · exact s.out k a o h h1 h2
  old := s.old
  cell := fun k a o h h1 => by
    rw [List.getElem?_set] at h1
    split at h1
    · split at h1
      · cases h1; exact True.intro
      · cases h1
    · exact s.cell k a o h h1
theorem shS_get {b : Bool} {g : Nat → Option W} : ∀ {S S'' : Sto}, shS b g S = some S'' → S''.length = S.length ∧ ∀ (m : Nat) (o' : Ob), S''[m]? = some o' → ∃ o, S[m]? = some o ∧ shO b g o = some o'
  | [], _, h => by cases h; exact ⟨rfl, fun m o' h => by simp at h⟩
  | o :: S, S'', h => by
    simp only [shS, Option.bind_eq_some_iff, Option.map_eq_some_iff] at h
    obtain ⟨o1, h1, S1, h2, rfl⟩ := h
    obtain ⟨l, q⟩ := shS_get h2
    refine ⟨by simp [l], fun m o' hm => ?_⟩
    cases m with
    | zero => simp at hm; subst hm; exact ⟨o, rfl, h1⟩
    | succ m => exact q m o' (by simpa using hm)
open Classical in
noncomputable def moved (I : Hp) (H : Hp) (φ' : List Addr) (S' : Sto) (H' : Hp) : Hp := fun a => if ∃ (m : Nat) (o : Ob), φ'[m]? = some a ∧ S'[m]? = some o ∧ o ≠ .dead then none else after I H H' a
theorem move_sim (s : Sim G I φ S H) {b : Bool} (e : Ext (snap b I φ S H) [] H I' φ' H') (s' : Sim G I' φ' S' H') {S2 : Sto} (hS : shS b (shR S.length) S' = some S2) :
    Sim G (moved I H φ' S' H') (φ ++ φ') (S ++ S2) H' ∧ Ext I φ H (moved I H φ' S' H') (φ ++ φ') H' ∧ ∀ (w w' : W) (v : V), sub b (shR S.length) w = some w' → Rel G I' φ' w v → Rel G (moved I H φ' S' H') (φ ++ φ') w' v := by
  obtain ⟨s2, e2⟩ := after_sim s e s'
  have hh := after_holds s e s'
  obtain ⟨lS, gS⟩ := shS_get hS
  have pn : ∀ (m : Nat) (a : Addr), φ'[m]? = some a → H a = none := fun m a hm => by
    obtain ⟨ψ, hψ, hn⟩ := e.pre
    exact hn a (by rw [hψ] at hm; exact List.mem_of_getElem? (by simpa using hm))
  have jI : Same I (moved I H φ' S' H') := fun a o h => by
    unfold moved
    rw [if_neg]
    · exact e2.same _ _ h
    · rintro ⟨m, ob, hm, _, _⟩
      have := s.same _ _ h
      rw [pn m a hm] at this
      cases this
  have jle : ∀ a o, moved I H φ' S' H' a = some o → after I H H' a = some o := fun a o h => by
    unfold moved at h
    split at h
    · cases h
    · exact h
  have live : ∀ a o, I' a = some o → moved I H φ' S' H' a = after I H H' a := fun a o h => by
    unfold moved
    rw [if_neg]
    rintro ⟨m, ob, hm, h1, h2⟩
    rw [s'.out m a ob hm h1 h2] at h
    cases h
  have hi : b = false → ∀ a o, I' a = some o → moved I H φ' S' H' a = some o := fun hb a o h => by rw [live a o h]; exact hh.i hb a o h
  have ht : ∀ a vs, I' a = some (.tup vs) → moved I H φ' S' H' a = some (.tup vs) := fun a vs h => by rw [live a _ h]; exact hh.t a vs h
  have hix : ∀ (m : Nat) (a : Addr), φ'[m]? = some a → (φ ++ φ')[m + S.length]? = some a := fun m a h => by
    rw [List.getElem?_append_right (by rw [s.len]; omega), s.len]
    simpa using h
  have hg : ∀ m w a, shR S.length m = some w → φ'[m]? = some a → Rel G (moved I H φ' S' H') (φ ++ φ') w (.ref a) := fun m w a h1 h2 => by
    cases h1
    exact ⟨a, rfl, hix m a h2⟩
  refine ⟨⟨fun a o h => s2.same _ _ (jle a o h), by simp [s.len, s'.len, lS], ?_, ?_, ?_, ?_⟩, ⟨jI, ⟨φ', rfl, fun a ha => ?_⟩, e2.frame, e2.keep, fun a h => ?_⟩, fun w w' v h r => sub_rel hi ht hg h r⟩
  · rw [List.nodup_append]
    refine ⟨s.nd, s'.nd, fun a ha c hc z => ?_⟩
    subst z
    obtain ⟨m, hm⟩ := List.getElem?_of_mem ha
    obtain ⟨m', hm'⟩ := List.getElem?_of_mem hc
    have := s.old m a hm
    rw [pn m' a hm'] at this
    cases this
  · intro k a o hk ho hd
    by_cases hlt : k < φ.length
    · rw [List.getElem?_append_left hlt] at hk
      rw [List.getElem?_append_left (by rw [← s.len]; exact hlt)] at ho
      unfold moved
      split
      · rfl
      · exact s2.out k a o hk ho hd
    · rw [List.getElem?_append_right (by omega)] at hk
      rw [List.getElem?_append_right (by rw [← s.len]; omega), ← s.len] at ho
      obtain ⟨ob, h1, h2⟩ := gS _ _ ho
      unfold moved
      rw [if_pos]
      refine ⟨k - φ.length, ob, hk, h1, fun z => ?_⟩
      rw [z] at h2
      cases h2
      exact hd rfl
  · intro k a hk
    by_cases hlt : k < φ.length
    · rw [List.getElem?_append_left hlt] at hk
      exact s2.old k a hk
    · rw [List.getElem?_append_right (by omega)] at hk
      exact s'.old _ a hk
  · intro k a o hk ho
    by_cases hlt : k < φ.length
    · rw [List.getElem?_append_left hlt] at hk
      rw [List.getElem?_append_left (by rw [← s.len]; exact hlt)] at ho
      exact (s.cell k a o hk ho).mono jI ⟨φ', rfl⟩ (fun u hu => e.frame a u (by simp) hu)
    · rw [List.getElem?_append_right (by omega)] at hk
      rw [List.getElem?_append_right (by rw [← s.len]; omega), ← s.len] at ho
      obtain ⟨ob, h1, h2⟩ := gS _ _ ho
      have c := s'.cell _ a ob hk h1
      cases ob with
      | dead => cases h2; exact True.intro
      | lst xs =>
        simp only [shO, Option.map_eq_some_iff] at h2
        obtain ⟨ys, hy, rfl⟩ := h2
        obtain ⟨vs, c1, c2⟩ := c
        exact ⟨vs, c1, subL_rel hi ht hg hy c2⟩
      | ins c0 xs =>
        simp only [shO, Option.map_eq_some_iff] at h2
        obtain ⟨ys, hy, rfl⟩ := h2
        obtain ⟨dx, fs, c1, c2, c3⟩ := c
        exact ⟨dx, fs, c1, c2, subL_rel hi ht hg hy c3⟩
      | dic t ks vs =>
        simp only [shO, Option.bind_eq_some_iff, Option.map_eq_some_iff] at h2
        obtain ⟨ks', hk', ys, hy, rfl⟩ := h2
        cases t with
        | false =>
          obtain ⟨kvs, c1, rfl, c3⟩ := c
          exact ⟨kvs, c1, subL_keys hk', subL_rel hi ht hg hy c3⟩
        | true =>
          obtain ⟨kvs, c1, rfl, c3⟩ := c
          exact ⟨kvs, c1, subL_keysT hk', subL_rel hi ht hg hy c3⟩
  · obtain ⟨m, hm⟩ := List.getElem?_of_mem ha
    exact pn m a hm
  · cases hq : moved I H φ' S' H' a with
    | none => rw [hq] at h; cases h
    | some o => exact e2.fresh a (by rw [jle a o hq]; rfl)
theorem call_ok {E1 : XK} {m : Md} {f : Nat} {ws : List W} {vs : List V} {Q : VK} (s : Sim G I φ S H) (r : Rels G I φ ws vs) (h : Post G E1 I φ H (callSem cf m f ws S) fun w S' => KE G I φ H S' w Q) :
    ∃ I' φ' S' ws', Sim G I' φ' S' H ∧ Rels G I' φ' ws' vs ∧ Post G E1 I' φ' H (cf f ws' S') fun w S'' => KE G I' φ' H S'' w Q := by
  cases m with
  | shared => exact ⟨I, φ, S, ws, s, r, h⟩
  | pure =>
    simp only [callSem] at h
    split at h
    · exact h.elim
    · rename_i us hu
      have rr : Rels G (snap (!rfreeL ws) I φ S H) [] us vs := by
        cases hb : rfreeL ws with
        | true =>
          rw [subL_rfree hb hu]
          exact Rels.rfree hb (r.mono (fun a o h => snap_i h) (Pre.refl _))
        | false => exact vws_rel s (snap_holds s) hu r
      refine ⟨_, [], [], us, snap_sim s, rr, ?_⟩
      split at h
      · rename_i w S1 hc
        rw [hc]
        obtain ⟨w2, hw, k⟩ := Post.ofO h
        intro v I' φ' H' e s' rv
        obtain ⟨s2, e2⟩ := after_sim s e s'
        refine k v _ _ _ e2 s2 ?_
        have hh := after_holds s e s'
        cases hb : rfreeL ws with
        | true => rw [hb] at hh; rw [if_pos hb] at hw; exact vw_rel s' hh hw rv
        | false => rw [hb] at hh; rw [if_neg (by rw [hb]; simp)] at hw; exact vwB_rel s' hh hw rv
      · rename_i c S1 hc
        rw [hc]
        intro I' φ' H' e s'
        obtain ⟨s2, e2⟩ := after_sim s e s'
        exact h _ _ _ e2 s2
      · exact h.elim
  | adopt =>
    simp only [callSem] at h
    split at h
    · exact h.elim
    · rename_i us hu
      have rr : Rels G (snap (!rfreeL ws) I φ S H) [] us vs := by
        cases hb : rfreeL ws with
        | true =>
          rw [subL_rfree hb hu]
          exact Rels.rfree hb (r.mono (fun a o h => snap_i h) (Pre.refl _))
        | false => exact vws_rel s (snap_holds s) hu r
      refine ⟨_, [], [], us, snap_sim s, rr, ?_⟩
      split at h
      · rename_i m S1 hc
        rw [hc]
        split at h
        · rename_i xs hS
          split at h
          · rename_i ys hy
            intro v I' φ' H' e s' rv
            obtain ⟨a, rfl, ha⟩ := rv
            obtain ⟨s2, e2⟩ := after_sim s e s'
            have hh := after_holds s e (s'.kill m)
            obtain ⟨us', hl, rl⟩ := s'.cell m a _ ha hS
            have hHa : H a = none := by
              obtain ⟨ψ, hψ, hn⟩ := e.pre
              exact hn a (by rw [hψ] at ha; exact List.mem_of_getElem? (by simpa using ha))
            have hIa : I a = none := s.iNone hHa
            have naφ : a ∉ φ := s.notIn hHa
            have hI'a : I' a = none := s'.out m a _ ha hS (by simp)
            let J : Hp := fun b => if b = a then none else after I H H' b
            have jI : Same I J := fun b o q => by
              show (if b = a then none else after I H H' b) = some o
              rw [if_neg (fun z => by rw [z, hIa] at q; cases q)]
              exact e2.same _ _ q
            have jle : ∀ b o, J b = some o → after I H H' b = some o := fun b o q => by
              have q : (if b = a then none else after I H H' b) = some o := q
              split at q
              · cases q
              · exact q
            have hj : Holds (!rfreeL ws) I' φ' (S1.set m .dead) H' J := by
              refine ⟨fun hb b o q => ?_, fun b vs q => ?_, fun k b o q q1 q2 => ?_⟩
              · show (if b = a then none else after I H H' b) = some o
                rw [if_neg (fun z => by rw [z, hI'a] at q; cases q)]
                exact hh.i hb b o q
              · show (if b = a then none else after I H H' b) = _
                rw [if_neg (fun z => by rw [z, hI'a] at q; cases q)]
                exact hh.t b vs q
              · show (if b = a then none else after I H H' b) = _
                rw [if_neg (fun z => ?_)]
                · exact hh.c k b o q q1 q2
                · rw [z] at q
                  have hk : k < φ'.length := (List.getElem?_eq_some_iff.mp q).1
                  have : k = m := by
                    apply (List.getElem?_inj hk s'.nd).mp
                    rw [q, ha]
                  subst this
                  rw [List.getElem?_set] at q1
                  simp at q1
                  exact q2 q1.2.symm
            have rl2 : Rels G J (φ ++ [a]) ys us' := by
              cases hb : rfreeL ws with
              | true => rw [hb] at hj; rw [if_pos hb] at hy; exact vws_rel (s'.kill m) hj hy rl
              | false => rw [hb] at hj; rw [if_neg (by rw [hb]; simp)] at hy; exact subL_rel hj.i hj.t (lev_rel (s'.kill m) hj 3) hy rl
            refine h (.ref a) J (φ ++ [a]) H' ?_ ?_ ⟨a, rfl, by rw [← s.len]; simp⟩
            · exact ⟨jI, ⟨[a], rfl, by simpa using hHa⟩, e2.frame, e2.keep, fun b q => by
                cases hq : J b with
                | none => rw [hq] at q; cases q
                | some o => exact e2.fresh b (by rw [jle b o hq]; rfl)⟩
            · refine ⟨fun b o q => s2.same _ _ (jle b o q), by simp [s.len], ?_, ?_, ?_, ?_⟩
              · rw [List.nodup_append]
                refine ⟨s.nd, by simp, ?_⟩
                intro b hb c hc z
                have : c = a := by simpa using hc
                subst this
                subst z
                exact naφ hb
              · intro k b o q q1 q2
                show (if b = a then none else after I H H' b) = none
                by_cases hk : k < φ.length
                · rw [List.getElem?_append_left hk] at q
                  rw [List.getElem?_append_left (by rw [← s.len]; exact hk)] at q1
                  split
                  · rfl
                  · exact s2.out k b o q q1 q2
                · have : k = φ.length := by
                    have := (List.getElem?_eq_some_iff.mp q).1
                    simp at this
                    omega
                  subst this
                  simp at q
                  rw [if_pos q.symm]
              · intro k b q
                by_cases hk : k < φ.length
                · rw [List.getElem?_append_left hk] at q
                  exact s2.old k b q
                · have : k = φ.length := by
                    have := (List.getElem?_eq_some_iff.mp q).1
                    simp at this
                    omega
                  subst this
                  simp at q
                  rw [← q, hl]
                  rfl
              · intro k b o q q1
                by_cases hk : k < φ.length
                · rw [List.getElem?_append_left hk] at q
                  rw [List.getElem?_append_left (by rw [← s.len]; exact hk)] at q1
                  exact (s.cell k b o q q1).mono jI ⟨[a], rfl⟩ (fun u hu => e.frame b u (by simp) hu)
                · have : k = φ.length := by
                    have := (List.getElem?_eq_some_iff.mp q).1
                    simp at this
                    omega
                  subst this
                  simp at q
                  rw [s.len] at q1
                  simp at q1
                  subst q
                  subst q1
                  exact ⟨us', hl, rl2⟩
          · exact h.elim
        · exact h.elim
      · exact h.elim
      · rename_i c S1 hc
        rw [hc]
        intro I' φ' H' e s'
        obtain ⟨s2, e2⟩ := after_sim s e s'
        exact h _ _ _ e2 s2
      · exact h.elim
  | move =>
    simp only [callSem] at h
    split at h
    · exact h.elim
    · rename_i us hu
      have rr : Rels G (snap (!rfreeL ws) I φ S H) [] us vs := by
        cases hb : rfreeL ws with
        | true =>
          rw [subL_rfree hb hu]
          exact Rels.rfree hb (r.mono (fun a o h => snap_i h) (Pre.refl _))
        | false => exact vws_rel s (snap_holds s) hu r
      refine ⟨_, [], [], us, snap_sim s, rr, ?_⟩
      split at h
      · rename_i w S1 hc
        rw [hc]
        split at h
        · rename_i w' S2 hw hS
          intro v I' φ' H' e s' rv
          obtain ⟨s2, e2, q⟩ := move_sim s e s' hS
          exact h v _ _ _ e2 s2 (q w w' v hw rv)
        · exact h.elim
      · rename_i c S1 hc
        rw [hc]
        intro I' φ' H' e s'
        obtain ⟨s2, e2⟩ := after_sim s e s'
        exact h _ _ _ e2 s2
      · exact h.elim
end Tw

namespace Tw
open PySem PySem.Spec PyProof.Rows L2

variable {G : Gx} {I I' I1 I2 H H' H1 H2 : Hp} {φ φ' φ1 φ2 : List Addr} {S S' S1 : Sto} {K : PySem.W.Frag} {X : Cx} {cf : CallF} {T : Tab} {Ex : L2.St → XK} {n : Nat} {sc : Scope}

def rm (H : Hp) (D : Addr) : Hp := fun a => if a = D then none else H a
theorem rm_ne {D a : Addr} (h : a ≠ D) : rm H D a = H a := by unfold rm; rw [if_neg h]
theorem rm_self {D : Addr} : rm H D D = none := by unfold rm; rw [if_pos rfl]
theorem rm_some {D a : Addr} {o : HO} (h : rm H D a = some o) : a ≠ D ∧ H a = some o := by
  unfold rm at h
  split at h
  · cases h
  · exact ⟨by assumption, h⟩
theorem rm_none {D : Addr} (h : H D = none) : rm H D = H := by
  funext a
  unfold rm
  split
  · rename_i z; rw [z, h]
  · rfl
theorem rm_upd {D : Addr} {o : HO} : rm (upd H D o) D = rm H D := by
  funext a
  by_cases h : a = D
  · rw [h, rm_self, rm_self]
  · rw [rm_ne h, rm_ne h]
    exact upd_ne h
theorem upd_rm {D : Addr} {o : HO} (h : H D = some o) : upd (rm H D) D o = H := by
  funext a
  by_cases z : a = D
  · rw [z, upd_same, h]
  · rw [upd_ne z, rm_ne z]
theorem Sim.plusD {D : Addr} (s : Sim G I φ S (rm H D)) : Sim G I φ S H where
  same := fun a o h => (rm_some (s.same _ _ h)).2
  len := s.len
  nd := s.nd
  out := s.out
  old := fun m a h => by
    have := s.old m a h
    cases q : rm H D a with
    | none => rw [q] at this; cases this
    | some o => rw [(rm_some q).2]; rfl
  cell := fun m a o h h1 => (s.cell m a o h h1).mono (Same.refl _) (Pre.refl _) fun u hu => (rm_some hu).2
theorem peel {D : Addr} {o : HO} (sm : Sim G I φ S (rm H D)) (hD : H D = some o) (e : Ext I φ H I' φ' H') (s' : Sim G I' φ' S' H') (ho : ∀ vs, o ≠ .tup vs := by intro _ z; cases z) : Sim G I' φ' S' (rm H' D) ∧ Ext I φ (rm H D) I' φ' (rm H' D) ∧ H' D = some o := by
  have nφ : D ∉ φ := fun z => by
    obtain ⟨m, hm⟩ := List.getElem?_of_mem z
    have := sm.old m D hm
    rw [rm_self] at this
    cases this
  have nI : I D = none := by
    cases h : I D with
    | none => rfl
    | some u => have := sm.same _ _ h; rw [rm_self] at this; cases this
  obtain ⟨ψ, hψ, hn⟩ := e.pre
  have nφ' : D ∉ φ' := fun z => by
    rw [hψ] at z
    rcases List.mem_append.mp z with z | z
    · exact nφ z
    · rw [hn D z] at hD; cases hD
  have nI' : I' D = none := by
    cases h : I' D with
    | none => rfl
    | some u =>
      rcases e.fresh D (by rw [h]; rfl) with z | z | z | ⟨vs, z⟩
      · rw [nI] at z; cases z
      · rw [hD] at z; cases z
      · exact absurd z nφ
      · rw [hD] at z; cases z; exact (ho vs rfl).elim
  have ne : ∀ (m : Nat) (a : Addr), φ'[m]? = some a → a ≠ D := fun m a h z => nφ' (by rw [← z]; exact List.mem_of_getElem? h)
  refine ⟨⟨fun a u h => ?_, s'.len, s'.nd, s'.out, fun m a h => ?_, fun m a u h h1 => ?_⟩, ⟨e.same, ⟨ψ, hψ, fun a ha => ?_⟩, fun a u ha h => ?_, fun a h => ?_, fun a h => ?_⟩, e.frame D o nφ hD⟩
  · rw [rm_ne (fun z => by rw [z, nI'] at h; cases h)]
    exact s'.same _ _ h
  · rw [rm_ne (ne m a h)]
    exact s'.old m a h
  · refine (s'.cell m a u h h1).mono (Same.refl _) (Pre.refl _) fun x hx => ?_
    rw [rm_ne (ne m a h)]
    exact hx
  · have hz := hn a ha
    unfold rm
    split
    · rfl
    · exact hz
  · obtain ⟨h1, h2⟩ := rm_some h
    rw [rm_ne h1]
    exact e.frame a u ha h2
  · have h1 : a ≠ D := fun z => by rw [z, rm_self] at h; cases h
    rw [rm_ne h1] at h ⊢
    exact e.keep a h
  · rcases e.fresh a h with z | z | z | ⟨vs, z⟩
    · exact .inl z
    · refine .inr (.inl ?_)
      unfold rm
      split
      · rfl
      · exact z
    · exact .inr (.inr (.inl z))
    · refine .inr (.inr (.inr ⟨vs, ?_⟩))
      rw [rm_ne (fun y => by rw [y, hD] at z; cases z; exact ho vs rfl)]
      exact z

def slots : Tg → List Nat
  | .one i => [i]
  | .tup is => is
def tTgt (G : Gx) (t : Tg) : TG := fun v σ H Q => ∃ I φ ρ S w ρ', Sim G I φ S H ∧ Envs G I φ ρ σ ∧ Rel G I φ w v ∧ bindT t w ρ = some ρ' ∧
  ∀ σ', Envs G I φ ρ' σ' → (∀ own : List Nat, (slots t).all (fun i => own.contains i) = true → L2.wipe σ' own = L2.wipe σ own) → Q σ' H
theorem wipe_set {σ : L2.St} {i : Nat} {x : Option V} : ∀ {own : List Nat}, i ∈ own → L2.wipe (σ.set i x) own = L2.wipe σ own
  | [], h => by cases h
  | v :: vs, h => by
    unfold L2.wipe
    by_cases hv : i = v
    · subst hv
      by_cases hm : i ∈ vs
      · rw [wipe_set hm]
      · have : ∀ (vs : List Nat), i ∉ vs → L2.wipe (σ.set i x) vs = (L2.wipe σ vs).set i x := by
          intro vs
          induction vs with
          | nil => intro _; rfl
          | cons u us ih =>
            intro hu
            unfold L2.wipe
            rw [ih (fun z => hu (List.mem_cons_of_mem _ z)), List.set_comm _ _ (fun z => hu (by rw [← z]; simp))]
        rw [this vs hm, List.set_set]
    · have hm : i ∈ vs := by
        rcases List.mem_cons.mp h with z | z
        · exact absurd z hv
        · exact z
      rw [wipe_set hm]
def nameAt (N : List PySem.Str) (sc : Scope) (i : Nat) : Expr → Bool
  | .Name x _ => decide (N[i]? = some x) && loc sc x
  | _ => false
def namesAt (N : List PySem.Str) (sc : Scope) : List Nat → List Expr → Bool
  | [], [] => true
  | i :: is, e :: es => nameAt N sc i e && namesAt N sc is es
  | _, _ => false
def tgOk (N : List PySem.Str) (sc : Scope) (t : Tg) (tg : Expr) : Bool :=
  match t, tg with
  | .one i, e => nameAt N sc i e
  | .tup is, .Tuple es _ _ => namesAt N sc is es
  | _, _ => false
def Wr (asc : Scope) (X : Cx) : Prop := ∀ x, (asc.names.lookup x = some .local → X.env.scope.names.lookup x = some .local) ∧ (asc.names.lookup x = some .cell → X.env.scope.names.lookup x = some .cell ∧ X.fn x = true)
theorem nameAt_ok {asc : Scope} {i : Nat} {e : Expr} (h : nameAt T.N asc i e = true) (hN : X.N = T.N) (hnd : X.N.Nodup) (hw : Wr asc X) : PG X e (gName i) := by
  unfold nameAt at h
  split at h
  · simp only [Bool.and_eq_true, decide_eq_true_eq] at h
    obtain ⟨h1, h2⟩ := h
    have hl := loc_ok h2
    rw [← hN] at h1
    have hi := h1
    rcases hl with hl | hl
    · exact pg_name hnd hi (.inl ((hw _).1 hl)) (.inr ((hw _).1 hl))
    · exact pg_name hnd hi (.inr ((hw _).2 hl).1) (.inl ((hw _).2 hl).2)
  · cases h
def setσ : List Nat → List V → L2.St → L2.St
  | i :: is, v :: vs, σ => setσ is vs (σ.set i (some v))
  | _, _, σ => σ
def gSetAll (is : List Nat) : TGs := fun vs σ H Q => vs.length = is.length ∧ Q (setσ is vs σ) H
theorem PGs_imp {es : List Expr} {t t' : TGs} (h : PGs X es t) (i : ∀ vs σ H Q, t' vs σ H Q → t vs σ H Q) : PGs X es t' := ⟨fun pins s σ H vs us Q I r q => h.run pins s σ H vs us Q I r (i vs σ H Q q)⟩
theorem PG_imp {e : Expr} {t t' : TG} (h : PG X e t) (i : ∀ v σ H Q, t' v σ H Q → t v σ H Q) : PG X e t' := ⟨fun pins s σ H v u Q I r q => h.run pins s σ H v u Q I r (i v σ H Q q)⟩
theorem namesAt_len {N : List PySem.Str} {sc : Scope} : ∀ {is : List Nat} {es : List Expr}, namesAt N sc is es = true → is.length = es.length
  | [], [], _ => rfl
  | i :: is, e :: es, h => by
    simp only [namesAt, Bool.and_eq_true] at h
    simp [namesAt_len h.2]
  | [], _ :: _, h => by cases h
  | _ :: _, [], h => by cases h
theorem namesAt_ok {asc : Scope} (hN : X.N = T.N) (hnd : X.N.Nodup) (hw : Wr asc X) : ∀ {is : List Nat} {es : List Expr}, namesAt T.N asc is es = true → PGs X es (gSetAll is) ∧ (assignEach es X.env).length = es.length ∧ (assignEach es X.env).findIdx? (·.1) = none
  | [], [], _ => by
    refine ⟨PGs_imp pgs_nil fun vs σ H Q q => ?_, rfl, rfl⟩
    obtain ⟨hl, q⟩ := q
    cases vs with
    | nil => exact ⟨rfl, q⟩
    | cons v vs => cases hl
  | i :: is, e :: es, h => by
    simp only [namesAt, Bool.and_eq_true] at h
    obtain ⟨h1, h2, h3⟩ := namesAt_ok hN hnd hw h.2
    have he := nameAt_ok h.1 hN hnd hw
    have hs : assignEach (e :: es) X.env = (false, assign e X.env) :: assignEach es X.env := by
      have h1 := h.1
      unfold nameAt at h1
      split at h1
      · rfl
      · cases h1
    refine ⟨PGs_imp (pgs_cons he h1 (by rw [hs]; rfl)) fun vs σ H Q q => ?_, by rw [hs]; simp [h2], ?_⟩
    · obtain ⟨hl, q⟩ := q
      cases vs with
      | nil => cases hl
      | cons v vs => exact ⟨v, vs, rfl, by simpa using hl, q⟩
    · rw [hs, List.findIdx?_cons]
      simp [h3]
  | [], _ :: _, h => by cases h
  | _ :: _, [], h => by cases h
theorem setAll_ok : ∀ {is : List Nat} {xs : List W} {vs : List V} {ρ ρ' : Env} {σ : L2.St}, Tw.setAll is xs ρ = some ρ' → Rels G I φ xs vs → Envs G I φ ρ σ → Envs G I φ ρ' (setσ is vs σ) ∧ vs.length = is.length ∧ ∀ own : List Nat, is.all (fun i => own.contains i) = true → L2.wipe (setσ is vs σ) own = L2.wipe σ own
  | [], [], _, _, _, _, h, r, en => by
    cases h
    obtain rfl : _ = [] := r
    exact ⟨en, rfl, fun _ _ => rfl⟩
  | i :: is, x :: xs, _, ρ, ρ', σ, h, r, en => by
    obtain ⟨v, vs, rfl, rv, rr⟩ := r
    obtain ⟨h1, h2, h3⟩ := setAll_ok (is := is) (ρ := ρ.set i (some x)) h rr (en.set rv)
    refine ⟨h1, by simp [h2], fun own ho => ?_⟩
    simp only [List.all_cons, Bool.and_eq_true] at ho
    show L2.wipe (setσ is vs (σ.set i (some v))) own = _
    rw [h3 own ho.2, wipe_set (by simpa using ho.1)]
  | [], _ :: _, _, _, _, _, h, _, _ => by cases h
  | _ :: _, [], _, _, _, _, h, _, _ => by cases h
def isTg1 : Tg → Bool
  | .one _ => true
  | _ => false
theorem tgOk_ok {asc : Scope} {t : Tg} {tg : Expr} (hc : isTg1 t = false → X.calm = true) (hN : X.N = T.N) (hnd : X.N.Nodup) (hw : Wr asc X) (h : tgOk T.N asc t tg = true) : PG X tg (tTgt G t) := by
  unfold tgOk at h
  split at h
  · rename_i i
    refine PG_imp (nameAt_ok h hN hnd hw) fun v σ H Q ⟨I, φ, ρ, S, w, ρ', s, en, r, hb, q⟩ => ?_
    cases hb
    refine q _ (en.set r) fun own ho => wipe_set ?_
    simpa [slots] using ho
  · rename_i is es _ _
    obtain ⟨h1, h2, h3⟩ := namesAt_ok hN hnd hw h
    refine PG_imp (pg_tup (hc rfl) h1 h2 h3) fun v σ H Q ⟨I, φ, ρ, S, w, ρ', s, en, r, hb, q⟩ => ?_
    match w, hb with
    | .tup xs, hb =>
      obtain ⟨a, vs, rfl, ha, rr⟩ := r
      obtain ⟨e1, e2, e3⟩ := setAll_ok hb rr en
      exact ⟨a, vs, rfl, .inl (.inl (s.same _ _ ha)), by rw [e2]; exact namesAt_len h, e2, q _ e1 e3⟩
  · cases h

abbrev EN : L2.St → XK := fun _ => E0
def tCond (G : Gx) (cf : CallF) (cond : List E) : TT := fun σ H Q => ∃ I φ ρ S, Sim G I φ S H ∧ Envs G I φ ρ σ ∧ Post G E0 I φ H (evAll cf cond ρ S) fun w S' => ∃ b, w = .bl b ∧ ∀ I' φ' H', Ext I φ H I' φ' H' → Sim G I' φ' S' H' → Q b H'
theorem compL_noex {elt cond : Env → Sto → Rs W} {t : Tg} {ρ : Env} : ∀ {xs : List W} {S S' : Sto} {c : Nat}, compL elt cond t ρ xs S ≠ .ex c S'
  | [], _, _, _, h => by simp [compL] at h
  | x :: xs, S, S', c, h => by
    simp only [compL] at h
    split at h
    · cases h
    · split at h
      · split at h
        · rename_i y S2 _
          cases hc : compL elt cond t ρ xs S2 with
          | ok ys S3 => rw [hc] at h; cases h
          | ex c' S3 => exact compL_noex hc
          | bad => rw [hc] at h; cases h
        · cases h
      · exact compL_noex h
      · cases h
theorem comp_ok {elt : E} {t : Tg} {k : ItK} {srcs cond : List E} {own : List Nat} (hs : (slots t).all (fun i => own.contains i) = true) : ∀ σ H Q, tF G cf Ex (.comp elt t k srcs cond own) σ H Q → tLc (tI G cf Ex k srcs) (tTgt G t) (tCond G cf cond) (tE G cf EN elt) own σ H Q := by
  rintro σ H Q ⟨I, φ, ρ, S, s, en, h⟩
  simp only [ev] at h
  refine ⟨I, φ, ρ, S, s, en, h.bind.imp fun ws S1 _ h1 => ?_⟩
  split at h1
  · rename_i xs hx
    refine ⟨xs, hx, ?_⟩
    intro J I1 φ1 H1 e1 s1 hy D hD
    split at h1
    · rename_i hlen
      cases hc : compL (fun ρ' S' => ev cf elt ρ' S') (fun ρ' S' => evAll cf cond ρ' S') t (Tw.wipe ρ own) xs S1 with
      | bad => rw [hc] at h1; exact h1.elim
      | ex c S2 => exact absurd hc compL_noex
      | ok ys Sf =>
        rw [hc] at h1
        obtain ⟨zs, hz, kf⟩ := h1
        cases hz
        have kf : KF G I φ H Sf ys Q := kf
        have iD : I1 D = none := s1.iNone hD
        refine ⟨fun i m H' => m = xs.length - i ∧ i ≤ xs.length ∧ ∃ I2 φ2 S2 aw av rs, Ext I1 φ1 H1 I2 φ2 (rm H' D) ∧ Sim G I2 φ2 S2 (rm H' D) ∧ H' D = some (.lst av) ∧ Rels G I2 φ2 aw av ∧ aw.length ≤ i ∧
          compL (fun ρ' S' => ev cf elt ρ' S') (fun ρ' S' => evAll cf cond ρ' S') t (Tw.wipe ρ own) (xs.drop i) S2 = .ok rs Sf ∧ ys = aw ++ rs, ⟨xs.length, ?_⟩, ?_⟩
        · refine ⟨by simp, Nat.zero_le _, I1, φ1, S1, [], [], ys, ?_, ?_, upd_same, rfl, Nat.le_refl _, by simpa using hc, rfl⟩
          · rw [rm_upd, rm_none hD]; exact Ext.refl _ _ _
          · rw [rm_upd, rm_none hD]; exact s1
        · rintro i m H' ⟨rfl, hi, I2, φ2, S2, aw, av, rs, e2, s2, hDv, ra, hal, hcl, hys⟩
          have s2' := s2.plusD
          have hyy := hy I2 φ2 S2 H' e2.same e2.pre' s2' i
          by_cases hlt : i < xs.length
          · right
            have hxi : xs[i]? = some xs[i] := List.getElem?_eq_getElem hlt
            obtain ⟨hgo, hyl⟩ := hyy.1 _ hxi
            refine ⟨hgo, fun H'' => (i + 1 ≤ xs.length) ∧ ∃ I2 φ2 S2 aw av rs, Ext I1 φ1 H1 I2 φ2 (rm H'' D) ∧ Sim G I2 φ2 S2 (rm H'' D) ∧ H'' D = some (.lst av) ∧ Rels G I2 φ2 aw av ∧ aw.length ≤ i + 1 ∧
              compL (fun ρ' S' => ev cf elt ρ' S') (fun ρ' S' => evAll cf cond ρ' S') t (Tw.wipe ρ own) (xs.drop (i + 1)) S2 = .ok rs Sf ∧ ys = aw ++ rs, fun H'' q => ⟨xs.length - (i + 1), by omega, rfl, q⟩, ?_⟩
            intro v H3 hv
            obtain ⟨I3, e3, s3, r3⟩ := hyl v H3 hv
            obtain ⟨s3r, e3r, hD3⟩ := peel s2 hDv e3 s3
            rw [List.drop_eq_getElem_cons hlt] at hcl
            simp only [compL] at hcl
            split at hcl
            · cases hcl
            · rename_i ρ' hb
              have en1 : Envs G I3 φ2 (Tw.wipe ρ own) (L2.wipe σ own) := ((en.ext e1).ext (e2.trans e3r)).wipe own
              refine ⟨I3, φ2, Tw.wipe ρ own, S2, _, ρ', s3, en1, r3, hb, fun σ' en2 hw => ?_⟩
              have hww : L2.wipe σ' own = L2.wipe σ own := by
                rw [hw own hs]
                have : ∀ (o : List Nat) (σ : L2.St), L2.wipe (L2.wipe σ o) o = L2.wipe σ o := by
                  intro o σ
                  apply List.ext_getElem?
                  intro j
                  have key : ∀ (o : List Nat) (σ : L2.St), (L2.wipe σ o)[j]? = if j ∈ o then (if j < σ.length then some none else none) else σ[j]? := by
                    intro o
                    induction o with
                    | nil => intro σ; simp [L2.wipe]
                    | cons u us ih =>
                      intro σ
                      unfold L2.wipe
                      rw [List.getElem?_set, ih, wipe_length]
                      by_cases huj : u = j
                      · subst huj; simp
                      · rw [if_neg huj]
                        have hju : j ≠ u := fun z => huj z.symm
                        by_cases hj : j ∈ us
                        · simp [hj, hju]
                        · simp [hj, hju]
                  rw [key, key, wipe_length]
                  by_cases hj : j ∈ o
                  · simp [hj]
                  · simp [hj]
                exact this own σ
              refine ⟨hww, ?_⟩
              refine ⟨I3, φ2, ρ', S2, s3, en2, ?_⟩
              split at hcl
              · rename_i S3 hcond
                rw [hcond]
                split at hcl
                · rename_i y S4 helt
                  refine ⟨true, rfl, fun I4 φ4 H4 e4 s4 => ?_⟩
                  show tE G cf EN elt σ' H4 _
                  obtain ⟨s4r, e4r, hD4⟩ := peel s3r hD3 e4 s4
                  refine ⟨I4, φ4, ρ', S3, s4, en2.ext e4, ?_⟩
                  rw [helt]
                  intro yv I5 φ5 H5 e5 s5 r5
                  obtain ⟨s5r, e5r, hD5⟩ := peel s4r hD4 e5 s5
                  refine ⟨av, hD5, ?_, ?_⟩
                  · rw [ra.length]
                    exact lim_ok (Nat.lt_of_le_of_lt hal (Nat.lt_trans hlt hlen))
                  · cases hrest : compL (fun ρ' S' => ev cf elt ρ' S') (fun ρ' S' => evAll cf cond ρ' S') t (Tw.wipe ρ own) (xs.drop (i + 1)) S4 with
                    | bad => rw [hrest] at hcl; cases hcl
                    | ex c S' => exact absurd hrest compL_noex
                    | ok rs' Sf' =>
                      rw [hrest] at hcl
                      cases hcl
                      refine ⟨hlt, I5, φ5, S4, aw ++ [y], av ++ [yv], rs', ?_, ?_, upd_same, ?_, ?_, hrest, ?_⟩
                      · rw [rm_upd]
                        exact e2.trans (e3r.trans (e4r.trans e5r))
                      · rw [rm_upd]; exact s5r
                      · exact ((ra.ext (e3.trans (e4.trans e5)))).append (Rels.one r5)
                      · simp; omega
                      · rw [hys]; simp
                · cases hcl
              · rename_i S3 hcond
                rw [hcond]
                refine ⟨false, rfl, fun I4 φ4 H4 e4 s4 => ?_⟩
                refine ite_ff ?_
                obtain ⟨s4r, e4r, hD4⟩ := peel s3r hD3 e4 s4
                exact ⟨hlt, I4, φ4, S3, aw, av, rs, e2.trans (e3r.trans e4r), s4r, hD4, ra.ext (e3.trans e4), by omega, hcl, hys⟩
              · cases hcl
          · left
            have hi' : i = xs.length := by omega
            refine ⟨hyy.2 (by omega), ?_⟩
            subst hi'
            rw [List.drop_length] at hcl
            simp only [compL] at hcl
            cases hcl
            have := kf D av I2 φ2 (rm H' D) (e1.trans e2) s2 rm_self (by rw [hys]; simpa using ra) (by
              rw [ra.length]
              exact Nat.le_of_lt (lim_ok (Nat.lt_of_le_of_lt hal hlen)))
            rw [upd_rm hDv] at this
            exact this
    · exact h1.elim
  · exact h1.elim
end Tw

namespace Tw
open PySem PySem.Spec PyProof.Rows L2

variable {G : Gx} {I I' I1 I2 H H' H1 H2 : Hp} {φ φ' φ1 φ2 : List Addr} {S S' S1 : Sto} {K : PySem.W.Frag} {X : Cx} {cf : CallF} {T : Tab} {Ex : L2.St → XK} {n : Nat} {sc : Scope}

theorem ext_plus {D : Addr} {o : HO} (h : H D = none) : Ext I φ H I φ (upd H D o) :=
  ⟨Same.refl _, ⟨[], by simp, by simp⟩, fun a u _ e => by rw [upd_ne (fun z => by rw [z, h] at e; cases e)]; exact e, fun a e => by
    by_cases z : a = D
    · rw [z, upd_same]; rfl
    · rw [upd_ne z]; exact e, fun a e => .inl e⟩
theorem Sim.plus {D : Addr} {o : HO} (s : Sim G I φ S H) (h : H D = none) : Sim G I φ S (upd H D o) := Sim.plusD (D := D) (by rw [rm_upd, rm_none h]; exact s)
theorem new_cell {c : Nat} {x dx : Addr} (s : Sim G I φ S H) (hx : H x = none) (hd : H dx = none) (hne : dx ≠ x) :
    Sim G I (φ ++ [x]) (S ++ [.ins c []]) (upd (upd H dx (.own x)) x (.ins (G.cad c) dx [])) ∧ Ext I φ H I (φ ++ [x]) (upd (upd H dx (.own x)) x (.ins (G.cad c) dx [])) := by
  have h1 : upd H dx (.own x) x = none := by rw [upd_ne (fun z => hne z.symm)]; exact hx
  obtain ⟨s2, e2⟩ := (s.plus (o := .own x) hd).newC (o := .ins c []) (u := .ins (G.cad c) dx []) h1 ⟨dx, [], upd_same, rfl, rfl⟩
  exact ⟨s2, (ext_plus hd).trans e2⟩
theorem new_ok {E1 : XK} {m : Md} {c f : Nat} {ws : List W} {vs : List V} {Q : VK} (s : Sim G I φ S H) (r : Rels G I φ ws vs) (h : Post G E1 I φ H (newSem cf m c f ws S) fun w S' => KE G I φ H S' w Q)
    {x dx : Addr} (hx : H x = none) (hd : H dx = none) (hne : dx ≠ x) :
    ∃ I' φ' S' ws', Sim G I' φ' S' (upd (upd H dx (.own x)) x (.ins (G.cad c) dx [])) ∧ Rels G I' φ' ws' (.ref x :: vs) ∧
      Post G E1 I' φ' (upd (upd H dx (.own x)) x (.ins (G.cad c) dx [])) (cf f ws' S') fun w S'' => KE G I' φ' (upd (upd H dx (.own x)) x (.ins (G.cad c) dx [])) S'' w fun v H2 => v = .non ∧ Q (.ref x) H2 := by
  cases m with
  | shared =>
    obtain ⟨s2, e2⟩ := new_cell (c := c) s hx hd hne
    refine ⟨I, φ ++ [x], S ++ [.ins c []], .ref S.length :: ws, s2, .cons ⟨x, rfl, by rw [← s.len]; simp⟩ (r.ext e2), ?_⟩
    simp only [newSem] at h
    split at h
    · rename_i S3 hc
      rw [hc]
      intro v I' φ' H' e s' rv
      refine ⟨rv, (KE.ext (e2.trans e) h).here s' ⟨x, rfl, e.pre'.get (by rw [← s.len]; simp)⟩⟩
    · exact h.elim
    · rename_i c' S3 hc
      rw [hc]
      exact KX.ext e2 h
    · exact h.elim
  | pure =>
    simp only [newSem] at h
    split at h
    · exact h.elim
    · rename_i us hu
      have rr : Rels G (snap (!rfreeL ws) I φ S H) [] us vs := by
        cases hb : rfreeL ws with
        | true =>
          rw [subL_rfree hb hu]
          exact Rels.rfree hb (r.mono (fun a o h => snap_i h) (Pre.refl _))
        | false => exact vws_rel s (snap_holds s) hu r
      obtain ⟨s2, e2⟩ := new_cell (c := c) (snap_sim (b := !rfreeL ws) s) hx hd hne
      refine ⟨_, [] ++ [x], [] ++ [.ins c []], .ref 0 :: us, s2, .cons ⟨x, rfl, rfl⟩ (rr.ext e2), ?_⟩
      split at h
      · rename_i S3 hc
        rw [show ([] ++ [Ob.ins c []] : Sto) = [.ins c []] from rfl, hc]
        obtain ⟨w2, hw, k⟩ := Post.ofO h
        intro v I' φ' H' e s' rv
        have et := e2.trans e
        obtain ⟨s3, e3⟩ := after_sim s et s'
        refine ⟨rv, k (.ref x) _ _ _ e3 s3 ?_⟩
        have hh := after_holds s et s'
        have r0 : Rel G I' φ' (.ref 0) (.ref x) := ⟨x, rfl, e.pre'.get rfl⟩
        cases hb : rfreeL ws with
        | true => rw [hb] at hh; rw [if_pos hb] at hw; exact vw_rel s' hh hw r0
        | false => rw [hb] at hh; rw [if_neg (by rw [hb]; simp)] at hw; exact vwB_rel s' hh hw r0
      · exact h.elim
      · rename_i c' S3 hc
        rw [show ([] ++ [Ob.ins c []] : Sto) = [.ins c []] from rfl, hc]
        intro I' φ' H' e s'
        obtain ⟨s3, e3⟩ := after_sim s (e2.trans e) s'
        exact h _ _ _ e3 s3
      · exact h.elim
  | adopt => exact h.elim
  | move => exact h.elim

theorem compC_noex {elt cond : Env → Sto → Rs W} {t : Tg} {ρ : Env} {n : Nat} : ∀ {k i : Nat} {S S' : Sto} {c : Nat}, compC elt cond t ρ n k i S ≠ .ex c S'
  | 0, _, _, _, _, h => by simp [compC] at h
  | k + 1, i, S, S', c, h => by
    simp only [compC] at h
    split at h
    · split at h
      · cases h
      · split at h
        · cases h
        · split at h
          · split at h
            · rename_i y S2 _
              cases hc : compC elt cond t ρ n k (i + 1) S2 with
              | ok ys S3 => rw [hc] at h; cases h
              | ex c' S3 => exact compC_noex hc
              | bad => rw [hc] at h; cases h
            · cases h
          · exact compC_noex h
          · cases h
    · cases h
theorem wipe_twice (o : List Nat) (σ : L2.St) : L2.wipe (L2.wipe σ o) o = L2.wipe σ o := by
  apply List.ext_getElem?
  intro j
  have key : ∀ (o : List Nat) (σ : L2.St), (L2.wipe σ o)[j]? = if j ∈ o then (if j < σ.length then some none else none) else σ[j]? := by
    intro o
    induction o with
    | nil => intro σ; simp [L2.wipe]
    | cons u us ih =>
      intro σ
      unfold L2.wipe
      rw [List.getElem?_set, ih, wipe_length]
      by_cases huj : u = j
      · subst huj; simp
      · rw [if_neg huj]
        have hju : j ≠ u := fun z => huj z.symm
        by_cases hj : j ∈ us
        · simp [hj, hju]
        · simp [hj, hju]
  rw [key, key, wipe_length]
  by_cases hj : j ∈ o
  · simp [hj]
  · simp [hj]
theorem compR_ok {elt : E} {t : Tg} {a : E} {cond : List E} {own : List Nat} (hs : (slots t).all (fun i => own.contains i) = true) : ∀ σ H Q, tF G cf Ex (.compR elt t a cond own) σ H Q → tLc (iList K (tE G cf Ex a)) (tTgt G t) (tCond G cf cond) (tE G cf EN elt) own σ H Q := by
  rintro σ H Q ⟨I, φ, ρ, S, s, en, h⟩
  simp only [ev] at h
  refine ⟨I, φ, ρ, S, s, en, h.bind.imp fun w S1 _ h1 => ?_⟩
  intro v I1 φ1 H1 e1 s1 r1
  split at h1
  · rename_i m _
    obtain ⟨p, rfl, hp⟩ := r1
    cases hc : compC (fun ρ' S' => ev cf elt ρ' S') (fun ρ' S' => evAll cf cond ρ' S') t (Tw.wipe ρ own) m LIM 0 S1 with
    | bad => rw [hc] at h1; exact h1.elim
    | ex c S2 => exact absurd hc compC_noex
    | ok ys Sf =>
      rw [hc] at h1
      obtain ⟨zs, hz, kf⟩ := h1
      cases hz
      have kf : KF G I φ H Sf ys Q := kf
      have hL : ∃ xs, S1[m]? = some (.lst xs) := by
        obtain ⟨k, hk⟩ : ∃ k, LIM = k + 1 := ⟨99999, rfl⟩
        rw [hk, compC] at hc
        split at hc
        · exact ⟨_, by assumption⟩
        · cases hc
      obtain ⟨xs0, hS0⟩ := hL
      obtain ⟨vs0, hv0, _⟩ := s1.cell m p _ hp hS0
      refine ⟨p, rfl, ⟨vs0, .inl (.inl hv0)⟩, ?_⟩
      intro D hD
      have iD : I1 D = none := s1.iNone hD
      refine ⟨fun i k H' => i + k = LIM ∧ ∃ I2 φ2 S2 aw av rs, Ext I1 φ1 H1 I2 φ2 (rm H' D) ∧ Sim G I2 φ2 S2 (rm H' D) ∧ H' D = some (.lst av) ∧ Rels G I2 φ2 aw av ∧ aw.length ≤ i ∧
        compC (fun ρ' S' => ev cf elt ρ' S') (fun ρ' S' => evAll cf cond ρ' S') t (Tw.wipe ρ own) m k i S2 = .ok rs Sf ∧ ys = aw ++ rs, ⟨LIM, ?_⟩, ?_⟩
      · refine ⟨by simp, I1, φ1, S1, [], [], ys, ?_, ?_, upd_same, rfl, Nat.le_refl _, hc, rfl⟩
        · rw [rm_upd, rm_none hD]; exact Ext.refl _ _ _
        · rw [rm_upd, rm_none hD]; exact s1
      · rintro i k H' ⟨hik, I2, φ2, S2, aw, av, rs, e2, s2, hDv, ra, hal, hcl, hys⟩
        cases k with
        | zero => simp [compC] at hcl
        | succ k =>
          have hiL : i < LIM := by omega
          simp only [compC] at hcl
          split at hcl
          · rename_i xs hS
            have hp2 : φ2[m]? = some p := e2.pre'.get hp
            obtain ⟨vs, hv, rv⟩ := s2.cell m p _ hp2 hS
            have hpD : p ≠ D := fun z => by rw [z, rm_self] at hv; cases hv
            rw [rm_ne hpD] at hv
            have hq : SqL K H' p vs := .inl (.inl hv)
            split at hcl
            · rename_i hxi
              left
              cases hcl
              refine ⟨⟨vs, hq, by rw [rv.length]; exact List.getElem?_eq_none_iff.mp hxi⟩, ?_⟩
              have := kf D av I2 φ2 (rm H' D) (e1.trans e2) s2 rm_self (by rw [hys]; simpa using ra) (by
                rw [ra.length]
                exact Nat.le_of_lt (lim_ok (by omega)))
              rw [upd_rm hDv] at this
              exact this
            · rename_i x hxi
              right
              obtain ⟨xv, hxv, rx⟩ := rv.get hxi
              refine ⟨⟨vs, xv, hq, hxv⟩, fun H'' => (i + 1) + k = LIM ∧ ∃ I2 φ2 S2 aw av rs, Ext I1 φ1 H1 I2 φ2 (rm H'' D) ∧ Sim G I2 φ2 S2 (rm H'' D) ∧ H'' D = some (.lst av) ∧ Rels G I2 φ2 aw av ∧ aw.length ≤ i + 1 ∧
                compC (fun ρ' S' => ev cf elt ρ' S') (fun ρ' S' => evAll cf cond ρ' S') t (Tw.wipe ρ own) m k (i + 1) S2 = .ok rs Sf ∧ ys = aw ++ rs, fun H'' q => ⟨k, Nat.lt_succ_self k, q⟩, ?_⟩
              intro v' H3 hy
              obtain ⟨rfl, hy⟩ := hy
              have := hy vs hq
              rw [hxv] at this
              cases this
              split at hcl
              · cases hcl
              · rename_i ρ' hb
                have s2' := s2.plusD
                have en1 : Envs G I2 φ2 (Tw.wipe ρ own) (L2.wipe σ own) := ((en.ext e1).ext e2).wipe own
                refine ⟨I2, φ2, Tw.wipe ρ own, S2, _, ρ', s2', en1, rx, hb, fun σ' en2 hw => ?_⟩
                have hww : L2.wipe σ' own = L2.wipe σ own := by
                  rw [hw own hs]
                  exact wipe_twice own σ
                refine ⟨hww, ?_⟩
                refine ⟨I2, φ2, ρ', S2, s2', en2, ?_⟩
                split at hcl
                · rename_i S3 hcond
                  rw [hcond]
                  split at hcl
                  · rename_i y S4 helt
                    refine ⟨true, rfl, fun I4 φ4 H4 e4 s4 => ?_⟩
                    show tE G cf EN elt σ' H4 _
                    obtain ⟨s4r, e4r, hD4⟩ := peel s2 hDv e4 s4
                    refine ⟨I4, φ4, ρ', S3, s4, en2.ext e4, ?_⟩
                    rw [helt]
                    intro yv I5 φ5 H5 e5 s5 r5
                    obtain ⟨s5r, e5r, hD5⟩ := peel s4r hD4 e5 s5
                    refine ⟨av, hD5, ?_, ?_⟩
                    · rw [ra.length]
                      exact lim_ok (by omega)
                    · cases hrest : compC (fun ρ' S' => ev cf elt ρ' S') (fun ρ' S' => evAll cf cond ρ' S') t (Tw.wipe ρ own) m k (i + 1) S4 with
                      | bad => rw [hrest] at hcl; cases hcl
                      | ex c S' => exact absurd hrest compC_noex
                      | ok rs' Sf' =>
                        rw [hrest] at hcl
                        cases hcl
                        refine ⟨by omega, I5, φ5, S4, aw ++ [y], av ++ [yv], rs', ?_, ?_, upd_same, ?_, ?_, hrest, ?_⟩
                        · rw [rm_upd]
                          exact e2.trans (e4r.trans e5r)
                        · rw [rm_upd]; exact s5r
                        · exact ((ra.ext (e4.trans e5))).append (Rels.one r5)
                        · simp; omega
                        · rw [hys]; simp
                  · cases hcl
                · rename_i S3 hcond
                  rw [hcond]
                  refine ⟨false, rfl, fun I4 φ4 H4 e4 s4 => ?_⟩
                  refine ite_ff ?_
                  obtain ⟨s4r, e4r, hD4⟩ := peel s2 hDv e4 s4
                  exact ⟨by omega, I4, φ4, S3, aw, av, rs, e2.trans e4r, s4r, hD4, ra.ext e4, by omega, hcl, hys⟩
                · cases hcl
          · cases hcl
  · exact h1.elim
end Tw

namespace L2
open PySem PySem.Spec PyProof.Rows
def tDispT (tk tv : TE) : TE := fun σ H Q => ∀ p, H p = none → tk σ (upd H p (.dT [])) fun x H1 => tv σ H1 fun y H2 => H2 p = some (.dT []) ∧ ∃ (ks : List Key) (b : Addr), x = .ref b ∧ H2 b = some (.tup (ks.map kV)) ∧ Q (.ref p) (upd H2 p (.dT [(ks, y)]))
theorem dict_pairsT {P : Program} {w : World} {K : Type} [DecidableEq K] {knd : HeapKind P w K} {A : Around} {E : Value → Shared → Prop} {s : Shared} {env : Env} {k v : Expr} {pos : Pos} {Q : Value → Shared → Prop} (hu : knd.room A)
    (h : wpAny (model P w) A (evalPairs (pairTrees [some k] [v] env pos)) (fun vs s₁ => ∃ ps, CarriesH knd s₁.heap vs ps ∧ s₁.heap.DictOfH knd s.heap.objs.size [] ∧
      ∀ h' tk, h'.DictOfH knd s.heap.objs.size (storedAllH [] ps) → Heap.SameBut s.heap.objs.size s₁.heap h' → Q (.ref s.heap.objs.size) { s₁ with heap := h', toks := tk }) E
      { s with heap := s.heap.push { cls := .type "dict", data := .dict #[] } }) :
    wpAny (model P w) A (eval (.Dict [some k] [v] pos) env) Q E s := by
  rw [arm_eval_Dict, zip_pairTrees [some k] [v] env pos rfl rfl, dictDisplay_pairs _ (by simp [pairTrees]) (by simp [pairTrees])]
  exact wpAny_bind (wpAny_standAt (wpAny_bind (wpAny_subDictH (knd := knd) (Q := fun d s' => wpAny (model P w) A (pure (Value.ref d)) Q E s') hu (by simp [pairTrees])
    (wpAny_mono h (fun vs s₁ h₁ => by obtain ⟨ps, hc, hm, hq⟩ := h₁; exact ⟨ps, hc, hm, fun h' tk a b => wpAny_pure (hq h' tk a b)⟩) fun _ _ e => e))))
theorem pe_dispT {X : Cx} {pos : Pos} {k v : Expr} {tk tv : TE} (hu : X.A.units + 1 < cLine) (hk : PE X k tk) (hv : PE X v tv) : PE X (.Dict [some k] [v] pos) (tDispT tk tv) := by
  refine ⟨fun pins s σ H Q I q => ?_⟩
  have hn := I.hok.fresh (Nat.le_refl s.heap.objs.size)
  have I1 := I.laid (a := s.heap.objs.size) (o := .dT []) (h' := s.heap.push { cls := .type "dict", data := .dict #[] }) (t' := s.toks) (fun _ _ q => Heap.get?_push_of_some _ q) (Nat.le_refl _) (dt_empty s.heap I.big)
  refine dict_pairsT (knd := tupleKind (mixKind X.prog X.w)) (show X.A.units < cLine by omega) (pairTrees_cons_walk (thn (hk.run pins _ σ _ _ I1 (q _ hn)) fun u s1 ⟨x, H1, I1', rx, q1⟩ => thn (hv.run pins s1 σ H1 _ I1' q1) fun w2 s2 ⟨y, H2, I2, ry, e, ks, b, ex, hb, q2⟩ => pairTrees_nil_walk ?_))
  subst ex
  obtain rfl : u = Value.ref b := rx
  obtain ⟨z, hd, xs0, r0, dd⟩ := dt_of I2.hok e
  cases r0
  refine ⟨[(ks, b, w2)], ⟨rfl, rfl, key_of I2.hok hb, trivial⟩, dd, fun h' tk dd' hs => ⟨.ref s.heap.objs.size, _, ?_, rfl, q2⟩⟩
  obtain ⟨q, es, ep, hq, h2, h3, h4, _, h5⟩ := dd'
  refine d_write I2 (by rw [e]; exact True.intro) hs ⟨q, hq⟩ ⟨by show 1 ≤ sizeLine; decide, hd, _, Paired.cons ⟨rfl, ?_, ry⟩ .nil, q, es, ep, hq, h2, h3, h4, h5⟩
  rw [upd_ne (ne_of hb e (fun z => nomatch z))]
  exact hb
end L2
namespace Tw
open PySem PySem.Spec PyProof.Rows L2

variable {G : Gx} {I I' I1 I2 H H' H1 H2 : Hp} {φ φ' φ1 φ2 : List Addr} {S S' S1 : Sto} {K : PySem.W.Frag} {X : Cx} {cf : CallF} {T : Tab} {Ex : L2.St → XK} {n : Nat} {sc : Scope}

def conSyn (T : Tab) (sc : Scope) (w : W) (e : Expr) : Bool :=
  match e with
  | .Constant (.int i) _ _ => match w with
    | .int j => decide (i = j)
    | _ => false
  | .Constant (.bool b) _ _ => match w with
    | .bl c => b == c
    | _ => false
  | .Constant .none _ _ => match w with
    | .non => true
    | _ => false
  | .Constant (.str x) _ _ => match w with
    | .str s => decide (x = ⟨s.toArray⟩)
    | _ => false
  | .Name x _ => isGl sc x && !dbg x && (match w, T.cst.lookup x with
    | .int i, some (.int j) => decide (i = j)
    | .str s, some (.str t) => decide (s = t)
    | _, _ => false)
  | _ => false
def isFresh : E → Bool
  | .op o _ => freshOp o
  | .comp _ _ _ _ _ _ => true
  | .compR _ _ _ _ _ => true
  | _ => false
def isDic : E → Bool
  | .op (.dicD _) [] => true
  | _ => false
def dicSyn : Expr → Bool
  | .Dict [] [] _ => true
  | _ => false
def namSyn (T : Tab) (sc : Scope) (i : Nat) : Expr → Bool
  | .Name x _ => decide (T.N[i]? = some x) && vis sc x && !dbg x
  | _ => false
def callSyn (T : Tab) (sc : Scope) (f k : Nat) : Expr → Option (List Expr)
  | .Call (.Name x _) es [] _ => if isGl sc x && !dbg x && decide ((x, f, k) ∈ T.fnm) then some es else none
  | _ => none
def ownOf (N : List PySem.Str) (own : List Nat) : List (PySem.Str × Nat) := own.map fun i => ((N[i]?).getD "", i)
def andSyn : Expr → Option (List Expr)
  | .BoolOp .And es _ => some es
  | _ => none
def orSyn : Expr → Option (List Expr)
  | .BoolOp .Or es _ => some es
  | _ => none
def notSyn : Expr → Option Expr
  | .UnaryOp .Not b _ => some b
  | _ => none
def ifeSyn : Expr → Option (Expr × Expr × Expr)
  | .IfExp c a b _ => some (c, a, b)
  | _ => none
def chainSyn (o1 o2 : Op) : Expr → Option (Expr × Expr × Expr)
  | .Compare a [c1, c2] [b, c] _ => if decide (cmpTab o1 = some c1) && decide (cmpTab o2 = some c2) && plainE b && plainE c then some (a, b, c) else none
  | _ => none
def compSyn : Expr → Option (Expr × Expr × Expr × List Expr × Scope)
  | .ListComp elt [⟨tg, iter, ifs, 0⟩] scope _ => some (elt, tg, iter, ifs, scope)
  | _ => none
def newSyn (T : Tab) (sc : Scope) (c f k : Nat) : Expr → Option (List Expr)
  | .Call (.Name x _) es [] _ => if isGl sc x && !dbg x && (T.cls.any fun l => decide (l.nm = x) && l.c == c && l.init == f && l.np == k + 1) then some es else none
  | _ => none
def mcSyn (T : Tab) (c f k : Nat) : Expr → Option (Expr × List Expr)
  | .Call (.Attribute o m apos) es [] cpos => if baseE o && (apos.endLine == cpos.line) && decide (es.length < 30) && decide ((c, m, f, k + 1) ∈ T.mts) then some (o, es) else none
  | _ => none
def fldSyn (T : Tab) (c i : Nat) : Expr → Option Expr
  | .Attribute o f _ => if baseE o && (T.cls.any fun l => l.c == c && decide (l.flds[i]? = some f)) then some o else none
  | _ => none
def clsNm (T : Tab) (sc : Scope) (c : Nat) : Expr → Bool
  | .Name x _ => isGl sc x && !dbg x && (if c == 9 then decide (x = ("ValueError" : PySem.Str)) else decide ((x, c) ∈ T.exc) || (T.cls.any fun l => decide (l.nm = x) && l.c == c))
  | _ => false
def clsNms (T : Tab) (sc : Scope) : List Nat → List Expr → Bool
  | [], [] => true
  | c :: cs, e :: es => clsNm T sc c e && clsNms T sc cs es
  | _, _ => false
def isxSyn (T : Tab) (sc : Scope) (cs : List Nat) : Expr → Option Expr
  | .Call (.Name f _) [a, k] [] _ => if decide (f = ("isinstance" : PySem.Str)) && isGl sc f && plainE a && decide (cs.length < 30) then (match k with
    | .Tuple es _ _ => if clsNms T sc cs es then some a else none
    | k => match cs with
      | [c] => if clsNm T sc c k then some a else none
      | _ => none) else none
  | _ => none
def isVarE : E → Bool
  | .var _ => true
  | _ => false
def litE : E → Option (List Nat)
  | .con (.str z) => some z
  | _ => none
def fpsSyn : Expr → Option (List Expr)
  | .JoinedStr (a :: b :: r) _ => some (a :: b :: r)
  | _ => none
def dispSyn : Expr → Option (Expr × Expr)
  | .Dict [some k] [v] _ => some (k, v)
  | _ => none
mutual
def chk (T : Tab) (md : Bool) (sc : Scope) : E → Expr → Bool
  | .var i, e => namSyn T sc i e
  | .con w, e => conSyn T sc w e
  | .op o as, e => match opSyn sc o e with
    | some es => (T.cm || !calmOp o) && opAux o as && chks T false sc as es
    | none => false
  | .mth t o a as, e => match mthTab t o with
    | some nm => match mthSyn nm e with
      | some (b, es) => chk T false sc a b && chks T false sc as es
      | none => false
    | none => false
  | .eff o a as, e => match effTab o with
    | some nm => match mthSyn nm e with
      | some (b, es) => chk T false sc a b && chks T false sc as es
      | none => false
    | none => false
  | .and as, e => match andSyn e with
    | some es => !as.isEmpty && chks T md sc as es
    | none => false
  | .or as, e => match orSyn e with
    | some es => !as.isEmpty && chks T md sc as es
    | none => false
  | .not a, e => match notSyn e with
    | some b => chk T md sc a b
    | none => false
  | .ife c a b, e => match ifeSyn e with
    | some (c', a', b') => !md && chk T true sc c c' && chk T false sc a a' && chk T false sc b b'
    | none => false
  | .chain o1 o2 a b c, e => match chainSyn o1 o2 e with
    | some (a', b', c') => chk T false sc a a' && chk T false sc b b' && chk T false sc c c'
    | none => false
  | .comp elt t k srcs cond own, e => match compSyn e with
    | some (elt', tg, iter, ifs, scope) => match itSyn sc k tg iter with
      | some es => T.cm && chks T false sc srcs es && blkC T.N sc scope (ownOf T.N own) && tgOk T.N scope t tg && (slots t).all (fun i => own.contains i) && decide (cond.length ≤ 1) &&
        chks T true (relS scope sc) cond ifs && chk T false (relS scope sc) elt elt'
      | none => false
    | none => false
  | .call m f as, e => match callSyn T sc f as.length e with
    | some es => T.cm && chks T false sc as es
    | none => false
  | .new _ c f as, e => match newSyn T sc c f as.length e with
    | some es => T.cm && chks T false sc as es
    | none => false
  | .mcall _ c f a as, e => match mcSyn T c f as.length e with
    | some (b, es) => T.cm && chk T false sc a b && chks T false sc as es
    | none => false
  | .fld c i a, e => match fldSyn T c i e with
    | some b => chk T false sc a b
    | none => false
  | .isx cs a, e => match isxSyn T sc cs e with
    | some b => chk T false sc a b
    | none => false
  | .fstr as, e => match fpsSyn e with
    | some es => !md && chkp T sc as es
    | none => false
  | .compR elt t a cond own, e => match compSyn e with
    | some (elt', tg, iter, ifs, scope) => T.cm && plainE iter && chk T false sc a iter && blkC T.N sc scope (ownOf T.N own) && tgOk T.N scope t tg && (slots t).all (fun i => own.contains i) && decide (cond.length ≤ 1) &&
        chks T true (relS scope sc) cond ifs && chk T false (relS scope sc) elt elt'
    | none => false
  | .mut a, e => !md && ((isDic a && dicSyn e) || (isFresh a && chk T false sc a e))
  | .toI a, e => !md && chk T false sc a e
  | .disp k v, e => match dispSyn e with
    | some (k', v') => !md && chk T false sc k k' && chk T false sc v v'
    | none => false
  | .dispT k v, e => match dispSyn e with
    | some (k', v') => !md && chk T false sc k k' && chk T false sc v v'
    | none => false
def chks (T : Tab) (md : Bool) (sc : Scope) : List E → List Expr → Bool
  | [], [] => true
  | a :: as, e :: es => plainE e && chk T md sc a e && chks T md sc as es
  | _, _ => false
def chkp (T : Tab) (sc : Scope) : List E → List Expr → Bool
  | [], [] => true
  | a :: as, e :: es => (match e with
    | .Constant (.str s) _ _ => decide (litE a = some s.cps.toList)
    | .FormattedValue b (-1) none _ => isVarE a && chk T false sc a b
    | _ => false) && chkp T sc as es
  | _, _ => false
end

def Good (G : Gx) (cf : CallF) (Ex : L2.St → XK) (X : Cx) (md : Bool) (m : E) (e : Expr) : Prop :=
  match md with
  | true => PT X e (tT G cf Ex m)
  | false => PE X e (tE G cf Ex m) ∧ (isFresh m = true → PE X e (tF G cf Ex m))
inductive GoodL (G : Gx) (cf : CallF) (Ex : L2.St → XK) (X : Cx) (md : Bool) : List E → List Expr → Prop
  | nil : GoodL G cf Ex X md [] []
  | cons {m : E} {ms : List E} {e : Expr} {es : List Expr} : plainE e = true → Good G cf Ex X md m e → GoodL G cf Ex X md ms es → GoodL G cf Ex X md (m :: ms) (e :: es)
theorem GoodL.pes : ∀ {ms : List E} {es : List Expr}, GoodL G cf Ex X false ms es → PEs G cf Ex X ms es
  | _, _, .nil => .nil
  | _, _, .cons p h t => .cons p h.1 t.pes
theorem dbg_ok {x : PySem.Str} (h : (!dbg x) = true) : (x == ("__debug__" : PySem.Str)) = false ∧ (x == ("__classdict__" : PySem.Str)) = false ∧ x ≠ ("__name__" : PySem.Str) := by
  unfold dbg at h
  simp only [Bool.not_or, Bool.and_eq_true, Bool.not_eq_true'] at h
  exact ⟨h.1.1, h.1.2, by simpa using h.2⟩
theorem good_of {md : Bool} {m : E} {e : Expr} (hf : isFresh m = false) (ht : truE e = true) (h : PE X e (tE G cf Ex m)) : Good G cf Ex X md m e := by
  cases md with
  | true => exact tru_ok h ht
  | false => exact ⟨h, fun z => by rw [hf] at z; cases z⟩
theorem tVar_ok {i : Nat} : ∀ σ H Q, tE G cf Ex (.var i) σ H Q → tVar i σ H Q := by
  rintro σ H Q ⟨I, φ, ρ, S, s, en, h⟩
  simp only [ev] at h
  split at h
  · rename_i w hw
    obtain ⟨v, hv, r⟩ := en.at_ i w hw
    exact ⟨v, hv, KE.here h s r⟩
  · exact h.elim
theorem tCon_ok {w : W} {v : V} (r : ∀ I φ, Rel G I φ w v) : ∀ σ H Q, tE G cf Ex (.con w) σ H Q → tC v σ H Q := by
  rintro σ H Q ⟨I, φ, ρ, S, s, en, h⟩
  simp only [ev] at h
  exact KE.here h s (r _ _)
theorem lookup_mem {α : Type} {l : List (PySem.Str × α)} {x : PySem.Str} {w : α} (h : l.lookup x = some w) : (x, w) ∈ l := by
  induction l with
  | nil => cases h
  | cons p l ih =>
    obtain ⟨a, b⟩ := p
    rw [List.lookup_cons] at h
    split at h
    · rename_i hb
      cases h
      have : x = a := by simpa using hb
      subst this
      exact List.mem_cons_self
    · exact List.mem_cons_of_mem _ (ih h)
theorem conOk {w : W} {e : Expr} (h : conSyn T sc w e = true) (x : XOk T G cf Ex n sc X) : PE X e (tE G cf Ex (.con w)) ∧ truE e = true := by
  unfold conSyn at h
  split at h
  · split at h
    · cases of_decide_eq_true h
      exact ⟨PE_imp pe_int (tCon_ok fun _ _ => rfl), rfl⟩
    · cases h
  · split at h
    · obtain rfl := eq_of_beq h
      exact ⟨PE_imp pe_bl (tCon_ok fun _ _ => rfl), rfl⟩
    · cases h
  · split at h
    · exact ⟨PE_imp pe_non (tCon_ok fun _ _ => rfl), rfl⟩
    · cases h
  · split at h
    · cases of_decide_eq_true h
      exact ⟨PE_imp pe_str (tCon_ok fun _ _ => rfl), rfl⟩
    · cases h
  · simp only [Bool.and_eq_true] at h
    obtain ⟨⟨h1, h2⟩, h3⟩ := h
    have hd := (dbg_ok h2).1
    split at h3
    · rename_i hl
      cases of_decide_eq_true h3
      obtain ⟨u, v, hu, rv, r⟩ := x.csts _ _ (lookup_mem hl)
      exact ⟨PE_imp (pe_glob (x.gl h1) hu rv hd) (tCon_ok r), rfl⟩
    · rename_i hl
      cases of_decide_eq_true h3
      obtain ⟨u, v, hu, rv, r⟩ := x.csts _ _ (lookup_mem hl)
      exact ⟨PE_imp (pe_glob (x.gl h1) hu rv hd) (tCon_ok r), rfl⟩
    · cases h3
  · cases h
theorem notPE {a : E} : ∀ σ H Q, tE G cf Ex (.not a) σ H Q → tNotV (tE G cf Ex a) σ H Q := by
  rintro σ H Q ⟨I, φ, ρ, S, s, en, h⟩
  simp only [ev] at h
  refine ⟨I, φ, ρ, S, s, en, h.bind.imp fun w S1 _ h1 => ?_⟩
  intro v I1 φ1 H1 e1 s1 r1
  split at h1
  · obtain rfl : v = _ := r1
    exact ⟨_, rfl, (KE.ext e1 h1).here s1 rfl⟩
  · exact h1.elim
theorem notPT {a : E} : ∀ σ H Q, tT G cf Ex (.not a) σ H Q → tNot (tT G cf Ex a) σ H Q := by
  rintro σ H Q ⟨I, φ, ρ, S, s, en, h⟩
  simp only [ev] at h
  refine ⟨I, φ, ρ, S, s, en, h.bind.imp fun w S1 _ h1 => ?_⟩
  split at h1
  · obtain ⟨b, hb, q⟩ := h1
    cases hb
    exact ⟨_, rfl, q⟩
  · exact h1.elim
theorem evAnd1 {a : E} {ρ : Env} {S : Sto} : evAnd cf [a] ρ S = (ev cf a ρ S).bind fun w S1 => match w with
    | .bl b => .ok (.bl b) S1
    | _ => .bad := by
  rw [evAnd] <;> rfl
theorem evAnd2 {a b : E} {as : List E} {ρ : Env} {S : Sto} : evAnd cf (a :: b :: as) ρ S = (ev cf a ρ S).bind fun w S1 => match w with
    | .bl true => evAnd cf (b :: as) ρ S1
    | .bl false => .ok (.bl false) S1
    | _ => .bad := by
  rw [evAnd] <;> first | rfl | simp
theorem evOr1 {a : E} {ρ : Env} {S : Sto} : evOr cf [a] ρ S = (ev cf a ρ S).bind fun w S1 => match w with
    | .bl b => .ok (.bl b) S1
    | _ => .bad := by
  rw [evOr] <;> rfl
theorem evOr2 {a b : E} {as : List E} {ρ : Env} {S : Sto} : evOr cf (a :: b :: as) ρ S = (ev cf a ρ S).bind fun w S1 => match w with
    | .bl true => .ok (.bl true) S1
    | .bl false => evOr cf (b :: as) ρ S1
    | _ => .bad := by
  rw [evOr] <;> first | rfl | simp
theorem andPE {pos : Pos} : ∀ {ms : List E} {es : List Expr}, ms ≠ [] → GoodL G cf Ex X false ms es → PE X (.BoolOp .And es pos) (tE G cf Ex (.and ms))
  | [], _, h, _ => absurd rfl h
  | [m], _, _, .cons p h .nil => PE_imp (pe_one h.1) fun σ H Q ⟨I, φ, ρ, S, s, en, q⟩ => by
    simp only [ev, evAnd1] at q
    refine ⟨I, φ, ρ, S, s, en, q.bind.imp fun w S1 _ h1 => ?_⟩
    split at h1
    · exact h1
    · exact h1.elim
  | m :: m' :: ms, _, _, .cons p h (.cons p' h' t) => by
    refine PE_imp (pe_and h.1 (andPE (by simp) (.cons p' h' t))) fun σ H Q ⟨I, φ, ρ, S, s, en, q⟩ => ?_
    simp only [ev, evAnd2] at q
    refine ⟨I, φ, ρ, S, s, en, q.bind.imp fun w S1 _ h1 => ?_⟩
    intro v I1 φ1 H1 e1 s1 r1
    split at h1
    · obtain rfl : v = _ := r1
      refine ⟨true, rfl, ?_⟩
      refine ite_tt ⟨I1, φ1, ρ, S1, s1, en.ext e1, ?_⟩
      simp only [ev]
      exact h1.ext e1 fun _ _ _ k => KE.ext e1 k
    · obtain rfl : v = _ := r1
      exact ⟨false, rfl, ite_ff ((KE.ext e1 h1).here s1 rfl)⟩
    · exact h1.elim
theorem orPE {pos : Pos} : ∀ {ms : List E} {es : List Expr}, ms ≠ [] → GoodL G cf Ex X false ms es → PE X (.BoolOp .Or es pos) (tE G cf Ex (.or ms))
  | [], _, h, _ => absurd rfl h
  | [m], _, _, .cons p h .nil => PE_imp (pe_one h.1) fun σ H Q ⟨I, φ, ρ, S, s, en, q⟩ => by
    simp only [ev, evOr1] at q
    refine ⟨I, φ, ρ, S, s, en, q.bind.imp fun w S1 _ h1 => ?_⟩
    split at h1
    · exact h1
    · exact h1.elim
  | m :: m' :: ms, _, _, .cons p h (.cons p' h' t) => by
    refine PE_imp (pe_or h.1 (orPE (by simp) (.cons p' h' t))) fun σ H Q ⟨I, φ, ρ, S, s, en, q⟩ => ?_
    simp only [ev, evOr2] at q
    refine ⟨I, φ, ρ, S, s, en, q.bind.imp fun w S1 _ h1 => ?_⟩
    intro v I1 φ1 H1 e1 s1 r1
    split at h1
    · obtain rfl : v = _ := r1
      exact ⟨true, rfl, ite_tt ((KE.ext e1 h1).here s1 rfl)⟩
    · obtain rfl : v = _ := r1
      refine ⟨false, rfl, ?_⟩
      refine ite_ff ⟨I1, φ1, ρ, S1, s1, en.ext e1, ?_⟩
      simp only [ev]
      exact h1.ext e1 fun _ _ _ k => KE.ext e1 k
    · exact h1.elim
theorem andPT {pos : Pos} : ∀ {ms : List E} {es : List Expr}, ms ≠ [] → GoodL G cf Ex X true ms es → PW X (.BoolOp .And es pos) (tT G cf Ex (.and ms))
  | [], _, h, _ => absurd rfl h
  | [m], _, _, .cons p h .nil => PW_imp (pw_and1 h) fun σ H Q ⟨I, φ, ρ, S, s, en, q⟩ => by
    simp only [ev, evAnd1] at q
    refine ⟨I, φ, ρ, S, s, en, q.bind.imp fun w S1 _ h1 => ?_⟩
    split at h1
    · exact h1
    · exact h1.elim
  | m :: m' :: ms, _, _, .cons p h (.cons p' h' t) => by
    refine PW_imp (pw_and h (andPT (by simp) (.cons p' h' t))) fun σ H Q ⟨I, φ, ρ, S, s, en, q⟩ => ?_
    simp only [ev, evAnd2] at q
    refine ⟨I, φ, ρ, S, s, en, q.bind.imp fun w S1 _ h1 => ?_⟩
    split at h1
    · refine ⟨true, rfl, fun I1 φ1 H1 e1 s1 => ite_tt ⟨I1, φ1, ρ, S1, s1, en.ext e1, ?_⟩⟩
      simp only [ev]
      exact h1.ext e1 fun _ _ _ ⟨b, hb, k⟩ => ⟨b, hb, fun I2 φ2 H2 e2 s2 => k I2 φ2 H2 (e1.trans e2) s2⟩
    · obtain ⟨b, hb, k⟩ := h1
      cases hb
      exact ⟨false, rfl, fun I1 φ1 H1 e1 s1 => ite_ff (k _ _ _ e1 s1)⟩
    · exact h1.elim
theorem orPT {pos : Pos} : ∀ {ms : List E} {es : List Expr}, ms ≠ [] → GoodL G cf Ex X true ms es → PW X (.BoolOp .Or es pos) (tT G cf Ex (.or ms))
  | [], _, h, _ => absurd rfl h
  | [m], _, _, .cons p h .nil => PW_imp (pw_or1 h) fun σ H Q ⟨I, φ, ρ, S, s, en, q⟩ => by
    simp only [ev, evOr1] at q
    refine ⟨I, φ, ρ, S, s, en, q.bind.imp fun w S1 _ h1 => ?_⟩
    split at h1
    · exact h1
    · exact h1.elim
  | m :: m' :: ms, _, _, .cons p h (.cons p' h' t) => by
    refine PW_imp (pw_or h (orPT (by simp) (.cons p' h' t))) fun σ H Q ⟨I, φ, ρ, S, s, en, q⟩ => ?_
    simp only [ev, evOr2] at q
    refine ⟨I, φ, ρ, S, s, en, q.bind.imp fun w S1 _ h1 => ?_⟩
    split at h1
    · obtain ⟨b, hb, k⟩ := h1
      cases hb
      exact ⟨true, rfl, fun I1 φ1 H1 e1 s1 => ite_tt (k _ _ _ e1 s1)⟩
    · refine ⟨false, rfl, fun I1 φ1 H1 e1 s1 => ite_ff ⟨I1, φ1, ρ, S1, s1, en.ext e1, ?_⟩⟩
      simp only [ev]
      exact h1.ext e1 fun _ _ _ ⟨b, hb, k⟩ => ⟨b, hb, fun I2 φ2 H2 e2 s2 => k I2 φ2 H2 (e1.trans e2) s2⟩
    · exact h1.elim
theorem ifeOk {c a b : E} : ∀ σ H Q, tE G cf Ex (.ife c a b) σ H Q → tIf (tT G cf Ex c) (tE G cf Ex a) (tE G cf Ex b) σ H Q := by
  rintro σ H Q ⟨I, φ, ρ, S, s, en, h⟩
  simp only [ev] at h
  refine ⟨I, φ, ρ, S, s, en, h.bind.imp fun w S1 _ h1 => ?_⟩
  split at h1
  · exact ⟨true, rfl, fun I1 φ1 H1 e1 s1 => ite_tt ⟨I1, φ1, ρ, S1, s1, en.ext e1, h1.ext e1 fun _ _ _ k => KE.ext e1 k⟩⟩
  · exact ⟨false, rfl, fun I1 φ1 H1 e1 s1 => ite_ff ⟨I1, φ1, ρ, S1, s1, en.ext e1, h1.ext e1 fun _ _ _ k => KE.ext e1 k⟩⟩
  · exact h1.elim
theorem chainOk {o1 o2 : Op} {a b c : E} : ∀ σ H Q, tE G cf Ex (.chain o1 o2 a b c) σ H Q → tChain (fun x y => rOp G o1 [x, y]) (fun x y => rOp G o2 [x, y]) (tE G cf Ex a) (tE G cf Ex b) (tE G cf Ex c) σ H Q := by
  rintro σ H Q ⟨I, φ, ρ, S, s, en, h⟩
  simp only [ev] at h
  refine ⟨I, φ, ρ, S, s, en, h.bind.imp fun x S1 _ h1 => ?_⟩
  intro xv I1 φ1 H1 e1 s1 r1
  refine ⟨I1, φ1, ρ, S1, s1, en.ext e1, h1.bind.ext e1 fun y S2 _ h2 => ?_⟩
  intro yv I2 φ2 H2 e2 s2 r2
  have e12 := e1.trans e2
  split at h2
  · rename_i hop
    refine ⟨I2, φ2, S2, _, _, s2, .cons (r1.ext e2) (.cons r2 .nil), hop, ?_⟩
    intro z I3 φ3 H3 e3 s3 r3
    obtain rfl : z = _ := r3
    refine ⟨true, rfl, ite_tt ⟨I3, φ3, ρ, S2, s3, (en.ext e12).ext e3, h2.bind.ext (e12.trans e3) fun w S4 _ h4 => ?_⟩⟩
    intro wv I4 φ4 H4 e4 s4 r4
    obtain ⟨u, hu, k⟩ := Post.ofO h4
    exact ⟨I4, φ4, S4, _, u, s4, .cons ((r2.ext e3).ext e4) (.cons r4 .nil), hu, KE.ext ((e12.trans e3).trans e4) k⟩
  · rename_i hop
    refine ⟨I2, φ2, S2, _, _, s2, .cons (r1.ext e2) (.cons r2 .nil), hop, ?_⟩
    intro z I3 φ3 H3 e3 s3 r3
    obtain rfl : z = _ := r3
    exact ⟨false, rfl, ite_ff ((KE.ext (e12.trans e3) h2).here s3 rfl)⟩
  · exact h2.elim
theorem fresh_op {o : Op} {ws : List W} {S : Sto} {w : W} (hf : freshOp o = true) (h : opSem o ws S = some w) : ∀ t ks vs, w ≠ .dic t ks vs := by
  rintro t ks vs rfl
  cases o <;> first | (cases hf; done) | skip
  · -- add
    simp only [opSem] at h
    split at h
    · unfold opAdd at h
      split at h
      · cases h
      · split at h <;> cases h
      · split at h
        · split at h <;> cases h
        · cases h
    · cases h
  · -- mul
    simp only [opSem] at h
    split at h
    · rcases opMul_cases h with ⟨_, _, _, _, _, z⟩ | ⟨_, _, _, _, _, _, z⟩ | ⟨_, _, _, _, _, _, z⟩ <;> cases z
    · cases h
  · simp only [opSem] at h
    split at h
    · cases hp : partsOf _ _ _ with
      | none => rw [hp] at h; cases h
      | some b =>
        rw [hp] at h
        simp only [Option.bind_some] at h
        unfold sliceSem at h
        split at h
        · split at h <;> cases h
        · cases h
        · simp at h
    · cases h
  · obtain ⟨xs, hx⟩ := listSem_lst h
    cases hx
  · obtain ⟨xs, hx⟩ := sortedSem_lst h
    cases hx
  · have : opSem .lstD ws S = if ws.length < LIM then some (.lst ws) else none := by simp [opSem]
    rw [this] at h
    split at h <;> cases h
  · obtain ⟨a, n, _, _, hw⟩ := rg_sem h
    unfold rgW at hw
    split at hw <;> cases hw
  · obtain ⟨xs, hx⟩ := listDSem_lst h
    cases hx
  · obtain ⟨xs, hx⟩ := rv_lst rfl h
    cases hx
  · obtain ⟨xs, hx⟩ := rv_lst rfl h
    cases hx
theorem fresh_compR {elt : E} {t : Tg} {a : E} {cond : List E} {own : List Nat} {ρ : Env} {S S' : Sto} {w : W} (h : ev cf (.compR elt t a cond own) ρ S = .ok w S') : ∃ xs, w = .lst xs := by
  simp only [ev] at h
  cases he : ev cf a ρ S with
  | ok u S1 =>
    rw [he] at h
    simp only [Rs.bind] at h
    split at h
    · rename_i u' m
      cases hc : compC (fun ρ' S' => ev cf elt ρ' S') (fun ρ' S' => evAll cf cond ρ' S') t (Tw.wipe ρ own) m LIM 0 S1 with
      | ok ys S2 => rw [hc] at h; cases h; exact ⟨ys, rfl⟩
      | ex c S2 => rw [hc] at h; cases h
      | bad => rw [hc] at h; cases h
    · cases h
  | ex c S1 => rw [he] at h; cases h
  | bad => rw [he] at h; cases h
theorem fresh_ev {a : E} (hf : isFresh a = true) {ρ : Env} {S S' : Sto} {w : W} (h : ev cf a ρ S = .ok w S') : ∀ t ks vs, w ≠ .dic t ks vs := by
  cases a <;> first | (cases hf; done) | skip
  · rename_i o as
    simp only [ev] at h
    cases he : evs cf as ρ S with
    | ok ws S1 =>
      rw [he] at h
      simp only [Rs.bind] at h
      cases ho : opSem o ws S1 with
      | none => rw [ho] at h; cases h
      | some u => rw [ho] at h; cases h; exact fresh_op hf ho
    | ex c S1 => rw [he] at h; cases h
    | bad => rw [he] at h; cases h
  · rename_i elt t k srcs cond own
    simp only [ev] at h
    cases he : evs cf srcs ρ S with
    | ok ws S1 =>
      rw [he] at h
      simp only [Rs.bind] at h
      split at h
      · split at h
        · rename_i xs _ _
          cases hc : compL (fun ρ' S' => ev cf elt ρ' S') (fun ρ' S' => evAll cf cond ρ' S') t (Tw.wipe ρ own) xs S1 with
          | ok ys S2 => rw [hc] at h; cases h; intro _ _ _ z; cases z
          | ex c S2 => rw [hc] at h; cases h
          | bad => rw [hc] at h; cases h
        · cases h
      · cases h
    | ex c S1 => rw [he] at h; cases h
    | bad => rw [he] at h; cases h
  · obtain ⟨xs, rfl⟩ := fresh_compR h
    intro _ _ _ z
    cases z
theorem mutOk {a : E} (hf : isFresh a = true) : ∀ σ H Q, tE G cf Ex (.mut a) σ H Q → tF G cf Ex a σ H Q := by
  rintro σ H Q ⟨I, φ, ρ, S, s, en, h⟩
  simp only [ev] at h
  refine ⟨I, φ, ρ, S, s, en, h.bind.imp fun w S1 hw h1 => ?_⟩
  split at h1
  · rename_i xs
    refine ⟨xs, rfl, ?_⟩
    intro p us I1 φ1 H1 e1 s1 hp r hlen
    have h1 : KE G I φ H (S1 ++ [.lst xs]) (.ref S1.length) Q := h1
    obtain ⟨s2, e2⟩ := s1.newC (o := .lst xs) (u := .lst us) hp ⟨us, upd_same, r.mono (Same.refl _) ⟨[p], rfl⟩⟩
    exact (KE.ext (e1.trans e2) h1).here s2 ⟨p, rfl, by rw [← s1.len]; simp⟩
  · exact absurd rfl (fresh_ev hf hw _ _ _)
  · exact h1.elim
theorem dicOk {t : Bool} {e : Expr} (h : dicSyn e = true) : PE X e (tE G cf Ex (.mut (.op (.dicD t) []))) := by
  unfold dicSyn at h
  split at h
  · cases t with
    | false =>
      refine PE_imp pe_dnewK ?_
      rintro σ H Q ⟨I, φ, ρ, S, s, en, h⟩ p hp
      simp only [ev, evs, Rs.bind, ofO, opSem] at h
      have h1 : KE G I φ H (S ++ [.dic false [] []]) (.ref S.length) Q := h
      obtain ⟨s2, e2⟩ := s.newC (o := .dic false [] []) (u := .dK []) hp ⟨[], upd_same, rfl, rfl⟩
      exact (KE.ext e2 h1).here s2 ⟨p, rfl, by rw [← s.len]; simp⟩
    | true =>
      refine PE_imp pe_dnewT ?_
      rintro σ H Q ⟨I, φ, ρ, S, s, en, h⟩ p hp
      simp only [ev, evs, Rs.bind, ofO, opSem] at h
      have h1 : KE G I φ H (S ++ [.dic true [] []]) (.ref S.length) Q := h
      obtain ⟨s2, e2⟩ := s.newC (o := .dic true [] []) (u := .dT []) hp ⟨[], upd_same, rfl, rfl⟩
      exact (KE.ext e2 h1).here s2 ⟨p, rfl, by rw [← s.len]; simp⟩
  · cases h
theorem upd_rm2 {D : Addr} {o : HO} : upd (rm H D) D o = upd H D o := by
  funext a
  by_cases z : a = D
  · rw [z, upd_same, upd_same]
  · rw [upd_ne z, upd_ne z, rm_ne z]
theorem dispOk {k v : E} : ∀ σ H Q, tE G cf Ex (.disp k v) σ H Q → tDisp [(tE G cf Ex k, tE G cf Ex v)] σ H Q := by
  rintro σ H Q ⟨I, φ, ρ, S, s, en, h⟩ p hp
  simp only [ev] at h
  have s0 : Sim G I φ S (upd H p (.dK [])) := Sim.plusD (D := p) (by rw [rm_upd, rm_none hp]; exact s)
  have s0' : Sim G I φ S (rm (upd H p (.dK [])) p) := by rw [rm_upd, rm_none hp]; exact s
  refine ⟨I, φ, ρ, S, s0, en, h.bind.ext (ext_plus hp) fun x S1 _ h1 => ?_⟩
  intro xv I1 φ1 H1 e1 s1 r1
  obtain ⟨s1r, e1r, hp1⟩ := peel s0' upd_same e1 s1
  refine ⟨I1, φ1, ρ, S1, s1, en.ext e1, h1.bind.ext ((ext_plus hp).trans e1) fun y S2 _ h2 => ?_⟩
  intro yv I2 φ2 H2 e2 s2 r2
  obtain ⟨s2r, e2r, hp2⟩ := peel s1r hp1 e2 s2
  refine ⟨hp2, ?_⟩
  split at h2
  · rename_i hk
    obtain ⟨key, rfl, rfl⟩ := keyF r1 hk
    refine ⟨[(key, yv)], rfl, by simp, ?_⟩
    obtain ⟨s3, e3⟩ := s2r.newC (o := .dic false [kW key] [y]) (u := .dK [(key, yv)]) rm_self ⟨[(key, yv)], upd_same, rfl, (Rels.one r2).mono (Same.refl _) ⟨[p], rfl⟩⟩
    have h2 : KE G I φ H (S2 ++ [.dic false [kW key] [y]]) (.ref S2.length) Q := h2
    have eb : Ext I φ H I2 φ2 (rm H2 p) := by
      have := e1r.trans e2r
      rw [rm_upd, rm_none hp] at this
      exact this
    have := (KE.ext (eb.trans e3) h2).here s3 ⟨p, rfl, by rw [← s2.len]; simp⟩
    rw [upd_rm2] at this
    exact this
  · exact h2.elim
theorem dispTOk {k v : E} : ∀ σ H Q, tE G cf Ex (.dispT k v) σ H Q → tDispT (tE G cf Ex k) (tE G cf Ex v) σ H Q := by
  rintro σ H Q ⟨I, φ, ρ, S, s, en, h⟩ p hp
  simp only [ev] at h
  have s0 : Sim G I φ S (upd H p (.dT [])) := Sim.plusD (D := p) (by rw [rm_upd, rm_none hp]; exact s)
  have s0' : Sim G I φ S (rm (upd H p (.dT [])) p) := by rw [rm_upd, rm_none hp]; exact s
  refine ⟨I, φ, ρ, S, s0, en, h.bind.ext (ext_plus hp) fun x S1 _ h1 => ?_⟩
  intro xv I1 φ1 H1 e1 s1 r1
  obtain ⟨s1r, e1r, hp1⟩ := peel s0' upd_same e1 s1
  refine ⟨I1, φ1, ρ, S1, s1, en.ext e1, h1.bind.ext ((ext_plus hp).trans e1) fun y S2 _ h2 => ?_⟩
  intro yv I2 φ2 H2 e2 s2 r2
  obtain ⟨s2r, e2r, hp2⟩ := peel s1r hp1 e2 s2
  refine ⟨hp2, ?_⟩
  split at h2
  · rename_i hk
    obtain ⟨key, b, rfl, rfl, hb⟩ := keyT r1 hk
    refine ⟨key, b, rfl, s2.same _ _ (e2.same _ _ hb), ?_⟩
    obtain ⟨s3, e3⟩ := s2r.newC (o := .dic true [.tup (key.map kW)] [y]) (u := .dT [(key, yv)]) rm_self ⟨[(key, yv)], upd_same, rfl, (Rels.one r2).mono (Same.refl _) ⟨[p], rfl⟩⟩
    have h2 : KE G I φ H (S2 ++ [.dic true [.tup (key.map kW)] [y]]) (.ref S2.length) Q := h2
    have eb : Ext I φ H I2 φ2 (rm H2 p) := by
      have := e1r.trans e2r
      rw [rm_upd, rm_none hp] at this
      exact this
    have := (KE.ext (eb.trans e3) h2).here s3 ⟨p, rfl, by rw [← s2.len]; simp⟩
    rw [upd_rm2] at this
    exact this
  · exact h2.elim
theorem toIOk {a : E} : ∀ σ H Q, tE G cf Ex (.toI a) σ H Q → tE G cf Ex a σ H Q := by
  rintro σ H Q ⟨I, φ, ρ, S, s, en, h⟩
  simp only [ev] at h
  refine ⟨I, φ, ρ, S, s, en, h.bind.imp fun w S1 _ h1 => ?_⟩
  split at h1
  · exact h1
  · exact h1.elim
theorem evs_len {ρ : Env} : ∀ (as : List E) (S S1 : Sto) (ws : List W), evs cf as ρ S = .ok ws S1 → ws.length = as.length := by
  intro as
  induction as with
  | nil => intro S S1 ws h; rw [evs_nil] at h; cases h; rfl
  | cons a as ih =>
    intro S S1 ws h
    rw [evs_cons] at h
    cases ha : ev cf a ρ S with
    | ok w S2 =>
      rw [ha] at h
      cases hb : evs cf as ρ S2 with
      | ok ws' S3 =>
        simp only [Rs.bind, hb] at h
        cases h
        simp [ih _ _ _ hb]
      | ex c S3 => simp only [Rs.bind, hb] at h; cases h
      | bad => simp only [Rs.bind, hb] at h; cases h
    | ex c S2 => rw [ha] at h; cases h
    | bad => rw [ha] at h; cases h
section
variable {k : Nat} {f C : Addr} {fd : FuncData} {ps : List PySem.Str} {sp : Sp} {x m : PySem.Str} {p pos apos : Pos} {e o : Expr} {es : List Expr} {ta : TE} {t : TA}
theorem pe_callS0 (F : FnOk X.prog X.w X.K X.mg X.base (L2.CX X.prog X.w) k f fd ps sp) (hr : Room k X.A) (hg : Gl X x) (hm : X.mg x = some (.ref f)) (hk : PySem.W.keepIn X.K (.ref f) = true) (hb : Binds X.K fd ps []) (hx : ∀ σ, PassesAt (L2.CX X.prog X.w) X σ (Ex σ))
    (hdb : (x == ("__debug__" : PySem.Str)) = false) : PE X (.Call (.Name x p) [] [] pos) (tCallS sp Ex tNil) := .mk fun pins s σ H Q J h =>
  wpAny_Call_Name_kw (ld_glob J hg hm (PySem.W.callWith_K0 J.kIn hk (run_fnS (us := []) F hr hb (hx σ) J .nil h)) hdb)
def tMethS (C : Addr) (m : PySem.Str) (sp : Sp) (Ex : L2.St → XK) (ta : TE) (t : TA) : TE := fun σ H Q => ta σ H fun x H1 => ∃ a dx fs, x = .ref a ∧ H1 a = some (.ins C dx fs) ∧ fs.lookup m = none ∧ t σ H1 fun vs H2 => sp (x :: vs) H2 Q (Ex σ)
theorem pe_methS1 {pl : Sem Bool} (he : PE X o ta) (c : Cls X.K C) (hm : Meth X.K C m f) (F : FnOk X.prog X.w X.K X.mg X.base (L2.CX X.prog X.w) k f fd ps sp) (hr : Room k X.A) (hb : Binds X.K fd ps []) (hx : ∀ σ, PassesAt (L2.CX X.prog X.w) X σ (Ex σ)) (ha : PA X (e :: es) t)
    (hst : starEach (e :: es) X.env = (false, eval e X.env) :: starEach es X.env) (hpl : (backTo pos (starEach es X.env)).any (·.1) = false)
    (ht : eval (.Call (.Attribute o m apos) (e :: es) [] pos) X.env = (do
      let y ← eval o X.env
      standAt apos.atName
      let (g, gs) ← holding [y] (getMethod y m pl)
      callWith pos g gs (backTo pos (starEach (e :: es) X.env)) (backToKw pos (keywordEach [] X.env)))) :
    PE X (.Call (.Attribute o m apos) (e :: es) [] pos) (tMethS C m sp Ex ta t) := .mk fun pins s σ H Q J h => by
  refine PySem.W.methodCall_KW (pl := pl) (thn (he.run pins s σ H _ J h) fun u s1 hu => ?_) ht
  obtain ⟨_, H1, J1, rx, a, dx, fs, rfl, ea, l, q⟩ := hu
  cases rx
  refine getmeth_ok J1 ea c hm l (PySem.W.callWith_K (first := [.ref a]) (h₀ := X.base) J.ok.mod.kin hm.kp (thn (ha.run pos pins s1 σ H1 _ J1 q) fun us s2 hq => ?_) hst hpl)
  obtain ⟨vs, H2, J2, r, q2⟩ := hq
  exact ⟨J2.kIn, run_fnS (us := .ref a :: us) (vs := .ref a :: vs) F hr hb (hx σ) J2 (.cons rfl r) q2⟩
theorem pe_methS0 {pl : Sem Bool} (he : PE X o ta) (c : Cls X.K C) (hm : Meth X.K C m f) (F : FnOk X.prog X.w X.K X.mg X.base (L2.CX X.prog X.w) k f fd ps sp) (hr : Room k X.A) (hb : Binds X.K fd ps []) (hx : ∀ σ, PassesAt (L2.CX X.prog X.w) X σ (Ex σ))
    (ht : eval (.Call (.Attribute o m apos) [] [] pos) X.env = (do
      let y ← eval o X.env
      standAt apos.atName
      let (g, gs) ← holding [y] (getMethod y m pl)
      callWith pos g gs (backTo pos (starEach [] X.env)) (backToKw pos (keywordEach [] X.env)))) :
    PE X (.Call (.Attribute o m apos) [] [] pos) (tMethS C m sp Ex ta tNil) := .mk fun pins s σ H Q J h => by
  refine PySem.W.methodCall_KW (pl := pl) (thn (he.run pins s σ H _ J h) fun u s1 hu => ?_) ht
  obtain ⟨_, H1, J1, rx, a, dx, fs, rfl, ea, l, q⟩ := hu
  cases rx
  exact getmeth_ok J1 ea c hm l (PySem.W.callWith_K0 (first := [.ref a]) J1.kIn hm.kp (run_fnS (us := [.ref a]) (vs := [.ref a]) F hr hb (hx σ) J1 (.cons rfl .nil) q))
def tMakeS (C : Addr) (sp : Sp) (Ex : L2.St → XK) (t : TA) : TE := fun σ H Q => t σ H fun vs H1 => ∀ x dx, H1 x = none → H1 dx = none → dx ≠ x →
  sp (.ref x :: vs) (upd (upd H1 dx (.own x)) x (.ins C dx [])) (fun v H2 => v = .non ∧ Q (.ref x) H2) (Ex σ)
theorem run_makeS {E1 : XK} {pins : List (Addr × Obj)} {σ : L2.St} {H : Hp} {s : Shared} {Q : VK} {us : List Value} {vs : List V} (M : Mk X.K C f) (F : FnOk X.prog X.w X.K X.mg X.base (L2.CX X.prog X.w) k f fd ps sp) (hr : Room (k + 1) X.A) (hb : Binds X.K fd ps [])
    (hx : PassesAt (L2.CX X.prog X.w) X σ E1) (J : L2.Inv X pins σ H s) (r : Vals vs us)
    (h : ∀ x dx, H x = none → H dx = none → dx ≠ x → sp (.ref x :: vs) (upd (upd H dx (.own x)) x (.ins C dx [])) (fun v H2 => v = .non ∧ Q (.ref x) H2) E1) :
    wpAny (model X.prog X.w) X.A (call (.ref C) us) (EP X pins σ Q) X.xe s := by
  have hq := h _ _ (J.hok.fresh (Nat.le_succ _)) (J.hok.fresh (Nat.le_refl s.heap.objs.size)) (Nat.ne_of_lt (Nat.lt_succ_self _))
  have J2 := Inv.made (C := C) J
  have r2 : Vals (V.ref (s.heap.objs.size + 1) :: vs) (Value.ref (s.heap.objs.size + 1) :: us) := .cons rfl r
  have hl : ((Value.ref (s.heap.objs.size + 1) :: us) ++ []).length = ps.length := by rw [List.append_nil, ← r2.length, F.len _ _ _ _ hq]
  have hbt := hb _ (Value.ref (s.heap.objs.size + 1) :: us) J2.kIn hl
  rw [List.append_nil] at hbt
  refine wpAny_call (make_map (f := f) J.kIn M.makes M.init (beq_iff_eq.mp M.fn) (codeAny_mono (F.run _ X.stack _ _ ⟨Value.ref (s.heap.objs.size + 1) :: us, []⟩ _ _ _ E1 (hr.make C us []) (J2.env0.make C us []) hbt r2 hq) fun rs s' hq' => ?_))
  rcases rs with e | fl
  · exact hx pins _ _ e s' J2 hq'
  · cases fl with
    | ret u =>
      obtain ⟨v, H', J3, rv, hv, q3⟩ := J2.after hq'
      rw [hv] at rv
      exact ⟨rv, ⟨.ref (s.heap.objs.size + 1), H', J3, rfl, q3⟩⟩
    | _ => exact hq'.elim
theorem pe_makeS1 (M : Mk X.K C f) (F : FnOk X.prog X.w X.K X.mg X.base (L2.CX X.prog X.w) k f fd ps sp) (hr : Room (k + 1) X.A) (hg : Gl X x) (hm : X.mg x = some (.ref C)) (hb : Binds X.K fd ps []) (hx : ∀ σ, PassesAt (L2.CX X.prog X.w) X σ (Ex σ))
    (ha : PA X (e :: es) t) (hdb : (x == ("__debug__" : PySem.Str)) = false) (he : starEach (e :: es) X.env = (false, eval e X.env) :: starEach es X.env) (hpl : (backTo pos (starEach es X.env)).any (·.1) = false) :
    PE X (.Call (.Name x p) (e :: es) [] pos) (tMakeS C sp Ex t) := .mk fun pins s σ H Q J h =>
  wpAny_Call_Name_kw (ld_glob J hg hm (PySem.W.callWith_K (h₀ := X.base) J.ok.mod.kin M.kp (thn (ha.run pos pins s σ H _ J h) fun us s1 hq => by
    obtain ⟨vs, H1, J1, r, q⟩ := hq
    exact ⟨J1.kIn, run_makeS M F hr hb (hx σ) J1 r q⟩) he hpl) hdb)
theorem pe_makeS0 (M : Mk X.K C f) (F : FnOk X.prog X.w X.K X.mg X.base (L2.CX X.prog X.w) k f fd ps sp) (hr : Room (k + 1) X.A) (hg : Gl X x) (hm : X.mg x = some (.ref C)) (hb : Binds X.K fd ps []) (hx : ∀ σ, PassesAt (L2.CX X.prog X.w) X σ (Ex σ))
    (hdb : (x == ("__debug__" : PySem.Str)) = false) : PE X (.Call (.Name x p) [] [] pos) (tMakeS C sp Ex tNil) := .mk fun pins s σ H Q J h =>
  wpAny_Call_Name_kw (ld_glob J hg hm (PySem.W.callWith_K0 J.kIn M.kp (run_makeS (us := []) M F hr hb (hx σ) J .nil h)) hdb)
end
theorem callOk {m : Md} {f : Nat} {as : List E} {e : Expr} {es : List Expr} (h : callSyn T sc f as.length e = some es) (hcm : T.cm = true) (x : XOk T G cf Ex n sc X) (p : PEs G cf Ex X as es) : PE X e (tE G cf Ex (.call m f as)) ∧ truE e = true := by
  unfold callSyn at h
  split at h
  · split at h
    · rename_i hc
      cases h
      simp only [Bool.and_eq_true, decide_eq_true_eq] at hc
      obtain ⟨⟨hg, hd⟩, hm⟩ := hc
      obtain ⟨fa, fd, ps, hl, h1, h2, h3, h4⟩ := x.fns _ _ _ hm
      refine ⟨?_, rfl⟩
      have key : ∀ σ H Q, tE G cf Ex (.call m f as) σ H Q → tCallS (spF G cf f as.length) Ex (tA G cf Ex as) σ H Q := by
        rintro σ H Q ⟨I, φ, ρ, S, s, en, h⟩
        simp only [ev] at h
        refine ⟨I, φ, ρ, S, s, en, h.bind.imp fun ws S1 hws hk => ?_⟩
        intro vs I1 φ1 H1 e1 s1 r1
        refine ⟨?_, call_ok s1 r1 (hk.ext e1 fun _ _ _ k => KE.ext e1 k)⟩
        rw [r1.length]
        exact evs_len as S S1 ws hws
      have hroom := (x.room hcm).mono (show 2 * n ≤ 2 * n + 1 by omega)
      cases p with
      | nil => exact PE_imp (pe_callS0 h4 hroom (x.gl hg) h1 h2 h3 x.pass (dbg_ok hd).1) fun σ H Q q => tA_nil (key σ H Q q)
      | cons hp hh t => exact PE_imp (pe_callS h4 hroom (x.gl hg) h1 h2 h3 x.pass (PEs.cons hp hh t).pa (dbg_ok hd).1 (star_plain hp) (star_none t.all)) key
    · cases h
  · cases h
theorem newOk {m : Md} {c f : Nat} {as : List E} {e : Expr} {es : List Expr} (h : newSyn T sc c f as.length e = some es) (hcm : T.cm = true) (x : XOk T G cf Ex n sc X) (p : PEs G cf Ex X as es) : PE X e (tE G cf Ex (.new m c f as)) ∧ truE e = true := by
  unfold newSyn at h
  split at h
  · split at h
    · rename_i hc
      cases h
      simp only [Bool.and_eq_true, List.any_eq_true, decide_eq_true_eq, beq_iff_eq] at hc
      obtain ⟨⟨hg, hd⟩, cl, hcl, ⟨⟨rfl, rfl⟩, rfl⟩, hnp⟩ := hc
      obtain ⟨h1, _, _, _, _, _, fa, fd, ps, hl, hM, hB, hF⟩ := x.cls cl hcl
      refine ⟨?_, rfl⟩
      have key : ∀ σ H Q, tE G cf Ex (.new m cl.c cl.init as) σ H Q → tMakeS (G.cad cl.c) (spF G cf cl.init cl.np) Ex (tA G cf Ex as) σ H Q := by
        rintro σ H Q ⟨I, φ, ρ, S, s, en, h⟩
        simp only [ev] at h
        refine ⟨I, φ, ρ, S, s, en, h.bind.imp fun ws S1 hws hk => ?_⟩
        intro vs I1 φ1 H1 e1 s1 r1 a dx ha hdx hne
        refine ⟨?_, new_ok s1 r1 (hk.ext e1 fun _ _ _ k => KE.ext e1 k) ha hdx hne⟩
        rw [List.length_cons, r1.length, evs_len as S S1 ws hws, hnp]
      cases p with
      | nil => exact PE_imp (pe_makeS0 hM hF (x.room hcm) (x.gl hg) h1 hB x.pass (dbg_ok hd).1) fun σ H Q q => tA_nil (key σ H Q q)
      | cons hp hh t => exact PE_imp (pe_makeS1 hM hF (x.room hcm) (x.gl hg) h1 hB x.pass (PEs.cons hp hh t).pa (dbg_ok hd).1 (star_plain hp) (star_none t.all)) key
    · cases h
  · cases h
theorem recRel {w : W} {v : V} {c : Nat} {xs : List W} (s : Sim G I φ S H) (r : Rel G I φ w v) (e : recOf S w = some (c, xs)) : ∃ a dx fs, v = .ref a ∧ H a = some (.ins (G.cad c) dx fs) ∧ fs.map (·.1) = (G.fld c).take fs.length ∧ Rels G I φ xs (fs.map (·.2)) := by
  cases w with
  | rcd c' ys =>
    cases e
    obtain ⟨a, dx, fs, rfl, h1, h2, h3⟩ := r
    exact ⟨a, dx, fs, rfl, s.same _ _ h1, h2, h3⟩
  | ref m =>
    obtain ⟨a, rfl, ha⟩ := r
    simp only [recOf] at e
    split at e
    · rename_i c' ys hS
      cases e
      obtain ⟨dx, fs, h1, h2, h3⟩ := s.cell m a _ ha hS
      exact ⟨a, dx, fs, rfl, h1, h2, h3⟩
    · cases e
  | _ => simp [recOf] at e
theorem lookup_none {fs : List (PySem.Str × V)} {m : PySem.Str} (h : m ∉ fs.map (·.1)) : fs.lookup m = none := by
  induction fs with
  | nil => rfl
  | cons p fs ih =>
    obtain ⟨a, b⟩ := p
    simp only [List.map_cons, List.mem_cons, not_or] at h
    rw [List.lookup_cons, (by simpa using h.1 : (m == a) = false)]
    exact ih h.2
theorem lookup_at {fs : List (PySem.Str × V)} {m : PySem.Str} {i : Nat} {v : V} (hn : (fs.map (·.1)).Nodup) (h1 : (fs.map (·.1))[i]? = some m) (h2 : (fs.map (·.2))[i]? = some v) : fs.lookup m = some v := by
  induction fs generalizing i with
  | nil => simp at h1
  | cons p fs ih =>
    obtain ⟨a, b⟩ := p
    rw [List.map_cons, List.nodup_cons] at hn
    cases i with
    | zero =>
      simp at h1 h2
      subst h1 h2
      simp [List.lookup]
    | succ i =>
      simp only [List.map_cons, List.getElem?_cons_succ] at h1 h2
      have hne : (m == a) = false := by
        rw [Bool.eq_false_iff]
        intro z
        rw [beq_iff_eq] at z
        exact hn.1 (z ▸ List.mem_of_getElem? h1)
      rw [List.lookup_cons, hne]
      exact ih hn.2 h1 h2
theorem fldOk {c i : Nat} {a : E} {e b : Expr} (h : fldSyn T c i e = some b) (x : XOk T G cf Ex n sc X) (ho : PE X b (tE G cf Ex a)) : PE X e (tE G cf Ex (.fld c i a)) ∧ truE e = true := by
  unfold fldSyn at h
  split at h
  · split at h
    · rename_i o f pos hc
      cases h
      simp only [Bool.and_eq_true, List.any_eq_true, decide_eq_true_eq, beq_iff_eq] at hc
      obtain ⟨hb, cl, hcl, rfl, hfi⟩ := hc
      obtain ⟨_, hC, _, hG, hnd, hN, _⟩ := x.cls cl hcl
      refine ⟨PE_imp (pe_fld ho (base_ok hb)) fun σ H Q ⟨I, φ, ρ, S, s, en, q⟩ => ?_, rfl⟩
      simp only [ev] at q
      refine tE_step s en (q.bind.imp fun w S1 _ h1 => ?_)
      intro v I1 φ1 H1 e1 s1 r1
      obtain ⟨u, hu, k⟩ := Post.ofO h1
      unfold fldSem at hu
      split at hu
      · rename_i c' xs hr
        split at hu
        · rename_i hcc
          subst hcc
          obtain ⟨p, dx, fs, rfl, hp, hf, rr⟩ := recRel s1 r1 hr
          obtain ⟨y, hy, ry⟩ := rr.get hu
          have hil : i < fs.length := by have := (List.getElem?_eq_some_iff.mp hy).1; simpa using this
          have h1' : (fs.map (·.1))[i]? = some f := by rw [hf, hG, List.getElem?_take, if_pos hil]; exact hfi
          have hnd' : (fs.map (·.1)).Nodup := by rw [hf, hG]; exact hnd.sublist (List.take_sublist _ _)
          exact ⟨p, _, dx, fs, y, rfl, hp, hC.toCls, hN f (List.mem_of_getElem? hfi), lookup_at hnd' h1' hy, (KE.ext e1 k).here s1 ry⟩
        · cases hu
      · cases hu
    · cases h
  · cases h
theorem meth_eval {o : Expr} {m : PySem.Str} {apos pos : Pos} {args : List Expr} {env : PySem.Env} (hb : baseE o = true) (hp : args.all plainE = true) (hl : args.length < 30) (hline : (apos.endLine == pos.line) = true) :
    ∃ pl : Sem Bool, eval (.Call (.Attribute o m apos) args [] pos) env = (do
      let y ← eval o env
      standAt apos.atName
      let (g, gs) ← holding [y] (getMethod y m pl)
      callWith pos g gs (backTo pos (starEach args env)) (backToKw pos (keywordEach [] env))) := by
  have hform : methodCallForm (args.length + ([] : List Keyword).length) (backTo pos (starEach args env)) (backToKw pos (keywordEach [] env)) = true := few_ok hp hl
  have hpos : methodCallPos true o env apos pos = pure pos := by unfold methodCallPos; simp [hline]
  refine ⟨do return (← importBound o env).getD true, ?_⟩
  rw [arm_eval_Call, base_ok hb]
  unfold methodCall
  rw [hform, hpos]
  rfl
theorem mcSyn_parts {c f k : Nat} {e b : Expr} {es : List Expr} (h : mcSyn T c f k e = some (b, es)) : ∃ mn apos cpos, e = .Call (.Attribute b mn apos) es [] cpos ∧ baseE b = true ∧ (apos.endLine == cpos.line) = true ∧ es.length < 30 ∧ (c, mn, f, k + 1) ∈ T.mts := by
  unfold mcSyn at h
  split at h
  · split at h
    · rename_i hc
      cases h
      simp only [Bool.and_eq_true, decide_eq_true_eq] at hc
      exact ⟨_, _, _, rfl, hc.1.1.1, hc.1.1.2, hc.1.2, hc.2⟩
    · cases h
  · cases h
theorem mcOk {m : Md} {c f : Nat} {a : E} {as : List E} {e b : Expr} {es : List Expr} (h : mcSyn T c f as.length e = some (b, es)) (hcm : T.cm = true) (x : XOk T G cf Ex n sc X) (ho : PE X b (tE G cf Ex a)) (p : PEs G cf Ex X as es) : PE X e (tE G cf Ex (.mcall m c f a as)) ∧ truE e = true := by
      obtain ⟨mn, apos, cpos, rfl, hb, hline, hl30, hm⟩ := mcSyn_parts h
      obtain ⟨hC, hnf, fa, fd, ps, hl, hM, hB, hF⟩ := x.mts _ _ _ _ hm
      refine ⟨?_, rfl⟩
      have key : ∀ σ H Q, tE G cf Ex (.mcall m c f a as) σ H Q → tMethS (G.cad c) mn (spF G cf f (as.length + 1)) Ex (tE G cf Ex a) (tA G cf Ex as) σ H Q := by
        rintro σ H Q ⟨I, φ, ρ, S, s, en, h⟩
        simp only [ev] at h
        refine tE_step s en (h.bind.imp fun w S1 _ h1 => ?_)
        intro v I1 φ1 H1 e1 s1 r1
        split at h1
        · rename_i c' xs hr
          split at h1
          · rename_i hcc
            subst hcc
            obtain ⟨p, dx, fs, rfl, hp, hf, rr⟩ := recRel s1 r1 hr
            refine ⟨p, dx, fs, rfl, hp, lookup_none (fun z => hnf (by rw [hf] at z; exact List.mem_of_mem_take z)), I1, φ1, ρ, S1, s1, en.ext e1, h1.bind.ext e1 fun ws S2 hws h2 => ?_⟩
            intro vs I2 φ2 H2 e2 s2 r2
            refine ⟨?_, call_ok s2 (.cons (r1.ext e2) r2) (h2.ext (e1.trans e2) fun _ _ _ k => KE.ext (e1.trans e2) k)⟩
            rw [List.length_cons, r2.length, evs_len as S1 S2 ws hws]
          · exact h1.elim
        · exact h1.elim
      have hroom := (x.room hcm).mono (show 2 * n ≤ 2 * n + 1 by omega)
      cases p with
      | nil =>
        obtain ⟨pl, ht⟩ := meth_eval (m := mn) (apos := apos) (pos := cpos) (args := []) (env := X.env) hb rfl (by decide) hline
        refine PE_imp (pe_methS0 ho hC hM hF hroom hB x.pass ht) fun σ H Q q => ?_
        refine tE_mono ?_ (key σ H Q q)
        rintro v H1 ⟨p, dx, fs, h1, h2, h3, h4⟩
        exact ⟨p, dx, fs, h1, h2, h3, tA_nil h4⟩
      | cons hp hh t =>
        obtain ⟨pl, ht⟩ := meth_eval (m := mn) (apos := apos) (pos := cpos) (args := _ :: _) (env := X.env) hb (PEs.cons hp hh t).all hl30 hline
        exact PE_imp (pe_methS1 ho hC hM hF hroom hB x.pass (PEs.cons hp hh t).pa (star_plain hp) (star_none t.all) ht) key
theorem kitAny_all {K : PySem.W.Frag} {t : Value} {f : Nat → Bool} : ∀ {cs : List Nat} {g : Nat → Value}, (∀ c ∈ cs, PySem.W.kitOne K t (g c) = some (f c)) → PySem.W.kitAny K t (cs.map g) = some (cs.any f)
  | [], _, _ => rfl
  | c :: cs, g, h => by
    have h1 := h c (by simp)
    have h2 := kitAny_all (cs := cs) (g := g) fun c' hc' => h c' (by simp [hc'])
    cases hf : f c with
    | true =>
      rw [hf] at h1
      simp only [List.map_cons, List.any_cons, hf, Bool.true_or]
      exact kitAny_cons h1 (fun z => by cases z) fun _ => rfl
    | false =>
      rw [hf] at h1
      simp only [List.map_cons, List.any_cons, hf, Bool.false_or]
      exact kitAny_cons h1 (fun _ => h2) fun z => by cases z
theorem rdC {w : W} {v : V} {u : Value} {pins : List (Addr × Obj)} {s : Shared} {σ : L2.St} {cs : List Nat} {b : Bool} (x : XOk T G cf Ex n sc X) (J : L2.Inv X pins σ H s) (sm : Sim G I φ S H) (r : Rel G I φ w v) (ru : L2.RelV v u) (e : isxSem cs S w = some b)
    (hcs : ∀ c ∈ cs, c = 9 ∨ (∃ y, (y, c) ∈ T.exc) ∨ ∃ l ∈ T.cls, l.c = c) :
    ∃ (t : Value) (P : Heap → Prop), PySem.W.KitX X.K u t P ∧ P s.heap ∧ u ≠ .builtin "__main__.__loader__#opaque" ∧ PySem.W.kitAny X.K t (cs.map (cvO G)) = some b ∧ ∀ c, cs = [c] → PySem.W.kitOne X.K t (cvO G c) = some b := by
  have big : ∀ c ∈ cs, 9 ≤ c → c = 9 ∨ ∃ y, (y, c) ∈ T.exc := by
    intro c hc h9
    rcases hcs c hc with h | h | ⟨l, hl, rfl⟩
    · exact .inl h
    · exact .inr h
    · have := (x.cls l hl).2.2.1
      omega
  have own : ∀ k xs, recOf S w = some (k, xs) → (cs == [k] && decide (k < 9)) = true → b = true → ∃ (t : Value) (P : Heap → Prop), PySem.W.KitX X.K u t P ∧ P s.heap ∧ u ≠ .builtin "__main__.__loader__#opaque" ∧ PySem.W.kitAny X.K t (cs.map (cvO G)) = some b ∧ ∀ c, cs = [c] → PySem.W.kitOne X.K t (cvO G c) = some b := by
    intro k xs hr hk hb
    subst hb
    simp only [Bool.and_eq_true, beq_iff_eq, decide_eq_true_eq] at hk
    obtain ⟨hk1, hk2⟩ := hk
    subst hk1
    obtain ⟨a, dx, fs, rfl, ha, _, _⟩ := recRel sm r hr
    have hC : ClsF X.K (G.cad k) := by
      rcases hcs k (by simp) with h | ⟨y, h⟩ | ⟨l, hl, rfl⟩
      · omega
      · have := (x.exc y k h).2.2.1
        omega
      · exact (x.cls l hl).2.1
    obtain ⟨P, Z, p, hx⟩ := kit_of J ru (.base (.ins ha hC.toCls hC.ha hC.hn hC.ht hC.hm))
    have e1 : PySem.W.kitOne X.K (.ref (G.cad k)) (cvO G k) = some true := by
      unfold cvO PySem.W.kitOne
      rw [if_neg (by omega : ¬ k = 9), if_pos (by simp)]
    refine ⟨_, P, Z, p, hx, ?_, fun c hc => ?_⟩
    · exact kitAny_cons e1 (fun z => by cases z) fun _ => rfl
    · cases hc; exact e1
  have one : ∀ {t : Value} {f : Nat → Bool}, (∀ c ∈ cs, PySem.W.kitOne X.K t (cvO G c) = some (f c)) → ∀ c, cs = [c] → PySem.W.kitOne X.K t (cvO G c) = some (cs.any f) := by
    intro t f h c hc
    subst hc
    rw [h c (by simp)]
    simp
  have cv9 : cvO G 9 = .type "ValueError" := by unfold cvO; rw [if_pos rfl]
  have cvn : ∀ c, c ≠ 9 → cvO G c = .ref (G.cad c) := fun c h => by unfold cvO; rw [if_neg h]
  unfold isxSem at e
  split at e
  · split at e
    · rename_i hall
      cases e
      simp only [List.all_eq_true, decide_eq_true_eq] at hall
      obtain rfl : v = .non := r
      cases ru
      have h : ∀ c ∈ cs, PySem.W.kitOne X.K (.type "NoneType") (cvO G c) = some ((fun _ => false) c) := by
        intro c hc
        rcases big c hc (hall c hc) with rfl | ⟨y, h⟩
        · rw [cv9]; exact kit_ty (by decide +kernel)
        · have := x.exc y c h
          rw [cvn c (by omega)]
          exact this.2.2.2.2.1
      have ha : cs.any (fun _ => false) = false := by simp
      refine ⟨_, _, PySem.W.kitx_none, True.intro, (fun z => nomatch z), ?_, ?_⟩
      · have := kitAny_all h; rw [ha] at this; exact this
      · have := one h; rw [ha] at this; exact this
    · cases e
  · split at e
    · rename_i k hall
      cases e
      simp only [List.all_eq_true, decide_eq_true_eq] at hall
      obtain ⟨a, rfl, ha, hk⟩ := r
      cases ru
      obtain ⟨xk, hxk⟩ := x.exs k hk
      obtain ⟨_, hE, hk10, hVE, _, _, hpair⟩ := x.exc xk k hxk
      obtain ⟨⟨oe, vs, ho, hz, hd⟩, _⟩ := J.hok a _ (sm.same _ _ ha)
      have J2 : PySem.W.InstAt s.heap a oe (G.cad k) none := by
        obtain ⟨oc, od, oda, osl⟩ := oe
        obtain ⟨h1, h2⟩ := hz
        dsimp only at h1 h2 hd
        subst h1 h2 hd
        exact ⟨ho, rfl, rfl, trivial⟩
      have h : ∀ c ∈ cs, PySem.W.kitOne X.K (.ref (G.cad k)) (cvO G c) = some ((fun c => subX k c) c) := by
        intro c hc
        rcases big c hc (hall c hc) with rfl | ⟨y, h⟩
        · rw [cv9, hVE]
          congr 1
          unfold subX
          simp [hk10]
        · have := (x.exc y c h).2.2.1
          rw [cvn c (by omega)]
          exact hpair y c h
      exact ⟨_, _, PySem.W.handS_kitx_exc hE.hg hE.hk hE.hs hE.hd hE.ha hE.hn hE.ht hE.hm, J2, (fun z => nomatch z), kitAny_all h, one h⟩
    · cases e
  · split at e
    · rename_i k xs hk
      cases e
      exact own k xs rfl (by simpa using hk) rfl
    · cases e
  · rename_i m
    split at e
    · rename_i k xs hS
      split at e
      · rename_i hk
        cases e
        exact own k xs (by simp [recOf, hS]) (by simpa using hk) rfl
      · cases e
    · cases e
  · cases e
def rIsx (G : Gx) (cs : List Nat) : List V → Hp → VK → Prop := fun xs H Q => ∃ I φ S w v c b, xs = [v, c] ∧ Sim G I φ S H ∧ Rel G I φ w v ∧ isxSem cs S w = some b ∧ ((∃ k, cs = [k] ∧ ClsV c (cvO G k)) ∨ ∃ tp vs, c = .ref tp ∧ H tp = some (.tup vs) ∧ Paired ClsV vs (cs.map (cvO G))) ∧ Q (.bl b) H
theorem call_isx {cs : List Nat} (x : XOk T G cf Ex n sc X) (hcs : ∀ c ∈ cs, c = 9 ∨ (∃ y, (y, c) ∈ T.exc) ∨ ∃ l ∈ T.cls, l.c = c) : CallR X (.builtin "isinstance") (rIsx G cs) := by
  intro pins s σ H xs us Q J r h
  obtain ⟨I, φ, S, w, v, c, b, rfl, sm, rv, e, hc, q⟩ := h
  cases r with
  | cons r1 r =>
    cases r with
    | cons r2 r =>
      cases r
      obtain ⟨t, P, Z, p, hx, e1, e2⟩ := rdC x J sm rv r1 e hcs
      rcases hc with ⟨k, rfl, hk⟩ | ⟨tp, vs, rfl, hT, hp⟩
      · have := hk.eq r2
        subst this
        exact PySem.W.kia_one Z J.kIn p (e2 k rfl) hx fun tk => ⟨.bl b, H, J.tok tk, rfl, q⟩
      · cases r2
        obtain ⟨_, its, rvs, o, h1, h2, m, h3⟩ := J.hok tp _ hT
        have e3 := ClsV.all hp rvs
        subst e3
        obtain ⟨oc, od, dt, sl⟩ := o
        dsimp only at h2 h3
        subst h2 h3
        exact PySem.W.kia_tup Z J.kIn p h1 e1 hx fun tk => ⟨.bl b, H, J.tok tk, rfl, q⟩
theorem clsNm_ok {c : Nat} {k : Expr} (h : clsNm T sc c k = true) (x : XOk T G cf Ex n sc X) : plainE k = true ∧ (c = 9 ∨ (∃ y, (y, c) ∈ T.exc) ∨ ∃ l ∈ T.cls, l.c = c) ∧ ∃ v : V, ClsV v (cvO G c) ∧ PE X k (tC v) := by
  unfold clsNm at h
  split at h
  · rename_i y p
    simp only [Bool.and_eq_true] at h
    obtain ⟨⟨h1, h2⟩, h3⟩ := h
    have hd := dbg_ok h2
    refine ⟨rfl, ?_⟩
    split at h3
    · rename_i h9
      have h9 : c = 9 := by simpa using h9
      subst h9
      have hy : y = "ValueError" := of_decide_eq_true h3
      subst hy
      refine ⟨.inl rfl, .ty "ValueError", .ty _, pe_bltn (x.gl h1) (x.blt _ (by simp [bltNames])) (by decide +kernel) rfl (by decide) (by decide)⟩
    · rename_i h9
      have hc9 : c ≠ 9 := by simpa using h9
      have hcv : cvO G c = .ref (G.cad c) := by unfold cvO; rw [if_neg hc9]
      rw [hcv]
      simp only [Bool.or_eq_true, decide_eq_true_eq, List.any_eq_true, Bool.and_eq_true, beq_iff_eq] at h3
      rcases h3 with h3 | ⟨l, hl, h4, h5⟩
      · exact ⟨.inr (.inl ⟨y, h3⟩), .ref (G.cad c), .own _, pe_glob (x.gl h1) (x.exc _ _ h3).1 rfl hd.1⟩
      · subst h4 h5
        exact ⟨.inr (.inr ⟨l, hl, rfl⟩), .ref (G.cad l.c), .own _, pe_glob (x.gl h1) (x.cls _ hl).1 rfl hd.1⟩
  · cases h
theorem clsNms_ok (x : XOk T G cf Ex n sc X) : ∀ {cs : List Nat} {es : List Expr}, clsNms T sc cs es = true → es.all plainE = true ∧ (∀ c ∈ cs, c = 9 ∨ (∃ y, (y, c) ∈ T.exc) ∨ ∃ l ∈ T.cls, l.c = c) ∧ ∃ vs : List V, Paired ClsV vs (cs.map (cvO G)) ∧ PA X es (fun _ H Q => Q vs H)
  | [], [], _ => ⟨rfl, by simp, [], .nil, PA_imp pa_nil fun _ _ _ q => q⟩
  | c :: cs, e :: es, h => by
    simp only [clsNms, Bool.and_eq_true] at h
    obtain ⟨h1, h2, v, h3, h4⟩ := clsNm_ok h.1 x
    obtain ⟨g1, g2, vs, g3, g4⟩ := clsNms_ok x h.2
    refine ⟨by simp [h1, g1], ?_, v :: vs, .cons h3 g3, PA_imp (pa_cons h4 g4 (star_plain h1)) fun _ _ _ q => q⟩
    intro c' hc'
    rcases List.mem_cons.mp hc' with rfl | hc'
    · exact h2
    · exact g2 c' hc'
  | [], _ :: _, h => by cases h
  | _ :: _, [], h => by cases h
theorem isxOk {cs : List Nat} {a : E} {e b : Expr} (h : isxSyn T sc cs e = some b) (x : XOk T G cf Ex n sc X) (ho : PE X b (tE G cf Ex a)) : PE X e (tE G cf Ex (.isx cs a)) ∧ truE e = true := by
  unfold isxSyn at h
  split at h
  · rename_i f pf a' k pos
    split at h
    · rename_i hc
      simp only [Bool.and_eq_true, decide_eq_true_eq] at hc
      obtain ⟨⟨⟨rfl, hg⟩, hp⟩, hl⟩ := hc
      have key : ∀ {kk : Expr} {t : TE}, a' = b → plainE kk = true → (∀ c ∈ cs, c = 9 ∨ (∃ y, (y, c) ∈ T.exc) ∨ ∃ l ∈ T.cls, l.c = c) → PE X kk t →
          (∀ σ H (Q : V → Hp → Prop), (∀ c H', (H' = H ∧ ∃ k, cs = [k] ∧ ClsV c (cvO G k)) ∨ (∃ tp vs, c = .ref tp ∧ H tp = none ∧ H' = upd H tp (.tup vs) ∧ Paired ClsV vs (cs.map (cvO G))) → Q c H') → t σ H Q) →
          PE X (.Call (.Name "isinstance" pf) [a', kk] [] pos) (tE G cf Ex (.isx cs a)) := by
        intro kk t hab hk hcs pk ht
        subst hab
        refine PE_imp (pe_callB (call_isx x hcs) (x.gl hg) (x.blt _ (by simp [bltNames])) (by decide +kernel) (pa_cons ho (pa_cons pk pa_nil (star_plain hk)) (star_plain hp)) (by decide) (by decide) (star_plain hp) (star_none (by simp [hk]))) fun σ H Q ⟨I, φ, ρ, S, s, en, q⟩ => ?_
        simp only [ev] at q
        refine tE_step s en (q.bind.imp fun w S1 _ h1 => ?_)
        intro v I1 φ1 H1 e1 s1 r1
        obtain ⟨u, hu, kq⟩ := Post.ofO h1
        simp only [Option.map_eq_some_iff] at hu
        obtain ⟨bb, hb, rfl⟩ := hu
        refine ht σ H1 _ ?_
        rintro c H' (⟨rfl, k, hk1, hk2⟩ | ⟨tp, vs, rfl, hn, rfl, hpv⟩)
        · exact ⟨I1, φ1, S1, w, v, c, bb, rfl, s1, r1, hb, .inl ⟨k, hk1, hk2⟩, (KE.ext e1 kq).here s1 rfl⟩
        · have s2 := s1.plus (o := .tup vs) hn
          exact ⟨I1, φ1, S1, w, v, .ref tp, bb, rfl, s2, r1, hb, .inr ⟨tp, vs, rfl, upd_same, hpv⟩, (KE.ext (e1.trans (ext_plus hn)) kq).here s2 rfl⟩
      refine ⟨?_, by split at h <;> rfl⟩
      split at h
      · rename_i es kt pt
        split at h
        · rename_i hns
          cases h
          obtain ⟨g1, g2, vs, g3, g4⟩ := clsNms_ok x hns
          refine key rfl rfl g2 (pe_tup g4) fun σ H Q q => ⟨?_, fun p hp => q _ _ (.inr ⟨p, vs, rfl, hp, rfl, g3⟩)⟩
          have : vs.length = cs.length := by
            have := Paired.length g3
            simpa using this
          rw [this]
          have := lim_ok (show cs.length < LIM by unfold LIM; omega)
          omega
        · cases h
      · split at h
        · rename_i c
          split at h
          · rename_i hnm
            cases h
            obtain ⟨h1, h2, v, h3, h4⟩ := clsNm_ok hnm x
            refine key rfl h1 (by intro c' hc'; simp at hc'; subst hc'; exact h2) h4 fun σ H Q q => q v H (.inl ⟨rfl, c, rfl, h3⟩)
          · cases h
        · cases h
    · cases h
  · cases h
inductive GoodP (G : Gx) (cf : CallF) (Ex : L2.St → XK) (X : Cx) : List E → List Expr → Prop
  | nil : GoodP G cf Ex X [] []
  | lit {z : List Nat} {ms : List E} {j : Nat} {p : Pos} {es : List Expr} : GoodP G cf Ex X ms es → GoodP G cf Ex X (.con (.str z) :: ms) (.Constant (.str ⟨z.toArray⟩) j p :: es)
  | val {i : Nat} {ms : List E} {b : Expr} {p : Pos} {es : List Expr} : PE X b (tE G cf Ex (.var i)) → GoodP G cf Ex X ms es → GoodP G cf Ex X (.var i :: ms) (.FormattedValue b (-1) none p :: es)
def tFp (G : Gx) (cf : CallF) (Ex : L2.St → XK) : List E → List TE
  | [] => []
  | .con (.str z) :: ms => tC (.str ⟨z.toArray⟩) :: tFp G cf Ex ms
  | m :: ms => tFmt (tE G cf Ex m) :: tFp G cf Ex ms
theorem goodP_pj {ms : List E} {es : List Expr} (h : GoodP G cf Ex X ms es) : PJ X es (tFp G cf Ex ms) := by
  induction h with
  | nil => exact .nil
  | lit _ ih => exact .cons pe_str ih
  | val hb _ ih => exact .cons (pe_fmt hb) ih
theorem goodP_evs {ms : List E} {es : List Expr} (h : GoodP G cf Ex X ms es) {ρ : Env} {S : Sto} : (∃ ws, evs cf ms ρ S = .ok ws S) ∨ evs cf ms ρ S = .bad := by
  induction h with
  | nil => exact .inl ⟨[], by rw [evs_nil]⟩
  | lit _ ih =>
    rw [evs_cons]
    simp only [ev, Rs.bind]
    rcases ih with ⟨ws, h⟩ | h
    · exact .inl ⟨_, by rw [h]⟩
    · exact .inr (by rw [h])
  | val _ _ ih =>
    rw [evs_cons]
    simp only [ev]
    split
    · simp only [Rs.bind]
      rcases ih with ⟨ws, h⟩ | h
      · exact .inl ⟨_, by rw [h]⟩
      · exact .inr (by rw [h])
    · exact .inr rfl
theorem fcat_cons {w : W} {ws : List W} {s : List Nat} (h : fcat (w :: ws) = some s) : ∃ a b, fpart w = some a ∧ fcat ws = some b ∧ s = a ++ b := by
  simp only [fcat, Option.bind_eq_some_iff, Option.map_eq_some_iff] at h
  obtain ⟨a, h1, b, h2, rfl⟩ := h
  exact ⟨a, b, h1, h2, rfl⟩
theorem short_ok {n : Nat} (h : n < 100000) : n ≤ sizeLine := by
  have : 100000 ≤ sizeLine := by decide
  omega
theorem fstr_run {ms : List E} {es : List Expr} (h : GoodP G cf Ex X ms es) : ∀ {I H : Hp} {φ : List Addr} {acc : List Nat} {ρ : Env} {σ : L2.St} {ws : List W} {s : List Nat} {Q : V → Hp → Prop}, Sim G I φ S H → Envs G I φ ρ σ → evs cf ms ρ S = .ok ws S → fcat ws = some s → (acc ++ s).length < 100000 →
    KE G I φ H S (.str (acc ++ s)) Q → tJs (tFp G cf Ex ms) ⟨acc.toArray⟩ σ H (fun out H1 => Q (.str out) H1) := by
  induction h with
  | nil =>
    intro I H φ acc ρ σ ws s Q sm en he hf hl q
    rw [evs_nil] at he
    cases he
    cases hf
    rw [List.append_nil] at q
    exact q.here sm rfl
  | @lit z ms j p es _ ih =>
    intro I H φ acc ρ σ ws s Q sm en he hf hl q
    rw [evs_cons] at he
    simp only [ev, Rs.bind] at he
    split at he
    · rename_i ws' S' he'
      cases he
      obtain ⟨a, b, h1, h2, rfl⟩ := fcat_cons hf
      cases h1
      simp only [List.length_append] at hl
      refine ⟨⟨z.toArray⟩, rfl, ?_, ?_⟩
      · refine short_ok ?_
        show (acc.toArray ++ z.toArray).size < 100000
        simp
        omega
      · have e : (PySem.Str.mk acc.toArray ++ PySem.Str.mk z.toArray) = PySem.Str.mk (acc ++ z).toArray := by
          show PySem.Str.mk (acc.toArray ++ z.toArray) = _
          simp
        rw [e]
        refine ih (acc := acc ++ z) (s := b) sm en he' h2 (by simp; omega) (by rw [List.append_assoc]; exact q)
    · cases he
    · cases he
  | @val i ms b' p es _ _ ih =>
    intro I H φ acc ρ σ ws s Q sm en he hf hl q
    rw [evs_cons] at he
    simp only [ev] at he
    split at he
    · rename_i w hw
      simp only [Rs.bind] at he
      split at he
      · rename_i ws' S' he'
        cases he
        obtain ⟨a, b, h1, h2, rfl⟩ := fcat_cons hf
        simp only [List.length_append] at hl
        have e : (PySem.Str.mk acc.toArray ++ PySem.Str.mk a.toArray) = PySem.Str.mk (acc ++ a).toArray := by
          show PySem.Str.mk (acc.toArray ++ a.toArray) = _
          simp
        have hlen : (PySem.Str.mk acc.toArray ++ PySem.Str.mk a.toArray).length ≤ sizeLine := by
          refine short_ok ?_
          show (acc.toArray ++ a.toArray).size < 100000
          simp
          omega
        refine ⟨I, φ, ρ, S, sm, en, ?_⟩
        simp only [ev, hw]
        intro v I1 φ1 H1 e1 s1 r1
        have step : tJs (tFp G cf Ex ms) ⟨(acc ++ a).toArray⟩ σ H1 (fun out H1 => Q (.str out) H1) := ih (acc := acc ++ a) (s := b) s1 (en.ext e1) he' h2 (by simp; omega) (by rw [List.append_assoc]; exact KE.ext e1 q)
        unfold fpart at h1
        split at h1
        · rename_i y
          cases h1
          obtain rfl : v = _ := r1
          refine .inl ⟨_, rfl, ?_, _, rfl, hlen, by rw [e]; exact step⟩
          refine short_ok ?_
          show (Array.size _) < 100000
          simp
          omega
        · rename_i j
          split at h1
          · rename_i hj
            cases h1
            obtain rfl : v = _ := r1
            simp only [decide_eq_true_eq] at hj
            refine .inr ⟨j, rfl, ?_, PySem.Str.mk (strI j).toArray, strI_v j, hlen, by rw [e]; exact step⟩
            have : j.natAbs < 2 ^ 1920 := Nat.lt_trans hj (by decide)
            by_cases h0 : j.natAbs = 0
            · rw [h0]; decide
            · exact (Nat.log2_lt h0).mpr this
          · cases h1
        · cases h1
      · cases he
      · cases he
    · cases he
theorem fstrOk {ms : List E} {e : Expr} {es : List Expr} (h : fpsSyn e = some es) (p : GoodP G cf Ex X ms es) : PE X e (tE G cf Ex (.fstr ms)) := by
  unfold fpsSyn at h
  split at h
  · cases h
    refine PE_imp (pe_joined (goodP_pj p)) fun σ H Q ⟨I, φ, ρ, S, s, en, q⟩ => ?_
    simp only [ev] at q
    rcases goodP_evs p (ρ := ρ) (S := S) with ⟨ws, he⟩ | he
    · rw [he] at q
      simp only [Rs.bind] at q
      split at q
      · rename_i z hz
        split at q
        · rename_i hl
          exact fstr_run p (acc := []) s en he hz hl q
        · exact q.elim
      · exact q.elim
    · rw [he] at q
      exact q.elim
  · cases h
theorem ownOf_snd {N : List PySem.Str} {own : List Nat} : (ownOf N own).map (·.2) = own := by
  unfold ownOf
  rw [List.map_map]
  exact List.map_id _
theorem blk_wr {scope : Scope} {cl : List (PySem.Str × Addr)} {C : Addr} {s : Shared} {fp : List Addr} : Wr scope (X.blk s H scope (compEnvC scope cl C X.env) fp) := by
  intro y
  refine ⟨fun h => lookup_relS_keep (by simp) h, fun h => ⟨lookup_relS_keep (by simp) h, ?_⟩⟩
  show (scope.names.lookup y == some .cell) = true
  rw [h]
  rfl
theorem blk_ok {scope : Scope} {cl : List (PySem.Str × Addr)} {C : Addr} {s : Shared} {fp : List Addr} (x : XOk T G cf Ex n sc X) : XOk T G cf EN n (relS scope sc) (X.blk s H scope (compEnvC scope cl C X.env) fp) where
  calm := x.calm
  hk := x.hk
  nd := x.nd
  hN := x.hN
  hsc := by show relS scope X.env.scope = _; rw [x.hsc]
  un := x.un
  room := x.room
  blt := x.blt
  fns := x.fns
  csts := x.csts
  cls := x.cls
  mts := x.mts
  exc := x.exc
  exs := x.exs
  pass := fun σ pins H s e s' J c => passL pins σ H s e s' J c
theorem lastM {c1 c2 : CmpOp} {b c : Expr} (h : plainE c = true) : lastMarks [c1, c2] [b, c] = false := marks_ok h
theorem condOk {cond : List E} {ifs : List Expr} (hl : cond.length ≤ 1) (p : GoodL G cf EN X true cond ifs) : PTs X ifs (tCond G cf cond) := by
  cases p with
  | nil =>
    refine ⟨fun pins s σ H Q I q => pts_nil.run pins s σ H Q I ?_⟩
    obtain ⟨I, φ, ρ, S, s, en, h⟩ := q
    simp only [evAll] at h
    obtain ⟨b, hb, k⟩ := h
    cases hb
    exact k _ _ _ (Ext.refl _ _ _) s
  | cons hp hg ht =>
    cases ht with
    | nil =>
      refine ⟨fun pins s σ H Q I q => (pts_one hg).run pins s σ H Q I ?_⟩
      obtain ⟨I, φ, ρ, S, s, en, h⟩ := q
      simp only [evAll] at h
      exact ⟨I, φ, ρ, S, s, en, h⟩
    | cons _ _ _ => simp at hl
theorem comp_lst {elt : E} {t : Tg} {k : ItK} {srcs cond : List E} {own : List Nat} {ρ : Env} {S S' : Sto} {w : W} (h : ev cf (.comp elt t k srcs cond own) ρ S = .ok w S') : ∃ xs, w = .lst xs := by
  simp only [ev] at h
  cases he : evs cf srcs ρ S with
  | ok ws S1 =>
    rw [he] at h
    simp only [Rs.bind] at h
    split at h
    · split at h
      · rename_i xs _ _
        cases hc : compL (fun ρ' S' => ev cf elt ρ' S') (fun ρ' S' => evAll cf cond ρ' S') t (Tw.wipe ρ own) xs S1 with
        | ok ys S2 => rw [hc] at h; cases h; exact ⟨ys, rfl⟩
        | ex c S2 => rw [hc] at h; cases h
        | bad => rw [hc] at h; cases h
      · cases h
    · cases h
  | ex c S1 => rw [he] at h; cases h
  | bad => rw [he] at h; cases h
mutual
theorem chk_ok : ∀ (m : E) {md : Bool} {e : Expr} {sc : Scope} {Ex : L2.St → XK} {X : Cx}, chk T md sc m e = true → XOk T G cf Ex n sc X → Good G cf Ex X md m e
  | .var i, md, e, sc, Ex, X, h, x => by
    rw [chk] at h
    unfold namSyn at h
    split at h
    · simp only [Bool.and_eq_true, decide_eq_true_eq] at h
      obtain ⟨⟨h1, h2⟩, h3⟩ := h
      have hd := dbg_ok h3
      refine good_of rfl rfl (PE_imp (pe_var (by rw [x.hN]; exact h1) (by have := vis_ok h2; rw [← x.hsc] at this; exact this) hd.1 hd.2.1) tVar_ok)
    · cases h
  | .con w, md, e, sc, Ex, X, h, x => by
    rw [chk] at h
    obtain ⟨h1, h2⟩ := conOk h x
    exact good_of rfl h2 h1
  | .op o as, md, e, sc, Ex, X, h, x => by
    rw [chk] at h
    split at h
    · rename_i es hs
      simp only [Bool.and_eq_true] at h
      have p := (chks_ok as h.2 x).pes
      have hcm : calmOp o = true → T.cm = true := fun z => by
        have := h.1.1
        rw [z] at this
        simpa using this
      cases md with
      | true => exact opOkT hs x hcm p h.1.2
      | false => exact ⟨opOk hs x hcm p h.1.2, fun hf => opOkF hf hs x hcm p h.1.2⟩
    · cases h
  | .mth t o a as, md, e, sc, Ex, X, h, x => by
    rw [chk] at h
    split at h
    · rename_i nm hn
      split at h
      · rename_i b es hm
        simp only [Bool.and_eq_true] at h
        have h1 := chk_ok a h.1 x
        have p := (chks_ok as h.2 x).pes
        have := mthOk hn hm x h1.1 p
        refine good_of rfl ?_ this
        unfold mthSyn at hm
        split at hm
        · rfl
        · cases hm
      · cases h
    · cases h
  | .eff o a as, md, e, sc, Ex, X, h, x => by
    rw [chk] at h
    split at h
    · rename_i nm hn
      split at h
      · rename_i b es hm
        simp only [Bool.and_eq_true] at h
        have h1 := chk_ok a h.1 x
        have p := (chks_ok as h.2 x).pes
        have := effOk hn hm x h1.1 p
        refine good_of rfl ?_ this
        unfold mthSyn at hm
        split at hm
        · rfl
        · cases hm
      · cases h
    · cases h
  | .and as, md, e, sc, Ex, X, h, x => by
    rw [chk] at h
    split at h
    · rename_i es he
      simp only [Bool.and_eq_true] at h
      have p := chks_ok as h.2 x
      have hne : as ≠ [] := by
        rintro rfl
        simp at h
      unfold andSyn at he
      split at he
      · cases he
        cases md with
        | true => exact (andPT hne p).pt
        | false => exact ⟨andPE hne p, fun z => by cases z⟩
      · cases he
    · cases h
  | .or as, md, e, sc, Ex, X, h, x => by
    rw [chk] at h
    split at h
    · rename_i es he
      simp only [Bool.and_eq_true] at h
      have p := chks_ok as h.2 x
      have hne : as ≠ [] := by
        rintro rfl
        simp at h
      unfold orSyn at he
      split at he
      · cases he
        cases md with
        | true => exact (orPT hne p).pt
        | false => exact ⟨orPE hne p, fun z => by cases z⟩
      · cases he
    · cases h
  | .not a, md, e, sc, Ex, X, h, x => by
    rw [chk] at h
    split at h
    · rename_i b he
      have p := chk_ok a h x
      unfold notSyn at he
      split at he
      · cases he
        cases md with
        | true => exact PT_imp (pt_not p) notPT
        | false => exact ⟨PE_imp (pe_not p.1) notPE, fun z => by cases z⟩
      · cases he
    · cases h
  | .ife c a b, md, e, sc, Ex, X, h, x => by
    rw [chk] at h
    split at h
    · rename_i c' a' b' he
      simp only [Bool.and_eq_true] at h
      obtain ⟨⟨⟨h0, h1⟩, h2⟩, h3⟩ := h
      have p1 := chk_ok c h1 x
      have p2 := chk_ok a h2 x
      have p3 := chk_ok b h3 x
      unfold ifeSyn at he
      split at he
      · cases he
        cases md with
        | true => cases h0
        | false => exact ⟨PE_imp (pe_ifExp p1 p2.1 p3.1) ifeOk, fun z => by cases z⟩
      · cases he
    · cases h
  | .chain o1 o2 a b c, md, e, sc, Ex, X, h, x => by
    rw [chk] at h
    split at h
    · rename_i a' b' c' he
      simp only [Bool.and_eq_true] at h
      obtain ⟨⟨h5, h6⟩, h7⟩ := h
      have p1 := chk_ok a h5 x
      have p2 := chk_ok b h6 x
      have p3 := chk_ok c h7 x
      unfold chainSyn at he
      split at he
      · split at he
        · rename_i hc
          cases he
          simp only [Bool.and_eq_true, decide_eq_true_eq] at hc
          obtain ⟨⟨⟨h1, h2⟩, h3⟩, h4⟩ := hc
          cases md with
          | true => exact PT_imp (pt_chain (cmpTab_ok h1 x.hu) (cmpTab_ok h2 x.hu) p1.1 p2.1 p3.1 (lastM h4)) fun σ H Q q => chainOk σ H _ (tT_test σ H Q q)
          | false => exact ⟨PE_imp (pe_chain (cmpTab_ok h1 x.hu) (cmpTab_ok h2 x.hu) p1.1 p2.1 p3.1 (lastM h4)) chainOk, fun z => by cases z⟩
        · cases he
      · cases he
    · cases h
  | .comp elt t k srcs cond own, md, e, sc, Ex, X, h, x => by
    rw [chk] at h
    split at h
    · rename_i elt' tg iter ifs scope he
      split at h
      · rename_i es hi
        simp only [Bool.and_eq_true, decide_eq_true_eq] at h
        obtain ⟨⟨⟨⟨⟨⟨⟨hcm, h1⟩, h2⟩, h3⟩, h4⟩, h5⟩, h6⟩, h7⟩ := h
        have p := (chks_ok srcs h1 x).pes
        obtain ⟨q1, q2⟩ := itOk hi x p
        unfold compSyn at he
        split at he
        · rename_i pos
          cases he
          have key : PE X (.ListComp elt' [⟨tg, iter, ifs, 0⟩] scope pos) (tF G cf Ex (.comp elt t k srcs cond own)) := by
            refine PE_imp (pe_lc (g := tTgt G t) (tt := tCond G cf cond) (te := tE G cf EN elt) (own := ownOf T.N own) (x.calm hcm) x.nd q1 (by rw [x.hN, x.hsc]; exact blkOk_by h2) ?_ ?_ ?_ (set_ok q2)) ?_
            · intro s H C cl fp
              exact tgOk_ok (fun _ => x.calm hcm) x.hN x.nd blk_wr h3
            · intro s H C cl fp
              have pc := chks_ok (Ex := EN) cond h6 (blk_ok (s := s) (H := H) (C := C) (cl := cl) (fp := fp) (scope := scope) x)
              exact condOk h5 pc
            · intro s H C cl fp
              exact (chk_ok elt h7 (blk_ok x)).1
            · rw [ownOf_snd]
              exact comp_ok h4
          have key2 := PE_imp key (tE_tF fun ρ S w S' he => comp_lst he)
          cases md with
          | true => exact tru_ok key2 rfl
          | false => exact ⟨key2, fun _ => key⟩
        · cases he
      · cases h
    · cases h
  | .call m f as, md, e, sc, Ex, X, h, x => by
    rw [chk] at h
    split at h
    · rename_i es hs
      simp only [Bool.and_eq_true] at h
      have p := (chks_ok as h.2 x).pes
      obtain ⟨h1, h2⟩ := callOk (m := m) hs h.1 x p
      exact good_of rfl h2 h1
    · cases h
  | .new m c f as, md, e, sc, Ex, X, h, x => by
    rw [chk] at h
    split at h
    · rename_i es hs
      simp only [Bool.and_eq_true] at h
      have p := (chks_ok as h.2 x).pes
      obtain ⟨h1, h2⟩ := newOk (m := m) hs h.1 x p
      exact good_of rfl h2 h1
    · cases h
  | .mcall m c f a as, md, e, sc, Ex, X, h, x => by
    rw [chk] at h
    split at h
    · rename_i b es hs
      simp only [Bool.and_eq_true] at h
      have p1 := chk_ok a h.1.2 x
      have p := (chks_ok as h.2 x).pes
      obtain ⟨h1, h2⟩ := mcOk (m := m) hs h.1.1 x p1.1 p
      exact good_of rfl h2 h1
    · cases h
  | .fld c i a, md, e, sc, Ex, X, h, x => by
    rw [chk] at h
    split at h
    · rename_i b hs
      have p1 := chk_ok a h x
      obtain ⟨h1, h2⟩ := fldOk hs x p1.1
      exact good_of rfl h2 h1
    · cases h
  | .isx cs a, md, e, sc, Ex, X, h, x => by
    rw [chk] at h
    split at h
    · rename_i b hs
      have p1 := chk_ok a h x
      obtain ⟨h1, h2⟩ := isxOk hs x p1.1
      exact good_of rfl h2 h1
    · cases h
  | .fstr as, md, e, sc, Ex, X, h, x => by
    rw [chk] at h
    split at h
    · rename_i es hs
      simp only [Bool.and_eq_true] at h
      cases md with
      | true => cases h.1
      | false => exact ⟨fstrOk hs (chkp_ok as h.2 x), fun z => by cases z⟩
    · cases h
  | .compR elt t a cond own, md, e, sc, Ex, X, h, x => by
    rw [chk] at h
    split at h
    · rename_i elt' tg iter ifs scope he
      simp only [Bool.and_eq_true, decide_eq_true_eq] at h
      obtain ⟨⟨⟨⟨⟨⟨⟨⟨hcm, hpl⟩, h1⟩, h2⟩, h3⟩, h4⟩, h5⟩, h6⟩, h7⟩ := h
      have p1 := (chk_ok a h1 x).1
      unfold compSyn at he
      split at he
      · rename_i pos
        cases he
        have key : PE X (.ListComp elt' [⟨tg, iter, ifs, 0⟩] scope pos) (tF G cf Ex (.compR elt t a cond own)) := by
          refine PE_imp (pe_lc (g := tTgt G t) (tt := tCond G cf cond) (te := tE G cf EN elt) (own := ownOf T.N own) (x.calm hcm) x.nd (pi_list p1) (by rw [x.hN, x.hsc]; exact blkOk_by h2) ?_ ?_ ?_ (set_ok hpl)) ?_
          · intro s H C cl fp
            exact tgOk_ok (fun _ => x.calm hcm) x.hN x.nd blk_wr h3
          · intro s H C cl fp
            have pc := chks_ok (Ex := EN) cond h6 (blk_ok (s := s) (H := H) (C := C) (cl := cl) (fp := fp) (scope := scope) x)
            exact condOk h5 pc
          · intro s H C cl fp
            exact (chk_ok elt h7 (blk_ok x)).1
          · rw [ownOf_snd]
            exact compR_ok h4
        have key2 := PE_imp key (tE_tF fun ρ S w S' he => fresh_compR he)
        cases md with
        | true => exact tru_ok key2 rfl
        | false => exact ⟨key2, fun _ => key⟩
      · cases he
    · cases h
  | .mut a, md, e, sc, Ex, X, h, x => by
    rw [chk] at h
    simp only [Bool.and_eq_true, Bool.or_eq_true] at h
    obtain ⟨h0, h⟩ := h
    cases md with
    | true => cases h0
    | false =>
      refine ⟨?_, fun z => by cases z⟩
      rcases h with ⟨h1, h2⟩ | ⟨h1, h2⟩
      · unfold isDic at h1
        split at h1
        · exact dicOk h2
        · cases h1
      · exact PE_imp ((chk_ok a h2 x).2 h1) (mutOk h1)
  | .toI a, md, e, sc, Ex, X, h, x => by
    rw [chk] at h
    simp only [Bool.and_eq_true] at h
    obtain ⟨h0, h⟩ := h
    cases md with
    | true => cases h0
    | false => exact ⟨PE_imp (chk_ok a h x).1 toIOk, fun z => by cases z⟩
  | .disp k v, md, e, sc, Ex, X, h, x => by
    rw [chk] at h
    split at h
    · rename_i k' v' he
      simp only [Bool.and_eq_true] at h
      obtain ⟨⟨h0, h1⟩, h2⟩ := h
      have p1 := (chk_ok k h1 x).1
      have p2 := (chk_ok v h2 x).1
      unfold dispSyn at he
      split at he
      · cases he
        cases md with
        | true => cases h0
        | false => exact ⟨PE_imp (pe_disp (pps_cons p1 p2 pps_nil) (by rfl) (by rfl) (by simp) (by simp)) dispOk, fun z => by cases z⟩
      · cases he
    · cases h
  | .dispT k v, md, e, sc, Ex, X, h, x => by
    rw [chk] at h
    split at h
    · rename_i k' v' he
      simp only [Bool.and_eq_true] at h
      obtain ⟨⟨h0, h1⟩, h2⟩ := h
      have p1 := (chk_ok k h1 x).1
      have p2 := (chk_ok v h2 x).1
      unfold dispSyn at he
      split at he
      · cases he
        cases md with
        | true => cases h0
        | false => exact ⟨PE_imp (pe_dispT (by have := x.hu; omega) p1 p2) dispTOk, fun z => by cases z⟩
      · cases he
    · cases h
theorem chks_ok : ∀ (ms : List E) {md : Bool} {es : List Expr} {sc : Scope} {Ex : L2.St → XK} {X : Cx}, chks T md sc ms es = true → XOk T G cf Ex n sc X → GoodL G cf Ex X md ms es
  | [], md, es, sc, Ex, X, h, x => by
    cases es with
    | nil => exact .nil
    | cons e es => simp [chks] at h
  | m :: ms, md, es, sc, Ex, X, h, x => by
    cases es with
    | nil => simp [chks] at h
    | cons e es =>
      rw [chks] at h
      simp only [Bool.and_eq_true] at h
      exact .cons h.1.1 (chk_ok m h.1.2 x) (chks_ok ms h.2 x)
theorem chkp_ok : ∀ (ms : List E) {es : List Expr} {sc : Scope} {Ex : L2.St → XK} {X : Cx}, chkp T sc ms es = true → XOk T G cf Ex n sc X → GoodP G cf Ex X ms es
  | [], es, sc, Ex, X, h, x => by
    cases es with
    | nil => exact .nil
    | cons e es => simp [chkp] at h
  | m :: ms, es, sc, Ex, X, h, x => by
    cases es with
    | nil => simp [chkp] at h
    | cons e es =>
      unfold chkp at h
      simp only [Bool.and_eq_true] at h
      obtain ⟨h1, h2⟩ := h
      split at h1
      · have h1 := of_decide_eq_true h1
        unfold litE at h1
        split at h1
        · rename_i z
          cases h1
          exact .lit (chkp_ok ms h2 x)
        · cases h1
      · simp only [Bool.and_eq_true] at h1
        have h3 := (chk_ok m h1.2 x).1
        have h4 := h1.1
        unfold isVarE at h4
        split at h4
        · exact .val h3 (chkp_ok ms h2 x)
        · cases h4
      · cases h1
end
end Tw

namespace Tw
open PySem PySem.Spec PyProof.Rows L2

variable {G : Gx} {I I' I1 I2 H H' H1 H2 : Hp} {φ φ' φ1 φ2 : List Addr} {S S' S1 : Sto} {K : PySem.W.Frag} {X : Cx} {cf : CallF} {T : Tab} {Ex : L2.St → XK} {n L : Nat} {sc : Scope}

def KS (G : Gx) (I : Hp) (φ : List Addr) (H : Hp) (ρ : Env) (S : Sto) (N : L2.St → Hp → Prop) : Prop :=
  ∀ σ I' φ' H', Ext I φ H I' φ' H' → Sim G I' φ' S H' → Envs G I' φ' ρ σ → N σ H'
theorem KS.ext {ρ : Env} {N : L2.St → Hp → Prop} (e : Ext I φ H I1 φ1 H1) (k : KS G I φ H ρ S N) : KS G I1 φ1 H1 ρ S N := fun σ I' φ' H' e' s en => k σ I' φ' H' (e.trans e') s en
def PostS (G : Gx) (Ex : L2.St → XK) (I : Hp) (φ : List Addr) (H : Hp) (r : SR) (D : Ends) : Prop :=
  match r with
  | .next ρ S => KS G I φ H ρ S D.nx
  | .ret w S => KE G I φ H S w D.rt
  | .brk ρ S => KS G I φ H ρ S D.bk
  | .cont ρ S => KS G I φ H ρ S D.ct
  | .ex ρ c S => ∀ σ I' φ' H', Ext I φ H I' φ' H' → Sim G I' φ' S H' → Envs G I' φ' ρ σ → Ex σ (.ref (G.cad c)) none H'
  | .bad => False
theorem PostS.ext {r : SR} {D : Ends} (e : Ext I φ H I1 φ1 H1) (h : PostS G Ex I φ H r D) : PostS G Ex I1 φ1 H1 r D := by
  cases r with
  | next ρ S => exact KS.ext e h
  | ret w S => exact KE.ext e h
  | brk ρ S => exact KS.ext e h
  | cont ρ S => exact KS.ext e h
  | ex ρ c S => exact fun σ I' φ' H' e' s en => h σ I' φ' H' (e.trans e') s en
  | bad => exact h
def tS (G : Gx) (cf : CallF) (L : Nat) (Ex : L2.St → XK) (m : Stm) : TS := fun D σ H => ∃ I φ ρ S, Sim G I φ S H ∧ Envs G I φ ρ σ ∧ PostS G Ex I φ H (exec cf L m ρ S) D
def tSs (G : Gx) (cf : CallF) (L : Nat) (Ex : L2.St → XK) (ms : List Stm) : TS := fun D σ H => ∃ I φ ρ S, Sim G I φ S H ∧ Envs G I φ ρ σ ∧ PostS G Ex I φ H (execs cf L ms ρ S) D
theorem PS_imp {e : Stmt} {t t' : TS} (h : PS X e t) (i : ∀ D σ H, t' D σ H → t D σ H) : PS X e t' := ⟨fun pins s σ H D J q => h.run pins s σ H D J (i D σ H q)⟩
theorem PSs_imp {e : List Stmt} {t t' : TS} (h : PSs X e t) (i : ∀ D σ H, t' D σ H → t D σ H) : PSs X e t' := ⟨fun pins s σ H D J q => h.run pins s σ H D J (i D σ H q)⟩
theorem PostS.sr {α : Type} {r : Rs α} {ρ : Env} {σ : L2.St} {f : α → Sto → SR} {D : Ends} (h : PostS G Ex I φ H (r.sr ρ f) D) (en : Envs G I φ ρ σ) : Post G (Ex σ) I φ H r fun a S1 => PostS G Ex I φ H (f a S1) D := by
  cases r with
  | ok a S => exact h
  | ex c S => exact fun I' φ' H' e s => h σ I' φ' H' e s (en.ext e)
  | bad => exact h
theorem PostS.imp {r : SR} {D D' : Ends} (h : PostS G Ex I φ H r D) (i1 : ∀ σ H, D.nx σ H → D'.nx σ H) (i2 : ∀ v H, D.rt v H → D'.rt v H) (i3 : ∀ σ H, D.bk σ H → D'.bk σ H) (i4 : ∀ σ H, D.ct σ H → D'.ct σ H) : PostS G Ex I φ H r D' := by
  cases r with
  | next ρ S => exact fun σ I' φ' H' e s en => i1 _ _ (h σ I' φ' H' e s en)
  | ret w S => exact fun v I' φ' H' e s r => i2 _ _ (h v I' φ' H' e s r)
  | brk ρ S => exact fun σ I' φ' H' e s en => i3 _ _ (h σ I' φ' H' e s en)
  | cont ρ S => exact fun σ I' φ' H' e s en => i4 _ _ (h σ I' φ' H' e s en)
  | ex ρ c S => exact h
  | bad => exact h
theorem PostS.seq {r : SR} {f : Env → Sto → SR} {D : Ends} (h : PostS G Ex I φ H (r.seq f) D) (N : L2.St → Hp → Prop)
    (hN : ∀ ρ S, r = .next ρ S → ∀ σ I' φ' H', Ext I φ H I' φ' H' → Sim G I' φ' S H' → Envs G I' φ' ρ σ → PostS G Ex I' φ' H' (f ρ S) D → N σ H') : PostS G Ex I φ H r { D with nx := N } := by
  cases r with
  | next ρ S => exact fun σ I' φ' H' e s en => hN ρ S rfl σ I' φ' H' e s en (PostS.ext e h)
  | ret w S => exact h
  | brk ρ S => exact h
  | cont ρ S => exact h
  | ex ρ c S => exact h
  | bad => exact h
theorem tTgt_of {t : Tg} {w : W} {v : V} {ρ : Env} {σ : L2.St} {N : L2.St → Hp → Prop} (s : Sim G I φ S H) (en : Envs G I φ ρ σ) (r : Rel G I φ w v) {D : Ends} {f : Env → Sto → SR}
    (h : PostS G Ex I φ H (match bindT t w ρ with | some ρ' => f ρ' S | none => .bad) D)
    (hN : ∀ ρ' σ', bindT t w ρ = some ρ' → Envs G I φ ρ' σ' → PostS G Ex I φ H (f ρ' S) D → N σ' H) : tTgt G t v σ H N := by
  split at h
  · rename_i ρ' hb
    exact ⟨I, φ, ρ, S, w, ρ', s, en, r, hb, fun σ' en' _ => hN ρ' σ' hb en' h⟩
  · exact h.elim
theorem asgS {t : Tg} {m : E} : ∀ D σ H, tS G cf L Ex (.asg t m) D σ H → tAsg (tE G cf Ex m) (tTgt G t) D σ H := by
  rintro D σ H ⟨I, φ, ρ, S, s, en, h⟩
  simp only [exec] at h
  refine ⟨I, φ, ρ, S, s, en, (h.sr en).imp fun w S1 _ h1 => ?_⟩
  intro v I1 φ1 H1 e1 s1 r1
  exact tTgt_of s1 (en.ext e1) r1 (f := fun ρ' S' => .next ρ' S') (PostS.ext e1 h1) fun ρ' σ' hb en' k => k σ' I1 φ1 H1 (Ext.refl _ _ _) s1 en'
theorem asgF {t : Tg} {m : E} (hm : ∀ ρ S w S', ev cf m ρ S = .ok w S' → ∃ xs, w = .lst xs) : ∀ D σ H, tS G cf L Ex (.asg t m) D σ H → tAsg (tF G cf Ex m) (tTgt G t) D σ H := by
  intro D σ H h
  exact tE_tF hm σ H _ (asgS D σ H h)
theorem asgM {t : Tg} {m : E} (hm : isFresh m = true) : ∀ D σ H, tS G cf L Ex (.asg t (.mut m)) D σ H → tAsg (tF G cf Ex m) (tTgt G t) D σ H := by
  intro D σ H h
  exact mutOk hm σ H _ (asgS D σ H h)
theorem exprS {m : E} : ∀ D σ H, tS G cf L Ex (.expr m) D σ H → tDrop (tE G cf Ex m) D σ H := by
  rintro D σ H ⟨I, φ, ρ, S, s, en, h⟩
  simp only [exec] at h
  refine ⟨I, φ, ρ, S, s, en, (h.sr en).imp fun w S1 _ h1 => ?_⟩
  intro v I1 φ1 H1 e1 s1 r1
  exact h1 σ I1 φ1 H1 e1 s1 (en.ext e1)
theorem retS {m : E} : ∀ D σ H, tS G cf L Ex (.ret m) D σ H → tRet (tE G cf Ex m) D σ H := by
  rintro D σ H ⟨I, φ, ρ, S, s, en, h⟩
  simp only [exec] at h
  exact ⟨I, φ, ρ, S, s, en, (h.sr en).imp fun w S1 _ h1 => h1⟩
theorem iteS {c : E} {a b : List Stm} : ∀ D σ H, tS G cf L Ex (.ite c a b) D σ H → tIfS (tT G cf Ex c) (tSs G cf L Ex a) (tSs G cf L Ex b) D σ H := by
  rintro D σ H ⟨I, φ, ρ, S, s, en, h⟩
  simp only [exec] at h
  refine ⟨I, φ, ρ, S, s, en, (h.sr en).imp fun w S1 _ h1 => ?_⟩
  split at h1
  · exact ⟨true, rfl, fun I1 φ1 H1 e1 s1 => ite_tt ⟨I1, φ1, ρ, S1, s1, en.ext e1, PostS.ext e1 h1⟩⟩
  · exact ⟨false, rfl, fun I1 φ1 H1 e1 s1 => ite_ff ⟨I1, φ1, ρ, S1, s1, en.ext e1, PostS.ext e1 h1⟩⟩
  · exact h1.elim
theorem seqS {m : Stm} {ms : List Stm} : ∀ D σ H, tSs G cf L Ex (m :: ms) D σ H → tSeq (tS G cf L Ex m) (tSs G cf L Ex ms) D σ H := by
  rintro D σ H ⟨I, φ, ρ, S, s, en, h⟩
  simp only [execs] at h
  exact ⟨I, φ, ρ, S, s, en, h.seq _ fun ρ1 S1 _ σ1 I1 φ1 H1 e1 s1 en1 k => ⟨I1, φ1, ρ1, S1, s1, en1, k⟩⟩
theorem nilS : ∀ D σ H, tSs G cf L Ex [] D σ H → tNext D σ H := by
  rintro D σ H ⟨I, φ, ρ, S, s, en, h⟩
  simp only [execs] at h
  exact h σ I φ H (Ext.refl _ _ _) s en
theorem passS : ∀ D σ H, tS G cf L Ex .pass D σ H → tNext D σ H := by
  rintro D σ H ⟨I, φ, ρ, S, s, en, h⟩
  simp only [exec] at h
  exact h σ I φ H (Ext.refl _ _ _) s en
theorem brkS : ∀ D σ H, tS G cf L Ex .brk D σ H → tBreak D σ H := by
  rintro D σ H ⟨I, φ, ρ, S, s, en, h⟩
  simp only [exec] at h
  exact h σ I φ H (Ext.refl _ _ _) s en
theorem contS : ∀ D σ H, tS G cf L Ex .cont D σ H → tCont D σ H := by
  rintro D σ H ⟨I, φ, ρ, S, s, en, h⟩
  simp only [exec] at h
  exact h σ I φ H (Ext.refl _ _ _) s en
theorem frzS {i : Nat} {ms : List Stm} : ∀ D σ H, tSs G cf L Ex (.frz i :: ms) D σ H → tSs G cf L Ex ms D σ H := by
  rintro D σ H ⟨I, φ, ρ, S, s, en, h⟩
  simp only [execs, exec] at h
  have key : ∀ (w : W) (m : Nat) (o : Ob) (a : Addr) (u : HO), φ[m]? = some a → S[m]? = some o → o ≠ .dead → H a = some u → ρ[i]? = some (some (.ref m)) → (∀ J, Same I J → J a = some u → Rel G J φ w (.ref a)) →
      PostS G Ex I φ H (execs cf L ms (ρ.set i (some w)) (S.set m .dead)) D → tSs G cf L Ex ms D σ H := by
    intro w m o a u hm hS hd hu hi hr h
    have hIa : I a = none := s.out m a o hm hS hd
    have sI : Same I (upd I a u) := same_upd hIa
    have e : Ext I φ H (upd I a u) φ H := ⟨sI, ⟨[], by simp, by simp⟩, fun _ _ _ h => h, fun _ h => h, fun b hb => by
      by_cases hba : b = a
      · exact .inr (.inr (.inl (by rw [hba]; exact List.mem_of_getElem? hm)))
      · rw [upd_ne hba] at hb; exact .inl hb⟩
    have s' : Sim G (upd I a u) φ (S.set m .dead) H := by
      refine ⟨fun b o' hb => ?_, by rw [List.length_set]; exact s.len, s.nd, fun k b o' hk hk1 hk2 => ?_, s.old, fun k b o' hk hk1 => ?_⟩
      · by_cases hba : b = a
        · rw [hba, upd_same] at hb; cases hb; rw [hba]; exact hu
        · rw [upd_ne hba] at hb; exact s.same _ _ hb
      · rw [List.getElem?_set] at hk1
        split at hk1
        · split at hk1
          · cases hk1; exact absurd rfl hk2
          · cases hk1
        · rename_i hne
          rw [upd_ne (fun z => hne ?_)]
          · exact s.out k b o' hk hk1 hk2
          · rw [z] at hk
            have hlt : m < φ.length := (List.getElem?_eq_some_iff.mp hm).1
            exact (List.getElem?_inj hlt s.nd).mp (by rw [hm, hk])
      · rw [List.getElem?_set] at hk1
        split at hk1
        · split at hk1
          · cases hk1; exact True.intro
          · cases hk1
        · exact (s.cell k b o' hk hk1).mono sI (Pre.refl _) fun _ z => z
    refine ⟨upd I a u, φ, ρ.set i (some w), S.set m .dead, s', ⟨by rw [List.length_set]; exact en.len, fun k w' hk => ?_⟩, PostS.ext e h⟩
    rw [List.getElem?_set] at hk
    split at hk
    · rename_i hik
      split at hk
      · cases hk
        obtain ⟨v, hv, rv⟩ := (en.ext e).at_ i _ hi
        obtain ⟨a', rfl, ha'⟩ := rv
        rw [hm] at ha'
        cases ha'
        exact ⟨.ref a, by rw [← hik]; exact hv, hr _ sI upd_same⟩
      · cases hk
    · exact (en.ext e).at_ k w' hk
  split at h
  · rename_i m hi
    obtain ⟨v, hv, a, rfl, ha⟩ := en.at_ i _ hi
    split at h
    · rename_i xs hS
      split at h
      · obtain ⟨vs, h1, r⟩ := s.cell m a _ ha hS
        exact key (.lst xs) m _ a _ ha hS (by simp) h1 hi (fun J sJ hJ => ⟨a, vs, rfl, hJ, r.mono sJ (Pre.refl _)⟩) h
      · exact h.elim
    · rename_i t ks vs hS
      split at h
      · cases t with
        | false =>
          obtain ⟨kvs, h1, hk, r⟩ := s.cell m a _ ha hS
          exact key (.dic false ks vs) m _ a _ ha hS (by simp) h1 hi (fun J sJ hJ => ⟨a, kvs, rfl, hJ, hk, r.mono sJ (Pre.refl _)⟩) h
        | true =>
          obtain ⟨kvs, h1, hk, r⟩ := s.cell m a _ ha hS
          exact key (.dic true ks vs) m _ a _ ha hS (by simp) h1 hi (fun J sJ hJ => ⟨a, kvs, rfl, hJ, hk, r.mono sJ (Pre.refl _)⟩) h
      · exact h.elim
    · exact h.elim
  · exact h.elim

theorem forS {t : Tg} {k : ItK} {srcs : List E} {body : List Stm} : ∀ D σ H, tS G cf L Ex (.forIn t k srcs body) D σ H → tFor (tI G cf Ex k srcs) (tTgt G t) (tSs G cf L Ex body) D σ H := by
  rintro D σ H ⟨I, φ, ρ, S, s, en, h⟩
  simp only [exec] at h
  refine ⟨I, φ, ρ, S, s, en, (h.sr en).imp fun ws S1 _ h1 => ?_⟩
  split at h1
  · rename_i xs hx
    refine ⟨xs, hx, ?_⟩
    intro J I1 φ1 H1 e1 s1 hy
    let R : Nat → L2.St → Hp → Prop := fun i σ' H' => i ≤ xs.length ∧ ∃ I2 φ2 ρ2 S2, Ext I1 φ1 H1 I2 φ2 H' ∧ Sim G I2 φ2 S2 H' ∧ Envs G I2 φ2 ρ2 σ' ∧ PostS G Ex I2 φ2 H' (forL t (fun ρ' S' => execs cf L body ρ' S') (xs.drop i) ρ2 S2) D
    refine ⟨fun i m σ' H' => m = xs.length - i ∧ R i σ' H', ⟨xs.length, by simp, Nat.zero_le _, I1, φ1, ρ, S1, Ext.refl _ _ _, s1, en.ext e1, by simpa using PostS.ext e1 h1⟩, ?_⟩
    rintro i m σ' H' ⟨rfl, hi, I2, φ2, ρ2, S2, e2, s2, en2, h2⟩
    have hyy := hy I2 φ2 S2 H' e2.same e2.pre' s2 i
    by_cases hlt : i < xs.length
    · right
      obtain ⟨hgo, hyl⟩ := hyy.1 _ (List.getElem?_eq_getElem hlt)
      refine ⟨hgo, fun σ3 H3 => R (i + 1) σ3 H3, fun σ3 H3 q => ⟨xs.length - (i + 1), by omega, rfl, q⟩, ?_⟩
      intro v H3 hv
      obtain ⟨I3, e3, s3, r3⟩ := hyl v H3 hv
      rw [List.drop_eq_getElem_cons hlt] at h2
      simp only [forL] at h2
      have h3 := PostS.ext e3 h2
      split at h3
      · exact h3.elim
      · rename_i ρ' hb
        refine ⟨I3, φ2, ρ2, S2, _, ρ', s3, en2.ext e3, r3, hb, fun σ4 en4 _ => ?_⟩
        refine ⟨I3, φ2, ρ', S2, s3, en4, ?_⟩
        split at h3
        · rename_i ρ5 S5 hbd
          rw [hbd]
          exact fun σ5 I5 φ5 H5 e5 s5 en5 => ⟨hlt, I5, φ5, ρ5, S5, e2.trans (e3.trans e5), s5, en5, PostS.ext e5 h3⟩
        · rename_i ρ5 S5 hbd
          rw [hbd]
          exact fun σ5 I5 φ5 H5 e5 s5 en5 => ⟨hlt, I5, φ5, ρ5, S5, e2.trans (e3.trans e5), s5, en5, PostS.ext e5 h3⟩
        · rename_i ρ5 S5 hbd
          rw [hbd]
          exact h3
        · rename_i r hr1 hr2 hr3
          cases hbd : execs cf L body ρ' S2 with
          | next ρ5 S5 => exact absurd hbd (hr1 ρ5 S5)
          | cont ρ5 S5 => exact absurd hbd (hr2 ρ5 S5)
          | brk ρ5 S5 => exact absurd hbd (hr3 ρ5 S5)
          | ret w S5 => rw [hbd] at h3; exact h3
          | ex ρ5 c S5 => rw [hbd] at h3; exact h3
          | bad => rw [hbd] at h3; exact h3
    · left
      have hi' : i = xs.length := by omega
      subst hi'
      rw [List.drop_length] at h2
      exact ⟨hyy.2 (Nat.le_refl _), h2 σ' I2 φ2 H' (Ext.refl _ _ _) s2 en2⟩
  · exact h1.elim
theorem forRS {t : Tg} {a : E} {body : List Stm} : ∀ D σ H, tS G cf L Ex (.forR t a body) D σ H → tFor (iList K (tE G cf Ex a)) (tTgt G t) (tSs G cf L Ex body) D σ H := by
  rintro D σ H ⟨I, φ, ρ, S, s, en, h⟩
  simp only [exec] at h
  refine ⟨I, φ, ρ, S, s, en, (h.sr en).imp fun w S1 _ h1 => ?_⟩
  intro v I1 φ1 H1 e1 s1 r1
  split at h1
  · rename_i n _
    obtain ⟨p, rfl, hp⟩ := r1
    have h1 := PostS.ext e1 h1
    have hL : ∃ xs, S1[n]? = some (.lst xs) := by
      cases L with
      | zero => exact h1.elim
      | succ L =>
        simp only [forC] at h1
        split at h1
        · exact ⟨_, by assumption⟩
        · exact h1.elim
    obtain ⟨xs0, hS0⟩ := hL
    obtain ⟨vs0, hv0, _⟩ := s1.cell n p _ hp hS0
    refine ⟨p, rfl, ⟨vs0, .inl (.inl hv0)⟩, ?_⟩
    let R : Nat → Nat → L2.St → Hp → Prop := fun i k σ' H' => ∃ I2 φ2 ρ2 S2, Ext I1 φ1 H1 I2 φ2 H' ∧ Sim G I2 φ2 S2 H' ∧ Envs G I2 φ2 ρ2 σ' ∧ PostS G Ex I2 φ2 H' (forC t (fun ρ' S' => execs cf L body ρ' S') n k i ρ2 S2) D
    refine ⟨R, ⟨L, I1, φ1, ρ, S1, Ext.refl _ _ _, s1, en.ext e1, h1⟩, ?_⟩
    rintro i k σ' H' ⟨I2, φ2, ρ2, S2, e2, s2, en2, h2⟩
    cases k with
    | zero => exact h2.elim
    | succ k =>
      simp only [forC] at h2
      split at h2
      · rename_i xs hS
        have hp2 : φ2[n]? = some p := e2.pre'.get hp
        obtain ⟨vs, hv, rv⟩ := s2.cell n p _ hp2 hS
        have hq : SqL K H' p vs := .inl (.inl hv)
        split at h2
        · rename_i hxi
          left
          refine ⟨⟨vs, hq, ?_⟩, h2 σ' I2 φ2 H' (Ext.refl _ _ _) s2 en2⟩
          rw [rv.length]
          exact List.getElem?_eq_none_iff.mp hxi
        · rename_i x hxi
          right
          obtain ⟨xv, hxv, rx⟩ := rv.get hxi
          refine ⟨⟨vs, xv, hq, hxv⟩, fun σ3 H3 => R (i + 1) k σ3 H3, fun σ3 H3 q => ⟨k, Nat.lt_succ_self k, q⟩, ?_⟩
          intro v H3 hy
          obtain ⟨rfl, hy⟩ := hy
          have := hy vs hq
          rw [hxv] at this
          cases this
          split at h2
          · exact h2.elim
          · rename_i ρ' hb
            refine ⟨I2, φ2, ρ2, S2, _, ρ', s2, en2, rx, hb, fun σ4 en4 _ => ?_⟩
            refine ⟨I2, φ2, ρ', S2, s2, en4, ?_⟩
            split at h2
            · rename_i ρ5 S5 hbd
              rw [hbd]
              exact fun σ5 I5 φ5 H5 e5 s5 en5 => ⟨I5, φ5, ρ5, S5, e2.trans e5, s5, en5, PostS.ext e5 h2⟩
            · rename_i ρ5 S5 hbd
              rw [hbd]
              exact fun σ5 I5 φ5 H5 e5 s5 en5 => ⟨I5, φ5, ρ5, S5, e2.trans e5, s5, en5, PostS.ext e5 h2⟩
            · rename_i ρ5 S5 hbd
              rw [hbd]
              exact h2
            · rename_i r hr1 hr2 hr3
              cases hbd : execs cf L body ρ' S2 with
              | next ρ5 S5 => exact absurd hbd (hr1 ρ5 S5)
              | cont ρ5 S5 => exact absurd hbd (hr2 ρ5 S5)
              | brk ρ5 S5 => exact absurd hbd (hr3 ρ5 S5)
              | ret w S5 => rw [hbd] at h2; exact h2
              | ex ρ5 c S5 => rw [hbd] at h2; exact h2
              | bad => rw [hbd] at h2; exact h2
      · exact h2.elim
  · exact h1.elim
def iEnE (K : PySem.W.Frag) (te : TE) : TI := fun σ H R => te σ H fun v H1 => ∃ a xs, v = .ref a ∧ SqL K H1 a xs ∧ R (Ite K a) H1
theorem forES {t : Tg} {a : E} {body : List Stm} : ∀ D σ H, tS G cf L Ex (.forE t a body) D σ H → tFor (iEnE K (tE G cf Ex a)) (tTgt G t) (tSs G cf L Ex body) D σ H := by
  rintro D σ H ⟨I, φ, ρ, S, s, en, h⟩
  simp only [exec] at h
  refine ⟨I, φ, ρ, S, s, en, (h.sr en).imp fun w S1 _ h1 => ?_⟩
  intro v I1 φ1 H1 e1 s1 r1
  split at h1
  · rename_i n _
    obtain ⟨p, rfl, hp⟩ := r1
    have h1 := PostS.ext e1 h1
    have hL : ∃ xs, S1[n]? = some (.lst xs) := by
      cases L with
      | zero => exact h1.elim
      | succ L =>
        simp only [forCE] at h1
        split at h1
        · exact ⟨_, by assumption⟩
        · exact h1.elim
    obtain ⟨xs0, hS0⟩ := hL
    obtain ⟨vs0, hv0, _⟩ := s1.cell n p _ hp hS0
    refine ⟨p, vs0, rfl, .inl (.inl hv0), ?_⟩
    let R : Nat → Nat → L2.St → Hp → Prop := fun i k σ' H' => ∃ I2 φ2 ρ2 S2, Ext I1 φ1 H1 I2 φ2 H' ∧ Sim G I2 φ2 S2 H' ∧ Envs G I2 φ2 ρ2 σ' ∧ PostS G Ex I2 φ2 H' (forCE t (fun ρ' S' => execs cf L body ρ' S') n k i ρ2 S2) D
    refine ⟨R, ⟨L, I1, φ1, ρ, S1, Ext.refl _ _ _, s1, en.ext e1, h1⟩, ?_⟩
    rintro i k σ' H' ⟨I2, φ2, ρ2, S2, e2, s2, en2, h2⟩
    cases k with
    | zero => exact h2.elim
    | succ k =>
      simp only [forCE] at h2
      split at h2
      · rename_i xs hS
        have hp2 : φ2[n]? = some p := e2.pre'.get hp
        obtain ⟨vs, hv, rv⟩ := s2.cell n p _ hp2 hS
        have hq : SqL K H' p vs := .inl (.inl hv)
        split at h2
        · rename_i hxi
          left
          refine ⟨⟨vs, hq, ?_⟩, h2 σ' I2 φ2 H' (Ext.refl _ _ _) s2 en2⟩
          rw [rv.length]
          exact List.getElem?_eq_none_iff.mp hxi
        · rename_i x hxi
          right
          obtain ⟨xv, hxv, rx⟩ := rv.get hxi
          refine ⟨⟨vs, xv, hq, hxv⟩, fun σ3 H3 => R (i + 1) k σ3 H3, fun σ3 H3 q => ⟨k, Nat.lt_succ_self k, q⟩, ?_⟩
          intro v H3 hy
          obtain ⟨T, y, rfl, hT, rfl, hy⟩ := hy
          have := hy vs hq
          rw [hxv] at this
          cases this
          obtain ⟨s6, e6⟩ := s2.newI (o := .tup [.int (i : Nat), xv]) hT
          have h2 := PostS.ext e6 h2
          have rt : Rel G _ φ2 (.tup [.int (i : Nat), x]) (.ref T) := ⟨T, _, rfl, upd_same, ⟨_, _, rfl, rfl, Rels.one (rx.mono e6.same e6.pre')⟩⟩
          split at h2
          · exact h2.elim
          · rename_i ρ' hb
            refine ⟨_, φ2, ρ2, S2, _, ρ', s6, en2.ext e6, rt, hb, fun σ4 en4 _ => ?_⟩
            refine ⟨_, φ2, ρ', S2, s6, en4, ?_⟩
            split at h2
            · rename_i ρ5 S5 hbd
              rw [hbd]
              exact fun σ5 I5 φ5 H5 e5 s5 en5 => ⟨I5, φ5, ρ5, S5, (e2.trans e6).trans e5, s5, en5, PostS.ext e5 h2⟩
            · rename_i ρ5 S5 hbd
              rw [hbd]
              exact fun σ5 I5 φ5 H5 e5 s5 en5 => ⟨I5, φ5, ρ5, S5, (e2.trans e6).trans e5, s5, en5, PostS.ext e5 h2⟩
            · rename_i ρ5 S5 hbd
              rw [hbd]
              exact h2
            · rename_i r hr1 hr2 hr3
              cases hbd : execs cf L body ρ' S2 with
              | next ρ5 S5 => exact absurd hbd (hr1 ρ5 S5)
              | cont ρ5 S5 => exact absurd hbd (hr2 ρ5 S5)
              | brk ρ5 S5 => exact absurd hbd (hr3 ρ5 S5)
              | ret w S5 => rw [hbd] at h2; exact h2
              | ex ρ5 c S5 => rw [hbd] at h2; exact h2
              | bad => rw [hbd] at h2; exact h2
      · exact h2.elim
  · exact h1.elim
theorem forZS {t : Tg} {srcs : List E} {body : List Stm} : ∀ D σ H, tS G cf L Ex (.forZ t srcs body) D σ H → tFor (iZip K (tA G cf Ex srcs)) (tTgt G t) (tSs G cf L Ex body) D σ H := by
  rintro D σ H ⟨I, φ, ρ, S, s, en, h⟩
  simp only [exec] at h
  refine ⟨I, φ, ρ, S, s, en, (h.sr en).imp fun ws S1 _ h1 => ?_⟩
  intro vs I1 φ1 H1 e1 s1 r1
  split at h1
  · rename_i n ys _
    obtain ⟨y, y', rfl, ry, ry'⟩ := rels_two r1
    obtain ⟨p, rfl, hp⟩ := ry
    obtain ⟨b, us, rfl, hb, rb⟩ := ry'
    have h1 := PostS.ext e1 h1
    have hL : ∃ xs, S1[n]? = some (.lst xs) := by
      cases L with
      | zero => exact h1.elim
      | succ L =>
        simp only [forCZ] at h1
        split at h1
        · exact ⟨_, by assumption⟩
        · exact h1.elim
    obtain ⟨xs0, hS0⟩ := hL
    obtain ⟨vs0, hv0, _⟩ := s1.cell n p _ hp hS0
    refine ⟨p, b, vs0, us, rfl, .inl (.inl hv0), .inl (rd_mono s1.same hb), ?_⟩
    let R : Nat → Nat → L2.St → Hp → Prop := fun i k σ' H' => ∃ I2 φ2 ρ2 S2, Ext I1 φ1 H1 I2 φ2 H' ∧ Sim G I2 φ2 S2 H' ∧ Envs G I2 φ2 ρ2 σ' ∧ PostS G Ex I2 φ2 H' (forCZ t (fun ρ' S' => execs cf L body ρ' S') n ys k i ρ2 S2) D
    refine ⟨R, ⟨L, I1, φ1, ρ, S1, Ext.refl _ _ _, s1, en.ext e1, h1⟩, ?_⟩
    rintro i k σ' H' ⟨I2, φ2, ρ2, S2, e2, s2, en2, h2⟩
    cases k with
    | zero => exact h2.elim
    | succ k =>
      simp only [forCZ] at h2
      split at h2
      · rename_i xs hS
        have hp2 : φ2[n]? = some p := e2.pre'.get hp
        obtain ⟨vs, hv, rv⟩ := s2.cell n p _ hp2 hS
        have hq : SqL K H' p vs := .inl (.inl hv)
        have hq2 : SqL K H' b us := .inl (rd_mono (e2.same.trans s2.same) hb)
        split at h2
        · rename_i hxi
          left
          refine ⟨⟨vs, us, hq, hq2, .inl ?_⟩, h2 σ' I2 φ2 H' (Ext.refl _ _ _) s2 en2⟩
          rw [rv.length]
          exact List.getElem?_eq_none_iff.mp hxi
        · rename_i x hxi
          split at h2
          · rename_i hyi
            left
            refine ⟨⟨vs, us, hq, hq2, .inr ?_⟩, h2 σ' I2 φ2 H' (Ext.refl _ _ _) s2 en2⟩
            rw [rb.length]
            exact List.getElem?_eq_none_iff.mp hyi
          rename_i yw hyi
          right
          obtain ⟨xv, hxv, rx⟩ := rv.get hxi
          obtain ⟨yv, hyv, ryv⟩ := rb.get hyi
          have ryv := ryv.mono e2.same e2.pre'
          refine ⟨⟨vs, us, xv, yv, hq, hq2, hxv, hyv⟩, fun σ3 H3 => R (i + 1) k σ3 H3, fun σ3 H3 q => ⟨k, Nat.lt_succ_self k, q⟩, ?_⟩
          intro v H3 hy
          obtain ⟨T, y1, y2, rfl, hT, rfl, hy, hy2⟩ := hy
          have := hy vs hq
          rw [hxv] at this
          cases this
          have := hy2 us hq2
          rw [hyv] at this
          cases this
          obtain ⟨s6, e6⟩ := s2.newI (o := .tup [xv, yv]) hT
          have h2 := PostS.ext e6 h2
          have rt : Rel G _ φ2 (.tup [x, yw]) (.ref T) := ⟨T, _, rfl, upd_same, .cons (rx.mono e6.same e6.pre') (Rels.one (ryv.mono e6.same e6.pre'))⟩
          split at h2
          · exact h2.elim
          · rename_i ρ' hb
            refine ⟨_, φ2, ρ2, S2, _, ρ', s6, en2.ext e6, rt, hb, fun σ4 en4 _ => ?_⟩
            refine ⟨_, φ2, ρ', S2, s6, en4, ?_⟩
            split at h2
            · rename_i ρ5 S5 hbd
              rw [hbd]
              exact fun σ5 I5 φ5 H5 e5 s5 en5 => ⟨I5, φ5, ρ5, S5, (e2.trans e6).trans e5, s5, en5, PostS.ext e5 h2⟩
            · rename_i ρ5 S5 hbd
              rw [hbd]
              exact fun σ5 I5 φ5 H5 e5 s5 en5 => ⟨I5, φ5, ρ5, S5, (e2.trans e6).trans e5, s5, en5, PostS.ext e5 h2⟩
            · rename_i ρ5 S5 hbd
              rw [hbd]
              exact h2
            · rename_i r hr1 hr2 hr3
              cases hbd : execs cf L body ρ' S2 with
              | next ρ5 S5 => exact absurd hbd (hr1 ρ5 S5)
              | cont ρ5 S5 => exact absurd hbd (hr2 ρ5 S5)
              | brk ρ5 S5 => exact absurd hbd (hr3 ρ5 S5)
              | ret w S5 => rw [hbd] at h2; exact h2
              | ex ρ5 c S5 => rw [hbd] at h2; exact h2
              | bad => rw [hbd] at h2; exact h2
      · exact h2.elim
  · exact h1.elim
theorem whileS {c : E} {body : List Stm} : ∀ D σ H, tS G cf L Ex (.whil c body) D σ H → tWhile (tT G cf Ex c) (tSs G cf L Ex body) D σ H := by
  rintro D σ H ⟨I, φ, ρ, S, s, en, h⟩
  simp only [exec] at h
  let R : Nat → L2.St → Hp → Prop := fun k σ' H' => ∃ I2 φ2 ρ2 S2, Sim G I2 φ2 S2 H' ∧ Envs G I2 φ2 ρ2 σ' ∧ PostS G Ex I2 φ2 H' (whileL (fun ρ' S' => ev cf c ρ' S') (fun ρ' S' => execs cf L body ρ' S') k ρ2 S2) D
  refine ⟨R, ⟨L, I, φ, ρ, S, s, en, h⟩, ?_⟩
  rintro k σ' H' ⟨I2, φ2, ρ2, S2, s2, en2, h2⟩
  cases k with
  | zero => exact h2.elim
  | succ k =>
    simp only [whileL] at h2
    refine ⟨I2, φ2, ρ2, S2, s2, en2, ?_⟩
    split at h2
    · rename_i S3 hc
      rw [hc]
      refine ⟨true, rfl, fun I3 φ3 H3 e3 s3 => ite_tt ⟨fun σ4 H4 => R k σ4 H4, fun σ4 H4 q => ⟨k, Nat.lt_succ_self k, q⟩, ?_⟩⟩
      refine ⟨I3, φ3, ρ2, S3, s3, en2.ext e3, ?_⟩
      have h3 := PostS.ext e3 h2
      split at h3
      · rename_i ρ5 S5 hbd
        rw [hbd]
        exact fun σ5 I5 φ5 H5 e5 s5 en5 => ⟨I5, φ5, ρ5, S5, s5, en5, PostS.ext e5 h3⟩
      · rename_i ρ5 S5 hbd
        rw [hbd]
        exact fun σ5 I5 φ5 H5 e5 s5 en5 => ⟨I5, φ5, ρ5, S5, s5, en5, PostS.ext e5 h3⟩
      · rename_i ρ5 S5 hbd
        rw [hbd]
        exact h3
      · rename_i r hr1 hr2 hr3
        cases hbd : execs cf L body ρ2 S3 with
        | next ρ5 S5 => exact absurd hbd (hr1 ρ5 S5)
        | cont ρ5 S5 => exact absurd hbd (hr2 ρ5 S5)
        | brk ρ5 S5 => exact absurd hbd (hr3 ρ5 S5)
        | ret w S5 => rw [hbd] at h3; exact h3
        | ex ρ5 c S5 => rw [hbd] at h3; exact h3
        | bad => rw [hbd] at h3; exact h3
    · rename_i S3 hc
      rw [hc]
      exact ⟨false, rfl, fun I3 φ3 H3 e3 s3 => ite_ff (h2 σ' I3 φ3 H3 e3 s3 (en2.ext e3))⟩
    · rename_i x S3 hc
      rw [hc]
      exact fun I' φ' H' e s => h2 σ' I' φ' H' e s (en2.ext e)
    · exact h2.elim

def rSetG (G : Gx) : TSet := fun o i v H Q => ∃ I φ S wo wk wv S', Sim G I φ S H ∧ Rel G I φ wo o ∧ Rel G I φ wk i ∧ Rel G I φ wv v ∧ setSem S wo wk wv = some S' ∧ ∀ I' φ' H', Ext I φ H I' φ' H' → Sim G I' φ' S' H' → Q H'
end Tw

namespace Tw
open PySem PySem.Spec PyProof.Rows L2

variable {G : Gx} {I I' I1 I2 H H' H1 H2 : Hp} {φ φ' φ1 φ2 : List Addr} {S S' S1 : Sto} {K : PySem.W.Frag} {X : Cx} {cf : CallF} {T : Tab} {Ex : L2.St → XK} {n L : Nat} {sc : Scope}

theorem pset_ok (hu : X.A.units + 1 < cLine) : PSet X (rSetG G) := by
  rintro pins s σ H o i v ov iv u Q J ro ri rv ⟨I, φ, S, wo, wk, wv, S', sm, qo, qk, qv, e, k⟩
  match wo, e with
  | .ref m, e =>
    obtain ⟨a, rfl, ha⟩ := qo
    simp only [setSem] at e
    split at e
    · rename_i xs hS
      match wk, e with
      | .int z, e =>
        obtain rfl : i = _ := qk
        simp only [Option.map_eq_some_iff] at e
        obtain ⟨j, hj, rfl⟩ := e
        obtain ⟨vs, h1, r⟩ := sm.cell m a _ ha hS
        refine set_list pins s σ H _ _ v ov iv u Q J ro ri rv ⟨a, vs, z, j, rfl, rfl, h1, by rw [r.length]; exact hj, ?_⟩
        obtain ⟨s2, e2⟩ := sm.put (o' := .lst (xs.set j wv)) (u := .lst (vs.set j v)) ha hS (by simp) ⟨_, upd_same, r.set qv j⟩
        exact k _ _ _ e2 s2
    · rename_i t ks vs hS
      split at e
      · rename_i hc
        cases e
        simp only [Bool.and_eq_true, decide_eq_true_eq] at hc
        cases t with
        | false =>
          obtain ⟨kvs, h1, rfl, r⟩ := sm.cell m a _ ha hS
          obtain ⟨key, rfl, rfl⟩ := keyF qk hc.1
          have hl : kvs.length < sizeLine := by have := lim_ok hc.2; simpa using this
          refine set_dict hu pins s σ H _ _ v ov iv u Q J ro ri rv ⟨a, _, rfl, .k h1 hl, ?_⟩
          obtain ⟨s2, e2⟩ := sm.put (o' := .dic false (dputK (kvs.map fun p => kW p.1) (kW key)) (dputV (kvs.map fun p => kW p.1) vs (kW key) wv)) (u := .dK (putK kvs key v)) ha hS (by simp)
            ⟨_, upd_same, dputK_ok kW hfK key v kvs, dputV_ok kW hfK key qv r⟩
          exact k _ _ _ e2 s2
        | true =>
          obtain ⟨kvs, h1, rfl, r⟩ := sm.cell m a _ ha hS
          obtain ⟨key, b, rfl, rfl, hb⟩ := keyT qk hc.1
          have hl : kvs.length < sizeLine := by have := lim_ok hc.2; simpa using this
          refine set_dict hu pins s σ H _ _ v ov iv u Q J ro ri rv ⟨a, _, rfl, .t h1 (sm.same _ _ hb) hl, ?_⟩
          obtain ⟨s2, e2⟩ := sm.put (o' := .dic true (dputK (kvs.map fun p => W.tup (p.1.map kW)) (.tup (key.map kW))) (dputV (kvs.map fun p => W.tup (p.1.map kW)) vs (.tup (key.map kW)) wv)) (u := .dT (putK kvs key v)) ha hS (by simp)
            ⟨_, upd_same, dputK_ok (fun k => .tup (k.map kW)) hfT key v kvs, dputV_ok (fun k => .tup (k.map kW)) hfT key qv r⟩
          exact k _ _ _ e2 s2
      · cases e
    · cases e

structure XSk (T : Tab) (G : Gx) (cf : CallF) (Ex : L2.St → XK) (n : Nat) (sc : Scope) (X : Cx) : Prop extends XOk T G cf Ex n sc X where
  wr : Wr sc X
  own : T.cm = true → PassesOwn (model X.prog X.w) X.A X.env X.xe
  tk : T.cm = true → Takes X (fun cls d σ H => Ex σ cls d H)
  stk : X.stack = X.env :: X.outer
  frm : X.env.frame = some X.env.locals
  knd : sc.kind = .function

def isLC : Expr → Bool
  | .ListComp _ _ _ _ => true
  | _ => false
def isTupE : Expr → Bool
  | .Tuple _ _ _ => true
  | _ => false
def swNow (sc : Scope) (tg v : Expr) : Bool :=
  match tg, v with
  | .Name y py, .ListComp _ _ scope pos => decide (sc.names.lookup y = some .local) && (py.line == pos.line) && !(scope.names.any fun (n, k) => n == y && (k == .local || k == .cell))
  | _, _ => false
theorem sw_false {tg v : Expr} {l : Nat} (x : XSk T G cf Ex n sc X) (hv : plainE v = true) (h : swNow sc tg v = false) : swapsWithSole [tg] v l X.env = pure false := by
  show swapsWith v (some tg) l X.env = pure false
  cases v <;> first | (simp [plainE] at hv; done) | rfl | skip
  rename_i elt gs scope pos
  cases tg <;> first | rfl | skip
  rename_i y py
  have hb : X.env.blockKind = .function := by unfold PySem.Env.blockKind; rw [x.hsc, x.knd]; rfl
  have hk : X.env.kindOf y = sc.names.lookup y := by show X.env.scope.names.lookup y = _; rw [x.hsc]
  unfold swapsWith
  simp only [hb, hk]
  show (pure _ : Sem Bool) = pure false
  congr 1
  unfold swNow at h
  simp only at h
  rw [← h]
  cases hl : sc.names.lookup y with
  | none => rfl
  | some k => cases k <;> rfl
theorem st_none {tg v : Expr} (hv : plainE v = true) (h : isTupE tg = false ∨ isTupE v = false) {N : List PySem.Str} {t : Tg} {asc : Scope} (ht : tgOk N asc t tg = true) : swappedStores [tg] v X.env = pure none := by
  cases tg <;> first
    | rfl
    | (cases v <;> first | (simp [plainE] at hv; done) | rfl | (rcases h with h | h <;> cases h; done))
    | (cases t <;> simp [tgOk, nameAt] at ht; done)
theorem asg1 {t : Tg} {tg : Expr} (ht : tgOk T.N sc t tg = true) : (assignEach [tg] X.env).map (·.2) = [assign tg X.env] := by
  cases tg <;> first
    | rfl
    | (cases t <;> simp [tgOk, nameAt] at ht; done)
theorem asgOk {t : Tg} {tg v : Expr} {m : E} {pos : Pos} (x : XSk T G cf Ex n sc X) (hcm : isTg1 t = true ∨ T.cm = true) (ht : tgOk T.N sc t tg = true) (hv : plainE v = true) (hs : swNow sc tg v = false) (h2 : isTupE tg = false ∨ isTupE v = false) (hm : PE X v (tE G cf Ex m)) :
    PS X (.Assign [tg] v pos) (tS G cf L Ex (.asg t m)) :=
  PS_imp (ps_asg hm (tgOk_ok (fun z => x.calm (hcm.resolve_left (by rw [z]; simp))) x.hN x.nd x.wr ht) (sw_false x hv hs) (st_none hv h2 ht) (asg1 ht)) asgS
theorem asgLc {i : Nat} {y : PySem.Str} {py pos spos : Pos} {elt' tg iter : Expr} {ifs : List Expr} {scope : Scope} {elt : E} {t : Tg} {k : ItK} {srcs cond : List E} {own : List Nat} (x : XSk T G cf Ex n sc X) (hcm : T.cm = true)
    (hi : nameAt T.N sc i (.Name y py) = true) (hs : swNow sc (.Name y py) (.ListComp elt' [⟨tg, iter, ifs, 0⟩] scope pos) = true)
    (hc : chk T false sc (.comp elt t k srcs cond own) (.ListComp elt' [⟨tg, iter, ifs, 0⟩] scope pos) = true) (md : Bool) :
    PS X (.Assign [.Name y py] (.ListComp elt' [⟨tg, iter, ifs, 0⟩] scope pos) spos) (tS G cf L Ex (.asg (.one i) (if md then .mut (.comp elt t k srcs cond own) else .comp elt t k srcs cond own))) := by
  rw [chk] at hc
  simp only [compSyn] at hc
  split at hc
  · rename_i es hie
    simp only [Bool.and_eq_true, decide_eq_true_eq] at hc
    obtain ⟨⟨⟨⟨⟨⟨⟨_, h1⟩, h2⟩, h3⟩, h4⟩, h5⟩, h6⟩, h7⟩ := hc
    have p := (chks_ok srcs h1 x.toXOk).pes
    obtain ⟨q1, q2⟩ := itOk hie x.toXOk p
    simp only [nameAt, Bool.and_eq_true, decide_eq_true_eq] at hi
    simp only [swNow, Bool.and_eq_true, decide_eq_true_eq] at hs
    obtain ⟨⟨s1, s2⟩, s3⟩ := hs
    have hl : X.env.scope.names.lookup y = some .local := by rw [x.hsc]; exact s1
    have key : PS X (.Assign [.Name y py] (.ListComp elt' [⟨tg, iter, ifs, 0⟩] scope pos) spos) (tAsg (tF G cf Ex (.comp elt t k srcs cond own)) (tTgt G (.one i))) := by
      refine PS_imp (ps_setLc (i := i) (g := tTgt G t) (tt := tCond G cf cond) (te := tE G cf EN elt) (own := ownOf T.N own) (x.calm hcm) x.nd (by rw [x.hN]; exact hi.1) hl (sw_true (by rw [x.hsc]; exact x.knd) hl s2 (by simpa using s3)) q1 (by rw [x.hN, x.hsc]; exact blkOk_by h2) ?_ ?_ ?_ (set_ok q2)) ?_
      · intro s H C cl fp
        exact tgOk_ok (fun _ => x.calm hcm) x.hN x.nd blk_wr h3
      · intro s H C cl fp
        have pc := chks_ok (Ex := EN) cond h6 (blk_ok (s := s) (H := H) (C := C) (cl := cl) (fp := fp) (scope := scope) x.toXOk)
        exact condOk h5 pc
      · intro s H C cl fp
        exact (chk_ok elt h7 (blk_ok x.toXOk)).1
      · intro D σ H q
        rw [ownOf_snd]
        refine comp_ok h4 σ H _ ?_
        obtain ⟨I, φ, ρ, S, s, en, q⟩ := q
        refine ⟨I, φ, ρ, S, s, en, q.imp fun w S1 _ ⟨xs, hw, kf⟩ => ⟨xs, hw, ?_⟩⟩
        intro p us I1 φ1 H1 e1 s1 hp r hlen
        obtain ⟨J, ψ, ρ2, S2, w2, ρ3, sJ, enJ, rJ, hb, kJ⟩ := kf p us I1 φ1 H1 e1 s1 hp r hlen
        cases hb
        exact kJ _ (enJ.set rJ) fun own ho => wipe_set (by simpa [slots] using ho)
    cases md with
    | false => exact PS_imp key (asgF fun ρ S w S' he => comp_lst he)
    | true => exact PS_imp key (asgM rfl)
  · cases hc
end Tw

namespace Tw
open PySem PySem.Spec PyProof.Rows L2

variable {G : Gx} {I I' I1 I2 H H' H1 H2 : Hp} {φ φ' φ1 φ2 : List Addr} {S S' S1 : Sto} {K : PySem.W.Frag} {X : Cx} {cf : CallF} {T : Tab} {Ex : L2.St → XK} {n L : Nat} {sc : Scope}

def augTab : Op → Option Operator
  | .add => some .Add
  | .sub => some .Sub
  | .mul => some .Mult
  | _ => none
def rAug (G : Gx) (o : Op) (x y : V) (H : Hp) (Q : VK) : Prop := ∃ I φ S a b w, Sim G I φ S H ∧ Rel G I φ a x ∧ Rel G I φ b y ∧ augSem o a b = some w ∧ KE G I φ H S w Q
theorem augTab_ok {o : Op} {c : Operator} (h : augTab o = some c) : PIp X c (rAug G o) := by
  rintro pins s σ H x y v u Q J rx ry ⟨I, φ, S, a, b, w, sm, ra, rb, e, k⟩
  cases o <;> cases h
  · cases a <;> cases b <;> first | (simp [augSem] at e; done) | skip
    · rename_i i j
      cases e
      exact in_add pins s σ H x y v u Q J rx ry ⟨i, j, ra, rb, k.here sm rfl⟩
    · rename_i i j
      simp only [augSem] at e
      split at e
      · rename_i hl
        cases e
        refine iop_add_str pins s σ H x y v u Q J rx ry ⟨_, _, ra, rb, ?_, k.here sm ?_⟩
        · have := Nat.le_of_lt (lim_ok hl)
          show i.toArray.size + j.toArray.size ≤ sizeLine
          simpa using this
        · show V.str _ = V.str _
          congr 1
          show PySem.Str.mk _ = PySem.Str.mk _
          congr 1
          simp
      · cases e
  · cases a <;> cases b <;> first | (simp [augSem] at e; done) | skip
    rename_i i j
    cases e
    exact in_sub pins s σ H x y v u Q J rx ry ⟨i, j, ra, rb, k.here sm rfl⟩
  · cases a <;> cases b <;> first | (simp [augSem] at e; done) | skip
    rename_i i j
    simp only [augSem] at e
    split at e
    · rename_i hc
      cases e
      refine iop_mul pins s σ H x y v u Q J rx ry ⟨i, j, ra, rb, (by simp only [CMul, Bool.or_eq_true, decide_eq_true_eq] at hc; exact hc.imp (fun h => ⟨by omega, by omega⟩) (fun h => ⟨by omega, by omega⟩)), k.here sm rfl⟩
    · cases e
theorem augS {i : Nat} {o : Op} {m : E} : ∀ D σ H, tS G cf L Ex (.aug i o m) D σ H → tAug i (tE G cf Ex m) (rAug G o) D σ H := by
  rintro D σ H ⟨I, φ, ρ, S, s, en, h⟩
  simp only [exec] at h
  split at h
  · rename_i x hx
    obtain ⟨v, hv, rv⟩ := en.at_ i x hx
    refine ⟨v, hv, I, φ, ρ, S, s, en, (h.sr en).imp fun w S1 _ h1 => ?_⟩
    intro y I1 φ1 H1 e1 s1 r1
    split at h1
    · rename_i z hz
      refine ⟨I1, φ1, S1, x, w, z, s1, rv.ext e1, r1, hz, ?_⟩
      intro zv I2 φ2 H2 e2 s2 r2
      exact h1 _ I2 φ2 H2 (e1.trans e2) s2 (((en.ext e1).ext e2).set r2)
    · exact h1.elim
  · exact h.elim

theorem putF_at {f : PySem.Str} {y : V} : ∀ {fs : List (PySem.Str × V)} {i : Nat}, (fs.map (·.1)).Nodup → (fs.map (·.1))[i]? = some f →
    (putF f y fs).map (·.1) = fs.map (·.1) ∧ (putF f y fs).map (·.2) = (fs.map (·.2)).set i y
  | [], i, _, h => by simp at h
  | (g, x) :: r, 0, _, h => by
    simp only [List.map_cons, List.getElem?_cons_zero, Option.some.injEq] at h
    simp only [putF, h, if_true, List.map_cons, List.set_cons_zero]
    exact ⟨trivial, trivial⟩
  | (g, x) :: r, i + 1, nd, h => by
    simp only [List.map_cons, List.getElem?_cons_succ] at h
    simp only [List.map_cons, List.nodup_cons] at nd
    have hne : ¬ g = f := fun z => nd.1 (by rw [z]; exact List.mem_of_getElem? h)
    obtain ⟨h1, h2⟩ := putF_at (y := y) nd.2 h
    simp only [putF, if_neg hne, List.map_cons, h1, h2, List.set_cons_succ]
    exact ⟨trivial, trivial⟩
theorem putF_new {f : PySem.Str} {y : V} : ∀ {fs : List (PySem.Str × V)}, f ∉ fs.map (·.1) → putF f y fs = fs ++ [(f, y)]
  | [], _ => rfl
  | (g, x) :: r, h => by
    simp only [List.map_cons, List.mem_cons, not_or] at h
    simp only [putF, if_neg (Ne.symm h.1), putF_new h.2, List.cons_append]
theorem setFld_ok {c i : Nat} {f : PySem.Str} {wo wv : W} {x y : V} (hf : (G.fld c)[i]? = some f) (hnd : (G.fld c).Nodup) (s : Sim G I φ S H) (ro : Rel G I φ wo x) (rv : Rel G I φ wv y) (hS : setFld S c i wo wv = some S') :
    ∃ p dx fs, x = .ref p ∧ H p = some (.ins (G.cad c) dx fs) ∧ fs.length ≤ (G.fld c).length ∧ Sim G I φ S' (upd H p (.ins (G.cad c) dx (putF f y fs))) ∧ Ext I φ H I φ (upd H p (.ins (G.cad c) dx (putF f y fs))) := by
  unfold setFld at hS
  split at hS
  · rename_i m
    split at hS
    · rename_i c' xs hm
      split at hS
      · rename_i hcc
        subst hcc
        obtain ⟨p, rfl, hp⟩ := ro
        obtain ⟨dx, fs, hH, hk, rr⟩ := s.cell m p _ hp hm
        have hlen : fs.length ≤ (G.fld c').length := by
          have := congrArg List.length hk
          simp at this
          omega
        have hxl : fs.length = xs.length := by have := rr.length; simpa using this
        have ndf : (fs.map (·.1)).Nodup := by rw [hk]; exact hnd.sublist (List.take_sublist _ _)
        split at hS
        · rename_i hi
          cases hS
          have h1 : (fs.map (·.1))[i]? = some f := by rw [hk, List.getElem?_take, if_pos (by omega)]; exact hf
          obtain ⟨q1, q2⟩ := putF_at (y := y) ndf h1
          have hl2 : (putF f y fs).length = fs.length := by have := congrArg List.length q1; simpa using this
          obtain ⟨s2, e2⟩ := s.put (o' := .ins c' (xs.set i wv)) (u := .ins (G.cad c') dx (putF f y fs)) hp hm (by simp) ⟨dx, _, upd_same, by rw [q1, hl2, hk], by rw [q2]; exact rr.set rv i⟩
          exact ⟨p, dx, fs, rfl, hH, hlen, s2, e2⟩
        · split at hS
          · rename_i hi _ hi2
            cases hS
            have hnew : f ∉ fs.map (·.1) := by
              rw [hk]
              intro z
              obtain ⟨j, hj, e⟩ := List.getElem_of_mem z
              have hj' : j < fs.length := by simp at hj; omega
              have hj2 : (G.fld c')[j]? = some f := by
                rw [List.getElem_take] at e
                rw [List.getElem?_eq_getElem (by omega), e]
              have := (List.getElem?_inj (by omega) hnd).mp (hj2.trans hf.symm)
              omega
            have hpu := putF_new (y := y) hnew
            obtain ⟨s2, e2⟩ := s.put (o' := .ins c' (xs ++ [wv])) (u := .ins (G.cad c') dx (putF f y fs)) hp hm (by simp) ⟨dx, _, upd_same, by
              rw [hpu, List.map_append, hk]
              simp only [List.map_cons, List.map_nil, List.length_append, List.length_cons, List.length_nil, Nat.zero_add]
              have hil : fs.length < (G.fld c').length := by have := (List.getElem?_eq_some_iff.mp hf).1; omega
              rw [List.take_succ_eq_append_getElem hil]
              congr 1
              have : (G.fld c')[fs.length]? = some f := by rw [hxl, ← hi2]; exact hf
              rw [List.getElem?_eq_getElem hil] at this
              exact congrArg (· :: []) (Option.some.inj this).symm, by
              rw [hpu, List.map_append]
              exact rr.append (Rels.one rv)⟩
            exact ⟨p, dx, fs, rfl, hH, hlen, s2, e2⟩
          · cases hS
      · cases hS
    · cases hS
  · cases hS
theorem setFS {c i : Nat} {f : PySem.Str} {v o : E} (hC : Cls K (G.cad c)) (hn : NoAttr K (G.cad c) f) (hnd : (G.fld c).Nodup) (hf : (G.fld c)[i]? = some f) (hl : (G.fld c).length < 1000) :
    ∀ D σ H, tS G cf L Ex (.setF c i v o) D σ H → sFld K (tE G cf Ex o) (tE G cf Ex v) f D σ H := by
  rintro D σ H ⟨I, φ, ρ, S, s, en, h⟩
  simp only [exec] at h
  refine ⟨I, φ, ρ, S, s, en, (h.sr en).imp fun w S1 _ h1 => ?_⟩
  intro v1 I1 φ1 H1 e1 s1 r1
  refine ⟨I1, φ1, ρ, S1, s1, en.ext e1, ((PostS.ext e1 h1).sr (en.ext e1)).imp fun w2 S2 _ h2 => ?_⟩
  intro v2 I2 φ2 H2 e2 s2 r2
  have h3 := PostS.ext e2 h2
  split at h3
  · rename_i S3 hS
    obtain ⟨p, dx, fs, rfl, hp, hlen, s4, e4⟩ := setFld_ok hf hnd s2 r2 (r1.ext e2) hS
    exact ⟨p, _, dx, fs, rfl, hp, hC, hn, by omega, h3 σ _ _ _ e4 s4 (((en.ext e1).ext e2).ext e4)⟩
  · exact h3.elim
theorem augFS {c i : Nat} {f : PySem.Str} {v e : E} {o : Op} (hC : Cls K (G.cad c)) (hn : NoAttr K (G.cad c) f) (hnd : (G.fld c).Nodup) (hf : (G.fld c)[i]? = some f) (hl : (G.fld c).length < 1000) :
    ∀ D σ H, tS G cf L Ex (.augF c i v o e) D σ H → sFldAug K (tE G cf Ex v) (tE G cf Ex e) (rAug G o) f D σ H := by
  rintro D σ H ⟨I, φ, ρ, S, s, en, h⟩
  simp only [exec] at h
  refine ⟨I, φ, ρ, S, s, en, (h.sr en).imp fun w S1 _ h1 => ?_⟩
  intro v1 I1 φ1 H1 e1 s1 r1
  have h1 := PostS.ext e1 h1
  split at h1
  · rename_i x hx
    unfold fldSem at hx
    split at hx
    · rename_i c' xs hr
      split at hx
      · rename_i hcc
        subst hcc
        obtain ⟨p, dx, fs, rfl, hp, hfk, rr⟩ := recRel s1 r1 hr
        obtain ⟨y, hy, ry⟩ := rr.get hx
        have hil : i < fs.length := by have := (List.getElem?_eq_some_iff.mp hy).1; simpa using this
        have h1' : (fs.map (·.1))[i]? = some f := by rw [hfk, List.getElem?_take, if_pos hil]; exact hf
        have hnd' : (fs.map (·.1)).Nodup := by rw [hfk]; exact hnd.sublist (List.take_sublist _ _)
        refine ⟨p, _, dx, fs, y, rfl, hp, hC, hn, lookup_at hnd' h1' hy, I1, φ1, ρ, S1, s1, en.ext e1, (h1.sr (en.ext e1)).imp fun w2 S2 _ h2 => ?_⟩
        intro v2 I2 φ2 H2 e2 s2 r2
        have h2 := PostS.ext e2 h2
        split at h2
        · rename_i z hz
          refine ⟨I2, φ2, S2, x, w2, z, s2, ry.ext e2, r2, hz, ?_⟩
          intro v3 I3 φ3 H3 e3 s3 r3
          have h3 := PostS.ext e3 h2
          split at h3
          · rename_i S3 hS
            obtain ⟨p', dx', fs', ep, hp', hlen, s4, e4⟩ := setFld_ok hf hnd s3 ((r1.ext e2).ext e3) r3 hS
            cases ep
            exact ⟨dx', fs', hp', by omega, h3 σ _ _ _ e4 s4 ((((en.ext e1).ext e2).ext e3).ext e4)⟩
          · exact h3.elim
        · exact h2.elim
      · cases hx
    · cases hx
  · exact h1.elim
theorem setSem_dict {m : Nat} {t : Bool} {ks vs : List W} {wk wv : W} {x : V} {kv v : V} (s : Sim G I φ S H) (hS : S[m]? = some (.dic t ks vs)) (ro : Rel G I φ (.ref m) x) (rk : Rel G I φ wk kv) (rv : Rel G I φ wv v) (e : setSem S (.ref m) wk wv = some S') :
    ∃ a H2, x = .ref a ∧ DPut H a kv v H2 ∧ Sim G I φ S' H2 ∧ Ext I φ H I φ H2 := by
  obtain ⟨a, rfl, ha⟩ := ro
  simp only [setSem, hS] at e
  split at e
  · rename_i hc
    cases e
    simp only [Bool.and_eq_true, decide_eq_true_eq] at hc
    cases t with
    | false =>
      obtain ⟨kvs, h1, rfl, r⟩ := s.cell m a _ ha hS
      obtain ⟨key, rfl, rfl⟩ := keyF rk hc.1
      have hl : kvs.length < sizeLine := by have := lim_ok hc.2; simpa using this
      obtain ⟨s2, e2⟩ := s.put (o' := .dic false (dputK (kvs.map fun p => kW p.1) (kW key)) (dputV (kvs.map fun p => kW p.1) vs (kW key) wv)) (u := .dK (putK kvs key v)) ha hS (by simp)
        ⟨_, upd_same, dputK_ok kW hfK key v kvs, dputV_ok kW hfK key rv r⟩
      exact ⟨a, _, rfl, .k h1 hl, s2, e2⟩
    | true =>
      obtain ⟨kvs, h1, rfl, r⟩ := s.cell m a _ ha hS
      obtain ⟨key, b, rfl, rfl, hb⟩ := keyT rk hc.1
      have hl : kvs.length < sizeLine := by have := lim_ok hc.2; simpa using this
      obtain ⟨s2, e2⟩ := s.put (o' := .dic true (dputK (kvs.map fun p => W.tup (p.1.map kW)) (.tup (key.map kW))) (dputV (kvs.map fun p => W.tup (p.1.map kW)) vs (.tup (key.map kW)) wv)) (u := .dT (putK kvs key v)) ha hS (by simp)
        ⟨_, upd_same, dputK_ok (fun k => .tup (k.map kW)) hfT key v kvs, dputV_ok (fun k => .tup (k.map kW)) hfT key rv r⟩
      exact ⟨a, _, rfl, .t h1 (s.same _ _ hb) hl, s2, e2⟩
  · cases e
def isVC : E → Bool
  | .var _ => true
  | .con _ => true
  | _ => false
def stillE : E → Bool
  | .fstr as => as.all isVC
  | e => isVC e
theorem vc_ok {e : E} (h : isVC e = true) {ρ : Env} {w : W} (he : ev cf e ρ S = .ok w S') : S = S' := by
  cases e <;> first | (simp [isVC] at h; done) | skip
  · simp only [ev] at he
    split at he
    · cases he; rfl
    · cases he
  · simp only [ev] at he
    cases he; rfl
theorem vcs_ok {ρ : Env} : ∀ {es : List E} {S S' : Sto} {ws : List W}, es.all isVC = true → evs cf es ρ S = .ok ws S' → S = S'
  | [], S, S', ws, _, he => by
    simp only [evs] at he
    cases he; rfl
  | e :: es, S, S', ws, h, he => by
    simp only [List.all_cons, Bool.and_eq_true] at h
    simp only [evs] at he
    cases h1 : ev cf e ρ S with
    | ok w S1 =>
      rw [h1] at he
      simp only [Rs.bind] at he
      cases vc_ok h.1 h1
      cases h2 : evs cf es ρ S with
      | ok ws2 S2 =>
        rw [h2] at he
        simp only [Rs.bind] at he
        cases he
        exact vcs_ok h.2 h2
      | ex c S2 => rw [h2] at he; cases he
      | bad => rw [h2] at he; cases he
    | ex c S1 => rw [h1] at he; cases he
    | bad => rw [h1] at he; cases he
theorem still_ok {e : E} (h : stillE e = true) (ρ : Env) (S : Sto) (w : W) (S' : Sto) (he : ev cf e ρ S = .ok w S') : S = S' := by
  unfold stillE at h
  split at h
  · rename_i as
    simp only [ev] at he
    cases h1 : evs cf as ρ S with
    | ok ws S1 =>
      rw [h1] at he
      simp only [Rs.bind] at he
      split at he
      · split at he
        · cases he
          exact vcs_ok h h1
        · cases he
      · cases he
    | ex c S1 => rw [h1] at he; cases he
    | bad => rw [h1] at he; cases he
  · exact vc_ok h he

theorem setSem_dic {d k v : W} {t : Bool} {ks vs : List W} (hd : dicOf S d = some (t, ks, vs)) (hS : setSem S d k v = some S') : ∃ m, d = .ref m ∧ S[m]? = some (.dic t ks vs) := by
  cases d <;> first | (simp [setSem] at hS; done) | skip
  rename_i m
  simp only [dicOf] at hd
  split at hd
  · rename_i t' ks' vs' hS2
    cases hd
    exact ⟨m, rfl, hS2⟩
  · cases hd
theorem augDS {v k e : E} {o : Op} (hst : ∀ ρ S w S', ev cf e ρ S = .ok w S' → S = S') : ∀ D σ H, tS G cf L Ex (.augS v k o e) D σ H → sDAug (tE G cf Ex v) (tE G cf Ex k) (tE G cf Ex e) (rAug G o) D σ H := by
  rintro D σ H ⟨I, φ, ρ, S, s, en, h⟩
  simp only [exec] at h
  refine ⟨I, φ, ρ, S, s, en, (h.sr en).imp fun d S1 _ h1 => ?_⟩
  intro v1 I1 φ1 H1 e1 s1 r1
  refine ⟨I1, φ1, ρ, S1, s1, en.ext e1, ((PostS.ext e1 h1).sr (en.ext e1)).imp fun wk S2 _ h2 => ?_⟩
  intro v2 I2 φ2 H2 e2 s2 r2
  have h2 := PostS.ext e2 h2
  split at h2
  · rename_i t ks vs hd
    split at h2
    · rename_i hk
      split at h2
      · rename_i x hx
        obtain ⟨a, oo, rfl, hg, _, hm⟩ := dget_rel s2 (r1.ext e2) hd r2 hk
        rw [hx] at hm
        obtain ⟨u, rfl, ru⟩ := hm
        refine ⟨a, u, rfl, hg, I2, φ2, ρ, S2, s2, (en.ext e1).ext e2, (h2.sr ((en.ext e1).ext e2)).imp fun w3 S3 hev h3 => ?_⟩
        have hss := hst _ _ _ _ hev
        subst hss
        intro v3 I3 φ3 H3 e3 s3 r3
        have h3 := PostS.ext e3 h3
        split at h3
        · rename_i z hz
          refine ⟨I3, φ3, S2, x, w3, z, s3, ru.ext e3, r3, hz, ?_⟩
          intro v4 I4 φ4 H4 e4 s4 r4
          have h4 := PostS.ext e4 h3
          split at h4
          · rename_i S4 hS
            have hd4 := setSem_dic hd hS
            obtain ⟨m, rfl, hSm⟩ := hd4
            obtain ⟨a', H5, ea, hput, s5, e5⟩ := setSem_dict s4 hSm (((r1.ext e2).ext e3).ext e4) ((r2.ext e3).ext e4) r4 hS
            cases ea
            exact ⟨H5, hput, h4 σ _ _ _ e5 s5 (((((en.ext e1).ext e2).ext e3).ext e4).ext e5)⟩
          · exact h4.elim
        · exact h3.elim
      · exact h2.elim
    · exact h2.elim
  · exact h2.elim

theorem raisS {c : Nat} : ∀ D σ H, tS G cf L Ex (.rais c) D σ H → Ex σ (.ref (G.cad c)) none H := by
  rintro D σ H ⟨I, φ, ρ, S, s, en, h⟩
  simp only [exec] at h
  exact h σ I φ H (Ext.refl _ _ _) s en
def raisSyn (T : Tab) (sc : Scope) (c : Nat) : Stmt → Bool
  | .Raise (some (.Call (.Name x _) [.Constant (.str _) _ _] [] _)) none _ => isGl sc x && !dbg x && T.exc.any fun e => e.1 == x && e.2 == c
  | _ => false
theorem dbg_not {x : PySem.Str} (h : (!dbg x) = true) : (x == ("__debug__" : PySem.Str)) = false := by
  simp only [dbg, Bool.not_eq_true', Bool.or_eq_false_iff] at h
  exact h.1.1
theorem raisOk {c : Nat} {s : Stmt} (h : raisSyn T sc c s = true) (hcm : T.cm = true) (x : XSk T G cf Ex n sc X) : PS X s (tS G cf L Ex (.rais c)) := by
  unfold raisSyn at h
  split at h
  · rename_i y p m j p2 pos pos'
    simp only [Bool.and_eq_true, List.any_eq_true, beq_iff_eq] at h
    obtain ⟨⟨h1, h2⟩, ⟨e1, e2⟩, he, rfl, rfl⟩ := h
    obtain ⟨gC, F, _⟩ := x.exc _ _ he
    refine PS_imp (ps_raise (x.calm hcm) (x.tk hcm) (pmk_own PySem.F.excBase_ValueError F.ex gC F.kp (raises_own F.hs F.tp) (x.toXOk.gl h1) (dbg_not h2))) raisS
  · cases h
def setFSyn (T : Tab) (c i : Nat) : Expr → Option Expr
  | .Attribute o f _ => if baseE o && T.cls.any (fun cl => cl.c == c && decide (cl.flds[i]? = some f) && decide (cl.flds.length < 1000)) then some o else none
  | _ => none
theorem sw_attr {o v : Expr} {f : PySem.Str} {p : Pos} {l : Nat} (hv : plainE v = true) : swapsWith v (some (.Attribute o f p)) l X.env = pure false := by
  cases v <;> first | (simp [plainE] at hv; done) | rfl
def augStoreOk : Expr → Bool
  | .Name _ _ => true
  | .Constant _ _ _ => true
  | .Subscript _ _ _ => true
  | .Attribute _ _ _ => true
  | .BinOp _ _ _ _ => true
  | .Call _ _ _ _ => true
  | _ => false
theorem aug_store {i : Expr} (h : augStoreOk i = true) (ov iv new : Value) : augStore i ov iv new = (do holding [new, ov, iv] (setItem ov iv new); release [new, ov, iv] []; pure .next) := by
  cases i <;> first | (simp [augStoreOk] at h; done) | rfl
theorem setFOk {c i : Nat} {v o : E} {tg o' v' : Expr} {pos : Pos} (h : setFSyn T c i tg = some o') (hv : plainE v' = true) (x : XSk T G cf Ex n sc X) (p1 : PE X v' (tE G cf Ex v)) (p2 : PE X o' (tE G cf Ex o)) : PS X (.Assign [tg] v' pos) (tS G cf L Ex (.setF c i v o)) := by
  unfold setFSyn at h
  split at h
  · rename_i o2 f pos'
    split at h
    · rename_i hc
      cases h
      simp only [Bool.and_eq_true, List.any_eq_true, decide_eq_true_eq, beq_iff_eq] at hc
      obtain ⟨hb, cl, hcl, ⟨rfl, hfi⟩, hl⟩ := hc
      obtain ⟨_, hC, _, hG, hnd, hN, _⟩ := x.cls cl hcl
      refine PS_imp (ps_fld p2 p1 (sw_attr hv)) (setFS hC.toCls (hN f (List.mem_of_getElem? hfi)) (by rw [hG]; exact hnd) (by rw [hG]; exact hfi) (by rw [hG]; exact hl))
    · cases h
  · cases h
theorem augFOk {c i : Nat} {v e : E} {o : Op} {op : Operator} {tg o' v' : Expr} {pos : Pos} (h : setFSyn T c i tg = some o') (ho : augTab o = some op) (x : XSk T G cf Ex n sc X) (p1 : PE X v' (tE G cf Ex e)) (p2 : PE X o' (tE G cf Ex v)) : PS X (.AugAssign tg op v' pos) (tS G cf L Ex (.augF c i v o e)) := by
  unfold setFSyn at h
  split at h
  · rename_i o2 f pos'
    split at h
    · rename_i hc
      cases h
      simp only [Bool.and_eq_true, List.any_eq_true, decide_eq_true_eq, beq_iff_eq] at hc
      obtain ⟨hb, cl, hcl, ⟨rfl, hfi⟩, hl⟩ := hc
      obtain ⟨_, hC, _, hG, hnd, hN, _⟩ := x.cls cl hcl
      refine PS_imp (ps_fldaug p2 p1 (augTab_ok ho)) (augFS hC.toCls (hN f (List.mem_of_getElem? hfi)) (by rw [hG]; exact hnd) (by rw [hG]; exact hfi) (by rw [hG]; exact hl))
    · cases h
  · cases h
def augSSyn : Expr → Option (Expr × Expr)
  | .Subscript o k _ => if augStoreOk k then some (o, k) else none
  | _ => none
theorem augSOk {v k e : E} {o : Op} {op : Operator} {tg o' k' v' : Expr} {pos : Pos} (h : augSSyn tg = some (o', k')) (hst : stillE e = true) (ho : augTab o = some op) (x : XSk T G cf Ex n sc X) (p1 : PE X v' (tE G cf Ex e)) (p2 : PE X o' (tE G cf Ex v)) (p3 : PE X k' (tE G cf Ex k)) :
    PS X (.AugAssign tg op v' pos) (tS G cf L Ex (.augS v k o e)) := by
  unfold augSSyn at h
  split at h
  · split at h
    · rename_i hk
      cases h
      exact PS_imp (ps_daug (by have := x.hu; omega) p2 p3 p1 (augTab_ok ho) (aug_store hk)) (augDS (still_ok hst))
    · cases h
  · cases h
end Tw

namespace Tw
open PySem PySem.Spec PyProof.Rows L2

variable {G : Gx} {I I' I1 I2 H H' H1 H2 : Hp} {φ φ' φ1 φ2 : List Addr} {S S' S1 : Sto} {K : PySem.W.Frag} {X : Cx} {cf : CallF} {T : Tab} {Ex : L2.St → XK} {n L : Nat} {sc : Scope}

theorem inv_lay {pins : List (Addr × Obj)} {σ : L2.St} {s : Shared} {sI : Shared} {a : Addr} {oe : Obj} {vs : Array Value} {C : Addr} (I : Inv X pins σ H s) (J : Inv X pins σ H sI) (hs : X.stack = X.env :: X.outer)
    (ha : s.heap.get? a = some oe) (hz : Zc (.ref C) none oe) (hd : oe.data = .fields vs) (na : H a = none) (hI : sI.heap.get? a = none) :
    Inv (X.suite a (X.pn ++ pins)) [] σ (upd H a (ExK C a)) s := by
  have gone : ∀ b o, sI.heap.get? b = some o → b ≠ a := fun b o e z => by rw [z, hI] at e; cases e
  have notH : ∀ b o, H b = some o → b ≠ a := fun b o e z => by rw [z, na] at e; cases e
  refine ⟨I.ok.suite _ _, I.os, I.bare, ⟨I.base.keep, I.base.slot, fun b o e n hx => ?_, I.base.there, fun b xs e => ?_, fun b o u e => ?_, fun b ps e => ?_⟩, I.loc, I.cell, ?_, fun x c e => ?_, fun p hp => ?_, fun b o e => ?_, I.len⟩
  · obtain ⟨o', e1⟩ := J.base.there b o e hx
    show upd H a (ExK C a) b = none
    rw [upd_ne (gone b o' e1)]
    exact I.base.free b o e n hx
  · have q := I.base.tups b xs e
    show upd H a (ExK C a) b = _
    rw [upd_ne (notH b _ q)]; exact q
  · have q := I.base.frzs b o u e
    show upd H a (ExK C a) b = _
    rw [upd_ne (notH b _ q)]; exact q
  · obtain ⟨m, q⟩ := I.base.tbls b ps e
    exact ⟨m, by show upd H a (ExK C a) b = _; rw [upd_ne (notH b _ q)]; exact q⟩
  · show upd H a (ExK C a) X.env.locals = none
    obtain ⟨m, ⟨oL, _, _, e, _⟩, _⟩ := J.loc
    rw [upd_ne (gone _ _ e)]
    exact I.free
  · show upd H a (ExK C a) c = none
    obtain ⟨v, o, e1, _⟩ := J.cell x c e
    rw [upd_ne (gone _ _ e1)]
    exact I.freeC x c e
  · have hp' : p ∈ X.pn ++ pins := by rw [List.append_nil] at hp; exact hp
    obtain ⟨q1, q2, q3⟩ := I.pin p hp'
    refine ⟨q1, ?_, q3⟩
    show upd H a (ExK C a) p.1 = none
    rw [upd_ne (gone _ _ (J.pin p hp').1)]
    exact q2
  · show ObjOk X.prog X.w (upd H a (ExK C a)) s.heap b o
    have e : upd H a (ExK C a) b = some o := e
    by_cases hb : b = a
    · rw [hb, upd_same] at e
      cases e
      rw [hb]
      exact ⟨⟨oe, vs, ha, hz, hd⟩, ⟨oe, ha⟩, fun h1 h2 ⟨oe', vs', e1, e2, e3⟩ k => ⟨oe', vs', k _ e1, e2, e3⟩⟩
    · rw [upd_ne hb] at e
      refine (I.hok b o e).stay (fun c v _ q => q) (fun c q => ?_) fun c xs q => ?_
      · rw [upd_ne (notH c _ q)]; exact q
      · rw [upd_ne (notH c _ q)]; exact q
def wLay (K : PySem.W.Frag) (c : Value) (i : Nat) (ts : TS) (Wout : WX) (D : Ends) : WX := fun cls d σ H =>
  ∃ b, PySem.W.exmOne K cls c = some b ∧ (b = true → ∃ C, cls = .ref C ∧ d = none ∧ ∀ a, H a = none → ts { nx := fun σ' H' => D.nx (σ'.set i none) H', rt := D.rt, bk := fun σ' H' => D.bk (σ'.set i none) H', ct := fun σ' H' => D.ct (σ'.set i none) H' } (σ.set i (some (.ref a))) (upd H a (ExK C a))) ∧
    (b = false → Wout cls d σ H)
theorem ps_try_lay {x n : PySem.Str} {c : Value} {i : Nat} {body suite : List Stmt} {b₀ : Stmt} {np pos pos' : Pos} {tb : WX → TS} {ts : TS} {Wout : WX} (hs : X.stack = X.env :: X.outer) (hf : X.env.frame = some X.env.locals) (hN : X.N.Nodup) (hi : X.N[i]? = some n) (hln : X.env.kindOf n = some .local) (hc : Names X x c) (tk : Takes X Wout)
    (hb : ∀ (W : WX) (pn : List (Addr × Obj)) (xe : Value → Shared → Prop), Takes (X.tr pn xe) W → PassesOwn (model X.prog X.w) X.A X.env xe → PSs (X.tr pn xe) body (tb W))
    (hsu : ∀ (a : Addr) (pn : List (Addr × Obj)), PSs (X.suite a pn) (b₀ :: suite) ts) :
    PS X (.Try body [.ExceptHandler (some (.Name x np)) (some n) (b₀ :: suite) pos'] [] [] pos) (fun D σ H => tb (wLay X.K c i ts Wout D) D σ H) := by
  refine ⟨fun pins s σ H D I h => ?_⟩
  have ok := I.ok
  have hfr : X.A.frames = some (X.env :: X.outer) := by rw [ok.frames, hs]
  have hloc : Loc X.env.scope n := .inl hln
  refine wpAny_Try_except ?_
  refine wpAny_mono ((hb (wLay X.K c i ts Wout D) (X.pn ++ pins) (fun e s₁ => wpAny (model X.prog X.w) X.A (noteFrame e X.env) (fun _ s₂ => wpAny (model X.prog X.w) X.A (setFlight e none) (fun _ s₃ =>
    wpAny (model X.prog X.w) X.A (handleBy e X.env [.ExceptHandler (some (.Name x np)) (some n) (b₀ :: suite) pos']) (SP X pins D) X.xe s₃) X.xe s₂) X.xe s₁) (fun u s' xx => ?_) PassesOwn.looking).run [] s σ H D (I.toTry _) h) (fun f s1 hsp => ?_) (fun e s1 he => he)
  · obtain ⟨a, B, sI, pins', σ', H', cls, d, rfl, J', nb, up, sky, na, os, ag, b, hb1, hyes, hno⟩ := xx
    have J : Inv X pins σ' H' sI := J'.ofTry ok
    have sky' : Sky B (X.env :: X.outer) a (Zc cls d) X.env.locals s'.heap := by rw [← hs]; exact sky
    show wpAny (model X.prog X.w) X.A (noteFrame (.ref a) X.env) _ _ _
    refine Sky.land Zc.steady hfr hf sky' fun h3 fl3 up3 => ?_
    have J3 : Inv X pins σ' H' { s' with heap := h3 } := J.landed nb fl3.1 (up.trans up3) os ag
    obtain ⟨oe3, vs3, he3, hz3, hd3⟩ := fl3.there
    have notFr : ∀ {h : Heap} {o : Obj} {vs : Array Value}, h.FunFrames B (X.env :: X.outer) → h.get? a = some o → o.data = .fields vs → a ∉ frs (X.env :: X.outer) := fun {h o vs} ff e dd hm => by
      obtain ⟨_, o', e', hnf⟩ := ff.mem hm
      rw [e] at e'; cases e'
      exact hnf _ dd
    have nfr := notFr fl3.2.2.1 he3 hd3
    have nL : a ≠ X.env.locals := fun z => nfr (List.mem_filterMap.mpr ⟨X.env, List.mem_cons_self, by rw [hf, z]⟩)
    have nF : a ∉ X.fs := fun hm => by
      obtain ⟨e, he, q⟩ := List.mem_filterMap.mp hm
      exact nfr (List.mem_filterMap.mpr ⟨e, List.mem_cons_of_mem _ he, q⟩)
    have hIa : sI.heap.get? a = none := by
      cases e : sI.heap.get? a with
      | none => rfl
      | some o =>
        have := nb a o e (by rw [hs]; exact nfr)
        rw [fl3.2.1] at this
        cases this
    have S3 := J3.suite he3 hd3 na nL nF
    refine wpAny_handleBy_cons (codeAny_handlers_test ?_) (by intro q; cases q)
    have LT : PySem.W.Looks (model X.prog X.w) h3 (typeOf (.ref a)) cls := fun A Q E s k q => wpAny_typeOf_ref (k _ _ he3) (by rw [hz3.1]; exact q)
    have LM := PySem.W.exm_one (M := model X.prog X.w) (J3.kIn) LT hb1
    have test : ∀ {Q : Value → Shared → Prop} {E : Value → Shared → Prop}, Q c { s' with heap := h3 } → wpAny (model X.prog X.w) (X.A.mark (some (.ref a))) (eval (.Name x np) X.env) Q E { s' with heap := h3 } := fun {Q E} q => by
      obtain ⟨hg, hdbg, hm | ⟨hm, hv, hnn⟩⟩ := hc
      · exact ld_glob (X := X.suite a ((a, oe3) :: (X.pn ++ pins))) S3 hg hm q hdbg
      · exact ld_blt (X := X.suite a ((a, oe3) :: (X.pn ++ pins))) S3 hg hm hv q hnn hdbg
    refine test (LM.here ?_)
    cases b with
    | true =>
      obtain ⟨C, rfl, rfl, hgo⟩ := hyes rfl
      refine codeAny_handlers_suite_as ?_
      refine HandSPX.lands_againZ fl3 fun h4 fl4 up4 => ?_
      have J4 : Inv X pins σ' H' { s' with heap := h4 } := J.landed nb fl4.1 ((up.trans up3).trans up4) os ag
      obtain ⟨oe4, vs4, he4, hz4, hd4⟩ := fl4.there
      have S4 := inv_lay J4 J hs he4 hz4 hd4 na hIa
      refine store_ok (X := X.suite a (X.pn ++ pins)) (v := .ref a) S4 hN hi hloc rfl (fun s5 S5 => ?_) (.inr hln)
      refine wpAny_mono ((hsu a (X.pn ++ pins)).run [] s5 _ _ _ S5 (hgo a na)) (fun f s6 hsp => ?_) (fun _ _ z => False.elim z)
      have uns : ∀ {σ6 : L2.St} {H6 : Hp}, Inv (X.suite a (X.pn ++ pins)) [] σ6 H6 s6 → Inv X pins σ6 H6 s6 := fun I =>
        ⟨ok, I.os, I.bare, I.base, I.loc, I.cell, I.free, I.freeC, fun p hp => I.pin p (List.mem_append_left _ hp), I.hok, I.len⟩
      have end_ : ∀ {σ6 : L2.St} {H6 : Hp} {Q : Shared → Prop}, Inv (X.suite a (X.pn ++ pins)) [] σ6 H6 s6 → (∀ s7, Inv X pins (σ6.set i none) H6 s7 → Q s7) →
          wpAny (model X.prog X.w) X.A (do bindName X.env n .none; unbindBehindTheSuite X.env n pos') (fun _ s7 => Q s7) X.xe s6 := fun {σ6 H6 Q} S6 hq => gone_ok (uns S6) hN hi hln hq
      cases f with
      | next =>
        obtain ⟨σ6, H6, S6, q6⟩ := hsp
        exact end_ S6 fun s7 J7 => ⟨_, _, J7, q6⟩
      | brk =>
        obtain ⟨σ6, H6, S6, q6⟩ := hsp
        exact end_ S6 fun s7 J7 => ⟨_, _, J7, q6⟩
      | cont =>
        obtain ⟨σ6, H6, S6, q6⟩ := hsp
        exact end_ S6 fun s7 J7 => ⟨_, _, J7, q6⟩
      | ret u =>
        obtain ⟨v6, σ6, H6, S6, r6, q6⟩ := hsp
        exact end_ S6 fun s7 J7 => ⟨_, _, _, J7, r6, q6⟩
    | false =>
      show wpAny _ X.A (handleBy (.ref a) X.env []) _ _ _
      refine wpAny_handleBy_nil ?_
      obtain ⟨k1, k2, k3, oe, vs, T, oT, ts', he, hz, hd, h1, hr⟩ := id fl3
      unfold PySem.passOn
      refine wpAny_bind (wpAny_field he hd h1 ?_)
      rw [if_neg (show ¬ ((Value.ref T == Value.none) = true) from by simp)]
      have fin : wpAny (model X.prog X.w) X.A (setFlight (.ref a) X.env.frame) (fun _ s4 => wpAny (model X.prog X.w) X.A (throw (.ref a) : Sem Flow) (SP X pins D) X.xe s4) X.xe { s' with heap := h3 } := by
        rw [hf]
        refine HandSPX.setFlight_upZ fl3 fun h4 hh4 up4 => wpAny_throw (tk _ _ ?_)
        exact ⟨a, B, sI, pins, σ', H', cls, d, rfl, J, nb, (up.trans up3).trans up4, .inr (.inr (by rw [hs]; exact hh4)), na, os, ag, hno rfl⟩
      first
        | exact wpAny_bind (wpAny_pure (wpAny_bind fin))
        | exact wpAny_bind fin
  · cases f with
    | next =>
      obtain ⟨σ', H', J', q⟩ := hsp
      exact wpAny_execs_nil ⟨σ', H', J'.ofTry ok, q⟩
    | brk =>
      obtain ⟨σ', H', J', q⟩ := hsp
      exact ⟨σ', H', J'.ofTry ok, q⟩
    | cont =>
      obtain ⟨σ', H', J', q⟩ := hsp
      exact ⟨σ', H', J'.ofTry ok, q⟩
    | ret u =>
      obtain ⟨v, σ', H', J', r, q⟩ := hsp
      exact ⟨v, σ', H', J'.ofTry ok, r, q⟩

abbrev ExW (W : WX) : L2.St → XK := fun σ cls d H => W cls d σ H
def Tab.hot (T : Tab) : Tab := { T with cm := false }
theorem XSk.tr (x : XSk T G cf Ex n sc X) {W : WX} {pn : List (Addr × Obj)} {xe : Value → Shared → Prop} (tk : Takes (X.tr pn xe) W) (po : PassesOwn (model X.prog X.w) X.A X.env xe) : XSk T G cf (ExW W) n sc (X.tr pn xe) where
  calm := x.calm
  hk := x.hk
  nd := x.nd
  hN := x.hN
  hsc := x.hsc
  un := x.un
  room := x.room
  blt := x.blt
  fns := x.fns
  csts := x.csts
  cls := x.cls
  mts := x.mts
  exc := x.exc
  exs := x.exs
  pass := fun σ => passAt tk σ
  wr := x.wr
  own := fun _ => po
  tk := fun _ => tk
  stk := x.stk
  frm := x.frm
  knd := x.knd
theorem XSk.hot (x : XSk T G cf Ex n sc X) {a : Addr} {pn : List (Addr × Obj)} : XSk T.hot G cf EN n sc (X.suite a pn) where
  calm := fun z => by cases z
  hk := x.hk
  nd := x.nd
  hN := x.hN
  hsc := x.hsc
  un := x.un
  room := fun z => by cases z
  blt := x.blt
  fns := x.fns
  csts := x.csts
  cls := x.cls
  mts := x.mts
  exc := x.exc
  exs := x.exs
  pass := fun σ pins H s e s' I c => by
    obtain ⟨a, B, H', cls, d, rfl, fl, hok, ub, na, os, ag, hE⟩ := c
    exact hE.elim
  wr := x.wr
  own := fun z => by cases z
  tk := fun z => by cases z
  stk := x.stk
  frm := x.frm
  knd := x.knd
theorem exm_at (x : XOk T G cf Ex n sc X) {y z : PySem.Str} {k c : Nat} (h : (y, k) ∈ T.exc) (hc : c = 9 ∨ (z, c) ∈ T.exc) : PySem.W.exmOne X.K (.ref (G.cad k)) (cvO G c) = some (subX k c) := by
  obtain ⟨_, F, hk, _, _, _, hp⟩ := x.exc _ _ h
  rcases hc with rfl | hc
  · have e1 : cvO G 9 = .type "ValueError" := rfl
    have e2 : subX k 9 = true := by simp [subX]; omega
    rw [e1, e2]
    exact F.ev
  · obtain ⟨_, F', hk', _⟩ := x.exc _ _ hc
    have e1 : cvO G c = .ref (G.cad c) := by unfold cvO; rw [if_neg (by omega)]
    rw [e1]
    have hkit := hp _ _ hc
    by_cases he : G.cad k = G.cad c
    · rw [he] at hkit ⊢
      have : PySem.W.kitOne X.K (.ref (G.cad c)) (.ref (G.cad c)) = some true := by unfold PySem.W.kitOne; simp
      rw [this] at hkit
      rw [← hkit]
      exact F'.me
    · unfold PySem.W.kitOne at hkit
      rw [if_neg (by simpa using he)] at hkit
      unfold PySem.W.exmOne
      rw [if_pos (by rw [F'.hs]; rfl)]
      exact hkit
theorem PostS.unb {r : SR} {i : Option Nat} {D : Ends} (h : PostS G Ex I φ H (r.unb i) D) : PostS G EN I φ H r { nx := fun σ' H' => D.nx (match i with | some i => σ'.set i none | none => σ') H', rt := D.rt, bk := fun σ' H' => D.bk (match i with | some i => σ'.set i none | none => σ') H', ct := fun σ' H' => D.ct (match i with | some i => σ'.set i none | none => σ') H' } := by
  have w : ∀ {ρ : Env} {σ : L2.St} {I' : Hp} {φ' : List Addr}, Envs G I' φ' ρ σ → Envs G I' φ' (unE i ρ) (match i with | some i => σ.set i none | none => σ) := fun en => by
    cases i with
    | none => exact en
    | some i => exact en.wipe [i]
  cases r with
  | next ρ S => exact fun σ I' φ' H' e s en => h _ I' φ' H' e s (w en)
  | ret w S => exact h
  | brk ρ S => exact fun σ I' φ' H' e s en => h _ I' φ' H' e s (w en)
  | cont ρ S => exact fun σ I' φ' H' e s en => h _ I' φ' H' e s (w en)
  | ex ρ c S => exact h.elim
  | bad => exact h
theorem tryS0 {ks : List Nat} {body hd : List Stm} {c : Nat} {cv : Value} (hks : ∀ k ∈ ks, PySem.W.exmOne K (.ref (G.cad k)) cv = some (subX k c)) :
    ∀ D σ H, tS G cf L Ex (.tryE ks body c none hd) D σ H → tSs G cf L (ExW (wOnly K cv (fun _ _ _ => tSs G cf L EN hd) (fun cls d σ H => Ex σ cls d H) D)) body D σ H := by
  rintro D σ H ⟨I, φ, ρ, S, s, en, h⟩
  simp only [exec] at h
  refine ⟨I, φ, ρ, S, s, en, ?_⟩
  cases hb : execs cf L body ρ S with
  | next ρ1 S1 => rw [hb] at h; exact h
  | ret w S1 => rw [hb] at h; exact h
  | brk ρ1 S1 => rw [hb] at h; exact h
  | cont ρ1 S1 => rw [hb] at h; exact h
  | bad => rw [hb] at h; exact h
  | ex ρ1 k S1 =>
    rw [hb] at h
    simp only at h
    split at h
    · rename_i hk
      have hk : k ∈ ks := by simpa using hk
      intro σ1 I1 φ1 H1 e1 s1 en1
      refine ⟨_, hks k hk, fun z => ?_, fun z => ?_⟩
      · rw [if_pos z] at h
        intro a na
        exact ⟨I1, φ1, ρ1, S1, s1, en1, (PostS.ext e1 h).unb⟩
      · rw [if_neg (by rw [z]; simp)] at h
        exact h σ1 I1 φ1 H1 e1 s1 en1
    · exact h.elim
theorem tryS1 {ks : List Nat} {body hd : List Stm} {c i : Nat} {cv : Value} (hks : ∀ k ∈ ks, PySem.W.exmOne K (.ref (G.cad k)) cv = some (subX k c)) (hex : ∀ k ∈ ks, k ∈ G.exs) :
    ∀ D σ H, tS G cf L Ex (.tryE ks body c (some i) hd) D σ H → tSs G cf L (ExW (wLay K cv i (tSs G cf L EN hd) (fun cls d σ H => Ex σ cls d H) D)) body D σ H := by
  rintro D σ H ⟨I, φ, ρ, S, s, en, h⟩
  simp only [exec] at h
  refine ⟨I, φ, ρ, S, s, en, ?_⟩
  cases hb : execs cf L body ρ S with
  | next ρ1 S1 => rw [hb] at h; exact h
  | ret w S1 => rw [hb] at h; exact h
  | brk ρ1 S1 => rw [hb] at h; exact h
  | cont ρ1 S1 => rw [hb] at h; exact h
  | bad => rw [hb] at h; exact h
  | ex ρ1 k S1 =>
    rw [hb] at h
    simp only at h
    split at h
    · rename_i hk
      have hk : k ∈ ks := by simpa using hk
      intro σ1 I1 φ1 H1 e1 s1 en1
      refine ⟨_, hks k hk, fun z => ?_, fun z => ?_⟩
      · rw [if_pos z] at h
        refine ⟨_, rfl, rfl, fun a na => ?_⟩
        obtain ⟨s2, e2⟩ := s1.newI (o := ExK (G.cad k) a) na
        exact ⟨_, φ1, ρ1.set i (some (.exn k)), S1, s2, (en1.ext e2).set ⟨a, rfl, upd_same, hex k hk⟩, (PostS.ext (e1.trans e2) h).unb⟩
      · rw [if_neg (by rw [z]; simp)] at h
        exact h σ1 I1 φ1 H1 e1 s1 en1
    · exact h.elim
def trySyn : Stmt → Option (List Stmt × PySem.Str × Option PySem.Str × List Stmt)
  | .Try body [.ExceptHandler (some (.Name x _)) nm (b :: suite) _] [] [] _ => some (body, x, nm, b :: suite)
  | _ => none
def tryChk (T : Tab) (sc : Scope) (ks : List Nat) (c : Nat) (i : Option Nat) (x : PySem.Str) (nm : Option PySem.Str) : Bool :=
  T.cm && (ks.all fun k => T.exc.any fun e => e.2 == k) && isGl sc x && !dbg x && ((c == 9 && x == ("ValueError" : PySem.Str)) || T.exc.any fun e => e.1 == x && e.2 == c) &&
  match i, nm with
  | none, none => true
  | some i, some n => decide (T.N[i]? = some n) && decide (sc.names.lookup n = some .local)
  | _, _ => false
theorem tryOk {ks : List Nat} {c : Nat} {i : Option Nat} {ms hd : List Stm} {st : Stmt} {body suite : List Stmt} {y : PySem.Str} {nm : Option PySem.Str} (h : trySyn st = some (body, y, nm, suite)) (hc : tryChk T sc ks c i y nm = true) (x : XSk T G cf Ex n sc X)
    (hb : ∀ {Ex' : L2.St → XK} {X' : Cx}, XSk T G cf Ex' n sc X' → PSs X' body (tSs G cf L Ex' ms)) (hs : ∀ {Ex' : L2.St → XK} {X' : Cx}, XSk T.hot G cf Ex' n sc X' → PSs X' suite (tSs G cf L Ex' hd)) : PS X st (tS G cf L Ex (.tryE ks ms c i hd)) := by
  unfold trySyn at h
  split at h
  · rename_i b y' np nm' b0 suite' pos' pos
    cases h
    simp only [tryChk, Bool.and_eq_true, List.all_eq_true, List.any_eq_true, beq_iff_eq, Bool.or_eq_true] at hc
    obtain ⟨⟨⟨⟨⟨hcm, h1⟩, h2⟩, h3⟩, h4⟩, h5⟩ := hc
    have hc' : c = 9 ∨ (y, c) ∈ T.exc := by
      rcases h4 with ⟨a, _⟩ | ⟨⟨e1, e2⟩, he, rfl, rfl⟩
      · exact .inl a
      · exact .inr he
    have hks : ∀ k ∈ ks, PySem.W.exmOne X.K (.ref (G.cad k)) (cvO G c) = some (subX k c) := fun k hk => by
      obtain ⟨⟨e1, e2⟩, he, rfl⟩ := h1 k hk
      exact exm_at x.toXOk he hc'
    have hex : ∀ k ∈ ks, k ∈ G.exs := fun k hk => by
      obtain ⟨⟨e1, e2⟩, he, rfl⟩ := h1 k hk
      exact (x.exc _ _ he).2.2.2.2.2.1
    have hnm : Names X y (cvO G c) := by
      rcases h4 with ⟨a, b⟩ | ⟨⟨e1, e2⟩, he, rfl, rfl⟩
      · subst a b
        exact names_blt (x.toXOk.gl h2) (x.blt _ (by decide)) boot_ValueError
      · obtain ⟨g, _, hk, _⟩ := x.exc _ _ he
        have : cvO G e2 = .ref (G.cad e2) := by unfold cvO; rw [if_neg (by omega)]
        rw [this]
        exact ⟨x.toXOk.gl h2, dbg_not h3, .inl g⟩
    cases i with
    | none =>
      cases nm with
      | some _ => cases h5
      | none =>
        exact PS_imp (ps_try_only (tb := fun W => tSs G cf L (ExW W) ms) (ts := fun _ _ _ => tSs G cf L EN hd) x.stk x.frm hnm (x.tk hcm) (fun W pn xe tk po => hb (x.tr tk po)) (fun a oe cls d pn _ _ => hs x.hot)) (tryS0 hks)
    | some i =>
      cases nm with
      | none => cases h5
      | some nn =>
        simp only [Bool.and_eq_true, decide_eq_true_eq] at h5
        exact PS_imp (ps_try_lay (tb := fun W => tSs G cf L (ExW W) ms) (ts := tSs G cf L EN hd) x.stk x.frm x.nd (by rw [x.hN]; exact h5.1) (by show X.env.scope.names.lookup nn = _; rw [x.hsc]; exact h5.2) hnm (x.tk hcm) (fun W pn xe tk po => hb (x.tr tk po)) (fun a pn => hs x.hot)) (tryS1 hks hex)
  · cases h
end Tw

namespace L2
open PySem PySem.Spec PyProof.Rows
section
variable {X : Cx} {pins : List (Addr × Obj)} {σ : St} {H : Hp} {s : Shared} {d : Addr} {o : Obj}
theorem Inv.frzTv {kvs : List (List Key × V)} (I : Inv X pins σ H s) (h : H d = some (.frz o (.dT kvs))) :
    (d == sysModules) = false ∧ s.heap.get? d = some o ∧ o.ExactDict ∧ ∃ (es : Array DictEntry) (ep : Nat), o.data = .dict es ep ∧ es.size = kvs.length ∧
      ∀ (i : Nat) (k : List Key) (v : V), kvs[i]? = some (k, v) → ∃ (en : DictEntry) (q : Addr), es[i]? = some en ∧ en.key = .ref q ∧ H q = some (.tup (k.map kV)) ∧ RelV v en.val := by
  obtain ⟨hd, z, hs, xs, pr, o', es, ep, ho, hx, hdt, he, _⟩ := I.hok d _ h
  rw [hd] at ho
  cases ho
  refine ⟨hs, hd, hx, es, ep, hdt, ?_, fun i k v e => ?_⟩
  · have l1 : es.size = xs.length := size_of_entries he
    have l2 : kvs.length = xs.length := Paired.length pr
    omega
  · obtain ⟨b, hb, e1, e2, e3⟩ := paired_get pr e
    have q := entry_at he i
    rw [hb] at q
    exact ⟨_, b.2.1, q, rfl, e2, e3⟩
end
def Itit (d : Addr) (o : Obj) (kvs : List (List Key × V)) : It :=
  ⟨fun i H => H d = some (.frz o (.dT kvs)) ∧ i < kvs.length, fun i H x H' => ∃ T q k v, kvs[i]? = some (k, v) ∧ x = .ref T ∧ H q = some (.tup (k.map kV)) ∧ H T = none ∧ H' = upd H T (.tup [.ref q, v]), fun i H => H d = some (.frz o (.dT kvs)) ∧ kvs.length ≤ i⟩
section
variable {P : Program} {w : World} {K : PySem.W.Frag} {tg : Expr} {d : Addr} {o : Obj} {es : Array DictEntry} {ep : Nat}
theorem turn_itemsT {kvs : List (List Key × V)} {elts : List Expr} {kk : Nat} {tpos : Pos} (it : Addr) (hod : o.data = .dict es ep) :
    Turn P w K (.Tuple elts kk tpos) (Itit d o kvs) [it] it (fun i h => ∃ ok ov, IsItemIter h it d i kvs.length ep ok ov) where
  mem := by simp
  obj := fun i h st b hb => by
    have e : b = it := by simpa using hb
    subst e
    obtain ⟨ok, ov, e⟩ := st
    exact ⟨_, e, fun v z => nomatch z⟩
  keep := fun i h h' st k => let ⟨ok, ov, e⟩ := st; ⟨ok, ov, k it (by simp) _ e⟩
  item := by
    intro X hP hw hK hc i pins s σ H E I hf st hg
    subst hP hw hK
    obtain ⟨hd, hi⟩ := hg
    obtain ⟨hs, hgd, hx, es', ep', hdt, hsz, ent⟩ := I.frzTv hd
    obtain ⟨rfl, rfl⟩ := dict_ep hod hdt
    obtain ⟨⟨k, v⟩, hkv⟩ : ∃ p, kvs[i]? = some p := ⟨kvs[i], List.getElem?_eq_getElem hi⟩
    obtain ⟨en, q, hen, hkey, hq, rv⟩ := ent i k v hkv
    obtain ⟨ok, ov, he⟩ := st
    rw [← hsz] at he
    have hlt : it < s.heap.objs.size := Heap.lt_size he
    have hie : i < es'.size := by rw [hsz]; exact hi
    have hen' : es'[i] = en := by rw [Array.getElem?_eq_getElem hie] at hen; exact Option.some.inj hen
    refine DT.nextI he ⟨o, hgd, hx, hdt⟩ hie fun h' ho hT hz hk => ?_
    rw [hen', hkey] at hT ho
    refine ⟨_, rfl, wpAny_letOwnedTupleGo_items (s := { s with heap := h' }) ho fun h'' he' sb => ?_⟩
    have hT2 : h''.get? s.heap.objs.size = some { cls := .type "tuple", data := .seq #[.ref q, en.val] } := (sb.2 _ (Nat.ne_of_gt hlt)).trans hT
    have new : ObjOk X.prog X.w (upd H s.heap.objs.size (.tup [.ref q, v])) h'' s.heap.objs.size (.tup [.ref q, v]) :=
      ⟨by show 2 ≤ sizeLine; decide, [.ref q, en.val], .cons rfl (.cons rv .nil), ⟨_, hT2, rfl, _, rfl⟩⟩
    have I1 : Inv X pins σ (upd H s.heap.objs.size (.tup [.ref q, v])) { s with heap := h'' } :=
      I.turnedNew (t' := s.toks) (ch := [it]) (fun b ob hb e => (sb.2 b (by simpa using hb)).trans (hk b ob (by simpa using hb) e)) hf (Nat.le_refl _) new
    refine ⟨.ref s.heap.objs.size, _, I1, rfl, ⟨_, q, k, v, hkv, rfl, hq, I.hok.fresh (Nat.le_refl _), rfl⟩, ⟨.ref q, en.val, ?_⟩, fun b hb => ?_⟩
    · rw [← hsz]; exact he'
    · have e : b = it := by simpa using hb
      rw [e, upd_ne (Nat.ne_of_lt hlt)]
      exact (hf it (by simp)).1
  done := by
    intro X hP hw hK hc i pins s σ H E I hf st hg
    subst hP hw hK
    obtain ⟨hd, hi⟩ := hg
    obtain ⟨f0, f1, f2, f3, f4, f5⟩ := hf it (by simp)
    obtain ⟨hs, hgd, hx, es', ep', hdt, hsz, ent⟩ := I.frzTv hd
    obtain ⟨rfl, rfl⟩ := dict_ep hod hdt
    obtain ⟨ok, ov, he⟩ := st
    rw [← hsz] at he
    exact DT.endI (I.ok.hd hc) he ⟨o, hgd, hx, hdt⟩ (by omega) fun h' eb => ⟨rfl, I.turned (t' := s.toks) (fun b ob hb e => eb b ob hb e) f0 f1 f3 f4 f5⟩
  self := fun A i s Q E st h => let ⟨_, _, e⟩ := st; PySem.W.kcp_self e h
end
def iItemsT (td : TE) : TI := fun σ H R => td σ H fun x H1 => ∃ d o kvs, x = .ref d ∧ H1 d = some (.frz o (.dT kvs)) ∧ R (Itit d o kvs) H1
theorem pi_itemsT {X : Cx} {e : Expr} {td : TE} {apos cpos : Pos} {elts : List Expr} {kk : Nat} {tpos : Pos} (he : PE X e td) (hbase : attributeBase e "items" X.env (eval e X.env) = eval e X.env := by rfl) (hline : (apos.endLine == cpos.line) = true := by rfl) :
    PI X (.Tuple elts kk tpos) (.Call (.Attribute e "items" apos) [] [] cpos) (iItemsT td) := by
  refine ⟨fun pins s σ H R I h => ?_⟩
  refine wpAny_Call_method (T := "dict") (id := "dict.items") hbase rfl hline F.plainAttrs_dict F.slot_dict_items F.type_dict_items (thn (he.run pins s σ H _ I h) fun u s1 ⟨x, H1, I1, rx, d, o, kvs, ex, hd, q⟩ => ?_)
  subst ex
  obtain rfl : u = Value.ref d := rx
  obtain ⟨hs, hgd, hx, es, ep, hdt, hsz, ent⟩ := I1.frzTv hd
  have hm : DT.Raw s1.heap d es ep := ⟨o, hgd, hx, hdt⟩
  refine ⟨hm.typeIs, fun a ea => by cases ea; exact ⟨o, hgd, hx.2.1⟩, ?_⟩
  have I2 : Inv X pins σ H1 { s1 with heap := s1.heap.push { cls := .type "dict_items", data := .fields #[.ref d] } } := I1.kept (t' := s1.toks) fun b ob q => Heap.get?_push_of_some _ q
  have fin : wpAny (model X.prog X.w) X.A (pyIter (.ref s1.heap.objs.size)) (PIE X pins σ (.Tuple elts kk tpos) R) X.xe { s1 with heap := s1.heap.push { cls := .type "dict_items", data := .fields #[.ref d] } } := by
    refine DT.iterI (d := d) (es := es) (ep := ep) ⟨_, Heap.get?_push_size _ rfl, rfl, rfl⟩ (hm.push _) (pi_one (tk := s1.toks) I2 _ (turn_itemsT _ hdt) ⟨.none, .none, ?_⟩ q)
    rw [hsz]
    exact Heap.get?_push_size _ rfl
  show wpAny _ _ (callWith cpos (.builtin "dict.items") [.ref d] [] []) _ X.xe s1
  exact method_meetsIn F.slot_dict_items F.entry_dict_items rfl (PySem.evalArgs_none ⟨rfl, hm.typeIs, F.args_dict_items_1 _, _, DT.meetsItems (es := es) (ep := ep) hs, ⟨hm, fin⟩⟩)
end L2
namespace Tw
open PySem PySem.Spec PyProof.Rows L2

variable {G : Gx} {I I' I1 I2 H H' H1 H2 : Hp} {φ φ' φ1 φ2 : List Addr} {S S' S1 : Sto} {K : PySem.W.Frag} {X : Cx} {cf : CallF} {T : Tab} {Ex : L2.St → XK} {n L : Nat} {sc : Scope}

def rem (I : Hp) (d : Addr) : Hp := fun a => if a = d then none else I a
theorem rem_ne {a d : Addr} (h : a ≠ d) : rem I d a = I a := by unfold rem; rw [if_neg h]
theorem rem_same {d : Addr} : rem I d d = none := by unfold rem; rw [if_pos rfl]
def LkD (I : Hp) (d : Addr) : Prop := ∃ od u, I d = some (.frz od u) ∧ ∀ xs, u ≠ .lst xs
theorem LkD.ne {d a : Addr} {o : HO} (h : LkD I d) (e : I a = some o) (ho : ∀ od u, o ≠ .frz od u) : a ≠ d := fun z => by
  obtain ⟨od, u, h1, _⟩ := h
  rw [z, h1] at e
  cases e
  exact ho _ _ rfl
mutual
theorem Rel.rem {d : Addr} (h : LkD I d) : ∀ {w : W} {v : V}, Rel G I φ w v → Rel G (rem I d) φ w v
  | .non, _, r => r
  | .bl _, _, r => r
  | .int _, _, r => r
  | .str _, _, r => r
  | .tup ws, _, ⟨a, vs, e, q, r⟩ => ⟨a, vs, e, by rw [rem_ne (h.ne q fun _ _ z => nomatch z)]; exact q, Rels.rem h r⟩
  | .lst ws, _, ⟨a, vs, e, q, r⟩ => ⟨a, vs, e, by rw [rem_ne (h.ne q fun _ _ z => nomatch z)]; exact q, Rels.rem h r⟩
  | .dic false ks vs, _, ⟨a, kvs, e, q, k, r⟩ => ⟨a, kvs, e, by rw [rem_ne (h.ne q fun _ _ z => nomatch z)]; exact q, k, Rels.rem h r⟩
  | .dic true ks vs, _, ⟨a, kvs, e, q, k, r⟩ => ⟨a, kvs, e, by rw [rem_ne (h.ne q fun _ _ z => nomatch z)]; exact q, k, Rels.rem h r⟩
  | .rcd c ws, _, ⟨a, dx, fs, e, q, k, r⟩ => ⟨a, dx, fs, e, by rw [rem_ne (h.ne q fun _ _ z => nomatch z)]; exact q, k, Rels.rem h r⟩
  | .ref n, _, r => r
  | .exn _, _, ⟨a, e, q, hk⟩ => ⟨a, e, by rw [rem_ne (h.ne q fun _ _ z => nomatch z)]; exact q, hk⟩
  | .klst ns, _, ⟨a, e, q⟩ => ⟨a, e, by
    rcases q with (q | ⟨od, q⟩) | q
    · exact .inl (.inl (by rw [rem_ne (h.ne q fun _ _ z => nomatch z)]; exact q))
    · refine .inl (.inr ⟨od, ?_⟩)
      rw [rem_ne]
      · exact q
      · intro z
        obtain ⟨od', u, h1, h2⟩ := h
        rw [z, h1] at q
        cases q
        exact h2 _ rfl
    · exact .inr q⟩
theorem Rels.rem {d : Addr} (h : LkD I d) : ∀ {ws : List W} {vs : List V}, Rels G I φ ws vs → Rels G (rem I d) φ ws vs
  | [], _, r => r
  | w :: ws, _, ⟨x, xs, e, q, r⟩ => ⟨x, xs, e, Rel.rem h q, Rels.rem h r⟩
end
theorem at_inj {m n : Nat} {a b : Addr} (nd : φ.Nodup) (hm : φ[m]? = some a) (hn : φ[n]? = some b) (e : a = b) : m = n := by
  subst e
  have h1 := (List.getElem?_eq_some_iff.mp hm).1
  exact (List.getElem?_inj h1 nd).mp (by rw [hm, hn])
theorem Sim.lock {d : Addr} {m : Nat} {o : Ob} {od : Obj} {u : HO} (s : Sim G I φ S H) (hm : φ[m]? = some d) (hS : S[m]? = some o) (hd : o ≠ .dead) :
    Sim G (upd I d (.frz od u)) φ (S.set m .dead) (upd H d (.frz od u)) ∧ Ext I φ H (upd I d (.frz od u)) φ (upd H d (.frz od u)) ∧ I d = none := by
  have hI := s.out m d o hm hS hd
  have sI : Same I (upd I d (.frz od u)) := same_upd hI
  have neS : ∀ k a o', φ[k]? = some a → (S.set m Ob.dead)[k]? = some o' → o' ≠ Ob.dead → a ≠ d ∧ S[k]? = some o' := fun k a o' h1 h2 h3 => by
    by_cases z : k = m
    · subst z
      rw [List.getElem?_set_self (List.getElem?_eq_some_iff.mp hS).1] at h2
      cases h2
      exact absurd rfl h3
    · rw [List.getElem?_set_ne (Ne.symm z)] at h2
      exact ⟨fun y => z (at_inj s.nd h1 hm y), h2⟩
  refine ⟨⟨fun a o' e => ?_, by simpa using s.len, s.nd, fun k a o' h1 h2 h3 => ?_, fun k a h1 => ?_, fun k a o' h1 h2 => ?_⟩, ⟨sI, ⟨[], by simp, by simp⟩, fun a o' ha e => ?_, fun a e => ?_, fun a e => ?_⟩, hI⟩
  · by_cases z : a = d
    · rw [z, upd_same] at e ⊢; exact e
    · rw [upd_ne z] at e ⊢; exact s.same a o' e
  · obtain ⟨q1, q2⟩ := neS k a o' h1 h2 h3
    rw [upd_ne q1]
    exact s.out k a o' h1 q2 h3
  · by_cases z : a = d
    · rw [z, upd_same]; rfl
    · rw [upd_ne z]; exact s.old k a h1
  · by_cases h3 : o' = Ob.dead
    · subst h3; trivial
    · obtain ⟨q1, q2⟩ := neS k a o' h1 h2 h3
      exact (s.cell k a o' h1 q2).mono sI (Pre.refl _) fun u q => by rw [upd_ne q1]; exact q
  · rw [upd_ne (fun z => ha (by rw [z]; exact List.mem_of_getElem? hm))]; exact e
  · by_cases z : a = d
    · rw [z, upd_same]; rfl
    · rw [upd_ne z]; exact e
  · by_cases z : a = d
    · exact .inr (.inr (.inl (by rw [z]; exact List.mem_of_getElem? hm)))
    · rw [upd_ne z] at e; exact .inl e
theorem Sim.unlock {d : Addr} {m : Nat} {o : Ob} {od : Obj} {u : HO} (s : Sim G I φ S H) (hm : φ[m]? = some d) (hI : I d = none) (hu : ∀ xs, u ≠ .lst xs) (hc : CellOk G I φ H d o) (hH : H d = some u)
    {S2 : Sto} (e : Ext (upd I d (.frz od u)) φ (upd H d (.frz od u)) I' φ' H') (s2 : Sim G I' φ' S2 H') :
    Sim G (rem I' d) φ' (S2.set m o) (upd H' d u) ∧ Ext I φ H (rem I' d) φ' (upd H' d u) ∧ LkD I' d ∧ H' d = some (.frz od u) := by
  have hI' : I' d = some (.frz od u) := e.same _ _ upd_same
  have hH' : H' d = some (.frz od u) := s2.same _ _ hI'
  have lk : LkD I' d := ⟨od, u, hI', hu⟩
  have hm' : φ'[m]? = some d := e.pre'.get hm
  have sI : Same I (rem I' d) := fun a o' q => by
    have ne : a ≠ d := fun z => by rw [z, hI] at q; cases q
    rw [rem_ne ne]
    exact e.same a o' (by rw [upd_ne ne]; exact q)
  have hml : m < S2.length := by rw [← s2.len]; exact (List.getElem?_eq_some_iff.mp hm').1
  refine ⟨⟨fun a o' q => ?_, by simpa using s2.len, s2.nd, fun k a o' h1 h2 h3 => ?_, fun k a h1 => ?_, fun k a o' h1 h2 => ?_⟩, ⟨sI, ?_, fun a o' ha q => ?_, fun a q => ?_, fun a q => ?_⟩, lk, hH'⟩
  · by_cases z : a = d
    · rw [z, rem_same] at q; cases q
    · rw [rem_ne z] at q; rw [upd_ne z]; exact s2.same a o' q
  · by_cases z : k = m
    · subst z; rw [hm'] at h1; cases h1; exact rem_same
    · have ne : a ≠ d := fun y => z (at_inj s2.nd h1 hm' y)
      rw [List.getElem?_set_ne (Ne.symm z)] at h2
      rw [rem_ne ne]
      exact s2.out k a o' h1 h2 h3
  · by_cases z : a = d
    · rw [z, upd_same]; rfl
    · rw [upd_ne z]; exact s2.old k a h1
  · by_cases z : k = m
    · subst z
      rw [hm'] at h1; cases h1
      rw [List.getElem?_set_self hml] at h2
      cases h2
      refine hc.mono sI ?_ fun u' q => ?_
      · exact e.pre'
      · rw [hH] at q; cases q; exact upd_same
    · have ne : a ≠ d := fun y => z (at_inj s2.nd h1 hm' y)
      rw [List.getElem?_set_ne (Ne.symm z)] at h2
      have c := s2.cell k a o' h1 h2
      have hk : ∀ u', H' a = some u' → upd H' d u a = some u' := fun u' q => by rw [upd_ne ne]; exact q
      cases o' with
      | lst ws => obtain ⟨vs, q, r⟩ := c; exact ⟨vs, hk _ q, r.rem lk⟩
      | dic t ks vs =>
        cases t with
        | false => obtain ⟨kvs, q, k', r⟩ := c; exact ⟨kvs, hk _ q, k', r.rem lk⟩
        | true => obtain ⟨kvs, q, k', r⟩ := c; exact ⟨kvs, hk _ q, k', r.rem lk⟩
      | ins c' ws => obtain ⟨dx, fs, q, k', r⟩ := c; exact ⟨dx, fs, hk _ q, k', r.rem lk⟩
      | dead => trivial
  · obtain ⟨ψ, h1, h2⟩ := e.pre
    refine ⟨ψ, h1, fun a ha => ?_⟩
    have := h2 a ha
    by_cases z : a = d
    · rw [z, upd_same] at this; cases this
    · rw [upd_ne z] at this; exact this
  · have ne : a ≠ d := fun z => ha (z ▸ List.mem_of_getElem? hm)
    rw [upd_ne ne]
    exact e.frame a o' ha (by rw [upd_ne ne]; exact q)
  · by_cases z : a = d
    · rw [z, upd_same]; rfl
    · rw [upd_ne z]; exact e.keep a (by rw [upd_ne z]; exact q)
  · by_cases z : a = d
    · rw [z, rem_same] at q; cases q
    · rw [rem_ne z] at q
      rcases e.fresh a q with h | h | h | ⟨vs, h⟩
      · rw [upd_ne z] at h; exact .inl h
      · rw [upd_ne z] at h; exact .inr (.inl h)
      · exact .inr (.inr (.inl h))
      · rw [upd_ne z] at h; exact .inr (.inr (.inr ⟨vs, h⟩))
def simpA : E → Bool
  | .var _ => true
  | .fld _ _ (.var _) => true
  | _ => false
theorem simpA_ev {a : E} (ha : simpA a = true) (cf : CallF) (ρ : Env) (S : Sto) :
    (∀ c S1, ev cf a ρ S ≠ .ex c S1) ∧ ∀ w S1, ev cf a ρ S = .ok w S1 → S1 = S ∧ ∀ m t ks vs, S[m]? = some (.dic t ks vs) → ev cf a ρ (S.set m .dead) = .ok w (S.set m .dead) := by
  have hvar : ∀ j, (∀ c S1, ev cf (.var j) ρ S ≠ .ex c S1) ∧ ∀ w S1, ev cf (.var j) ρ S = .ok w S1 → S1 = S ∧ ρ[j]? = some (some w) := fun j => by
    simp only [ev]
    constructor
    · intro c S1; split <;> simp
    · intro w S1 h
      split at h
      · cases h; exact ⟨rfl, by assumption⟩
      · cases h
  cases a <;> first | (simp [simpA] at ha; done) | skip
  · rename_i j
    refine ⟨(hvar j).1, fun w S1 h => ?_⟩
    obtain ⟨rfl, h2⟩ := (hvar j).2 w S1 h
    refine ⟨rfl, fun m t ks vs _ => ?_⟩
    simp only [ev, h2]
  · rename_i c i b
    cases b <;> first | (simp [simpA] at ha; done) | skip
    rename_i j
    simp only [ev]
    cases hj : ρ[j]? with
    | none => simp [Rs.bind]
    | some x =>
      cases x with
      | none => simp [Rs.bind]
      | some w0 =>
        simp only [Rs.bind]
        constructor
        · intro c' S1
          unfold ofO
          split <;> simp
        · intro w S1 h
          unfold ofO at h
          split at h
          · rename_i x hx
            cases h
            refine ⟨rfl, fun m t ks vs hm => ?_⟩
            have : fldSem (S.set m .dead) c i w0 = fldSem S c i w0 := by
              unfold fldSem
              have hr : recOf (S.set m .dead) w0 = recOf S w0 := by
                unfold recOf
                split
                · rfl
                · rename_i k
                  by_cases z : k = m
                  · subst z
                    rw [hm, List.getElem?_set_self (List.getElem?_eq_some_iff.mp hm).1]
                  · rw [List.getElem?_set_ne (Ne.symm z)]
                · rfl
              rw [hr]
            rw [this, hx]
            rfl
          · cases h
theorem PostS.back {r : SR} {d : Addr} {m : Nat} {o : Ob} {od : Obj} {u : HO} {D : Ends} (s : Sim G I φ S H) (hm : φ[m]? = some d) (hI : I d = none) (hu : ∀ xs, u ≠ .lst xs) (hc : CellOk G I φ H d o) (hH : H d = some u)
    (h : PostS G Ex I φ H (r.back m o) D) : PostS G Ex (upd I d (.frz od u)) φ (upd H d (.frz od u)) r ⟨fun σ' H' => H' d = some (.frz od u) ∧ D.nx σ' (upd H' d u), fun v H' => H' d = some (.frz od u) ∧ D.rt v (upd H' d u), fun σ' H' => H' d = some (.frz od u) ∧ D.bk σ' (upd H' d u), fun σ' H' => H' d = some (.frz od u) ∧ D.ct σ' (upd H' d u)⟩ := by
  have en' : ∀ {ρ : Env} {σ : L2.St} {I' : Hp} {φ' : List Addr}, LkD I' d → Envs G I' φ' ρ σ → Envs G (rem I' d) φ' ρ σ := fun lk en => ⟨en.len, fun i w q => let ⟨v, h1, h2⟩ := en.at_ i w q; ⟨v, h1, h2.rem lk⟩⟩
  cases r with
  | next ρ S2 =>
    intro σ I' φ' H' e s2 en
    obtain ⟨s3, e3, lk, q⟩ := s.unlock hm hI hu hc hH e s2
    exact ⟨q, h σ _ _ _ e3 s3 (en' lk en)⟩
  | ret w S2 =>
    intro v I' φ' H' e s2 r2
    obtain ⟨s3, e3, lk, q⟩ := s.unlock hm hI hu hc hH e s2
    exact ⟨q, h v _ _ _ e3 s3 (r2.rem lk)⟩
  | brk ρ S2 =>
    intro σ I' φ' H' e s2 en
    obtain ⟨s3, e3, lk, q⟩ := s.unlock hm hI hu hc hH e s2
    exact ⟨q, h σ _ _ _ e3 s3 (en' lk en)⟩
  | cont ρ S2 =>
    intro σ I' φ' H' e s2 en
    obtain ⟨s3, e3, lk, q⟩ := s.unlock hm hI hu hc hH e s2
    exact ⟨q, h σ _ _ _ e3 s3 (en' lk en)⟩
  | ex ρ c S2 => exact h.elim
  | bad => exact h
theorem zip2_get : ∀ {ks vs : List W} {i : Nat} {k v : W}, ks[i]? = some k → vs[i]? = some v → (zip2 ks vs)[i]? = some (.tup [k, v])
  | [], _, _, _, _, h, _ => by simp at h
  | _ :: _, [], _, _, _, _, h => by simp at h
  | k :: ks, v :: vs, 0, _, _, h1, h2 => by
    simp at h1 h2
    subst h1 h2
    rfl
  | k :: ks, v :: vs, i + 1, _, _, h1, h2 => by
    simp at h1 h2
    simp only [zip2, List.getElem?_cons_succ]
    exact zip2_get h1 h2
theorem zip2_len : ∀ {ks vs : List W}, ks.length = vs.length → (zip2 ks vs).length = vs.length
  | [], [], _ => rfl
  | [], _ :: _, h => by simp at h
  | _ :: _, [], h => by simp at h
  | _ :: ks, _ :: vs, h => by simp [zip2, zip2_len (ks := ks) (vs := vs) (by simpa using h)]
theorem forD_turns {t : Tg} {body : List Stm} {D : Ends} {xs : List W} {J : It} {σ0 : L2.St} {ρ0 : Env} {S0 : Sto} {I0 H0 : Hp} {φ0 : List Addr} {N : Nat} (hN : xs.length = N)
    (hgo : ∀ i I3 φ3 H', Ext I0 φ0 H0 I3 φ3 H' → ∀ S3, Sim G I3 φ3 S3 H' → (i < N → J.go i H') ∧ (N ≤ i → J.stop i H') ∧ ∀ x H4 w, xs[i]? = some w → J.yld i H' x H4 → ∃ I4, Ext I3 φ3 H' I4 φ3 H4 ∧ Sim G I4 φ3 S3 H4 ∧ Rel G I4 φ3 w x)
    (s0 : Sim G I0 φ0 S0 H0) (en0 : Envs G I0 φ0 ρ0 σ0) (h : PostS G Ex I0 φ0 H0 (forL t (fun ρ' S' => execs cf L body ρ' S') xs ρ0 S0) D) :
    ∃ W : Nat → Nat → L2.St → Hp → Prop, (∃ m, W 0 m σ0 H0) ∧ ∀ i m σ H, W i m σ H →
      (J.stop i H ∧ D.nx σ H) ∨ (J.go i H ∧ ∃ N : L2.St → Hp → Prop, (∀ σ' H', N σ' H' → ∃ m', m' < m ∧ W (i + 1) m' σ' H') ∧ ∀ x H', J.yld i H x H' → tTgt G t x σ H' fun σ2 H2 => tSs G cf L Ex body { D with nx := N, ct := N, bk := D.nx } σ2 H2) := by
  let R : Nat → L2.St → Hp → Prop := fun i σ' H' => ∃ I2 φ2 ρ2 S2, Ext I0 φ0 H0 I2 φ2 H' ∧ Sim G I2 φ2 S2 H' ∧ Envs G I2 φ2 ρ2 σ' ∧ PostS G Ex I2 φ2 H' (forL t (fun ρ' S' => execs cf L body ρ' S') (xs.drop i) ρ2 S2) D
  refine ⟨fun i m σ' H' => m = N - i ∧ i ≤ N ∧ R i σ' H', ⟨N, by simp, Nat.zero_le _, I0, φ0, ρ0, S0, Ext.refl _ _ _, s0, en0, h⟩, ?_⟩
  rintro i m σ' H' ⟨rfl, hiN, I2, φ2, ρ2, S2, e2, s2, en2, h2⟩
  obtain ⟨g1, g2, g3⟩ := hgo i I2 φ2 H' e2 S2 s2
  by_cases hlt : i < N
  · right
    have hlt' : i < xs.length := by omega
    refine ⟨g1 hlt, R (i + 1), fun σ3 H3 q => ⟨N - (i + 1), by omega, rfl, hlt, q⟩, ?_⟩
    intro x H3 hy
    obtain ⟨I3, e3, s3, r3⟩ := g3 x H3 _ (List.getElem?_eq_getElem hlt') hy
    rw [List.drop_eq_getElem_cons hlt'] at h2
    simp only [forL] at h2
    have h3 := PostS.ext e3 h2
    split at h3
    · exact h3.elim
    · rename_i ρ' hb
      refine ⟨I3, φ2, ρ2, S2, _, ρ', s3, en2.ext e3, r3, hb, fun σ4 en4 _ => ?_⟩
      refine ⟨I3, φ2, ρ', S2, s3, en4, ?_⟩
      split at h3
      · rename_i ρ5 S5 hbd
        rw [hbd]
        exact fun σ5 I5 φ5 H5 e5 s5 en5 => ⟨I5, φ5, ρ5, S5, e2.trans (e3.trans e5), s5, en5, PostS.ext e5 h3⟩
      · rename_i ρ5 S5 hbd
        rw [hbd]
        exact fun σ5 I5 φ5 H5 e5 s5 en5 => ⟨I5, φ5, ρ5, S5, e2.trans (e3.trans e5), s5, en5, PostS.ext e5 h3⟩
      · rename_i ρ5 S5 hbd
        rw [hbd]
        exact h3
      · rename_i r hr1 hr2 hr3
        cases hbd : execs cf L body ρ' S2 with
        | next ρ5 S5 => exact absurd hbd (hr1 ρ5 S5)
        | cont ρ5 S5 => exact absurd hbd (hr2 ρ5 S5)
        | brk ρ5 S5 => exact absurd hbd (hr3 ρ5 S5)
        | ret w S5 => rw [hbd] at h3; exact h3
        | ex ρ5 c S5 => rw [hbd] at h3; exact h3
        | bad => rw [hbd] at h3; exact h3
  · left
    have hi' : i = xs.length := by omega
    subst hi'
    rw [List.drop_length] at h2
    exact ⟨g2 (by omega), h2 σ' I2 φ2 H' (Ext.refl _ _ _) s2 en2⟩
theorem forDT {t : Tg} {a : E} {body : List Stm} (ha : simpA a = true) : ∀ D σ H, tS G cf L Ex (.forD t true a body) D σ H → tLock (tFor (iItemsT (tE G cf Ex a)) (tTgt G t) (tSs G cf L Ex body)) D σ H := by
  rintro D σ H ⟨I, φ, ρ, S, s, en, h⟩
  simp only [exec] at h
  obtain ⟨a1, a2⟩ := simpA_ev ha cf ρ S
  cases hev : ev cf a ρ S with
  | bad => rw [hev] at h; exact h.elim
  | ex c S1 => exact absurd hev (a1 c S1)
  | ok w S1 =>
    rw [hev] at h
    obtain ⟨rfl, a3⟩ := a2 w S1 hev
    simp only [Rs.sr] at h
    split at h
    · rename_i m
      split at h
      · rename_i b ks vs hS
        split at h
        · rename_i hb
          subst hb
          simp only [if_true] at h
          have hφ : ∃ d, φ[m]? = some d := by
            have : m < φ.length := by rw [s.len]; exact (List.getElem?_eq_some_iff.mp hS).1
            exact ⟨_, List.getElem?_eq_getElem this⟩
          obtain ⟨d, hd⟩ := hφ
          have hcell := s.cell m d _ hd hS
          obtain ⟨kvs, hH, rfl, rr⟩ := id hcell
          refine ⟨d, .dT kvs, hH, True.intro, fun od => ?_⟩
          obtain ⟨s1, e1, hI⟩ := s.lock (od := od) (u := .dT kvs) hd hS (by simp)
          have hp := h.back (od := od) s hd hI (by simp) hcell hH
          refine ⟨_, φ, ρ, _, s1, en.ext e1, ?_⟩
          rw [a3 m _ _ _ hS]
          intro v I2 φ2 H2 e2 s2 r2
          obtain ⟨d', rfl, hd'⟩ := r2
          have : d' = d := by rw [e2.pre'.get hd] at hd'; exact (Option.some.inj hd').symm
          subst this
          have at_ : ∀ {I3 φ3 H3 S3}, Ext I2 φ2 H2 I3 φ3 H3 → Sim G I3 φ3 S3 H3 → H3 d' = some (.frz od (.dT kvs)) := fun e3 s3 => s3.same _ _ (e3.same _ _ (e2.same _ _ upd_same))
          refine ⟨d', od, kvs, rfl, at_ (Ext.refl _ _ _) s2, ?_⟩
          have rr2 : Rels G I2 φ2 vs (kvs.map (·.2)) := rr.ext (e1.trans e2)
          have hl : (kvs.map fun p => W.tup (p.1.map kW)).length = vs.length := by have := rr.length; simp at this ⊢; omega
          refine forD_turns (N := kvs.length) (by rw [zip2_len hl, ← hl]; simp) (fun i I3 φ3 H3 e3 S3 s3 => ⟨fun z => ⟨at_ e3 s3, z⟩, fun z => ⟨at_ e3 s3, z⟩, fun x H4 w hw hy => ?_⟩) s2 ((en.ext e1).ext e2) (PostS.ext e2 hp)
          obtain ⟨Tt, q, k, v, hkv, rfl, hq, hT, rfl⟩ := hy
          obtain ⟨wv, hwv, rwv⟩ := (rr2.ext e3).get' (i := i) (v := v) (by simp [hkv])
          have hw2 := zip2_get (i := i) (k := .tup (k.map kW)) (ks := kvs.map fun p => W.tup (p.1.map kW)) (by simp [hkv]) hwv
          rw [hw2] at hw
          cases hw
          obtain ⟨s4, e4⟩ := s3.tupI hq
          obtain ⟨s5, e5⟩ := s4.newI (o := .tup [.ref q, v]) hT
          have e45 := e4.trans e5
          refine ⟨_, e45, s5, Tt, [.ref q, v], rfl, upd_same, .cons ⟨q, k.map kV, rfl, ?_, rels_key k⟩ (.cons (rwv.ext e45) .nil)⟩
          rw [upd_ne (fun z => by rw [← z, hq] at hT; cases hT)]
          exact upd_same
        · exact h.elim
      · exact h.elim
    · exact h.elim
theorem forDK {t : Tg} {a : E} {body : List Stm} (ha : simpA a = true) : ∀ D σ H, tS G cf L Ex (.forD t false a body) D σ H → tLock (tFor (iVals (tE G cf Ex a)) (tTgt G t) (tSs G cf L Ex body)) D σ H := by
  rintro D σ H ⟨I, φ, ρ, S, s, en, h⟩
  simp only [exec] at h
  obtain ⟨a1, a2⟩ := simpA_ev ha cf ρ S
  cases hev : ev cf a ρ S with
  | bad => rw [hev] at h; exact h.elim
  | ex c S1 => exact absurd hev (a1 c S1)
  | ok w S1 =>
    rw [hev] at h
    obtain ⟨rfl, a3⟩ := a2 w S1 hev
    simp only [Rs.sr] at h
    split at h
    · rename_i m
      split at h
      · rename_i b ks vs hS
        split at h
        · rename_i hb
          subst hb
          simp only [Bool.false_eq_true, if_false] at h
          have hφ : ∃ d, φ[m]? = some d := by
            have : m < φ.length := by rw [s.len]; exact (List.getElem?_eq_some_iff.mp hS).1
            exact ⟨_, List.getElem?_eq_getElem this⟩
          obtain ⟨d, hd⟩ := hφ
          have hcell := s.cell m d _ hd hS
          obtain ⟨kvs, hH, rfl, rr⟩ := id hcell
          refine ⟨d, .dK kvs, hH, True.intro, fun od => ?_⟩
          obtain ⟨s1, e1, hI⟩ := s.lock (od := od) (u := .dK kvs) hd hS (by simp)
          have hp := h.back (od := od) s hd hI (by simp) hcell hH
          refine ⟨_, φ, ρ, _, s1, en.ext e1, ?_⟩
          rw [a3 m _ _ _ hS]
          intro v I2 φ2 H2 e2 s2 r2
          obtain ⟨d', rfl, hd'⟩ := r2
          have : d' = d := by rw [e2.pre'.get hd] at hd'; exact (Option.some.inj hd').symm
          subst this
          have at_ : ∀ {I3 φ3 H3 S3}, Ext I2 φ2 H2 I3 φ3 H3 → Sim G I3 φ3 S3 H3 → H3 d' = some (.frz od (.dK kvs)) := fun e3 s3 => s3.same _ _ (e3.same _ _ (e2.same _ _ upd_same))
          refine ⟨d', od, kvs, rfl, at_ (Ext.refl _ _ _) s2, ?_⟩
          have rr2 : Rels G I2 φ2 vs (kvs.map (·.2)) := rr.ext (e1.trans e2)
          have hl : vs.length = kvs.length := by have := rr.length; simp at this; omega
          refine forD_turns (N := kvs.length) hl (fun i I3 φ3 H3 e3 S3 s3 => ⟨fun z => ⟨at_ e3 s3, z⟩, fun z => ⟨at_ e3 s3, z⟩, fun x H4 w hw hy => ?_⟩) s2 ((en.ext e1).ext e2) (PostS.ext e2 hp)
          obtain ⟨rfl, k, hkv⟩ := hy
          obtain ⟨wv, hwv, rwv⟩ := (rr2.ext e3).get' (i := i) (v := x) (by simp [hkv])
          rw [hwv] at hw
          cases hw
          exact ⟨_, Ext.refl _ _ _, s3, rwv⟩
        · exact h.elim
      · exact h.elim
    · exact h.elim
def valSyn : Expr → Option Expr
  | .Call (.Attribute o m apos) [] [] cpos => if baseE o && (apos.endLine == cpos.line) && m == ("values" : PySem.Str) then some o else none
  | _ => none
def itmSyn : Expr → Expr → Option Expr
  | .Tuple _ _ _, .Call (.Attribute o m apos) [] [] cpos => if baseE o && (apos.endLine == cpos.line) && m == ("items" : PySem.Str) then some o else none
  | _, _ => none
def forDSyn (both : Bool) (tg iter : Expr) : Option Expr := match both with
  | true => itmSyn tg iter
  | false => valSyn iter
theorem forDOk {t : Tg} {both : Bool} {a : E} {ms : List Stm} {tg iter o : Expr} {body : List Stmt} {pos : Pos} (h : forDSyn both tg iter = some o) (ha : simpA a = true) (hcm : T.cm = true) (x : XSk T G cf Ex n sc X) (ht : tgOk T.N sc t tg = true) (p1 : PE X o (tE G cf Ex a)) (p3 : PSs X body (tSs G cf L Ex ms)) :
    PS X (.For tg iter body [] pos) (tS G cf L Ex (.forD t both a ms)) := by
  cases both with
  | true =>
    simp only [forDSyn] at h
    unfold itmSyn at h
    split at h
    · split at h
      · rename_i hc
        cases h
        simp only [Bool.and_eq_true, beq_iff_eq] at hc
        obtain ⟨⟨hb, hl⟩, rfl⟩ := hc
        exact PS_imp (ps_lock (ps_for (x.own hcm) (x.calm hcm) (pi_itemsT p1 (base_ok hb) (by simpa using hl)) (tgOk_ok (fun _ => x.calm hcm) x.hN x.nd x.wr ht) p3)) (forDT ha)
      · cases h
    · cases h
  | false =>
    simp only [forDSyn] at h
    unfold valSyn at h
    split at h
    · split at h
      · rename_i hc
        cases h
        simp only [Bool.and_eq_true, beq_iff_eq] at hc
        obtain ⟨⟨hb, hl⟩, rfl⟩ := hc
        exact PS_imp (ps_lock (ps_for (x.own hcm) (x.calm hcm) (pi_values p1 (base_ok hb) (by simpa using hl)) (tgOk_ok (fun _ => x.calm hcm) x.hN x.nd x.wr ht) p3)) (forDK ha)
      · cases h
    · cases h
end Tw

namespace Tw
open PySem PySem.Spec PyProof.Rows L2

variable {G : Gx} {I I' I1 I2 H H' H1 H2 : Hp} {φ φ' φ1 φ2 : List Addr} {S S' S1 : Sto} {K : PySem.W.Frag} {X : Cx} {cf : CallF} {T : Tab} {Ex : L2.St → XK} {n L : Nat} {sc : Scope}

def parSyn (N : List PySem.Str) (sc : Scope) (i j : Nat) (tg v : Expr) : Option (List Expr) :=
  match tg, v with
  | .Tuple [.Name x px, .Name y py] _ _, .Tuple [a, b] _ _ => if decide (N[i]? = some x) && decide (N[j]? = some y) && decide (i ≠ j) && decide (sc.names.lookup x = some .local) && decide (sc.names.lookup y = some .local) && decide (py.line = px.line) && !(x == y) && plainE a && plainE b && !(foldedForSure 8 a && foldedForSure 8 b) && !(constantsAlone 8 a && constantsAlone 8 b) then some [a, b] else none
  | _, _ => none
def parSyn3 (N : List PySem.Str) (sc : Scope) (i j l : Nat) (tg v : Expr) : Option (List Expr) :=
  match tg, v with
  | .Tuple [.Name x px, .Name y py, .Name z pz] _ _, .Tuple [a, b, c] _ _ => if decide (N[i]? = some x) && decide (N[j]? = some y) && decide (N[l]? = some z) && decide (i ≠ j) && decide (i ≠ l) && decide (j ≠ l) && decide (sc.names.lookup x = some .local) && decide (sc.names.lookup y = some .local) && decide (sc.names.lookup z = some .local) &&
      decide (py.line = px.line) && decide (pz.line = px.line) && !(x == y) && !(x == z) && !(y == z) && plainE a && plainE b && plainE c && !(foldedForSure 8 a && foldedForSure 8 b && foldedForSure 8 c) && !(constantsAlone 8 a && constantsAlone 8 b && constantsAlone 8 c) then some [a, b, c] else none
  | _, _ => none
theorem blk_fn (x : XSk T G cf Ex n sc X) : X.env.blockKind = .function := by unfold PySem.Env.blockKind; rw [x.hsc, x.knd]; rfl
theorem star_any {vs : List Expr} (h : vs.all plainE = true) : (vs.any fun | .Starred .. => true | _ => false) = false := by
  rw [List.any_eq_false]
  intro v hv
  have := List.all_eq_true.mp h v hv
  cases v <;> first | (simp [plainE] at this; done) | simp
theorem noStar {v : Expr} (z : (match v with | .Starred _ _ => true | _ => false) = true) (h : plainE v = true) : False := by
  cases v <;> first | (simp [plainE] at h; done) | (simp at z; done)
theorem parOk {i j : Nat} {tg v : Expr} {es : List Expr} {ms : List E} {pos : Pos} (h : parSyn T.N sc i j tg v = some es) (x : XSk T G cf Ex n sc X) (hcm : T.cm = true) (p : PEs G cf Ex X ms es) :
    PS X (.Assign [tg] v pos) (tS G cf L Ex (.asg (.tup [i, j]) (.op .tupD ms))) := by
  unfold parSyn at h
  split at h
  · rename_i xn px yn py kt pt a b k2 pt2
    split at h
    · rename_i hc
      cases h
      simp only [Bool.and_eq_true, decide_eq_true_eq, Bool.not_eq_true', bne_iff_ne] at hc
      obtain ⟨⟨⟨⟨⟨⟨⟨⟨⟨⟨h1, h2⟩, h3⟩, h4⟩, h5⟩, h6⟩, h7⟩, h8⟩, h9⟩, h10⟩, h11⟩ := hc
      have hx : X.env.scope.names.lookup xn = some .local := by rw [x.hsc]; exact h4
      have hy : X.env.scope.names.lookup yn = some .local := by rw [x.hsc]; exact h5
      have kx : X.env.kindOf xn = some .local := hx
      have ky : X.env.kindOf yn = some .local := hy
      have hst : (([a, b] : List Expr).any fun | .Starred .. => true | _ => false) = false := star_any (by simp [h8, h9])
      refine PS_imp (ps_par (i := i) (j := j) (x.calm hcm) x.nd (by rw [x.hN]; exact h1) (by rw [x.hN]; exact h2) h3 hx hy p.pa ?_) ?_
      · have hxy : (xn == yn) = false := h7
        have hyx : (yn == xn) = false := by rw [Bool.eq_false_iff] at hxy ⊢; intro z; exact hxy (by rw [beq_iff_eq] at z ⊢; exact z.symm)
        have hf : (([a, b] : List Expr).all (foldedForSure 8)) = false := by
          simp only [List.all_cons, List.all_nil, Bool.and_true]
          exact h10
        have hd : ([xn, yn] : List PySem.Str).eraseDups.length = 2 := by
          simp [List.eraseDups, List.eraseDupsBy, List.eraseDupsBy.loop, hyx]
        have hc11 : ¬ (constantsAlone 8 a = true ∧ constantsAlone 8 b = true) := by
          rintro ⟨z1, z2⟩
          rw [z1, z2] at h11
          cases h11
        unfold swappedStores
        simp only [blk_fn x, kx, ky, h6, hf, Expr.pos]
        simp [hd, hc11, kx, ky, h6]
        intro hh
        exfalso
        rcases hh with hh | hh
        · exact noStar hh h8
        · exact noStar hh h9
      · rintro D σ H ⟨I, φ, ρ, S, s, en, h⟩
        simp only [exec, ev] at h
        refine ⟨I, φ, ρ, S, s, en, (h.sr en).bind.imp fun ws S1 _ h1 => ?_⟩
        intro vs I1 φ1 H1 e1 s1 r1
        have h2 := Post.ofO (Ex := Ex σ) (I := I) (φ := φ) (H := H) h1
        obtain ⟨w, hw, h3⟩ := h2
        have : opSem .tupD ws S1 = if ws.length < LIM then some (.tup ws) else none := by simp [opSem]
        rw [this] at hw
        split at hw
        · cases hw
          simp only [bindT] at h3
          match ws, h3 with
          | [w1, w2], h3 =>
            obtain ⟨v1, v2, rfl, r1, r2⟩ := rels_two r1
            refine ⟨v1, v2, rfl, ?_⟩
            simp only [Tw.setAll] at h3
            exact h3 _ I1 φ1 H1 e1 s1 (((en.ext e1).set r1).set r2)
          | [], h3 => exact h3.elim
          | [_], h3 => exact h3.elim
          | _ :: _ :: _ :: _, h3 => exact h3.elim
        · cases hw
    · cases h
  · cases h
theorem parOk3 {i j l : Nat} {tg v : Expr} {es : List Expr} {ms : List E} {pos : Pos} (h : parSyn3 T.N sc i j l tg v = some es) (x : XSk T G cf Ex n sc X) (hcm : T.cm = true) (p : PEs G cf Ex X ms es) :
    PS X (.Assign [tg] v pos) (tS G cf L Ex (.asg (.tup [i, j, l]) (.op .tupD ms))) := by
  unfold parSyn3 at h
  split at h
  · rename_i xn px yn py zn pz kt pt a b c k2 pt2
    split at h
    · rename_i hc
      cases h
      simp only [Bool.and_eq_true, decide_eq_true_eq, Bool.not_eq_true', bne_iff_ne] at hc
      obtain ⟨⟨⟨⟨⟨⟨⟨⟨⟨⟨⟨⟨⟨⟨⟨⟨⟨⟨h1, h2⟩, h3⟩, n1⟩, n2⟩, n3⟩, l1⟩, l2⟩, l3⟩, h6⟩, h7⟩, d1⟩, d2⟩, d3⟩, p1⟩, p2⟩, p3⟩, h10⟩, h11⟩ := hc
      have hx : X.env.scope.names.lookup xn = some .local := by rw [x.hsc]; exact l1
      have hy : X.env.scope.names.lookup yn = some .local := by rw [x.hsc]; exact l2
      have hz : X.env.scope.names.lookup zn = some .local := by rw [x.hsc]; exact l3
      have kx : X.env.kindOf xn = some .local := hx
      have ky : X.env.kindOf yn = some .local := hy
      have kz : X.env.kindOf zn = some .local := hz
      refine PS_imp (ps_par3 (i := i) (j := j) (l := l) (x.calm hcm) x.nd (by rw [x.hN]; exact h1) (by rw [x.hN]; exact h2) (by rw [x.hN]; exact h3) n1 n2 n3 hx hy hz p.pa ?_) ?_
      · have hf : (([a, b, c] : List Expr).all (foldedForSure 8)) = false := by
          simp only [List.all_cons, List.all_nil, Bool.and_true]
          rw [← Bool.and_assoc]
          exact h10
        have flip : ∀ {p q : PySem.Str}, (p == q) = false → (q == p) = false := fun {p q} h => by rw [Bool.eq_false_iff] at h ⊢; intro z; exact h (by rw [beq_iff_eq] at z ⊢; exact z.symm)
        have hd : ([xn, yn, zn] : List PySem.Str).eraseDups.length = 3 := by
          simp [List.eraseDups, List.eraseDupsBy, List.eraseDupsBy.loop, flip d1, flip d2, flip d3]
        have hc11 : ¬ (constantsAlone 8 a = true ∧ constantsAlone 8 b = true ∧ constantsAlone 8 c = true) := by
          rintro ⟨z1, z2, z3⟩
          rw [z1, z2, z3] at h11
          cases h11
        unfold swappedStores
        simp only [blk_fn x, kx, ky, kz, h6, h7, hf, Expr.pos]
        simp [hd, hc11, kx, ky, kz, h6, h7]
        intro hh
        exfalso
        rcases hh with hh | hh | hh
        · exact noStar hh p1
        · exact noStar hh p2
        · exact noStar hh p3
      · rintro D σ H ⟨I, φ, ρ, S, s, en, h⟩
        simp only [exec, ev] at h
        refine ⟨I, φ, ρ, S, s, en, (h.sr en).bind.imp fun ws S1 _ h1 => ?_⟩
        intro vs I1 φ1 H1 e1 s1 r1
        have h2 := Post.ofO (Ex := Ex σ) (I := I) (φ := φ) (H := H) h1
        obtain ⟨w, hw, h3⟩ := h2
        have : opSem .tupD ws S1 = if ws.length < LIM then some (.tup ws) else none := by simp [opSem]
        rw [this] at hw
        split at hw
        · cases hw
          simp only [bindT] at h3
          match ws, h3 with
          | [w1, w2, w3], h3 =>
            obtain ⟨v1, vr, rfl, r1, rr⟩ := r1
            obtain ⟨v2, v3, rfl, r2, r3⟩ := rels_two rr
            refine ⟨v1, v2, v3, rfl, ?_⟩
            simp only [Tw.setAll] at h3
            exact h3 _ I1 φ1 H1 e1 s1 ((((en.ext e1).set r1).set r2).set r3)
          | [], h3 => exact h3.elim
          | [_], h3 => exact h3.elim
          | [_, _], h3 => exact h3.elim
          | _ :: _ :: _ :: _ :: _, h3 => exact h3.elim
        · cases hw
    · cases h
  · cases h

def exprSyn : Stmt → Option Expr
  | .Expr e _ => some e
  | _ => none
def passSyn : Stmt → Bool
  | .Pass _ => true
  | .Expr (.Constant (.str _) _ _) _ => true
  | _ => false
def asgSyn : Stmt → Option (Expr × Expr)
  | .Assign [tg] v _ => some (tg, v)
  | _ => none
def setSyn : Expr → Option (Expr × Expr)
  | .Subscript o k _ => if plainE k then some (o, k) else none
  | _ => none
def augSyn : Stmt → Option (Expr × Operator × Expr)
  | .AugAssign (.Name y p) op v _ => some (.Name y p, op, v)
  | _ => none
def iteSyn : Stmt → Option (Expr × List Stmt × List Stmt)
  | .If c a b _ => some (c, a, b)
  | _ => none
def forSyn : Stmt → Option (Expr × Expr × List Stmt)
  | .For tg iter body [] _ => some (tg, iter, body)
  | _ => none
def whileSyn : Stmt → Option (Expr × List Stmt)
  | .While c body [] _ => some (c, body)
  | _ => none
def retSyn : Stmt → Option (Option Expr)
  | .Return e _ => some e
  | _ => none
def isCont : Stmt → Bool
  | .Continue _ => true
  | _ => false
def isBrk : Stmt → Bool
  | .Break _ => true
  | _ => false
def isFrz : Stm → Bool
  | .frz _ => true
  | .wipe _ => true
  | _ => false
def augAny : Stmt → Option (Expr × Operator × Expr)
  | .AugAssign tg op v _ => some (tg, op, v)
  | _ => none
def isNonC : E → Bool
  | .con .non => true
  | _ => false
def compOf : E → Option (Bool × E)
  | .comp a b c d e f => some (false, .comp a b c d e f)
  | .mut (.comp a b c d e f) => some (true, .comp a b c d e f)
  | _ => none
def tupOf : E → Option (List E)
  | .op .tupD ms => some ms
  | _ => none
def asgChk (T : Tab) (sc : Scope) (t : Tg) (m : E) (tg v : Expr) : Bool :=
  match t, tupOf m with
  | .tup [i, j], some ms => match parSyn T.N sc i j tg v with
    | some es => T.cm && chks T false sc ms es
    | none => false
  | .tup [i, j, l], some ms => match parSyn3 T.N sc i j l tg v with
    | some es => T.cm && chks T false sc ms es
    | none => false
  | t, _ => tgOk T.N sc t tg && (isTg1 t || T.cm) && plainE v && (isTupE tg == false || isTupE v == false) && (if swNow sc tg v then
      match t, compOf m with
      | .one _, some (_, c) => T.cm && chk T false sc c v
      | _, _ => false
    else chk T false sc m v)
def unC : List Stmt → Option (Stmt × List Stmt)
  | s :: ss => some (s, ss)
  | [] => none
def enumSyn (sc : Scope) (tg iter : Expr) : Option Expr :=
  match tg, iter with
  | .Tuple _ _ _, .Call (.Name f _) [a] [] _ => if decide (f = ("enumerate" : PySem.Str)) && isGl sc f then some a else none
  | _, _ => none
def zipSyn (sc : Scope) (tg iter : Expr) : Option (List Expr) :=
  match tg, iter with
  | .Tuple _ _ _, .Call (.Name f _) [a, b] [] _ => if decide (f = ("zip" : PySem.Str)) && isGl sc f && plainE a && plainE b then some [a, b] else none
  | _, _ => none
mutual
def chkS : Stm → Tab → Scope → Stmt → Bool
  | .expr m, T, sc, s => match exprSyn s with
    | some e => plainE e && !isLC e && chk T false sc m e
    | none => false
  | .pass, _, _, s => passSyn s
  | .asg t m, T, sc, s => match asgSyn s with
    | some (tg, v) => asgChk T sc t m tg v
    | none => false
  | .setI v o k, T, sc, s => match asgSyn s with
    | some (tg, v') => match setSyn tg with
      | some (o', k') => plainE v' && chk T false sc v v' && chk T false sc o o' && chk T false sc k k'
      | none => false
    | none => false
  | .setF c i v o, T, sc, s => match asgSyn s with
    | some (tg, v') => match setFSyn T c i tg with
      | some o' => plainE v' && chk T false sc v v' && chk T false sc o o'
      | none => false
    | none => false
  | .aug i o m, T, sc, s => match augSyn s with
    | some (tg, op, v) => decide (augTab o = some op) && nameAt T.N sc i tg && chk T false sc m v
    | none => false
  | .augF c i v o m, T, sc, s => match augAny s with
    | some (tg, op, v') => match setFSyn T c i tg with
      | some o' => decide (augTab o = some op) && chk T false sc m v' && chk T false sc v o'
      | none => false
    | none => false
  | .augS v k o m, T, sc, s => match augAny s with
    | some (tg, op, v') => match augSSyn tg with
      | some (o', k') => stillE m && decide (augTab o = some op) && chk T false sc m v' && chk T false sc v o' && chk T false sc k k'
      | none => false
    | none => false
  | .ite c a b, T, sc, s => match iteSyn s with
    | some (c', a', b') => chk T true sc c c' && chkSs a T sc a' && chkSs b T sc b'
    | none => false
  | .forIn t k srcs body, T, sc, s => match forSyn s with
    | some (tg, iter, body') => match itSyn sc k tg iter with
      | some es => T.cm && chks T false sc srcs es && tgOk T.N sc t tg && chkSs body T sc body'
      | none => false
    | none => false
  | .forR t a body, T, sc, s => match forSyn s with
    | some (tg, iter, body') => T.cm && plainE iter && chk T false sc a iter && tgOk T.N sc t tg && chkSs body T sc body'
    | none => false
  | .forE t a body, T, sc, s => match forSyn s with
    | some (tg, iter, body') => match enumSyn sc tg iter with
      | some e => T.cm && chk T false sc a e && plainE e && tgOk T.N sc t tg && chkSs body T sc body'
      | none => false
    | none => false
  | .forZ t srcs body, T, sc, s => match forSyn s with
    | some (tg, iter, body') => match zipSyn sc tg iter with
      | some es => T.cm && chks T false sc srcs es && tgOk T.N sc t tg && chkSs body T sc body'
      | none => false
    | none => false
  | .forD t both a body, T, sc, s => match forSyn s with
    | some (tg, iter, body') => match forDSyn both tg iter with
      | some o => T.cm && simpA a && chk T false sc a o && tgOk T.N sc t tg && chkSs body T sc body'
      | none => false
    | none => false
  | .whil c body, T, sc, s => match whileSyn s with
    | some (c', body') => T.cm && chk T true sc c c' && chkSs body T sc body'
    | none => false
  | .ret m, T, sc, s => match retSyn s with
    | some (some e) => chk T false sc m e
    | some none => isNonC m
    | none => false
  | .cont, _, _, s => isCont s
  | .brk, _, _, s => isBrk s
  | .rais c, T, sc, s => T.cm && raisSyn T sc c s
  | .tryE ks body c i hd, T, sc, s => match trySyn s with
    | some (body', y, nm, suite) => tryChk T sc ks c i y nm && chkSs body T sc body' && chkSs hd T.hot sc suite
    | none => false
  | .frz _, _, _, _ => false
  | .wipe _, _, _, _ => false
def chkSs : List Stm → Tab → Scope → List Stmt → Bool
  | [], _, _, ss => ss.isEmpty
  | m :: ms, T, sc, ss => if isFrz m then chkSs ms T sc ss else match unC ss with
    | none => false
    | some (s, ss') => chkS m T sc s && chkSs ms T sc ss'
end
theorem lc_false {e : Expr} {l : Nat} (hv : plainE e = true) (h : (!isLC e) = true) : swapsWith e none l X.env = pure false := by
  cases e <;> first | (simp [plainE] at hv; done) | (simp [isLC] at h; done) | rfl
theorem set_assign {o i : Expr} {pos : Pos} (hp : plainE i = true) : ∀ v, assign (.Subscript o i pos) X.env v = (do
      let ov ← holding [v] (eval o X.env)
      let iv ← holding [v, ov] (eval i X.env)
      standAt pos
      holding [v, ov, iv] (setItem ov iv v)
      release [v, ov, iv] []) := by
  intro v
  cases i <;> first | (simp [plainE] at hp; done) | rfl
theorem set_sw {o i v : Expr} {p : Pos} {l : Nat} (hv : plainE v = true) : swapsWithSole [.Subscript o i p] v l X.env = pure false := by
  cases v <;> first | (simp [plainE] at hv; done) | rfl
theorem setS {v o k : E} : ∀ D σ H, tS G cf L Ex (.setI v o k) D σ H → tAsg (tE G cf Ex v) (gSub (tE G cf Ex o) (tE G cf Ex k) (rSetG G)) D σ H := by
  rintro D σ H ⟨I, φ, ρ, S, s, en, h⟩
  simp only [exec] at h
  refine ⟨I, φ, ρ, S, s, en, (h.sr en).imp fun w S1 _ h1 => ?_⟩
  intro v1 I1 φ1 H1 e1 s1 r1
  refine ⟨I1, φ1, ρ, S1, s1, en.ext e1, ((PostS.ext e1 h1).sr (en.ext e1)).imp fun w2 S2 _ h2 => ?_⟩
  intro v2 I2 φ2 H2 e2 s2 r2
  refine ⟨I2, φ2, ρ, S2, s2, (en.ext e1).ext e2, ((PostS.ext e2 h2).sr ((en.ext e1).ext e2)).imp fun w3 S3 _ h3 => ?_⟩
  intro v3 I3 φ3 H3 e3 s3 r3
  have h4 := PostS.ext e3 h3
  split at h4
  · rename_i S4 hS
    refine ⟨I3, φ3, S3, w2, w3, w, S4, s3, r2.ext e3, r3, (r1.ext e2).ext e3, hS, fun I4 φ4 H4 e4 s4 => ?_⟩
    exact h4 σ I4 φ4 H4 e4 s4 ((((en.ext e1).ext e2).ext e3).ext e4)
  · exact h4.elim
theorem asgChk_ok {t : Tg} {m : E} {tg v : Expr} {pos : Pos} (h : asgChk T sc t m tg v = true) (x : XSk T G cf Ex n sc X) : PS X (.Assign [tg] v pos) (tS G cf L Ex (.asg t m)) := by
  unfold asgChk at h
  split at h
  · rename_i i j ms hm
    split at h
    · rename_i es he
      rw [Bool.and_eq_true] at h
      have p := (chks_ok ms h.2 x.toXOk).pes
      have : m = .op .tupD ms := by
        unfold tupOf at hm
        split at hm
        · cases hm; rfl
        · cases hm
      rw [this]
      exact parOk he x h.1 p
    · cases h
  · rename_i i j l ms hm
    split at h
    · rename_i es he
      rw [Bool.and_eq_true] at h
      have p := (chks_ok ms h.2 x.toXOk).pes
      have : m = .op .tupD ms := by
        unfold tupOf at hm
        split at hm
        · cases hm; rfl
        · cases hm
      rw [this]
      exact parOk3 he x h.1 p
    · cases h
  · simp only [Bool.and_eq_true, Bool.or_eq_true, beq_iff_eq] at h
    obtain ⟨⟨⟨⟨h1, h0⟩, h2⟩, h3⟩, h4⟩ := h
    split at h4
    · rename_i hsw
      split at h4
      · rename_i i md c hc _hs _hs2
        have hsw2 := hsw
        unfold swNow at hsw
        split at hsw
        · rename_i y py elt gs scope pos'
          unfold compOf at hc
          split at hc
          · cases hc
            have h5 := (Bool.and_eq_true _ _ ▸ h4).2
            rw [chk] at h5
            split at h5
            · rename_i a1 a2 a3 a4 a5 he
              unfold compSyn at he
              split at he
              · rename_i hq
                cases hq
                exact asgLc (L := L) (spos := pos) (md := false) x (Bool.and_eq_true _ _ ▸ h4).1 h1 hsw2 (Bool.and_eq_true _ _ ▸ h4).2
              · cases he
            · cases h5
          · cases hc
            have h5 := (Bool.and_eq_true _ _ ▸ h4).2
            rw [chk] at h5
            split at h5
            · rename_i a1 a2 a3 a4 a5 he
              unfold compSyn at he
              split at he
              · rename_i hq
                cases hq
                exact asgLc (L := L) (spos := pos) (md := true) x (Bool.and_eq_true _ _ ▸ h4).1 h1 hsw2 (Bool.and_eq_true _ _ ▸ h4).2
              · cases he
            · cases h5
          · cases hc
        · cases hsw
      · cases h4
    · rename_i hsw
      exact asgOk x h0 h1 h2 (by simpa using hsw) h3 (chk_ok m h4 x.toXOk).1
theorem Envs.forget {ρ : Env} {σ : L2.St} (h : Envs G I φ ρ σ) : ∀ (vs : List Nat), Envs G I φ (Tw.wipe ρ vs) σ
  | [] => h
  | v :: vs => by
    have ih := Envs.forget h vs
    show Envs G I φ ((Tw.wipe ρ vs).set v none) σ
    refine ⟨by simp [ih.len], fun j u q => ?_⟩
    by_cases hj : v = j
    · subst hj
      by_cases hl : v < (Tw.wipe ρ vs).length
      · rw [List.getElem?_set_self hl] at q; cases q
      · rw [List.getElem?_eq_none (by simp; omega)] at q; cases q
    · rw [List.getElem?_set_ne hj] at q
      exact ih.at_ j u q
theorem wipeS {vs : List Nat} {ms : List Stm} : ∀ D σ H, tSs G cf L Ex (.wipe vs :: ms) D σ H → tSs G cf L Ex ms D σ H := by
  rintro D σ H ⟨I, φ, ρ, S, s, en, h⟩
  simp only [execs, exec, SR.seq] at h
  exact ⟨I, φ, _, S, s, en.forget vs, h⟩
theorem exprOk {m : E} {s : Stmt} {e : Expr} (he : exprSyn s = some e) (h : (plainE e && !isLC e && chk T false sc m e) = true) (x : XSk T G cf Ex n sc X) : PS X s (tS G cf L Ex (.expr m)) := by
  simp only [Bool.and_eq_true] at h
  have h1 := (chk_ok m h.2 x.toXOk).1
  unfold exprSyn at he
  split at he
  · cases he
    exact PS_imp (ps_expr h1 (lc_false h.1.1 h.1.2)) exprS
  · cases he
theorem passOk {s : Stmt} (h : passSyn s = true) (x : XSk T G cf Ex n sc X) : PS X s (tS G cf L Ex .pass) := by
  unfold passSyn at h
  split at h
  · exact PS_imp ps_pass passS
  · exact PS_imp ps_doc passS
  · cases h
theorem asgOk' {t : Tg} {m : E} {s : Stmt} {tg v : Expr} (he : asgSyn s = some (tg, v)) (h : asgChk T sc t m tg v = true) (x : XSk T G cf Ex n sc X) : PS X s (tS G cf L Ex (.asg t m)) := by
  unfold asgSyn at he
  split at he
  · cases he
    exact asgChk_ok h x
  · cases he
theorem setIOk {v o k : E} {s : Stmt} {tg v' o' k' : Expr} (he : asgSyn s = some (tg, v')) (hk : setSyn tg = some (o', k')) (h : (plainE v' && chk T false sc v v' && chk T false sc o o' && chk T false sc k k') = true) (x : XSk T G cf Ex n sc X) : PS X s (tS G cf L Ex (.setI v o k)) := by
  simp only [Bool.and_eq_true] at h
  obtain ⟨⟨⟨h1, h2⟩, h3⟩, h4⟩ := h
  have p1 := (chk_ok v h2 x.toXOk).1
  have p2 := (chk_ok o h3 x.toXOk).1
  have p3 := (chk_ok k h4 x.toXOk).1
  unfold asgSyn at he
  split at he
  · cases he
    unfold setSyn at hk
    split at hk
    · split at hk
      · rename_i hp
        cases hk
        refine PS_imp (ps_asg p1 (pg_sub p2 p3 (pset_ok (by have := x.hu; omega)) (set_assign hp)) (set_sw h1) rfl rfl) setS
      · cases hk
    · cases hk
  · cases he
theorem setFOk' {c i : Nat} {v o : E} {s : Stmt} {tg v' o' : Expr} (he : asgSyn s = some (tg, v')) (hk : setFSyn T c i tg = some o') (h : (plainE v' && chk T false sc v v' && chk T false sc o o') = true) (x : XSk T G cf Ex n sc X) : PS X s (tS G cf L Ex (.setF c i v o)) := by
  simp only [Bool.and_eq_true] at h
  obtain ⟨⟨h1, h2⟩, h3⟩ := h
  have p1 := (chk_ok v h2 x.toXOk).1
  have p2 := (chk_ok o h3 x.toXOk).1
  unfold asgSyn at he
  split at he
  · cases he
    exact setFOk hk h1 x p1 p2
  · cases he
theorem augOk' {i : Nat} {o : Op} {m : E} {s : Stmt} {tg v : Expr} {op : Operator} (he : augSyn s = some (tg, op, v)) (h : (decide (augTab o = some op) && nameAt T.N sc i tg && chk T false sc m v) = true) (x : XSk T G cf Ex n sc X) : PS X s (tS G cf L Ex (.aug i o m)) := by
  simp only [Bool.and_eq_true, decide_eq_true_eq] at h
  obtain ⟨⟨h1, h2⟩, h3⟩ := h
  have p1 := (chk_ok m h3 x.toXOk).1
  unfold augSyn at he
  split at he
  · cases he
    simp only [nameAt, Bool.and_eq_true, decide_eq_true_eq] at h2
    have hl := loc_ok h2.2
    have hi := h2.1
    rw [← x.hN] at hi
    rcases hl with hl | hl
    · exact PS_imp (ps_aug x.nd hi (.inl ((x.wr _).1 hl)) p1 (augTab_ok h1) (.inr ((x.wr _).1 hl))) augS
    · exact PS_imp (ps_aug x.nd hi (.inr ((x.wr _).2 hl).1) p1 (augTab_ok h1) (.inl ((x.wr _).2 hl).2)) augS
  · cases he
theorem augFOk' {c i : Nat} {v m : E} {o : Op} {s : Stmt} {tg v' o' : Expr} {op : Operator} (he : augAny s = some (tg, op, v')) (hk : setFSyn T c i tg = some o') (h : (decide (augTab o = some op) && chk T false sc m v' && chk T false sc v o') = true) (x : XSk T G cf Ex n sc X) : PS X s (tS G cf L Ex (.augF c i v o m)) := by
  simp only [Bool.and_eq_true, decide_eq_true_eq] at h
  obtain ⟨⟨h1, h2⟩, h3⟩ := h
  unfold augAny at he
  split at he
  · cases he
    exact augFOk hk h1 x (chk_ok m h2 x.toXOk).1 (chk_ok v h3 x.toXOk).1
  · cases he
theorem augSOk' {v k m : E} {o : Op} {s : Stmt} {tg v' o' k' : Expr} {op : Operator} (he : augAny s = some (tg, op, v')) (hk : augSSyn tg = some (o', k')) (h : (stillE m && decide (augTab o = some op) && chk T false sc m v' && chk T false sc v o' && chk T false sc k k') = true) (x : XSk T G cf Ex n sc X) : PS X s (tS G cf L Ex (.augS v k o m)) := by
  simp only [Bool.and_eq_true, decide_eq_true_eq] at h
  obtain ⟨⟨⟨⟨h0, h1⟩, h2⟩, h3⟩, h4⟩ := h
  unfold augAny at he
  split at he
  · cases he
    exact augSOk hk h0 h1 x (chk_ok m h2 x.toXOk).1 (chk_ok v h3 x.toXOk).1 (chk_ok k h4 x.toXOk).1
  · cases he
theorem iteOk {c : E} {a b : List Stm} {s : Stmt} {c' : Expr} {a' b' : List Stmt} (he : iteSyn s = some (c', a', b')) (h1 : chk T true sc c c' = true) (x : XSk T G cf Ex n sc X) (p2 : PSs X a' (tSs G cf L Ex a)) (p3 : PSs X b' (tSs G cf L Ex b)) : PS X s (tS G cf L Ex (.ite c a b)) := by
  have p1 := chk_ok c h1 x.toXOk
  unfold iteSyn at he
  split at he
  · cases he
    exact PS_imp (ps_if p1 p2 p3) iteS
  · cases he
theorem forOk {t : Tg} {k : ItK} {srcs : List E} {body : List Stm} {s : Stmt} {tg iter : Expr} {body' : List Stmt} {es : List Expr} (he : forSyn s = some (tg, iter, body')) (hi : itSyn sc k tg iter = some es) (h : (T.cm && chks T false sc srcs es && tgOk T.N sc t tg) = true) (x : XSk T G cf Ex n sc X) (p3 : PSs X body' (tSs G cf L Ex body)) : PS X s (tS G cf L Ex (.forIn t k srcs body)) := by
  simp only [Bool.and_eq_true] at h
  obtain ⟨⟨hcm, h1⟩, h2⟩ := h
  have p := (chks_ok srcs h1 x.toXOk).pes
  obtain ⟨q1, q2⟩ := itOk hi x.toXOk p
  unfold forSyn at he
  split at he
  · cases he
    exact PS_imp (ps_for (x.own hcm) (x.calm hcm) q1 (tgOk_ok (fun _ => x.calm hcm) x.hN x.nd x.wr h2) p3 (set_ok q2)) forS
  · cases he
theorem forROk {t : Tg} {a : E} {body : List Stm} {s : Stmt} {tg iter : Expr} {body' : List Stmt} (he : forSyn s = some (tg, iter, body')) (h : (T.cm && plainE iter && chk T false sc a iter && tgOk T.N sc t tg) = true) (x : XSk T G cf Ex n sc X) (p3 : PSs X body' (tSs G cf L Ex body)) : PS X s (tS G cf L Ex (.forR t a body)) := by
  simp only [Bool.and_eq_true] at h
  obtain ⟨⟨⟨hcm, h0⟩, h1⟩, h2⟩ := h
  have p1 := (chk_ok a h1 x.toXOk).1
  unfold forSyn at he
  split at he
  · cases he
    exact PS_imp (ps_for (x.own hcm) (x.calm hcm) (pi_list p1) (tgOk_ok (fun _ => x.calm hcm) x.hN x.nd x.wr h2) p3 (set_ok h0)) forRS
  · cases he
theorem forEOk {t : Tg} {a : E} {body : List Stm} {s : Stmt} {tg iter e : Expr} {body' : List Stmt} (he : forSyn s = some (tg, iter, body')) (hs : enumSyn sc tg iter = some e) (h : (T.cm && chk T false sc a e && plainE e && tgOk T.N sc t tg) = true) (x : XSk T G cf Ex n sc X) (p3 : PSs X body' (tSs G cf L Ex body)) : PS X s (tS G cf L Ex (.forE t a body)) := by
  simp only [Bool.and_eq_true] at h
  obtain ⟨⟨⟨hcm, h1⟩, h0⟩, h2⟩ := h
  have p1 := (chk_ok a h1 x.toXOk).1
  unfold forSyn at he
  split at he
  · cases he
    unfold enumSyn at hs
    split at hs
    · split at hs
      · rename_i hc
        cases hs
        simp only [Bool.and_eq_true, decide_eq_true_eq] at hc
        obtain ⟨rfl, hg⟩ := hc
        refine PS_imp (ps_for (x.own hcm) (x.calm hcm) (PI_imp (pi_enum (x.gl hg) (x.blt _ (by simp [bltNames])) (pa_cons p1 pa_nil (star_plain h0)) (star_plain h0)) ?_) (tgOk_ok (fun _ => x.calm hcm) x.hN x.nd x.wr h2) p3 (fun _ => rfl)) (forES (K := X.K))
        rintro σ H R q
        exact tE_mono (fun v H1 ⟨a, xs, hv, hq, r⟩ => ⟨a, xs, by rw [hv], hq, r⟩) q
      · cases hs
    · cases hs
  · cases he
theorem forZOk {t : Tg} {srcs : List E} {body : List Stm} {s : Stmt} {tg iter : Expr} {body' : List Stmt} {es : List Expr} (he : forSyn s = some (tg, iter, body')) (hs : zipSyn sc tg iter = some es) (h : (T.cm && chks T false sc srcs es && tgOk T.N sc t tg) = true) (x : XSk T G cf Ex n sc X) (p3 : PSs X body' (tSs G cf L Ex body)) : PS X s (tS G cf L Ex (.forZ t srcs body)) := by
  simp only [Bool.and_eq_true] at h
  obtain ⟨⟨hcm, h1⟩, h2⟩ := h
  have p := (chks_ok srcs h1 x.toXOk).pes
  unfold forSyn at he
  split at he
  · cases he
    unfold zipSyn at hs
    split at hs
    · split at hs
      · rename_i hc
        cases hs
        simp only [Bool.and_eq_true, decide_eq_true_eq] at hc
        obtain ⟨⟨⟨rfl, hg⟩, pa⟩, pb⟩ := hc
        exact PS_imp (ps_for (x.own hcm) (x.calm hcm) (pi_zip (x.gl hg) (x.blt _ (by simp [bltNames])) p.pa (star_plain pa) (star_none (by simp [pb]))) (tgOk_ok (fun _ => x.calm hcm) x.hN x.nd x.wr h2) p3 (fun _ => rfl)) (forZS (K := X.K))
      · cases hs
    · cases hs
  · cases he
theorem forDOk' {t : Tg} {both : Bool} {a : E} {body : List Stm} {s : Stmt} {tg iter o : Expr} {body' : List Stmt} (he : forSyn s = some (tg, iter, body')) (hd : forDSyn both tg iter = some o) (h : (T.cm && simpA a && chk T false sc a o && tgOk T.N sc t tg) = true) (x : XSk T G cf Ex n sc X) (p3 : PSs X body' (tSs G cf L Ex body)) : PS X s (tS G cf L Ex (.forD t both a body)) := by
  simp only [Bool.and_eq_true] at h
  obtain ⟨⟨⟨hcm, h0⟩, h1⟩, h2⟩ := h
  unfold forSyn at he
  split at he
  · cases he
    exact forDOk hd h0 hcm x h2 (chk_ok a h1 x.toXOk).1 p3
  · cases he
theorem whilOk {c : E} {body : List Stm} {s : Stmt} {c' : Expr} {body' : List Stmt} (he : whileSyn s = some (c', body')) (h : (T.cm && chk T true sc c c') = true) (x : XSk T G cf Ex n sc X) (p2 : PSs X body' (tSs G cf L Ex body)) : PS X s (tS G cf L Ex (.whil c body)) := by
  simp only [Bool.and_eq_true] at h
  have p1 := chk_ok c h.2 x.toXOk
  unfold whileSyn at he
  split at he
  · cases he
    exact PS_imp (ps_while (x.own h.1) p1 p2) whileS
  · cases he
theorem retOk {m : E} {s : Stmt} {e : Expr} (he : retSyn s = some (some e)) (h : chk T false sc m e = true) (x : XSk T G cf Ex n sc X) : PS X s (tS G cf L Ex (.ret m)) := by
  have p1 := (chk_ok m h x.toXOk).1
  unfold retSyn at he
  split at he
  · cases he
    exact PS_imp (ps_ret p1) retS
  · cases he
theorem retNOk {m : E} {s : Stmt} (he : retSyn s = some none) (h : isNonC m = true) (x : XSk T G cf Ex n sc X) : PS X s (tS G cf L Ex (.ret m)) := by
  unfold retSyn at he
  split at he
  · cases he
    unfold isNonC at h
    split at h
    · refine PS_imp ps_retN ?_
      rintro D σ H ⟨I, φ, ρ, S, s, en, h⟩
      simp only [exec, ev, Rs.sr] at h
      exact KE.here h s rfl
    · cases h
  · cases he
theorem contOk {s : Stmt} (h : isCont s = true) (x : XSk T G cf Ex n sc X) : PS X s (tS G cf L Ex .cont) := by
  unfold isCont at h
  split at h
  · exact PS_imp ps_continue contS
  · cases h
theorem brkOk {s : Stmt} (h : isBrk s = true) (x : XSk T G cf Ex n sc X) : PS X s (tS G cf L Ex .brk) := by
  unfold isBrk at h
  split at h
  · exact PS_imp ps_break brkS
  · cases h
mutual
theorem chkS_ok : ∀ (m : Stm) {T : Tab} {s : Stmt} {sc : Scope} {Ex : L2.St → XK} {X : Cx}, chkS m T sc s = true → XSk T G cf Ex n sc X → PS X s (tS G cf L Ex m)
  | .expr m, T, s, sc, Ex, X, h, x => by
    rw [chkS] at h
    split at h
    · exact exprOk (by assumption) h x
    · cases h
  | .pass, T, s, sc, Ex, X, h, x => by
    rw [chkS] at h
    exact passOk h x
  | .asg t m, T, s, sc, Ex, X, h, x => by
    rw [chkS] at h
    split at h
    · exact asgOk' (by assumption) h x
    · cases h
  | .setI v o k, T, s, sc, Ex, X, h, x => by
    rw [chkS] at h
    split at h
    · split at h
      · exact setIOk (by assumption) (by assumption) h x
      · cases h
    · cases h
  | .setF c i v o, T, s, sc, Ex, X, h, x => by
    rw [chkS] at h
    split at h
    · split at h
      · exact setFOk' (by assumption) (by assumption) h x
      · cases h
    · cases h
  | .aug i o m, T, s, sc, Ex, X, h, x => by
    rw [chkS] at h
    split at h
    · exact augOk' (by assumption) h x
    · cases h
  | .augF c i v o m, T, s, sc, Ex, X, h, x => by
    rw [chkS] at h
    split at h
    · split at h
      · exact augFOk' (by assumption) (by assumption) h x
      · cases h
    · cases h
  | .augS v k o m, T, s, sc, Ex, X, h, x => by
    rw [chkS] at h
    split at h
    · split at h
      · exact augSOk' (by assumption) (by assumption) h x
      · cases h
    · cases h
  | .ite c a b, T, s, sc, Ex, X, h, x => by
    rw [chkS] at h
    split at h
    · rename_i c' a' b' he
      simp only [Bool.and_eq_true] at h
      exact iteOk he h.1.1 x (chkSs_ok a h.1.2 x) (chkSs_ok b h.2 x)
    · cases h
  | .forIn t k srcs body, T, s, sc, Ex, X, h, x => by
    rw [chkS] at h
    split at h
    · rename_i tg iter body' he
      split at h
      · rename_i es hi
        rw [Bool.and_eq_true] at h
        exact forOk he hi h.1 x (chkSs_ok body h.2 x)
      · cases h
    · cases h
  | .forR t a body, T, s, sc, Ex, X, h, x => by
    rw [chkS] at h
    split at h
    · rename_i tg iter body' he
      rw [Bool.and_eq_true] at h
      exact forROk he h.1 x (chkSs_ok body h.2 x)
    · cases h
  | .forZ t srcs body, T, s, sc, Ex, X, h, x => by
    rw [chkS] at h
    split at h
    · rename_i tg iter body' he
      split at h
      · rename_i es hs
        rw [Bool.and_eq_true] at h
        exact forZOk he hs h.1 x (chkSs_ok body h.2 x)
      · cases h
    · cases h
  | .forE t a body, T, s, sc, Ex, X, h, x => by
    rw [chkS] at h
    split at h
    · rename_i tg iter body' he
      split at h
      · rename_i e hs
        rw [Bool.and_eq_true] at h
        exact forEOk he hs h.1 x (chkSs_ok body h.2 x)
      · cases h
    · cases h
  | .forD t both a body, T, s, sc, Ex, X, h, x => by
    rw [chkS] at h
    split at h
    · rename_i tg iter body' he
      split at h
      · rename_i o hi
        rw [Bool.and_eq_true] at h
        exact forDOk' he hi h.1 x (chkSs_ok body h.2 x)
      · cases h
    · cases h
  | .whil c body, T, s, sc, Ex, X, h, x => by
    rw [chkS] at h
    split at h
    · rename_i c' body' he
      rw [Bool.and_eq_true] at h
      exact whilOk he h.1 x (chkSs_ok body h.2 x)
    · cases h
  | .ret m, T, s, sc, Ex, X, h, x => by
    rw [chkS] at h
    split at h
    · exact retOk (by assumption) h x
    · exact retNOk (by assumption) h x
    · cases h
  | .cont, T, s, sc, Ex, X, h, x => by
    rw [chkS] at h
    exact contOk h x
  | .brk, T, s, sc, Ex, X, h, x => by
    rw [chkS] at h
    exact brkOk h x
  | .rais c, T, s, sc, Ex, X, h, x => by
    rw [chkS] at h
    rw [Bool.and_eq_true] at h
    exact raisOk h.2 h.1 x
  | .tryE ks body c i hd, T, s, sc, Ex, X, h, x => by
    rw [chkS] at h
    split at h
    · rename_i body' y nm suite he
      simp only [Bool.and_eq_true] at h
      exact tryOk he h.1.1 x (fun x' => chkSs_ok body h.1.2 x') (fun x' => chkSs_ok hd h.2 x')
    · cases h
  | .frz _, T, s, sc, Ex, X, h, x => by rw [chkS] at h; cases h
  | .wipe _, T, s, sc, Ex, X, h, x => by rw [chkS] at h; cases h
theorem chkSs_ok : ∀ (ms : List Stm) {T : Tab} {ss : List Stmt} {sc : Scope} {Ex : L2.St → XK} {X : Cx}, chkSs ms T sc ss = true → XSk T G cf Ex n sc X → PSs X ss (tSs G cf L Ex ms)
  | [], T, ss, sc, Ex, X, h, x => by
    rw [chkSs] at h
    cases ss with
    | nil => exact PSs_imp pss_nil nilS
    | cons s ss => cases h
  | m :: ms, T, ss, sc, Ex, X, h, x => by
    rw [chkSs] at h
    split at h
    · rename_i hf
      have p := chkSs_ok ms h x
      unfold isFrz at hf
      split at hf
      · exact PSs_imp p frzS
      · exact PSs_imp p wipeS
      · cases hf
    · cases ss with
      | nil => simp [unC] at h
      | cons s ss =>
        simp only [unC] at h
        simp only [Bool.and_eq_true] at h
        exact PSs_imp (pss_cons (chkS_ok m h.1 x) (chkSs_ok ms h.2 x)) seqS
end
end Tw

namespace Tw
open PySem PySem.Spec PyProof.Rows L2

variable {G : Gx} {I I' I1 I2 H H' H1 H2 : Hp} {φ φ' φ1 φ2 : List Addr} {S S' S1 : Sto} {X : Cx} {T : Tab} {Ex : L2.St → XK} {n L : Nat} {sc : Scope}

structure DefI where
  nm : PySem.Str
  qn : PySem.Str
  own : Option Nat
  N : List PySem.Str
  np : Nat
  st : Stmt
  body : List Stm
def DefI.ps (d : DefI) : List PySem.Str := d.N.take d.np
def DefI.fn (d : DefI) : Fn := ⟨d.np, d.N.length, d.body⟩
def inCls (s : Stmt) (j : Nat) : Stmt := match s with
  | .ClassDef _ _ _ b _ _ _ _ _ _ _ => b.getD j (.Pass ⟨0, 0, 0, 0⟩)
  | _ => .Pass ⟨0, 0, 0, 0⟩
def isFun : ScopeKind → Bool
  | .function => true
  | _ => false
def nodupC : List PySem.Str → Bool
  | [] => true
  | x :: r => !(r.contains x) && nodupC r
theorem nodupC_ok : ∀ {l : List PySem.Str}, nodupC l = true → l.Nodup
  | [], _ => List.nodup_nil
  | x :: r, h => by
    simp only [nodupC, Bool.and_eq_true] at h
    exact List.nodup_cons.mpr ⟨by simpa using h.1, nodupC_ok h.2⟩
def scopeC (d : DefI) : Bool :=
  isFun (defScope d.st).kind && !(defScope d.st).isCoroutine && !(defScope d.st).isGenerator && nodupC d.N && decide (d.np ≤ d.N.length) && d.ps.all (loc (defScope d.st)) && (defScope d.st).names.all fun y => !(y.2 == .free)
theorem scopeC_ok {d : DefI} (h : scopeC d = true) : FnScope d.N d.ps (defScope d.st) := by
  unfold scopeC at h
  simp only [Bool.and_eq_true, decide_eq_true_eq] at h
  obtain ⟨⟨⟨⟨⟨⟨h1, h2⟩, h3⟩, h4⟩, h5⟩, h6⟩, h7⟩ := h
  refine ⟨?_, by simpa using h2, by simpa using h3, nodupC_ok h4, ?_, fun x hx => loc_ok (List.all_eq_true.mp h6 x hx), fun y hy => ?_⟩
  · unfold isFun at h1
    split at h1
    · assumption
    · cases h1
  · unfold DefI.ps
    rw [List.length_take, Nat.min_eq_left h5]
  · have := List.all_eq_true.mp h7 y hy
    intro z
    rw [z] at this
    cases this
structure Tx where
  fnm : List (PySem.Str × Nat × Nat)
  cst : List (PySem.Str × W)
  cls : List ClsI
  mts : List (Nat × PySem.Str × Nat × Nat)
  exc : List (PySem.Str × Nat)
def Tx.tab (t : Tx) (N : List PySem.Str) : Tab := ⟨N, t.fnm, t.cst, true, t.cls, t.mts, t.exc⟩
def Tx.fld (t : Tx) (c : Nat) : List PySem.Str := match t.cls.find? fun k => k.c == c with
  | some k => k.flds
  | none => []
def Tx.exs (t : Tx) : List Nat := t.exc.map (·.2)
def defC (t : Tx) (d : DefI) : Bool := scopeC d && chkSs d.body (t.tab d.N) (defScope d.st) (defBody d.st)
def prg (D : List (Nat × DefI)) : Nat → Option Fn := fun f => (D.lookup f).map DefI.fn
theorem lookup_memN {α : Type} {l : List (Nat × α)} {x : Nat} {w : α} (h : l.lookup x = some w) : (x, w) ∈ l := by
  induction l with
  | nil => cases h
  | cons p l ih =>
    obtain ⟨a, b⟩ := p
    rw [List.lookup_cons] at h
    split at h
    · rename_i hb
      cases h
      have : x = a := by simpa using hb
      subst this
      exact List.mem_cons_self
    · exact List.mem_cons_of_mem _ (ih h)

def initS : PySem.Str := "__init__"
def clsB (K : PySem.W.Frag) (C : Addr) (flds : List PySem.Str) : Bool :=
  PySem.W.plainGet K C Str.empty && PySem.W.hasDictIn K C && PySem.W.plainOver K C && (PySem.W.findIn K (.ref C) "__setattr__" == some (some (.builtin "object.__setattr__"))) && (PySem.W.findIn K (.ref C) "__class__" == some (some (.builtin "object.__class__"))) &&
    (PySem.W.specialIn K (.builtin "object.__class__") "__get__" == some (some (.builtin "getset_descriptor.__get__"))) && (PySem.W.takesIn K (.builtin "object.__class__") == some true) && (PySem.W.mroIn K C (.type "object") == some true) && flds.all fun x => PySem.W.findIn K (.ref C) x == some none
theorem clsB_ok {K : PySem.W.Frag} {C : Addr} {flds : List PySem.Str} (h : clsB K C flds = true) : ClsF K C ∧ ∀ f ∈ flds, NoAttr K C f := by
  unfold clsB at h
  simp only [Bool.and_eq_true, List.all_eq_true, beq_iff_eq] at h
  obtain ⟨⟨⟨⟨⟨⟨⟨⟨h1, h2⟩, h3⟩, h4⟩, h5⟩, h6⟩, h7⟩, h8⟩, h9⟩ := h
  exact ⟨{ pg := h1, hd := h2, po := h3, sa := h4, ha := h5, hn := h6, ht := h7, hm := h8 }, h9⟩
def mkB (K : PySem.W.Frag) (C f : Addr) : Bool := PySem.W.makesIn K C && (PySem.W.findIn K (.ref C) "__init__" == some (some (.ref f))) && PySem.W.isFn K (.ref f) && PySem.W.keepIn K (.ref C)
theorem mkB_ok {K : PySem.W.Frag} {C f : Addr} (h : mkB K C f = true) : Mk K C f := by
  unfold mkB at h
  simp only [Bool.and_eq_true, beq_iff_eq] at h
  exact ⟨h.1.1.1, h.1.1.2, h.1.2, h.2⟩
def methB (K : PySem.W.Frag) (C : Addr) (m : PySem.Str) (f : Addr) : Bool := (PySem.W.findIn K (.ref C) m == some (some (.ref f))) && PySem.W.isFn K (.ref f) && PySem.W.keepIn K (.ref f)
theorem methB_ok {K : PySem.W.Frag} {C f : Addr} {m : PySem.Str} (h : methB K C m f = true) : Meth K C m f := by
  unfold methB at h
  simp only [Bool.and_eq_true, beq_iff_eq] at h
  exact ⟨h.1.1, h.1.2, h.2⟩
def excB (K : PySem.W.Frag) (C : Addr) : Bool :=
  (PySem.W.findIn K (.ref C) "__getattribute__" == some (some (.builtin "BaseException.__getattribute__"))) && (PySem.W.findIn K (.ref C) "__getattr__" == some none) && (PySem.W.subIn K (.ref C) (.type "BaseException") == some true) && PySem.W.hasDictIn K C &&
    (PySem.W.findIn K (.ref C) "__class__" == some (some (.builtin "object.__class__"))) && (PySem.W.specialIn K (.builtin "object.__class__") "__get__" == some (some (.builtin "getset_descriptor.__get__"))) && (PySem.W.takesIn K (.builtin "object.__class__") == some true) && (PySem.W.mroIn K C (.type "object") == some true) &&
    PySem.W.excIn K C bmVE "ValueError.__new__" && PySem.W.keepIn K (.ref C) && (PySem.W.exmOne K (.ref C) (.type "ValueError") == some true) && (PySem.W.exmOne K (.ref C) (.ref C) == some true) && (PySem.W.typeIn K (.ref C) == some (.type "type")) &&
    (PySem.W.kitOne K (.ref C) (.type "ValueError") == some true) && (PySem.W.kitOne K (.type "NoneType") (.ref C) == some false)
theorem excB_ok {K : PySem.W.Frag} {C : Addr} (h : excB K C = true) : ExcF K C ∧ PySem.W.kitOne K (.ref C) (.type "ValueError") = some true ∧ PySem.W.kitOne K (.type "NoneType") (.ref C) = some false := by
  unfold excB at h
  simp only [Bool.and_eq_true, beq_iff_eq] at h
  obtain ⟨⟨⟨⟨⟨⟨⟨⟨⟨⟨⟨⟨⟨⟨h1, h2⟩, h3⟩, h4⟩, h5⟩, h6⟩, h7⟩, h8⟩, h9⟩, h10⟩, h11⟩, h12⟩, h13⟩, h14⟩, h15⟩ := h
  exact ⟨{ hg := h1, hk := h2, hs := h3, hd := h4, ha := h5, hn := h6, ht := h7, hm := h8, ex := h9, kp := h10, ev := h11, me := h12, tp := h13 }, h14, h15⟩
def excR (K : PySem.W.Frag) (exc : List (PySem.Str × Nat)) (cad : Nat → Addr) (k : Nat) : Bool := exc.all fun e => PySem.W.kitOne K (.ref (cad k)) (.ref (cad e.2)) == some (subX k e.2)
theorem excR_ok {K : PySem.W.Frag} {exc : List (PySem.Str × Nat)} {cad : Nat → Addr} {k : Nat} (h : excR K exc cad k = true) : ∀ y j, (y, j) ∈ exc → PySem.W.kitOne K (.ref (cad k)) (.ref (cad j)) = some (subX k j) := by
  unfold excR at h
  simp only [List.all_eq_true, beq_iff_eq] at h
  exact fun y j hj => h (y, j) hj
section
variable {P : Program} {w : World} {K : PySem.W.Frag} {mg : PySem.Str → Option Value} {base : Heap}
def placed (K : PySem.W.Frag) (mg : PySem.Str → Option Value) (cad : Nat → Addr) (d : DefI) (f : Addr) : Prop := match d.own with
  | none => mg d.nm = some (.ref f)
  | some c => if d.nm = initS then Mk K (cad c) f else Meth K (cad c) d.nm f
structure Wd (K : PySem.W.Frag) (mg : PySem.Str → Option Value) (cad : Nat → Addr) (t : Tx) (D : List (Nat × DefI)) : Prop where
  defs : ∀ (i : Nat) (d : DefI), (i, d) ∈ D → ∃ f fd, placed K mg cad d f ∧ Binds K fd d.ps [] ∧ Fun K d.nm d.qn d.st f fd
  blt : ∀ x ∈ bltNames, mg x = none
  csts : ∀ x v, (x, v) ∈ t.cst → ∃ u y, mg x = some u ∧ L2.RelV y u ∧ ∀ (G : Gx) I φ, Rel G I φ v y
  cls : ∀ c ∈ t.cls, mg c.nm = some (.ref (cad c.c)) ∧ clsB K (cad c.c) c.flds = true
  exc : ∀ x k, (x, k) ∈ t.exc → mg x = some (.ref (cad k)) ∧ excB K (cad k) = true ∧ excR K t.exc cad k = true
def defAt (D : List (Nat × DefI)) (i np : Nat) (q : DefI → Bool) : Bool := match D.lookup i with
  | some d => d.np == np && decide (d.np ≤ d.N.length) && q d
  | none => false
theorem defAt_ok {D : List (Nat × DefI)} {i np : Nat} {q : DefI → Bool} (h : defAt D i np q = true) : ∃ d, D.lookup i = some d ∧ d.np = np ∧ d.ps.length = np ∧ q d = true := by
  unfold defAt at h
  split at h
  · rename_i d hd
    simp only [Bool.and_eq_true, beq_iff_eq, decide_eq_true_eq] at h
    obtain ⟨⟨h1, h2⟩, h3⟩ := h
    exact ⟨d, hd, h1, by unfold DefI.ps; rw [List.length_take, Nat.min_eq_left h2]; exact h1, h3⟩
  · cases h
def txC (t : Tx) (D : List (Nat × DefI)) : Bool :=
  (t.fnm.all fun p => defAt D p.2.1 p.2.2 fun d => d.own.isNone && d.nm == p.1) &&
  (t.cls.all fun c => decide (c.c < 9) && (t.fld c.c == c.flds) && nodupC c.flds && defAt D c.init c.np fun d => d.own == some c.c && d.nm == initS) &&
  (t.mts.all fun p => !((t.fld p.1).contains p.2.1) && (t.cls.any fun c => c.c == p.1) && defAt D p.2.2.1 p.2.2.2 fun d => d.own == some p.1 && d.nm == p.2.1 && !(d.nm == initS)) &&
  (t.exc.all fun p => decide (10 ≤ p.2))
theorem defs_ok {lib : Nat → Option Fn} {t : Tx} {D : List (Nat × DefI)} (hl : ∀ i d, D.lookup i = some d → lib i = some d.fn) (hG : K = G.K) (hfl : G.fld = t.fld) (hex : G.exs = t.exs) (wd : Wd K mg G.cad t D) (hf : txC t D = true) (hD : D.all (fun p => defC t p.2) = true) (L : Nat) :
    ∀ (n i : Nat) (d : DefI) (f : Addr) (fd : FuncData), D.lookup i = some d → Fun K d.nm d.qn d.st f fd → FnOk P w K mg base (L2.CX P w) (2 * n) f fd d.ps (spF G (runF lib L n) i d.np)
  | 0, i, d, f, fd, hd, F => by
    have no : ∀ {vs : List V} {H : Hp} {Q : VK} {E : XK}, spF G (runF lib L 0) i d.np vs H Q E → False := by
      rintro vs H Q E ⟨_, I, φ, S, ws, _, _, h⟩
      exact h
    exact ⟨fun vs H Q E h => (no h).elim, fun A outer s H args us vs Q E _ _ _ _ h => (no h).elim⟩
  | n + 1, i, d, f, fd, hd, F => by
    have ih := defs_ok hl hG hfl hex wd hf hD L n
    have hc := List.all_eq_true.mp hD (i, d) (lookup_memN hd)
    simp only at hc
    unfold defC at hc
    simp only [Bool.and_eq_true] at hc
    have SC := scopeC_ok hc.1
    have hnp : d.np ≤ d.N.length := by
      have := hc.1
      unfold scopeC at this
      simp only [Bool.and_eq_true, decide_eq_true_eq] at this
      exact this.1.1.2
    unfold txC at hf
    simp only [Bool.and_eq_true] at hf
    obtain ⟨⟨⟨hf1, hf2⟩, hf3⟩, hf4⟩ := hf
    have get : ∀ {j np : Nat} {q : DefI → Bool}, defAt D j np q = true → ∃ d2 f2 fd2, q d2 = true ∧ d2.ps.length = np ∧ placed K mg G.cad d2 f2 ∧ Binds K fd2 d2.ps [] ∧ Fun K d2.nm d2.qn d2.st f2 fd2 ∧ FnOk P w K mg base (L2.CX P w) (2 * n) f2 fd2 d2.ps (spF G (runF lib L n) j np) := by
      intro j np q h
      obtain ⟨d2, hd2, e1, e2, e3⟩ := defAt_ok h
      obtain ⟨f2, fd2, h1, h2, h3⟩ := wd.defs j d2 (lookup_memN hd2)
      exact ⟨d2, f2, fd2, e3, e2, h1, h2, h3, e1 ▸ ih j d2 f2 fd2 hd2 h3⟩
    have hclsF : ∀ c ∈ t.cls, ClsF K (G.cad c.c) ∧ ∀ f ∈ c.flds, NoAttr K (G.cad c.c) f := fun c hcm => clsB_ok (wd.cls c hcm).2
    refine F.okX (k := 2 * n + 1) SC (fun vs H Q E h => ?_) fun cdv A outer s H vs Q E hr h => ?_
    · rw [h.1]
      unfold DefI.ps
      rw [List.length_take, Nat.min_eq_left hnp]
    · obtain ⟨hlen0, I, φ, S, ws, sm, rws, hp⟩ := h
      have tk : Takes (cxOf (L2.CX P w) P w K mg base d.N d.qn (defScope d.st) f cdv A outer s H E) (fun cls dd _ H => E cls dd H) := takes_of rfl rfl rfl rfl
      have x : XSk (t.tab d.N) G (runF lib L n) (fun _ => E) n (defScope d.st) (cxOf (L2.CX P w) P w K mg base d.N d.qn (defScope d.st) f cdv A outer s H E) :=
        { calm := fun _ => rfl, hk := hG, nd := SC.nd, hN := rfl, hsc := rfl,
          un := by have := hr.un; show (A.deeper _).units + 65 < cLine; omega
          room := fun _ => hr, blt := wd.blt,
          fns := fun y j np hm => by
            obtain ⟨d2, f2, fd2, e, hps, pl, b, F2, ok⟩ := get (List.all_eq_true.mp hf1 _ hm)
            simp only [Bool.and_eq_true, beq_iff_eq, Option.isNone_iff_eq_none] at e
            unfold placed at pl
            rw [e.1] at pl
            simp only at pl
            rw [e.2] at pl
            exact ⟨f2, fd2, d2.ps, hps, pl, F2.kp, b, ok⟩
          csts := fun y v hm => by
            obtain ⟨u, z, h1, h2, h3⟩ := wd.csts y v hm
            exact ⟨u, z, h1, h2, h3 G⟩
          cls := fun c hcm => by
            have hq := List.all_eq_true.mp hf2 c hcm
            simp only [Bool.and_eq_true, decide_eq_true_eq, beq_iff_eq] at hq
            obtain ⟨⟨⟨q1, q2⟩, q3⟩, q4⟩ := hq
            obtain ⟨d2, f2, fd2, e, hps, pl, b, F2, ok⟩ := get q4
            simp only [Bool.and_eq_true, beq_iff_eq] at e
            unfold placed at pl
            rw [e.1] at pl
            simp only at pl
            rw [if_pos e.2] at pl
            obtain ⟨c1, c2⟩ := hclsF c hcm
            exact ⟨(wd.cls c hcm).1, c1, q1, by rw [hfl]; exact q2, nodupC_ok q3, c2, f2, fd2, d2.ps, hps, pl, b, ok⟩
          mts := fun c m j np hm => by
            have hq := List.all_eq_true.mp hf3 _ hm
            simp only [Bool.and_eq_true, Bool.not_eq_true', List.any_eq_true, beq_iff_eq] at hq
            obtain ⟨⟨q1, cl, hcl, q2⟩, q4⟩ := hq
            obtain ⟨d2, f2, fd2, e, hps, pl, b, F2, ok⟩ := get q4
            simp only [Bool.and_eq_true, beq_iff_eq, Bool.not_eq_true', beq_eq_false_iff_ne] at e
            unfold placed at pl
            rw [e.1.1] at pl
            simp only at pl
            rw [if_neg e.2, e.1.2] at pl
            have := (hclsF cl hcl).1.toCls
            rw [q2] at this
            exact ⟨this, by rw [hfl]; simpa using q1, f2, fd2, d2.ps, hps, pl, b, ok⟩
          exc := fun y k hm => by
            obtain ⟨e1, e2, e3⟩ := wd.exc y k hm
            obtain ⟨q1, q2, q3⟩ := excB_ok e2
            have q4 : 10 ≤ k := by simpa using List.all_eq_true.mp hf4 _ hm
            exact ⟨e1, q1, q4, q2, q3, by rw [hex]; exact List.mem_map.mpr ⟨_, hm, rfl⟩, excR_ok e3⟩
          exs := fun k hk => by
            rw [hex] at hk
            obtain ⟨⟨y, k'⟩, hm, rfl⟩ := List.mem_map.mp hk
            exact ⟨y, hm⟩
          pass := fun σ => passAt tk σ
          wr := fun y => ⟨fun z => z, fun z => ⟨z, rfl⟩⟩
          own := fun _ => passes_of rfl
          tk := fun _ => tk
          stk := rfl
          frm := rfl
          knd := SC.kind }
      refine ⟨_, chkSs_ok (L := L) d.body hc.2 x, ?_⟩
      have hlen := rws.length
      refine ⟨I, φ, ws.map some ++ List.replicate (d.N.length - d.np) none, S, sm, ⟨?_, ?_⟩, ?_⟩
      · unfold L2.start
        have hnw : ws.length = d.np := by omega
        rw [List.length_append, List.length_append, List.length_map, List.length_map, List.length_replicate, List.length_replicate, hlen, hnw]
      · intro k w' hk
        unfold L2.start
        rw [List.getElem?_append] at hk ⊢
        simp only [List.length_map] at hk ⊢
        rw [hlen]
        split at hk
        · rename_i hlt
          rw [if_pos hlt]
          rw [List.getElem?_map] at hk ⊢
          cases hw : ws[k]? with
          | none => rw [hw] at hk; cases hk
          | some u =>
            rw [hw] at hk
            cases hk
            obtain ⟨v, hv, r⟩ := rws.get hw
            exact ⟨v, by rw [hv]; rfl, r⟩
        · rw [List.getElem?_replicate] at hk
          split at hk <;> cases hk
      · simp only [runF] at hp
        rw [hl i d hd] at hp
        simp only at hp
        have e1 : ws.length = d.fn.np := by rw [← hlen, hlen0]; rfl
        rw [if_pos e1] at hp
        have e2 : d.fn.ns - d.fn.np = d.N.length - d.np := rfl
        rw [e2] at hp
        have e3 : d.fn.body = d.body := rfl
        rw [e3] at hp
        cases hx : execs (runF lib L n) L d.body (ws.map some ++ List.replicate (d.N.length - d.np) none) S with
        | ret v S' => rw [hx] at hp; exact hp
        | next ρ S' => rw [hx] at hp; exact fun σ I' φ' H' e s en => hp .non I' φ' H' e s rfl
        | ex ρ c S' => rw [hx] at hp; exact fun σ I' φ' H' e s en => hp I' φ' H' e s
        | brk ρ S' => rw [hx] at hp; exact hp.elim
        | cont ρ S' => rw [hx] at hp; exact hp.elim
        | bad => rw [hx] at hp; exact hp.elim
def spQ (lib : Nat → Option Fn) (L k i : Nat) (K : PySem.W.Frag) : Sp := fun vs H Q E => ∃ a ns, vs = [.ref a] ∧ SqL K H a (ns.map V.int) ∧ (∃ S', runF lib L k i [.klst ns] [] = .ok (.bl true) S') ∧ ∀ H', Q (.bl true) H'
theorem spQ_of {lib : Nat → Option Fn} {L k i : Nat} {vs : List V} {H : Hp} {Q : VK} {E : XK} (h : spQ lib L k i G.K vs H Q E) : spF G (runF lib L k) i 1 vs H Q E := by
  obtain ⟨a, ns, rfl, hS, ⟨S', hr⟩, q⟩ := h
  refine ⟨rfl, H, [], [], [.klst ns], ⟨Same.refl _, rfl, List.nodup_nil, by simp, by simp, by simp⟩, Rels.one ⟨a, rfl, hS⟩, ?_⟩
  rw [hr]
  intro v I' φ' H' e s r
  rw [show v = _ from r]
  exact q H'
theorem spQ_here {lib : Nat → Option Fn} {L k i : Nat} {H : Hp} {a : Addr} {ns : List Int} {E : XK} (hS : SqL K H a (ns.map V.int)) (h : ∃ S', runF lib L k i [.klst ns] [] = .ok (.bl true) S') :
    spQ lib L k i K [.ref a] H (fun v _ => v = .bl true) E := ⟨a, ns, rfl, hS, h, fun _ => rfl⟩
theorem cx_none {P : Program} {w : World} {H : Hp} {s : Shared} {e : Value} {s' : Shared} (h : L2.CX P w [] H s (fun _ _ _ => False) e s') : False := by
  obtain ⟨_, _, _, _, _, _, _, _, _, _, _, _, z⟩ := h
  exact z.elim
def cadL (l : List (Nat × Addr)) (k : Nat) : Addr := (l.lookup k).getD 0
end
end Tw

namespace Tw
theorem runF_succ {P : Nat → Option Fn} {L d f : Nat} {ws : List W} {S : Sto} {x : Fn} (h : P f = some x) (hl : ws.length = x.np) : runF P L (d + 1) f ws S = match execs (runF P L d) L x.body (ws.map some ++ List.replicate (x.ns - x.np) none) S with
        | .ret w S' => .ok w S'
        | .next _ S' => .ok .non S'
        | .ex _ c S' => .ex c S'
        | _ => .bad := by
  rw [runF, h]
  simp only
  rw [if_pos hl] <;> rfl
structure OrdW (Q : W → Prop) : Prop where
  eq : ∀ x y, Q x → Q y → (eqW x y = true ↔ x = y)
  irr : ∀ x, Q x → ltW x x = false
  tr : ∀ x y z, Q x → Q y → Q z → ltW x y = true → ltW y z = true → ltW x z = true
  tot : ∀ x y, Q x → Q y → x ≠ y → ltW x y = true ∨ ltW y x = true
  dat : ∀ x, Q x → ∀ d, datW (d + 1) x = true
  rf : ∀ x, Q x → rfree x = true
  ali : ∀ x y, Q x → Q y → alikeW x y = true
  one : (∀ x, Q x → isTup1 x = true) ∨ ∀ x, Q x → (notNone x && !isTup x) = true
  non : ∀ x, Q x → notNone x = true
theorem ordInt : OrdW fun w => ∃ i, w = .int i := by
  refine ⟨?_, ?_, ?_, ?_, ?_, ?_, ?_, .inr ?_, ?_⟩
  · rintro _ _ ⟨i, rfl⟩ ⟨j, rfl⟩; simp [eqW]
  · rintro _ ⟨i, rfl⟩; simp [ltW]
  · rintro _ _ _ ⟨i, rfl⟩ ⟨j, rfl⟩ ⟨k, rfl⟩ h1 h2; simp [ltW] at *; omega
  · rintro _ _ ⟨i, rfl⟩ ⟨j, rfl⟩ h; simp [ltW] at *; omega
  · rintro _ ⟨i, rfl⟩ d; rfl
  · rintro _ ⟨i, rfl⟩; rfl
  · rintro _ _ ⟨i, rfl⟩ ⟨j, rfl⟩; rfl
  · rintro _ ⟨i, rfl⟩; rfl
  · rintro _ ⟨i, rfl⟩; rfl
def okStr (s : List Nat) : Prop := (∀ c ∈ s, c < 128) ∧ s.length < LIM
theorem ordStr : OrdW fun w => ∃ s, w = .str s ∧ okStr s := by
  refine ⟨?_, ?_, ?_, ?_, ?_, ?_, ?_, .inr ?_, ?_⟩
  · rintro _ _ ⟨i, rfl, _⟩ ⟨j, rfl, _⟩; simp [eqW]
  · rintro _ ⟨i, rfl, _⟩; simp [ltW, List.lt_irrefl]
  · rintro _ _ _ ⟨i, rfl, _⟩ ⟨j, rfl, _⟩ ⟨k, rfl, _⟩ h1 h2; simp [ltW] at *; exact List.lt_trans h1 h2
  · rintro _ _ ⟨i, rfl, _⟩ ⟨j, rfl, _⟩ h
    simp only [ltW, decide_eq_true_eq]
    have h : i ≠ j := fun z => h (by rw [z])
    rcases Classical.em (i < j) with z | z
    · exact .inl z
    · rcases Classical.em (j < i) with z2 | z2
      · exact .inr z2
      · exact absurd (List.le_antisymm z2 z) h
  · rintro _ ⟨i, rfl, h⟩ d; simp only [datW, Bool.and_eq_true, List.all_eq_true, decide_eq_true_eq]; exact h
  · rintro _ ⟨i, rfl, _⟩; rfl
  · rintro _ _ ⟨i, rfl, _⟩ ⟨j, rfl, _⟩; rfl
  · rintro _ ⟨i, rfl, _⟩; rfl
  · rintro _ ⟨i, rfl, _⟩; rfl
end Tw

namespace Tw
abbrev LM : Nat := 100000
mutual
theorem sub_id {g : Nat → Option W} : ∀ {w : W}, rfree w = true → sub false g w = some w
  | .non, _ => rfl
  | .bl _, _ => rfl
  | .int _, _ => rfl
  | .str _, _ => rfl
  | .exn _, _ => rfl
  | .klst _, _ => by simp [sub]
  | .ref _, h => by simp [rfree] at h
  | .tup xs, h => by
    simp only [rfree] at h
    simp [sub, subL_id h]
  | .lst xs, h => by
    simp only [rfree] at h
    simp [sub, subL_id h]
  | .dic t ks vs, h => by
    simp only [rfree, Bool.and_eq_true] at h
    simp [sub, subL_id h.1, subL_id h.2]
  | .rcd c xs, h => by
    simp only [rfree] at h
    simp [sub, subL_id h]
theorem subL_id {g : Nat → Option W} : ∀ {ws : List W}, rfreeL ws = true → subL false g ws = some ws
  | [], _ => rfl
  | w :: ws, h => by
    simp only [rfreeL, Bool.and_eq_true] at h
    simp [subL, sub_id h.1, subL_id h.2]
end
theorem vw_id {S : Sto} {w : W} (h : rfree w = true) : vw S w = some w := sub_id h
theorem vws_id {S : Sto} {ws : List W} (h : rfreeL ws = true) : vws S ws = some ws := subL_id h
theorem datL_iff {d : Nat} : ∀ {ws : List W}, datL d ws = true ↔ ∀ w ∈ ws, datW d w = true
  | [] => by simp [datL]
  | w :: ws => by simp [datL, datL_iff (ws := ws)]
theorem call_pure {cf : CallF} {f : Nat} {ws : List W} {S S' : Sto} {w w' : W} (hr : rfreeL ws = true) (h : cf f ws [] = .ok w S') (hv : vw S' w = some w') : callSem cf .pure f ws S = .ok w' S := by
  simp [callSem, vws_id hr, h, hr, hv, ofO]
def onB {α : Type} (w : W) (a b k : α) : α := match w with
  | .bl true => a
  | .bl false => b
  | _ => k
def onOB {α : Type} (w : Option W) (a b k : α) : α := match w with
  | some (.bl true) => a
  | some (.bl false) => b
  | _ => k
@[simp] theorem onB_bl {α : Type} {c : Bool} {a b k : α} : onB (.bl c) a b k = if c = true then a else b := by cases c <;> rfl
@[simp] theorem onOB_bl {α : Type} {c : Bool} {a b k : α} : onOB (some (.bl c)) a b k = if c = true then a else b := by cases c <;> rfl
@[simp] theorem onOB_none {α : Type} {a b k : α} : onOB none a b k = k := rfl
def notB (w : W) (S : Sto) : Rs W := match w with
  | .bl b => .ok (.bl (!b)) S
  | _ => .bad
def isB (w : W) (S : Sto) : Rs W := match w with
  | .bl b => .ok (.bl b) S
  | _ => .bad
@[simp] theorem notB_bl {b : Bool} {S : Sto} : notB (.bl b) S = .ok (.bl (!b)) S := rfl
@[simp] theorem isB_bl {b : Bool} {S : Sto} : isB (.bl b) S = .ok (.bl b) S := rfl
def fin (r : SR) : Rs W := match r with
  | .ret w S' => .ok w S'
  | .next _ S' => .ok .non S'
  | .ex _ c S' => .ex c S'
  | _ => .bad
@[simp] theorem fin_ret {w : W} {S : Sto} : fin (.ret w S) = .ok w S := rfl
@[simp] theorem fin_next {ρ : Env} {S : Sto} : fin (.next ρ S) = .ok .non S := rfl
@[simp] theorem fin_ex {ρ : Env} {c : Nat} {S : Sto} : fin (.ex ρ c S) = .ex c S := rfl
@[simp] theorem fin_bad : fin .bad = .bad := rfl
@[simp] theorem fin_ite {c : Prop} [Decidable c] {a b : SR} : fin (if c then a else b) = if c then fin a else fin b := by split <;> rfl
@[simp] theorem bind_ite {α β : Type} {c : Prop} [Decidable c] {a b : Rs α} {f : α → Sto → Rs β} : (if c then a else b).bind f = if c then a.bind f else b.bind f := by split <;> rfl
@[simp] theorem sr_ite {α : Type} {c : Prop} [Decidable c] {a b : Rs α} {ρ : Env} {f : α → Sto → SR} : (if c then a else b).sr ρ f = if c then a.sr ρ f else b.sr ρ f := by split <;> rfl
@[simp] theorem seq_ite {c : Prop} [Decidable c] {a b : SR} {f : Env → Sto → SR} : (if c then a else b).seq f = if c then a.seq f else b.seq f := by split <;> rfl
theorem runF_fin {P : Nat → Option Fn} {L d f : Nat} {ws : List W} {S : Sto} {x : Fn} (h : P f = some x) (hl : ws.length = x.np) : runF P L (d + 1) f ws S = fin (execs (runF P L d) L x.body (ws.map some ++ List.replicate (x.ns - x.np) none) S) := by
  rw [runF_succ h hl]
  rfl

section
variable {cf : CallF} {ρ : Env} {S : Sto} {L : Nat}
@[simp] theorem s_var {i : Nat} : ev cf (.var i) ρ S = match ρ[i]? with
  | some (some w) => .ok w S
  | _ => .bad := by rw [ev] <;> rfl
@[simp] theorem s_con {w : W} : ev cf (.con w) ρ S = .ok w S := by rw [ev]
@[simp] theorem s_op {o : Op} {as : List E} : ev cf (.op o as) ρ S = (evs cf as ρ S).bind fun ws S' => ofO (opSem o ws S') S' := by rw [ev]
@[simp] theorem s_mth {t : MTy} {o : Op} {a : E} {as : List E} : ev cf (.mth t o a as) ρ S = (ev cf a ρ S).bind fun w S1 => if tyOk t w S1 then (evs cf as ρ S1).bind fun ws S2 => ofO (opSem o (w :: ws) S2) S2 else .bad := by rw [ev]
@[simp] theorem s_eff {o : Eff} {a : E} {as : List E} : ev cf (.eff o a as) ρ S = (ev cf a ρ S).bind fun w S1 => if tyOk (effTy o) w S1 then (evs cf as ρ S1).bind fun ws S2 => match effSem o (w :: ws) S2 with
    | some (w', S3) => .ok w' S3
    | none => .bad
    else .bad := by rw [ev] <;> rfl
@[simp] theorem s_and {as : List E} : ev cf (.and as) ρ S = evAnd cf as ρ S := by rw [ev]
@[simp] theorem s_or {as : List E} : ev cf (.or as) ρ S = evOr cf as ρ S := by rw [ev]
@[simp] theorem s_not {a : E} : ev cf (.not a) ρ S = (ev cf a ρ S).bind fun w S' => notB w S' := by
  rw [ev]
  rfl
@[simp] theorem s_ife {c a b : E} : ev cf (.ife c a b) ρ S = (ev cf c ρ S).bind fun w S' => onB w (ev cf a ρ S') (ev cf b ρ S') .bad := by
  rw [ev]
  rfl
@[simp] theorem s_chain {o1 o2 : Op} {a b c : E} : ev cf (.chain o1 o2 a b c) ρ S = (ev cf a ρ S).bind fun x S1 => (ev cf b ρ S1).bind fun y S2 => onOB (opSem o1 [x, y] S2) ((ev cf c ρ S2).bind fun z S3 => ofO (opSem o2 [y, z] S3) S3) (.ok (.bl false) S2) .bad := by
  rw [ev]
  rfl
@[simp] theorem s_call {m : Md} {f : Nat} {as : List E} : ev cf (.call m f as) ρ S = (evs cf as ρ S).bind fun ws S1 => callSem cf m f ws S1 := by rw [ev]
@[simp] theorem s_mut {a : E} : ev cf (.mut a) ρ S = (ev cf a ρ S).bind fun w S1 => match w with
    | .lst xs => .ok (.ref S1.length) (S1 ++ [.lst xs])
    | .dic t ks vs => .ok (.ref S1.length) (S1 ++ [.dic t ks vs])
    | _ => .bad := by rw [ev] <;> rfl
@[simp] theorem s_toI {a : E} : ev cf (.toI a) ρ S = (ev cf a ρ S).bind fun w S1 => match w with
    | .int i => .ok (.int i) S1
    | _ => .bad := by rw [ev] <;> rfl
@[simp] theorem s_evs0 : evs cf [] ρ S = .ok [] S := by rw [evs]
@[simp] theorem s_evs1 {a : E} {as : List E} : evs cf (a :: as) ρ S = (ev cf a ρ S).bind fun w S1 => (evs cf as ρ S1).bind fun ws S2 => .ok (w :: ws) S2 := by rw [evs]
@[simp] theorem s_and1 {a : E} : evAnd cf [a] ρ S = (ev cf a ρ S).bind fun w S1 => isB w S1 := by
  rw [evAnd]
  rfl
@[simp] theorem s_and2 {a b : E} {as : List E} : evAnd cf (a :: b :: as) ρ S = (ev cf a ρ S).bind fun w S1 => onB w (evAnd cf (b :: as) ρ S1) (.ok (.bl false) S1) .bad := by
  rw [evAnd]
  · rfl
  · simp
@[simp] theorem s_or1 {a : E} : evOr cf [a] ρ S = (ev cf a ρ S).bind fun w S1 => isB w S1 := by
  rw [evOr]
  rfl
@[simp] theorem s_or2 {a b : E} {as : List E} : evOr cf (a :: b :: as) ρ S = (ev cf a ρ S).bind fun w S1 => onB w (.ok (.bl true) S1) (evOr cf (b :: as) ρ S1) .bad := by
  rw [evOr]
  · rfl
  · simp
@[simp] theorem s_all0 : evAll cf [] ρ S = .ok (.bl true) S := by rw [evAll]
@[simp] theorem s_all1 {a : E} {as : List E} : evAll cf (a :: as) ρ S = ev cf a ρ S := by rw [evAll]
@[simp] theorem s_bind {α β : Type} {a : α} {f : α → Sto → Rs β} : (Rs.ok a S).bind f = f a S := rfl
@[simp] theorem s_sr {α : Type} {a : α} {f : α → Sto → SR} : (Rs.ok a S).sr ρ f = f a S := rfl
@[simp] theorem s_some {α : Type} {a : α} : ofO (some a) S = .ok a S := rfl
@[simp] theorem s_seq {f : Env → Sto → SR} : (SR.next ρ S).seq f = f ρ S := rfl
@[simp] theorem s_seqr {f : Env → Sto → SR} {w : W} : (SR.ret w S).seq f = .ret w S := rfl
@[simp] theorem s_seqc {f : Env → Sto → SR} : (SR.cont ρ S).seq f = .cont ρ S := rfl
@[simp] theorem s_seqb {f : Env → Sto → SR} : (SR.brk ρ S).seq f = .brk ρ S := rfl
@[simp] theorem s_seqe {f : Env → Sto → SR} {c : Nat} : (SR.ex ρ c S).seq f = .ex ρ c S := rfl
@[simp] theorem s_execs0 : execs cf L [] ρ S = .next ρ S := by rw [execs]
@[simp] theorem s_execs1 {m : Stm} {ms : List Stm} : execs cf L (m :: ms) ρ S = (exec cf L m ρ S).seq fun ρ1 S1 => execs cf L ms ρ1 S1 := by rw [execs]
@[simp] theorem s_expr {e : E} : exec cf L (.expr e) ρ S = (ev cf e ρ S).sr ρ fun _ S1 => .next ρ S1 := by rw [exec]
@[simp] theorem s_asg {t : Tg} {e : E} : exec cf L (.asg t e) ρ S = (ev cf e ρ S).sr ρ fun w S1 => match bindT t w ρ with
    | some ρ' => .next ρ' S1
    | none => .bad := by rw [exec] <;> rfl
@[simp] theorem s_ite {c : E} {a b : List Stm} : exec cf L (.ite c a b) ρ S = (ev cf c ρ S).sr ρ fun w S1 => onB w (execs cf L a ρ S1) (execs cf L b ρ S1) .bad := by
  rw [exec]
  rfl
@[simp] theorem s_ret {e : E} : exec cf L (.ret e) ρ S = (ev cf e ρ S).sr ρ fun w S1 => .ret w S1 := by rw [exec]
@[simp] theorem s_pass : exec cf L .pass ρ S = .next ρ S := by rw [exec]
@[simp] theorem s_contS : exec cf L .cont ρ S = .cont ρ S := by rw [exec]
@[simp] theorem s_brkS : exec cf L .brk ρ S = .brk ρ S := by rw [exec]
@[simp] theorem s_aug {i : Nat} {o : Op} {e : E} : exec cf L (.aug i o e) ρ S = match ρ[i]? with
    | some (some x) => (ev cf e ρ S).sr ρ fun y S1 => match augSem o x y with
      | some z => .next (ρ.set i (some z)) S1
      | none => .bad
    | _ => .bad := by rw [exec] <;> rfl
@[simp] theorem s_one {i : Nat} {x : W} : bindT (.one i) x ρ = some (ρ.set i (some x)) := rfl
theorem s_frzL {i n : Nat} {xs : List W} (h : ρ[i]? = some (some (.ref n))) (hS : S[n]? = some (.lst xs)) (hr : rfreeL xs = true) : exec cf L (.frz i) ρ S = .next (ρ.set i (some (.lst xs))) (S.set n .dead) := by
  rw [exec]
  simp [h, hS, hr]
theorem s_for {t : Tg} {k : ItK} {srcs : List E} {body : List Stm} {ws xs : List W} {S1 : Sto} (h : evs cf srcs ρ S = .ok ws S1) (hx : itVals k ws = some xs) : exec cf L (.forIn t k srcs body) ρ S = forL t (fun ρ' S' => execs cf L body ρ' S') xs ρ S1 := by
  rw [exec, h]
  simp [hx]
theorem s_comp {elt : E} {t : Tg} {k : ItK} {srcs cond : List E} {own : List Nat} {ws xs ys : List W} {S1 S2 : Sto} (h : evs cf srcs ρ S = .ok ws S1) (hx : itVals k ws = some xs) (hl : xs.length < LIM)
    (hc : compL (fun ρ' S' => ev cf elt ρ' S') (fun ρ' S' => evAll cf cond ρ' S') t (wipe ρ own) xs S1 = .ok ys S2) : ev cf (.comp elt t k srcs cond own) ρ S = .ok (.lst ys) S2 := by
  rw [ev, h]
  simp only [s_bind, hx]
  rw [if_pos hl, hc]
  rfl
end

section
variable {S : Sto} {x y : W} {a b : Int}
@[simp] theorem o_add : opSem .add [x, y] S = opAdd S x y := by simp [opSem]
@[simp] theorem o_sub : opSem .sub [.int a, .int b] S = some (.int (a - b)) := by simp [opSem]
@[simp] theorem o_mul : opSem .mul [x, y] S = opMul S x y := by simp [opSem]
@[simp] theorem o_fdiv : opSem .fdiv [.int a, .int b] S = if CDiv b then some (.int (a / b)) else none := by simp [opSem]
@[simp] theorem o_mod : opSem .mod [.int a, .int b] S = if 0 < b then some (.int (a % b)) else none := by simp [opSem]
@[simp] theorem o_pow : opSem .pow [.int a, .int b] S = if CPow a b then some (.int (a ^ b.toNat)) else none := by simp [opSem]
@[simp] theorem o_neg : opSem .neg [.int a] S = some (.int (-a)) := by simp [opSem]
@[simp] theorem o_eq : opSem .eq [x, y] S = (eqOp S x y).map .bl := by simp [opSem]
@[simp] theorem o_ne : opSem .ne [x, y] S = (eqOp S x y).map fun b => .bl (!b) := by simp [opSem]
@[simp] theorem o_le : opSem .le [.int a, .int b] S = some (.bl (decide (a ≤ b))) := by simp [opSem, leSem]
@[simp] theorem o_gt : opSem .gt [.int a, .int b] S = some (.bl (decide (b < a))) := by simp [opSem]
@[simp] theorem o_ge : opSem .ge [.int a, .int b] S = some (.bl (decide (b ≤ a))) := by simp [opSem]
@[simp] theorem o_lt : opSem .lt [x, y] S = (ltSem S x y).map .bl := by simp [opSem]
@[simp] theorem o_isin : opSem .isin [x, y] S = (inOp S x y).map .bl := by simp [opSem]
@[simp] theorem o_notin : opSem .notin [x, y] S = (inOp S x y).map fun b => .bl (!b) := by simp [opSem]
@[simp] theorem o_isnone : opSem .isnone [x] S = some (.bl (!notNone x)) := by simp [opSem]
@[simp] theorem o_notnone : opSem .notnone [x] S = some (.bl (notNone x)) := by simp [opSem]
@[simp] theorem o_idx : opSem .idx [x, y] S = idxSem S x y := by simp [opSem]
@[simp] theorem o_slice {lo hi : Bool} {r : List W} : opSem (.slice lo hi) (x :: r) S = (partsOf lo hi r).bind fun b => sliceSem S x b.1 b.2 := by simp [opSem]
@[simp] theorem o_len : opSem .len [x] S = (lenSem S x).map .int := by simp [opSem]
@[simp] theorem o_list : opSem .list [x] S = (seqOf S x).map .lst := by simp [opSem]
@[simp] theorem o_tuple : opSem .tuple [x] S = (seqOf S x).map .tup := by simp [opSem]
@[simp] theorem o_sorted : opSem .sorted [x] S = (sortedSem S x).map .lst := by simp [opSem]
@[simp] theorem o_all : opSem .all [x] S = (lstOf S x).bind fun xs => (allBl xs).map .bl := by simp [opSem]
@[simp] theorem o_min : opSem .min [.int a, .int b] S = some (.int (if b < a then b else a)) := by simp [opSem]
@[simp] theorem o_max : opSem .max [.int a, .int b] S = some (.int (if a < b then b else a)) := by simp [opSem]
@[simp] theorem o_tupD {ws : List W} : opSem .tupD ws S = if ws.length < LIM then some (.tup ws) else none := by simp [opSem]
@[simp] theorem o_lstD {ws : List W} : opSem .lstD ws S = if ws.length < LIM then some (.lst ws) else none := by simp [opSem]
@[simp] theorem o_isi {t : IsT} : opSem (.isi t) [x] S = (isiOp t x S).map .bl := by simp [opSem]
@[simp] theorem o_index : opSem .mIndex [x, y] S = (indexSem S x y).map fun (j : Nat) => W.int (j : Int) := by simp [opSem]
@[simp] theorem o_count : opSem .mCount [x, y] S = (countSem S x y).map fun (j : Nat) => W.int (j : Int) := by simp [opSem]
@[simp] theorem o_addI : opAdd S (.int a) (.int b) = some (.int (a + b)) := rfl
@[simp] theorem o_mulI : opMul S (.int a) (.int b) = if CMul a b then some (.int (a * b)) else none := rfl
@[simp] theorem o_eqI : eqOp S (.int a) (.int b) = some (a == b) := rfl
@[simp] theorem o_ltI : ltSem S (.int a) (.int b) = some (decide (a < b)) := rfl
@[simp] theorem p_ff : partsOf false false [] = some (none, none) := rfl
@[simp] theorem p_tf : partsOf true false [.int a] = some (some a, none) := rfl
@[simp] theorem p_ft : partsOf false true [.int a] = some (none, some a) := rfl
@[simp] theorem p_tt : partsOf true true [.int a, .int b] = some (some a, some b) := rfl
end

theorem sortedSem_id {Q : W → Prop} (o : OrdW Q) {S : Sto} {xs : List W} (h : ∀ x ∈ xs, Q x) (hl : xs.length < LIM) : sortedSem S (.lst xs) = some (sortW xs) := by
  have h1 : datL 30 xs = true := datL_iff.mpr fun w hw => o.dat w (h w hw) 29
  have h2 : sortOk xs = true := by
    unfold sortOk
    simp only [Bool.and_eq_true, Bool.or_eq_true, List.all_eq_true]
    refine ⟨fun x hx y hy => o.ali x y (h x hx) (h y hy), ?_⟩
    rcases o.one with q | q
    · exact .inl fun x hx => q x (h x hx)
    · exact .inr fun x hx => by simpa using q x (h x hx)
  simp [sortedSem, lstOf, h1, h2, hl]
end Tw

namespace Tw
section
variable {cf : CallF} {ρ : Env} {S : Sto} {L : Nat}
@[simp] theorem s_new {m : Md} {c f : Nat} {as : List E} : ev cf (.new m c f as) ρ S = (evs cf as ρ S).bind fun ws S1 => newSem cf m c f ws S1 := by rw [ev]
@[simp] theorem s_mcall {m : Md} {c f : Nat} {a : E} {as : List E} : ev cf (.mcall m c f a as) ρ S = (ev cf a ρ S).bind fun w S1 => match recOf S1 w with
    | some (c', _) => if c' = c then (evs cf as ρ S1).bind fun ws S2 => callSem cf m f (w :: ws) S2 else .bad
    | none => .bad := by rw [ev] <;> rfl
@[simp] theorem s_fld {c i : Nat} {a : E} : ev cf (.fld c i a) ρ S = (ev cf a ρ S).bind fun w S1 => ofO (fldSem S1 c i w) S1 := by rw [ev]
@[simp] theorem s_isx {cs : List Nat} {a : E} : ev cf (.isx cs a) ρ S = (ev cf a ρ S).bind fun w S1 => ofO ((isxSem cs S1 w).map .bl) S1 := by rw [ev]
@[simp] theorem s_fstr {as : List E} : ev cf (.fstr as) ρ S = (evs cf as ρ S).bind fun ws S1 => match fcat ws with
    | some s => if s.length < LIM then .ok (.str s) S1 else .bad
    | none => .bad := by rw [ev] <;> rfl
@[simp] theorem s_disp {k v : E} : ev cf (.disp k v) ρ S = (ev cf k ρ S).bind fun x S1 => (ev cf v ρ S1).bind fun y S2 => if isKey false x then .ok (.ref S2.length) (S2 ++ [.dic false [x] [y]]) else .bad := by rw [ev]
@[simp] theorem s_dispT {k v : E} : ev cf (.dispT k v) ρ S = (ev cf k ρ S).bind fun x S1 => (ev cf v ρ S1).bind fun y S2 => if isKey true x then .ok (.ref S2.length) (S2 ++ [.dic true [x] [y]]) else .bad := by rw [ev]
@[simp] theorem s_setI {v o k : E} : exec cf L (.setI v o k) ρ S = (ev cf v ρ S).sr ρ fun v' S1 => (ev cf o ρ S1).sr ρ fun o' S2 => (ev cf k ρ S2).sr ρ fun k' S3 => match setSem S3 o' k' v' with
    | some S4 => .next ρ S4
    | none => .bad := by rw [exec] <;> rfl
@[simp] theorem s_setF {c i : Nat} {v o : E} : exec cf L (.setF c i v o) ρ S = (ev cf v ρ S).sr ρ fun v' S1 => (ev cf o ρ S1).sr ρ fun o' S2 => match setFld S2 c i o' v' with
    | some S3 => .next ρ S3
    | none => .bad := by rw [exec] <;> rfl
@[simp] theorem s_rais {c : Nat} : exec cf L (.rais c) ρ S = .ex ρ c S := by rw [exec]
@[simp] theorem s_wipe {vs : List Nat} : exec cf L (.wipe vs) ρ S = .next (wipe ρ vs) S := by rw [exec]
@[simp] theorem s_srx {α : Type} {c : Nat} {f : α → Sto → SR} : (Rs.ex c S).sr ρ f = .ex ρ c S := rfl
@[simp] theorem s_srb {α : Type} {f : α → Sto → SR} : (Rs.bad : Rs α).sr ρ f = .bad := rfl
@[simp] theorem s_bindx {α β : Type} {c : Nat} {f : α → Sto → Rs β} : (Rs.ex c S : Rs α).bind f = .ex c S := rfl
@[simp] theorem s_bindb {α β : Type} {f : α → Sto → Rs β} : (Rs.bad : Rs α).bind f = .bad := rfl
@[simp] theorem s_seqbad {f : Env → Sto → SR} : SR.bad.seq f = .bad := rfl
@[simp] theorem s_none {α : Type} : ofO (none : Option α) S = .bad := rfl
@[simp] theorem w_nil : wipe ρ [] = ρ := rfl
@[simp] theorem w_cons {v : Nat} {vs : List Nat} : wipe ρ (v :: vs) = (wipe ρ vs).set v none := rfl
@[simp] theorem t_tup {is : List Nat} {xs : List W} : bindT (.tup is) (.tup xs) ρ = setAll is xs ρ := rfl
@[simp] theorem t_nil : setAll [] [] ρ = some ρ := rfl
@[simp] theorem t_cons {i : Nat} {is : List Nat} {x : W} {xs : List W} : setAll (i :: is) (x :: xs) ρ = setAll is xs (ρ.set i (some x)) := rfl
@[simp] theorem u_none : unE none ρ = ρ := rfl
@[simp] theorem u_some {i : Nat} : unE (some i) ρ = ρ.set i none := rfl
@[simp] theorem unb_next {i : Option Nat} : (SR.next ρ S).unb i = .next (unE i ρ) S := rfl
@[simp] theorem unb_ret {i : Option Nat} {w : W} : (SR.ret w S).unb i = .ret w S := rfl
theorem s_whil {c : E} {body : List Stm} : exec cf L (.whil c body) ρ S = whileL (fun ρ' S' => ev cf c ρ' S') (fun ρ' S' => execs cf L body ρ' S') L ρ S := by rw [exec]
end
@[simp] theorem m_bl {α : Type} {c : Bool} {a b : α} {k : α} : (match W.bl c with
    | .bl true => a
    | .bl false => b
    | _ => k) = if c then a else b := by cases c <;> rfl
theorem forL_all {α : Type} {t : Tg} {body : Env → Sto → SR} {ρ : Env} {S : Sto} (enc : α → W) (good : α → Bool) (out : SR) (ho : ∀ ρ S, out ≠ .next ρ S) (hc : ∀ ρ S, out ≠ .cont ρ S) (hb : ∀ ρ S, out ≠ .brk ρ S) :
    ∀ {xs : List α}, (∀ x ∈ xs, ∃ ρ', bindT t (enc x) ρ = some ρ' ∧ body ρ' S = if good x then .next ρ S else out) → forL t body (xs.map enc) ρ S = if xs.all good then .next ρ S else out
  | [], _ => by simp [forL]
  | x :: xs, h => by
    obtain ⟨ρ', h1, h2⟩ := h x (by simp)
    have ih := forL_all enc good out ho hc hb (xs := xs) fun y hy => h y (by simp [hy])
    cases hg : good x with
    | true =>
      rw [hg, if_pos rfl] at h2
      simp only [List.map_cons, forL, h1, h2, List.all_cons, hg, Bool.true_and]
      exact ih
    | false =>
      rw [hg, if_neg (by simp)] at h2
      simp only [List.map_cons, forL, h1, h2, List.all_cons, hg, Bool.false_and, Bool.false_eq_true, if_false]
theorem forL_pl {α : Type} {t : Tg} {body : Env → Sto → SR} (enc : α → W) (P : Nat → Env → Sto → Prop) {all : List α} : ∀ {xs : List α} {j : Nat} {ρ : Env} {S : Sto}, all.drop j = xs → P j ρ S →
    (∀ j x ρ S, all[j]? = some x → P j ρ S → ∃ ρ' ρ2 S2, bindT t (enc x) ρ = some ρ' ∧ (body ρ' S = .next ρ2 S2 ∨ body ρ' S = .cont ρ2 S2) ∧ P (j + 1) ρ2 S2) → ∃ ρ2 S2, forL t body (xs.map enc) ρ S = .next ρ2 S2 ∧ P (j + xs.length) ρ2 S2
  | [], j, ρ, S, _, h, _ => ⟨ρ, S, by simp [forL], by simpa using h⟩
  | x :: xs, j, ρ, S, e, h, st => by
    have hx : all[j]? = some x := by
      have := congrArg List.head? e
      rw [List.head?_drop] at this
      simpa using this
    obtain ⟨ρ', ρ2, S2, h1, h2, h3⟩ := st j x ρ S hx h
    obtain ⟨ρ3, S3, h4, h5⟩ := forL_pl enc P (all := all) (xs := xs) (j := j + 1) (by rw [← List.drop_drop, e]; rfl) h3 st
    refine ⟨ρ3, S3, ?_, by simpa [Nat.add_comm, Nat.add_left_comm, Nat.add_assoc] using h5⟩
    simp only [List.map_cons, forL, h1]
    rcases h2 with h2 | h2 <;> rw [h2] <;> exact h4
theorem s_forD {cf : CallF} {ρ : Env} {S S1 : Sto} {L : Nat} {t : Tg} {both : Bool} {a : E} {body : List Stm} {n : Nat} {ks vs : List W} (h : ev cf a ρ S = .ok (.ref n) S1) (hS : S1[n]? = some (.dic both ks vs)) :
    exec cf L (.forD t both a body) ρ S = (forL t (fun ρ' S' => execs cf L body ρ' S') (if both then zip2 ks vs else vs) ρ (S1.set n .dead)).back n (.dic both ks vs) := by
  rw [exec, h]
  simp [hS]
@[simp] theorem back_next {ρ : Env} {S : Sto} {n : Nat} {o : Ob} : (SR.next ρ S).back n o = .next ρ (S.set n o) := rfl
theorem zip2_map {α β : Type} (f : α → W) (g : β → W) : ∀ {xs : List α} {ys : List β}, zip2 (xs.map f) (ys.map g) = (xs.zip ys).map fun p => W.tup [f p.1, g p.2]
  | [], _ => by simp [zip2]
  | _ :: _, [] => by simp [zip2]
  | x :: xs, y :: ys => by simp [zip2, zip2_map f g (xs := xs) (ys := ys)]
theorem shS_all {b : Bool} {g : Nat → Option W} : ∀ {S : Sto}, (∀ o ∈ S, ∃ o', shO b g o = some o') → ∃ S', shS b g S = some S' ∧ S'.length = S.length ∧ ∀ (i : Nat) (o : Ob), S[i]? = some o → ∃ o', shO b g o = some o' ∧ S'[i]? = some o'
  | [], _ => ⟨[], rfl, rfl, by simp⟩
  | o :: S, h => by
    obtain ⟨o', ho⟩ := h o (by simp)
    obtain ⟨S', h1, h2, h3⟩ := shS_all (S := S) fun q hq => h q (by simp [hq])
    refine ⟨o' :: S', by simp [shS, ho, h1], by simp [h2], fun i q hi => ?_⟩
    cases i with
    | zero =>
      simp at hi
      subst hi
      exact ⟨o', ho, rfl⟩
    | succ i => simpa using h3 i q (by simpa using hi)
mutual
/-- what holds no list and no cell is copied as it is -/
theorem sub_lf {b : Bool} {g : Nat → Option W} : ∀ {w : W}, lfree w = true → sub b g w = some w
  | .non, _ => rfl
  | .bl _, _ => rfl
  | .int _, _ => rfl
  | .str _, _ => rfl
  | .exn _, h => by simp [lfree] at h
  | .klst _, h => by simp [lfree] at h
  | .ref _, h => by simp [lfree] at h
  | .lst _, h => by simp [lfree] at h
  | .dic _ _ _, h => by simp [lfree] at h
  | .rcd _ _, h => by simp [lfree] at h
  | .tup xs, h => by
    simp only [lfree] at h
    simp [sub, subL_lf h]
theorem subL_lf {b : Bool} {g : Nat → Option W} : ∀ {ws : List W}, lfreeL ws = true → subL b g ws = some ws
  | [], _ => rfl
  | w :: ws, h => by
    simp only [lfreeL, Bool.and_eq_true] at h
    simp [subL, sub_lf h.1, subL_lf h.2]
end
theorem lfreeL_map {α : Type} {f : α → W} (h : ∀ a, lfree (f a) = true) : ∀ xs : List α, lfreeL (xs.map f) = true
  | [] => rfl
  | x :: xs => by simp [lfreeL, h x, lfreeL_map h xs]
theorem subL_map {α : Type} {b : Bool} {g : Nat → Option W} {f f' : α → W} (h : ∀ a, sub b g (f a) = some (f' a)) : ∀ xs : List α, subL b g (xs.map f) = some (xs.map f')
  | [] => rfl
  | x :: xs => by simp [subL, h x, subL_map h xs]
theorem rfreeL_map {α : Type} {f : α → W} (h : ∀ a, rfree (f a) = true) : ∀ xs : List α, rfreeL (xs.map f) = true
  | [] => rfl
  | x :: xs => by simp [rfreeL, h x, rfreeL_map h xs]
end Tw

namespace Tw
inductive At where
  | int | bl | str
def isAt : At → W → Prop
  | .int, w => ∃ i, w = .int i
  | .bl, w => ∃ b, w = .bl b
  | .str, w => ∃ s, w = .str s ∧ okStr s
def isAts : List At → List W → Prop
  | [], ws => ws = []
  | a :: as, ws => ∃ w r, ws = w :: r ∧ isAt a w ∧ isAts as r
theorem at_eq {a : At} {x y : W} (hx : isAt a x) (hy : isAt a y) : eqW x y = true ↔ x = y := by
  cases a
  · obtain ⟨i, rfl⟩ := hx; obtain ⟨j, rfl⟩ := hy; simp [eqW]
  · obtain ⟨i, rfl⟩ := hx; obtain ⟨j, rfl⟩ := hy; simp [eqW]
  · obtain ⟨i, rfl, _⟩ := hx; obtain ⟨j, rfl, _⟩ := hy; simp [eqW]
theorem at_irr {a : At} {x : W} (hx : isAt a x) : ltW x x = false := by
  cases a
  · obtain ⟨i, rfl⟩ := hx; simp [ltW]
  · obtain ⟨i, rfl⟩ := hx; cases i <;> rfl
  · obtain ⟨i, rfl, _⟩ := hx; simp [ltW, List.lt_irrefl]
theorem at_tr {a : At} {x y z : W} (hx : isAt a x) (hy : isAt a y) (hz : isAt a z) (h1 : ltW x y = true) (h2 : ltW y z = true) : ltW x z = true := by
  cases a
  · obtain ⟨i, rfl⟩ := hx; obtain ⟨j, rfl⟩ := hy; obtain ⟨k, rfl⟩ := hz; simp [ltW] at *; omega
  · obtain ⟨i, rfl⟩ := hx; obtain ⟨j, rfl⟩ := hy; obtain ⟨k, rfl⟩ := hz; cases i <;> cases j <;> cases k <;> simp [ltW] at *
  · exact ordStr.tr x y z hx hy hz h1 h2
theorem at_tot {a : At} {x y : W} (hx : isAt a x) (hy : isAt a y) (h : x ≠ y) : ltW x y = true ∨ ltW y x = true := by
  cases a
  · exact ordInt.tot x y hx hy h
  · obtain ⟨i, rfl⟩ := hx; obtain ⟨j, rfl⟩ := hy; cases i <;> cases j <;> simp [ltW] at *
  · exact ordStr.tot x y hx hy h
theorem at_dat {a : At} {x : W} (hx : isAt a x) (d : Nat) : datW d x = true := by
  cases a
  · obtain ⟨i, rfl⟩ := hx; cases d <;> rfl
  · obtain ⟨i, rfl⟩ := hx; cases d <;> rfl
  · obtain ⟨i, rfl, h⟩ := hx
    cases d <;> (simp only [datW, Bool.and_eq_true, List.all_eq_true, decide_eq_true_eq]; exact h)
theorem at_rf {a : At} {x : W} (hx : isAt a x) : rfree x = true := by
  cases a
  · obtain ⟨i, rfl⟩ := hx; rfl
  · obtain ⟨i, rfl⟩ := hx; rfl
  · obtain ⟨i, rfl, h⟩ := hx; rfl
theorem at_ali {a : At} {x y : W} (hx : isAt a x) (hy : isAt a y) : alikeW x y = true := by
  cases a
  · obtain ⟨i, rfl⟩ := hx; obtain ⟨j, rfl⟩ := hy; rfl
  · obtain ⟨i, rfl⟩ := hx; obtain ⟨j, rfl⟩ := hy; rfl
  · obtain ⟨i, rfl, _⟩ := hx; obtain ⟨j, rfl, _⟩ := hy; rfl
theorem ats_eq : ∀ {as : List At} {xs ys : List W}, isAts as xs → isAts as ys → (eqL xs ys = true ↔ xs = ys)
  | [], _, _, hx, hy => by rw [show _ = [] from hx, show _ = [] from hy]; simp [eqL]
  | a :: as, _, _, ⟨x, xs, rfl, h1, h2⟩, ⟨y, ys, rfl, g1, g2⟩ => by
    simp only [eqL, Bool.and_eq_true, at_eq h1 g1, ats_eq h2 g2, List.cons.injEq]
theorem ats_irr : ∀ {as : List At} {xs : List W}, isAts as xs → ltL xs xs = false
  | [], _, hx => by rw [show _ = [] from hx]; rfl
  | a :: as, _, ⟨x, xs, rfl, h1, h2⟩ => by
    simp only [ltL, (at_eq h1 h1).mpr rfl, if_true, ats_irr h2]
theorem ltL_cons {a : At} {x y : W} {xs ys : List W} (h1 : isAt a x) (g1 : isAt a y) : ltL (x :: xs) (y :: ys) = true ↔ ltW x y = true ∨ (x = y ∧ ltL xs ys = true) := by
  simp only [ltL]
  by_cases e : x = y
  · subst e
    simp [(at_eq h1 h1).mpr rfl, at_irr h1]
  · have : eqW x y = false := by
      cases h : eqW x y with
      | false => rfl
      | true => exact absurd ((at_eq h1 g1).mp h) e
    simp [this, e]
theorem ats_tr : ∀ {as : List At} {xs ys zs : List W}, isAts as xs → isAts as ys → isAts as zs → ltL xs ys = true → ltL ys zs = true → ltL xs zs = true
  | [], _, _, _, hx, hy, hz, h, _ => by rw [show _ = [] from hx, show _ = [] from hy] at h; cases h
  | a :: as, _, _, _, ⟨x, xs, rfl, h1, h2⟩, ⟨y, ys, rfl, g1, g2⟩, ⟨z, zs, rfl, k1, k2⟩, p, q => by
    rw [ltL_cons h1 g1] at p
    rw [ltL_cons g1 k1] at q
    rw [ltL_cons h1 k1]
    rcases p with p | ⟨rfl, p⟩
    · rcases q with q | ⟨rfl, q⟩
      · exact .inl (at_tr h1 g1 k1 p q)
      · exact .inl p
    · rcases q with q | ⟨rfl, q⟩
      · exact .inl q
      · exact .inr ⟨rfl, ats_tr h2 g2 k2 p q⟩
theorem ats_tot : ∀ {as : List At} {xs ys : List W}, isAts as xs → isAts as ys → xs ≠ ys → ltL xs ys = true ∨ ltL ys xs = true
  | [], _, _, hx, hy, h => by rw [show _ = [] from hx, show _ = [] from hy] at h; exact absurd rfl h
  | a :: as, _, _, ⟨x, xs, rfl, h1, h2⟩, ⟨y, ys, rfl, g1, g2⟩, h => by
    rw [ltL_cons h1 g1, ltL_cons g1 h1]
    by_cases e : x = y
    · subst e
      rcases ats_tot h2 g2 (fun z => h (by rw [z])) with q | q
      · exact .inl (.inr ⟨rfl, q⟩)
      · exact .inr (.inr ⟨rfl, q⟩)
    · rcases at_tot h1 g1 e with q | q
      · exact .inl (.inl q)
      · exact .inr (.inl q)
theorem ats_dat : ∀ {as : List At} {xs : List W}, isAts as xs → ∀ d, datL d xs = true
  | [], _, hx, d => by rw [show _ = [] from hx]; rfl
  | a :: as, _, ⟨x, xs, rfl, h1, h2⟩, d => by simp [datL, at_dat h1, ats_dat h2]
theorem ats_rf : ∀ {as : List At} {xs : List W}, isAts as xs → rfreeL xs = true
  | [], _, hx => by rw [show _ = [] from hx]; rfl
  | a :: as, _, ⟨x, xs, rfl, h1, h2⟩ => by simp [rfreeL, at_rf h1, ats_rf h2]
theorem ats_ali : ∀ {as : List At} {xs ys : List W}, isAts as xs → isAts as ys → alikeL xs ys = true
  | [], _, _, hx, hy => by rw [show _ = [] from hx, show _ = [] from hy]; rfl
  | a :: as, _, _, ⟨x, xs, rfl, h1, h2⟩, ⟨y, ys, rfl, g1, g2⟩ => by simp [alikeL, at_ali h1 g1, ats_ali h2 g2]
theorem ordTup {a : At} {as : List At} : OrdW fun w => ∃ ws, w = .tup ws ∧ isAts (a :: as) ws := by
  refine ⟨?_, ?_, ?_, ?_, ?_, ?_, ?_, .inl ?_, ?_⟩
  · rintro _ _ ⟨xs, rfl, hx⟩ ⟨ys, rfl, hy⟩
    rw [eqW, ats_eq hx hy]
    simp
  · rintro _ ⟨xs, rfl, hx⟩
    rw [ltW]; exact ats_irr hx
  · rintro _ _ _ ⟨xs, rfl, hx⟩ ⟨ys, rfl, hy⟩ ⟨zs, rfl, hz⟩ h1 h2
    rw [ltW] at *
    exact ats_tr hx hy hz h1 h2
  · rintro _ _ ⟨xs, rfl, hx⟩ ⟨ys, rfl, hy⟩ h
    rw [ltW, ltW]
    exact ats_tot hx hy fun z => h (by rw [z])
  · rintro _ ⟨xs, rfl, hx⟩ d
    rw [datW]; exact ats_dat hx d
  · rintro _ ⟨xs, rfl, hx⟩
    rw [rfree]; exact ats_rf hx
  · rintro _ _ ⟨xs, rfl, hx⟩ ⟨ys, rfl, hy⟩
    rw [alikeW]; exact ats_ali hx hy
  · rintro _ ⟨xs, rfl, x, r, rfl, _⟩; rfl
  · rintro _ ⟨xs, rfl, hx⟩; rfl
def sortBy {α : Type} (enc : α → W) (xs : List α) : List α := xs.mergeSort fun a b => !ltW (enc b) (enc a)
theorem sortW_map {α : Type} (enc : α → W) (xs : List α) : sortW (xs.map enc) = (sortBy enc xs).map enc := by
  unfold sortW sortBy
  rw [List.map_mergeSort (s := fun a b => !ltW b a) (fun a _ b _ => rfl)]
theorem sortBy_perm {α : Type} (enc : α → W) (xs : List α) : (sortBy enc xs).Perm xs := List.mergeSort_perm _ _
theorem sortBy_len {α : Type} (enc : α → W) (xs : List α) : (sortBy enc xs).length = xs.length := (sortBy_perm enc xs).length_eq
theorem sorted_map {α : Type} {Q : W → Prop} (o : OrdW Q) (enc : α → W) {S : Sto} {x : W} {xs : List α} (hl : lstOf S x = some (xs.map enc)) (hq : ∀ a ∈ xs, Q (enc a)) (hn : xs.length < LIM) : sortedSem S x = some ((sortBy enc xs).map enc) := by
  have h := sortedSem_id o (S := S) (xs := xs.map enc) (by
    intro w hw
    obtain ⟨a, ha, rfl⟩ := List.mem_map.mp hw
    exact hq a ha) (by simpa using hn)
  unfold sortedSem at h ⊢
  rw [hl]
  simp only [lstOf] at h
  dsimp only
  rw [h, sortW_map]
theorem forL_find {α : Type} {t : Tg} {body : Env → Sto → SR} {ρ : Env} {S : Sto} (enc : α → W) (good : α → Bool) (out : α → SR) (ho : ∀ x, match out x with | .ret _ _ => True | .ex _ _ _ => True | _ => False) :
    ∀ {xs : List α}, (∀ x ∈ xs, ∃ ρ', bindT t (enc x) ρ = some ρ' ∧ body ρ' S = if good x then .next ρ S else out x) → forL t body (xs.map enc) ρ S = match xs.find? fun x => !good x with
      | none => .next ρ S
      | some x => out x
  | [], _ => by simp [forL]
  | x :: xs, h => by
    obtain ⟨ρ', h1, h2⟩ := h x (by simp)
    have ih := forL_find enc good out ho (xs := xs) fun y hy => h y (by simp [hy])
    cases hg : good x with
    | true =>
      rw [hg, if_pos rfl] at h2
      simp only [List.map_cons, forL, h1, h2, List.find?_cons, hg, Bool.not_true]
      exact ih
    | false =>
      rw [hg, if_neg (by simp)] at h2
      have hx := ho x
      simp only [List.map_cons, forL, h1, h2, List.find?_cons, hg, Bool.not_false]
      cases e : out x <;> rw [e] at hx <;> first | rfl | exact hx.elim
theorem comp_map {α β : Type} {cf : CallF} {ρ : Env} {S : Sto} {elt : E} {t : Tg} {k : ItK} {srcs : List E} {own : List Nat} {ws : List W} {xs : List α} (enc : α → W) (enc' : β → W) (f : α → β) (h : evs cf srcs ρ S = .ok ws S) (hx : itVals k ws = some (xs.map enc)) (hl : xs.length < LIM)
    (he : ∀ x ∈ xs, ∃ ρ', bindT t (enc x) (wipe ρ own) = some ρ' ∧ ev cf elt ρ' S = .ok (enc' (f x)) S) : ev cf (.comp elt t k srcs [] own) ρ S = .ok (.lst ((xs.map f).map enc')) S := by
  refine s_comp h hx (by simpa using hl) ?_
  have key : ∀ ys : List α, (∀ y ∈ ys, y ∈ xs) → compL (fun ρ' S' => ev cf elt ρ' S') (fun ρ' S' => evAll cf [] ρ' S') t (wipe ρ own) (ys.map enc) S = .ok ((ys.map f).map enc') S := by
    intro ys
    induction ys with
    | nil => intro _; simp [compL]
    | cons y ys ih =>
      intro hy
      obtain ⟨ρ', h1, h2⟩ := he y (hy y (by simp))
      have ih := ih fun z hz => hy z (by simp [hz])
      simp only [s_all0] at ih ⊢
      simp only [List.map_cons, compL, h1, h2, ih, Rs.bind]
  exact key xs fun y hy => hy
theorem execs_app {cf : CallF} {L : Nat} {ρ : Env} {S : Sto} : ∀ (xs ys : List Stm), execs cf L (xs ++ ys) ρ S = (execs cf L xs ρ S).seq fun ρ1 S1 => execs cf L ys ρ1 S1
  | [], ys => by simp
  | x :: xs, ys => by
    simp only [List.cons_append, s_execs1]
    cases exec cf L x ρ S with
    | next ρ1 S1 => simp only [s_seq]; exact execs_app xs ys
    | ret w S1 => rfl
    | brk ρ1 S1 => rfl
    | cont ρ1 S1 => rfl
    | ex ρ1 c S1 => rfl
    | bad => rfl
theorem erase_map {α β : Type} (f : α → β) : ∀ (xs : List α) (j : Nat), (xs.map f).eraseIdx j = (xs.eraseIdx j).map f
  | [], _ => by simp
  | x :: xs, 0 => by simp
  | x :: xs, j + 1 => by simp [erase_map f xs j]
end Tw

namespace Tw
inductive M (α : Type) where
  | ok (a : α)
  | ex (c : Nat)
  | bad
namespace M
variable {α β γ : Type}
def bind (m : M α) (f : α → M β) : M β :=
  match m with
  | ok a => f a
  | ex c => ex c
  | bad => bad
@[simp] theorem bind_ok {a : α} {f : α → M β} : (M.ok a).bind f = f a := rfl
@[simp] theorem bind_ex {c : Nat} {f : α → M β} : (M.ex c : M α).bind f = .ex c := rfl
@[simp] theorem bind_bad {f : α → M β} : (M.bad : M α).bind f = .bad := rfl
theorem bind_assoc {m : M α} {f : α → M β} {g : β → M γ} : (m.bind f).bind g = m.bind fun a => (f a).bind g := by cases m <;> rfl
theorem bind_pure {m : M α} : (m.bind fun a => .ok a) = m := by cases m <;> rfl
theorem bind_ite {c : Prop} [Decidable c] {a b : M α} {f : α → M β} : (if c then a else b).bind f = if c then a.bind f else b.bind f := by split <;> rfl
def of : Option α → M α
  | some a => .ok a
  | none => .bad
@[simp] theorem of_some {a : α} : M.of (some a) = .ok a := rfl
@[simp] theorem of_none : M.of (none : Option α) = .bad := rfl
def clean : M α → M α
  | .ok a => .ok a
  | _ => .bad
@[simp] theorem clean_ok {a : α} : (M.ok a).clean = .ok a := rfl
@[simp] theorem clean_ex {c : Nat} : (M.ex c : M α).clean = .bad := rfl
@[simp] theorem clean_bad : (M.bad : M α).clean = .bad := rfl
def chk (b : Bool) (m : M α) : M α := if b = true then m else .bad
@[simp] theorem chk_true {m : M α} : M.chk true m = m := rfl
@[simp] theorem chk_false {m : M α} : M.chk false m = .bad := rfl
def fold {σ : Type} (f : σ → α → M σ) : σ → List α → M σ
  | s, [] => .ok s
  | s, x :: xs => (f s x).bind fun s' => fold f s' xs
@[simp] theorem fold_nil {σ : Type} {f : σ → α → M σ} {s : σ} : fold f s [] = .ok s := rfl
theorem fold_cons {σ : Type} {f : σ → α → M σ} {s : σ} {x : α} {xs : List α} : fold f s (x :: xs) = (f s x).bind fun s' => fold f s' xs := rfl
def map (f : α → M β) : List α → M (List β)
  | [] => .ok []
  | x :: xs => (f x).clean.bind fun y => (map f xs).bind fun ys => .ok (y :: ys)
def filt (c : α → M Bool) (f : α → M β) : List α → M (List β)
  | [] => .ok []
  | x :: xs => (c x).clean.bind fun b => if b = true then (f x).clean.bind fun y => (filt c f xs).bind fun ys => .ok (y :: ys) else filt c f xs
theorem map_ok {f : α → M β} {g : α → β} : ∀ {xs : List α}, (∀ x ∈ xs, f x = .ok (g x)) → map f xs = .ok (xs.map g)
  | [], _ => rfl
  | x :: xs, h => by
    have ih := map_ok (f := f) (g := g) (xs := xs) fun y hy => h y (by simp [hy])
    simp only [map, h x (by simp), clean_ok, bind_ok, ih, List.map_cons]
theorem filt_ok {c : α → M Bool} {p : α → Bool} {f : α → M β} {g : α → β} : ∀ {xs : List α}, (∀ x ∈ xs, c x = .ok (p x)) → (∀ x ∈ xs, p x = true → f x = .ok (g x)) → filt c f xs = .ok ((xs.filter p).map g)
  | [], _, _ => rfl
  | x :: xs, h, h' => by
    have ih := filt_ok (c := c) (p := p) (f := f) (g := g) (xs := xs) (fun y hy => h y (by simp [hy])) (fun y hy => h' y (by simp [hy]))
    simp only [filt, h x (by simp), clean_ok, bind_ok, ih]
    cases hp : p x with
    | true => simp [h' x (by simp) hp, hp]
    | false => simp [hp]
theorem fold_at {σ : Type} {f : σ → α → M σ} {all : List α} (P : Nat → σ → Prop) (st : ∀ j (hj : j < all.length) s, P j s → ∃ s', f s all[j] = .ok s' ∧ P (j + 1) s') {s : σ} (h : P 0 s) : ∃ s', fold f s all = .ok s' ∧ P all.length s' := by
  have key : ∀ (xs : List α) (j : Nat) (s : σ), all.drop j = xs → P j s → ∃ s', fold f s xs = .ok s' ∧ P (j + xs.length) s' := by
    intro xs
    induction xs with
    | nil => intro j s _ h; exact ⟨s, rfl, h⟩
    | cons x xs ih =>
      intro j s e h
      have hj : j < all.length := by
        rcases Nat.lt_or_ge j all.length with q | q
        · exact q
        · rw [List.drop_eq_nil_of_le q] at e; cases e
      rw [List.drop_eq_getElem_cons hj] at e
      injection e with e1 e2
      obtain ⟨s', h1, h2⟩ := st j hj s h
      obtain ⟨s2, h3, h4⟩ := ih (j + 1) s' e2 h2
      refine ⟨s2, ?_, by simpa [Nat.add_comm, Nat.add_left_comm, Nat.add_assoc] using h4⟩
      rw [fold_cons, ← e1, h1]
      exact h3
  simpa using key all 0 s rfl h
def whil {σ : Type} (c : σ → M Bool) (f : σ → M σ) : Nat → σ → M σ
  | 0, _ => .bad
  | k + 1, s => (c s).bind fun b => if b = true then (f s).bind fun s' => whil c f k s' else .ok s
theorem whil_meas {σ : Type} {c : σ → M Bool} {f : σ → M σ} (I : σ → Prop) (μ : σ → Nat) (Q : σ → Prop) (st : ∀ s, I s → (c s = .ok false ∧ Q s) ∨ (c s = .ok true ∧ ∃ s', f s = .ok s' ∧ I s' ∧ μ s' < μ s)) :
    ∀ (k : Nat) (s : σ), μ s < k → I s → ∃ s', whil c f k s = .ok s' ∧ Q s'
  | 0, _, h, _ => absurd h (Nat.not_lt_zero _)
  | k + 1, s, h, hi => by
    rcases st s hi with ⟨h1, h2⟩ | ⟨h1, s', h2, h3, h4⟩
    · exact ⟨s, by simp [whil, h1], h2⟩
    · obtain ⟨s2, h5, h6⟩ := whil_meas I μ Q st k s' (by omega) h3
      exact ⟨s2, by simp [whil, h1, h2, h5], h6⟩
def tryC {σ : Type} (m : M σ) (ks : List Nat) (cl : Nat) (h : Nat → M σ) : M σ :=
  match m with
  | .ok s => .ok s
  | .ex c => if ks.contains c = true then (if subX c cl = true then h c else .ex c) else .bad
  | .bad => .bad
@[simp] theorem tryC_ok {σ : Type} {s : σ} {ks : List Nat} {cl : Nat} {h : Nat → M σ} : tryC (.ok s) ks cl h = .ok s := rfl
end M
inductive Fl (σ τ : Type) where
  | nx (s : σ)
  | bk (s : σ)
  | rt (r : τ)
namespace Fl
def elim {σ τ : Type} {ω : Type} (z : Fl σ τ) (k : σ → M ω) (r : τ → M ω) : M ω :=
  match z with
  | .nx s => k s
  | .bk s => k s
  | .rt x => r x
@[simp] theorem elim_nx {σ τ ω : Type} {s : σ} {k : σ → M ω} {r : τ → M ω} : (Fl.nx s).elim k r = k s := rfl
@[simp] theorem elim_bk {σ τ ω : Type} {s : σ} {k : σ → M ω} {r : τ → M ω} : (Fl.bk s).elim k r = k s := rfl
@[simp] theorem elim_rt {σ τ ω : Type} {s : τ} {k : σ → M ω} {r : τ → M ω} : (Fl.rt s).elim k r = r s := rfl
end Fl
namespace M
variable {α σ τ : Type}
def foldF (f : σ → α → M (Fl σ τ)) : σ → List α → M (Fl σ τ)
  | s, [] => .ok (.nx s)
  | s, x :: xs => (f s x).bind fun z => match z with
    | .nx s' => foldF f s' xs
    | .bk s' => .ok (.nx s')
    | .rt r => .ok (.rt r)
theorem foldF_cons {f : σ → α → M (Fl σ τ)} {s : σ} {x : α} {xs : List α} : foldF f s (x :: xs) = (f s x).bind fun z => match z with
    | .nx s' => foldF f s' xs
    | .bk s' => .ok (.nx s')
    | .rt r => .ok (.rt r) := rfl
end M

structure En (α : Type) where
  en : α → W
  rf : ∀ a, rfree (en a) = true
  lf : Bool
  hl : lf = true → ∀ a, lfree (en a) = true
inductive Tr where
  | w (x : W)
  | t (xs : List Tr)
  | h (xs : List Tr)
  | l (xs : List Tr)
  | d (b : Bool) (ks : List W) (vs : List Tr)
  | o (c : Nat) (xs : List Tr)
mutual
def TrOk (S : Sto) : Tr → W → List Nat → Prop
  | .w x, w, f => w = x ∧ rfree x = true ∧ f = []
  | .t ts, w, f => ∃ ws, w = .tup ws ∧ TrsOk S ts ws f
  | .h ts, w, f => ∃ ws, w = .lst ws ∧ TrsOk S ts ws f
  | .l ts, w, f => ∃ n ws f', w = .ref n ∧ f = n :: f' ∧ S[n]? = some (.lst ws) ∧ TrsOk S ts ws f'
  | .d b ks ts, w, f => ∃ n ws f', w = .ref n ∧ f = n :: f' ∧ S[n]? = some (.dic b ks ws) ∧ lfreeL ks = true ∧ TrsOk S ts ws f'
  | .o c ts, w, f => ∃ n ws f', w = .ref n ∧ f = n :: f' ∧ S[n]? = some (.ins c ws) ∧ TrsOk S ts ws f'
def TrsOk (S : Sto) : List Tr → List W → List Nat → Prop
  | [], ws, f => ws = [] ∧ f = []
  | t :: ts, ws, f => ∃ w ws' f1 f2, ws = w :: ws' ∧ f = f1 ++ f2 ∧ TrOk S t w f1 ∧ TrsOk S ts ws' f2
end
mutual
def flat : Tr → W
  | .w x => x
  | .t ts => .tup (flats ts)
  | .h ts => .lst (flats ts)
  | .l ts => .lst (flats ts)
  | .d b ks ts => .dic b ks (flats ts)
  | .o c ts => .rcd c (flats ts)
def flats : List Tr → List W
  | [] => []
  | t :: ts => flat t :: flats ts
end
mutual
def dep : Tr → Nat
  | .w _ => 0
  | .t ts => deps ts
  | .h ts => deps ts
  | .l ts => deps ts + 1
  | .d _ _ ts => deps ts + 1
  | .o _ ts => deps ts + 1
def deps : List Tr → Nat
  | [] => 0
  | t :: ts => max (dep t) (deps ts)
end
mutual
def stri : Tr → Bool
  | .w x => lfree x
  | .t ts => stris ts
  | .h _ => false
  | .l ts => stris ts
  | .d _ _ ts => stris ts
  | .o _ ts => stris ts
def stris : List Tr → Bool
  | [] => true
  | t :: ts => stri t && stris ts
end
mutual
/-- what stands elsewhere does not matter -/
theorem TrOk.frame {S S' : Sto} : ∀ {t : Tr} {w : W} {f : List Nat}, (∀ n ∈ f, S'[n]? = S[n]?) → TrOk S t w f → TrOk S' t w f
  | .w x, w, f, _, h => h
  | .t ts, w, f, hf, ⟨ws, h1, h2⟩ => ⟨ws, h1, TrsOk.frame hf h2⟩
  | .h ts, w, f, hf, ⟨ws, h1, h2⟩ => ⟨ws, h1, TrsOk.frame hf h2⟩
  | .l ts, w, f, hf, ⟨n, ws, f', h1, h2, h3, h4⟩ => ⟨n, ws, f', h1, h2, by rw [hf n (by simp [h2])]; exact h3, TrsOk.frame (fun m hm => hf m (by simp [h2, hm])) h4⟩
  | .d b ks ts, w, f, hf, ⟨n, ws, f', h1, h2, h3, h0, h4⟩ => ⟨n, ws, f', h1, h2, by rw [hf n (by simp [h2])]; exact h3, h0, TrsOk.frame (fun m hm => hf m (by simp [h2, hm])) h4⟩
  | .o c ts, w, f, hf, ⟨n, ws, f', h1, h2, h3, h4⟩ => ⟨n, ws, f', h1, h2, by rw [hf n (by simp [h2])]; exact h3, TrsOk.frame (fun m hm => hf m (by simp [h2, hm])) h4⟩
theorem TrsOk.frame {S S' : Sto} : ∀ {ts : List Tr} {ws : List W} {f : List Nat}, (∀ n ∈ f, S'[n]? = S[n]?) → TrsOk S ts ws f → TrsOk S' ts ws f
  | [], ws, f, _, h => h
  | t :: ts, ws, f, hf, ⟨w, ws', f1, f2, h1, h2, h3, h4⟩ => ⟨w, ws', f1, f2, h1, h2, TrOk.frame (fun n hn => hf n (by simp [h2, hn])) h3, TrsOk.frame (fun n hn => hf n (by simp [h2, hn])) h4⟩
end
mutual
theorem TrOk.dom {S : Sto} : ∀ {t : Tr} {w : W} {f : List Nat}, TrOk S t w f → ∀ n ∈ f, n < S.length
  | .w x, w, f, ⟨_, _, h⟩, n, hn => by rw [h] at hn; cases hn
  | .t ts, w, f, ⟨ws, h1, h2⟩, n, hn => TrsOk.dom h2 n hn
  | .h ts, w, f, ⟨ws, h1, h2⟩, n, hn => TrsOk.dom h2 n hn
  | .l ts, w, f, ⟨m, ws, f', h1, h2, h3, h4⟩, n, hn => by
    rw [h2] at hn
    rcases List.mem_cons.mp hn with q | q
    · rw [q]; exact (List.getElem?_eq_some_iff.mp h3).1
    · exact TrsOk.dom h4 n q
  | .d b ks ts, w, f, ⟨m, ws, f', h1, h2, h3, h0, h4⟩, n, hn => by
    rw [h2] at hn
    rcases List.mem_cons.mp hn with q | q
    · rw [q]; exact (List.getElem?_eq_some_iff.mp h3).1
    · exact TrsOk.dom h4 n q
  | .o c ts, w, f, ⟨m, ws, f', h1, h2, h3, h4⟩, n, hn => by
    rw [h2] at hn
    rcases List.mem_cons.mp hn with q | q
    · rw [q]; exact (List.getElem?_eq_some_iff.mp h3).1
    · exact TrsOk.dom h4 n q
theorem TrsOk.dom {S : Sto} : ∀ {ts : List Tr} {ws : List W} {f : List Nat}, TrsOk S ts ws f → ∀ n ∈ f, n < S.length
  | [], ws, f, ⟨_, h⟩, n, hn => by rw [h] at hn; cases hn
  | t :: ts, ws, f, ⟨w, ws', f1, f2, h1, h2, h3, h4⟩, n, hn => by
    rw [h2] at hn
    rcases List.mem_append.mp hn with q | q
    · exact TrOk.dom h3 n q
    · exact TrsOk.dom h4 n q
end
mutual
theorem TrOk.vw {S : Sto} : ∀ {t : Tr} {w : W} {f : List Nat} (k : Nat), dep t ≤ k → TrOk S t w f → sub false (lev false S k) w = some (flat t)
  | .w x, w, f, k, _, ⟨h1, h2, _⟩ => by rw [h1]; exact sub_id h2
  | .t ts, w, f, k, hd, ⟨ws, h1, h2⟩ => by
    rw [h1]
    simp only [sub, flat, TrsOk.vw k (by simpa [dep] using hd) h2, Option.map_some]
  | .h ts, w, f, k, hd, ⟨ws, h1, h2⟩ => by
    rw [h1]
    simp only [sub, flat, TrsOk.vw k (by simpa [dep] using hd) h2, Option.map_some, Bool.false_eq_true, if_false]
  | .l ts, w, f, 0, hd, _ => by simp [dep] at hd
  | .l ts, w, f, k + 1, hd, ⟨n, ws, f', h1, h2, h3, h4⟩ => by
    rw [h1]
    simp only [sub, lev, cellW, h3, flat, TrsOk.vw k (by simp only [dep] at hd; omega) h4, Option.map_some]
  | .d b ks ts, w, f, 0, hd, _ => by simp [dep] at hd
  | .d b ks ts, w, f, k + 1, hd, ⟨n, ws, f', h1, h2, h3, h0, h4⟩ => by
    rw [h1]
    simp only [sub, lev, cellW, h3, flat, TrsOk.vw k (by simp only [dep] at hd; omega) h4, subL_lf h0, Option.map_some, Option.bind_some]
  | .o c ts, w, f, 0, hd, _ => by simp [dep] at hd
  | .o c ts, w, f, k + 1, hd, ⟨n, ws, f', h1, h2, h3, h4⟩ => by
    rw [h1]
    simp only [sub, lev, cellW, h3, flat, TrsOk.vw k (by simp only [dep] at hd; omega) h4, Option.map_some]
theorem TrsOk.vw {S : Sto} : ∀ {ts : List Tr} {ws : List W} {f : List Nat} (k : Nat), deps ts ≤ k → TrsOk S ts ws f → subL false (lev false S k) ws = some (flats ts)
  | [], ws, f, k, _, ⟨h1, _⟩ => by rw [h1]; rfl
  | t :: ts, ws, f, k, hd, ⟨w, ws', f1, f2, h1, h2, h3, h4⟩ => by
    simp only [deps] at hd
    rw [h1]
    simp only [subL, flats, TrOk.vw k (by omega) h3, TrsOk.vw k (by omega) h4, Option.map_some, Option.bind_some]
end
mutual
theorem TrOk.vwB {S : Sto} : ∀ {t : Tr} {w : W} {f : List Nat} (k : Nat), dep t ≤ k → stri t = true → TrOk S t w f → sub true (lev true S k) w = some (flat t)
  | .w x, w, f, k, _, hs, ⟨h1, h2, _⟩ => by rw [h1]; exact sub_lf (by simpa [stri] using hs)
  | .t ts, w, f, k, hd, hs, ⟨ws, h1, h2⟩ => by
    rw [h1]
    simp only [sub, flat, TrsOk.vwB k (by simpa [dep] using hd) (by simpa [stri] using hs) h2, Option.map_some]
  | .h ts, w, f, k, hd, hs, _ => by simp [stri] at hs
  | .l ts, w, f, 0, hd, _, _ => by simp [dep] at hd
  | .l ts, w, f, k + 1, hd, hs, ⟨n, ws, f', h1, h2, h3, h4⟩ => by
    rw [h1]
    simp only [sub, lev, cellW, h3, flat, TrsOk.vwB k (by simp only [dep] at hd; omega) (by simpa [stri] using hs) h4, Option.map_some]
  | .d b ks ts, w, f, 0, hd, _, _ => by simp [dep] at hd
  | .d b ks ts, w, f, k + 1, hd, hs, ⟨n, ws, f', h1, h2, h3, h0, h4⟩ => by
    rw [h1]
    simp only [sub, lev, cellW, h3, flat, TrsOk.vwB k (by simp only [dep] at hd; omega) (by simpa [stri] using hs) h4, subL_lf h0, Option.map_some, Option.bind_some]
  | .o c ts, w, f, 0, hd, _, _ => by simp [dep] at hd
  | .o c ts, w, f, k + 1, hd, hs, ⟨n, ws, f', h1, h2, h3, h4⟩ => by
    rw [h1]
    simp only [sub, lev, cellW, h3, flat, TrsOk.vwB k (by simp only [dep] at hd; omega) (by simpa [stri] using hs) h4, Option.map_some]
theorem TrsOk.vwB {S : Sto} : ∀ {ts : List Tr} {ws : List W} {f : List Nat} (k : Nat), deps ts ≤ k → stris ts = true → TrsOk S ts ws f → subL true (lev true S k) ws = some (flats ts)
  | [], ws, f, k, _, _, ⟨h1, _⟩ => by rw [h1]; rfl
  | t :: ts, ws, f, k, hd, hs, ⟨w, ws', f1, f2, h1, h2, h3, h4⟩ => by
    simp only [deps] at hd
    simp only [stris, Bool.and_eq_true] at hs
    rw [h1]
    simp only [subL, flats, TrOk.vwB k (by omega) hs.1 h3, TrsOk.vwB k (by omega) hs.2 h4, Option.map_some, Option.bind_some]
end
end Tw

namespace Tw
section
variable {α β γ δ ε κ ν : Type}
theorem rfL_map (e : En α) (xs : List α) : rfreeL (xs.map e.en) = true := rfreeL_map e.rf xs
def eInt : En Int := ⟨.int, fun _ => rfl, true, fun _ _ => rfl⟩
def eBool : En Bool := ⟨.bl, fun _ => rfl, true, fun _ _ => rfl⟩
def eStr : En (List Nat) := ⟨.str, fun _ => rfl, true, fun _ _ => rfl⟩
def eNon : En Unit := ⟨fun _ => .non, fun _ => rfl, true, fun _ _ => rfl⟩
def eK : En (List Int) := ⟨.klst, fun _ => rfl, false, fun h => by cases h⟩
def eL (e : En α) : En (List α) := ⟨fun xs => .lst (xs.map e.en), fun xs => rfL_map e xs, false, fun h => by cases h⟩
def eT (e : En α) : En (List α) := ⟨fun xs => .tup (xs.map e.en), fun xs => rfL_map e xs, e.lf, fun h xs => by
  simp only [lfree]
  exact lfreeL_map (e.hl h) xs⟩
def eD (b : Bool) (k : En κ) (v : En ν) : En (List (κ × ν)) := ⟨fun xs => .dic b (xs.map fun p => k.en p.1) (xs.map fun p => v.en p.2), fun xs => by
  simp only [rfree, Bool.and_eq_true]
  exact ⟨rfreeL_map (f := fun p : κ × ν => k.en p.1) (fun p => k.rf p.1) xs, rfreeL_map (f := fun p : κ × ν => v.en p.2) (fun p => v.rf p.2) xs⟩, false, fun h => by cases h⟩
def e1 (a : En α) : En α := ⟨fun x => .tup [a.en x], fun p => by simp [rfree, rfreeL, a.rf], a.lf, fun h p => by simp [lfree, lfreeL, a.hl h]⟩
def e2 (a : En α) (b : En β) : En (α × β) := ⟨fun p => .tup [a.en p.1, b.en p.2], fun p => by simp [rfree, rfreeL, a.rf, b.rf], a.lf && b.lf, fun h p => by
  simp only [Bool.and_eq_true] at h
  simp [lfree, lfreeL, a.hl h.1, b.hl h.2]⟩
def e3 (a : En α) (b : En β) (c : En γ) : En (α × β × γ) := ⟨fun p => .tup [a.en p.1, b.en p.2.1, c.en p.2.2], fun p => by simp [rfree, rfreeL, a.rf, b.rf, c.rf], a.lf && b.lf && c.lf, fun h p => by
  simp only [Bool.and_eq_true] at h
  simp [lfree, lfreeL, a.hl h.1.1, b.hl h.1.2, c.hl h.2]⟩
def e4 (a : En α) (b : En β) (c : En γ) (d : En δ) : En (α × β × γ × δ) := ⟨fun p => .tup [a.en p.1, b.en p.2.1, c.en p.2.2.1, d.en p.2.2.2], fun p => by simp [rfree, rfreeL, a.rf, b.rf, c.rf, d.rf], a.lf && b.lf && c.lf && d.lf, fun h p => by
  simp only [Bool.and_eq_true] at h
  simp [lfree, lfreeL, a.hl h.1.1.1, b.hl h.1.1.2, c.hl h.1.2, d.hl h.2]⟩
def e5 (a : En α) (b : En β) (c : En γ) (d : En δ) (e : En ε) : En (α × β × γ × δ × ε) := ⟨fun p => .tup [a.en p.1, b.en p.2.1, c.en p.2.2.1, d.en p.2.2.2.1, e.en p.2.2.2.2], fun p => by simp [rfree, rfreeL, a.rf, b.rf, c.rf, d.rf, e.rf], a.lf && b.lf && c.lf && d.lf && e.lf, fun h p => by
  simp only [Bool.and_eq_true] at h
  simp [lfree, lfreeL, a.hl h.1.1.1.1, b.hl h.1.1.1.2, c.hl h.1.1.2, d.hl h.1.2, e.hl h.2]⟩
def eO (e : En α) : En (Option α) := ⟨fun x => match x with
  | none => .non
  | some a => e.en a, fun x => by cases x with
    | none => rfl
    | some a => exact e.rf a, e.lf, fun h x => by cases x with
    | none => rfl
    | some a => exact e.hl h a⟩
structure Et (α : Type) where
  tr : α → Tr
  fl : En α
  hf : ∀ a, flat (tr a) = fl.en a
  dp : Nat
  hd : ∀ a, dep (tr a) ≤ dp
  st : Bool
  hs : st = true → ∀ a, stri (tr a) = true
def eV (e : En α) : Et α := ⟨fun a => .w (e.en a), e, fun _ => rfl, 0, fun _ => Nat.le_refl 0, e.lf, fun h a => by simp only [stri]; exact e.hl h a⟩
theorem flats_map (e : Et α) : ∀ xs : List α, flats (xs.map e.tr) = xs.map e.fl.en
  | [] => rfl
  | x :: xs => by simp only [List.map_cons, flats, e.hf, flats_map e xs]
theorem deps_map (e : Et α) : ∀ xs : List α, deps (xs.map e.tr) ≤ e.dp
  | [] => Nat.zero_le _
  | x :: xs => by
    have := e.hd x
    have := deps_map e xs
    simp only [List.map_cons, deps]
    omega
theorem stris_map (e : Et α) (h : e.st = true) : ∀ xs : List α, stris (xs.map e.tr) = true
  | [] => rfl
  | x :: xs => by simp only [List.map_cons, stris, e.hs h x, stris_map e h xs, Bool.and_self]
def cL (e : Et α) : Et (List α) := ⟨fun xs => .l (xs.map e.tr), eL e.fl, fun xs => by simp only [flat, flats_map]; rfl, e.dp + 1, fun xs => by
  have := deps_map e xs
  simp only [dep]; omega, e.st, fun h xs => by simp only [stri]; exact stris_map e h xs⟩
def cD (b : Bool) (k : En κ) (v : Et ν) : Et (List (κ × ν)) := ⟨fun xs => .d b (xs.map fun p => k.en p.1) ((xs.map fun p => p.2).map v.tr), eD b k v.fl, fun xs => by
  simp only [flat, flats_map]
  rw [List.map_map]
  rfl, v.dp + 1, fun xs => by
  have := deps_map v (xs.map fun p => p.2)
  simp only [dep]; omega, v.st, fun h xs => by simp only [stri]; exact stris_map v h _⟩
def c2 (a : Et α) (b : Et β) : Et (α × β) := ⟨fun p => .t [a.tr p.1, b.tr p.2], e2 a.fl b.fl, fun p => by simp only [flat, flats, a.hf, b.hf]; rfl, max a.dp b.dp, fun p => by
  have := a.hd p.1; have := b.hd p.2
  simp only [dep, deps]; omega, a.st && b.st, fun h p => by
  simp only [Bool.and_eq_true] at h
  simp only [stri, stris, a.hs h.1, b.hs h.2, Bool.and_self]⟩
def c3 (a : Et α) (b : Et β) (c : Et γ) : Et (α × β × γ) := ⟨fun p => .t [a.tr p.1, b.tr p.2.1, c.tr p.2.2], e3 a.fl b.fl c.fl, fun p => by simp only [flat, flats, a.hf, b.hf, c.hf]; rfl, max a.dp (max b.dp c.dp), fun p => by
  have := a.hd p.1; have := b.hd p.2.1; have := c.hd p.2.2
  simp only [dep, deps]; omega, a.st && b.st && c.st, fun h p => by
  simp only [Bool.and_eq_true] at h
  simp only [stri, stris, a.hs h.1.1, b.hs h.1.2, c.hs h.2, Bool.and_self]⟩
end

inductive Sl : Type 1 where
  | no
  | s {α : Type} (e : Et α) (a : α)
  | p {α : Type} (e : Et α) (a : α) (n : Nat)
def Sl.get : List Sl → Nat → Sl
  | [], _ => .no
  | x :: _, 0 => x
  | _ :: A, i + 1 => Sl.get A i
def Sl.put : List Sl → Nat → Sl → List Sl
  | [], _, _ => []
  | _ :: A, 0, x => x :: A
  | y :: A, i + 1, x => y :: Sl.put A i x
def Sl.wip (A : List Sl) : List Nat → List Sl
  | [] => A
  | v :: vs => Sl.put (Sl.wip A vs) v .no
def SlOk (S : Sto) : Sl → Option W → List Nat → Prop
  | .no, _, f => f = []
  | .s e a, r, f => ∃ w, r = some w ∧ TrOk S (e.tr a) w f
  | .p e a n, r, f => r = some (.ref n) ∧ TrOk S (e.tr a) (.ref n) f
def Hd (S : Sto) : List Sl → Env → List Nat → Prop
  | [], _, F => F = []
  | s :: A, ρ, F => ∃ r ρ' f1 f2, ρ = r :: ρ' ∧ F = f1 ++ f2 ∧ SlOk S s r f1 ∧ Hd S A ρ' f2
theorem SlOk.frame {S S' : Sto} {s : Sl} {r : Option W} {f : List Nat} (hf : ∀ n ∈ f, S'[n]? = S[n]?) (h : SlOk S s r f) : SlOk S' s r f := by
  cases s with
  | no => exact h
  | s e a =>
    obtain ⟨w, h1, h2⟩ := h
    exact ⟨w, h1, h2.frame hf⟩
  | p e a n => exact ⟨h.1, h.2.frame hf⟩
theorem SlOk.dom {S : Sto} {s : Sl} {r : Option W} {f : List Nat} (h : SlOk S s r f) : ∀ n ∈ f, n < S.length := by
  cases s with
  | no =>
    intro n hn
    rw [show f = [] from h] at hn
    cases hn
  | s e a =>
    obtain ⟨w, h1, h2⟩ := h
    exact h2.dom
  | p e a n => exact h.2.dom
theorem Hd.frame {S S' : Sto} : ∀ {A : List Sl} {ρ : Env} {F : List Nat}, (∀ n ∈ F, S'[n]? = S[n]?) → Hd S A ρ F → Hd S' A ρ F
  | [], _, _, _, h => h
  | s :: A, ρ, F, hf, ⟨r, ρ', f1, f2, h1, h2, h3, h4⟩ => ⟨r, ρ', f1, f2, h1, h2, h3.frame fun n hn => hf n (by simp [h2, hn]), Hd.frame (fun n hn => hf n (by simp [h2, hn])) h4⟩
theorem Hd.dom {S : Sto} : ∀ {A : List Sl} {ρ : Env} {F : List Nat}, Hd S A ρ F → ∀ n ∈ F, n < S.length
  | [], _, _, h, n, hn => by rw [show _ = [] from h] at hn; cases hn
  | s :: A, ρ, F, ⟨r, ρ', f1, f2, h1, h2, h3, h4⟩, n, hn => by
    rw [h2] at hn
    rcases List.mem_append.mp hn with q | q
    · exact h3.dom n q
    · exact Hd.dom h4 n q
theorem Hd.split {S : Sto} : ∀ {A : List Sl} {i : Nat} {ρ : Env} {F : List Nat}, i < A.length → Hd S A ρ F → ∃ r f G, ρ[i]? = some r ∧ SlOk S (Sl.get A i) r f ∧ F.Perm (f ++ G) ∧
    ∀ S' sl' r' f', (∀ n ∈ G, S'[n]? = S[n]?) → SlOk S' sl' r' f' → ∃ F', Hd S' (Sl.put A i sl') (ρ.set i r') F' ∧ F'.Perm (f' ++ G)
  | [], _, _, _, hi, _ => absurd hi (Nat.not_lt_zero _)
  | s :: A, 0, ρ, F, _, ⟨r, ρ', f1, f2, h1, h2, h3, h4⟩ => by
    subst h1 h2
    exact ⟨r, f1, f2, rfl, h3, .refl _, fun S' sl' r' f' hG hs => ⟨f' ++ f2, ⟨r', ρ', f', f2, rfl, rfl, hs, h4.frame hG⟩, .refl _⟩⟩
  | s :: A, i + 1, ρ, F, hi, ⟨r, ρ', f1, f2, h1, h2, h3, h4⟩ => by
    subst h1 h2
    obtain ⟨r0, f, G, g1, g2, g3, g4⟩ := Hd.split (i := i) (by simpa using hi) h4
    refine ⟨r0, f, f1 ++ G, by simpa using g1, g2, ?_, fun S' sl' r' f' hG hs => ?_⟩
    · exact (List.Perm.append_left f1 g3).trans (by
        rw [← List.append_assoc, ← List.append_assoc]
        exact List.Perm.append_right G List.perm_append_comm)
    · obtain ⟨F', k1, k2⟩ := g4 S' sl' r' f' (fun n hn => hG n (by simp [hn])) hs
      refine ⟨f1 ++ F', ⟨r, ρ'.set i r', f1, F', rfl, rfl, h3.frame fun n hn => hG n (by simp [hn]), k1⟩, ?_⟩
      exact (List.Perm.append_left f1 k2).trans (by
        rw [← List.append_assoc, ← List.append_assoc]
        exact List.Perm.append_right G List.perm_append_comm)
theorem put_out : ∀ {A : List Sl} {i : Nat} {x : Sl}, ¬ i < A.length → Sl.put A i x = A
  | [], _, _, _ => rfl
  | s :: A, 0, _, h => absurd (by simp) h
  | s :: A, i + 1, x, h => by
    simp only [Sl.put]
    rw [put_out (by simpa using h)]
theorem get_in : ∀ {A : List Sl} {i : Nat}, Sl.get A i ≠ .no → i < A.length
  | [], _, h => absurd rfl h
  | s :: A, 0, _ => by simp
  | s :: A, i + 1, h => by
    have := get_in (A := A) (i := i) h
    simp; omega
theorem Hd.setOut {S : Sto} : ∀ {A : List Sl} {i : Nat} {ρ : Env} {F : List Nat} {r : Option W}, ¬ i < A.length → Hd S A ρ F → Hd S A (ρ.set i r) F
  | [], _, _, _, _, _, h => h
  | s :: A, 0, _, _, _, hi, _ => absurd (by simp) hi
  | s :: A, i + 1, ρ, F, r, hi, ⟨r', ρ', f1, f2, h1, h2, h3, h4⟩ => by
    subst h1
    exact ⟨r', ρ'.set i r, f1, f2, rfl, h2, h3, Hd.setOut (by simpa using hi) h4⟩
theorem Hd.set {S : Sto} {A : List Sl} {i : Nat} {ρ : Env} {F : List Nat} {sl : Sl} {r : Option W} {f : List Nat} (h : Hd S A ρ F) (hs : SlOk S sl r f) (hn : (f ++ F).Nodup) : ∃ F', Hd S (Sl.put A i sl) (ρ.set i r) F' ∧ F'.Nodup ∧ ∀ n ∈ F', n ∈ f ∨ n ∈ F := by
  by_cases hi : i < A.length
  · obtain ⟨r0, f0, G, h1, h2, h3, h4⟩ := h.split hi
    obtain ⟨F', k1, k2⟩ := h4 S sl r f (fun _ _ => rfl) hs
    refine ⟨F', k1, ?_, fun n hn' => ?_⟩
    · rw [k2.nodup_iff]
      have hp := (List.Perm.append_left f h3).nodup_iff.mp hn
      rw [List.nodup_append] at hp ⊢
      refine ⟨hp.1, (List.nodup_append.mp hp.2.1).2.1, fun a ha b hb => hp.2.2 a ha b (by simp [hb])⟩
    · rcases List.mem_append.mp (k2.mem_iff.mp hn') with q | q
      · exact .inl q
      · exact .inr (h3.mem_iff.mpr (by simp [q]))
  · rw [put_out hi]
    exact ⟨F, h.setOut hi, (List.nodup_append.mp hn).2.1, fun n hn' => .inr hn'⟩
theorem Hd.setV {S : Sto} {A : List Sl} {i : Nat} {ρ : Env} {F : List Nat} {sl : Sl} {r : Option W} (h : Hd S A ρ F) (hs : SlOk S sl r []) (hn : F.Nodup) : ∃ F', Hd S (Sl.put A i sl) (ρ.set i r) F' ∧ F'.Nodup ∧ ∀ n ∈ F', n ∈ F := by
  obtain ⟨F', h1, h2, h3⟩ := h.set (i := i) hs (by simpa using hn)
  exact ⟨F', h1, h2, fun n hn' => by
    rcases h3 n hn' with q | q
    · cases q
    · exact q⟩
theorem Hd.setV' {S : Sto} {A : List Sl} {i : Nat} {ρ : Env} {F : List Nat} {sl : Sl} {r : Option W} (h : Hd S A ρ F) (hs : SlOk S sl r []) : ∃ F', Hd S (Sl.put A i sl) (ρ.set i r) F' := by
  by_cases hi : i < A.length
  · obtain ⟨r0, f0, G, h1, h2, h3, h4⟩ := h.split hi
    obtain ⟨F', k1, k2⟩ := h4 S sl r [] (fun _ _ => rfl) hs
    exact ⟨F', k1⟩
  · rw [put_out hi]
    exact ⟨F, h.setOut hi⟩
theorem Hd.wip {S : Sto} {A : List Sl} {ρ : Env} {F : List Nat} (h : Hd S A ρ F) (hn : F.Nodup) : ∀ vs : List Nat, ∃ F', Hd S (Sl.wip A vs) (wipe ρ vs) F' ∧ F'.Nodup ∧ ∀ n ∈ F', n ∈ F
  | [] => ⟨F, h, hn, fun _ q => q⟩
  | v :: vs => by
    obtain ⟨F1, h1, h2, h3⟩ := Hd.wip h hn vs
    obtain ⟨F2, k1, k2, k3⟩ := h1.setV (i := v) (sl := .no) (r := none) rfl h2
    exact ⟨F2, k1, k2, fun n q => h3 n (k3 n q)⟩
theorem Hd.wip' {S : Sto} {A : List Sl} {ρ : Env} {F : List Nat} (h : Hd S A ρ F) : ∀ vs : List Nat, ∃ F', Hd S (Sl.wip A vs) (wipe ρ vs) F'
  | [] => ⟨F, h⟩
  | v :: vs => by
    obtain ⟨F1, h1⟩ := Hd.wip' h vs
    exact h1.setV' (i := v) (sl := .no) (r := none) rfl
inductive Wk : List Sl → List Sl → Prop where
  | z : Wk [] []
  | s {x : Sl} {A B : List Sl} : Wk A B → Wk (x :: A) (x :: B)
  | n {x : Sl} {A B : List Sl} : Wk A B → Wk (x :: A) (.no :: B)
  | c {x y : Sl} {A B : List Sl} (h : ∀ S r f, SlOk S x r f → SlOk S y r f) : Wk A B → Wk (x :: A) (y :: B)
  | e {A : List Sl} : Wk A []
theorem Hd.wk {S : Sto} : ∀ {A B : List Sl} {ρ : Env} {F : List Nat}, Wk A B → Hd S A ρ F → ∃ F', Hd S B ρ F' ∧ F'.Sublist F := by
  intro A B ρ F h
  induction h generalizing ρ F with
  | z => intro h; exact ⟨F, h, .refl _⟩
  | e => intro h; exact ⟨[], rfl, List.nil_sublist _⟩
  | s _ ih =>
    rintro ⟨r, ρ', f1, f2, h1, h2, h3, h4⟩
    obtain ⟨F', k1, k2⟩ := ih h4
    exact ⟨f1 ++ F', ⟨r, ρ', f1, F', h1, rfl, h3, k1⟩, by rw [h2]; exact List.Sublist.append (.refl _) k2⟩
  | c hc _ ih =>
    rintro ⟨r, ρ', f1, f2, h1, h2, h3, h4⟩
    obtain ⟨F', k1, k2⟩ := ih h4
    exact ⟨f1 ++ F', ⟨r, ρ', f1, F', h1, rfl, hc _ _ _ h3, k1⟩, by rw [h2]; exact List.Sublist.append (.refl _) k2⟩
  | n _ ih =>
    rintro ⟨r, ρ', f1, f2, h1, h2, h3, h4⟩
    obtain ⟨F', k1, k2⟩ := ih h4
    exact ⟨F', ⟨r, ρ', [], F', h1, rfl, rfl, k1⟩, by rw [h2]; exact k2.trans (List.sublist_append_right _ _)⟩
theorem Wk.refl : ∀ A : List Sl, Wk A A
  | [] => .z
  | _ :: A => .s (Wk.refl A)
def Fr (S S' : Sto) (F F' : List Nat) : Prop := S.length ≤ S'.length ∧ (∀ n, n < S.length → n ∉ F → S'[n]? = S[n]?) ∧ (∀ n ∈ F', n ∈ F ∨ S.length ≤ n)
theorem Fr.sub {S : Sto} {F F' : List Nat} (h : ∀ n ∈ F', n ∈ F) : Fr S S F F' := ⟨Nat.le_refl _, fun _ _ _ => rfl, fun n hn => .inl (h n hn)⟩
theorem Fr.refl {S : Sto} {F : List Nat} : Fr S S F F := Fr.sub fun _ h => h
theorem Fr.trans {S S1 S2 : Sto} {F F1 F2 : List Nat} (a : Fr S S1 F F1) (b : Fr S1 S2 F1 F2) : Fr S S2 F F2 := by
  refine ⟨Nat.le_trans a.1 b.1, fun n hn hF => ?_, fun n hn => ?_⟩
  · rw [b.2.1 n (by have := a.1; omega) fun q => ?_, a.2.1 n hn hF]
    rcases a.2.2 n q with q | q
    · exact hF q
    · omega
  · rcases b.2.2 n hn with q | q
    · exact a.2.2 n q
    · exact .inr (by have := a.1; omega)
theorem Fr.mem {S S' : Sto} {F F1 F2 : List Nat} (a : Fr S S' F F1) (h : ∀ n ∈ F2, n ∈ F1) : Fr S S' F F2 := ⟨a.1, a.2.1, fun n hn => a.2.2 n (h n hn)⟩
end Tw

namespace Tw
section
variable {α β γ δ ε κ ν : Type}
def Mo (m : M γ) (p : γ → Prop) : Prop :=
  match m with
  | .ok z => p z
  | .ex _ => False
  | .bad => True
theorem Mo.chk {b : Bool} {m : M γ} {p : γ → Prop} (h : b = true → Mo m p) : Mo (M.chk b m) p := by
  cases b with
  | true => exact h rfl
  | false => exact trivial
theorem Mo.of {o : Option γ} {p : γ → Prop} (h : ∀ z, o = some z → p z) : Mo (M.of o) p := by
  cases o with
  | none => exact trivial
  | some z => exact h z rfl
abbrev PK (α : Type) := Sto → α → W → Prop
def Rd (cf : CallF) (A : List Sl) (e : E) (m : M α) (P : PK α) : Prop := ∀ ρ S F, Hd S A ρ F → match m with
  | .ok a => ∃ w, ev cf e ρ S = .ok w S ∧ P S a w
  | .ex c => ev cf e ρ S = .ex c S
  | .bad => True
def pE (e : En α) : PK α := fun _ a w => w = e.en a
def pQ (e : En α) : PK (List α) := fun S xs w => seqOf S w = some (xs.map e.en)
def pL (e : En α) : PK (List α) := fun S xs w => lstOf S w = some (xs.map e.en)
def pT (et : Et α) : PK α := fun S a w => ∃ f, TrOk S (et.tr a) w f
def pD (b : Bool) (k : En κ) (v : En ν) : PK (List (κ × ν)) := fun S kv w => dicOf S w = some (b, kv.map (fun p => k.en p.1), kv.map fun p => v.en p.2)
def pA (e : En α) : PK α := fun S a w => vw S w = some (e.en a)
def pS (e : En α) (ct : α → Option Int → Option Int → α) : PK α := fun S xs w => ∀ lo hi, sliceSem S w lo hi = some (e.en (ct xs lo hi))
theorem lst_seq {S : Sto} {w : W} {xs : List W} (h : lstOf S w = some xs) : seqOf S w = some xs := by
  cases w <;> first | cases h; done | exact h
theorem seq_str {S : Sto} {w : W} {xs : List W} (h : seqOf S w = some xs) (s : List Nat) : w ≠ .str s := by
  rintro rfl
  cases h
theorem dic_seq {S : Sto} {w : W} {d : Bool × List W × List W} (h : dicOf S w = some d) : seqOf S w = none ∧ lstOf S w = none ∧ (∀ s, w ≠ .str s) ∧ ∀ xs, w ≠ .tup xs := by
  cases w <;> simp only [dicOf] at h <;> first | cases h | skip
  · exact ⟨rfl, rfl, by simp, by simp⟩
  · rename_i n
    simp only [seqOf, lstOf]
    cases hn : S[n]? with
    | none => rw [hn] at h; cases h
    | some o => rw [hn] at h; cases o <;> simp_all
variable {cf : CallF} {A : List Sl} {a b c d : E} {P : PK α} {Q : PK β} {R : PK γ} {T : PK δ} {U : PK ε}
theorem Rd.imp {m : M α} {P' : PK α} (h : Rd cf A a m P) (hp : ∀ S x w, P S x w → P' S x w) : Rd cf A a m P' := by
  intro ρ S F H
  have h1 := h ρ S F H
  cases m with
  | ok x => exact ⟨_, h1.choose_spec.1, hp _ _ _ h1.choose_spec.2⟩
  | ex c => exact h1
  | bad => trivial
theorem Rd.cast {m m' : M α} (h : Rd cf A a m P) (e : m = m') : Rd cf A a m' P := e ▸ h
theorem Rd.chk {m : M α} {b : α → Bool} (h : Rd cf A a m P) : Rd cf A a (m.bind fun x => M.chk (b x) (.ok x)) P := by
  intro ρ S F H
  have h1 := h ρ S F H
  cases m with
  | ok x =>
    simp only [M.bind]
    cases b x with
    | true => exact h1
    | false => trivial
  | ex c => exact h1
  | bad => trivial
theorem trs_vals {S : Sto} (e : En α) : ∀ {xs : List α} {ws : List W} {f : List Nat}, TrsOk S (xs.map (eV e).tr) ws f → ws = xs.map e.en ∧ f = []
  | [], ws, f, ⟨h1, h2⟩ => ⟨h1, h2⟩
  | x :: xs, ws, f, ⟨w, ws', f1, f2, h1, h2, ⟨h3, _, h5⟩, h4⟩ => by
    obtain ⟨k1, k2⟩ := trs_vals e h4
    rw [h1, h2, k1, k2, h5, h3]
    exact ⟨rfl, rfl⟩
theorem vals_trs {S : Sto} (e : En α) : ∀ xs : List α, TrsOk S (xs.map (eV e).tr) (xs.map e.en) []
  | [] => ⟨rfl, rfl⟩
  | x :: xs => ⟨e.en x, xs.map e.en, [], [], rfl, rfl, ⟨rfl, e.rf x, rfl⟩, vals_trs e xs⟩
theorem Rd.tv {e : En α} {m : M α} (h : Rd cf A a m (pT (eV e))) : Rd cf A a m (pE e) := h.imp fun _ _ _ h => h.choose_spec.1
theorem Rd.la {e : En α} {m : M (List α)} (h : Rd cf A a m (pE (eL e))) : Rd cf A a m (pL e) := h.imp fun _ x w (h : w = .lst _) => by rw [h]; exact (rfl : lstOf _ (.lst _) = some _)
theorem Rd.lq {e : En α} {m : M (List α)} (h : Rd cf A a m (pL e)) : Rd cf A a m (pQ e) := h.imp fun _ x w h => lst_seq h
theorem Rd.lqE {e : En α} {m : M (List α)} (h : Rd cf A a m (pE (eL e))) : Rd cf A a m (pQ e) := h.la.lq
theorem Rd.tq {e : En α} {m : M (List α)} (h : Rd cf A a m (pE (eT e))) : Rd cf A a m (pQ e) := h.imp fun _ x w (h : w = .tup _) => by rw [h]; exact (rfl : seqOf _ (.tup _) = some _)
theorem Rd.kq {m : M (List Int)} (h : Rd cf A a m (pE eK)) : Rd cf A a m (pQ eInt) := h.imp fun _ x w (h : w = .klst _) => by rw [h]; exact (rfl : seqOf _ (.klst _) = some _)
theorem Rd.cl {e : En α} {m : M (List α)} (h : Rd cf A a m (pT (cL (eV e)))) : Rd cf A a m (pL e) := h.imp fun S x w h => by
  obtain ⟨f, n, ws, f', h1, h2, h3, h4⟩ := h
  rw [h1]
  show lstOf S (.ref n) = _
  rw [lstOf, h3, (trs_vals e h4).1]
theorem Rd.cq {e : En α} {m : M (List α)} (h : Rd cf A a m (pT (cL (eV e)))) : Rd cf A a m (pQ e) := h.cl.lq
theorem Rd.da {b : Bool} {k : En κ} {v : En ν} {m : M (List (κ × ν))} (h : Rd cf A a m (pE (eD b k v))) : Rd cf A a m (pD b k v) := h.imp fun S x w (h : w = .dic _ _ _) => by rw [h]; exact (rfl : dicOf _ (.dic _ _ _) = some _)
theorem Rd.ea {e : En α} {m : M α} (h : Rd cf A a m (pE e)) : Rd cf A a m (pA e) := h.imp fun S x w (h : w = _) => by rw [h]; exact vw_id (e.rf x)
theorem Rd.ta {et : Et α} {m : M α} (h : Rd cf A a m (pT et)) (hd : et.dp ≤ 3 := by decide) : Rd cf A a m (pA et.fl) := h.imp fun S x w h => by
  obtain ⟨f, h⟩ := h
  show vw S w = _
  rw [← et.hf x]
  exact h.vw 3 (Nat.le_trans (et.hd x) hd)
theorem cutL_map (f : α → β) (xs : List α) (lo hi : Option Int) : cut (xs.map f) lo hi = (cut xs lo hi).map f := by
  unfold cut
  rw [List.length_map, List.map_take, List.map_drop]
theorem Rd.sa {e : En α} {m : M (List α)} (h : Rd cf A a m (pL e)) : Rd cf A a m (pS (eL e) cut) := h.imp fun S x w h => by
  intro lo hi
  have h : lstOf S w = some (x.map e.en) := h
  have hs : sliceSem S w lo hi = (lstOf S w).map fun xs => .lst (cut xs lo hi) := by
    cases w <;> first | rfl | (cases h; done)
  rw [hs, h, Option.map_some, cutL_map]
  rfl
theorem Rd.some {e : En α} {m : M α} (h : Rd cf A a m (pE e)) : Rd cf A a (m.bind fun x => .ok (some x)) (pE (eO e)) := by
  intro ρ S F H
  have h1 := h ρ S F H
  cases m with
  | ok x => exact h1
  | ex c => exact h1
  | bad => trivial
theorem Rd.get {e : En α} {m : M (Option α)} (h : Rd cf A a m (pE (eO e))) : Rd cf A a (m.bind fun x => M.of x) (pE e) := by
  intro ρ S F H
  have h1 := h ρ S F H
  cases m with
  | ok x =>
    cases x with
    | none => trivial
    | some y => exact h1
  | ex c => exact h1
  | bad => trivial
theorem rd_var {i : Nat} {e : Et α} {x : α} (h : Sl.get A i = .s e x) : Rd cf A (.var i) (.ok x) (pT e) := by
  intro ρ S F H
  have hi : i < A.length := get_in (by rw [h]; simp)
  obtain ⟨r, f, G, h1, h2, _, _⟩ := H.split hi
  rw [h] at h2
  obtain ⟨w, h3, h4⟩ := h2
  subst h3
  exact ⟨w, by simp [h1], f, h4⟩
theorem rd_v {i : Nat} {e : En α} {x : α} (h : Sl.get A i = .s (eV e) x) : Rd cf A (.var i) (.ok x) (pE e) := (rd_var h).tv
theorem rd_con (e : En α) (x : α) {w : W} (h : w = e.en x) : Rd cf A (.con w) (.ok x) (pE e) := fun ρ S F H => ⟨w, by simp, h⟩
theorem rd_int (i : Int) : Rd cf A (.con (.int i)) (.ok i) (pE eInt) := rd_con eInt i rfl
theorem rd_bl (i : Bool) : Rd cf A (.con (.bl i)) (.ok i) (pE eBool) := rd_con eBool i rfl
theorem rd_str (i : List Nat) : Rd cf A (.con (.str i)) (.ok i) (pE eStr) := rd_con eStr i rfl
theorem rd_op1 {o : Op} {m : M α} {g : α → M γ} (ho : ∀ S x w, P S x w → Mo (g x) fun z => ∃ w', opSem o [w] S = some w' ∧ R S z w') (h : Rd cf A a m P) : Rd cf A (.op o [a]) (m.bind g) R := by
  intro ρ S F H
  have h1 := h ρ S F H
  cases m with
  | ok x =>
    obtain ⟨w, h2, h3⟩ := h1
    have h4 := ho S x w h3
    simp only [M.bind]
    cases hg : g x with
    | ok z =>
      rw [hg] at h4
      obtain ⟨w', h5, h6⟩ := h4
      exact ⟨w', by rw [s_op]; simp [h2, h5], h6⟩
    | ex c => rw [hg] at h4; exact h4.elim
    | bad => trivial
  | ex c => simp only [M.bind]; rw [s_op]; simp [h1]
  | bad => trivial
theorem rd_op2 {o : Op} {m1 : M α} {m2 : M β} {g : α → β → M γ} (ho : ∀ S x y w v, P S x w → Q S y v → Mo (g x y) fun z => ∃ w', opSem o [w, v] S = some w' ∧ R S z w') (h : Rd cf A a m1 P) (h' : Rd cf A b m2 Q) :
    Rd cf A (.op o [a, b]) (m1.bind fun x => m2.bind fun y => g x y) R := by
  intro ρ S F H
  have h1 := h ρ S F H
  cases m1 with
  | ok x =>
    obtain ⟨w, h2, h3⟩ := h1
    have g1 := h' ρ S F H
    simp only [M.bind]
    cases m2 with
    | ok y =>
      obtain ⟨v, g2, g3⟩ := g1
      have h4 := ho S x y w v h3 g3
      simp only
      cases hg : g x y with
      | ok z =>
        rw [hg] at h4
        obtain ⟨w', h5, h6⟩ := h4
        exact ⟨w', by rw [s_op]; simp [h2, g2, h5], h6⟩
      | ex c => rw [hg] at h4; exact h4.elim
      | bad => trivial
    | ex c => simp only; rw [s_op]; simp [h2, g1]
    | bad => trivial
  | ex c => simp only [M.bind]; rw [s_op]; simp [h1]
  | bad => trivial
theorem rd_op3 {o : Op} {m1 : M α} {m2 : M β} {m3 : M δ} {g : α → β → δ → M γ} (ho : ∀ S x y z w v u, P S x w → Q S y v → T S z u → Mo (g x y z) fun z => ∃ w', opSem o [w, v, u] S = some w' ∧ R S z w') (h : Rd cf A a m1 P) (h' : Rd cf A b m2 Q) (h'' : Rd cf A c m3 T) :
    Rd cf A (.op o [a, b, c]) (m1.bind fun x => m2.bind fun y => m3.bind fun z => g x y z) R := by
  intro ρ S F H
  have h1 := h ρ S F H
  cases m1 with
  | ok x =>
    obtain ⟨w, h2, h3⟩ := h1
    have g1 := h' ρ S F H
    simp only [M.bind]
    cases m2 with
    | ok y =>
      obtain ⟨v, g2, g3⟩ := g1
      have k1 := h'' ρ S F H
      simp only
      cases m3 with
      | ok z =>
        obtain ⟨u, k2, k3⟩ := k1
        have h4 := ho S x y z w v u h3 g3 k3
        simp only
        cases hg : g x y z with
        | ok z =>
          rw [hg] at h4
          obtain ⟨w', h5, h6⟩ := h4
          exact ⟨w', by rw [s_op]; simp [h2, g2, k2, h5], h6⟩
        | ex c => rw [hg] at h4; exact h4.elim
        | bad => trivial
      | ex c => simp only; rw [s_op]; simp [h2, g2, k1]
      | bad => trivial
    | ex c => simp only; rw [s_op]; simp [h2, g1]
    | bad => trivial
  | ex c => simp only [M.bind]; rw [s_op]; simp [h1]
  | bad => trivial
theorem rd_mth1 {t : MTy} {o : Op} {m1 : M α} {m2 : M β} {g : α → β → M γ} (ht : ∀ S x w, P S x w → tyOk t w S = true) (ho : ∀ S x y w v, P S x w → Q S y v → Mo (g x y) fun z => ∃ w', opSem o [w, v] S = some w' ∧ R S z w') (h : Rd cf A a m1 P) (h' : Rd cf A b m2 Q) :
    Rd cf A (.mth t o a [b]) (m1.bind fun x => m2.bind fun y => g x y) R := by
  intro ρ S F H
  have h1 := h ρ S F H
  cases m1 with
  | ok x =>
    obtain ⟨w, h2, h3⟩ := h1
    have g1 := h' ρ S F H
    have ht := ht S x w h3
    simp only [M.bind]
    cases m2 with
    | ok y =>
      obtain ⟨v, g2, g3⟩ := g1
      have h4 := ho S x y w v h3 g3
      simp only
      cases hg : g x y with
      | ok z =>
        rw [hg] at h4
        obtain ⟨w', h5, h6⟩ := h4
        exact ⟨w', by rw [s_mth]; simp [h2, g2, h5, ht], h6⟩
      | ex c => rw [hg] at h4; exact h4.elim
      | bad => trivial
    | ex c => simp only; rw [s_mth]; simp [h2, g1, ht]
    | bad => trivial
  | ex c => simp only [M.bind]; rw [s_mth]; simp [h1]
  | bad => trivial
theorem rd_mth2 {t : MTy} {o : Op} {m1 : M α} {m2 : M β} {m3 : M δ} {g : α → β → δ → M γ} (ht : ∀ S x w, P S x w → tyOk t w S = true) (ho : ∀ S x y z w v u, P S x w → Q S y v → T S z u → Mo (g x y z) fun z => ∃ w', opSem o [w, v, u] S = some w' ∧ R S z w') (h : Rd cf A a m1 P) (h' : Rd cf A b m2 Q) (h'' : Rd cf A c m3 T) :
    Rd cf A (.mth t o a [b, c]) (m1.bind fun x => m2.bind fun y => m3.bind fun z => g x y z) R := by
  intro ρ S F H
  have h1 := h ρ S F H
  cases m1 with
  | ok x =>
    obtain ⟨w, h2, h3⟩ := h1
    have g1 := h' ρ S F H
    have ht := ht S x w h3
    simp only [M.bind]
    cases m2 with
    | ok y =>
      obtain ⟨v, g2, g3⟩ := g1
      have k1 := h'' ρ S F H
      simp only
      cases m3 with
      | ok z =>
        obtain ⟨u, k2, k3⟩ := k1
        have h4 := ho S x y z w v u h3 g3 k3
        simp only
        cases hg : g x y z with
        | ok z =>
          rw [hg] at h4
          obtain ⟨w', h5, h6⟩ := h4
          exact ⟨w', by rw [s_mth]; simp [h2, g2, k2, h5, ht], h6⟩
        | ex c => rw [hg] at h4; exact h4.elim
        | bad => trivial
      | ex c => simp only; rw [s_mth]; simp [h2, g2, k1, ht]
      | bad => trivial
    | ex c => simp only; rw [s_mth]; simp [h2, g1, ht]
    | bad => trivial
  | ex c => simp only [M.bind]; rw [s_mth]; simp [h1]
  | bad => trivial
end
end Tw

namespace Tw
def eqM {α : Type} (e : En α) (x y : α) : M Bool := M.chk (datW 30 (e.en x) && datW 30 (e.en y)) (.ok (eqW (e.en x) (e.en y)))
def sortM {α : Type} (e : En α) (xs : List α) : M (List α) := M.chk (datL 30 (xs.map e.en) && sortOk (xs.map e.en) && decide (xs.length < LIM)) (.ok (sortBy e.en xs))
def getI {α : Type} (xs : List α) (i : Int) : Option α := (ixN xs.length i).bind fun j => xs[j]?
def dkey {κ : Type} (b : Bool) (k : En κ) (x : κ) : Bool := isKey b (k.en x)
def dgetT {κ ν : Type} (k : En κ) (kv : List (κ × ν)) (x : κ) : Option ν := (kv.find? fun p => eqW (k.en p.1) (k.en x)).map (·.2)
def dhasT {κ ν : Type} (k : En κ) (kv : List (κ × ν)) (x : κ) : Bool := kv.any fun p => eqW (k.en p.1) (k.en x)
def dputT {κ ν : Type} (k : En κ) (kv : List (κ × ν)) (x : κ) (y : ν) : List (κ × ν) := if dhasT k kv x = true then kv.map fun p => if eqW (k.en p.1) (k.en x) = true then (p.1, y) else p else kv ++ [(x, y)]
def rgI (a n : Int) : List Int := (List.range (n - a).toNat).map fun (k : Nat) => a + (k : Int)
def small (n : Int) : Bool := decide (n.natAbs < LIM)
theorem any_map' {α : Type} (f : α → W) (p : W → Bool) (xs : List α) : (xs.map f).any p = xs.any fun x => p (f x) := by rw [List.any_map]; rfl
theorem dget_T {κ ν : Type} (k : En κ) (f : ν → W) : ∀ (kv : List (κ × ν)) (x : κ), dget (kv.map fun p => k.en p.1) (kv.map fun p => f p.2) (k.en x) = (dgetT k kv x).map f
  | [], _ => rfl
  | p :: kv, x => by
    simp only [List.map_cons, dget, dgetT, List.find?_cons]
    cases eqW (k.en p.1) (k.en x) with
    | true => rfl
    | false =>
      simp only [Bool.false_eq_true, if_false]
      exact dget_T k f kv x
theorem strsOf_map : ∀ ss : List (List Nat), strsOf (ss.map W.str) = some ss
  | [] => rfl
  | s :: ss => by simp [strsOf, strsOf_map ss]
section
variable {α β γ δ ε κ ν : Type}
variable {cf : CallF} {A : List Sl} {a b c d : E} {P : PK α} {Q : PK β} {R : PK γ} {T : PK δ} {U : PK ε}
variable {mi mj : M Int} {ms mt : M (List Nat)} {mb mc : M Bool}
theorem rd_add (h : Rd cf A a mi (pE eInt)) (h' : Rd cf A b mj (pE eInt)) : Rd cf A (.op .add [a, b]) (mi.bind fun x => mj.bind fun y => .ok (x + y)) (pE eInt) :=
  rd_op2 (by rintro S x y w v rfl rfl; exact ⟨_, by simp [eInt], rfl⟩) h h'
theorem rd_sub (h : Rd cf A a mi (pE eInt)) (h' : Rd cf A b mj (pE eInt)) : Rd cf A (.op .sub [a, b]) (mi.bind fun x => mj.bind fun y => .ok (x - y)) (pE eInt) :=
  rd_op2 (by rintro S x y w v rfl rfl; exact ⟨_, by simp [eInt], rfl⟩) h h'
theorem rd_mul (h : Rd cf A a mi (pE eInt)) (h' : Rd cf A b mj (pE eInt)) : Rd cf A (.op .mul [a, b]) (mi.bind fun x => mj.bind fun y => M.chk (CMul x y) (.ok (x * y))) (pE eInt) :=
  rd_op2 (by rintro S x y w v rfl rfl; exact Mo.chk fun q => ⟨_, by simp only [eInt, o_mul, o_mulI, q, if_true], rfl⟩) h h'
theorem rd_fdiv (h : Rd cf A a mi (pE eInt)) (h' : Rd cf A b mj (pE eInt)) : Rd cf A (.op .fdiv [a, b]) (mi.bind fun x => mj.bind fun y => M.chk (CDiv y) (.ok (x / y))) (pE eInt) :=
  rd_op2 (by rintro S x y w v rfl rfl; exact Mo.chk fun q => ⟨_, by simp only [eInt, o_fdiv, q, if_true], rfl⟩) h h'
theorem rd_mod (h : Rd cf A a mi (pE eInt)) (h' : Rd cf A b mj (pE eInt)) : Rd cf A (.op .mod [a, b]) (mi.bind fun x => mj.bind fun y => M.chk (decide (0 < y)) (.ok (x % y))) (pE eInt) :=
  rd_op2 (by rintro S x y w v rfl rfl; exact Mo.chk fun q => ⟨_, by simp only [eInt, o_mod, of_decide_eq_true q, if_true], rfl⟩) h h'
theorem rd_pow (h : Rd cf A a mi (pE eInt)) (h' : Rd cf A b mj (pE eInt)) : Rd cf A (.op .pow [a, b]) (mi.bind fun x => mj.bind fun y => M.chk (CPow x y) (.ok (x ^ y.toNat))) (pE eInt) :=
  rd_op2 (by rintro S x y w v rfl rfl; exact Mo.chk fun q => ⟨_, by simp only [eInt, o_pow, q, if_true], rfl⟩) h h'
theorem rd_neg (h : Rd cf A a mi (pE eInt)) : Rd cf A (.op .neg [a]) (mi.bind fun x => .ok (-x)) (pE eInt) :=
  rd_op1 (by rintro S x w rfl; exact ⟨_, by simp [eInt], rfl⟩) h
theorem rd_max (h : Rd cf A a mi (pE eInt)) (h' : Rd cf A b mj (pE eInt)) : Rd cf A (.op .max [a, b]) (mi.bind fun x => mj.bind fun y => .ok (if x < y then y else x)) (pE eInt) :=
  rd_op2 (by rintro S x y w v rfl rfl; exact ⟨_, by simp only [eInt, o_max], rfl⟩) h h'
theorem rd_intB (h : Rd cf A a mb (pE eBool)) : Rd cf A (.op .int [a]) (mb.bind fun x => .ok (if x = true then 1 else 0)) (pE eInt) :=
  rd_op1 (by rintro S x w rfl; exact ⟨_, rfl, by cases x <;> rfl⟩) h
theorem rd_toI (h : Rd cf A a mi (pE eInt)) : Rd cf A (.toI a) mi (pE eInt) := by
  intro ρ S F H
  have h1 := h ρ S F H
  cases mi with
  | ok x =>
    obtain ⟨w, h2, rfl⟩ := h1
    exact ⟨_, by rw [s_toI, h2]; rfl, rfl⟩
  | ex c => simp only; rw [s_toI, show _ = _ from h1]; rfl
  | bad => trivial
theorem rd_addS (h : Rd cf A a ms (pE eStr)) (h' : Rd cf A b mt (pE eStr)) : Rd cf A (.op .add [a, b]) (ms.bind fun x => mt.bind fun y => M.chk (decide (x.length + y.length < LIM)) (.ok (x ++ y))) (pE eStr) :=
  rd_op2 (by rintro S x y w v rfl rfl; exact Mo.chk fun q => ⟨_, by simp only [eStr, o_add, opAdd, of_decide_eq_true q, if_true], rfl⟩) h h'
theorem opAdd_L {S : Sto} {w v : W} {xs ys : List W} (h : lstOf S w = some xs) (h' : lstOf S v = some ys) (hl : xs.length + ys.length < LIM) : opAdd S w v = some (.lst (xs ++ ys)) := by
  cases w <;> first
    | (cases h; done)
    | (cases v <;> first
      | (cases h'; done)
      | (unfold opAdd
         simp only [h, h', hl, if_true]))
theorem rd_addL {e : En α} {m1 m2 : M (List α)} (h : Rd cf A a m1 (pL e)) (h' : Rd cf A b m2 (pL e)) : Rd cf A (.op .add [a, b]) (m1.bind fun x => m2.bind fun y => M.chk (decide (x.length + y.length < LIM)) (.ok (x ++ y))) (pE (eL e)) :=
  rd_op2 (by
    intro S x y w v hw hv
    refine Mo.chk fun q => ⟨.lst (x.map e.en ++ y.map e.en), ?_, ?_⟩
    · rw [o_add]
      exact opAdd_L hw hv (by simpa using of_decide_eq_true q)
    · show _ = W.lst ((x ++ y).map e.en)
      rw [List.map_append]) h h'
theorem rd_ltI (h : Rd cf A a mi (pE eInt)) (h' : Rd cf A b mj (pE eInt)) : Rd cf A (.op .lt [a, b]) (mi.bind fun x => mj.bind fun y => .ok (decide (x < y))) (pE eBool) :=
  rd_op2 (by rintro S x y w v rfl rfl; exact ⟨_, by simp [eInt]; rfl, rfl⟩) h h'
theorem rd_gtI (h : Rd cf A a mi (pE eInt)) (h' : Rd cf A b mj (pE eInt)) : Rd cf A (.op .gt [a, b]) (mi.bind fun x => mj.bind fun y => .ok (decide (y < x))) (pE eBool) :=
  rd_op2 (by rintro S x y w v rfl rfl; exact ⟨_, by simp [eInt]; rfl, rfl⟩) h h'
theorem rd_eqI (h : Rd cf A a mi (pE eInt)) (h' : Rd cf A b mj (pE eInt)) : Rd cf A (.op .eq [a, b]) (mi.bind fun x => mj.bind fun y => .ok (decide (x = y))) (pE eBool) :=
  rd_op2 (by rintro S x y w v rfl rfl; exact ⟨_, by simp only [eInt, o_eq, o_eqI, Option.map_some]; rfl, rfl⟩) h h'
theorem rd_neI (h : Rd cf A a mi (pE eInt)) (h' : Rd cf A b mj (pE eInt)) : Rd cf A (.op .ne [a, b]) (mi.bind fun x => mj.bind fun y => .ok (!decide (x = y))) (pE eBool) :=
  rd_op2 (by rintro S x y w v rfl rfl; exact ⟨_, by simp only [eInt, o_ne, o_eqI, Option.map_some]; rfl, rfl⟩) h h'
theorem eqOp_A {S : Sto} {w v x y : W} (h : vw S w = some x) (h' : vw S v = some y) (q : (datW 30 x && datW 30 y) = true) : eqOp S w v = some (eqW x y) := by
  simp only [Bool.and_eq_true] at q
  unfold eqOp
  split
  · rw [vw_id rfl] at h h'
    cases h; cases h'
    simp [eqW]
  · rw [vw_id rfl] at h h'
    cases h; cases h'
    simp [eqW]
  · rw [vw_id rfl] at h h'
    cases h; cases h'
    simp [eqW]
  · simp [h, h', q]
theorem rd_eqA {e : En α} {m1 m2 : M α} (h : Rd cf A a m1 (pA e)) (h' : Rd cf A b m2 (pA e)) : Rd cf A (.op .eq [a, b]) (m1.bind fun x => m2.bind fun y => eqM e x y) (pE eBool) :=
  rd_op2 (by intro S x y w v hw hv; exact Mo.chk fun q => ⟨_, by rw [o_eq, eqOp_A hw hv q]; rfl, rfl⟩) h h'
theorem rd_neA {e : En α} {m1 m2 : M α} (h : Rd cf A a m1 (pA e)) (h' : Rd cf A b m2 (pA e)) : Rd cf A (.op .ne [a, b]) (m1.bind fun x => m2.bind fun y => (eqM e x y).bind fun q => .ok (!q)) (pE eBool) :=
  rd_op2 (by
    intro S x y w v hw hv
    unfold eqM
    cases q : datW 30 (e.en x) && datW 30 (e.en y) with
    | false => exact trivial
    | true => exact ⟨_, by rw [o_ne, eqOp_A hw hv q]; rfl, rfl⟩) h h'
theorem inOp_D {S : Sto} {w v : W} {t : Bool} {ks vs : List W} (h' : dicOf S v = some (t, ks, vs)) (q : isKey t w = true) : inOp S w v = some (dhas ks w) := by
  obtain ⟨_, _, hs, _⟩ := dic_seq h'
  unfold inOp
  split
  · exact absurd rfl (hs _)
  · rw [h']
    simp only [q, if_true]
theorem rd_inD {t : Bool} {k : En κ} {v : En ν} {m1 : M κ} {m2 : M (List (κ × ν))} (h : Rd cf A a m1 (pE k)) (h' : Rd cf A b m2 (pD t k v)) : Rd cf A (.op .isin [a, b]) (m1.bind fun x => m2.bind fun y => M.chk (dkey t k x) (.ok (dhasT k y x))) (pE eBool) :=
  rd_op2 (by
    rintro S x y w v rfl hv
    exact Mo.chk fun q => ⟨_, by rw [o_isin, inOp_D hv q]; rfl, by show W.bl (dhas _ _) = W.bl (dhasT _ _ _); rw [dhas, any_map' (fun p : κ × ν => k.en p.1)]; rfl⟩) h h'
theorem lenSem_Q {S : Sto} {w : W} {xs : List W} (h : seqOf S w = some xs) : lenSem S w = some (xs.length : Int) := by
  have hs := seq_str h
  unfold lenSem
  split
  · exact absurd rfl (hs _)
  · simp only [h]
theorem rd_lenQ {e : En α} {m : M (List α)} (h : Rd cf A a m (pQ e)) : Rd cf A (.op .len [a]) (m.bind fun xs => .ok (xs.length : Int)) (pE eInt) :=
  rd_op1 (by intro S x w hw; exact ⟨_, by rw [o_len, lenSem_Q hw]; rfl, by rw [List.length_map]; rfl⟩) h
theorem trs_len {S : Sto} : ∀ {ts : List Tr} {ws : List W} {f : List Nat}, TrsOk S ts ws f → ws.length = ts.length
  | [], ws, f, ⟨h1, _⟩ => by rw [h1]; rfl
  | t :: ts, ws, f, ⟨w, ws', f1, f2, h1, h2, h3, h4⟩ => by rw [h1]; simp [trs_len h4]
theorem idxSem_Q {S : Sto} {w : W} {xs : List W} {i : Int} (h : seqOf S w = some xs) : idxSem S w (.int i) = (ixN xs.length i).bind fun j => xs[j]? := by
  have hs := seq_str h
  unfold idxSem
  split
  · exact absurd rfl (hs _)
  · rw [h]
theorem getI_map {xs : List α} {i : Int} (f : α → W) : ((ixN (xs.map f).length i).bind fun j => (xs.map f)[j]?) = (getI xs i).map f := by
  unfold getI
  rw [List.length_map]
  cases ixN xs.length i with
  | none => rfl
  | some j => simp
theorem rd_idxQ {e : En α} {m : M (List α)} (h : Rd cf A a m (pQ e)) (h' : Rd cf A b mi (pE eInt)) : Rd cf A (.op .idx [a, b]) (m.bind fun xs => mi.bind fun i => M.of (getI xs i)) (pE e) :=
  rd_op2 (by
    rintro S x y w v hw rfl
    refine Mo.of fun z hz => ⟨e.en z, ?_, rfl⟩
    rw [o_idx]
    show idxSem S w (.int y) = _
    rw [idxSem_Q hw, getI_map, hz]
    rfl) h h'
theorem trs_get {S : Sto} (e : Et α) : ∀ {xs : List α} {ws : List W} {f : List Nat} {j : Nat} {x : α}, TrsOk S (xs.map e.tr) ws f → xs[j]? = some x → ∃ w f', ws[j]? = some w ∧ TrOk S (e.tr x) w f'
  | [], _, _, _, _, _, h => by simp at h
  | y :: xs, ws, f, 0, x, ⟨w, ws', f1, f2, h1, h2, h3, h4⟩, h => by
    simp at h
    subst h h1
    exact ⟨w, f1, rfl, h3⟩
  | y :: xs, ws, f, j + 1, x, ⟨w, ws', f1, f2, h1, h2, h3, h4⟩, h => by
    subst h1
    simpa using trs_get e h4 (by simpa using h)
theorem rd_idxS (h : Rd cf A a ms (pE eStr)) (h' : Rd cf A b mi (pE eInt)) : Rd cf A (.op .idx [a, b]) (ms.bind fun s => mi.bind fun i => M.chk (decide (s.length < LIM)) ((M.of (getI s i)).bind fun c => .ok [c])) (pE eStr) :=
  rd_op2 (by
    rintro S x y w v rfl rfl
    refine Mo.chk fun q => ?_
    cases hg : getI x y with
    | none => exact trivial
    | some z =>
      refine ⟨.str [z], ?_, rfl⟩
      rw [o_idx]
      show idxSem S (.str x) (.int y) = _
      simp only [idxSem, of_decide_eq_true q, if_true]
      unfold getI at hg
      cases hj : ixN x.length y with
      | none => rw [hj] at hg; cases hg
      | some j =>
        rw [hj] at hg
        simp only [Option.bind_some] at hg ⊢
        rw [hg]
        rfl) h h'
theorem rd_prj {e : En α} {e' : En β} {m : M α} {k : Int} (pr : α → β) (hp : ∀ S x, idxSem S (e.en x) (.int k) = some (e'.en (pr x))) (h : Rd cf A a m (pE e)) : Rd cf A (.op .idx [a, .con (.int k)]) (m.bind fun x => .ok (pr x)) (pE e') := by
  have := rd_op2 (a := a) (b := .con (.int k)) (o := .idx) (g := fun (x : α) (i : Int) => if i = k then M.ok (pr x) else .bad) (R := pE e') (by
    rintro S x y w v rfl rfl
    by_cases q : y = k
    · subst q
      rw [if_pos rfl]
      exact ⟨_, by rw [o_idx]; exact hp S x, rfl⟩
    · rw [if_neg q]; exact trivial) h (rd_int k)
  refine this.cast ?_
  cases m <;> simp
theorem rd_fld {e : En α} {e' : En β} {m : M α} {c i : Nat} (pr : α → β) (hp : ∀ S x, fldSem S c i (e.en x) = some (e'.en (pr x))) (h : Rd cf A a m (pE e)) : Rd cf A (.fld c i a) (m.bind fun x => .ok (pr x)) (pE e') := by
  intro ρ S F H
  have h1 := h ρ S F H
  cases m with
  | ok x =>
    obtain ⟨w, h2, rfl⟩ := h1
    exact ⟨_, by rw [s_fld, h2]; simp [hp], rfl⟩
  | ex c => simp only [M.bind]; rw [s_fld, show _ = _ from h1]; rfl
  | bad => trivial
theorem idxSem_D {S : Sto} {w v : W} {t : Bool} {ks vs : List W} (h : dicOf S w = some (t, ks, vs)) (q : isKey t v = true) : idxSem S w v = dget ks vs v := by
  obtain ⟨h1, _, h3, _⟩ := dic_seq h
  unfold idxSem
  split
  · exact absurd rfl (h3 _)
  · rw [h1, h]
    simp only [q, if_true]
theorem rd_idxD {t : Bool} {k : En κ} {v : En ν} {m1 : M (List (κ × ν))} {m2 : M κ} (h : Rd cf A a m1 (pD t k v)) (h' : Rd cf A b m2 (pE k)) : Rd cf A (.op .idx [a, b]) (m1.bind fun x => m2.bind fun y => M.chk (dkey t k y) (M.of (dgetT k x y))) (pE v) :=
  rd_op2 (by
    rintro S x y w v' hw rfl
    refine Mo.chk fun q => Mo.of fun z hz => ⟨v.en z, ?_, rfl⟩
    rw [o_idx, idxSem_D hw q, dget_T k v.en, hz]
    rfl) h h'
theorem rd_slL {e : En α} {ct : α → Option Int → Option Int → α} {m : M α} (h : Rd cf A a m (pS e ct)) (h' : Rd cf A b mi (pE eInt)) : Rd cf A (.op (.slice true false) [a, b]) (m.bind fun x => mi.bind fun i => .ok (ct x (some i) none)) (pE e) :=
  rd_op2 (by rintro S x y w v hw rfl; exact ⟨_, by rw [o_slice, show eInt.en y = W.int y from rfl, p_tf]; exact hw (some y) none, rfl⟩) h h'
theorem rd_slR {e : En α} {ct : α → Option Int → Option Int → α} {m : M α} (h : Rd cf A a m (pS e ct)) (h' : Rd cf A b mi (pE eInt)) : Rd cf A (.op (.slice false true) [a, b]) (m.bind fun x => mi.bind fun i => .ok (ct x none (some i))) (pE e) :=
  rd_op2 (by rintro S x y w v hw rfl; exact ⟨_, by rw [o_slice, show eInt.en y = W.int y from rfl, p_ft]; exact hw none (some y), rfl⟩) h h'
theorem rd_sl2 {e : En α} {ct : α → Option Int → Option Int → α} {m : M α} (h : Rd cf A a m (pS e ct)) (h' : Rd cf A b mi (pE eInt)) (h'' : Rd cf A c mj (pE eInt)) : Rd cf A (.op (.slice true true) [a, b, c]) (m.bind fun x => mi.bind fun i => mj.bind fun j => .ok (ct x (some i) (some j))) (pE e) :=
  rd_op3 (by rintro S x y z w v u hw rfl rfl; exact ⟨_, by rw [o_slice, show eInt.en y = W.int y from rfl, show eInt.en z = W.int z from rfl, p_tt]; exact hw (some y) (some z), rfl⟩) h h' h''
theorem Rd.ks {m : M (List Int)} (h : Rd cf A a m (pE eK)) : Rd cf A a m (pS (eL eInt) cut) := h.imp fun S x w h => by
  rintro lo hi
  rw [show w = _ from h]
  show Option.some (W.lst (cut (x.map W.int) lo hi)) = _
  rw [cutL_map]
  rfl
theorem Rd.ss {m : M (List Nat)} (h : Rd cf A a m (pE eStr)) : Rd cf A a (m.bind fun s => M.chk (decide (s.length < LIM)) (.ok s)) (pS eStr cut) := by
  intro ρ S F H
  have h1 := h ρ S F H
  cases m with
  | ok x =>
    simp only [M.bind]
    cases q : decide (x.length < LIM) with
    | true =>
      obtain ⟨w, h2, rfl⟩ := h1
      refine ⟨_, h2, fun lo hi => ?_⟩
      show sliceSem S (.str x) lo hi = _
      simp only [sliceSem, of_decide_eq_true q, if_true]
      rfl
    | false => trivial
  | ex c => exact h1
  | bad => trivial
theorem rd_tuple {e : En α} {m : M (List α)} (h : Rd cf A a m (pQ e)) : Rd cf A (.op .tuple [a]) (m.bind fun xs => .ok xs) (pE (eT e)) :=
  rd_op1 (by intro S x w hw; exact ⟨_, by rw [o_tuple, show seqOf S w = _ from hw]; rfl, rfl⟩) h
theorem rd_sorted {e : En α} {m : M (List α)} (h : Rd cf A a m (pL e)) : Rd cf A (.op .sorted [a]) (m.bind fun xs => sortM e xs) (pE (eL e)) :=
  rd_op1 (by
    intro S x w hw
    refine Mo.chk fun q => ⟨.lst (sortW (x.map e.en)), ?_, by rw [sortW_map]; rfl⟩
    rw [o_sorted]
    unfold sortedSem
    rw [show lstOf S w = _ from hw]
    have q' : (datL 30 (x.map e.en) && sortOk (x.map e.en) && decide ((x.map e.en).length < LIM)) = true := by rw [List.length_map]; exact q
    simp only [q', if_true, Option.map_some]) h
theorem rd_rangeL (h : Rd cf A a mi (pE eInt)) : Rd cf A (.op (.rangeL false false) [a]) (mi.bind fun n => M.chk (small n) (.ok (rgI 0 n))) (pE (eL eInt)) :=
  rd_op1 (by
    rintro S x w rfl
    refine Mo.chk fun q => ⟨rgW false 0 x, ?_, ?_⟩
    · simp only [eInt, opSem]
      rw [if_pos (show decide _ = true from q)]
    · show rgW false 0 x = W.lst ((rgI 0 x).map W.int)
      simp only [rgW, rgI, List.map_map]
      rfl) h
theorem rd_join {mss : M (List (List Nat))} (h : Rd cf A a ms (pE eStr)) (h' : Rd cf A b mss (pQ eStr)) : Rd cf A (.mth .str .mJoin a [b]) (ms.bind fun p => mss.bind fun ss => M.chk (decide ((joinS p ss).length < LIM) && decide (p.length < LIM)) (.ok (joinS p ss))) (pE eStr) :=
  rd_mth1 (by rintro S x w rfl; rfl) (by
    rintro S x y w v rfl hv
    refine Mo.chk fun q => ⟨.str (joinS x y), ?_, rfl⟩
    simp only [eStr, opSem]
    rw [show seqOf S v = _ from hv]
    simp only [eStr, strsOf_map, Option.bind_some, q, if_true]) h h'
theorem rd_get2 {t : Bool} {k : En κ} {v : En ν} {m1 : M (List (κ × ν))} {m2 : M κ} {m3 : M ν} (h : Rd cf A a m1 (pD t k v)) (h' : Rd cf A b m2 (pE k)) (h'' : Rd cf A c m3 (pE v)) : Rd cf A (.mth .dict .mGet2 a [b, c]) (m1.bind fun x => m2.bind fun y => m3.bind fun z => M.chk (dkey t k y) (.ok ((dgetT k x y).getD z))) (pE v) :=
  rd_mth2 (by intro S x w hw; simp only [tyOk, show dicOf S w = _ from hw]; rfl) (by
    rintro S x y z w v' u hw rfl rfl
    refine Mo.chk fun q => ⟨v.en ((dgetT k x y).getD z), ?_, rfl⟩
    simp only [opSem]
    rw [show dicOf S w = _ from hw]
    simp only [dget_T k v.en]
    rw [if_pos (show isKey _ _ = true from q)]
    cases dgetT k x y <;> rfl) h h' h''
theorem rd_isi {m : M α} {t : IsT} (g : Bool) (hp : ∀ S x w, P S x w → isiOp t w S = some g) (h : Rd cf A a m P) : Rd cf A (.op (.isi t) [a]) (m.bind fun _ => .ok g) (pE eBool) :=
  rd_op1 (by intro S x w hw; exact ⟨_, by rw [o_isi, hp S x w hw]; rfl, rfl⟩) h
end
end Tw

namespace Tw
section
variable {α β γ δ ε κ ν ω : Type}
variable {cf : CallF} {A : List Sl} {a b c d : E} {as : List E} {P : PK α} {Q : PK β} {R : PK γ} {T : PK δ} {U : PK ε}
variable {mi mj mk : M Int} {ms mt : M (List Nat)} {mb mc md : M Bool}
theorem rd_not (h : Rd cf A a mb (pE eBool)) : Rd cf A (.not a) (mb.bind fun x => .ok (!x)) (pE eBool) := by
  intro ρ S F H
  have h1 := h ρ S F H
  cases mb with
  | ok x =>
    obtain ⟨w, h2, rfl⟩ := h1
    exact ⟨_, by rw [s_not, h2]; rfl, rfl⟩
  | ex c => simp only [M.bind]; rw [s_not, show _ = _ from h1]; rfl
  | bad => trivial
theorem rd_and1 (h : Rd cf A a mb (pE eBool)) : Rd cf A (.and [a]) mb (pE eBool) := by
  intro ρ S F H
  have h1 := h ρ S F H
  cases mb with
  | ok x =>
    obtain ⟨w, h2, rfl⟩ := h1
    exact ⟨_, by rw [s_and, s_and1, h2]; rfl, rfl⟩
  | ex c => simp only; rw [s_and, s_and1, show _ = _ from h1]; rfl
  | bad => trivial
theorem rd_and (h : Rd cf A a mb (pE eBool)) (h' : Rd cf A (.and (b :: as)) mc (pE eBool)) : Rd cf A (.and (a :: b :: as)) (mb.bind fun x => if x = true then mc else .ok false) (pE eBool) := by
  intro ρ S F H
  have h1 := h ρ S F H
  have h2 := h' ρ S F H
  cases mb with
  | ok x =>
    obtain ⟨w, h3, rfl⟩ := h1
    simp only [M.bind]
    cases x with
    | true =>
      simp only [if_true]
      rw [s_and] at h2
      rw [s_and, s_and2, h3]
      exact h2
    | false => exact ⟨_, by rw [s_and, s_and2, h3]; rfl, rfl⟩
  | ex c => simp only [M.bind]; rw [s_and, s_and2, show _ = _ from h1]; rfl
  | bad => trivial
theorem rd_or1 (h : Rd cf A a mb (pE eBool)) : Rd cf A (.or [a]) mb (pE eBool) := by
  intro ρ S F H
  have h1 := h ρ S F H
  cases mb with
  | ok x =>
    obtain ⟨w, h2, rfl⟩ := h1
    exact ⟨_, by rw [s_or, s_or1, h2]; rfl, rfl⟩
  | ex c => simp only; rw [s_or, s_or1, show _ = _ from h1]; rfl
  | bad => trivial
theorem rd_or (h : Rd cf A a mb (pE eBool)) (h' : Rd cf A (.or (b :: as)) mc (pE eBool)) : Rd cf A (.or (a :: b :: as)) (mb.bind fun x => if x = true then .ok true else mc) (pE eBool) := by
  intro ρ S F H
  have h1 := h ρ S F H
  have h2 := h' ρ S F H
  cases mb with
  | ok x =>
    obtain ⟨w, h3, rfl⟩ := h1
    simp only [M.bind]
    cases x with
    | false =>
      simp only [Bool.false_eq_true, if_false]
      rw [s_or] at h2
      rw [s_or, s_or2, h3]
      exact h2
    | true => exact ⟨_, by rw [s_or, s_or2, h3]; rfl, rfl⟩
  | ex c => simp only [M.bind]; rw [s_or, s_or2, show _ = _ from h1]; rfl
  | bad => trivial
theorem rd_andp {y : Bool} (h : Rd cf A a mb (pE eBool)) (h' : Rd cf A (.and (b :: as)) (.ok y) (pE eBool)) : Rd cf A (.and (a :: b :: as)) (mb.bind fun x => .ok (x && y)) (pE eBool) :=
  (rd_and h h').cast (by congr 1; funext x; cases x <;> rfl)
theorem rd_orp {y : Bool} (h : Rd cf A a mb (pE eBool)) (h' : Rd cf A (.or (b :: as)) (.ok y) (pE eBool)) : Rd cf A (.or (a :: b :: as)) (mb.bind fun x => .ok (x || y)) (pE eBool) :=
  (rd_or h h').cast (by congr 1; funext x; cases x <;> rfl)
abbrev PKs (ω : Type) := Sto → ω → List W → Prop
def Ra (cf : CallF) (A : List Sl) (es : List E) (m : M ω) (P : PKs ω) : Prop := ∀ ρ S F, Hd S A ρ F → match m with
  | .ok a => ∃ ws, evs cf es ρ S = .ok ws S ∧ P S a ws
  | .ex c => evs cf es ρ S = .ex c S
  | .bad => True
def pN : PKs Unit := fun _ _ ws => ws = []
def pC (P : PK α) (Q : PKs ω) : PKs (α × ω) := fun S p ws => ∃ w ws', ws = w :: ws' ∧ P S p.1 w ∧ Q S p.2 ws'
theorem ra_nil : Ra cf A [] (.ok ()) pN := fun ρ S F H => ⟨[], by simp, rfl⟩
theorem ra_cons {Q : PKs ω} {m1 : M α} {m2 : M ω} (h : Rd cf A a m1 P) (h' : Ra cf A as m2 Q) : Ra cf A (a :: as) (m1.bind fun x => m2.bind fun y => .ok (x, y)) (pC P Q) := by
  intro ρ S F H
  have h1 := h ρ S F H
  cases m1 with
  | ok x =>
    obtain ⟨w, h2, h3⟩ := h1
    have g1 := h' ρ S F H
    simp only [M.bind]
    cases m2 with
    | ok y =>
      obtain ⟨ws, g2, g3⟩ := g1
      exact ⟨w :: ws, by rw [s_evs1]; simp [h2, g2], w, ws, rfl, h3, g3⟩
    | ex c => simp only; rw [s_evs1]; simp [h2, g1]
    | bad => trivial
  | ex c => simp only [M.bind]; rw [s_evs1]; simp [h1]
  | bad => trivial
theorem rd_opA {Q : PKs ω} {o : Op} {m : M ω} {g : ω → M γ} (ho : ∀ S x ws, Q S x ws → Mo (g x) fun z => ∃ w', opSem o ws S = some w' ∧ R S z w') (h : Ra cf A as m Q) : Rd cf A (.op o as) (m.bind g) R := by
  intro ρ S F H
  have h1 := h ρ S F H
  cases m with
  | ok x =>
    obtain ⟨w, h2, h3⟩ := h1
    have h4 := ho S x w h3
    simp only [M.bind]
    cases hg : g x with
    | ok z =>
      rw [hg] at h4
      obtain ⟨w', h5, h6⟩ := h4
      exact ⟨w', by rw [s_op]; simp [h2, h5], h6⟩
    | ex c => rw [hg] at h4; exact h4.elim
    | bad => trivial
  | ex c => simp only [M.bind]; rw [s_op]; simp [h1]
  | bad => trivial
theorem rd_tup2 {x : En α} {y : En β} {m1 : M α} {m2 : M β} (h1 : Rd cf A a m1 (pE x)) (h2 : Rd cf A b m2 (pE y)) : Rd cf A (.op .tupD [a, b]) (m1.bind fun p => m2.bind fun q => .ok (p, q)) (pE (e2 x y)) :=
  (rd_opA (g := fun p => .ok (p.1, p.2.1)) (by rintro S ⟨p, q, _⟩ ws ⟨w, _, rfl, rfl, v, _, rfl, rfl, rfl⟩; exact ⟨_, by rw [o_tupD]; rfl, rfl⟩) (ra_cons h1 (ra_cons h2 ra_nil))).cast (by cases m1 <;> cases m2 <;> rfl)
theorem rd_tup3 {x : En α} {y : En β} {z : En γ} {m1 : M α} {m2 : M β} {m3 : M γ} (h1 : Rd cf A a m1 (pE x)) (h2 : Rd cf A b m2 (pE y)) (h3 : Rd cf A c m3 (pE z)) : Rd cf A (.op .tupD [a, b, c]) (m1.bind fun p => m2.bind fun q => m3.bind fun r => .ok (p, q, r)) (pE (e3 x y z)) :=
  (rd_opA (g := fun p => .ok (p.1, p.2.1, p.2.2.1)) (by rintro S ⟨p, q, r, _⟩ ws ⟨w, _, rfl, rfl, v, _, rfl, rfl, u, _, rfl, rfl, rfl⟩; exact ⟨_, by rw [o_tupD]; rfl, rfl⟩) (ra_cons h1 (ra_cons h2 (ra_cons h3 ra_nil)))).cast (by cases m1 <;> cases m2 <;> cases m3 <;> rfl)
theorem rd_tup4 {x : En α} {y : En β} {z : En γ} {t : En δ} {m1 : M α} {m2 : M β} {m3 : M γ} {m4 : M δ} (h1 : Rd cf A a m1 (pE x)) (h2 : Rd cf A b m2 (pE y)) (h3 : Rd cf A c m3 (pE z)) (h4 : Rd cf A d m4 (pE t)) : Rd cf A (.op .tupD [a, b, c, d]) (m1.bind fun p => m2.bind fun q => m3.bind fun r => m4.bind fun s => .ok (p, q, r, s)) (pE (e4 x y z t)) :=
  (rd_opA (g := fun p => .ok (p.1, p.2.1, p.2.2.1, p.2.2.2.1)) (by rintro S ⟨p, q, r, s, _⟩ ws ⟨w, _, rfl, rfl, v, _, rfl, rfl, u, _, rfl, rfl, o, _, rfl, rfl, rfl⟩; exact ⟨_, by rw [o_tupD]; rfl, rfl⟩) (ra_cons h1 (ra_cons h2 (ra_cons h3 (ra_cons h4 ra_nil))))).cast (by cases m1 <;> cases m2 <;> cases m3 <;> cases m4 <;> rfl)
def Rl (cf : CallF) (A : List Sl) (es : List E) (m : M (List α)) (e : En α) : Prop := Ra cf A es m fun _ xs ws => ws = xs.map e.en
theorem rl_nil {e : En α} : Rl cf A [] (.ok []) e := fun ρ S F H => ⟨[], by simp, rfl⟩
theorem rl_cons {e : En α} {m1 : M α} {m2 : M (List α)} (h : Rd cf A a m1 (pE e)) (h' : Rl cf A as m2 e) : Rl cf A (a :: as) (m1.bind fun x => m2.bind fun y => .ok (x :: y)) e := by
  intro ρ S F H
  have h1 := h ρ S F H
  cases m1 with
  | ok x =>
    obtain ⟨w, h2, rfl⟩ := h1
    have g1 := h' ρ S F H
    simp only [M.bind]
    cases m2 with
    | ok y =>
      obtain ⟨ws, g2, rfl⟩ := g1
      exact ⟨_, by rw [s_evs1]; simp [h2, g2], rfl⟩
    | ex c => simp only; rw [s_evs1]; simp [h2, g1]
    | bad => trivial
  | ex c => simp only [M.bind]; rw [s_evs1]; simp [h1]
  | bad => trivial
theorem rd_lstD {e : En α} {m : M (List α)} (h : Rl cf A as m e) : Rd cf A (.op .lstD as) (m.bind fun xs => M.chk (decide (xs.length < LIM)) (.ok xs)) (pE (eL e)) :=
  rd_opA (by
    rintro S x ws rfl
    refine Mo.chk fun q => ⟨_, ?_, rfl⟩
    rw [o_lstD, List.length_map, if_pos (of_decide_eq_true q)]
    rfl) h
theorem rd_tupH {e : En α} {m : M (List α)} (h : Rl cf A as m e) : Rd cf A (.op .tupD as) (m.bind fun xs => M.chk (decide (xs.length < LIM)) (.ok xs)) (pE (eT e)) :=
  rd_opA (by
    rintro S x ws rfl
    refine Mo.chk fun q => ⟨_, ?_, rfl⟩
    rw [o_tupD, List.length_map, if_pos (of_decide_eq_true q)]
    rfl) h
def Fk (cf : CallF) (f : Nat) (ws : List W) (m : M α) (et : Et α) : Prop := match m with
  | .ok a => ∃ w S' fr, cf f ws [] = .ok w S' ∧ TrOk S' (et.tr a) w fr ∧ fr.Nodup
  | .ex c => ∃ S', cf f ws [] = .ex c S'
  | .bad => True
theorem Fk.cast {f : Nat} {ws : List W} {m m' : M α} {et : Et α} (h : Fk cf f ws m et) (e : m = m') : Fk cf f ws m' et := e ▸ h
def Ck (m : M α) (r : Rs W) (e : En α) (S : Sto) : Prop := match m with
  | .ok a => r = .ok (e.en a) S
  | .ex c => r = .ex c S
  | .bad => True
theorem callK_ok {f : Nat} {ws us : List W} {S : Sto} {et : Et α} {m : M α} (hu : vws S ws = some us) (hs : et.st = true ∨ rfreeL ws = true) (hd : et.dp ≤ 3) (h : Fk cf f us m et) : Ck m (callSem cf .pure f ws S) et.fl S := by
  cases m with
  | ok x =>
    obtain ⟨w, S', fr, h1, h2, h3⟩ := h
    show callSem cf .pure f ws S = .ok (et.fl.en x) S
    have e1 : vw S' w = some (et.fl.en x) := by rw [← et.hf x]; exact h2.vw 3 (Nat.le_trans (et.hd x) hd)
    simp only [callSem, hu, h1]
    by_cases q : rfreeL ws = true
    · rw [if_pos q, e1]; rfl
    · rw [if_neg q]
      have hs : et.st = true := by
        rcases hs with z | z
        · exact z
        · exact absurd z q
      have e2 : vwB S' w = some (et.fl.en x) := by rw [← et.hf x]; exact h2.vwB 3 (Nat.le_trans (et.hd x) hd) (et.hs hs x)
      rw [e2]; rfl
  | ex c =>
    obtain ⟨S', h1⟩ := h
    show callSem cf .pure f ws S = .ex c S
    simp only [callSem, hu, h1]
  | bad => trivial
theorem rd_callA {Q : PKs ω} {m : M ω} {g : ω → M α} {f : Nat} {et : Et α} (us : ω → List W) (hv : ∀ S x ws, Q S x ws → vws S ws = some (us x)) (hs : et.st = true ∨ ∀ S x ws, Q S x ws → rfreeL ws = true) (hd : et.dp ≤ 3) (h : Ra cf A as m Q) (hf : ∀ x, Fk cf f (us x) (g x) et) : Rd cf A (.call .pure f as) (m.bind g) (pE et.fl) := by
  intro ρ S F H
  have h1 := h ρ S F H
  cases m with
  | ok x =>
    obtain ⟨ws, h2, h3⟩ := h1
    have k := callK_ok (hv S x ws h3) (hs.imp id fun z => z S x ws h3) hd (hf x)
    simp only [M.bind]
    cases hg : g x with
    | ok z =>
      rw [hg] at k
      exact ⟨_, by rw [s_call, h2]; exact k, rfl⟩
    | ex c =>
      rw [hg] at k
      simp only
      rw [s_call, h2]; exact k
    | bad => trivial
  | ex c => simp only [M.bind]; rw [s_call, show _ = _ from h1]; rfl
  | bad => trivial
theorem rd_mcallA {Q : PKs ω} {m0 : M β} {m : M ω} {g : β → ω → M α} {f k : Nat} {et : Et α} {e0 : En β} (us : ω → List W) (hr : ∀ S x, ∃ xs, recOf S (e0.en x) = some (k, xs)) (hv : ∀ S x ws, Q S x ws → vws S ws = some (us x)) (hs : et.st = true ∨ ∀ S x ws, Q S x ws → rfreeL ws = true) (hd : et.dp ≤ 3)
    (h0 : Rd cf A a m0 (pE e0)) (h : Ra cf A as m Q) (hf : ∀ b x, Fk cf f (e0.en b :: us x) (g b x) et) : Rd cf A (.mcall .pure k f a as) (m0.bind fun b => m.bind fun x => g b x) (pE et.fl) := by
  intro ρ S F H
  have h1 := h0 ρ S F H
  have h2 := h ρ S F H
  cases m0 with
  | ok b =>
    obtain ⟨w, q1, rfl⟩ := h1
    obtain ⟨xs, q2⟩ := hr S b
    simp only [M.bind]
    cases m with
    | ok x =>
      obtain ⟨ws, h2, h3⟩ := h2
      have hu : vws S (e0.en b :: ws) = some (e0.en b :: us x) := by
        simp only [vws, subL]
        rw [show sub false (lev false S 3) (e0.en b) = some (e0.en b) from sub_id (e0.rf b), show subL false (lev false S 3) ws = _ from hv S x ws h3]
        rfl
      have k := callK_ok hu (hs.imp id fun z => by simp [rfreeL, e0.rf b, z S x ws h3]) hd (hf b x)
      simp only
      cases hg : g b x with
      | ok z =>
        rw [hg] at k
        exact ⟨_, by rw [s_mcall, q1, s_bind, q2]; simp only [if_true]; rw [h2]; exact k, rfl⟩
      | ex c =>
        rw [hg] at k
        simp only
        rw [s_mcall, q1, s_bind, q2]; simp only [if_true]; rw [h2]; exact k
      | bad => trivial
    | ex c => simp only; rw [s_mcall, q1, s_bind, q2]; simp only [if_true]; rw [show _ = _ from h2]; rfl
    | bad => trivial
  | ex c => simp only [M.bind]; rw [s_mcall, show _ = _ from h1]; rfl
  | bad => trivial
def Rv (cf : CallF) (A : List Sl) (es : List E) (m : M ω) (us : ω → List W) (v : Bool) : Prop := Ra cf A es m fun S x ws => vws S ws = some (us x) ∧ (v = true → rfreeL ws = true)
theorem rv_nil {v : Bool} : Rv cf A [] (.ok ()) (fun _ => []) v := fun ρ S F H => ⟨[], by simp, rfl, fun _ => rfl⟩
theorem rv_cons {m1 : M α} {m2 : M ω} {e : En α} {us : ω → List W} {v : Bool} (h : Rd cf A a m1 (pE e)) (h' : Rv cf A as m2 us v) : Rv cf A (a :: as) (m1.bind fun x => m2.bind fun y => .ok (x, y)) (fun p => e.en p.1 :: us p.2) v := by
  intro ρ S F H
  have k := ra_cons h h' ρ S F H
  cases m1 with
  | ok x => cases m2 with
    | ok y =>
      obtain ⟨ws, h1, w, ws', rfl, rfl, h4, h5⟩ := k
      refine ⟨_, h1, ?_, fun z => by simp [rfreeL, e.rf, h5 z]⟩
      simp only [vws, subL]
      rw [show sub false (lev false S 3) (e.en x) = some (e.en x) from sub_id (e.rf x), show subL false (lev false S 3) ws' = _ from h4]
      rfl
    | ex c => exact k
    | bad => trivial
  | ex c => exact k
  | bad => trivial
theorem rd_call {m : M ω} {g : ω → M α} {f : Nat} {et : Et α} {us : ω → List W} {v : Bool} (h : Rv cf A as m us v) (hf : ∀ x, Fk cf f (us x) (g x) et) (hs : (et.st || v) = true := by rfl) (hd : et.dp ≤ 3 := by decide) : Rd cf A (.call .pure f as) (m.bind g) (pE et.fl) :=
  rd_callA us (fun S x ws z => z.1) (by
    cases v with
    | true => exact .inr fun S x ws z => z.2 rfl
    | false => exact .inl (by simpa using hs)) hd h hf
theorem rd_mcall {m0 : M β} {m : M ω} {g : β → ω → M α} {f k : Nat} {et : Et α} {e0 : En β} {us : ω → List W} {v : Bool} (h0 : Rd cf A a m0 (pE e0)) (h : Rv cf A as m us v) (hf : ∀ b x, Fk cf f (e0.en b :: us x) (g b x) et) (hr : ∀ S x, ∃ xs, recOf S (e0.en x) = some (k, xs)) (hs : (et.st || v) = true := by rfl) (hd : et.dp ≤ 3 := by decide) : Rd cf A (.mcall .pure k f a as) (m0.bind fun b => m.bind fun x => g b x) (pE et.fl) :=
  rd_mcallA us hr (fun S x ws z => z.1) (by
    cases v with
    | true => exact .inr fun S x ws z => z.2 rfl
    | false => exact .inl (by simpa using hs)) hd h0 h hf
def Nk (cf : CallF) (k f : Nat) (us : List W) (m : M α) (e : En α) : Prop := ∀ S ws, vws S ws = some us → match m with
  | .ok a => newSem cf .pure k f ws S = .ok (e.en a) S
  | .ex c => newSem cf .pure k f ws S = .ex c S
  | .bad => True
theorem rd_new {m : M ω} {g : ω → M α} {f k : Nat} {e : En α} {us : ω → List W} {v : Bool} (h : Rv cf A as m us v) (hf : ∀ x, Nk cf k f (us x) (g x) e) : Rd cf A (.new .pure k f as) (m.bind g) (pE e) := by
  intro ρ S F H
  have h1 := h ρ S F H
  cases m with
  | ok x =>
    obtain ⟨ws, h2, h3, _⟩ := h1
    have q := hf x S ws h3
    simp only [M.bind]
    cases hg : g x with
    | ok z =>
      rw [hg] at q
      exact ⟨_, by rw [s_new, h2]; exact q, rfl⟩
    | ex c =>
      rw [hg] at q
      simp only
      rw [s_new, h2]; exact q
    | bad => trivial
  | ex c => simp only [M.bind]; rw [s_new, show _ = _ from h1]; rfl
  | bad => trivial
end

section
variable {α β γ δ ε κ ν ω : Type}
def Bt (t : Tg) (e : En α) (A : List Sl) (A' : α → List Sl) : Prop := ∀ a ρ S F, Hd S A ρ F → ∃ ρ' F', bindT t (e.en a) ρ = some ρ' ∧ Hd S (A' a) ρ' F' ∧ (F.Nodup → F'.Nodup) ∧ (∀ n ∈ F', n ∈ F)
theorem Hd.setB {S : Sto} {A : List Sl} {i : Nat} {ρ : Env} {F : List Nat} {sl : Sl} {r : Option W} (h : Hd S A ρ F) (hs : SlOk S sl r []) : ∃ F', Hd S (Sl.put A i sl) (ρ.set i r) F' ∧ (F.Nodup → F'.Nodup) ∧ ∀ n ∈ F', n ∈ F := by
  by_cases hi : i < A.length
  · obtain ⟨r0, f0, G, h1, h2, h3, h4⟩ := h.split hi
    obtain ⟨F', k1, k2⟩ := h4 S sl r [] (fun _ _ => rfl) hs
    rw [List.nil_append] at k2
    refine ⟨F', k1, fun hn => ?_, fun n hn => ?_⟩
    · rw [k2.nodup_iff]
      exact (List.nodup_append.mp (h3.nodup_iff.mp hn)).2.1
    · exact h3.mem_iff.mpr (by simp [k2.mem_iff.mp hn])
  · rw [put_out hi]
    exact ⟨F, h.setOut hi, id, fun _ q => q⟩
theorem Hd.wipB {S : Sto} {A : List Sl} {ρ : Env} {F : List Nat} (h : Hd S A ρ F) : ∀ vs : List Nat, ∃ F', Hd S (Sl.wip A vs) (wipe ρ vs) F' ∧ (F.Nodup → F'.Nodup) ∧ ∀ n ∈ F', n ∈ F
  | [] => ⟨F, h, id, fun _ q => q⟩
  | v :: vs => by
    obtain ⟨F1, h1, h2, h3⟩ := Hd.wipB h vs
    obtain ⟨F2, k1, k2, k3⟩ := h1.setB (i := v) (sl := .no) (r := none) rfl
    exact ⟨F2, k1, fun q => k2 (h2 q), fun n q => h3 n (k3 n q)⟩
theorem val_ok {S : Sto} (e : En α) (a : α) : SlOk S (.s (eV e) a) (some (e.en a)) [] := ⟨_, rfl, rfl, e.rf a, rfl⟩
theorem bt_1 {e : En α} {A : List Sl} (i : Nat) : Bt (.one i) e A fun a => Sl.put A i (.s (eV e) a) := by
  intro a ρ S F H
  obtain ⟨F', h1, h2, h3⟩ := H.setB (i := i) (val_ok e a)
  exact ⟨_, F', rfl, h1, h2, h3⟩
theorem bt_2 {x : En α} {y : En β} {A : List Sl} (i j : Nat) : Bt (.tup [i, j]) (e2 x y) A fun p => Sl.put (Sl.put A i (.s (eV x) p.1)) j (.s (eV y) p.2) := by
  intro a ρ S F H
  obtain ⟨F1, h1, h2, h3⟩ := H.setB (i := i) (val_ok x a.1)
  obtain ⟨F2, k1, k2, k3⟩ := h1.setB (i := j) (val_ok y a.2)
  exact ⟨_, F2, rfl, k1, fun q => k2 (h2 q), fun n q => h3 n (k3 n q)⟩
theorem bt_3 {x : En α} {y : En β} {z : En γ} {A : List Sl} (i j k : Nat) : Bt (.tup [i, j, k]) (e3 x y z) A fun p => Sl.put (Sl.put (Sl.put A i (.s (eV x) p.1)) j (.s (eV y) p.2.1)) k (.s (eV z) p.2.2) := by
  intro a ρ S F H
  obtain ⟨F1, h1, h2, h3⟩ := H.setB (i := i) (val_ok x a.1)
  obtain ⟨F2, k1, k2, k3⟩ := h1.setB (i := j) (val_ok y a.2.1)
  obtain ⟨F3, l1, l2, l3⟩ := k1.setB (i := k) (val_ok z a.2.2)
  exact ⟨_, F3, rfl, l1, fun q => l2 (k2 (h2 q)), fun n q => h3 n (k3 n (l3 n q))⟩
theorem bt_4 {x : En α} {y : En β} {z : En γ} {u : En δ} {A : List Sl} (i j k l : Nat) : Bt (.tup [i, j, k, l]) (e4 x y z u) A fun p => Sl.put (Sl.put (Sl.put (Sl.put A i (.s (eV x) p.1)) j (.s (eV y) p.2.1)) k (.s (eV z) p.2.2.1)) l (.s (eV u) p.2.2.2) := by
  intro a ρ S F H
  obtain ⟨F1, h1, h2, h3⟩ := H.setB (i := i) (val_ok x a.1)
  obtain ⟨F2, k1, k2, k3⟩ := h1.setB (i := j) (val_ok y a.2.1)
  obtain ⟨F3, l1, l2, l3⟩ := k1.setB (i := k) (val_ok z a.2.2.1)
  obtain ⟨F4, m1, m2, m3⟩ := l1.setB (i := l) (val_ok u a.2.2.2)
  exact ⟨_, F4, rfl, m1, fun q => m2 (l2 (k2 (h2 q))), fun n q => h3 n (k3 n (l3 n (m3 n q)))⟩
def It (cf : CallF) (A : List Sl) (k : ItK) (srcs : List E) (m : M (List α)) (e : En α) : Prop := ∀ ρ S F, Hd S A ρ F → match m with
  | .ok xs => ∃ ws, evs cf srcs ρ S = .ok ws S ∧ itVals k ws = some (xs.map e.en)
  | .ex c => evs cf srcs ρ S = .ex c S
  | .bad => True
variable {cf : CallF} {A : List Sl} {a b c d : E} {as : List E} {P : PK α} {Q : PK β} {R : PK γ}
variable {mi mj mk : M Int} {ms mt : M (List Nat)}
theorem zipT_map (x : En α) (y : En β) : ∀ (xs : List α) (ys : List β), zipT (xs.map x.en) (ys.map y.en) = (xs.zip ys).map (e2 x y).en
  | [], _ => rfl
  | _ :: _, [] => rfl
  | _ :: xs, _ :: ys => by
    simp only [List.map_cons, zipT, List.zip_cons_cons]
    rw [zipT_map x y xs ys]
    rfl
theorem it_1 {k : ItK} {m : M α} {g : α → M (List β)} {e : En β} (hg : ∀ S x w, P S x w → Mo (g x) fun xs => itVals k [w] = some (xs.map e.en)) (h : Rd cf A a m P) : It cf A k [a] (m.bind g) e := by
  intro ρ S F H
  have h1 := h ρ S F H
  cases m with
  | ok x =>
    obtain ⟨w, h2, h3⟩ := h1
    have h4 := hg S x w h3
    simp only [M.bind]
    cases q : g x with
    | ok z => rw [q] at h4; exact ⟨[w], by simp [h2], h4⟩
    | ex c => rw [q] at h4; exact h4.elim
    | bad => trivial
  | ex c => simp only [M.bind]; rw [s_evs1, show _ = _ from h1]; rfl
  | bad => trivial
theorem it_2 {k : ItK} {m : M α} {m' : M γ} {g : α → γ → M (List β)} {e : En β} (hg : ∀ S x y w v, P S x w → R S y v → Mo (g x y) fun xs => itVals k [w, v] = some (xs.map e.en)) (h : Rd cf A a m P) (h' : Rd cf A b m' R) : It cf A k [a, b] (m.bind fun x => m'.bind fun y => g x y) e := by
  intro ρ S F H
  have h1 := h ρ S F H
  cases m with
  | ok x =>
    obtain ⟨w, h2, h3⟩ := h1
    have g1 := h' ρ S F H
    simp only [M.bind]
    cases m' with
    | ok y =>
      obtain ⟨v, g2, g3⟩ := g1
      have h4 := hg S x y w v h3 g3
      simp only
      cases q : g x y with
      | ok z => rw [q] at h4; exact ⟨[w, v], by simp [h2, g2], h4⟩
      | ex c => rw [q] at h4; exact h4.elim
      | bad => trivial
    | ex c => simp only; rw [s_evs1, h2, s_bind, s_evs1, show _ = _ from g1]; rfl
    | bad => trivial
  | ex c => simp only [M.bind]; rw [s_evs1, show _ = _ from h1]; rfl
  | bad => trivial
theorem it_cast {k : ItK} {m m' : M (List α)} {e : En α} (h : It cf A k as m e) (q : m = m') : It cf A k as m' e := q ▸ h
theorem it_list {e : En α} {m : M (List α)} (h : Rd cf A a m (pE (eL e))) : It cf A .list [a] m e := it_cast (it_1 (g := fun x => .ok x) (by rintro S x w rfl; exact (rfl : itVals .list [.lst _] = _)) h) M.bind_pure
def rg (n : Int) : List Int := (List.range n.toNat).map fun (k : Nat) => (k : Int)
theorem it_r1 (h : Rd cf A a mi (pE eInt)) : It cf A .range1 [a] (mi.bind fun n => M.chk (small n) (.ok (rg n))) eInt := it_1 (by
  rintro S x w rfl
  refine Mo.chk fun q => ?_
  show itVals .range1 [.int x] = _
  simp only [itVals]
  rw [if_pos (show decide _ = true from q), rg, List.map_map]
  rfl) h
theorem it_r2 (h : Rd cf A a mi (pE eInt)) (h' : Rd cf A b mj (pE eInt)) : It cf A .range2 [a, b] (mi.bind fun x => mj.bind fun n => M.chk (small x && small n) (.ok (rgI x n))) eInt := it_2 (by
  rintro S x y w v rfl rfl
  refine Mo.chk fun q => ?_
  show itVals .range2 [.int x, .int y] = _
  simp only [itVals]
  rw [if_pos (show (decide _ && decide _) = true from q), rgI, List.map_map]
  rfl) h h'
theorem it_r3 {c : E} (h : Rd cf A a mi (pE eInt)) (h' : Rd cf A b mj (pE eInt)) (h'' : Rd cf A c mk (pE eInt)) : It cf A .range3 [a, b, c] (mi.bind fun x => mj.bind fun y => mk.bind fun z => M.chk (small x && small y && decide (0 < z) && decide (z < 1000000)) (.ok ((List.range (if x < y then ((y - x - 1) / z + 1).toNat else 0)).map fun (j : Nat) => x + j * z))) eInt := by
  have k := ra_cons h (ra_cons h' (ra_cons h'' ra_nil))
  intro ρ S F H
  have k := k ρ S F H
  cases mi with
  | ok x => cases mj with
    | ok y => cases mk with
      | ok z =>
        obtain ⟨ws, q, _, _, rfl, rfl, _, _, rfl, rfl, _, _, rfl, rfl, rfl⟩ := k
        simp only [M.bind]
        cases hc : small x && small y && decide (0 < z) && decide (z < 1000000) with
        | false => trivial
        | true =>
          refine ⟨_, q, ?_⟩
          show itVals .range3 [.int x, .int y, .int z] = _
          simp only [itVals]
          rw [if_pos (show (decide _ && decide _ && decide _ && decide _) = true from hc), List.map_map]
          rfl
      | ex c => exact k
      | bad => trivial
    | ex c => exact k
    | bad => trivial
  | ex c => exact k
  | bad => trivial
theorem rd_comp {k : ItK} {srcs : List E} {own : List Nat} {t : Tg} {elt : E} {mi : M (List α)} {e : En α} {A1 : α → List Sl} {me : α → M β} {e' : En β} (hi : It cf A k srcs mi e) (ht : Bt t e (Sl.wip A own) A1) (he : ∀ x, Rd cf (A1 x) elt (me x) (pE e')) :
    Rd cf A (.comp elt t k srcs [] own) (mi.bind fun xs => M.chk (decide (xs.length < LIM)) (M.map me xs)) (pE (eL e')) := by
  intro ρ S F H
  have h1 := hi ρ S F H
  cases mi with
  | ok xs =>
    obtain ⟨ws, h2, h3⟩ := h1
    simp only [M.bind]
    cases q : decide (xs.length < LIM) with
    | false => trivial
    | true =>
      simp only [M.chk_true]
      have key : ∀ ys : List α, match M.map me ys with
          | .ok zs => compL (fun ρ' S' => ev cf elt ρ' S') (fun ρ' S' => evAll cf [] ρ' S') t (wipe ρ own) (ys.map e.en) S = .ok (zs.map e'.en) S
          | .ex _ => False
          | .bad => True := by
        intro ys
        induction ys with
        | nil => simp [M.map, compL]
        | cons y ys ih =>
          obtain ⟨F', H'⟩ := H.wip' own
          obtain ⟨ρ', F2, b1, b2, _, _⟩ := ht y _ S F' H'
          have b3 := he y ρ' S F2 b2
          simp only [M.map, M.clean]
          cases hm : me y with
          | ok z =>
            rw [hm] at b3
            obtain ⟨w, b4, rfl⟩ := b3
            simp only [M.bind]
            cases hms : M.map me ys with
            | ok zs =>
              rw [hms] at ih
              simp only
              simp only [s_all0] at ih ⊢
              simp only [List.map_cons, compL, b1, b4, ih, Rs.bind]
            | ex c => rw [hms] at ih; exact ih.elim
            | bad => trivial
          | ex c => trivial
          | bad => trivial
      have kx := key xs
      cases hms : M.map me xs with
      | ok zs =>
        rw [hms] at kx
        exact ⟨_, s_comp h2 h3 (by rw [List.length_map]; exact of_decide_eq_true q) kx, rfl⟩
      | ex c => rw [hms] at kx; exact kx.elim
      | bad => trivial
  | ex c => simp only [M.bind]; rw [ev, show _ = _ from h1]; rfl
  | bad => trivial
theorem rd_compF {k : ItK} {srcs : List E} {own : List Nat} {t : Tg} {elt c : E} {mi : M (List α)} {e : En α} {A1 : α → List Sl} {me : α → M β} {mc : α → M Bool} {e' : En β} (hi : It cf A k srcs mi e) (ht : Bt t e (Sl.wip A own) A1) (he : ∀ x, Rd cf (A1 x) elt (me x) (pE e')) (hc : ∀ x, Rd cf (A1 x) c (mc x) (pE eBool)) :
    Rd cf A (.comp elt t k srcs [c] own) (mi.bind fun xs => M.chk (decide (xs.length < LIM)) (M.filt mc me xs)) (pE (eL e')) := by
  intro ρ S F H
  have h1 := hi ρ S F H
  cases mi with
  | ok xs =>
    obtain ⟨ws, h2, h3⟩ := h1
    simp only [M.bind]
    cases q : decide (xs.length < LIM) with
    | false => trivial
    | true =>
      simp only [M.chk_true]
      have key : ∀ ys : List α, match M.filt mc me ys with
          | .ok zs => compL (fun ρ' S' => ev cf elt ρ' S') (fun ρ' S' => evAll cf [c] ρ' S') t (wipe ρ own) (ys.map e.en) S = .ok (zs.map e'.en) S
          | .ex _ => False
          | .bad => True := by
        intro ys
        induction ys with
        | nil => simp [M.filt, compL]
        | cons y ys ih =>
          obtain ⟨F', H'⟩ := H.wip' own
          obtain ⟨ρ', F2, b1, b2, _, _⟩ := ht y _ S F' H'
          have b3 := he y ρ' S F2 b2
          have b5 := hc y ρ' S F2 b2
          simp only [M.filt, M.clean]
          cases hmc : mc y with
          | ok tr =>
            rw [hmc] at b5
            obtain ⟨w0, b6, rfl⟩ := b5
            simp only [M.bind]
            cases tr with
            | true =>
              simp only [if_true]
              cases hm : me y with
              | ok z =>
                rw [hm] at b3
                obtain ⟨w, b4, rfl⟩ := b3
                simp only
                cases hms : M.filt mc me ys with
                | ok zs =>
                  rw [hms] at ih
                  simp only
                  simp only [s_all1] at ih ⊢
                  have b6' : ev cf c ρ' S = .ok (.bl true) S := b6
                  simp only [List.map_cons, compL, b1, b6', b4, ih, Rs.bind]
                | ex c => rw [hms] at ih; exact ih.elim
                | bad => trivial
              | ex c => trivial
              | bad => trivial
            | false =>
              simp only [Bool.false_eq_true, if_false]
              cases hms : M.filt mc me ys with
              | ok zs =>
                rw [hms] at ih
                simp only
                simp only [s_all1] at ih ⊢
                have b6' : ev cf c ρ' S = .ok (.bl false) S := b6
                simp only [List.map_cons, compL, b1, b6', ih]
              | ex c => rw [hms] at ih; exact ih.elim
              | bad => trivial
          | ex c => trivial
          | bad => trivial
      have kx := key xs
      cases hms : M.filt mc me xs with
      | ok zs =>
        rw [hms] at kx
        exact ⟨_, s_comp h2 h3 (by rw [List.length_map]; exact of_decide_eq_true q) kx, rfl⟩
      | ex c => rw [hms] at kx; exact kx.elim
      | bad => trivial
  | ex c => simp only [M.bind]; rw [ev, show _ = _ from h1]; rfl
  | bad => trivial
end
end Tw

namespace Tw
inductive Ex : Type 1 where
  | nx (A : List Sl)
  | nc (A : List Sl)
  | bk (A : List Sl)
  | rt (fall : Bool) (t : Tr) (A : List Sl)
def Go (S0 : Sto) (F0 : List Nat) (A : List Sl) (ρ : Env) (S : Sto) : Prop := ∃ F, Hd S A ρ F ∧ F.Nodup ∧ Fr S0 S F0 F
def Out (r : SR) (S0 : Sto) (F0 : List Nat) : Ex → Prop
  | .nx A => ∃ ρ S, r = .next ρ S ∧ Go S0 F0 A ρ S
  | .nc A => ∃ ρ S, (r = .next ρ S ∨ r = .cont ρ S) ∧ Go S0 F0 A ρ S
  | .bk A => ∃ ρ S, r = .brk ρ S ∧ Go S0 F0 A ρ S
  | .rt fall t A => ∃ w S f F ρ, (r = .ret w S ∨ (fall = true ∧ w = .non ∧ ∃ ρ2, r = .next ρ2 S)) ∧ TrOk S t w f ∧ Hd S A ρ F ∧ (f ++ F).Nodup ∧ Fr S0 S F0 (f ++ F)
theorem Out.tr {r : SR} {S0 S : Sto} {F0 F : List Nat} (h : Fr S0 S F0 F) : ∀ {J : Ex}, Out r S F J → Out r S0 F0 J
  | .nx A, ⟨ρ, S1, h1, F1, h2, h3, h4⟩ => ⟨ρ, S1, h1, F1, h2, h3, h.trans h4⟩
  | .nc A, ⟨ρ, S1, h1, F1, h2, h3, h4⟩ => ⟨ρ, S1, h1, F1, h2, h3, h.trans h4⟩
  | .bk A, ⟨ρ, S1, h1, F1, h2, h3, h4⟩ => ⟨ρ, S1, h1, F1, h2, h3, h.trans h4⟩
  | .rt fall t A, ⟨w, S1, f, F1, ρ, h1, h2, h3, h4, h5⟩ => ⟨w, S1, f, F1, ρ, h1, h2, h3, h4, h.trans h5⟩
section
variable {α β γ δ ε κ ν ω ω' σ τ : Type}
def St (cf : CallF) (L : Nat) (A : List Sl) (ss : List Stm) (m : M ω) (J : ω → Ex) : Prop := ∀ ρ S F, Hd S A ρ F → F.Nodup → match m with
  | .ok o => Out (execs cf L ss ρ S) S F (J o)
  | .ex c => ∃ ρ' S', execs cf L ss ρ S = .ex ρ' c S'
  | .bad => True
def Ee (cf : CallF) (A : List Sl) (e : E) (m : M ω) (et : Et α) (f : ω → α) (B : ω → List Sl) : Prop := ∀ ρ S F, Hd S A ρ F → F.Nodup → match m with
  | .ok o => ∃ w S' fr F', ev cf e ρ S = .ok w S' ∧ TrOk S' (et.tr (f o)) w fr ∧ Hd S' (B o) ρ F' ∧ (fr ++ F').Nodup ∧ Fr S S' F (fr ++ F')
  | .ex c => ∃ S', ev cf e ρ S = .ex c S'
  | .bad => True
variable {cf : CallF} {L : Nat} {A B : List Sl} {a b c d e : E} {as : List E} {ss : List Stm} {J : ω → Ex}
theorem St.cast {m m' : M ω} (h : St cf L A ss m J) (q : m = m') : St cf L A ss m' J := q ▸ h
theorem St.wk {m : M ω} (hw : Wk A B) (h : St cf L B ss m J) : St cf L A ss m J := by
  intro ρ S F H N
  obtain ⟨F', h1, h2⟩ := H.wk hw
  have k := h ρ S F' h1 (h2.nodup N)
  cases m with
  | ok o => exact k.tr (Fr.sub fun n hn => h2.subset hn)
  | ex c => exact k
  | bad => trivial
theorem ee_rd {m : M α} {en : En α} (h : Rd cf A e m (pE en)) : Ee cf A e m (eV en) id fun _ => A := by
  intro ρ S F H N
  have k := h ρ S F H
  cases m with
  | ok x =>
    obtain ⟨w, h1, rfl⟩ := k
    exact ⟨_, S, [], F, h1, ⟨rfl, en.rf x, rfl⟩, H, N, Fr.refl⟩
  | ex c => exact ⟨S, k⟩
  | bad => trivial
theorem ee_mv {i : Nat} {et : Et α} {x : α} (h : Sl.get A i = .s et x) : Ee cf A (.var i) (.ok x) et id fun _ => Sl.put A i .no := by
  intro ρ S F H N
  have hi : i < A.length := get_in (by rw [h]; simp)
  obtain ⟨r, f, G, h1, h2, h3, h4⟩ := H.split hi
  rw [h] at h2
  obtain ⟨w, rfl, h5⟩ := h2
  obtain ⟨F', k1, k2⟩ := h4 S .no (some w) [] (fun _ _ => rfl) rfl
  have e1 : ρ.set i (some w) = ρ := by
    obtain ⟨hl, hv⟩ := List.getElem?_eq_some_iff.mp h1
    rw [← hv, List.set_getElem_self]
  rw [e1] at k1
  have p : (f ++ F').Perm F := (List.Perm.append_left f k2).trans h3.symm
  exact ⟨w, S, f, F', by simp [h1], h5, k1, p.symm.nodup N, Fr.sub fun n hn => p.subset hn⟩
theorem nw_cell {S : Sto} {F : List Nat} {ρ : Env} (H : Hd S A ρ F) (N : F.Nodup) (o : Ob) : Hd (S ++ [o]) A ρ F ∧ ([S.length] ++ F).Nodup ∧ Fr S (S ++ [o]) F ([S.length] ++ F) := by
  have hd := H.dom
  refine ⟨H.frame fun n hn => List.getElem?_append_left (hd n hn), ?_, by simp, fun n hn _ => List.getElem?_append_left hn, fun n hn => ?_⟩
  · simp only [List.cons_append, List.nil_append, List.nodup_cons]
    exact ⟨fun q => by have := hd _ q; omega, N⟩
  · simp only [List.cons_append, List.nil_append, List.mem_cons] at hn
    rcases hn with rfl | q
    · exact .inr (Nat.le_refl _)
    · exact .inl q
theorem ee_mutL {m : M (List α)} {en : En α} (h : Rd cf A e m (pE (eL en))) : Ee cf A (.mut e) m (cL (eV en)) id fun _ => A := by
  intro ρ S F H N
  have k := h ρ S F H
  cases m with
  | ok x =>
    obtain ⟨w, h1, rfl⟩ := k
    obtain ⟨q1, q2, q3⟩ := nw_cell H N (.lst (x.map en.en))
    exact ⟨_, _, [S.length], F, by rw [s_mut, h1]; rfl, ⟨S.length, x.map en.en, [], rfl, rfl, by simp, vals_trs en x⟩, q1, q2, q3⟩
  | ex c => exact ⟨S, by rw [s_mut, show _ = _ from k]; rfl⟩
  | bad => trivial
theorem ee_mut0 {et : Et α} : Ee cf A (.mut (.op .lstD [])) (.ok ()) (cL et) (fun _ => []) fun _ => A := by
  intro ρ S F H N
  obtain ⟨q1, q2, q3⟩ := nw_cell H N (.lst [])
  exact ⟨_, _, [S.length], F, by rw [s_mut, s_op]; simp, ⟨S.length, [], [], rfl, rfl, by simp, rfl, rfl⟩, q1, q2, q3⟩
theorem ee_mutD0 {t : Bool} {k : En κ} {v : Et ν} : Ee cf A (.mut (.op (.dicD t) [])) (.ok ()) (cD t k v) (fun _ => []) fun _ => A := by
  intro ρ S F H N
  obtain ⟨q1, q2, q3⟩ := nw_cell H N (.dic t [] [])
  exact ⟨_, _, [S.length], F, by rw [s_mut, s_op]; simp [opSem], ⟨S.length, [], [], rfl, rfl, by simp, rfl, rfl, rfl⟩, q1, q2, q3⟩
theorem go_same {S : Sto} {F : List Nat} {ρ : Env} (hw : Wk A B) (H : Hd S A ρ F) (N : F.Nodup) : Go S F B ρ S := by
  obtain ⟨F', h1, h2⟩ := H.wk hw
  exact ⟨F', h1, h2.nodup N, Fr.sub fun n hn => h2.subset hn⟩
theorem st_nil {o : ω} (hJ : J o = .nc B) (hw : Wk A B) : St cf L A [] (.ok o) J := by
  intro ρ S F H N
  show Out _ S F (J o)
  rw [hJ]
  exact ⟨ρ, S, .inl (by simp), go_same hw H N⟩
theorem st_nilX {o : ω} (hJ : J o = .nx B) (hw : Wk A B) : St cf L A [] (.ok o) J := by
  intro ρ S F H N
  show Out _ S F (J o)
  rw [hJ]
  exact ⟨ρ, S, by simp, go_same hw H N⟩
theorem st_wipe {m : M ω} {vs : List Nat} (h : St cf L (Sl.wip A vs) ss m J) : St cf L A (.wipe vs :: ss) m J := by
  intro ρ S F H N
  obtain ⟨F', h1, h2, h3⟩ := H.wipB vs
  have k := h _ S F' h1 (h2 N)
  rw [s_execs1, s_wipe, s_seq]
  cases m with
  | ok o => exact k.tr (Fr.sub h3)
  | ex c => exact k
  | bad => trivial
theorem st_expr {m : M ω'} {k : ω' → M ω} {et : Et α} {f : ω' → α} {B : ω' → List Sl} (h : Ee cf A e m et f B) (hk : ∀ o, St cf L (B o) ss (k o) J) : St cf L A (.expr e :: ss) (m.bind k) J := by
  intro ρ S F H N
  have g := h ρ S F H N
  cases m with
  | ok o =>
    obtain ⟨w, S', fr, F', h1, h2, h3, h4, h5⟩ := g
    have q := hk o ρ S' F' h3 (List.nodup_append.mp h4).2.1
    simp only [M.bind]
    rw [s_execs1, s_expr, h1, s_sr, s_seq]
    cases hm : k o with
    | ok z => rw [hm] at q; exact q.tr (h5.mem fun n hn => by simp [hn])
    | ex c => rw [hm] at q; exact q
    | bad => trivial
  | ex c =>
    obtain ⟨S', g⟩ := g
    exact ⟨ρ, S', by rw [s_execs1, s_expr, g]; rfl⟩
  | bad => trivial
theorem st_asg {m : M ω'} {k : ω' → M ω} {et : Et α} {f : ω' → α} {B : ω' → List Sl} {i : Nat} (h : Ee cf A e m et f B) (hk : ∀ o, St cf L (Sl.put (B o) i (.s et (f o))) ss (k o) J) : St cf L A (.asg (.one i) e :: ss) (m.bind k) J := by
  intro ρ S F H N
  have g := h ρ S F H N
  cases m with
  | ok o =>
    obtain ⟨w, S', fr, F', h1, h2, h3, h4, h5⟩ := g
    obtain ⟨F2, g1, g2, g3⟩ := h3.set (i := i) (sl := .s et (f o)) (r := some w) (f := fr) ⟨w, rfl, h2⟩ h4
    have q := hk o _ S' F2 g1 g2
    simp only [M.bind]
    rw [s_execs1, s_asg, h1, s_sr]
    simp only [s_one, s_seq]
    cases hm : k o with
    | ok z => rw [hm] at q; exact q.tr (h5.mem fun n hn => by simpa using g3 n hn)
    | ex c => rw [hm] at q; exact q
    | bad => trivial
  | ex c =>
    obtain ⟨S', g⟩ := g
    exact ⟨ρ, S', by rw [s_execs1, s_asg, g]; rfl⟩
  | bad => trivial
theorem st_asgT {m : M α} {k : α → M ω} {en : En α} {t : Tg} {A1 : α → List Sl} (h : Rd cf A e m (pE en)) (ht : Bt t en A A1) (hk : ∀ o, St cf L (A1 o) ss (k o) J) : St cf L A (.asg t e :: ss) (m.bind k) J := by
  intro ρ S F H N
  have g := h ρ S F H
  cases m with
  | ok o =>
    obtain ⟨w, h1, rfl⟩ := g
    obtain ⟨ρ', F2, g1, g2, g3, g4⟩ := ht o ρ S F H
    have q := hk o ρ' S F2 g2 (g3 N)
    simp only [M.bind]
    rw [s_execs1, s_asg, h1, s_sr]
    simp only [g1, s_seq]
    cases hm : k o with
    | ok z => rw [hm] at q; exact q.tr (Fr.sub g4)
    | ex c => rw [hm] at q; exact q
    | bad => trivial
  | ex c => exact ⟨ρ, S, by rw [s_execs1, s_asg, show _ = _ from g]; rfl⟩
  | bad => trivial
theorem st_ret {m : M ω'} {et : Et α} {f : ω' → α} {B : ω' → List Sl} {C : List Sl} {fl : Bool} {g : ω' → ω} (h : Ee cf A e m et f B) (hJ : ∀ o, J (g o) = .rt fl (et.tr (f o)) C) (hw : ∀ o, Wk (B o) C) : St cf L A (.ret e :: ss) (m.bind fun o => .ok (g o)) J := by
  intro ρ S F H N
  have k := h ρ S F H N
  cases m with
  | ok o =>
    obtain ⟨w, S', fr, F', h1, h2, h3, h4, h5⟩ := k
    show Out _ S F (J (g o))
    rw [hJ o]
    obtain ⟨F2, g1, g2⟩ := h3.wk (hw o)
    refine ⟨w, S', fr, F2, ρ, .inl (by rw [s_execs1, s_ret, h1]; rfl), h2, g1, ?_, h5.mem fun n hn => ?_⟩
    · exact (List.Sublist.append_left g2 fr).nodup h4
    · rcases List.mem_append.mp hn with q | q
      · simp [q]
      · simp [g2.subset q]
  | ex c =>
    obtain ⟨S', k⟩ := k
    exact ⟨ρ, S', by rw [s_execs1, s_ret, k]; rfl⟩
  | bad => trivial
theorem st_ite {mc : M Bool} {m1 m2 : M ω} {x y : List Stm} (h : Rd cf A c mc (pE eBool)) (h1 : St cf L A (x ++ ss) m1 J) (h2 : St cf L A (y ++ ss) m2 J) : St cf L A (.ite c x y :: ss) (mc.bind fun b => if b = true then m1 else m2) J := by
  intro ρ S F H N
  have k := h ρ S F H
  have k1 := h1 ρ S F H N
  have k2 := h2 ρ S F H N
  rw [execs_app] at k1 k2
  cases mc with
  | ok b =>
    obtain ⟨w, g, rfl⟩ := k
    simp only [M.bind]
    rw [s_execs1, s_ite, g, s_sr]
    cases b with
    | true => exact k1
    | false => exact k2
  | ex c => exact ⟨ρ, S, by rw [s_execs1, s_ite, show _ = _ from k]; rfl⟩
  | bad => trivial
theorem st_seq {m : M σ} {k : σ → M ω} {B : σ → List Sl} {x : Stm} (h : St cf L A [x] m fun s => .nx (B s)) (hk : ∀ s, St cf L (B s) ss (k s) J) : St cf L A (x :: ss) (m.bind k) J := by
  intro ρ S F H N
  have g := h ρ S F H N
  cases m with
  | ok s =>
    obtain ⟨ρ', S', h1, F', h2, h3, h4⟩ := g
    have q := hk s ρ' S' F' h2 h3
    simp only [M.bind]
    have e1 : exec cf L x ρ S = .next ρ' S' := by
      rw [s_execs1] at h1
      cases hx : exec cf L x ρ S with
      | next ρ1 S1 => rw [hx] at h1; simpa using h1
      | ret w S1 => rw [hx] at h1; cases h1
      | brk ρ1 S1 => rw [hx] at h1; cases h1
      | cont ρ1 S1 => rw [hx] at h1; cases h1
      | ex ρ1 c S1 => rw [hx] at h1; cases h1
      | bad => rw [hx] at h1; cases h1
    rw [s_execs1, e1, s_seq]
    cases hm : k s with
    | ok z => rw [hm] at q; exact q.tr h4
    | ex c => rw [hm] at q; exact q
    | bad => trivial
  | ex c =>
    obtain ⟨ρ', S', h1⟩ := g
    refine ⟨ρ', S', ?_⟩
    rw [s_execs1] at h1 ⊢
    cases hx : exec cf L x ρ S with
    | next ρ1 S1 => rw [hx] at h1; simp at h1
    | ret w S1 => rw [hx] at h1; cases h1
    | brk ρ1 S1 => rw [hx] at h1; cases h1
    | cont ρ1 S1 => rw [hx] at h1; cases h1
    | ex ρ1 c S1 => rw [hx] at h1; exact h1
    | bad => rw [hx] at h1; cases h1
  | bad => trivial
theorem st_iteJ {mc : M Bool} {m1 m2 : M σ} {k : σ → M ω} {B : σ → List Sl} {x y : List Stm} (h : Rd cf A c mc (pE eBool)) (h1 : St cf L A x m1 fun s => .nx (B s)) (h2 : St cf L A y m2 fun s => .nx (B s)) (hk : ∀ s, St cf L (B s) ss (k s) J) :
    St cf L A (.ite c x y :: ss) ((mc.bind fun b => if b = true then m1 else m2).bind k) J :=
  st_seq (st_ite h (by rw [List.append_nil]; exact h1) (by rw [List.append_nil]; exact h2)) hk
theorem slot_cell {i : Nat} {et : Et α} {x : α} {ρ : Env} {S : Sto} {F : List Nat} (hi : Sl.get A i = .s et x) (H : Hd S A ρ F) : ∃ w f G, ρ[i]? = some (some w) ∧ TrOk S (et.tr x) w f ∧ F.Perm (f ++ G) ∧
    ∀ S' sl' r' f', (∀ n ∈ G, S'[n]? = S[n]?) → SlOk S' sl' r' f' → ∃ F', Hd S' (Sl.put A i sl') (ρ.set i r') F' ∧ F'.Perm (f' ++ G) := by
  obtain ⟨r, f, G, h1, h2, h3, h4⟩ := H.split (get_in (by rw [hi]; simp))
  rw [hi] at h2
  obtain ⟨w, rfl, h5⟩ := h2
  exact ⟨w, f, G, h1, h5, h3, h4⟩
theorem st_frzL {m : M ω} {i : Nat} {en : En α} {xs : List α} (hi : Sl.get A i = .s (cL (eV en)) xs) (h : St cf L (Sl.put A i (.s (eV (eL en)) xs)) ss m J) : St cf L A (.frz i :: ss) m J := by
  intro ρ S F H N
  obtain ⟨w, f, G, h1, ⟨n, ws, f', rfl, rfl, h2, h3⟩, h4, h5⟩ := slot_cell hi H
  obtain ⟨rfl, rfl⟩ := trs_vals en h3
  have N' := h4.nodup_iff.mp N
  have hG : n ∉ G := by simpa using (List.nodup_cons.mp (by simpa using N')).1
  obtain ⟨F', k1, k2⟩ := h5 (S.set n .dead) (.s (eV (eL en)) xs) _ [] (fun m hm => List.getElem?_set_ne (fun z => hG (by rw [z]; exact hm))) (val_ok (eL en) xs)
  rw [List.nil_append] at k2
  have kk := h _ _ F' k1 (k2.nodup_iff.mpr (List.nodup_append.mp N').2.1)
  rw [s_execs1, s_frzL h1 h2 (rfL_map en xs), s_seq]
  have fr : Fr S (S.set n .dead) F F' := ⟨by simp, fun j hj hF => List.getElem?_set_ne fun z => hF (h4.mem_iff.mpr (by simp [z])), fun j hj => .inl (h4.mem_iff.mpr (by simp [k2.mem_iff.mp hj]))⟩
  cases m with
  | ok o => exact kk.tr fr
  | ex c => exact kk
  | bad => trivial
end
end Tw

namespace Tw
section
variable {α β γ δ ε κ ν ω ω' ω2 σ τ : Type}
variable {cf : CallF} {L : Nat} {A B : List Sl} {a b c d e p : E} {as : List E} {ss : List Stm} {J : ω → Ex}
def Pl (cf : CallF) (A : List Sl) (p : E) (m : M ω) (et : Et α) (x : ω → α) (A' : ω → α → List Sl) : Prop := ∀ ρ S F, Hd S A ρ F → match m with
  | .ok o => ∃ w f G, ev cf p ρ S = .ok w S ∧ TrOk S (et.tr (x o)) w f ∧ F.Perm (f ++ G) ∧
    ∀ S' x' f', (∀ n ∈ G, S'[n]? = S[n]?) → TrOk S' (et.tr x') w f' → ∃ F', Hd S' (A' o x') ρ F' ∧ F'.Perm (f' ++ G)
  | .ex c => ev cf p ρ S = .ex c S
  | .bad => True
theorem set_self {ρ : Env} {i : Nat} {r : Option W} (h : ρ[i]? = some r) : ρ.set i r = ρ := by
  obtain ⟨hl, hv⟩ := List.getElem?_eq_some_iff.mp h
  rw [← hv, List.set_getElem_self]
theorem pl_s {i : Nat} {et : Et α} {x : α} (hi : Sl.get A i = .s et x) : Pl cf A (.var i) (.ok ()) et (fun _ => x) fun _ x' => Sl.put A i (.s et x') := by
  intro ρ S F H
  obtain ⟨w, f, G, h1, h2, h3, h4⟩ := slot_cell hi H
  refine ⟨w, f, G, by simp [h1], h2, h3, fun S' x' f' hG ht => ?_⟩
  have := h4 S' (.s et x') (some w) f' hG ⟨w, rfl, ht⟩
  rwa [set_self h1] at this
theorem Pl.cast {m : M ω} {et : Et α} {x : ω → α} {A1 A2 : ω → α → List Sl} (h : Pl cf A p m et x A1) (q : ∀ o y, A1 o y = A2 o y) : Pl cf A p m et x A2 := by
  have : A1 = A2 := funext fun o => funext fun y => q o y
  exact this ▸ h
theorem wr_cell {et : Et α} {w : W} {f G F : List Nat} {S : Sto} {ρ : Env} {A' : α → List Sl} {o : Ob} {n : Nat} {x' : α} {f' : List Nat} (N : F.Nodup) (hn : n ∈ f) (hf : ∀ m ∈ f', m ∈ f) (hN : f'.Nodup) (hp : F.Perm (f ++ G)) (h : ∀ S' x' f', (∀ n ∈ G, S'[n]? = S[n]?) → TrOk S' (et.tr x') w f' → ∃ F', Hd S' (A' x') ρ F' ∧ F'.Perm (f' ++ G)) (ht : TrOk (S.set n o) (et.tr x') w f') :
    Go S F (A' x') ρ (S.set n o) := by
  have N' := List.nodup_append.mp (hp.nodup_iff.mp N)
  have hG : n ∉ G := fun q => N'.2.2 n hn n q rfl
  obtain ⟨F', k1, k2⟩ := h (S.set n o) x' f' (fun m hm => List.getElem?_set_ne fun z => hG (by rw [z]; exact hm)) ht
  refine ⟨F', k1, ?_, by simp, fun j hj hF => List.getElem?_set_ne fun z => hF (hp.mem_iff.mpr (by simp [← z, hn])), fun j hj => .inl (hp.mem_iff.mpr ?_)⟩
  · rw [k2.nodup_iff, List.nodup_append]
    exact ⟨hN, N'.2.1, fun a ha b hb => N'.2.2 a (hf a ha) b hb⟩
  · rcases List.mem_append.mp (k2.mem_iff.mp hj) with q | q
    · simp [hf j q]
    · simp [q]
theorem ee_eff1 {mp : M ω'} {ma : M δ} {ea : En δ} {en : En α} {x : ω' → List α} {A' : ω' → List α → List Sl} {o : Eff} {g : List α → δ → M γ} {e' : En β} {v : γ → β} {nx : γ → List α} (ho : effTy o = .list) (hp : Pl cf A p mp (cL (eV en)) x A') (ha : Rd cf A a ma (pE ea))
    (he : ∀ S n xs y, S[n]? = some (.lst (xs.map en.en)) → Mo (g xs y) fun r => effSem o [.ref n, ea.en y] S = some (e'.en (v r), S.set n (.lst ((nx r).map en.en)))) :
    Ee cf A (.eff o p [a]) (mp.bind fun q => ma.bind fun y => (g (x q) y).bind fun r => .ok (q, r)) (eV e') (fun z => v z.2) fun z => A' z.1 (nx z.2) := by
  intro ρ S F H N
  have k := hp ρ S F H
  have ka := ha ρ S F H
  cases mp with
  | ok q =>
    obtain ⟨w, f, G, h1, ⟨n, ws, f', rfl, rfl, h2, h3⟩, h4, h5⟩ := k
    obtain ⟨rfl, rfl⟩ := trs_vals en h3
    have ht : tyOk (effTy o) (.ref n) S = true := by rw [ho]; simp [tyOk, lstOf, h2]
    simp only [M.bind]
    cases ma with
    | ok y =>
      obtain ⟨w, a1, rfl⟩ := ka
      have k2 := he S n (x q) y h2
      simp only
      cases hg : g (x q) y with
      | ok r =>
        rw [hg] at k2
        have hl := (List.getElem?_eq_some_iff.mp h2).1
        obtain ⟨F', g1, g2, g3⟩ := wr_cell (n := n) (f := [n]) (G := G) (F := F) (S := S) (A' := A' q) (x' := nx r) (f' := [n]) (o := .lst ((nx r).map en.en)) N (by simp) (by simp) (by simp) h4 h5 ⟨n, (nx r).map en.en, [], rfl, rfl, by simp [hl], vals_trs en (nx r)⟩
        refine ⟨_, _, [], F', ?_, ⟨rfl, e'.rf _, rfl⟩, g1, g2, g3⟩
        have k2 : effSem o [.ref n, ea.en y] S = _ := k2
        rw [s_eff, h1, s_bind, if_pos ht, s_evs1, a1, s_bind, s_evs0, s_bind, s_bind]
        simp only [k2]
      | ex c => rw [hg] at k2; exact k2.elim
      | bad => trivial
    | ex c => exact ⟨S, by rw [s_eff, h1, s_bind, if_pos ht, s_evs1, show _ = _ from ka]; rfl⟩
    | bad => trivial
  | ex c => exact ⟨S, by rw [s_eff, show _ = _ from k]; rfl⟩
  | bad => trivial
variable {mp : M ω'} {en : En α} {x : ω' → List α} {A' : ω' → List α → List Sl} {mi : M Int}
theorem ee_app {ma : M α} (hp : Pl cf A p mp (cL (eV en)) x A') (ha : Rd cf A a ma (pE en)) : Ee cf A (.eff .append p [a]) (mp.bind fun q => ma.bind fun y => (M.chk (decide ((x q).length < LIM)) (.ok (x q ++ [y]))).bind fun r => .ok (q, r)) (eV eNon) (fun _ => ()) fun z => A' z.1 z.2 :=
  ee_eff1 (v := fun _ => ()) (nx := id) (g := fun xs y => M.chk (decide (xs.length < LIM)) (.ok (xs ++ [y]))) rfl hp ha fun S n xs y h => Mo.chk fun q => by
    show effSem _ _ _ = _
    simp only [effSem, h, List.length_map, of_decide_eq_true q, if_true, id, List.map_append, List.map_cons, List.map_nil]
    rfl
theorem ee_ext {ma : M (List α)} (hp : Pl cf A p mp (cL (eV en)) x A') (ha : Rd cf A a ma (pE (eL en))) : Ee cf A (.eff .extend p [a]) (mp.bind fun q => ma.bind fun y => (M.chk (decide ((x q).length + y.length < LIM)) (.ok (x q ++ y))).bind fun r => .ok (q, r)) (eV eNon) (fun _ => ()) fun z => A' z.1 z.2 :=
  ee_eff1 (v := fun _ => ()) (nx := id) (g := fun xs y => M.chk (decide (xs.length + y.length < LIM)) (.ok (xs ++ y))) rfl hp ha fun S n xs y h => Mo.chk fun q => by
    show effSem .extend [.ref n, .lst (y.map en.en)] S = _
    simp only [effSem, h, List.length_map, of_decide_eq_true q, if_true, id, List.map_append]
    rfl
def popI (xs : List α) (i : Int) : M (α × List α) := (M.of (ixN xs.length i)).bind fun j => (M.of xs[j]?).bind fun y => .ok (y, xs.eraseIdx j)
theorem ee_pop1 (hp : Pl cf A p mp (cL (eV en)) x A') (ha : Rd cf A a mi (pE eInt)) : Ee cf A (.eff .pop1 p [a]) (mp.bind fun q => mi.bind fun i => (popI (x q) i).bind fun r => .ok (q, r)) (eV en) (fun z => z.2.1) fun z => A' z.1 z.2.2 :=
  ee_eff1 (v := fun r => r.1) (nx := fun r => r.2) (g := popI) rfl hp ha fun S n xs i h => by
    unfold popI
    cases hj : ixN xs.length i with
    | none => exact trivial
    | some j =>
      cases hl : xs[j]? with
      | none => simp only [M.of_some, M.bind_ok, hl]; exact trivial
      | some y =>
        simp only [M.of_some, M.bind_ok, hl]
        show effSem _ [_, .int i] _ = _
        simp only [effSem, h, List.length_map, hj, Option.bind_some, List.getElem?_map, hl, Option.map_some, erase_map]
theorem trs_app {S : Sto} : ∀ {ts ts' : List Tr} {ws ws' : List W} {f f' : List Nat}, TrsOk S ts ws f → TrsOk S ts' ws' f' → TrsOk S (ts ++ ts') (ws ++ ws') (f ++ f')
  | [], ts', _, ws', _, f', ⟨rfl, rfl⟩, h => h
  | t :: ts, ts', _, ws', _, f', ⟨w, ws, f1, f2, rfl, rfl, h1, h2⟩, h => ⟨w, ws ++ ws', f1, f2 ++ f', rfl, by simp, h1, trs_app h2 h⟩
theorem ee_appT {m : M ω'} {et : Et α} {f : ω' → α} {B : ω' → List Sl} {i : Nat} {x : ω' → List α} {x0 : List α} (h0 : Sl.get A i = .s (cL et) x0) (h : Ee cf A a m et f B) (hi : ∀ o, Sl.get (B o) i = .s (cL et) (x o)) :
    Ee cf A (.eff .append (.var i) [a]) (m.bind fun o => M.chk (decide ((x o).length < LIM)) (.ok o)) (eV eNon) (fun _ => ()) fun o => Sl.put (B o) i (.s (cL et) (x o ++ [f o])) := by
  intro ρ S F H N
  have k := h ρ S F H N
  obtain ⟨_, _, _, a1, ⟨n0, _, _, rfl, _, a2, _⟩, _, _⟩ := slot_cell h0 H
  cases m with
  | ok o =>
    obtain ⟨w, S', fr, F', h1, h2, h3, h4, h5⟩ := k
    obtain ⟨w0, g, G, k1, ⟨n, ws, g', rfl, rfl, k2, k3⟩, k4, k5⟩ := slot_cell (hi o) h3
    simp only [M.bind]
    cases hc : decide ((x o).length < LIM) with
    | false => trivial
    | true =>
      have N4 := List.nodup_append.mp h4
      have NF := k4.nodup_iff.mp N4.2.1
      have hn : n ∉ G := fun q => (List.nodup_append.mp NF).2.2 n (by simp) n q rfl
      have hg : n ∉ g' := by
        have := (List.nodup_append.mp NF).1
        simp only [List.nodup_cons] at this
        exact this.1
      have hfr : n ∉ fr := fun q => N4.2.2 n q n (k4.mem_iff.mpr (by simp)) rfl
      have hl := (List.getElem?_eq_some_iff.mp k2).1
      have hS : ∀ m, m ≠ n → (S'.set n (.lst (ws ++ [w])))[m]? = S'[m]? := fun m hm => List.getElem?_set_ne fun z => hm z.symm
      obtain ⟨F2, q1, q2⟩ := k5 (S'.set n (.lst (ws ++ [w]))) (.s (cL et) (x o ++ [f o])) (some (.ref n)) (n :: (g' ++ fr)) (fun m hm => hS m fun z => hn (z ▸ hm)) ⟨.ref n, rfl, n, ws ++ [w], g' ++ fr, rfl, rfl, by simp [hl], by
        rw [List.map_append]
        exact trs_app (k3.frame fun m hm => hS m fun z => hg (z ▸ hm)) ⟨w, [], fr, [], rfl, by simp, h2.frame fun m hm => hS m fun z => hfr (z ▸ hm), rfl, rfl⟩⟩
      rw [set_self k1] at q1
      have pp : F2.Perm (fr ++ F') := by
        refine q2.trans (List.Perm.trans (List.Perm.cons n ?_) ((List.perm_middle (a := n) (l₁ := fr) (l₂ := g' ++ G)).symm.trans (List.Perm.append_left fr k4.symm)))
        rw [← List.append_assoc]
        exact List.Perm.append_right G List.perm_append_comm
      refine ⟨.non, _, [], F2, ?_, ⟨rfl, rfl, rfl⟩, q1, pp.nodup_iff.mpr h4, ?_⟩
      · have ev1 : ev cf (.var i) ρ S = .ok (.ref n) S := by simp [k1]
        rw [s_eff, ev1, s_bind]
        have hlt : (ws.length < LIM) := by rw [trs_len k3, List.length_map]; exact of_decide_eq_true hc
        have ht : tyOk (effTy .append) (.ref n) S = true := by
          rw [k1] at a1
          cases a1
          simp [effTy, isDicM, tyOk, lstOf, a2]
        rw [if_pos ht, s_evs1, h1, s_bind, s_evs0, s_bind, s_bind]
        simp only [effSem, k2, hlt, if_true]
      · refine ⟨by simpa using h5.1, fun j hj hF => ?_, fun j hj => h5.2.2 j (pp.mem_iff.mp hj)⟩
        rw [hS j fun z => ?_]
        · exact h5.2.1 j hj hF
        · subst z
          rcases h5.2.2 j (by simp [k4.mem_iff]) with q | q
          · exact hF q
          · omega
  | ex c =>
    obtain ⟨S', k⟩ := k
    have ev1 : ev cf (.var i) ρ S = .ok (.ref n0) S := by simp [a1]
    exact ⟨S', by rw [s_eff, ev1, s_bind, if_pos (by simp [effTy, isDicM, tyOk, lstOf, a2]), s_evs1, k]; rfl⟩
  | bad => trivial
end
end Tw

namespace Tw
section
variable {α β γ δ ε κ ν ω ω' ω2 σ τ : Type}
variable {cf : CallF} {L : Nat} {A B : List Sl} {a b c d e p : E} {as : List E} {ss body : List Stm} {J : ω → Ex}
theorem dhas_T (k : En κ) (kv : List (κ × ν)) (x : κ) : dhas (kv.map fun p => k.en p.1) (k.en x) = dhasT k kv x := by
  rw [dhas, any_map' (fun p : κ × ν => k.en p.1)]
  rfl
theorem dputK_T (k : En κ) (kv : List (κ × ν)) (x : κ) (y : ν) : dputK (kv.map fun p => k.en p.1) (k.en x) = (dputT k kv x y).map fun p => k.en p.1 := by
  unfold dputK dputT
  rw [dhas_T]
  cases dhasT k kv x with
  | true =>
    simp only [if_true, List.map_map]
    apply List.map_congr_left
    intro p _
    simp only [Function.comp]
    split <;> rfl
  | false => simp
theorem dmapV_T (k : En κ) (f : ν → W) : ∀ (kv : List (κ × ν)) (x : κ) (y : ν), dmapV (kv.map fun p => k.en p.1) (kv.map fun p => f p.2) (k.en x) (f y) = (kv.map fun p => if eqW (k.en p.1) (k.en x) = true then (p.1, y) else p).map fun p => f p.2
  | [], _, _ => rfl
  | p :: kv, x, y => by
    simp only [List.map_cons, dmapV, dmapV_T k f kv x y]
    congr 1
    split <;> rfl
theorem dputV_T (k : En κ) (f : ν → W) (kv : List (κ × ν)) (x : κ) (y : ν) : dputV (kv.map fun p => k.en p.1) (kv.map fun p => f p.2) (k.en x) (f y) = (dputT k kv x y).map fun p => f p.2 := by
  unfold dputV dputT
  rw [dhas_T]
  cases dhasT k kv x with
  | true => simp only [if_true]; exact dmapV_T k f kv x y
  | false => simp
theorem st_setD {mv : M ν} {mp : M ω'} {mi : M κ} {t : Bool} {ke : En κ} {en : En ν} {x : ω' → List (κ × ν)} {A' : ω' → List (κ × ν) → List Sl} {k : ω' → List (κ × ν) → M ω} (hl : ke.lf = true) (hv : Rd cf A a mv (pE en)) (hp : Pl cf A p mp (cD t ke (eV en)) x A') (hi : Rd cf A b mi (pE ke)) (hk : ∀ q xs, St cf L (A' q xs) ss (k q xs) J) :
    St cf L A (.setI a p b :: ss) (mv.bind fun y => mp.bind fun q => mi.bind fun i => M.chk (dkey t ke i && decide ((x q).length < LIM)) (k q (dputT ke (x q) i y))) J := by
  intro ρ S F H N
  have k0 := hv ρ S F H
  have k1 := hp ρ S F H
  have k2 := hi ρ S F H
  cases mv with
  | ok y =>
    obtain ⟨w, v1, rfl⟩ := k0
    simp only [M.bind]
    cases mp with
    | ok q =>
      obtain ⟨w, f, G, h1, ⟨n, ws, f', rfl, rfl, h2, h0, h3⟩, h4, h5⟩ := k1
      obtain ⟨rfl, rfl⟩ := trs_vals en h3
      simp only
      cases mi with
      | ok i =>
        obtain ⟨w, i1, rfl⟩ := k2
        simp only
        cases hc : dkey t ke i && decide ((x q).length < LIM) with
        | false => trivial
        | true =>
          simp only [M.chk_true]
          have hlt := (List.getElem?_eq_some_iff.mp h2).1
          obtain ⟨F', g1, g2, g3⟩ := wr_cell (n := n) (f := [n]) (G := G) (F := F) (S := S) (A' := A' q) (x' := dputT ke (x q) i y) (f' := [n]) (o := .dic t ((dputT ke (x q) i y).map fun p => ke.en p.1) (((dputT ke (x q) i y).map fun p => p.2).map en.en)) N (by simp) (by simp) (by simp) h4 h5 ⟨n, _, [], rfl, rfl, by simp [hlt], lfreeL_map (f := fun p : κ × ν => ke.en p.1) (fun p => ke.hl hl p.1) _, vals_trs en _⟩
          have kk := hk q _ ρ _ F' g1 g2
          have e1 : exec cf L (.setI a p b) ρ S = .next ρ (S.set n (.dic t ((dputT ke (x q) i y).map fun p => ke.en p.1) (((dputT ke (x q) i y).map fun p => p.2).map en.en))) := by
            rw [s_setI, v1, s_sr, h1, s_sr, i1, s_sr]
            rw [List.map_map] at h2
            have hc' : (isKey t (ke.en i) && decide (((x q).map fun p => ke.en p.1).length < LIM)) = true := by rw [List.length_map]; exact hc
            simp only [setSem, h2, hc', if_true]
            rw [dputK_T ke (x q) i y, List.map_map]
            have := dputV_T ke en.en (x q) i y
            rw [show (List.map (en.en ∘ fun p => p.2) (x q)) = (x q).map fun p => en.en p.2 from rfl, this]
            rfl
          rw [s_execs1, e1, s_seq]
          cases hm : k q (dputT ke (x q) i y) with
          | ok o => rw [hm] at kk; exact kk.tr g3
          | ex c => rw [hm] at kk; exact kk
          | bad => trivial
      | ex c => exact ⟨ρ, S, by rw [s_execs1, s_setI, v1, s_sr, h1, s_sr, show _ = _ from k2]; rfl⟩
      | bad => trivial
    | ex c => exact ⟨ρ, S, by rw [s_execs1, s_setI, v1, s_sr, show _ = _ from k1]; rfl⟩
    | bad => trivial
  | ex c => exact ⟨ρ, S, by rw [s_execs1, s_setI, show _ = _ from k0]; rfl⟩
  | bad => trivial
theorem Go.trans {S0 S : Sto} {F0 F : List Nat} {ρ : Env} {S' : Sto} (h : Fr S0 S F0 F) (g : Go S F A ρ S') : Go S0 F0 A ρ S' := by
  obtain ⟨F', h1, h2, h3⟩ := g
  exact ⟨F', h1, h2, h.trans h3⟩
theorem Go.wk {S0 S : Sto} {F0 : List Nat} {ρ : Env} (hw : Wk A B) (g : Go S0 F0 A ρ S) : Go S0 F0 B ρ S := by
  obtain ⟨F', h1, h2, h3⟩ := g
  obtain ⟨F2, k1, k2⟩ := h1.wk hw
  exact ⟨F2, k1, k2.nodup h2, h3.mem fun n hn => k2.subset hn⟩
theorem st_of {x : Stm} {m : M σ} {B : σ → List Sl} {k : σ → M ω} (h : ∀ ρ S F, Hd S A ρ F → F.Nodup → match m with
    | .ok s => ∃ ρ' S', exec cf L x ρ S = .next ρ' S' ∧ Go S F (B s) ρ' S'
    | .ex c => ∃ ρ' S', exec cf L x ρ S = .ex ρ' c S'
    | .bad => True) (hk : ∀ s, St cf L (B s) ss (k s) J) : St cf L A (x :: ss) (m.bind k) J := by
  intro ρ S F H N
  have g := h ρ S F H N
  cases m with
  | ok s =>
    obtain ⟨ρ', S', e1, F', h2, h3, h4⟩ := g
    have q := hk s ρ' S' F' h2 h3
    simp only [M.bind]
    rw [s_execs1, e1, s_seq]
    cases hm : k s with
    | ok z => rw [hm] at q; exact q.tr h4
    | ex c => rw [hm] at q; exact q
    | bad => trivial
  | ex c =>
    obtain ⟨ρ', S', e1⟩ := g
    exact ⟨ρ', S', by rw [s_execs1, e1]; rfl⟩
  | bad => trivial
theorem fold_run {t : Tg} {en : En α} {A' : σ → List Sl} {A1 : σ → α → List Sl} {gb : σ → α → M σ} (ht : ∀ s, Bt t en (A' s) (A1 s)) (hb : ∀ s x, St cf L (A1 s x) body (gb s x) fun s' => .nc (A' s')) : ∀ (xs : List α) (s : σ) (ρ : Env) (S : Sto) (F : List Nat), Hd S (A' s) ρ F → F.Nodup → match M.fold gb s xs with
    | .ok s' => ∃ ρ' S', forL t (fun ρ' S' => execs cf L body ρ' S') (xs.map en.en) ρ S = .next ρ' S' ∧ Go S F (A' s') ρ' S'
    | .ex c => ∃ ρ' S', forL t (fun ρ' S' => execs cf L body ρ' S') (xs.map en.en) ρ S = .ex ρ' c S'
    | .bad => True
  | [], s, ρ, S, F, H, N => ⟨ρ, S, rfl, F, H, N, Fr.refl⟩
  | x :: xs, s, ρ, S, F, H, N => by
    obtain ⟨ρ1, F1, b1, b2, b3, b4⟩ := ht s x ρ S F H
    have k := hb s x ρ1 S F1 b2 (b3 N)
    rw [M.fold_cons]
    simp only [List.map_cons, forL, b1]
    cases hg : gb s x with
    | ok s' =>
      rw [hg] at k
      obtain ⟨ρ2, S2, h1, F2, h2, h3, h4⟩ := k
      have ih := fold_run ht hb xs s' ρ2 S2 F2 h2 h3
      simp only [M.bind]
      have e1 : ∀ r : SR → Prop, r (forL t (fun ρ' S' => execs cf L body ρ' S') (xs.map en.en) ρ2 S2) → r (match execs cf L body ρ1 S with
          | .next ρ2 S2 => forL t (fun ρ' S' => execs cf L body ρ' S') (xs.map en.en) ρ2 S2
          | .cont ρ2 S2 => forL t (fun ρ' S' => execs cf L body ρ' S') (xs.map en.en) ρ2 S2
          | .brk ρ2 S2 => .next ρ2 S2
          | r => r) := fun r hr => by
        rcases h1 with h1 | h1 <;> rw [h1] <;> exact hr
      have fr : Fr S S2 F F2 := (Fr.sub b4).trans h4
      cases hm : M.fold gb s' xs with
      | ok s2 =>
        rw [hm] at ih
        obtain ⟨ρ', S', g1, g2⟩ := ih
        exact ⟨ρ', S', e1 (fun r => r = .next ρ' S') g1, g2.trans fr⟩
      | ex c =>
        rw [hm] at ih
        obtain ⟨ρ', S', g1⟩ := ih
        exact ⟨ρ', S', e1 (fun r => r = .ex ρ' c S') g1⟩
      | bad => trivial
    | ex c =>
      rw [hg] at k
      obtain ⟨ρ', S', h1⟩ := k
      exact ⟨ρ', S', by rw [h1]⟩
    | bad => trivial
theorem st_for {t : Tg} {kk : ItK} {srcs : List E} {mi : M (List α)} {en : En α} {A' : σ → List Sl} {A1 : σ → α → List Sl} {gb : σ → α → M σ} {s0 : σ} {k : σ → M ω} (hi : It cf A kk srcs mi en) (hw : Wk A (A' s0)) (ht : ∀ s, Bt t en (A' s) (A1 s)) (hb : ∀ s x, St cf L (A1 s x) body (gb s x) fun s' => .nc (A' s')) (hk : ∀ s, St cf L (A' s) ss (k s) J) :
    St cf L A (.forIn t kk srcs body :: ss) ((mi.bind fun xs => M.fold gb s0 xs).bind k) J := by
  refine st_of (B := A') (fun ρ S F H N => ?_) hk
  have k := hi ρ S F H
  obtain ⟨F0, h1, h2⟩ := H.wk hw
  cases mi with
  | ok xs =>
    obtain ⟨ws, g1, g2⟩ := k
    have q := fold_run ht hb xs s0 ρ S F0 h1 (h2.nodup N)
    simp only [M.bind]
    rw [s_for g1 g2]
    cases hm : M.fold gb s0 xs with
    | ok s =>
      rw [hm] at q
      obtain ⟨ρ', S', q1, q2⟩ := q
      exact ⟨ρ', S', q1, q2.trans (Fr.sub fun n hn => h2.subset hn)⟩
    | ex c => rw [hm] at q; exact q
    | bad => trivial
  | ex c => exact ⟨ρ, S, by rw [exec, show _ = _ from k]; rfl⟩
  | bad => trivial
def JF (A' : σ → List Sl) (tr : τ → Tr) (Ar : τ → List Sl) : Fl σ τ → Ex
  | .nx s => .nc (A' s)
  | .bk s => .bk (A' s)
  | .rt r => .rt false (tr r) (Ar r)
theorem foldF_run {t : Tg} {en : En α} {A' : σ → List Sl} {A1 : σ → α → List Sl} {gb : σ → α → M (Fl σ τ)} {tr : τ → Tr} {Ar : τ → List Sl} (ht : ∀ s, Bt t en (A' s) (A1 s)) (hb : ∀ s x, St cf L (A1 s x) body (gb s x) (JF A' tr Ar)) : ∀ (xs : List α) (s : σ) (ρ : Env) (S : Sto) (F : List Nat), Hd S (A' s) ρ F → F.Nodup → match M.foldF gb s xs with
    | .ok (.nx s') => ∃ ρ' S', forL t (fun ρ' S' => execs cf L body ρ' S') (xs.map en.en) ρ S = .next ρ' S' ∧ Go S F (A' s') ρ' S'
    | .ok (.bk _) => False
    | .ok (.rt r) => Out (forL t (fun ρ' S' => execs cf L body ρ' S') (xs.map en.en) ρ S) S F (.rt false (tr r) (Ar r))
    | .ex c => ∃ ρ' S', forL t (fun ρ' S' => execs cf L body ρ' S') (xs.map en.en) ρ S = .ex ρ' c S'
    | .bad => True
  | [], s, ρ, S, F, H, N => ⟨ρ, S, rfl, F, H, N, Fr.refl⟩
  | x :: xs, s, ρ, S, F, H, N => by
    obtain ⟨ρ1, F1, b1, b2, b3, b4⟩ := ht s x ρ S F H
    have k := hb s x ρ1 S F1 b2 (b3 N)
    rw [M.foldF_cons]
    simp only [List.map_cons, forL, b1]
    cases hg : gb s x with
    | ok z =>
      rw [hg] at k
      simp only [M.bind]
      cases z with
      | nx s' =>
        obtain ⟨ρ2, S2, h1, F2, h2, h3, h4⟩ := k
        have ih := foldF_run ht hb xs s' ρ2 S2 F2 h2 h3
        have e1 : ∀ r : SR → Prop, r (forL t (fun ρ' S' => execs cf L body ρ' S') (xs.map en.en) ρ2 S2) → r (match execs cf L body ρ1 S with
            | .next ρ2 S2 => forL t (fun ρ' S' => execs cf L body ρ' S') (xs.map en.en) ρ2 S2
            | .cont ρ2 S2 => forL t (fun ρ' S' => execs cf L body ρ' S') (xs.map en.en) ρ2 S2
            | .brk ρ2 S2 => .next ρ2 S2
            | r => r) := fun r hr => by
          rcases h1 with h1 | h1 <;> rw [h1] <;> exact hr
        have fr : Fr S S2 F F2 := (Fr.sub b4).trans h4
        simp only
        cases hm : M.foldF gb s' xs with
        | ok z =>
          rw [hm] at ih
          cases z with
          | nx s2 =>
            obtain ⟨ρ', S', g1, g2⟩ := ih
            exact ⟨ρ', S', e1 (fun r => r = .next ρ' S') g1, g2.trans fr⟩
          | bk s2 => exact ih.elim
          | rt r => exact e1 (fun rr => Out rr S F _) (Out.tr fr ih)
        | ex c =>
          rw [hm] at ih
          obtain ⟨ρ', S', g1⟩ := ih
          exact ⟨ρ', S', e1 (fun r => r = .ex ρ' c S') g1⟩
        | bad => trivial
      | bk s' =>
        obtain ⟨ρ2, S2, h1, g⟩ := k
        exact ⟨ρ2, S2, by rw [h1], g.trans (Fr.sub b4)⟩
      | rt r =>
        obtain ⟨w, S2, f, F2, ρ2, h1, h2, h3, h4, h5⟩ := k
        rcases h1 with h1 | ⟨h1, _⟩
        · exact ⟨w, S2, f, F2, ρ2, .inl (by rw [h1]), h2, h3, h4, (Fr.sub b4).trans h5⟩
        · cases h1
    | ex c =>
      rw [hg] at k
      obtain ⟨ρ', S', h1⟩ := k
      exact ⟨ρ', S', by rw [h1]⟩
    | bad => trivial
theorem st_ofF {x : Stm} {m : M (Fl σ τ)} {B : σ → List Sl} {k : σ → M ω} {tr : τ → Tr} {Ar : τ → List Sl} {inj : τ → ω} {fl : Bool} (h : ∀ ρ S F, Hd S A ρ F → F.Nodup → match m with
    | .ok (.nx s) => ∃ ρ' S', exec cf L x ρ S = .next ρ' S' ∧ Go S F (B s) ρ' S'
    | .ok (.bk _) => False
    | .ok (.rt r) => Out (exec cf L x ρ S) S F (.rt false (tr r) (Ar r))
    | .ex c => ∃ ρ' S', exec cf L x ρ S = .ex ρ' c S'
    | .bad => True) (hr : ∀ r, J (inj r) = .rt fl (tr r) (Ar r)) (hk : ∀ s, St cf L (B s) ss (k s) J) : St cf L A (x :: ss) (m.bind fun z => z.elim k fun r => .ok (inj r)) J := by
  intro ρ S F H N
  have g := h ρ S F H N
  cases m with
  | ok z =>
    simp only [M.bind]
    cases z with
    | nx s =>
      obtain ⟨ρ', S', e1, F', h2, h3, h4⟩ := g
      have q := hk s ρ' S' F' h2 h3
      simp only [Fl.elim_nx]
      rw [s_execs1, e1, s_seq]
      cases hm : k s with
      | ok z => rw [hm] at q; exact q.tr h4
      | ex c => rw [hm] at q; exact q
      | bad => trivial
    | bk s => exact g.elim
    | rt r =>
      show Out _ S F (J (inj r))
      rw [hr r]
      obtain ⟨w, S2, f, F2, ρ2, h1, h2, h3, h4, h5⟩ := g
      rcases h1 with h1 | ⟨h1, _⟩
      · exact ⟨w, S2, f, F2, ρ2, .inl (by rw [s_execs1, h1]; rfl), h2, h3, h4, h5⟩
      · cases h1
  | ex c =>
    obtain ⟨ρ', S', e1⟩ := g
    exact ⟨ρ', S', by rw [s_execs1, e1]; rfl⟩
  | bad => trivial
theorem st_forF {t : Tg} {kk : ItK} {srcs : List E} {mi : M (List α)} {en : En α} {A' : σ → List Sl} {A1 : σ → α → List Sl} {gb : σ → α → M (Fl σ τ)} {s0 : σ} {k : σ → M ω} {tr : τ → Tr} {Ar : τ → List Sl} {inj : τ → ω} {fl : Bool} (hi : It cf A kk srcs mi en) (hw : Wk A (A' s0)) (ht : ∀ s, Bt t en (A' s) (A1 s)) (hb : ∀ s x, St cf L (A1 s x) body (gb s x) (JF A' tr Ar)) (hr : ∀ r, J (inj r) = .rt fl (tr r) (Ar r)) (hk : ∀ s, St cf L (A' s) ss (k s) J) :
    St cf L A (.forIn t kk srcs body :: ss) ((mi.bind fun xs => M.foldF gb s0 xs).bind fun z => z.elim k fun r => .ok (inj r)) J := by
  refine st_ofF (B := A') (tr := tr) (Ar := Ar) (fl := fl) (fun ρ S F H N => ?_) hr hk
  have k := hi ρ S F H
  obtain ⟨F0, h1, h2⟩ := H.wk hw
  have fr : Fr S S F F0 := Fr.sub fun n hn => h2.subset hn
  cases mi with
  | ok xs =>
    obtain ⟨ws, g1, g2⟩ := k
    have q := foldF_run ht hb xs s0 ρ S F0 h1 (h2.nodup N)
    simp only [M.bind]
    rw [s_for g1 g2]
    cases hm : M.foldF gb s0 xs with
    | ok z =>
      rw [hm] at q
      cases z with
      | nx s =>
        obtain ⟨ρ', S', q1, q2⟩ := q
        exact ⟨ρ', S', q1, q2.trans fr⟩
      | bk s => exact q.elim
      | rt r => exact Out.tr fr q
    | ex c => rw [hm] at q; exact q
    | bad => trivial
  | ex c => exact ⟨ρ, S, by rw [exec, show _ = _ from k]; rfl⟩
  | bad => trivial
theorem whil_run {A' : σ → List Sl} {mc : σ → M Bool} {gb : σ → M σ} (hc : ∀ s, Rd cf (A' s) c (mc s) (pE eBool)) (hb : ∀ s, St cf L (A' s) body (gb s) fun s' => .nc (A' s')) : ∀ (n : Nat) (s : σ) (ρ : Env) (S : Sto) (F : List Nat), Hd S (A' s) ρ F → F.Nodup → match M.whil mc gb n s with
    | .ok s' => ∃ ρ' S', whileL (fun ρ' S' => ev cf c ρ' S') (fun ρ' S' => execs cf L body ρ' S') n ρ S = .next ρ' S' ∧ Go S F (A' s') ρ' S'
    | .ex c' => ∃ ρ' S', whileL (fun ρ' S' => ev cf c ρ' S') (fun ρ' S' => execs cf L body ρ' S') n ρ S = .ex ρ' c' S'
    | .bad => True
  | 0, s, ρ, S, F, H, N => trivial
  | n + 1, s, ρ, S, F, H, N => by
    have k0 := hc s ρ S F H
    have k := hb s ρ S F H N
    simp only [M.whil]
    cases hm : mc s with
    | ok v =>
      rw [hm] at k0
      obtain ⟨w, v1, rfl⟩ := k0
      simp only [M.bind]
      cases v with
      | false => exact ⟨ρ, S, by simp only [whileL, v1]; rfl, F, H, N, Fr.refl⟩
      | true =>
        have v1 : ev cf c ρ S = .ok (.bl true) S := v1
        simp only [if_true]
        cases hg : gb s with
        | ok s' =>
          rw [hg] at k
          obtain ⟨ρ2, S2, h1, F2, h2, h3, h4⟩ := k
          have ih := whil_run hc hb n s' ρ2 S2 F2 h2 h3
          have e1 : ∀ r : SR → Prop, r (whileL (fun ρ' S' => ev cf c ρ' S') (fun ρ' S' => execs cf L body ρ' S') n ρ2 S2) → r (whileL (fun ρ' S' => ev cf c ρ' S') (fun ρ' S' => execs cf L body ρ' S') (n + 1) ρ S) := fun r hr => by
            simp only [whileL, v1]
            rcases h1 with h1 | h1 <;> rw [h1] <;> exact hr
          simp only
          cases hm : M.whil mc gb n s' with
          | ok s2 =>
            rw [hm] at ih
            obtain ⟨ρ', S', g1, g2⟩ := ih
            exact ⟨ρ', S', e1 (fun r => r = .next ρ' S') g1, g2.trans h4⟩
          | ex c' =>
            rw [hm] at ih
            obtain ⟨ρ', S', g1⟩ := ih
            exact ⟨ρ', S', e1 (fun r => r = .ex ρ' c' S') g1⟩
          | bad => trivial
        | ex c' =>
          rw [hg] at k
          obtain ⟨ρ', S', h1⟩ := k
          exact ⟨ρ', S', by simp only [whileL, v1]; rw [h1]⟩
        | bad => trivial
    | ex c' =>
      rw [hm] at k0
      exact ⟨ρ, S, by simp only [whileL]; rw [show ev cf c ρ S = _ from k0]⟩
    | bad => trivial
theorem st_whil {A' : σ → List Sl} {mc : σ → M Bool} {gb : σ → M σ} {s0 : σ} {k : σ → M ω} (hw : Wk A (A' s0)) (hc : ∀ s, Rd cf (A' s) c (mc s) (pE eBool)) (hb : ∀ s, St cf L (A' s) body (gb s) fun s' => .nc (A' s')) (hk : ∀ s, St cf L (A' s) ss (k s) J) : St cf L A (.whil c body :: ss) ((M.whil mc gb L s0).bind k) J := by
  refine st_of (B := A') (fun ρ S F H N => ?_) hk
  obtain ⟨F0, h1, h2⟩ := H.wk hw
  have q := whil_run hc hb L s0 ρ S F0 h1 (h2.nodup N)
  rw [s_whil]
  cases hm : M.whil mc gb L s0 with
  | ok s =>
    rw [hm] at q
    obtain ⟨ρ', S', q1, q2⟩ := q
    exact ⟨ρ', S', q1, q2.trans (Fr.sub fun n hn => h2.subset hn)⟩
  | ex c => rw [hm] at q; exact q
  | bad => trivial
theorem ee_tup2 {m1 : M ω'} {m2 : ω' → M ω2} {x1 : Et α} {x2 : Et β} {f1 : ω' → α} {f2 : ω' → ω2 → β} {B1 : ω' → List Sl} {B2 : ω' → ω2 → List Sl} (h1 : Ee cf A a m1 x1 f1 B1) (h2 : ∀ o, Ee cf (B1 o) b (m2 o) x2 (f2 o) (B2 o)) :
    Ee cf A (.op .tupD [a, b]) (m1.bind fun o => (m2 o).bind fun o2 => .ok (o, o2)) (c2 x1 x2) (fun o => (f1 o.1, f2 o.1 o.2)) fun o => B2 o.1 o.2 := by
  intro ρ S F H N
  have k := h1 ρ S F H N
  cases m1 with
  | ok o =>
    obtain ⟨w, S1, fr, F1, g1, g2, g3, g4, g5⟩ := k
    have N4 := List.nodup_append.mp g4
    have k2 := h2 o ρ S1 F1 g3 N4.2.1
    simp only [M.bind]
    cases hm : m2 o with
    | ok o2 =>
      rw [hm] at k2
      obtain ⟨v, S2, fr2, F2, q1, q2, q3, q4, q5⟩ := k2
      have hd := g2.dom
      have same : ∀ n ∈ fr, S2[n]? = S1[n]? := fun n hn => q5.2.1 n (hd n hn) fun z => N4.2.2 n hn n z rfl
      refine ⟨.tup [w, v], S2, fr ++ (fr2 ++ []), F2, ?_, ⟨_, rfl, w, [v], fr, fr2 ++ [], rfl, rfl, g2.frame same, v, [], fr2, [], rfl, rfl, q2, rfl, rfl⟩, q3, ?_, ?_⟩
      · rw [s_op, s_evs1, g1, s_bind, s_evs1, q1]
        simp only [s_bind, s_evs0, o_tupD]
        rfl
      · simp only [List.append_nil, List.append_assoc]
        rw [List.nodup_append]
        refine ⟨N4.1, q4, fun x hx y hy z => ?_⟩
        subst z
        rcases q5.2.2 x hy with r | r
        · exact N4.2.2 x hx x r rfl
        · have := hd x hx; omega
      · refine ⟨Nat.le_trans g5.1 q5.1, fun n hn hF => ?_, fun n hn => ?_⟩
        · rw [q5.2.1 n (by have := g5.1; omega) fun z => ?_, g5.2.1 n hn hF]
          rcases g5.2.2 n (by simp [z]) with r | r
          · exact hF r
          · omega
        · simp only [List.append_nil, List.mem_append] at hn
          rcases hn with (hn | hn) | hn
          · exact g5.2.2 n (by simp [hn])
          · rcases q5.2.2 n (by simp [hn]) with r | r
            · exact g5.2.2 n (by simp [r])
            · exact .inr (by have := g5.1; omega)
          · rcases q5.2.2 n (by simp [hn]) with r | r
            · exact g5.2.2 n (by simp [r])
            · exact .inr (by have := g5.1; omega)
    | ex c =>
      rw [hm] at k2
      obtain ⟨S2, q1⟩ := k2
      exact ⟨S2, by rw [s_op, s_evs1, g1, s_bind, s_evs1, q1]; rfl⟩
    | bad => trivial
  | ex c =>
    obtain ⟨S2, q1⟩ := k
    exact ⟨S2, by rw [s_op, s_evs1, q1]; rfl⟩
  | bad => trivial
theorem hd_v {S : Sto} {ρ : Env} {en : En α} {x : α} (h : Hd S A ρ []) : Hd S (.s (eV en) x :: A) (some (en.en x) :: ρ) [] := ⟨_, ρ, [], [], rfl, rfl, val_ok en x, h⟩
theorem hd_n {S : Sto} {ρ : Env} {r : Option W} (h : Hd S A ρ []) : Hd S (.no :: A) (r :: ρ) [] := ⟨r, ρ, [], [], rfl, rfl, rfl, h⟩
theorem hd_z {S : Sto} {ρ : Env} : Hd S [] ρ [] := rfl
theorem fk_mk {P : Nat → Option Fn} {d f : Nat} {ws : List W} {x : Fn} {m : M α} {et : Et α} (h : P f = some x) (hl : ws.length = x.np) (hA : Hd [] A (ws.map some ++ List.replicate (x.ns - x.np) none) []) (hs : St (runF P L d) L A x.body m fun r => .rt true (et.tr r) []) : Fk (runF P L (d + 1)) f ws m et := by
  have k := hs _ _ _ hA .nil
  have e := runF_succ (L := L) (d := d) (S := []) h hl
  cases m with
  | ok r =>
    obtain ⟨w, S', f', F', ρ', h1, h2, h3, h4, h5⟩ := k
    refine ⟨w, S', f', ?_, h2, (List.nodup_append.mp h4).1⟩
    rw [e]
    rcases h1 with h1 | ⟨_, rfl, ρ2, h1⟩ <;> rw [h1]
  | ex c =>
    obtain ⟨ρ', S', h1⟩ := k
    exact ⟨S', by rw [e, h1]⟩
  | bad => trivial
end
end Tw

namespace Tw
namespace M
variable {α β γ : Type}
theorem chk_bind {b : Bool} {m : M α} {f : α → M β} : (M.chk b m).bind f = M.chk b (m.bind f) := by cases b <;> rfl
theorem map_pure {f : α → β} {xs : List α} : M.map (fun x => .ok (f x)) xs = .ok (xs.map f) := M.map_ok fun _ _ => rfl
theorem filt_pure {c : α → Bool} {f : α → β} {xs : List α} : M.filt (fun x => .ok (c x)) (fun x => .ok (f x)) xs = .ok ((xs.filter c).map f) := M.filt_ok (fun _ _ => rfl) fun _ _ _ => rfl
theorem map_self {xs : List α} : M.map M.ok xs = .ok xs := by
  have := M.map_ok (f := M.ok) (g := id) (xs := xs) fun _ _ => rfl
  simpa using this
theorem filt_self {c : α → Bool} {xs : List α} : M.filt (fun x => .ok (c x)) M.ok xs = .ok (xs.filter c) := by
  have := M.filt_ok (c := fun x => .ok (c x)) (p := c) (f := M.ok) (g := id) (xs := xs) (fun _ _ => rfl) fun _ _ _ => rfl
  simpa using this
end M
theorem eV_fl {α : Type} (e : En α) : (eV e).fl = e := rfl
theorem cL_fl {α : Type} (e : Et α) : (cL e).fl = eL e.fl := rfl
theorem cD_fl {κ ν : Type} (b : Bool) (k : En κ) (v : Et ν) : (cD b k v).fl = eD b k v.fl := rfl
theorem c2_fl {α β : Type} (a : Et α) (b : Et β) : (c2 a b).fl = e2 a.fl b.fl := rfl
theorem c3_fl {α β γ : Type} (a : Et α) (b : Et β) (c : Et γ) : (c3 a b c).fl = e3 a.fl b.fl c.fl := rfl
theorem cmr (b : Int) (h : decide (b.natAbs < 2 ^ 64) = true) (a : Int) : CMul a b = true := by
  simp only [CMul, h, Bool.or_true]
theorem cml (a : Int) (h : decide (a.natAbs < 2 ^ 64) = true) (b : Int) : CMul a b = true := by
  simp only [CMul, h, Bool.true_or]
variable {α β γ δ ε κ ν ω ω' ω2 σ τ : Type}
variable {cf : CallF} {L : Nat} {A B : List Sl} {a b c d e p : E} {as : List E} {ss body : List Stm} {J : ω → Ex}
theorem isi_h {t : IsT} {g : Bool} {e : En α} (h : ∀ S x, isiOp t (e.en x) S = some g) : ∀ S x w, pE e S x w → isiOp t w S = some g := fun S x w q => by rw [show w = _ from q]; exact h S x
theorem isi_hL {t : IsT} {g : Bool} {e : Et α} (h : ∀ S n ws, S[n]? = some (.lst ws) → isiOp t (.ref n) S = some g) : ∀ S x w, pT (cL e) S x w → isiOp t w S = some g := fun S x w q => by
  obtain ⟨f, n, ws, f', rfl, rfl, h1, h2⟩ := q
  exact h S n ws h1
theorem isi_LL (S : Sto) (n : Nat) (ws : List W) (h : S[n]? = some (.lst ws)) : isiOp .list (.ref n) S = some true := by simp [isiOp, h]
theorem rd_lenP {e : En α} {m : M α} (k : Int) (h : ∀ S x, lenSem S (e.en x) = some k) (h1 : Rd cf A a m (pE e)) : Rd cf A (.op .len [a]) (m.bind fun _ => .ok k) (pE eInt) :=
  rd_op1 (g := fun _ => .ok k) (fun S x w q => by rw [show w = _ from q]; exact ⟨.int k, by simp only [opSem, h]; rfl, rfl⟩) h1
def rgS (x y z : Int) : List Int := (List.range (if x < y then ((y - x - 1) / z + 1).toNat else 0)).map fun (j : Nat) => x + j * z
theorem it_r3s {mi mj mk : M Int} (h : Rd cf A a mi (pE eInt)) (h' : Rd cf A b mj (pE eInt)) (h'' : Rd cf A c mk (pE eInt)) : It cf A .range3 [a, b, c] (mi.bind fun x => mj.bind fun y => mk.bind fun z => M.chk (small x && small y && decide (0 < z) && decide (z < 1000000)) (.ok (rgS x y z))) eInt := it_r3 h h' h''
end Tw

namespace Tw
variable {α β γ δ ε κ ν ω ω' ω2 σ τ : Type}
variable {cf : CallF} {L : Nat} {A B V : List Sl} {a b c d e p : E} {as : List E} {ss body : List Stm} {J : ω → Ex}
end Tw

namespace Tw
section
variable {α β γ δ ε κ ν ω ω' ω2 σ τ φ : Type}
variable {cf : CallF} {L : Nat} {A B : List Sl} {a b c d e p : E} {as : List E} {ss : List Stm} {J : ω → Ex}
structure Tl (φ : Type) where
  trs : φ → List Tr
  en : φ → List W
  hf : ∀ x, flats (trs x) = en x
  rf : ∀ x, rfreeL (en x) = true
  dp : Nat
  hd : ∀ x, deps (trs x) ≤ dp
  st : Bool
  hs : st = true → ∀ x, stris (trs x) = true
def tlc (e : Et α) (t : Tl β) : Tl (α × β) := ⟨fun x => e.tr x.1 :: t.trs x.2, fun x => e.fl.en x.1 :: t.en x.2, fun x => by simp only [flats, e.hf, t.hf], fun x => by simp only [rfreeL, e.fl.rf, t.rf, Bool.and_self], max e.dp t.dp, fun x => by
  have := e.hd x.1; have := t.hd x.2
  simp only [deps]; omega, e.st && t.st, fun h x => by
  simp only [Bool.and_eq_true] at h
  simp only [stris, e.hs h.1, t.hs h.2, Bool.and_self]⟩
def oE (c : Nat) (t : Tl φ) : En φ := ⟨fun x => .rcd c (t.en x), fun x => by simp only [rfree, t.rf], false, fun h => by cases h⟩
def cO (c : Nat) (t : Tl φ) : Et φ := ⟨fun x => .o c (t.trs x), oE c t, fun x => by simp only [flat, t.hf]; rfl, t.dp + 1, fun x => by
  have := t.hd x
  simp only [dep]; omega, t.st, fun h x => by simp only [stri]; exact t.hs h x⟩
theorem cO_fl (c : Nat) (t : Tl φ) : (cO c t).fl = oE c t := rfl
structure Fld (t : Tl φ) (j : Nat) (e : Et α) where
  get : φ → α
  put : φ → α → φ
  h1 : ∀ x, (t.trs x)[j]? = some (e.tr (get x))
  h2 : ∀ x y, t.trs (put x y) = (t.trs x).set j (e.tr y)
  h3 : ∀ x, (t.en x)[j]? = some (e.fl.en (get x))
def fd0 {e : Et α} {t : Tl β} : Fld (tlc e t) 0 e := ⟨fun x => x.1, fun x y => (y, x.2), fun _ => rfl, fun _ _ => rfl, fun _ => rfl⟩
def fdS {e : Et α} {a : Et γ} {t : Tl β} {j : Nat} (f : Fld t j e) : Fld (tlc a t) (j + 1) e := ⟨fun x => f.get x.2, fun x y => (x.1, f.put x.2 y), fun x => by simpa [tlc] using f.h1 x.2, fun x y => by simp only [tlc, List.set_cons_succ, f.h2], fun x => by simpa [tlc] using f.h3 x.2⟩
theorem fd0_get {e : Et α} {t : Tl β} (x : α × β) : (fd0 (e := e) (t := t)).get x = x.1 := rfl
theorem fd0_put {e : Et α} {t : Tl β} (x : α × β) (y : α) : (fd0 (e := e) (t := t)).put x y = (y, x.2) := rfl
theorem fdS_get {e : Et α} {a : Et γ} {t : Tl β} {j : Nat} (f : Fld t j e) (x : γ × β) : (fdS (a := a) f).get x = f.get x.2 := rfl
theorem fdS_put {e : Et α} {a : Et γ} {t : Tl β} {j : Nat} (f : Fld t j e) (x : γ × β) (y : α) : (fdS (a := a) f).put x y = (x.1, f.put x.2 y) := rfl
def Sk (cf : CallF) (f : Nat) (etF : Et φ) (us : List W) (a : φ) (m : M (α × φ)) (et : Et α) : Prop := ∀ w S F, TrOk S (etF.tr a) w F → F.Nodup → match m with
  | .ok z => ∃ v S' fr F', cf f (w :: us) S = .ok v S' ∧ TrOk S' (et.tr z.1) v fr ∧ TrOk S' (etF.tr z.2) w F' ∧ (fr ++ F').Nodup ∧ Fr S S' F (fr ++ F')
  | .ex c => ∃ S', cf f (w :: us) S = .ex c S'
  | .bad => True
theorem Sk.cast {f : Nat} {etF : Et φ} {us : List W} {a : φ} {m m' : M (α × φ)} {et : Et α} (h : Sk cf f etF us a m et) (e : m = m') : Sk cf f etF us a m' et := e ▸ h
def Ns (cf : CallF) (k f : Nat) (us : List W) (m : M φ) (et : Et φ) : Prop := ∀ S, match m with
  | .ok x => ∃ S' fr, newSem cf .shared k f us S = .ok (.ref S.length) S' ∧ TrOk S' (et.tr x) (.ref S.length) fr ∧ fr.Nodup ∧ (∀ n ∈ fr, S.length ≤ n) ∧ S.length ≤ S'.length ∧ ∀ n, n < S.length → S'[n]? = S[n]?
  | .ex c => ∃ S', newSem cf .shared k f us S = .ex c S'
  | .bad => True
end
end Tw

namespace Tw
variable {cf : CallF} {A : List Sl} {α β : Type}
end Tw

namespace Tw
section
variable {α β γ δ ε κ ν ω ω' ω2 σ τ φ : Type}
variable {cf : CallF} {L : Nat} {A B : List Sl} {a b c d e p : E} {as : List E} {ss : List Stm} {J : ω → Ex}
def Sz (cf : CallF) (f : Nat) (etF : Et φ) (us : List W) (a : φ) (m : M (α × φ)) (et : Et α) : Prop := ∀ w S F, TrOk S (etF.tr a) w F → F.Nodup → match m with
  | .ok z => ∃ v S' fr F', cf f (us ++ [w]) S = .ok v S' ∧ TrOk S' (et.tr z.1) v fr ∧ TrOk S' (etF.tr z.2) w F' ∧ (fr ++ F').Nodup ∧ Fr S S' F (fr ++ F')
  | .ex c => ∃ S', cf f (us ++ [w]) S = .ex c S'
  | .bad => True
theorem Sz.cast {f : Nat} {etF : Et φ} {us : List W} {a : φ} {m m' : M (α × φ)} {et : Et α} (h : Sz cf f etF us a m et) (e : m = m') : Sz cf f etF us a m' et := e ▸ h
end
end Tw

namespace Tw
section
variable {α β γ δ ε κ ν ω ω' ω2 σ τ φ : Type}
variable {cf : CallF} {L : Nat} {A B : List Sl} {a b c d e p : E} {as : List E}
def eHl (t : Tl φ) : En φ := ⟨fun x => .lst (t.en x), fun x => by simp only [rfree, t.rf], false, fun h => by cases h⟩
def cHl (t : Tl φ) : Et φ := ⟨fun x => .h (t.trs x), eHl t, fun x => by simp only [flat, t.hf]; rfl, t.dp, fun x => by
  have := t.hd x
  simp only [dep]; omega, false, fun h => by cases h⟩
theorem cHl_fl (t : Tl φ) : (cHl t).fl = eHl t := rfl
end
end Tw

namespace Tw
section
variable {α β γ δ ε κ ν ω ω' ω2 σ τ φ : Type}
variable {cf : CallF} {L : Nat} {A B : List Sl} {a b c d e p : E} {as : List E} {ss : List Stm} {J : ω → Ex}
def fill : List (Option W) → List W → List W
  | some w :: p, ws => w :: fill p ws
  | none :: p, w :: ws => w :: fill p ws
  | none :: _, [] => []
  | [], _ => []
def Sm (cf : CallF) (f : Nat) (t : Tl φ) (pt : List (Option W)) (y : φ) (m : M (α × φ)) (et : Et α) : Prop := ∀ ws S F, TrsOk S (t.trs y) ws F → F.Nodup → match m with
  | .ok z => ∃ v S' fr F', cf f (fill pt ws) S = .ok v S' ∧ TrOk S' (et.tr z.1) v fr ∧ TrsOk S' (t.trs z.2) ws F' ∧ (fr ++ F').Nodup ∧ Fr S S' F (fr ++ F')
  | .ex c => ∃ S', cf f (fill pt ws) S = .ex c S'
  | .bad => True
theorem Sm.cast {f : Nat} {t : Tl φ} {pt : List (Option W)} {y : φ} {m m' : M (α × φ)} {et : Et α} (h : Sm cf f t pt y m et) (e : m = m') : Sm cf f t pt y m' et := e ▸ h
end
end Tw

namespace Tw
section
variable {α β γ δ ε κ ν ω ω' ω2 σ τ φ : Type}
variable {cf : CallF} {L : Nat} {A B : List Sl} {a b c d e p : E} {as : List E} {ss : List Stm} {J : ω → Ex}
end
section
variable {α β γ δ ε κ ν ω ω' ω2 σ τ φ : Type}
variable {cf : CallF} {L : Nat} {A B : List Sl} {a b c d e p : E} {as : List E} {ss : List Stm} {J : ω → Ex}
theorem hd_env {S : Sto} : ∀ {A : List Sl} {ρ ρ' : Env} {F : List Nat}, Hd S A ρ' F → ρ.length = ρ'.length → (∀ i, Sl.get A i ≠ .no → ρ[i]? = ρ'[i]?) → Hd S A ρ F
  | [], _, _, _, h, _, _ => h
  | s :: A, ρ, _, F, ⟨r, ρ1, f1, f2, rfl, h2, h3, h4⟩, hl, hi => by
    cases ρ with
    | nil => simp at hl
    | cons r0 ρ0 =>
      refine ⟨r0, ρ0, f1, f2, rfl, h2, ?_, hd_env h4 (by simpa using hl) fun i q => by simpa using hi (i + 1) q⟩
      cases s with
      | no => exact h3
      | s e x =>
        have := hi 0 (by simp [Sl.get])
        simp only [List.getElem?_cons_zero, Option.some.injEq] at this
        rw [this]; exact h3
      | p e x n =>
        have := hi 0 (by simp [Sl.get])
        simp only [List.getElem?_cons_zero, Option.some.injEq] at this
        rw [this]; exact h3
def noB : Sl → Bool
  | .no => true
  | _ => false
theorem no_all {A : List Sl} {is : List Nat} (h : (is.all fun i => noB (Sl.get A i)) = true) : ∀ i, i ∈ is → Sl.get A i = .no := fun i hi => by
  have := List.all_eq_true.mp h i hi
  revert this
  cases Sl.get A i with
  | no => intro _; rfl
  | s e x => intro q; cases q
  | p e x n => intro q; cases q
end
end Tw

namespace Tw
section
variable {α β γ δ ε κ ν ω ω' ω2 σ τ φ : Type}
variable {cf : CallF} {L : Nat} {A B : List Sl} {a b c d e p : E} {as : List E} {ss : List Stm} {J : ω → Ex}
end
end Tw

namespace Tw
section
variable {α β γ δ ε κ ν ω ω' ω2 σ τ φ : Type}
variable {cf : CallF} {L : Nat} {A B : List Sl} {a b c d e p : E} {as : List E} {ss : List Stm} {J : ω → Ex}
end
end Tw

namespace Tw
section
variable {α β γ δ ε κ ν ω ω' ω2 σ τ φ : Type}
variable {cf : CallF} {L : Nat} {A B K : List Sl} {a b c d e p : E} {as : List E} {ss : List Stm} {J : ω → Ex}
theorem Hd.setA {S : Sto} {i : Nat} {ρ : Env} {F f : List Nat} {sl : Sl} {r : Option W} (h : Hd S A ρ F) (hs : SlOk S sl r f) : ∃ F', Hd S (Sl.put A i sl) (ρ.set i r) F' := by
  by_cases hi : i < A.length
  · obtain ⟨r0, f0, G, h1, h2, h3, h4⟩ := h.split hi
    obtain ⟨F', k1, k2⟩ := h4 S sl r f (fun _ _ => rfl) hs
    exact ⟨F', k1⟩
  · rw [put_out hi]
    exact ⟨F, h.setOut hi⟩
def Kp (K : List Sl) (ρ ρ' : Env) : Prop := ρ'.length = ρ.length ∧ ∀ i, Sl.get K i ≠ .no → ρ'[i]? = ρ[i]?
theorem Kp.refl (K : List Sl) (ρ : Env) : Kp K ρ ρ := ⟨rfl, fun _ _ => rfl⟩
theorem Kp.trans {ρ ρ1 ρ2 : Env} (h : Kp K ρ ρ1) (h' : Kp K ρ1 ρ2) : Kp K ρ ρ2 := ⟨h'.1.trans h.1, fun i hi => (h'.2 i hi).trans (h.2 i hi)⟩
theorem Kp.set {ρ : Env} {i : Nat} {r : Option W} (h : Sl.get K i = .no) : Kp K ρ (ρ.set i r) := ⟨List.length_set, fun j hj => by
  rw [List.getElem?_set_ne]
  rintro rfl
  exact hj h⟩
theorem Kp.wipe {ρ : Env} : ∀ (vs : List Nat), (∀ i ∈ vs, Sl.get K i = .no) → Kp K ρ (Tw.wipe ρ vs)
  | [], _ => Kp.refl K ρ
  | v :: vs, h => (Kp.wipe vs fun i hi => h i (by simp [hi])).trans (Kp.set (ρ := Tw.wipe ρ vs) (r := none) (h v (by simp)))
def Lk (cf : CallF) (L : Nat) (A K : List Sl) (ss : List Stm) (m : M (Fl Unit τ)) (e : En τ) : Prop := ∀ ρ S F, Hd S A ρ F → match m with
  | .ok (.nx _) => ∃ ρ', (execs cf L ss ρ S = .next ρ' S ∨ execs cf L ss ρ S = .cont ρ' S) ∧ Kp K ρ ρ'
  | .ok (.bk _) => False
  | .ok (.rt r) => execs cf L ss ρ S = .ret (e.en r) S
  | .ex c => ∃ ρ' S', execs cf L ss ρ S = .ex ρ' c S'
  | .bad => True
theorem lk_wipe {e : En τ} {vs : List Nat} (h : ∀ i ∈ vs, Sl.get K i = .no) : Lk cf L A K [.wipe vs] (.ok (.nx ())) e := fun ρ S F H => ⟨wipe ρ vs, .inl (by rw [s_execs1]; simp [exec, execs, SR.seq]), Kp.wipe vs h⟩
theorem lk_ret {m : M τ} {e : En τ} (h : Rd cf A a m (pE e)) : Lk cf L A K (.ret a :: ss) (m.bind fun r => .ok (.rt r)) e := by
  intro ρ S F H
  have k := h ρ S F H
  cases m with
  | ok o =>
    obtain ⟨w, h1, rfl⟩ := k
    show execs cf L (.ret a :: ss) ρ S = .ret (e.en o) S
    rw [s_execs1, s_ret, h1]
    rfl
  | ex c => exact ⟨ρ, S, by rw [s_execs1, s_ret, show _ = _ from k]; rfl⟩
  | bad => trivial
theorem lk_ite {mc : M Bool} {m1 m2 : M (Fl Unit τ)} {e : En τ} {x y : List Stm} (h : Rd cf A c mc (pE eBool)) (h1 : Lk cf L A K (x ++ ss) m1 e) (h2 : Lk cf L A K (y ++ ss) m2 e) : Lk cf L A K (.ite c x y :: ss) (mc.bind fun b => if b = true then m1 else m2) e := by
  intro ρ S F H
  have k := h ρ S F H
  have k1 := h1 ρ S F H
  have k2 := h2 ρ S F H
  rw [execs_app] at k1 k2
  cases mc with
  | ok b =>
    obtain ⟨w, g, rfl⟩ := k
    simp only [M.bind]
    rw [s_execs1, s_ite, g, s_sr]
    cases b with
    | true => exact k1
    | false => exact k2
  | ex c => exact ⟨ρ, S, by rw [s_execs1, s_ite, show _ = _ from k]; rfl⟩
  | bad => trivial
end
end Tw

namespace Tw
section
variable {α β γ δ ε κ ν ω ω' ω2 σ τ φ : Type}
variable {cf : CallF} {L : Nat} {A B K : List Sl} {a b c d e p : E} {as : List E} {ss : List Stm} {J : ω → Ex}
end
end Tw

namespace Tw
section
variable {α β γ δ ε κ ν ω ω' ω2 σ τ φ : Type}
variable {cf : CallF} {L : Nat} {A B K : List Sl} {a b c d e p : E} {as : List E} {ss : List Stm} {J : ω → Ex}
def trN (e : Et α) : Option α → Tr
  | none => .w .non
  | some a => e.tr a
def cN (e : Et α) : Et (Option α) := ⟨trN e, eO e.fl, fun x => by cases x with
  | none => rfl
  | some a => exact e.hf a, e.dp, fun x => by cases x with
  | none => exact Nat.zero_le _
  | some a => exact e.hd a, e.st, fun h x => by cases x with
  | none => rfl
  | some a => exact e.hs h a⟩
theorem cN_fl (e : Et α) : (cN e).fl = eO e.fl := rfl
end
end Tw

namespace Tw
section
variable {α β γ δ ε κ ν ω ω' ω2 σ τ φ : Type}
variable {cf : CallF} {L : Nat} {A B K : List Sl} {a b c d e p : E} {as : List E} {ss : List Stm} {J : ω → Ex}
end
end Tw

namespace Tw
section
variable {α β γ δ ε κ ν ω ω' ω2 σ τ φ : Type}
variable {cf : CallF} {L : Nat} {A B K : List Sl} {a b c d e p : E} {as : List E} {ss : List Stm} {J : ω → Ex}
end
end Tw

namespace Tw
variable {cf : CallF} {L : Nat} {a b e : E} {as : List E}
def Kf (n j : Nat) (S S' : Sto) : Prop := ∀ c ws, S[n]? = some (.ins c ws) → ∃ ws', S'[n]? = some (.ins c ws') ∧ ws'[j]? = ws[j]?
theorem Kf.refl {n j : Nat} {S : Sto} : Kf n j S S := fun c ws h => ⟨ws, h, rfl⟩
theorem Kf.trans {n j : Nat} {S S' S'' : Sto} (h : Kf n j S S') (h' : Kf n j S' S'') : Kf n j S S'' := fun c ws q => by
  obtain ⟨ws1, q1, e1⟩ := h c ws q
  obtain ⟨ws2, q2, e2⟩ := h' c ws1 q1
  exact ⟨ws2, q2, e2.trans e1⟩
end Tw

namespace Tw
section
variable {α β γ δ ε κ ν ω ω' ω2 σ τ φ : Type}
variable {cf : CallF} {L : Nat} {A B : List Sl} {a b c d e p : E} {as : List E} {ss : List Stm} {J : ω → Ex}
end
end Tw

namespace Tw
section
variable {α β γ δ ε κ ν ω ω' ω2 σ τ φ : Type}
variable {cf : CallF} {L : Nat} {A B : List Sl} {a b c d e p : E} {as : List E} {ss body : List Stm} {J : ω → Ex}
end
end Tw

namespace Tw
section
variable {α β γ δ ε κ ν ω ω' ω2 σ τ φ : Type}
variable {cf : CallF} {L : Nat} {A B : List Sl} {a b c d e p : E} {as : List E} {ss : List Stm} {J : ω → Ex} {mi mj : M Int}
theorem rd_listRev {e : En α} {m : M (List α)} (h : Rd cf A a m (pL e)) : Rd cf A (.op .listRev [a]) (m.bind fun xs => M.chk (decide (xs.length < LIM)) (.ok xs.reverse)) (pE (eL e)) :=
  rd_op1 (by
    intro S x w hw
    refine Mo.chk fun q => ⟨.lst (x.reverse.map e.en), ?_, rfl⟩
    have o : opSem .listRev [w] S = (lstOf S w).bind fun xs => if xs.length < LIM then some (.lst xs.reverse) else none := by simp [opSem]
    have q : x.length < LIM := of_decide_eq_true q
    rw [o, show lstOf S w = some (x.map e.en) from hw]
    simp [List.length_map, q, List.map_reverse]) h
theorem rd_listRevR (h : Rd cf A a mi (pE eInt)) : Rd cf A (.op .listRevR [a]) (mi.bind fun n => M.chk (small n) (.ok ((List.range n.toNat).map fun (j : Nat) => n - 1 - (j : Int)))) (pE (eL eInt)) :=
  rd_op1 (by
    intro S x w hw
    obtain rfl : w = .int x := hw
    refine Mo.chk fun q => ⟨.lst (((List.range x.toNat).map fun (j : Nat) => x - 1 - (j : Int)).map eInt.en), ?_, rfl⟩
    have o : opSem .listRevR [.int x] S = if decide (x.natAbs < LIM) then some (.lst ((List.range x.toNat).map fun (j : Nat) => W.int (x - 1 - j))) else none := by simp [opSem]
    rw [o, if_pos (show decide (x.natAbs < LIM) = true from q), List.map_map]
    rfl) h
theorem lkZ_run {i j n : Nat} {et : Et α} {e2 : En β} {xs : List α} {ys : List β} {body : List Stm} {gb : α → β → M (Fl Unit τ)} {e : En τ} {ρ0 : Env} {S : Sto} {F0 : List Nat} {ws : List W} {f : List Nat} (H : Hd S A ρ0 F0) (hn : S[n]? = some (.lst ws)) (ht : TrsOk S (xs.map et.tr) ws f)
    (hb : ∀ x y, Lk cf L (Sl.put (Sl.put A i (.s et x)) j (.s (eV e2) y)) A body (gb x y) e) (hi : Sl.get A i = .no) (hj : Sl.get A j = .no) :
    ∀ (k q : Nat) (ρ : Env), q ≤ xs.length ∧ xs.length < q + k → Kp A ρ0 ρ → match M.foldF (fun _ (p : α × β) => gb p.1 p.2) () (List.zip (xs.drop q) (ys.drop q)) with
    | .ok (.nx _) => ∃ ρ', forCZ (.tup [i, j]) (fun ρ' S' => execs cf L body ρ' S') n (ys.map e2.en) k q ρ S = .next ρ' S ∧ Kp A ρ0 ρ'
    | .ok (.bk _) => False
    | .ok (.rt r) => forCZ (.tup [i, j]) (fun ρ' S' => execs cf L body ρ' S') n (ys.map e2.en) k q ρ S = .ret (e.en r) S
    | .ex c => ∃ ρ' S', forCZ (.tup [i, j]) (fun ρ' S' => execs cf L body ρ' S') n (ys.map e2.en) k q ρ S = .ex ρ' c S'
    | .bad => True
  | 0, q, ρ, hl, _ => by exfalso; omega
  | k + 1, q, ρ, hl, hk => by
    have hwl := trs_len ht
    rw [List.length_map] at hwl
    rcases Nat.lt_or_ge q xs.length with hq | hq
    · obtain ⟨w, f1, g1, g2⟩ := trs_get et ht (List.getElem?_eq_getElem hq)
      rcases Nat.lt_or_ge q ys.length with hy | hy
      · rw [List.drop_eq_getElem_cons hq, List.drop_eq_getElem_cons hy, List.zip_cons_cons, M.foldF_cons]
        have gy : (ys.map e2.en)[q]? = some (e2.en ys[q]) := by rw [List.getElem?_map, List.getElem?_eq_getElem hy]; rfl
        have H1 : Hd S A ρ F0 := hd_env H hk.1 hk.2
        obtain ⟨F1, H2⟩ := H1.setA (i := i) (sl := .s et xs[q]) (r := some w) (f := f1) ⟨w, rfl, g2⟩
        obtain ⟨F2, H3⟩ := H2.setA (i := j) (sl := .s (eV e2) ys[q]) (r := some (e2.en ys[q])) (f := []) ⟨_, rfl, rfl, e2.rf _, rfl⟩
        have b := hb xs[q] ys[q] _ S F2 H3
        have kp : Kp A ρ0 ((ρ.set i (some w)).set j (some (e2.en ys[q]))) := hk.trans ((Kp.set hi).trans (Kp.set hj))
        have e0 : forCZ (.tup [i, j]) (fun ρ' S' => execs cf L body ρ' S') n (ys.map e2.en) (k + 1) q ρ S = match execs cf L body ((ρ.set i (some w)).set j (some (e2.en ys[q]))) S with
            | .next ρ2 S2 => forCZ (.tup [i, j]) (fun ρ' S' => execs cf L body ρ' S') n (ys.map e2.en) k (q + 1) ρ2 S2
            | .cont ρ2 S2 => forCZ (.tup [i, j]) (fun ρ' S' => execs cf L body ρ' S') n (ys.map e2.en) k (q + 1) ρ2 S2
            | .brk ρ2 S2 => .next ρ2 S2
            | r => r := by
          rw [forCZ]
          simp only [hn, g1, gy]
          rfl
        rw [e0]
        cases hg : gb xs[q] ys[q] with
        | ok z =>
          rw [hg] at b
          cases z with
          | nx u =>
            obtain ⟨ρ', b1, b2⟩ := b
            have ih := lkZ_run (ys := ys) H hn ht hb hi hj k (q + 1) ρ' ⟨by omega, by omega⟩ (kp.trans b2)
            have e1 : (match execs cf L body ((ρ.set i (some w)).set j (some (e2.en ys[q]))) S with
              | .next ρ2 S2 => forCZ (.tup [i, j]) (fun ρ' S' => execs cf L body ρ' S') n (ys.map e2.en) k (q + 1) ρ2 S2
              | .cont ρ2 S2 => forCZ (.tup [i, j]) (fun ρ' S' => execs cf L body ρ' S') n (ys.map e2.en) k (q + 1) ρ2 S2
              | .brk ρ2 S2 => .next ρ2 S2
              | r => r) = forCZ (.tup [i, j]) (fun ρ' S' => execs cf L body ρ' S') n (ys.map e2.en) k (q + 1) ρ' S := by
              rcases b1 with b1 | b1 <;> rw [b1]
            rw [e1]
            exact ih
          | bk u => exact b.elim
          | rt r =>
            have b : _ = _ := b
            simp only [M.bind]
            rw [b]
        | ex c =>
          rw [hg] at b
          obtain ⟨ρ', S', b⟩ := b
          exact ⟨ρ', S', by rw [b]⟩
        | bad => trivial
      · rw [List.drop_eq_nil_of_le hy, List.zip_nil_right]
        refine ⟨ρ, ?_, hk⟩
        rw [forCZ]
        have gy : (ys.map e2.en)[q]? = none := List.getElem?_eq_none_iff.mpr (by rw [List.length_map]; omega)
        simp only [hn, g1, gy]
    · rw [List.drop_eq_nil_of_le hq, List.zip_nil_left]
      refine ⟨ρ, ?_, hk⟩
      rw [forCZ]
      have : ws[q]? = none := List.getElem?_eq_none_iff.mpr (by omega)
      simp only [hn, this]
theorem st_lookZ {i j : Nat} {et : Et α} {e2 : En β} {m : M (List α)} {m2 : M (List β)} {body : List Stm} {gb : α → β → M (Fl Unit τ)} {e : En τ} {k : M ω} {inj : τ → ω} {fl : Bool} (hL : LIM ≤ L) (h : Rd cf A a m (pT (cL et))) (h' : Rd cf A b m2 (pE (eL e2)))
    (hb : ∀ x y, Lk cf L (Sl.put (Sl.put A i (.s et x)) j (.s (eV e2) y)) A body (gb x y) e) (hi : Sl.get A i = .no) (hj : Sl.get A j = .no)
    (hr : ∀ r, J (inj r) = .rt fl ((eV e).tr r) []) (hk : St cf L A ss k J) :
    St cf L A (.forZ (.tup [i, j]) [a, b] body :: ss) ((m.bind fun xs => m2.bind fun ys => M.chk (decide (xs.length < LIM)) (M.foldF (fun _ (p : α × β) => gb p.1 p.2) () (List.zip xs ys))).bind fun z => z.elim (fun _ => k) fun r => .ok (inj r)) J := by
  refine st_ofF (B := fun _ => A) (tr := (eV e).tr) (Ar := fun _ => []) (fl := fl) (fun ρ S F H N => ?_) hr fun _ => hk
  have k0 := h ρ S F H
  have k1 := h' ρ S F H
  cases m with
  | ok xs =>
    obtain ⟨w, g1, f, n, ws, f', rfl, rfl, g2, g3⟩ := k0
    cases m2 with
    | ok ys =>
      obtain ⟨u, g4, rfl⟩ := k1
      simp only [M.bind]
      cases hl : decide (xs.length < LIM) with
      | false => trivial
      | true =>
        have hl := of_decide_eq_true hl
        simp only [M.chk_true]
        have q := lkZ_run (ys := ys) H g2 g3 hb hi hj L 0 ρ ⟨Nat.zero_le _, by omega⟩ (Kp.refl A ρ)
        rw [List.drop_zero, List.drop_zero] at q
        have e1 : exec cf L (.forZ (.tup [i, j]) [a, b] body) ρ S = forCZ (.tup [i, j]) (fun ρ' S' => execs cf L body ρ' S') n (ys.map e2.en) L 0 ρ S := by
          rw [exec]
          simp only [evs, g1, g4, Rs.bind]
          rfl
        rw [e1]
        have q' : match M.foldF (fun _ (p : α × β) => gb p.1 p.2) () (List.zip xs ys) with
          | .ok (.nx _) => ∃ ρ', forCZ (.tup [i, j]) (fun ρ' S' => execs cf L body ρ' S') n (ys.map e2.en) L 0 ρ S = .next ρ' S ∧ Kp A ρ ρ'
          | .ok (.bk _) => False
          | .ok (.rt r) => forCZ (.tup [i, j]) (fun ρ' S' => execs cf L body ρ' S') n (ys.map e2.en) L 0 ρ S = .ret (e.en r) S
          | .ex c => ∃ ρ' S', forCZ (.tup [i, j]) (fun ρ' S' => execs cf L body ρ' S') n (ys.map e2.en) L 0 ρ S = .ex ρ' c S'
          | .bad => True := q
        cases hm : M.foldF (fun _ (p : α × β) => gb p.1 p.2) () (List.zip xs ys) with
        | ok z =>
          rw [hm] at q'
          cases z with
          | nx s =>
            obtain ⟨ρ', q1, q2⟩ := q'
            exact ⟨ρ', S, q1, F, hd_env H q2.1 q2.2, N, Fr.refl⟩
          | bk s => exact q'.elim
          | rt r =>
            have q' : _ = _ := q'
            exact ⟨e.en r, S, [], [], ρ, .inl q', ⟨rfl, e.rf r, rfl⟩, rfl, by simp, by exact Fr.sub fun n hn => by simp at hn⟩
        | ex c => rw [hm] at q'; exact q'
        | bad => trivial
    | ex c =>
      exact ⟨ρ, S, by rw [exec]; simp only [evs, g1, Rs.bind]; rw [show _ = _ from k1]; rfl⟩
    | bad => trivial
  | ex c =>
    exact ⟨ρ, S, by rw [exec]; simp only [evs]; rw [show _ = _ from k0]; rfl⟩
  | bad => trivial
theorem ee_madopt {m0 : M β} {m : M ω'} {g : β → ω' → M (List α)} {f k : Nat} {en : En α} {e0 : En β} {us : ω' → List W} {v : Bool} (h0 : Rd cf A a m0 (pE e0)) (h : Rv cf A as m us v) (hf : ∀ b x, Fk cf f (e0.en b :: us x) (g b x) (cL (eV en))) (hr : ∀ S x, ∃ xs, recOf S (e0.en x) = some (k, xs)) (hs : (en.lf || v) = true := by rfl) : Ee cf A (.mcall .adopt k f a as) (m0.bind fun b => m.bind fun x => g b x) (cL (eV en)) id fun _ => A := by
  intro ρ S F H N
  have k1 := h0 ρ S F H
  have k := h ρ S F H
  cases m0 with
  | ok b =>
    obtain ⟨w0, p1, rfl⟩ := k1
    obtain ⟨xs0, p2⟩ := hr S b
    simp only [M.bind]
    cases m with
    | ok x =>
      obtain ⟨ws, h1, h2, h3⟩ := k
      have hu : vws S (e0.en b :: ws) = some (e0.en b :: us x) := by
        simp only [vws, subL]
        rw [show sub false (lev false S 3) (e0.en b) = some (e0.en b) from sub_id (e0.rf b), show subL false (lev false S 3) ws = _ from h2]
        rfl
      have k2 := hf b x
      simp only
      cases hg : g b x with
      | ok xs =>
        rw [hg] at k2
        obtain ⟨w, S', fr, g1, ⟨n, us', f', rfl, rfl, g2, g3⟩, _⟩ := k2
        obtain ⟨rfl, rfl⟩ := trs_vals en g3
        obtain ⟨q1, q2, q3⟩ := nw_cell H N (.lst (xs.map en.en))
        refine ⟨.ref S.length, _, [S.length], F, ?_, ⟨S.length, xs.map en.en, [], rfl, rfl, by simp, vals_trs en xs⟩, q1, q2, q3⟩
        rw [s_mcall, p1, s_bind, p2]
        simp only [if_true]
        rw [h1, s_bind]
        simp only [callSem, hu, g1, g2]
        have e1 : ∀ T : Sto, vws T (xs.map en.en) = some (xs.map en.en) := fun T => vws_id (rfL_map en xs)
        have e3 : rfreeL (e0.en b :: ws) = rfreeL ws := by simp [rfreeL, e0.rf b]
        rw [e3]
        by_cases hr : rfreeL ws = true
        · rw [if_pos hr, e1]
        · rw [if_neg hr]
          have hl : en.lf = true := by
            cases v with
            | true => exact absurd (h3 rfl) hr
            | false => simpa using hs
          rw [subL_lf (lfreeL_map (en.hl hl) xs)]
      | ex c =>
        rw [hg] at k2
        obtain ⟨S', g1⟩ := k2
        refine ⟨S, ?_⟩
        rw [s_mcall, p1, s_bind, p2]
        simp only [if_true]
        rw [h1, s_bind]
        simp only [callSem, hu, g1]
      | bad => trivial
    | ex c =>
      refine ⟨S, ?_⟩
      rw [s_mcall, p1, s_bind, p2]
      simp only [if_true]
      rw [show _ = _ from k]
      rfl
    | bad => trivial
  | ex c => exact ⟨S, by rw [s_mcall, show _ = _ from k1]; rfl⟩
  | bad => trivial
theorem it_zipH {x : En α} {y : En β} {m : M (List α)} {m' : M (List β)} (h : Rd cf A a m (pE (eT x))) (h' : Rd cf A b m' (pE (eT y))) : It cf A .zip [a, b] (m.bind fun xs => m'.bind fun ys => .ok (xs.zip ys)) (e2 x y) := it_2 (by
  rintro S p q w v rfl rfl
  show itVals .zip [.tup (p.map x.en), .tup (q.map y.en)] = _
  simp only [itVals]
  rw [zipT_map]) h h'
end
end Tw

namespace TwL
open Tw PySem PySem.Spec PyProof.Rows L2
def topS (i : Nat) : PySem.Stmt := PySem.Challenge.pw_tieword_k02_between_and_near.main.body.getD i (.Pass ⟨0, 0, 0, 0⟩)
def f12 : List Stm := [
  .ret (.and [(.op (.isi .int) [(.var 0)]), (.not (.op (.isi .bool) [(.var 0)]))])]
def f16 : List Stm := [
  .ite (.or [(.op .lt [(.op .len [(.var 1)]), (.con (.int 1))]), (.op .gt [(.op .len [(.var 1)]), (.con (.int 7))]), (.op .gt [(.op .len [(.var 2)]), (.con (.int 12))])]) [
    .rais 11] [],
  .forIn (.one 3) .list [(.var 1)] [
    .ite (.not (.call .pure 19 [(.var 3)])) [
      .rais 12] [],
    .wipe [3]],
  .forIn (.one 4) .list [(.var 2)] [
    .ite (.not (.call .pure 18 [(.op .len [(.var 1)]), (.var 4)])) [
      .rais 13] [],
    .wipe [4]],
  .setF 0 0 (.mut (.op .list [(.var 1)])) (.var 0),
  .setF 0 1 (.mut (.op .sorted [(.comp (.call .pure 20 [(.var 4)]) (.one 4) .list [(.var 2)] [] [4])])) (.var 0),
  .setF 0 2 (.call .move 17 [(.fld 0 1 (.var 0))]) (.var 0)]
def f17 : List Stm := [
  .asg (.one 1) (.mut (.op (.dicD true) [])),
  .forIn (.tup [3, 4, 5, 6]) .list [(.var 0)] [
    .asg (.one 7) (.eff .setd (.var 1) [(.op .tupD [(.var 3), (.var 4)]), (.mut (.op .lstD []))]),
    .asg (.one 8) (.eff .setd (.var 1) [(.op .tupD [(.var 4), (.var 3)]), (.mut (.op .lstD []))]),
    .ite (.var 6) [
      .expr (.eff .append (.var 7) [(.op .tupD [(.var 5), (.con (.int 1))])]),
      .expr (.eff .append (.var 8) [(.op .tupD [(.var 5), (.con (.int 2))])])] [
      .expr (.eff .append (.var 7) [(.op .tupD [(.var 5), (.con (.int 0))])]),
      .expr (.eff .append (.var 8) [(.op .tupD [(.var 5), (.con (.int 0))])])],
    .wipe [3, 4, 5, 6, 7, 8]],
  .asg (.one 2) (.mut (.op (.dicD true) [])),
  .forD (.tup [9, 10]) true (.var 1) [
    .setI (.op .tuple [(.op .sorted [(.var 10)])]) (.var 2) (.var 9),
    .wipe [9, 10]],
  .ret (.var 2)]
def f18 : List Stm := [
  .asg (.tup [2, 3, 4]) (.op .tupD [(.op .idx [(.var 1), (.con (.int 0))]), (.op .idx [(.var 1), (.con (.int 1))]), (.op .idx [(.var 1), (.con (.int 2))])]),
  .ite (.or [(.op .eq [(.var 2), (.var 3)]), (.not (.chain .le .lt (.con (.int 0)) (.var 2) (.var 0))), (.not (.chain .le .lt (.con (.int 0)) (.var 3) (.var 0)))]) [
    .ret (.con (.bl false))] [],
  .ret (.chain .le .lt (.con (.int 0)) (.var 4) (.op .pow [(.con (.int 10)), (.con (.int 30))]))]
def f19 : List Stm := [
  .ite (.or [(.op .lt [(.op .len [(.var 0)]), (.con (.int 1))]), (.op .gt [(.op .len [(.var 0)]), (.con (.int 3))])]) [
    .ret (.con (.bl false))] [],
  .forIn (.one 1) .str [(.var 0)] [
    .ite (.op .notin [(.var 1), (.con (.str [97, 98, 99, 100, 101, 102, 103, 104, 105, 106, 107, 108, 109, 110, 111, 112, 113, 114, 115, 116, 117, 118, 119, 120, 121, 122]))]) [
      .ret (.con (.bl false))] [],
    .wipe [1]],
  .ret (.con (.bl true))]
def f20 : List Stm := [
  .ite (.and [(.not (.op .idx [(.var 0), (.con (.int 3))])), (.op .gt [(.op .idx [(.var 0), (.con (.int 0))]), (.op .idx [(.var 0), (.con (.int 1))])])]) [
    .ret (.op .tupD [(.op .idx [(.var 0), (.con (.int 1))]), (.op .idx [(.var 0), (.con (.int 0))]), (.op .idx [(.var 0), (.con (.int 2))]), (.op .idx [(.var 0), (.con (.int 3))])])] [],
  .ret (.var 0)]
def f24 : List Stm := [
  .asg (.one 2) (.op .mod [(.op .mul [(.op .add [(.op .add [(.op .mod [(.var 0), (.con (.int 2147483647))]), (.con (.int 1))]), (.op .mul [(.op .mul [(.con (.int 7919)), (.var 1)]), (.var 1)])]), (.con (.int 48271))]), (.con (.int 2147483629))]),
  .ret (.op .mod [(.op .mul [(.var 2), (.var 2)]), (.con (.int 998244353))])]
def f26 : List Stm := [
  .asg (.one 2) (.con (.str [97, 98, 99, 100, 101, 102, 103, 104, 105, 106, 107, 108, 109, 110, 111, 112, 113, 114, 115, 116, 117, 118, 119, 120, 121, 122])),
  .asg (.one 3) (.mth .str .mJoin (.con (.str [])) [(.comp (.op .idx [(.var 2), (.op .mod [(.op .add [(.op .fdiv [(.var 0), (.con (.int 9))]), (.op .mul [(.con (.int 7)), (.var 7)])]), (.con (.int 26))])]) (.one 7) .range1 [(.con (.int 3))] [] [7])]),
  .asg (.one 4) (.op .add [(.con (.int 1)), (.op .mod [(.var 0), (.con (.int 3))])]),
  .ite (.op .eq [(.op .mod [(.op .fdiv [(.var 0), (.con (.int 3))]), (.con (.int 4))]), (.con (.int 0))]) [
    .ret (.op (.slice false true) [(.var 3), (.toI (.op .add [(.con (.int 1)), (.op .mod [(.var 1), (.con (.int 3))])]))])] [],
  .asg (.one 5) (.op .mod [(.op .fdiv [(.var 0), (.con (.int 3))]), (.var 4)]),
  .asg (.one 6) (.op .idx [(.var 2), (.op .mod [(.op .add [(.op .add [(.op .fdiv [(.var 0), (.con (.int 9))]), (.op .mul [(.con (.int 7)), (.var 5)])]), (.var 1)]), (.con (.int 26))])]),
  .ret (.op .add [(.op .add [(.op (.slice false true) [(.var 3), (.toI (.var 5))]), (.var 6)]), (.op (.slice true true) [(.var 3), (.toI (.op .add [(.var 5), (.con (.int 1))])), (.toI (.var 4))])])]
def f28 : List Stm := [
  .asg (.one 2) (.op .mod [(.op .mul [(.op .add [(.var 1), (.con (.int 1))]), (.con (.int 618033988749894848204586834367))]), (.op .pow [(.con (.int 10)), (.con (.int 30))])]),
  .asg (.one 3) (.op .mod [(.call .pure 24 [(.var 0), (.con (.int 3))]), (.con (.int 5))]),
  .ite (.op .eq [(.var 3), (.con (.int 4))]) [
    .ret (.op .mod [(.var 0), (.op .pow [(.con (.int 10)), (.con (.int 30))])])] [],
  .ret (.op .idx [(.op .lstD [(.var 2), (.var 2), (.op .mod [(.op .add [(.var 2), (.con (.int 1))]), (.op .pow [(.con (.int 10)), (.con (.int 30))])]), (.con (.int 0))]), (.var 3)])]
def f29 : List Stm := [
  .ret (.mut (.op (.slice false true) [(.op .add [(.op (.slice true true) [(.var 0), (.toI (.var 1)), (.toI (.op .add [(.var 1), (.var 2)]))]), (.op .lstD [(.op .add [(.var 1), (.con (.int 1))]), (.con (.int 5)), (.con (.int 2)), (.con (.int 9)), (.con (.int 4)), (.con (.int 7)), (.con (.int 1)), (.con (.int 8)), (.con (.int 3)), (.con (.int 6)), (.con (.int 0)), (.con (.int 11)), (.con (.int 13)), (.con (.int 12)), (.con (.int 10)), (.con (.int 14))])]), (.toI (.var 2))]))]
def f31 : List Stm := [
  .asg (.one 2) (.mut (.op (.dicD true) [])),
  .forIn (.one 3) .range1 [(.var 0)] [
    .forIn (.one 4) .range1 [(.var 0)] [
      .asg (.one 5) (.mut (.op .lstD [])),
      .forIn (.tup [6, 7, 8, 9]) .list [(.var 1)] [
        .ite (.op .eq [(.op .tupD [(.var 6), (.var 7)]), (.op .tupD [(.var 3), (.var 4)])]) [
          .expr (.eff .append (.var 5) [(.op .tupD [(.var 8), (.op .int [(.var 9)])])])] [],
        .ite (.op .eq [(.op .tupD [(.var 7), (.var 6)]), (.op .tupD [(.var 3), (.var 4)])]) [
          .expr (.eff .append (.var 5) [(.op .tupD [(.var 8), (.op .mul [(.con (.int 2)), (.op .int [(.var 9)])])])])] [],
        .wipe [6, 7, 8, 9]],
      .setI (.op .tuple [(.op .sorted [(.var 5)])]) (.var 2) (.op .tupD [(.var 3), (.var 4)]),
      .wipe [4, 5, 6, 7, 8, 9]],
    .wipe [3, 4, 5, 6, 7, 8, 9]],
  .ret (.var 2)]
def f32 : List Stm := [
  .asg (.one 3) (.call .pure 33 [(.var 1), (.var 2)]),
  .asg (.one 4) (.op .mod [(.op .mul [(.op .add [(.var 1), (.con (.int 1))]), (.con (.int 618033988749894848204586834367))]), (.op .pow [(.con (.int 10)), (.con (.int 30))])]),
  .asg (.one 5) (.mut (.comp (.op .tupD [(.op .idx [(.var 3), (.var 11)]), (.op .idx [(.var 3), (.var 12)]), (.var 4), (.op .eq [(.op .mod [(.op .fdiv [(.var 1), (.con (.int 6))]), (.con (.int 2))]), (.con (.int 1))])]) (.tup [11, 12]) .list [(.call .pure 34 [(.var 1), (.var 2)])] [] [11, 12])),
  .forIn (.one 6) .list [(.var 0)] [
    .asg (.one 9) (.call .pure 24 [(.var 6), (.con (.int 8))]),
    .ite (.and [(.op .gt [(.var 2), (.con (.int 1))]), (.op .lt [(.op .len [(.var 5)]), (.con (.int 12))]), (.or [(.op .eq [(.op .mod [(.var 1), (.con (.int 6))]), (.con (.int 0))]), (.op .eq [(.op .mod [(.var 9), (.con (.int 6))]), (.con (.int 0))])])]) [
      .asg (.one 11) (.op .mod [(.op .fdiv [(.var 9), (.con (.int 6))]), (.var 2)]),
      .asg (.one 12) (.op .mod [(.op .add [(.op .add [(.var 11), (.con (.int 1))]), (.op .mod [(.op .fdiv [(.var 9), (.con (.int 60))]), (.op .sub [(.var 2), (.con (.int 1))])])]), (.var 2)]),
      .expr (.eff .append (.var 5) [(.op .tupD [(.var 11), (.var 12), (.call .pure 28 [(.var 6), (.var 1)]), (.op .eq [(.op .mod [(.op .fdiv [(.var 9), (.con (.int 7))]), (.con (.int 3))]), (.con (.int 0))])])]),
      .ite (.and [(.op .eq [(.op .mod [(.op .fdiv [(.var 9), (.con (.int 21))]), (.con (.int 5))]), (.con (.int 0))]), (.op .lt [(.op .len [(.var 5)]), (.con (.int 12))])]) [
        .expr (.eff .append (.var 5) [(.op .idx [(.var 5), (.op .neg [(.con (.int 1))])])])] []] [],
    .wipe [6, 9, 11, 12]],
  .asg (.one 7) (.mut (.op .lstD [])),
  .forIn (.one 8) .range1 [(.var 2)] [
    .asg (.one 10) (.con (.int 0)),
    .ite (.op .eq [(.op .mod [(.op .fdiv [(.var 1), (.con (.int 12))]), (.con (.int 2))]), (.con (.int 1))]) [
      .asg (.one 10) (.op .mod [(.call .pure 24 [(.op .idx [(.var 0), (.op .mod [(.var 8), (.op .len [(.var 0)])])]), (.op .add [(.con (.int 20)), (.var 8)])]), (.con (.int 3))])] [],
    .expr (.eff .append (.var 7) [(.call .pure 26 [(.var 1), (.var 10)])]),
    .wipe [8, 10]],
  .ret (.op .tupD [(.var 7), (.var 5)])]
def f33 : List Stm := [
  .asg (.one 2) (.mut (.op (.rangeL false false) [(.var 1)])),
  .asg (.one 3) (.mut (.op .lstD [])),
  .whil (.op .gt [(.op .len [(.var 2)]), (.con (.int 0))]) [
    .expr (.eff .append (.var 3) [(.eff .pop1 (.var 2) [(.op .mod [(.call .pure 24 [(.var 0), (.op .add [(.con (.int 50)), (.op .len [(.var 2)])])]), (.op .len [(.var 2)])])])])],
  .ret (.var 3)]
def f34 : List Stm := [
  .asg (.one 2) (.op .mod [(.var 0), (.con (.int 6))]),
  .asg (.one 3) (.op .fdiv [(.var 1), (.con (.int 2))]),
  .ite (.and [(.op .eq [(.var 2), (.con (.int 1))]), (.op .gt [(.var 1), (.con (.int 1))])]) [
    .ret (.mut (.comp (.op .tupD [(.var 5), (.op .mod [(.op .add [(.var 5), (.con (.int 1))]), (.var 1)])]) (.one 5) .range1 [(.var 1)] [] [5]))] [],
  .ite (.op .eq [(.var 2), (.con (.int 2))]) [
    .ret (.mut (.comp (.op .tupD [(.con (.int 0)), (.var 5)]) (.one 5) .range2 [(.con (.int 1)), (.var 1)] [] [5]))] [],
  .ite (.op .eq [(.var 2), (.con (.int 3))]) [
    .ret (.mut (.op .add [(.comp (.op .tupD [(.var 5), (.op .add [(.var 5), (.con (.int 1))])]) (.one 5) .range1 [(.op .sub [(.var 3), (.con (.int 1))])] [] [5]), (.comp (.op .tupD [(.var 5), (.op .add [(.var 5), (.con (.int 1))])]) (.one 5) .range2 [(.var 3), (.op .sub [(.op .mul [(.con (.int 2)), (.var 3)]), (.con (.int 1))])] [] [5])]))] [],
  .asg (.one 4) (.mut (.op .lstD [])),
  .ite (.and [(.op .eq [(.var 2), (.con (.int 4))]), (.op .lt [(.var 1), (.con (.int 6))])]) [
    .forIn (.one 5) .range1 [(.var 1)] [
      .expr (.eff .extend (.var 4) [(.comp (.op .tupD [(.var 6), (.var 5)]) (.one 6) .range1 [(.var 5)] [] [6])]),
      .wipe [5]]] [],
  .ret (.var 4)]
def f36 : List Stm := [
  .ret (.mth .dict .mGet2 (.fld 0 2 (.var 0)) [(.op .tupD [(.var 1), (.var 2)]), (.op .tupD [])])]
def f38 : List Stm := [
  .ret (.mut (.comp (.var 2) (.one 2) .range1 [(.op .len [(.fld 0 0 (.var 0))])] [(.op .isin [(.op .tupD [(.var 1), (.var 2)]), (.fld 0 2 (.var 0))])] [2]))]
def f39 : List Stm := [
  .ite (.or [(.not (.op (.isi .tuple) [(.var 0)])), (.op .ne [(.op .len [(.var 0)]), (.op .len [(.var 1)])])]) [
    .ret (.con (.bl false))] [],
  .forIn (.tup [2, 3]) .zip [(.var 0), (.var 1)] [
    .ite (.or [(.not (.op (.isi .tuple) [(.var 2)])), (.op .ne [(.op .len [(.var 2)]), (.con (.int 2))]), (.op .ne [(.var 2), (.var 3)])]) [
      .ret (.con (.bl false))] [],
    .ite (.or [(.not (.call .pure 12 [(.op .idx [(.var 2), (.con (.int 0))])])), (.not (.call .pure 12 [(.op .idx [(.var 2), (.con (.int 1))])]))]) [
      .ret (.con (.bl false))] [],
    .wipe [2, 3]],
  .ret (.con (.bl true))]
def f683 : List Stm := [
  .asg (.one 4) (.mcall .adopt 0 38 (.var 0) [(.var 3)]),
  .asg (.one 5) (.comp (.var 8) (.one 8) .range1 [(.var 2)] [(.and [(.op .ne [(.var 8), (.var 3)]), (.op .ne [(.op .idx [(.var 1), (.op .tupD [(.var 3), (.var 8)])]), (.op .tupD [])])])] [8]),
  .ite (.or [(.not (.op (.isi .list) [(.var 4)])), (.op .ne [(.op .len [(.var 4)]), (.op .len [(.var 5)])])]) [
    .ret (.con (.bl false))] [],
  .forZ (.tup [6, 7]) [(.var 4), (.var 5)] [
    .ite (.or [(.not (.call .pure 12 [(.var 6)])), (.op .ne [(.var 6), (.var 7)])]) [
      .ret (.con (.bl false))] [],
    .wipe [6, 7]],
  .expr (.eff .append (.var 4) [(.var 3)]),
  .ret (.con (.bl true))]
def f684 : List Stm := [
  .forIn (.one 4) .list [(.var 3)] [
    .ite (.not (.call .pure 683 [(.var 0), (.var 1), (.var 2), (.var 4)])) [
      .ret (.con (.bl false))] [],
    .forIn (.one 5) .list [(.var 3)] [
      .ite (.op .ne [(.var 4), (.var 5)]) [
        .asg (.one 6) (.mcall .pure 0 36 (.var 0) [(.var 4), (.var 5)]),
        .ite (.not (.call .pure 39 [(.var 6), (.op .idx [(.var 1), (.op .tupD [(.var 4), (.var 5)])])])) [
          .ret (.con (.bl false))] []] [],
      .wipe [5, 6]],
    .wipe [4, 5, 6]],
  .ret (.con (.bl true))]
def f685 : List Stm := [
  .asg (.one 1) (.mut (.op .lstD [])),
  .forIn (.one 2) .range3 [(.con (.int 0)), (.op .max [(.con (.int 1)), (.op .len [(.var 0)])]), (.con (.int 14))] [
    .asg (.one 3) (.call .pure 29 [(.var 0), (.var 2), (.con (.int 14))]),
    .asg (.one 4) (.call .pure 24 [(.op .idx [(.var 3), (.con (.int 0))]), (.con (.int 1))]),
    .asg (.tup [8, 9]) (.call .pure 32 [(.op (.slice true false) [(.var 3), (.toI (.con (.int 1)))]), (.var 4), (.op .add [(.con (.int 1)), (.op .mod [(.call .pure 24 [(.op .idx [(.var 3), (.con (.int 0))]), (.con (.int 2))]), (.con (.int 7))])])]),
    .expr (.eff .append (.var 1) [(.op .tupD [(.new .pure 0 16 [(.var 8), (.var 9)]), (.call .pure 31 [(.op .len [(.var 8)]), (.var 9)]), (.op .len [(.var 8)])])]),
    .wipe [2, 3, 4, 8, 9]],
  .frz 1,
  .forIn (.tup [5, 6, 7]) .list [(.var 1)] [
    .ite (.not (.call .pure 684 [(.var 5), (.var 6), (.var 7), (.op (.rangeL false false) [(.var 7)])])) [
      .ret (.con (.bl false))] [],
    .wipe [5, 6, 7]],
  .forIn (.tup [5, 6, 7]) .list [(.op .listRev [(.var 1)])] [
    .ite (.not (.call .pure 684 [(.var 5), (.var 6), (.var 7), (.op .listRevR [(.var 7)])])) [
      .ret (.con (.bl false))] [],
    .wipe [5, 6, 7]],
  .ret (.con (.bl true))]
def d12 : DefI := ⟨"_law_whole", "_law_whole", none, ["_law_found"], 1, topS 17, f12⟩
def d16 : DefI := ⟨"__init__", "Web.__init__", some 0, ["self", "kinds", "ties", "kind", "tie"], 3, inCls (topS 13) 0, f16⟩
def d17 : DefI := ⟨"pairs_between", "pairs_between", none, ["ties", "found", "told", "one", "other", "kind", "oneway", "there", "back", "ends", "pairs"], 1, topS 12, f17⟩
def d18 : DefI := ⟨"is_tie", "is_tie", none, ["size", "tie", "one", "other", "kind"], 2, topS 10, f18⟩
def d19 : DefI := ⟨"is_word", "is_word", none, ["kind", "sign"], 1, topS 9, f19⟩
def d20 : DefI := ⟨"plain_tie", "plain_tie", none, ["tie"], 1, topS 11, f20⟩
def d24 : DefI := ⟨"_law_mix", "_law_mix", none, ["_law_cell", "_law_k", "_law_seed"], 2, topS 16, f24⟩
def d26 : DefI := ⟨"_law_word", "_law_word", none, ["_law_seed", "_law_which", "_law_letters", "_law_base", "_law_size", "_law_place", "_law_sign", "_law_k"], 2, topS 18, f26⟩
def d28 : DefI := ⟨"_law_kind", "_law_kind", none, ["_law_cell", "_law_seed", "_law_far", "_law_how"], 2, topS 19, f28⟩
def d29 : DefI := ⟨"_law_cells", "_law_cells", none, ["_law_script", "_law_at", "_law_many"], 3, topS 15, f29⟩
def d31 : DefI := ⟨"_law_table", "_law_table", none, ["_law_many", "_law_ties", "_law_table_here", "_law_i", "_law_j", "_law_found", "_law_one", "_law_other", "_law_kind_here", "_law_oneway"], 2, topS 23, f31⟩
def d32 : DefI := ⟨"_law_web", "_law_web", none, ["_law_cells_here", "_law_seed", "_law_many", "_law_order", "_law_far", "_law_ties", "_law_cell", "_law_kinds", "_law_k", "_law_draw", "_law_which", "_law_one", "_law_other"], 3, topS 22, f32⟩
def d33 : DefI := ⟨"_law_shuffled", "_law_shuffled", none, ["_law_seed", "_law_many", "_law_rest", "_law_order"], 2, topS 20, f33⟩
def d34 : DefI := ⟨"_law_family", "_law_family", none, ["_law_seed", "_law_many", "_law_how", "_law_half", "_law_ends", "_law_k", "_law_j"], 2, topS 21, f34⟩
def d36 : DefI := ⟨"between", "Web.between", some 0, ["self", "one", "other"], 3, inCls (topS 13) 2, f36⟩
def d38 : DefI := ⟨"near", "Web.near", some 0, ["self", "place", "other"], 2, inCls (topS 13) 3, f38⟩
def d39 : DefI := ⟨"_law_pairs_are", "_law_pairs_are", none, ["_law_found", "_law_due", "_law_one", "_law_want"], 2, topS 24, f39⟩
def d683 : DefI := ⟨"_law_near_is", "_law_near_is", none, ["_law_web_here", "_law_table_here", "_law_many", "_law_place", "_law_found", "_law_due", "_law_one", "_law_want", "_law_other"], 4, topS 25, f683⟩
def d684 : DefI := ⟨"_law_told", "_law_told", none, ["_law_web_here", "_law_table_here", "_law_many", "_law_places", "_law_one", "_law_other", "_law_found"], 4, topS 26, f684⟩
def d685 : DefI := ⟨"law", "law", none, ["_law_script", "_law_held", "_law_at", "_law_cells_here", "_law_seed", "_law_web_here", "_law_table_here", "_law_many", "_law_kinds", "_law_ties"], 1, topS 27, f685⟩
def DD : List (Nat × DefI) := [(12, d12), (16, d16), (17, d17), (18, d18), (19, d19), (20, d20), (24, d24), (26, d26), (28, d28), (29, d29), (31, d31), (32, d32), (33, d33), (34, d34), (36, d36), (38, d38), (39, d39), (683, d683), (684, d684), (685, d685)]
def TX : Tx := ⟨("_law_whole", 12, 1) :: ("pairs_between", 17, 1) :: ("is_tie", 18, 2) :: ("is_word", 19, 1) :: ("plain_tie", 20, 1) :: ("_law_mix", 24, 2) :: ("_law_word", 26, 2) :: ("_law_kind", 28, 2) :: ("_law_cells", 29, 3) :: ("_law_table", 31, 2) :: ("_law_web", 32, 3) :: ("_law_shuffled", 33, 2) :: ("_law_family", 34, 2) :: ("_law_pairs_are", 39, 2) :: ("_law_near_is", 683, 4) :: ("_law_told", 684, 4) :: ("law", 685, 1) :: [], [("LETTERS", (.str [97, 98, 99, 100, 101, 102, 103, 104, 105, 106, 107, 108, 109, 110, 111, 112, 113, 114, 115, 116, 117, 118, 119, 120, 121, 122])), ("MOST_PLACES", (.int 7)), ("MOST_TIES", (.int 12))], [⟨"Web", 0, 16, 3, ["kinds", "ties", "links"]⟩], [(0, "between", 36, 3), (0, "near", 38, 2)], [("TooGreat", 11), ("BadPlace", 12), ("BadTie", 13)]⟩
def lib : Nat → Option Fn := prg DD
theorem lib_12 : lib 12 = some ⟨1, 1, f12⟩ := rfl
theorem lib_16 : lib 16 = some ⟨3, 5, f16⟩ := rfl
theorem lib_17 : lib 17 = some ⟨1, 11, f17⟩ := rfl
theorem lib_18 : lib 18 = some ⟨2, 5, f18⟩ := rfl
theorem lib_19 : lib 19 = some ⟨1, 2, f19⟩ := rfl
theorem lib_20 : lib 20 = some ⟨1, 1, f20⟩ := rfl
theorem lib_24 : lib 24 = some ⟨2, 3, f24⟩ := rfl
theorem lib_26 : lib 26 = some ⟨2, 8, f26⟩ := rfl
theorem lib_28 : lib 28 = some ⟨2, 4, f28⟩ := rfl
theorem lib_29 : lib 29 = some ⟨3, 3, f29⟩ := rfl
theorem lib_31 : lib 31 = some ⟨2, 10, f31⟩ := rfl
theorem lib_32 : lib 32 = some ⟨3, 13, f32⟩ := rfl
theorem lib_33 : lib 33 = some ⟨2, 4, f33⟩ := rfl
theorem lib_34 : lib 34 = some ⟨2, 7, f34⟩ := rfl
theorem lib_36 : lib 36 = some ⟨3, 3, f36⟩ := rfl
theorem lib_38 : lib 38 = some ⟨2, 3, f38⟩ := rfl
theorem lib_39 : lib 39 = some ⟨2, 4, f39⟩ := rfl
theorem lib_683 : lib 683 = some ⟨4, 9, f683⟩ := rfl
theorem lib_684 : lib 684 = some ⟨4, 7, f684⟩ := rfl
theorem lib_685 : lib 685 = some ⟨1, 10, f685⟩ := rfl
end TwL

namespace TwL
open Tw
abbrev R (d : Nat) : CallF := runF lib LM d
theorem run {d f : Nat} {ws : List W} {S : Sto} {x : Fn} (h : lib f = some x) (hl : ws.length = x.np) : R (d + 1) f ws S = fin (execs (R d) LM x.body (ws.map some ++ List.replicate (x.ns - x.np) none) S) := runF_fin h hl
def letter (c : Nat) : Bool := decide (97 ≤ c) && decide (c ≤ 122)
def isWord (s : List Nat) : Bool := decide (1 ≤ s.length) && decide (s.length ≤ 3) && s.all letter
abbrev Tie := Int × Int × Int × Bool
def encT (t : Tie) : W := .tup [.int t.1, .int t.2.1, .int t.2.2.1, .bl t.2.2.2]
def isTie (n : Int) (t : Tie) : Bool := !decide (t.1 = t.2.1) && (decide (0 ≤ t.1) && decide (t.1 < n)) && (decide (0 ≤ t.2.1) && decide (t.2.1 < n)) && (decide (0 ≤ t.2.2.1) && decide (t.2.2.1 < 10 ^ 30))
def plainT (t : Tie) : Tie := if !t.2.2.2 && decide (t.2.1 < t.1) then (t.2.1, t.1, t.2.2.1, t.2.2.2) else t
theorem r_plain {d : Nat} {t : Tie} {S : Sto} : R (d + 1) 20 [encT t] S = .ok (encT (plainT t)) S := by
  rw [run lib_20 rfl]
  obtain ⟨a, b, k, o⟩ := t
  cases o <;> by_cases h : b < a <;> simp [idxSem, seqOf, Tw.ixN, LIM, lenSem, opAdd, lstOf, eqOp, ltSem, CDiv, isiOp, fldSem, recOf, tyOk, effTy, isDicM, effSem, callSem, newSem, sliceSem, f20, encT, plainT, h]
theorem r_tie {d : Nat} {n : Int} {t : Tie} {S : Sto} : R (d + 1) 18 [.int n, encT t] S = .ok (.bl (isTie n t)) S := by
  rw [run lib_18 rfl]
  obtain ⟨a, b, k, o⟩ := t
  simp [idxSem, seqOf, Tw.ixN, LIM, lenSem, opAdd, lstOf, eqOp, ltSem, CDiv, isiOp, fldSem, recOf, tyOk, effTy, isDicM, effSem, callSem, newSem, sliceSem, f18, encT, isTie, CPow]
  by_cases h1 : a = b <;> by_cases h2 : 0 ≤ a <;> by_cases h3 : n ≤ a <;> by_cases h4 : 0 ≤ b <;> by_cases h5 : n ≤ b <;> by_cases h6 : 0 ≤ k <;> simp [h1, h2, h3, h4, h5, h6] <;> omega
def abc : List Nat := [97, 98, 99, 100, 101, 102, 103, 104, 105, 106, 107, 108, 109, 110, 111, 112, 113, 114, 115, 116, 117, 118, 119, 120, 121, 122]
theorem abc_letter (c : Nat) : abc.contains c = letter c := by
  unfold letter
  by_cases h : 97 ≤ c ∧ c ≤ 122
  · obtain ⟨h1, h2⟩ := h
    have : c = 97 ∨ c = 98 ∨ c = 99 ∨ c = 100 ∨ c = 101 ∨ c = 102 ∨ c = 103 ∨ c = 104 ∨ c = 105 ∨ c = 106 ∨ c = 107 ∨ c = 108 ∨ c = 109 ∨ c = 110 ∨ c = 111 ∨ c = 112 ∨ c = 113 ∨ c = 114 ∨ c = 115 ∨ c = 116 ∨ c = 117 ∨ c = 118 ∨ c = 119 ∨ c = 120 ∨ c = 121 ∨ c = 122 := by omega
    rcases this with h | h | h | h | h | h | h | h | h | h | h | h | h | h | h | h | h | h | h | h | h | h | h | h | h | h <;> subst h <;> decide
  · have e : (decide (97 ≤ c) && decide (c ≤ 122)) = false := by
      rw [Bool.and_eq_false_iff, decide_eq_false_iff_not, decide_eq_false_iff_not]
      omega
    rw [e]
    simp only [abc, List.contains_eq_any_beq, List.any_cons, List.any_nil, Bool.or_false]
    simp
    omega
theorem abc_mem (c : Nat) : (c ∈ abc) = (letter c = true) := by
  rw [← abc_letter, List.contains_eq_mem]
  simp
theorem r_word {d : Nat} {s : List Nat} {S : Sto} (hs : s.length < LIM) : R (d + 1) 19 [.str s] S = .ok (.bl (isWord s)) S := by
  rw [run lib_19 rfl]
  have e := s_for (cf := R d) (L := LM) (t := .one 1) (k := .str) (srcs := [.var 0]) (body := [.ite (.op .notin [.var 1, .con (.str abc)]) [.ret (.con (.bl false))] [], .wipe [1]]) (ρ := [some (.str s), none]) (S := S) (ws := [.str s]) (xs := s.map fun c => W.str [c]) (S1 := S) (by simp) rfl
  rw [forL_all (fun c => W.str [c]) letter (.ret (.bl false) S) (by simp) (by simp) (by simp) fun c hc => ⟨_, rfl, by cases h : letter c <;> simp [idxSem, seqOf, Tw.ixN, LIM, lenSem, opAdd, lstOf, eqOp, ltSem, CDiv, isiOp, fldSem, recOf, tyOk, effTy, isDicM, effSem, callSem, newSem, sliceSem, inOp, abc_mem, h]⟩] at e
  unfold abc at e
  have hs : s.length < 100000 := hs
  unfold isWord
  generalize s.all letter = q at e ⊢
  simp [idxSem, seqOf, Tw.ixN, LIM, lenSem, opAdd, lstOf, eqOp, ltSem, CDiv, isiOp, fldSem, recOf, tyOk, effTy, isDicM, effSem, callSem, newSem, sliceSem, f19, hs, e]
  by_cases h1 : (s.length : Int) < 1
  · rw [if_pos h1]
    have : ¬ 1 ≤ s.length := by omega
    simp [this]
  · rw [if_neg h1]
    have : 1 ≤ s.length := by omega
    by_cases h2 : 3 < (s.length : Int)
    · have h3 : ¬ s.length ≤ 3 := by omega
      simp [h2, h3]
    · have h3 : s.length ≤ 3 := by omega
      cases q <;> simp [h2, h3, this]

abbrev Ends := Int × Int
def encE (e : Ends) : W := .tup [.int e.1, .int e.2]
abbrev Found := List (Ends × List Ends)
def touch (f : Found) (e : Ends) : Found := if f.any (fun p => decide (p.1 = e)) then f else f ++ [(e, [])]
def app (f : Found) (e : Ends) (p : Ends) : Found := f.map fun x => if x.1 = e then (x.1, x.2 ++ [p]) else x
def stepF (f : Found) (t : Tie) : Found :=
  app (app (touch (touch f (t.1, t.2.1)) (t.2.1, t.1)) (t.1, t.2.1) (t.2.2.1, if t.2.2.2 then 1 else 0)) (t.2.1, t.1) (t.2.2.1, if t.2.2.2 then 2 else 0)
def foundOf (ts : List Tie) : Found := ts.foldl stepF []
theorem eqE (a b : Ends) : eqW (encE a) (encE b) = decide (a = b) := by
  obtain ⟨a1, a2⟩ := a
  obtain ⟨b1, b2⟩ := b
  rw [Bool.eq_iff_iff]
  simp [encE, eqW, eqL, Prod.ext_iff]
def okC (o : Ob) : Prop := (∃ ps : List Ends, o = .lst (ps.map encE)) ∨ ∃ (es : List Ends) (ns : List Nat), o = .dic true (es.map encE) (ns.map .ref)
structure FR (f : Found) (ns : List Nat) (S : Sto) : Prop where
  all : ∀ o ∈ S, okC o
  len : ns.length = f.length
  nd : ns.Nodup
  kd : (f.map (·.1)).Nodup
  dic : S[0]? = some (.dic true (f.map fun p => encE p.1) (ns.map .ref))
  pos : ∀ n ∈ ns, 0 < n
  cell : ∀ (i n : Nat) (p : Ends × List Ends), f[i]? = some p → ns[i]? = some n → S[n]? = some (.lst (p.2.map encE))
def AtN (f : Found) (ns : List Nat) (e : Ends) (n : Nat) : Prop := ∃ (i : Nat) (p : Ends × List Ends), f[i]? = some p ∧ p.1 = e ∧ ns[i]? = some n
theorem dget_found {f : Found} {ns : List Nat} (e : Ends) : ns.length = f.length →
    (f.any (fun p => decide (p.1 = e)) = false ∧ dget (f.map fun p => encE p.1) (ns.map W.ref) (encE e) = none) ∨ ∃ n, f.any (fun p => decide (p.1 = e)) = true ∧ dget (f.map fun p => encE p.1) (ns.map W.ref) (encE e) = some (.ref n) ∧ AtN f ns e n := by
  induction f generalizing ns with
  | nil => intro _; left; simp [dget]
  | cons p f ih =>
    intro hl
    cases ns with
    | nil => simp at hl
    | cons n ns =>
      simp only [List.map_cons, dget, eqE, List.any_cons]
      by_cases h : p.1 = e
      · right
        exact ⟨n, by simp [h], by simp [h], 0, p, rfl, h, rfl⟩
      · simp only [h, decide_false, Bool.false_or, Bool.false_eq_true, if_false]
        rcases ih (ns := ns) (by simpa using hl) with q | ⟨m, q1, q2, i, x, h1, h2, h3⟩
        · exact .inl q
        · exact .inr ⟨m, q1, q2, i + 1, x, by simpa using h1, h2, by simpa using h3⟩
theorem key_E (e : Ends) : isKey true (encE e) = true := by simp [encE, isKey, key1]
theorem setd_ok {f : Found} {ns : List Nat} {S : Sto} {e : Ends} (h : FR f ns S) (hl : f.length < 1000) (hS : 0 < S.length) :
    ∃ n S' ns', effSem .setd [.ref 0, encE e, .ref S.length] (S ++ [.lst []]) = some (.ref n, S') ∧ FR (touch f e) (ns ++ ns') S' ∧ AtN (touch f e) (ns ++ ns') e n ∧ S.length < S'.length := by
  have hd : (S ++ [Ob.lst []])[0]? = some (.dic true (f.map fun p => encE p.1) (ns.map .ref)) := by rw [List.getElem?_append_left hS]; exact h.dic
  have lim : decide ((f.map fun p => encE p.1).length < LIM) = true := by simp only [List.length_map, decide_eq_true_eq, LIM]; omega
  have old : ∀ n ∈ ns, n < S.length := fun n hn => by
    obtain ⟨i, hi, rfl⟩ := List.getElem_of_mem hn
    have hf : i < f.length := by rw [← h.len]; exact hi
    have := h.cell i ns[i] f[i] (List.getElem?_eq_getElem hf) (List.getElem?_eq_getElem hi)
    exact (List.getElem?_eq_some_iff.mp this).1
  rcases dget_found (f := f) (ns := ns) e h.len with ⟨q1, q2⟩ | ⟨n, q1, q2, q3⟩
  · have e1 : touch f e = f ++ [(e, [])] := by unfold touch; rw [q1]; rfl
    have hnot : ∀ p ∈ f, p.1 ≠ e := fun p hp z => by
      have := List.any_eq_false.mp q1 p hp
      simp [z] at this
    refine ⟨S.length, (S ++ [Ob.lst []]).set 0 (.dic true ((f.map fun p => encE p.1) ++ [encE e]) (ns.map .ref ++ [.ref S.length])), [S.length], ?_, ?_, ?_, by simp⟩
    · simp only [effSem, hd, key_E, lim, Bool.and_self, if_true, q2]
    · rw [e1]
      have g0 : ∀ m, 0 < m → ((S ++ [Ob.lst []]).set 0 (.dic true ((f.map fun p => encE p.1) ++ [encE e]) (ns.map .ref ++ [.ref S.length])))[m]? = (S ++ [Ob.lst []])[m]? := fun m hm => List.getElem?_set_ne (by omega)
      refine ⟨fun o ho => ?_, by simp [h.len], ?_, ?_, ?_, ?_, ?_⟩
      · rcases List.mem_or_eq_of_mem_set ho with ho | ho
        · rcases List.mem_append.mp ho with ho | ho
          · exact h.all o ho
          · simp at ho
            exact .inl ⟨[], by rw [ho]; rfl⟩
        · exact .inr ⟨f.map (·.1) ++ [e], ns ++ [S.length], by rw [ho]; simp⟩
      · rw [List.nodup_append]
        exact ⟨h.nd, by simp, fun a ha b hb => by simp at hb; have := old a ha; omega⟩
      · rw [List.map_append, List.nodup_append]
        refine ⟨h.kd, by simp, fun a ha b hb => ?_⟩
        simp at hb
        obtain ⟨p, hp, rfl⟩ := List.mem_map.mp ha
        rw [hb]
        exact hnot p hp
      · rw [List.getElem?_set_self (by simp)]
        simp
      · intro n hn
        rcases List.mem_append.mp hn with hn | hn
        · exact h.pos n hn
        · simp at hn; omega
      · intro i n p hf hn
        by_cases hi : i < f.length
        · rw [List.getElem?_append_left hi] at hf
          rw [List.getElem?_append_left (by rw [h.len]; exact hi)] at hn
          have hm := List.mem_of_getElem? hn
          rw [g0 n (h.pos n hm), List.getElem?_append_left (old n hm)]
          exact h.cell i n p hf hn
        · rw [List.getElem?_append_right (by omega)] at hf
          rw [List.getElem?_append_right (by rw [h.len]; omega), h.len] at hn
          have hz : i - f.length = 0 := by
            have := (List.getElem?_eq_some_iff.mp hf).1
            simp at this
            omega
          rw [hz] at hf hn
          simp at hf hn
          subst hf hn
          rw [g0 _ hS]
          simp
    · rw [e1]
      exact ⟨f.length, (e, []), by simp, rfl, by rw [← h.len]; simp⟩
  · have e1 : touch f e = f := by unfold touch; rw [q1]; rfl
    refine ⟨n, S ++ [Ob.lst []], [], ?_, ?_, by rw [e1, List.append_nil]; exact q3, by simp⟩
    · simp only [effSem, hd, key_E, lim, Bool.and_self, if_true, q2]
    · rw [e1, List.append_nil]
      refine ⟨fun o ho => ?_, h.len, h.nd, h.kd, hd, h.pos, fun i n p hf hn => ?_⟩
      · rcases List.mem_append.mp ho with ho | ho
        · exact h.all o ho
        · simp at ho
          exact .inl ⟨[], by rw [ho]; rfl⟩
      rw [List.getElem?_append_left (old n (List.mem_of_getElem? hn))]
      exact h.cell i n p hf hn
theorem AtN.touch {f : Found} {ns ns' : List Nat} {e e' : Ends} {n : Nat} (h : AtN f ns e n) : AtN (touch f e') (ns ++ ns') e n := by
  obtain ⟨i, p, h1, h2, h3⟩ := h
  refine ⟨i, p, ?_, h2, ?_⟩
  · unfold TwL.touch
    split
    · exact h1
    · rw [List.getElem?_append_left (List.getElem?_eq_some_iff.mp h1).1]; exact h1
  · rw [List.getElem?_append_left (List.getElem?_eq_some_iff.mp h3).1]; exact h3
theorem AtN.app {f : Found} {ns : List Nat} {e e' q : Ends} {n : Nat} (h : AtN f ns e n) : AtN (app f e' q) ns e n := by
  obtain ⟨i, p, h1, h2, h3⟩ := h
  refine ⟨i, if p.1 = e' then (p.1, p.2 ++ [q]) else p, ?_, ?_, h3⟩
  · unfold TwL.app
    rw [List.getElem?_map, h1]
    rfl
  · split <;> exact h2
theorem append_ok {f : Found} {ns : List Nat} {S : Sto} {e q : Ends} {n : Nat} (h : FR f ns S) (ha : AtN f ns e n) (hl : ∀ p ∈ f, p.2.length < 1000) :
    ∃ S', effSem .append [.ref n, encE q] S = some (.non, S') ∧ FR (app f e q) ns S' ∧ S'.length = S.length ∧ tyOk .list (.ref n) S = true := by
  obtain ⟨i, p, h1, h2, h3⟩ := ha
  have hc := h.cell i n p h1 h3
  have lim : (p.2.map encE).length < LIM := by
    have := hl p (List.mem_of_getElem? h1)
    simp only [List.length_map, LIM]; omega
  refine ⟨S.set n (.lst (p.2.map encE ++ [encE q])), ?_, ⟨fun o ho => ?_, by simp [app, h.len], h.nd, ?_, ?_, h.pos, ?_⟩, by simp, by simp [tyOk, lstOf, hc]⟩
  · simp only [effSem, hc, lim, if_true]
  · rcases List.mem_or_eq_of_mem_set ho with ho | ho
    · exact h.all o ho
    · exact .inl ⟨p.2 ++ [q], by rw [ho]; simp⟩
  · have : (app f e q).map (·.1) = f.map (·.1) := by
      unfold app
      rw [List.map_map]
      apply List.map_congr_left
      intro x _
      simp only [Function.comp]
      split <;> rfl
    rw [this]
    exact h.kd
  · have hn := h.pos n (List.mem_of_getElem? h3)
    rw [List.getElem?_set_ne (by omega), h.dic]
    congr 2
    unfold app
    rw [List.map_map]
    apply List.map_congr_left
    intro x _
    simp only [Function.comp]
    split <;> rfl
  · intro j m x hf hn
    unfold app at hf
    rw [List.getElem?_map] at hf
    cases hj : f[j]? with
    | none => rw [hj] at hf; cases hf
    | some y =>
      rw [hj] at hf
      simp at hf
      by_cases hji : j = i
      · subst hji
        rw [h1] at hj
        cases hj
        rw [h3] at hn
        cases hn
        rw [List.getElem?_set_self (List.getElem?_eq_some_iff.mp hc).1]
        rw [if_pos h2] at hf
        subst hf
        simp
      · have hne : y.1 ≠ e := fun z => by
          apply hji
          have a1 : (f.map (·.1))[j]? = some e := by rw [List.getElem?_map, hj]; simp [z]
          have a2 : (f.map (·.1))[i]? = some e := by rw [List.getElem?_map, h1]; simp [h2]
          exact (List.getElem?_inj (List.getElem?_eq_some_iff.mp a1).1 h.kd).mp (a1.trans a2.symm)
        rw [if_neg hne] at hf
        subst hf
        have hmn : n ≠ m := fun z => by
          subst z
          exact hji ((List.getElem?_inj (List.getElem?_eq_some_iff.mp hn).1 h.nd).mp (hn.trans h3.symm))
        rw [List.getElem?_set_ne hmn]
        exact h.cell j m y hj hn

def Bd (f : Found) (m : Nat) : Prop := f.length ≤ 2 * m ∧ ∀ p ∈ f, p.2.length ≤ 2 * m
theorem touch_len (f : Found) (e : Ends) : (touch f e).length ≤ f.length + 1 := by
  unfold touch; split <;> simp
theorem touch_mem {f : Found} {e : Ends} {p : Ends × List Ends} (h : p ∈ touch f e) : p ∈ f ∨ p.2 = [] := by
  unfold touch at h
  split at h
  · exact .inl h
  · rcases List.mem_append.mp h with h | h
    · exact .inl h
    · simp at h; exact .inr (by rw [h])
theorem app_len (f : Found) (e q : Ends) : (app f e q).length = f.length := by simp [app]
theorem app_mem {f : Found} {e q : Ends} {p : Ends × List Ends} (h : p ∈ app f e q) : ∃ p' ∈ f, p.2.length ≤ p'.2.length + 1 := by
  unfold app at h
  obtain ⟨p', h1, rfl⟩ := List.mem_map.mp h
  refine ⟨p', h1, ?_⟩
  split <;> simp
theorem Bd.touch {f : Found} {m k : Nat} {e : Ends} (h : f.length ≤ k ∧ ∀ p ∈ f, p.2.length ≤ m) : (touch f e).length ≤ k + 1 ∧ ∀ p ∈ TwL.touch f e, p.2.length ≤ m := by
  refine ⟨by have := touch_len f e; omega, fun p hp => ?_⟩
  rcases touch_mem hp with q | q
  · exact h.2 p q
  · rw [q]; simp
theorem Bd.app {f : Found} {m k : Nat} {e q : Ends} (h : f.length ≤ k ∧ ∀ p ∈ f, p.2.length ≤ m) : (app f e q).length ≤ k ∧ ∀ p ∈ TwL.app f e q, p.2.length ≤ m + 1 := by
  refine ⟨by rw [app_len]; exact h.1, fun p hp => ?_⟩
  obtain ⟨p', h1, h2⟩ := app_mem hp
  have := h.2 p' h1
  omega
theorem Bd.step {f : Found} {m : Nat} (t : Tie) (h : Bd f m) : Bd (stepF f t) (m + 1) := by
  have h1 := Bd.touch (e := (t.1, t.2.1)) h
  have h2 := Bd.touch (e := (t.2.1, t.1)) h1
  have h3 := Bd.app (e := (t.1, t.2.1)) (q := (t.2.2.1, if t.2.2.2 then 1 else 0)) h2
  have h4 := Bd.app (e := (t.2.1, t.1)) (q := (t.2.2.1, if t.2.2.2 then 2 else 0)) h3
  exact ⟨by have := h4.1; unfold stepF; omega, fun p hp => by have := h4.2 p hp; omega⟩
def b17 : List Stm := match f17 with
  | _ :: .forIn _ _ _ b :: _ => b
  | _ => []
abbrev e17 (L : W) : Tw.Env := [some L, some (.ref 0), none, none, none, none, none, none, none, none, none]
theorem pb_step {d : Nat} {f : Found} {ns : List Nat} {S : Sto} {L : W} {a b k : Int} {o : Bool} (h : FR f ns S) (hb : Bd f 400) (hS : 0 < S.length) :
    ∃ S' ns', execs (R d) LM b17 [some L, some (.ref 0), none, some (.int a), some (.int b), some (.int k), some (.bl o), none, none, none, none] S = .next (e17 L) S' ∧ FR (stepF f (a, b, k, o)) ns' S' ∧ 0 < S'.length := by
  obtain ⟨n1, S1, x1, e1, h1, at1, l1⟩ := setd_ok (e := (a, b)) h (by have := hb.1; omega) hS
  have b1 := Bd.touch (e := (a, b)) hb
  obtain ⟨n2, S2, x2, e2, h2, at2, l2⟩ := setd_ok (e := (b, a)) h1 (by have := b1.1; omega) (by omega)
  have b2 := Bd.touch (e := (b, a)) b1
  obtain ⟨S3, e3, h3, l3, t3⟩ := append_ok (q := (k, if o then 1 else 0)) h2 at1.touch (fun p hp => by have := b2.2 p hp; omega)
  have b3 := Bd.app (e := (a, b)) (q := (k, if o then 1 else 0)) b2
  obtain ⟨S4, e4, h4, l4, t4⟩ := append_ok (q := (k, if o then 2 else 0)) h3 at2.app (fun p hp => by have := b3.2 p hp; omega)
  have ty0 : tyOk (effTy .setd) (.ref 0) S = true := by simp [tyOk, effTy, isDicM, dicOf, h.dic]
  have ty1 : tyOk (effTy .setd) (.ref 0) S1 = true := by simp [tyOk, effTy, isDicM, dicOf, h1.dic]
  have ty3 : tyOk (effTy .append) (.ref n1) S2 = true := t3
  have ty4 : tyOk (effTy .append) (.ref n2) S3 = true := t4
  simp only [encE] at e1 e2 e3 e4
  refine ⟨S4, _, ?_, h4, by omega⟩
  cases o <;> simp only [if_true, Bool.false_eq_true, if_false] at e3 e4 <;> simp [b17, f17, LIM, ty0, ty1, ty3, ty4, e1, e2, e3, e4]

theorem Bd.mono {f : Found} {m k : Nat} (h : Bd f m) (hk : m ≤ k) : Bd f k := ⟨by have := h.1; omega, fun p hp => by have := h.2 p hp; omega⟩
theorem found_bd : ∀ (ts : List Tie) {f : Found} {m : Nat}, Bd f m → Bd (ts.foldl stepF f) (m + ts.length)
  | [], _, _, h => by simpa using h
  | t :: ts, f, m, h => by
    have := found_bd ts (h.step t)
    simp only [List.foldl_cons, List.length_cons]
    rw [show m + (ts.length + 1) = m + 1 + ts.length by omega]
    exact this
theorem bd_nil : Bd [] 0 := ⟨by simp, by simp⟩
theorem pb_loop {d : Nat} {ts : List Tie} (hl : ts.length ≤ 300) : ∃ ns S, forL (.tup [3, 4, 5, 6]) (fun ρ' S' => execs (R d) LM b17 ρ' S') (ts.map encT) (e17 (.lst (ts.map encT))) [.dic true [] []] = .next (e17 (.lst (ts.map encT))) S ∧ FR (foundOf ts) ns S := by
  have h0 : FR (foundOf (ts.take 0)) [] [.dic true [] []] := by
    refine ⟨fun o ho => ?_, rfl, List.nodup_nil, by simp [foundOf], rfl, by simp, by simp [foundOf]⟩
    simp at ho
    exact .inr ⟨[], [], by rw [ho]; rfl⟩
  obtain ⟨ρ2, S2, h1, rfl, ns, h2, _⟩ := forL_pl (body := fun ρ' S' => execs (R d) LM b17 ρ' S') (t := .tup [3, 4, 5, 6]) encT (fun j ρ S => ρ = e17 (.lst (ts.map encT)) ∧ ∃ ns, FR (foundOf (ts.take j)) ns S ∧ 0 < S.length) (all := ts) (xs := ts) (j := 0) (ρ := e17 (.lst (ts.map encT))) (S := [.dic true [] []]) rfl ⟨rfl, [], h0, by simp⟩ (by
    rintro j x ρ S hx ⟨rfl, ns, hf, hS⟩
    obtain ⟨a, b, k, o⟩ := x
    have hjl : j < ts.length := (List.getElem?_eq_some_iff.mp hx).1
    have hb : Bd (foundOf (ts.take j)) 400 := by
      have := found_bd (ts.take j) bd_nil
      exact Bd.mono this (by simp; omega)
    obtain ⟨S', ns', h1, h2, h3⟩ := pb_step (d := d) (L := .lst (ts.map encT)) (a := a) (b := b) (k := k) (o := o) hf hb hS
    refine ⟨_, _, S', rfl, .inl h1, rfl, ns', ?_, h3⟩
    rw [List.take_succ, hx]
    simp only [Option.toList_some, foundOf, List.foldl_append, List.foldl_cons, List.foldl_nil]
    exact h2)
  refine ⟨ns, S2, h1, ?_⟩
  simpa using h2
def valE (ps : List Ends) : W := .tup ((sortBy encE ps).map encE)
def links (ts : List Tie) : List (Ends × W) := (foundOf ts).map fun p => (p.1, valE p.2)
theorem ordE : OrdW fun w => ∃ ws, w = .tup ws ∧ isAts [.int, .int] ws := ordTup
theorem isE (e : Ends) : ∃ ws, encE e = .tup ws ∧ isAts [.int, .int] ws := ⟨_, rfl, _, _, rfl, ⟨_, rfl⟩, _, _, rfl, ⟨_, rfl⟩, rfl⟩
def b17b : List Stm := match f17 with
  | _ :: _ :: _ :: .forD _ _ _ b :: _ => b
  | _ => []
theorem dhas_E (es : List Ends) (e : Ends) : dhas (es.map encE) (encE e) = decide (e ∈ es) := by
  unfold dhas
  rw [List.any_map]
  induction es with
  | nil => simp
  | cons x es ih =>
    simp only [List.any_cons, Function.comp, eqE, List.mem_cons]
    rw [show (es.any ((fun k => eqW k (encE e)) ∘ encE)) = decide (e ∈ es) from ih, Bool.eq_iff_iff]
    simp only [Bool.or_eq_true, decide_eq_true_eq]
    constructor
    · rintro (h | h)
      · exact .inl h.symm
      · exact .inr h
    · rintro (h | h)
      · exact .inl h.symm
      · exact .inr h
abbrev e17b (L : W) (m : Nat) : Tw.Env := [some L, some (.ref 0), some (.ref m), none, none, none, none, none, none, none, none]
theorem pb_loop2 {d : Nat} {L : W} {f : Found} {ns : List Nat} {S : Sto} (h : FR f ns S) (hb : Bd f 400) :
    forL (.tup [9, 10]) (fun ρ' S' => execs (R d) LM b17b ρ' S') (zip2 (f.map fun p => encE p.1) (ns.map .ref)) (e17b L S.length) (S.set 0 .dead ++ [.dic true [] []]) =
      .next (e17b L S.length) (S.set 0 .dead ++ [.dic true (f.map fun p => encE p.1) (f.map fun p => valE p.2)]) := by
  rw [zip2_map (fun p : Ends × List Ends => encE p.1) W.ref]
  have hzl : (f.zip ns).length = f.length := by rw [List.length_zip, h.len]; simp
  obtain ⟨ρ2, S2, h1, rfl, rfl⟩ := forL_pl (body := fun ρ' S' => execs (R d) LM b17b ρ' S') (t := .tup [9, 10]) (fun p : (Ends × List Ends) × Nat => W.tup [encE p.1.1, .ref p.2])
    (fun j ρ S' => ρ = e17b L S.length ∧ S' = S.set 0 .dead ++ [.dic true ((f.take j).map fun p => encE p.1) ((f.take j).map fun p => valE p.2)]) (all := f.zip ns) (xs := f.zip ns) (j := 0) (ρ := e17b L S.length) (S := S.set 0 .dead ++ [.dic true [] []]) rfl ⟨rfl, rfl⟩ (by
    rintro j ⟨p, n⟩ ρ S' hx ⟨rfl, rfl⟩
    rw [List.getElem?_zip_eq_some] at hx
    obtain ⟨hp, hn⟩ := hx
    have hjl : j < f.length := (List.getElem?_eq_some_iff.mp hp).1
    have hc := h.cell j n p hp hn
    have hn0 := h.pos n (List.mem_of_getElem? hn)
    have hnS : n < S.length := (List.getElem?_eq_some_iff.mp hc).1
    have hc' : (S.set 0 .dead ++ [Ob.dic true ((f.take j).map fun p => encE p.1) ((f.take j).map fun p => valE p.2)])[n]? = some (.lst (p.2.map encE)) := by
      rw [List.getElem?_append_left (by simpa using hnS), List.getElem?_set_ne (by omega)]
      exact hc
    have hm : (S.set 0 .dead ++ [Ob.dic true ((f.take j).map fun p => encE p.1) ((f.take j).map fun p => valE p.2)])[S.length]? = some (.dic true ((f.take j).map fun p => encE p.1) ((f.take j).map fun p => valE p.2)) := by
      rw [List.getElem?_append_right (by simp)]
      simp
    have hs : sortedSem (S.set 0 .dead ++ [Ob.dic true ((f.take j).map fun p => encE p.1) ((f.take j).map fun p => valE p.2)]) (.ref n) = some ((sortBy encE p.2).map encE) :=
      sorted_map ordE encE (by unfold lstOf; simp only [hc']) (fun a _ => isE a) (by have := hb.2 p (List.mem_of_getElem? hp); simp only [LIM]; omega)
    have hnew : dhas ((f.take j).map fun p => encE p.1) (encE p.1) = false := by
      have e1 : ((f.take j).map fun p => encE p.1) = (((f.map (·.1)).take j).map encE) := by rw [← List.map_take, List.map_map]; rfl
      rw [e1, dhas_E, decide_eq_false_iff_not]
      intro z
      have a1 : (f.map (·.1))[j]? = some p.1 := by rw [List.getElem?_map, hp]; rfl
      obtain ⟨i, hi, e⟩ := List.getElem_of_mem z
      have hi' : i < j := by simp at hi; omega
      have a2 : (f.map (·.1))[i]? = some p.1 := by
        rw [List.getElem_take] at e
        rw [List.getElem?_eq_getElem (by simp; omega), e]
      have := (List.getElem?_inj (List.getElem?_eq_some_iff.mp a2).1 h.kd).mp (a2.trans a1.symm)
      omega
    have lim : ((f.take j).map fun p => encE p.1).length < 100000 := by have := hb.1; rw [List.length_map, List.length_take]; omega
    refine ⟨_, _, _, rfl, .inl ?_, rfl, rfl⟩
    have hset : setSem (S.set 0 .dead ++ [Ob.dic true ((f.take j).map fun p => encE p.1) ((f.take j).map fun p => valE p.2)]) (.ref S.length) (encE p.1) (valE p.2) = some (S.set 0 .dead ++ [Ob.dic true ((f.take (j + 1)).map fun p => encE p.1) ((f.take (j + 1)).map fun p => valE p.2)]) := by
      have tk : f.take (j + 1) = f.take j ++ [p] := by rw [List.take_succ, hp]; rfl
      simp only [setSem, hm, key_E, Bool.true_and, LIM, decide_eq_true_eq]
      rw [if_pos lim]
      congr 1
      simp only [dputK, dputV, hnew, Bool.false_eq_true, if_false]
      rw [List.set_append_right _ _ (by simp), tk]
      simp
    generalize S.set 0 .dead ++ [Ob.dic true ((f.take j).map fun p => encE p.1) ((f.take j).map fun p => valE p.2)] = T at hs hset ⊢
    generalize S.set 0 .dead ++ [Ob.dic true ((f.take (j + 1)).map fun p => encE p.1) ((f.take (j + 1)).map fun p => valE p.2)] = T' at hset ⊢
    simp only [valE] at hset
    simp [b17b, f17, hs, seqOf, hset])
  rw [h1, hzl]
  simp

def lkK (ts : List Tie) : List W := (links ts).map fun p => encE p.1
def lkV (ts : List Tie) : List W := (links ts).map (·.2)
theorem r_pairs {d : Nat} {ts : List Tie} (hl : ts.length ≤ 300) : ∃ S, R (d + 1) 17 [.lst (ts.map encT)] [] = .ok (.ref S.length) (S ++ [.dic true (lkK ts) (lkV ts)]) ∧ ∀ o ∈ S, okC o := by
  rw [run lib_17 rfl]
  obtain ⟨ns, S, h1, h2⟩ := pb_loop (d := d) hl
  have hb : Bd (foundOf ts) 400 := by
    have := found_bd ts bd_nil
    exact Bd.mono this (by omega)
  have h3 := pb_loop2 (d := d) (L := .lst (ts.map encT)) h2 hb
  have hS : 0 < S.length := (List.getElem?_eq_some_iff.mp h2.dic).1
  have e1 := s_for (cf := R d) (L := LM) (t := .tup [3, 4, 5, 6]) (k := .list) (srcs := [.var 0]) (body := b17) (ρ := e17 (.lst (ts.map encT))) (S := [.dic true [] []]) (ws := [.lst (ts.map encT)]) (xs := ts.map encT) (S1 := [.dic true [] []]) (by simp [e17]) rfl
  rw [h1] at e1
  have e2 := s_forD (cf := R d) (L := LM) (t := .tup [9, 10]) (both := true) (a := .var 1) (body := b17b) (ρ := e17b (.lst (ts.map encT)) S.length) (S := S ++ [.dic true [] []]) (S1 := S ++ [.dic true [] []]) (n := 0) (by simp [e17b]) (by rw [List.getElem?_append_left hS]; exact h2.dic)
  rw [if_pos rfl, List.set_append_left _ _ hS, h3, back_next, List.set_append_left _ _ (by simpa using hS), List.set_set] at e2
  have e3 : S.set 0 (Ob.dic true ((foundOf ts).map fun p => encE p.1) (ns.map .ref)) = S := by
    apply List.ext_getElem?
    intro i
    by_cases hi : i = 0
    · subst hi
      rw [List.getElem?_set_self hS]
      exact h2.dic.symm
    · rw [List.getElem?_set_ne (Ne.symm hi)]
  rw [e3] at e2
  refine ⟨S, ?_, h2.all⟩
  have kk : lkK ts = (foundOf ts).map fun p => encE p.1 := by unfold lkK links; rw [List.map_map]; rfl
  have vv : lkV ts = (foundOf ts).map fun p => valE p.2 := by unfold lkV links; rw [List.map_map]; rfl
  rw [kk, vv]
  have bb : f17 = [.asg (.one 1) (.mut (.op (.dicD true) [])), .forIn (.tup [3, 4, 5, 6]) .list [.var 0] b17, .asg (.one 2) (.mut (.op (.dicD true) [])), .forD (.tup [9, 10]) true (.var 1) b17b, .ret (.var 2)] := rfl
  rw [bb]
  simp [opSem, e1, e17, e2, e17b]
theorem lf_E (e : Ends) : lfree (encE e) = true := rfl
theorem lf_valE (ps : List Ends) : lfree (valE ps) = true := by
  unfold valE
  rw [lfree]
  exact lfreeL_map lf_E _
theorem shO_ok {b : Bool} {k : Nat} {o : Ob} (h : okC o) : ∃ o', shO b (shR k) o = some o' := by
  rcases h with ⟨ps, rfl⟩ | ⟨es, ns, rfl⟩
  · refine ⟨.lst (ps.map encE), ?_⟩
    simp [shO, subL_lf (lfreeL_map lf_E ps)]
  · refine ⟨.dic true (es.map encE) (ns.map fun n => .ref (n + k)), ?_⟩
    have q := subL_map (b := b) (g := shR k) (f := W.ref) (f' := fun n => W.ref (n + k)) (fun n => rfl) ns
    simp [shO, subL_lf (lfreeL_map lf_E es), q]
theorem move_pairs {d : Nat} {ts : List Tie} {S : Sto} {w : W} (hl : ts.length ≤ 300) (hw : vws S [w] = some [.lst (ts.map encT)]) : ∃ X, callSem (R (d + 1)) .move 17 [w] S = .ok (.ref (X.length + S.length)) (S ++ (X ++ [.dic true (lkK ts) (lkV ts)])) := by
  obtain ⟨S', h1, h2⟩ := r_pairs (d := d) hl
  have hlast : ∀ b k, shO b (shR k) (.dic true (lkK ts) (lkV ts)) = some (.dic true (lkK ts) (lkV ts)) := fun b k => by
    have v1 : lfreeL (lkK ts) = true := lfreeL_map (f := fun p : Ends × W => encE p.1) (fun p => lf_E p.1) _
    have v2 : lfreeL (lkV ts) = true := by
      unfold lkV links
      rw [List.map_map]
      exact lfreeL_map (fun p => lf_valE _) _
    simp [shO, subL_lf v1, subL_lf v2]
  obtain ⟨X, q1, q2, q3⟩ := shS_all (b := !rfreeL [w]) (g := shR S.length) (S := S' ++ [.dic true (lkK ts) (lkV ts)]) (fun o ho => by
    rcases List.mem_append.mp ho with ho | ho
    · exact shO_ok (h2 o ho)
    · simp at ho; rw [ho]; exact ⟨_, hlast _ _⟩)
  obtain ⟨o', q4, q5⟩ := q3 S'.length (.dic true (lkK ts) (lkV ts)) (by simp)
  rw [hlast] at q4
  cases q4
  have hX : X = X.take S'.length ++ [.dic true (lkK ts) (lkV ts)] := by
    apply List.ext_getElem?
    intro i
    by_cases hi : i < S'.length
    · rw [List.getElem?_append_left (by rw [List.length_take, q2]; simp; omega), List.getElem?_take, if_pos hi]
    · have hlt : (X.take S'.length).length = S'.length := by rw [List.length_take, q2]; simp
      rw [List.getElem?_append_right (by omega), hlt]
      by_cases hi2 : i = S'.length
      · subst hi2; rw [q5]; simp
      · rw [List.getElem?_eq_none (by rw [q2]; simp; omega), List.getElem?_eq_none (by simp; omega)]
  refine ⟨X.take S'.length, ?_⟩
  rw [← hX]
  have hlt : (X.take S'.length).length = S'.length := by rw [List.length_take, q2]; simp
  rw [hlt]
  simp [callSem, hw, h1, q1, sub, shR]

def webErr (ks : List (List Nat)) (ts : List Tie) : Option Nat :=
  if ks.length < 1 ∨ 7 < ks.length ∨ 12 < ts.length then some 11 else if !ks.all isWord then some 12 else if !ts.all (isTie ks.length) then some 13 else none
def tiesOf (ts : List Tie) : List Tie := sortBy encT (ts.map plainT)
def encWeb (ks : List (List Nat)) (ts : List Tie) : W := .rcd 0 [.lst (ks.map .str), .lst (ts.map encT), .dic true (lkK ts) (lkV ts)]
theorem ordT : OrdW fun w => ∃ ws, w = .tup ws ∧ isAts [.int, .int, .int, .bl] ws := ordTup
theorem isT (t : Tie) : ∃ ws, encT t = .tup ws ∧ isAts [.int, .int, .int, .bl] ws := ⟨_, rfl, _, _, rfl, ⟨_, rfl⟩, _, _, rfl, ⟨_, rfl⟩, _, _, rfl, ⟨_, rfl⟩, _, _, rfl, ⟨_, rfl⟩, rfl⟩
theorem lf_T (t : Tie) : lfree (encT t) = true := rfl
def b16k : List Stm := match f16 with
  | _ :: .forIn _ _ _ b :: _ => b
  | _ => []
def b16t : List Stm := match f16 with
  | _ :: _ :: .forIn _ _ _ b :: _ => b
  | _ => []
theorem find_all {α : Type} {p : α → Bool} : ∀ {xs : List α}, (match xs.find? fun x => !p x with | none => xs.all p = true | some x => xs.all p = false)
  | [] => rfl
  | x :: xs => by
    have ih := find_all (p := p) (xs := xs)
    simp only [List.find?_cons, List.all_cons]
    cases h : p x with
    | true => simpa using ih
    | false => simp
abbrev e16 (ks : List (List Nat)) (ts : List Tie) : Tw.Env := [some (.ref 0), some (.lst (ks.map .str)), some (.lst (ts.map encT)), none, none]
theorem r_init {d : Nat} {ks : List (List Nat)} {ts : List Tie} (hk : ∀ k ∈ ks, k.length < LIM) (hl : ks.length < LIM) (hl2 : ts.length < LIM) :
    match webErr ks ts with
    | some c => ∃ S', R (d + 2) 16 [.ref 0, .lst (ks.map .str), .lst (ts.map encT)] [.ins 0 []] = .ex c S'
    | none => ∃ X, R (d + 2) 16 [.ref 0, .lst (ks.map .str), .lst (ts.map encT)] [.ins 0 []] = .ok .non ([.ins 0 [.ref 1, .ref 2, .ref (X.length + 3)], .lst (ks.map .str), .lst ((tiesOf ts).map encT)] ++ (X ++ [.dic true (lkK (tiesOf ts)) (lkV (tiesOf ts))])) := by
  have hks : ks.length < 100000 := hl
  have hts : ts.length < 100000 := hl2
  have l1 : forL (.one 3) (fun ρ' S' => execs (R (d + 1)) LM b16k ρ' S') (ks.map .str) (e16 ks ts) [.ins 0 []] = _ :=
    forL_find (S := [.ins 0 []]) W.str isWord (fun k => .ex [some (.ref 0), some (.lst (ks.map .str)), some (.lst (ts.map encT)), some (.str k), none] 12 [.ins 0 []]) (fun _ => trivial) fun k hk' => ⟨_, rfl, by
      have h1 : callSem (R (d + 1)) .pure 19 [.str k] [.ins 0 []] = .ok (.bl (isWord k)) [.ins 0 []] := call_pure rfl (r_word (hk k hk')) rfl
      cases h : isWord k <;> simp [b16k, f16, h1, h]⟩
  have l2 : forL (.one 4) (fun ρ' S' => execs (R (d + 1)) LM b16t ρ' S') (ts.map encT) (e16 ks ts) [.ins 0 []] = _ :=
    forL_find (S := [.ins 0 []]) encT (isTie ks.length) (fun t => .ex [some (.ref 0), some (.lst (ks.map .str)), some (.lst (ts.map encT)), none, some (encT t)] 13 [.ins 0 []]) (fun _ => trivial) fun t ht' => ⟨_, rfl, by
      have h1 : callSem (R (d + 1)) .pure 18 [.int ks.length, encT t] [.ins 0 []] = .ok (.bl (isTie ks.length t)) [.ins 0 []] := call_pure rfl r_tie rfl
      cases h : isTie ks.length t <;> simp [b16t, f16, h1, h, lenSem, seqOf]⟩
  have bb : f16 = [.ite (.or [(.op .lt [(.op .len [(.var 1)]), (.con (.int 1))]), (.op .gt [(.op .len [(.var 1)]), (.con (.int 7))]), (.op .gt [(.op .len [(.var 2)]), (.con (.int 12))])]) [.rais 11] [],
    .forIn (.one 3) .list [.var 1] b16k, .forIn (.one 4) .list [.var 2] b16t,
    .setF 0 0 (.mut (.op .list [(.var 1)])) (.var 0),
    .setF 0 1 (.mut (.op .sorted [(.comp (.call .pure 20 [(.var 4)]) (.one 4) .list [(.var 2)] [] [4])])) (.var 0),
    .setF 0 2 (.call .move 17 [(.fld 0 1 (.var 0))]) (.var 0)] := rfl
  have s1 := s_for (cf := R (d + 1)) (L := LM) (t := .one 3) (k := .list) (srcs := [.var 1]) (body := b16k) (ρ := e16 ks ts) (S := [.ins 0 []]) (ws := [.lst (ks.map .str)]) (xs := ks.map .str) (S1 := [.ins 0 []]) (by simp [e16]) rfl
  have s2 := s_for (cf := R (d + 1)) (L := LM) (t := .one 4) (k := .list) (srcs := [.var 2]) (body := b16t) (ρ := e16 ks ts) (S := [.ins 0 []]) (ws := [.lst (ts.map encT)]) (xs := ts.map encT) (S1 := [.ins 0 []]) (by simp [e16]) rfl
  rw [l1] at s1
  rw [l2] at s2
  rw [run lib_16 rfl, bb]
  unfold webErr
  by_cases c1 : ks.length < 1 ∨ 7 < ks.length ∨ 12 < ts.length
  · rw [if_pos c1]
    refine ⟨[.ins 0 []], ?_⟩
    rcases c1 with c | c | c
    · have : (ks.length : Int) < 1 := by omega
      simp [idxSem, seqOf, Tw.ixN, LIM, lenSem, opAdd, lstOf, eqOp, ltSem, CDiv, isiOp, fldSem, recOf, tyOk, effTy, isDicM, effSem, callSem, newSem, sliceSem, this]
    · have h1 : ¬ (ks.length : Int) < 1 := by omega
      have : (7 : Int) < ks.length := by omega
      simp [idxSem, seqOf, Tw.ixN, LIM, lenSem, opAdd, lstOf, eqOp, ltSem, CDiv, isiOp, fldSem, recOf, tyOk, effTy, isDicM, effSem, callSem, newSem, sliceSem, this, h1]
    · have : (12 : Int) < ts.length := by omega
      simp [idxSem, seqOf, Tw.ixN, LIM, lenSem, opAdd, lstOf, eqOp, ltSem, CDiv, isiOp, fldSem, recOf, tyOk, effTy, isDicM, effSem, callSem, newSem, sliceSem, this]
  · rw [if_neg c1]
    have h1 : ¬ (ks.length : Int) < 1 := by omega
    have h2 : ¬ (7 : Int) < ks.length := by omega
    have h3 : ¬ (12 : Int) < ts.length := by omega
    have f1 := find_all (p := isWord) (xs := ks)
    cases e1 : ks.find? (fun x => !isWord x) with
    | some k =>
      rw [e1] at f1 s1
      simp only at f1 s1
      rw [f1]
      refine ⟨[.ins 0 []], ?_⟩
      simp [idxSem, seqOf, Tw.ixN, LIM, lenSem, opAdd, lstOf, eqOp, ltSem, CDiv, isiOp, fldSem, recOf, tyOk, effTy, isDicM, effSem, callSem, newSem, sliceSem, h1, h2, h3, s1, e16]
    | none =>
      rw [e1] at f1 s1
      simp only at f1 s1
      rw [f1]
      have f2 := find_all (p := isTie ks.length) (xs := ts)
      cases e2 : ts.find? (fun x => !isTie ks.length x) with
      | some t =>
        rw [e2] at f2 s2
        simp only at f2 s2
        rw [f2]
        refine ⟨[.ins 0 []], ?_⟩
        simp [idxSem, seqOf, Tw.ixN, LIM, lenSem, opAdd, lstOf, eqOp, ltSem, CDiv, isiOp, fldSem, recOf, tyOk, effTy, isDicM, effSem, callSem, newSem, sliceSem, h1, h2, h3, s1, s2, e16]
      | none =>
        rw [e2] at f2 s2
        simp only at f2 s2
        rw [f2]
        simp only [Bool.not_true, Bool.false_eq_true, if_false]
        have hcomp : ev (R (d + 1)) (.comp (.call .pure 20 [(.var 4)]) (.one 4) .list [(.var 2)] [] [4]) (e16 ks ts) [.ins 0 [.ref 1], .lst (ks.map .str)] = .ok (.lst ((ts.map plainT).map encT)) [.ins 0 [.ref 1], .lst (ks.map .str)] :=
          comp_map encT encT plainT (ws := [.lst (ts.map encT)]) (by simp [e16]) rfl hl2 fun t ht => ⟨_, rfl, by
            have q : callSem (R (d + 1)) .pure 20 [encT t] [.ins 0 [.ref 1], .lst (ks.map .str)] = .ok (encT (plainT t)) [.ins 0 [.ref 1], .lst (ks.map .str)] := call_pure rfl r_plain rfl
            simp [e16, q]⟩
        have hsort : sortedSem [.ins 0 [.ref 1], .lst (ks.map .str)] (.lst ((ts.map plainT).map encT)) = some ((tiesOf ts).map encT) := sorted_map ordT encT rfl (fun t _ => isT t) (by simpa using hl2)
        have hw : vws [.ins 0 [.ref 1, .ref 2], .lst (ks.map .str), .lst ((tiesOf ts).map encT)] [.ref 2] = some [.lst ((tiesOf ts).map encT)] := by
          simp [vws, subL, sub, lev, cellW, subL_lf (lfreeL_map lf_T (tiesOf ts))]
        obtain ⟨X, hX⟩ := move_pairs (d := d) (ts := tiesOf ts) (by unfold tiesOf; rw [sortBy_len, List.length_map]; omega) hw
        refine ⟨X, ?_⟩
        simp only [List.length_cons, List.length_nil] at hX
        generalize (ts.map plainT).map encT = P at hcomp hsort
        generalize (tiesOf ts).map encT = P' at hsort hX ⊢
        generalize Ob.dic true (lkK (tiesOf ts)) (lkV (tiesOf ts)) = Dd at hX ⊢
        unfold e16 at hcomp s1 s2
        simp only [Nat.zero_add, Nat.reduceAdd] at hX
        simp [lenSem, seqOf, LIM, h1, h2, h3, s1, s2, setFld, hcomp, hsort, fldSem, recOf, hX]

theorem lf_str (k : List Nat) : lfree (W.str k) = true := rfl
theorem lfree_lkK (ts : List Tie) : lfreeL (lkK ts) = true := lfreeL_map (f := fun p : Ends × W => encE p.1) (fun p => lf_E p.1) _
theorem lfree_lkV (ts : List Tie) : lfreeL (lkV ts) = true := by
  unfold lkV links
  rw [List.map_map]
  exact lfreeL_map (fun p => lf_valE _) _
theorem web_vw {b : Bool} {ks : List (List Nat)} {ts : List Tie} {X : Sto} :
    sub b (lev b ([.ins 0 [.ref 1, .ref 2, .ref (X.length + 3)], .lst (ks.map .str), .lst (ts.map encT)] ++ (X ++ [.dic true (lkK ts) (lkV ts)])) 3) (.ref 0) = some (encWeb ks ts) := by
  have h3 : ([Ob.ins 0 [.ref 1, .ref 2, .ref (X.length + 3)], .lst (ks.map .str), .lst (ts.map encT)] ++ (X ++ [.dic true (lkK ts) (lkV ts)]))[X.length + 3]? = some (.dic true (lkK ts) (lkV ts)) := by
    rw [List.getElem?_append_right (by simp)]
    simp
  have h0 : ([Ob.ins 0 [.ref 1, .ref 2, .ref (X.length + 3)], .lst (ks.map .str), .lst (ts.map encT)] ++ (X ++ [.dic true (lkK ts) (lkV ts)]))[0]? = some (.ins 0 [.ref 1, .ref 2, .ref (X.length + 3)]) := rfl
  have h1 : ([Ob.ins 0 [.ref 1, .ref 2, .ref (X.length + 3)], .lst (ks.map .str), .lst (ts.map encT)] ++ (X ++ [.dic true (lkK ts) (lkV ts)]))[1]? = some (.lst (ks.map .str)) := rfl
  have h2 : ([Ob.ins 0 [.ref 1, .ref 2, .ref (X.length + 3)], .lst (ks.map .str), .lst (ts.map encT)] ++ (X ++ [.dic true (lkK ts) (lkV ts)]))[2]? = some (.lst (ts.map encT)) := rfl
  generalize [Ob.ins 0 [.ref 1, .ref 2, .ref (X.length + 3)], .lst (ks.map .str), .lst (ts.map encT)] ++ (X ++ [.dic true (lkK ts) (lkV ts)]) = S at h0 h1 h2 h3 ⊢
  have q1 : ∀ g : Nat → Option W, subL b g (ks.map W.str) = some (ks.map .str) := fun g => subL_lf (lfreeL_map lf_str ks)
  have q2 : ∀ g : Nat → Option W, subL b g (ts.map encT) = some (ts.map encT) := fun g => subL_lf (lfreeL_map lf_T ts)
  have q3 : ∀ g : Nat → Option W, subL b g (lkK ts) = some (lkK ts) := fun g => subL_lf (lfree_lkK ts)
  have q4 : ∀ g : Nat → Option W, subL b g (lkV ts) = some (lkV ts) := fun g => subL_lf (lfree_lkV ts)
  simp [sub, lev, cellW, h0, subL, h1, h2, h3, q1, q2, q3, q4, encWeb]
theorem new_web {d : Nat} {ks : List (List Nat)} {ts : List Tie} {ws : List W} {S : Sto} (hw : vws S ws = some [.lst (ks.map .str), .lst (ts.map encT)]) (hk : ∀ k ∈ ks, k.length < LIM) (hl : ks.length < LIM) (hl2 : ts.length < LIM) :
    newSem (R (d + 2)) .pure 0 16 ws S = match webErr ks ts with
      | some c => .ex c S
      | none => .ok (encWeb ks (tiesOf ts)) S := by
  have h := r_init (d := d) hk hl hl2
  simp only [newSem, hw]
  cases e : webErr ks ts with
  | some c =>
    rw [e] at h
    obtain ⟨S', h⟩ := h
    rw [h]
  | none =>
    rw [e] at h
    obtain ⟨X, h⟩ := h
    rw [h]
    have v1 := web_vw (b := false) (ks := ks) (ts := tiesOf ts) (X := X)
    have v2 := web_vw (b := true) (ks := ks) (ts := tiesOf ts) (X := X)
    simp only
    split
    · rw [show vw _ (.ref 0) = _ from v1]; rfl
    · rw [show vwB _ (.ref 0) = _ from v2]; rfl
theorem rf_web (ks : List (List Nat)) (ts : List Tie) : rfree (encWeb ks ts) = true := by
  have q1 := rfreeL_map (f := W.str) (fun _ => rfl) ks
  have q2 := rfreeL_map (f := encT) (fun _ => rfl) ts
  have q3 : rfreeL (lkK ts) = true := rfreeL_map (f := fun p : Ends × W => encE p.1) (fun p => rfl) _
  have q4 : rfreeL (lkV ts) = true := by
    unfold lkV links
    rw [List.map_map]
    exact rfreeL_map (fun p => by simp only [Function.comp, valE, rfree]; exact rfreeL_map (fun _ => rfl) _) _
  simp [encWeb, rfree, rfreeL, q1, q2, q3, q4]
end TwL

namespace TwL
open Tw
abbrev WebT := List (List Nat) × List Tie
def eWeb : En WebT := ⟨fun w => encWeb w.1 w.2, fun w => rf_web w.1 w.2, false, fun h => by cases h⟩
def linksT (ts : List Tie) : List (Ends × List Ends) := (foundOf ts).map fun p => (p.1, sortBy encE p.2)
theorem fld_links (S : Sto) (x : WebT) : fldSem S 0 2 (eWeb.en x) = some ((eD true (e2 eInt eInt) (eT (e2 eInt eInt))).en (linksT x.2)) := by
  show some (W.dic true (lkK x.2) (lkV x.2)) = _
  simp only [lkK, lkV, links, linksT, eD, List.map_map]
  rfl
def newWeb (ks : List (List Nat)) (ts : List Tie) : M WebT := M.chk (decide (ks.length < 100000) && decide (ts.length < 100000) && ks.all fun k => decide (k.length < 100000)) (match webErr ks ts with
  | some c => .ex c
  | none => .ok (ks, tiesOf ts))
theorem nk_web (d : Nat) (ks : List (List Nat)) (ts : List Tie) : Nk (R (d + 2)) 0 16 [(eL eStr).en ks, (eL (e4 eInt eInt eInt eBool)).en ts] (newWeb ks ts) eWeb := by
  intro S ws hw
  unfold newWeb
  cases q : decide (ks.length < 100000) && decide (ts.length < 100000) && ks.all fun k => decide (k.length < 100000) with
  | false => trivial
  | true =>
    simp only [Bool.and_eq_true, decide_eq_true_eq, List.all_eq_true] at q
    have h := new_web (d := d) (ks := ks) (ts := ts) (ws := ws) (S := S) hw q.2 q.1.1 q.1.2
    simp only [M.chk_true]
    rw [h]
    cases webErr ks ts with
    | some c => rfl
    | none => rfl
theorem newWeb_ok {ks : List (List Nat)} {ts : List Tie} (h1 : ks.length < 100000) (h2 : ts.length < 100000) (h3 : ∀ k ∈ ks, k.length < 100000) : newWeb ks ts = match webErr ks ts with
  | some c => .ex c
  | none => .ok (ks, tiesOf ts) := by
  have e : (decide (ks.length < 100000) && decide (ts.length < 100000) && ks.all fun k => decide (k.length < 100000)) = true := by simpa [h1, h2] using h3
  unfold newWeb
  rw [e]
  rfl
end TwL

namespace TwL
open Tw
end TwL

namespace TwL
open Tw
def g24 (cell_1 : Int) (k_2 : Int) : M Int := (M.chk (CMul ((7919 : Int) * k_2) k_2) (M.ok (((7919 : Int) * k_2) * k_2))).bind fun x_3 =>
 (M.ok (((((cell_1 % 2147483647) + 1) + x_3) * 48271) % 2147483629)).bind fun seed_5 =>
 (M.chk (CMul seed_5 seed_5) (M.ok (seed_5 * seed_5))).bind fun x_6 =>
 M.ok (x_6 % 998244353)
theorem k24 (d : Nat) (cell_1 : Int) (k_2 : Int) : Fk (R (d + 1)) 24 [eInt.en cell_1, eInt.en k_2] (g24 cell_1 k_2) (eV eInt) :=
  Fk.cast (fk_mk (L := LM) lib_24 rfl (hd_v (hd_v (hd_n hd_z)))
  (st_asg (et := (eV eInt)) (ee_rd (rd_mod (rd_mul (rd_add (rd_add (rd_mod (rd_v rfl) (rd_int 2147483647)) (rd_int 1)) (rd_mul (rd_mul (rd_int 7919) (rd_v rfl)) (rd_v rfl))) (rd_int 48271)) (rd_int 2147483629))) fun x_4 => (st_ret (g := fun o => o) (ee_rd (rd_mod (rd_mul (rd_v rfl) (rd_v rfl)) (rd_int 998244353))) (fun _ => rfl) (fun _ => .e)))) (by delta g24; simp only [M.bind_ok, M.bind_pure, M.bind_ex, eV_fl, fd0_get, fd0_put, fdS_get, fdS_put, cO_fl, cN_fl, cHl_fl, cL_fl, cD_fl, c2_fl, c3_fl, LM, M.bind_assoc, M.chk_bind, M.chk_true, M.map_pure, M.filt_pure, M.map_self, M.filt_self, List.append_nil, id_eq, List.length_cons, List.length_nil, Nat.zero_add, Nat.reduceAdd, Nat.reduceLT, Int.reduceLT, Int.reduceToNat, Int.reducePow, Int.reduceNeg, decide_true, Bool.true_and, Bool.and_true, LIM, (cml 7919 (by decide)), (cmr 48271 (by decide))])
def g29 (script_1 : (List Int)) (at_2 : Int) (many_3 : Int) : M (List Int) := (M.chk (decide ((cut script_1 (some at_2) (some (at_2 + many_3))).length + [(at_2 + 1), 5, 2, 9, 4, 7, 1, 8, 3, 6, 0, 11, 13, 12, 10, 14].length < 100000)) (M.ok ((cut script_1 (some at_2) (some (at_2 + many_3))) ++ [(at_2 + 1), 5, 2, 9, 4, 7, 1, 8, 3, 6, 0, 11, 13, 12, 10, 14]))).bind fun x_4 =>
 M.ok (cut x_4 none (some many_3))
theorem k29 (d : Nat) (script_1 : (List Int)) (at_2 : Int) (many_3 : Int) : Fk (R (d + 1)) 29 [eK.en script_1, eInt.en at_2, eInt.en many_3] (g29 script_1 at_2 many_3) (cL (eV eInt)) :=
  Fk.cast (fk_mk (L := LM) lib_29 rfl (hd_v (hd_v (hd_v hd_z)))
  (st_ret (g := fun o => o) (ee_mutL (rd_slR (rd_addL (rd_sl2 (rd_v rfl).ks (rd_toI (rd_v rfl)) (rd_toI (rd_add (rd_v rfl) (rd_v rfl)))).la (rd_lstD (rl_cons (rd_add (rd_v rfl) (rd_int 1)) (rl_cons (rd_int 5) (rl_cons (rd_int 2) (rl_cons (rd_int 9) (rl_cons (rd_int 4) (rl_cons (rd_int 7) (rl_cons (rd_int 1) (rl_cons (rd_int 8) (rl_cons (rd_int 3) (rl_cons (rd_int 6) (rl_cons (rd_int 0) (rl_cons (rd_int 11) (rl_cons (rd_int 13) (rl_cons (rd_int 12) (rl_cons (rd_int 10) (rl_cons (rd_int 14) (rl_nil (e := eInt))))))))))))))))))).la).la.sa (rd_toI (rd_v rfl)))) (fun _ => rfl) (fun _ => .e))) (by delta g29; simp only [M.bind_ok, M.bind_pure, M.bind_ex, eV_fl, fd0_get, fd0_put, fdS_get, fdS_put, cO_fl, cN_fl, cHl_fl, cL_fl, cD_fl, c2_fl, c3_fl, LM, M.bind_assoc, M.chk_bind, M.chk_true, M.map_pure, M.filt_pure, M.map_self, M.filt_self, List.append_nil, id_eq, List.length_cons, List.length_nil, Nat.zero_add, Nat.reduceAdd, Nat.reduceLT, Int.reduceLT, Int.reduceToNat, Int.reducePow, Int.reduceNeg, decide_true, Bool.true_and, Bool.and_true, LIM])
def g31_1 (i_5 : Int) (j_7 : Int) : (List (Int × Int)) → (Int × Int × Int × Bool) → M (List (Int × Int)) := fun s_9 one_10 => (eqM (e2 eInt eInt) (one_10.1, one_10.2.1) (i_5, j_7)).bind fun x_19 =>
 (if x_19 = true then (M.chk (decide (List.length s_9 < 100000)) (M.ok (s_9 ++ [(one_10.2.2.1, (if one_10.2.2.2 = true then 1 else 0))]))).bind fun r_15 =>
 M.ok r_15 else M.ok s_9).bind fun s_13 =>
 (eqM (e2 eInt eInt) (one_10.2.1, one_10.1) (i_5, j_7)).bind fun x_18 =>
 if x_18 = true then
 (M.chk (decide (List.length s_13 < 100000)) (M.ok (s_13 ++ [(one_10.2.2.1, ((2 : Int) * (if one_10.2.2.2 = true then 1 else 0)))]))).bind fun r_17 =>
 M.ok r_17
 else
 M.ok s_13
def g31_2 (ties_2 : (List (Int × Int × Int × Bool))) (i_5 : Int) : (List ((Int × Int) × (List (Int × Int)))) → Int → M (List ((Int × Int) × (List (Int × Int)))) := fun s_6 j_7 => (M.fold (g31_1 i_5 j_7) ([] : List (Int × Int)) ties_2).bind fun s_20 =>
 (sortM (e2 eInt eInt) s_20).bind fun x_24 =>
 (M.chk (dkey true (e2 eInt eInt) (i_5, j_7) && decide (List.length s_6 < 100000)) (M.ok (dputT (e2 eInt eInt) s_6 (i_5, j_7) x_24))).bind fun r_22 =>
 M.ok r_22
def g31_3 (many_1 : Int) (ties_2 : (List (Int × Int × Int × Bool))) : (List ((Int × Int) × (List (Int × Int)))) → Int → M (List ((Int × Int) × (List (Int × Int)))) := fun s_4 i_5 => (M.chk (small many_1) (M.ok (rg many_1))).bind fun x_26 =>
 (M.fold (g31_2 ties_2 i_5) s_4 x_26).bind fun s_25 =>
 M.ok s_25
def g31 (many_1 : Int) (ties_2 : (List (Int × Int × Int × Bool))) : M (List ((Int × Int) × (List (Int × Int)))) := (M.ok ([] : (List ((Int × Int) × (List (Int × Int)))))).bind fun table_here_3 =>
 (M.chk (small many_1) (M.ok (rg many_1))).bind fun x_29 =>
 (M.fold (g31_3 many_1 ties_2) table_here_3 x_29).bind fun s_27 =>
 M.ok s_27
theorem k31 (d : Nat) (many_1 : Int) (ties_2 : (List (Int × Int × Int × Bool))) : Fk (R (d + 1)) 31 [eInt.en many_1, (eL (e4 eInt eInt eInt eBool)).en ties_2] (g31 many_1 ties_2) (cD true (e2 eInt eInt) (eV (eT (e2 eInt eInt)))) :=
  Fk.cast (fk_mk (L := LM) lib_31 rfl (hd_v (hd_v (hd_n (hd_n (hd_n (hd_n (hd_n (hd_n (hd_n (hd_n hd_z))))))))))
  (st_asg (et := (cD true (e2 eInt eInt) (eV (eT (e2 eInt eInt))))) (ee_mutD0 (t := true) (k := (e2 eInt eInt)) (v := (eV (eT (e2 eInt eInt))))) fun _ => (st_for (A' := fun (s_4' : (List ((Int × Int) × (List (Int × Int))))) => [.s (eV eInt) many_1, .s (eV (eL (e4 eInt eInt eInt eBool))) ties_2, .s (cD true (e2 eInt eInt) (eV (eT (e2 eInt eInt)))) s_4', .no, .no, .no, .no, .no, .no, .no]) (s0 := ([] : (List ((Int × Int) × (List (Int × Int)))))) (it_r1 (rd_v rfl)) (.s (.s (.s (.n (.n (.n (.n (.n (.n (.n .z)))))))))) (fun s_4 => (bt_1 3)) (fun s_4 i_5 => (st_for (A' := fun (s_6' : (List ((Int × Int) × (List (Int × Int))))) => [.s (eV eInt) many_1, .s (eV (eL (e4 eInt eInt eInt eBool))) ties_2, .s (cD true (e2 eInt eInt) (eV (eT (e2 eInt eInt)))) s_6', .s (eV eInt) i_5, .no, .no, .no, .no, .no, .no]) (s0 := s_4) (it_r1 (rd_v rfl)) (.s (.s (.s (.s (.n (.n (.n (.n (.n (.n .z)))))))))) (fun s_6 => (bt_1 4)) (fun s_6 j_7 => (st_asg (et := (cL (eV (e2 eInt eInt)))) (ee_mut0 (et := (eV (e2 eInt eInt)))) fun _ => (st_for (A' := fun (s_9' : (List (Int × Int))) => [.s (eV eInt) many_1, .s (eV (eL (e4 eInt eInt eInt eBool))) ties_2, .s (cD true (e2 eInt eInt) (eV (eT (e2 eInt eInt)))) s_6, .s (eV eInt) i_5, .s (eV eInt) j_7, .s (cL (eV (e2 eInt eInt))) s_9', .no, .no, .no, .no]) (s0 := ([] : List (Int × Int))) (it_list (rd_v rfl)) (.s (.s (.s (.s (.s (.s (.n (.n (.n (.n .z)))))))))) (fun s_9 => (bt_4 6 7 8 9)) (fun s_9 one_10 => (st_iteJ (B := fun (s_13' : (List (Int × Int))) => [.s (eV eInt) many_1, .s (eV (eL (e4 eInt eInt eInt eBool))) ties_2, .s (cD true (e2 eInt eInt) (eV (eT (e2 eInt eInt)))) s_6, .s (eV eInt) i_5, .s (eV eInt) j_7, .s (cL (eV (e2 eInt eInt))) s_13', .s (eV eInt) one_10.1, .s (eV eInt) one_10.2.1, .s (eV eInt) one_10.2.2.1, .s (eV eBool) one_10.2.2.2]) (rd_eqA (rd_tup2 (rd_v rfl) (rd_v rfl)).ea (rd_tup2 (rd_v rfl) (rd_v rfl)).ea) (st_expr (ee_app (pl_s (i := 5) rfl) (rd_tup2 (rd_v rfl) (rd_intB (rd_v rfl)))) fun z_14 => (st_nilX (o := z_14.2) rfl (.s (.s (.s (.s (.s (.s (.s (.s (.s (.s .z)))))))))))) (st_nilX (o := s_9) rfl (.s (.s (.s (.s (.s (.s (.s (.s (.s (.s .z))))))))))) fun s_13 => (st_ite (rd_eqA (rd_tup2 (rd_v rfl) (rd_v rfl)).ea (rd_tup2 (rd_v rfl) (rd_v rfl)).ea) (st_expr (ee_app (pl_s (i := 5) rfl) (rd_tup2 (rd_v rfl) (rd_mul (rd_int 2) (rd_intB (rd_v rfl))))) fun z_16 => (st_wipe (st_nil (o := z_16.2) rfl (.s (.s (.s (.s (.s (.s (.n (.n (.n (.n .z))))))))))))) (st_wipe (st_nil (o := s_13) rfl (.s (.s (.s (.s (.s (.s (.n (.n (.n (.n .z))))))))))))))) fun s_20 => (st_setD rfl (rd_tuple (rd_sorted (rd_var rfl).cl).lqE) (pl_s (i := 2) rfl) (rd_tup2 (rd_v rfl) (rd_v rfl)) fun q_21 r_22 => (st_wipe (st_nil (o := r_22) rfl (.s (.s (.s (.s (.n (.n (.n (.n (.n (.n .z)))))))))))))))) fun s_25 => (st_wipe (st_nil (o := s_25) rfl (.s (.s (.s (.n (.n (.n (.n (.n (.n (.n .z)))))))))))))) fun s_27 => (st_ret (g := fun o => o) (ee_mv rfl) (fun _ => rfl) (fun _ => .e))))) (by delta g31; delta g31_3; delta g31_2; delta g31_1; simp only [M.bind_ok, M.bind_pure, M.bind_ex, eV_fl, fd0_get, fd0_put, fdS_get, fdS_put, cO_fl, cN_fl, cHl_fl, cL_fl, cD_fl, c2_fl, c3_fl, LM, M.bind_assoc, M.chk_bind, M.chk_true, M.map_pure, M.filt_pure, M.map_self, M.filt_self, List.append_nil, id_eq, List.length_cons, List.length_nil, Nat.zero_add, Nat.reduceAdd, Nat.reduceLT, Int.reduceLT, Int.reduceToNat, Int.reducePow, Int.reduceNeg, decide_true, Bool.true_and, Bool.and_true, LIM, (cml 2 (by decide))])
def g26 (seed_1 : Int) (which_2 : Int) : M (List Nat) := (M.ok [97, 98, 99, 100, 101, 102, 103, 104, 105, 106, 107, 108, 109, 110, 111, 112, 113, 114, 115, 116, 117, 118, 119, 120, 121, 122]).bind fun letters_4 =>
 (M.chk (decide (List.length (rg 3) < 100000)) (M.map (fun (k_5 : Int) => M.chk (decide (letters_4.length < 100000)) ((M.of (getI letters_4 (((seed_1 / 9) + ((7 : Int) * k_5)) % 26))).bind fun c => M.ok [c])) (rg 3))).bind fun x_6 =>
 (M.chk (decide ((joinS ([] : List Nat) x_6).length < 100000) && decide (([] : List Nat).length < 100000)) (M.ok (joinS ([] : List Nat) x_6))).bind fun base_8 =>
 if (decide (((seed_1 / 3) % 4) = 0)) = true then
 (M.chk (decide (base_8.length < 100000)) (M.ok base_8)).bind fun x_11 =>
 M.ok (cut x_11 none (some ((1 : Int) + (which_2 % 3))))
 else
 (M.chk (decide (0 < ((1 : Int) + (seed_1 % 3)))) (M.ok ((seed_1 / 3) % ((1 : Int) + (seed_1 % 3))))).bind fun place_14 =>
 (M.chk (decide (letters_4.length < 100000)) ((M.of (getI letters_4 ((((seed_1 / 9) + ((7 : Int) * place_14)) + which_2) % 26))).bind fun c => M.ok [c])).bind fun sign_16 =>
 (M.chk (decide (base_8.length < 100000)) (M.ok base_8)).bind fun x_17 =>
 (M.chk (decide ((cut x_17 none (some place_14)).length + sign_16.length < 100000)) (M.ok ((cut x_17 none (some place_14)) ++ sign_16))).bind fun x_19 =>
 (M.chk (decide (base_8.length < 100000)) (M.ok base_8)).bind fun x_18 =>
 M.chk (decide (x_19.length + (cut x_18 (some (place_14 + 1)) (some ((1 : Int) + (seed_1 % 3)))).length < 100000)) (M.ok (x_19 ++ (cut x_18 (some (place_14 + 1)) (some ((1 : Int) + (seed_1 % 3))))))
theorem k26 (d : Nat) (seed_1 : Int) (which_2 : Int) : Fk (R (d + 1)) 26 [eInt.en seed_1, eInt.en which_2] (g26 seed_1 which_2) (eV eStr) :=
  Fk.cast (fk_mk (L := LM) lib_26 rfl (hd_v (hd_v (hd_n (hd_n (hd_n (hd_n (hd_n (hd_n hd_z))))))))
  (st_asg (et := (eV eStr)) (ee_rd (rd_str [97, 98, 99, 100, 101, 102, 103, 104, 105, 106, 107, 108, 109, 110, 111, 112, 113, 114, 115, 116, 117, 118, 119, 120, 121, 122])) fun x_3 => (st_asg (et := (eV eStr)) (ee_rd (rd_join (rd_str ([] : List Nat)) (rd_comp (it_r1 (rd_int 3)) (bt_1 7) (fun (k_5 : Int) => (rd_idxS (rd_v rfl) (rd_mod (rd_add (rd_fdiv (rd_v rfl) (rd_int 9)) (rd_mul (rd_int 7) (rd_v rfl))) (rd_int 26))))).lqE)) fun x_7 => (st_asg (et := (eV eInt)) (ee_rd (rd_add (rd_int 1) (rd_mod (rd_v rfl) (rd_int 3)))) fun x_9 => (st_ite (rd_eqI (rd_mod (rd_fdiv (rd_v rfl) (rd_int 3)) (rd_int 4)) (rd_int 0)) (st_ret (g := fun o => o) (ee_rd (rd_slR (rd_v rfl).ss (rd_toI (rd_add (rd_int 1) (rd_mod (rd_v rfl) (rd_int 3)))))) (fun _ => rfl) (fun _ => .e)) (st_asg (et := (eV eInt)) (ee_rd (rd_mod (rd_fdiv (rd_v rfl) (rd_int 3)) (rd_v rfl))) fun x_13 => (st_asg (et := (eV eStr)) (ee_rd (rd_idxS (rd_v rfl) (rd_mod (rd_add (rd_add (rd_fdiv (rd_v rfl) (rd_int 9)) (rd_mul (rd_int 7) (rd_v rfl))) (rd_v rfl)) (rd_int 26)))) fun x_15 => (st_ret (g := fun o => o) (ee_rd (rd_addS (rd_addS (rd_slR (rd_v rfl).ss (rd_toI (rd_v rfl))) (rd_v rfl)) (rd_sl2 (rd_v rfl).ss (rd_toI (rd_add (rd_v rfl) (rd_int 1))) (rd_toI (rd_v rfl))))) (fun _ => rfl) (fun _ => .e))))))))) (by delta g26; simp only [M.bind_ok, M.bind_pure, M.bind_ex, eV_fl, fd0_get, fd0_put, fdS_get, fdS_put, cO_fl, cN_fl, cHl_fl, cL_fl, cD_fl, c2_fl, c3_fl, LM, M.bind_assoc, M.chk_bind, M.chk_true, M.map_pure, M.filt_pure, M.map_self, M.filt_self, List.append_nil, id_eq, List.length_cons, List.length_nil, Nat.zero_add, Nat.reduceAdd, Nat.reduceLT, Int.reduceLT, Int.reduceToNat, Int.reducePow, Int.reduceNeg, decide_true, Bool.true_and, Bool.and_true, LIM, (by decide : CDiv 3 = true), (by decide : CDiv 9 = true), (by decide : small 3 = true), (cml 7 (by decide))])
def g28 (cell_1 : Int) (seed_2 : Int) : M Int := (M.chk (CMul (seed_2 + 1) 618033988749894848204586834367) (M.ok ((seed_2 + 1) * 618033988749894848204586834367))).bind fun x_3 =>
 (M.ok (x_3 % 1000000000000000000000000000000)).bind fun far_5 =>
 (g24 cell_1 3).bind fun x_6 =>
 (M.ok (x_6 % 5)).bind fun how_8 =>
 if (decide (how_8 = 4)) = true then
 M.ok (cell_1 % 1000000000000000000000000000000)
 else
 M.of (getI [far_5, far_5, ((far_5 + 1) % 1000000000000000000000000000000), 0] how_8)
theorem k28 (d : Nat) (cell_1 : Int) (seed_2 : Int) : Fk (R (d + 2)) 28 [eInt.en cell_1, eInt.en seed_2] (g28 cell_1 seed_2) (eV eInt) :=
  Fk.cast (fk_mk (L := LM) lib_28 rfl (hd_v (hd_v (hd_n (hd_n hd_z))))
  (st_asg (et := (eV eInt)) (ee_rd (rd_mod (rd_mul (rd_add (rd_v rfl) (rd_int 1)) (rd_int 618033988749894848204586834367)) (rd_pow (rd_int 10) (rd_int 30)))) fun x_4 => (st_asg (et := (eV eInt)) (ee_rd (rd_mod (rd_call (rv_cons (rd_v rfl) (rv_cons (rd_int 3) (rv_nil (v := true)))) (fun x => k24 d x.1 x.2.1)) (rd_int 5))) fun x_7 => (st_ite (rd_eqI (rd_v rfl) (rd_int 4)) (st_ret (g := fun o => o) (ee_rd (rd_mod (rd_v rfl) (rd_pow (rd_int 10) (rd_int 30)))) (fun _ => rfl) (fun _ => .e)) (st_ret (g := fun o => o) (ee_rd (rd_idxQ (rd_lstD (rl_cons (rd_v rfl) (rl_cons (rd_v rfl) (rl_cons (rd_mod (rd_add (rd_v rfl) (rd_int 1)) (rd_pow (rd_int 10) (rd_int 30))) (rl_cons (rd_int 0) (rl_nil (e := eInt))))))).lqE (rd_v rfl))) (fun _ => rfl) (fun _ => .e)))))) (by delta g28; simp only [M.bind_ok, M.bind_pure, M.bind_ex, eV_fl, fd0_get, fd0_put, fdS_get, fdS_put, cO_fl, cN_fl, cHl_fl, cL_fl, cD_fl, c2_fl, c3_fl, LM, M.bind_assoc, M.chk_bind, M.chk_true, M.map_pure, M.filt_pure, M.map_self, M.filt_self, List.append_nil, id_eq, List.length_cons, List.length_nil, Nat.zero_add, Nat.reduceAdd, Nat.reduceLT, Int.reduceLT, Int.reduceToNat, Int.reducePow, Int.reduceNeg, decide_true, Bool.true_and, Bool.and_true, LIM, (by decide : CPow 10 30 = true)])
def g33_1 (seed_1 : Int) : ((List Int) × (List Int)) → M ((List Int) × (List Int)) := fun s_6 => (g24 seed_1 ((50 : Int) + (s_6.1.length : Int))).bind fun x_10 =>
 (M.chk (decide (0 < (s_6.1.length : Int))) (M.ok (x_10 % (s_6.1.length : Int)))).bind fun x_11 =>
 (popI s_6.1 x_11).bind fun r_9 =>
 (M.chk (decide (List.length s_6.2 < 100000)) (M.ok r_9)).bind fun r_9 =>
 M.ok (r_9.2, (s_6.2 ++ [r_9.1]))
def g33_2  : ((List Int) × (List Int)) → M Bool := fun s_6 => M.ok (decide (0 < (s_6.1.length : Int)))
def g33 (seed_1 : Int) (many_2 : Int) : M (List Int) := (M.chk (small many_2) (M.ok (rgI 0 many_2))).bind fun rest_4 =>
 (M.whil g33_2 (g33_1 seed_1) 100000 (rest_4, ([] : List Int))).bind fun s_13 => M.ok s_13.2
theorem k33 (d : Nat) (seed_1 : Int) (many_2 : Int) : Fk (R (d + 2)) 33 [eInt.en seed_1, eInt.en many_2] (g33 seed_1 many_2) (cL (eV eInt)) :=
  Fk.cast (fk_mk (L := LM) lib_33 rfl (hd_v (hd_v (hd_n (hd_n hd_z))))
  (st_asg (et := (cL (eV eInt))) (ee_mutL (rd_rangeL (rd_v rfl))) fun x_3 => (st_asg (et := (cL (eV eInt))) (ee_mut0 (et := (eV eInt))) fun _ => (st_whil (A' := fun (s_6' : ((List Int) × (List Int))) => [.s (eV eInt) seed_1, .s (eV eInt) many_2, .s (cL (eV eInt)) s_6'.1, .s (cL (eV eInt)) s_6'.2]) (s0 := (x_3, ([] : List Int))) (.s (.s (.s (.s .z)))) (fun s_6 => (rd_gtI (rd_lenQ (rd_var rfl).cq) (rd_int 0))) (fun s_6 => (st_expr (ee_appT rfl (ee_pop1 (pl_s (i := 2) rfl) (rd_mod (rd_call (rv_cons (rd_v rfl) (rv_cons (rd_add (rd_int 50) (rd_lenQ (rd_var rfl).cq)) (rv_nil (v := true)))) (fun x => k24 d x.1 x.2.1)) (rd_lenQ (rd_var rfl).cq))) (fun _ => rfl)) fun z_7 => (st_nil (o := (z_7.2.2, (s_6.2 ++ [z_7.2.1]))) rfl (.s (.s (.s (.s .z))))))) fun s_13 => (st_ret (g := fun o => o) (ee_mv rfl) (fun _ => rfl) (fun _ => .e)))))) (by delta g33; delta g33_2; delta g33_1; simp only [M.bind_ok, M.bind_pure, M.bind_ex, eV_fl, fd0_get, fd0_put, fdS_get, fdS_put, cO_fl, cN_fl, cHl_fl, cL_fl, cD_fl, c2_fl, c3_fl, LM, M.bind_assoc, M.chk_bind, M.chk_true, M.map_pure, M.filt_pure, M.map_self, M.filt_self, List.append_nil, id_eq, List.length_cons, List.length_nil, Nat.zero_add, Nat.reduceAdd, Nat.reduceLT, Int.reduceLT, Int.reduceToNat, Int.reducePow, Int.reduceNeg, decide_true, Bool.true_and, Bool.and_true, LIM])
def g34_1  : (List (Int × Int)) → Int → M (List (Int × Int)) := fun s_22 k_23 => (M.chk (small k_23) (M.ok (rg k_23))).bind fun x_27 =>
 (M.chk (decide (List.length x_27 < 100000)) (M.ok (List.map (fun (j_26 : Int) => (j_26, k_23)) x_27))).bind fun x_28 =>
 (M.chk (decide (List.length s_22 + List.length x_28 < 100000)) (M.ok (s_22 ++ x_28))).bind fun r_25 =>
 M.ok r_25
def g34 (seed_1 : Int) (many_2 : Int) : M (List (Int × Int)) := if ((decide ((seed_1 % 6) = 1)) && (decide (1 < many_2))) = true then
 (M.chk (small many_2) (M.ok (rg many_2))).bind fun x_9 =>
 M.chk (decide (List.length x_9 < 100000)) (M.map (fun (k_7 : Int) => (M.chk (decide (0 < many_2)) (M.ok ((k_7 + 1) % many_2))).bind fun x_8 =>
 M.ok (k_7, x_8)) x_9)
 else
 if (decide ((seed_1 % 6) = 2)) = true then
 (M.chk (small many_2) (M.ok (rgI 1 many_2))).bind fun x_12 =>
 M.chk (decide (List.length x_12 < 100000)) (M.ok (List.map (fun (k_11 : Int) => (0, k_11)) x_12))
 else
 if (decide ((seed_1 % 6) = 3)) = true then
 (M.chk (small ((many_2 / 2) - 1)) (M.ok (rg ((many_2 / 2) - 1)))).bind fun x_15 =>
 (M.chk (decide (List.length x_15 < 100000)) (M.ok (List.map (fun (k_14 : Int) => (k_14, (k_14 + 1))) x_15))).bind fun x_18 =>
 (M.chk (small (many_2 / 2) && small (((2 : Int) * (many_2 / 2)) - 1)) (M.ok (rgI (many_2 / 2) (((2 : Int) * (many_2 / 2)) - 1)))).bind fun x_17 =>
 (M.chk (decide (List.length x_17 < 100000)) (M.ok (List.map (fun (k_16 : Int) => (k_16, (k_16 + 1))) x_17))).bind fun x_19 =>
 M.chk (decide (x_18.length + x_19.length < 100000)) (M.ok (x_18 ++ x_19))
 else
 if ((decide ((seed_1 % 6) = 4)) && (decide (many_2 < 6))) = true then
 (M.chk (small many_2) (M.ok (rg many_2))).bind fun x_31 =>
 (M.fold g34_1 ([] : List (Int × Int)) x_31).bind fun s_29 =>
 M.ok s_29
 else
 M.ok ([] : List (Int × Int))
theorem k34 (d : Nat) (seed_1 : Int) (many_2 : Int) : Fk (R (d + 1)) 34 [eInt.en seed_1, eInt.en many_2] (g34 seed_1 many_2) (cL (eV (e2 eInt eInt))) :=
  Fk.cast (fk_mk (L := LM) lib_34 rfl (hd_v (hd_v (hd_n (hd_n (hd_n (hd_n (hd_n hd_z)))))))
  (st_asg (et := (eV eInt)) (ee_rd (rd_mod (rd_v rfl) (rd_int 6))) fun x_3 => (st_asg (et := (eV eInt)) (ee_rd (rd_fdiv (rd_v rfl) (rd_int 2))) fun x_5 => (st_ite (rd_andp (rd_eqI (rd_v rfl) (rd_int 1)) (rd_and1 (rd_gtI (rd_v rfl) (rd_int 1)))) (st_ret (g := fun o => o) (ee_mutL (rd_comp (it_r1 (rd_v rfl)) (bt_1 5) (fun (k_7 : Int) => (rd_tup2 (rd_v rfl) (rd_mod (rd_add (rd_v rfl) (rd_int 1)) (rd_v rfl)))))) (fun _ => rfl) (fun _ => .e)) (st_ite (rd_eqI (rd_v rfl) (rd_int 2)) (st_ret (g := fun o => o) (ee_mutL (rd_comp (it_r2 (rd_int 1) (rd_v rfl)) (bt_1 5) (fun (k_11 : Int) => (rd_tup2 (rd_int 0) (rd_v rfl))))) (fun _ => rfl) (fun _ => .e)) (st_ite (rd_eqI (rd_v rfl) (rd_int 3)) (st_ret (g := fun o => o) (ee_mutL (rd_addL (rd_comp (it_r1 (rd_sub (rd_v rfl) (rd_int 1))) (bt_1 5) (fun (k_14 : Int) => (rd_tup2 (rd_v rfl) (rd_add (rd_v rfl) (rd_int 1))))).la (rd_comp (it_r2 (rd_v rfl) (rd_sub (rd_mul (rd_int 2) (rd_v rfl)) (rd_int 1))) (bt_1 5) (fun (k_16 : Int) => (rd_tup2 (rd_v rfl) (rd_add (rd_v rfl) (rd_int 1))))).la)) (fun _ => rfl) (fun _ => .e)) (st_asg (et := (cL (eV (e2 eInt eInt)))) (ee_mut0 (et := (eV (e2 eInt eInt)))) fun _ => (st_ite (rd_andp (rd_eqI (rd_v rfl) (rd_int 4)) (rd_and1 (rd_ltI (rd_v rfl) (rd_int 6)))) (st_for (A' := fun (s_22' : (List (Int × Int))) => [.s (eV eInt) seed_1, .s (eV eInt) many_2, .s (eV eInt) x_3, .s (eV eInt) x_5, .s (cL (eV (e2 eInt eInt))) s_22', .no, .no]) (s0 := ([] : List (Int × Int))) (it_r1 (rd_v rfl)) (.s (.s (.s (.s (.s (.n (.n .z))))))) (fun s_22 => (bt_1 5)) (fun s_22 k_23 => (st_expr (ee_ext (pl_s (i := 4) rfl) (rd_comp (it_r1 (rd_v rfl)) (bt_1 6) (fun (j_26 : Int) => (rd_tup2 (rd_v rfl) (rd_v rfl))))) fun z_24 => (st_wipe (st_nil (o := z_24.2) rfl (.s (.s (.s (.s (.s (.n (.n .z))))))))))) fun s_29 => (st_ret (g := fun o => o) (ee_mv rfl) (fun _ => rfl) (fun _ => .e))) (st_ret (g := fun o => o) (ee_mv rfl) (fun _ => rfl) (fun _ => .e)))))))))) (by delta g34; delta g34_1; simp only [M.bind_ok, M.bind_pure, M.bind_ex, eV_fl, fd0_get, fd0_put, fdS_get, fdS_put, cO_fl, cN_fl, cHl_fl, cL_fl, cD_fl, c2_fl, c3_fl, LM, M.bind_assoc, M.chk_bind, M.chk_true, M.map_pure, M.filt_pure, M.map_self, M.filt_self, List.append_nil, id_eq, List.length_cons, List.length_nil, Nat.zero_add, Nat.reduceAdd, Nat.reduceLT, Int.reduceLT, Int.reduceToNat, Int.reducePow, Int.reduceNeg, decide_true, Bool.true_and, Bool.and_true, LIM, (by decide : CDiv 2 = true), (by decide : small 1 = true), (cml 2 (by decide))])
def g32_1 (seed_2 : Int) (many_3 : Int) : (List (Int × Int × Int × Bool)) → Int → M (List (Int × Int × Int × Bool)) := fun s_16 cell_17 => (g24 cell_17 8).bind fun draw_19 =>
 if ((decide (1 < many_3)) && ((decide ((s_16.length : Int) < 12)) && ((decide ((seed_2 % 6) = 0)) || (decide ((draw_19 % 6) = 0))))) = true then
 (M.chk (decide (0 < many_3)) (M.ok ((draw_19 / 6) % many_3))).bind fun one_21 =>
 (M.chk (decide (0 < (many_3 - 1))) (M.ok ((draw_19 / 60) % (many_3 - 1)))).bind fun x_22 =>
 (M.chk (decide (0 < many_3)) (M.ok (((one_21 + 1) + x_22) % many_3))).bind fun other_24 =>
 (g28 cell_17 seed_2).bind fun x_27 =>
 (M.chk (decide (List.length s_16 < 100000)) (M.ok (s_16 ++ [(one_21, other_24, x_27, (decide (((draw_19 / 7) % 3) = 0)))]))).bind fun r_26 =>
 if ((decide (((draw_19 / 21) % 5) = 0)) && (decide ((r_26.length : Int) < 12))) = true then
 (M.of (getI r_26 (-1))).bind fun x_30 =>
 (M.chk (decide (List.length r_26 < 100000)) (M.ok (r_26 ++ [x_30]))).bind fun r_29 =>
 M.ok r_29
 else
 M.ok r_26
 else
 M.ok s_16
def g32_2 (cells_here_1 : (List Int)) (seed_2 : Int) : (List (List Nat)) → Int → M (List (List Nat)) := fun s_33 k_34 => (if (decide (((seed_2 / 12) % 2) = 1)) = true then (M.chk (decide (0 < (cells_here_1.length : Int))) (M.ok (k_34 % (cells_here_1.length : Int)))).bind fun x_43 =>
 (M.of (getI cells_here_1 x_43)).bind fun x_44 =>
 (g24 x_44 ((20 : Int) + k_34)).bind fun x_45 =>
 (M.ok (x_45 % 3)).bind fun which_47 =>
 M.ok which_47 else M.ok 0).bind fun s_42 =>
 (g26 seed_2 s_42).bind fun x_50 =>
 (M.chk (decide (List.length s_33 < 100000)) (M.ok (s_33 ++ [x_50]))).bind fun r_49 =>
 M.ok r_49
def g32 (cells_here_1 : (List Int)) (seed_2 : Int) (many_3 : Int) : M ((List (List Nat)) × (List (Int × Int × Int × Bool))) := (g33 seed_2 many_3).bind fun order_5 =>
 (M.chk (CMul (seed_2 + 1) 618033988749894848204586834367) (M.ok ((seed_2 + 1) * 618033988749894848204586834367))).bind fun x_6 =>
 (M.ok (x_6 % 1000000000000000000000000000000)).bind fun far_8 =>
 (g34 seed_2 many_3).bind fun x_13 =>
 (M.chk (decide (List.length x_13 < 100000)) (M.map (fun (one_10 : (Int × Int)) => (M.of (getI order_5 one_10.1)).bind fun x_11 =>
 (M.of (getI order_5 one_10.2)).bind fun x_12 =>
 M.ok (x_11, x_12, far_8, (decide (((seed_2 / 6) % 2) = 1)))) x_13)).bind fun ties_15 =>
 (M.fold (g32_1 seed_2 many_3) ties_15 cells_here_1).bind fun s_31 =>
 (M.chk (small many_3) (M.ok (rg many_3))).bind fun x_55 =>
 (M.fold (g32_2 cells_here_1 seed_2) ([] : List (List Nat)) x_55).bind fun s_51 =>
 M.ok (s_51, s_31)
theorem k32 (d : Nat) (cells_here_1 : (List Int)) (seed_2 : Int) (many_3 : Int) : Fk (R (d + 3)) 32 [(eL eInt).en cells_here_1, eInt.en seed_2, eInt.en many_3] (g32 cells_here_1 seed_2 many_3) (c2 (cL (eV eStr)) (cL (eV (e4 eInt eInt eInt eBool)))) :=
  Fk.cast (fk_mk (L := LM) lib_32 rfl (hd_v (hd_v (hd_v (hd_n (hd_n (hd_n (hd_n (hd_n (hd_n (hd_n (hd_n (hd_n (hd_n hd_z)))))))))))))
  (st_asg (et := (eV (eL eInt))) (ee_rd (rd_call (rv_cons (rd_v rfl) (rv_cons (rd_v rfl) (rv_nil (v := true)))) (fun x => k33 d x.1 x.2.1))) fun x_4 => (st_asg (et := (eV eInt)) (ee_rd (rd_mod (rd_mul (rd_add (rd_v rfl) (rd_int 1)) (rd_int 618033988749894848204586834367)) (rd_pow (rd_int 10) (rd_int 30)))) fun x_7 => (st_asg (et := (cL (eV (e4 eInt eInt eInt eBool)))) (ee_mutL (rd_comp (it_list (rd_call (rv_cons (rd_v rfl) (rv_cons (rd_v rfl) (rv_nil (v := true)))) (fun x => k34 (d + 1) x.1 x.2.1))) (bt_2 11 12) (fun (one_10 : (Int × Int)) => (rd_tup4 (rd_idxQ (rd_v rfl).lqE (rd_v rfl)) (rd_idxQ (rd_v rfl).lqE (rd_v rfl)) (rd_v rfl) (rd_eqI (rd_mod (rd_fdiv (rd_v rfl) (rd_int 6)) (rd_int 2)) (rd_int 1)))))) fun x_14 => (st_for (A' := fun (s_16' : (List (Int × Int × Int × Bool))) => [.s (eV (eL eInt)) cells_here_1, .s (eV eInt) seed_2, .s (eV eInt) many_3, .s (eV (eL eInt)) x_4, .s (eV eInt) x_7, .s (cL (eV (e4 eInt eInt eInt eBool))) s_16', .no, .no, .no, .no, .no, .no, .no]) (s0 := x_14) (it_list (rd_v rfl)) (.s (.s (.s (.s (.s (.s (.n (.n (.n (.n (.n (.n (.n .z))))))))))))) (fun s_16 => (bt_1 6)) (fun s_16 cell_17 => (st_asg (et := (eV eInt)) (ee_rd (rd_call (rv_cons (rd_v rfl) (rv_cons (rd_int 8) (rv_nil (v := true)))) (fun x => k24 (d + 1) x.1 x.2.1))) fun x_18 => (st_ite (rd_andp (rd_gtI (rd_v rfl) (rd_int 1)) (rd_andp (rd_ltI (rd_lenQ (rd_var rfl).cq) (rd_int 12)) (rd_and1 (rd_orp (rd_eqI (rd_mod (rd_v rfl) (rd_int 6)) (rd_int 0)) (rd_or1 (rd_eqI (rd_mod (rd_v rfl) (rd_int 6)) (rd_int 0))))))) (st_asg (et := (eV eInt)) (ee_rd (rd_mod (rd_fdiv (rd_v rfl) (rd_int 6)) (rd_v rfl))) fun x_20 => (st_asg (et := (eV eInt)) (ee_rd (rd_mod (rd_add (rd_add (rd_v rfl) (rd_int 1)) (rd_mod (rd_fdiv (rd_v rfl) (rd_int 60)) (rd_sub (rd_v rfl) (rd_int 1)))) (rd_v rfl))) fun x_23 => (st_expr (ee_app (pl_s (i := 5) rfl) (rd_tup4 (rd_v rfl) (rd_v rfl) (rd_call (rv_cons (rd_v rfl) (rv_cons (rd_v rfl) (rv_nil (v := true)))) (fun x => k28 d x.1 x.2.1)) (rd_eqI (rd_mod (rd_fdiv (rd_v rfl) (rd_int 7)) (rd_int 3)) (rd_int 0)))) fun z_25 => (st_ite (rd_andp (rd_eqI (rd_mod (rd_fdiv (rd_v rfl) (rd_int 21)) (rd_int 5)) (rd_int 0)) (rd_and1 (rd_ltI (rd_lenQ (rd_var rfl).cq) (rd_int 12)))) (st_expr (ee_app (pl_s (i := 5) rfl) (rd_idxQ (rd_var rfl).cq (rd_neg (rd_int 1)))) fun z_28 => (st_wipe (st_nil (o := z_28.2) rfl (.s (.s (.s (.s (.s (.s (.n (.n (.n (.n (.n (.n (.n .z)))))))))))))))) (st_wipe (st_nil (o := z_25.2) rfl (.s (.s (.s (.s (.s (.s (.n (.n (.n (.n (.n (.n (.n .z))))))))))))))))))) (st_wipe (st_nil (o := s_16) rfl (.s (.s (.s (.s (.s (.s (.n (.n (.n (.n (.n (.n (.n .z)))))))))))))))))) fun s_31 => (st_asg (et := (cL (eV eStr))) (ee_mut0 (et := (eV eStr))) fun _ => (st_for (A' := fun (s_33' : (List (List Nat))) => [.s (eV (eL eInt)) cells_here_1, .s (eV eInt) seed_2, .s (eV eInt) many_3, .s (eV (eL eInt)) x_4, .s (eV eInt) x_7, .s (cL (eV (e4 eInt eInt eInt eBool))) s_31, .no, .s (cL (eV eStr)) s_33', .no, .no, .no, .no, .no]) (s0 := ([] : List (List Nat))) (it_r1 (rd_v rfl)) (.s (.s (.s (.s (.s (.s (.n (.s (.n (.n (.n (.n (.n .z))))))))))))) (fun s_33 => (bt_1 8)) (fun s_33 k_34 => (st_asg (et := (eV eInt)) (ee_rd (rd_int 0)) fun x_35 => (st_iteJ (B := fun (s_42' : Int) => [.s (eV (eL eInt)) cells_here_1, .s (eV eInt) seed_2, .s (eV eInt) many_3, .s (eV (eL eInt)) x_4, .s (eV eInt) x_7, .s (cL (eV (e4 eInt eInt eInt eBool))) s_31, .no, .s (cL (eV eStr)) s_33, .s (eV eInt) k_34, .no, .s (eV eInt) s_42', .no, .no]) (rd_eqI (rd_mod (rd_fdiv (rd_v rfl) (rd_int 12)) (rd_int 2)) (rd_int 1)) (st_asg (et := (eV eInt)) (ee_rd (rd_mod (rd_call (rv_cons (rd_idxQ (rd_v rfl).lqE (rd_mod (rd_v rfl) (rd_lenQ (rd_v rfl).lqE))) (rv_cons (rd_add (rd_int 20) (rd_v rfl)) (rv_nil (v := true)))) (fun x => k24 (d + 1) x.1 x.2.1)) (rd_int 3))) fun x_46 => (st_nilX (o := x_46) rfl (.s (.s (.s (.s (.s (.s (.n (.s (.s (.n (.s (.n (.n .z))))))))))))))) (st_nilX (o := x_35) rfl (.s (.s (.s (.s (.s (.s (.n (.s (.s (.n (.s (.n (.n .z)))))))))))))) fun s_42 => (st_expr (ee_app (pl_s (i := 7) rfl) (rd_call (rv_cons (rd_v rfl) (rv_cons (rd_v rfl) (rv_nil (v := true)))) (fun x => k26 (d + 1) x.1 x.2.1))) fun z_48 => (st_wipe (st_nil (o := z_48.2) rfl (.s (.s (.s (.s (.s (.s (.n (.s (.n (.n (.n (.n (.n .z))))))))))))))))))) fun s_51 => (st_ret (g := fun o => o) (ee_tup2 (ee_mv rfl) (fun x_52 => (ee_mv rfl))) (fun _ => rfl) (fun _ => .e))))))))) (by delta g32; delta g32_2; delta g32_1; simp only [M.bind_ok, M.bind_pure, M.bind_ex, eV_fl, fd0_get, fd0_put, fdS_get, fdS_put, cO_fl, cN_fl, cHl_fl, cL_fl, cD_fl, c2_fl, c3_fl, LM, M.bind_assoc, M.chk_bind, M.chk_true, M.map_pure, M.filt_pure, M.map_self, M.filt_self, List.append_nil, id_eq, List.length_cons, List.length_nil, Nat.zero_add, Nat.reduceAdd, Nat.reduceLT, Int.reduceLT, Int.reduceToNat, Int.reducePow, Int.reduceNeg, decide_true, Bool.true_and, Bool.and_true, LIM, (by decide : CDiv 12 = true), (by decide : CDiv 21 = true), (by decide : CDiv 6 = true), (by decide : CDiv 60 = true), (by decide : CDiv 7 = true), (by decide : CPow 10 30 = true)])
def g36 (self_1 : WebT) (one_2 : Int) (other_3 : Int) : M (List (Int × Int)) := M.chk (dkey true (e2 eInt eInt) (one_2, other_3)) (M.ok ((dgetT (e2 eInt eInt) (linksT self_1.2) (one_2, other_3)).getD ([] : List (Int × Int))))
theorem k36 (d : Nat) (self_1 : WebT) (one_2 : Int) (other_3 : Int) : Fk (R (d + 1)) 36 [eWeb.en self_1, eInt.en one_2, eInt.en other_3] (g36 self_1 one_2 other_3) (eV (eT (e2 eInt eInt))) :=
  Fk.cast (fk_mk (L := LM) lib_36 rfl (hd_v (hd_v (hd_v hd_z)))
  (st_ret (g := fun o => o) (ee_rd (rd_get2 (rd_fld (e := eWeb) (e' := (eD true (e2 eInt eInt) (eT (e2 eInt eInt)))) (fun (x : WebT) => linksT x.2) fld_links (rd_v rfl)).da (rd_tup2 (rd_v rfl) (rd_v rfl)) (rd_tupH (rl_nil (e := (e2 eInt eInt)))))) (fun _ => rfl) (fun _ => .e))) (by delta g36; simp only [M.bind_ok, M.bind_pure, M.bind_ex, eV_fl, fd0_get, fd0_put, fdS_get, fdS_put, cO_fl, cN_fl, cHl_fl, cL_fl, cD_fl, c2_fl, c3_fl, LM, M.bind_assoc, M.chk_bind, M.chk_true, M.map_pure, M.filt_pure, M.map_self, M.filt_self, List.append_nil, id_eq, List.length_cons, List.length_nil, Nat.zero_add, Nat.reduceAdd, Nat.reduceLT, Int.reduceLT, Int.reduceToNat, Int.reducePow, Int.reduceNeg, decide_true, Bool.true_and, Bool.and_true, LIM])
def g12 (found_1 : Int) : M Bool := M.ok (true && (!false))
theorem k12 (d : Nat) (found_1 : Int) : Fk (R (d + 1)) 12 [eInt.en found_1] (g12 found_1) (eV eBool) :=
  Fk.cast (fk_mk (L := LM) lib_12 rfl (hd_v hd_z)
  (st_ret (g := fun o => o) (ee_rd (rd_andp (rd_isi true (isi_h (fun _ _ => rfl)) (rd_v rfl)) (rd_and1 (rd_not (rd_isi false (isi_h (fun _ _ => rfl)) (rd_v rfl)))))) (fun _ => rfl) (fun _ => .e))) (by delta g12; simp only [M.bind_ok, M.bind_pure, M.bind_ex, eV_fl, fd0_get, fd0_put, fdS_get, fdS_put, cO_fl, cN_fl, cHl_fl, cL_fl, cD_fl, c2_fl, c3_fl, LM, M.bind_assoc, M.chk_bind, M.chk_true, M.map_pure, M.filt_pure, M.map_self, M.filt_self, List.append_nil, id_eq, List.length_cons, List.length_nil, Nat.zero_add, Nat.reduceAdd, Nat.reduceLT, Int.reduceLT, Int.reduceToNat, Int.reducePow, Int.reduceNeg, decide_true, Bool.true_and, Bool.and_true, LIM])
def g39_1  : Unit → ((Int × Int) × (Int × Int)) → M (Fl Unit Bool) := fun s_4 one_5 => (if (!true) = true then M.ok true else if (!(decide ((2 : Int) = 2))) = true then M.ok true else (eqM (e2 eInt eInt) one_5.1 one_5.2).bind fun q => M.ok (!q)).bind fun x_11 =>
 if x_11 = true then
 M.ok (Fl.rt false)
 else
 (g12 one_5.1.1).bind fun x_7 =>
 (if (!x_7) = true then M.ok true else (g12 one_5.1.2).bind fun x_8 =>
 M.ok (!x_8)).bind fun x_10 =>
 if x_10 = true then
 M.ok (Fl.rt false)
 else
 M.ok (Fl.nx ())
def g39 (found_1 : (List (Int × Int))) (due_2 : (List (Int × Int))) : M Bool := if ((!true) || (!(decide ((found_1.length : Int) = (due_2.length : Int))))) = true then
 M.ok false
 else
 (M.foldF g39_1 () (List.zip found_1 due_2)).bind fun z => z.elim (fun _ =>
 M.ok true) (fun r => M.ok r)
theorem k39 (d : Nat) (found_1 : (List (Int × Int))) (due_2 : (List (Int × Int))) : Fk (R (d + 2)) 39 [(eT (e2 eInt eInt)).en found_1, (eT (e2 eInt eInt)).en due_2] (g39 found_1 due_2) (eV eBool) :=
  Fk.cast (fk_mk (L := LM) lib_39 rfl (hd_v (hd_v (hd_n (hd_n hd_z))))
  (st_ite (rd_orp (rd_not (rd_isi true (isi_h (fun _ _ => rfl)) (rd_v rfl))) (rd_or1 (rd_neI (rd_lenQ (rd_v rfl).tq) (rd_lenQ (rd_v rfl).tq)))) (st_ret (g := fun o => o) (ee_rd (rd_bl false)) (fun _ => rfl) (fun _ => .e)) (st_forF (A' := fun (s_4' : Unit) => [.s (eV (eT (e2 eInt eInt))) found_1, .s (eV (eT (e2 eInt eInt))) due_2, .no, .no]) (s0 := ()) (tr := (eV eBool).tr) (Ar := fun _ => []) (inj := id) (it_zipH (rd_v rfl) (rd_v rfl)) (.s (.s (.n (.n .z)))) (fun s_4 => (bt_2 2 3)) (fun s_4 one_5 => (st_ite (rd_or (rd_not (rd_isi true (isi_h (fun _ _ => rfl)) (rd_v rfl))) (rd_or (rd_neI (rd_lenP 2 (fun _ _ => rfl) (rd_v rfl)) (rd_int 2)) (rd_or1 (rd_neA (rd_v rfl).ea (rd_v rfl).ea)))) (st_ret (g := fun o => Fl.rt o) (ee_rd (rd_bl false)) (fun _ => rfl) (fun _ => .e)) (st_ite (rd_or (rd_not (rd_call (rv_cons (rd_prj (k := 0) (e := (e2 eInt eInt)) (e' := eInt) (fun (x : (Int × Int)) => x.1) (fun _ _ => rfl) (rd_v rfl)) (rv_nil (v := true))) (fun x => k12 d x.1))) (rd_or1 (rd_not (rd_call (rv_cons (rd_prj (k := 1) (e := (e2 eInt eInt)) (e' := eInt) (fun (x : (Int × Int)) => x.2) (fun _ _ => rfl) (rd_v rfl)) (rv_nil (v := true))) (fun x => k12 d x.1))))) (st_ret (g := fun o => Fl.rt o) (ee_rd (rd_bl false)) (fun _ => rfl) (fun _ => .e)) (st_wipe (st_nil (o := Fl.nx ()) rfl (.s (.s (.n (.n .z))))))))) (fun _ => rfl) fun s_12 => (st_ret (g := fun o => o) (ee_rd (rd_bl true)) (fun _ => rfl) (fun _ => .e))))) (by delta g39; delta g39_1; simp only [M.bind_ok, M.bind_pure, M.bind_ex, eV_fl, fd0_get, fd0_put, fdS_get, fdS_put, cO_fl, cN_fl, cHl_fl, cL_fl, cD_fl, c2_fl, c3_fl, LM, M.bind_assoc, M.chk_bind, M.chk_true, M.map_pure, M.filt_pure, M.map_self, M.filt_self, List.append_nil, id_eq, List.length_cons, List.length_nil, Nat.zero_add, Nat.reduceAdd, Nat.reduceLT, Int.reduceLT, Int.reduceToNat, Int.reducePow, Int.reduceNeg, decide_true, Bool.true_and, Bool.and_true, LIM])
def g38 (self_1 : WebT) (place_2 : Int) : M (List Int) := (M.chk (small (self_1.1.length : Int)) (M.ok (rg (self_1.1.length : Int)))).bind fun x_4 =>
 M.chk (decide (List.length x_4 < 100000)) (M.filt (fun (other_3 : Int) => M.chk (dkey true (e2 eInt eInt) (place_2, other_3)) (M.ok (dhasT (e2 eInt eInt) (linksT self_1.2) (place_2, other_3)))) (fun (other_3 : Int) => M.ok other_3) x_4)
theorem k38 (d : Nat) (self_1 : WebT) (place_2 : Int) : Fk (R (d + 1)) 38 [eWeb.en self_1, eInt.en place_2] (g38 self_1 place_2) (cL (eV eInt)) :=
  Fk.cast (fk_mk (L := LM) lib_38 rfl (hd_v (hd_v (hd_n hd_z)))
  (st_ret (g := fun o => o) (ee_mutL (rd_compF (it_r1 (rd_lenQ (rd_fld (e := eWeb) (e' := (eL eStr)) (fun (x : WebT) => x.1) (fun _ _ => rfl) (rd_v rfl)).lqE)) (bt_1 2) (fun (other_3 : Int) => (rd_v rfl)) (fun (other_3 : Int) => (rd_inD (rd_tup2 (rd_v rfl) (rd_v rfl)) (rd_fld (e := eWeb) (e' := (eD true (e2 eInt eInt) (eT (e2 eInt eInt)))) (fun (x : WebT) => linksT x.2) fld_links (rd_v rfl)).da)))) (fun _ => rfl) (fun _ => .e))) (by delta g38; simp only [M.bind_ok, M.bind_pure, M.bind_ex, eV_fl, fd0_get, fd0_put, fdS_get, fdS_put, cO_fl, cN_fl, cHl_fl, cL_fl, cD_fl, c2_fl, c3_fl, LM, M.bind_assoc, M.chk_bind, M.chk_true, M.map_pure, M.filt_pure, M.map_self, M.filt_self, List.append_nil, id_eq, List.length_cons, List.length_nil, Nat.zero_add, Nat.reduceAdd, Nat.reduceLT, Int.reduceLT, Int.reduceToNat, Int.reducePow, Int.reduceNeg, decide_true, Bool.true_and, Bool.and_true, LIM])
def g683_1  : Int → Int → M (Fl Unit Bool) := fun one_13 want_14 => (g12 one_13).bind fun x_15 =>
 if ((!x_15) || (!(decide (one_13 = want_14)))) = true then
 M.ok (Fl.rt false)
 else
 M.ok (Fl.nx ())
def g683 (web_here_1 : WebT) (table_here_2 : (List ((Int × Int) × (List (Int × Int))))) (many_3 : Int) (place_4 : Int) : M Bool := (g38 web_here_1 place_4).bind fun found_6 =>
 (M.chk (small many_3) (M.ok (rg many_3))).bind fun x_9 =>
 (M.chk (decide (List.length x_9 < 100000)) (M.filt (fun (other_7 : Int) => if (!(decide (other_7 = place_4))) = true then (M.chk (dkey true (e2 eInt eInt) (place_4, other_7)) (M.of (dgetT (e2 eInt eInt) table_here_2 (place_4, other_7)))).bind fun x_8 =>
 (eqM (eT (e2 eInt eInt)) x_8 ([] : List (Int × Int))).bind fun q => M.ok (!q) else M.ok false) (fun (other_7 : Int) => M.ok other_7) x_9)).bind fun due_11 =>
 if ((!true) || (!(decide ((found_6.length : Int) = (due_11.length : Int))))) = true then
 M.ok false
 else
 (M.chk (decide (List.length found_6 < 100000)) (M.foldF (fun _ (p : Int × Int) => g683_1 p.1 p.2) () (List.zip found_6 due_11))).bind fun z => z.elim (fun _ =>
 (M.chk (decide (List.length found_6 < 100000)) (M.ok (found_6 ++ [place_4]))).bind fun _ =>
 M.ok true) (fun r => M.ok r)
theorem k683 (d : Nat) (web_here_1 : WebT) (table_here_2 : (List ((Int × Int) × (List (Int × Int))))) (many_3 : Int) (place_4 : Int) : Fk (R (d + 2)) 683 [eWeb.en web_here_1, (eD true (e2 eInt eInt) (eT (e2 eInt eInt))).en table_here_2, eInt.en many_3, eInt.en place_4] (g683 web_here_1 table_here_2 many_3 place_4) (eV eBool) :=
  Fk.cast (fk_mk (L := LM) lib_683 rfl (hd_v (hd_v (hd_v (hd_v (hd_n (hd_n (hd_n (hd_n (hd_n hd_z)))))))))
  (st_asg (et := (cL (eV eInt))) (ee_madopt (rd_v rfl) (rv_cons (rd_v rfl) (rv_nil (v := true))) (fun b x => k38 d b x.1) (fun _ _ => ⟨_, rfl⟩)) fun x_5 => (st_asg (et := (eV (eL eInt))) (ee_rd (rd_compF (it_r1 (rd_v rfl)) (bt_1 8) (fun (other_7 : Int) => (rd_v rfl)) (fun (other_7 : Int) => (rd_and (rd_neI (rd_v rfl) (rd_v rfl)) (rd_and1 (rd_neA (rd_idxD (rd_v rfl).da (rd_tup2 (rd_v rfl) (rd_v rfl))).ea (rd_tupH (rl_nil (e := (e2 eInt eInt)))).ea)))))) fun x_10 => (st_ite (rd_orp (rd_not (rd_isi true (isi_hL isi_LL) (rd_var rfl))) (rd_or1 (rd_neI (rd_lenQ (rd_var rfl).cq) (rd_lenQ (rd_v rfl).lqE)))) (st_ret (g := fun o => o) (ee_rd (rd_bl false)) (fun _ => rfl) (fun _ => .e)) (st_lookZ (i := 6) (j := 7) (e := eBool) (inj := id) (by decide) (rd_var rfl) (rd_v rfl) (fun one_13 want_14 => (lk_ite (rd_orp (rd_not (rd_call (rv_cons (rd_v rfl) (rv_nil (v := true))) (fun x => k12 d x.1))) (rd_or1 (rd_neI (rd_v rfl) (rd_v rfl)))) (lk_ret (rd_bl false)) (lk_wipe (no_all rfl)))) rfl rfl (fun _ => rfl) (st_expr (ee_app (pl_s (i := 4) rfl) (rd_v rfl)) fun z_16 => (st_ret (g := fun o => o) (ee_rd (rd_bl true)) (fun _ => rfl) (fun _ => .e)))))))) (by delta g683; delta g683_1; simp only [M.bind_ok, M.bind_pure, M.bind_ex, eV_fl, fd0_get, fd0_put, fdS_get, fdS_put, cO_fl, cN_fl, cHl_fl, cL_fl, cD_fl, c2_fl, c3_fl, LM, M.bind_assoc, M.chk_bind, M.chk_true, M.map_pure, M.filt_pure, M.map_self, M.filt_self, List.append_nil, id_eq, List.length_cons, List.length_nil, Nat.zero_add, Nat.reduceAdd, Nat.reduceLT, Int.reduceLT, Int.reduceToNat, Int.reducePow, Int.reduceNeg, decide_true, Bool.true_and, Bool.and_true, LIM])
def g684_1 (web_here_1 : WebT) (table_here_2 : (List ((Int × Int) × (List (Int × Int))))) (one_6 : Int) : Unit → Int → M (Fl Unit Bool) := fun s_9 other_10 => if (!(decide (one_6 = other_10))) = true then
 (g36 web_here_1 one_6 other_10).bind fun found_12 =>
 (M.chk (dkey true (e2 eInt eInt) (one_6, other_10)) (M.of (dgetT (e2 eInt eInt) table_here_2 (one_6, other_10)))).bind fun x_13 =>
 (g39 found_12 x_13).bind fun x_14 =>
 if (!x_14) = true then
 M.ok (Fl.rt false)
 else
 M.ok (Fl.nx ())
 else
 M.ok (Fl.nx ())
def g684_2 (web_here_1 : WebT) (table_here_2 : (List ((Int × Int) × (List (Int × Int))))) (many_3 : Int) (places_4 : (List Int)) : Unit → Int → M (Fl Unit Bool) := fun s_5 one_6 => (g683 web_here_1 table_here_2 many_3 one_6).bind fun x_7 =>
 if (!x_7) = true then
 M.ok (Fl.rt false)
 else
 (M.foldF (g684_1 web_here_1 table_here_2 one_6) () places_4).bind fun z => z.elim (fun _ =>
 M.ok (Fl.nx ())) (fun r => M.ok (Fl.rt r))
def g684 (web_here_1 : WebT) (table_here_2 : (List ((Int × Int) × (List (Int × Int))))) (many_3 : Int) (places_4 : (List Int)) : M Bool := (M.foldF (g684_2 web_here_1 table_here_2 many_3 places_4) () places_4).bind fun z => z.elim (fun _ =>
 M.ok true) (fun r => M.ok r)
theorem k684 (d : Nat) (web_here_1 : WebT) (table_here_2 : (List ((Int × Int) × (List (Int × Int))))) (many_3 : Int) (places_4 : (List Int)) : Fk (R (d + 3)) 684 [eWeb.en web_here_1, (eD true (e2 eInt eInt) (eT (e2 eInt eInt))).en table_here_2, eInt.en many_3, (eL eInt).en places_4] (g684 web_here_1 table_here_2 many_3 places_4) (eV eBool) :=
  Fk.cast (fk_mk (L := LM) lib_684 rfl (hd_v (hd_v (hd_v (hd_v (hd_n (hd_n (hd_n hd_z)))))))
  (st_forF (A' := fun (s_5' : Unit) => [.s (eV eWeb) web_here_1, .s (eV (eD true (e2 eInt eInt) (eT (e2 eInt eInt)))) table_here_2, .s (eV eInt) many_3, .s (eV (eL eInt)) places_4, .no, .no, .no]) (s0 := ()) (tr := (eV eBool).tr) (Ar := fun _ => []) (inj := id) (it_list (rd_v rfl)) (.s (.s (.s (.s (.n (.n (.n .z))))))) (fun s_5 => (bt_1 4)) (fun s_5 one_6 => (st_ite (rd_not (rd_call (rv_cons (rd_v rfl) (rv_cons (rd_v rfl) (rv_cons (rd_v rfl) (rv_cons (rd_v rfl) (rv_nil (v := true)))))) (fun x => k683 d x.1 x.2.1 x.2.2.1 x.2.2.2.1))) (st_ret (g := fun o => Fl.rt o) (ee_rd (rd_bl false)) (fun _ => rfl) (fun _ => .e)) (st_forF (A' := fun (s_9' : Unit) => [.s (eV eWeb) web_here_1, .s (eV (eD true (e2 eInt eInt) (eT (e2 eInt eInt)))) table_here_2, .s (eV eInt) many_3, .s (eV (eL eInt)) places_4, .s (eV eInt) one_6, .no, .no]) (s0 := ()) (tr := (eV eBool).tr) (Ar := fun _ => []) (inj := Fl.rt) (it_list (rd_v rfl)) (.s (.s (.s (.s (.s (.n (.n .z))))))) (fun s_9 => (bt_1 5)) (fun s_9 other_10 => (st_ite (rd_neI (rd_v rfl) (rd_v rfl)) (st_asg (et := (eV (eT (e2 eInt eInt)))) (ee_rd (rd_mcall (rd_v rfl) (rv_cons (rd_v rfl) (rv_cons (rd_v rfl) (rv_nil (v := true)))) (fun b x => k36 (d + 1) b x.1 x.2.1) (fun _ _ => ⟨_, rfl⟩))) fun x_11 => (st_ite (rd_not (rd_call (rv_cons (rd_v rfl) (rv_cons (rd_idxD (rd_v rfl).da (rd_tup2 (rd_v rfl) (rd_v rfl))) (rv_nil (v := true)))) (fun x => k39 d x.1 x.2.1))) (st_ret (g := fun o => Fl.rt o) (ee_rd (rd_bl false)) (fun _ => rfl) (fun _ => .e)) (st_wipe (st_nil (o := Fl.nx ()) rfl (.s (.s (.s (.s (.s (.n (.n .z))))))))))) (st_wipe (st_nil (o := Fl.nx ()) rfl (.s (.s (.s (.s (.s (.n (.n .z))))))))))) (fun _ => rfl) fun s_16 => (st_wipe (st_nil (o := Fl.nx ()) rfl (.s (.s (.s (.s (.n (.n (.n .z)))))))))))) (fun _ => rfl) fun s_17 => (st_ret (g := fun o => o) (ee_rd (rd_bl true)) (fun _ => rfl) (fun _ => .e)))) (by delta g684; delta g684_2; delta g684_1; simp only [M.bind_ok, M.bind_pure, M.bind_ex, eV_fl, fd0_get, fd0_put, fdS_get, fdS_put, cO_fl, cN_fl, cHl_fl, cL_fl, cD_fl, c2_fl, c3_fl, LM, M.bind_assoc, M.chk_bind, M.chk_true, M.map_pure, M.filt_pure, M.map_self, M.filt_self, List.append_nil, id_eq, List.length_cons, List.length_nil, Nat.zero_add, Nat.reduceAdd, Nat.reduceLT, Int.reduceLT, Int.reduceToNat, Int.reducePow, Int.reduceNeg, decide_true, Bool.true_and, Bool.and_true, LIM])
def g685_1 (script_1 : (List Int)) : (List (WebT × (List ((Int × Int) × (List (Int × Int)))) × Int)) → Int → M (List (WebT × (List ((Int × Int) × (List (Int × Int)))) × Int)) := fun s_3 at_4 => (g29 script_1 at_4 14).bind fun cells_here_6 =>
 (M.of (getI cells_here_6 0)).bind fun x_7 =>
 (g24 x_7 1).bind fun seed_9 =>
 (M.of (getI cells_here_6 0)).bind fun x_10 =>
 (g24 x_10 2).bind fun x_11 =>
 (g32 (cut cells_here_6 (some 1) none) seed_9 ((1 : Int) + (x_11 % 7))).bind fun p_12 =>
 (newWeb p_12.1 p_12.2).bind fun x_15 =>
 (g31 (p_12.1.length : Int) p_12.2).bind fun x_16 =>
 (M.chk (decide (List.length s_3 < 100000)) (M.ok (s_3 ++ [(x_15, x_16, (p_12.1.length : Int))]))).bind fun r_14 =>
 M.ok r_14
def g685_2  : Unit → (WebT × (List ((Int × Int) × (List (Int × Int)))) × Int) → M (Fl Unit Bool) := fun s_18 web_here_19 => (M.chk (small web_here_19.2.2) (M.ok (rgI 0 web_here_19.2.2))).bind fun x_20 =>
 (g684 web_here_19.1 web_here_19.2.1 web_here_19.2.2 x_20).bind fun x_21 =>
 if (!x_21) = true then
 M.ok (Fl.rt false)
 else
 M.ok (Fl.nx ())
def g685_3  : Unit → (WebT × (List ((Int × Int) × (List (Int × Int)))) × Int) → M (Fl Unit Bool) := fun s_24 web_here_26 => (M.chk (small web_here_26.2.2) (M.ok ((List.range (Int.toNat web_here_26.2.2)).map fun (j : Nat) => web_here_26.2.2 - 1 - (j : Int)))).bind fun x_27 =>
 (g684 web_here_26.1 web_here_26.2.1 web_here_26.2.2 x_27).bind fun x_28 =>
 if (!x_28) = true then
 M.ok (Fl.rt false)
 else
 M.ok (Fl.nx ())
def g685 (script_1 : (List Int)) : M Bool := (M.ok ([] : List (WebT × (List ((Int × Int) × (List (Int × Int)))) × Int))).bind fun held_2 =>
 (M.chk (small (if (1 : Int) < (script_1.length : Int) then (script_1.length : Int) else (1 : Int))) (M.ok (rgS 0 (if (1 : Int) < (script_1.length : Int) then (script_1.length : Int) else (1 : Int)) 14))).bind fun x_33 =>
 (M.fold (g685_1 script_1) held_2 x_33).bind fun s_17 =>
 (M.foldF g685_2 () s_17).bind fun z => z.elim (fun _ =>
 (M.chk (decide (List.length s_17 < 100000)) (M.ok (List.reverse s_17))).bind fun x_32 =>
 (M.foldF g685_3 () x_32).bind fun z => z.elim (fun _ =>
 M.ok true) (fun r => M.ok r)) (fun r => M.ok r)
theorem k685 (d : Nat) (script_1 : (List Int)) : Fk (R (d + 4)) 685 [eK.en script_1] (g685 script_1) (eV eBool) :=
  Fk.cast (fk_mk (L := LM) lib_685 rfl (hd_v (hd_n (hd_n (hd_n (hd_n (hd_n (hd_n (hd_n (hd_n (hd_n hd_z))))))))))
  (st_asg (et := (cL (eV (e3 eWeb (eD true (e2 eInt eInt) (eT (e2 eInt eInt))) eInt)))) (ee_mut0 (et := (eV (e3 eWeb (eD true (e2 eInt eInt) (eT (e2 eInt eInt))) eInt)))) fun _ => (st_for (A' := fun (s_3' : (List (WebT × (List ((Int × Int) × (List (Int × Int)))) × Int))) => [.s (eV eK) script_1, .s (cL (eV (e3 eWeb (eD true (e2 eInt eInt) (eT (e2 eInt eInt))) eInt))) s_3', .no, .no, .no, .no, .no, .no, .no, .no]) (s0 := ([] : List (WebT × (List ((Int × Int) × (List (Int × Int)))) × Int))) (it_r3s (rd_int 0) (rd_max (rd_int 1) (rd_lenQ (rd_v rfl).kq)) (rd_int 14)) (.s (.s (.n (.n (.n (.n (.n (.n (.n (.n .z)))))))))) (fun s_3 => (bt_1 2)) (fun s_3 at_4 => (st_asg (et := (eV (eL eInt))) (ee_rd (rd_call (rv_cons (rd_v rfl) (rv_cons (rd_v rfl) (rv_cons (rd_int 14) (rv_nil (v := true))))) (fun x => k29 (d + 2) x.1 x.2.1 x.2.2.1))) fun x_5 => (st_asg (et := (eV eInt)) (ee_rd (rd_call (rv_cons (rd_idxQ (rd_v rfl).lqE (rd_int 0)) (rv_cons (rd_int 1) (rv_nil (v := true)))) (fun x => k24 (d + 2) x.1 x.2.1))) fun x_8 => (st_asgT (rd_call (rv_cons (rd_slL (rd_v rfl).la.sa (rd_toI (rd_int 1))) (rv_cons (rd_v rfl) (rv_cons (rd_add (rd_int 1) (rd_mod (rd_call (rv_cons (rd_idxQ (rd_v rfl).lqE (rd_int 0)) (rv_cons (rd_int 2) (rv_nil (v := true)))) (fun x => k24 (d + 2) x.1 x.2.1)) (rd_int 7))) (rv_nil (v := true))))) (fun x => k32 d x.1 x.2.1 x.2.2.1)) (bt_2 8 9) fun p_12 => (st_expr (ee_app (pl_s (i := 1) rfl) (rd_tup3 (rd_new (rv_cons (rd_v rfl) (rv_cons (rd_v rfl) (rv_nil (v := true)))) (fun x => nk_web (d + 1) x.1 x.2.1)) (rd_call (rv_cons (rd_lenQ (rd_v rfl).lqE) (rv_cons (rd_v rfl) (rv_nil (v := true)))) (fun x => k31 (d + 2) x.1 x.2.1)) (rd_lenQ (rd_v rfl).lqE))) fun z_13 => (st_wipe (st_nil (o := z_13.2) rfl (.s (.s (.n (.n (.n (.n (.n (.n (.n (.n .z))))))))))))))))) fun s_17 => (st_frzL rfl (st_forF (A' := fun (s_18' : Unit) => [.s (eV eK) script_1, .s (eV (eL (e3 eWeb (eD true (e2 eInt eInt) (eT (e2 eInt eInt))) eInt))) s_17, .no, .no, .no, .no, .no, .no, .no, .no]) (s0 := ()) (tr := (eV eBool).tr) (Ar := fun _ => []) (inj := id) (it_list (rd_v rfl)) (.s (.s (.n (.n (.n (.n (.n (.n (.n (.n .z)))))))))) (fun s_18 => (bt_3 5 6 7)) (fun s_18 web_here_19 => (st_ite (rd_not (rd_call (rv_cons (rd_v rfl) (rv_cons (rd_v rfl) (rv_cons (rd_v rfl) (rv_cons (rd_rangeL (rd_v rfl)) (rv_nil (v := true)))))) (fun x => k684 d x.1 x.2.1 x.2.2.1 x.2.2.2.1))) (st_ret (g := fun o => Fl.rt o) (ee_rd (rd_bl false)) (fun _ => rfl) (fun _ => .e)) (st_wipe (st_nil (o := Fl.nx ()) rfl (.s (.s (.n (.n (.n (.n (.n (.n (.n (.n .z)))))))))))))) (fun _ => rfl) fun s_23 => (st_forF (A' := fun (s_24' : Unit) => [.s (eV eK) script_1, .s (eV (eL (e3 eWeb (eD true (e2 eInt eInt) (eT (e2 eInt eInt))) eInt))) s_17, .no, .no, .no, .no, .no, .no, .no, .no]) (s0 := ()) (tr := (eV eBool).tr) (Ar := fun _ => []) (inj := id) (it_list (rd_listRev (rd_v rfl).la)) (.s (.s (.n (.n (.n (.n (.n (.n (.n (.n .z)))))))))) (fun s_24 => (bt_3 5 6 7)) (fun s_24 web_here_26 => (st_ite (rd_not (rd_call (rv_cons (rd_v rfl) (rv_cons (rd_v rfl) (rv_cons (rd_v rfl) (rv_cons (rd_listRevR (rd_v rfl)) (rv_nil (v := true)))))) (fun x => k684 d x.1 x.2.1 x.2.2.1 x.2.2.2.1))) (st_ret (g := fun o => Fl.rt o) (ee_rd (rd_bl false)) (fun _ => rfl) (fun _ => .e)) (st_wipe (st_nil (o := Fl.nx ()) rfl (.s (.s (.n (.n (.n (.n (.n (.n (.n (.n .z)))))))))))))) (fun _ => rfl) fun s_30 => (st_ret (g := fun o => o) (ee_rd (rd_bl true)) (fun _ => rfl) (fun _ => .e)))))))) (by delta g685; delta g685_3; delta g685_2; delta g685_1; simp only [M.bind_ok, M.bind_pure, M.bind_ex, eV_fl, fd0_get, fd0_put, fdS_get, fdS_put, cO_fl, cN_fl, cHl_fl, cL_fl, cD_fl, c2_fl, c3_fl, LM, M.bind_assoc, M.chk_bind, M.chk_true, M.map_pure, M.filt_pure, M.map_self, M.filt_self, List.append_nil, id_eq, List.length_cons, List.length_nil, Nat.zero_add, Nat.reduceAdd, Nat.reduceLT, Int.reduceLT, Int.reduceToNat, Int.reducePow, Int.reduceNeg, decide_true, Bool.true_and, Bool.and_true, LIM, (by decide : small 0 = true)])
end TwL

namespace TwL
open Tw
variable {α β γ σ τ : Type}
theorem chk_of {b : Bool} {m : M α} (h : b = true) : M.chk b m = m := by rw [h]; rfl
theorem chk_dec {p : Prop} [Decidable p] {m : M α} (h : p) : M.chk (decide p) m = m := chk_of (decide_eq_true h)
theorem getI_ok {xs : List α} {i : Int} (h0 : 0 ≤ i) (h1 : i < xs.length) : ∃ x, x ∈ xs ∧ xs[i.toNat]? = some x ∧ getI xs i = some x := by
  have hl : i.toNat < xs.length := by omega
  refine ⟨xs[i.toNat], List.getElem_mem hl, List.getElem?_eq_getElem hl, ?_⟩
  have e : Tw.ixN xs.length i = some i.toNat := by
    unfold Tw.ixN
    rw [if_pos h0, if_pos (by omega)]
  simp [getI, e, hl]
theorem ixN_last {n : Nat} (h : 0 < n) : Tw.ixN n (-1) = some (n - 1) := by
  unfold Tw.ixN
  rw [if_neg (by omega), if_pos (by omega)]
  congr 1
  omega
theorem getI_last {xs : List α} {x : α} : getI (xs ++ [x]) (-1) = some x := by
  simp [getI, ixN_last]
theorem small_of {n : Int} (h : n.natAbs < 100000) : small n = true := decide_eq_true h
theorem small_nat {n : Nat} (h : n < 100000) : small (n : Int) = true := small_of (by omega)
theorem rg_len (n : Nat) : (rg (n : Int)).length = n := by simp [rg]
theorem rg_nat (n : Nat) : rg (n : Int) = (List.range n).map fun (k : Nat) => (k : Int) := by simp [rg]
theorem mem_rg {n : Nat} {x : Int} : x ∈ rg (n : Int) ↔ 0 ≤ x ∧ x < n := by
  simp only [rg_nat, List.mem_map, List.mem_range]
  constructor
  · rintro ⟨k, h, rfl⟩; omega
  · rintro ⟨h1, h2⟩; exact ⟨x.toNat, by omega, by omega⟩
theorem rgI_zero (n : Int) : rgI 0 n = rg n := by simp [rgI, rg]
theorem rg_pw (n : Int) : (rg n).Pairwise (· < ·) := by
  unfold rg
  rw [List.pairwise_map]
  exact List.pairwise_lt_range.imp fun h => by omega
theorem rg_nodup (n : Int) : (rg n).Nodup := (rg_pw n).imp fun h => by omega
theorem rg_get {n j : Nat} (h : j < (rg (n : Int)).length) : (rg (n : Int))[j] = (j : Int) := by simp [rg]
theorem fold_rg {f : σ → Int → M σ} {n : Nat} (P : Nat → σ → Prop) (st : ∀ (j : Nat), j < n → ∀ s, P j s → ∃ s', f s (j : Int) = .ok s' ∧ P (j + 1) s') {s : σ} (h : P 0 s) : ∃ s', M.fold f s (rg (n : Int)) = .ok s' ∧ P n s' := by
  have := M.fold_at (f := f) (all := rg (n : Int)) P (fun j hj s hs => by
    rw [rg_get hj]
    exact st j (by rwa [rg_len] at hj) s hs) h
  rwa [rg_len] at this
theorem dkey_pair (x : Int × Int) : dkey true (e2 eInt eInt) x = true := rfl
theorem eqP (x y : Int × Int) : eqW ((e2 eInt eInt).en x) ((e2 eInt eInt).en y) = decide (x = y) := eqE x y
theorem foldF_nx {f : σ → α → M (Fl σ τ)} {s : σ} : ∀ {xs : List α}, (∀ x ∈ xs, f s x = .ok (.nx s)) → M.foldF f s xs = .ok (.nx s)
  | [], _ => rfl
  | x :: xs, h => by
    rw [M.foldF_cons, h x (by simp)]
    exact foldF_nx fun y hy => h y (by simp [hy])
theorem small_max (n : Nat) : small (if (1 : Int) < (n : Int) then (n : Int) else 1) = decide (n < 100000) := by
  unfold small
  split
  · simp
  · have : n < 100000 := by omega
    simp [this]
    decide
end TwL

namespace TwL
open Tw
theorem cmul_r {a b : Int} (h : b.natAbs < 2 ^ 64) : CMul a b = true := cmr b (decide_eq_true h) a
theorem cmul_l {a b : Int} (h : a.natAbs < 2 ^ 64) : CMul a b = true := cml a (decide_eq_true h) b
def mix (c k : Int) : Int := ((c % 2147483647 + 1 + 7919 * k * k) * 48271 % 2147483629) * ((c % 2147483647 + 1 + 7919 * k * k) * 48271 % 2147483629) % 998244353
theorem mix_rng (c k : Int) : 0 ≤ mix c k ∧ mix c k < 998244353 := by
  unfold mix
  generalize ((c % 2147483647 + 1 + 7919 * k * k) * 48271 % 2147483629) * ((c % 2147483647 + 1 + 7919 * k * k) * 48271 % 2147483629) = z
  exact ⟨Int.emod_nonneg _ (by omega), Int.emod_lt_of_pos _ (by omega)⟩
theorem p_mix {c k : Int} (hk : 0 ≤ k ∧ k < 1000000) : g24 c k = .ok (mix c k) := by
  have h1 : CMul (7919 * k) k = true := cmul_r (by omega)
  have h2 : ∀ x : Int, CMul (x % 2147483629) (x % 2147483629) = true := fun x => by
    have a := Int.emod_nonneg x (show (2147483629 : Int) ≠ 0 by omega)
    have b := Int.emod_lt_of_pos x (show (0 : Int) < 2147483629 by omega)
    exact cmul_r (by omega)
  simp only [g24, M.bind_ok, chk_of h1, chk_of (h2 _)]
  rfl
def cells (ns : List Int) (a m : Int) : List Int := cut (cut ns (some a) (some (a + m)) ++ [a + 1, 5, 2, 9, 4, 7, 1, 8, 3, 6, 0, 11, 13, 12, 10, 14]) none (some m)
theorem cut_len {α : Type} (xs : List α) (lo hi : Option Int) : (cut xs lo hi).length ≤ xs.length := by
  simp [cut]
  omega
theorem cells_len (ns : List Int) (a : Int) {m : Nat} (h : m ≤ 16) : (cells ns a m).length = m := by
  have : ¬ (m : Int) < 0 := by omega
  simp [cells, cut, sIx, this]
  omega
theorem p_cells {ns : List Int} {a m : Int} (hl : ns.length < 1000) : g29 ns a m = .ok (cells ns a m) := by
  have h := cut_len ns (some a) (some (a + m))
  simp only [g29, List.length_cons, List.length_nil]
  rw [chk_dec (by omega)]
  rfl
theorem cut_mem {α : Type} {xs : List α} {lo hi : Option Int} {x : α} (h : x ∈ cut xs lo hi) : x ∈ xs := List.mem_of_mem_drop (List.mem_of_mem_take h)
theorem cut_lo {α : Type} (xs : List α) {p : Int} (hp : 0 ≤ p) : (cut xs none (some p)).length ≤ p.toNat := by
  have : ¬ p < 0 := by omega
  simp [cut, sIx, this]
  omega
theorem cut_mid {α : Type} (xs : List α) {i j : Int} (hi : 0 ≤ i) (hj : 0 ≤ j) : (cut xs (some i) (some j)).length ≤ (j - i).toNat := by
  have h1 : ¬ i < 0 := by omega
  have h2 : ¬ j < 0 := by omega
  simp [cut, sIx, h1, h2]
  omega
theorem abc_get (x : Int) : ∃ c, letter c = true ∧ getI [97, 98, 99, 100, 101, 102, 103, 104, 105, 106, 107, 108, 109, 110, 111, 112, 113, 114, 115, 116, 117, 118, 119, 120, 121, 122] (x % 26) = some c := by
  have h1 := Int.emod_nonneg x (show (26 : Int) ≠ 0 by omega)
  have h2 := Int.emod_lt_of_pos x (show (0 : Int) < 26 by omega)
  generalize x % 26 = y at h1 h2
  obtain ⟨c, m, _, e⟩ := getI_ok (xs := abc) h1 (by simpa [abc] using h2)
  exact ⟨c, by rw [← abc_mem]; exact m, e⟩
def okW (s : List Nat) : Prop := s.length ≤ 3 ∧ ∀ c ∈ s, letter c = true
theorem okW_is {s : List Nat} (h : okW s) (h1 : 1 ≤ s.length) : isWord s = true := by
  unfold isWord
  have e : s.all letter = true := List.all_eq_true.mpr h.2
  simp [e, h1, h.1]
theorem p_word {a b : Int} : ∃ s, okW s ∧ 1 ≤ s.length ∧ g26 a b = .ok s := by
  obtain ⟨c0, l0, i0⟩ := abc_get (a / 9)
  obtain ⟨c1, l1, i1⟩ := abc_get (a / 9 + 7)
  obtain ⟨c2, l2, i2⟩ := abc_get (a / 9 + 14)
  obtain ⟨c3, l3, i3⟩ := abc_get (a / 9 + 7 * (a / 3 % (1 + a % 3)) + b)
  have hbase : ∀ c ∈ [c0, c1, c2], letter c = true := by simp [l0, l1, l2]
  have z1 := Int.emod_nonneg a (show (3 : Int) ≠ 0 by omega)
  have z2 := Int.emod_lt_of_pos a (show (0 : Int) < 3 by omega)
  have z3 : (0 : Int) < 1 + a % 3 := by omega
  have p1 := Int.emod_nonneg (a / 3) (show (1 + a % 3 : Int) ≠ 0 by omega)
  have p2 := Int.emod_lt_of_pos (a / 3) z3
  have r3 : rg 3 = [0, 1, 2] := rfl
  have hj : joinS [] [[c0], [c1], [c2]] = [c0, c1, c2] := rfl
  by_cases h : a / 3 % 4 = 0
  · refine ⟨cut [c0, c1, c2] none (some (1 + b % 3)), ⟨cut_len _ _ _, fun c hc => hbase c (cut_mem hc)⟩, ?_, ?_⟩
    · have b1 := Int.emod_nonneg b (show (3 : Int) ≠ 0 by omega)
      have b2 : ¬ 1 + b % 3 < 0 := by omega
      simp [cut, sIx, b2]
      omega
    · simp [g26, r3, M.map, i0, i1, i2, hj, h]
  · refine ⟨cut [c0, c1, c2] none (some (a / 3 % (1 + a % 3))) ++ [c3] ++ cut [c0, c1, c2] (some (a / 3 % (1 + a % 3) + 1)) (some (1 + a % 3)), ⟨?_, fun c hc => ?_⟩, by simp; omega, ?_⟩
    · have q1 := cut_lo [c0, c1, c2] p1
      have q2 := cut_mid [c0, c1, c2] (show 0 ≤ a / 3 % (1 + a % 3) + 1 by omega) (show 0 ≤ 1 + a % 3 by omega)
      simp only [List.length_append, List.length_cons, List.length_nil]
      omega
    · rcases List.mem_append.mp hc with hc | hc
      · rcases List.mem_append.mp hc with hc | hc
        · exact hbase c (cut_mem hc)
        · simp at hc; rw [hc]; exact l3
      · exact hbase c (cut_mem hc)
    · have w1 := cut_len [c0, c1, c2] none (some (a / 3 % (1 + a % 3)))
      have w2 := cut_len [c0, c1, c2] (some (a / 3 % (1 + a % 3) + 1)) (some (1 + a % 3))
      simp only [List.length_cons, List.length_nil] at w1 w2
      generalize hP : cut [c0, c1, c2] none (some (a / 3 % (1 + a % 3))) = P at w1 ⊢
      generalize hQ : cut [c0, c1, c2] (some (a / 3 % (1 + a % 3) + 1)) (some (1 + a % 3)) = Q at w2 ⊢
      have b1 : P.length + 1 < 100000 := by omega
      have b2 : P.length + 1 + Q.length < 100000 := by omega
      simp [g26, r3, M.map, i0, i1, i2, hj, h, z3, i3, hP, hQ, b1, b2]
def okK (i : Int) : Prop := 0 ≤ i ∧ i < 10 ^ 30
theorem p30 : (10 : Int) ^ 30 = 1000000000000000000000000000000 := by decide
theorem okK_mod (x : Int) : okK (x % 1000000000000000000000000000000) := ⟨Int.emod_nonneg x (by omega), by rw [p30]; exact Int.emod_lt_of_pos x (by omega)⟩
theorem p_kind {c a : Int} (ha : 0 ≤ a ∧ a < 1000000000) : ∃ i, okK i ∧ g28 c a = .ok i := by
  have c1 : CMul (a + 1) 618033988749894848204586834367 = true := cmul_l (by omega)
  have h1 := Int.emod_nonneg (mix c 3) (show (5 : Int) ≠ 0 by omega)
  have h2 := Int.emod_lt_of_pos (mix c 3) (show (0 : Int) < 5 by omega)
  simp only [g28, chk_of c1, M.bind_ok, p_mix (c := c) (k := 3) (by omega)]
  by_cases h4 : mix c 3 % 5 = 4
  · exact ⟨_, okK_mod c, by simp [h4]⟩
  · simp only [h4, decide_false, Bool.false_eq_true, if_false]
    obtain ⟨x, hx, _, hi⟩ := getI_ok (xs := [(a + 1) * 618033988749894848204586834367 % 1000000000000000000000000000000, (a + 1) * 618033988749894848204586834367 % 1000000000000000000000000000000, ((a + 1) * 618033988749894848204586834367 % 1000000000000000000000000000000 + 1) % 1000000000000000000000000000000, 0]) h1 (by simp; omega)
    refine ⟨x, ?_, by rw [hi]; rfl⟩
    simp only [List.mem_cons, List.not_mem_nil, or_false] at hx
    rcases hx with hx | hx | hx | hx <;> rw [hx]
    · exact okK_mod _
    · exact okK_mod _
    · exact okK_mod _
    · exact ⟨by omega, by rw [p30]; omega⟩
theorem p_shuffled {a : Int} {n : Nat} (hn : n ≤ 50) : ∃ os : List Int, os.Perm (rg (n : Int)) ∧ g33 a n = .ok os := by
  obtain ⟨s, h1, h2⟩ := M.whil_meas (c := g33_2) (f := g33_1 a) (fun s => (s.2 ++ s.1).Perm (rg (n : Int))) (fun s => s.1.length) (fun s => s.2.Perm (rg (n : Int))) (by
    rintro ⟨rest, os⟩ hp
    have hl : os.length + rest.length = n := by have := hp.length_eq; simpa [rg_len] using this
    by_cases h0 : rest = []
    · subst h0
      exact .inl ⟨rfl, by simpa using hp⟩
    · have h1 : 0 < rest.length := List.length_pos_iff.mpr h0
      refine .inr ⟨by simp [g33_2, h0]; exact h1, ?_⟩
      obtain ⟨L, hL⟩ : ∃ L : Int, L = rest.length := ⟨_, rfl⟩
      have hL0 : 0 < L := by omega
      have q1 := Int.emod_nonneg (mix a (50 + L)) (show L ≠ 0 by omega)
      have q2 := Int.emod_lt_of_pos (mix a (50 + L)) hL0
      obtain ⟨y, hy, hy2, _⟩ := getI_ok (xs := rest) q1 (by omega)
      have e : Tw.ixN rest.length (mix a (50 + L) % L) = some (mix a (50 + L) % L).toNat := by
        unfold Tw.ixN
        rw [if_pos q1, if_pos (by omega)]
      refine ⟨(rest.eraseIdx (mix a (50 + L) % L).toNat, os ++ [y]), ?_, ?_, ?_⟩
      · simp only [g33_1, ← hL, p_mix (c := a) (k := 50 + L) (by omega), M.bind_ok, chk_dec hL0, popI, e, hy2, M.of_some]
        rw [chk_dec (by omega)]
        rfl
      · have hlt : (mix a (50 + L) % L).toNat < rest.length := by omega
        have ey : rest[(mix a (50 + L) % L).toNat] = y := by
          rw [List.getElem?_eq_getElem hlt] at hy2
          simpa using hy2
        have : (y :: rest.eraseIdx (mix a (50 + L) % L).toNat).Perm rest := by
          generalize (mix a (50 + L) % L).toNat = i at hlt ey ⊢
          subst ey
          rw [List.eraseIdx_eq_take_drop_succ]
          have e := (List.take_append_drop i rest).symm
          rw [List.drop_eq_getElem_cons hlt] at e
          exact (List.perm_middle.symm).trans (.of_eq e.symm)
        simp only [List.append_assoc, List.singleton_append]
        exact (List.Perm.append_left os this).trans hp
      · simp only [List.length_eraseIdx]
        split
        · omega
        · omega) 100000 (rg (n : Int), []) (by rw [rg_len]; omega) (by simp)
  refine ⟨s.2, h2, ?_⟩
  simp only [g33, chk_of (small_nat (n := n) (by omega)), M.bind_ok, rgI_zero, h1]
def okP (m : Nat) (ps : List (Int × Int)) : Bool := decide (ps.length ≤ 10) && ps.all fun p => decide (0 ≤ p.1) && decide (p.1 < m) && decide (0 ≤ p.2) && decide (p.2 < m) && decide (p.1 ≠ p.2)
theorem p_family {a : Int} {m : Nat} (h2 : 1 ≤ m ∧ m ≤ 7) : ∃ ps, okP m ps = true ∧ g34 a m = .ok ps := by
  have z1 := Int.emod_nonneg a (show (6 : Int) ≠ 0 by omega)
  have z2 := Int.emod_lt_of_pos a (show (0 : Int) < 6 by omega)
  have key : ∀ (h : Nat), a % 6 = h → h < 6 → ∃ ps, okP m ps = true ∧ g34 a m = .ok ps := by
    intro h hh h6
    unfold g34
    rw [hh]
    have e1 : h = 0 ∨ h = 1 ∨ h = 2 ∨ h = 3 ∨ h = 4 ∨ h = 5 := by omega
    have e2 : m = 1 ∨ m = 2 ∨ m = 3 ∨ m = 4 ∨ m = 5 ∨ m = 6 ∨ m = 7 := by omega
    clear hh z1 z2
    rcases e1 with e | e | e | e | e | e <;> subst e <;> rcases e2 with e | e | e | e | e | e | e <;> subst e <;> exact ⟨_, by decide, rfl⟩
  exact key (a % 6).toNat (by omega) (by omega)
theorem other_ne {o r m : Int} (h0 : 0 ≤ o) (h1 : o < m) (r1 : 1 ≤ r) (r2 : r < m) : (o + r) % m ≠ o ∧ 0 ≤ (o + r) % m ∧ (o + r) % m < m := by
  by_cases h : o + r < m
  · rw [Int.emod_eq_of_lt (by omega) h]
    omega
  · have e : (o + r) % m = o + r - m := by
      have : o + r = (o + r - m) + m := by omega
      rw [this]
      have h2 : (o + r - m + m) % m = (o + r - m) % m := by first | exact Int.add_emod_right _ _ | exact Int.add_emod_self
      rw [h2, Int.emod_eq_of_lt (by omega) (by omega)]
      omega
    rw [e]
    omega
theorem isTie_mk {m o r k : Int} {b : Bool} (h0 : 0 ≤ o) (h1 : o < m) (r1 : 1 ≤ r) (r2 : r < m) (hk : okK k) : isTie m (o, (o + r) % m, k, b) = true := by
  obtain ⟨q1, q2, q3⟩ := other_ne h0 h1 r1 r2
  obtain ⟨k1, k2⟩ := hk
  unfold isTie
  have : ¬ o = (o + r) % m := fun z => q1 z.symm
  simp [this, h0, h1, q2, q3, k1]
  exact k2
theorem p_awt {a m c : Int} {ts : List Tie} (ha : 0 ≤ a ∧ a < 1000000000) (hl : ts.length ≤ 12) (ho : ∀ t ∈ ts, isTie m t = true) : ∃ ts', ts'.length ≤ 12 ∧ (∀ t ∈ ts', isTie m t = true) ∧ g32_1 a m ts c = .ok ts' := by
  obtain ⟨i, hi, hk⟩ := p_kind (c := c) (a := a) ha
  simp only [g32_1, p_mix (c := c) (k := 8) (by omega), M.bind_ok]
  generalize mix c 8 = x
  by_cases h : (decide (1 < m) && (decide ((ts.length : Int) < 12) && (decide (a % 6 = 0) || decide (x % 6 = 0)))) = true
  · rw [if_pos h]
    simp only [Bool.and_eq_true, decide_eq_true_eq] at h
    obtain ⟨h1, h2, _⟩ := h
    have q1 := Int.emod_nonneg (x / 6) (show m ≠ 0 by omega)
    have q2 := Int.emod_lt_of_pos (x / 6) (show 0 < m by omega)
    have q3 := Int.emod_nonneg (x / 60) (show m - 1 ≠ 0 by omega)
    have q4 := Int.emod_lt_of_pos (x / 60) (show 0 < m - 1 by omega)
    have it := isTie_mk (m := m) (o := x / 6 % m) (r := 1 + x / 60 % (m - 1)) (k := i) (b := decide (x / 7 % 3 = 0)) q1 q2 (by omega) (by omega) hi
    have e : x / 6 % m + 1 + x / 60 % (m - 1) = x / 6 % m + (1 + x / 60 % (m - 1)) := by omega
    simp only [chk_dec (show 0 < m by omega), chk_dec (show 0 < m - 1 by omega), M.bind_ok, hk, e]
    rw [chk_dec (by omega)]
    simp only [M.bind_ok]
    generalize ((x / 6 % m, (x / 6 % m + (1 + x / 60 % (m - 1))) % m, i, decide (x / 7 % 3 = 0)) : Tie) = t at it
    have ho' : ∀ u ∈ ts ++ [t], isTie m u = true := by
      intro u hu
      rcases List.mem_append.mp hu with q | q
      · exact ho u q
      · rw [List.mem_singleton.mp q]; exact it
    have hl' : (ts ++ [t]).length ≤ 12 := by simp; omega
    by_cases h3 : (decide (x / 21 % 5 = 0) && decide (((ts ++ [t]).length : Int) < 12)) = true
    · rw [if_pos h3]
      simp only [Bool.and_eq_true, decide_eq_true_eq] at h3
      simp only [getI_last, M.of_some, M.bind_ok]
      rw [chk_dec (by omega)]
      refine ⟨ts ++ [t] ++ [t], by simp at h3 ⊢; omega, fun u hu => ?_, rfl⟩
      rcases List.mem_append.mp hu with q | q
      · exact ho' u q
      · rw [List.mem_singleton.mp q]; exact it
    · rw [if_neg h3]
      exact ⟨_, hl', ho', rfl⟩
  · rw [if_neg h]
    exact ⟨ts, hl, ho, rfl⟩
theorem p_awk {cs : List Int} {a : Int} {j : Nat} {ks : List (List Nat)} (hc : 1 ≤ cs.length) (hl : ks.length = j) (hj : j < 100) (ho : ∀ k ∈ ks, okW k ∧ isWord k = true) : ∃ ks', ks'.length = j + 1 ∧ (∀ k ∈ ks', okW k ∧ isWord k = true) ∧ g32_2 cs a ks j = .ok ks' := by
  have fin' : ∀ s, okW s → 1 ≤ s.length → (ks ++ [s]).length = j + 1 ∧ ∀ k ∈ ks ++ [s], okW k ∧ isWord k = true := fun s h1 h2 => by
    refine ⟨by simp [hl], fun k hk => ?_⟩
    rcases List.mem_append.mp hk with hk | hk
    · exact ho k hk
    · simp at hk; rw [hk]; exact ⟨h1, okW_is h1 h2⟩
  have L0 : (0 : Int) < cs.length := by omega
  simp only [g32_2]
  by_cases h : a / 12 % 2 = 1
  · obtain ⟨c, _, _, hi⟩ := getI_ok (xs := cs) (i := (j : Int) % cs.length) (Int.emod_nonneg _ (by omega)) (Int.emod_lt_of_pos _ L0)
    obtain ⟨s, h1, h2, h3⟩ := p_word (a := a) (b := mix c (20 + j) % 3)
    obtain ⟨f1, f2⟩ := fin' s h1 h2
    refine ⟨ks ++ [s], f1, f2, ?_⟩
    simp only [h, decide_true, if_true, chk_dec L0, M.bind_ok, hi, M.of_some, p_mix (c := c) (k := 20 + j) (by omega), h3]
    rw [chk_dec (by omega)]
    rfl
  · obtain ⟨s, h1, h2, h3⟩ := p_word (a := a) (b := 0)
    obtain ⟨f1, f2⟩ := fin' s h1 h2
    refine ⟨ks ++ [s], f1, f2, ?_⟩
    simp only [h, decide_false, Bool.false_eq_true, if_false, M.bind_ok, h3]
    rw [chk_dec (by omega)]
    rfl
def goodW (m : Nat) (ks : List (List Nat)) (ts : List Tie) : Prop := ks.length = m ∧ (∀ k ∈ ks, okW k ∧ isWord k = true) ∧ ts.length ≤ 12 ∧ ∀ t ∈ ts, isTie (m : Int) t = true
theorem p_aweb {cs : List Int} {a : Int} {m : Nat} (hc : 1 ≤ cs.length) (hc2 : cs.length < 1000) (ha : 0 ≤ a ∧ a < 1000000000) (hm : 1 ≤ m ∧ m ≤ 7) :
    ∃ (ks : List (List Nat)) (ts : List Tie), goodW m ks ts ∧ g32 cs a m = .ok (ks, ts) := by
  obtain ⟨os, hos, hsr⟩ := p_shuffled (a := a) (n := m) (by omega)
  have hol : os.length = m := by rw [hos.length_eq, rg_len]
  have hin : ∀ i ∈ os, 0 ≤ i ∧ i < m := fun i hi => mem_rg.mp (hos.mem_iff.mp hi)
  have hnd : os.Nodup := hos.nodup_iff.mpr (rg_nodup _)
  obtain ⟨fam, hfo, hfam⟩ := p_family (a := a) hm
  unfold okP at hfo
  simp only [Bool.and_eq_true, decide_eq_true_eq, List.all_eq_true] at hfo
  obtain ⟨fl, fo⟩ := hfo
  have c1 : CMul (a + 1) 618033988749894848204586834367 = true := cmul_l (by omega)
  obtain ⟨far, hfar⟩ : ∃ far : Int, far = (a + 1) * 618033988749894848204586834367 % 1000000000000000000000000000000 := ⟨_, rfl⟩
  have hfk : okK far := by rw [hfar]; exact okK_mod _
  let mk : Int × Int → Tie := fun p => (os[p.1.toNat]?.getD 0, os[p.2.toNat]?.getD 0, far, decide (a / 6 % 2 = 1))
  have hget : ∀ i : Int, 0 ≤ i → i < m → ∃ o, o ∈ os ∧ os[i.toNat]? = some o ∧ getI os i = some o := fun i h0 hi => getI_ok h0 (by omega)
  have hmap : M.map (fun (p : Int × Int) => (M.of (getI os p.1)).bind fun x => (M.of (getI os p.2)).bind fun y => .ok (x, y, far, decide (a / 6 % 2 = 1))) fam = .ok (fam.map mk) := M.map_ok fun p hp => by
    have hpo := fo p hp
    obtain ⟨o1, _, g1, i1⟩ := hget p.1 hpo.1.1.1.1 hpo.1.1.1.2
    obtain ⟨o2, _, g2, i2⟩ := hget p.2 hpo.1.1.2 hpo.1.2
    simp [i1, i2, mk, g1, g2]
  have ho0 : ∀ t ∈ fam.map mk, isTie (m : Int) t = true := fun t ht => by
    obtain ⟨p, hp, rfl⟩ := List.mem_map.mp ht
    have hpo := fo p hp
    obtain ⟨o1, m1, g1, _⟩ := hget p.1 hpo.1.1.1.1 hpo.1.1.1.2
    obtain ⟨o2, m2, g2, _⟩ := hget p.2 hpo.1.1.2 hpo.1.2
    have b1 := hin o1 m1
    have b2 := hin o2 m2
    have ne : o1 ≠ o2 := fun z => hpo.2 (by
      have := (List.getElem?_inj (by omega) hnd).mp (show os[p.1.toNat]? = os[p.2.toNat]? by rw [g1, g2, z])
      omega)
    obtain ⟨k1, k2⟩ := hfk
    rw [p30] at k2
    simp [isTie, mk, g1, g2, ne, b1, b2, k1, k2]
  obtain ⟨ts, t0, t1, t2⟩ := M.fold_at (f := g32_1 a m) (all := cs) (fun _ (ts : List Tie) => ts.length ≤ 12 ∧ ∀ t ∈ ts, isTie (m : Int) t = true) (fun j hj ts ⟨h1, h2⟩ => by
    obtain ⟨ts', q1, q2, q3⟩ := p_awt (c := cs[j]) ha h1 h2
    exact ⟨ts', q3, q1, q2⟩) (s := fam.map mk) ⟨by simp; omega, ho0⟩
  obtain ⟨ks, u0, u1, u2⟩ := fold_rg (f := g32_2 cs a) (n := m) (fun j (ks : List (List Nat)) => ks.length = j ∧ ∀ k ∈ ks, okW k ∧ isWord k = true) (fun j hj ks ⟨h1, h2⟩ => by
    obtain ⟨ks', q1, q2, q3⟩ := p_awk (cs := cs) (a := a) (j := j) hc h1 (by omega) h2
    exact ⟨ks', q3, q1, q2⟩) (s := []) ⟨rfl, by simp⟩
  refine ⟨ks, ts, ⟨u1, u2, t1, t2⟩, ?_⟩
  simp only [g32, hsr, M.bind_ok, chk_of c1, ← hfar, hfam, hmap, t0, chk_of (small_nat (n := m) (by omega)), u0]
  rw [chk_dec (by omega)]
  simp only [M.bind_ok, t0]
end TwL

namespace TwL
open Tw
end TwL

namespace TwL
open Tw
def joined (ts : List Tie) (i j : Int) : Bool := ts.any fun t => (decide (t.1 = i) && decide (t.2.1 = j)) || (decide (t.1 = j) && decide (t.2.1 = i))
theorem touch_keys (f : Found) (e e' : Ends) : e' ∈ (touch f e).map (·.1) ↔ e' ∈ f.map (·.1) ∨ e' = e := by
  unfold touch
  split
  · rename_i h
    constructor
    · exact .inl
    · rintro (h2 | rfl)
      · exact h2
      · obtain ⟨p, hp, hq⟩ := List.any_eq_true.mp h
        simp at hq
        rw [← hq]
        exact List.mem_map.mpr ⟨p, hp, rfl⟩
  · simp
theorem app_keys (f : Found) (e q : Ends) : (app f e q).map (·.1) = f.map (·.1) := by
  unfold app
  rw [List.map_map]
  apply List.map_congr_left
  intro x _
  simp only [Function.comp]
  split <;> rfl
theorem step_keys (f : Found) (t : Tie) (e : Ends) : e ∈ (stepF f t).map (·.1) ↔ e ∈ f.map (·.1) ∨ e = (t.1, t.2.1) ∨ e = (t.2.1, t.1) := by
  unfold stepF
  rw [app_keys, app_keys, touch_keys, touch_keys]
  simp only [or_assoc]
theorem found_keys : ∀ (ts : List Tie) (f : Found) (e : Ends), e ∈ (ts.foldl stepF f).map (·.1) ↔ e ∈ f.map (·.1) ∨ joined ts e.1 e.2 = true
  | [], f, e => by simp [joined]
  | t :: ts, f, e => by
    rw [List.foldl_cons, found_keys ts, step_keys]
    have : joined (t :: ts) e.1 e.2 = (((decide (t.1 = e.1) && decide (t.2.1 = e.2)) || (decide (t.1 = e.2) && decide (t.2.1 = e.1))) || joined ts e.1 e.2) := by simp [joined]
    rw [this, Bool.or_eq_true]
    obtain ⟨e1, e2⟩ := e
    simp only [Prod.mk.injEq, Bool.or_eq_true, Bool.and_eq_true, decide_eq_true_eq]
    constructor
    · rintro ((h | h | h) | h)
      · exact .inl h
      · exact .inr (.inl (.inl ⟨h.1.symm, h.2.symm⟩))
      · exact .inr (.inl (.inr ⟨h.2.symm, h.1.symm⟩))
      · exact .inr (.inr h)
    · rintro (h | (h | h) | h)
      · exact .inl (.inl h)
      · exact .inl (.inr (.inl ⟨h.1.symm, h.2.symm⟩))
      · exact .inl (.inr (.inr ⟨h.2.symm, h.1.symm⟩))
      · exact .inr h
theorem has_links (ts : List Tie) (i j : Int) : dhasT (e2 eInt eInt) (linksT ts) (i, j) = joined ts i j := by
  unfold dhasT linksT
  rw [Bool.eq_iff_iff, List.any_map, List.any_eq_true]
  have := found_keys ts [] (i, j)
  unfold foundOf
  simp only [List.map_nil, List.not_mem_nil, false_or] at this
  rw [← this, List.mem_map]
  simp only [Function.comp, eqP, decide_eq_true_eq]
theorem joined_iff {ts : List Tie} {i j : Int} : joined ts i j = true ↔ ∃ t ∈ ts, (t.1 = i ∧ t.2.1 = j) ∨ (t.1 = j ∧ t.2.1 = i) := by
  unfold joined
  simp [List.any_eq_true]
theorem joined_plain (ts : List Tie) (i j : Int) : joined (tiesOf ts) i j = joined ts i j := by
  rw [Bool.eq_iff_iff, joined_iff, joined_iff]
  unfold tiesOf
  constructor
  · rintro ⟨t, h, h'⟩
    have h := (sortBy_perm encT _).mem_iff.mp h
    obtain ⟨u, hu, rfl⟩ := List.mem_map.mp h
    refine ⟨u, hu, ?_⟩
    unfold plainT at h'
    split at h'
    · rcases h' with q | q
      · exact .inr ⟨q.2, q.1⟩
      · exact .inl ⟨q.2, q.1⟩
    · exact h'
  · rintro ⟨u, hu, h'⟩
    refine ⟨plainT u, (sortBy_perm encT _).mem_iff.mpr (List.mem_map.mpr ⟨u, hu, rfl⟩), ?_⟩
    unfold plainT
    split
    · rcases h' with q | q
      · exact .inr ⟨q.2, q.1⟩
      · exact .inl ⟨q.2, q.1⟩
    · exact h'
end TwL

namespace TwL
open Tw
structure Ord0 (Q : W → Prop) (dp : Nat) : Prop where
  eq : ∀ x y, Q x → Q y → (eqW x y = true ↔ x = y)
  irr : ∀ x, Q x → ltW x x = false
  tr : ∀ x y z, Q x → Q y → Q z → ltW x y = true → ltW y z = true → ltW x z = true
  tot : ∀ x y, Q x → Q y → x ≠ y → ltW x y = true ∨ ltW y x = true
  dat : ∀ x, Q x → ∀ k, dp ≤ k → datW k x = true
  ali : ∀ x y, Q x → Q y → alikeW x y = true
  non : ∀ x, Q x → notNone x = true
def Al (Qs : Nat → W → Prop) : Nat → List W → Prop
  | _, [] => True
  | i, w :: ws => Qs i w ∧ Al Qs (i + 1) ws
variable {Qs : Nat → W → Prop} {dp : Nat}
theorem al_eq (o : ∀ i, Ord0 (Qs i) dp) : ∀ {i : Nat} {xs ys : List W}, Al Qs i xs → Al Qs i ys → (eqL xs ys = true ↔ xs = ys)
  | _, [], [], _, _ => by simp [eqL]
  | _, [], _ :: _, _, _ => by simp [eqL]
  | _, _ :: _, [], _, _ => by simp [eqL]
  | i, x :: xs, y :: ys, ⟨h1, h2⟩, ⟨g1, g2⟩ => by simp only [eqL, Bool.and_eq_true, (o i).eq x y h1 g1, al_eq o h2 g2, List.cons.injEq]
theorem al_irr (o : ∀ i, Ord0 (Qs i) dp) : ∀ {i : Nat} {xs : List W}, Al Qs i xs → ltL xs xs = false
  | _, [], _ => rfl
  | i, x :: xs, ⟨h1, h2⟩ => by simp only [ltL, ((o i).eq x x h1 h1).mpr rfl, if_true, al_irr o h2]
theorem al_cons (o : ∀ i, Ord0 (Qs i) dp) {i : Nat} {x y : W} {xs ys : List W} (h1 : Qs i x) (g1 : Qs i y) : ltL (x :: xs) (y :: ys) = true ↔ ltW x y = true ∨ (x = y ∧ ltL xs ys = true) := by
  simp only [ltL]
  by_cases e : x = y
  · subst e
    simp [((o i).eq x x h1 h1).mpr rfl, (o i).irr x h1]
  · have : eqW x y = false := by
      cases h : eqW x y with
      | false => rfl
      | true => exact absurd (((o i).eq x y h1 g1).mp h) e
    simp [this, e]
theorem al_tr (o : ∀ i, Ord0 (Qs i) dp) : ∀ {i : Nat} {xs ys zs : List W}, Al Qs i xs → Al Qs i ys → Al Qs i zs → ltL xs ys = true → ltL ys zs = true → ltL xs zs = true
  | _, [], _, [], _, _, _, h, q => by cases ‹List W› <;> cases q
  | _, [], _, _ :: _, _, _, _, _, _ => rfl
  | _, _ :: _, [], _, _, _, _, h, _ => by cases h
  | _, _ :: _, _ :: _, [], _, _, _, _, h => by cases h
  | i, x :: xs, y :: ys, z :: zs, ⟨h1, h2⟩, ⟨g1, g2⟩, ⟨k1, k2⟩, p, q => by
    rw [al_cons o h1 g1] at p
    rw [al_cons o g1 k1] at q
    rw [al_cons o h1 k1]
    rcases p with p | ⟨rfl, p⟩
    · rcases q with q | ⟨rfl, q⟩
      · exact .inl ((o i).tr _ _ _ h1 g1 k1 p q)
      · exact .inl p
    · rcases q with q | ⟨rfl, q⟩
      · exact .inl q
      · exact .inr ⟨rfl, al_tr o h2 g2 k2 p q⟩
theorem al_tot (o : ∀ i, Ord0 (Qs i) dp) : ∀ {i : Nat} {xs ys : List W}, Al Qs i xs → Al Qs i ys → xs ≠ ys → ltL xs ys = true ∨ ltL ys xs = true
  | _, [], [], _, _, h => absurd rfl h
  | _, [], _ :: _, _, _, _ => .inl rfl
  | _, _ :: _, [], _, _, _ => .inr rfl
  | i, x :: xs, y :: ys, ⟨h1, h2⟩, ⟨g1, g2⟩, h => by
    rw [al_cons o h1 g1, al_cons o g1 h1]
    by_cases e : x = y
    · subst e
      rcases al_tot o h2 g2 (fun z => h (by rw [z])) with q | q
      · exact .inl (.inr ⟨rfl, q⟩)
      · exact .inr (.inr ⟨rfl, q⟩)
    · rcases (o i).tot x y h1 g1 e with q | q
      · exact .inl (.inl q)
      · exact .inr (.inl q)
theorem al_dat (o : ∀ i, Ord0 (Qs i) dp) {k : Nat} (hk : dp ≤ k) : ∀ {i : Nat} {xs : List W}, Al Qs i xs → datL k xs = true
  | _, [], _ => by cases k <;> rfl
  | i, x :: xs, ⟨h1, h2⟩ => by simp [datL, (o i).dat x h1 k hk, al_dat o hk h2]
theorem al_ali (o : ∀ i, Ord0 (Qs i) dp) : ∀ {i : Nat} {xs ys : List W}, Al Qs i xs → Al Qs i ys → alikeL xs ys = true
  | _, [], ys, _, _ => by cases ys <;> rfl
  | _, _ :: _, [], _, _ => rfl
  | i, x :: xs, y :: ys, ⟨h1, h2⟩, ⟨g1, g2⟩ => by simp [alikeL, (o i).ali x y h1 g1, al_ali o h2 g2]
theorem ord_tup (o : ∀ i, Ord0 (Qs i) dp) : Ord0 (fun w => ∃ ws, w = .tup ws ∧ Al Qs 0 ws) (dp + 1) := by
  refine ⟨?_, ?_, ?_, ?_, ?_, ?_, ?_⟩
  · rintro _ _ ⟨xs, rfl, hx⟩ ⟨ys, rfl, hy⟩; rw [eqW, al_eq o hx hy]; simp
  · rintro _ ⟨xs, rfl, hx⟩; rw [ltW]; exact al_irr o hx
  · rintro _ _ _ ⟨xs, rfl, hx⟩ ⟨ys, rfl, hy⟩ ⟨zs, rfl, hz⟩ h1 h2; rw [ltW] at *; exact al_tr o hx hy hz h1 h2
  · rintro _ _ ⟨xs, rfl, hx⟩ ⟨ys, rfl, hy⟩ h; rw [ltW, ltW]; exact al_tot o hx hy fun z => h (by rw [z])
  · rintro _ ⟨xs, rfl, hx⟩ k hk
    cases k with
    | zero => omega
    | succ k => rw [datW]; exact al_dat o (by omega) hx
  · rintro _ _ ⟨xs, rfl, hx⟩ ⟨ys, rfl, hy⟩; rw [alikeW]; exact al_ali o hx hy
  · rintro _ ⟨xs, rfl, hx⟩; rfl
theorem Ord0.up {Q : W → Prop} {d d' : Nat} (o : Ord0 Q d) (h : d ≤ d') : Ord0 Q d' := ⟨o.eq, o.irr, o.tr, o.tot, fun x hx k hk => o.dat x hx k (by omega), o.ali, o.non⟩
theorem Ord0.of {Q : W → Prop} (o : OrdW Q) (d : ∀ x, Q x → datW 0 x = true) : Ord0 Q 0 := ⟨o.eq, o.irr, o.tr, o.tot, fun x hx k _ => by
  cases k with
  | zero => exact d x hx
  | succ k => exact o.dat x hx k, o.ali, o.non⟩
structure TO {α : Type} (e : En α) (P : α → Prop) (dp : Nat) : Prop where
  o : ∃ Q, Ord0 Q dp ∧ ∀ a, P a → Q (e.en a)
  inj : ∀ a b, P a → P b → e.en a = e.en b → a = b
  one : (∀ a, P a → isTup1 (e.en a) = true) ∨ ∀ a, P a → isTup (e.en a) = false
variable {α β γ δ : Type}
theorem to_int : TO eInt (fun _ => True) 0 := ⟨⟨_, Ord0.of ordInt (by rintro _ ⟨i, rfl⟩; rfl), fun a _ => ⟨a, rfl⟩⟩, fun a b _ _ h => by injection h, .inr fun _ _ => rfl⟩
theorem TO.mono {e : En α} {P P' : α → Prop} {d d' : Nat} (h : TO e P d) (hp : ∀ a, P' a → P a) (hd : d ≤ d' := by decide) : TO e P' d' := by
  obtain ⟨⟨Q, o, q⟩, i, one⟩ := h
  refine ⟨⟨Q, o.up hd, fun a ha => q a (hp a ha)⟩, fun a b ha hb => i a b (hp a ha) (hp b hb), ?_⟩
  rcases one with z | z
  · exact .inl fun a ha => z a (hp a ha)
  · exact .inr fun a ha => z a (hp a ha)
theorem al_const {Q : W → Prop} : ∀ {i : Nat} {ws : List W}, (∀ w ∈ ws, Q w) → Al (fun _ => Q) i ws
  | _, [], _ => trivial
  | i, w :: ws, h => ⟨h w (by simp), al_const fun x hx => h x (by simp [hx])⟩
theorem map_inj {e : α → W} {P : α → Prop} (h : ∀ a b, P a → P b → e a = e b → a = b) : ∀ {xs ys : List α}, (∀ a ∈ xs, P a) → (∀ a ∈ ys, P a) → xs.map e = ys.map e → xs = ys
  | [], [], _, _, _ => rfl
  | [], _ :: _, _, _, q => by cases q
  | _ :: _, [], _, _, q => by cases q
  | x :: xs, y :: ys, hx, hy, q => by
    simp only [List.map_cons, List.cons.injEq] at q
    rw [h x y (hx x (by simp)) (hy y (by simp)) q.1, map_inj h (fun a ha => hx a (by simp [ha])) (fun a ha => hy a (by simp [ha])) q.2]
structure TE {α : Type} (e : En α) (P : α → Prop) (dp : Nat) : Prop where
  o : ∃ Q, Ord0 Q dp ∧ ∀ a, P a → Q (e.en a)
  inj : ∀ a b, P a → P b → e.en a = e.en b → a = b
theorem TO.te {e : En α} {P : α → Prop} {d : Nat} (h : TO e P d) : TE e P d := ⟨h.o, h.inj⟩
theorem te_htup {e : En α} {P : α → Prop} {d : Nat} (h : TE e P d) : TE (eT e) (fun xs => ∀ a ∈ xs, P a) (d + 1) := by
  obtain ⟨⟨Q, o, q⟩, i⟩ := h
  refine ⟨⟨_, ord_tup (Qs := fun _ => Q) fun _ => o, fun xs hx => ⟨xs.map e.en, rfl, al_const fun w hw => ?_⟩⟩, fun xs ys hx hy hh => map_inj i hx hy (by injection hh)⟩
  obtain ⟨a, ha, rfl⟩ := List.mem_map.mp hw
  exact q a (hx a ha)
def pick2 (Q R : W → Prop) : Nat → W → Prop
  | 0 => Q
  | _ => R
theorem to_2 {a : En α} {b : En β} {P : α → Prop} {Q : β → Prop} {d : Nat} (h1 : TE a P d) (h2 : TE b Q d) : TO (e2 a b) (fun p => P p.1 ∧ Q p.2) (d + 1) := by
  obtain ⟨⟨Q1, o1, q1⟩, i1⟩ := h1
  obtain ⟨⟨Q2, o2, q2⟩, i2⟩ := h2
  refine ⟨⟨_, ord_tup (Qs := pick2 Q1 Q2) (fun i => by cases i with | zero => exact o1 | succ i => exact o2), fun p hp => ⟨_, rfl, q1 _ hp.1, q2 _ hp.2, trivial⟩⟩, ?_, .inl fun _ _ => rfl⟩
  rintro ⟨x, y⟩ ⟨x', y'⟩ hp hq h
  simp only [e2, W.tup.injEq, List.cons.injEq, and_true] at h
  have r1 : x = x' := i1 _ _ hp.1 hq.1 h.1
  have r2 : y = y' := i2 _ _ hp.2 hq.2 h.2
  rw [r1, r2]
variable {e : En α} {P : α → Prop} {d : Nat}
theorem TE.eq (h : TE e P d) {a b : α} (ha : P a) (hb : P b) : eqW (e.en a) (e.en b) = true ↔ a = b := by
  obtain ⟨⟨Q, o, q⟩, i⟩ := h
  rw [o.eq _ _ (q a ha) (q b hb)]
  exact ⟨i a b ha hb, fun z => by rw [z]⟩
theorem TE.eqD [DecidableEq α] (h : TE e P d) {a b : α} (ha : P a) (hb : P b) : eqW (e.en a) (e.en b) = decide (a = b) := by
  rw [Bool.eq_iff_iff, h.eq ha hb, decide_eq_true_eq]
theorem TE.dat (h : TE e P d) {a : α} (ha : P a) {k : Nat} (hk : d ≤ k := by decide) : datW k (e.en a) = true := by
  obtain ⟨⟨Q, o, q⟩, i⟩ := h
  exact o.dat _ (q a ha) k hk
theorem TE.datL (h : TE e P d) {k : Nat} (hk : d ≤ k := by decide) : ∀ {xs : List α}, (∀ a ∈ xs, P a) → Tw.datL k (xs.map e.en) = true
  | [], _ => by cases k <;> rfl
  | x :: xs, hx => by rw [List.map_cons, Tw.datL, h.dat (hx x (by simp)) hk, TE.datL h hk fun a ha => hx a (by simp [ha])]; rfl
theorem eqM_of [DecidableEq α] (h : TE e P d) {a b : α} (ha : P a) (hb : P b) (hd : d ≤ 30 := by decide) : eqM e a b = .ok (decide (a = b)) := by
  unfold eqM
  rw [h.dat ha hd, h.dat hb hd, h.eqD ha hb]
  rfl
theorem eqM_self [DecidableEq α] (h : TE e P d) {a : α} (ha : P a) (hd : d ≤ 30 := by decide) : eqM e a a = .ok true := by
  rw [eqM_of h ha ha hd]; simp
theorem sortOk_of (h : TO e P d) {xs : List α} (hx : ∀ a ∈ xs, P a) : sortOk (xs.map e.en) = true := by
  obtain ⟨⟨Q, o, q⟩, i, one⟩ := h
  unfold sortOk
  rw [Bool.and_eq_true]
  constructor
  · simp only [List.all_eq_true, List.mem_map]
    rintro _ ⟨x, h1, rfl⟩ _ ⟨y, h2, rfl⟩
    exact o.ali _ _ (q x (hx x h1)) (q y (hx y h2))
  · rw [Bool.or_eq_true]
    rcases one with z | z
    · left
      simp only [List.all_eq_true, List.mem_map]
      rintro _ ⟨x, h1, rfl⟩
      exact z x (hx x h1)
    · right
      simp only [List.all_eq_true, List.mem_map]
      rintro _ ⟨x, h1, rfl⟩
      rw [o.non _ (q x (hx x h1)), z x (hx x h1)]
      rfl
theorem sortM_of (h : TO e P d) {xs : List α} (hx : ∀ a ∈ xs, P a) (hl : xs.length < 100000) (hd : d ≤ 30 := by decide) : sortM e xs = .ok (sortBy e.en xs) := by
  unfold sortM
  rw [h.te.datL hd hx, sortOk_of h hx]
  exact chk_of (by simpa using hl)
theorem sortBy_pw (h : TE e P d) {xs : List α} (hx : ∀ a ∈ xs, P a) : (sortBy e.en xs).Pairwise fun a b => ltW (e.en b) (e.en a) = false := by
  obtain ⟨⟨Q, o, q⟩, i⟩ := h
  have hs := List.pairwise_mergeSort (le := fun (a b : {a // P a}) => !ltW (e.en b.1) (e.en a.1)) (by
    intro a b c h1 h2
    simp only [Bool.not_eq_true'] at h1 h2 ⊢
    cases h3 : ltW (e.en c.1) (e.en a.1) with
    | false => rfl
    | true =>
      by_cases ab : a.1 = b.1
      · rw [ab] at h3; rw [h3] at h2; cases h2
      · rcases o.tot _ _ (q a.1 a.2) (q b.1 b.2) (fun z => ab (i _ _ a.2 b.2 z)) with z | z
        · have := o.tr _ _ _ (q c.1 c.2) (q a.1 a.2) (q b.1 b.2) h3 z
          rw [this] at h2; cases h2
        · rw [z] at h1; cases h1) (by
    intro a b
    cases h1 : ltW (e.en b.1) (e.en a.1) with
    | false => simp
    | true =>
      cases h2 : ltW (e.en a.1) (e.en b.1) with
      | false => simp
      | true =>
        have := o.tr _ _ _ (q a.1 a.2) (q b.1 b.2) (q a.1 a.2) h2 h1
        rw [o.irr _ (q a.1 a.2)] at this
        cases this) (xs.attach.map fun a => ⟨a.1, hx a.1 a.2⟩)
  have e1 : sortBy e.en xs = ((xs.attach.map fun a => (⟨a.1, hx a.1 a.2⟩ : {a // P a})).mergeSort fun a b => !ltW (e.en b.1) (e.en a.1)).map (·.1) := by
    rw [List.map_mergeSort (s := fun a b => !ltW (e.en b) (e.en a)) (fun a _ b _ => rfl), List.map_map]
    have : xs.attach.map ((fun a : {a // P a} => a.1) ∘ fun a => ⟨a.1, hx a.1 a.2⟩) = xs := by
      have : ((fun a : {a // P a} => a.1) ∘ fun a : {a // a ∈ xs} => ⟨a.1, hx a.1 a.2⟩) = Subtype.val := rfl
      rw [this, List.attach_map_subtype_val]
    rw [this]
    rfl
  rw [e1, List.pairwise_map]
  exact hs.imp fun h => by simpa using h
theorem sort_uniq (h : TE e P d) {xs ys : List α} (hp : xs.Perm ys) (hx : ∀ a ∈ xs, P a) (h1 : xs.Pairwise fun a b => ltW (e.en b) (e.en a) = false) (h2 : ys.Pairwise fun a b => ltW (e.en b) (e.en a) = false) : xs = ys := by
  obtain ⟨⟨Q, o, q⟩, i⟩ := h
  refine hp.eq_of_pairwise (fun a b ha hb z1 z2 => ?_) h1 h2
  have pa := hx a ha
  have pb := hx b (hp.mem_iff.mpr hb)
  apply Classical.byContradiction
  intro hab
  rcases o.tot _ _ (q a pa) (q b pb) (fun z => hab (i _ _ pa pb z)) with z | z
  · rw [z] at z2; cases z2
  · rw [z] at z1; cases z1
theorem sortBy_perm' (h : TO e P d) {xs ys : List α} (hp : xs.Perm ys) (hx : ∀ a ∈ xs, P a) : sortBy e.en xs = sortBy e.en ys :=
  sort_uniq h.te (((sortBy_perm _ xs).trans hp).trans (sortBy_perm _ ys).symm) (fun a ha => hx a ((sortBy_perm _ xs).mem_iff.mp ha)) (sortBy_pw h.te hx) (sortBy_pw h.te fun a ha => hx a (hp.mem_iff.mpr ha))
theorem sortBy_mem {f : α → W} {xs : List α} {a : α} : a ∈ sortBy f xs ↔ a ∈ xs := (sortBy_perm f xs).mem_iff
theorem sortBy_length {f : α → W} {xs : List α} : (sortBy f xs).length = xs.length := (sortBy_perm f xs).length_eq
theorem to_pair : TO (e2 eInt eInt) (fun _ => True) 1 := (to_2 to_int.te to_int.te).mono fun _ _ => ⟨trivial, trivial⟩
end TwL

namespace TwL
open Tw
def isOrd (n : Nat) (os : List Int) : Prop := os.Perm (rg (n : Int))
instance {n : Nat} {os : List Int} : Decidable (isOrd n os) := inferInstanceAs (Decidable (os.Perm _))
theorem isOrd.len {n : Nat} {os : List Int} (h : isOrd n os) : os.length = n := by rw [List.Perm.length_eq h, rg_len]
theorem isOrd.nd {n : Nat} {os : List Int} (h : isOrd n os) : os.Nodup := (List.Perm.nodup_iff h).mpr (rg_nodup _)
theorem isOrd.mem {n : Nat} {os : List Int} (h : isOrd n os) {x : Int} : x ∈ os ↔ 0 ≤ x ∧ x < n := by rw [List.Perm.mem_iff h, mem_rg]
theorem isOrd.of {n : Nat} {os : List Int} (h1 : os.length = n) (h2 : os.Nodup) (h3 : ∀ x ∈ os, 0 ≤ x ∧ x < n) : isOrd n os := by
  refine (List.perm_ext_iff_of_nodup h2 (rg_nodup _)).mpr fun x => ?_
  rw [mem_rg]
  refine ⟨h3 x, fun hx => ?_⟩
  apply Classical.byContradiction
  intro hn
  have : (x :: os).length ≤ (rg (n : Int)).length := List.Nodup.length_le_of_subset (List.nodup_cons.mpr ⟨hn, h2⟩) (by
    intro y hy
    rcases List.mem_cons.mp hy with q | q
    · rw [q]; exact mem_rg.mpr hx
    · exact mem_rg.mpr (h3 y q))
  rw [rg_len, List.length_cons] at this
  omega
theorem tiesOf_mem {ts : List Tie} {t : Tie} : t ∈ tiesOf ts ↔ ∃ u ∈ ts, plainT u = t := by
  unfold tiesOf
  rw [sortBy_mem, List.mem_map]
theorem tiesOf_length (ts : List Tie) : (tiesOf ts).length = ts.length := by
  unfold tiesOf
  rw [sortBy_length, List.length_map]
def okWeb (n : Nat) (ks : List (List Nat)) (ts : List Tie) : Prop := ks.length = n ∧ (1 ≤ n ∧ n ≤ 7) ∧ (∀ k ∈ ks, isWord k = true) ∧ ts.length ≤ 12 ∧ ∀ t ∈ ts, isTie (n : Int) t = true
theorem goodW.ok {m : Nat} {ks : List (List Nat)} {ts : List Tie} (h : goodW m ks ts) (hm : 1 ≤ m ∧ m ≤ 7) : okWeb m ks ts := ⟨h.1, hm, fun k hk => (h.2.1 k hk).2, h.2.2.1, h.2.2.2⟩
theorem okWeb.new {n : Nat} {ks : List (List Nat)} {ts : List Tie} (h : okWeb n ks ts) : newWeb ks ts = .ok (ks, tiesOf ts) := by
  obtain ⟨g1, g0, g2, g3, g4⟩ := h
  have e0 : webErr ks ts = none := by
    unfold webErr
    have e1 : ks.all isWord = true := List.all_eq_true.mpr g2
    have e2 : ts.all (isTie ks.length) = true := List.all_eq_true.mpr fun t ht => by rw [g1]; exact g4 t ht
    rw [if_neg (by omega), e1, e2]
    rfl
  rw [newWeb_ok (by omega) (by omega) (fun k hk => by
    have := g2 k hk
    unfold isWord at this
    simp only [Bool.and_eq_true, decide_eq_true_eq] at this
    omega), e0]
theorem isTie_plain {n : Int} {t : Tie} (h : isTie n t = true) : isTie n (plainT t) = true := by
  unfold plainT
  split
  · unfold isTie at h ⊢
    simp only [Bool.and_eq_true, decide_eq_true_eq, Bool.not_eq_true', decide_eq_false_iff_not] at h ⊢
    obtain ⟨⟨⟨h1, h2⟩, h3⟩, h4⟩ := h
    exact ⟨⟨⟨fun z => h1 z.symm, h3⟩, h2⟩, h4⟩
  · exact h
theorem okWeb.plain {n : Nat} {ks : List (List Nat)} {ts : List Tie} (h : okWeb n ks ts) : okWeb n ks (tiesOf ts) := by
  obtain ⟨g1, g0, g2, g3, g4⟩ := h
  refine ⟨g1, g0, g2, by rw [tiesOf_length]; exact g3, fun t ht => ?_⟩
  obtain ⟨u, hu, rfl⟩ := tiesOf_mem.mp ht
  exact isTie_plain (g4 u hu)
theorem isTie_iff {n : Int} {t : Tie} : isTie n t = true ↔ t.1 ≠ t.2.1 ∧ (0 ≤ t.1 ∧ t.1 < n) ∧ (0 ≤ t.2.1 ∧ t.2.1 < n) ∧ 0 ≤ t.2.2.1 ∧ t.2.2.1 < 10 ^ 30 := by
  unfold isTie
  rw [Bool.and_eq_true, Bool.and_eq_true, Bool.and_eq_true, Bool.and_eq_true, Bool.and_eq_true, Bool.and_eq_true, Bool.not_eq_true', decide_eq_false_iff_not, decide_eq_true_eq, decide_eq_true_eq, decide_eq_true_eq, decide_eq_true_eq, decide_eq_true_eq, decide_eq_true_eq, and_assoc, and_assoc]
end TwL

namespace TwL
open Tw
end TwL

namespace TwL
open Tw
def pairOf (i j : Int) (t : Tie) : List Ends :=
  (if t.1 = i ∧ t.2.1 = j then [(t.2.2.1, if t.2.2.2 = true then 1 else 0)] else []) ++ (if t.2.1 = i ∧ t.1 = j then [(t.2.2.1, if t.2.2.2 = true then 2 else 0)] else [])
def pairsOf (ts : List Tie) (i j : Int) : List Ends := ts.flatMap (pairOf i j)
theorem pairOf_len (i j : Int) (t : Tie) : (pairOf i j t).length ≤ 2 := by
  unfold pairOf
  rw [List.length_append]
  have a : (if t.1 = i ∧ t.2.1 = j then [(t.2.2.1, if t.2.2.2 = true then (1 : Int) else 0)] else []).length ≤ 1 := by split <;> simp
  have b : (if t.2.1 = i ∧ t.1 = j then [(t.2.2.1, if t.2.2.2 = true then (2 : Int) else 0)] else []).length ≤ 1 := by split <;> simp
  omega
def betw (ts : List Tie) (i j : Int) : List Ends := sortBy encE (pairsOf ts i j)
theorem pair_P {ps : List Ends} : ∀ p ∈ ps, (fun _ : Ends => True) p := fun _ _ => trivial
theorem betw_perm {ts us : List Tie} {i j i' j' : Int} (h : (pairsOf ts i j).Perm (pairsOf us i' j')) : betw ts i j = betw us i' j' := sortBy_perm' to_pair h pair_P
theorem pairOf_plain (i j : Int) (t : Tie) : (pairOf i j (plainT t)).Perm (pairOf i j t) := by
  obtain ⟨a, b, k, o⟩ := t
  cases o with
  | true => simp [plainT]
  | false =>
    by_cases h : b < a
    · simp only [plainT, h, decide_true, Bool.not_false, Bool.and_self, if_true, pairOf, Bool.false_eq_true, if_false]
      exact List.perm_append_comm
    · simp [plainT, h]
theorem flatMap_perm {α β : Type} {f g : α → List β} : ∀ {xs : List α}, (∀ x ∈ xs, (f x).Perm (g x)) → (xs.flatMap f).Perm (xs.flatMap g)
  | [], _ => .refl _
  | x :: xs, h => by
    simp only [List.flatMap_cons]
    exact (h x (by simp)).append (flatMap_perm fun y hy => h y (by simp [hy]))
theorem pairs_plain (ts : List Tie) (i j : Int) : (pairsOf (tiesOf ts) i j).Perm (pairsOf ts i j) := by
  unfold pairsOf tiesOf
  refine ((sortBy_perm encT _).flatMap_right (pairOf i j)).trans ?_
  rw [List.flatMap_map]
  exact flatMap_perm fun t _ => pairOf_plain i j t
theorem betw_plain (ts : List Tie) (i j : Int) : betw (tiesOf ts) i j = betw ts i j := betw_perm (pairs_plain ts i j)
def getF (f : Found) (e : Ends) : List Ends := ((f.find? fun p => decide (p.1 = e)).map (·.2)).getD []
theorem find_key {f : Found} {e : Ends} : (f.find? fun p => decide (p.1 = e)) = none ↔ e ∉ f.map (·.1) := by
  rw [List.find?_eq_none]
  constructor
  · intro h hm
    obtain ⟨p, hp, rfl⟩ := List.mem_map.mp hm
    exact h p hp (by simp)
  · intro h p hp q
    exact h (List.mem_map.mpr ⟨p, hp, of_decide_eq_true q⟩)
theorem getF_touch (f : Found) (e e' : Ends) : getF (touch f e') e = getF f e := by
  unfold touch
  split
  · rfl
  · unfold getF
    rw [List.find?_append]
    cases h : f.find? fun p => decide (p.1 = e) with
    | some p => rfl
    | none =>
      by_cases q : e' = e
      · simp [q]
      · simp [q]
theorem getF_app {f : Found} {e e' : Ends} {p : Ends} (h : e' ∈ f.map (·.1)) : getF (app f e' p) e = if e = e' then getF f e ++ [p] else getF f e := by
  unfold app getF
  rw [List.find?_map]
  have e1 : ((fun q : Ends × List Ends => decide (q.1 = e)) ∘ fun x => if x.1 = e' then (x.1, x.2 ++ [p]) else x) = fun q => decide (q.1 = e) := by
    funext q
    simp only [Function.comp]
    split <;> rfl
  rw [e1]
  by_cases q : e = e'
  · subst q
    rw [if_pos rfl]
    cases hf : f.find? fun q => decide (q.1 = e) with
    | none => exact absurd h (find_key.mp hf)
    | some r =>
      have := List.find?_some hf
      simp only [decide_eq_true_eq] at this
      simp [this]
  · rw [if_neg q]
    cases hf : f.find? fun q => decide (q.1 = e) with
    | none => rfl
    | some r =>
      have := List.find?_some hf
      simp only [decide_eq_true_eq] at this
      have : ¬ r.1 = e' := fun z => q (by rw [← this, z])
      simp [this]
theorem getF_step (f : Found) (t : Tie) (i j : Int) : getF (stepF f t) (i, j) = getF f (i, j) ++ pairOf i j t := by
  obtain ⟨a, b, k, o⟩ := t
  unfold stepF
  simp only
  rw [getF_app (by rw [app_keys, touch_keys]; simp), getF_app (by rw [touch_keys, touch_keys]; simp), getF_touch, getF_touch]
  unfold pairOf
  simp only [Prod.mk.injEq]
  have c1 : (i = a ∧ j = b) ↔ (a = i ∧ b = j) := ⟨fun h => ⟨h.1.symm, h.2.symm⟩, fun h => ⟨h.1.symm, h.2.symm⟩⟩
  have c2 : (i = b ∧ j = a) ↔ (b = i ∧ a = j) := ⟨fun h => ⟨h.1.symm, h.2.symm⟩, fun h => ⟨h.1.symm, h.2.symm⟩⟩
  simp only [c1, c2]
  by_cases h1 : a = i ∧ b = j
  · by_cases h2 : b = i ∧ a = j
    · rw [if_pos h2, if_pos h1, if_pos h1, if_pos h2]
      simp
    · rw [if_neg h2, if_pos h1, if_pos h1, if_neg h2]
      simp
  · by_cases h2 : b = i ∧ a = j
    · rw [if_pos h2, if_neg h1, if_neg h1, if_pos h2]
      simp
    · rw [if_neg h2, if_neg h1, if_neg h1, if_neg h2]
      simp
theorem getF_fold : ∀ (ts : List Tie) (f : Found) (i j : Int), getF (ts.foldl stepF f) (i, j) = getF f (i, j) ++ pairsOf ts i j
  | [], f, i, j => by simp [pairsOf]
  | t :: ts, f, i, j => by
    rw [List.foldl_cons, getF_fold ts, getF_step]
    simp [pairsOf]
theorem links_get (ts : List Tie) (i j : Int) : (dgetT (e2 eInt eInt) (linksT ts) (i, j)).getD [] = betw ts i j := by
  have h := getF_fold ts [] (i := i) (j := j)
  unfold dgetT linksT
  rw [List.find?_map]
  have e1 : ((fun q : Ends × List Ends => eqW ((e2 eInt eInt).en q.1) ((e2 eInt eInt).en (i, j))) ∘ fun p : Ends × List Ends => (p.1, sortBy encE p.2)) = fun q => decide (q.1 = (i, j)) := by
    funext q
    simp only [Function.comp, eqP]
  rw [e1]
  unfold betw
  unfold foundOf
  have h0 : getF [] (i, j) = [] := rfl
  rw [h0, List.nil_append] at h
  rw [← h]
  unfold getF
  cases List.find? (fun p : Ends × List Ends => decide (p.1 = (i, j))) (List.foldl stepF [] ts) with
  | none => simp [sortBy]
  | some r => rfl
theorem p_between36 {ks : List (List Nat)} {ts : List Tie} {i j : Int} : g36 (ks, ts) i j = .ok (betw ts i j) := by
  unfold g36
  rw [dkey_pair, links_get]
  rfl
theorem dputP_get {ν : Type} {kv : List (Ends × ν)} {x y : Ends} {z : ν} : dgetT (e2 eInt eInt) (dputT (e2 eInt eInt) kv x z) y = if y = x then some z else dgetT (e2 eInt eInt) kv y := by
  unfold dputT
  split
  · rename_i hh
    unfold dhasT at hh
    obtain ⟨p, hp, hq⟩ := List.any_eq_true.mp hh
    simp only [eqP, decide_eq_true_eq] at hq
    unfold dgetT
    rw [List.find?_map]
    by_cases e : y = x
    · subst e
      rw [if_pos rfl]
      have e2 : ((fun q : Ends × ν => eqW ((e2 eInt eInt).en q.1) ((e2 eInt eInt).en y)) ∘ fun q => if eqW ((e2 eInt eInt).en q.1) ((e2 eInt eInt).en y) = true then (q.1, z) else q) = fun q => decide (q.1 = y) := by
        funext q
        simp only [Function.comp]
        split <;> simp only [eqP]
      rw [e2]
      cases q : kv.find? fun q => decide (q.1 = y) with
      | none =>
        have := List.find?_eq_none.mp q p hp
        simp [hq] at this
      | some r =>
        have := List.find?_some q
        simp only [decide_eq_true_eq] at this
        simp [eqP, this]
    · rw [if_neg e]
      have e2 : ((fun q : Ends × ν => eqW ((e2 eInt eInt).en q.1) ((e2 eInt eInt).en y)) ∘ fun q => if eqW ((e2 eInt eInt).en q.1) ((e2 eInt eInt).en x) = true then (q.1, z) else q) = fun q => decide (q.1 = y) := by
        funext q
        simp only [Function.comp]
        split <;> simp only [eqP]
      rw [e2]
      simp only [eqP]
      cases q : kv.find? fun q => decide (q.1 = y) with
      | none => rfl
      | some r =>
        have := List.find?_some q
        simp only [decide_eq_true_eq] at this
        have hne : ¬ r.1 = x := fun z => e (by rw [← this, z])
        simp [hne]
  · rename_i hh
    unfold dgetT
    rw [List.find?_append]
    by_cases e : y = x
    · subst e
      rw [if_pos rfl]
      have : kv.find? (fun p => eqW ((e2 eInt eInt).en p.1) ((e2 eInt eInt).en y)) = none := List.find?_eq_none.mpr fun p hp q => hh (List.any_eq_true.mpr ⟨p, hp, q⟩)
      rw [this]
      simp [eqP]
    · rw [if_neg e]
      have e3 : ¬ x = y := fun z => e z.symm
      have : List.find? (fun p : Ends × ν => eqW ((e2 eInt eInt).en p.1) ((e2 eInt eInt).en y)) [(x, z)] = none := by simp [eqP, e3]
      rw [this]
      simp
theorem dputP_len {ν : Type} {kv : List (Ends × ν)} {x : Ends} {z : ν} : (dputT (e2 eInt eInt) kv x z).length ≤ kv.length + 1 := by
  unfold dputT
  split <;> simp
end TwL

namespace TwL
open Tw
theorem flatMap_len {α β : Type} {f : α → List β} {c : Nat} : ∀ {xs : List α}, (∀ x ∈ xs, (f x).length ≤ c) → (xs.flatMap f).length ≤ c * xs.length
  | [], _ => by simp
  | x :: xs, h => by
    have := flatMap_len (f := f) (c := c) (xs := xs) fun y hy => h y (by simp [hy])
    have := h x (by simp)
    rw [List.flatMap_cons, List.length_append, List.length_cons, Nat.mul_succ]
    omega
theorem p_pairs31 {i j : Int} : ∀ (us : List Tie) (s : List Ends), s.length + 2 * us.length < 100000 → M.fold (g31_1 i j) s us = .ok (s ++ pairsOf us i j) := by
  intro us
  induction us with
  | nil => intro s _; simp [pairsOf]
  | cons t us ih =>
    intro s hs
    simp only [List.length_cons] at hs
    have step : g31_1 i j s t = .ok (s ++ pairOf i j t) := by
      obtain ⟨a, b, k, o⟩ := t
      have e1 : eqM (e2 eInt eInt) (a, b) (i, j) = .ok (decide ((a, b) = (i, j))) := eqM_of to_pair.te trivial trivial
      have e2 : eqM (e2 eInt eInt) (b, a) (i, j) = .ok (decide ((b, a) = (i, j))) := eqM_of to_pair.te trivial trivial
      have cc : (a = j ∧ b = i) ↔ (b = i ∧ a = j) := And.comm
      simp only [g31_1, e1, e2, M.bind_ok, decide_eq_true_eq, Prod.mk.injEq, pairOf, cc]
      by_cases h1 : a = i ∧ b = j
      · rw [if_pos h1, if_pos h1, chk_dec (by omega)]
        simp only [M.bind_ok]
        by_cases h2 : b = i ∧ a = j
        · rw [if_pos h2, if_pos h2, chk_dec (by simp; omega)]
          cases o <;> simp
        · rw [if_neg h2, if_neg h2]
          simp
      · rw [if_neg h1, if_neg h1]
        simp only [M.bind_ok]
        by_cases h2 : b = i ∧ a = j
        · rw [if_pos h2, if_pos h2, chk_dec (by omega)]
          cases o <;> simp
        · rw [if_neg h2, if_neg h2]
          simp
    have pl := pairOf_len i j t
    rw [M.fold_cons, step]
    simp only [M.bind_ok]
    rw [ih (s ++ pairOf i j t) (by rw [List.length_append]; omega)]
    simp [pairsOf]
theorem p_cell31 {ts : List Tie} {i j : Int} {s : List ((Int × Int) × List (Int × Int))} (hl : ts.length < 1000) (hs : s.length < 100000) : g31_2 ts i s j = .ok (dputT (e2 eInt eInt) s (i, j) (betw ts i j)) := by
  have h1 := p_pairs31 (i := i) (j := j) ts [] (by simp; omega)
  rw [List.nil_append] at h1
  have pl : (pairsOf ts i j).length ≤ 2 * ts.length := flatMap_len fun t _ => pairOf_len i j t
  unfold g31_2
  rw [h1]
  simp only [M.bind_ok]
  rw [sortM_of to_pair pair_P (by omega)]
  simp only [M.bind_ok, dkey_pair, Bool.true_and]
  rw [chk_dec hs]
  rfl
theorem p_table31 {ts : List Tie} {n : Nat} (hn : n ≤ 7) (hl : ts.length < 1000) : ∃ T, g31 n ts = .ok T ∧ ∀ i j : Int, (0 ≤ i ∧ i < n) → (0 ≤ j ∧ j < n) → dgetT (e2 eInt eInt) T (i, j) = some (betw ts i j) := by
  obtain ⟨T, h1, h2, h3⟩ := fold_rg (f := g31_3 (n : Int) ts) (n := n) (fun a (s : List ((Int × Int) × List (Int × Int))) => s.length ≤ a * n ∧ ∀ i j : Int, (0 ≤ i ∧ i < a) → (0 ≤ j ∧ j < n) → dgetT (e2 eInt eInt) s (i, j) = some (betw ts i j)) (by
    rintro a ha s ⟨i1, i2⟩
    have an : a * n ≤ 7 * 7 := Nat.mul_le_mul (by omega) hn
    have an2 : (a + 1) * n = a * n + n := Nat.succ_mul a n
    obtain ⟨s', k1, k2, k3, k4⟩ := fold_rg (f := g31_2 ts (a : Int)) (n := n) (fun b (q : List ((Int × Int) × List (Int × Int))) => q.length ≤ s.length + b ∧ (∀ i j : Int, (0 ≤ i ∧ i < a) → (0 ≤ j ∧ j < n) → dgetT (e2 eInt eInt) q (i, j) = some (betw ts i j)) ∧ ∀ j : Int, (0 ≤ j ∧ j < b) → dgetT (e2 eInt eInt) q ((a : Int), j) = some (betw ts a j)) (by
      rintro b hb q ⟨j1, j2, j3⟩
      refine ⟨_, p_cell31 hl (by omega), ?_, fun i j hi hj => ?_, fun j hj => ?_⟩
      · have := dputP_len (kv := q) (x := ((a : Int), (b : Int))) (z := betw ts a b)
        omega
      · rw [dputP_get, if_neg (by intro e; injection e with e1 e2; omega)]
        exact j2 i j hi hj
      · rw [dputP_get]
        by_cases e : j = b
        · rw [if_pos (by rw [e]), e]
        · rw [if_neg (by intro z; injection z with z1 z2; exact e z2)]
          exact j3 j (by omega)) (s := s) ⟨by omega, i2, fun j hj => by omega⟩
    refine ⟨s', ?_, by omega, fun i j hi hj => ?_⟩
    · unfold g31_3
      rw [chk_of (small_nat (show n < 100000 by omega))]
      simp only [M.bind_ok, k1]
    · by_cases e : i = a
      · rw [e]; exact k4 j (by omega)
      · exact k3 i j (by omega) hj) (s := []) ⟨by simp, fun i j hi hj => by omega⟩
  refine ⟨T, ?_, h3⟩
  unfold g31
  simp only [M.bind_ok]
  rw [chk_of (small_nat (show n < 100000 by omega))]
  simp only [M.bind_ok, h1]
theorem betw_len (ts : List Tie) (i j : Int) : (betw ts i j).length = (pairsOf ts i j).length := sortBy_length
def jn (B : Int → Int → List Ends) (i j : Int) : Bool := decide (0 < ((B i j).length : Int))
theorem jn_joined (ts : List Tie) (i j : Int) : jn (betw ts) i j = joined ts i j := by
  unfold jn
  rw [betw_len]
  apply Bool.eq_iff_iff.mpr
  rw [decide_eq_true_eq, joined_iff]
  constructor
  · intro h
    cases e : pairsOf ts i j with
    | nil => rw [e] at h; simp at h
    | cons p ps =>
      have hp : p ∈ pairsOf ts i j := by rw [e]; simp
      obtain ⟨t, ht, hp⟩ := List.mem_flatMap.mp hp
      refine ⟨t, ht, ?_⟩
      unfold pairOf at hp
      rcases List.mem_append.mp hp with q | q
      · by_cases c : t.1 = i ∧ t.2.1 = j
        · exact .inl c
        · rw [if_neg c] at q; simp at q
      · by_cases c : t.2.1 = i ∧ t.1 = j
        · exact .inr ⟨c.2, c.1⟩
        · rw [if_neg c] at q; simp at q
  · rintro ⟨t, ht, c⟩
    have : ∃ p, p ∈ pairOf i j t := by
      unfold pairOf
      rcases c with c | c
      · rw [if_pos c]; exact ⟨_, List.mem_append.mpr (.inl (List.mem_singleton.mpr rfl))⟩
      · rw [if_pos (show t.2.1 = i ∧ t.1 = j from ⟨c.2, c.1⟩)]; exact ⟨_, List.mem_append.mpr (.inr (List.mem_singleton.mpr rfl))⟩
    obtain ⟨p, hp⟩ := this
    have : p ∈ pairsOf ts i j := List.mem_flatMap.mpr ⟨t, ht, hp⟩
    have := List.length_pos_of_mem this
    omega
theorem p_near {ks : List (List Nat)} {ts : List Tie} {p : Int} (hl : ks.length < 1000) : g38 (ks, ts) p = .ok ((rg (ks.length : Int)).filter fun o => joined ts p o) := by
  simp only [g38, chk_of (small_nat (show ks.length < 100000 by omega)), M.bind_ok]
  rw [chk_dec (by rw [rg_len]; omega)]
  simp only [dkey_pair, M.chk_true, has_links]
  rw [M.filt_pure]
  simp
theorem zip_eq : ∀ {xs : List α} {p : α × α}, p ∈ xs.zip xs → p.1 = p.2
  | [], p, h => by simp at h
  | x :: xs, p, h => by
    rw [List.zip_cons_cons] at h
    rcases List.mem_cons.mp h with rfl | h
    · rfl
    · exact zip_eq h
theorem p_pairs39 (xs : List Ends) : g39 xs xs = .ok true := by
  have all : M.foldF g39_1 () (List.zip xs xs) = .ok (.nx ()) := foldF_nx fun p hp => by
    have e := zip_eq hp
    unfold g39_1
    rw [e, eqM_self to_pair.te trivial]
    simp [g12]
  unfold g39
  rw [all]
  simp
theorem p_near683 {n : Nat} {ks : List (List Nat)} {ts : List Tie} (ok : okWeb n ks ts) {T : List ((Int × Int) × List (Int × Int))} (hT : ∀ i j : Int, (0 ≤ i ∧ i < n) → (0 ≤ j ∧ j < n) → dgetT (e2 eInt eInt) T (i, j) = some (betw ts i j)) {p : Int} (hp : 0 ≤ p ∧ p < n) : g683 (ks, tiesOf ts) T n p = .ok true := by
  have hn := ok.2.1
  have h1 := p_near (ks := ks) (ts := tiesOf ts) (p := p) (by rw [ok.1]; omega)
  rw [ok.1] at h1
  have fl := List.length_filter_le (fun o => joined (tiesOf ts) p o) (rg (n : Int))
  rw [rg_len] at fl
  have e : M.filt (fun (other_7 : Int) => if (!(decide (other_7 = p))) = true then (M.chk (dkey true (e2 eInt eInt) (p, other_7)) (M.of (dgetT (e2 eInt eInt) T (p, other_7)))).bind fun x_8 =>
 (eqM (eT (e2 eInt eInt)) x_8 ([] : List (Int × Int))).bind fun q => M.ok (!q) else M.ok false) (fun (other_7 : Int) => M.ok other_7) (rg (n : Int)) = .ok ((rg (n : Int)).filter fun o => joined (tiesOf ts) p o) := by
    rw [M.filt_ok (p := fun o => joined (tiesOf ts) p o) (g := fun x => x) (fun o ho => by
      have ho := mem_rg.mp ho
      by_cases c : o = p
      · have : joined (tiesOf ts) p o = false := by
          rw [joined_plain, ← Bool.not_eq_true, joined_iff]
          rintro ⟨t, ht, h⟩
          have := (isTie_iff.mp (ok.2.2.2.2 t ht)).1
          omega
        rw [this, c]
        simp
      · rw [decide_eq_false c, hT p o hp ho]
        simp only [Bool.not_false, if_true, dkey_pair, M.chk_true, M.of_some, M.bind_ok]
        rw [eqM_of (te_htup to_pair.te) (fun _ _ => trivial) (fun _ _ => trivial)]
        simp only [M.bind_ok]
        congr 1
        rw [joined_plain, ← jn_joined]
        unfold jn
        cases betw ts p o <;> simp) (fun _ _ _ => rfl), List.map_id']
  unfold g683
  rw [h1]
  simp only [M.bind_ok]
  rw [chk_of (small_nat (show n < 100000 by omega))]
  simp only [M.bind_ok]
  rw [chk_dec (by rw [rg_len]; omega), e]
  simp only [M.bind_ok]
  generalize (rg (n : Int)).filter (fun o => joined (tiesOf ts) p o) = L at fl
  have all : M.foldF (fun (_ : Unit) (p : Int × Int) => g683_1 p.1 p.2) () (List.zip L L) = .ok (.nx ()) := foldF_nx fun q hq => by
    have e := zip_eq hq
    unfold g683_1
    rw [e]
    simp [g12]
  rw [all, chk_dec (by omega), chk_dec (by omega)]
  simp
theorem p_told684 {n : Nat} {ks : List (List Nat)} {ts : List Tie} (ok : okWeb n ks ts) {T : List ((Int × Int) × List (Int × Int))} (hT : ∀ i j : Int, (0 ≤ i ∧ i < n) → (0 ≤ j ∧ j < n) → dgetT (e2 eInt eInt) T (i, j) = some (betw ts i j)) {ps : List Int} (hp : ∀ p ∈ ps, 0 ≤ p ∧ p < n) : g684 (ks, tiesOf ts) T n ps = .ok true := by
  have inner : ∀ p ∈ ps, M.foldF (g684_1 (ks, tiesOf ts) T p) () ps = .ok (.nx ()) := fun p hpm => foldF_nx fun o ho => by
    unfold g684_1
    by_cases c : p = o
    · rw [decide_eq_true c]; simp
    · rw [decide_eq_false c, p_between36, hT p o (hp p hpm) (hp o ho), betw_plain]
      simp only [Bool.not_false, if_true, M.bind_ok, dkey_pair, M.chk_true, M.of_some, p_pairs39, Bool.not_true, Bool.false_eq_true, if_false]
  have outer : M.foldF (g684_2 (ks, tiesOf ts) T n ps) () ps = .ok (.nx ()) := foldF_nx fun p hpm => by
    unfold g684_2
    rw [p_near683 ok hT (hp p hpm), inner p hpm]
    simp
  unfold g684
  rw [outer]
  rfl
def held02 (x : WebT × List ((Int × Int) × List (Int × Int)) × Int) : Prop := ∃ (n : Nat) (ks : List (List Nat)) (ts : List Tie) (T : List ((Int × Int) × List (Int × Int))), okWeb n ks ts ∧ (∀ i j : Int, (0 ≤ i ∧ i < n) → (0 ≤ j ∧ j < n) → dgetT (e2 eInt eInt) T (i, j) = some (betw ts i j)) ∧ x = ((ks, tiesOf ts), T, (n : Int))
theorem p_one685 {ns : List Int} (hl : ns.length ≤ 63) {s : List (WebT × List ((Int × Int) × List (Int × Int)) × Int)} {x : Int} (hs : s.length < 100000) : ∃ y, g685_1 ns s x = .ok (s ++ [y]) ∧ held02 y := by
  have c14 : (cells ns x 14).length = 14 := cells_len ns x (m := 14) (by omega)
  obtain ⟨c0, _, _, hc0⟩ := getI_ok (xs := cells ns x 14) (i := 0) (by omega) (by rw [c14]; omega)
  have c13 : (cut (cells ns x 14) (some 1) none).length = 13 := by
    have h0 : ¬ (1 : Int) < 0 := by omega
    simp [cut, sIx, h0, c14]
  obtain ⟨n, en, n1, n7⟩ : ∃ n : Nat, (1 : Int) + mix c0 2 % 7 = (n : Int) ∧ 1 ≤ n ∧ n ≤ 7 := ⟨((1 : Int) + mix c0 2 % 7).toNat, by omega, by omega, by omega⟩
  obtain ⟨ks, ts, g1, e1⟩ := p_aweb (cs := cut (cells ns x 14) (some 1) none) (a := mix c0 1) (m := n) (by omega) (by omega) ⟨(mix_rng _ _).1, by have := (mix_rng c0 1).2; omega⟩ (by omega)
  have ok := g1.ok (by omega)
  have h12 := ok.2.2.2.1
  obtain ⟨T, t1, t2⟩ := p_table31 (ts := ts) (n := n) (by omega) (by omega)
  refine ⟨((ks, tiesOf ts), T, (n : Int)), ?_, n, ks, ts, T, ok, t2, rfl⟩
  simp only [g685_1, p_cells (ns := ns) (a := x) (m := 14) (by omega), M.bind_ok, hc0, M.of_some, p_mix (c := c0) (k := 1) (by omega), p_mix (c := c0) (k := 2) (by omega), en, e1, ok.new, ok.1, t1]
  rw [chk_dec hs]
  rfl
theorem p_all685 {ns : List Int} (hl : ns.length ≤ 63) : ∀ (xs : List Int) (s : List (WebT × List ((Int × Int) × List (Int × Int)) × Int)), s.length + xs.length < 100000 → (∀ y ∈ s, held02 y) → ∃ s', M.fold (g685_1 ns) s xs = .ok s' ∧ s'.length = s.length + xs.length ∧ ∀ y ∈ s', held02 y
  | [], s, _, h => ⟨s, rfl, by simp, h⟩
  | x :: xs, s, hs, h => by
    rw [List.length_cons] at hs
    obtain ⟨y, y1, y2⟩ := p_one685 hl (s := s) (x := x) (by omega)
    obtain ⟨s', h1, h2, h3⟩ := p_all685 hl xs (s ++ [y]) (by simp; omega) (fun z hz => by
      rcases List.mem_append.mp hz with q | q
      · exact h z q
      · rw [List.mem_singleton.mp q]; exact y2)
    refine ⟨s', by rw [M.fold_cons, y1]; exact h1, by rw [h2]; simp; omega, h3⟩
theorem law_k02 {ns : List Int} (hl : ns.length ≤ 63) : g685 ns = .ok true := by
  have rl : (rgS 0 (if (1 : Int) < (ns.length : Int) then (ns.length : Int) else 1) 14).length ≤ 70 := by
    unfold rgS
    rw [List.length_map, List.length_range]
    split <;> split <;> omega
  obtain ⟨s', h1, h2, h3⟩ := p_all685 hl (rgS 0 (if (1 : Int) < (ns.length : Int) then (ns.length : Int) else 1) 14) [] (by simp; omega) (by simp)
  have f1 : M.foldF g685_2 () s' = .ok (.nx ()) := foldF_nx fun y hy => by
    obtain ⟨n, ks, ts, T, ok, hT, rfl⟩ := h3 y hy
    have hn := ok.2.1
    unfold g685_2
    simp only
    rw [chk_of (small_nat (show n < 100000 by omega))]
    simp only [M.bind_ok]
    rw [p_told684 ok hT fun p hp => by rw [rgI_zero] at hp; exact mem_rg.mp hp]
    simp
  have f2 : M.foldF g685_3 () s'.reverse = .ok (.nx ()) := foldF_nx fun y hy => by
    obtain ⟨n, ks, ts, T, ok, hT, rfl⟩ := h3 y (List.mem_reverse.mp hy)
    have hn := ok.2.1
    unfold g685_3
    simp only
    rw [chk_of (small_nat (show n < 100000 by omega))]
    simp only [M.bind_ok]
    rw [p_told684 ok hT fun p hp => by
      obtain ⟨j, hj, rfl⟩ := List.mem_map.mp hp
      have := List.mem_range.mp hj
      omega]
    simp
  simp only [List.length_nil] at h2
  unfold g685
  simp only [M.bind_ok, small_max]
  rw [chk_dec (by omega)]
  simp only [M.bind_ok, h1, f1]
  show ((M.chk (decide (List.length s' < 100000)) (M.ok (List.reverse s'))).bind fun x_32 => _) = _
  rw [chk_dec (by omega)]
  simp only [M.bind_ok, f2]
  rfl
theorem law_true (ns : List Int) (hl : ns.length ≤ 63) : ∃ S', R 6 685 [.klst ns] [] = .ok (.bl true) S' := by
  have h := k685 2 ns
  rw [law_k02 hl] at h
  obtain ⟨w, S', fr, h1, h2, _⟩ := h
  obtain ⟨rfl, _⟩ := h2
  exact ⟨S', h1⟩
end TwL

namespace TwL
open Tw PySem PySem.Spec PyProof.Rows L2
theorem tx_ok : txC TX DD = true := by decide +kernel
theorem dd_ok : DD.all (fun p => defC TX p.2) = true := by decide +kernel
theorem all_mk {P : PySem.Program} {w : PySem.World} {K : PySem.W.Frag} {h : PySem.Heap} {mg : PySem.Str → Option PySem.Value} {fa : PySem.Addr} (X : K.In h) (G : h.Ns PySem.mainGlobals mg) (hfa : mg "law" = some (.ref fa))
    {g12 g16 g17 g18 g19 g20 g24 g26 g28 g29 g31 g32 g33 g34 g36 g38 g39 g683 g684 g685 C0 C11 C12 C13 : PySem.Addr} {od12 an12 od16 an16 od17 an17 od18 an18 od19 an19 od20 an20 od24 an24 od26 an26 od28 an28 od29 an29 od31 an31 od32 an32 od33 an33 od34 an34 od36 an36 od38 an38 od39 an39 od683 an683 od684 an684 od685 an685 : Option PySem.Addr} {sl12 sl16 sl17 sl18 sl19 sl20 sl24 sl26 sl28 sl29 sl31 sl32 sl33 sl34 sl36 sl38 sl39 sl683 sl684 sl685 : Array (Option PySem.Value)} {oc12 kV12 dc12 pm12 cd12 ct12 oc16 kV16 dc16 pm16 cd16 ct16 oc17 kV17 dc17 pm17 cd17 ct17 oc18 kV18 dc18 pm18 cd18 ct18 oc19 kV19 dc19 pm19 cd19 ct19 oc20 kV20 dc20 pm20 cd20 ct20 oc24 kV24 dc24 pm24 cd24 ct24 oc26 kV26 dc26 pm26 cd26 ct26 oc28 kV28 dc28 pm28 cd28 ct28 oc29 kV29 dc29 pm29 cd29 ct29 oc31 kV31 dc31 pm31 cd31 ct31 oc32 kV32 dc32 pm32 cd32 ct32 oc33 kV33 dc33 pm33 cd33 ct33 oc34 kV34 dc34 pm34 cd34 ct34 oc36 kV36 dc36 pm36 cd36 ct36 oc38 kV38 dc38 pm38 cd38 ct38 oc39 kV39 dc39 pm39 cd39 ct39 oc683 kV683 dc683 pm683 cd683 ct683 oc684 kV684 dc684 pm684 cd684 ct684 oc685 kV685 dc685 pm685 cd685 ct685 : PySem.Value}
    (q0 : PySem.W.nsIn K PySem.mainGlobals "Web" = some (some (.ref C0)))
    (qb0 : clsB K C0 ["kinds", "ties", "links"] = true)
    (q11 : PySem.W.nsIn K PySem.mainGlobals "TooGreat" = some (some (.ref C11)))
    (q12 : PySem.W.nsIn K PySem.mainGlobals "BadPlace" = some (some (.ref C12)))
    (q13 : PySem.W.nsIn K PySem.mainGlobals "BadTie" = some (some (.ref C13)))
    (qb11 : excB K C11 = true)
    (qr11 : excR K TX.exc (cadL [(0, C0), (11, C11), (12, C12), (13, C13)]) 11 = true)
    (qb12 : excB K C12 = true)
    (qr12 : excR K TX.exc (cadL [(0, C0), (11, C11), (12, C12), (13, C13)]) 12 = true)
    (qb13 : excB K C13 = true)
    (qr13 : excR K TX.exc (cadL [(0, C0), (11, C11), (12, C12), (13, C13)]) 13 = true)
    (a12 : PySem.W.nsIn K PySem.mainGlobals "_law_whole" = some (some (.ref g12)))
    (l12 : K.lookup g12 = some ⟨oc12, od12, .func (PySem.W.fnOf "_law_whole" "_law_whole" (L2.defArgs d12.st) (L2.defBody d12.st) (L2.defScope d12.st) .none kV12 dc12 pm12 an12 cd12 ct12), sl12⟩)
    (c12 : PySem.W.codeIn K cd12 "_law_whole" = true)
    (k12 : PySem.W.keepIn K (.ref g12) = true)
    (a16 : PySem.W.findIn K (.ref C0) "__init__" = some (some (.ref g16)))
    (l16 : K.lookup g16 = some ⟨oc16, od16, .func (PySem.W.fnOf "__init__" "Web.__init__" (L2.defArgs d16.st) (L2.defBody d16.st) (L2.defScope d16.st) .none kV16 dc16 pm16 an16 cd16 ct16), sl16⟩)
    (c16 : PySem.W.codeIn K cd16 "Web.__init__" = true)
    (k16 : PySem.W.keepIn K (.ref g16) = true)
    (m16 : mkB K C0 g16 = true)
    (a17 : PySem.W.nsIn K PySem.mainGlobals "pairs_between" = some (some (.ref g17)))
    (l17 : K.lookup g17 = some ⟨oc17, od17, .func (PySem.W.fnOf "pairs_between" "pairs_between" (L2.defArgs d17.st) (L2.defBody d17.st) (L2.defScope d17.st) .none kV17 dc17 pm17 an17 cd17 ct17), sl17⟩)
    (c17 : PySem.W.codeIn K cd17 "pairs_between" = true)
    (k17 : PySem.W.keepIn K (.ref g17) = true)
    (a18 : PySem.W.nsIn K PySem.mainGlobals "is_tie" = some (some (.ref g18)))
    (l18 : K.lookup g18 = some ⟨oc18, od18, .func (PySem.W.fnOf "is_tie" "is_tie" (L2.defArgs d18.st) (L2.defBody d18.st) (L2.defScope d18.st) .none kV18 dc18 pm18 an18 cd18 ct18), sl18⟩)
    (c18 : PySem.W.codeIn K cd18 "is_tie" = true)
    (k18 : PySem.W.keepIn K (.ref g18) = true)
    (a19 : PySem.W.nsIn K PySem.mainGlobals "is_word" = some (some (.ref g19)))
    (l19 : K.lookup g19 = some ⟨oc19, od19, .func (PySem.W.fnOf "is_word" "is_word" (L2.defArgs d19.st) (L2.defBody d19.st) (L2.defScope d19.st) .none kV19 dc19 pm19 an19 cd19 ct19), sl19⟩)
    (c19 : PySem.W.codeIn K cd19 "is_word" = true)
    (k19 : PySem.W.keepIn K (.ref g19) = true)
    (a20 : PySem.W.nsIn K PySem.mainGlobals "plain_tie" = some (some (.ref g20)))
    (l20 : K.lookup g20 = some ⟨oc20, od20, .func (PySem.W.fnOf "plain_tie" "plain_tie" (L2.defArgs d20.st) (L2.defBody d20.st) (L2.defScope d20.st) .none kV20 dc20 pm20 an20 cd20 ct20), sl20⟩)
    (c20 : PySem.W.codeIn K cd20 "plain_tie" = true)
    (k20 : PySem.W.keepIn K (.ref g20) = true)
    (a24 : PySem.W.nsIn K PySem.mainGlobals "_law_mix" = some (some (.ref g24)))
    (l24 : K.lookup g24 = some ⟨oc24, od24, .func (PySem.W.fnOf "_law_mix" "_law_mix" (L2.defArgs d24.st) (L2.defBody d24.st) (L2.defScope d24.st) .none kV24 dc24 pm24 an24 cd24 ct24), sl24⟩)
    (c24 : PySem.W.codeIn K cd24 "_law_mix" = true)
    (k24 : PySem.W.keepIn K (.ref g24) = true)
    (a26 : PySem.W.nsIn K PySem.mainGlobals "_law_word" = some (some (.ref g26)))
    (l26 : K.lookup g26 = some ⟨oc26, od26, .func (PySem.W.fnOf "_law_word" "_law_word" (L2.defArgs d26.st) (L2.defBody d26.st) (L2.defScope d26.st) .none kV26 dc26 pm26 an26 cd26 ct26), sl26⟩)
    (c26 : PySem.W.codeIn K cd26 "_law_word" = true)
    (k26 : PySem.W.keepIn K (.ref g26) = true)
    (a28 : PySem.W.nsIn K PySem.mainGlobals "_law_kind" = some (some (.ref g28)))
    (l28 : K.lookup g28 = some ⟨oc28, od28, .func (PySem.W.fnOf "_law_kind" "_law_kind" (L2.defArgs d28.st) (L2.defBody d28.st) (L2.defScope d28.st) .none kV28 dc28 pm28 an28 cd28 ct28), sl28⟩)
    (c28 : PySem.W.codeIn K cd28 "_law_kind" = true)
    (k28 : PySem.W.keepIn K (.ref g28) = true)
    (a29 : PySem.W.nsIn K PySem.mainGlobals "_law_cells" = some (some (.ref g29)))
    (l29 : K.lookup g29 = some ⟨oc29, od29, .func (PySem.W.fnOf "_law_cells" "_law_cells" (L2.defArgs d29.st) (L2.defBody d29.st) (L2.defScope d29.st) .none kV29 dc29 pm29 an29 cd29 ct29), sl29⟩)
    (c29 : PySem.W.codeIn K cd29 "_law_cells" = true)
    (k29 : PySem.W.keepIn K (.ref g29) = true)
    (a31 : PySem.W.nsIn K PySem.mainGlobals "_law_table" = some (some (.ref g31)))
    (l31 : K.lookup g31 = some ⟨oc31, od31, .func (PySem.W.fnOf "_law_table" "_law_table" (L2.defArgs d31.st) (L2.defBody d31.st) (L2.defScope d31.st) .none kV31 dc31 pm31 an31 cd31 ct31), sl31⟩)
    (c31 : PySem.W.codeIn K cd31 "_law_table" = true)
    (k31 : PySem.W.keepIn K (.ref g31) = true)
    (a32 : PySem.W.nsIn K PySem.mainGlobals "_law_web" = some (some (.ref g32)))
    (l32 : K.lookup g32 = some ⟨oc32, od32, .func (PySem.W.fnOf "_law_web" "_law_web" (L2.defArgs d32.st) (L2.defBody d32.st) (L2.defScope d32.st) .none kV32 dc32 pm32 an32 cd32 ct32), sl32⟩)
    (c32 : PySem.W.codeIn K cd32 "_law_web" = true)
    (k32 : PySem.W.keepIn K (.ref g32) = true)
    (a33 : PySem.W.nsIn K PySem.mainGlobals "_law_shuffled" = some (some (.ref g33)))
    (l33 : K.lookup g33 = some ⟨oc33, od33, .func (PySem.W.fnOf "_law_shuffled" "_law_shuffled" (L2.defArgs d33.st) (L2.defBody d33.st) (L2.defScope d33.st) .none kV33 dc33 pm33 an33 cd33 ct33), sl33⟩)
    (c33 : PySem.W.codeIn K cd33 "_law_shuffled" = true)
    (k33 : PySem.W.keepIn K (.ref g33) = true)
    (a34 : PySem.W.nsIn K PySem.mainGlobals "_law_family" = some (some (.ref g34)))
    (l34 : K.lookup g34 = some ⟨oc34, od34, .func (PySem.W.fnOf "_law_family" "_law_family" (L2.defArgs d34.st) (L2.defBody d34.st) (L2.defScope d34.st) .none kV34 dc34 pm34 an34 cd34 ct34), sl34⟩)
    (c34 : PySem.W.codeIn K cd34 "_law_family" = true)
    (k34 : PySem.W.keepIn K (.ref g34) = true)
    (a36 : PySem.W.findIn K (.ref C0) "between" = some (some (.ref g36)))
    (l36 : K.lookup g36 = some ⟨oc36, od36, .func (PySem.W.fnOf "between" "Web.between" (L2.defArgs d36.st) (L2.defBody d36.st) (L2.defScope d36.st) .none kV36 dc36 pm36 an36 cd36 ct36), sl36⟩)
    (c36 : PySem.W.codeIn K cd36 "Web.between" = true)
    (k36 : PySem.W.keepIn K (.ref g36) = true)
    (m36 : methB K C0 "between" g36 = true)
    (a38 : PySem.W.findIn K (.ref C0) "near" = some (some (.ref g38)))
    (l38 : K.lookup g38 = some ⟨oc38, od38, .func (PySem.W.fnOf "near" "Web.near" (L2.defArgs d38.st) (L2.defBody d38.st) (L2.defScope d38.st) .none kV38 dc38 pm38 an38 cd38 ct38), sl38⟩)
    (c38 : PySem.W.codeIn K cd38 "Web.near" = true)
    (k38 : PySem.W.keepIn K (.ref g38) = true)
    (m38 : methB K C0 "near" g38 = true)
    (a39 : PySem.W.nsIn K PySem.mainGlobals "_law_pairs_are" = some (some (.ref g39)))
    (l39 : K.lookup g39 = some ⟨oc39, od39, .func (PySem.W.fnOf "_law_pairs_are" "_law_pairs_are" (L2.defArgs d39.st) (L2.defBody d39.st) (L2.defScope d39.st) .none kV39 dc39 pm39 an39 cd39 ct39), sl39⟩)
    (c39 : PySem.W.codeIn K cd39 "_law_pairs_are" = true)
    (k39 : PySem.W.keepIn K (.ref g39) = true)
    (a683 : PySem.W.nsIn K PySem.mainGlobals "_law_near_is" = some (some (.ref g683)))
    (l683 : K.lookup g683 = some ⟨oc683, od683, .func (PySem.W.fnOf "_law_near_is" "_law_near_is" (L2.defArgs d683.st) (L2.defBody d683.st) (L2.defScope d683.st) .none kV683 dc683 pm683 an683 cd683 ct683), sl683⟩)
    (c683 : PySem.W.codeIn K cd683 "_law_near_is" = true)
    (k683 : PySem.W.keepIn K (.ref g683) = true)
    (a684 : PySem.W.nsIn K PySem.mainGlobals "_law_told" = some (some (.ref g684)))
    (l684 : K.lookup g684 = some ⟨oc684, od684, .func (PySem.W.fnOf "_law_told" "_law_told" (L2.defArgs d684.st) (L2.defBody d684.st) (L2.defScope d684.st) .none kV684 dc684 pm684 an684 cd684 ct684), sl684⟩)
    (c684 : PySem.W.codeIn K cd684 "_law_told" = true)
    (k684 : PySem.W.keepIn K (.ref g684) = true)
    (a685 : PySem.W.nsIn K PySem.mainGlobals "law" = some (some (.ref g685)))
    (l685 : K.lookup g685 = some ⟨oc685, od685, .func (PySem.W.fnOf "law" "law" (L2.defArgs d685.st) (L2.defBody d685.st) (L2.defScope d685.st) .none kV685 dc685 pm685 an685 cd685 ct685), sl685⟩)
    (c685 : PySem.W.codeIn K cd685 "law" = true)
    (k685 : PySem.W.keepIn K (.ref g685) = true)
    (z0 : PySem.W.nsIn K PySem.mainGlobals "len" = some none)
    (z1 : PySem.W.nsIn K PySem.mainGlobals "list" = some none)
    (z2 : PySem.W.nsIn K PySem.mainGlobals "tuple" = some none)
    (z3 : PySem.W.nsIn K PySem.mainGlobals "sorted" = some none)
    (z4 : PySem.W.nsIn K PySem.mainGlobals "all" = some none)
    (z5 : PySem.W.nsIn K PySem.mainGlobals "int" = some none)
    (z6 : PySem.W.nsIn K PySem.mainGlobals "min" = some none)
    (z7 : PySem.W.nsIn K PySem.mainGlobals "max" = some none)
    (z8 : PySem.W.nsIn K PySem.mainGlobals "range" = some none)
    (z9 : PySem.W.nsIn K PySem.mainGlobals "isinstance" = some none)
    (z10 : PySem.W.nsIn K PySem.mainGlobals "bool" = some none)
    (z11 : PySem.W.nsIn K PySem.mainGlobals "str" = some none)
    (z12 : PySem.W.nsIn K PySem.mainGlobals "enumerate" = some none)
    (z13 : PySem.W.nsIn K PySem.mainGlobals "zip" = some none)
    (z14 : PySem.W.nsIn K PySem.mainGlobals "reversed" = some none)
    (z15 : PySem.W.nsIn K PySem.mainGlobals "ValueError" = some none)
    (z16 : PySem.W.nsIn K PySem.mainGlobals "set" = some none)
    (z17 : PySem.W.nsIn K PySem.mainGlobals "sum" = some none)
    {u0 : PySem.Tok}
    (y0 : PySem.W.nsIn K PySem.mainGlobals "LETTERS" = some (some (.str "abcdefghijklmnopqrstuvwxyz" u0)))
    {u1 : PySem.Tok}
    (y1 : PySem.W.nsIn K PySem.mainGlobals "MOST_PLACES" = some (some (.int 7 u1)))
    {u2 : PySem.Tok}
    (y2 : PySem.W.nsIn K PySem.mainGlobals "MOST_TIES" = some (some (.int 12 u2)))
    (Lm lv : Nat) : ∃ fd : PySem.FuncData, (∀ (s : PySem.Shared) (v : PySem.Value), BindsTo s fd ⟨[v], []⟩ [("_law_script", v)]) ∧ ∀ base : PySem.Heap, K.In base → base.Ns PySem.mainGlobals mg → L2.FnOk P w K mg base (L2.CX P w) (2 * lv) fa fd ["_law_script"] (spQ lib Lm lv 685 K) := by
  have F12 := L2.fun_mk (st := d12.st) l12 c12 k12
  have b12 := F12.binds (ps := ["_law_found"]) fun _ _ _ _ _ _ us hl => match us, hl with | [_], _ => rfl
  have F16 := L2.fun_mk (st := d16.st) l16 c16 k16
  have b16 := F16.binds (ps := ["self", "kinds", "ties"]) fun _ _ _ _ _ _ us hl => match us, hl with | [_, _, _], _ => rfl
  have F17 := L2.fun_mk (st := d17.st) l17 c17 k17
  have b17 := F17.binds (ps := ["ties"]) fun _ _ _ _ _ _ us hl => match us, hl with | [_], _ => rfl
  have F18 := L2.fun_mk (st := d18.st) l18 c18 k18
  have b18 := F18.binds (ps := ["size", "tie"]) fun _ _ _ _ _ _ us hl => match us, hl with | [_, _], _ => rfl
  have F19 := L2.fun_mk (st := d19.st) l19 c19 k19
  have b19 := F19.binds (ps := ["kind"]) fun _ _ _ _ _ _ us hl => match us, hl with | [_], _ => rfl
  have F20 := L2.fun_mk (st := d20.st) l20 c20 k20
  have b20 := F20.binds (ps := ["tie"]) fun _ _ _ _ _ _ us hl => match us, hl with | [_], _ => rfl
  have F24 := L2.fun_mk (st := d24.st) l24 c24 k24
  have b24 := F24.binds (ps := ["_law_cell", "_law_k"]) fun _ _ _ _ _ _ us hl => match us, hl with | [_, _], _ => rfl
  have F26 := L2.fun_mk (st := d26.st) l26 c26 k26
  have b26 := F26.binds (ps := ["_law_seed", "_law_which"]) fun _ _ _ _ _ _ us hl => match us, hl with | [_, _], _ => rfl
  have F28 := L2.fun_mk (st := d28.st) l28 c28 k28
  have b28 := F28.binds (ps := ["_law_cell", "_law_seed"]) fun _ _ _ _ _ _ us hl => match us, hl with | [_, _], _ => rfl
  have F29 := L2.fun_mk (st := d29.st) l29 c29 k29
  have b29 := F29.binds (ps := ["_law_script", "_law_at", "_law_many"]) fun _ _ _ _ _ _ us hl => match us, hl with | [_, _, _], _ => rfl
  have F31 := L2.fun_mk (st := d31.st) l31 c31 k31
  have b31 := F31.binds (ps := ["_law_many", "_law_ties"]) fun _ _ _ _ _ _ us hl => match us, hl with | [_, _], _ => rfl
  have F32 := L2.fun_mk (st := d32.st) l32 c32 k32
  have b32 := F32.binds (ps := ["_law_cells_here", "_law_seed", "_law_many"]) fun _ _ _ _ _ _ us hl => match us, hl with | [_, _, _], _ => rfl
  have F33 := L2.fun_mk (st := d33.st) l33 c33 k33
  have b33 := F33.binds (ps := ["_law_seed", "_law_many"]) fun _ _ _ _ _ _ us hl => match us, hl with | [_, _], _ => rfl
  have F34 := L2.fun_mk (st := d34.st) l34 c34 k34
  have b34 := F34.binds (ps := ["_law_seed", "_law_many"]) fun _ _ _ _ _ _ us hl => match us, hl with | [_, _], _ => rfl
  have F36 := L2.fun_mk (st := d36.st) l36 c36 k36
  have b36 := F36.binds (ps := ["self", "one", "other"]) fun _ _ _ _ _ _ us hl => match us, hl with | [_, _, _], _ => rfl
  have F38 := L2.fun_mk (st := d38.st) l38 c38 k38
  have b38 := F38.binds (ps := ["self", "place"]) fun _ _ _ _ _ _ us hl => match us, hl with | [_, _], _ => rfl
  have F39 := L2.fun_mk (st := d39.st) l39 c39 k39
  have b39 := F39.binds (ps := ["_law_found", "_law_due"]) fun _ _ _ _ _ _ us hl => match us, hl with | [_, _], _ => rfl
  have F683 := L2.fun_mk (st := d683.st) l683 c683 k683
  have b683 := F683.binds (ps := ["_law_web_here", "_law_table_here", "_law_many", "_law_place"]) fun _ _ _ _ _ _ us hl => match us, hl with | [_, _, _, _], _ => rfl
  have F684 := L2.fun_mk (st := d684.st) l684 c684 k684
  have b684 := F684.binds (ps := ["_law_web_here", "_law_table_here", "_law_many", "_law_places"]) fun _ _ _ _ _ _ us hl => match us, hl with | [_, _, _, _], _ => rfl
  have F685 := L2.fun_mk (st := d685.st) l685 c685 k685
  have b685 := F685.binds (ps := ["_law_script"]) fun _ _ _ _ _ _ us hl => match us, hl with | [_], _ => rfl
  have wd : Wd K mg (cadL [(0, C0), (11, C11), (12, C12), (13, C13)]) TX DD := by
    refine ⟨fun i d hd => ?_, fun x hx => ?_, fun x v hx => ?_, fun c hc => ?_, fun x k hx => ?_⟩
    · simp only [DD, List.mem_cons, List.not_mem_nil, or_false, Prod.mk.injEq] at hd
      rcases hd with ⟨rfl, rfl⟩ | ⟨rfl, rfl⟩ | ⟨rfl, rfl⟩ | ⟨rfl, rfl⟩ | ⟨rfl, rfl⟩ | ⟨rfl, rfl⟩ | ⟨rfl, rfl⟩ | ⟨rfl, rfl⟩ | ⟨rfl, rfl⟩ | ⟨rfl, rfl⟩ | ⟨rfl, rfl⟩ | ⟨rfl, rfl⟩ | ⟨rfl, rfl⟩ | ⟨rfl, rfl⟩ | ⟨rfl, rfl⟩ | ⟨rfl, rfl⟩ | ⟨rfl, rfl⟩ | ⟨rfl, rfl⟩ | ⟨rfl, rfl⟩ | ⟨rfl, rfl⟩
      · exact ⟨g12, _, PySem.W.mg_of X G a12, b12, F12⟩
      · exact ⟨g16, _, mkB_ok m16, b16, F16⟩
      · exact ⟨g17, _, PySem.W.mg_of X G a17, b17, F17⟩
      · exact ⟨g18, _, PySem.W.mg_of X G a18, b18, F18⟩
      · exact ⟨g19, _, PySem.W.mg_of X G a19, b19, F19⟩
      · exact ⟨g20, _, PySem.W.mg_of X G a20, b20, F20⟩
      · exact ⟨g24, _, PySem.W.mg_of X G a24, b24, F24⟩
      · exact ⟨g26, _, PySem.W.mg_of X G a26, b26, F26⟩
      · exact ⟨g28, _, PySem.W.mg_of X G a28, b28, F28⟩
      · exact ⟨g29, _, PySem.W.mg_of X G a29, b29, F29⟩
      · exact ⟨g31, _, PySem.W.mg_of X G a31, b31, F31⟩
      · exact ⟨g32, _, PySem.W.mg_of X G a32, b32, F32⟩
      · exact ⟨g33, _, PySem.W.mg_of X G a33, b33, F33⟩
      · exact ⟨g34, _, PySem.W.mg_of X G a34, b34, F34⟩
      · exact ⟨g36, _, methB_ok m36, b36, F36⟩
      · exact ⟨g38, _, methB_ok m38, b38, F38⟩
      · exact ⟨g39, _, PySem.W.mg_of X G a39, b39, F39⟩
      · exact ⟨g683, _, PySem.W.mg_of X G a683, b683, F683⟩
      · exact ⟨g684, _, PySem.W.mg_of X G a684, b684, F684⟩
      · exact ⟨g685, _, PySem.W.mg_of X G a685, b685, F685⟩
    · simp only [bltNames, List.mem_cons, List.not_mem_nil, or_false] at hx
      rcases hx with rfl | rfl | rfl | rfl | rfl | rfl | rfl | rfl | rfl | rfl | rfl | rfl | rfl | rfl | rfl | rfl | rfl | rfl
      · exact PySem.W.mg_none_of X G z0
      · exact PySem.W.mg_none_of X G z1
      · exact PySem.W.mg_none_of X G z2
      · exact PySem.W.mg_none_of X G z3
      · exact PySem.W.mg_none_of X G z4
      · exact PySem.W.mg_none_of X G z5
      · exact PySem.W.mg_none_of X G z6
      · exact PySem.W.mg_none_of X G z7
      · exact PySem.W.mg_none_of X G z8
      · exact PySem.W.mg_none_of X G z9
      · exact PySem.W.mg_none_of X G z10
      · exact PySem.W.mg_none_of X G z11
      · exact PySem.W.mg_none_of X G z12
      · exact PySem.W.mg_none_of X G z13
      · exact PySem.W.mg_none_of X G z14
      · exact PySem.W.mg_none_of X G z15
      · exact PySem.W.mg_none_of X G z16
      · exact PySem.W.mg_none_of X G z17
    · simp only [TX, List.mem_cons, List.not_mem_nil, or_false, Prod.mk.injEq] at hx
      rcases hx with ⟨rfl, rfl⟩ | ⟨rfl, rfl⟩ | ⟨rfl, rfl⟩
      · exact ⟨_, _, PySem.W.mg_of X G y0, (show L2.RelV (.str "abcdefghijklmnopqrstuvwxyz") _ from ⟨_, rfl⟩), fun _ _ _ => rfl⟩
      · exact ⟨_, _, PySem.W.mg_of X G y1, (show L2.RelV (.int 7) _ from ⟨_, rfl⟩), fun _ _ _ => rfl⟩
      · exact ⟨_, _, PySem.W.mg_of X G y2, (show L2.RelV (.int 12) _ from ⟨_, rfl⟩), fun _ _ _ => rfl⟩
    · simp only [TX, List.mem_cons, List.not_mem_nil, or_false, Prod.mk.injEq] at hc
      rcases hc with rfl
      · exact ⟨PySem.W.mg_of X G q0, qb0⟩
    · simp only [TX, List.mem_cons, List.not_mem_nil, or_false, Prod.mk.injEq] at hx
      rcases hx with ⟨rfl, rfl⟩ | ⟨rfl, rfl⟩ | ⟨rfl, rfl⟩
      · exact ⟨PySem.W.mg_of X G q11, qb11, qr11⟩
      · exact ⟨PySem.W.mg_of X G q12, qb12, qr12⟩
      · exact ⟨PySem.W.mg_of X G q13, qb13, qr13⟩
  have e := hfa.symm.trans (PySem.W.mg_of X G a685)
  cases e
  exact ⟨_, fun s v => .of_eq rfl, fun base _ _ => (defs_ok (lib := lib) (D := DD) (t := TX) (G := ⟨K, cadL [(0, C0), (11, C11), (12, C12), (13, C13)], TX.fld, TX.exs⟩) (fun i d h => by show (DD.lookup i).map DefI.fn = _; rw [h]; rfl) rfl rfl rfl wd tx_ok dd_ok Lm lv 685 d685 _ _ rfl F685).imp fun vs H Q E h => spQ_of (G := ⟨K, cadL [(0, C0), (11, C11), (12, C12), (13, C13)], TX.fld, TX.exs⟩) h⟩
end TwL
open PySem PySem.W PyProof.Rows
set_option maxHeartbeats 0 in
theorem PySem.Challenge.cw_tieword_k02_between_and_near_holds : PySem.Challenge.rw_tieword_k02_between_and_near.Holds := by
  w_on; o_law; k_head; (case hw => w_witness2)
  k_fill
  refine L2.walk_of (l := PySem.Challenge.rw_tieword_k02_between_and_near) (n := 63) (k := 2 * 6) (x := "_law_script") (CX := fun w => L2.CX PySem.Challenge.rw_tieword_k02_between_and_near.prog w) (sp := fun w => Tw.spQ TwL.lib Tw.LM 6 685 _) rfl (by decide) rfl ⟨rfl, by decide, by decide⟩ (fun w h Y => PySem.W.kIn_of Y) ?F (fun _ _ a ns hl _ hS => Tw.spQ_here hS (TwL.law_true ns hl)) (fun _ _ _ _ _ h => Tw.cx_none h)
  case F =>
    intro w mg fa h KX G hmg
    refine' TwL.all_mk KX G hmg ?q0 ?qb0 ?q11 ?q12 ?q13 ?qb11 ?qr11 ?qb12 ?qr12 ?qb13 ?qr13 ?a12 ?l12 ?c12 ?k12 ?a16 ?l16 ?c16 ?k16 ?m16 ?a17 ?l17 ?c17 ?k17 ?a18 ?l18 ?c18 ?k18 ?a19 ?l19 ?c19 ?k19 ?a20 ?l20 ?c20 ?k20 ?a24 ?l24 ?c24 ?k24 ?a26 ?l26 ?c26 ?k26 ?a28 ?l28 ?c28 ?k28 ?a29 ?l29 ?c29 ?k29 ?a31 ?l31 ?c31 ?k31 ?a32 ?l32 ?c32 ?k32 ?a33 ?l33 ?c33 ?k33 ?a34 ?l34 ?c34 ?k34 ?a36 ?l36 ?c36 ?k36 ?m36 ?a38 ?l38 ?c38 ?k38 ?m38 ?a39 ?l39 ?c39 ?k39 ?a683 ?l683 ?c683 ?k683 ?a684 ?l684 ?c684 ?k684 ?a685 ?l685 ?c685 ?k685 ?z0 ?z1 ?z2 ?z3 ?z4 ?z5 ?z6 ?z7 ?z8 ?z9 ?z10 ?z11 ?z12 ?z13 ?z14 ?z15 ?z16 ?z17 ?y0 ?y1 ?y2 Tw.LM 6
    (case q0 => k_is)
    (case qb0 => kernel_rfl)
    (case q11 => k_is)
    (case q12 => k_is)
    (case q13 => k_is)
    (case qb11 => kernel_rfl)
    (case qr11 => kernel_rfl)
    (case qb12 => kernel_rfl)
    (case qr12 => kernel_rfl)
    (case qb13 => kernel_rfl)
    (case qr13 => kernel_rfl)
    (case a12 => k_is)
    (case l12 => k_is)
    (case c12 => k_is)
    (case k12 => k_is)
    (case a16 => k_is)
    (case l16 => k_is)
    (case c16 => k_is)
    (case k16 => k_is)
    (case m16 => kernel_rfl)
    (case a17 => k_is)
    (case l17 => k_is)
    (case c17 => k_is)
    (case k17 => k_is)
    (case a18 => k_is)
    (case l18 => k_is)
    (case c18 => k_is)
    (case k18 => k_is)
    (case a19 => k_is)
    (case l19 => k_is)
    (case c19 => k_is)
    (case k19 => k_is)
    (case a20 => k_is)
    (case l20 => k_is)
    (case c20 => k_is)
    (case k20 => k_is)
    (case a24 => k_is)
    (case l24 => k_is)
    (case c24 => k_is)
    (case k24 => k_is)
    (case a26 => k_is)
    (case l26 => k_is)
    (case c26 => k_is)
    (case k26 => k_is)
    (case a28 => k_is)
    (case l28 => k_is)
    (case c28 => k_is)
    (case k28 => k_is)
    (case a29 => k_is)
    (case l29 => k_is)
    (case c29 => k_is)
    (case k29 => k_is)
    (case a31 => k_is)
    (case l31 => k_is)
    (case c31 => k_is)
    (case k31 => k_is)
    (case a32 => k_is)
    (case l32 => k_is)
    (case c32 => k_is)
    (case k32 => k_is)
    (case a33 => k_is)
    (case l33 => k_is)
    (case c33 => k_is)
    (case k33 => k_is)
    (case a34 => k_is)
    (case l34 => k_is)
    (case c34 => k_is)
    (case k34 => k_is)
    (case a36 => k_is)
    (case l36 => k_is)
    (case c36 => k_is)
    (case k36 => k_is)
    (case m36 => kernel_rfl)
    (case a38 => k_is)
    (case l38 => k_is)
    (case c38 => k_is)
    (case k38 => k_is)
    (case m38 => kernel_rfl)
    (case a39 => k_is)
    (case l39 => k_is)
    (case c39 => k_is)
    (case k39 => k_is)
    (case a683 => k_is)
    (case l683 => k_is)
    (case c683 => k_is)
    (case k683 => k_is)
    (case a684 => k_is)
    (case l684 => k_is)
    (case c684 => k_is)
    (case k684 => k_is)
    (case a685 => k_is)
    (case l685 => k_is)
    (case c685 => k_is)
    (case k685 => k_is)
    (case z0 => k_is)
    (case z1 => k_is)
    (case z2 => k_is)
    (case z3 => k_is)
    (case z4 => k_is)
    (case z5 => k_is)
    (case z6 => k_is)
    (case z7 => k_is)
    (case z8 => k_is)
    (case z9 => k_is)
    (case z10 => k_is)
    (case z11 => k_is)
    (case z12 => k_is)
    (case z13 => k_is)
    (case z14 => k_is)
    (case z15 => k_is)
    (case z16 => k_is)
    (case z17 => k_is)
    (case y0 => k_is)
    (case y1 => k_is)
    (case y2 => k_is)
