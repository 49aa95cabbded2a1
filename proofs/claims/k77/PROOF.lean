import PyProof.Rows.All
import Wide.All
import OpenK.AllK
import Wide.FinOn
import HandS.ForMost
import HandS.TupAny
import HandS.TupMul
import HandS.Deep
import HandS.Style
import HandS.Flow
import KE.GoesMore
import KE.GoesEnum
import KE.GoesZip
import HandS.Walk
import KE.KTupSum
import HandS.TupSets
import PyProof.TupleOfStr
import HandS.IsInst
import HandS.Replace
import HandS.Strs
import PyProof.Rows.SortShellAny
import HandS.ExcOwn
import HandS.ExcValue
import HandS.SortInts
import HandS.Small
import HandS.Conv
import HandS.Exc
import HandS.WordsExc
import HandS.ExcInit
import HandS.ExcField
import HandS.Words
import KE.KExcSuper
import KE.KExcInit
import HandS.HeadWalk
import HandS.ExcIs
import PySem.Challenge.RW_wordslaid_k77_whole_shapes_under_words
set_option linter.all false
set_option Elab.async false
section
set_option linter.all false
/-! Cw0: a small language of values: its syntax trees, what they compute. -/
namespace Cw

/-- a value; lists and dicts are told by what they hold; cel: a list that is shared and changed -/
inductive W where
  | non | bl (b : Bool) | int (i : Int) | str (s : List Nat) | tup (xs : List W) | lst (xs : List W) | dct (ks vs : List W) | cel (n : Nat)

abbrev Cells := List (List W)
/-- an error: its class, what it bears -/
structure Exn where
  cls : Nat
  arg : Option W
inductive Res (α : Type) where
  | ok (a : α) (c : Cells) | exc (x : Exn) (c : Cells) | stuck
def M (α : Type) : Type := Cells → Res α
namespace M
variable {α β : Type}
def bnd (m : M α) (f : α → M β) : M β := fun c => match m c with
  | .ok a c' => f a c'
  | .exc x c' => .exc x c'
  | .stuck => .stuck
def ret (a : α) : M α := fun c => .ok a c
def no : M α := fun _ => .stuck
def lift : Option α → M α
  | some a => ret a
  | none => no
def throw (x : Exn) : M α := fun c => .exc x c
def guard (b : Bool) (m : M α) : M α := if b = true then m else no
end M
instance : Monad M where
  pure := M.ret
  bind := M.bnd

/-- an expression does not go on behind an error -/
def noExc {α : Type} (m : M α) : M α := fun c => match m c with
  | .exc _ _ => .stuck
  | r => r
def sizeL : Nat := 16777216

/-- what is borne: an int is not too long to be told as a text -/
def Exn.fits (x : Exn) : Bool := match x.arg with
  | some (.int i) => decide (i.natAbs.log2 < 61)
  | _ => true
def throwF {α : Type} (x : Exn) : M α := if x.fits = true then M.throw x else M.no
/-- fresh (no one else holds it) or not -/
inductive Val where
  | w (w : W) | own (w : W) | bor (w : W)
def Val.get : Val → W
  | .w x => x | .own x => x | .bor x => x
/-- the value, to be kept by others -/
def Val.keep : Val → Option W
  | .w x => some x | .own x => some x | .bor _ => none
inductive Slot where
  | none | val (w : W) | own (w : W)
abbrev Slots := List Slot

/-! ### values -/
def W.scal : W → Bool
  | .non | .bl _ | .int _ | .str _ => true
  | _ => false
/-- an int or a text -/
def W.flat : W → Bool
  | .int _ | .str _ => true
  | _ => false
def W.isNon : W → Bool
  | .non => true
  | _ => false
def W.isTup : W → Bool
  | .tup _ => true
  | _ => false
/-- plain data of at most that depth -/
def W.plain : Nat → W → Bool
  | _, .non | _, .bl _ | _, .int _ => true
  | _, .str s => s.all (· < 1114112)
  | n + 1, .tup xs => xs.all (W.plain n)
  | n + 1, .lst xs => xs.all (W.plain n)
  | _, _ => false
/-- == of plain data -/
def W.eqv : Nat → W → W → Bool
  | _, .non, .non => true
  | _, .bl a, .bl b => a == b
  | _, .bl a, .int j => (if a then 1 else 0) == j
  | _, .int i, .bl b => i == (if b then 1 else 0)
  | _, .int i, .int j => i == j
  | _, .str x, .str y => x == y
  | n + 1, .lst xs, .lst ys => xs.length == ys.length && (xs.zip ys).all fun p => W.eqv n p.1 p.2
  | n + 1, .tup xs, .tup ys => xs.length == ys.length && (xs.zip ys).all fun p => W.eqv n p.1 p.2
  | _, _, _ => false
def W.truth : W → Option Bool
  | .non => some false
  | .bl b => some b
  | .int i => some (i != 0)
  | .str s => if s.length ≤ sizeL then some (!s.isEmpty) else none
  | .tup xs => some (!xs.isEmpty)
  | .lst xs => some (!xs.isEmpty)
  | .dct _ _ => none
  | .cel _ => none
/-- what a walk over it gives -/
def W.items : W → Option (List W)
  | .str s => some (s.map fun c => .str [c])
  | .tup xs => some xs
  | .lst xs => some xs
  | .dct _ _ => none
  | _ => none
/-- the items of a list or a tuple -/
def W.seq : W → Option (List W)
  | .tup xs => some xs
  | .lst xs => some xs
  | _ => none
def W.int? : W → Option Int
  | .int i => some i
  | _ => none
def W.bl? : W → Option Bool
  | .bl i => some i
  | _ => none
def W.str? : W → Option (List Nat)
  | .str i => some i
  | _ => none
def allInt? : List W → Option (List Int)
  | [] => some []
  | .int i :: r => (allInt? r).map (i :: ·)
  | _ :: _ => none
def allBl? : List W → Option (List Bool)
  | [] => some []
  | .bl i :: r => (allBl? r).map (i :: ·)
  | _ :: _ => none
def allStr? : List W → Option (List (List Nat))
  | [] => some []
  | .str i :: r => (allStr? r).map (i :: ·)
  | _ :: _ => none

/-! ### operators -/
inductive Bop where
  | add | sub | mul | fdiv | mod | pow
inductive Cop where
  | eq | ne | lt | le | gt | ge | is_ | isnot | in_ | notin
def binop : Bop → W → W → Option Val
  | .add, .int i, .int j => some (.w (.int (i + j)))
  | .add, .str a, .str b => if a.length + b.length ≤ sizeL then some (.w (.str (a ++ b))) else none
  | .add, .tup a, .tup b => if a.length + b.length ≤ sizeL then some (.w (.tup (a ++ b))) else none
  | .add, .lst a, .lst b => if a.length + b.length ≤ sizeL then some (.own (.lst (a ++ b))) else none
  | .sub, .int i, .int j => some (.w (.int (i - j)))
  | .mul, .int i, .int j => if i.natAbs < 18446744073709551616 ∨ j.natAbs < 18446744073709551616 then some (.w (.int (i * j))) else none
  | .mul, .str a, .int k => if a.length * k.toNat ≤ sizeL ∧ -9223372036854775808 ≤ k ∧ k < 9223372036854775808 then some (.w (.str (List.replicate k.toNat a).flatten)) else none
  | .mul, .lst a, .int k => if a.length * k.toNat ≤ sizeL ∧ -9223372036854775808 ≤ k ∧ k < 9223372036854775808 then some (.own (.lst (List.replicate k.toNat a).flatten)) else none
  | .mul, .tup a, .int k => if a ≠ [] ∧ 2 ≤ k ∧ k ≤ 1000 ∧ a.length ≤ 1000 then some (.w (.tup (List.replicate k.toNat a).flatten)) else none
  | .fdiv, .int i, .int j => if 0 < j ∧ j < 1073741824 then some (.w (.int (i / j))) else none
  | .mod, .int i, .int j => if 0 < j then some (.w (.int (i % j))) else none
  | .pow, .int i, .int j => if 0 ≤ j ∧ j ≤ 1000000 ∧ i.natAbs < 18446744073709551616 then some (.w (.int (i ^ j.toNat))) else none
  | _, _, _ => none
def isInfix (a : List Nat) : List Nat → Bool
  | [] => a.isEmpty
  | c :: r => a.isPrefixOf (c :: r) || isInfix a r
def inStr : List Nat → List Nat → Bool
  | [c], b => b.elem c
  | a, b => isInfix a b
def cmpop : Cop → W → W → Option Bool
  | .eq, .int i, .int j => some (i == j)
  | .eq, .str i, .str j => some (i == j)
  | .eq, a, b => if W.plain 60 a && W.plain 60 b then some (W.eqv 60 a b) else none
  | .ne, .int i, .int j => some (!(i == j))
  | .ne, .str i, .str j => some (!(i == j))
  | .ne, a, b => if W.plain 60 a && W.plain 60 b then some (!W.eqv 60 a b) else none
  | .lt, .int i, .int j => some (decide (i < j))
  | .lt, .str i, .str j => some (decide (i < j))
  | .le, .int i, .int j => some (decide (i ≤ j))
  | .gt, .int i, .int j => some (decide (j < i))
  | .gt, .str i, .str j => some (decide (j < i))
  | .ge, .int i, .int j => some (decide (j ≤ i))
  | .is_, a, .non => some a.isNon
  | .isnot, a, .non => some (!a.isNon)
  | .is_, .bl a, .bl b => some (a == b)
  | .isnot, .bl a, .bl b => some (!(a == b))
  | .in_, .str a, .str b => some (inStr a b)
  | .notin, .str a, .str b => some (!inStr a b)
  | .in_, a, .tup xs => if a.scal && xs.all W.scal then some (xs.any fun x => W.eqv 1 x a) else none
  | .in_, a, .lst xs => if W.plain 58 a && xs.all (W.plain 58) then some (xs.any fun x => W.eqv 58 x a) else none
  | .notin, a, .tup xs => if a.scal && xs.all W.scal then some (!xs.any fun x => W.eqv 1 x a) else none
  | .notin, a, .lst xs => if W.plain 58 a && xs.all (W.plain 58) then some (!xs.any fun x => W.eqv 58 x a) else none
  | _, _, _ => none
/-- the place that an index tells -/
def ixN (n : Nat) (i : Int) : Option Nat := if 0 ≤ i ∧ i < n then some i.toNat else if i < 0 ∧ 0 ≤ i + n then some (i + n).toNat else none
def atI {α : Type} (xs : List α) (i : Int) : Option α := (ixN xs.length i).bind fun j => xs[j]?
/-- a bound of a slice -/
def sIx (n : Nat) (d : Nat) : Option Int → Nat
  | none => d
  | some i => if i < 0 then (i + n).toNat else min i.toNat n
def cut {α : Type} (xs : List α) (lo hi : Option Int) : List α := (xs.drop (sIx xs.length 0 lo)).take (sIx xs.length xs.length hi - sIx xs.length 0 lo)
def getitem (c : Cells) : W → W → Option W
  | .str s, .int i => if s.length ≤ sizeL then (atI s i).map fun x => .str [x] else none
  | .tup xs, .int i => atI xs i
  | .lst xs, .int i => atI xs i
  | .cel n, .int i => (c[n]?).bind fun xs => atI xs i
  | _, _ => none
def slice : W → Option Int → Option Int → Option Val
  | .str s, lo, hi => if s.length ≤ sizeL then some (.w (.str (cut s lo hi))) else none
  | .tup xs, lo, hi => some (.w (.tup (cut xs lo hi)))
  | .lst xs, lo, hi => some (.own (.lst (cut xs lo hi)))
  | _, _, _ => none
/-- x[::-1] -/
def backw : W → Option Val
  | .str s => if s.length ≤ sizeL then some (.w (.str s.reverse)) else none
  | .tup xs => some (.w (.tup xs.reverse))
  | .lst xs => some (.own (.lst xs.reverse))
  | _ => none

/-! ### dicts: the keys in their order, the values beside them -/
def W.isKey : W → Bool
  | .int _ | .str _ => true
  | _ => false
def keyEq : W → W → Bool
  | .int i, .int j => i == j
  | .str s, .str t => s == t
  | _, _ => false
def lookW : List W → List W → W → Option W
  | k :: ks, v :: vs, y => if keyEq k y = true then some v else lookW ks vs y
  | _, _, _ => none
def replW : List W → List W → W → W → List W
  | k :: ks, v :: vs, y, z => (if keyEq k y = true then z else v) :: replW ks vs y z
  | _, _, _, _ => []
def putW (ks vs : List W) (y z : W) : W := if (lookW ks vs y).isSome = true then .dct ks (replW ks vs y z) else .dct (ks ++ [y]) (vs ++ [z])
def dgetW : W → W → Option W
  | .dct ks vs, y => if y.isKey = true then lookW ks vs y else none
  | _, _ => none
def dgetDW : W → W → W → Option W
  | .dct ks vs, y, z => if y.isKey = true then some ((lookW ks vs y).getD z) else none
  | _, _, _ => none
def dinW : W → W → Option Bool
  | .dct ks vs, y => if y.isKey = true then some (lookW ks vs y).isSome else none
  | _, _ => none
/-! ### built-in functions and methods -/
inductive Blt where
  | rangeT | rangeL | len | int | abs | max | min | sum | all | any | tuple | list | sorted | lenset | sortedset | isinst (t : Nat) | bool | dict
def rangeW (lo : Int) (c : Int) : Nat → List W
  | 0 => []
  | n + 1 => .int lo :: rangeW (lo + c) c n
def digits (n : Nat) : List Nat := (Nat.toDigits 10 n).map Char.toNat
/-- sorted, by insertion: stable -/
def insBy {α : Type} (lt : α → α → Bool) (x : α) : List α → List α
  | [] => [x]
  | y :: r => if lt x y then x :: y :: r else y :: insBy lt x r
def sortBy {α : Type} (lt : α → α → Bool) : List α → List α
  | [] => []
  | x :: r => insBy lt x (sortBy lt r)
def ltL (a b : List Nat) : Bool := decide (a < b)
def joinS (sep : List Nat) : List (List Nat) → List Nat
  | [] => []
  | [x] => x
  | x :: r => x ++ sep ++ joinS sep r
def sumI : List Int → Int
  | [] => 0
  | x :: r => x + sumI r
def maxI : Int → List Int → Int
  | m, [] => m
  | m, x :: r => maxI (if x > m then x else m) r
def minI : Int → List Int → Int
  | m, [] => m
  | m, x :: r => minI (if x < m then x else m) r
/-- the same, each once, the first ones -/
def dedup : List (List Nat) → List (List Nat)
  | [] => []
  | x :: r => x :: (dedup r).filter (· != x)
def dedupI : List Int → List Int
  | [] => []
  | x :: r => x :: (dedupI r).filter (· != x)
def ltI (a b : Int) : Bool := decide (a < b)
/-- sorted, of texts, or of ints -/
def sortW (xs : List W) : Option (List W) := match allStr? xs with
  | some ss => some ((sortBy ltL ss).map .str)
  | none => (allInt? xs).map fun ns => (sortBy ltI ns).map .int
def sortSetW (xs : List W) : Option (List W) := match allStr? xs with
  | some ss => some ((sortBy ltL (dedup ss)).map .str)
  | none => (allInt? xs).map fun ns => (sortBy ltI (dedupI ns)).map .int
def lenSetW (xs : List W) : Option Nat := match allStr? xs with
  | some ss => some (dedup ss).length
  | none => (allInt? xs).map fun ns => (dedupI ns).length
/-- tuples of ints, the least of them -/
def allTupI? : List W → Option (List (List Int))
  | [] => some []
  | .tup ws :: r => (allInt? ws).bind fun ns => (allTupI? r).map (ns :: ·)
  | _ :: _ => none
def lexI : List Int → List Int → Bool
  | [], [] => false
  | [], _ :: _ => true
  | _ :: _, [] => false
  | x :: xs, y :: ys => if x = y then lexI xs ys else decide (x < y)
def minTI : List Int → List (List Int) → List Int
  | m, [] => m
  | m, x :: r => minTI (if lexI x m = true then x else m) r
/-- pairs of a key and a value; the dict of them -/
def allPair? : List W → Option (List (W × W))
  | [] => some []
  | .tup [k, v] :: r => if k.isKey = true then (allPair? r).map ((k, v) :: ·) else none
  | _ :: _ => none
def mkDct : List (W × W) → W → W
  | [], d => d
  | (k, v) :: r, .dct ks vs => mkDct r (putW ks vs k v)
  | _ :: r, d => mkDct r d
def charsW (s : List Nat) : List W := s.map fun c => .str [c]
/-- the names of the kinds: 0 int, 1 bool, 2 str, 3 tuple, 4 list, 5 dict -/
def isinst : Nat → W → Option Bool
  | _, .cel _ => none
  | _, .dct _ _ => none
  | 0, .int _ => some true
  | 0, .bl _ => some true
  | 1, .bl _ => some true
  | 2, .str _ => some true
  | 3, .tup _ => some true
  | 4, .lst _ => some true
  | _, _ => some false
def bltop : Blt → List W → Option Val
  | .rangeT, [.int i] => if 0 ≤ i ∧ i ≤ 1000000 then some (.w (.tup (rangeW 0 1 i.toNat))) else none
  | .rangeL, [.int i] => if 0 ≤ i ∧ i ≤ 1000000 then some (.own (.lst (rangeW 0 1 i.toNat))) else none
  | .len, [.str s] => if s.length ≤ sizeL then some (.w (.int s.length)) else none
  | .len, [.tup xs] => some (.w (.int xs.length))
  | .len, [.lst xs] => some (.w (.int xs.length))
  | .int, [.int i] => some (.w (.int i))
  | .int, [.bl b] => some (.w (.int (if b then 1 else 0)))
  | .abs, [.int i] => some (.w (.int (if i < 0 then -i else i)))
  | .max, [.int i, .int j] => some (.w (.int (if j > i then j else i)))
  | .min, [.int i, .int j] => some (.w (.int (if j < i then j else i)))
  | .max, [.lst (.int i :: r)] => (allInt? r).map fun ns => .w (.int (maxI i ns))
  | .min, [.lst (.int i :: r)] => (allInt? r).map fun ns => .w (.int (minI i ns))
  | .min, [.lst (.tup ws :: r)] => (allInt? ws).bind fun ns => (allTupI? r).map fun l => .w (.tup ((minTI ns l).map .int))
  | .dict, [.lst xs] => (allPair? xs).map fun ps => .own (mkDct ps (.dct [] []))
  | .sum, [.lst xs] => (allInt? xs).map fun ns => .w (.int (sumI ns))
  | .sum, [.tup xs] => (allInt? xs).map fun ns => .w (.int (sumI ns))
  | .all, [.lst xs] => (allBl? xs).map fun ns => .w (.bl (ns.all id))
  | .any, [.lst xs] => (allBl? xs).map fun ns => .w (.bl (ns.any id))
  | .tuple, [.lst xs] => some (.w (.tup xs))
  | .tuple, [.tup xs] => some (.w (.tup xs))
  | .tuple, [.str s] => if s.length ≤ sizeL then some (.w (.tup (charsW s))) else none

  | .list, [.lst xs] => some (.own (.lst xs))
  | .list, [.tup xs] => some (.own (.lst xs))

  | .isinst t, [x] => (isinst t x).map fun b => .w (.bl b)
  | .bool, [.bl b] => some (.w (.bl b))
  | .bool, [.int b] => some (.w (.bl (b != 0)))
  | .sorted, [.str s] => if s.length ≤ sizeL then some (.own (.lst ((sortBy (fun a b => decide (a < b)) s).map fun c => .str [c]))) else none
  | .sorted, [.lst xs] => (sortW xs).map fun ys => .own (.lst ys)
  | .sortedset, [.lst xs] => if xs.length < 4000 then (sortSetW xs).map fun ys => .own (.lst ys) else none
  | .sortedset, [.str s] => if s.length < 4000 then (sortSetW (charsW s)).map fun ys => .own (.lst ys) else none
  | .lenset, [.str s] => if s.length < 4000 then (lenSetW (charsW s)).map fun (n : Nat) => .w (.int (n : Int)) else none
  | .lenset, [.lst xs] => if xs.length < 4000 then (lenSetW xs).map fun (n : Nat) => .w (.int (n : Int)) else none
  | _, _ => none
inductive Mth where
  | join | index | count | startswith | endswith
/-- the first place of the one in the other -/
def findS (a : List Nat) : List Nat → Option Nat
  | [] => if a.isEmpty then some 0 else none
  | c :: r => if a.isPrefixOf (c :: r) then some 0 else (findS a r).map (· + 1)
/-- how often, without overlaps, a sign stands in it -/
def countS (a : Nat) (s : List Nat) : Nat := s.countP (· == a)
def firstEq (a : W) : List W → Option Nat
  | [] => none
  | x :: r => if W.eqv 60 x a then some 0 else (firstEq a r).map (· + 1)
def methop : Mth → W → List W → Option Val
  | .join, .str sep, [.lst xs] => (allStr? xs).bind fun ss => if (ss.map List.length).sum + ss.length * sep.length ≤ sizeL then some (.w (.str (joinS sep ss))) else none
  | .join, .str sep, [.tup xs] => (allStr? xs).bind fun ss => if (ss.map List.length).sum + ss.length * sep.length ≤ sizeL then some (.w (.str (joinS sep ss))) else none
  | .index, .str s, [.str a] => (findS a s).map fun (i : Nat) => .w (.int (i : Int))
  | .index, .lst xs, [.str a] => (allStr? xs).bind fun ss => (ss.findIdx? (· == a)).map fun (i : Nat) => .w (.int (i : Int))

  | .count, .str s, [.str [a]] => some (.w (.int (countS a s)))
  | .startswith, .str s, [.str a] => some (.w (.bl (a.isPrefixOf s)))
  | .endswith, .str s, [.str a] => some (.w (.bl (a.isSuffixOf s)))
  | _, _, _ => none

/-! ### the trees -/
inductive Tg where
  | nm (i : Nat) | tp (l : List Nat)
mutual
inductive E where
  | var (i : Nat) | peek (i : Nat) | lit (w : W) | glob (g : Nat)
  | bin (op : Bop) (a b : E) | neg (a : E) | cmp (op : Cop) (a b : E) | chain (o1 o2 : Cop) (a b c : E)
  | and_ (a b : E) | or_ (a b : E) | not_ (a : E) | ife (t a b : E)
  | call (f : Nat) (as : Es) | blt (f : Blt) (as : Es) | meth (m : Mth) (o : E) (as : Es)
  | sub (o i : E) | slc (o : E) (lo hi : Es) | rev (o : E)
  | tup (as : Es) | lst (as : Es)
  | dnew | dget (o k : E) | dgetD (o k d : E) | din (neg : Bool) (k o : E)
  | comp (el : E) (t : Tg) (it : Wk) (cond : Es) (own : List Nat)
  | compK (el : E) (i t : Nat) (cond : Es) (own : List Nat)
  | comp2 (el : E) (t : Tg) (it : Wk) (cond : Es) (t2 : Tg) (it2 : Wk) (cond2 : Es) (own own2 : List Nat)
inductive Es where
  | nil | cons (e : E) (r : Es)
inductive Wk where
  | seq (e : E) | rng1 (a : E) | rng2 (a b : E) | rng3 (a b c : E) | enum (e : E) | zip (a b : E) | zip3 (a b c : E)
end
mutual
inductive S where
  | set (i : Nat) (e : E) | setOwn (i : Nat) (e : E) | setCell (i : Nat) (e : E) | frz (i : Nat)
  | unpack (l : List Nat) (e : E) | par (l : List (Nat × Bool)) (es : Es)
  | setIt (i : Nat) (idx e : E) | dput (i : Nat) (k e : E) | app (i : Nat) (e : E) | popTo (j : Nat) (i : Nat) (idx : Es) | appPop (j : Nat) (i : Nat) (idx : Es)
  | expr (e : E) | ite (t : E) (a b : Ss) | for_ (t : Tg) (it : Wk) (b : Ss) | while_ (t : E) (b : Ss)
  | ret (e : E) | retN | retOwn (i : Nat) | raise (c : Nat) (arg : Es) | tryLim (f : Nat) (as : Es) (c : Nat) (k : E) | pass | brk | cnt
inductive Ss where
  | nil | cons (s : S) (r : Ss)
end

structure Fn where
  np : Nat
  ns : Nat
  body : Ss
structure Prog where
  fns : List Fn
  consts : List W

/-! ### what they compute -/
def bindTg : Tg → W → Slots → Option Slots
  | .nm i, w, sl => some (sl.set i (.val w))
  | .tp l, .tup ws, sl => if l.length = ws.length then some ((l.zip ws).foldl (fun s p => s.set p.1 (.val p.2)) sl) else none
  | .tp _, _, _ => none
def wipeS (sl : Slots) : List Nat → Slots
  | [] => sl
  | v :: vs => (wipeS sl vs).set v .none
/-- less than 2^61 (told so that no one counts to it) -/
def bound62 (i : Int) : Bool := decide (i.natAbs.log2 < 61)
def enumW : Nat → List W → List W
  | _, [] => []
  | n, x :: r => .tup [.int n, x] :: enumW (n + 1) r
def zipW (a b : List W) : List W := (a.zip b).map fun p => .tup [p.1, p.2]
def zip3W (a b c : List W) : List W := (a.zip (b.zip c)).map fun p => .tup [p.1, p.2.1, p.2.2]

def cmpLp (bd : W → Option Slots) (cond : Slots → M Bool) (el : Slots → M W) : List W → M (List W)
  | [] => pure []
  | w :: ws => do
    let sl ← M.lift (bd w)
    let b ← cond sl
    if b = true then
      let x ← el sl
      let r ← cmpLp bd cond el ws
      pure (x :: r)
    else cmpLp bd cond el ws
def cmpLp2 (bd : W → Option Slots) (cond : Slots → M Bool) (inner : Slots → M (List W)) : List W → M (List W)
  | [] => pure []
  | w :: ws => do
    let sl ← M.lift (bd w)
    let b ← cond sl
    if b = true then
      let x ← inner sl
      let r ← cmpLp2 bd cond inner ws
      pure (x ++ r)
    else cmpLp2 bd cond inner ws

/-- the keys of a dict that a slot tells -/
def slotKeys : Option Slot → Option (List W)
  | some (.val (.dct ks _)) => some ks
  | _ => none
def listFit (r : List W) : M Val := if r.length ≤ sizeL then pure (.own (.lst r)) else M.no
/-- what a walk over a value gives; a loop's own body may change what is only looked at (st: a loop) -/
def itemsM (st : Bool) (v : Val) : M (List W) := if st = true then M.lift (v.keep.bind W.items) else M.lift v.get.items
def truthM (v : Val) : M Bool := M.lift v.get.truth
def keepM (v : Val) : M W := M.lift v.keep

section
variable (P : Prog) (R : Nat → List W → M Val)
mutual
def evE : E → Slots → M Val
  | .var i, sl => match sl[i]? with
    | some (.val w) => pure (.w w)
    | _ => M.no
  | .peek i, sl => match sl[i]? with
    | some (.own w) => pure (.bor w)
    | _ => M.no
  | .lit w, _ => pure (.w w)
  | .glob g, _ => M.lift ((P.consts[g]?).map .w)
  | .bin op a b, sl => do
    let x ← evE a sl
    let y ← evE b sl
    M.lift (binop op x.get y.get)
  | .neg a, sl => do
    let x ← evE a sl
    M.lift (x.get.int?.map fun i => .w (.int (-i)))
  | .cmp op a b, sl => do
    let x ← evE a sl
    let y ← evE b sl
    M.lift ((cmpop op x.get y.get).map fun b => .w (.bl b))
  | .chain o1 o2 a b c, sl => do
    let x ← evE a sl
    let y ← evE b sl
    let k ← M.lift (cmpop o1 x.get y.get)
    if k = true then
      let z ← evE c sl
      M.lift ((cmpop o2 y.get z.get).map fun b => .w (.bl b))
    else pure (.w (.bl false))
  | .and_ a b, sl => do
    let x ← evE a sl
    let k ← truthM x
    if k = true then evE b sl else pure x
  | .or_ a b, sl => do
    let x ← evE a sl
    let k ← truthM x
    if k = true then pure x else evE b sl
  | .not_ a, sl => do
    let x ← evE a sl
    let k ← truthM x
    pure (.w (.bl (!k)))
  | .ife t a b, sl => do
    let x ← evE t sl
    let k ← truthM x
    if k = true then evE a sl else evE b sl
  | .call f as, sl => do
    let ws ← evEs as sl
    noExc (R f ws)
  | .blt f as, sl => do
    let ws ← evEv as sl
    M.lift (bltop f ws)
  | .meth m o as, sl => do
    let x ← evE o sl
    let ws ← evEv as sl
    M.lift (methop m x.get ws)
  | .sub o i, sl => do
    let x ← evE o sl
    let y ← evE i sl
    fun c => M.lift ((getitem c x.get y.get).map .w) c
  | .slc o lo hi, sl => do
    let x ← evE o sl
    let a ← evO lo sl
    let b ← evO hi sl
    M.lift (slice x.get a b)
  | .rev o, sl => do
    let x ← evE o sl
    M.lift (backw x.get)
  | .tup as, sl => do
    let ws ← evEs as sl
    if ws.length ≤ sizeL then pure (.w (.tup ws)) else M.no
  | .lst as, sl => do
    let ws ← evEs as sl
    listFit ws
  | .dnew, _ => pure (.own (.dct [] []))
  | .dget o k, sl => do
    let x ← evE o sl
    let y ← evE k sl
    M.lift ((dgetW x.get y.get).map .w)
  | .dgetD o k d, sl => do
    let x ← evE o sl
    let y ← evE k sl
    let z ← evE d sl
    let w ← keepM z
    M.lift ((dgetDW x.get y.get w).map .w)
  | .din neg k o, sl => do
    let y ← evE k sl
    let x ← evE o sl
    M.lift ((dinW x.get y.get).map fun b => .w (.bl (if neg = true then !b else b)))
  | .comp el t it cond own, sl => do
    let ws ← evIt it false sl
    let r ← cmpLp (fun w => bindTg t w (wipeS sl own)) (fun s => evC cond s) (fun s => do let v ← evE el s; keepM v) ws
    listFit r
  | .compK el i t cond own, sl => do
    let ks ← M.lift (slotKeys sl[i]?)
    let r ← cmpLp (fun w => bindTg (.nm t) w (wipeS sl own)) (fun s => evC cond s) (fun s => do let v ← evE el s; keepM v) ks
    listFit r
  | .comp2 el t it cond t2 it2 cond2 own own2, sl => do
    let ws ← evIt it false sl
    let r ← cmpLp2 (fun w => bindTg t w (wipeS sl own)) (fun s => evC cond s) (fun s => do
      let ws2 ← evIt it2 true s
      cmpLp (fun w => bindTg t2 w (wipeS s own2)) (fun s => evC cond2 s) (fun s => do let v ← evE el s; keepM v) ws2) ws
    listFit r
/-- values that are kept -/
def evEs : Es → Slots → M (List W)
  | .nil, _ => pure []
  | .cons e r, sl => do
    let v ← evE e sl
    let w ← keepM v
    let ws ← evEs r sl
    pure (w :: ws)
/-- values that are looked at -/
def evEv : Es → Slots → M (List W)
  | .nil, _ => pure []
  | .cons e r, sl => do
    let v ← evE e sl
    let ws ← evEv r sl
    pure (v.get :: ws)
/-- an int or nothing -/
def evO : Es → Slots → M (Option Int)
  | .nil, _ => pure none
  | .cons e _, sl => do
    let v ← evE e sl
    let i ← M.lift v.get.int?
    pure (some i)
/-- a test or nothing -/
def evC : Es → Slots → M Bool
  | .nil, _ => pure true
  | .cons e _, sl => do
    let v ← evE e sl
    truthM v
def evIt : Wk → Bool → Slots → M (List W)
  | .seq e, st, sl => do
    let v ← evE e sl
    itemsM st v
  | .rng1 a, _, sl => do
    let x ← evE a sl
    let i ← M.lift x.get.int?
    if bound62 i = true then pure (rangeW 0 1 i.toNat) else M.no
  | .rng2 a b, _, sl => do
    let x ← evE a sl
    let y ← evE b sl
    let i ← M.lift x.get.int?
    let j ← M.lift y.get.int?
    if (bound62 i && bound62 j) = true then pure (rangeW i 1 (j - i).toNat) else M.no
  | .rng3 a b c, _, sl => do
    let x ← evE a sl
    let y ← evE b sl
    let z ← evE c sl
    let i ← M.lift x.get.int?
    let j ← M.lift y.get.int?
    let k ← M.lift z.get.int?
    if (bound62 i && bound62 j && decide (k = -1)) = true then pure (rangeW i k (i - j).toNat) else M.no
  | .enum e, st, sl => do
    let v ← evE e sl
    let xs ← itemsM st v
    if v.get.isTup = true then M.no else pure (enumW 0 xs)
  | .zip a b, st, sl => do
    let x ← evE a sl
    let y ← evE b sl
    let xs ← itemsM st x
    let ys ← itemsM st y
    pure (zipW xs ys)
  | .zip3 a b c, st, sl => do
    let x ← evE a sl
    let y ← evE b sl
    let z ← evE c sl
    let xs ← itemsM st x
    let ys ← itemsM st y
    let zs ← itemsM st z
    pure (zip3W xs ys zs)
end
end

inductive Out where
  | nx (s : Slots) | rt (v : Val) | bk (s : Slots) | ct (s : Slots)
def forLp (bd : W → Slots → Option Slots) (body : Slots → M Out) : List W → Slots → M Out
  | [], sl => pure (.nx sl)
  | w :: ws, sl => do
    let s1 ← M.lift (bd w sl)
    let o ← body s1
    match o with
    | .nx s2 => forLp bd body ws s2
    | .ct s2 => forLp bd body ws s2
    | .bk s2 => pure (.nx s2)
    | .rt v => pure (.rt v)
def whLp (test : Slots → M Bool) (body : Slots → M Out) : Nat → Slots → M Out
  | 0, _ => M.no
  | n + 1, sl => do
    let b ← test sl
    if b = true then
      let o ← body sl
      match o with
      | .nx s2 => whLp test body n s2
      | .ct s2 => whLp test body n s2
      | .bk s2 => pure (.nx s2)
      | .rt v => pure (.rt v)
    else pure (.nx sl)
def W.lst? : W → Option (List W)
  | .lst xs => some xs
  | _ => none
/-- x[i] = v of a slot's own list, or of a cell -/
def storeM (sl : Slots) (i : Nat) (idx v : W) : M Slots :=
  match sl[i]?, idx with
  | some (.own (.lst xs)), .int j => match ixN xs.length j with
    | some k => pure (sl.set i (.own (.lst (xs.set k v))))
    | none => M.no
  | some (.val (.cel n)), .int j => fun c => match c[n]? with
    | some xs => match ixN xs.length j with
      | some k => .ok sl (c.set n (xs.set k v))
      | none => .stuck
    | none => .stuck
  | _, _ => M.no
/-- x.pop(), x.pop(i): what comes out, the slots behind it -/
def popM (sl : Slots) (i : Nat) (idx : Option Int) : M (W × Slots) :=
  match sl[i]? with
  | some (.own (.lst xs)) => match idx with
    | none => match xs.getLast? with
      | some y => pure (y, sl.set i (.own (.lst xs.dropLast)))
      | none => M.no
    | some j => if bound62 j = true then match ixN xs.length j with
      | some k => match xs[k]? with
        | some y => pure (y, sl.set i (.own (.lst (xs.eraseIdx k))))
        | none => M.no
      | none => M.no
      else M.no
  | _ => M.no
def dputM (sl : Slots) (i : Nat) (j w : W) : M Slots :=
  match sl[i]? with
  | some (.own (.dct ks vs)) => if (j.isKey && decide (ks.length < sizeL)) = true then pure (sl.set i (.own (putW ks vs j w))) else M.no
  | _ => M.no
def appM (sl : Slots) (i : Nat) (w : W) : M Slots :=
  match sl[i]? with
  | some (.own (.lst xs)) => if xs.length < sizeL then pure (sl.set i (.own (.lst (xs ++ [w])))) else M.no
  | _ => M.no
def parW : List (Nat × Bool) → List Val → Slots → Option Slots
  | [], [], sl => some sl
  | (i, true) :: r, .own w :: vs, sl => parW r vs (sl.set i (.own w))
  | (i, false) :: r, v :: vs, sl => v.keep.bind fun w => parW r vs (sl.set i (.val w))
  | _, _, _ => none
section
variable (P : Prog) (F : Nat) (R : Nat → List W → M Val)
/-- the values as they come -/
def evVs : Es → Slots → M (List Val)
  | .nil, _ => pure []
  | .cons e r, sl => do
    let v ← evE P R e sl
    let vs ← evVs r sl
    pure (v :: vs)
mutual
def exS : S → Slots → M Out
  | .set i e, sl => do
    let v ← evE P R e sl
    let w ← keepM v
    pure (.nx (sl.set i (.val w)))
  | .setOwn i e, sl => do
    let v ← evE P R e sl
    match v with
    | .own w => pure (.nx (sl.set i (.own w)))
    | _ => M.no
  | .setCell i e, sl => do
    let v ← evE P R e sl
    match v with
    | .own (.lst xs) => fun c => .ok (.nx (sl.set i (.val (.cel c.length)))) (c ++ [xs])
    | _ => M.no
  | .frz i, sl => match sl[i]? with
    | some (.own w) => pure (.nx (sl.set i (.val w)))
    | _ => M.no
  | .unpack l e, sl => do
    let v ← evE P R e sl
    let w ← keepM v
    let s ← M.lift (bindTg (.tp l) w sl)
    pure (.nx s)
  | .par l es, sl => do
    let vs ← evVs P R es sl
    let s ← M.lift (parW l vs sl)
    pure (.nx s)
  | .setIt i idx e, sl => do
    let v ← evE P R e sl
    let w ← keepM v
    let j ← evE P R idx sl
    let s ← storeM sl i j.get w
    pure (.nx s)
  | .dput i k e, sl => do
    let v ← evE P R e sl
    let w ← keepM v
    let j ← evE P R k sl
    let s ← dputM sl i j.get w
    pure (.nx s)
  | .app i e, sl => do
    let v ← evE P R e sl
    let w ← keepM v
    let s ← appM sl i w
    pure (.nx s)
  | .popTo j i idx, sl => do
    let k ← evO P R idx sl
    let p ← popM sl i k
    pure (.nx (p.2.set j (.val p.1)))
  | .appPop j i idx, sl => do
    let k ← evO P R idx sl
    let p ← popM sl i k
    let s ← appM p.2 j p.1
    pure (.nx s)
  | .expr e, sl => do
    let _ ← evE P R e sl
    pure (.nx sl)
  | .ite t a b, sl => do
    let v ← evE P R t sl
    let k ← truthM v
    if k = true then exSs a sl else exSs b sl
  | .for_ t it b, sl => do
    let ws ← evIt P R it true sl
    forLp (bindTg t) (fun s => exSs b s) ws sl
  | .while_ t b, sl => whLp (fun s => do let v ← evE P R t s; truthM v) (fun s => exSs b s) F sl
  | .ret e, sl => do
    let v ← evE P R e sl
    match v with
    | .bor _ => M.no
    | v => pure (.rt v)
  | .retN, _ => pure (.rt (.w .non))
  | .retOwn i, sl => match sl[i]? with
    | some (.own w) => pure (.rt (.own w))
    | _ => M.no
  | .tryLim f as c k, sl => do
    let ws ← evEs P R as sl
    fun ce => match R f ws ce with
      | .ok _ c' => .ok (.nx sl) c'
      | .exc x c' => if x.cls = c then (match x.arg with
        | some (.int i) => (do
          let v ← evE P R k sl
          let j ← M.lift v.get.int?
          pure (.rt (.w (.bl (i == j)))) : M Out) c'
        | _ => .stuck) else .stuck
      | .stuck => .stuck
  | .raise c arg, sl => do
    let ws ← evEs P R arg sl
    throwF ⟨c, ws.head?⟩
  | .pass, sl => pure (.nx sl)
  | .brk, sl => pure (.bk sl)
  | .cnt, sl => pure (.ct sl)
def exSs : Ss → Slots → M Out
  | .nil, sl => pure (.nx sl)
  | .cons s r, sl => do
    let o ← exS s sl
    match o with
    | .nx s2 => exSs r s2
    | o => pure o
end
end
def outM : Out → M Val
  | .rt v => pure v
  | .nx _ => pure (.w .non)
  | _ => M.no
/-- cells that a call makes are its own -/
def sameCells (m : M Val) : M Val := fun c => match m c with
  | .ok v c' => if c'.length = c.length then .ok v c' else match v, c with
    | .w (.bl b), [] => .ok (.w (.bl b)) []
    | _, _ => .stuck
  | .exc x c' => if c'.length = c.length then .exc x c' else .stuck
  | .stuck => .stuck
def runFn (P : Prog) (F : Nat) (R : Nat → List W → M Val) (fn : Fn) (args : List W) : M Val :=
  if args.length = fn.np then sameCells (do
    let o ← exSs P F R fn.body (args.map .val ++ List.replicate (fn.ns - fn.np) .none)
    outM o)
  else M.no
/-- a call, so many calls deep at most -/
def run (P : Prog) (F : Nat) : Nat → Nat → List W → M Val
  | 0, _, _ => M.no
  | k + 1, f, args => match P.fns[f]? with
    | some fn => runFn P F (run P F k) fn args
    | none => M.no
end Cw

end
section
set_option Elab.async false
set_option linter.all false
set_option maxRecDepth 100000
/-! Cw1a: how values of the small language stand in the heap -/
namespace Cw
open PySem PySem.Spec PyProof.Rows L2

theorem sizeL_eq : sizeL = sizeLine := by rw [sizeLine_eq]; rfl
def toS (l : List Nat) : Str := ⟨l.toArray⟩
theorem toS_len (l : List Nat) : (toS l).length = l.length := by simp [toS, Str.length]

/-- what is known of the heap for good: lists and tuples that are never changed -/
abbrev Kn := Addr → Option HO
/-- a key of a dict -/
def keyW : W → Option L2.Key
  | .int i => some (.inl i)
  | .str s => some (.inr (toS s))
  | _ => none
mutual
def Rep (S : Kn) (C : List Addr) : W → V → Prop
  | .non, v => v = .non
  | .bl b, v => v = .bl b
  | .int i, v => v = .int i
  | .str s, v => v = .str (toS s)
  | .tup xs, v => ∃ a vs, v = .ref a ∧ S a = some (.tup vs) ∧ Reps S C xs vs
  | .lst xs, v => ∃ a vs, v = .ref a ∧ S a = some (.lst vs) ∧ Reps S C xs vs
  | .dct ks vs, v => ∃ a kvs, v = .ref a ∧ S a = some (.dK kvs) ∧ ks.map keyW = kvs.map (fun p => some p.1) ∧ Reps S C vs (kvs.map (·.2))
  | .cel n, v => ∃ a, C[n]? = some a ∧ v = .ref a
def Reps (S : Kn) (C : List Addr) : List W → List V → Prop
  | [], vs => vs = []
  | w :: ws, vs => ∃ v r, vs = v :: r ∧ Rep S C w v ∧ Reps S C ws r
end
def Le (S S' : Kn) : Prop := ∀ a u, S a = some u → S' a = some u
theorem Le.refl (S : Kn) : Le S S := fun _ _ h => h
theorem Le.trans {S S1 S2 : Kn} (a : Le S S1) (b : Le S1 S2) : Le S S2 := fun c u h => b c u (a c u h)
mutual
theorem Rep.mono {S S' : Kn} {C C' : List Addr} (h : Le S S') (hc : ∀ (n : Nat) a, C[n]? = some a → C'[n]? = some a) : ∀ (w : W) {v : V}, Rep S C w v → Rep S' C' w v
  | .non, _, r => r
  | .bl _, _, r => r
  | .int _, _, r => r
  | .str _, _, r => r
  | .tup xs, _, ⟨a, vs, e, s, r⟩ => ⟨a, vs, e, h _ _ s, Reps.mono h hc xs r⟩
  | .lst xs, _, ⟨a, vs, e, s, r⟩ => ⟨a, vs, e, h _ _ s, Reps.mono h hc xs r⟩
  | .dct ks vs, _, ⟨a, kvs, e, s, m, r⟩ => ⟨a, kvs, e, h _ _ s, m, Reps.mono h hc vs r⟩
  | .cel n, _, ⟨a, e, s⟩ => ⟨a, hc _ _ e, s⟩
theorem Reps.mono {S S' : Kn} {C C' : List Addr} (h : Le S S') (hc : ∀ (n : Nat) a, C[n]? = some a → C'[n]? = some a) : ∀ (ws : List W) {vs : List V}, Reps S C ws vs → Reps S' C' ws vs
  | [], _, r => r
  | w :: ws, _, ⟨v, r, e, p, q⟩ => ⟨v, r, e, Rep.mono h hc w p, Reps.mono h hc ws q⟩
end
theorem Rep.le {S S' : Kn} {C : List Addr} (h : Le S S') {w : W} {v : V} (r : Rep S C w v) : Rep S' C w v := r.mono h (fun _ _ e => e)
theorem Reps.le {S S' : Kn} {C : List Addr} (h : Le S S') {w : List W} {v : List V} (r : Reps S C w v) : Reps S' C w v := r.mono h (fun _ _ e => e)
/-- what an object that one alone holds bears -/
def Pay (S : Kn) (C : List Addr) : W → HO → Prop
  | .lst ws, o => ∃ us, o = .lst us ∧ Reps S C ws us
  | .dct ks vs, o => ∃ kvs, o = .dK kvs ∧ ks.map keyW = kvs.map (fun p => some p.1) ∧ Reps S C vs (kvs.map (·.2))
  | _, _ => False
theorem Pay.mono {S S' : Kn} {C C' : List Addr} (h : Le S S') (hc : ∀ (n : Nat) a, C[n]? = some a → C'[n]? = some a) {w : W} {o : HO} (r : Pay S C w o) : Pay S' C' w o := by
  cases w <;> first | exact r.elim | skip
  · obtain ⟨us, e, r⟩ := r; exact ⟨us, e, r.mono h hc⟩
  · obtain ⟨kvs, e, m, r⟩ := r; exact ⟨kvs, e, m, r.mono h hc⟩
theorem Pay.le {S S' : Kn} {C : List Addr} (h : Le S S') {w : W} {o : HO} (r : Pay S C w o) : Pay S' C w o := r.mono h (fun _ _ e => e)
theorem Pay.rep {S : Kn} {C : List Addr} {w : W} {o : HO} {p : Addr} (r : Pay S C w o) (e : S p = some o) : Rep S C w (.ref p) := by
  cases w <;> first | exact r.elim | skip
  · obtain ⟨us, rfl, r⟩ := r; exact ⟨p, us, rfl, e, r⟩
  · obtain ⟨kvs, rfl, m, r⟩ := r; exact ⟨p, kvs, rfl, e, m, r⟩
theorem Pay.ne {S : Kn} {C : List Addr} {w : W} {o : HO} (r : Pay S C w o) : ∀ x u, o ≠ .frz x u := by
  cases w <;> first | exact r.elim | skip
  · obtain ⟨us, rfl, r⟩ := r; exact fun _ _ z => by cases z
  · obtain ⟨us, rfl, r⟩ := r; exact fun _ _ z => by cases z
theorem Pay.lst {S : Kn} {C : List Addr} {ws : List W} {us : List V} (r : Reps S C ws us) : Pay S C (.lst ws) (.lst us) := ⟨us, rfl, r⟩
theorem Reps.length {S : Kn} {C : List Addr} : ∀ {ws : List W} {vs : List V}, Reps S C ws vs → vs.length = ws.length
  | [], _, r => by rw [show _ = [] from r]; rfl
  | w :: ws, _, ⟨v, r, e, p, q⟩ => by rw [e, List.length_cons, List.length_cons, Reps.length q]
theorem Reps.cons {S : Kn} {C : List Addr} {w : W} {v : V} {ws : List W} {vs : List V} (h : Rep S C w v) (r : Reps S C ws vs) : Reps S C (w :: ws) (v :: vs) := ⟨v, vs, rfl, h, r⟩
theorem Reps.nil {S : Kn} {C : List Addr} : Reps S C [] [] := rfl
theorem Reps.append {S : Kn} {C : List Addr} : ∀ {ws ws' : List W} {vs vs' : List V}, Reps S C ws vs → Reps S C ws' vs' → Reps S C (ws ++ ws') (vs ++ vs')
  | [], _, _, _, r, r' => by rw [show _ = [] from r]; exact r'
  | w :: ws, _, _, _, ⟨v, r, e, p, q⟩, r' => by rw [e]; exact ⟨v, _, rfl, p, Reps.append q r'⟩
theorem Reps.get {S : Kn} {C : List Addr} : ∀ {ws : List W} {vs : List V} {i : Nat} {w : W}, Reps S C ws vs → ws[i]? = some w → ∃ v, vs[i]? = some v ∧ Rep S C w v
  | [], _, _, _, _, e => by simp at e
  | w :: ws, _, 0, _, ⟨v, r, e, p, q⟩, h => by subst e; simp at h; subst h; exact ⟨v, rfl, p⟩
  | w :: ws, _, i + 1, x, ⟨v, r, e, p, q⟩, h => by
    subst e
    obtain ⟨u, a, b⟩ := Reps.get (i := i) q (by simpa using h)
    exact ⟨u, by simpa using a, b⟩
theorem Reps.take {S : Kn} {C : List Addr} : ∀ (n : Nat) {ws : List W} {vs : List V}, Reps S C ws vs → Reps S C (ws.take n) (vs.take n)
  | 0, _, _, _ => by simp [Reps]
  | n + 1, [], _, r => by rw [show _ = [] from r]; simp [Reps]
  | n + 1, w :: ws, _, ⟨v, r, e, p, q⟩ => by subst e; exact ⟨v, _, rfl, p, Reps.take n q⟩
theorem Reps.drop {S : Kn} {C : List Addr} : ∀ (n : Nat) {ws : List W} {vs : List V}, Reps S C ws vs → Reps S C (ws.drop n) (vs.drop n)
  | 0, _, _, r => r
  | n + 1, [], _, r => by rw [show _ = [] from r]; simp [Reps]
  | n + 1, w :: ws, _, ⟨v, r, e, p, q⟩ => by subst e; exact Reps.drop n q
theorem Reps.set {S : Kn} {C : List Addr} {w : W} {v : V} (h : Rep S C w v) : ∀ {ws : List W} {vs : List V} (i : Nat), Reps S C ws vs → Reps S C (ws.set i w) (vs.set i v)
  | [], _, _, r => by rw [show _ = [] from r]; simp [Reps]
  | x :: ws, _, 0, ⟨y, r, e, p, q⟩ => by subst e; exact ⟨v, r, rfl, h, q⟩
  | x :: ws, _, i + 1, ⟨y, r, e, p, q⟩ => by subst e; exact ⟨y, _, rfl, p, Reps.set h i q⟩
theorem Reps.reverse {S : Kn} {C : List Addr} : ∀ {ws : List W} {vs : List V}, Reps S C ws vs → Reps S C ws.reverse vs.reverse
  | [], _, r => by rw [show _ = [] from r]; simp [Reps]
  | w :: ws, _, ⟨v, r, e, p, q⟩ => by
    subst e
    rw [List.reverse_cons, List.reverse_cons]
    exact (Reps.reverse q).append (Reps.cons p Reps.nil)
theorem Reps.flat {S : Kn} {C : List Addr} {ws : List W} {vs : List V} (h : Reps S C ws vs) : ∀ (n : Nat), Reps S C (List.replicate n ws).flatten (List.replicate n vs).flatten
  | 0 => by simp [Reps]
  | n + 1 => by
    rw [List.replicate_succ, List.replicate_succ, List.flatten_cons, List.flatten_cons]
    exact h.append (Reps.flat h n)
theorem Reps.dropLast {S : Kn} {C : List Addr} {ws : List W} {vs : List V} (h : Reps S C ws vs) : Reps S C ws.dropLast vs.dropLast := by
  rw [List.dropLast_eq_take, List.dropLast_eq_take, h.length]
  exact h.take _
theorem Reps.eraseIdx {S : Kn} {C : List Addr} {ws : List W} {vs : List V} (h : Reps S C ws vs) (k : Nat) : Reps S C (ws.eraseIdx k) (vs.eraseIdx k) := by
  rw [List.eraseIdx_eq_take_drop_succ, List.eraseIdx_eq_take_drop_succ]
  exact (h.take _).append (h.drop _)
theorem Reps.map_int {S : Kn} {C : List Addr} : ∀ (ns : List Int), Reps S C (ns.map .int) (ns.map V.int)
  | [] => Reps.nil
  | n :: ns => Reps.cons rfl (Reps.map_int ns)
theorem Reps.map_str {S : Kn} {C : List Addr} : ∀ (ns : List (List Nat)), Reps S C (ns.map .str) (ns.map fun s => V.str (toS s))
  | [] => Reps.nil
  | n :: ns => Reps.cons rfl (Reps.map_str ns)
theorem Reps.ints {S : Kn} {C : List Addr} : ∀ {ws : List W} {vs : List V} {ns : List Int}, Reps S C ws vs → allInt? ws = some ns → vs = ns.map V.int
  | [], _, ns, r, e => by
    rw [show _ = [] from r]
    have : ns = [] := (Option.some.inj e).symm
    rw [this]; rfl
  | .int i :: ws, _, ns, ⟨v, r, e1, p, q⟩, e => by
    unfold allInt? at e
    cases h : allInt? ws with
    | none => rw [h] at e; cases e
    | some ms =>
      rw [h] at e
      have : ns = i :: ms := (Option.some.inj e).symm
      rw [this, e1, show v = V.int i from p, Reps.ints q h]
      rfl
  | .non :: _, _, _, _, e => by cases e
  | .bl _ :: _, _, _, _, e => by cases e
  | .str _ :: _, _, _, _, e => by cases e
  | .tup _ :: _, _, _, _, e => by cases e
  | .lst _ :: _, _, _, _, e => by cases e
  | .dct _ _ :: _, _, _, _, e => by cases e
  | .cel _ :: _, _, _, _, e => by cases e
theorem Reps.bls {S : Kn} {C : List Addr} : ∀ {ws : List W} {vs : List V} {ns : List Bool}, Reps S C ws vs → allBl? ws = some ns → vs = ns.map V.bl
  | [], _, ns, r, e => by
    rw [show _ = [] from r]
    have : ns = [] := (Option.some.inj e).symm
    rw [this]; rfl
  | .bl i :: ws, _, ns, ⟨v, r, e1, p, q⟩, e => by
    unfold allBl? at e
    cases h : allBl? ws with
    | none => rw [h] at e; cases e
    | some ms =>
      rw [h] at e
      have : ns = i :: ms := (Option.some.inj e).symm
      rw [this, e1, show v = V.bl i from p, Reps.bls q h]
      rfl
  | .non :: _, _, _, _, e => by cases e
  | .int _ :: _, _, _, _, e => by cases e
  | .str _ :: _, _, _, _, e => by cases e
  | .tup _ :: _, _, _, _, e => by cases e
  | .lst _ :: _, _, _, _, e => by cases e
  | .dct _ _ :: _, _, _, _, e => by cases e
  | .cel _ :: _, _, _, _, e => by cases e
theorem Reps.strs {S : Kn} {C : List Addr} : ∀ {ws : List W} {vs : List V} {ns : List (List Nat)}, Reps S C ws vs → allStr? ws = some ns → vs = (ns.map toS).map V.str
  | [], _, ns, r, e => by
    rw [show _ = [] from r]
    have : ns = [] := (Option.some.inj e).symm
    rw [this]; rfl
  | .str i :: ws, _, ns, ⟨v, r, e1, p, q⟩, e => by
    unfold allStr? at e
    cases h : allStr? ws with
    | none => rw [h] at e; cases e
    | some ms =>
      rw [h] at e
      have : ns = i :: ms := (Option.some.inj e).symm
      rw [this, e1, show v = V.str (toS i) from p, Reps.strs q h]
      rfl
  | .non :: _, _, _, _, e => by cases e
  | .bl _ :: _, _, _, _, e => by cases e
  | .int _ :: _, _, _, _, e => by cases e
  | .tup _ :: _, _, _, _, e => by cases e
  | .lst _ :: _, _, _, _, e => by cases e
  | .dct _ _ :: _, _, _, _, e => by cases e
  | .cel _ :: _, _, _, _, e => by cases e

/-! ### states -/
/-- the shared cells -/
structure CellsOk (S : Kn) (C : List Addr) (c : Cells) (H : Hp) : Prop where
  len : C.length = c.length
  nd : C.Nodup
  off : ∀ p ∈ C, S p = none
  at_ : ∀ (n : Nat) p L, C[n]? = some p → c[n]? = some L → ∃ us, H p = some (.lst us) ∧ Reps S C L us
def SlotOk (S : Kn) (C : List Addr) (H : Hp) (x : Option (Option V)) : Slot → Prop
  | .none => True
  | .val w => ∃ v, x = some (some v) ∧ Rep S C w v
  | .own w => ∃ p o, Pay S C w o ∧ x = some (some (.ref p)) ∧ H p = some o ∧ S p = none ∧ p ∉ C
def IsOwn : Option Slot → Prop
  | some (.own _) => True
  | _ => False
structure Rel (S : Kn) (C : List Addr) (sl : Slots) (c : Cells) (σ : L2.St) (H : Hp) : Prop where
  sub : ∀ b u, S b = some u → Rd H b u
  cells : CellsOk S C c H
  slen : σ.length = sl.length
  slot : ∀ (i : Nat) s, sl[i]? = some s → SlotOk S C H (σ[i]?) s
/-- behind an expression -/
structure Post (S : Kn) (C : List Addr) (H : Hp) (S' : Kn) (H' : Hp) : Prop where
  le : Le S S'
  new : ∀ b, S' b ≠ none → S b ≠ none ∨ H b = none
  fr : ∀ b o, H b = some o → b ∉ C → H' b = some o
  dom : ∀ b, H b ≠ none → H' b ≠ none
  sub : ∀ b u, S' b = some u → Rd H' b u
def VR (S : Kn) (C : List Addr) (H0 H : Hp) : Val → V → Prop
  | .w w, v => Rep S C w v
  | .own w, v => ∃ p o, Pay S C w o ∧ v = .ref p ∧ H p = some o ∧ S p = none ∧ p ∉ C ∧ H0 p = none
  | .bor w, v => ∃ p o, Pay S C w o ∧ v = .ref p ∧ H p = some o ∧ p ∉ C
theorem Rd.some {H : Hp} {b : Addr} {u : HO} (r : Rd H b u) : H b ≠ none := by
  rcases r with r | ⟨o, r⟩
  · rw [r]; exact fun z => by cases z
  · rw [r]; exact fun z => by cases z
section
variable {S S' S'' : Kn} {C : List Addr} {H H' H'' : Hp} {sl : Slots} {c c' : Cells} {σ : L2.St}
theorem Post.refl (h : ∀ b u, S b = some u → Rd H b u) : Post S C H S H := ⟨Le.refl S, fun _ h => .inl h, fun _ _ h _ => h, fun _ h => h, h⟩
theorem Post.trans (a : Post S C H S' H') (b : Post S' C H' S'' H'') : Post S C H S'' H'' where
  le := a.le.trans b.le
  new := fun x h => by
    rcases b.new x h with h | h
    · exact a.new x h
    · refine .inr ?_
      cases q : H x with
      | none => rfl
      | some o => exact absurd h (a.dom x (by rw [q]; exact fun z => by cases z))
  fr := fun x o h n => b.fr x o (a.fr x o h n) n
  dom := fun x h => b.dom x (a.dom x h)
  sub := b.sub
theorem Rel.off (R : Rel S C sl c σ H) {p : Addr} (h : p ∈ C) : S p = none := R.cells.off p h
theorem SlotOk.next {x : Option (Option V)} {s : Slot} (P : Post S C H S' H') (k : SlotOk S C H x s) : SlotOk S' C H' x s := by
  cases s with
  | none => trivial
  | val w => obtain ⟨v, e, r⟩ := k; exact ⟨v, e, r.le P.le⟩
  | own w =>
    obtain ⟨p, o, e, e2, h, n, nc⟩ := k
    refine ⟨p, o, e.le P.le, e2, P.fr p _ h nc, ?_, nc⟩
    cases q : S' p with
    | none => rfl
    | some u =>
      rcases P.new p (by rw [q]; exact fun z => by cases z) with z | z
      · exact absurd n z
      · rw [h] at z; cases z
theorem Rel.next (R : Rel S C sl c σ H) (P : Post S C H S' H') (k : CellsOk S' C c' H') : Rel S' C sl c' σ H' :=
  ⟨P.sub, k, R.slen, fun i s e => (R.slot i s e).next P⟩
theorem VR.next {H0 : Hp} {v : Val} {x : V} (P : Post S C H S' H') (k : VR S C H0 H v x) : VR S' C H0 H' v x := by
  cases v with
  | w w => exact Rep.le P.le k
  | own w =>
    obtain ⟨p, o, e, e2, h, n, nc, n0⟩ := k
    refine ⟨p, o, e.le P.le, e2, P.fr p _ h nc, ?_, nc, n0⟩
    cases q : S' p with
    | none => rfl
    | some u =>
      rcases P.new p (by rw [q]; exact fun z => by cases z) with z | z
      · exact absurd n z
      · rw [h] at z; cases z
  | bor w =>
    obtain ⟨p, o, e, e2, h, nc⟩ := k
    exact ⟨p, o, e.le P.le, e2, P.fr p _ h nc, nc⟩
/-- relative to an earlier heap -/
theorem VR.back {H0 H1 : Hp} {v : Val} {x : V} (h : ∀ b, H0 b ≠ none → H1 b ≠ none) (k : VR S C H1 H v x) : VR S C H0 H v x := by
  cases v with
  | w w => exact k
  | bor w => exact k
  | own w =>
    obtain ⟨p, o, e, e2, h1, n, nc, n0⟩ := k
    refine ⟨p, o, e, e2, h1, n, nc, ?_⟩
    cases q : H0 p with
    | none => rfl
    | some o => exact absurd n0 (h p (by rw [q]; exact fun z => by cases z))
theorem CellsOk.same (k : CellsOk S C c H) (P : Post S C H S' H') (h : ∀ p ∈ C, H' p = H p) : CellsOk S' C c H' := by
  refine ⟨k.len, k.nd, fun p hp => ?_, fun n p L e e2 => ?_⟩
  · cases q : S' p with
    | none => rfl
    | some u =>
      rcases P.new p (by rw [q]; exact fun z => by cases z) with z | z
      · exact absurd (k.off p hp) z
      · obtain ⟨n, hn⟩ := List.mem_iff_getElem?.mp hp
        have hlt : n < c.length := by
          rw [← k.len]
          exact (List.getElem?_eq_some_iff.mp hn).1
        obtain ⟨us, hu, _⟩ := k.at_ n p _ hn (List.getElem?_eq_getElem hlt)
        rw [hu] at z; cases z
  · obtain ⟨us, hu, r⟩ := k.at_ n p L e e2
    exact ⟨us, by rw [h p (List.mem_of_getElem? e)]; exact hu, r.le P.le⟩
theorem CellsOk.live (k : CellsOk S C c H) {p : Addr} (hp : p ∈ C) : ∃ us, H p = some (.lst us) := by
  obtain ⟨n, hn⟩ := List.mem_iff_getElem?.mp hp
  have hlt : n < c.length := by
    rw [← k.len]
    exact (List.getElem?_eq_some_iff.mp hn).1
  obtain ⟨us, hu, _⟩ := k.at_ n p _ hn (List.getElem?_eq_getElem hlt)
  exact ⟨us, hu⟩
/-- a new object, known for good or not -/
theorem Post.laid (R : Rel S C sl c σ H) {p : Addr} (hp : H p = none) (o : HO) (hm : ∀ x u, o ≠ .frz x u) (keep : Bool) :
    Post S C H (if keep = true then upd S p o else S) (upd H p o) ∧ CellsOk (if keep = true then upd S p o else S) C c (upd H p o) := by
  have P : Post S C H (if keep = true then upd S p o else S) (upd H p o) := by
    refine ⟨fun a u e => ?_, fun b hb => ?_, fun b u e _ => ?_, fun b e => ?_, fun b u e => ?_⟩
    · cases keep with
      | false => exact e
      | true =>
        show upd S p o a = some u
        rw [upd_ne]
        · exact e
        · rintro rfl
          exact absurd hp (Rd.some (R.sub a u e))
    · cases keep with
      | false => exact .inl hb
      | true =>
        by_cases q : b = p
        · subst q; exact .inr hp
        · have hb : upd S p o b ≠ none := hb
          rw [upd_ne q] at hb
          exact .inl hb
    · rw [upd_ne (ne_of_none e hp)]; exact e
    · by_cases q : b = p
      · subst q; exact absurd hp e
      · rw [upd_ne q]; exact e
    · cases keep with
      | false =>
        have q : b ≠ p := by
          rintro rfl
          exact absurd hp (Rd.some (R.sub b u e))
        rcases R.sub b u e with r | ⟨x, r⟩
        · exact .inl (by rw [upd_ne q]; exact r)
        · exact .inr ⟨x, by rw [upd_ne q]; exact r⟩
      | true =>
        by_cases q : b = p
        · subst q
          have e : upd S b o b = some u := e
          rw [upd_same] at e
          cases e
          exact .inl upd_same
        · have e : upd S p o b = some u := e
          rw [upd_ne q] at e
          rcases R.sub b u e with r | ⟨x, r⟩
          · exact .inl (by rw [upd_ne q]; exact r)
          · exact .inr ⟨x, by rw [upd_ne q]; exact r⟩
  refine ⟨P, R.cells.same P fun b hb => upd_ne ?_⟩
  obtain ⟨us, hu⟩ := R.cells.live hb
  exact ne_of_none hu hp
/-- one more thing is known for good -/
theorem Post.fix {S1 : Kn} {H1 : Hp} {p : Addr} {ob : HO} (P : Post S C H S1 H1) (k : CellsOk S1 C c H1) (h : H1 p = some ob) (n : S1 p = none) (nc : p ∉ C) (n0 : H p = none) :
    Post S C H (upd S1 p ob) H1 ∧ CellsOk (upd S1 p ob) C c H1 ∧ Le S1 (upd S1 p ob) := by
  have le : Le S1 (upd S1 p ob) := fun a u e => by rw [upd_ne (ne_of_none e n)]; exact e
  refine ⟨⟨P.le.trans le, fun b hb => ?_, P.fr, P.dom, fun b u e => ?_⟩, ⟨k.len, k.nd, fun b hb => ?_, fun m q L e e2 => ?_⟩, le⟩
  · by_cases q : b = p
    · subst q; exact .inr n0
    · rw [upd_ne q] at hb; exact P.new b hb
  · by_cases q : b = p
    · subst q
      rw [upd_same] at e
      cases e
      exact .inl h
    · rw [upd_ne q] at e; exact P.sub b u e
  · have q : b ≠ p := by
      rintro rfl
      exact nc hb
    rw [upd_ne q]; exact k.off b hb
  · obtain ⟨us', h', r⟩ := k.at_ m q L e e2
    exact ⟨us', h', r.le le⟩
/-- a value, to be kept by others -/
theorem VR.keep {S1 : Kn} {H1 : Hp} {v : Val} {x : V} {w : W} (P : Post S C H S1 H1) (k : CellsOk S1 C c H1) (q : VR S1 C H H1 v x) (hk : v.keep = some w) :
    ∃ S', Post S C H S' H1 ∧ CellsOk S' C c H1 ∧ Rep S' C w x ∧ Le S1 S' := by
  cases v with
  | w w' =>
    have e : w' = w := Option.some.inj hk
    subst e
    exact ⟨S1, P, k, q, Le.refl _⟩
  | bor w' => cases hk
  | own w' =>
    have e : w' = w := Option.some.inj hk
    subst e
    obtain ⟨p, o, r, rfl, h, n, nc, n0⟩ := q
    obtain ⟨P', k', le⟩ := P.fix k h n nc n0
    exact ⟨_, P', k', (r.le le).rep upd_same, le⟩
end
end Cw

end
section
set_option Elab.async false
set_option linter.all false
set_option maxRecDepth 100000
/-! Cw1b: operators -/
namespace Cw
open PySem PySem.Spec PyProof.Rows L2

structure Bs (S : Kn) (C : List Addr) (c : Cells) (H : Hp) : Prop where
  sub : ∀ b u, S b = some u → Rd H b u
  cells : CellsOk S C c H
theorem Rel.bs {S : Kn} {C : List Addr} {sl : Slots} {c : Cells} {σ : L2.St} {H : Hp} (R : Rel S C sl c σ H) : Bs S C c H := ⟨R.sub, R.cells⟩
/-- what a value is, looked at -/
def Lk (S : Kn) (C : List Addr) (H : Hp) (w : W) (x : V) : Prop :=
  Rep S C w x ∨ ∃ p o, Pay S C w o ∧ x = .ref p ∧ H p = some o ∧ p ∉ C
/-- what is wanted of an answer -/
def EndX (S : Kn) (C : List Addr) (H : Hp) (Q : V → Hp → Prop) (v : Val) (c : Cells) : Prop :=
  ∀ S' H' x, Post S C H S' H' → CellsOk S' C c H' → VR S' C H H' v x → Q x H'
section
variable {S S' : Kn} {C : List Addr} {c c' : Cells} {H H' H0 : Hp} {w : W} {x : V} {v : Val} {Q : V → Hp → Prop}
theorem VR.lk (k : VR S C H0 H v x) : Lk S C H v.get x := by
  cases v with
  | w w => exact .inl k
  | own w =>
    obtain ⟨p, o, e, e2, h, n, nc, n0⟩ := k
    exact .inr ⟨p, o, e, e2, h, nc⟩
  | bor w =>
    obtain ⟨p, o, e, e2, h, nc⟩ := k
    exact .inr ⟨p, o, e, e2, h, nc⟩
theorem Lk.next (P : Post S C H S' H') (k : Lk S C H w x) : Lk S' C H' w x := by
  rcases k with k | ⟨p, o, e, e2, h, nc⟩
  · exact .inl (k.le P.le)
  · exact .inr ⟨p, o, e.le P.le, e2, P.fr p _ h nc, nc⟩
theorem Lk.lst {ws : List W} (B : Bs S C c H) (k : Lk S C H (.lst ws) x) : ∃ p us, x = .ref p ∧ Rd H p (.lst us) ∧ Reps S C ws us := by
  rcases k with ⟨p, us, e, h, r⟩ | ⟨p, o, ⟨us, rfl, r⟩, e2, h, nc⟩
  · exact ⟨p, us, e, B.sub _ _ h, r⟩
  · exact ⟨p, us, e2, .inl h, r⟩
theorem Lk.tup {ws : List W} (B : Bs S C c H) (k : Lk S C H (.tup ws) x) : ∃ p us, x = .ref p ∧ Rd H p (.tup us) ∧ S p = some (.tup us) ∧ Reps S C ws us := by
  rcases k with ⟨p, us, e, h, r⟩ | ⟨p, o, e, _⟩
  · exact ⟨p, us, e, B.sub _ _ h, h, r⟩
  · cases e
theorem Lk.int {i : Int} (k : Lk S C H (.int i) x) : x = .int i := by
  rcases k with k | ⟨_, _, e, _⟩
  · exact k
  · cases e
theorem Lk.bl {i : Bool} (k : Lk S C H (.bl i) x) : x = .bl i := by
  rcases k with k | ⟨_, _, e, _⟩
  · exact k
  · cases e
theorem Lk.str {i : List Nat} (k : Lk S C H (.str i) x) : x = .str (toS i) := by
  rcases k with k | ⟨_, _, e, _⟩
  · exact k
  · cases e
theorem Lk.non (k : Lk S C H .non x) : x = .non := by
  rcases k with k | ⟨_, _, e, _⟩
  · exact k
  · cases e
/-- the answer is a value that needs no object -/
theorem EndX.now (B : Bs S C c H) (h : EndX S C H Q v c) (r : VR S C H H v x) : Q x H := h S H x (Post.refl B.sub) B.cells r
theorem Bs.rel (B : Bs S C c H) : Rel S C [] c [] H := ⟨B.sub, B.cells, rfl, fun i s e => by simp at e⟩
/-- the answer is a new list that no one holds -/
theorem EndX.list {ws : List W} {us : List V} (B : Bs S C c H) (h : EndX S C H Q (.own (.lst ws)) c) (r : Reps S C ws us) {p : Addr} (hp : H p = none) : Q (.ref p) (upd H p (.lst us)) := by
  obtain ⟨P, k⟩ := Post.laid B.rel hp (.lst us) (fun _ _ z => by cases z) false
  refine h _ _ _ P k ⟨p, _, .lst r, rfl, upd_same, ?_, ?_, hp⟩
  · cases q : S p with
    | none => exact q
    | some u => exact absurd hp (Rd.some (B.sub p u q))
  · intro hm
    obtain ⟨us', hu⟩ := B.cells.live hm
    rw [hp] at hu; cases hu
/-- the answer is a new tuple -/
theorem EndX.tuple {ws : List W} {us : List V} (B : Bs S C c H) (h : EndX S C H Q (.w (.tup ws)) c) (r : Reps S C ws us) {p : Addr} (hp : H p = none) : Q (.ref p) (upd H p (.tup us)) := by
  obtain ⟨P, k⟩ := Post.laid B.rel hp (.tup us) (fun _ _ z => by cases z) true
  exact h _ _ _ P k ⟨p, us, rfl, upd_same, r.le P.le⟩
end

/-- a two-place operation's reading -/
def rdB (f : W → W → Option Val) : R2 := fun x y H Q => ∃ S C c a b v, Bs S C c H ∧ Lk S C H a x ∧ Lk S C H b y ∧ f a b = some v ∧ EndX S C H Q v c
theorem toS_append (a b : List Nat) : toS a ++ toS b = toS (a ++ b) := by
  apply PySem.Str.ext'
  simp [toS, Str.cps_append]
theorem OpR.imp {X : Cx} {f : Value → Value → Sem Value} {r r' : R2} (h : OpR X f r) (i : ∀ x y H Q, r' x y H Q → r x y H Q) : OpR X f r' :=
  fun pins s σ H x y v u Q I rx ry q => h pins s σ H x y v u Q I rx ry (i _ _ _ _ q)
/-- an operation, by what its left value is -/
theorem OpR.cases {X : Cx} {f : Value → Value → Sem Value} {r : R2} (i : ∀ x y H Q, r x y H Q → ∃ r', OpR X f r' ∧ r' x y H Q) : OpR X f r :=
  fun pins s σ H x y v u Q I rx ry q => by
    obtain ⟨r', h, q'⟩ := i x y H Q q
    exact h pins s σ H x y v u Q I rx ry q'

section
variable {X : Cx}
/-- list + list -/
def rCatR : R2 := fun x y H Q => ∃ l b xs zs, x = .ref l ∧ y = .ref b ∧ Rd H l (.lst xs) ∧ Rd H b (.lst zs) ∧ xs.length + zs.length ≤ sizeLine ∧ ∀ p, H p = none → Q (.ref p) (upd H p (.lst (xs ++ zs)))
theorem Inv.rdl {pins : List (Addr × Obj)} {σ : L2.St} {H : Hp} {s : Shared} (I : Inv X pins σ H s) {a : Addr} {xs : List V} (h : Rd H a (.lst xs)) :
    xs.length ≤ sizeLine ∧ ∃ (its : List Value) (n : Nat), Vals xs its ∧ s.heap.get? a = some { cls := .type "list", data := .seq its.toArray n } := h.ok I.hok
theorem op_catR : OpR X (binaryOp .Add) rCatR := by
  rintro pins s σ H x y v u Q I rx ry ⟨l, b, xs, zs, rfl, rfl, hH, hB, hz, q⟩
  cases rx; cases ry
  obtain ⟨z, its, n, r, e⟩ := Inv.rdl I hH
  obtain ⟨z2, its2, n2, r2, e2⟩ := Inv.rdl I hB
  have l1 := r.length
  have l2 := r2.length
  refine PySem.P.add_list e e2 ?_ (by simp only [List.size_toArray]; omega)
  rw [show its.toArray ++ its2.toArray = (its ++ its2).toArray by simp]
  exact ⟨.ref _, _, I.lnew (t' := s.toks) (r.append r2) (by simp only [List.length_append]; omega), rfl, q _ I.fresh⟩
def rRepR : R2 := fun x y H Q => ∃ l k xs, x = .ref l ∧ y = .int k ∧ Rd H l (.lst xs) ∧ -9223372036854775808 ≤ k ∧ k < 9223372036854775808 ∧ xs.length * k.toNat ≤ sizeLine ∧
  ∀ p, H p = none → Q (.ref p) (upd H p (.lst (List.replicate k.toNat xs).flatten))
theorem op_repR : OpR X (binaryOp .Mult) rRepR := by
  rintro pins s σ H x y v u Q I rx ry ⟨l, m, xs, rfl, rfl, hH, g1, g2, hz, q⟩
  cases rx
  obtain ⟨tk, rfl⟩ := ry
  obtain ⟨z, zs, n, r, e⟩ := Inv.rdl I hH
  have hl := r.length
  have w1 : zs.toArray.size * m.toNat ≤ sizeLine := by simp only [List.size_toArray]; rw [← hl]; exact hz
  have w2 : ¬ zs.toArray.size * m.toNat > (2 ^ 63 - 1) / 8 := by
    have : (sizeLine : Nat) ≤ (2 ^ 63 - 1) / 8 := by decide
    omega
  have w3 : ¬ (!Builtin.List.listFitsIndex m) = true := by
    rw [fitsIndex_both (by omega) (by omega)]; exact Bool.false_ne_true
  have w4 : ¬ Builtin.List.listTooLong (zs.toArray.size * m.toNat) = true := by
    rw [notLongL w1]; exact Bool.false_ne_true
  have w5 : List.foldl (fun x1 x2 => x1 ++ x2) #[] (List.replicate (if zs.toArray.isEmpty = true then 0 else m.toNat) zs.toArray) = (List.replicate m.toNat zs).flatten.toArray := by
    have f0 : ∀ j : Nat, List.foldl (fun x1 x2 => x1 ++ x2) #[] (List.replicate j zs.toArray) = (List.replicate j zs).flatten.toArray := fun j => by
      have z := foldl_rep zs j []
      rw [List.nil_append] at z; exact z
    rw [f0]
    cases zs with
    | nil => simp
    | cons a b => rw [if_neg (by simp)]
  refine wpAny_binaryOp_repeat_ref (T := "list") (U := "int") (by decide) ⟨_, e, rfl⟩ (fun s1 => typeIs_int s1 m tk)
    noFill_list_mul F.fills_int_mul F.slot_int_rmul repeat_list F.slot_int_index.lookup ?_
  refine call_meets F.slot_int_rmul (typeIs_int s m tk) F.entry_int_rmul (F.args_int_rmul_2 _ _) (int___rmul___int_list m tk l zs.toArray n) ?_
  refine ⟨e, rfl, ⟨_, e, rfl⟩, call_meets F.slot_list_mul ⟨_, e, rfl⟩ F.entry_list_mul (F.args_list_mul_2 _ _)
    (AutoListH.list___mul___list_int_3 l zs.toArray n m tk w3 w2 w4) ⟨e, ?_⟩⟩
  rw [w5]
  exact ⟨.ref _, _, I.lnew (t' := s.toks) (r.rep m.toNat) (by rw [lm_len_rep_flat, Nat.mul_comm]; exact hz), rfl, q _ I.fresh⟩
theorem strMulText (a : List Nat) (k : Nat) : (⟨(List.replicate k (toS a).cps).foldl (· ++ ·) #[]⟩ : Str) = toS (List.replicate k a).flatten := by
  have h : ∀ (k : Nat) (z : Array Nat), (List.replicate k (toS a).cps).foldl (· ++ ·) z = z ++ (List.replicate k a).flatten.toArray := by
    intro k
    induction k with
    | zero => intro z; simp
    | succ n ih =>
      intro z
      rw [List.replicate_succ, List.foldl_cons, ih, List.replicate_succ, List.flatten_cons]
      simp [toS]
  rw [h]
  simp [toS]
def rMulS : R2 := fun x y H Q => ∃ (a : List Nat) (k : Int), x = .str (toS a) ∧ y = .int k ∧ a.length * k.toNat ≤ sizeLine ∧ -9223372036854775808 ≤ k ∧ k < 9223372036854775808 ∧ Q (.str (toS (List.replicate k.toNat a).flatten)) H
theorem op_mulS : OpR X (binaryOp .Mult) rMulS := by
  rintro pins s σ H x y v u Q I rx ry ⟨a, k, rfl, rfl, hz, h1, h2, q⟩
  obtain ⟨t, rfl⟩ := rx
  obtain ⟨t', rfl⟩ := ry
  have hs : sizeLine = 16777216 := sizeLine_eq
  have ea : (toS a).length = a.length := toS_len a
  refine PySem.P.mul_str ?_ (fun h3 _ => ?_) (fun h3 _ => ?_) ?_
  · rw [decide_eq_false (by omega), decide_eq_false (by omega)]; rfl
  · rw [ea]
    have hk : k = (k.toNat : Int) := by omega
    have h4 : (a.length : Int) * k ≤ 16777216 := by
      rw [hk]
      have : ((a.length * k.toNat : Nat) : Int) ≤ 16777216 := by omega
      simpa using this
    intro h5
    have h6 : (2 ^ 63 - 1 : Int) < a.length * k := by
      have := (Int.ediv_lt_iff_lt_mul (a := (2 ^ 63 - 1)) (c := k) (b := a.length) (by omega)).mp h5
      exact this
    omega
  · rw [ea]
    simp only [Builtin.Str.tooLong]
    first
      | (simp only [decide_eq_false_iff_not]; omega)
      | skip
    all_goals first | omega | skip
  · by_cases h3 : k < 1
    · rw [if_pos h3]
      have e0 : k.toNat = 0 := by omega
      rw [e0] at q
      exact ⟨by decide, ⟨.str _, H, I.tok _, ⟨_, rfl⟩, q⟩⟩
    · rw [if_neg h3]
      split
      · rename_i h4
        have e1 : (List.replicate k.toNat a).flatten = a := by
          simp only [Bool.or_eq_true, beq_iff_eq] at h4
          rcases h4 with h4 | h4
          · rw [h4]; simp
          · have : a = [] := by
              rw [ea] at h4
              exact List.length_eq_zero_iff.mp h4
            rw [this]; simp
        rw [e1] at q
        exact ⟨.str _, H, I, ⟨_, rfl⟩, q⟩
      · rw [strMulText]
        refine ⟨?_, ⟨.str _, H, I.tok _, ⟨_, rfl⟩, q⟩⟩
        rw [toS_len, List.length_flatten]
        simp only [List.map_replicate, List.sum_replicate_nat]
        rw [Nat.mul_comm]
        omega

def bopB : Bop → Operator → Bool
  | .add, .Add | .sub, .Sub | .mul, .Mult | .fdiv, .FloorDiv | .mod, .Mod | .pow, .Pow => true
  | _, _ => false
theorem Rd.sq {K : PySem.W.Frag} {H : Hp} {a : Addr} {xs : List V} (r : Rd H a (.lst xs)) : SqL K H a xs := .inl r
theorem Rd.sqT {K : PySem.W.Frag} {H : Hp} {a : Addr} {xs : List V} (r : Rd H a (.tup xs)) : SqT K H a xs := .inl r
theorem snd_add : OpR X (binaryOp .Add) (rdB (binop .add)) := by
  refine OpR.cases fun x y H Q ⟨S, C, c, a, b, v, B, la, lb, e, k⟩ => ?_
  cases a <;> cases b <;> first | (cases e; done) | skip
  case int.int i j =>
    cases e
    exact ⟨_, op_add, i, j, la.int, lb.int, k.now B rfl⟩
  case str.str i j =>
    simp only [binop] at e
    split at e <;> cases e
    rename_i h
    refine ⟨_, op_add_str, toS i, toS j, la.str, lb.str, by rw [toS_len, toS_len, ← sizeL_eq]; exact h, ?_⟩
    rw [toS_append]
    exact k.now B rfl
  case tup.tup i j =>
    simp only [binop] at e
    split at e <;> cases e
    rename_i h
    obtain ⟨p, us, e1, r1, s1, q1⟩ := la.tup B
    obtain ⟨p2, us2, e2, r2, s2, q2⟩ := lb.tup B
    refine ⟨_, op_catA, p, p2, us, us2, e1, e2, Rd.sqT r1, Rd.sqT r2, by rw [q1.length, q2.length, ← sizeL_eq]; exact h, fun z => ?_, fun z1 z2 => ?_, fun z1 z2 p hp => k.tuple B (q1.append q2) hp⟩
    · have z' : i = [] := by
        have := q1.length
        rw [z] at this
        exact List.length_eq_zero_iff.mp this.symm
      subst z'
      exact k.now B ⟨p2, us2, rfl, s2, q2⟩
    · have z' : j = [] := by
        have := q2.length
        rw [z2] at this
        exact List.length_eq_zero_iff.mp this.symm
      subst z'
      rw [List.append_nil] at k
      exact k.now B ⟨p, us, rfl, s1, q1⟩
  case lst.lst i j =>
    simp only [binop] at e
    split at e <;> cases e
    rename_i h
    obtain ⟨p, us, e1, r1, q1⟩ := la.lst B
    obtain ⟨p2, us2, e2, r2, q2⟩ := lb.lst B
    exact ⟨_, op_catR, p, p2, us, us2, e1, e2, r1, r2, by rw [q1.length, q2.length, ← sizeL_eq]; exact h, fun p hp => k.list B (q1.append q2) hp⟩
theorem snd_mul : OpR X (binaryOp .Mult) (rdB (binop .mul)) := by
  refine OpR.cases fun x y H Q ⟨S, C, c, a, b, v, B, la, lb, e, k⟩ => ?_
  cases a <;> cases b <;> first | (cases e; done) | skip
  case int.int i j =>
    simp only [binop] at e
    split at e <;> cases e
    rename_i h
    refine ⟨_, op_mul, i, j, la.int, lb.int, ?_, k.now B rfl⟩
    rcases h with h | h
    · exact .inl (by omega)
    · exact .inr (by omega)
  case str.int i j =>
    simp only [binop] at e
    split at e <;> cases e
    rename_i h
    exact ⟨_, op_mulS, i, j, la.str, lb.int, by rw [← sizeL_eq]; exact h.1, h.2.1, h.2.2, k.now B rfl⟩
  case tup.int i j =>
    simp only [binop] at e
    split at e <;> cases e
    rename_i h
    obtain ⟨p, us, e1, r1, s1, q1⟩ := la.tup B
    refine ⟨_, op_repT, p, j, us, e1, lb.int, Rd.sqT r1, ?_, h.2.1, h.2.2.1, by rw [q1.length]; exact h.2.2.2, fun p hp => k.tuple B (q1.flat _) hp⟩
    intro z
    have := q1.length
    rw [z] at this
    exact h.1 (List.length_eq_zero_iff.mp this.symm)
  case lst.int i j =>
    simp only [binop] at e
    split at e <;> cases e
    rename_i h
    obtain ⟨p, us, e1, r1, q1⟩ := la.lst B
    exact ⟨_, op_repR, p, j, us, e1, lb.int, r1, h.2.1, h.2.2, by rw [q1.length, ← sizeL_eq]; exact h.1, fun p hp => k.list B (q1.flat _) hp⟩
theorem snd_bin {op : Bop} {o : Operator} (h : bopB op o = true) : OpR X (binaryOp o) (rdB (binop op)) := by
  cases op <;> cases o <;> first | (cases h; done) | skip
  · exact snd_add
  · refine OpR.cases fun x y H Q ⟨S, C, c, a, b, v, B, la, lb, e, k⟩ => ?_
    cases a <;> cases b <;> first | (cases e; done) | skip
    cases e
    exact ⟨_, op_sub, _, _, la.int, lb.int, k.now B rfl⟩
  · exact snd_mul
  · refine OpR.cases fun x y H Q ⟨S, C, c, a, b, v, B, la, lb, e, k⟩ => ?_
    cases a <;> cases b <;> first | (cases e; done) | skip
    simp only [binop] at e
    split at e <;> cases e
    rename_i h
    exact ⟨_, op_fdiv, _, _, la.int, lb.int, h, k.now B rfl⟩
  · refine OpR.cases fun x y H Q ⟨S, C, c, a, b, v, B, la, lb, e, k⟩ => ?_
    cases a <;> cases b <;> first | (cases e; done) | skip
    simp only [binop] at e
    split at e <;> cases e
    rename_i h
    exact ⟨_, op_mod, _, _, la.int, lb.int, h, k.now B rfl⟩
  · refine OpR.cases fun x y H Q ⟨S, C, c, a, b, v, B, la, lb, e, k⟩ => ?_
    cases a <;> cases b <;> first | (cases e; done) | skip
    simp only [binop] at e
    split at e <;> cases e
    rename_i h
    refine ⟨_, op_pow, _, _, la.int, lb.int, ⟨h.1, h.2.1, ?_⟩, k.now B rfl⟩
    have := h.2.2
    omega
end
end Cw

end
section
set_option Elab.async false
set_option linter.all false
set_option maxRecDepth 100000
/-! Cw1s: texts in texts -/
namespace Cw
open PySem PySem.Spec PyProof.Rows L2 PySem.StrLaws

theorem subAt_toS (b a : List Nat) (i : Nat) : Builtin.Str.subAt (toS b) (toS a) i = ((b.drop i).take a.length == a) := by
  rw [subAt_eq]
  simp [toS, Str.length]
def At1 (a b : List Nat) (i : Nat) : Prop := i + a.length ≤ b.length ∧ ((b.drop i).take a.length == a) = true
instance (a b : List Nat) (i : Nat) : Decidable (At1 a b i) := by unfold At1; infer_instance
theorem occ_keep (s sub : Str) (hi : Nat) : ∀ (l : List Nat) (x free : Nat), (forIn l ((#[x] : Array Nat), free) (occBody s sub hi 1)).run.fst = #[x]
  | [], x, free => rfl
  | a :: l, x, free => by
    rw [List.forIn_cons]
    unfold occBody
    rw [if_neg (by simp)]
    exact occ_keep s sub hi l x free
theorem occ_first (b a : List Nat) : ∀ (l : List Nat) (free : Nat), (∀ i ∈ l, free ≤ i) →
    (forIn l ((#[] : Array Nat), free) (occBody (toS b) (toS a) b.length 1)).run.fst.toList = (l.find? fun i => decide (At1 a b i)).toList
  | [], free, _ => rfl
  | x :: l, free, hf => by
    rw [List.forIn_cons, List.find?_cons]
    unfold occBody
    by_cases h : At1 a b x
    · rw [decide_eq_true h]
      have hc : ((((#[] : Array Nat), free).fst.size < 1 ∧ ((#[] : Array Nat), free).snd ≤ x) ∧ x + (toS a).length ≤ b.length) ∧ Builtin.Str.subAt (toS b) (toS a) x = true := by
        refine ⟨⟨⟨by simp, hf x List.mem_cons_self⟩, ?_⟩, ?_⟩
        · rw [toS_len]; exact h.1
        · rw [subAt_toS]; exact h.2
      rw [if_pos hc]
      have := occ_keep (toS b) (toS a) b.length l x (x + (toS a).length)
      show (forIn l ((#[] : Array Nat).push x, x + (toS a).length) (occBody (toS b) (toS a) b.length 1)).run.fst.toList = _
      rw [show (#[] : Array Nat).push x = #[x] from rfl, this]
      rfl
    · rw [decide_eq_false h]
      have hc : ¬ (((((#[] : Array Nat), free).fst.size < 1 ∧ ((#[] : Array Nat), free).snd ≤ x) ∧ x + (toS a).length ≤ b.length) ∧ Builtin.Str.subAt (toS b) (toS a) x = true) := fun z => h ⟨by have := z.1.2; rwa [toS_len] at this, by have := z.2; rwa [subAt_toS] at this⟩
      rw [if_neg hc]
      exact occ_first b a l free fun i hi => hf i (List.mem_cons_of_mem _ hi)
theorem prefix_iff : ∀ (a b : List Nat), a.isPrefixOf b = true ↔ a.length ≤ b.length ∧ (b.take a.length == a) = true := by
  intro a b
  rw [List.isPrefixOf_iff_prefix, beq_iff_eq]
  constructor
  · intro h
    exact ⟨h.length_le, (List.prefix_iff_eq_take.mp h).symm⟩
  · rintro ⟨_, h⟩
    exact List.prefix_iff_eq_take.mpr h.symm
theorem find_at (a : List Nat) : ∀ (b b0 : List Nat) (k : Nat), b = b0.drop k → k + b.length = b0.length →
    (List.range' k (b.length + 1)).find? (fun i => decide (At1 a b0 i)) = (findS a b).map (· + k)
  | [], b0, k, e, hk => by
    show (List.range' k 1).find? _ = _
    rw [List.range'_succ, List.range'_zero, List.find?_cons, List.find?_nil]
    unfold findS
    have : At1 a b0 k ↔ a.isEmpty = true := by
      unfold At1
      rw [← e, ← hk]
      cases a <;> simp
    by_cases h : a.isEmpty = true
    · rw [decide_eq_true (this.mpr h), if_pos h]; simp
    · rw [decide_eq_false (fun z => h (this.mp z)), if_neg h]; rfl
  | c :: r, b0, k, e, hk => by
    rw [List.length_cons, List.range'_succ, List.find?_cons]
    have key : At1 a b0 k ↔ a.isPrefixOf (c :: r) = true := by
      rw [prefix_iff]
      unfold At1
      rw [← e, ← hk]
      exact ⟨fun ⟨x, y⟩ => ⟨by omega, y⟩, fun ⟨x, y⟩ => ⟨by omega, y⟩⟩
    unfold findS
    by_cases h : a.isPrefixOf (c :: r) = true
    · rw [decide_eq_true (key.mpr h), if_pos h]
      simp
    · rw [decide_eq_false (fun z => h (key.mp z)), if_neg h]
      have ih := find_at a r b0 (k + 1) (by rw [← List.drop_drop, ← e]; rfl) (by rw [List.length_cons] at hk; omega)
      show (List.range' (k + 1) (r.length + 1)).find? _ = _
      rw [ih, Option.map_map]
      congr 1
      funext n
      show n + (k + 1) = n + 1 + k
      omega
theorem occ_findS (b a : List Nat) : Builtin.Str.occurrences (toS b) (toS a) 0 (toS b).length 1 = (findS a b).toList := by
  rw [occ_eq, toS_len, occ_first b a _ _ (fun _ _ => Nat.zero_le _)]
  have := find_at a b b 0 rfl (by omega)
  show ((List.range' 0 (b.length + 1)).find? _).toList = _
  rw [this]
  cases findS a b <;> rfl
theorem infix_find : ∀ (a b : List Nat), isInfix a b = (findS a b).isSome
  | a, [] => by
    unfold isInfix findS
    cases a <;> rfl
  | a, c :: r => by
    unfold isInfix findS
    by_cases h : a.isPrefixOf (c :: r) = true
    · rw [h, if_pos rfl]; rfl
    · rw [if_neg h, infix_find a r]
      rw [show a.isPrefixOf (c :: r) = false from Bool.not_eq_true _ |>.mp h]
      cases findS a r <;> rfl
theorem occ_infix (b a : List Nat) : (!(Builtin.Str.occurrences (toS b) (toS a) 0 (toS b).length 1).isEmpty) = isInfix a b := by
  rw [occ_findS, infix_find]
  cases findS a b <;> rfl
/-- one sign, all its places -/
theorem occ_count (b : List Nat) (c limit : Nat) : ∀ (n lo free : Nat) (acc : Array Nat), lo + n = b.length + 1 → free ≤ lo → acc.size + n ≤ limit →
    (forIn (List.range' lo n) (acc, free) (occBody (toS b) ⟨#[c]⟩ b.length limit)).run.fst.size = acc.size + (b.drop lo).countP (· == c)
  | 0, lo, free, acc, h, _, _ => by
    rw [List.drop_of_length_le (by omega)]
    rfl
  | n + 1, lo, free, acc, h, hf, hl => by
    rw [List.range'_succ, List.forIn_cons]
    unfold occBody
    by_cases hlt : lo < b.length
    · have e1 : b.drop lo = b[lo] :: b.drop (lo + 1) := List.drop_eq_getElem_cons hlt
      rw [e1, List.countP_cons]
      by_cases hc : b[lo] = c
      · have hcc : (((acc, free).fst.size < limit ∧ (acc, free).snd ≤ lo) ∧ lo + (⟨#[c]⟩ : Str).length ≤ b.length) ∧ Builtin.Str.subAt (toS b) ⟨#[c]⟩ lo = true := by
          refine ⟨⟨⟨by show acc.size < limit; omega, hf⟩, by show lo + 1 ≤ _; omega⟩, ?_⟩
          have := subAt_toS b [c] lo
          rw [show toS [c] = ⟨#[c]⟩ from rfl] at this
          rw [this, e1]
          simp [hc]
        rw [if_pos hcc]
        have ih := occ_count b c limit n (lo + 1) (lo + 1) (acc.push lo) (by omega) (Nat.le_refl _) (by rw [Array.size_push]; omega)
        refine Eq.trans ih ?_
        rw [Array.size_push]
        simp only [hc, beq_self_eq_true, if_true]
        omega
      · have hcc : ¬ ((((acc, free).fst.size < limit ∧ (acc, free).snd ≤ lo) ∧ lo + (⟨#[c]⟩ : Str).length ≤ b.length) ∧ Builtin.Str.subAt (toS b) ⟨#[c]⟩ lo = true) := by
          rintro ⟨_, z⟩
          have := subAt_toS b [c] lo
          rw [show toS [c] = ⟨#[c]⟩ from rfl] at this
          rw [this, e1, beq_iff_eq] at z
          exact hc (List.cons.inj z).1
        rw [if_neg hcc]
        have ih := occ_count b c limit n (lo + 1) free acc (by omega) (by omega) (by omega)
        refine Eq.trans ih ?_
        rw [if_neg (by simpa using hc)]
        rfl
    · have hcc : ¬ ((((acc, free).fst.size < limit ∧ (acc, free).snd ≤ lo) ∧ lo + (⟨#[c]⟩ : Str).length ≤ b.length) ∧ Builtin.Str.subAt (toS b) ⟨#[c]⟩ lo = true) := by
        rintro ⟨⟨_, z⟩, _⟩
        have z : lo + 1 ≤ b.length := z
        omega
      rw [if_neg hcc]
      have ih := occ_count b c limit n (lo + 1) free acc (by omega) (by omega) (by omega)
      refine Eq.trans ih ?_
      rw [List.drop_of_length_le (by omega), List.drop_of_length_le (by omega)]
theorem occ_countS (b : List Nat) (c : Nat) : (Builtin.Str.occurrences (toS b) ⟨#[c]⟩ 0 (toS b).length ((toS b).length + 1)).length = countS c b := by
  rw [occ_eq, Array.length_toList, toS_len]
  have := occ_count b c (b.length + 1) (b.length + 1) 0 0 #[] (by omega) (Nat.le_refl _) (by simp)
  rw [show b.length + 1 - 0 = b.length + 1 from rfl]
  refine Eq.trans this ?_
  simp [countS]
end Cw

end
section
set_option Elab.async false
set_option linter.all false
set_option maxRecDepth 100000
/-! Cw1c: comparisons -/
namespace Cw
open PySem PySem.Spec PyProof.Rows L2

def toD : Nat → W → PyData
  | _, .non => .none
  | _, .bl b => .bool b
  | _, .int i => .int i
  | _, .str s => .str (toS s)
  | n + 1, .tup xs => .tuple (xs.map (toD n))
  | n + 1, .lst xs => .list (xs.map (toD n))
  | _, _ => .dict []
section
variable {S : Kn} {C : List Addr} {c : Cells} {H : Hp} {K : PySem.W.Frag}
theorem dpAll {f : W → PyData} : ∀ {ws : List W} {us : List V}, Reps S C ws us → (∀ w ∈ ws, ∀ x, Rep S C w x → Dp K H x (f w)) → DpAll K H us (ws.map f)
  | [], _, r, _ => by rw [show _ = [] from r]; exact .nil
  | w :: ws, _, ⟨v, r, e, p, q⟩, h => by
    subst e
    exact .cons (h w List.mem_cons_self v p) (dpAll q fun w' hw => h w' (List.mem_cons_of_mem _ hw))
theorem dp_of (B : Bs S C c H) : ∀ (n : Nat) {w : W} {x : V}, W.plain n w = true → Rep S C w x → Dp K H x (toD n w)
  | n, .non, x, _, r => by rw [show x = _ from r]; cases n <;> exact .non
  | n, .bl b, x, _, r => by rw [show x = _ from r]; cases n <;> exact .bl b
  | n, .int b, x, _, r => by rw [show x = _ from r]; cases n <;> exact .int b
  | n, .str b, x, _, r => by rw [show x = _ from r]; cases n <;> exact .str _
  | 0, .tup _, _, h, _ => by cases h
  | 0, .lst _, _, h, _ => by cases h
  | n + 1, .tup xs, _, h, ⟨a, us, e, s, r⟩ => by
    subst e
    exact .tup (Rd.sqT (B.sub _ _ s)) (dpAll r fun w hw x hx => dp_of B n (List.all_eq_true.mp h w hw) hx)
  | n + 1, .lst xs, _, h, ⟨a, us, e, s, r⟩ => by
    subst e
    exact .lst (Rd.sq (B.sub _ _ s)) (dpAll r fun w hw x hx => dp_of B n (List.all_eq_true.mp h w hw) hx)
  | 0, .dct _ _, _, h, _ => by cases h
  | n + 1, .dct _ _, _, h, _ => by cases h
  | 0, .cel _, _, h, _ => by cases h
  | n + 1, .cel _, _, h, _ => by cases h
theorem dp_lk (B : Bs S C c H) {n : Nat} {w : W} {x : V} (h : W.plain n w = true) (k : Lk S C H w x) : Dp K H x (toD n w) := by
  rcases k with k | ⟨p, o, e, e2, hp, nc⟩
  · exact dp_of B n h k
  · subst e2
    cases w <;> first | exact e.elim | skip
    case dct => cases n <;> cases h
    obtain ⟨us, rfl, r⟩ := e
    cases n with
    | zero => cases h
    | succ n => exact .lst (.inl (.inl hp)) (dpAll r fun w hw x hx => dp_of B n (List.all_eq_true.mp h w hw) hx)
end
theorem lay_all : ∀ {ds : List PyData}, (∀ d ∈ ds, d.canLay0 = true) → PyData.canLayAll0 ds = true
  | [], _ => rfl
  | d :: ds, h => by
    unfold PyData.canLayAll0
    rw [h d List.mem_cons_self, lay_all fun e he => h e (List.mem_cons_of_mem _ he)]
    rfl
theorem dep_all {n : Nat} : ∀ {ds : List PyData}, (∀ d ∈ ds, d.depth ≤ n) → PyData.depthAll ds ≤ n
  | [], _ => Nat.zero_le _
  | d :: ds, h => by
    unfold PyData.depthAll
    exact Nat.max_le.mpr ⟨h d List.mem_cons_self, dep_all fun e he => h e (List.mem_cons_of_mem _ he)⟩
theorem plain_ok : ∀ (n : Nat) {w : W}, W.plain n w = true → (toD n w).canLay0 = true ∧ (toD n w).depth ≤ n
  | n, .non, _ => by cases n <;> exact ⟨rfl, Nat.zero_le _⟩
  | n, .bl _, _ => by cases n <;> exact ⟨rfl, Nat.zero_le _⟩
  | n, .int _, _ => by cases n <;> exact ⟨rfl, Nat.zero_le _⟩
  | n, .str s, h => by
    have h' : s.all (· < 1114112) = true := by cases n <;> exact h
    have e : PyData.strOk (toS s) = true := by
      unfold PyData.strOk toS
      simpa using h'
    cases n <;> exact ⟨e, Nat.zero_le _⟩
  | 0, .tup _, h => by cases h
  | 0, .lst _, h => by cases h
  | n + 1, .tup xs, h => by
    have q : ∀ d ∈ xs.map (toD n), d.canLay0 = true ∧ d.depth ≤ n := fun d hd => by
      obtain ⟨w, hw, e⟩ := List.mem_map.mp hd
      subst e
      exact plain_ok n (List.all_eq_true.mp h w hw)
    exact ⟨lay_all fun d hd => (q d hd).1, Nat.succ_le_succ (dep_all fun d hd => (q d hd).2)⟩
  | n + 1, .lst xs, h => by
    have q : ∀ d ∈ xs.map (toD n), d.canLay0 = true ∧ d.depth ≤ n := fun d hd => by
      obtain ⟨w, hw, e⟩ := List.mem_map.mp hd
      subst e
      exact plain_ok n (List.all_eq_true.mp h w hw)
    exact ⟨lay_all fun d hd => (q d hd).1, Nat.succ_le_succ (dep_all fun d hd => (q d hd).2)⟩
  | 0, .dct _ _, h => by cases h
  | n + 1, .dct _ _, h => by cases h
  | 0, .cel _, h => by cases h
  | n + 1, .cel _, h => by cases h
theorem plain_shaped {n : Nat} {w : W} (h : W.plain n w = true) (hn : n ≤ 64) : SeqAt.shaped (toD n w) = true := by
  obtain ⟨a, b⟩ := plain_ok n h
  unfold SeqAt.shaped
  rw [a, decide_eq_true (Nat.le_trans b hn)]
  rfl
theorem toS_inj {a b : List Nat} (h : toS a = toS b) : a = b := by
  have := congrArg Str.cps h
  simpa [toS] using this
theorem toS_beq (a b : List Nat) : (toS a == toS b) = (a == b) := by
  rw [Bool.eq_iff_iff, beq_iff_eq, beq_iff_eq]
  exact ⟨toS_inj, fun h => by rw [h]⟩
theorem eqv_all {f g : W → PyData} {h : W → W → Bool} : ∀ (xs ys : List W), (∀ x ∈ xs, ∀ y ∈ ys, PyData.eqv (f x) (f y) = h x y) →
    PyData.eqvAll (xs.map f) (ys.map f) = (xs.length == ys.length && (xs.zip ys).all fun p => h p.1 p.2)
  | [], [], _ => by simp [PyData.eqvAll]
  | [], _ :: _, _ => by simp [PyData.eqvAll]
  | _ :: _, [], _ => by simp [PyData.eqvAll]
  | x :: xs, y :: ys, q => by
    rw [List.map_cons, List.map_cons, PyData.eqvAll, q x List.mem_cons_self y List.mem_cons_self, eqv_all (f := f) (g := g) xs ys fun a ha b hb => q a (List.mem_cons_of_mem _ ha) b (List.mem_cons_of_mem _ hb)]
    rw [Bool.eq_iff_iff]
    simp only [List.length_cons, List.zip_cons_cons, List.all_cons, Bool.and_eq_true, beq_iff_eq, Nat.add_right_cancel_iff]
    exact ⟨fun ⟨a, b, c⟩ => ⟨b, a, c⟩, fun ⟨a, b, c⟩ => ⟨b, a, c⟩⟩
theorem eqv_toD : ∀ (n : Nat) {a b : W}, W.plain n a = true → W.plain n b = true → PyData.eqv (toD n a) (toD n b) = W.eqv n a b
  | 0, a, b, ha, hb => by
    cases a <;> first | (cases ha; done) | skip
    all_goals (cases b <;> first | (cases hb; done) | skip)
    all_goals first | rfl | (simp only [toD, PyData.eqv, W.eqv]; done) | (simp only [toD, PyData.eqv, W.eqv]; rw [toS_beq])
  | n + 1, a, b, ha, hb => by
    cases a <;> first | (cases ha; done) | skip
    all_goals (cases b <;> first | (cases hb; done) | skip)
    case tup.tup xs ys =>
      show PyData.eqv (.tuple _) (.tuple _) = _
      rw [PyData.eqv]
      exact eqv_all (g := toD n) xs ys fun x hx y hy => eqv_toD n (List.all_eq_true.mp ha x hx) (List.all_eq_true.mp hb y hy)
    case lst.lst xs ys =>
      show PyData.eqv (.list _) (.list _) = _
      rw [PyData.eqv]
      exact eqv_all (g := toD n) xs ys fun x hx y hy => eqv_toD n (List.all_eq_true.mp ha x hx) (List.all_eq_true.mp hb y hy)
    all_goals first | rfl | (simp only [toD, PyData.eqv, W.eqv]; done) | (simp only [toD, PyData.eqv, W.eqv]; rw [toS_beq])

def copB : Cop → CmpOp → Bool
  | .eq, .Eq | .ne, .NotEq | .lt, .Lt | .le, .LtE | .gt, .Gt | .ge, .GtE | .is_, .Is | .isnot, .IsNot | .in_, .In | .notin, .NotIn => true
  | _, _ => false
/-- a comparison's reading -/
def rdC (f : W → W → Option Bool) : R2 := fun x y H Q => ∃ S C c a b v, Bs S C c H ∧ Lk S C H a x ∧ Lk S C H b y ∧ f a b = some v ∧ Q (.bl v) H
section
variable {X : Cx}
theorem flat_rep {S : Kn} {C : List Addr} {w : W} {x : V} (h : w.scal = true) (r : Rep S C w x) : flatV x = true := by
  cases w <;> first | (cases h; done) | (rw [show x = _ from r]; rfl)
theorem scal_lk {S : Kn} {C : List Addr} {H : Hp} {w : W} {x : V} (h : w.scal = true) (r : Lk S C H w x) : Rep S C w x := by
  rcases r with r | ⟨p, o, e, _⟩
  · exact r
  · cases w <;> first | exact e.elim | cases h
theorem eqV_rep {S : Kn} {C : List Addr} {a b : W} {x y : V} (ha : a.scal = true) (hb : b.scal = true) (ra : Rep S C a x) (rb : Rep S C b y) : eqV x y = W.eqv 1 a b := by
  cases a <;> first | (cases ha; done) | skip
  all_goals (cases b <;> first | (cases hb; done) | skip)
  all_goals (rw [show x = _ from ra, show y = _ from rb])
  all_goals first | rfl | exact toS_beq _ _
theorem inV_rep {S : Kn} {C : List Addr} {a : W} {x : V} (ha : a.scal = true) (ra : Rep S C a x) : ∀ {ws : List W} {us : List V}, ws.all W.scal = true → Reps S C ws us → us.all flatV = true ∧ inV x us = ws.any fun y => W.eqv 1 y a
  | [], _, _, r => by rw [show _ = [] from r]; exact ⟨rfl, rfl⟩
  | w :: ws, _, h, ⟨v, r, e, p, q⟩ => by
    subst e
    simp only [List.all_cons, Bool.and_eq_true] at h
    obtain ⟨h1, h2⟩ := inV_rep ha ra h.2 q
    refine ⟨by rw [List.all_cons, flat_rep h.1 p, h1]; rfl, ?_⟩
    have h2' : (r.any fun y => eqV y x) = ws.any fun y => W.eqv 1 y a := h2
    show ((v :: r).any fun y => eqV y x) = _
    rw [List.any_cons, List.any_cons, eqV_rep h.1 ha p ra, h2']
theorem elem_mem (c : Nat) (b : List Nat) : decide (c ∈ (toS b).cps.toList) = b.elem c := by
  rw [show (toS b).cps.toList = b by simp [toS], List.elem_eq_mem]
theorem snd_in (hu : X.A.units + 65 < cLine) : OpR X (compareOp .In) (rdC (cmpop .in_)) := by
  refine OpR.cases fun x y H Q ⟨S, C, c, a, b, v, B, la, lb, e, k⟩ => ?_
  cases b <;> first | (cases a <;> cases e; done) | skip
  case str j =>
    cases a <;> first | (cases e; done) | skip
    rename_i i
    cases e
    match i, la, k with
    | [d], la, k =>
      refine ⟨_, op_in_sign, d, toS j, la.str, lb.str, ?_⟩
      rw [elem_mem]; exact k
    | [], la, k => exact ⟨_, op_in_str, toS [], toS j, la.str, lb.str, by rw [occ_infix]; exact k⟩
    | c1 :: c2 :: r, la, k => exact ⟨_, op_in_str, toS (c1 :: c2 :: r), toS j, la.str, lb.str, by rw [occ_infix]; exact k⟩
  case tup xs =>
    have e' : (if a.scal && xs.all W.scal then some (xs.any fun x => W.eqv 1 x a) else none) = some v := by
      cases a <;> exact e
    split at e' <;> cases e'
    rename_i h
    simp only [Bool.and_eq_true] at h
    obtain ⟨p, us, e1, r1, s1, q1⟩ := lb.tup B
    have ra := scal_lk h.1 la
    obtain ⟨f1, f2⟩ := inV_rep h.1 ra h.2 q1
    exact ⟨_, op_in_seq, p, us, e1, .inr (Rd.sqT r1), flat_rep h.1 ra, f1, by rw [if_neg Bool.false_ne_true, f2]; exact k⟩
  case lst xs =>
    have e' : (if W.plain 58 a && xs.all (W.plain 58) then some (xs.any fun x => W.eqv 58 x a) else none) = some v := by
      cases a <;> exact e
    split at e' <;> cases e'
    rename_i h
    simp only [Bool.and_eq_true] at h
    have hl : W.plain 59 (.lst xs) = true := h.2
    refine ⟨_, op_inD hu, toD 58 a, xs.map (toD 58), dp_lk B h.1 la, dp_lk B hl lb, plain_shaped h.1 (by decide), plain_shaped hl (by decide), ?_⟩
    have e3 : ((xs.map (toD 58)).any fun z => PyData.eqv z (toD 58 a)) = xs.any fun x => W.eqv 58 x a := by
      rw [List.any_map]
      rw [Bool.eq_iff_iff, List.any_eq_true, List.any_eq_true]
      constructor
      · rintro ⟨z, hz, q⟩
        exact ⟨z, hz, by rw [← eqv_toD 58 (List.all_eq_true.mp h.2 z hz) h.1]; exact q⟩
      · rintro ⟨z, hz, q⟩
        exact ⟨z, hz, by show PyData.eqv _ _ = true; rw [eqv_toD 58 (List.all_eq_true.mp h.2 z hz) h.1]; exact q⟩
    rw [e3]; exact k
theorem snd_notin (hu : X.A.units + 65 < cLine) : OpR X (compareOp .NotIn) (rdC (cmpop .notin)) := by
  refine OpR.cases fun x y H Q ⟨S, C, c, a, b, v, B, la, lb, e, k⟩ => ?_
  cases b <;> first | (cases a <;> cases e; done) | skip
  case str j =>
    cases a <;> first | (cases e; done) | skip
    rename_i i
    cases e
    match i, la, k with
    | [d], la, k =>
      refine ⟨_, op_notIn_sign, d, toS j, la.str, lb.str, ?_⟩
      rw [elem_mem]; exact k
    | [], la, k => exact ⟨_, op_notin_str, toS [], toS j, la.str, lb.str, by rw [occ_infix]; exact k⟩
    | c1 :: c2 :: r, la, k => exact ⟨_, op_notin_str, toS (c1 :: c2 :: r), toS j, la.str, lb.str, by rw [occ_infix]; exact k⟩
  case tup xs =>
    have e' : (if a.scal && xs.all W.scal then some (!xs.any fun x => W.eqv 1 x a) else none) = some v := by
      cases a <;> exact e
    split at e' <;> cases e'
    rename_i h
    simp only [Bool.and_eq_true] at h
    obtain ⟨p, us, e1, r1, s1, q1⟩ := lb.tup B
    have ra := scal_lk h.1 la
    obtain ⟨f1, f2⟩ := inV_rep h.1 ra h.2 q1
    exact ⟨_, op_notIn_seq, p, us, e1, .inr (Rd.sqT r1), flat_rep h.1 ra, f1, by rw [if_pos rfl, f2]; exact k⟩
  case lst xs =>
    have e' : (if W.plain 58 a && xs.all (W.plain 58) then some (!xs.any fun x => W.eqv 58 x a) else none) = some v := by
      cases a <;> exact e
    split at e' <;> cases e'
    rename_i h
    simp only [Bool.and_eq_true] at h
    have hl : W.plain 59 (.lst xs) = true := h.2
    refine ⟨_, op_notInD hu, toD 58 a, xs.map (toD 58), dp_lk B h.1 la, dp_lk B hl lb, plain_shaped h.1 (by decide), plain_shaped hl (by decide), ?_⟩
    have e3 : ((xs.map (toD 58)).any fun z => PyData.eqv z (toD 58 a)) = xs.any fun x => W.eqv 58 x a := by
      rw [List.any_map]
      rw [Bool.eq_iff_iff, List.any_eq_true, List.any_eq_true]
      constructor
      · rintro ⟨z, hz, q⟩
        exact ⟨z, hz, by rw [← eqv_toD 58 (List.all_eq_true.mp h.2 z hz) h.1]; exact q⟩
      · rintro ⟨z, hz, q⟩
        exact ⟨z, hz, by show PyData.eqv _ _ = true; rw [eqv_toD 58 (List.all_eq_true.mp h.2 z hz) h.1]; exact q⟩
    rw [e3]; exact k
theorem snd_eq (hu : X.A.units + 64 < cLine) : OpR X (compareOp .Eq) (rdC (cmpop .eq)) := by
  refine OpR.cases fun x y H Q ⟨S, C, c, a, b, v, B, la, lb, e, k⟩ => ?_
  have gen : (if W.plain 60 a && W.plain 60 b then some (W.eqv 60 a b) else none) = some v → ∃ r', OpR X (compareOp .Eq) r' ∧ r' x y H Q := fun e' => by
    split at e' <;> cases e'
    rename_i h
    simp only [Bool.and_eq_true] at h
    exact ⟨_, op_eqD hu, _, _, dp_lk B h.1 la, dp_lk B h.2 lb, plain_shaped h.1 (by decide), plain_shaped h.2 (by decide), by rw [eqv_toD 60 h.1 h.2]; exact k⟩
  cases a <;> cases b <;> first | exact gen e | skip
  case str.str i j =>
    cases e
    refine ⟨_, op_eq, ?_⟩
    rw [la.str, lb.str]
    exact ⟨rfl, by rw [dec_str, toS_beq]; exact k⟩
theorem snd_ne (hu : X.A.units + 64 < cLine) : OpR X (compareOp .NotEq) (rdC (cmpop .ne)) := by
  refine OpR.cases fun x y H Q ⟨S, C, c, a, b, v, B, la, lb, e, k⟩ => ?_
  have gen : (if W.plain 60 a && W.plain 60 b then some (!W.eqv 60 a b) else none) = some v → ∃ r', OpR X (compareOp .NotEq) r' ∧ r' x y H Q := fun e' => by
    split at e' <;> cases e'
    rename_i h
    simp only [Bool.and_eq_true] at h
    exact ⟨_, op_neD hu, _, _, dp_lk B h.1 la, dp_lk B h.2 lb, plain_shaped h.1 (by decide), plain_shaped h.2 (by decide), by rw [eqv_toD 60 h.1 h.2]; exact k⟩
  cases a <;> cases b <;> first | exact gen e | skip
  case str.str i j =>
    cases e
    refine ⟨_, op_ne, ?_⟩
    rw [la.str, lb.str]
    exact ⟨rfl, by rw [dec_str, toS_beq]; exact k⟩
theorem lk_non {S : Kn} {C : List Addr} {H : Hp} {w : W} {x : V} (k : Lk S C H w x) : decide (x = V.non) = w.isNon := by
  rcases k with k | ⟨p, o, e, e2, _⟩
  · cases w with
    | non => rw [show x = _ from k]; rfl
    | tup xs => obtain ⟨a, us, e, _⟩ := k; rw [e]; rfl
    | lst xs => obtain ⟨a, us, e, _⟩ := k; rw [e]; rfl
    | cel xs => obtain ⟨a, us, e⟩ := k; rw [e]; rfl
    | dct _ _ => obtain ⟨a, us, e, _⟩ := k; rw [e]; rfl
    | bl _ => rw [show x = _ from k]; rfl
    | int _ => rw [show x = _ from k]; rfl
    | str _ => rw [show x = _ from k]; rfl
  · rw [e2]
    cases w <;> first | exact e.elim | rfl
theorem snd_is : OpR X (compareOp .Is) (rdC (cmpop .is_)) := by
  refine OpR.cases fun x y H Q ⟨S, C, c, a, b, v, B, la, lb, e, k⟩ => ?_
  cases b <;> first | (cases a <;> cases e; done) | skip
  case non =>
    refine ⟨_, op_isN, lb.non, ?_⟩
    rw [lk_non la]
    have : some a.isNon = some v := by cases a <;> exact e
    rw [Option.some.inj this]; exact k
  case bl j =>
    cases a <;> first | (cases e; done) | skip
    cases e
    exact ⟨_, op_isBl, _, _, la.bl, lb.bl, by rw [← Bool.beq_eq_decide_eq]; exact k⟩
theorem op_isnotBl : OpR X (compareOp .IsNot) (fun x y H Q => ∃ a b : Bool, x = .bl a ∧ y = .bl b ∧ Q (.bl (!(a == b))) H) := by
  rintro pins s σ H x y v u Q I rx ry ⟨a, b, rfl, rfl, q⟩
  cases (show v = Value.bool a from rx)
  cases (show u = Value.bool b from ry)
  refine wpAny_isNot_plain rfl ⟨.bl (!(a == b)), H, I, ?_, q⟩
  cases a <;> cases b <;> rfl
theorem snd_isnot : OpR X (compareOp .IsNot) (rdC (cmpop .isnot)) := by
  refine OpR.cases fun x y H Q ⟨S, C, c, a, b, v, B, la, lb, e, k⟩ => ?_
  cases b <;> first | (cases a <;> cases e; done) | skip
  case non =>
    refine ⟨_, op_notN, lb.non, ?_⟩
    rw [lk_non la]
    have : some (!a.isNon) = some v := by cases a <;> exact e
    rw [Option.some.inj this]; exact k
  case bl j =>
    cases a <;> first | (cases e; done) | skip
    cases e
    exact ⟨_, op_isnotBl, _, _, la.bl, lb.bl, k⟩
theorem toS_lt (a b : List Nat) : decide ((toS a).cps.toList < (toS b).cps.toList) = decide (a < b) := by
  rw [show (toS a).cps.toList = a by simp [toS], show (toS b).cps.toList = b by simp [toS]]
theorem snd_cmp (hu : X.A.units + 65 < cLine) {op : Cop} {o : CmpOp} (h : copB op o = true) : OpR X (compareOp o) (rdC (cmpop op)) := by
  cases op <;> cases o <;> first | (cases h; done) | skip
  · exact snd_eq (by omega)
  · exact snd_ne (by omega)
  · refine OpR.cases fun x y H Q ⟨S, C, c, a, b, v, B, la, lb, e, k⟩ => ?_
    cases a <;> cases b <;> first | (cases e; done) | skip
    · cases e; exact ⟨_, op_lt, _, _, la.int, lb.int, k⟩
    · cases e; exact ⟨_, op_lt_str, _, _, la.str, lb.str, by rw [toS_lt]; exact k⟩
  · refine OpR.cases fun x y H Q ⟨S, C, c, a, b, v, B, la, lb, e, k⟩ => ?_
    cases a <;> cases b <;> first | (cases e; done) | skip
    · cases e; exact ⟨_, op_le, _, _, la.int, lb.int, k⟩
  · refine OpR.cases fun x y H Q ⟨S, C, c, a, b, v, B, la, lb, e, k⟩ => ?_
    cases a <;> cases b <;> first | (cases e; done) | skip
    · cases e; exact ⟨_, op_gt, _, _, la.int, lb.int, k⟩
    · cases e; exact ⟨_, op_gt_str, _, _, la.str, lb.str, by rw [toS_lt]; exact k⟩
  · refine OpR.cases fun x y H Q ⟨S, C, c, a, b, v, B, la, lb, e, k⟩ => ?_
    cases a <;> cases b <;> first | (cases e; done) | skip
    · cases e; exact ⟨_, op_ge, _, _, la.int, lb.int, k⟩
  · exact snd_is
  · exact snd_isnot
  · exact snd_in hu
  · exact snd_notin hu
end
end Cw

end
section
set_option Elab.async false
set_option linter.all false
set_option maxRecDepth 100000
/-! Cw1d: readings of expressions -/
namespace Cw
open PySem PySem.Spec PyProof.Rows L2

def Okr {α : Type} (r : Res α) (Q : α → Cells → Prop) : Prop := match r with
  | .ok a c => Q a c
  | _ => False
section
variable {α β : Type} {m : M α} {f : α → M β} {c : Cells} {Q : β → Cells → Prop}
theorem okr_bnd : Okr ((m >>= f) c) Q ↔ Okr (m c) fun a c' => Okr (f a c') Q := by
  show Okr (M.bnd m f c) Q ↔ _
  unfold M.bnd
  cases m c <;> exact Iff.rfl
theorem okr_ret {a : α} {Q : α → Cells → Prop} : Okr ((pure a : M α) c) Q ↔ Q a c := Iff.rfl
theorem okr_no {Q : α → Cells → Prop} : Okr ((M.no : M α) c) Q ↔ False := Iff.rfl
theorem okr_lift {o : Option α} {Q : α → Cells → Prop} : Okr (M.lift o c) Q ↔ ∃ a, o = some a ∧ Q a c := by
  cases o with
  | none => exact ⟨fun h => h.elim, fun ⟨a, e, _⟩ => by cases e⟩
  | some a => exact ⟨fun h => ⟨a, rfl, h⟩, fun ⟨b, e, h⟩ => by cases e; exact h⟩
theorem Okr.imp {r : Res α} {Q Q' : α → Cells → Prop} (h : Okr r Q) (i : ∀ a c, Q a c → Q' a c) : Okr r Q' := by
  cases r with
  | ok a c => exact i a c h
  | exc _ _ => exact h
  | stuck => exact h
theorem Okr.get {r : Res α} {Q : α → Cells → Prop} (h : Okr r Q) : ∃ a c, r = .ok a c ∧ Q a c := by
  cases r with
  | ok a c => exact ⟨a, c, rfl, h⟩
  | exc _ _ => exact h.elim
  | stuck => exact h.elim
end
theorem okr_if {α : Type} {b : Prop} [Decidable b] {m n : M α} {c : Cells} {Q : α → Cells → Prop} (h : Okr ((if b then m else n) c) Q) : (b ∧ Okr (m c) Q) ∨ (¬ b ∧ Okr (n c) Q) := by
  by_cases q : b
  · rw [if_pos q] at h; exact .inl ⟨q, h⟩
  · rw [if_neg q] at h; exact .inr ⟨q, h⟩

/-- what a computed expression's reading asks -/
def TX (m : Slots → M Val) : TE := fun σ H Q => ∃ S C sl c, Rel S C sl c σ H ∧ Okr (m sl c) (EndX S C H Q)
/-- .. as a test -/
def TT' (m : Slots → M Bool) : TT := fun σ H Q => ∃ S C sl c, Rel S C sl c σ H ∧ Okr (m sl c) fun b c' => ∀ S' H', Post S C H S' H' → CellsOk S' C c' H' → Q b H'
/-- values that are kept -/
def TK (m : Slots → M (List W)) : TA := fun σ H Q => ∃ S C sl c, Rel S C sl c σ H ∧ Okr (m sl c) fun ws c' => ∀ S' H' xs, Post S C H S' H' → CellsOk S' C c' H' → Reps S' C ws xs → Q xs H'
def Lks (S : Kn) (C : List Addr) (H : Hp) : List W → List V → Prop
  | [], xs => xs = []
  | w :: ws, xs => ∃ x r, xs = x :: r ∧ Lk S C H w x ∧ Lks S C H ws r
/-- values that are looked at -/
def TV (m : Slots → M (List W)) : TA := fun σ H Q => ∃ S C sl c, Rel S C sl c σ H ∧ Okr (m sl c) fun ws c' => ∀ S' H' xs, Post S C H S' H' → CellsOk S' C c' H' → Lks S' C H' ws xs → Q xs H'
/-- an int or nothing -/
def TOp (m : Slots → M (Option Int)) : TO := fun σ H Q => ∃ S C sl c, Rel S C sl c σ H ∧ Okr (m sl c) fun o c' => ∀ S' H', Post S C H S' H' → CellsOk S' C c' H' → Q o H'

theorem _root_.L2.PE.cases {X : Cx} {e : Expr} {t : TE} (h : ∀ σ H Q, t σ H Q → ∃ t', PE X e t' ∧ t' σ H Q) : PE X e t :=
  ⟨fun pins s σ H Q I q => let ⟨_, p, q'⟩ := h σ H Q q; p.run pins s σ H Q I q'⟩
theorem _root_.L2.PE.imp {X : Cx} {e : Expr} {t t' : TE} (p : PE X e t) (h : ∀ σ H Q, t' σ H Q → t σ H Q) : PE X e t' := ⟨fun pins s σ H Q I q => p.run pins s σ H Q I (h σ H Q q)⟩
theorem _root_.L2.PT.imp {X : Cx} {e : Expr} {t t' : TT} (p : PT X e t) (h : ∀ σ H Q, t' σ H Q → t σ H Q) : PT X e t' := ⟨fun pins s σ H Q I q => p.run pins s σ H Q I (h σ H Q q)⟩
theorem _root_.L2.PW.imp {X : Cx} {e : Expr} {t t' : TT} (p : PW X e t) (h : ∀ σ H Q, t' σ H Q → t σ H Q) : PW X e t' := ⟨fun w pins s σ H Q I q => p.run w pins s σ H Q I (h σ H Q q)⟩
theorem _root_.L2.PA.imp {X : Cx} {e : List Expr} {t t' : TA} (p : PA X e t) (h : ∀ σ H Q, t' σ H Q → t σ H Q) : PA X e t' := ⟨fun w pins s σ H Q I q => p.run w pins s σ H Q I (h σ H Q q)⟩
theorem _root_.L2.PO.imp {X : Cx} {e : Option Expr} {t t' : TO} (p : PO X e t) (h : ∀ σ H Q, t' σ H Q → t σ H Q) : PO X e t' := ⟨fun pins s σ H Q I q => p.run pins s σ H Q I (h σ H Q q)⟩

section
variable {S S' : Kn} {C : List Addr} {sl : Slots} {c c' : Cells} {σ : L2.St} {H H' : Hp} {Q : V → Hp → Prop}
/-- one part, then the rest -/
theorem tx_bind {m : Slots → M Val} {f : Val → Slots → M Val} {q : V → Hp → Prop} (R : Rel S C sl c σ H) (h : Okr ((m sl >>= fun v => f v sl) c) (EndX S C H Q))
    (k : ∀ v c1 S1 H1 x, Post S C H S1 H1 → CellsOk S1 C c1 H1 → Rel S1 C sl c1 σ H1 → VR S1 C H H1 v x → Okr (f v sl c1) (EndX S1 C H1 Q) → q x H1) : TX m σ H q := by
  refine ⟨S, C, sl, c, R, (okr_bnd.mp h).imp fun v c1 h1 S1 H1 x P1 k1 r1 => k v c1 S1 H1 x P1 k1 (R.next P1 k1) r1 (h1.imp fun v2 c2 q S2 H2 y P2 k2 r2 => ?_)⟩
  exact q S2 H2 y (P1.trans P2) k2 (r2.back P1.dom)
theorem Lks.next {ws : List W} {xs : List V} (P : Post S C H S' H') (h : Lks S C H ws xs) : Lks S' C H' ws xs := by
  induction ws generalizing xs with
  | nil => exact h
  | cons w ws ih => obtain ⟨x, r, e, p, q⟩ := h; exact ⟨x, r, e, p.next P, ih q⟩
/-- the truth of a value -/
theorem tru_of {K : PySem.W.Frag} {w : W} {x : V} {k : Bool} (B : Bs S C c H) (l : Lk S C H w x) (e : w.truth = some k) : TruV K x H k := by
  cases w with
  | non => rw [l.non]; cases e; exact rfl
  | bl b => rw [l.bl]; cases e; exact rfl
  | int i => rw [l.int]; cases e; exact rfl
  | str s =>
    rw [l.str]
    have e : (if s.length ≤ sizeL then some (!s.isEmpty) else none) = some k := e
    split at e <;> cases e
    rename_i hs
    refine ⟨by rw [toS_len, ← sizeL_eq]; exact hs, ?_⟩
    rw [toS_len]
    cases s with
    | nil => rfl
    | cons a b =>
      have h0 : (((a :: b).length : Int) != 0) = true := by
        rw [bne_iff_ne, List.length_cons]
        omega
      rw [h0]; rfl
  | tup xs =>
    obtain ⟨p, us, rfl, r, _, q⟩ := l.tup B
    cases e
    refine .inr (.inl ⟨us, Rd.sqT r, ?_⟩)
    cases xs with
    | nil => rw [show us = [] from q]; rfl
    | cons a b => obtain ⟨v, r, e, _⟩ := q; rw [e]; rfl
  | lst xs =>
    obtain ⟨p, us, rfl, r, q⟩ := l.lst B
    cases e
    refine .inl ⟨us, Rd.sq r, ?_⟩
    cases xs with
    | nil => rw [show us = [] from q]; rfl
    | cons a b => obtain ⟨v, r, e, _⟩ := q; rw [e]; rfl
  | dct a b => cases e
  | cel n => cases e
end

/-! ### operators as expressions -/
section
variable {X : Cx} {a b d : Expr} {ma mb md : Slots → M Val} {pos : Pos}
theorem snd_binE {op : Bop} {o : Operator} (ho : bopB op o = true) (ha : PE X a (TX ma)) (hb : PE X b (TX mb)) :
    PE X (.BinOp a o b pos) (TX fun sl => ma sl >>= fun x => mb sl >>= fun y => M.lift (binop op x.get y.get)) := by
  refine (pe_op (snd_bin ho) ha hb).imp fun σ H Q ⟨S, C, sl, c, R, h⟩ => ?_
  refine tx_bind (f := fun x sl => mb sl >>= fun y => M.lift (binop op x.get y.get)) R h fun v c1 S1 H1 x P1 k1 R1 r1 h1 => ?_
  refine tx_bind (f := fun y sl => M.lift (binop op v.get y.get)) R1 h1 fun v2 c2 S2 H2 y P2 k2 R2 r2 h2 => ?_
  obtain ⟨z, e, q⟩ := okr_lift.mp h2
  exact ⟨S2, C, c2, _, _, z, R2.bs, r1.lk.next P2, r2.lk, e, q⟩
theorem snd_negE (ha : PE X a (TX ma)) : PE X (.UnaryOp .USub a pos) (TX fun sl => ma sl >>= fun x => M.lift (x.get.int?.map fun i => .w (.int (-i)))) := by
  refine (pe_un un_neg ha).imp fun σ H Q ⟨S, C, sl, c, R, h⟩ => ?_
  refine tx_bind (f := fun x sl => M.lift (x.get.int?.map fun i => .w (.int (-i)))) R h fun v c1 S1 H1 x P1 k1 R1 r1 h1 => ?_
  obtain ⟨z, e, q⟩ := okr_lift.mp h1
  have l := r1.lk
  cases hv : v.get with
  | int i =>
    rw [hv] at e l
    cases e
    exact ⟨i, l.int, q.now R1.bs rfl⟩
  | _ => rw [hv] at e; cases e
theorem snd_cmpE (hu : X.A.units + 65 < cLine) {op : Cop} {o : CmpOp} (ho : copB op o = true) (hm : behindInMarks o b = false) (ha : PE X a (TX ma)) (hb : PE X b (TX mb)) :
    PE X (.Compare a [o] [b] pos) (TX fun sl => ma sl >>= fun x => mb sl >>= fun y => M.lift ((cmpop op x.get y.get).map fun b => .w (.bl b))) := by
  refine (pe_cmpR (snd_cmp hu ho) ha hb hm).imp fun σ H Q ⟨S, C, sl, c, R, h⟩ => ?_
  refine tx_bind (f := fun x sl => mb sl >>= fun y => M.lift ((cmpop op x.get y.get).map fun b => .w (.bl b))) R h fun v c1 S1 H1 x P1 k1 R1 r1 h1 => ?_
  refine tx_bind (f := fun y sl => M.lift ((cmpop op v.get y.get).map fun b => .w (.bl b))) R1 h1 fun v2 c2 S2 H2 y P2 k2 R2 r2 h2 => ?_
  obtain ⟨z, e, q⟩ := okr_lift.mp h2
  obtain ⟨k, e', e''⟩ := Option.map_eq_some_iff.mp e
  subst e''
  exact ⟨S2, C, c2, _, _, k, R2.bs, r1.lk.next P2, r2.lk, e', q.now R2.bs rfl⟩
theorem snd_chainE (hu : X.A.units + 65 < cLine) {o1 o2 : Cop} {p1 p2 : CmpOp} (h1 : copB o1 p1 = true) (h2 : copB o2 p2 = true) (hm : lastMarks [p1, p2] [b, d] = false) (ha : PE X a (TX ma)) (hb : PE X b (TX mb)) (hd : PE X d (TX md)) :
    PE X (.Compare a [p1, p2] [b, d] pos) (TX fun sl => ma sl >>= fun x => mb sl >>= fun y => M.lift (cmpop o1 x.get y.get) >>= fun k =>
      if k = true then md sl >>= fun z => M.lift ((cmpop o2 y.get z.get).map fun b => .w (.bl b)) else pure (.w (.bl false))) := by
  refine (pe_chain (snd_cmp hu h1) (snd_cmp hu h2) ha hb hd hm).imp fun σ H Q ⟨S, C, sl, c, R, h⟩ => ?_
  refine tx_bind (f := fun x sl => mb sl >>= fun y => M.lift (cmpop o1 x.get y.get) >>= fun k =>
      if k = true then md sl >>= fun z => M.lift ((cmpop o2 y.get z.get).map fun b => .w (.bl b)) else pure (.w (.bl false))) R h fun v c1 S1 H1 x P1 k1 R1 r1 h1 => ?_
  refine tx_bind (f := fun y sl => M.lift (cmpop o1 v.get y.get) >>= fun k =>
      if k = true then md sl >>= fun z => M.lift ((cmpop o2 y.get z.get).map fun b => .w (.bl b)) else pure (.w (.bl false))) R1 h1 fun v2 c2 S2 H2 y P2 k2 R2 r2 h2 => ?_
  obtain ⟨k, e, q⟩ := okr_lift.mp (okr_bnd.mp h2)
  refine ⟨S2, C, c2, _, _, k, R2.bs, r1.lk.next P2, r2.lk, e, k, rfl, ?_⟩
  cases k with
  | false => exact EndX.now R2.bs (okr_ret.mp q) rfl
  | true =>
    refine tx_bind (f := fun z sl => M.lift ((cmpop o2 v2.get z.get).map fun b => .w (.bl b))) R2 q fun v3 c3 S3 H3 z P3 k3 R3 r3 h3 => ?_
    obtain ⟨z', e2, q2⟩ := okr_lift.mp h3
    obtain ⟨k', e', e''⟩ := Option.map_eq_some_iff.mp e2
    subst e''
    exact ⟨S3, C, c3, _, _, k', R3.bs, r2.lk.next P3, r3.lk, e', q2.now R3.bs rfl⟩
end
end Cw

end
section
set_option Elab.async false
set_option linter.all false
set_option maxRecDepth 100000
/-! Cw1e: tests, and, or, not, names, displays, argument lists -/
namespace Cw
open PySem PySem.Spec PyProof.Rows L2

section
variable {S S' : Kn} {C : List Addr} {sl : Slots} {c c' : Cells} {σ : L2.St} {H H' : Hp}
/-- one part, then a test -/
theorem tt_bind {α : Type} {m : Slots → M Val} {f : Val → Slots → M α} {q : V → Hp → Prop} {F : Kn → Hp → α → Cells → Prop} (R : Rel S C sl c σ H) (h : Okr ((m sl >>= fun v => f v sl) c) (F S H))
    (k : ∀ v c1 S1 H1 x, Post S C H S1 H1 → CellsOk S1 C c1 H1 → Rel S1 C sl c1 σ H1 → VR S1 C H H1 v x → Okr (f v sl c1) (F S H) → q x H1) : TX m σ H q :=
  ⟨S, C, sl, c, R, (okr_bnd.mp h).imp fun v c1 h1 S1 H1 x P1 k1 r1 => k v c1 S1 H1 x P1 k1 (R.next P1 k1) r1 h1⟩
theorem EndX.from {S1 : Kn} {H1 : Hp} {Q : V → Hp → Prop} {r : Res Val} (h : Okr r (EndX S C H Q)) (P : Post S C H S1 H1) : Okr r (EndX S1 C H1 Q) :=
  h.imp fun v c2 q S2 H2 y P2 k2 r2 => q S2 H2 y (P.trans P2) k2 (r2.back P.dom)
end

def plainT : Expr → Bool
  | .UnaryOp .Not _ _ => false
  | .BoolOp _ _ _ => false
  | .IfExp _ _ _ _ => false
  | .Compare _ _ _ _ => false
  | _ => true
theorem isTrue_plainT {e : Expr} {env : Env} (h : plainT e = true) (whole : Sem Value) : isTrue e env whole = (do let v ← whole; standAt e.pos; holding [v] (truthy v)) := by
  cases e <;> first | (cases h; done) | rfl | (rename_i o _ _; cases o <;> first | (cases h; done) | rfl)

section
variable {X : Cx} {a b d : Expr} {rest : List Expr} {ma mb md : Slots → M Val} {pos : Pos}
theorem snd_truT (hp : plainT a = true) (ha : PE X a (TX ma)) : PT X a (TT' fun sl => ma sl >>= truthM) := by
  refine (pt_truth ha (isTrue_plainT hp)).imp fun σ H Q ⟨S, C, sl, c, R, h⟩ => ?_
  refine tt_bind (f := fun v sl => truthM v) (F := fun S H b c' => ∀ S' H', Post S C H S' H' → CellsOk S' C c' H' → Q b H') R h fun v c1 S1 H1 x P1 k1 R1 r1 h1 => ?_
  obtain ⟨k, e, q⟩ := okr_lift.mp h1
  exact ⟨k, tru_of R1.bs r1.lk e, q S1 H1 P1 k1⟩
theorem snd_cmpT (hu : X.A.units + 65 < cLine) {op : Cop} {o : CmpOp} (ho : copB op o = true) (hm : behindInMarks o b = false) (ha : PE X a (TX ma)) (hb : PE X b (TX mb)) :
    PT X (.Compare a [o] [b] pos) (TT' fun sl => (ma sl >>= fun x => mb sl >>= fun y => M.lift ((cmpop op x.get y.get).map fun b => Val.w (.bl b))) >>= truthM) := by
  refine (pt_cmpR (snd_cmp hu ho) ha hb hm).imp fun σ H Q ⟨S, C, sl, c, R, h⟩ => ?_
  have h := okr_bnd.mp (okr_bnd.mp h)
  refine ⟨S, C, sl, c, R, h.imp fun v c1 h1 S1 H1 x P1 k1 r1 => ?_⟩
  have R1 := R.next P1 k1
  refine ⟨S1, C, sl, c1, R1, (okr_bnd.mp h1).imp fun v2 c2 h2 S2 H2 y P2 k2 r2 => ?_⟩
  have R2 := R1.next P2 k2
  obtain ⟨z, e, q⟩ := okr_lift.mp h2
  obtain ⟨k, e', e''⟩ := Option.map_eq_some_iff.mp e
  subst e''
  exact ⟨S2, C, c2, _, _, k, R2.bs, r1.lk.next P2, r2.lk, e', k, rfl, okr_ret.mp q S2 H2 (P1.trans P2) k2⟩
theorem snd_chainT (hu : X.A.units + 65 < cLine) {o1 o2 : Cop} {p1 p2 : CmpOp} (h1 : copB o1 p1 = true) (h2 : copB o2 p2 = true) (hm : lastMarks [p1, p2] [b, d] = false) (ha : PE X a (TX ma)) (hb : PE X b (TX mb)) (hd : PE X d (TX md)) :
    PT X (.Compare a [p1, p2] [b, d] pos) (TT' fun sl => (ma sl >>= fun x => mb sl >>= fun y => M.lift (cmpop o1 x.get y.get) >>= fun k =>
      if k = true then md sl >>= fun z => M.lift ((cmpop o2 y.get z.get).map fun b => Val.w (.bl b)) else pure (.w (.bl false))) >>= truthM) := by
  refine (pt_chain (snd_cmp hu h1) (snd_cmp hu h2) ha hb hd hm).imp fun σ H Q ⟨S, C, sl, c, R, h⟩ => ?_
  have h := okr_bnd.mp (okr_bnd.mp h)
  refine ⟨S, C, sl, c, R, h.imp fun v c1 h1 S1 H1 x P1 k1 r1 => ?_⟩
  have R1 := R.next P1 k1
  refine ⟨S1, C, sl, c1, R1, (okr_bnd.mp h1).imp fun v2 c2 h2 S2 H2 y P2 k2 r2 => ?_⟩
  have R2 := R1.next P2 k2
  obtain ⟨k, e, q⟩ := okr_lift.mp (okr_bnd.mp h2)
  refine ⟨S2, C, c2, _, _, k, R2.bs, r1.lk.next P2, r2.lk, e, k, rfl, ?_⟩
  cases k with
  | false => exact ⟨false, rfl, okr_ret.mp q S2 H2 (P1.trans P2) k2⟩
  | true =>
    refine ⟨S2, C, sl, c2, R2, (okr_bnd.mp (show Okr ((md sl >>= fun z => M.lift ((cmpop o2 v2.get z.get).map fun b => Val.w (.bl b))) c2) _ from q)).imp fun v3 c3 h3 S3 H3 z P3 k3 r3 => ?_⟩
    have R3 := R2.next P3 k3
    obtain ⟨z', e2, q2⟩ := okr_lift.mp h3
    obtain ⟨k', e', e''⟩ := Option.map_eq_some_iff.mp e2
    subst e''
    exact ⟨S3, C, c3, _, _, k', R3.bs, r2.lk.next P3, r3.lk, e', k', rfl, okr_ret.mp q2 S3 H3 ((P1.trans P2).trans P3) k3⟩
theorem snd_notT (ha : PT X a (TT' fun sl => ma sl >>= truthM)) : PT X (.UnaryOp .Not a pos) (TT' fun sl => (ma sl >>= fun x => truthM x >>= fun k => pure (Val.w (.bl (!k)))) >>= truthM) := by
  refine (pt_not ha).imp fun σ H Q ⟨S, C, sl, c, R, h⟩ => ?_
  refine ⟨S, C, sl, c, R, okr_bnd.mpr ((okr_bnd.mp (okr_bnd.mp h)).imp fun v c1 h1 => (okr_bnd.mp h1).imp fun k c2 q => ?_)⟩
  exact okr_ret.mp q
theorem snd_and1T (ha : PT X a (TT' fun sl => ma sl >>= truthM)) : PW X (.BoolOp .And [a] pos) (TT' fun sl => ma sl >>= truthM) := pw_and1 ha
theorem snd_or1T (ha : PT X a (TT' fun sl => ma sl >>= truthM)) : PW X (.BoolOp .Or [a] pos) (TT' fun sl => ma sl >>= truthM) := pw_or1 ha
theorem snd_andT (ha : PT X a (TT' fun sl => ma sl >>= truthM)) (hb : PW X (.BoolOp .And (b :: rest) pos) (TT' fun sl => mb sl >>= truthM)) :
    PW X (.BoolOp .And (a :: b :: rest) pos) (TT' fun sl => (ma sl >>= fun x => truthM x >>= fun k => if k = true then mb sl else pure x) >>= truthM) := by
  refine (pw_and ha hb).imp fun σ H Q ⟨S, C, sl, c, R, h⟩ => ?_
  refine ⟨S, C, sl, c, R, okr_bnd.mpr ((okr_bnd.mp (okr_bnd.mp h)).imp fun v c1 h1 => ?_)⟩
  obtain ⟨k, e, q⟩ := okr_lift.mp (okr_bnd.mp h1)
  refine okr_lift.mpr ⟨k, e, fun S1 H1 P1 k1 => ?_⟩
  cases k with
  | true =>
    rw [if_pos rfl]
    exact ⟨S1, C, sl, c1, R.next P1 k1, (okr_bnd.mpr q).imp fun b c2 h2 S2 H2 P2 k2 => h2 S2 H2 (P1.trans P2) k2⟩
  | false =>
    rw [if_neg Bool.false_ne_true]
    obtain ⟨k', e', q'⟩ := okr_lift.mp (show Okr (truthM v c1) _ from q)
    rw [e] at e'
    cases e'
    exact q' S1 H1 P1 k1
theorem snd_orT (ha : PT X a (TT' fun sl => ma sl >>= truthM)) (hb : PW X (.BoolOp .Or (b :: rest) pos) (TT' fun sl => mb sl >>= truthM)) :
    PW X (.BoolOp .Or (a :: b :: rest) pos) (TT' fun sl => (ma sl >>= fun x => truthM x >>= fun k => if k = true then pure x else mb sl) >>= truthM) := by
  refine (pw_or ha hb).imp fun σ H Q ⟨S, C, sl, c, R, h⟩ => ?_
  refine ⟨S, C, sl, c, R, okr_bnd.mpr ((okr_bnd.mp (okr_bnd.mp h)).imp fun v c1 h1 => ?_)⟩
  obtain ⟨k, e, q⟩ := okr_lift.mp (okr_bnd.mp h1)
  refine okr_lift.mpr ⟨k, e, fun S1 H1 P1 k1 => ?_⟩
  cases k with
  | false =>
    rw [if_neg Bool.false_ne_true]
    exact ⟨S1, C, sl, c1, R.next P1 k1, (okr_bnd.mpr q).imp fun b c2 h2 S2 H2 P2 k2 => h2 S2 H2 (P1.trans P2) k2⟩
  | true =>
    rw [if_pos rfl]
    obtain ⟨k', e', q'⟩ := okr_lift.mp (show Okr (truthM v c1) _ from q)
    rw [e] at e'
    cases e'
    exact q' S1 H1 P1 k1
/-! .. as values -/
theorem snd_andE (ha : PE X a (TX ma)) (hb : PE X (.BoolOp .And (b :: rest) pos) (TX mb)) :
    PE X (.BoolOp .And (a :: b :: rest) pos) (TX fun sl => ma sl >>= fun x => truthM x >>= fun k => if k = true then mb sl else pure x) := by
  refine (pe_andT ha hb).imp fun σ H Q ⟨S, C, sl, c, R, h⟩ => ?_
  refine tt_bind (f := fun x sl => truthM x >>= fun k => if k = true then mb sl else pure x) (F := fun S H => EndX S C H Q) R h fun v c1 S1 H1 x P1 k1 R1 r1 h1 => ?_
  obtain ⟨k, e, q⟩ := okr_lift.mp (okr_bnd.mp h1)
  refine ⟨k, tru_of R1.bs r1.lk e, ?_⟩
  cases k with
  | true => exact ⟨S1, C, sl, c1, R1, EndX.from q P1⟩
  | false => exact okr_ret.mp q S1 H1 x P1 k1 r1
theorem snd_orE (ha : PE X a (TX ma)) (hb : PE X (.BoolOp .Or (b :: rest) pos) (TX mb)) :
    PE X (.BoolOp .Or (a :: b :: rest) pos) (TX fun sl => ma sl >>= fun x => truthM x >>= fun k => if k = true then pure x else mb sl) := by
  refine (pe_orT ha hb).imp fun σ H Q ⟨S, C, sl, c, R, h⟩ => ?_
  refine tt_bind (f := fun x sl => truthM x >>= fun k => if k = true then pure x else mb sl) (F := fun S H => EndX S C H Q) R h fun v c1 S1 H1 x P1 k1 R1 r1 h1 => ?_
  obtain ⟨k, e, q⟩ := okr_lift.mp (okr_bnd.mp h1)
  refine ⟨k, tru_of R1.bs r1.lk e, ?_⟩
  cases k with
  | false => exact ⟨S1, C, sl, c1, R1, EndX.from q P1⟩
  | true => exact okr_ret.mp q S1 H1 x P1 k1 r1
theorem snd_notE (ha : PE X a (TX ma)) : PE X (.UnaryOp .Not a pos) (TX fun sl => ma sl >>= fun x => truthM x >>= fun k => pure (Val.w (.bl (!k)))) := by
  refine (pe_notT ha).imp fun σ H Q ⟨S, C, sl, c, R, h⟩ => ?_
  refine tx_bind (f := fun x sl => truthM x >>= fun k => pure (Val.w (.bl (!k)))) R h fun v c1 S1 H1 x P1 k1 R1 r1 h1 => ?_
  obtain ⟨k, e, q⟩ := okr_lift.mp (okr_bnd.mp h1)
  exact ⟨k, tru_of R1.bs r1.lk e, EndX.now R1.bs (okr_ret.mp q) rfl⟩
theorem snd_ifE {mt : Slots → M Val} {t : Expr} (ht : PT X t (TT' fun sl => mt sl >>= truthM)) (ha : PE X a (TX ma)) (hb : PE X b (TX mb)) :
    PE X (.IfExp t a b pos) (TX fun sl => mt sl >>= fun x => truthM x >>= fun k => if k = true then ma sl else mb sl) := by
  refine (pe_ifExp ht ha hb).imp fun σ H Q ⟨S, C, sl, c, R, h⟩ => ?_
  refine ⟨S, C, sl, c, R, okr_bnd.mpr ((okr_bnd.mp h).imp fun v c1 h1 => (okr_bnd.mp h1).imp fun k c2 h2 S1 H1 P1 k1 => ?_)⟩
  cases k with
  | true => exact ⟨S1, C, sl, c2, R.next P1 k1, EndX.from h2 P1⟩
  | false => exact ⟨S1, C, sl, c2, R.next P1 k1, EndX.from h2 P1⟩

/-! ### names, constants, displays -/
theorem snd_var {i : Nat} {x : Str} (hN : X.N[i]? = some x) (hv : Vis X.env.scope x) (hd : (x == ("__debug__" : Str)) = false) (hcd : (x == ("__classdict__" : Str)) = false) :
    PE X (.Name x pos) (TX fun sl => match sl[i]? with
      | some (.val w) => pure (.w w)
      | _ => M.no) := by
  refine (pe_var hN hv hd hcd).imp fun σ H Q ⟨S, C, sl, c, R, h⟩ => ?_
  dsimp only at h
  cases e : sl[i]? with
  | none => rw [e] at h; exact h.elim
  | some s =>
    rw [e] at h
    cases s with
    | none => exact h.elim
    | own _ => exact h.elim
    | val w =>
      obtain ⟨v, e1, r1⟩ := R.slot i _ e
      exact ⟨v, e1, EndX.now R.bs (okr_ret.mp h) r1⟩
theorem snd_peek {i : Nat} {x : Str} (hN : X.N[i]? = some x) (hv : Vis X.env.scope x) (hd : (x == ("__debug__" : Str)) = false) (hcd : (x == ("__classdict__" : Str)) = false) :
    PE X (.Name x pos) (TX fun sl => match sl[i]? with
      | some (.own w) => pure (.bor w)
      | _ => M.no) := by
  refine (pe_var hN hv hd hcd).imp fun σ H Q ⟨S, C, sl, c, R, h⟩ => ?_
  dsimp only at h
  cases e : sl[i]? with
  | none => rw [e] at h; exact h.elim
  | some s =>
    rw [e] at h
    cases s with
    | none => exact h.elim
    | val _ => exact h.elim
    | own w =>
      obtain ⟨p, o, e0, e1, hp, n, nc⟩ := R.slot i _ e
      exact ⟨.ref p, e1, EndX.now R.bs (okr_ret.mp h) ⟨p, o, e0, rfl, hp, nc⟩⟩
/-- a written constant -/
def litB : W → Const → Bool
  | .non, .none => true
  | .bl b, .bool c => b == c
  | .int i, .int j => i == j
  | .str s, .str z => decide (toS s = z)
  | _, _ => false
theorem snd_lit {w : W} {k : Const} {j : Nat} (h : litB w k = true) : PE X (.Constant k j pos) (TX fun _ => pure (.w w)) := by
  cases w <;> cases k <;> first | (cases h; done) | skip
  · exact pe_non.imp fun σ H Q ⟨S, C, sl, c, R, h⟩ => EndX.now R.bs (okr_ret.mp h) rfl
  · have e := eq_of_beq h
    subst e
    exact pe_bl.imp fun σ H Q ⟨S, C, sl, c, R, h⟩ => EndX.now R.bs (okr_ret.mp h) rfl
  · have e := eq_of_beq h
    subst e
    exact pe_int.imp fun σ H Q ⟨S, C, sl, c, R, h⟩ => EndX.now R.bs (okr_ret.mp h) rfl
  · have e := of_decide_eq_true h
    subst e
    exact pe_str.imp fun σ H Q ⟨S, C, sl, c, R, h⟩ => EndX.now R.bs (okr_ret.mp h) rfl
/-- the value of a constant of the module -/
def RelW : W → Value → Prop
  | .non, u => RelV .non u
  | .bl b, u => RelV (.bl b) u
  | .int i, u => RelV (.int i) u
  | .str s, u => RelV (.str (toS s)) u
  | _, _ => False
theorem snd_glob {w : W} {x : Str} {u : Value} (hg : Gl X x) (hm : X.mg x = some u) (r : RelW w u) (hd : (x == ("__debug__" : Str)) = false) : PE X (.Name x pos) (TX fun _ => pure (.w w)) := by
  cases w <;> first | exact r.elim | skip
  · exact (pe_glob (v := .non) hg hm r hd).imp fun σ H Q ⟨S, C, sl, c, R, h⟩ => EndX.now R.bs (okr_ret.mp h) rfl
  · exact (pe_glob (v := .bl _) hg hm r hd).imp fun σ H Q ⟨S, C, sl, c, R, h⟩ => EndX.now R.bs (okr_ret.mp h) rfl
  · exact (pe_glob (v := .int _) hg hm r hd).imp fun σ H Q ⟨S, C, sl, c, R, h⟩ => EndX.now R.bs (okr_ret.mp h) rfl
  · exact (pe_glob (v := .str _) hg hm r hd).imp fun σ H Q ⟨S, C, sl, c, R, h⟩ => EndX.now R.bs (okr_ret.mp h) rfl

def notStar : Expr → Bool
  | .Starred _ _ => false
  | _ => true
theorem star_cons {e : Expr} {es : List Expr} {env : Env} (h : notStar e = true) : starEach (e :: es) env = (false, eval e env) :: starEach es env := by
  cases e <;> first | (cases h; done) | rfl
theorem star_plain {pos : Pos} {env : Env} : ∀ {es : List Expr}, es.all notStar = true → (backTo pos (starEach es env)).any (·.1) = false
  | [], _ => rfl
  | e :: es, h => by
    simp only [List.all_cons, Bool.and_eq_true] at h
    rw [star_cons h.1]
    have ih := star_plain (pos := pos) (env := env) h.2
    unfold backTo at ih ⊢
    simpa using ih
variable {es : List Expr} {ms : Slots → M (List W)}
theorem snd_knil : PA X [] (TK fun _ => pure []) := pa_nil.imp fun σ H Q ⟨S, C, sl, c, R, h⟩ => okr_ret.mp h S H [] (Post.refl R.sub) R.cells rfl
theorem snd_kcons (hs : notStar a = true) (ha : PE X a (TX ma)) (hb : PA X es (TK ms)) : PA X (a :: es) (TK fun sl => ma sl >>= fun v => keepM v >>= fun w => ms sl >>= fun ws => pure (w :: ws)) := by
  refine (pa_cons ha hb (star_cons hs)).imp fun σ H Q ⟨S, C, sl, c, R, h⟩ => ?_
  refine ⟨S, C, sl, c, R, (okr_bnd.mp h).imp fun v c1 h1 S1 H1 x P1 k1 r1 => ?_⟩
  obtain ⟨w, e, h2⟩ := okr_lift.mp (okr_bnd.mp h1)
  obtain ⟨S2, P2, k2, rw', le⟩ := r1.keep P1 k1 e
  refine ⟨S2, C, sl, c1, R.next P2 k2, (okr_bnd.mp h2).imp fun ws c3 h3 S3 H3 xs P3 k3 r3 => ?_⟩
  exact okr_ret.mp h3 S3 H3 (x :: xs) (P2.trans P3) k3 ⟨x, xs, rfl, rw'.le P3.le, r3⟩
theorem snd_vnil : PA X [] (TV fun _ => pure []) := pa_nil.imp fun σ H Q ⟨S, C, sl, c, R, h⟩ => okr_ret.mp h S H [] (Post.refl R.sub) R.cells rfl
theorem snd_vcons (hs : notStar a = true) (ha : PE X a (TX ma)) (hb : PA X es (TV ms)) : PA X (a :: es) (TV fun sl => ma sl >>= fun v => ms sl >>= fun ws => pure (v.get :: ws)) := by
  refine (pa_cons ha hb (star_cons hs)).imp fun σ H Q ⟨S, C, sl, c, R, h⟩ => ?_
  refine ⟨S, C, sl, c, R, (okr_bnd.mp h).imp fun v c1 h1 S1 H1 x P1 k1 r1 => ?_⟩
  refine ⟨S1, C, sl, c1, R.next P1 k1, (okr_bnd.mp h1).imp fun ws c3 h3 S3 H3 xs P3 k3 r3 => ?_⟩
  exact okr_ret.mp h3 S3 H3 (x :: xs) (P1.trans P3) k3 ⟨x, xs, rfl, r1.lk.next P3, r3⟩
theorem snd_tup {k : Nat} (h : PA X es (TK ms)) : PE X (.Tuple es k pos) (TX fun sl => ms sl >>= fun ws => if ws.length ≤ sizeL then pure (Val.w (.tup ws)) else M.no) := by
  refine (pe_tup h).imp fun σ H Q ⟨S, C, sl, c, R, h⟩ => ?_
  refine ⟨S, C, sl, c, R, (okr_bnd.mp h).imp fun ws c1 h1 S1 H1 xs P1 k1 r1 => ?_⟩
  rcases okr_if h1 with ⟨hl, h1⟩ | ⟨_, h1⟩
  · refine ⟨by rw [r1.length, ← sizeL_eq]; exact hl, fun p hp => ?_⟩
    have R1 := R.next P1 k1
    obtain ⟨P2, k2⟩ := Post.laid R1 hp (.tup xs) (fun _ _ z => by cases z) true
    exact okr_ret.mp h1 _ _ _ (P1.trans P2) k2 ⟨p, xs, rfl, upd_same, r1.le P2.le⟩
  · exact h1.elim
theorem snd_lst (h : PA X es (TK ms)) : PE X (.List es pos) (TX fun sl => ms sl >>= listFit) := by
  refine (pe_lst h).imp fun σ H Q ⟨S, C, sl, c, R, h⟩ => ?_
  refine ⟨S, C, sl, c, R, (okr_bnd.mp h).imp fun ws c1 h1 S1 H1 xs P1 k1 r1 => ?_⟩
  rcases okr_if h1 with ⟨hl, h1⟩ | ⟨_, h1⟩
  · refine ⟨by rw [r1.length, ← sizeL_eq]; exact hl, fun p hp => ?_⟩
    have R1 := R.next P1 k1
    have q := EndX.list (Q := Q) (c := c1) R1.bs (fun S2 H2 x P2 k2 r2 => okr_ret.mp h1 S2 H2 x (P1.trans P2) k2 (r2.back P1.dom)) r1 hp
    exact q
  · exact h1.elim
end
end Cw

end
section
set_option Elab.async false
set_option linter.all false
set_option maxRecDepth 100000
/-! Cw1f: what a loop walks -/
namespace Cw
open PySem PySem.Spec PyProof.Rows L2

/-- what lies behind an iterator: a list, a tuple, a text -/
inductive Sk where
  | L (p : Addr) (us : List V) | T (p : Addr) (us : List V) | Z (z : List Nat)
def Sk.val : Sk → V
  | .L p _ => .ref p | .T p _ => .ref p | .Z z => .str (toS z)
def Sk.items : Sk → List V
  | .L _ us => us | .T _ us => us | .Z z => z.map fun c => .str (toS [c])
def Sk.ok (H : Hp) : Sk → Prop
  | .L p us => Rd H p (.lst us) | .T p us => Rd H p (.tup us) | .Z _ => True
def Sk.sit (it : Addr) (i : Nat) (h : Heap) : Sk → Prop
  | .L p _ => h.IsListIter it p i | .T p _ => h.IsTupleIter it p i | .Z z => ∃ t, h.IsStrIter it (strIterType (toS z)) (toS z) t i
theorem Sk.obj {k : Sk} {it : Addr} {i : Nat} {h : Heap} (s : k.sit it i h) : ∃ o, h.get? it = some o ∧ ∀ v, o.data ≠ .cell v := by
  cases k with
  | L p us => obtain ⟨o, e, c, d⟩ := s; exact ⟨o, e, fun v z => by rw [d] at z; cases z⟩
  | T p us => obtain ⟨o, e, c, d⟩ := s; exact ⟨o, e, fun v z => by rw [d] at z; cases z⟩
  | Z z => obtain ⟨t, o, e, c, d⟩ := s; exact ⟨o, e, fun v z => by rw [d] at z; cases z⟩
theorem Sk.sit_keep {k : Sk} {it : Addr} {i : Nat} {h h' : Heap} (s : k.sit it i h) (q : ∀ o, h.get? it = some o → h'.get? it = some o) : k.sit it i h' := by
  cases k with
  | L p us => exact Heap.IsListIter.at s fun o e => q o e
  | T p us => exact Heap.IsTupleIter.at s fun o e => q o e
  | Z z => obtain ⟨t, o, e, c, d⟩ := s; exact ⟨t, o, q o e, c, d⟩
/-- how it draws -/
theorem Sk.draws {X : Cx} {pins : List (Addr × Obj)} {s : Shared} {σ : L2.St} {H : Hp} {A : Around} (I : Inv X pins σ H s) (hh : A.handled = none) {k : Sk} (ok : k.ok H) {it : Addr} {i : Nat} (st : k.sit it i s.heap) (hn : H it = none) :
    ∃ (fp : List Addr) (P : Nat → Value → Prop) (St : Nat → Heap → Prop), Draws X.prog X.w A it fp k.items.length P St ∧ St i s.heap ∧ (∀ i x, P i x → ∃ v, k.items[i]? = some v ∧ RelV v x) ∧ (∀ i h, St i h → k.sit it i h) ∧ it ∈ fp ∧ ∀ b ∈ fp, b = it ∨ H b ≠ none := by
  cases k with
  | L p us =>
    have ok : Rd H p (.lst us) := ok
    obtain ⟨its, rv, pl, hz⟩ := I.list (Rd.sq ok)
    have hl := rv.length
    have hp : p ≠ it := fun e => by rw [e] at ok; exact Rd.some ok hn
    have D := Draws.list (prog := X.prog) (w := X.w) hh it p hp its.toArray
    have el : its.toArray.size = us.length := by simp [hl]
    rw [el] at D
    refine ⟨_, _, _, D, ⟨st, pl.isList⟩, fun j x hx => ?_, fun j h q => q.1, by simp, fun b hb => ?_⟩
    · have hx : its.toArray[j]? = some x := hx
      have hx : its[j]? = some x := by simpa using hx
      have hj : j < us.length := by rw [hl]; exact (List.getElem?_eq_some_iff.mp hx).1
      obtain ⟨u, hu, ru⟩ := rv.get (List.getElem?_eq_getElem hj)
      rw [hx] at hu
      cases hu
      exact ⟨_, List.getElem?_eq_getElem hj, ru⟩
    · have e' : b = it ∨ b = p := by simpa using hb
      rcases e' with e | e
      · exact .inl e
      · exact .inr (by rw [e]; exact Rd.some ok)
  | T p us =>
    have ok : Rd H p (.tup us) := ok
    obtain ⟨its, rv, pl, hz⟩ := I.tuple (Rd.sqT ok)
    have hl := rv.length
    have hp : p ≠ it := fun e => by rw [e] at ok; exact Rd.some ok hn
    have D := Draws.tuple (prog := X.prog) (w := X.w) hh it p hp its.toArray
    have el : its.toArray.size = us.length := by simp [hl]
    rw [el] at D
    refine ⟨_, _, _, D, ⟨st, pl⟩, fun j x hx => ?_, fun j h q => q.1, by simp, fun b hb => ?_⟩
    · have hx : its.toArray[j]? = some x := hx
      have hx : its[j]? = some x := by simpa using hx
      have hj : j < us.length := by rw [hl]; exact (List.getElem?_eq_some_iff.mp hx).1
      obtain ⟨u, hu, ru⟩ := rv.get (List.getElem?_eq_getElem hj)
      rw [hx] at hu
      cases hu
      exact ⟨_, List.getElem?_eq_getElem hj, ru⟩
    · have e' : b = it ∨ b = p := by simpa using hb
      rcases e' with e | e
      · exact .inl e
      · exact .inr (by rw [e]; exact Rd.some ok)
  | Z z =>
    obtain ⟨t, st⟩ := st
    have D := Draws.text (prog := X.prog) (w := X.w) hh it (toS z) t
    have el : (toS z).cps.size = (Sk.Z z).items.length := by simp [toS, Sk.items]
    rw [el] at D
    refine ⟨_, _, _, D, st, fun j x hx => ?_, fun j h q => ⟨t, q⟩, by simp, fun b hb => .inl (by simpa using hb)⟩
    obtain ⟨c, u, h1, h2⟩ := hx
    subst h2
    refine ⟨.str (toS [c]), ?_, u, rfl⟩
    have h1 : z[j]? = some c := by simpa [toS] using h1
    simp [Sk.items, h1]
/-- what it begins with -/
def Sk.first (k : Sk) (u : Value) (o : Obj) : Prop := match k with
  | .L p _ => u = .ref p ∧ o = { cls := .type "list_iterator", data := .fields #[.ref p, .int 0 0] }
  | .T p _ => u = .ref p ∧ o = { cls := .type "tuple_iterator", data := .fields #[.ref p, .int 0 0] }
  | .Z z => ∃ t, u = .str (toS z) t ∧ o = { cls := .type (strIterType (toS z)), data := .fields #[.str (toS z) t, .int 0 0] }
theorem Sk.begins {X : Cx} {pins : List (Addr × Obj)} {s : Shared} {σ : L2.St} {H : Hp} (I : Inv X pins σ H s) {k : Sk} (ok : k.ok H) {u : Value} (r : RelV k.val u) :
    ∃ o Hb, Begins u o Hb ∧ Hb s.heap ∧ k.first u o := by
  cases k with
  | L p us =>
    obtain ⟨its, rv, pl, hz⟩ := I.list (Rd.sq ok)
    have e : u = .ref p := r
    subst e
    exact ⟨_, _, begins_list p its.toArray, pl.isList, rfl, rfl⟩
  | T p us =>
    obtain ⟨its, rv, pl, hz⟩ := I.tuple (Rd.sqT ok)
    have e : u = .ref p := r
    subst e
    exact ⟨_, _, begins_tuple p its.toArray, pl, rfl, rfl⟩
  | Z z =>
    obtain ⟨t, e⟩ := r
    subst e
    exact ⟨_, _, begins_text (toS z) t, trivial, t, rfl, rfl⟩
theorem Sk.sit0 {k : Sk} {u : Value} {o : Obj} {it : Addr} {h : Heap} (f : k.first u o) (e : h.get? it = some o) : k.sit it 0 h := by
  cases k with
  | L p us => obtain ⟨_, f⟩ := f; subst f; exact ⟨_, e, rfl, rfl⟩
  | T p us => obtain ⟨_, f⟩ := f; subst f; exact ⟨_, e, rfl, rfl⟩
  | Z z => obtain ⟨t, _, f⟩ := f; subst f; exact ⟨t, _, e, rfl, rfl⟩

/-! ### zip of two -/
def ItZ (k1 k2 : Sk) : It :=
  ⟨fun i H => k1.ok H ∧ k2.ok H ∧ i < min k1.items.length k2.items.length,
    fun i H v H' => ∃ T x y, v = .ref T ∧ H T = none ∧ H' = upd H T (.tup [x, y]) ∧ k1.items[i]? = some x ∧ k2.items[i]? = some y,
    fun i H => k1.ok H ∧ k2.ok H ∧ i = min k1.items.length k2.items.length⟩
theorem turn_Z {P : Program} {w : World} {K : PySem.W.Frag} {elts : List Expr} {kk : Nat} {tpos : Pos} {k1 k2 : Sk} {z TI TO i1 i2 : Addr} (D : ZipSep2 z TI TO i1 i2 [i1] [i2]) :
    Turn P w K (.Tuple elts kk tpos) (ItZ k1 k2) [z, TI, TO, i1, i2] z
      (fun i h => IsZip h z TI TO .none ∧ IsTupOf2 h TI (.ref i1) (.ref i2) ∧ (∃ x y, IsTupOf2 h TO x y) ∧ k1.sit i1 i h ∧ k2.sit i2 i h) where
  mem := by simp
  obj := fun i h st c hc => by
    obtain ⟨hz, hTI, ⟨x, y, hTO⟩, h1, h2⟩ := st
    simp only [List.mem_cons, List.not_mem_nil, or_false] at hc
    rcases hc with q | q | q | q | q
    · rw [q]; exact ⟨_, hz, fun v q => nomatch q⟩
    · rw [q]; exact ⟨_, hTI, fun v q => nomatch q⟩
    · rw [q]; exact ⟨_, hTO, fun v q => nomatch q⟩
    · rw [q]; exact Sk.obj h1
    · rw [q]; exact Sk.obj h2
  keep := fun i h h' st k => by
    obtain ⟨hz, hTI, ⟨x, y, hTO⟩, h1, h2⟩ := st
    exact ⟨k z (by simp) _ hz, k TI (by simp) _ hTI, ⟨x, y, k TO (by simp) _ hTO⟩, Sk.sit_keep h1 fun o q => k i1 (by simp) o q, Sk.sit_keep h2 fun o q => k i2 (by simp) o q⟩
  item := by
    intro X hP hw hK hc i pins s σ H E I hf st hg
    subst hP hw hK
    obtain ⟨hz, hTI, ⟨x0, y0, hTO⟩, h1, h2⟩ := st
    obtain ⟨ok1, ok2, hlt⟩ := hg
    have hin : X.A.in1.handled = none := I.ok.hd hc
    obtain ⟨fp1, P1, St1, D1, st1, g1, e1, m1, q1⟩ := Sk.draws I hin ok1 h1 (hf i1 (by simp)).1
    obtain ⟨fp2, P2, St2, D2, st2, g2, e2, m2, q2⟩ := Sk.draws I hin ok2 h2 (hf i2 (by simp)).1
    have hnz : H z = none := (hf z (by simp)).1
    have hnT : H TO = none := (hf TO (by simp)).1
    have hn1 : H i1 = none := (hf i1 (by simp)).1
    have hn2 : H i2 = none := (hf i2 (by simp)).1
    have S2 : ZipSep2 z TI TO i1 i2 fp1 fp2 := ⟨D.TIz, D.TOz, D.TITO, D.TIi1, m1, fun hm => (q1 z hm).elim (fun e => D.zf1 (by simp [e])) fun e => e hnz,
      fun hm => (q1 TO hm).elim (fun e => D.Tf1 (by simp [e])) fun e => e hnT, D.TIi2, m2, fun hm => (q2 z hm).elim (fun e => D.zf2 (by simp [e])) fun e => e hnz,
      fun hm => (q2 TO hm).elim (fun e => D.Tf2 (by simp [e])) fun e => e hnT, fun hm => (q2 i1 hm).elim (fun e => D.sep1_2 (by simp [e])) fun e => e hn1,
      fun hm => (q1 i2 hm).elim (fun e => D.sep2_1 (by simp [e])) fun e => e hn2⟩
    have hzl : z < s.heap.objs.size := Heap.lt_size hz
    refine wpAny_pyNext_zipD2_item S2 D1 D2 hz hTI hTO st1 st2 (by omega) (by omega) fun u u2 h' tk p1 p2 z' TO' st1' st2' hT hsz hk => ?_
    obtain ⟨x, hx, ru⟩ := g1 i u p1
    obtain ⟨y, hy, ru2⟩ := g2 i u2 p2
    refine ⟨_, rfl, wpAny_letOwnedTupleGo_zip (s := { s with heap := h', toks := tk }) z' fun h'' z'' sb => ?_⟩
    have hT2 : h''.get? s.heap.objs.size = some { cls := .type "tuple", data := .seq #[u, u2] } := (sb.2 _ (Nat.ne_of_gt hzl)).trans hT
    have new : ObjOk X.prog X.w (upd H s.heap.objs.size (.tup [x, y])) h'' s.heap.objs.size (.tup [x, y]) :=
      ⟨by show 2 ≤ sizeLine; decide, [u, u2], .cons ru (.cons ru2 .nil), ⟨_, hT2, rfl, _, rfl⟩⟩
    have I1 : Inv X pins σ (upd H s.heap.objs.size (.tup [x, y])) { s with heap := h'', toks := tk } :=
      I.turnedNew (t' := tk) (ch := [z, TI, TO, i1, i2]) (fun c o hb q => (sb.2 c (fun e => hb (by simp [e]))).trans (hk c o (fun e => hb (by simp [e])) (fun e => hb (by simp [e])) (fun e => hb (by simp [e])) (fun e => hb (by simp [e])) q)) hf (Nat.le_refl _) new
    refine ⟨.ref s.heap.objs.size, _, I1, rfl, ⟨_, x, y, rfl, I.hok.fresh (Nat.le_refl _), rfl, hx, hy⟩, ⟨z'', ?_, ⟨u, u2, ?_⟩, ?_, ?_⟩, fun c hcm => ?_⟩
    · exact (sb.2 _ D.TIz).trans (hk _ _ D.TIz D.TITO D.TIi1 D.TIi2 hTI)
    · exact (sb.2 _ D.TOz).trans TO'
    · exact Sk.sit_keep (e1 _ _ st1') fun o q => (sb.2 _ (fun e => S2.zi1 e.symm)).trans q
    · exact Sk.sit_keep (e2 _ _ st2') fun o q => (sb.2 _ (fun e => S2.zi2 e.symm)).trans q
    · have hlt : c < s.heap.objs.size := by
        simp only [List.mem_cons, List.not_mem_nil, or_false] at hcm
        rcases hcm with q | q | q | q | q
        · rw [q]; exact hzl
        · rw [q]; exact Heap.lt_size hTI
        · rw [q]; exact Heap.lt_size hTO
        · rw [q]; obtain ⟨_, e, _⟩ := Sk.obj h1; exact Heap.lt_size e
        · rw [q]; obtain ⟨_, e, _⟩ := Sk.obj h2; exact Heap.lt_size e
      rw [upd_ne (Nat.ne_of_lt hlt)]
      exact (hf c hcm).1
  done := by
    intro X hP hw hK hc i pins s σ H E I hf st hg
    subst hP hw hK
    obtain ⟨hz, hTI, ⟨x0, y0, hTO⟩, h1, h2⟩ := st
    obtain ⟨ok1, ok2, hend⟩ := hg
    have hin : X.A.in1.handled = none := I.ok.hd hc
    obtain ⟨fp1, P1, St1, D1, st1, g1, e1, m1, q1⟩ := Sk.draws I hin ok1 h1 (hf i1 (by simp)).1
    obtain ⟨fp2, P2, St2, D2, st2, g2, e2, m2, q2⟩ := Sk.draws I hin ok2 h2 (hf i2 (by simp)).1
    have hnz : H z = none := (hf z (by simp)).1
    have hnT : H TO = none := (hf TO (by simp)).1
    have hn1 : H i1 = none := (hf i1 (by simp)).1
    have hn2 : H i2 = none := (hf i2 (by simp)).1
    have S2 : ZipSep2 z TI TO i1 i2 fp1 fp2 := ⟨D.TIz, D.TOz, D.TITO, D.TIi1, m1, fun hm => (q1 z hm).elim (fun e => D.zf1 (by simp [e])) fun e => e hnz,
      fun hm => (q1 TO hm).elim (fun e => D.Tf1 (by simp [e])) fun e => e hnT, D.TIi2, m2, fun hm => (q2 z hm).elim (fun e => D.zf2 (by simp [e])) fun e => e hnz,
      fun hm => (q2 TO hm).elim (fun e => D.Tf2 (by simp [e])) fun e => e hnT, fun hm => (q2 i1 hm).elim (fun e => D.sep1_2 (by simp [e])) fun e => e hn1,
      fun hm => (q1 i2 hm).elim (fun e => D.sep2_1 (by simp [e])) fun e => e hn2⟩
    refine wpAny_pyNext_zipD2_end S2 D1 D2 hz hTI hTO st1 st2 (by omega) (by omega) (by omega) fun h' tk hk => ⟨rfl, ?_⟩
    exact I.turnedL (t' := tk) (ch := [z, TI, TO, i1, i2]) (fun c o hb q => hk c o (fun e => hb (by simp [e])) (fun e => hb (by simp [e])) (fun e => hb (by simp [e])) (fun e => hb (by simp [e])) q) hf
  self := fun A i s Q E st h => wpAny_pyIter_zip st.1 h
def iZ (ta : TA) : TI := fun σ H R => ta σ H fun vs H1 => ∃ k1 k2 : Sk, vs = [k1.val, k2.val] ∧ k1.ok H1 ∧ k2.ok H1 ∧ R (ItZ k1 k2) H1
theorem pi_Z {X : Cx} {e e2 : Expr} {ta : TA} {p pos tpos : Pos} {elts : List Expr} {kk : Nat} (hg : Gl X "zip") (hm : X.mg "zip" = none) (hs : notStar e = true) (hs2 : notStar e2 = true) (ha : PA X [e, e2] ta) :
    PI X (.Tuple elts kk tpos) (.Call (.Name "zip" p) [e, e2] [] pos) (iZ ta) := by
  refine ⟨fun pins s σ H R I h => ?_⟩
  refine Call_ (ld_blt I hg hm boot_zip (callWith_type1 (thn (ha.run pos pins s σ H _ I h) fun us s1 ⟨vs, H1, I1, r1, q1⟩ => ?_) (star_cons hs) (star_plain (by simp [hs2]))))
  obtain ⟨k1, k2, ex, ok1, ok2, q⟩ := q1
  subst ex
  obtain ⟨u1, u2, eu, ru1, ru2⟩ := vals2 r1
  subst eu
  obtain ⟨o1, Hb1, B1, b1, f1⟩ := Sk.begins I1 ok1 ru1
  obtain ⟨o2, Hb2, B2, b2, f2⟩ := Sk.begins I1 ok2 ru2
  refine zip_begins2 B1 B2 b1 b2 fun h' hz hTI hTO h1 h2 hsz hk => wpAny_pyIter_zip hz ?_
  have I2 : Inv X pins σ H1 { s1 with heap := h' } := I1.kept (t' := s1.toks) hk
  refine ⟨s1.heap.objs.size + 4, [s1.heap.objs.size + 4, s1.heap.objs.size + 2, s1.heap.objs.size + 3, s1.heap.objs.size, s1.heap.objs.size + 1], _, _, H1, rfl, I2, turn_Z (k1 := k1) (k2 := k2) (zip_sep2 (fp1 := []) (fp2 := []) (by simp) (by simp)),
    ⟨hz, hTI, ⟨_, _, hTO⟩, Sk.sit0 f1 h1, Sk.sit0 f2 h2⟩, fun c hcm => ?_, q⟩
  have hle : s1.heap.objs.size ≤ c := by
    simp only [List.mem_cons, List.not_mem_nil, or_false] at hcm
    rcases hcm with z | z | z | z | z
    · rw [z]; exact Nat.le_add_right _ _
    · rw [z]; exact Nat.le_add_right _ _
    · rw [z]; exact Nat.le_add_right _ _
    · rw [z]; exact Nat.le_refl _
    · rw [z]; exact Nat.le_add_right _ _
  exact I1.fpOk hle (I1.hok.fresh hle)

/-! ### enumerate -/
def ItE (k : Sk) : It :=
  ⟨fun i H => k.ok H ∧ i < k.items.length, fun i H v H' => ∃ T x, v = .ref T ∧ H T = none ∧ H' = upd H T (.tup [.int (i : Nat), x]) ∧ k.items[i]? = some x, fun i H => k.ok H ∧ i = k.items.length⟩
theorem turn_E {P : Program} {w : World} {K : PySem.W.Frag} {elts : List Expr} {kk : Nat} {tpos : Pos} {k : Sk} (e it : Addr) :
    Turn P w K (.Tuple elts kk tpos) (ItE k) [e, it] e (fun i h => (∃ old, IsEnum h e it ((i : Nat) : Int) old) ∧ k.sit it i h ∧ e ≠ it) where
  mem := by simp
  obj := fun i h st b hb => by
    obtain ⟨⟨old, he⟩, hs, _⟩ := st
    simp only [List.mem_cons, List.not_mem_nil, or_false] at hb
    rcases hb with z | z
    · rw [z]; exact ⟨_, he, fun v q => nomatch q⟩
    · rw [z]; exact Sk.obj hs
  keep := fun i h h' st q => let ⟨⟨old, he⟩, hi, hne⟩ := st; ⟨⟨old, q e (by simp) _ he⟩, Sk.sit_keep hi fun o z => q it (by simp) o z, hne⟩
  item := by
    intro X hP hw hK hc i pins s σ H E I hf st hg
    subst hP hw hK
    obtain ⟨⟨old, he⟩, hit, hne⟩ := st
    obtain ⟨ok, hlt⟩ := hg
    have hin : X.A.in1.handled = none := I.ok.hd hc
    obtain ⟨fp, P1, St1, D1, st1, g1, e1, m1, q1⟩ := Sk.draws I hin ok hit (hf it (by simp)).1
    have hnz : H e = none := (hf e (by simp)).1
    have hef : e ∉ fp := fun hm => (q1 e hm).elim (fun z => hne z) fun z => z hnz
    have hel : e < s.heap.objs.size := Heap.lt_size he
    have hil : it < s.heap.objs.size := by obtain ⟨_, q, _⟩ := Sk.obj hit; exact Heap.lt_size q
    refine wpAny_pyNext_enum_itemD D1 he st1 hlt hne hef fun u h' tk p1 ho st1' hT hsz hk => ?_
    obtain ⟨x, hx, ru⟩ := g1 i u p1
    refine ⟨_, rfl, wpAny_letOwnedTupleGo_enum (s := { s with heap := h', toks := tk + 1 }) ho fun h'' he' sb => ?_⟩
    have hT2 : h''.get? s.heap.objs.size = some { cls := .type "tuple", data := .seq #[.int i tk, u] } := (sb.2 _ (Nat.ne_of_gt hel)).trans hT
    have new : ObjOk X.prog X.w (upd H s.heap.objs.size (.tup [.int (i : Nat), x])) h'' s.heap.objs.size (.tup [.int (i : Nat), x]) :=
      ⟨by show 2 ≤ sizeLine; decide, [.int i tk, u], .cons ⟨_, rfl⟩ (.cons ru .nil), ⟨_, hT2, rfl, _, rfl⟩⟩
    have I1 : Inv X pins σ (upd H s.heap.objs.size (.tup [.int (i : Nat), x])) { s with heap := h'', toks := tk + 1 } :=
      I.turnedNew (t' := tk + 1) (ch := [e, it]) (fun b ob hb q => (sb.2 b (fun z => hb (by simp [z]))).trans (hk b ob (fun z => hb (by simp [z])) (fun z => hb (by simp [z])) q)) hf (Nat.le_refl _) new
    refine ⟨.ref s.heap.objs.size, _, I1, rfl, ⟨_, x, rfl, I.hok.fresh (Nat.le_refl _), rfl, hx⟩, ⟨⟨u, ?_⟩, Sk.sit_keep (e1 _ _ st1') fun o q => (sb.2 it (Ne.symm hne)).trans q, hne⟩, fun b hb => ?_⟩
    · have e1 : ((i + 1 : Nat) : Int) = (i : Int) + 1 := by omega
      rw [e1]; exact he'
    · have hb' : b < s.heap.objs.size := by
        simp only [List.mem_cons, List.not_mem_nil, or_false] at hb
        rcases hb with z | z
        · rw [z]; exact hel
        · rw [z]; exact hil
      rw [upd_ne (Nat.ne_of_lt hb')]
      exact (hf b hb).1
  done := by
    intro X hP hw hK hc i pins s σ H E I hf st hg
    subst hP hw hK
    obtain ⟨⟨old, he⟩, hit, hne⟩ := st
    obtain ⟨ok, hend⟩ := hg
    have hin : X.A.in1.handled = none := I.ok.hd hc
    obtain ⟨fp, P1, St1, D1, st1, g1, e1, m1, q1⟩ := Sk.draws I hin ok hit (hf it (by simp)).1
    obtain ⟨f0, f1, f2, f3, f4, f5⟩ := hf it (by simp)
    rw [hend] at st1
    exact wpAny_pyNext_enum_endD D1 he st1 fun h' eb => ⟨rfl, I.turned (t' := s.toks) (fun b o hb q => eb b o hb q) f0 f1 f3 f4 f5⟩
  self := fun A i s Q E st h => let ⟨⟨_, he⟩, _⟩ := st; wpAny_pyIter_enum he h
def iE (ta : TA) : TI := fun σ H R => ta σ H fun vs H1 => ∃ k : Sk, vs = [k.val] ∧ k.ok H1 ∧ (∀ p us, k ≠ .T p us) ∧ R (ItE k) H1
theorem pi_E {X : Cx} {e : Expr} {ta : TA} {p pos tpos : Pos} {elts : List Expr} {kk : Nat} (hg : Gl X "enumerate") (hm : X.mg "enumerate" = none) (hs : notStar e = true) (ha : PA X [e] ta) :
    PI X (.Tuple elts kk tpos) (.Call (.Name "enumerate" p) [e] [] pos) (iE ta) := by
  refine ⟨fun pins s σ H R I h => ?_⟩
  refine Call_ (ld_blt I hg hm boot_enumerate (callWith_type1 (thn (ha.run pos pins s σ H _ I h) fun us s1 ⟨vs, H1, I1, r1, q1⟩ => ?_) (star_cons hs) rfl))
  obtain ⟨k, ex, ok, nt, q⟩ := q1
  subst ex
  obtain ⟨u, eu, ru⟩ := vals1 r1
  subst eu
  have fin : ∀ (h' : Heap), IsEnum h' (s1.heap.objs.size + 1) s1.heap.objs.size 0 .none → k.sit s1.heap.objs.size 0 h' → (∀ b o, s1.heap.get? b = some o → h'.get? b = some o) →
      PIE X pins σ (.Tuple elts kk tpos) R (.ref (s1.heap.objs.size + 1)) { s1 with heap := h' } := fun h' he hit hk => by
    have I2 : Inv X pins σ H1 { s1 with heap := h' } := I1.kept (t' := s1.toks) hk
    refine ⟨s1.heap.objs.size + 1, [s1.heap.objs.size + 1, s1.heap.objs.size], _, _, H1, rfl, I2, turn_E (k := k) (s1.heap.objs.size + 1) s1.heap.objs.size, ⟨⟨.none, he⟩, hit, Nat.succ_ne_self _⟩, fun b hb => ?_, q⟩
    have hle : s1.heap.objs.size ≤ b := by
      simp only [List.mem_cons, List.not_mem_nil, or_false] at hb
      rcases hb with z | z
      · rw [z]; exact Nat.le_add_right _ _
      · rw [z]; exact Nat.le_refl _
    exact I1.fpOk hle (I1.hok.fresh hle)
  cases k with
  | L a us =>
    obtain ⟨its, rv, pl, hz⟩ := I1.list (Rd.sq ok)
    cases (show u = Value.ref a from ru)
    exact call_enumerate_list pl.isList fun h' he hit hsz hk => wpAny_pyIter_enum he (fin h' he hit hk)
  | T a us => exact absurd rfl (nt a us)
  | Z z =>
    obtain ⟨t, rfl⟩ := ru
    exact call_enumerate_str fun h' he hit hsz hk => wpAny_pyIter_enum he (fin h' he ⟨t, hit⟩ hk)
end Cw

end
section
set_option Elab.async false
set_option linter.all false
set_option maxRecDepth 100000
/-! Cw1g: walks of the small language -/
namespace Cw
open PySem PySem.Spec PyProof.Rows L2

/-- what a turn gives -/
def Yd (S : Kn) (C : List Addr) (ws : List W) : Nat → Hp → V → Hp → Prop := fun i H x H' => ∃ w, ws[i]? = some w ∧
  ((H' = H ∧ Rep S C w x) ∨ ∃ T ws1 xs1, w = .tup ws1 ∧ x = .ref T ∧ H T = none ∧ H' = upd H T (.tup xs1) ∧ Reps S C ws1 xs1)
/-- the iterator walks ws while the facts stand -/
def Gv (S : Kn) (Fx : Addr → HO → Prop) (C : List Addr) (J : L2.It) (ws : List W) : Prop := Walk J ws.length (fun H => ∀ a u, Fx a u → Rd H a u) (Yd S C ws)
structure FxOk (st : Bool) (S : Kn) (C : List Addr) (H : Hp) (Fx : Addr → HO → Prop) : Prop where
  le : ∀ a u, S a = some u → Fx a u
  on : ∀ a u, Fx a u → Rd H a u ∧ a ∉ C
  lp : st = true → ∀ a u, Fx a u → S a = some u
def TIx (m : Slots → M (List W)) (st : Bool) : TI := fun σ H R => ∃ S C sl c, Rel S C sl c σ H ∧ Okr (m sl c) fun ws c' =>
  ∀ S' H' Fx J, Post S C H S' H' → CellsOk S' C c' H' → FxOk st S' C H' Fx → Gv S' Fx C J ws → R J H'

theorem _root_.L2.PI.cases {X : Cx} {tg e : Expr} {t : TI} (h : ∀ σ H R, t σ H R → ∃ t', PI X tg e t' ∧ t' σ H R) : PI X tg e t :=
  ⟨fun pins s σ H Q I q => let ⟨_, p, q'⟩ := h σ H Q q; p.run pins s σ H Q I q'⟩
theorem _root_.L2.PI.imp {X : Cx} {tg e : Expr} {t t' : TI} (p : PI X tg e t) (h : ∀ σ H R, t' σ H R → t σ H R) : PI X tg e t' := ⟨fun pins s σ H Q I q => p.run pins s σ H Q I (h σ H Q q)⟩

/-- a value to be walked -/
def SrcV (S : Kn) (Fx : Addr → HO → Prop) (C : List Addr) (ws : List W) (k : Sk) : Prop := Reps S C ws k.items ∧ match k with
  | .L p us => Fx p (.lst us)
  | .T p us => Fx p (.tup us)
  | .Z _ => True
theorem SrcV.ok {S : Kn} {Fx : Addr → HO → Prop} {C : List Addr} {ws : List W} {k : Sk} {H : Hp} (s : SrcV S Fx C ws k) (h : ∀ a u, Fx a u → Rd H a u) : k.ok H := by
  obtain ⟨_, s⟩ := s
  cases k with
  | L p us => exact h _ _ s
  | T p us => exact h _ _ s
  | Z _ => trivial
theorem SrcV.mono {S S' : Kn} {Fx Fx' : Addr → HO → Prop} {C : List Addr} {ws : List W} {k : Sk} (s : SrcV S Fx C ws k) (h : Le S S') (hf : ∀ a u, Fx a u → Fx' a u) : SrcV S' Fx' C ws k := by
  obtain ⟨r, s⟩ := s
  refine ⟨r.le h, ?_⟩
  cases k with
  | L p us => exact hf _ _ s
  | T p us => exact hf _ _ s
  | Z _ => trivial
theorem reps_chars {S : Kn} {C : List Addr} : ∀ (z : List Nat), Reps S C (z.map fun c => .str [c]) (z.map fun c => V.str (toS [c]))
  | [] => Reps.nil
  | c :: z => Reps.cons rfl (reps_chars z)
/-- the source that a value is -/
theorem src_of {S S1 : Kn} {C : List Addr} {c1 : Cells} {H H1 : Hp} {v : Val} {x : V} {st : Bool} {ws : List W} (P : Post S C H S1 H1) (k : CellsOk S1 C c1 H1) (r : VR S1 C H H1 v x)
    (e : (if st = true then v.keep.bind W.items else v.get.items) = some ws) :
    ∃ S2 Fx q, Post S C H S2 H1 ∧ CellsOk S2 C c1 H1 ∧ Le S1 S2 ∧ FxOk st S2 C H1 Fx ∧ x = q.val ∧ SrcV S2 Fx C ws q := by
  have kn : ∀ {S2 : Kn}, Post S C H S2 H1 → CellsOk S2 C c1 H1 → FxOk st S2 C H1 fun a u => S2 a = some u := fun {S2} P2 k2 =>
    ⟨fun a u h => h, fun a u h => ⟨P2.sub a u h, fun hm => by have := k2.off a hm; rw [this] at h; cases h⟩, fun _ a u h => h⟩
  have main : ∀ {S2 : Kn} {w : W}, Post S C H S2 H1 → CellsOk S2 C c1 H1 → Le S1 S2 → Rep S2 C w x → w.items = some ws →
      ∃ S2 Fx q, Post S C H S2 H1 ∧ CellsOk S2 C c1 H1 ∧ Le S1 S2 ∧ FxOk st S2 C H1 Fx ∧ x = q.val ∧ SrcV S2 Fx C ws q := fun {S2 w} P2 k2 le rp e2 => by
    cases w with
    | str s =>
      cases e2
      exact ⟨S2, _, .Z s, P2, k2, le, kn P2 k2, rp, reps_chars s, trivial⟩
    | tup xs =>
      cases e2
      obtain ⟨a, us, e3, h3, r3⟩ := rp
      exact ⟨S2, _, .T a us, P2, k2, le, kn P2 k2, e3, r3, h3⟩
    | lst xs =>
      cases e2
      obtain ⟨a, us, e3, h3, r3⟩ := rp
      exact ⟨S2, _, .L a us, P2, k2, le, kn P2 k2, e3, r3, h3⟩
    | dct _ _ => cases e2
    | non => cases e2
    | bl _ => cases e2
    | int _ => cases e2
    | cel _ => cases e2
  cases v with
  | w w =>
    have e2 : w.items = some ws := by
      cases st <;> exact e
    exact main P k (Le.refl _) r e2
  | own w =>
    have e2 : w.items = some ws := by
      cases st <;> exact e
    obtain ⟨S2, P2, k2, rp, le⟩ := VR.keep P k r (w := w) rfl
    exact main P2 k2 le rp e2
  | bor w =>
    cases st with
    | true => cases e
    | false =>
      have e2 : w.items = some ws := e
      obtain ⟨p, o, py, ex, hp, nc⟩ := r
      cases w <;> first | exact py.elim | skip
      case dct => cases e2
      obtain ⟨us, rfl, rr⟩ := py
      cases e2
      refine ⟨S1, fun a u => S1 a = some u ∨ (a = p ∧ u = .lst us), .L p us, P, k, Le.refl _, ⟨fun a u h => .inl h, fun a u h => ?_, fun z => by cases z⟩, ex, rr, .inr ⟨rfl, rfl⟩⟩
      rcases h with h | ⟨h1, h2⟩
      · exact (kn P k).on a u h
      · subst h1 h2; exact ⟨.inl hp, nc⟩
section
variable {X : Cx} {a b d : Expr} {ma mb md : Slots → M Val} {pos : Pos} {tg : Expr} {st : Bool}
theorem walk_src {S : Kn} {Fx : Addr → HO → Prop} {C : List Addr} {ws : List W} {K : PySem.W.Frag} {p : Addr} {us : List V} (r : Reps S C ws us) (f : Fx p (.lst us)) : Gv S Fx C (Itl K p) ws := by
  have w := walk_list (K := K) (a := p) (xs := us)
  rw [r.length] at w
  refine w.mono (fun H h => Rd.sq (h _ _ f)) fun i H x H' hi _ y => ?_
  obtain ⟨e, hx⟩ := y
  subst e
  obtain ⟨v, hv, rv⟩ := r.get (List.getElem?_eq_getElem hi)
  rw [hx] at hv
  cases hv
  exact ⟨_, List.getElem?_eq_getElem hi, .inl ⟨rfl, rv⟩⟩
theorem walk_srcT {S : Kn} {Fx : Addr → HO → Prop} {C : List Addr} {ws : List W} {K : PySem.W.Frag} {p : Addr} {us : List V} (r : Reps S C ws us) (f : Fx p (.tup us)) : Gv S Fx C (Itt K p) ws := by
  have w := walk_tup (K := K) (a := p) (xs := us)
  rw [r.length] at w
  refine w.mono (fun H h => Rd.sqT (h _ _ f)) fun i H x H' hi _ y => ?_
  obtain ⟨e, hx⟩ := y
  subst e
  obtain ⟨v, hv, rv⟩ := r.get (List.getElem?_eq_getElem hi)
  rw [hx] at hv
  cases hv
  exact ⟨_, List.getElem?_eq_getElem hi, .inl ⟨rfl, rv⟩⟩
theorem walk_srcZ {S : Kn} {Fx : Addr → HO → Prop} {C : List Addr} {z : List Nat} : Gv S Fx C (Its (toS z)) (z.map fun c => .str [c]) := by
  have w := walk_str (z := toS z)
  have e : (toS z).cps.size = (z.map fun c => W.str [c]).length := by simp [toS]
  rw [e] at w
  refine w.mono (fun H h => trivial) fun i H x H' hi _ y => ?_
  obtain ⟨e, c, hc, hx⟩ := y
  subst e hx
  have hc : z[i]? = some c := by simpa [toS] using hc
  exact ⟨.str [c], by simp [hc], .inl ⟨rfl, rfl⟩⟩
theorem okr_items {st : Bool} {v : Val} {c : Cells} {Q : List W → Cells → Prop} (h : Okr (itemsM st v c) Q) : ∃ ws, (if st = true then v.keep.bind W.items else v.get.items) = some ws ∧ Q ws c := by
  unfold itemsM at h
  cases st with
  | true => exact okr_lift.mp h
  | false => exact okr_lift.mp h
theorem snd_seq (ha : PE X a (TX ma)) : PI X tg a (TIx (fun sl => ma sl >>= itemsM st) st) := by
  refine PI.cases fun σ H R ⟨S, C, sl, c, RR, h⟩ => ?_
  obtain ⟨v, c1, e1, h1⟩ := (okr_bnd.mp h).get
  obtain ⟨ws, e2, h2⟩ := okr_items h1
  have gen : ∀ (q : V → Hp → Prop), (∀ S1 H1 x, Post S C H S1 H1 → CellsOk S1 C c1 H1 → VR S1 C H H1 v x → q x H1) → TX ma σ H q := fun q hq =>
    ⟨S, C, sl, c, RR, by rw [e1]; exact fun S1 H1 x P1 k1 r1 => hq S1 H1 x P1 k1 r1⟩
  -- by its kind
  have kind : ∀ {S1 : Kn} {H1 : Hp} {x : V}, Post S C H S1 H1 → CellsOk S1 C c1 H1 → VR S1 C H H1 v x → ∃ S2 Fx q, x = Sk.val q ∧ SrcV S2 Fx C ws q ∧ (∀ a u, Fx a u → Rd H1 a u) ∧ ∀ J, Gv S2 Fx C J ws → R J H1 := fun {S1 H1 x} P1 k1 r1 => by
    obtain ⟨S2, Fx, q, P2, k2, le, fx, ex, s⟩ := src_of P1 k1 r1 e2
    exact ⟨S2, Fx, q, ex, s, fun a u hf => (fx.on a u hf).1, fun J g => h2 S2 H1 Fx J P2 k2 fx g⟩
  have w0 : ∃ w, v.get = w ∧ w.items = some ws := by
    cases v <;> cases st <;> first | exact ⟨_, rfl, e2⟩ | (cases e2; done)
  obtain ⟨w, ew, ei⟩ := w0
  cases w with
  | lst xs =>
    refine ⟨_, pi_list ha, gen _ fun S1 H1 x P1 k1 r1 => ?_⟩
    obtain ⟨S2, Fx, q, ex, s, hf, g⟩ := kind P1 k1 r1
    have l := r1.lk
    rw [ew] at l
    obtain ⟨p, us, exp, rp, _⟩ := l.lst ⟨P1.sub, k1⟩
    cases q with
    | L p' us' => exact ⟨p', ex, ⟨us', Rd.sq (hf _ _ s.2)⟩, g _ (walk_src s.1 s.2)⟩
    | T p' us' =>
      rw [exp] at ex
      have ep : p = p' := V.ref.inj ex
      subst ep
      have r2 := hf _ _ s.2
      rcases rp with rp | ⟨o, rp⟩ <;> rcases r2 with r2 | ⟨o2, r2⟩ <;> rw [rp] at r2 <;> cases r2
    | Z z => rw [exp] at ex; cases ex
  | tup xs =>
    refine ⟨_, pi_tup ha, gen _ fun S1 H1 x P1 k1 r1 => ?_⟩
    obtain ⟨S2, Fx, q, ex, s, hf, g⟩ := kind P1 k1 r1
    have l := r1.lk
    rw [ew] at l
    obtain ⟨p, us, exp, rp, _⟩ := l.tup ⟨P1.sub, k1⟩
    cases q with
    | T p' us' => exact ⟨p', ex, ⟨us', Rd.sqT (hf _ _ s.2)⟩, g _ (walk_srcT s.1 s.2)⟩
    | L p' us' =>
      rw [exp] at ex
      have ep : p = p' := V.ref.inj ex
      subst ep
      have r2 := hf _ _ s.2
      rcases rp with rp | ⟨o, rp⟩ <;> rcases r2 with r2 | ⟨o2, r2⟩ <;> rw [rp] at r2 <;> cases r2
    | Z z => rw [exp] at ex; cases ex
  | str z =>
    refine ⟨_, pi_str ha, gen _ fun S1 H1 x P1 k1 r1 => ?_⟩
    obtain ⟨S2, Fx, q, ex, s, hf, g⟩ := kind P1 k1 r1
    have l := r1.lk
    rw [ew] at l
    cases ei
    exact ⟨toS z, l.str, g _ walk_srcZ⟩
  | dct ks vs =>
    cases ei
  | non => cases ei
  | bl _ => cases ei
  | int _ => cases ei
  | cel _ => cases ei
theorem bound62_of {i : Int} (h : bound62 i = true) : -(2 ^ 62) ≤ i ∧ i < 2 ^ 62 := by
  have h : i.natAbs.log2 < 61 := of_decide_eq_true h
  by_cases h0 : i.natAbs = 0
  · omega
  · have := (Nat.log2_lt h0).mp h
    omega
theorem rangeW_len : ∀ (lo c : Int) (n : Nat), (rangeW lo c n).length = n
  | _, _, 0 => rfl
  | lo, c, n + 1 => by
    unfold rangeW
    rw [List.length_cons, rangeW_len]
theorem rangeW_get : ∀ (lo c : Int) (n i : Nat), i < n → (rangeW lo c n)[i]? = some (.int (lo + (i : Int) * c))
  | _, _, 0, _, h => by omega
  | lo, c, n + 1, 0, _ => by simp [rangeW]
  | lo, c, n + 1, i + 1, h => by
    unfold rangeW
    rw [List.getElem?_cons_succ, rangeW_get (lo + c) c n i (by omega)]
    congr 2
    rw [Int.add_assoc]
    congr 1
    have : ((i + 1 : Nat) : Int) * c = c + (i : Int) * c := by
      rw [Int.natCast_add, Int.add_mul, Int.add_comm]
      simp
    exact this.symm
theorem walk_rng {S : Kn} {Fx : Addr → HO → Prop} {C : List Addr} {lo : Int} {n : Nat} : Gv S Fx C (Itr lo n) (rangeW lo 1 n) := by
  have w := walk_range (lo := lo) (n := n)
  unfold Gv
  rw [rangeW_len]
  refine w.mono (fun H h => trivial) fun i H x H' hi _ y => ?_
  obtain ⟨e, hx⟩ := y
  subst e hx
  exact ⟨.int (lo + (i : Int)), by rw [rangeW_get _ _ _ _ hi]; simp, .inl ⟨rfl, rfl⟩⟩
theorem fx_kn {S : Kn} {C : List Addr} {c : Cells} {H : Hp} (B : Bs S C c H) : FxOk st S C H fun a u => S a = some u :=
  ⟨fun a u h => h, fun a u h => ⟨B.sub a u h, fun hm => by have := B.cells.off a hm; rw [this] at h; cases h⟩, fun _ a u h => h⟩
theorem get_int {v : Val} {S : Kn} {C : List Addr} {H0 H : Hp} {x : V} {i : Int} (r : VR S C H0 H v x) (e : v.get.int? = some i) : x = .int i := by
  have l := r.lk
  cases hv : v.get with
  | int j =>
    rw [hv] at l e
    cases e
    exact l.int
  | _ => rw [hv] at e; cases e
theorem snd_rng1 {p : Pos} (hg : Gl X "range") (hm : X.mg "range" = none) (hs : notStar a = true) (ha : PE X a (TX ma)) :
    PI X tg (.Call (.Name "range" p) [a] [] pos) (TIx (fun sl => ma sl >>= fun x => M.lift x.get.int? >>= fun i => if bound62 i = true then pure (rangeW 0 1 i.toNat) else M.no) st) := by
  refine (pi_range1 hg hm (pa_cons ha pa_nil (star_cons hs)) (star_cons hs)).imp fun σ H R ⟨S, C, sl, c, RR, h⟩ => ?_
  refine ⟨S, C, sl, c, RR, (okr_bnd.mp h).imp fun v c1 h1 S1 H1 x P1 k1 r1 => ?_⟩
  obtain ⟨i, e, h2⟩ := okr_lift.mp (okr_bnd.mp h1)
  rcases okr_if h2 with ⟨hb, h2⟩ | ⟨_, h2⟩
  · have hb' := bound62_of hb
    rw [get_int r1 e]
    exact ⟨i, rfl, hb'.1, hb'.2, okr_ret.mp h2 S1 H1 _ _ P1 k1 (fx_kn ⟨P1.sub, k1⟩) walk_rng⟩
  · exact h2.elim
theorem snd_rng2 {p : Pos} (hg : Gl X "range") (hm : X.mg "range" = none) (hs : notStar a = true) (hs2 : notStar b = true) (ha : PE X a (TX ma)) (hb : PE X b (TX mb)) :
    PI X tg (.Call (.Name "range" p) [a, b] [] pos) (TIx (fun sl => ma sl >>= fun x => mb sl >>= fun y => M.lift x.get.int? >>= fun i => M.lift y.get.int? >>= fun j =>
      if (bound62 i && bound62 j) = true then pure (rangeW i 1 (j - i).toNat) else M.no) st) := by
  refine (pi_range2 hg hm (pa_cons ha (pa_cons hb pa_nil (star_cons hs2)) (star_cons hs)) (by rw [star_cons hs, star_cons hs2]; rfl) (star_cons hs2)).imp fun σ H R ⟨S, C, sl, c, RR, h⟩ => ?_
  refine ⟨S, C, sl, c, RR, (okr_bnd.mp h).imp fun v c1 h1 S1 H1 x P1 k1 r1 => ?_⟩
  refine ⟨S1, C, sl, c1, RR.next P1 k1, (okr_bnd.mp h1).imp fun v2 c2 h2 S2 H2 y P2 k2 r2 => ?_⟩
  obtain ⟨i, e, h3⟩ := okr_lift.mp (okr_bnd.mp h2)
  obtain ⟨j, e', h4⟩ := okr_lift.mp (okr_bnd.mp h3)
  rcases okr_if h4 with ⟨hb, h4⟩ | ⟨_, h4⟩
  · simp only [Bool.and_eq_true] at hb
    have b1 := bound62_of hb.1
    have b2 := bound62_of hb.2
    rw [get_int r1 e, get_int r2 e']
    exact ⟨i, j, rfl, ⟨b1.1, b1.2, b2.1, b2.2⟩, okr_ret.mp h4 S2 H2 _ _ (P1.trans P2) k2 (fx_kn ⟨P2.sub, k2⟩) walk_rng⟩
  · exact h4.elim
theorem enumW_len : ∀ (n : Nat) (xs : List W), (enumW n xs).length = xs.length
  | _, [] => rfl
  | n, x :: r => by unfold enumW; rw [List.length_cons, List.length_cons, enumW_len]
theorem enumW_get : ∀ (n : Nat) (xs : List W) (i : Nat) (x : W), xs[i]? = some x → (enumW n xs)[i]? = some (.tup [.int ((n + i : Nat) : Int), x])
  | _, [], _, _, h => by simp at h
  | n, y :: r, 0, x, h => by
    simp at h
    subst h
    simp [enumW]
  | n, y :: r, i + 1, x, h => by
    unfold enumW
    rw [List.getElem?_cons_succ, enumW_get (n + 1) r i x (by simpa using h)]
    rw [show n + 1 + i = n + (i + 1) by omega]
theorem snd_enum {p tpos : Pos} {elts : List Expr} {kk : Nat} (hg : Gl X "enumerate") (hm : X.mg "enumerate" = none) (hs : notStar a = true) (ha : PE X a (TX ma)) :
    PI X (.Tuple elts kk tpos) (.Call (.Name "enumerate" p) [a] [] pos) (TIx (fun sl => ma sl >>= fun v => itemsM st v >>= fun xs => if v.get.isTup = true then M.no else pure (enumW 0 xs)) st) := by
  refine (pi_E hg hm hs (pa_cons ha pa_nil (star_cons hs))).imp fun σ H R ⟨S, C, sl, c, RR, h⟩ => ?_
  refine ⟨S, C, sl, c, RR, (okr_bnd.mp h).imp fun v c1 h1 S1 H1 x P1 k1 r1 => ?_⟩
  obtain ⟨ws, e2, h2⟩ := okr_items (okr_bnd.mp h1)
  rcases okr_if h2 with ⟨_, h2⟩ | ⟨nt, h2⟩
  · exact h2.elim
  obtain ⟨S2, Fx, q, P2, k2, le, fx, ex, s⟩ := src_of P1 k1 r1 e2
  refine ⟨q, by rw [ex], s.ok fun a u hf => (fx.on a u hf).1, fun p us eq => ?_, okr_ret.mp h2 S2 H1 Fx _ P2 k2 fx ?_⟩
  · subst eq
    have l := r1.lk
    have r3 := (fx.on _ _ s.2).1
    rw [ex] at l
    cases hv : v.get with
    | tup xs => rw [hv] at nt; exact nt rfl
    | lst xs =>
      rw [hv] at l
      obtain ⟨p2, us2, e3, r4, _⟩ := l.lst ⟨P1.sub, k1⟩
      have ep : p = p2 := V.ref.inj e3
      subst ep
      rcases r3 with r3 | ⟨o, r3⟩ <;> rcases r4 with r4 | ⟨o2, r4⟩ <;> rw [r3] at r4 <;> cases r4
    | str z => rw [hv] at l; have := l.str; cases this
    | dct _ _ => rw [hv] at e2; cases v <;> cases st <;> first | (cases hv; cases e2; done) | (cases e2; done)
    | non => rw [hv] at e2; cases v <;> cases st <;> first | (cases hv; cases e2; done) | (cases e2; done)
    | bl _ => rw [hv] at e2; cases v <;> cases st <;> first | (cases hv; cases e2; done) | (cases e2; done)
    | int _ => rw [hv] at e2; cases v <;> cases st <;> first | (cases hv; cases e2; done) | (cases e2; done)
    | cel _ => rw [hv] at e2; cases v <;> cases st <;> first | (cases hv; cases e2; done) | (cases e2; done)
  · refine ⟨fun i H hi hf => ⟨s.ok hf, ?_⟩, fun H hf => ⟨s.ok hf, ?_⟩, fun i H x H' hi hf y => ?_⟩
    · rw [enumW_len] at hi; rw [s.1.length]; exact hi
    · rw [enumW_len, s.1.length]
    · obtain ⟨T, z, e1, hT, e3, hz⟩ := y
      rw [enumW_len] at hi
      obtain ⟨u, hu, ru⟩ := s.1.get (List.getElem?_eq_getElem hi)
      rw [hz] at hu
      cases hu
      refine ⟨_, enumW_get 0 ws i _ (List.getElem?_eq_getElem hi), .inr ⟨T, _, _, rfl, e1, hT, e3, ?_⟩⟩
      rw [Nat.zero_add]
      exact Reps.cons rfl (Reps.cons ru Reps.nil)
theorem zipW_len (xs ys : List W) : (zipW xs ys).length = min xs.length ys.length := by simp [zipW]
theorem snd_zip {p tpos : Pos} {elts : List Expr} {kk : Nat} (hg : Gl X "zip") (hm : X.mg "zip" = none) (hs : notStar a = true) (hs2 : notStar b = true) (ha : PE X a (TX ma)) (hb : PE X b (TX mb)) :
    PI X (.Tuple elts kk tpos) (.Call (.Name "zip" p) [a, b] [] pos) (TIx (fun sl => ma sl >>= fun x => mb sl >>= fun y => itemsM st x >>= fun xs => itemsM st y >>= fun ys => pure (zipW xs ys)) st) := by
  refine (pi_Z hg hm hs hs2 (pa_cons ha (pa_cons hb pa_nil (star_cons hs2)) (star_cons hs))).imp fun σ H R ⟨S, C, sl, c, RR, h⟩ => ?_
  obtain ⟨v, c1, e1, h1⟩ := (okr_bnd.mp h).get
  obtain ⟨v2, c2, e2, h2⟩ := (okr_bnd.mp h1).get
  obtain ⟨xs, ex, h3⟩ := okr_items (okr_bnd.mp h2)
  obtain ⟨ys, ey, h4⟩ := okr_items (okr_bnd.mp h3)
  refine ⟨S, C, sl, c, RR, ?_⟩
  rw [e1]
  refine fun S1 H1 x P1 k1 r1 => ?_
  obtain ⟨S2, Fx, q, P2, k2, le, fx, exq, s⟩ := src_of P1 k1 r1 ex
  refine ⟨S2, C, sl, c1, RR.next P2 k2, ?_⟩
  rw [e2]
  refine fun S3 H3 y P3 k3 r3 => ?_
  obtain ⟨S4, Fy, q2, P4, k4, le2, fy, eyq, s2⟩ := src_of P3 k3 r3 ey
  have fz : FxOk st S4 C H3 fun a u => Fx a u ∨ Fy a u := by
    refine ⟨fun a u h => .inr (fy.le a u h), fun a u h => ?_, fun z a u h => ?_⟩
    · rcases h with h | h
      · obtain ⟨h1, h2⟩ := fx.on a u h
        refine ⟨?_, h2⟩
        rcases h1 with h1 | ⟨o, h1⟩
        · exact .inl (P3.fr a _ h1 h2)
        · exact .inr ⟨o, P3.fr a _ h1 h2⟩
      · exact fy.on a u h
    · rcases h with h | h
      · exact P4.le a u (fx.lp z a u h)
      · exact fy.lp z a u h
  have s' := s.mono (Fx' := fun a u => Fx a u ∨ Fy a u) P4.le fun a u h => .inl h
  have s2' := s2.mono (Fx' := fun a u => Fx a u ∨ Fy a u) (Le.refl S4) fun a u h => .inr h
  refine ⟨q, q2, by rw [exq, eyq], s'.ok fun a u hf => (fz.on a u hf).1, s2'.ok fun a u hf => (fz.on a u hf).1, okr_ret.mp h4 S4 H3 _ _ (P2.trans P4) k4 fz ?_⟩
  refine ⟨fun i H hi hf => ⟨s'.ok hf, s2'.ok hf, ?_⟩, fun H hf => ⟨s'.ok hf, s2'.ok hf, ?_⟩, fun i H x H' hi hf y => ?_⟩
  · rw [zipW_len] at hi; rw [s'.1.length, s2'.1.length]; exact hi
  · rw [zipW_len, s'.1.length, s2'.1.length]
  · obtain ⟨T, z, z2, e1, hT, e3, hz, hz2⟩ := y
    rw [zipW_len] at hi
    have hi1 : i < xs.length := by omega
    have hi2 : i < ys.length := by omega
    obtain ⟨u, hu, ru⟩ := s'.1.get (List.getElem?_eq_getElem hi1)
    rw [hz] at hu
    cases hu
    obtain ⟨u2, hu2, ru2⟩ := s2'.1.get (List.getElem?_eq_getElem hi2)
    rw [hz2] at hu2
    cases hu2
    refine ⟨.tup [xs[i], ys[i]], ?_, .inr ⟨T, _, _, rfl, e1, hT, e3, Reps.cons ru (Reps.cons ru2 Reps.nil)⟩⟩
    simp [zipW, List.getElem?_zip_eq_some, hi1, hi2]
end
end Cw

end
section
set_option Elab.async false
set_option linter.all false
set_option maxRecDepth 100000
/-! Cw1h: targets, comprehensions -/
namespace Cw
open PySem PySem.Spec PyProof.Rows L2

def rdTgs : List Nat → TGs
  | [] => gNil
  | i :: l => gCons (gName i) (rdTgs l)
def rdTg (K : PySem.W.Frag) : Tg → TG
  | .nm i => gName i
  | .tp l => gTup K l.length (rdTgs l)
def Tg.slots : Tg → List Nat
  | .nm i => [i]
  | .tp l => l
section
variable {S S' : Kn} {C : List Addr} {sl sl' : Slots} {c c' : Cells} {σ : L2.St} {H H' : Hp}
theorem Rel.set (R : Rel S C sl c σ H) {w : W} {x : V} (r : Rep S C w x) (i : Nat) : Rel S C (sl.set i (.val w)) c (σ.set i (some x)) H := by
  refine ⟨R.sub, R.cells, by simp [R.slen], fun j s e => ?_⟩
  by_cases hj : i = j
  · subst hj
    rw [List.getElem?_set] at e
    rw [if_pos rfl] at e
    by_cases hl : i < sl.length
    · rw [if_pos hl] at e
      cases e
      exact ⟨x, by rw [List.getElem?_set, if_pos rfl, if_pos (by rw [R.slen]; exact hl)], r⟩
    · rw [if_neg hl] at e
      cases e
  · rw [List.getElem?_set_ne hj] at e
    have := R.slot j s e
    rw [List.getElem?_set_ne hj]
    exact this
theorem Rel.unset (R : Rel S C sl c σ H) (i : Nat) (x : Option V) : Rel S C (sl.set i .none) c (σ.set i x) H := by
  refine ⟨R.sub, R.cells, by simp [R.slen], fun j s e => ?_⟩
  by_cases hj : i = j
  · subst hj
    rw [List.getElem?_set, if_pos rfl] at e
    by_cases hl : i < sl.length
    · rw [if_pos hl] at e
      cases e
      trivial
    · rw [if_neg hl] at e
      cases e
  · rw [List.getElem?_set_ne hj] at e
    have := R.slot j s e
    rw [List.getElem?_set_ne hj]
    exact this
theorem Rel.wiped (R : Rel S C sl c σ H) : ∀ vs : List Nat, Rel S C (wipeS sl vs) c (wipe σ vs) H
  | [] => R
  | v :: vs => (R.wiped vs).unset v none
theorem wipe_set (y : Option V) : ∀ (vs : List Nat) (σ : L2.St) (i : Nat), i ∈ vs → wipe (σ.set i y) vs = wipe σ vs
  | [], _, _, h => by simp at h
  | v :: vs, σ, i, h => by
    show (wipe (σ.set i y) vs).set v none = (wipe σ vs).set v none
    by_cases hv : v = i
    · subst hv
      have key : ∀ (vs : List Nat) (σ : L2.St), (wipe (σ.set v y) vs).set v none = (wipe σ vs).set v none := by
        intro vs
        induction vs with
        | nil => intro σ; show (σ.set v y).set v none = σ.set v none; rw [List.set_set]
        | cons a vs ih =>
          intro σ
          show ((wipe (σ.set v y) vs).set a none).set v none = ((wipe σ vs).set a none).set v none
          by_cases ha : a = v
          · subst ha; rw [List.set_set, List.set_set, ih]
          · rw [List.set_comm _ _ ha, ih, List.set_comm _ _ (Ne.symm ha)]
      exact key vs σ
    · have h' : i ∈ vs := by
        rcases List.mem_cons.mp h with e | e
        · exact absurd e.symm hv
        · exact e
      rw [wipe_set y vs σ i h']
theorem wipe_none : ∀ (vs : List Nat) (σ : L2.St) (v : Nat), wipe (σ.set v none) vs = (wipe σ vs).set v none
  | [], _, _ => rfl
  | a :: vs, σ, v => by
    show (wipe (σ.set v none) vs).set a none = ((wipe σ vs).set a none).set v none
    rw [wipe_none vs σ v]
    by_cases ha : v = a
    · subst ha; rfl
    · rw [List.set_comm _ _ ha]
theorem wipe_wipe : ∀ (vs : List Nat) (σ : L2.St), wipe (wipe σ vs) vs = wipe σ vs
  | [], _ => rfl
  | v :: vs, σ => by
    show (wipe ((wipe σ vs).set v none) vs).set v none = (wipe σ vs).set v none
    rw [wipe_none, wipe_wipe vs σ, List.set_set]
theorem tgs_ok (own : List Nat) : ∀ (l : List Nat) {ws : List W} {xs : List V} {sl : Slots} {σ : L2.St} {Q : L2.St → Hp → Prop}, l.length = ws.length → Reps S C ws xs → Rel S C sl c σ H → (∀ i ∈ l, i ∈ own) →
    (∀ σ', Rel S C ((l.zip ws).foldl (fun s p => s.set p.1 (.val p.2)) sl) c σ' H → wipe σ' own = wipe σ own → σ'.length = σ.length → Q σ' H) → rdTgs l xs σ H Q
  | [], ws, xs, sl, σ, Q, hl, r, R, ho, k => by
    cases ws with
    | nil => exact ⟨r, k σ R rfl rfl⟩
    | cons _ _ => cases hl
  | i :: l, ws, xs, sl, σ, Q, hl, r, R, ho, k => by
    cases ws with
    | nil => cases hl
    | cons w ws =>
      obtain ⟨v, r2, e, p, q⟩ := r
      refine ⟨v, r2, e, tgs_ok own l (by simpa using hl) q (R.set p i) (fun j hj => ho j (List.mem_cons_of_mem _ hj)) fun σ' R' hw hn => k σ' R' ?_ ?_⟩
      · rw [hw, wipe_set _ _ _ _ (ho i List.mem_cons_self)]
      · rw [hn]; simp
/-- a target takes a value -/
theorem tg_ok {K : PySem.W.Frag} {t : Tg} {own : List Nat} {w : W} {x : V} {Q : L2.St → Hp → Prop} (e : bindTg t w sl = some sl') (r : Rep S C w x) (R : Rel S C sl c σ H) (ho : ∀ i ∈ t.slots, i ∈ own)
    (k : ∀ σ', Rel S C sl' c σ' H → wipe σ' own = wipe σ own → σ'.length = σ.length → Q σ' H) : rdTg K t x σ H Q := by
  cases t with
  | nm i =>
    cases e
    exact k _ (R.set r i) (wipe_set _ _ _ _ (ho i (by simp [Tg.slots]))) (by simp)
  | tp l =>
    cases w <;> first | (cases e; done) | skip
    rename_i ws
    simp only [bindTg] at e
    split at e <;> cases e
    rename_i hl
    obtain ⟨a, us, ex, hs, rr⟩ := r
    exact ⟨a, us, ex, Rd.sqT (R.sub _ _ hs), by rw [rr.length, hl], tgs_ok own l hl rr R ho k⟩
/-- a store at an object that is not known for good -/
theorem Post.write {S1 : Kn} {H1 : Hp} {D : Addr} {o : HO} (P : Post S C H S1 H1) (k : CellsOk S1 C c H1) (n : S1 D = none) (nc : D ∉ C) (n0 : H D = none) : Post S C H S1 (upd H1 D o) ∧ CellsOk S1 C c (upd H1 D o) := by
  refine ⟨⟨P.le, P.new, fun b u e h => ?_, fun b h => ?_, fun b u e => ?_⟩, ⟨k.len, k.nd, k.off, fun m q L e e2 => ?_⟩⟩
  · rw [upd_ne (ne_of_none e n0)]; exact P.fr b u e h
  · by_cases q : b = D
    · subst q; rw [upd_same]; exact fun z => by cases z
    · rw [upd_ne q]; exact P.dom b h
  · have q : b ≠ D := ne_of_none e n
    rcases P.sub b u e with r | ⟨x, r⟩
    · exact .inl (by rw [upd_ne q]; exact r)
    · exact .inr ⟨x, by rw [upd_ne q]; exact r⟩
  · obtain ⟨us, hu, r⟩ := k.at_ m q L e e2
    have qD : q ≠ D := fun z => nc (z ▸ List.mem_of_getElem? e)
    exact ⟨us, by rw [upd_ne qD]; exact hu, r⟩
end

section
variable {X : Cx}
theorem pgs_of {own : Scope} : ∀ {l : List Nat} {es : List Expr}, es.length = l.length → (∀ (j : Nat) i e, l[j]? = some i → es[j]? = some e → PG X e (gName i) ∧ notStar e = true) → PGs X es (rdTgs l)
  | [], [], _, _ => pgs_nil
  | i :: l, e :: es, hl, h => by
    obtain ⟨h1, h2⟩ := h 0 i e rfl rfl
    exact pgs_cons h1 (pgs_of (own := own) (by simpa using hl) fun j i' e' a b => h (j + 1) i' e' (by simpa using a) (by simpa using b)) (by cases e <;> first | (cases h2; done) | rfl)
  | [], _ :: _, hl, _ => by cases hl
  | _ :: _, [], hl, _ => by cases hl
theorem assign_len {env : Env} : ∀ {es : List Expr}, (assignEach es env).length = es.length
  | [] => rfl
  | e :: es => by
    have ih := assign_len (env := env) (es := es)
    cases e <;> (show (_ :: assignEach es env).length = _; rw [List.length_cons, ih]; rfl)
theorem assign_nostar {env : Env} : ∀ {es : List Expr}, es.all notStar = true → (assignEach es env).findIdx? (·.1) = none
  | [], _ => rfl
  | e :: es, h => by
    simp only [List.all_cons, Bool.and_eq_true] at h
    have ih := assign_nostar (env := env) h.2
    cases e <;> first | (have := h.1; cases this; done) | (show ((false, _) :: assignEach es env).findIdx? (·.1) = none; rw [List.findIdx?_cons, ih]; rfl)
end

/-- a test or nothing, as a comprehension's clause -/
def TTs (m : Slots → M Bool) : TT := TT' m
section
variable {X : Cx} {elt tg iter : Expr} {ifs : List Expr} {scope : Scope} {own : List (Str × Nat)} {pos : Pos} {t : Tg} {mi : Slots → M (List W)} {mc : Slots → M Bool} {me : Slots → M Val}
/-- the turns of a comprehension, the walk given -/
theorem lc_turns {σ : L2.St} {H H1 : Hp} {Q : V → Hp → Prop} {K : PySem.W.Frag} {vs : List Nat} {S S1 : Kn} {C : List Addr} {sl : Slots} {c c1 : Cells} {ws : List W} {J : L2.It} {G : Hp → Prop} (hv : ∀ i ∈ t.slots, i ∈ vs) (R : Rel S C sl c σ H) (P1 : Post S C H S1 H1) (k1 : CellsOk S1 C c1 H1)
    (g : Walk J ws.length G (Yd S1 C ws)) (hG : ∀ Si H', Post S1 C H1 Si H' → G H')
    (h1 : Okr ((cmpLp (fun w => bindTg t w (wipeS sl vs)) mc (fun s => me s >>= keepM) ws >>= listFit) c1) (EndX S C H Q)) (D : Addr) (hD : H1 D = none) :
    ∃ W : Nat → Nat → Hp → Prop, (∃ m, W 0 m (upd H1 D (.lst []))) ∧ ∀ i m H, W i m H →
      (J.stop i H ∧ Q (.ref D) H) ∨ (J.go i H ∧ ∃ Nx : Hp → Prop, (∀ H', Nx H' → ∃ m', m' < m ∧ W (i + 1) m' H') ∧ ∀ x H', J.yld i H x H' → rdTg K t x (wipe σ vs) H' fun σ2 H2 => wipe σ2 vs = wipe σ vs ∧ TT' mc σ2 H2 fun b H3 =>
        if b = true then TX me σ2 H3 fun y H4 => ∃ acc, H4 D = some (.lst acc) ∧ acc.length < sizeLine ∧ Nx (upd H4 D (.lst (acc ++ [y]))) else Nx H3) := by
  have h1 := okr_bnd.mp h1
  have hDC : D ∉ C := fun hm => by
    obtain ⟨us, hu⟩ := k1.live hm
    rw [hD] at hu; cases hu
  have hD0 : H D = none := by
    cases q : H D with
    | none => rfl
    | some o => exact absurd hD (P1.dom D (by rw [q]; exact fun z => by cases z))
  refine lc_it g (fun i H' => ∃ Si ci acc us, Post S1 C H1 Si H' ∧ CellsOk Si C ci H' ∧ H' D = some (.lst us) ∧ Reps Si C acc us ∧ Si D = none ∧
    Okr (cmpLp (fun w => bindTg t w (wipeS sl vs)) mc (fun s => me s >>= keepM) (ws.drop i) ci) fun r c2 => (acc ++ r).length ≤ sizeL ∧ EndX S C H Q (.own (.lst (acc ++ r))) c2) ?_ ?_ ?_ ?_
  · obtain ⟨P, k⟩ := Post.laid (Bs.rel ⟨P1.sub, k1⟩) hD (.lst []) (fun _ _ z => by cases z) false
    refine ⟨S1, c1, [], [], P, k, upd_same, rfl, ?_, h1.imp fun r c2 h2 => ?_⟩
    · cases q : S1 D with
      | none => rfl
      | some u => exact absurd hD (Rd.some (P1.sub D u q))
    · rcases okr_if h2 with ⟨hl, h2⟩ | ⟨_, h2⟩
      · exact ⟨hl, okr_ret.mp h2⟩
      · exact h2.elim
  · rintro i H' hi ⟨Si, ci, acc, us, P, k, hD', r, n, o⟩
    exact hG Si H' P
  · rintro i x H' H'' hi ⟨Si, ci, acc, us, P, k, hD', r, n, o⟩ ⟨w, hw, y⟩
    -- the item
    have item : ∃ S2, Post Si C H' S2 H'' ∧ CellsOk S2 C ci H'' ∧ Rep S2 C w x := by
      rcases y with ⟨e, rp⟩ | ⟨T, ws1, xs1, e1, e2, hT, e3, rp⟩
      · subst e
        exact ⟨Si, Post.refl P.sub, k, rp.le P.le⟩
      · obtain ⟨P2, k2⟩ := Post.laid (Bs.rel ⟨P.sub, k⟩) hT (.tup xs1) (fun _ _ z => by cases z) true
        subst e1 e2 e3
        exact ⟨_, P2, k2, T, xs1, rfl, upd_same, (rp.le P.le).le P2.le⟩
    obtain ⟨S2, P2, k2, rp⟩ := item
    rw [List.drop_eq_getElem_cons hi] at o
    have ew : ws[i] = w := by
      rw [List.getElem?_eq_getElem hi] at hw
      exact Option.some.inj hw
    rw [ew] at o
    obtain ⟨sl1, eb, o⟩ := okr_lift.mp (okr_bnd.mp o)
    have o := okr_bnd.mp o
    have Rw : Rel S2 C (wipeS sl vs) ci (wipe σ vs) H'' := (R.next ((P1.trans P).trans P2) k2).wiped vs
    refine tg_ok eb rp Rw hv fun σ2 R2 hw2 _ => ⟨hw2.trans ?_, S2, C, sl1, ci, R2, o.imp fun b c3 o3 S3 H3 P3 k3 => ?_⟩
    · exact wipe_wipe vs σ
    -- the new list stands
    have stD : ∀ {S4 : Kn} {H4 : Hp}, Post Si C H' S4 H4 → H4 D = some (.lst us) ∧ S4 D = none := fun {S4 H4} P4 => by
      refine ⟨P4.fr D _ hD' hDC, ?_⟩
      cases q : S4 D with
      | none => rfl
      | some u =>
        rcases P4.new D (by rw [q]; exact fun z => by cases z) with z | z
        · exact absurd n z
        · rw [hD'] at z; cases z
    cases b with
    | false =>
      rw [if_neg Bool.false_ne_true] at o3
      obtain ⟨d1, d2⟩ := stD (P2.trans P3)
      exact iteF ⟨S3, c3, acc, us, (P.trans P2).trans P3, k3, d1, r.le (P2.trans P3).le, d2, o3⟩
    | true =>
      rw [if_pos rfl] at o3
      refine iteT ⟨S3, C, sl1, c3, R2.next P3 k3, (okr_bnd.mp (okr_bnd.mp o3)).imp fun v c4 o4 S4 H4 y P4 k4 r4 => ?_⟩
      obtain ⟨w', ek, o5⟩ := okr_lift.mp o4
      obtain ⟨S5, P5, k5, rk, le5⟩ := VR.keep P4 k4 r4 ek
      have P6 := (P2.trans P3).trans P5
      obtain ⟨d1, d2⟩ := stD P6
      have o5 := okr_bnd.mp o5
      obtain ⟨P7, k7⟩ := Post.write (o := .lst (us ++ [y])) (P.trans P6) k5 d2 hDC hD
      have hsz : acc.length < sizeL := by
        obtain ⟨rr, c6, _, q⟩ := o5.get
        have := (okr_ret.mp q).1
        rw [List.length_append, List.length_cons] at this
        omega
      refine ⟨us, d1, by rw [r.length, ← sizeL_eq]; exact hsz, S5, c4, acc ++ [w'], us ++ [y], P7, k7, upd_same, (r.le P6.le).append (Reps.cons rk Reps.nil), d2, o5.imp fun rr c6 q => ?_⟩
      have q := okr_ret.mp q
      rw [List.append_assoc]
      exact q
  · rintro H' ⟨Si, ci, acc, us, P, k, hD', r, n, o⟩
    rw [List.drop_length] at o
    have o := (okr_ret.mp o).2
    rw [List.append_nil] at o
    exact o Si H' (.ref D) (P1.trans P) k ⟨D, _, .lst r, rfl, hD', n, hDC, hD0⟩
theorem lc_read {σ : L2.St} {H : Hp} {Q : V → Hp → Prop} {K : PySem.W.Frag} {vs : List Nat} (hv : ∀ i ∈ t.slots, i ∈ vs)
    (h : TX (fun sl => mi sl >>= fun ws => cmpLp (fun w => bindTg t w (wipeS sl vs)) mc (fun s => me s >>= keepM) ws >>= listFit) σ H Q) :
    tLc (TIx mi false) (rdTg K t) (TT' mc) (TX me) vs σ H Q := by
  obtain ⟨S, C, sl, c, R, h⟩ := h
  refine ⟨S, C, sl, c, R, (okr_bnd.mp h).imp fun ws c1 h1 S1 H1 Fx J P1 k1 fx g D hD => ?_⟩
  refine lc_turns hv R P1 k1 g (fun Si H' P a u hf => ?_) h1 D hD
  obtain ⟨f1, f2⟩ := fx.on a u hf
  rcases f1 with f1 | ⟨x, f1⟩
  · exact .inl (P.fr a _ f1 f2)
  · exact .inr ⟨x, P.fr a _ f1 f2⟩
end
end Cw

end
section
set_option Elab.async false
set_option linter.all false
set_option maxRecDepth 100000
/-! Cw1i: two-clause comprehensions, the assembly -/
namespace Cw
open PySem PySem.Spec PyProof.Rows L2

/-- no own list of these slots lies at D -/
def OffD (D : Addr) (sl : Slots) (σ : L2.St) : Prop := ∀ (i : Nat) w, sl[i]? = some (.own w) → σ[i]? ≠ some (some (.ref D))
section
variable {S S' : Kn} {C : List Addr} {sl sl' : Slots} {c c' : Cells} {σ σ' : L2.St} {H H' : Hp} {D : Addr}
theorem Post.more (P : Post S C H S' H') : Post S (D :: C) H S' H' := ⟨P.le, P.new, fun b o e h => P.fr b o e fun m => h (List.mem_cons_of_mem _ m), P.dom, P.sub⟩
theorem Rel.offD (R : Rel S C sl c σ H) (h : H D = none) : OffD D sl σ := fun i w e q => by
  obtain ⟨p, o, _, e2, hp, _⟩ := R.slot i _ e
  rw [q] at e2
  cases e2
  rw [h] at hp; cases hp
theorem SlotOk.off {x : Option (Option V)} {s : Slot} (P : Post S (D :: C) H S' H') (k : SlotOk S C H x s) (n : ∀ w, s = .own w → x ≠ some (some (.ref D))) : SlotOk S' C H' x s := by
  cases s with
  | none => trivial
  | val w => obtain ⟨v, e, r⟩ := k; exact ⟨v, e, r.le P.le⟩
  | own w =>
    obtain ⟨p, o, e, e2, h, n0, nc⟩ := k
    have hpD : p ≠ D := by
      rintro rfl
      exact n w rfl e2
    have hp : p ∉ D :: C := fun m => (List.mem_cons.mp m).elim hpD nc
    refine ⟨p, o, e.le P.le, e2, P.fr p _ h hp, ?_, nc⟩
    cases q : S' p with
    | none => rfl
    | some u =>
      rcases P.new p (by rw [q]; exact fun z => by cases z) with z | z
      · exact absurd n0 z
      · rw [h] at z; cases z
theorem Rel.nextD (R : Rel S C sl c σ H) (o : OffD D sl σ) (P : Post S (D :: C) H S' H') (k : CellsOk S' C c' H') : Rel S' C sl c' σ H' :=
  ⟨P.sub, k, R.slen, fun i s e => (R.slot i s e).off P fun w es => o i w (by rw [e, es])⟩
theorem own_set {i j : Nat} {s : Slot} {w u : W} (e : (sl.set i s)[j]? = some (.own u)) (hs : s = .none ∨ ∃ w, s = .val w) : sl[j]? = some (.own u) := by
  by_cases h : i = j
  · subst h
    rw [List.getElem?_set, if_pos rfl] at e
    by_cases hl : i < sl.length
    · rw [if_pos hl] at e
      rcases hs with hs | ⟨w, hs⟩ <;> (rw [hs] at e; cases e)
    · rw [if_neg hl] at e; cases e
  · rw [List.getElem?_set_ne h] at e; exact e
theorem own_fold : ∀ (l : List (Nat × W)) {sl : Slots} {j : Nat} {u : W}, (l.foldl (fun s p => s.set p.1 (.val p.2)) sl)[j]? = some (.own u) → sl[j]? = some (.own u)
  | [], _, _, _, e => e
  | p :: l, sl, j, u, e => own_set (w := u) (own_fold l e) (.inr ⟨p.2, rfl⟩)
theorem own_bind {t : Tg} {w u : W} {j : Nat} (e : bindTg t w sl = some sl') (h : sl'[j]? = some (.own u)) : sl[j]? = some (.own u) := by
  cases t with
  | nm i => cases e; exact own_set (w := u) h (.inr ⟨w, rfl⟩)
  | tp l =>
    cases w <;> first | (cases e; done) | skip
    simp only [bindTg] at e
    split at e <;> cases e
    exact own_fold _ h
theorem own_wipe : ∀ {vs : List Nat} {j : Nat} {u : W}, (wipeS sl vs)[j]? = some (.own u) → sl[j]? = some (.own u) ∧ j ∉ vs
  | [], _, _, e => ⟨e, by simp⟩
  | v :: vs, j, u, e => by
    have e : ((wipeS sl vs).set v .none)[j]? = some (.own u) := e
    obtain ⟨a, b⟩ := own_wipe (own_set (w := u) e (.inl rfl))
    refine ⟨a, fun m => ?_⟩
    rcases List.mem_cons.mp m with m | m
    · subst m
      rw [List.getElem?_set, if_pos rfl] at e
      split at e <;> cases e
    · exact b m
theorem OffD.bound {t : Tg} {w : W} {vs : List Nat} (o : OffD D sl σ) (e : bindTg t w (wipeS sl vs) = some sl') (hw : wipe σ' vs = wipe σ vs) : OffD D sl' σ' := fun i u h q => by
  obtain ⟨a, b⟩ := own_wipe (own_bind e h)
  have e1 := wipe_out (σ := σ') b
  have e2 := wipe_out (σ := σ) b
  rw [hw, e2] at e1
  exact o i u a (e1.trans q)
end

section
variable {t : Tg} {mc : Slots → M Bool} {me : Slots → M Val} {vs : List Nat} {Kf : PySem.W.Frag}
variable {S1 Sb Si : Kn} {H1 Hb H' H'' : Hp} {C : List Addr} {sl : Slots} {cb ci : Cells} {σ : L2.St} {D : Addr} {ws acc : List W} {us : List V} {w : W} {x : V} {i : Nat} {Kq : List W → Cells → Prop}
theorem newD (n : Si D = none) (hD' : H' D = some (.lst us)) {S4 : Kn} {H4 : Hp} {C' : List Addr} (P4 : Post Si C' H' S4 H4) (hDC : D ∉ C') : H4 D = some (.lst us) ∧ S4 D = none := by
  refine ⟨P4.fr D _ hD' hDC, ?_⟩
  cases q : S4 D with
  | none => rfl
  | some u =>
    rcases P4.new D (by rw [q]; exact fun z => by cases z) with z | z
    · exact absurd n z
    · rw [hD'] at z; cases z
/-- the head of a turn: the target, the test -/
theorem lc_head (R : Rel Sb C sl cb σ Hb) (off : OffD D sl σ) (hDC : D ∉ C) (hv : ∀ i ∈ t.slots, i ∈ vs)
    (P1 : Post S1 C H1 Si H') (Pb : Post Sb (D :: C) Hb Si H') (k : CellsOk Si C ci H') (hD' : H' D = some (.lst us)) (r : Reps Si C acc us) (n : Si D = none)
    (y : Yd Sb C ws i H' x H'') (hw : ws[i]? = some w) {F : Slots → M (List W)} {G : M (List W)}
    (o : Okr ((M.lift (bindTg t w (wipeS sl vs)) >>= fun sl => mc sl >>= fun b => if b = true then F sl else G) ci) Kq) {Cont : Bool → L2.St → Hp → Prop}
    (cont : ∀ b σ2 S3 c3 sl1 H3, Rel S3 C sl1 c3 σ2 H3 → OffD D sl1 σ2 → Post S1 C H1 S3 H3 → Post Sb (D :: C) Hb S3 H3 → H3 D = some (.lst us) → S3 D = none → Reps S3 C acc us →
      Okr ((if b = true then F sl1 else G) c3) Kq → Cont b σ2 H3) :
    rdTg Kf t x (wipe σ vs) H'' fun σ2 H2 => wipe σ2 vs = wipe σ vs ∧ TT' mc σ2 H2 fun b H3 => Cont b σ2 H3 := by
  obtain ⟨w', hw', y⟩ := y
  rw [hw] at hw'
  cases hw'
  have item : ∃ S2, Post Si C H' S2 H'' ∧ CellsOk S2 C ci H'' ∧ Rep S2 C w x := by
    rcases y with ⟨e, rp⟩ | ⟨T, ws1, xs1, e1, e2, hT, e3, rp⟩
    · subst e
      exact ⟨Si, Post.refl P1.sub, k, rp.le Pb.le⟩
    · obtain ⟨P2, k2⟩ := Post.laid (Bs.rel ⟨P1.sub, k⟩) hT (.tup xs1) (fun _ _ z => by cases z) true
      subst e1 e2 e3
      exact ⟨_, P2, k2, T, xs1, rfl, upd_same, (rp.le Pb.le).le P2.le⟩
  obtain ⟨S2, P2, k2, rp⟩ := item
  obtain ⟨sl1, eb, o⟩ := okr_lift.mp (okr_bnd.mp o)
  have o := okr_bnd.mp o
  have Rw : Rel S2 C (wipeS sl vs) ci (wipe σ vs) H'' := (R.nextD off (Pb.trans P2.more) k2).wiped vs
  refine tg_ok eb rp Rw hv fun σ2 R2 hw2 _ => ⟨hw2.trans (wipe_wipe vs σ), S2, C, sl1, ci, R2, o.imp fun b c3 o3 S3 H3 P3 k3 => ?_⟩
  obtain ⟨d1, d2⟩ := newD n hD' (P2.trans P3) hDC
  exact cont b σ2 S3 c3 sl1 H3 (R2.next P3 k3) (off.bound eb (hw2.trans (wipe_wipe vs σ))) (P1.trans (P2.trans P3)) (Pb.trans (P2.trans P3).more) d1 d2 (r.le (P2.trans P3).le) o3
/-- what stands within a loop that fills D -/
def LcI (S1 : Kn) (C : List Addr) (H1 : Hp) (Sb : Kn) (Hb : Hp) (D : Addr) (bd : W → Option Slots) (mc : Slots → M Bool) (me : Slots → M Val) (K : List W → Cells → Prop) (ws : List W) (i : Nat) (H' : Hp) : Prop :=
  ∃ Si ci acc us, Post S1 C H1 Si H' ∧ Post Sb (D :: C) Hb Si H' ∧ CellsOk Si C ci H' ∧ H' D = some (.lst us) ∧ Reps Si C acc us ∧ Si D = none ∧
    Okr (cmpLp bd mc (fun s => me s >>= keepM) (ws.drop i) ci) fun x c5 => K (acc ++ x) c5
theorem lc_turn (R : Rel Sb C sl cb σ Hb) (off : OffD D sl σ) (hDC : D ∉ C) (hD : H1 D = none) (hv : ∀ i ∈ t.slots, i ∈ vs) {K : List W → Cells → Prop} (hz : ∀ z c, K z c → z.length ≤ sizeL) (hi : i < ws.length)
    (h : LcI S1 C H1 Sb Hb D (fun w => bindTg t w (wipeS sl vs)) mc me K ws i H') (y : Yd Sb C ws i H' x H'') :
    rdTg Kf t x (wipe σ vs) H'' fun σ2 H2 => wipe σ2 vs = wipe σ vs ∧ TT' mc σ2 H2 fun b H3 =>
      if b = true then TX me σ2 H3 fun y H4 => ∃ acc, H4 D = some (.lst acc) ∧ acc.length < sizeLine ∧ LcI S1 C H1 Sb Hb D (fun w => bindTg t w (wipeS sl vs)) mc me K ws (i + 1) (upd H4 D (.lst (acc ++ [y])))
      else LcI S1 C H1 Sb Hb D (fun w => bindTg t w (wipeS sl vs)) mc me K ws (i + 1) H3 := by
  obtain ⟨Si, ci, acc, us, P1, Pb, k, hD', r, n, o⟩ := h
  rw [List.drop_eq_getElem_cons hi] at o
  refine lc_head R off hDC hv P1 Pb k hD' r n y (List.getElem?_eq_getElem hi) o fun b σ2 S3 c3 sl1 H3 R3 off3 P3 Pb3 d1 d2 r3 o3 => ?_
  cases b with
  | false =>
    rw [if_neg Bool.false_ne_true] at o3
    exact iteF ⟨S3, c3, acc, us, P3, Pb3, R3.cells, d1, r3, d2, o3⟩
  | true =>
    rw [if_pos rfl] at o3
    refine iteT ⟨S3, C, sl1, c3, R3, (okr_bnd.mp (okr_bnd.mp o3)).imp fun v c4 o4 S4 H4 y P4 k4 r4 => ?_⟩
    obtain ⟨w', ek, o5⟩ := okr_lift.mp o4
    obtain ⟨S5, P5, k5, rk, le5⟩ := VR.keep P4 k4 r4 ek
    obtain ⟨e1, e2⟩ := newD d2 d1 P5 hDC
    have o5 := okr_bnd.mp o5
    obtain ⟨P7, k7⟩ := Post.write (o := .lst (us ++ [y])) (P3.trans P5) k5 e2 hDC hD
    have Pb7 : Post Sb (D :: C) Hb S5 (upd H4 D (.lst (us ++ [y]))) := by
      have Q := Pb3.trans P5.more
      refine ⟨Q.le, Q.new, fun b u e h => ?_, fun b h => ?_, P7.sub⟩
      · have : b ≠ D := fun z => h (z ▸ List.mem_cons_self)
        rw [upd_ne this]; exact Q.fr b u e h
      · by_cases q : b = D
        · subst q; rw [upd_same]; exact fun z => by cases z
        · rw [upd_ne q]; exact Q.dom b h
    have hsz : acc.length < sizeL := by
      obtain ⟨rr, c6, _, q⟩ := o5.get
      have := hz _ _ (okr_ret.mp q)
      rw [List.length_append, List.length_cons] at this
      omega
    refine ⟨us, e1, by rw [r3.length, ← sizeL_eq]; exact hsz, S5, c4, acc ++ [w'], us ++ [y], P7, Pb7, k7, upd_same, (r3.le P5.le).append (Reps.cons rk Reps.nil), e2, o5.imp fun rr c6 q => ?_⟩
    have q := okr_ret.mp q
    rw [List.append_assoc]
    exact q
/-- any loop's turns -/
theorem it_gen {J : L2.It} {n : Nat} {G : Hp → Prop} {Y : Nat → Hp → V → Hp → Prop} (w : Walk J n G Y) {Tn : (Hp → Prop) → V → Hp → Prop} {H4 : Hp} {Nx : Hp → Prop} (Pv : Nat → Hp → Prop) (h0 : Pv 0 H4) (hG : ∀ i H, i ≤ n → Pv i H → G H)
    (hs : ∀ i x H H', i < n → Pv i H → Y i H x H' → Tn (Pv (i + 1)) x H') (hd : ∀ H, Pv n H → Nx H) :
    ∃ W : Nat → Nat → Hp → Prop, (∃ m, W 0 m H4) ∧ ∀ i m H, W i m H →
      (J.stop i H ∧ Nx H) ∨ (J.go i H ∧ ∃ Nx1 : Hp → Prop, (∀ H', Nx1 H' → ∃ m', m' < m ∧ W (i + 1) m' H') ∧ ∀ x H', J.yld i H x H' → Tn Nx1 x H') := by
  refine ⟨fun i m H => m = n - i ∧ i ≤ n ∧ Pv i H, ⟨n, by simp, Nat.zero_le _, h0⟩, ?_⟩
  rintro i m H ⟨rfl, hi, p⟩
  have q := hG i H hi p
  by_cases hlt : i < n
  · refine .inr ⟨w.goes i H hlt q, Pv (i + 1), fun H' p' => ⟨n - (i + 1), by omega, rfl, hlt, p'⟩, fun x H' y => hs i x H H' hlt p (w.yields i H x H' hlt q y)⟩
  · have e : i = n := by omega
    subst e
    exact .inl ⟨w.stops H q, hd H p⟩
theorem FxOk.stay {st : Bool} {S' : Kn} {Fx : Addr → HO → Prop} (fx : FxOk st Sb C Hb Fx) (hb : ∀ a u, Fx a u → a ≠ D) (P : Post Sb (D :: C) Hb S' H') : ∀ a u, Fx a u → Rd H' a u := fun a u hf => by
  obtain ⟨f1, f2⟩ := fx.on a u hf
  have hm : a ∉ D :: C := fun m => (List.mem_cons.mp m).elim (hb a u hf) f2
  rcases f1 with f1 | ⟨x, f1⟩
  · exact .inl (P.fr a _ f1 hm)
  · exact .inr ⟨x, P.fr a _ f1 hm⟩
end
section
variable {t t2 : Tg} {mi mi2 : Slots → M (List W)} {mc mc2 : Slots → M Bool} {me : Slots → M Val} {vs vs2 : List Nat}
theorem lc2_read {σ : L2.St} {H : Hp} {Q : V → Hp → Prop} {K : PySem.W.Frag} (hv : ∀ i ∈ t.slots, i ∈ vs) (hv2 : ∀ i ∈ t2.slots, i ∈ vs2)
    (h : TX (fun sl => mi sl >>= fun ws => cmpLp2 (fun w => bindTg t w (wipeS sl vs)) mc (fun s => mi2 s >>= fun ws2 => cmpLp (fun w => bindTg t2 w (wipeS s vs2)) mc2 (fun s => me s >>= keepM) ws2) ws >>= listFit) σ H Q) :
    tLc2 (TIx mi false) (rdTg K t) (TT' mc) (TIx mi2 true) (rdTg K t2) (TT' mc2) (TX me) vs vs2 σ H Q := by
  obtain ⟨S, C, sl, c, R, h⟩ := h
  refine ⟨S, C, sl, c, R, (okr_bnd.mp h).imp fun ws c1 h1 S1 H1 Fx J P1 k1 fx g D hD => ?_⟩
  have h1 := okr_bnd.mp h1
  have hDC : D ∉ C := fun hm => by
    obtain ⟨us, hu⟩ := k1.live hm
    rw [hD] at hu; cases hu
  have hD0 : H D = none := by
    cases q : H D with
    | none => rfl
    | some o => exact absurd hD (P1.dom D (by rw [q]; exact fun z => by cases z))
  have R1 := R.next P1 k1
  have off1 := R1.offD hD
  have fxD : ∀ a u, Fx a u → a ≠ D := fun a u hf e => by
    subst e
    exact Rd.some (fx.on a u hf).1 hD
  let F : Slots → M (List W) := fun s => mi2 s >>= fun ws2 => cmpLp (fun w => bindTg t2 w (wipeS s vs2)) mc2 (fun s => me s >>= keepM) ws2
  let B : W → Option Slots := fun w => bindTg t w (wipeS sl vs)
  let Z : List W → Cells → Prop := fun z c2 => z.length ≤ sizeL ∧ EndX S C H Q (.own (.lst z)) c2
  let Pv : Nat → Hp → Prop := fun i H' => ∃ Si ci acc us, Post S1 C H1 Si H' ∧ Post S1 (D :: C) H1 Si H' ∧ CellsOk Si C ci H' ∧ H' D = some (.lst us) ∧ Reps Si C acc us ∧ Si D = none ∧
    Okr (cmpLp2 B mc F (ws.drop i) ci) fun r c2 => Z (acc ++ r) c2
  refine it_gen g Pv ?_ ?_ ?_ ?_
  · obtain ⟨P, k⟩ := Post.laid (Bs.rel ⟨P1.sub, k1⟩) hD (.lst []) (fun _ _ z => by cases z) false
    refine ⟨S1, c1, [], [], P, P.more, k, upd_same, rfl, ?_, h1.imp fun r c2 h2 => ?_⟩
    · cases q : S1 D with
      | none => rfl
      | some u => exact absurd hD (Rd.some (P1.sub D u q))
    · rcases okr_if h2 with ⟨hl, h2⟩ | ⟨_, h2⟩
      · exact ⟨hl, okr_ret.mp h2⟩
      · exact h2.elim
  · rintro i H' hi ⟨Si, ci, acc, us, P, Pb, k, hD', r, n, o⟩
    exact fx.stay fxD Pb
  · rintro i x H' H'' hi ⟨Si, ci, acc, us, P, Pb, k, hD', r, n, o⟩ y
    rw [List.drop_eq_getElem_cons hi] at o
    refine lc_head (F := fun s => F s >>= fun x => cmpLp2 B mc F (ws.drop (i + 1)) >>= fun r => pure (x ++ r)) (G := cmpLp2 B mc F (ws.drop (i + 1))) R1 off1 hDC hv P Pb k hD' r n y (List.getElem?_eq_getElem hi) o fun b σ2 S3 c3 sl1 H3 R3 off3 P3 Pb3 d1 d2 r3 o3 => ?_
    cases b with
    | false =>
      rw [if_neg Bool.false_ne_true] at o3
      exact iteF ⟨S3, c3, acc, us, P3, Pb3, R3.cells, d1, r3, d2, o3⟩
    | true =>
      rw [if_pos rfl] at o3
      refine iteT ⟨S3, C, sl1, c3, R3, (okr_bnd.mp (okr_bnd.mp o3)).imp fun ws2 c4 o4 S4 H4 Fx2 J2 P4 k4 fx2 g2 => ?_⟩
      obtain ⟨e1, e2⟩ := newD d2 d1 P4 hDC
      let K2 : List W → Cells → Prop := fun z c5 => Okr (cmpLp2 B mc F (ws.drop (i + 1)) c5) fun r c6 => Z (z ++ r) c6
      have R4 : Rel S4 C sl1 c4 σ2 H4 := R3.next P4 k4
      have hz2 : ∀ z c, K2 z c → z.length ≤ sizeL := fun z c hk => by
        obtain ⟨r, c6, _, q⟩ := Okr.get hk
        have := q.1
        rw [List.length_append] at this
        omega
      have fxD2 : ∀ a u, Fx2 a u → a ≠ D := fun a u hf e => by
        subst e
        have := fx2.lp rfl _ u hf
        rw [e2] at this; cases this
      refine it_gen g2 (LcI S1 C H1 S4 H4 D (fun w => bindTg t2 w (wipeS sl1 vs2)) mc2 me K2 ws2) ?_ ?_ ?_ ?_
      · refine ⟨S4, c4, acc, us, P3.trans P4, Post.refl P4.sub, k4, e1, r3.le P4.le, e2, o4.imp fun x c5 o5 => ?_⟩
        refine (okr_bnd.mp o5).imp fun r c6 o6 => ?_
        have := okr_ret.mp o6
        rw [List.append_assoc]
        exact this
      · rintro j H5 hj ⟨Sj, cj, acc2, us2, P5, Pb5, _⟩
        exact fx2.stay fxD2 Pb5
      · intro j x2 H5 H6 hj hl y2
        exact lc_turn R4 off3 hDC hD hv2 hz2 hj hl y2
      · rintro H5 ⟨Sj, cj, acc2, us2, P5, Pb5, k5, hD5, r5, n5, o5⟩
        rw [List.drop_length] at o5
        have o5 := okr_ret.mp o5
        rw [List.append_nil] at o5
        have Pb6 : Post S1 (D :: C) H1 Sj H5 := by
          exact (Pb3.trans P4.more).trans Pb5
        exact ⟨Sj, cj, acc2, us2, P5, Pb6, k5, hD5, r5, n5, o5⟩
  · rintro H' ⟨Si, ci, acc, us, P, Pb, k, hD', r, n, o⟩
    rw [List.drop_length] at o
    have o := (okr_ret.mp o).2
    rw [List.append_nil] at o
    exact o Si H' (.ref D) (P1.trans P) k ⟨D, _, .lst r, rfl, hD', n, hDC, hD0⟩
end
end Cw

end
section
set_option Elab.async false
set_option linter.all false
set_option maxRecDepth 100000
/-! Cw6a: min(xs), xs a list of tuples of ints -/
namespace Cw
open PySem PySem.Spec PyProof.Rows L2
section
variable {prog : Program} {w : World} {A : Around} {R : Result → Shared → Prop} {it : Addr} {fp wr : List Addr} {n : Nat} {P : Nat → Value → Prop} {St : Nat → Heap → Prop} {bt : Nat → Nat → Bool} {Z : Heap → Prop}
/-- how two of the walked things are held against one another, while Z stands -/
def CmpZ (prog : Program) (w : World) (A : Around) (P : Nat → Value → Prop) (bt : Nat → Nat → Bool) (Z : Heap → Prop) : Prop :=
  ∀ i j u v (s : Shared) (Q : Value → Shared → Prop) (E : Value → Shared → Prop), Z s.heap → P i u → P j v → Q (.bool (bt i j)) s → wpAny (model prog w) A (richCompare .Lt u v) Q E s
/-- Z is not touched by what a loop does at B and at its iterator -/
def OffZ (wr : List Addr) (B : Addr) (Z : Heap → Prop) : Prop := ∀ g g' : Heap, Z g → (∀ b o, b ∉ wr → b ≠ B → g.get? b = some o → g'.get? b = some o) → Z g'
theorem minZ_turns (W : Walks prog w A.in1 it fp wr n P St) (hc : CmpZ prog w A.in1 P bt Z) (B : Addr) (nB : B ∉ fp) (hz : OffZ wr B Z) :
    ∀ (left k : Nat) (s : Shared) (best : Value) (e : Nat), left + (k + 1) = n → Z s.heap → St (k + 1) s.heap → P (argBest bt k) best →
    s.heap.get? B = some { cls := .type "list", dict := none, data := .seq #[best, best] e, slots := #[] } →
    (∀ v g tk, P (argBest bt (n - 1)) v → (∀ b o, b ∉ wr → b ≠ B → s.heap.get? b = some o → g.get? b = some o) → R (.ok (.ret v)) { s with heap := g, toks := tk }) →
    codeAny (model prog w) A (.builtin "min.loop" ⟨[.ref it, .none, .ref B], []⟩) R s := by
  have nw : B ∉ wr := fun m => nB (W.sub _ m)
  have nm : (toString "min" ++ toString ".loop" : String) = "min.loop" := by decide
  intro left
  induction left with
  | zero =>
    intro k s best e hk z st pb hB q
    have hn : k + 1 = n := by omega
    refine codeAny_builtin F.entry_min_loop ?_
    rw [Around.under_plainId F.plain_min_loop _]
    show wpAny _ A.in1 (seqItems? (.ref B) >>= _) _ _ s
    refine wpAny_bind (wpAny_seqItems hB rfl ?_)
    show wpAny _ A.in1 (tryCatch (pyNext (.ref it)) _ >>= _) _ _ s
    refine wpAny_bind (wpAny_tryCatch (W.done s _ _ (hn ▸ st) fun g tk hg => ?_))
    have gB := hg B _ nw hB
    show wpAny _ A.in1 (updateSeq B (fun _ => #[]) >>= _) _ _ _
    refine wpAny_bind (wpAny_updateSeq gB rfl (wpAny_bind (wpAny_letGo (wpAny_pure ?_))))
    exact q best _ tk (by rw [← hn]; exact pb) fun b o b1 b2 he => (Heap.get?_update_other _ _ (Ne.symm b2)).trans (hg b o b1 he)
  | succ left ih =>
    intro k s best e hk z st pb hB q
    have hn : k + 1 < n := by omega
    refine codeAny_builtin F.entry_min_loop ?_
    rw [Around.under_plainId F.plain_min_loop _]
    show wpAny _ A.in1 (seqItems? (.ref B) >>= _) _ _ s
    refine wpAny_bind (wpAny_seqItems hB rfl ?_)
    show wpAny _ A.in1 (tryCatch (pyNext (.ref it)) _ >>= _) _ _ s
    refine wpAny_bind (wpAny_tryCatch (W.item (k + 1) s _ _ hn st fun v g tk pv st2 hg => ?_))
    have gB := hg B _ nw hB
    have z2 : Z g := hz _ _ z fun b o b1 _ he => hg b o b1 he
    show wpAny _ A.in1 (tryCatch (holding [v, v] (richCompare .Lt v best >>= _)) _ >>= _) _ _ _
    refine wpAny_bind (wpAny_tryCatch (wpAny_holding (wpAny_bind (hc (k + 1) (argBest bt k) v best ⟨g, s.gens, s.drawn, tk, s.os⟩ _ _ z2 pv pb ?_))))
    refine wpAny_bind (wpAny_holding (wpAny_truthy_bool (wpAny_bind (wpAny_letGo (wpAny_pure ?_)))))
    cases hb : bt (k + 1) (argBest bt k) with
    | false =>
      simp only [Bool.false_eq_true, if_false]
      refine wpAny_bind (wpAny_letGo ?_)
      rw [nm]
      refine wpAny_pure ⟨plainId_quiet F.plain_min_loop _, ih (k + 1) _ best e (by omega) z2 st2 ?_ gB fun v2 g2 tk2 p2 hg2 => q v2 g2 tk2 p2 fun b o b1 b2 he => hg2 b o b1 b2 (hg b o b1 he)⟩
      simp only [argBest, hb, Bool.false_eq_true, if_false]
      exact pb
    | true =>
      simp only [if_true]
      refine wpAny_bind (wpAny_updateSeq gB rfl (wpAny_bind (wpAny_letGo ?_)))
      rw [nm]
      refine wpAny_pure ⟨plainId_quiet F.plain_min_loop _, ih (k + 1) _ v _ (by omega) ?_ (W.frame _ _ _ st2 fun b hm o he => ?_) ?_ (Heap.get?_update_self _ gB rfl) fun v2 g2 tk2 p2 hg2 => q v2 g2 tk2 p2 fun b o b1 b2 he => ?_⟩
      · exact hz _ _ z2 fun b o _ b2 he => (Heap.get?_update_other _ _ (Ne.symm b2)).trans he
      · exact (Heap.get?_update_other _ _ (fun y : B = b => nB (y ▸ hm))).trans he
      · simp only [argBest, hb, if_true]
        exact pv
      · exact hg2 b o b1 b2 ((Heap.get?_update_other _ _ (Ne.symm b2)).trans (hg b o b1 he))
theorem minZ_first (W : Walks prog w A.in1 it fp wr n P St) (hc : CmpZ prog w A.in1 P bt Z) (B : Addr) (nB : B ∉ fp) (hz : OffZ wr B Z) (hn : 0 < n) {s : Shared} {e : Nat} (z : Z s.heap) (st : St 0 s.heap)
    (hB : s.heap.get? B = some { cls := .type "list", dict := none, data := .seq #[] e, slots := #[] })
    (q : ∀ v g tk, P (argBest bt (n - 1)) v → (∀ b o, b ∉ wr → b ≠ B → s.heap.get? b = some o → g.get? b = some o) → R (.ok (.ret v)) { s with heap := g, toks := tk }) :
    codeAny (model prog w) A (.builtin "min.loop" ⟨[.ref it, .none, .ref B], []⟩) R s := by
  have nw : B ∉ wr := fun m => nB (W.sub _ m)
  have nm : (toString "min" ++ toString ".loop" : String) = "min.loop" := by decide
  refine codeAny_builtin F.entry_min_loop ?_
  rw [Around.under_plainId F.plain_min_loop _]
  show wpAny _ A.in1 (seqItems? (.ref B) >>= _) _ _ s
  refine wpAny_bind (wpAny_seqItems hB rfl ?_)
  show wpAny _ A.in1 (tryCatch (pyNext (.ref it)) _ >>= _) _ _ s
  refine wpAny_bind (wpAny_tryCatch (W.item 0 s _ _ hn st fun v g tk pv st2 hg => ?_))
  have gB := hg B _ nw hB
  have z2 : Z g := hz _ _ z fun b o b1 _ he => hg b o b1 he
  show wpAny _ A.in1 (updateSeq B (fun _ => #[v, v]) >>= _) _ _ _
  refine wpAny_bind (wpAny_updateSeq gB rfl ?_)
  rw [nm]
  refine wpAny_pure ⟨plainId_quiet F.plain_min_loop _, minZ_turns W hc B nB hz (n - 1) 0 _ v _ (by omega) ?_ (W.frame _ _ _ st2 fun b hm o he => ?_) pv (Heap.get?_update_self _ gB rfl) fun v2 g2 tk2 p2 hg2 => q v2 g2 tk2 p2 fun b o b1 b2 he => ?_⟩
  · exact hz _ _ z2 fun b o _ b2 he => (Heap.get?_update_other _ _ (Ne.symm b2)).trans he
  · exact (Heap.get?_update_other _ _ (fun y : B = b => nB (y ▸ hm))).trans he
  · exact hg2 b o b1 b2 ((Heap.get?_update_other _ _ (Ne.symm b2)).trans (hg b o b1 he))
end
/-- min(xs) of a list, the items held against one another while Z stands -/
theorem minZ_list {prog : Program} {w : World} {A : Around} {E : Value → Shared → Prop} {s : Shared} {l : Addr} {items : Array Value} {bt : Nat → Nat → Bool} {Z : Heap → Prop} {Q : Value → Shared → Prop} (hh : A.handled = none) (hl : s.heap.IsList l items) (hne : 0 < items.size)
    (hc : CmpZ prog w A.in1 (fun i v => items[i]? = some v) bt Z) (z : Z s.heap) (hz : ∀ g g' : Heap, Z g → (∀ b o, b < s.heap.objs.size → g.get? b = some o → g'.get? b = some o) → Z g')
    (h : ∀ v g tk, items[argBest bt (items.size - 1)]? = some v → (∀ b o, s.heap.get? b = some o → g.get? b = some o) → Q v { s with heap := g, toks := tk }) : wpAny (model prog w) A (call (.builtin "min") [.ref l]) Q E s := by
  have nm : (toString "min" ++ toString ".loop" : String) = "min.loop" := by decide
  have hlt : l < s.heap.objs.size := by
    obtain ⟨_, e, _⟩ := hl
    exact Heap.lt_size e
  refine call_function_tree F.kind_min F.plain_min F.entry_min (F.args_min1 _) ?_
  show wpAny _ A.in1 (Builtin.Builtins.bindParams "min" ["key", "default"] 0 ⟨[], []⟩ >>= _) _ _ s
  refine wpAny_bind (wpAny_of_eq (show Builtin.Builtins.bindParams "min" ["key", "default"] 0 ⟨[], []⟩ = pure [none, none] from rfl) (wpAny_bind (wpAny_pure ?_)))
  refine wpAny_bind (wpAny_pyIter_list hl ?_)
  let o1 : Obj := { cls := .type "list_iterator", data := .fields #[.ref l, .int 0 0] }
  have g1 : ∀ b o, s.heap.get? b = some o → (s.heap.push o1).get? b = some o := fun b o e => Heap.get?_push_of_some _ e
  refine wpAny_bind (wpAny_newObj_type ?_)
  have sz1 : (s.heap.push o1).objs.size = s.heap.objs.size + 1 := Heap.size_push ..
  rw [nm]
  have g2 : ∀ b o, (s.heap.push o1).get? b = some o → ((s.heap.push o1).push { cls := .type "list", data := .seq #[] }).get? b = some o := fun b o e => Heap.get?_push_of_some _ e
  refine wpAny_pure ⟨plainId_quiet F.plain_min_loop _, ?_⟩
  refine minZ_first (Z := Z) (Walks.list (A := A.in1) hh s.heap.objs.size l (Nat.ne_of_lt hlt) items) hc (s.heap.push o1).objs.size ?_ ?_ hne ?_ ?_ (Heap.get?_push_size _ rfl) fun v g tk pv hg => ?_
  · intro m
    rw [sz1] at m
    rcases List.mem_cons.mp m with m | m
    · exact absurd m (Nat.succ_ne_self _)
    · rcases List.mem_cons.mp m with m | m
      · rw [← m] at hlt
        exact absurd hlt (Nat.not_lt.mpr (Nat.le_succ _))
      · cases m
  · intro a b za hab
    refine hz a b za fun c o hcl e => hab c o (fun m => ?_) (fun y => ?_) e
    · rcases List.mem_cons.mp m with m | m
      · rw [m] at hcl
        exact Nat.lt_irrefl _ hcl
      · cases m
    · rw [y, sz1] at hcl
      exact absurd hcl (Nat.not_lt.mpr (Nat.le_succ _))
  · exact hz _ _ z fun b o _ e => g2 b o (g1 b o e)
  · exact ⟨⟨_, g2 _ _ (Heap.get?_push_size _ rfl), rfl, rfl⟩, (hl.push _).push _⟩
  · refine h v g tk pv fun b o e => hg b o (fun m => ?_) (fun y => ?_) (g2 b o (g1 b o e))
    · rcases List.mem_cons.mp m with m | m
      · have := Heap.lt_size e
        rw [m] at this
        exact Nat.lt_irrefl _ this
      · cases m
    · have := Heap.lt_size e
      rw [y, sz1] at this
      exact absurd this (Nat.not_lt.mpr (Nat.le_succ _))
end Cw

end
section
set_option Elab.async false
set_option linter.all false
set_option maxRecDepth 100000
/-! Cw1j: calls, subscripts, slices -/
namespace Cw
open PySem PySem.Spec PyProof.Rows L2

/-- what a call of an own def promises -/
def spF (m : List W → M Val) (np : Nat) : Sp := fun vs H Q _ => ∃ S C c ws, Bs S C c H ∧ Reps S C ws vs ∧ vs.length = np ∧ Okr (m ws c) (EndX S C H Q)
theorem _root_.L2.CallR.cases {X : Cx} {f : Value} {r : List V → Hp → VK → Prop} (i : ∀ xs H Q, r xs H Q → ∃ r', CallR X f r' ∧ r' xs H Q) : CallR X f r :=
  fun pins s σ H xs us Q I rx q => by
    obtain ⟨r', h, q'⟩ := i xs H Q q
    exact h pins s σ H xs us Q I rx q'
theorem _root_.L2.MtR.cases {X : Cx} {id : String} {r : V → List V → Hp → VK → Prop} (i : ∀ x xs H Q, r x xs H Q → ∃ r', MtR X id r' ∧ r' x xs H Q) : MtR X id r :=
  fun pins s σ H x xs v us Q I rx rs q => by
    obtain ⟨r', h, q'⟩ := i x xs H Q q
    exact h pins s σ H x xs v us Q I rx rs q'
theorem _root_.L2.IxR.cases {X : Cx} {r : R2} (i : ∀ x y H Q, r x y H Q → ∃ r', IxR X r' ∧ r' x y H Q) : IxR X r :=
  fun value slice pins s σ H x y v u Q I rx ry q hs => by
    obtain ⟨r', h, q'⟩ := i x y H Q q
    exact h value slice pins s σ H x y v u Q I rx ry q' hs
theorem _root_.L2.SlR.cases {X : Cx} {r : V → Option Int → Option Int → Hp → VK → Prop} (i : ∀ x l u H Q, r x l u H Q → ∃ r', L2.SlR X r' ∧ r' x l u H Q) : L2.SlR X r :=
  fun pins s σ H x v vl vu lo hi sl Q I rx hs pl pu q => by
    obtain ⟨r', h, q'⟩ := i x lo hi H Q q
    exact h pins s σ H x v vl vu lo hi sl Q I rx hs pl pu q'

section
variable {X : Cx} {a b o : Expr} {es : List Expr} {ma mb mo : Slots → M Val} {ms : Slots → M (List W)} {pos p : Pos} {x : Str}
theorem star_ev {pos : Pos} {env : Env} {a : Expr} (h : notStar a = true) : starEach [a] env = [(false, eval a env)] := star_cons h
/-- a call of an own def -/
theorem snd_call {CX : CXT} {k : Nat} {f : Addr} {fd : FuncData} {ps : List Str} {m : List W → M Val} (F : FnOk X.prog X.w X.K X.mg X.base CX k f fd ps (spF m ps.length)) (hr : Room k X.A) (hg : Gl X x) (hm : X.mg x = some (.ref f)) (hk : PySem.W.keepIn X.K (.ref f) = true)
    (hb : Binds X.K fd ps []) (hx : Passes CX X E0) (hl : ∀ ws c Q, Okr (m ws c) Q → ws.length = ps.length) (hdb : (x == ("__debug__" : Str)) = false) (hs : (a :: es).all notStar = true) (ha : PA X (a :: es) (TK ms)) :
    PE X (.Call (.Name x p) (a :: es) [] pos) (TX fun sl => ms sl >>= fun ws => m ws) := by
  simp only [List.all_cons, Bool.and_eq_true] at hs
  refine (pe_call (dvs := []) F hr hg hm hk hb .nil hx ha hdb (star_cons hs.1) (star_plain hs.2)).imp fun σ H Q ⟨S, C, sl, c, R, h⟩ => ?_
  refine ⟨S, C, sl, c, R, (okr_bnd.mp h).imp fun ws c1 h1 S1 H1 xs P1 k1 r1 => ?_⟩
  show spF m ps.length (xs ++ []) H1 Q E0
  rw [List.append_nil]
  exact ⟨S1, C, c1, ws, ⟨P1.sub, k1⟩, r1, by rw [r1.length]; exact hl _ _ _ h1, EndX.from h1 P1⟩
/-- a call of a built-in function, by values -/
def rdF (f : List W → Option Val) : List V → Hp → VK → Prop := fun xs H Q => ∃ S C c ws v, Bs S C c H ∧ Lks S C H ws xs ∧ f ws = some v ∧ EndX S C H Q v c
theorem tcb_read {f : List W → Option Val} {σ : L2.St} {H : Hp} {Q : VK} (h : TX (fun sl => ms sl >>= fun ws => M.lift (f ws)) σ H Q) : tCB (rdF f) (TV ms) σ H Q := by
  obtain ⟨S, C, sl, c, R, h⟩ := h
  refine ⟨S, C, sl, c, R, (okr_bnd.mp h).imp fun ws c1 h1 S1 H1 xs P1 k1 r1 => ?_⟩
  obtain ⟨v, e, q⟩ := okr_lift.mp h1
  exact ⟨S1, C, c1, ws, v, ⟨P1.sub, k1⟩, r1, e, fun S2 H2 y P2 k2 r2 => q S2 H2 y (P1.trans P2) k2 (r2.back P1.dom)⟩
theorem snd_callB {id : String} {f : List W → Option Val} (hc : CallR X (.builtin id) (rdF f)) (hg : Gl X x) (hm : X.mg x = none) (hv : bootBuiltins x = some (.builtin id)) (hn : x ≠ "__name__") (hdb : (x == ("__debug__" : Str)) = false)
    (hs : (a :: es).all notStar = true) (ha : PA X (a :: es) (TV ms)) : PE X (.Call (.Name x p) (a :: es) [] pos) (TX fun sl => ms sl >>= fun ws => M.lift (f ws)) := by
  simp only [List.all_cons, Bool.and_eq_true] at hs
  exact (pe_callB hc hg hm hv ha hn hdb (star_cons hs.1) (star_plain hs.2)).imp fun σ H Q h => tcb_read h
theorem snd_callTy {T : String} {f : List W → Option Val} (hc : CallR X (.type T) (rdF f)) (hg : Gl X x) (hm : X.mg x = none) (hv : bootBuiltins x = some (.type T)) (hn : x ≠ "__name__") (hdb : (x == ("__debug__" : Str)) = false)
    (hs : (a :: es).all notStar = true) (ha : PA X (a :: es) (TV ms)) : PE X (.Call (.Name x p) (a :: es) [] pos) (TX fun sl => ms sl >>= fun ws => M.lift (f ws)) := by
  simp only [List.all_cons, Bool.and_eq_true] at hs
  exact (pe_callTy hc hg hm hv ha hn hdb (star_cons hs.1) (star_plain hs.2)).imp fun σ H Q h => tcb_read h

/-! ### the built-in functions -/
theorem Lks.one {S : Kn} {C : List Addr} {H : Hp} {w : W} {xs : List V} (h : Lks S C H [w] xs) : ∃ x, xs = [x] ∧ Lk S C H w x := by
  obtain ⟨x, r, e, l, e2⟩ := h
  exact ⟨x, by rw [e, show r = [] from e2], l⟩
theorem Lks.two {S : Kn} {C : List Addr} {H : Hp} {w w2 : W} {xs : List V} (h : Lks S C H [w, w2] xs) : ∃ x y, xs = [x, y] ∧ Lk S C H w x ∧ Lk S C H w2 y := by
  obtain ⟨x, r, e, l, h2⟩ := h
  obtain ⟨y, e2, l2⟩ := Lks.one h2
  exact ⟨x, y, by rw [e, e2], l, l2⟩
section
variable {S : Kn} {C : List Addr} {c : Cells} {H : Hp} {Q : VK} {v : Val}
theorem EndX.int {i : Int} (B : Bs S C c H) (q : EndX S C H Q (.w (.int i)) c) : Q (.int i) H := q.now B rfl
theorem EndX.bl {i : Bool} (B : Bs S C c H) (q : EndX S C H Q (.w (.bl i)) c) : Q (.bl i) H := q.now B rfl
theorem EndX.str {i : List Nat} (B : Bs S C c H) (q : EndX S C H Q (.w (.str i)) c) : Q (.str (toS i)) H := q.now B rfl
theorem sumI_eq : ∀ ns : List Int, sumI ns = ns.sum
  | [] => rfl
  | n :: ns => by
    unfold sumI
    rw [List.sum_cons, sumI_eq ns]
theorem maxI_ge : ∀ (ns : List Int) (m : Int), m ≤ maxI m ns ∧ (∀ y ∈ ns, y ≤ maxI m ns) ∧ (maxI m ns = m ∨ maxI m ns ∈ ns)
  | [], m => ⟨Int.le_refl _, by simp, .inl rfl⟩
  | x :: r, m => by
    unfold maxI
    by_cases h : x > m
    · rw [if_pos h]
      obtain ⟨a, b, d⟩ := maxI_ge r x
      refine ⟨by omega, fun y hy => ?_, .inr ?_⟩
      · rcases List.mem_cons.mp hy with e | e
        · rw [e]; exact a
        · exact b y e
      · rcases d with d | d
        · rw [d]; exact List.mem_cons_self
        · exact List.mem_cons_of_mem _ d
    · rw [if_neg h]
      obtain ⟨a, b, d⟩ := maxI_ge r m
      refine ⟨a, fun y hy => ?_, ?_⟩
      · rcases List.mem_cons.mp hy with e | e
        · rw [e]; omega
        · exact b y e
      · rcases d with d | d
        · exact .inl d
        · exact .inr (List.mem_cons_of_mem _ d)
theorem minI_le : ∀ (ns : List Int) (m : Int), minI m ns ≤ m ∧ (∀ y ∈ ns, minI m ns ≤ y) ∧ (minI m ns = m ∨ minI m ns ∈ ns)
  | [], m => ⟨Int.le_refl _, by simp, .inl rfl⟩
  | x :: r, m => by
    unfold minI
    by_cases h : x < m
    · rw [if_pos h]
      obtain ⟨a, b, d⟩ := minI_le r x
      refine ⟨by omega, fun y hy => ?_, .inr ?_⟩
      · rcases List.mem_cons.mp hy with e | e
        · rw [e]; exact a
        · exact b y e
      · rcases d with d | d
        · rw [d]; exact List.mem_cons_self
        · exact List.mem_cons_of_mem _ d
    · rw [if_neg h]
      obtain ⟨a, b, d⟩ := minI_le r m
      refine ⟨a, fun y hy => ?_, ?_⟩
      · rcases List.mem_cons.mp hy with e | e
        · rw [e]; omega
        · exact b y e
      · rcases d with d | d
        · exact .inl d
        · exact .inr (List.mem_cons_of_mem _ d)
end
theorem allInt_cons {i : Int} {r : List W} {ns : List Int} (h : allInt? r = some ns) : allInt? (.int i :: r) = some (i :: ns) := by
  show (allInt? r).map _ = _
  rw [h]; rfl
theorem blt_len : CallR X (.builtin "len") (rdF (bltop .len)) := by
  refine CallR.cases fun xs H Q ⟨S, C, c, ws, v, B, l, e, q⟩ => ?_
  refine ⟨_, call_len, ?_⟩
  rcases ws with _ | ⟨w, _ | ⟨w2, r⟩⟩
  · cases e
  · obtain ⟨x, rfl, k⟩ := l.one
    cases w <;> first | (cases e; done) | skip
    · rename_i s
      have e : (if s.length ≤ sizeL then some (Val.w (.int s.length)) else none) = some v := e
      split at e <;> cases e
      rename_i hs
      exact ⟨x, s.length, rfl, by rw [k.str]; exact ⟨by rw [toS_len, ← sizeL_eq]; exact hs, (toS_len s).symm⟩, q.int B⟩
    · rename_i ws
      cases e
      obtain ⟨p, us, rfl, rd, _, r⟩ := k.tup B
      exact ⟨_, ws.length, rfl, .inr ⟨us, Rd.sqT rd, r.length.symm⟩, q.int B⟩
    · rename_i ws
      cases e
      obtain ⟨p, us, rfl, rd, r⟩ := k.lst B
      exact ⟨_, ws.length, rfl, .inl ⟨us, Rd.sq rd, r.length.symm⟩, q.int B⟩
  · cases w <;> cases e
theorem blt_abs : CallR X (.builtin "abs") (rdF (bltop .abs)) := by
  refine CallR.cases fun xs H Q ⟨S, C, c, ws, v, B, l, e, q⟩ => ⟨_, call_abs, ?_⟩
  rcases ws with _ | ⟨w, _ | ⟨w2, r⟩⟩
  · cases e
  · obtain ⟨x, rfl, k⟩ := l.one
    cases w <;> first | (cases e; done) | skip
    cases e
    exact ⟨_, by rw [k.int], q.int B⟩
  · cases w <;> cases e
theorem blt_int : CallR X (.type "int") (rdF (bltop .int)) := by
  refine CallR.cases fun xs H Q ⟨S, C, c, ws, v, B, l, e, q⟩ => ⟨_, call_int1, ?_⟩
  rcases ws with _ | ⟨w, _ | ⟨w2, r⟩⟩
  · cases e
  · obtain ⟨x, rfl, k⟩ := l.one
    cases w <;> first | (cases e; done) | skip
    · cases e
      exact .inr ⟨_, by rw [k.bl], q.int B⟩
    · cases e
      exact .inl ⟨_, by rw [k.int], q.int B⟩
  · cases w <;> cases e
theorem blt_bool : CallR X (.type "bool") (rdF (bltop .bool)) := by
  refine CallR.cases fun xs H Q ⟨S, C, c, ws, v, B, l, e, q⟩ => ⟨_, call_bool1, ?_⟩
  rcases ws with _ | ⟨w, _ | ⟨w2, r⟩⟩
  · cases e
  · obtain ⟨x, rfl, k⟩ := l.one
    cases w <;> first | (cases e; done) | skip
    · cases e
      exact .inr ⟨_, by rw [k.bl], q.bl B⟩
    · cases e
      exact .inl ⟨_, by rw [k.int], q.bl B⟩
  · cases w <;> cases e
theorem blt_max (hc : X.calm = true) : CallR X (.builtin "max") (rdF (bltop .max)) := by
  refine CallR.cases fun xs H Q ⟨S, C, c, ws, v, B, l, e, q⟩ => ?_
  rcases ws with _ | ⟨w, _ | ⟨w2, _ | ⟨w3, r⟩⟩⟩
  · cases e
  · obtain ⟨x, rfl, k⟩ := l.one
    cases w <;> first | (cases e; done) | skip
    rename_i ws
    rcases ws with _ | ⟨w, ws⟩
    · cases e
    cases w <;> first | (cases e; done) | skip
    rename_i i
    obtain ⟨ns, hn, ev⟩ := Option.map_eq_some_iff.mp (show (allInt? ws).map (fun ns => Val.w (.int (maxI i ns))) = some v from e)
    subst ev
    obtain ⟨p, us, rfl, rd, r⟩ := k.lst B
    have hu := r.ints (allInt_cons hn)
    subst hu
    refine ⟨_, cr_max hc, p, i :: ns, rfl, Rd.sq rd, by simp, fun m hm hall => ?_⟩
    obtain ⟨a1, a2, a3⟩ := maxI_ge ns i
    have hb : maxI i ns ∈ i :: ns := by
      rcases a3 with a3 | a3
      · rw [a3]; exact List.mem_cons_self
      · exact List.mem_cons_of_mem _ a3
    have : m = maxI i ns := by
      have h1 := hall _ hb
      have h2 : m ≤ maxI i ns := by
        rcases List.mem_cons.mp hm with e | e
        · rw [e]; exact a1
        · exact a2 m e
      omega
    rw [this]
    exact q.int B
  · obtain ⟨x, y, rfl, k, k2⟩ := l.two
    cases w <;> first | (cases e; done) | skip
    · cases w2 <;> first | (cases e; done) | skip
      cases e
      exact ⟨_, call_max2 hc, _, _, by rw [k.int, k2.int], q.int B⟩
    · rename_i ws
      rcases ws with _ | ⟨w, ws⟩ <;> first | (cases e; done) | (cases w <;> cases e)
  · cases w <;> first | (cases e; done) | skip
    · cases w2 <;> cases e
    · rename_i ws
      rcases ws with _ | ⟨w, ws⟩ <;> first | (cases e; done) | (cases w <;> cases e)
theorem allInt_back : ∀ {l : List W} {ns : List Int}, allInt? l = some ns → l = ns.map .int
  | [], ns, e => by
    cases e
    rfl
  | w :: r, ns, e => by
    cases w <;> first | (cases e; done) | skip
    rename_i i
    obtain ⟨rest, e3, rfl⟩ := Option.map_eq_some_iff.mp (show (allInt? r).map (i :: ·) = some ns from e)
    rw [allInt_back e3]
    rfl
theorem allInt_ints : ∀ ns : List Int, allInt? (ns.map W.int) = some ns
  | [] => rfl
  | n :: ns => allInt_cons (allInt_ints ns)
theorem lexI_eq : ∀ a b : List Int, HT.lexLt a b = lexI a b
  | [], [] => rfl
  | [], _ :: _ => rfl
  | _ :: _, [] => rfl
  | x :: xs, y :: ys => by
    show (if x = y then HT.lexLt xs ys else decide (x < y)) = if x = y then lexI xs ys else decide (x < y)
    rw [lexI_eq xs ys]
def btI (nss : List (List Int)) (i j : Nat) : Bool := lexI (nss.getD i []) (nss.getD j [])
theorem minTI_snoc : ∀ (l : List (List Int)) (m x : List Int), minTI m (l ++ [x]) = if lexI x (minTI m l) = true then x else minTI m l
  | [], m, x => rfl
  | y :: l, m, x => minTI_snoc l _ x
theorem argBest_le (bt : Nat → Nat → Bool) : ∀ k, argBest bt k ≤ k
  | 0 => Nat.le_refl _
  | k + 1 => by
    show (if bt (k + 1) (argBest bt k) = true then k + 1 else argBest bt k) ≤ k + 1
    have := argBest_le bt k
    split <;> omega
theorem argBest_same {bt bt' : Nat → Nat → Bool} : ∀ k, (∀ i j, i ≤ k → j ≤ k → bt i j = bt' i j) → argBest bt k = argBest bt' k
  | 0, _ => rfl
  | k + 1, h => by
    have ih := argBest_same k fun i j hi hj => h i j (by omega) (by omega)
    show (if bt (k + 1) (argBest bt k) = true then k + 1 else argBest bt k) = if bt' (k + 1) (argBest bt' k) = true then k + 1 else argBest bt' k
    rw [ih, h _ _ (Nat.le_refl _) (by have := argBest_le bt' k; omega)]
theorem minTI_best : ∀ (n : Nat) (m : List Int) (l : List (List Int)), l.length = n → (m :: l).getD (argBest (btI (m :: l)) n) [] = minTI m l
  | 0, m, l, hl => by
    rw [List.eq_nil_of_length_eq_zero hl]
    rfl
  | n + 1, m, l, hl => by
    have hne : l ≠ [] := fun e => by rw [e] at hl; cases hl
    have hd : l.dropLast.length = n := by rw [List.length_dropLast, hl]; rfl
    have el : l = l.dropLast ++ [l.getLast hne] := (List.dropLast_concat_getLast hne).symm
    have ih := minTI_best n m l.dropLast hd
    generalize l.dropLast = k at hd el ih
    generalize l.getLast hne = x at el
    subst el
    have pre : ∀ i, i ≤ n → (m :: (k ++ [x])).getD i [] = (m :: k).getD i [] := fun i hi => by
      rw [← List.cons_append, List.getD_eq_getElem?_getD, List.getD_eq_getElem?_getD, List.getElem?_append_left (by rw [List.length_cons, hd]; omega)]
    have e1 : argBest (btI (m :: (k ++ [x]))) n = argBest (btI (m :: k)) n := argBest_same n fun i j hi hj => by
      unfold btI
      rw [pre i hi, pre j hj]
    have e2 : (m :: (k ++ [x])).getD (n + 1) [] = x := by
      rw [← List.cons_append, List.getD_eq_getElem?_getD, List.getElem?_append_right (by rw [List.length_cons, hd]; exact Nat.le_refl _), List.length_cons, hd, Nat.sub_self]
      rfl
    show (m :: (k ++ [x])).getD (if btI (m :: (k ++ [x])) (n + 1) (argBest (btI (m :: (k ++ [x]))) n) = true then n + 1 else argBest (btI (m :: (k ++ [x]))) n) [] = _
    have e3 : btI (m :: (k ++ [x])) (n + 1) (argBest (btI (m :: (k ++ [x]))) n) = lexI x (minTI m k) := by
      unfold btI
      rw [e2]
      show lexI x ((m :: (k ++ [x])).getD (argBest (btI (m :: (k ++ [x]))) n) []) = _
      rw [e1, pre _ (argBest_le _ _), ih]
    rw [e3, minTI_snoc]
    by_cases h : lexI x (minTI m k) = true
    · rw [if_pos h, if_pos h, e2]
    · rw [if_neg h, if_neg h, e1, pre _ (argBest_le _ _), ih]
/-- min(xs), tuples of ints -/
theorem cr_minT (hc : X.calm = true) (hu : X.A.units + 65 < cLine) : CallR X (.builtin "min") (fun vs H Q => ∃ (a : Addr) (xs : List V) (nss : List (List Int)), vs = [V.ref a] ∧ SqL X.K H a xs ∧ xs ≠ [] ∧ (∀ (i : Nat) x, xs[i]? = some x → TupI X.K H x (nss.getD i [])) ∧
    ∀ x, xs[argBest (btI nss) (xs.length - 1)]? = some x → Q x H) := by
  intro pins s σ H vs us Q I r h
  obtain ⟨a, xs, nss, rfl, hs, hne, ht, q⟩ := h
  obtain ⟨its, rv, hl, hz⟩ := I.list hs
  have hlen := rv.length
  rw [Vals.ref1 r]
  have back : ∀ (i : Nat) u, its.toArray[i]? = some u → ∃ x, xs[i]? = some x ∧ RelV x u := fun i u hu => by
    have hu : its[i]? = some u := by simpa using hu
    have hi : i < xs.length := by
      rw [hlen]
      exact (List.getElem?_eq_some_iff.mp hu).1
    obtain ⟨u', e1, e2⟩ := rv.get (List.getElem?_eq_getElem hi)
    rw [hu] at e1
    cases e1
    exact ⟨_, List.getElem?_eq_getElem hi, e2⟩
  refine minZ_list (Z := fun g => ∀ b o, s.heap.get? b = some o → g.get? b = some o) (bt := btI nss) (I.ok.hd hc) hl.isList ?_ ?_ (fun b o e => e) (fun g g' z k b o e => k b o (Heap.lt_size e) (z b o e)) fun v g tk hv hk => ?_
  · rw [List.size_toArray, ← hlen]
    exact List.length_pos_iff.mpr hne
  · intro i j u v s2 Q2 E2 z hui hvj q2
    obtain ⟨x, ex, rx⟩ := back i u hui
    obtain ⟨y, ey, ry⟩ := back j v hvj
    obtain ⟨p, e1, t1⟩ := ht i x ex
    obtain ⟨p', e2, t2⟩ := ht j y ey
    subst e1 e2
    obtain rfl : u = Value.ref p := rx
    obtain rfl : v = Value.ref p' := ry
    obtain ⟨l1, r1, h1, _⟩ := I.tuple t1
    obtain ⟨l2, r2, h2, _⟩ := I.tuple t2
    have q2 : Q2 (.bool (HT.lexLt (nss.getD i []) (nss.getD j []))) s2 := by
      rw [lexI_eq]
      exact q2
    refine HT.lt_tupInts (s := s2) (l := p) (b := p') (items := l1.toArray) (items2 := l2.toArray) ?_ ?_ (by simpa using r1.ints) (by simpa using r2.ints) (by show X.A.units + 1 < cLine; omega) q2
    · obtain ⟨o, e, c⟩ := h1
      exact ⟨o, z _ _ e, c⟩
    · obtain ⟨o, e, c⟩ := h2
      exact ⟨o, z _ _ e, c⟩
  · obtain ⟨x, ex, rx⟩ := back _ v hv
    refine ⟨x, H, I.kept hk, rx, q x ?_⟩
    rw [List.size_toArray, ← hlen] at ex
    exact ex
theorem allTup_get : ∀ {ws : List W} {nss : List (List Int)}, allTupI? ws = some nss → ws = nss.map (fun ns => W.tup (ns.map .int))
  | [], nss, e => by
    cases e
    rfl
  | w :: r, nss, e => by
    cases w <;> first | (cases e; done) | skip
    rename_i l
    obtain ⟨ns, e1, e2⟩ := Option.bind_eq_some_iff.mp (show ((allInt? l).bind fun ns => (allTupI? r).map (ns :: ·)) = some nss from e)
    obtain ⟨rest, e3, rfl⟩ := Option.map_eq_some_iff.mp e2
    rw [allTup_get e3, List.map_cons]
    congr 2
    exact allInt_back e1
theorem blt_min (hc : X.calm = true) (hu : X.A.units + 65 < cLine) : CallR X (.builtin "min") (rdF (bltop .min)) := by
  refine CallR.cases fun xs H Q ⟨S, C, c, ws, v, B, l, e, q⟩ => ?_
  rcases ws with _ | ⟨w, _ | ⟨w2, _ | ⟨w3, r⟩⟩⟩
  · cases e
  · obtain ⟨x, rfl, k⟩ := l.one
    cases w <;> first | (cases e; done) | skip
    rename_i ws
    rcases ws with _ | ⟨w, ws⟩
    · cases e
    cases w <;> first | (cases e; done) | skip
    case tup l0 =>
      obtain ⟨ns, e1, e2⟩ := Option.bind_eq_some_iff.mp (show ((allInt? l0).bind fun ns => (allTupI? ws).map fun l => Val.w (.tup ((minTI ns l).map .int))) = some v from e)
      obtain ⟨nl, e3, ev⟩ := Option.map_eq_some_iff.mp e2
      subst ev
      obtain ⟨p, us, rfl, rd, r⟩ := k.lst B
      have hall : (W.tup l0 :: ws) = (ns :: nl).map (fun ns => W.tup (ns.map .int)) := by
        rw [List.map_cons, ← allTup_get e3, ← allInt_back e1]
      rw [hall] at r
      have rl := r.length
      rw [List.length_map] at rl
      have it : ∀ (i : Nat) x, us[i]? = some x → Rep S C (.tup (((ns :: nl).getD i []).map .int)) x := fun i x ex => by
        have hi : i < (ns :: nl).length := by
          rw [← rl]
          exact (List.getElem?_eq_some_iff.mp ex).1
        obtain ⟨y, ey, ry⟩ := r.get (i := i) (w := .tup (((ns :: nl).getD i []).map .int)) (by
          rw [List.getElem?_map, List.getElem?_eq_getElem hi, List.getD_eq_getElem?_getD, List.getElem?_eq_getElem hi]
          rfl)
        rw [ex] at ey
        cases ey
        exact ry
      refine ⟨_, cr_minT hc hu, p, us, ns :: nl, rfl, Rd.sq rd, ?_, fun i x ex => ?_, fun x ex => ?_⟩
      · intro z
        rw [z] at rl
        cases rl
      · obtain ⟨t, us', rfl, hS, r'⟩ := it i x ex
        have hi := r'.ints (allInt_ints _)
        subst hi
        exact ⟨t, rfl, Rd.sqT (B.sub _ _ hS)⟩
      · have h1 := it _ x ex
        rw [rl, List.length_cons, Nat.add_sub_cancel, minTI_best _ _ _ rfl] at h1
        exact q.now B h1
    case int i =>
      obtain ⟨ns, hn, ev⟩ := Option.map_eq_some_iff.mp (show (allInt? ws).map (fun ns => Val.w (.int (minI i ns))) = some v from e)
      subst ev
      obtain ⟨p, us, rfl, rd, r⟩ := k.lst B
      have hu := r.ints (allInt_cons hn)
      subst hu
      refine ⟨_, cr_min hc, p, i :: ns, rfl, Rd.sq rd, by simp, fun m hm hall => ?_⟩
      obtain ⟨a1, a2, a3⟩ := minI_le ns i
      have hb : minI i ns ∈ i :: ns := by
        rcases a3 with a3 | a3
        · rw [a3]; exact List.mem_cons_self
        · exact List.mem_cons_of_mem _ a3
      have : m = minI i ns := by
        have h1 := hall _ hb
        have h2 : minI i ns ≤ m := by
          rcases List.mem_cons.mp hm with e | e
          · rw [e]; exact a1
          · exact a2 m e
        omega
      rw [this]
      exact q.int B
  · obtain ⟨x, y, rfl, k, k2⟩ := l.two
    cases w <;> first | (cases e; done) | skip
    · cases w2 <;> first | (cases e; done) | skip
      cases e
      exact ⟨_, call_min2 hc, _, _, by rw [k.int, k2.int], q.int B⟩
    · rename_i ws
      rcases ws with _ | ⟨w, ws⟩ <;> first | (cases e; done) | (cases w <;> cases e)
  · cases w <;> first | (cases e; done) | skip
    · cases w2 <;> cases e
    · rename_i ws
      rcases ws with _ | ⟨w, ws⟩ <;> first | (cases e; done) | (cases w <;> cases e)
/-- sum of a tuple of ints -/
theorem sum_tup (hc : X.calm = true) : CallR X (.builtin "sum") (fun xs H Q => ∃ (p : Addr) (ns : List Int), xs = [V.ref p] ∧ SqT X.K H p (ns.map V.int) ∧ Q (.int ns.sum) H) := by
  rintro pins s σ H xs us Q I r ⟨p, ns, rfl, hs, q⟩
  obtain ⟨its, rv, ht, _⟩ := I.tuple hs
  rw [Vals.ref1 r]
  have hi : IntsAre its ns := rv.ints
  obtain ⟨zs, ez⟩ := hi.allInts.items
  have e1 : numsOf (intItems zs).toList = ns := by rw [← ez]; exact hi.numsOf
  rw [nums_intItems] at e1
  rw [ez] at ht
  refine PySem.W.ktm_sumG (I.ok.hd hc) ht fun h' tk t' hk => ?_
  rw [preSum_eq, List.take_of_length_le (by simp), e1]
  exact ⟨.int _, H, I.kept hk, ⟨_, rfl⟩, q⟩
theorem blt_sum (hc : X.calm = true) : CallR X (.builtin "sum") (rdF (bltop .sum)) := by
  refine CallR.cases fun xs H Q ⟨S, C, c, ws, v, B, l, e, q⟩ => ?_
  rcases ws with _ | ⟨w, _ | ⟨w2, r⟩⟩
  · cases e
  · obtain ⟨x, rfl, k⟩ := l.one
    cases w <;> first | (cases e; done) | skip
    · obtain ⟨ns, hn, ev⟩ := Option.map_eq_some_iff.mp e
      subst ev
      obtain ⟨p, us, rfl, rd, _, r⟩ := k.tup B
      have hu := r.ints hn
      subst hu
      refine ⟨_, sum_tup hc, p, ns, rfl, Rd.sqT rd, ?_⟩
      rw [← sumI_eq]
      exact q.int B
    · obtain ⟨ns, hn, ev⟩ := Option.map_eq_some_iff.mp e
      subst ev
      obtain ⟨p, us, rfl, rd, r⟩ := k.lst B
      have hu := r.ints hn
      subst hu
      refine ⟨_, cr_sum hc, p, ns, rfl, Rd.sq rd, ?_⟩
      rw [← sumI_eq]
      exact q.int B
  · cases w <;> cases e
theorem blt_all (hc : X.calm = true) : CallR X (.builtin "all") (rdF (bltop .all)) := by
  refine CallR.cases fun xs H Q ⟨S, C, c, ws, v, B, l, e, q⟩ => ⟨_, cr_all hc, ?_⟩
  rcases ws with _ | ⟨w, _ | ⟨w2, r⟩⟩
  · cases e
  · obtain ⟨x, rfl, k⟩ := l.one
    cases w <;> first | (cases e; done) | skip
    obtain ⟨ns, hn, ev⟩ := Option.map_eq_some_iff.mp e
    subst ev
    obtain ⟨p, us, rfl, rd, r⟩ := k.lst B
    have hu := r.bls hn
    subst hu
    exact ⟨p, ns, rfl, Rd.sq rd, q.bl B⟩
  · cases w <;> cases e
theorem blt_any (hc : X.calm = true) : CallR X (.builtin "any") (rdF (bltop .any)) := by
  refine CallR.cases fun xs H Q ⟨S, C, c, ws, v, B, l, e, q⟩ => ⟨_, cr_any hc, ?_⟩
  rcases ws with _ | ⟨w, _ | ⟨w2, r⟩⟩
  · cases e
  · obtain ⟨x, rfl, k⟩ := l.one
    cases w <;> first | (cases e; done) | skip
    obtain ⟨ns, hn, ev⟩ := Option.map_eq_some_iff.mp e
    subst ev
    obtain ⟨p, us, rfl, rd, r⟩ := k.lst B
    have hu := r.bls hn
    subst hu
    exact ⟨p, ns, rfl, Rd.sq rd, q.bl B⟩
  · cases w <;> cases e
theorem strs_of_items {z : List Nat} {acc : Array Value} (h : ItemsOf (SignAt (toS z)) acc z.length) : StrsAre acc.toList (z.map fun c => toS [c]) := by
  obtain ⟨hs, hv⟩ := h
  have : ∀ (z : List Nat) (l : List Value), l.length = z.length → (∀ (j : Nat) (v : Value), l[j]? = some v → ∃ c u, z[j]? = some c ∧ v = Value.str ⟨#[c]⟩ u) → StrsAre l (z.map fun c => toS [c]) := by
    intro z
    induction z with
    | nil => intro l hl _; rw [List.eq_nil_of_length_eq_zero hl]; exact .nil
    | cons c z ih =>
      intro l hl hv
      cases l with
      | nil => cases hl
      | cons v l =>
        obtain ⟨c', u, e1, e2⟩ := hv 0 v rfl
        have : c = c' := by simpa using e1
        subst this
        rw [e2]
        exact .cons _ u (ih l (by simpa using hl) fun j v hj => by
          obtain ⟨c, u, e1, e2⟩ := hv (j + 1) v (by simpa using hj)
          exact ⟨c, u, by simpa using e1, e2⟩)
  refine this z acc.toList (by rw [Array.length_toList, hs]) fun j v hj => ?_
  obtain ⟨c, u, e1, e2⟩ := hv j v (by rw [← Array.getElem?_toList]; exact hj)
  exact ⟨c, u, by simpa [toS] using e1, e2⟩
/-- tuple(x), x a text -/
theorem cr_tupT (hc : X.calm = true) : CallR X (.type "tuple") (fun vs H Q => ∃ z : List Nat, vs = [V.str (toS z)] ∧ z.length ≤ sizeL ∧ ∀ p, H p = none → Q (.ref p) (upd H p (.tup ((z.map fun c => toS [c]).map V.str)))) := by
  intro pins s σ H vs us Q I r h
  obtain ⟨z, rfl, hz, q⟩ := h
  rcases r with _ | ⟨r1, r2⟩
  cases r2
  obtain ⟨t, rfl⟩ := r1
  have hzz : (toS z).cps.size = z.length := by simp [toS]
  refine PySem.call_tuple_str (I.ok.hd hc) (toS z) t (fun h' tk acc k pm => ?_) (by rw [hzz, ← sizeL_eq]; exact hz)
  rw [hzz] at pm
  have I2 : Inv X pins σ H { s with heap := h', toks := tk } := I.kept k
  have hf : H h'.objs.size = none := I2.hok.fresh (Nat.le_refl _)
  refine ⟨.ref h'.objs.size, upd H h'.objs.size (.tup ((z.map fun c => toS [c]).map V.str)), I2.laid (t' := tk) (fun b u e => Heap.get?_push_of_some _ e) (Nat.le_refl _) ⟨?_, acc.toList, vals_of_strs (strs_of_items pm), ⟨_, Heap.get?_push_size _ rfl, rfl, 0, by simp⟩⟩, rfl, q _ hf⟩
  rw [List.length_map, List.length_map, ← sizeL_eq]
  exact hz
theorem blt_tuple (hc : X.calm = true) : CallR X (.type "tuple") (rdF (bltop .tuple)) := by
  refine CallR.cases fun xs H Q ⟨S, C, c, ws, v, B, l, e, q⟩ => ?_
  rcases ws with _ | ⟨w, _ | ⟨w2, r⟩⟩
  · cases e
  · obtain ⟨x, rfl, k⟩ := l.one
    cases w <;> first | (cases e; done) | skip
    · rename_i z
      have e : (if z.length ≤ sizeL then some (Val.w (.tup (charsW z))) else none) = some v := e
      split at e
      case isFalse => cases e
      rename_i hz
      cases e
      obtain rfl := k.str
      refine ⟨_, cr_tupT hc, z, rfl, hz, fun p hp => q.tuple B ?_ hp⟩
      have := Reps.map_str (S := S) (C := C) (z.map fun c => [c])
      rw [List.map_map, List.map_map] at this
      rw [List.map_map]
      exact this
    · cases e
      obtain ⟨p, us, rfl, rd, hS, r⟩ := k.tup B
      exact ⟨_, call_tuple_of, p, us, rfl, .inr ⟨Rd.sqT rd, q.now B ⟨p, us, rfl, hS, r⟩⟩⟩
    · cases e
      obtain ⟨p, us, rfl, rd, r⟩ := k.lst B
      exact ⟨_, call_tuple_of, p, us, rfl, .inl ⟨Rd.sq rd, fun l hl => q.tuple B r hl⟩⟩
  · cases w <;> cases e
theorem blt_list : CallR X (.type "list") (rdF (bltop .list)) := by
  refine CallR.cases fun xs H Q ⟨S, C, c, ws, v, B, l, e, q⟩ => ?_
  rcases ws with _ | ⟨w, _ | ⟨w2, r⟩⟩
  · cases e
  · obtain ⟨x, rfl, k⟩ := l.one
    cases w <;> first | (cases e; done) | skip
    · cases e
      obtain ⟨p, us, rfl, rd, hS, r⟩ := k.tup B
      exact ⟨_, call_list_of, p, us, rfl, .inr (Rd.sqT rd), fun l hl => q.list B r hl⟩
    · cases e
      obtain ⟨p, us, rfl, rd, r⟩ := k.lst B
      exact ⟨_, call_list_of, p, us, rfl, .inl (Rd.sq rd), fun l hl => q.list B r hl⟩
  · cases w <;> cases e
end
end Cw

end
section
set_option Elab.async false
set_option linter.all false
set_option maxRecDepth 100000
/-! Cw1k: isinstance, methods, subscripts, slices -/
namespace Cw
open PySem PySem.Spec PyProof.Rows L2

def tyNm : Nat → String
  | 0 => "int" | 1 => "bool" | 2 => "str" | 3 => "tuple" | 4 => "list" | _ => "dict"
def wTy : W → String
  | .non => "NoneType" | .bl _ => "bool" | .int _ => "int" | .str _ => "str" | .tup _ => "tuple" | .lst _ => "list" | _ => "dict"
def kinds : List String := ["NoneType", "bool", "int", "str", "tuple", "list"]
def answer (a : String) : Nat → Bool
  | 0 => a == "int" || a == "bool" | 1 => a == "bool" | 2 => a == "str" | 3 => a == "tuple" | 4 => a == "list" | _ => false
theorem kit_all : (kinds.all fun a => [0, 1, 2, 3, 4, 5].all fun t => kitB a (tyNm t) == some (answer a t)) = true := by decide +kernel
theorem isinst_ans {t : Nat} {w : W} {b : Bool} (ht : t < 6) (h : isinst t w = some b) (hd : ∀ k v, w ≠ .dct k v) : kitB (wTy w) (tyNm t) = some b := by
  have k := kit_all
  rw [List.all_eq_true] at k
  have k1 : wTy w ∈ kinds := by
    cases w <;> first | (simp [wTy, kinds]; done) | skip
    · exact absurd rfl (hd _ _)
    · rcases t with _ | _ | _ | _ | _ | _ | t <;> cases h
  have k2 := k _ k1
  rw [List.all_eq_true] at k2
  have k3 := k2 t (by
    rcases t with _ | _ | _ | _ | _ | _ | t <;> first | (simp; done) | omega)
  rw [eq_of_beq k3]
  congr 1
  cases w <;> rcases t with _ | _ | _ | _ | _ | _ | t <;> first | (cases h; done) | (cases h; rfl) | omega | (exact absurd rfl (hd _ _))
section
variable {X : Cx} {a b o : Expr} {ma mb mo : Slots → M Val} {pos p p2 : Pos} {x tn : Str}
theorem tyx_of {S : Kn} {C : List Addr} {c : Cells} {H : Hp} {w : W} {x : V} {t : Nat} {b : Bool} (B : Bs S C c H) (k : Lk S C H w x) (h : isinst t w = some b) : TyX X.K H x (.type (wTy w)) ∧ ∀ k v, w ≠ .dct k v := by
  cases w with
  | non => rw [k.non]; exact ⟨.base .non, fun _ _ z => by cases z⟩
  | bl i => rw [k.bl]; exact ⟨.base (.bl i), fun _ _ z => by cases z⟩
  | int i => rw [k.int]; exact ⟨.base (.int i), fun _ _ z => by cases z⟩
  | str s => rw [k.str]; exact ⟨.base (.str _), fun _ _ z => by cases z⟩
  | tup ws =>
    obtain ⟨q, us, e, rd, _⟩ := k.tup B
    rw [e]
    refine ⟨?_, fun _ _ z => by cases z⟩
    rcases rd with rd | ⟨o, rd⟩
    · exact .base (.tup rd)
    · exact .fTuple rd
  | lst ws =>
    obtain ⟨q, us, e, rd, _⟩ := k.lst B
    rw [e]
    refine ⟨?_, fun _ _ z => by cases z⟩
    rcases rd with rd | ⟨o, rd⟩
    · exact .base (.lst rd)
    · exact .base (.frz rd)
  | dct _ _ => rcases t with _ | _ | _ | _ | _ | _ | t <;> cases h
  | cel n => rcases t with _ | _ | _ | _ | _ | _ | t <;> cases h
theorem snd_isinst {t : Nat} (ht : t < 6) (hg : Gl X "isinstance") (hm : X.mg "isinstance" = none) (hg2 : Gl X tn) (hm2 : X.mg tn = none) (hv2 : bootBuiltins tn = some (.type (tyNm t))) (hn2 : tn ≠ "__name__") (hdb2 : (tn == ("__debug__" : Str)) = false)
    (hs : notStar a = true) (ha : PE X a (TX ma)) : PE X (.Call (.Name "isinstance" p) [a, .Name tn p2] [] pos) (TX fun sl => (ma sl >>= fun v => pure [] >>= fun ws => pure (v.get :: ws)) >>= fun ws => M.lift (bltop (.isinst t) ws)) := by
  refine (pe_callB call_isi hg hm (by decide) (pa_cons ha (pa_cons (pe_bltn (v := .ty (tyNm t)) hg2 hm2 hv2 rfl hn2 hdb2) pa_nil (star_cons rfl)) (star_cons hs)) (by decide) (by decide) (star_cons hs) rfl).imp fun σ H Q ⟨S, C, sl, c, R, h⟩ => ?_
  refine ⟨S, C, sl, c, R, (okr_bnd.mp (okr_bnd.mp h)).imp fun v c1 h1 S1 H1 x P1 k1 r1 => ?_⟩
  have h2 := okr_ret.mp (okr_bnd.mp (okr_ret.mp (okr_bnd.mp h1)))
  obtain ⟨u, e, q⟩ := okr_lift.mp h2
  obtain ⟨b, e2, e3⟩ := Option.map_eq_some_iff.mp (show (isinst t v.get).map (fun b => Val.w (.bl b)) = some u from e)
  subst e3
  obtain ⟨ty, nd⟩ := tyx_of (X := X) (t := t) ⟨P1.sub, k1⟩ r1.lk e2
  exact ⟨x, .ty (tyNm t), _, _, b, rfl, .ty _, ty, kit_ty (isinst_ans ht e2 nd), q S1 H1 _ P1 k1 rfl⟩

/-! ### methods of texts -/
/-- a method, by values -/
def rdM (m : Mth) : V → List V → Hp → VK → Prop := fun x xs H Q => ∃ S C c w w2 v y, Bs S C c H ∧ xs = [y] ∧ Lk S C H w x ∧ Lk S C H w2 y ∧ methop m w [w2] = some v ∧ EndX S C H Q v c
theorem glued_join (sep : List Nat) : ∀ ss : List (List Nat), Txt.join (toS sep) (ss.map toS) = toS (joinS sep ss) := by
  intro ss
  show Builtin.Str.glued _ _ = _
  rw [PySem.StrLaws.glued_eq_join]
  induction ss with
  | nil => rfl
  | cons x r ih =>
    cases r with
    | nil => rfl
    | cons y r =>
      show toS x ++ toS sep ++ Str.join (toS sep) ((y :: r).map toS) = toS (x ++ sep ++ joinS sep (y :: r))
      rw [ih, toS_append, toS_append]
theorem mth_join : MtR X "str.join" (rdM .join) := by
  refine MtR.cases fun x xs H Q ⟨S, C, c, w, w2, v, y, B, ex, l, l2, e, q⟩ => ⟨_, mt_join, ?_⟩
  subst ex
  cases w <;> first | (cases e; done) | skip
  rename_i sep
  have key : ∀ {ws : List W} {us : List V} {p : Addr}, (allStr? ws).bind (fun ss => if (ss.map List.length).sum + ss.length * sep.length ≤ sizeL then some (Val.w (.str (joinS sep ss))) else none) = some v → Reps S C ws us → y = .ref p → (SqL X.K H p us ∨ SqT X.K H p us) →
      ∃ a p, ∃ ys : List Str, x = .str a ∧ [y] = [.ref p] ∧ (SqL X.K H p (ys.map V.str) ∨ SqT X.K H p (ys.map V.str)) ∧ (ys.map (·.length)).sum + ys.length * a.length ≤ 16777216 ∧ Q (.str (Txt.join a ys)) H := by
    intro ws us p e r ey sq
    obtain ⟨ss, h1, h2⟩ := Option.bind_eq_some_iff.mp e
    by_cases hz : (ss.map List.length).sum + ss.length * sep.length ≤ sizeL
    case neg => rw [if_neg hz] at h2; cases h2
    rw [if_pos hz] at h2
    cases h2
    have hu := r.strs h1
    subst hu
    refine ⟨toS sep, p, ss.map toS, l.str, by rw [ey], sq, ?_, ?_⟩
    · rw [List.map_map, List.length_map, toS_len]
      have : ((fun x => x.length) ∘ toS) = (List.length : List Nat → Nat) := by funext s; exact toS_len s
      rw [this]
      exact hz
    · rw [glued_join]
      exact q.str B
  cases w2 <;> first | (cases e; done) | skip
  · obtain ⟨p, us, ey, rd, _, r⟩ := l2.tup B
    exact key e r ey (.inr (Rd.sqT rd))
  · obtain ⟨p, us, ey, rd, r⟩ := l2.lst B
    exact key e r ey (.inl (Rd.sq rd))
theorem mth_index : MtR X "str.index" (fun x xs H Q => (∃ a, x = .str a) ∧ rdM .index x xs H Q) := by
  refine MtR.cases fun x xs H Q ⟨⟨ta, hta⟩, S, C, c, w, w2, v, y, B, ex, l, l2, e, q⟩ => ⟨_, mt_sindex, ?_⟩
  subst ex
  cases w <;> first | (cases e; done) | (rcases l with ⟨p, us, el, _⟩ | ⟨p, o, _, el, _⟩ <;> (rw [hta] at el; cases el; done)) | skip
  · rename_i s
    cases w2 <;> first | (cases e; done) | skip
    rename_i a
    obtain ⟨i, h1, h2⟩ := Option.map_eq_some_iff.mp (show (findS a s).map (fun i : Nat => Val.w (.int (i : Int))) = some v from e)
    subst h2
    refine ⟨_, _, i, [], l.str, by rw [l2.str], ?_, q.int B⟩
    rw [occ_findS, h1]; rfl
theorem mth_count : MtR X "str.count" (rdM .count) := by
  refine MtR.cases fun x xs H Q ⟨S, C, c, w, w2, v, y, B, ex, l, l2, e, q⟩ => ⟨_, mt_count, ?_⟩
  subst ex
  cases w <;> first | (cases e; done) | skip
  cases w2 <;> first | (cases e; done) | skip
  rename_i s a
  rcases a with _ | ⟨a, _ | ⟨a2, r⟩⟩ <;> first | (cases e; done) | skip
  cases e
  refine ⟨_, _, l.str, by rw [l2.str], ?_⟩
  have := occ_countS s a
  show Q (.int (((Builtin.Str.occurrences (toS s) (toS [a]) 0 (toS s).length ((toS s).length + 1)).length : Nat) : Int)) H
  rw [show toS [a] = ⟨#[a]⟩ from rfl, this]
  exact q.int B
theorem starts_toS (b a : List Nat) : Txt.startswith (toS b) (toS a) = a.isPrefixOf b := by
  unfold Txt.startswith
  rw [subAt_toS, toS_len, toS_len, Nat.zero_add, List.drop_zero]
  rw [Bool.eq_iff_iff, Bool.and_eq_true, prefix_iff, decide_eq_true_eq]
theorem ends_toS (b a : List Nat) : Txt.endswith (toS b) (toS a) = a.isSuffixOf b := by
  unfold Txt.endswith
  rw [subAt_toS, toS_len, toS_len, Nat.zero_add]
  rw [Bool.eq_iff_iff, Bool.and_eq_true, decide_eq_true_eq, List.isSuffixOf_iff_suffix, beq_iff_eq]
  constructor
  · rintro ⟨h1, h2⟩
    rw [List.suffix_iff_eq_drop]
    rw [List.take_of_length_le (by rw [List.length_drop]; omega)] at h2
    exact h2.symm
  · intro h
    refine ⟨h.length_le, ?_⟩
    rw [List.suffix_iff_eq_drop] at h
    rw [← h]
    simp
theorem mth_starts : MtR X "str.startswith" (rdM .startswith) := by
  refine MtR.cases fun x xs H Q ⟨S, C, c, w, w2, v, y, B, ex, l, l2, e, q⟩ => ⟨_, mt_startswith, ?_⟩
  subst ex
  cases w <;> first | (cases e; done) | skip
  cases w2 <;> first | (cases e; done) | skip
  cases e
  refine ⟨_, _, l.str, by rw [l2.str], ?_⟩
  rw [starts_toS]
  exact q.bl B
theorem mth_ends : MtR X "str.endswith" (rdM .endswith) := by
  refine MtR.cases fun x xs H Q ⟨S, C, c, w, w2, v, y, B, ex, l, l2, e, q⟩ => ⟨_, mt_endswith, ?_⟩
  subst ex
  cases w <;> first | (cases e; done) | skip
  cases w2 <;> first | (cases e; done) | skip
  cases e
  refine ⟨_, _, l.str, by rw [l2.str], ?_⟩
  rw [ends_toS]
  exact q.bl B
end
end Cw

end
section
set_option Elab.async false
set_option linter.all false
set_option maxRecDepth 100000
/-! Cw1l: methods as expressions, subscripts, slices, step ranges, comprehensions -/
namespace Cw
open PySem PySem.Spec PyProof.Rows L2

def mthB : Mth → Str → Bool
  | .join, n => decide (n = "join") | .index, n => decide (n = "index") | .count, n => decide (n = "count") | .startswith, n => decide (n = "startswith") | .endswith, n => decide (n = "endswith")
section
variable {X : Cx} {a b o : Expr} {ma mb mo : Slots → M Val} {pos p p2 apos : Pos} {x n : Str}
theorem meth_read {m : Mth} {r : V → List V → Hp → VK → Prop} (hr : ∀ x y H Q, (∃ a, x = .str a) → rdM m x [y] H Q → r x [y] H Q) {σ : L2.St} {H : Hp} {Q : VK}
    {S : Kn} {C : List Addr} {sl : Slots} {c : Cells} (R : Rel S C sl c σ H) (h : Okr ((mo sl >>= fun x => (ma sl >>= fun v => pure [] >>= fun ws => pure (v.get :: ws)) >>= fun ws => M.lift (methop m x.get ws)) c) (EndX S C H Q))
    (hl : Okr (mo sl c) fun v _ => ∀ xs, v.get ≠ .lst xs) : tM1 r (TX mo) (TX ma) σ H Q := by
  refine ⟨S, C, sl, c, R, ?_⟩
  obtain ⟨v, c1, e1, h1⟩ := (okr_bnd.mp h).get
  rw [e1] at hl ⊢
  have hl : ∀ xs, v.get ≠ .lst xs := hl
  show EndX S C H _ v c1
  intro S1 H1 x P1 k1 r1
  have h1 := okr_bnd.mp (okr_bnd.mp h1)
  obtain ⟨v2, c2, e2, h2⟩ := h1.get
  obtain ⟨u, e, q⟩ := okr_lift.mp (okr_ret.mp (okr_bnd.mp (okr_ret.mp (okr_bnd.mp h2))))
  have l := r1.lk
  have hx : ∃ a, x = .str a := by
    cases hv : v.get <;> rw [hv] at e l <;> first | (cases m <;> cases e; done) | (exact absurd hv (hl _)) | skip
    exact ⟨_, l.str⟩
  refine ⟨hx, S1, C, sl, c1, R.next P1 k1, ?_⟩
  rw [e2]
  exact fun S2 H2 y P2 k2 r2 => hr _ _ _ _ hx ⟨S2, C, c2, _, _, _, y, ⟨P2.sub, k2⟩, rfl, l.next P2, r2.lk, e, fun S3 H3 z P3 k3 r3 => q S3 H3 z ((P1.trans P2).trans P3) k3 (r3.back (fun b hb => P2.dom b (P1.dom b hb)))⟩
/-- only index is asked of lists -/
theorem meth_nol {m : Mth} {S : Kn} {C : List Addr} {sl : Slots} {c : Cells} {H : Hp} {Q : V → Hp → Prop} (hm : m ≠ .index) (h : Okr ((mo sl >>= fun x => (ma sl >>= fun v => pure [] >>= fun ws => pure (v.get :: ws)) >>= fun ws => M.lift (methop m x.get ws)) c) (EndX S C H Q)) : Okr (mo sl c) fun v _ => ∀ xs, v.get ≠ .lst xs := by
  refine (okr_bnd.mp h).imp fun v c1 h1 xs e => ?_
  obtain ⟨v2, c2, e2, h2⟩ := (okr_bnd.mp (okr_bnd.mp h1)).get
  obtain ⟨u, e3, q⟩ := okr_lift.mp (okr_ret.mp (okr_bnd.mp (okr_ret.mp (okr_bnd.mp h2))))
  rw [e] at e3
  cases m <;> first | exact absurd rfl hm | cases e3
theorem snd_index (hs : notStar a = true) (hbase : attributeBase o "index" X.env (eval o X.env) = eval o X.env) (hline : (apos.endLine == pos.line) = true) (ho : PE X o (TX mo)) (ha : PE X a (TX ma)) :
    PE X (.Call (.Attribute o "index" apos) [a] [] pos) (TX fun sl => mo sl >>= fun x => (ma sl >>= fun v => pure [] >>= fun ws => pure (v.get :: ws)) >>= fun ws => M.lift (methop .index x.get ws)) := by
  have st := star_ev (pos := pos) (env := X.env) hs
  refine PE.cases fun σ H Q ⟨S, C, sl, c, R, h⟩ => ?_
  obtain ⟨v, c1, e1, h1⟩ := (okr_bnd.mp h).get
  by_cases hl : ∃ xs, v.get = .lst xs
  · obtain ⟨xs, hl⟩ := hl
    refine ⟨_, pe_bm PySem.F.plainAttrs_list PySem.F.slot_list_index PySem.F.type_list_index mt_index ho (pa_cons ha pa_nil (star_cons hs)) hbase (by rw [star_cons hs]; rfl) hline (star_cons hs) rfl, S, C, sl, c, R, ?_⟩
    rw [e1]
    show EndX S C H _ v c1
    intro S1 H1 x P1 k1 r1
    obtain ⟨v2, c2, e2, h2⟩ := (okr_bnd.mp (okr_bnd.mp h1)).get
    obtain ⟨u, e3, q⟩ := okr_lift.mp (okr_ret.mp (okr_bnd.mp (okr_ret.mp (okr_bnd.mp h2))))
    have l := r1.lk
    rw [hl] at l e3
    have B1 : Bs S1 C c1 H1 := ⟨P1.sub, k1⟩
    obtain ⟨p, us, rfl, rd, rr⟩ := l.lst B1
    refine ⟨.inl ⟨rfl, _, Rd.sq rd⟩, S1, C, sl, c1, R.next P1 k1, ?_⟩
    rw [e2]
    show EndX S1 C H1 _ v2 c2
    intro S2 H2 y P2 k2 r2
    show rIndex X.K (.ref p) [y] H2 Q
    obtain ⟨z, hz⟩ : ∃ z, v2.get = .str z := by
      cases hv : v2.get <;> rw [hv] at e3 <;> first | (cases e3; done) | exact ⟨_, rfl⟩
    rw [hz] at e3
    obtain ⟨ss, e4, e5⟩ := Option.bind_eq_some_iff.mp (show ((allStr? xs).bind fun ss => (ss.findIdx? (· == z)).map fun (i : Nat) => Val.w (.int (i : Int))) = some u from e3)
    obtain ⟨j, e6, rfl⟩ := Option.map_eq_some_iff.mp e5
    obtain ⟨hj, h7, h8⟩ := List.findIdx?_eq_some_iff_getElem.mp e6
    have l2 := r2.lk
    rw [hz] at l2
    obtain rfl := l2.str
    have hu := rr.strs e4
    subst hu
    have B2 : Bs S2 C c2 H2 := ⟨P2.sub, k2⟩
    have rd2 : Rd H2 p (.lst ((ss.map toS).map V.str)) := by
      have nc : p ∉ C := fun m => by
        rcases l with ⟨p', us', e, hS, _⟩ | ⟨p', o', _, e, _, nc⟩
        · cases e
          have := k1.off p m
          rw [hS] at this
          cases this
        · cases e
          exact nc m
      rcases rd with rd | ⟨o', rd⟩
      · exact .inl (P2.fr p _ rd nc)
      · exact .inr ⟨o', P2.fr p _ rd nc⟩
    refine ⟨p, _, _, j, .str (toS ss[j]), rfl, rfl, Rd.sq rd2, rfl, ?_, ?_, ?_, fun m z' hm hz' => ?_, ?_⟩
    · rw [List.all_eq_true]
      intro x hx
      obtain ⟨a1, _, rfl⟩ := List.mem_map.mp hx
      rfl
    · rw [List.getElem?_map, List.getElem?_map, List.getElem?_eq_getElem hj]
      rfl
    · show (toS ss[j] == toS z) = true
      rw [toS_beq]
      exact h7
    · have hml : m < ss.length := by omega
      rw [List.getElem?_map, List.getElem?_map, List.getElem?_eq_getElem hml] at hz'
      cases hz'
      show (toS ss[m] == toS z) = false
      rw [toS_beq]
      exact Bool.eq_false_iff.mpr (h8 m hm)
    · exact q S2 H2 _ (P1.trans P2) k2 rfl
  · exact ⟨_, pe_m1 PySem.F.slot_str_index PySem.F.type_str_index mth_index ho ha st hbase hline, meth_read (fun _ _ _ _ hx h => ⟨hx, h⟩) R h (by
      rw [e1]
      exact fun xs e => hl ⟨xs, e⟩)⟩
theorem snd_meth {m : Mth} (hn : mthB m n = true) (hs : notStar a = true) (hbase : attributeBase o n X.env (eval o X.env) = eval o X.env) (hline : (apos.endLine == pos.line) = true) (ho : PE X o (TX mo)) (ha : PE X a (TX ma)) :
    PE X (.Call (.Attribute o n apos) [a] [] pos) (TX fun sl => mo sl >>= fun x => (ma sl >>= fun v => pure [] >>= fun ws => pure (v.get :: ws)) >>= fun ws => M.lift (methop m x.get ws)) := by
  have st := star_ev (pos := pos) (env := X.env) hs
  cases m
  · have e := of_decide_eq_true hn
    subst e
    exact (pe_m1 PySem.F.slot_str_join PySem.F.type_str_join mth_join ho ha st hbase hline).imp fun σ H Q ⟨S, C, sl, c, R, h⟩ => meth_read (fun _ _ _ _ _ h => h) R h (meth_nol (fun e => by cases e) h)
  · have e := of_decide_eq_true hn
    subst e
    exact snd_index hs hbase hline ho ha
  · have e := of_decide_eq_true hn
    subst e
    exact (pe_m1 PySem.F.slot_str_count PySem.F.type_str_count mth_count ho ha st hbase hline).imp fun σ H Q ⟨S, C, sl, c, R, h⟩ => meth_read (fun _ _ _ _ _ h => h) R h (meth_nol (fun e => by cases e) h)
  · have e := of_decide_eq_true hn
    subst e
    exact (pe_m1 PySem.F.slot_str_startswith PySem.F.type_str_startswith mth_starts ho ha st hbase hline).imp fun σ H Q ⟨S, C, sl, c, R, h⟩ => meth_read (fun _ _ _ _ _ h => h) R h (meth_nol (fun e => by cases e) h)
  · have e := of_decide_eq_true hn
    subst e
    exact (pe_m1 PySem.F.slot_str_endswith PySem.F.type_str_endswith mth_ends ho ha st hbase hline).imp fun σ H Q ⟨S, C, sl, c, R, h⟩ => meth_read (fun _ _ _ _ _ h => h) R h (meth_nol (fun e => by cases e) h)

/-! ### subscripts -/
theorem atI_eq {α : Type} {xs : List α} {i : Int} {x : α} (h : Cw.atI xs i = some x) : L2.atI xs i = some x := by
  unfold Cw.atI Cw.ixN at h
  unfold L2.atI L2.ixN
  by_cases h0 : 0 ≤ i
  · rw [if_pos h0]
    by_cases h1 : i < xs.length
    · rw [if_pos ⟨h0, h1⟩] at h; rw [if_pos h1]; exact h
    · rw [if_neg (fun z => h1 z.2), if_neg (fun z => by omega)] at h; cases h
  · rw [if_neg h0]
    rw [if_neg (fun z => h0 z.1)] at h
    by_cases h1 : i < 0 ∧ 0 ≤ i + xs.length
    · rw [if_pos h1] at h; rw [if_pos (by omega)]; exact h
    · rw [if_neg h1] at h; cases h
theorem atI_reps {S : Kn} {C : List Addr} {ws : List W} {us : List V} {i : Int} {w : W} (r : Reps S C ws us) (h : Cw.atI ws i = some w) : ∃ v, L2.atI us i = some v ∧ Rep S C w v := by
  have h2 := atI_eq h
  unfold L2.atI at h2 ⊢
  obtain ⟨j, h3, h4⟩ := Option.bind_eq_some_iff.mp h2
  obtain ⟨v, h5, h6⟩ := r.get h4
  exact ⟨v, by rw [r.length, h3]; exact h5, h6⟩
def rdI : R2 := fun x y H Q => ∃ S C c w w2 v, Bs S C c H ∧ Lk S C H w x ∧ Lk S C H w2 y ∧ getitem c w w2 = some v ∧ EndX S C H Q (.w v) c
theorem snd_ix : IxR X rdI := by
  refine IxR.cases fun x y H Q ⟨S, C, c, w, w2, v, B, l, l2, e, q⟩ => ?_
  cases w <;> first | (cases e; done) | skip
  · cases w2 <;> first | (cases e; done) | skip
    rename_i s i
    have e : (if s.length ≤ sizeL then (Cw.atI s i).map (fun x => W.str [x]) else none) = some v := e
    by_cases hz : s.length ≤ sizeL
    case neg => rw [if_neg hz] at e; cases e
    rw [if_pos hz] at e
    obtain ⟨ch, h1, h2⟩ := Option.map_eq_some_iff.mp e
    subst h2
    refine ⟨_, ix_str, toS s, i, ch, l.str, l2.int, by rw [toS_len, ← sizeL_eq]; exact hz, ?_, q.str B⟩
    have := atI_eq h1
    simpa [toS] using this
  · cases w2 <;> first | (cases e; done) | skip
    obtain ⟨p, us, rfl, rd, _, r⟩ := l.tup B
    obtain ⟨z, h1, h2⟩ := atI_reps r e
    exact ⟨_, ix_tup, p, us, _, z, rfl, l2.int, Rd.sqT rd, h1, q.now B h2⟩
  · cases w2 <;> first | (cases e; done) | skip
    obtain ⟨p, us, rfl, rd, r⟩ := l.lst B
    obtain ⟨z, h1, h2⟩ := atI_reps r e
    exact ⟨_, ix_list, p, us, _, z, rfl, l2.int, Rd.sq rd, h1, q.now B h2⟩
  · cases w2 <;> first | (cases e; done) | skip
    rename_i n i
    obtain ⟨L, h1, h2⟩ := Option.bind_eq_some_iff.mp (show (c[n]?).bind (fun xs => Cw.atI xs i) = some v from e)
    rcases l with ⟨p, hp, rfl⟩ | ⟨_, _, e, _⟩
    · obtain ⟨us, hu, r⟩ := B.cells.at_ n p L hp h1
      obtain ⟨z, h3, h4⟩ := atI_reps r h2
      exact ⟨_, ix_list, p, us, _, z, rfl, l2.int, Rd.sq (.inl hu), h3, q.now B h4⟩
    · exact e.elim
theorem snd_sub (hs : PlainIx b) (ha : PE X a (TX ma)) (hb : PE X b (TX mb)) : PE X (.Subscript a b pos) (TX fun sl => ma sl >>= fun x => mb sl >>= fun y => fun c => M.lift ((getitem c x.get y.get).map .w) c) := by
  refine (pe_ix snd_ix ha hb hs).imp fun σ H Q ⟨S, C, sl, c, R, h⟩ => ?_
  refine tx_bind (f := fun x sl => mb sl >>= fun y => fun c => M.lift ((getitem c x.get y.get).map .w) c) R h fun v c1 S1 H1 x P1 k1 R1 r1 h1 => ?_
  refine tx_bind (f := fun y sl => fun c => M.lift ((getitem c v.get y.get).map .w) c) R1 h1 fun v2 c2 S2 H2 y P2 k2 R2 r2 h2 => ?_
  obtain ⟨u, e, q⟩ := okr_lift.mp h2
  obtain ⟨z, e1, e2⟩ := Option.map_eq_some_iff.mp e
  subst e2
  exact ⟨S2, C, c2, _, _, z, R2.bs, r1.lk.next P2, r2.lk, e1, q⟩
def plainIxB : Expr → Bool
  | .Slice _ _ _ _ => false
  | _ => true

/-! ### slices -/
theorem sIx_eq (n d : Nat) (o : Option Int) : Cw.sIx n d o = HT.sIx n d o := by cases o <;> rfl
theorem cut_eq (xs : List V) (lo hi : Option Int) : Cw.cut xs lo hi = cutV xs lo hi := by
  unfold Cw.cut cutV
  rw [sIx_eq, sIx_eq]
theorem cut_reps {S : Kn} {C : List Addr} {ws : List W} {us : List V} {lo hi : Option Int} (r : Reps S C ws us) : Reps S C (Cw.cut ws lo hi) (cutV us lo hi) := by
  rw [← cut_eq]
  unfold Cw.cut
  rw [r.length]
  exact (r.drop _).take _
def rdS : V → Option Int → Option Int → Hp → VK → Prop := fun x lo hi H Q => ∃ S C c w v, Bs S C c H ∧ Lk S C H w x ∧ slice w lo hi = some v ∧ EndX S C H Q v c
theorem snd_slR : L2.SlR X rdS := by
  refine SlR.cases fun x lo hi H Q ⟨S, C, c, w, v, B, l, e, q⟩ => ?_
  cases w <;> first | (cases e; done) | skip
  · rename_i s
    have e : (if s.length ≤ sizeL then some (Val.w (.str (Cw.cut s lo hi))) else none) = some v := e
    by_cases hz : s.length ≤ sizeL
    case neg => rw [if_neg hz] at e; cases e
    rw [if_pos hz] at e
    cases e
    refine ⟨_, sl_str, toS s, l.str, by rw [toS_len, ← sizeL_eq]; exact hz, ?_⟩
    have : cutS (toS s) lo hi = toS (Cw.cut s lo hi) := by
      unfold cutS Cw.cut
      rw [sIx_eq, sIx_eq, toS_len]
      rfl
    rw [this]
    exact q.str B
  · cases e
    obtain ⟨p, us, rfl, rd, hS, r⟩ := l.tup B
    refine ⟨_, sl_tupA, p, us, rfl, Rd.sqT rd, fun hw => q.now B ⟨p, us, rfl, hS, ?_⟩, fun _ p hp => q.tuple B (cut_reps r) hp⟩
    have : cutV us lo hi = us := by
      unfold cutV
      rw [hw.1, hw.2, List.drop_zero, Nat.sub_zero, List.take_length]
    have r2 := cut_reps (lo := lo) (hi := hi) r
    rw [this] at r2
    exact r2
  · cases e
    obtain ⟨p, us, rfl, rd, r⟩ := l.lst B
    exact ⟨_, sl_list, p, us, rfl, Rd.sq rd, fun p hp => q.list B (cut_reps r) hp⟩
theorem snd_onil : PO X none (TOp fun _ => pure none) := po_none.imp fun σ H Q ⟨S, C, sl, c, R, h⟩ => okr_ret.mp h S H (Post.refl R.sub) R.cells
theorem snd_osome (ha : PE X a (TX ma)) : PO X (some a) (TOp fun sl => ma sl >>= fun v => M.lift v.get.int? >>= fun i => pure (some i)) := by
  refine (po_some ha).imp fun σ H Q ⟨S, C, sl, c, R, h⟩ => ⟨S, C, sl, c, R, (okr_bnd.mp h).imp fun v c1 h1 S1 H1 x P1 k1 r1 => ?_⟩
  obtain ⟨i, e, h2⟩ := okr_lift.mp (okr_bnd.mp h1)
  exact ⟨i, get_int r1 e, okr_ret.mp h2 S1 H1 P1 k1⟩
theorem snd_slc {lo hi : Option Expr} {ml mh : Slots → M (Option Int)} (ha : PE X a (TX ma)) (hl : PO X lo (TOp ml)) (hh : PO X hi (TOp mh)) :
    PE X (.Subscript a (.Slice lo hi none p) pos) (TX fun sl => ma sl >>= fun x => ml sl >>= fun i => mh sl >>= fun j => M.lift (slice x.get i j)) := by
  refine (pe_slice snd_slR ha hl hh).imp fun σ H Q ⟨S, C, sl, c, R, h⟩ => ?_
  refine ⟨S, C, sl, c, R, (okr_bnd.mp h).imp fun v c1 h1 S1 H1 x P1 k1 r1 => ?_⟩
  refine ⟨S1, C, sl, c1, R.next P1 k1, (okr_bnd.mp h1).imp fun i c2 h2 S2 H2 P2 k2 => ?_⟩
  refine ⟨S2, C, sl, c2, (R.next P1 k1).next P2 k2, (okr_bnd.mp h2).imp fun j c3 h3 S3 H3 P3 k3 => ?_⟩
  obtain ⟨u, e, q⟩ := okr_lift.mp h3
  have P := (P1.trans P2).trans P3
  exact ⟨S3, C, c3, _, u, ⟨P3.sub, k3⟩, (r1.lk.next P2).next P3, e, fun S4 H4 z P4 k4 r4 => q S4 H4 z (P.trans P4) k4 (r4.back P.dom)⟩

/-! ### step ranges -/
theorem walk_rngC {S : Kn} {Fx : Addr → HO → Prop} {C : List Addr} {lo k : Int} {n : Nat} : Gv S Fx C (Itc lo k n) (rangeW lo k n) := by
  have w := walk_rangeC (lo := lo) (c := k) (n := n)
  unfold Gv
  rw [rangeW_len]
  refine w.mono (fun H h => trivial) fun i H x H' hi _ y => ?_
  obtain ⟨e, hx⟩ := y
  subst e hx
  exact ⟨_, rangeW_get _ _ _ _ hi, .inl ⟨rfl, rfl⟩⟩
theorem snd_rng3 {d tg : Expr} {md : Slots → M Val} {st : Bool} (hg : Gl X "range") (hm : X.mg "range" = none) (hs : notStar a = true) (hs2 : notStar b = true) (hs3 : notStar d = true) (ha : PE X a (TX ma)) (hb : PE X b (TX mb)) (hd : PE X d (TX md)) :
    PI X tg (.Call (.Name "range" p) [a, b, d] [] pos) (TIx (fun sl => ma sl >>= fun x => mb sl >>= fun y => md sl >>= fun z => M.lift x.get.int? >>= fun i => M.lift y.get.int? >>= fun j => M.lift z.get.int? >>= fun k =>
      if (bound62 i && bound62 j && decide (k = -1)) = true then pure (rangeW i k (i - j).toNat) else M.no) st) := by
  refine (pi_range3 hg hm (pa_cons ha (pa_cons hb (pa_cons hd pa_nil (star_cons hs3)) (star_cons hs2)) (star_cons hs)) (star_cons hs) (star_plain (by simp [hs2, hs3]))).imp fun σ H R ⟨S, C, sl, c, RR, h⟩ => ?_
  refine ⟨S, C, sl, c, RR, (okr_bnd.mp h).imp fun v c1 h1 S1 H1 x P1 k1 r1 => ?_⟩
  refine ⟨S1, C, sl, c1, RR.next P1 k1, (okr_bnd.mp h1).imp fun v2 c2 h2 S2 H2 y P2 k2 r2 => ?_⟩
  refine ⟨S2, C, sl, c2, (RR.next P1 k1).next P2 k2, (okr_bnd.mp h2).imp fun v3 c3 h3 S3 H3 z P3 k3 r3 => ?_⟩
  obtain ⟨i, e1, h4⟩ := okr_lift.mp (okr_bnd.mp h3)
  obtain ⟨j, e2, h5⟩ := okr_lift.mp (okr_bnd.mp h4)
  obtain ⟨k, e3, h6⟩ := okr_lift.mp (okr_bnd.mp h5)
  rcases okr_if h6 with ⟨hb, h6⟩ | ⟨_, h6⟩
  · simp only [Bool.and_eq_true, decide_eq_true_eq] at hb
    have b1 := bound62_of hb.1.1
    have b2 := bound62_of hb.1.2
    have hk := hb.2
    subst hk
    rw [get_int r1 e1, get_int r2 e2, get_int r3 e3]
    exact ⟨i, j, -1, (i - j).toNat, rfl, RgC.neg b1.1 b1.2 b2.1 b2.2, okr_ret.mp h6 S3 H3 _ _ ((P1.trans P2).trans P3) k3 (fx_kn ⟨P3.sub, k3⟩) walk_rngC⟩
  · exact h6.elim

end
end Cw

end
section
set_option Elab.async false
set_option linter.all false
set_option maxRecDepth 100000
/-! Cw1m: x[::-1] of lists, tuples, texts; sorted; sets -/
namespace Cw
open PySem PySem.Spec PyProof.Rows L2

/-- a value backwards: the slice object stands at z -/
def RevR (X : Cx) (r : V → Hp → VK → Prop) : Prop :=
  ∀ (pins : List (Addr × Obj)) (s : Shared) (σ : L2.St) (H : Hp) (x : V) (v : Value) (tk : Tok) (z : Addr) (Q : VK), Inv X pins σ H s → RelV x v → s.heap.IsSliceOf z .none .none (.int (-1) tk) → r x H Q →
    ∃ T id, typeLookup (.type T) "__getitem__" = pure (some (.builtin id)) ∧ s.TypeIs v T ∧ wpAny (model X.prog X.w) X.A (getItem v (.ref z)) (EP X pins σ Q) X.xe s
theorem RevR.cases {X : Cx} {r : V → Hp → VK → Prop} (i : ∀ x H Q, r x H Q → ∃ r', RevR X r' ∧ r' x H Q) : RevR X r := fun pins s σ H x v tk z Q I rx hz q => by
  obtain ⟨r', h, q'⟩ := i x H Q q
  exact h pins s σ H x v tk z Q I rx hz q'
section
variable {X : Cx}
theorem pe_back {e : Expr} {te : TE} {r : V → Hp → VK → Prop} {k : Nat} {p1 p2 p3 pos : Pos} (hr : RevR X r) (he : PE X e te) :
    PE X (.Subscript e (.Slice none none (some (.UnaryOp .USub (.Constant (.int 1) k p1) p2)) p3) pos) (fun σ H Q => te σ H fun x H1 => r x H1 Q) := by
  refine ⟨fun pins s σ H Q I h => Subscript_ (thn (he.run pins s σ H _ I h) fun v s1 ⟨x, H1, I1, rx, hx⟩ => ?_)⟩
  have one : PO X (some (.UnaryOp .USub (.Constant (.int 1) k p1) p2)) (tPart (tUn (rU fun i => .int (-i)) (tC (.int 1)))) := po_some (pe_un un_neg pe_int)
  refine wpAny_Slice (thn (po_none.run pins s1 σ H1 (fun o H2 => o = none ∧ H2 = H1) I1 ⟨rfl, rfl⟩) fun va s2 ⟨oa, H2, I2, pa, ea, e2⟩ => ?_)
  subst ea e2
  refine thn (po_none.run pins s2 σ H2 (fun o H3 => o = none ∧ H3 = H2) I2 ⟨rfl, rfl⟩) fun vb s3 ⟨ob, H3, I3, pb, eb, e3⟩ => ?_
  subst eb e3
  refine thn (one.run pins s3 σ H3 (fun o H4 => o = some (-1) ∧ H4 = H3) I3 ⟨1, rfl, -1, rfl, rfl, rfl⟩) fun vc s4 ⟨oc, H4, I4, pc, ec, e4⟩ => ?_
  subst ec e4
  cases pa
  cases pb
  cases pc with
  | int _ tk =>
    have I5 : Inv X pins σ H4 { s4 with heap := s4.heap.push { cls := .type "slice", data := .fields #[.none, .none, .int (-1) tk] } } := I4.kept (t' := s4.toks) fun b o hb => Heap.get?_push_of_some _ hb
    obtain ⟨T, id, hT, ht, hg⟩ := hr pins _ σ H4 x v tk s4.heap.objs.size Q I5 rx (Heap.IsSliceOf.new _ .none .none (.int (-1) tk)) hx
    show wpAny (model X.prog X.w) X.A (subscriptTail e (.Slice none none (some (.UnaryOp .USub (.Constant (.int 1) k p1) p2)) p3) v (.ref s4.heap.objs.size)) (EP X pins σ Q) X.xe { s4 with heap := s4.heap.push { cls := .type "slice", data := .fields #[.none, .none, .int (-1) tk] } }
    exact tail_any (ops := [v, .ref s4.heap.objs.size]) ht hT hg (by with_unfolding_all rfl)
theorem back_list : RevR X (fun x H Q => ∃ a xs, x = .ref a ∧ SqL X.K H a xs ∧ ∀ p, H p = none → Q (.ref p) (upd H p (.lst xs.reverse))) := by
  rintro pins s σ H x v tk z Q I rx hz ⟨a, xs, rfl, hx, q⟩
  cases rx
  obtain ⟨its, r, ht, hl⟩ := I.list hx
  have hn := r.length
  refine ⟨"list", _, PySem.slot_list_getitem.lookup, ht.isList.typeIs, wpAny_getItem_list_slice ht.isList hz .none .none (.int (-1) tk) (by decide) ?_ (by rw [List.size_toArray]; omega)⟩
  rw [PySem.W.krv_pick]
  refine ⟨.ref _, _, I.laid (t' := s.toks) (o := .lst xs.reverse) (fun b o hb => Heap.get?_push_of_some _ hb) (Nat.le_refl _) ?_, rfl, q _ (I.hok.fresh (Nat.le_refl _))⟩
  exact ⟨by rw [List.length_reverse]; exact hl, _, 0, r.reverse, Heap.get?_push_size _ rfl⟩
theorem back_str : RevR X (fun x H Q => ∃ y, x = .str (toS y) ∧ y.length ≤ sizeL ∧ Q (.str (toS y.reverse)) H) := by
  rintro pins s σ H x v tk z Q I rx hz ⟨y, rfl, hy, q⟩
  obtain ⟨t, rfl⟩ := rx
  obtain ⟨os, h1, h2, h3⟩ := hz
  refine ⟨"str", _, F.slot_str_getitem.lookup, typeIs_str _ _ _, wpAny_getItem_str_slice (l := none) (u := none) (st := some (-1, tk)) ⟨os, h1, h2, h3⟩ rfl ?_⟩
  have e : Builtin.Str.strSliceIndices none none (-1) (toS y).length = (List.range y.length).reverse := by
    show sliceRange (((toS y).length : Int) - 1) (-1) (-1) = _
    rw [toS_len, PySem.W.krv_sliceRange, PySem.W.krv_range]
  show Made.post (if (((-1 : Int) == 1) && (Builtin.Str.strSliceIndices none none (-1) (toS y).length).length == (toS y).length) = true then Made.val (.str (toS y) t)
    else Made.str ⟨((Builtin.Str.strSliceIndices none none (-1) (toS y).length).filterMap ((toS y).cps[·]?)).toArray⟩) (EP X pins σ Q) s
  rw [if_neg (by simp), e]
  have e2 : ((List.range y.length).reverse.filterMap ((toS y).cps[·]?)).toArray = (y.reverse).toArray := by
    rw [List.filterMap_reverse]
    have := PySem.W.krv_all (toS y).cps
    rw [show (toS y).cps.size = y.length from by simp [toS]] at this
    rw [this]
    simp [toS]
  rw [e2]
  exact ⟨by show y.reverse.toArray.size ≤ sizeLine; simp [← sizeL_eq]; exact hy, .str _, H, I.tok _, ⟨_, rfl⟩, q⟩
theorem back_step (n : Nat) : Builtin.Slice.sliceAdjust none none (-1) (n : Int) = ((n : Int) - 1, -1) ∧ Builtin.Slice.slicePlaces ((n : Int) - 1) (-1) (-1) = n := by
  refine ⟨rfl, ?_⟩
  unfold Builtin.Slice.slicePlaces
  simp only [show ¬ ((-1 : Int) > 0) by decide, if_false, show (-(-1) : Int) = 1 from rfl, Int.ediv_one]
  split <;> omega
theorem fm_congr {α β : Type} {f g : α → Option β} : ∀ {l : List α}, (∀ x ∈ l, f x = g x) → l.filterMap f = l.filterMap g
  | [], _ => rfl
  | x :: l, h => by
    rw [List.filterMap_cons, List.filterMap_cons, h x List.mem_cons_self, fm_congr fun y hy => h y (List.mem_cons_of_mem _ hy)]
theorem back_pick (its : Array Value) : ((List.range its.size).filterMap fun (m : Nat) => its[((its.size : Int) - 1 + (m : Int) * -1).toNat]?).toArray = its.toList.reverse.toArray := by
  have e : (List.range its.size).filterMap (fun (m : Nat) => its[((its.size : Int) - 1 + (m : Int) * -1).toNat]?) = ((List.range its.size).map fun m => its.size - 1 - m).filterMap (its[·]?) := by
    rw [List.filterMap_map]
    refine fm_congr fun m hm => ?_
    have := List.mem_range.mp hm
    have e1 : ((its.size : Int) - 1 + (m : Int) * -1).toNat = its.size - 1 - m := by omega
    show its[((its.size : Int) - 1 + (m : Int) * -1).toNat]? = its[its.size - 1 - m]?
    rw [e1]
  rw [e, PySem.W.krv_range, List.filterMap_reverse, PySem.W.krv_all]
section
variable {prog : Program} {w : World} {A : Around} {E : Value → Shared → Prop} {s : Shared}
theorem sliceApplied_back {z : Addr} {tk : Tok} {n : Nat} {Q : Int × Int × Nat → Shared → Prop} (hs : s.heap.IsSliceOf z .none .none (.int (-1) tk)) (h : Q ((n : Int) - 1, -1, n) s) :
    wpAny (model prog w) A (Builtin.Slice.sliceApplied (.ref z) (pure (n : Int))) Q E s := by
  obtain ⟨os, ho, _, hd⟩ := id hs
  unfold Builtin.Slice.sliceApplied Builtin.Slice.sliceFields
  refine wpAny_bind (wpAny_bind (wpAny_field ho hd (x := .none) rfl (wpAny_bind (wpAny_field ho hd (x := .none) rfl (wpAny_bind (wpAny_field ho hd (x := .int (-1) tk) rfl (wpAny_pure ?_)))))))
  refine wpAny_bind (slicePart_int ?_)
  show wpAny _ _ (if ((-1 : Int) == 0) = true then _ else _) _ _ s
  rw [if_neg (by decide)]
  refine wpAny_bind (slicePart_none (wpAny_bind (slicePart_none (wpAny_bind (wpAny_pure ?_)))))
  show wpAny _ _ (pure ((n : Int) - 1, (-1 : Int), Builtin.Slice.slicePlaces ((n : Int) - 1) (-1) (-1))) _ _ s
  rw [(back_step n).2]
  exact wpAny_pure h
theorem getItem_tuple_back {t z : Addr} {its : Array Value} {tk : Tok} {Q : Value → Shared → Prop} (ht : IsTup s.heap t its) (hz : s.heap.IsSliceOf z .none .none (.int (-1) tk))
    (h : Q (.ref s.heap.objs.size) { s with heap := s.heap.push { cls := .type "tuple", data := .seq its.toList.reverse.toArray } }) (hl : its.size ≤ sizeLine) : wpAny (model prog w) A (getItem (.ref t) (.ref z)) Q E s := by
  have fits : sizeOk (.seq its.toList.reverse.toArray) := by
    show its.toList.reverse.toArray.size ≤ sizeLine
    simpa using hl
  obtain ⟨os, ho, hc, hd⟩ := id hz
  have ty : s.TypeIs (.ref z) "slice" := ⟨os, ho, hc⟩
  unfold getItem
  try with_reducible refine wpAny_holding ?_
  first | refine wpAny_bind (wpAny_pure ?_) | skip
  refine wpAny_bind (wpAny_sequenceKey ht.typeIs (by decide) ?_)
  refine wpAny_bind (wpAny_callSpecial?_slot (name := Str.ofString "__getitem__") ht.typeIs PyProof.Rows.slot_tuple_getitem
    (wpAny_call_entry PyProof.Rows.slot_tuple_getitem ht.typeIs entry_tuple_getitem ?_ (args_tuple_getitem _ _)))
  show wpAny _ _ (Builtin.Tuple.tupleItemsOf (.ref t) >>= _) _ _ s
  refine wpAny_bind (tupleItemsOf_ ht (wpAny_bind (wpAny_typeOf ty ?_)))
  rw [if_pos (by decide)]
  refine wpAny_bind (sliceApplied_back hz ?_)
  have no : ¬ ((((its.size : Int) - 1 == 0) && ((-1 : Int) == 1) && (its.size == its.size)) = true) := by simp
  show wpAny _ _ (if (((its.size : Int) - 1 == 0) && ((-1 : Int) == 1) && (its.size == its.size)) = true then _ else _) _ _ s
  rw [if_neg no, back_pick]
  first
    | exact wpAny_bind (m := Builtin.Tuple.tupleExact _) (wpAny_newObj_type (wpAny_pure ⟨_, rfl, wpAny_pure h⟩) fits)
    | exact wpAny_bind (m := Builtin.Tuple.tupleExact _) (wpAny_newObj_type (wpAny_bind (wpAny_pure (wpAny_pure ⟨_, rfl, wpAny_pure h⟩))) fits)
    | exact wpAny_bind (wpAny_bind (m := Builtin.Tuple.tupleExact _) (wpAny_newObj_type (wpAny_pure (wpAny_pure ⟨_, rfl, wpAny_pure h⟩)) fits))
    | exact wpAny_bind (wpAny_bind (m := Builtin.Tuple.tupleExact _) (wpAny_newObj_type (wpAny_pure ⟨_, rfl, wpAny_pure h⟩) fits))
end
theorem back_tup : RevR X (fun x H Q => ∃ a xs, x = .ref a ∧ SqT X.K H a xs ∧ ∀ p, H p = none → Q (.ref p) (upd H p (.tup xs.reverse))) := by
  rintro pins s σ H x v tk z Q I rx hz ⟨a, xs, rfl, hx, q⟩
  cases rx
  obtain ⟨its, r, ht, hl⟩ := I.tuple hx
  have hn := r.length
  refine ⟨"tuple", _, PyProof.Rows.slot_tuple_getitem.lookup, ht.typeIs, getItem_tuple_back ht hz ?_ (by rw [List.size_toArray]; omega)⟩
  refine ⟨.ref _, _, I.laid (t' := s.toks) (o := .tup xs.reverse) (fun b o hb => Heap.get?_push_of_some _ hb) (Nat.le_refl _) ?_, rfl, q _ (I.hok.fresh (Nat.le_refl _))⟩
  exact ⟨by rw [List.length_reverse]; exact hl, _, r.reverse, IsTup.new _ _⟩
def rdRev : V → Hp → VK → Prop := fun x H Q => ∃ S C c w v, Bs S C c H ∧ Lk S C H w x ∧ backw w = some v ∧ EndX S C H Q v c
theorem snd_back : RevR X rdRev := by
  refine RevR.cases fun x H Q ⟨S, C, c, w, v, B, l, e, q⟩ => ?_
  cases w <;> first | (cases e; done) | skip
  · rename_i s
    have e : (if s.length ≤ sizeL then some (Val.w (.str s.reverse)) else none) = some v := e
    by_cases hz : s.length ≤ sizeL
    case neg => rw [if_neg hz] at e; cases e
    rw [if_pos hz] at e
    cases e
    exact ⟨_, back_str, s, l.str, hz, q.str B⟩
  · cases e
    obtain ⟨p, us, rfl, rd, hS, r⟩ := l.tup B
    exact ⟨_, back_tup, p, us, rfl, Rd.sqT rd, fun p hp => q.tuple B r.reverse hp⟩
  · cases e
    obtain ⟨p, us, rfl, rd, r⟩ := l.lst B
    exact ⟨_, back_list, p, us, rfl, Rd.sq rd, fun p hp => q.list B r.reverse hp⟩
theorem snd_rev {a : Expr} {ma : Slots → M Val} {k : Nat} {p1 p2 p3 pos : Pos} (ha : PE X a (TX ma)) :
    PE X (.Subscript a (.Slice none none (some (.UnaryOp .USub (.Constant (.int 1) k p1) p2)) p3) pos) (TX fun sl => ma sl >>= fun x => M.lift (backw x.get)) := by
  refine (pe_back snd_back ha).imp fun σ H Q ⟨S, C, sl, c, R, h⟩ => ?_
  refine tx_bind (f := fun x sl => M.lift (backw x.get)) R h fun v c1 S1 H1 x P1 k1 R1 r1 h1 => ?_
  obtain ⟨u, e, q⟩ := okr_lift.mp h1
  exact ⟨S1, C, c1, _, u, R1.bs, r1.lk, e, q⟩
end
end Cw

end
section
set_option Elab.async false
set_option linter.all false
set_option maxRecDepth 100000
/-! Cw2a: states of a def's body -/
namespace Cw
open PySem PySem.Spec PyProof.Rows L2

/-- at the entry: what was known, the cells, the heap -/
structure At0 where
  S : Kn
  C : List Addr
  H : Hp
/-- within a body -/
structure RelS (G : At0) (S : Kn) (C : List Addr) (sl : Slots) (c : Cells) (σ : L2.St) (H : Hp) : Prop where
  rel : Rel S C sl c σ H
  le : Le G.S S
  new : ∀ b, S b ≠ none → G.S b ≠ none ∨ G.H b = none
  fr : ∀ b o, G.H b = some o → b ∉ G.C → H b = some o
  dom : ∀ b, G.H b ≠ none → H b ≠ none
  ext : ∃ N, C = G.C ++ N
  cnew : ∀ p ∈ C, p ∉ G.C → G.H p = none
  onew : ∀ (i : Nat) w p, sl[i]? = some (.own w) → σ[i]? = some (some (.ref p)) → G.H p = none
  odis : ∀ (i j : Nat) w u p, sl[i]? = some (.own w) → sl[j]? = some (.own u) → σ[i]? = some (some (.ref p)) → σ[j]? = some (some (.ref p)) → i = j
/-- more is known, more cells -/
structure Up (S : Kn) (C : List Addr) (S' : Kn) (C' : List Addr) : Prop where
  le : Le S S'
  ext : ∃ N, C' = C ++ N
theorem Up.refl (S : Kn) (C : List Addr) : Up S C S C := ⟨Le.refl S, [], by simp⟩
theorem Up.of {S S' : Kn} {C : List Addr} (h : Le S S') : Up S C S' C := ⟨h, [], by simp⟩
theorem Up.trans {S S1 S2 : Kn} {C C1 C2 : List Addr} (a : Up S C S1 C1) (b : Up S1 C1 S2 C2) : Up S C S2 C2 := by
  obtain ⟨N, e⟩ := a.ext
  obtain ⟨M, e2⟩ := b.ext
  exact ⟨a.le.trans b.le, N ++ M, by rw [e2, e, List.append_assoc]⟩
theorem Up.rep {S S' : Kn} {C C' : List Addr} (u : Up S C S' C') {w : W} {v : V} (r : Rep S C w v) : Rep S' C' w v := by
  obtain ⟨N, e⟩ := u.ext
  exact r.mono u.le fun m a h => by
    rw [e, List.getElem?_append_left (List.getElem?_eq_some_iff.mp h).1]; exact h
theorem Up.reps {S S' : Kn} {C C' : List Addr} (u : Up S C S' C') {w : List W} {v : List V} (r : Reps S C w v) : Reps S' C' w v := by
  obtain ⟨N, e⟩ := u.ext
  exact r.mono u.le fun m a h => by
    rw [e, List.getElem?_append_left (List.getElem?_eq_some_iff.mp h).1]; exact h
section
variable {G : At0} {S S' : Kn} {C C' : List Addr} {sl sl' : Slots} {c c' : Cells} {σ σ' : L2.St} {H H' : Hp}
/-- behind an expression -/
theorem RelS.next (R : RelS G S C sl c σ H) (P : Post S C H S' H') (k : CellsOk S' C c' H') : RelS G S' C sl c' σ H' where
  rel := R.rel.next P k
  le := R.le.trans P.le
  new := fun b h => by
    rcases P.new b h with h | h
    · exact R.new b h
    · refine .inr ?_
      cases q : G.H b with
      | none => rfl
      | some o => exact absurd h (R.dom b (by rw [q]; exact fun z => by cases z))
  fr := fun b o e n => by
    have e1 := R.fr b o e n
    refine P.fr b o e1 fun m => ?_
    rw [R.cnew b m n] at e; cases e
  dom := fun b h => P.dom b (R.dom b h)
  ext := R.ext
  cnew := R.cnew
  onew := R.onew
  odis := R.odis
/-- other slots, the own lists as they were -/
theorem RelS.sub (R : RelS G S C sl c σ H) (r : Rel S C sl' c σ' H) (h : ∀ (j : Nat) u, sl'[j]? = some (.own u) → sl[j]? = some (.own u) ∧ σ'[j]? = σ[j]?) : RelS G S C sl' c σ' H where
  rel := r
  le := R.le
  new := R.new
  fr := R.fr
  dom := R.dom
  ext := R.ext
  cnew := R.cnew
  onew := fun i w p e e2 => by
    obtain ⟨a, b⟩ := h i w e
    exact R.onew i w p a (b ▸ e2)
  odis := fun i j w u p e1 e2 e3 e4 => by
    obtain ⟨a1, b1⟩ := h i w e1
    obtain ⟨a2, b2⟩ := h j u e2
    exact R.odis i j w u p a1 a2 (b1 ▸ e3) (b2 ▸ e4)
theorem own_at {i j : Nat} {s : Slot} {u : W} (e : (sl.set i s)[j]? = some (.own u)) : (j = i ∧ s = .own u) ∨ (j ≠ i ∧ sl[j]? = some (.own u)) := by
  by_cases h : i = j
  · subst h
    rw [List.getElem?_set, if_pos rfl] at e
    split at e <;> cases e
    exact .inl ⟨rfl, rfl⟩
  · rw [List.getElem?_set_ne h] at e
    exact .inr ⟨fun z => h z.symm, e⟩
/-- a value is put into a slot -/
theorem RelS.set (R : RelS G S C sl c σ H) {w : W} {x : V} (r : Rep S C w x) (i : Nat) : RelS G S C (sl.set i (.val w)) c (σ.set i (some x)) H :=
  R.sub (R.rel.set r i) fun j u e => by
    rcases own_at e with ⟨_, e2⟩ | ⟨hj, e2⟩
    · cases e2
    · exact ⟨e2, List.getElem?_set_ne fun z => hj z.symm⟩
theorem Rel.setOwn (R : Rel S C sl c σ H) {w : W} {ob : HO} {p : Addr} (hp : H p = some ob) (r : Pay S C w ob) (n : S p = none) (nc : p ∉ C) (i : Nat) : Rel S C (sl.set i (.own w)) c (σ.set i (some (.ref p))) H := by
  refine ⟨R.sub, R.cells, by simp [R.slen], fun j s e => ?_⟩
  by_cases hj : i = j
  · subst hj
    rw [List.getElem?_set, if_pos rfl] at e
    by_cases hl : i < sl.length
    · rw [if_pos hl] at e
      cases e
      exact ⟨p, ob, r, by rw [List.getElem?_set, if_pos rfl, if_pos (by rw [R.slen]; exact hl)], hp, n, nc⟩
    · rw [if_neg hl] at e
      cases e
  · rw [List.getElem?_set_ne hj] at e
    have := R.slot j s e
    rw [List.getElem?_set_ne hj]
    exact this
/-- a fresh list is put into a slot -/
theorem RelS.setOwn (R : RelS G S C sl c σ H) {w0 : W} {ob : HO} {p : Addr} (hp : H p = some ob) (r : Pay S C w0 ob) (n : S p = none) (nc : p ∉ C) (n0 : G.H p = none)
    (hd : ∀ (j : Nat) u, sl[j]? = some (.own u) → σ[j]? ≠ some (some (.ref p))) (i : Nat) : RelS G S C (sl.set i (.own w0)) c (σ.set i (some (.ref p))) H where
  rel := R.rel.setOwn hp r n nc i
  le := R.le
  new := R.new
  fr := R.fr
  dom := R.dom
  ext := R.ext
  cnew := R.cnew
  onew := fun j w q e e2 => by
    rcases own_at e with ⟨hj, e3⟩ | ⟨hj, e3⟩
    · subst hj
      rw [List.getElem?_set, if_pos rfl] at e2
      split at e2 <;> cases e2
      exact n0
    · rw [List.getElem?_set_ne fun z => hj z.symm] at e2
      exact R.onew j w q e3 e2
  odis := fun j l w u q e1 e2 e3 e4 => by
    rcases own_at e1 with ⟨hj, e5⟩ | ⟨hj, e5⟩
    · rcases own_at e2 with ⟨hl, e6⟩ | ⟨hl, e6⟩
      · rw [hj, hl]
      · subst hj
        rw [List.getElem?_set, if_pos rfl] at e3
        split at e3 <;> cases e3
        rw [List.getElem?_set_ne fun z => hl z.symm] at e4
        exact absurd e4 (hd l u e6)
    · rcases own_at e2 with ⟨hl, e6⟩ | ⟨hl, e6⟩
      · subst hl
        rw [List.getElem?_set, if_pos rfl] at e4
        split at e4 <;> cases e4
        rw [List.getElem?_set_ne fun z => hj z.symm] at e3
        exact absurd e3 (hd j w e5)
      · rw [List.getElem?_set_ne fun z => hj z.symm] at e3
        rw [List.getElem?_set_ne fun z => hl z.symm] at e4
        exact R.odis j l w u q e5 e6 e3 e4
/-- what was made behind the entry -/
theorem RelS.made (R : RelS G S C sl c σ H) {p : Addr} (h : H p = none) : G.H p = none := by
  cases q : G.H p with
  | none => rfl
  | some o => exact absurd h (R.dom p (by rw [q]; exact fun z => by cases z))
theorem RelS.live (R : RelS G S C sl c σ H) {p : Addr} (h : H p = none) : ∀ (j : Nat) u, sl[j]? = some (.own u) → σ[j]? ≠ some (some (.ref p)) := fun j u e e2 => by
  obtain ⟨q, o, _, e3, hq, _⟩ := R.rel.slot j _ e
  rw [e2] at e3
  cases e3
  rw [h] at hq; cases hq
/-- the answer of an expression becomes a slot's own list -/
theorem RelS.take (R : RelS G S C sl c σ H) {w : W} {x : V} {S1 : Kn} {H1 : Hp} {c1 : Cells} (P : Post S C H S1 H1) (k : CellsOk S1 C c1 H1) (q : VR S1 C H H1 (.own w) x) (i : Nat) : RelS G S1 C (sl.set i (.own w)) c1 (σ.set i (some x)) H1 := by
  obtain ⟨p, o, r, rfl, hp, n, nc, n0⟩ := q
  exact (R.next P k).setOwn hp r n nc (R.made n0) (R.live n0) i
/-- a fresh list becomes a cell -/
theorem RelS.cell (R : RelS G S C sl c σ H) {xs : List W} {x : V} {S1 : Kn} {H1 : Hp} {c1 : Cells} (P : Post S C H S1 H1) (k : CellsOk S1 C c1 H1) (q : VR S1 C H H1 (.own (.lst xs)) x) (i : Nat) :
    ∃ p, RelS G S1 (C ++ [p]) (sl.set i (.val (.cel c1.length))) (c1 ++ [xs]) (σ.set i (some x)) H1 := by
  obtain ⟨p, o, ⟨us, rfl, r⟩, rfl, hp, n, nc, n0⟩ := q
  have R1 := R.next P k
  have up : ∀ (m : Nat) a, C[m]? = some a → (C ++ [p])[m]? = some a := fun m a h => by
    rw [List.getElem?_append_left (List.getElem?_eq_some_iff.mp h).1]; exact h
  have hpc : ∀ (j : Nat) u, sl[j]? = some (.own u) → σ[j]? ≠ some (some (.ref p)) := R.live n0
  refine ⟨p, ?_⟩
  have RR : Rel S1 (C ++ [p]) sl (c1 ++ [xs]) σ H1 := by
    refine ⟨R1.rel.sub, ⟨by simp [k.len], ?_, ?_, ?_⟩, R1.rel.slen, fun j s e => ?_⟩
    · rw [List.nodup_append]
      exact ⟨k.nd, by simp, fun a ha b hb z => nc (by simp at hb; rw [← hb, ← z]; exact ha)⟩
    · intro a ha
      rcases List.mem_append.mp ha with ha | ha
      · exact k.off a ha
      · simp at ha; rw [ha]; exact n
    · intro m a L e1 e2
      by_cases hm : m < C.length
      · rw [List.getElem?_append_left hm] at e1
        rw [List.getElem?_append_left (by rw [← k.len]; exact hm)] at e2
        obtain ⟨u, h1, h2⟩ := k.at_ m a L e1 e2
        exact ⟨u, h1, h2.mono (Le.refl _) up⟩
      · have hm2 : m = C.length := by
          have := (List.getElem?_eq_some_iff.mp e1).1
          simp at this
          omega
        subst hm2
        rw [List.getElem?_append_right (Nat.le_refl _)] at e1
        rw [k.len, List.getElem?_append_right (Nat.le_refl _)] at e2
        simp at e1 e2
        subst e1 e2
        exact ⟨us, hp, r.mono (Le.refl _) up⟩
    · have s1 := R1.rel.slot j s e
      cases s with
      | none => trivial
      | val w => obtain ⟨v, a, b⟩ := s1; exact ⟨v, a, b.mono (Le.refl _) up⟩
      | own w =>
        obtain ⟨q, o2, a1, a2, a3, a5, a6⟩ := s1
        refine ⟨q, o2, a1.mono (Le.refl _) up, a2, a3, a5, fun m => ?_⟩
        rcases List.mem_append.mp m with m | m
        · exact a6 m
        · simp at m
          subst m
          exact hpc j w e a2
  have R2 : RelS G S1 (C ++ [p]) sl (c1 ++ [xs]) σ H1 := {
    rel := RR
    le := R1.le
    new := R1.new
    fr := R1.fr
    dom := R1.dom
    ext := by
      obtain ⟨N, e⟩ := R1.ext
      exact ⟨N ++ [p], by rw [e, List.append_assoc]⟩
    cnew := fun a ha hn => by
      rcases List.mem_append.mp ha with ha | ha
      · exact R1.cnew a ha hn
      · simp at ha; rw [ha]; exact R.made n0
    onew := R1.onew
    odis := R1.odis }
  exact R2.set (w := .cel c1.length) ⟨p, by rw [← k.len]; simp, rfl⟩ i
/-- an own list is known for good from now on -/
theorem RelS.freeze (R : RelS G S C sl c σ H) {i : Nat} {w : W} (h : sl[i]? = some (.own w)) : ∃ S', RelS G S' C (sl.set i (.val w)) c σ H ∧ Le S S' := by
  obtain ⟨p, ob, r, e, hp, n, nc⟩ := R.rel.slot i _ h
  have n0 := R.onew i _ p h e
  have le : Le S (upd S p ob) := fun a u e => by rw [upd_ne (ne_of_none e n)]; exact e
  have other : ∀ (j : Nat) u q, j ≠ i → sl[j]? = some (.own u) → σ[j]? = some (some (.ref q)) → q ≠ p := fun j u q hj e1 e2 z => by
    subst z
    exact hj (R.odis j i u _ q e1 h e2 e)
  have RR : Rel (upd S p ob) C (sl.set i (.val w)) c σ H := by
    refine ⟨fun b u eb => ?_, ⟨R.rel.cells.len, R.rel.cells.nd, fun b hb => ?_, fun m a L e1 e2 => ?_⟩, by simp [R.rel.slen], fun j s ej => ?_⟩
    · by_cases q : b = p
      · subst q; rw [upd_same] at eb; cases eb; exact .inl hp
      · rw [upd_ne q] at eb; exact R.rel.sub b u eb
    · have q : b ≠ p := fun z => nc (z ▸ hb)
      rw [upd_ne q]; exact R.rel.cells.off b hb
    · obtain ⟨u, h1, h2⟩ := R.rel.cells.at_ m a L e1 e2
      exact ⟨u, h1, h2.le le⟩
    · by_cases hj : i = j
      · subst hj
        rw [List.getElem?_set, if_pos rfl] at ej
        split at ej <;> cases ej
        exact ⟨.ref p, e, (r.le le).rep upd_same⟩
      · rw [List.getElem?_set_ne hj] at ej
        have s1 := R.rel.slot j s ej
        cases s with
        | none => trivial
        | val w => obtain ⟨v, a, b⟩ := s1; exact ⟨v, a, b.le le⟩
        | own w =>
          obtain ⟨q, o2, a1, a2, a3, a5, a6⟩ := s1
          have := other j w q (fun z => hj z.symm) ej a2
          exact ⟨q, o2, a1.le le, a2, a3, by rw [upd_ne this]; exact a5, a6⟩
  refine ⟨_, ⟨RR, R.le.trans le, fun b hb => ?_, R.fr, R.dom, R.ext, R.cnew, fun j u q e1 e2 => ?_, fun j l u v q e1 e2 e3 e4 => ?_⟩, le⟩
  · by_cases q : b = p
    · subst q; exact .inr n0
    · rw [upd_ne q] at hb; exact R.new b hb
  · rcases own_at e1 with ⟨_, z⟩ | ⟨_, z⟩
    · cases z
    · exact R.onew j u q z e2
  · rcases own_at e1 with ⟨_, z⟩ | ⟨_, z⟩
    · cases z
    · rcases own_at e2 with ⟨_, z2⟩ | ⟨_, z2⟩
      · cases z2
      · exact R.odis j l u v q z z2 e3 e4
/-- an own list is changed -/
theorem RelS.store (R : RelS G S C sl c σ H) {i : Nat} {w0 w1 : W} {ob ob' : HO} {p : Addr} (h : sl[i]? = some (.own w0)) (e : σ[i]? = some (some (.ref p))) (hp : H p = some ob) (r : Pay S C w1 ob') :
    RelS G S C (sl.set i (.own w1)) c σ (upd H p ob') := by
  obtain ⟨p', o2, r2, e2, hp2, n, nc⟩ := R.rel.slot i _ h
  rw [e] at e2
  cases e2
  have n0 := R.onew i _ p h e
  have other : ∀ (j : Nat) u q, j ≠ i → sl[j]? = some (.own u) → σ[j]? = some (some (.ref q)) → q ≠ p := fun j u q hj e1 e2 z => by
    subst z
    exact hj (R.odis j i u _ q e1 h e2 e)
  refine ⟨⟨fun b u eb => ?_, ⟨R.rel.cells.len, R.rel.cells.nd, R.rel.cells.off, fun m a L e1 e2 => ?_⟩, by simp [R.rel.slen], fun j s ej => ?_⟩, R.le, R.new, fun b o eb nb => ?_, fun b hb => ?_, R.ext, R.cnew, fun j u q e1 e2 => ?_, fun j l u v q e1 e2 e3 e4 => ?_⟩
  · have q : b ≠ p := ne_of_none eb n
    rcases R.rel.sub b u eb with z | ⟨x, z⟩
    · exact .inl (by rw [upd_ne q]; exact z)
    · exact .inr ⟨x, by rw [upd_ne q]; exact z⟩
  · obtain ⟨u, h1, h2⟩ := R.rel.cells.at_ m a L e1 e2
    have q : a ≠ p := fun z => nc (z ▸ List.mem_of_getElem? e1)
    exact ⟨u, by rw [upd_ne q]; exact h1, h2⟩
  · by_cases hj : i = j
    · subst hj
      rw [List.getElem?_set, if_pos rfl] at ej
      split at ej <;> cases ej
      exact ⟨p, ob', r, e, upd_same, n, nc⟩
    · rw [List.getElem?_set_ne hj] at ej
      have s1 := R.rel.slot j s ej
      cases s with
      | none => trivial
      | val w => exact s1
      | own w =>
        obtain ⟨q, o2, a1, a2, a3, a5, a6⟩ := s1
        have := other j w q (fun z => hj z.symm) ej a2
        exact ⟨q, o2, a1, a2, by rw [upd_ne this]; exact a3, a5, a6⟩
  · have q : b ≠ p := ne_of_none eb n0
    rw [upd_ne q]; exact R.fr b o eb nb
  · by_cases q : b = p
    · subst q; rw [upd_same]; exact fun z => by cases z
    · rw [upd_ne q]; exact R.dom b hb
  · rcases own_at e1 with ⟨hj, z⟩ | ⟨_, z⟩
    · subst hj
      rw [e] at e2; cases e2
      exact n0
    · exact R.onew j u q z e2
  · rcases own_at e1 with ⟨hj, z⟩ | ⟨hj, z⟩
    · rcases own_at e2 with ⟨hl, z2⟩ | ⟨hl, z2⟩
      · rw [hj, hl]
      · subst hj
        exact R.odis j l _ v q h z2 e3 e4
    · rcases own_at e2 with ⟨hl, z2⟩ | ⟨hl, z2⟩
      · subst hl
        exact R.odis j l u _ q z h e3 e4
      · exact R.odis j l u v q z z2 e3 e4
/-- a cell is changed -/
theorem RelS.storeCell (R : RelS G S C sl c σ H) {m : Nat} {L L' : List W} {us us' : List V} {p : Addr} (h : C[m]? = some p) (hc : c[m]? = some L) (hp : H p = some (.lst us)) (r : Reps S C L' us') :
    RelS G S C sl (c.set m L') σ (upd H p (.lst us')) := by
  have hm : p ∈ C := List.mem_of_getElem? h
  have n := R.rel.cells.off p hm
  have nq : p ∉ G.C → G.H p = none := R.cnew p hm
  refine ⟨⟨fun b u eb => ?_, ⟨by simp [R.rel.cells.len], R.rel.cells.nd, R.rel.cells.off, fun j a M e1 e2 => ?_⟩, R.rel.slen, fun j s ej => ?_⟩, R.le, R.new, fun b o eb nb => ?_, fun b hb => ?_, R.ext, R.cnew, R.onew, R.odis⟩
  · have q : b ≠ p := ne_of_none eb n
    rcases R.rel.sub b u eb with z | ⟨x, z⟩
    · exact .inl (by rw [upd_ne q]; exact z)
    · exact .inr ⟨x, by rw [upd_ne q]; exact z⟩
  · by_cases hj : m = j
    · subst hj
      rw [h] at e1; cases e1
      rw [List.getElem?_set, if_pos rfl] at e2
      split at e2 <;> cases e2
      exact ⟨us', upd_same, r⟩
    · rw [List.getElem?_set_ne hj] at e2
      obtain ⟨u, h1, h2⟩ := R.rel.cells.at_ j a M e1 e2
      have q : a ≠ p := by
        rintro rfl
        have l1 := (List.getElem?_eq_some_iff.mp h)
        have l2 := (List.getElem?_eq_some_iff.mp e1)
        exact hj ((List.getElem_inj R.rel.cells.nd).mp (l1.2.trans l2.2.symm))
      exact ⟨u, by rw [upd_ne q]; exact h1, h2⟩
  · have s1 := R.rel.slot j s ej
    cases s with
    | none => trivial
    | val w => exact s1
    | own w =>
      obtain ⟨q, o2, a1, a2, a3, a5, a6⟩ := s1
      have : q ≠ p := fun z => a6 (z ▸ hm)
      exact ⟨q, o2, a1, a2, by rw [upd_ne this]; exact a3, a5, a6⟩
  · have q : b ≠ p := by
      rintro rfl
      rw [nq nb] at eb; cases eb
    rw [upd_ne q]; exact R.fr b o eb nb
  · by_cases q : b = p
    · subst q; rw [upd_same]; exact fun z => by cases z
    · rw [upd_ne q]; exact R.dom b hb
end
end Cw

end
section
set_option Elab.async false
set_option linter.all false
set_option maxRecDepth 100000
/-! Cw2b: readings of statements -/
namespace Cw
open PySem PySem.Spec PyProof.Rows L2

/-- what stands at a def's end -/
structure FinS (G : At0) (S : Kn) (C : List Addr) (c : Cells) (H : Hp) : Prop where
  le : Le G.S S
  new : ∀ b, S b ≠ none → G.S b ≠ none ∨ G.H b = none
  fr : ∀ b o, G.H b = some o → b ∉ G.C → H b = some o
  dom : ∀ b, G.H b ≠ none → H b ≠ none
  sub : ∀ b u, S b = some u → Rd H b u
  cells : CellsOk S C c H
  ext : ∃ N, C = G.C ++ N
theorem RelS.fin {G : At0} {S : Kn} {C : List Addr} {sl : Slots} {c : Cells} {σ : L2.St} {H : Hp} (R : RelS G S C sl c σ H) : FinS G S C c H := ⟨R.le, R.new, R.fr, R.dom, R.rel.sub, R.rel.cells, R.ext⟩
/-- what is wanted of a statement's outcome -/
def OutQ (G : At0) (S0 : Kn) (C0 : List Addr) (D : Ends) : Out → Cells → Prop
  | .nx sl, c => ∀ S C σ H, RelS G S C sl c σ H → Up S0 C0 S C → D.nx σ H
  | .bk sl, c => ∀ S C σ H, RelS G S C sl c σ H → Up S0 C0 S C → D.bk σ H
  | .ct sl, c => ∀ S C σ H, RelS G S C sl c σ H → Up S0 C0 S C → D.ct σ H
  | .rt v, c => ∀ S C H x, FinS G S C c H → VR S C G.H H v x → D.rt x H
def TSx (m : Slots → M Out) : TS := fun D σ H => ∃ G S C sl c, RelS G S C sl c σ H ∧ Okr (m sl c) (OutQ G S C D)
theorem _root_.L2.PS.imp {X : Cx} {st : Stmt} {t t' : TS} (p : PS X st t) (h : ∀ D σ H, t' D σ H → t D σ H) : PS X st t' := ⟨fun pins s σ H D I q => p.run pins s σ H D I (h D σ H q)⟩
theorem _root_.L2.PSs.imp {X : Cx} {st : List Stmt} {t t' : TS} (p : PSs X st t) (h : ∀ D σ H, t' D σ H → t D σ H) : PSs X st t' := ⟨fun pins s σ H D I q => p.run pins s σ H D I (h D σ H q)⟩
section
variable {G : At0} {S S' : Kn} {C : List Addr} {sl : Slots} {c c' : Cells} {σ : L2.St} {H H' : Hp} {D : Ends}
theorem OutQ.from {o : Out} {C' : List Addr} (le : Up S C S' C') (h : OutQ G S C D o c) : OutQ G S' C' D o c := by
  cases o with
  | nx s => exact fun S1 C1 σ1 H1 R l => h S1 C1 σ1 H1 R (le.trans l)
  | bk s => exact fun S1 C1 σ1 H1 R l => h S1 C1 σ1 H1 R (le.trans l)
  | ct s => exact fun S1 C1 σ1 H1 R l => h S1 C1 σ1 H1 R (le.trans l)
  | rt v => exact h
/-- an expression, then the rest of a statement -/
theorem ts_bind {m : Slots → M Val} {f : Val → Slots → M Out} {q : V → Hp → Prop} (R : RelS G S C sl c σ H) (h : Okr ((m sl >>= fun v => f v sl) c) (OutQ G S C D))
    (k : ∀ v c1 S1 H1 x, Post S C H S1 H1 → CellsOk S1 C c1 H1 → RelS G S1 C sl c1 σ H1 → VR S1 C H H1 v x → Okr (f v sl c1) (OutQ G S C D) → q x H1) : TX m σ H q :=
  ⟨S, C, sl, c, R.rel, (okr_bnd.mp h).imp fun v c1 h1 S1 H1 x P1 k1 r1 => k v c1 S1 H1 x P1 k1 (R.next P1 k1) r1 h1⟩
theorem VR.own_made {v : Val} {x : V} {G : At0} (hd : ∀ b, G.H b ≠ none → H b ≠ none) (r : VR S C H H' v x) : VR S C G.H H' v x := r.back hd
/-- kept for good, within a body -/
theorem RelS.keep (R : RelS G S C sl c σ H) {S1 : Kn} {H1 : Hp} {c1 : Cells} {v : Val} {x : V} {w : W} (P : Post S C H S1 H1) (k : CellsOk S1 C c1 H1) (r : VR S1 C H H1 v x) (hk : v.keep = some w) :
    ∃ S2, RelS G S2 C sl c1 σ H1 ∧ Rep S2 C w x ∧ Le S S2 ∧ Post S C H S2 H1 ∧ CellsOk S2 C c1 H1 := by
  obtain ⟨S2, P2, k2, rp, le⟩ := r.keep P k hk
  exact ⟨S2, R.next P2 k2, rp, P2.le, P2, k2⟩
end
section
variable {X : Cx} {m mi : Slots → M Val} {i j : Nat}
/-! ### blocks -/
theorem st_nil : PSs X [] (TSx fun sl => pure (.nx sl)) := pss_nil.imp fun D σ H ⟨G, S, C, sl, c, R, h⟩ => okr_ret.mp h S C σ H R (Up.refl _ _)
theorem seq_read {f g : Slots → M Out} {D : Ends} {σ : L2.St} {H : Hp} (h : TSx (fun sl => f sl >>= fun o => match o with
    | .nx s2 => g s2
    | o => pure o) D σ H) : tSeq (TSx f) (TSx g) D σ H := by
  obtain ⟨G, S, C, sl, c, R, h⟩ := h
  refine ⟨G, S, C, sl, c, R, (okr_bnd.mp h).imp fun o c1 h1 => ?_⟩
  cases o with
  | nx s2 => exact fun S1 C1 σ1 H1 R1 le => ⟨G, S1, C1, s2, c1, R1, Okr.imp h1 fun o c2 q => q.from le⟩
  | bk s2 => exact okr_ret.mp h1
  | ct s2 => exact okr_ret.mp h1
  | rt v => exact okr_ret.mp h1
theorem st_cons {st : Stmt} {rest : List Stmt} {f g : Slots → M Out} (h1 : PS X st (TSx f)) (h2 : PSs X rest (TSx g)) : PSs X (st :: rest) (TSx fun sl => f sl >>= fun o => match o with
    | .nx s2 => g s2
    | o => pure o) := (pss_cons h1 h2).imp fun D σ H h => seq_read h
/-- an own list is frozen: no statement of the text -/
theorem st_frz {rest : List Stmt} {g : Slots → M Out} (h2 : PSs X rest (TSx g)) : PSs X rest (TSx fun sl => (match sl[i]? with
    | some (.own w) => (pure (Out.nx (sl.set i (.val w))) : M Out)
    | _ => M.no) >>= fun o => match o with
    | .nx s2 => g s2
    | o => pure o) := h2.imp fun D σ H ⟨G, S, C, sl, c, R, h⟩ => by
  have h := okr_bnd.mp h
  cases e : sl[i]? with
  | none => rw [e] at h; exact h.elim
  | some s =>
    rw [e] at h
    cases s with
    | none => exact h.elim
    | val _ => exact h.elim
    | own w =>
      obtain ⟨S2, R2, le⟩ := R.freeze e
      exact ⟨G, S2, C, _, c, R2, Okr.imp (okr_ret.mp h) fun o c2 q => q.from (.of le)⟩
/-! ### names -/
theorem set_read {D : Ends} {σ : L2.St} {H : Hp} (h : TSx (fun sl => m sl >>= fun v => keepM v >>= fun w => pure (.nx (sl.set i (.val w)))) D σ H) : tAsg (TX m) (gName i) D σ H := by
  obtain ⟨G, S, C, sl, c, R, h⟩ := h
  refine ts_bind (f := fun v sl => keepM v >>= fun w => pure (.nx (sl.set i (.val w)))) R h fun v c1 S1 H1 x P1 k1 R1 r1 h1 => ?_
  obtain ⟨w, e, h2⟩ := okr_lift.mp (okr_bnd.mp h1)
  obtain ⟨S2, R2, rp, le, _⟩ := R.keep P1 k1 r1 e
  exact okr_ret.mp h2 S2 C _ H1 (R2.set rp i) (.of le)
theorem setOwn_read {D : Ends} {σ : L2.St} {H : Hp} (h : TSx (fun sl => m sl >>= fun v => match v with
    | .own w => pure (.nx (sl.set i (.own w)))
    | _ => M.no) D σ H) : tAsg (TX m) (gName i) D σ H := by
  obtain ⟨G, S, C, sl, c, R, h⟩ := h
  refine ts_bind (f := fun v sl => match v with
    | .own w => pure (.nx (sl.set i (.own w)))
    | _ => M.no) R h fun v c1 S1 H1 x P1 k1 R1 r1 h1 => ?_
  cases v with
  | w _ => exact h1.elim
  | bor _ => exact h1.elim
  | own w => exact okr_ret.mp h1 S1 C _ H1 (R.take P1 k1 r1 i) (.of P1.le)
theorem setCell_read {D : Ends} {σ : L2.St} {H : Hp} (h : TSx (fun sl => m sl >>= fun v => match v with
    | .own (.lst xs) => fun c => .ok (.nx (sl.set i (.val (.cel c.length)))) (c ++ [xs])
    | _ => M.no) D σ H) : tAsg (TX m) (gName i) D σ H := by
  obtain ⟨G, S, C, sl, c, R, h⟩ := h
  refine ts_bind (f := fun v sl => match v with
    | .own (.lst xs) => fun c => .ok (.nx (sl.set i (.val (.cel c.length)))) (c ++ [xs])
    | _ => M.no) R h fun v c1 S1 H1 x P1 k1 R1 r1 h1 => ?_
  cases v with
  | w _ => exact h1.elim
  | bor _ => exact h1.elim
  | own w =>
    cases w <;> first | exact h1.elim | skip
    obtain ⟨p, R2⟩ := R.cell P1 k1 r1 i
    exact h1 S1 (C ++ [p]) _ H1 R2 ⟨P1.le, [p], rfl⟩
theorem ret_read {D : Ends} {σ : L2.St} {H : Hp} (h : TSx (fun sl => m sl >>= fun v => match v with
    | .bor _ => M.no
    | v => pure (.rt v)) D σ H) : tRet (TX m) D σ H := by
  obtain ⟨G, S, C, sl, c, R, h⟩ := h
  refine ts_bind (f := fun v sl => match v with
    | .bor _ => M.no
    | v => pure (.rt v)) R h fun v c1 S1 H1 x P1 k1 R1 r1 h1 => ?_
  cases v with
  | bor _ => exact h1.elim
  | w w => exact okr_ret.mp h1 S1 C H1 x R1.fin (r1.back R.dom)
  | own w => exact okr_ret.mp h1 S1 C H1 x R1.fin (r1.back R.dom)
theorem retN_read {D : Ends} {σ : L2.St} {H : Hp} (h : TSx (fun sl => pure (.rt (.w .non))) D σ H) : tRetN D σ H := by
  obtain ⟨G, S, C, sl, c, R, h⟩ := h
  exact okr_ret.mp h S C H .non R.fin rfl
theorem retOwn_read {D : Ends} {σ : L2.St} {H : Hp} (h : TSx (fun sl => match sl[i]? with
    | some (.own w) => pure (.rt (.own w))
    | _ => M.no) D σ H) : tRet (tVar i) D σ H := by
  obtain ⟨G, S, C, sl, c, R, h⟩ := h
  dsimp only at h
  cases e : sl[i]? with
  | none => rw [e] at h; exact h.elim
  | some s =>
    rw [e] at h
    cases s with
    | none => exact h.elim
    | val _ => exact h.elim
    | own w =>
      obtain ⟨p, o, e0, e1, hp, n, nc⟩ := R.rel.slot i _ e
      exact ⟨.ref p, e1, okr_ret.mp h S C H _ R.fin ⟨p, o, e0, rfl, hp, n, nc, R.onew i w p e e1⟩⟩
theorem expr_read {D : Ends} {σ : L2.St} {H : Hp} (h : TSx (fun sl => m sl >>= fun _ => pure (.nx sl)) D σ H) : tDrop (TX m) D σ H := by
  obtain ⟨G, S, C, sl, c, R, h⟩ := h
  refine ts_bind (f := fun v sl => pure (.nx sl)) R h fun v c1 S1 H1 x P1 k1 R1 r1 h1 => ?_
  exact okr_ret.mp h1 S1 C σ H1 R1 (.of P1.le)
theorem if_read {f g : Slots → M Out} {D : Ends} {σ : L2.St} {H : Hp} (h : TSx (fun sl => m sl >>= fun v => truthM v >>= fun k => if k = true then f sl else g sl) D σ H) :
    tIfS (TT' fun sl => m sl >>= truthM) (TSx f) (TSx g) D σ H := by
  obtain ⟨G, S, C, sl, c, R, h⟩ := h
  refine ⟨S, C, sl, c, R.rel, okr_bnd.mpr ((okr_bnd.mp h).imp fun v c1 h1 => (okr_bnd.mp h1).imp fun k c2 h2 S1 H1 P1 k1 => ?_)⟩
  cases k with
  | true =>
    rw [if_pos rfl]
    exact ⟨G, S1, C, sl, c2, R.next P1 k1, Okr.imp h2 fun o c3 q => q.from (.of P1.le)⟩
  | false =>
    rw [if_neg Bool.false_ne_true]
    exact ⟨G, S1, C, sl, c2, R.next P1 k1, Okr.imp h2 fun o c3 q => q.from (.of P1.le)⟩
/-! ### loops -/
theorem while_read {mt : Slots → M Bool} {f : Slots → M Out} {F : Nat} {D : Ends} {σ : L2.St} {H : Hp} (h : TSx (fun sl => whLp mt f F sl) D σ H) : tWhile (TT' mt) (TSx f) D σ H := by
  obtain ⟨G, S, C, sl, c, R, h⟩ := h
  refine ⟨fun n σ1 H1 => ∃ S1 C1 sl1 c1, RelS G S1 C1 sl1 c1 σ1 H1 ∧ Up S C S1 C1 ∧ Okr (whLp mt f n sl1 c1) (OutQ G S C D), ⟨F, S, C, sl, c, R, Up.refl _ _, h⟩, ?_⟩
  rintro n σ1 H1 ⟨S1, C1, sl1, c1, R1, le1, o⟩
  cases n with
  | zero => exact o.elim
  | succ n =>
    refine ⟨S1, C1, sl1, c1, R1.rel, (okr_bnd.mp (show Okr ((mt sl1 >>= fun b => if b = true then f sl1 >>= fun o => (match o with
      | .nx s2 => whLp mt f n s2
      | .ct s2 => whLp mt f n s2
      | .bk s2 => pure (.nx s2)
      | .rt v => pure (.rt v)) else pure (.nx sl1)) c1) _ from o)).imp fun b c2 h2 S2 H2 P2 k2 => ?_⟩
    have R2 := R1.next P2 k2
    cases b with
    | false =>
      rw [if_neg Bool.false_ne_true] at h2
      exact iteF (okr_ret.mp h2 S2 C1 σ1 H2 R2 (le1.trans (.of P2.le)))
    | true =>
      rw [if_pos rfl] at h2
      refine iteT ⟨fun σ' H' => ∃ S1 C1 sl1 c1, RelS G S1 C1 sl1 c1 σ' H' ∧ Up S C S1 C1 ∧ Okr (whLp mt f n sl1 c1) (OutQ G S C D), fun σ' H' hn => ⟨n, Nat.lt_succ_self n, hn⟩, G, S2, C1, sl1, c2, R2, (okr_bnd.mp h2).imp fun o c3 h3 => ?_⟩
      have le2 := le1.trans (.of P2.le)
      cases o with
      | nx s => exact fun S3 C3 σ3 H3 R3 le3 => ⟨S3, C3, s, c3, R3, le2.trans le3, h3⟩
      | ct s => exact fun S3 C3 σ3 H3 R3 le3 => ⟨S3, C3, s, c3, R3, le2.trans le3, h3⟩
      | bk s => exact fun S3 C3 σ3 H3 R3 le3 => okr_ret.mp h3 S3 C3 σ3 H3 R3 (le2.trans le3)
      | rt v => exact okr_ret.mp h3
theorem own_fold2 : ∀ (l : List (Nat × W)) {sl : Slots} {j : Nat} {u : W}, (l.foldl (fun s p => s.set p.1 (.val p.2)) sl)[j]? = some (.own u) → sl[j]? = some (.own u) ∧ ∀ p ∈ l, j ≠ p.1
  | [], _, _, _, e => ⟨e, by simp⟩
  | p :: l, sl, j, u, e => by
    obtain ⟨a, b⟩ := own_fold2 l e
    rcases own_at a with ⟨_, z⟩ | ⟨h, z⟩
    · cases z
    · exact ⟨z, fun q hq => by
        rcases List.mem_cons.mp hq with hq | hq
        · rw [hq]; exact h
        · exact b q hq⟩
theorem own_bind2 {t : Tg} {w u : W} {j : Nat} {sl sl' : Slots} (e : bindTg t w sl = some sl') (h : sl'[j]? = some (.own u)) : sl[j]? = some (.own u) ∧ j ∉ t.slots := by
  cases t with
  | nm i =>
    cases e
    rcases own_at h with ⟨_, z⟩ | ⟨h, z⟩
    · cases z
    · exact ⟨z, by simpa [Tg.slots] using h⟩
  | tp l =>
    cases w <;> first | (cases e; done) | skip
    rename_i ws
    simp only [bindTg] at e
    split at e <;> cases e
    rename_i hl
    obtain ⟨a, b⟩ := own_fold2 _ h
    refine ⟨a, fun hj => ?_⟩
    obtain ⟨n, hn⟩ := List.mem_iff_getElem?.mp hj
    have h1 : n < l.length := (List.getElem?_eq_some_iff.mp hn).1
    have h2 : n < ws.length := by omega
    exact b (j, ws[n]) (List.mem_of_getElem? (i := n) (by rw [List.getElem?_zip_eq_some]; exact ⟨hn, List.getElem?_eq_getElem h2⟩)) rfl
theorem for_read {K : PySem.W.Frag} {t : Tg} {mw : Slots → M (List W)} {f : Slots → M Out} {D : Ends} {σ : L2.St} {H : Hp} (h : TSx (fun sl => mw sl >>= fun ws => forLp (bindTg t) f ws sl) D σ H) :
    tFor (TIx mw true) (rdTg K t) (TSx f) D σ H := by
  obtain ⟨G, S, C, sl, c, R, h⟩ := h
  refine ⟨S, C, sl, c, R.rel, (okr_bnd.mp h).imp fun ws c1 h1 S1 H1 Fx J P1 k1 fx g => ?_⟩
  refine for_it g (fun i σ2 H2 => ∃ S2 C2 sl2 c2, RelS G S2 C2 sl2 c2 σ2 H2 ∧ Up S1 C S2 C2 ∧ Okr (forLp (bindTg t) f (ws.drop i) sl2 c2) (OutQ G S C D)) ?_ ?_ ?_ ?_
  · exact ⟨S1, C, sl, c1, R.next P1 k1, Up.refl _ _, h1⟩
  · rintro i σ2 H2 hi ⟨S2, C2, sl2, c2, R2, le, _⟩ a u hf
    exact R2.rel.sub a u (le.le a u (fx.lp rfl a u hf))
  · rintro i x σ2 H2 H3 hi ⟨S2, C2, sl2, c2, R2, le, o⟩ ⟨w, hw, y⟩
    have item : ∃ S3, Post S2 C2 H2 S3 H3 ∧ CellsOk S3 C2 c2 H3 ∧ Rep S3 C2 w x := by
      rcases y with ⟨e, rp⟩ | ⟨T, ws1, xs1, e1, e2, hT, e3, rp⟩
      · subst e
        exact ⟨S2, Post.refl R2.rel.sub, R2.rel.cells, le.rep rp⟩
      · obtain ⟨P2, k2⟩ := Post.laid R2.rel hT (.tup xs1) (fun _ _ z => by cases z) true
        subst e1 e2 e3
        exact ⟨_, P2, k2, T, xs1, rfl, upd_same, (le.reps rp).le P2.le⟩
    obtain ⟨S3, P3, k3, rp⟩ := item
    have R3 := R2.next P3 k3
    rw [List.drop_eq_getElem_cons hi] at o
    have ew : ws[i] = w := by
      rw [List.getElem?_eq_getElem hi] at hw
      exact Option.some.inj hw
    rw [ew] at o
    obtain ⟨sl3, eb, o⟩ := okr_lift.mp (okr_bnd.mp o)
    have o := okr_bnd.mp o
    refine tg_ok (own := t.slots) eb rp R3.rel (fun i hi => hi) fun σ3 R4 hw3 _ => ?_
    have R5 : RelS G S3 C2 sl3 c2 σ3 H3 := R3.sub R4 fun j u hj => by
      obtain ⟨a, b⟩ := own_bind2 eb hj
      refine ⟨a, ?_⟩
      have z1 := wipe_out (σ := σ3) b
      have z2 := wipe_out (σ := σ2) b
      rw [← z1, hw3, z2]
    have le3 := le.trans (.of P3.le)
    have le0 := (Up.of P1.le).trans le3
    refine ⟨G, S3, C2, sl3, c2, R5, o.imp fun o c4 h4 => ?_⟩
    cases o with
    | nx s => exact fun S4 C4 σ4 H4 R4 le4 => ⟨S4, C4, s, c4, R4, le3.trans le4, h4⟩
    | ct s => exact fun S4 C4 σ4 H4 R4 le4 => ⟨S4, C4, s, c4, R4, le3.trans le4, h4⟩
    | bk s => exact fun S4 C4 σ4 H4 R4 le4 => okr_ret.mp h4 S4 C4 σ4 H4 R4 (le0.trans le4)
    | rt v => exact okr_ret.mp h4
  · rintro σ2 H2 ⟨S2, C2, sl2, c2, R2, le, o⟩
    rw [List.drop_length] at o
    exact okr_ret.mp o S2 C2 σ2 H2 R2 ((Up.of P1.le).trans le)
end
end Cw

end
section
set_option Elab.async false
set_option linter.all false
set_option maxRecDepth 100000
/-! Cw2c: statements that change lists; several names at once -/
namespace Cw
open PySem PySem.Spec PyProof.Rows L2

section
variable {G : At0} {S S' : Kn} {C : List Addr} {sl sl' : Slots} {c c' : Cells} {σ : L2.St} {H H' : Hp} {D : Ends}
theorem RelS.ownAt (R : RelS G S C sl c σ H) {i : Nat} {ws : List W} (e : sl[i]? = some (.own (.lst ws))) : ∃ p us, σ[i]? = some (some (.ref p)) ∧ H p = some (.lst us) ∧ Reps S C ws us ∧ S p = none ∧ p ∉ C := by
  obtain ⟨p, o, ⟨us, rfl, r⟩, e1, hp, n, nc⟩ := R.rel.slot i _ e
  exact ⟨p, us, e1, hp, r, n, nc⟩
end
section
variable {X : Cx} {m mi : Slots → M Val} {i j : Nat}
/-! ### x.append(..) -/
def appPE (i : Nat) (m : Slots → M Val) : TE := tBM X.K "list" rAppend (tVar i) (tCons (TX m) tNil)
theorem app_read {D : Ends} {σ : L2.St} {H : Hp} (h : TSx (fun sl => m sl >>= fun v => keepM v >>= fun w => appM sl i w >>= fun s => pure (.nx s)) D σ H) : tDrop (tBM X.K "list" rAppend (tVar i) (tCons (TX m) tNil)) D σ H := by
  obtain ⟨G, S, C, sl, c, R, h⟩ := h
  -- the slot is a list of its own already now
  obtain ⟨v, c1, e1, h1⟩ := (okr_bnd.mp h).get
  obtain ⟨w, ek, h2⟩ := okr_lift.mp (okr_bnd.mp h1)
  have h3 := okr_bnd.mp h2
  cases e : sl[i]? with
  | none => unfold appM at h3; rw [e] at h3; exact h3.elim
  | some s =>
    unfold appM at h3
    rw [e] at h3
    cases s with
    | none => exact h3.elim
    | val _ => exact h3.elim
    | own w0 =>
      cases w0 <;> first | exact h3.elim | skip
      rename_i ws
      obtain ⟨p, us, ep, hp, r, n, nc⟩ := R.ownAt e
      rcases okr_if h3 with ⟨hl, h3⟩ | ⟨_, h3⟩
      · refine ⟨.ref p, ep, .inl ⟨rfl, us, Rd.sq (.inl hp)⟩, S, C, sl, c, R.rel, ?_⟩
        rw [e1]
        intro S1 H1 x P1 k1 r1
        obtain ⟨S2, R2, rp, le, P2, k2⟩ := R.keep P1 k1 r1 ek
        have hp2 := P2.fr p _ hp nc
        refine ⟨p, us, x, rfl, rfl, hp2, by rw [r.length, ← sizeL_eq]; exact hl, ?_⟩
        have R3 := R2.store (w1 := .lst (ws ++ [w])) (ob' := .lst (us ++ [x])) e ep hp2 (.lst ((r.le le).append (Reps.cons rp Reps.nil)))
        exact okr_ret.mp (okr_ret.mp h3) S2 C σ _ R3 (.of le)
      · exact h3.elim
/-! ### x[i] = .. -/
theorem ixN_eq {n k : Nat} {i : Int} (h : Cw.ixN n i = some k) : L2.ixN n i = some k := by
  unfold Cw.ixN at h
  unfold L2.ixN
  by_cases h0 : 0 ≤ i
  · rw [if_pos h0]
    by_cases h1 : i < n
    · rw [if_pos ⟨h0, h1⟩] at h; rw [if_pos h1]; exact h
    · rw [if_neg (fun z => h1 z.2), if_neg (fun z => by omega)] at h; cases h
  · rw [if_neg h0]
    rw [if_neg (fun z => h0 z.1)] at h
    by_cases h1 : i < 0 ∧ 0 ≤ i + n
    · rw [if_pos h1] at h; rw [if_pos (by omega)]; exact h
    · rw [if_neg h1] at h; cases h
theorem setIt_read {D : Ends} {σ : L2.St} {H : Hp} (h : TSx (fun sl => m sl >>= fun v => keepM v >>= fun w => mi sl >>= fun j => storeM sl i j.get w >>= fun s => pure (.nx s)) D σ H) :
    tAsg (TX m) (gSub (tVar i) (TX mi) rSetL) D σ H := by
  obtain ⟨G, S, C, sl, c, R, h⟩ := h
  refine ts_bind (f := fun v sl => keepM v >>= fun w => mi sl >>= fun j => storeM sl i j.get w >>= fun s => pure (.nx s)) R h fun v c1 S1 H1 x P1 k1 R1 r1 h1 => ?_
  obtain ⟨w, ek, h2⟩ := okr_lift.mp (okr_bnd.mp h1)
  obtain ⟨S2, R2, rp, le, P2, k2⟩ := R.keep P1 k1 r1 ek
  obtain ⟨v3, c3, e3, h3⟩ := (okr_bnd.mp h2).get
  have h4 := okr_bnd.mp h3
  -- what it is
  cases e : sl[i]? with
  | none => unfold storeM at h4; rw [e] at h4; exact h4.elim
  | some s =>
    cases s with
    | none => unfold storeM at h4; rw [e] at h4; exact h4.elim
    | own w0 =>
      cases w0 <;> first | (unfold storeM at h4; rw [e] at h4; exact h4.elim) | skip
      rename_i ws
      obtain ⟨p, us, ep, hp, r, n, nc⟩ := R2.ownAt e
      refine ⟨.ref p, ep, S2, C, sl, c1, R2.rel, ?_⟩
      rw [e3]
      intro S3 H3 y P3 k3 r3
      have R3 := R2.next P3 k3
      have hp3 := P3.fr p _ hp nc
      have l3 := r3.lk
      unfold storeM at h4
      rw [e] at h4
      cases hv : v3.get <;> rw [hv] at h4 l3 <;> first | exact h4.elim | skip
      rename_i k
      dsimp only at h4
      cases hk : Cw.ixN ws.length k with
      | none => rw [hk] at h4; exact h4.elim
      | some q =>
        rw [hk] at h4
        refine ⟨p, us, k, q, rfl, l3.int, hp3, by rw [r.length]; exact ixN_eq hk, ?_⟩
        have R4 := R3.store (w1 := .lst (ws.set q w)) (ob' := .lst (us.set q x)) e ep hp3 (.lst (Reps.set (rp.le P3.le) q (r.le P3.le)))
        exact okr_ret.mp (okr_ret.mp h4) S3 C σ _ R4 ((Up.of le).trans (.of P3.le))
    | val w0 =>
      cases w0 <;> first | (unfold storeM at h4; rw [e] at h4; exact h4.elim) | skip
      rename_i n
      obtain ⟨vv, ev, a, ha, rfl⟩ := R2.rel.slot i _ e
      refine ⟨.ref a, ev, S2, C, sl, c1, R2.rel, ?_⟩
      rw [e3]
      intro S3 H3 y P3 k3 r3
      have R3 := R2.next P3 k3
      have l3 := r3.lk
      unfold storeM at h4
      rw [e] at h4
      cases hv : v3.get <;> rw [hv] at h4 l3 <;> first | exact h4.elim | skip
      rename_i k
      dsimp only at h4
      cases hc : c3[n]? with
      | none => rw [hc] at h4; exact h4.elim
      | some L =>
        rw [hc] at h4
        dsimp only at h4
        cases hk : Cw.ixN L.length k with
        | none => rw [hk] at h4; exact h4.elim
        | some q =>
          rw [hk] at h4
          obtain ⟨us, hp3, r⟩ := k3.at_ n a L ha hc
          refine ⟨a, us, k, q, rfl, l3.int, hp3, by rw [r.length]; exact ixN_eq hk, ?_⟩
          have R4 := R3.storeCell (L' := L.set q w) (us' := us.set q x) ha hc hp3 (Reps.set (rp.le P3.le) q r)
          exact okr_ret.mp h4 S3 C σ _ R4 ((Up.of le).trans (.of P3.le))
/-! ### y = x.pop() -/
theorem pop0_read {D : Ends} {σ : L2.St} {H : Hp} (h : TSx (fun sl => (pure none : M (Option Int)) >>= fun k => popM sl i k >>= fun p => pure (.nx (p.2.set j (.val p.1)))) D σ H) : tAsg (tBM0 X.K "list" rPop (tVar i)) (gName j) D σ H := by
  obtain ⟨G, S, C, sl, c, R, h⟩ := h
  have h := okr_bnd.mp (okr_ret.mp (okr_bnd.mp h))
  unfold popM at h
  cases e : sl[i]? with
  | none => rw [e] at h; exact h.elim
  | some s =>
    rw [e] at h
    cases s with
    | none => exact h.elim
    | val _ => exact h.elim
    | own w0 =>
      cases w0 <;> first | exact h.elim | skip
      rename_i ws
      obtain ⟨p, us, ep, hp, r, n, nc⟩ := R.ownAt e
      dsimp only at h
      cases el : ws.getLast? with
      | none => rw [el] at h; exact h.elim
      | some y =>
        rw [el] at h
        rw [List.getLast?_eq_getElem?] at el
        obtain ⟨z, hz, rz⟩ := r.get el
        refine ⟨.ref p, ep, .inl ⟨rfl, us, Rd.sq (.inl hp)⟩, p, us, z, rfl, rfl, hp, by rw [r.length]; exact hz, ?_⟩
        have R2 := R.store (w1 := .lst ws.dropLast) (ob' := .lst us.dropLast) e ep hp (.lst r.dropLast)
        exact okr_ret.mp (okr_ret.mp h) S C _ _ (R2.set rz j) (Up.refl _ _)
theorem pop1_read {D : Ends} {σ : L2.St} {H : Hp} (h : TSx (fun sl => (mi sl >>= fun v => M.lift v.get.int? >>= fun i => pure (some i)) >>= fun k => popM sl i k >>= fun p => pure (.nx (p.2.set j (.val p.1)))) D σ H) :
    tAsg (tBM X.K "list" rPopAt (tVar i) (tCons (TX mi) tNil)) (gName j) D σ H := by
  obtain ⟨G, S, C, sl, c, R, h⟩ := h
  have h := okr_bnd.mp (okr_bnd.mp h)
  obtain ⟨v, c1, e1, h1⟩ := h.get
  obtain ⟨k, ek, h2⟩ := okr_lift.mp (okr_bnd.mp h1)
  have h3 := okr_bnd.mp (okr_ret.mp h2)
  unfold popM at h3
  cases e : sl[i]? with
  | none => rw [e] at h3; exact h3.elim
  | some s =>
    rw [e] at h3
    cases s with
    | none => exact h3.elim
    | val _ => exact h3.elim
    | own w0 =>
      cases w0 <;> first | exact h3.elim | skip
      rename_i ws
      obtain ⟨p, us, ep, hp, r, n, nc⟩ := R.ownAt e
      dsimp only at h3
      rcases okr_if h3 with ⟨hb, h3⟩ | ⟨_, h3⟩
      · cases hk : Cw.ixN ws.length k with
        | none => rw [hk] at h3; exact h3.elim
        | some q =>
          rw [hk] at h3
          dsimp only at h3
          cases hy : ws[q]? with
          | none => rw [hy] at h3; exact h3.elim
          | some y =>
            rw [hy] at h3
            refine ⟨.ref p, ep, .inl ⟨rfl, us, Rd.sq (.inl hp)⟩, S, C, sl, c, R.rel, ?_⟩
            rw [e1]
            intro S1 H1 x P1 k1 r1
            have R1 := R.next P1 k1
            have hp1 := P1.fr p _ hp nc
            obtain ⟨z, hz, rz⟩ := r.get hy
            have b := bound62_of hb
            obtain ⟨s1, s2, s3, s4⟩ := ixN_seq (ixN_eq hk)
            refine ⟨p, us, k, q, z, rfl, by rw [get_int r1 ek], hp1, by omega, by omega, by rw [r.length]; exact s1, hz, ?_⟩
            have R2 := R1.store (w1 := .lst (ws.eraseIdx q)) (ob' := .lst (us.eraseIdx q)) e ep hp1 (.lst ((r.le P1.le).eraseIdx q))
            exact okr_ret.mp (okr_ret.mp h3) S1 C _ _ (R2.set (rz.le P1.le) j) (.of P1.le)
      · exact h3.elim
/-! ### a, b = a value -/
theorem unpack_read {K : PySem.W.Frag} {l : List Nat} {D : Ends} {σ : L2.St} {H : Hp} (h : TSx (fun sl => m sl >>= fun v => keepM v >>= fun w => M.lift (bindTg (.tp l) w sl) >>= fun s => pure (.nx s)) D σ H) :
    tAsg (TX m) (rdTg K (.tp l)) D σ H := by
  obtain ⟨G, S, C, sl, c, R, h⟩ := h
  refine ts_bind (f := fun v sl => keepM v >>= fun w => M.lift (bindTg (.tp l) w sl) >>= fun s => pure (.nx s)) R h fun v c1 S1 H1 x P1 k1 R1 r1 h1 => ?_
  obtain ⟨w, ek, h2⟩ := okr_lift.mp (okr_bnd.mp h1)
  obtain ⟨S2, R2, rp, le, P2, k2⟩ := R.keep P1 k1 r1 ek
  obtain ⟨s, eb, h3⟩ := okr_lift.mp (okr_bnd.mp h2)
  refine tg_ok (own := Tg.slots (.tp l)) eb rp R2.rel (fun i hi => hi) fun σ3 R4 hw3 _ => ?_
  have R5 : RelS G S2 C s c1 σ3 H1 := R2.sub R4 fun j u hj => by
    obtain ⟨a, b⟩ := own_bind2 eb hj
    refine ⟨a, ?_⟩
    have z1 := wipe_out (σ := σ3) b
    have z2 := wipe_out (σ := σ) b
    rw [← z1, hw3, z2]
  exact okr_ret.mp h3 S2 C σ3 H1 R5 (.of le)
end
end Cw

end
section
set_option Elab.async false
set_option linter.all false
set_option maxRecDepth 100000
/-! Cw2d: a, b = x, y -/
namespace Cw
open PySem PySem.Spec PyProof.Rows L2

def Val.isOwn : Val → Bool
  | .own _ => true
  | _ => false
/-- values as they come: fresh lists are all different -/
def Vrs (S : Kn) (C : List Addr) (H0 H : Hp) : List Val → List V → Prop
  | [], xs => xs = []
  | v :: vs, xs => ∃ x r, xs = x :: r ∧ VR S C H0 H v x ∧ (v.isOwn = true → ∀ (j : Nat) u, vs[j]? = some u → u.isOwn = true → r[j]? ≠ some x) ∧ Vrs S C H0 H vs r
def TVs (m : Slots → M (List Val)) : TA := fun σ H Q => ∃ S C sl c, Rel S C sl c σ H ∧ Okr (m sl c) fun vs c' => ∀ S' H' xs, Post S C H S' H' → CellsOk S' C c' H' → Vrs S' C H H' vs xs → Q xs H'
def setAll (σ : L2.St) (l : List Nat) (xs : List V) : L2.St := (l.zip xs).foldl (fun s q => s.set q.1 (some q.2)) σ
section
variable {G : At0} {S S' : Kn} {C : List Addr} {sl sl' : Slots} {c c' : Cells} {σ : L2.St} {H H' H0 H1 : Hp} {D : Ends}
theorem Vrs.len : ∀ {vs : List Val} {xs : List V}, Vrs S C H0 H vs xs → xs.length = vs.length
  | [], xs, h => by rw [show xs = [] from h]; rfl
  | v :: vs, xs, ⟨x, r, e, _, _, h⟩ => by rw [e, List.length_cons, List.length_cons, Vrs.len h]
theorem Vrs.back (h : ∀ b, H0 b ≠ none → H1 b ≠ none) : ∀ {vs : List Val} {xs : List V}, Vrs S C H1 H vs xs → Vrs S C H0 H vs xs
  | [], xs, q => q
  | v :: vs, xs, ⟨x, r, e, a, b, q⟩ => ⟨x, r, e, a.back h, b, Vrs.back h q⟩
theorem Vrs.next (P : Post S C H S' H') : ∀ {vs : List Val} {xs : List V}, Vrs S C H0 H vs xs → Vrs S' C H0 H' vs xs
  | [], xs, q => q
  | v :: vs, xs, ⟨x, r, e, a, b, q⟩ => ⟨x, r, e, a.next P, b, Vrs.next P q⟩
theorem Vrs.own : ∀ {vs : List Val} {xs : List V}, Vrs S C H0 H vs xs → ∀ (j : Nat) u x, vs[j]? = some u → u.isOwn = true → xs[j]? = some x → ∃ p, x = .ref p ∧ H0 p = none
  | [], _, _, _, _, _, h, _, _ => by simp at h
  | v :: vs, xs, ⟨x, r, e, a, b, q⟩, 0, u, y, h1, h2, h3 => by
    subst e
    simp at h1 h3
    subst h1 h3
    cases v <;> first | (cases h2; done) | skip
    obtain ⟨p, o, _, e2, _, _, _, n0⟩ := a
    exact ⟨p, e2, n0⟩
  | v :: vs, xs, ⟨x, r, e, a, b, q⟩, j + 1, u, y, h1, h2, h3 => by
    subst e
    exact Vrs.own q j u y (by simpa using h1) h2 (by simpa using h3)
theorem Vrs.fix {p : Addr} {o : HO} (n : S p = none) : ∀ {vs : List Val} {xs : List V}, Vrs S C H0 H vs xs → (∀ (j : Nat) u, vs[j]? = some u → u.isOwn = true → xs[j]? ≠ some (.ref p)) → Vrs (upd S p o) C H0 H vs xs
  | [], xs, q, _ => q
  | v :: vs, xs, ⟨x, r, e, a, b, q⟩, hd => by
    have le : Le S (upd S p o) := fun a u e => by rw [upd_ne (ne_of_none e n)]; exact e
    subst e
    refine ⟨x, r, rfl, ?_, b, Vrs.fix n q fun j u h1 h2 => ?_⟩
    · cases v with
      | w w => exact Rep.le le a
      | bor w => obtain ⟨q, o, e1, e2, h, nc⟩ := a; exact ⟨q, o, e1.le le, e2, h, nc⟩
      | own w =>
        obtain ⟨q, o, e1, e2, h, nq, nc, n0⟩ := a
        have hq : q ≠ p := by
          rintro rfl
          exact hd 0 (.own w) rfl rfl (by simp [e2])
        exact ⟨q, o, e1.le le, e2, h, by rw [upd_ne hq]; exact nq, nc, n0⟩
    · have := hd (j + 1) u (by simpa using h1) h2
      simpa using this
theorem RelS.fixV (R : RelS G S C sl c σ H) {p : Addr} {ob : HO} (hp : H p = some ob) (n : S p = none) (nc : p ∉ C) (n0 : G.H p = none) (hd : ∀ (j : Nat) u, sl[j]? = some (.own u) → σ[j]? ≠ some (some (.ref p))) :
    RelS G (upd S p ob) C sl c σ H ∧ Le S (upd S p ob) := by
  have le : Le S (upd S p ob) := fun a u e => by rw [upd_ne (ne_of_none e n)]; exact e
  refine ⟨⟨⟨fun b u eb => ?_, ⟨R.rel.cells.len, R.rel.cells.nd, fun b hb => ?_, fun m a L e1 e2 => ?_⟩, R.rel.slen, fun j s ej => ?_⟩, R.le.trans le, fun b hb => ?_, R.fr, R.dom, R.ext, R.cnew, R.onew, R.odis⟩, le⟩
  · by_cases q : b = p
    · subst q; rw [upd_same] at eb; cases eb; exact .inl hp
    · rw [upd_ne q] at eb; exact R.rel.sub b u eb
  · have q : b ≠ p := fun z => nc (z ▸ hb)
    rw [upd_ne q]; exact R.rel.cells.off b hb
  · obtain ⟨u, h1, h2⟩ := R.rel.cells.at_ m a L e1 e2
    exact ⟨u, h1, h2.le le⟩
  · have s1 := R.rel.slot j s ej
    cases s with
    | none => trivial
    | val w => obtain ⟨v, a, b⟩ := s1; exact ⟨v, a, b.le le⟩
    | own w =>
      obtain ⟨q, o2, a1, a2, a3, a5, a6⟩ := s1
      have hq : q ≠ p := by
        rintro rfl
        exact hd j w ej a2
      exact ⟨q, o2, a1.le le, a2, a3, by rw [upd_ne hq]; exact a5, a6⟩
  · by_cases q : b = p
    · subst q; exact .inr n0
    · rw [upd_ne q] at hb; exact R.new b hb
theorem par_ok {P : Prop} : ∀ (l : List (Nat × Bool)) {vs : List Val} {xs : List V} {sl sl' : Slots} {S : Kn} {σ : L2.St}, parW l vs sl = some sl' → RelS G S C sl c σ H → Vrs S C H0 H vs xs → (∀ p, H0 p = none → G.H p = none) →
    (∀ (i : Nat) w p, sl[i]? = some (.own w) → σ[i]? = some (some (.ref p)) → ∀ (j : Nat) u, vs[j]? = some u → u.isOwn = true → xs[j]? ≠ some (.ref p)) →
    (∀ S', RelS G S' C sl' c (setAll σ (l.map (·.1)) xs) H → Le S S' → P) → P
  | [], vs, xs, sl, sl', S, σ, e, R, h, mk, sep, k => by
    cases vs with
    | cons _ _ => cases e
    | nil =>
      cases e
      exact k S R (Le.refl _)
  | (i, true) :: l, vs, xs, sl, sl', S, σ, e, R, h, mk, sep, k => by
    cases vs with
    | nil => cases e
    | cons v vs =>
      cases v <;> first | (cases e; done) | skip
      rename_i w
      have e : parW l vs (sl.set i (.own w)) = some sl' := e
      obtain ⟨x, r, ex, a, b, q⟩ := h
      obtain ⟨p, o, rr, rfl, hp, n, nc, n0⟩ := a
      subst ex
      have hd : ∀ (j : Nat) u, sl[j]? = some (.own u) → σ[j]? ≠ some (some (.ref p)) := fun j u h1 h2 => sep j u p h1 h2 0 _ rfl rfl (by simp)
      have R2 := R.setOwn hp rr n nc (mk p n0) hd i
      refine par_ok l e R2 q mk (fun j u q h1 h2 m z h3 h4 => ?_) k
      rcases own_at h1 with ⟨hj, h5⟩ | ⟨hj, h5⟩
      · subst hj
        rw [List.getElem?_set, if_pos rfl] at h2
        split at h2 <;> cases h2
        exact b rfl m z h3 h4
      · rw [List.getElem?_set_ne fun z => hj z.symm] at h2
        have := sep j u q h5 h2 (m + 1) z (by simpa using h3) h4
        simpa using this
  | (i, false) :: l, vs, xs, sl, sl', S, σ, e, R, h, mk, sep, k => by
    cases vs with
    | nil => cases e
    | cons v vs =>
      have e : (v.keep.bind fun w => parW l vs (sl.set i (.val w))) = some sl' := e
      obtain ⟨w, ek, e⟩ := Option.bind_eq_some_iff.mp e
      obtain ⟨x, r, ex, a, b, q⟩ := h
      subst ex
      have go : ∀ {S2 : Kn}, RelS G S2 C sl c σ H → Rep S2 C w x → Vrs S2 C H0 H vs r → Le S S2 → P := fun {S2} R2 rp q2 le => by
        refine par_ok l e (R2.set rp i) q2 mk (fun j u q h1 h2 m z h3 h4 => ?_) fun S' R3 le3 => k S' R3 (le.trans le3)
        rcases own_at h1 with ⟨_, h5⟩ | ⟨hj, h5⟩
        · cases h5
        · rw [List.getElem?_set_ne fun z => hj z.symm] at h2
          have := sep j u q h5 h2 (m + 1) z (by simpa using h3) h4
          simpa using this
      cases v with
      | bor _ => cases ek
      | w w' =>
        cases ek
        exact go R a q (Le.refl _)
      | own w' =>
        cases ek
        obtain ⟨p, o, rr, rfl, hp, n, nc, n0⟩ := a
        have hd : ∀ (j : Nat) u, sl[j]? = some (.own u) → σ[j]? ≠ some (some (.ref p)) := fun j u h1 h2 => sep j u p h1 h2 0 _ rfl rfl (by simp)
        obtain ⟨R2, le⟩ := R.fixV hp n nc (mk p n0) hd
        exact go R2 ((rr.le le).rep upd_same) (q.fix n (b rfl)) le
end
section
variable {X : Cx} {a : Expr} {es : List Expr} {ma : Slots → M Val} {ms : Slots → M (List Val)}
theorem snd_svnil : PA X [] (TVs fun _ => pure []) := pa_nil.imp fun σ H Q ⟨S, C, sl, c, R, h⟩ => okr_ret.mp h S H [] (Post.refl R.sub) R.cells rfl
theorem snd_svcons (hs : notStar a = true) (ha : PE X a (TX ma)) (hb : PA X es (TVs ms)) : PA X (a :: es) (TVs fun sl => ma sl >>= fun v => ms sl >>= fun vs => pure (v :: vs)) := by
  refine (pa_cons ha hb (star_cons hs)).imp fun σ H Q ⟨S, C, sl, c, R, h⟩ => ?_
  refine ⟨S, C, sl, c, R, (okr_bnd.mp h).imp fun v c1 h1 S1 H1 x P1 k1 r1 => ?_⟩
  refine ⟨S1, C, sl, c1, R.next P1 k1, (okr_bnd.mp h1).imp fun vs c3 h3 S3 H3 xs P3 k3 r3 => ?_⟩
  refine okr_ret.mp h3 S3 H3 (x :: xs) (P1.trans P3) k3 ⟨x, xs, rfl, r1.next P3, fun hv j u g1 g2 z => ?_, r3.back P1.dom⟩
  cases v <;> first | (cases hv; done) | skip
  obtain ⟨p, o, _, e2, hp, _⟩ := r1
  obtain ⟨q, e3, hq⟩ := r3.own j u x g1 g2 z
  rw [e2] at e3
  cases e3
  rw [hp] at hq; cases hq
theorem parW_len : ∀ {l : List (Nat × Bool)} {vs : List Val} {sl sl' : Slots}, parW l vs sl = some sl' → vs.length = l.length
  | [], [], _, _, _ => rfl
  | [], _ :: _, _, _, e => by cases e
  | (i, true) :: l, [], _, _, e => by cases e
  | (i, false) :: l, [], _, _, e => by cases e
  | (i, true) :: l, v :: vs, sl, sl', e => by
    cases v <;> first | (cases e; done) | skip
    have e : parW l vs _ = some sl' := e
    rw [List.length_cons, List.length_cons, parW_len e]
  | (i, false) :: l, v :: vs, sl, sl', e => by
    have e : (v.keep.bind fun w => parW l vs (sl.set i (.val w))) = some sl' := e
    obtain ⟨w, _, e⟩ := Option.bind_eq_some_iff.mp e
    rw [List.length_cons, List.length_cons, parW_len e]
/-- the names stored, no tuple laid -/
theorem par_direct {l : List (Nat × Bool)} {D : Ends} {σ : L2.St} {H : Hp} (h : TSx (fun sl => ms sl >>= fun vs => M.lift (parW l vs sl) >>= fun s => pure (.nx s)) D σ H) :
    TVs ms σ H fun xs H1 => xs.length = l.length ∧ D.nx (setAll σ (l.map (·.1)) xs) H1 := by
  obtain ⟨G, S, C, sl, c, R, h⟩ := h
  refine ⟨S, C, sl, c, R.rel, (okr_bnd.mp h).imp fun vs c1 h1 S1 H1 xs P1 k1 r1 => ?_⟩
  obtain ⟨s, e, h2⟩ := okr_lift.mp (okr_bnd.mp h1)
  refine ⟨by rw [r1.len, parW_len e], ?_⟩
  refine par_ok l e (R.next P1 k1) r1 (fun p hp => R.made hp) (fun i w p e1 e2 j u h3 h4 h5 => ?_) fun S' R2 le => okr_ret.mp h2 S' C _ H1 R2 (.of (P1.le.trans le))
  obtain ⟨q, e3, hq⟩ := r1.own j u _ h3 h4 h5
  cases e3
  exact R.live hq i w e1 e2
/-- by a tuple -/
theorem par_tuple {l : List (Nat × Bool)} {D : Ends} {σ : L2.St} {H : Hp} (hl : l.length ≤ sizeLine) (h : TSx (fun sl => ms sl >>= fun vs => M.lift (parW l vs sl) >>= fun s => pure (.nx s)) D σ H) :
    tTup (TVs ms) σ H fun x H1 => ∃ p xs, x = .ref p ∧ H1 p = some (.tup xs) ∧ xs.length = l.length ∧ D.nx (setAll σ (l.map (·.1)) xs) H1 := by
  obtain ⟨G, S, C, sl, c, R, h⟩ := h
  refine ⟨S, C, sl, c, R.rel, (okr_bnd.mp h).imp fun vs c1 h1 S1 H1 xs P1 k1 r1 => ?_⟩
  obtain ⟨s, e, h2⟩ := okr_lift.mp (okr_bnd.mp h1)
  have hn : xs.length = l.length := by rw [r1.len, parW_len e]
  refine ⟨by omega, fun p hp => ⟨p, xs, rfl, upd_same, hn, ?_⟩⟩
  have R1 := R.next P1 k1
  obtain ⟨P2, k2⟩ := Post.laid R1.rel hp (.tup xs) (fun _ _ z => by cases z) false
  refine par_ok l e (R1.next P2 k2) (r1.next P2) (fun p hp => R.made hp) (fun i w p e1 e2 j u h3 h4 h5 => ?_) fun S' R2 le => okr_ret.mp h2 S' C _ _ R2 (.of (P1.le.trans (P2.le.trans le)))
  obtain ⟨q, e3, hq⟩ := r1.own j u _ h3 h4 h5
  cases e3
  exact R.live hq i w e1 e2
theorem rdTgs_set : ∀ (l : List Nat) {xs : List V} {σ : L2.St} {H : Hp} {Q : L2.St → Hp → Prop}, xs.length = l.length → Q (setAll σ l xs) H → rdTgs l xs σ H Q
  | [], xs, σ, H, Q, hn, h => by
    cases xs with
    | nil => exact ⟨rfl, h⟩
    | cons _ _ => cases hn
  | i :: l, xs, σ, H, Q, hn, h => by
    cases xs with
    | nil => cases hn
    | cons x xs => exact ⟨x, xs, rfl, rdTgs_set l (by simpa using hn) h⟩
theorem parT_read {K : PySem.W.Frag} {l : List (Nat × Bool)} {D : Ends} {σ : L2.St} {H : Hp} (hl : l.length ≤ sizeLine) (h : TSx (fun sl => ms sl >>= fun vs => M.lift (parW l vs sl) >>= fun s => pure (.nx s)) D σ H) :
    tAsg (tTup (TVs ms)) (gTup K (l.map (·.1)).length (rdTgs (l.map (·.1)))) D σ H := by
  obtain ⟨S, C, sl, c, R, h⟩ := par_tuple hl h
  refine ⟨S, C, sl, c, R, h.imp fun vs c1 h1 S1 H1 xs P1 k1 r1 => ?_⟩
  obtain ⟨hz, h2⟩ := h1 S1 H1 xs P1 k1 r1
  refine ⟨hz, fun p hp => ?_⟩
  obtain ⟨q, ys, e, h3, h4, h5⟩ := h2 p hp
  cases e
  rw [upd_same] at h3
  cases h3
  exact ⟨p, xs, rfl, Rd.sqT (.inl upd_same), by rw [List.length_map, h4], rdTgs_set _ (by rw [List.length_map, h4]) h5⟩
theorem par2_read {i j : Nat} {a b : Bool} {D : Ends} {σ : L2.St} {H : Hp} (h : TSx (fun sl => ms sl >>= fun vs => M.lift (parW [(i, a), (j, b)] vs sl) >>= fun s => pure (.nx s)) D σ H) : tPar i j (TVs ms) D σ H := by
  obtain ⟨S, C, sl, c, R, h⟩ := par_direct h
  refine ⟨S, C, sl, c, R, h.imp fun vs c1 h1 S1 H1 xs P1 k1 r1 => ?_⟩
  obtain ⟨hn, h2⟩ := h1 S1 H1 xs P1 k1 r1
  match xs, hn with
  | [x, y], _ => exact ⟨x, y, rfl, h2⟩
theorem par3_read {i j k : Nat} {a b d : Bool} {D : Ends} {σ : L2.St} {H : Hp} (h : TSx (fun sl => ms sl >>= fun vs => M.lift (parW [(i, a), (j, b), (k, d)] vs sl) >>= fun s => pure (.nx s)) D σ H) : tPar3 i j k (TVs ms) D σ H := by
  obtain ⟨S, C, sl, c, R, h⟩ := par_direct h
  refine ⟨S, C, sl, c, R, h.imp fun vs c1 h1 S1 H1 xs P1 k1 r1 => ?_⟩
  obtain ⟨hn, h2⟩ := h1 S1 H1 xs P1 k1 r1
  match xs, hn with
  | [x, y, z], _ => exact ⟨x, y, z, rfl, h2⟩
end
end Cw

end
section
set_option linter.all false
/-! Cw4p: sorting by insertion -/
namespace Cw
section
variable {α : Type} {lt : α → α → Bool}
theorem insBy_perm (x : α) : ∀ l : List α, (insBy lt x l).Perm (x :: l)
  | [] => List.Perm.refl _
  | y :: r => by
    unfold insBy
    split
    · exact List.Perm.refl _
    · exact ((insBy_perm x r).cons y).trans (List.Perm.swap x y r)
theorem sortBy_perm : ∀ l : List α, (sortBy lt l).Perm l
  | [] => List.Perm.refl _
  | x :: r => (insBy_perm x _).trans ((sortBy_perm r).cons x)
theorem insBy_sorted (asym : ∀ a b, lt a b = true → lt b a = false) (tr : ∀ a b c, lt b a = false → lt c b = false → lt c a = false) (x : α) : ∀ l : List α, l.Pairwise (fun a b => lt b a = false) → (insBy lt x l).Pairwise (fun a b => lt b a = false)
  | [], _ => by unfold insBy; exact List.pairwise_singleton _ _
  | y :: r, h => by
    obtain ⟨h1, h2⟩ := List.pairwise_cons.mp h
    unfold insBy
    split
    · rename_i q
      refine List.pairwise_cons.mpr ⟨fun z hz => ?_, h⟩
      rcases List.mem_cons.mp hz with hz | hz
      · rw [hz]; exact asym _ _ q
      · exact tr x y z (asym _ _ q) (h1 z hz)
    · rename_i q
      refine List.pairwise_cons.mpr ⟨fun z hz => ?_, insBy_sorted asym tr x r h2⟩
      rcases List.mem_cons.mp ((insBy_perm x r).mem_iff.mp hz) with hz | hz
      · rw [hz]; simpa using q
      · exact h1 z hz
theorem sortBy_sorted (asym : ∀ a b, lt a b = true → lt b a = false) (tr : ∀ a b c, lt b a = false → lt c b = false → lt c a = false) : ∀ l : List α, (sortBy lt l).Pairwise (fun a b => lt b a = false)
  | [] => List.Pairwise.nil
  | x :: r => insBy_sorted asym tr x _ (sortBy_sorted asym tr r)
/-- whatever is sorted and as many of each is it -/
theorem sortBy_unique (asym : ∀ a b, lt a b = true → lt b a = false) (tr : ∀ a b c, lt b a = false → lt c b = false → lt c a = false) (anti : ∀ a b, lt a b = false → lt b a = false → a = b) {l m : List α} (p : m.Perm l) (h : m.Pairwise (fun a b => lt b a = false)) : m = sortBy lt l :=
  List.Perm.eq_of_pairwise (le := fun a b => lt b a = false) (fun a b _ _ h1 h2 => anti a b h2 h1) h (sortBy_sorted asym tr l) (p.trans (sortBy_perm l).symm)
end
/-! the orders -/
theorem ltI_asym (a b : Int) (h : ltI a b = true) : ltI b a = false := by
  unfold ltI at h ⊢
  simp at h ⊢; omega
theorem ltI_tr (a b c : Int) (h : ltI b a = false) (h2 : ltI c b = false) : ltI c a = false := by
  unfold ltI at h h2 ⊢
  simp at h h2 ⊢; omega
theorem ltI_anti (a b : Int) (h : ltI a b = false) (h2 : ltI b a = false) : a = b := by
  unfold ltI at h h2
  simp at h h2; omega
theorem ltL_asym (a b : List Nat) (h : ltL a b = true) : ltL b a = false := by
  unfold ltL at h ⊢
  simp only [decide_eq_true_eq, decide_eq_false_iff_not] at h ⊢
  exact List.lt_asymm h
theorem ltL_tr (a b c : List Nat) (h : ltL b a = false) (h2 : ltL c b = false) : ltL c a = false := by
  unfold ltL at h h2 ⊢
  simp only [decide_eq_false_iff_not] at h h2 ⊢
  exact List.le_trans (α := Nat) h h2
theorem ltL_anti (a b : List Nat) (h : ltL a b = false) (h2 : ltL b a = false) : a = b := by
  unfold ltL at h h2
  simp only [decide_eq_false_iff_not] at h h2
  exact List.le_antisymm (α := Nat) h2 h
theorem mem_dedup {x : List Nat} : ∀ {l : List (List Nat)}, x ∈ dedup l ↔ x ∈ l
  | [] => Iff.rfl
  | y :: l => by
    unfold dedup
    rw [List.mem_cons, List.mem_cons, List.mem_filter, mem_dedup (l := l)]
    by_cases h : x = y
    · simp [h]
    · simp [h]
theorem nodup_dedup : ∀ l : List (List Nat), (dedup l).Nodup
  | [] => List.nodup_nil
  | y :: l => by
    unfold dedup
    refine List.nodup_cons.mpr ⟨fun h => ?_, (nodup_dedup l).filter _⟩
    have := (List.mem_filter.mp h).2
    simp at this
theorem mem_dedupI {x : Int} : ∀ {l : List Int}, x ∈ dedupI l ↔ x ∈ l
  | [] => Iff.rfl
  | y :: l => by
    unfold dedupI
    rw [List.mem_cons, List.mem_cons, List.mem_filter, mem_dedupI (l := l)]
    by_cases h : x = y
    · simp [h]
    · simp [h]
theorem nodup_dedupI : ∀ l : List Int, (dedupI l).Nodup
  | [] => List.nodup_nil
  | y :: l => by
    unfold dedupI
    refine List.nodup_cons.mpr ⟨fun h => ?_, (nodup_dedupI l).filter _⟩
    have := (List.mem_filter.mp h).2
    simp at this
end Cw

end
section
set_option Elab.async false
set_option linter.all false
set_option maxRecDepth 100000
/-! Cw4a: sets of things of one kind (texts, ints): made of a walked thing, gathered -/
namespace Cw
open PySem PySem.Spec PyProof.Rows L2

section
variable {P : Program} {w : World} {K : Type} [DecidableEq K] (knd : KeyKind P w K) (key : Value → K)
def GoodG (e : Int × Value) : Prop := ∃ k, knd.is k e.2 = true ∧ e.1 = knd.hash k ∧ e.2.scannable = true ∧ key e.2 = k
/-- a set at a: its members L -/
def SetG (h : Heap) (a : Addr) (L : List K) : Prop :=
  ∃ o es ep t, h.get? a = some o ∧ o.ExactSet ∧ o.data = .set es ep t ∧ (∀ e ∈ es.toList, GoodG knd key e) ∧ (es.toList.map fun e => key e.2).Perm L ∧ L.Nodup ∧
    es.size < scanBound ∧ t.fits es.size = true ∧ Ris t.place.toList ∧ (w.params.followText "set-order" = true ∨ t.led = true)
end
section
variable {P : Program} {w : World} {K : Type} [DecidableEq K] {knd : KeyKind P w K} {key : Value → K} {h h' : Heap} {a : Addr} {L : List K}
theorem SetG.at (R : SetG knd key h a L) (k : ∀ o, h.get? a = some o → h'.get? a = some o) : SetG knd key h' a L := by
  obtain ⟨o, es, ep, t, ho, r⟩ := R
  exact ⟨o, es, ep, t, k o ho, r⟩
theorem goodG_elems {l : List (Int × Value)} (g : ∀ e ∈ l, GoodG knd key e) : ElemsOf knd l := fun e he => by
  obtain ⟨k, h1, h2, h3, _⟩ := g e he
  exact ⟨⟨k, h1, h2⟩, h3⟩
theorem goodG_is {e : Int × Value} (g : GoodG knd key e) (k : K) : knd.is k e.2 = true ↔ key e.2 = k := by
  obtain ⟨k0, h1, _, _, h4⟩ := g
  constructor
  · intro z
    rw [h4]; exact knd.inj _ _ _ h1 z
  · intro z
    rw [← z, h4]; exact h1
theorem goodG_mem {l : List (Int × Value)} (g : ∀ e ∈ l, GoodG knd key e) (k : K) : k ∈ l.map (fun e => key e.2) ↔ ∃ e ∈ l, knd.is k e.2 = true := by
  rw [List.mem_map]
  constructor
  · rintro ⟨e, he, q⟩
    exact ⟨e, he, (goodG_is (g e he) k).2 q⟩
  · rintro ⟨e, he, q⟩
    exact ⟨e, he, (goodG_is (g e he) k).1 q⟩
end
section
variable {P : Program} {w : World} {A : Around} {E : Value → Shared → Prop} {s : Shared} {a : Addr} {K : Type} [DecidableEq K] {knd : KeyKind P w K} {key : Value → K} {L : List K}
theorem setG_add_tail {g : Bool → Sem Unit} (hg : ∀ (b : Bool) (s₁ : Shared) (Q' : Unit → Shared → Prop), Q' () s₁ → wpAny (model P w) A (g b) Q' E s₁)
    {o : Obj} {es : Array (Int × Value)} {ep : Nat} {t : SetTable} (ho : s.heap.get? a = some o) (hex : o.ExactSet) (hd : o.data = .set es ep t)
    {es1 : Array (Int × Value)} {t2 : SetTable} {L' : List K} (g1 : ∀ e ∈ es1.toList, GoodG knd key e) (p1 : (es1.toList.map fun e => key e.2).Perm L') (nd1 : L'.Nodup)
    (hb1 : es1.size < scanBound) (hf2 : t2.fits es1.size = true) (hr : Ris t2.place.toList) (hl : w.params.followText "set-order" = true ∨ t2.led = true) {wasDummy : Bool} {R : Option Bool → Shared → Prop}
    (hR : ∀ h', Heap.SameBut a s.heap h' → SetG knd key h' a L' → R (some true) { s with heap := h' }) :
    wpAny (model P w) A (do
        storeSet a es1 t2
        if (!wasDummy && t2.tooFull) = true then do
            g (relayAll t2 es1 (SetTable.grown es1.size)).2.2
            storeSet a (relayAll t2 es1 (SetTable.grown es1.size)).1 (relayAll t2 es1 (SetTable.grown es1.size)).2.1
            pure (some true)
          else pure (some true)) R E s := by
  refine wpAny_bind (wpAny_storeSet_of ho hd ?_ (fits_of_scanBound hb1))
  have ho1 := store_at (es' := es1) (t' := t2) ho hd
  have sb1 := Heap.SameBut.update s.heap a (Obj.putSet es1 t2)
  split
  · have pm := relayAll_perm t2 es1 (SetTable.grown es1.size)
    have hf3 := relayAll_fits t2 es1 (SetTable.grown es1.size)
    have hr3 := relayAll_ris t2 es1 (SetTable.grown es1.size)
    have hl3 := relayAll_led t2 es1 (SetTable.grown es1.size)
    generalize relayAll t2 es1 (SetTable.grown es1.size) = Z at pm hf3 hr3 hl3 ⊢
    obtain ⟨es2, t3, gave⟩ := Z
    dsimp only at pm hf3 hr3 hl3 ⊢
    have hsz : es2.size = es1.size := by rw [← Array.length_toList, pm.length_eq, Array.length_toList]
    have hb2 : es2.size < scanBound := by rw [hsz]; exact hb1
    refine wpAny_bind (hg _ _ _ ?_)
    refine wpAny_bind (wpAny_storeSet_of ho1 rfl ?_ (fits_of_scanBound hb2))
    have ho2 := store_at (es' := es2) (t' := t3) ho1 rfl
    refine wpAny_pure (hR _ (sb1.trans (Heap.SameBut.update _ a _)) ?_)
    exact ⟨_, es2, _, t3, ho2, hex, rfl, fun e he => g1 e (pm.mem_iff.mp he), (pm.map _).trans p1, nd1, hb2, hf3, hr3, hl.imp id fun z => by rw [hl3]; exact z⟩
  · exact wpAny_pure (hR _ sb1 ⟨_, es1, _, t2, ho1, hex, rfl, g1, p1, nd1, hb1, hf2, hr, hl⟩)

theorem setG_add_hashed {k : K} {v : Value} {Q : Bool → Shared → Prop} (hkey : knd.is k v = true) (hsc : v.scannable = true) (hkv : key v = k) (R : SetG knd key s.heap a L) (room : L.length + 1 < scanBound)
    (hQ : ∀ h' b, Heap.SameBut a s.heap h' → SetG knd key h' a (if k ∈ L then L else k :: L) → Q b { s with heap := h' }) :
    wpAny (model P w) A (setAddHashed a v (knd.hash k)) Q E s := by
  obtain ⟨o, es, ep, t, ho, hex, hd, g, pL, nd, hb, hf, hr, hl⟩ := R
  have hel : ElemsOf knd es.toList := goodG_elems g
  unfold setAddHashed setAddHashedIn
  refine wpAny_holding (wpAny_bind (wpAny_setState_of ho hd hf ?_))
  dsimp only
  rw [byScan_of hsc hb hel]
  simp only [↓reduceIte]
  unfold setAddByScan
  refine wpAny_bind ?_
  refine wpAny_bind (wpAny_rule ?_)
  refine wpAny_bind (wpAny_setScan_of hkey ho hd hf hel ?_)
  cases hfi : List.findIdx? (fun e => knd.is k e.2) es.toList with
  | some j =>
    dsimp only
    obtain ⟨hj, pj, _⟩ := List.findIdx?_eq_some_iff_getElem.mp hfi
    have hkL : k ∈ L := pL.mem_iff.mp ((goodG_mem g k).2 ⟨es.toList[j], List.getElem_mem hj, pj⟩)
    refine wpAny_pure (wpAny_pure ?_)
    exact hQ s.heap _ (Heap.SameBut.refl a s.heap) (by rw [if_pos hkL]; exact ⟨o, es, ep, t, ho, hex, hd, g, pL, nd, hb, hf, hr, hl⟩)
  | none =>
    dsimp only
    have hnk : k ∉ L := fun z => by
      obtain ⟨e, he, q⟩ := (goodG_mem g k).1 (pL.mem_iff.mpr z)
      have c := List.findIdx?_eq_none_iff.mp hfi e he
      rw [q] at c
      cases c
    have hgw : ∀ (b : Bool) {s₁ : Shared} {Q' : Unit → Shared → Prop}, Q' () s₁ → wpAny (model P w) A (match b with | true => rule "set.scan.the-table-gave-way" | false => pure ()) Q' E s₁ :=
      fun b s₁ Q' q => by cases b <;> first | exact wpAny_pure q | exact wpAny_rule q
    have pm := layNew_perm t es (knd.hash k) v
    have hf1 := layNew_fits t es (knd.hash k) v
    have hr1 := layNew_ris t es (knd.hash k) v hr
    have hl1 := layNew_led t es (knd.hash k) v
    generalize layNew t es (knd.hash k) v = Z at pm hf1 hr1 hl1 ⊢
    obtain ⟨es1, t1, wasDummy, gave⟩ := Z
    dsimp only at pm hf1 hr1 hl1 ⊢
    rw [Array.toList_push] at pm
    have pc : es1.toList.Perm ((knd.hash k, v) :: es.toList) := pm.trans (List.perm_append_singleton _ _)
    have pk : (es1.toList.map fun e => key e.2).Perm (k :: L) := by
      have q := pc.map fun e : Int × Value => key e.2
      rw [List.map_cons, hkv] at q
      exact q.trans (pL.cons k)
    have g1 : ∀ e ∈ es1.toList, GoodG knd key e := fun e he => by
      rcases List.mem_cons.mp (pc.mem_iff.mp he) with z | z
      · rw [z]; exact ⟨k, hkey, rfl, hsc, hkv⟩
      · exact g e z
    have nd1 : (k :: L).Nodup := List.nodup_cons.mpr ⟨hnk, nd⟩
    have hsz : es1.size = L.length + 1 := by rw [← Array.length_toList, ← List.length_map (f := fun e : Int × Value => key e.2), pk.length_eq, List.length_cons]
    have hb1 : es1.size < scanBound := by rw [hsz]; exact room
    have hled : w.params.followText "set-order" = true ∨ t1.led = true := hl.imp id fun z => by rw [hl1]; exact z
    have fin : ∀ h', Heap.SameBut a s.heap h' → SetG knd key h' a (k :: L) → Q true { s with heap := h' } := fun h' sb r => hQ h' true sb (by rw [if_neg hnk]; exact r)
    refine wpAny_bind (hgw _ ?_)
    split
    · refine wpAny_bind ?_
      rw [hashByValue_scannable 8 hsc]
      refine wpAny_pure ?_
      refine setG_add_tail ?_ ho hex hd g1 pk nd1 hb1 ?_ ?_ ?_ ?_
      · intro b s₁ Q' q; cases b <;> first | exact wpAny_pure q | exact wpAny_rule q
      · first | (split <;> first | exact hf1 | exact SetTable.fits_plain_off hf1) | exact hf1
      · first | (split <;> exact hr1) | exact hr1
      · first | (split <;> exact hled) | exact hled
      · intro h' sb r; dsimp only; exact wpAny_pure (fin h' sb r)
    · refine wpAny_bind (wpAny_pure ?_)
      simp only [↓reduceIte]
      refine setG_add_tail ?_ ho hex hd g1 pk nd1 hb1 hf1 hr1 hled ?_
      · intro b s₁ Q' q; cases b <;> first | exact wpAny_pure q | exact wpAny_rule q
      · intro h' sb r; dsimp only; exact wpAny_pure (fin h' sb r)
end
/-- the members so far -/
def firsts {K : Type} [DecidableEq K] : List K → List K → List K
  | L, [] => L
  | L, x :: r => firsts (if x ∈ L then L else x :: L) r
section
variable {prog : Program} {w : World} {A : Around} {R : Result → Shared → Prop} {I : Addr} {fp wr : List Addr} {G : Array GenState → Array GenState → Prop} {n : Nat} {Pv : Nat → Value → Prop} {St : Nat → Shared → Prop}
variable {K : Type} [DecidableEq K] {knd : KeyKind prog w K} {key : Value → K}
theorem loopG (W : WalksS prog w A.in1 I fp wr G n Pv St) (S : Addr) (hSf : S ∉ fp) (xs : List K) (hsz : xs.length = n) (hn1 : n + 1 < scanBound)
    (hval : ∀ i v, Pv i v → ∀ (h : i < xs.length), knd.is xs[i] v = true ∧ v.scannable = true ∧ key v = xs[i]) :
    ∀ (k i : Nat) (s : Shared) (L : List K), n - i = k → i ≤ n → St i s → L.length ≤ i →
      SetG knd key s.heap S L →
      (∀ s', Moved (S :: wr) G s s' → SetG knd key s'.heap S (firsts L (xs.drop i)) → R (.ok (.ret .none)) s') →
      codeAny (model prog w) A (.builtin "set.update.loop" ⟨[.ref S, .ref I], []⟩) R s := by
  have hSw : S ∉ wr := fun h => hSf (W.sub _ h)
  have hsub : ∀ b ∈ wr, b ∈ S :: wr := fun b hb => List.mem_cons_of_mem _ hb
  intro k
  induction k with
  | zero =>
    intro i s L hk hi hst hL hS hR
    have hin : i = n := by omega
    subst hin
    refine codeAny_builtin PyProof.Rows.F.entry_set_update_loop ?_
    rw [Around.under_plainId PyProof.Rows.F.plain_set_update_loop _]
    show wpAny _ A.in1 (pyNext (.ref I) >>= _) _ _ s
    refine wpAny_bind (W.done s _ _ hst fun s' hm => ?_)
    show wpAny _ A.in1 (ret Value.none) _ _ s'
    exact wpAny_pure (hR s' (hm.mono hsub) (by
      rw [List.drop_eq_nil_of_le (by omega)]
      exact hS.at fun o ho => hm.heap S _ hSw ho))
  | succ k ih =>
    intro i s L hk hi hst hL hS hR
    have hlt : i < n := by omega
    have hx : i < xs.length := by omega
    refine codeAny_builtin PyProof.Rows.F.entry_set_update_loop ?_
    rw [Around.under_plainId PyProof.Rows.F.plain_set_update_loop _]
    show wpAny _ A.in1 (pyNext (.ref I) >>= _) _ _ s
    refine wpAny_bind (W.item i s _ _ hlt hst fun v s' hP hst' hm => ?_)
    obtain ⟨v1, v2, v3⟩ := hval i v hP hx
    have hS' : SetG knd key s'.heap S L := hS.at fun o ho => hm.heap S _ hSw ho
    show wpAny _ A.in1 (holding [v] (setAdd S v) >>= _) _ _ s'
    refine wpAny_bind (wpAny_holding ?_)
    unfold setAdd
    refine wpAny_holding ?_
    refine wpAny_bind (knd.pyHash v1 ?_)
    refine setG_add_hashed (s := { s' with toks := s'.toks + 1 }) v1 v2 v3 hS' (by omega) fun h' b hsb hS2 => ?_
    refine wpAny_pure ⟨plainId_quiet PyProof.Rows.F.plain_set_update_loop _, ih (i + 1) _ _ (by omega) hlt (W.frame _ s' _ _ hst' (Nat.le_succ _) fun b hb o e => ?_) (by split <;> (try rw [List.length_cons]) <;> omega) hS2 fun s'' hm'' hS'' => ?_⟩
    · rw [hsb.2 b (fun h : b = S => hSf (by rw [← h]; exact hb))]; exact e
    · refine hR s'' (Moved.trans W.gtrans ((hm.mono hsub).then_heap (Nat.le_succ _) fun b o hb e => ?_) hm'') ?_
      · rw [hsb.2 b (fun h : b = S => hb (by rw [h]; exact List.mem_cons_self))]; exact e
      · rw [List.drop_eq_getElem_cons hx]; exact hS''
end
end Cw

end
section
set_option Elab.async false
set_option linter.all false
set_option maxRecDepth 100000
/-! Cw4b: set(xs), sorted of it, its length -/
namespace Cw
open PySem PySem.Spec PyProof.Rows L2
section
variable {prog : Program} {w : World} {A : Around} {E : Value → Shared → Prop} {s : Shared} {K : Type} [DecidableEq K] {knd : KeyKind prog w K} {key : Value → K}
theorem setG_fresh {h : Heap} (w : World) {K : Type} [DecidableEq K] {knd : KeyKind prog w K} {key : Value → K} : SetG knd key (h.push { cls := .type "set", dict := none, data := .set #[] 0 (.fresh 0 0 (!w.params.followText "set-order")) }) h.objs.size [] :=
  ⟨_, #[], 0, _, Heap.get?_push_size _ rfl, ⟨rfl, rfl, rfl⟩, rfl, (fun e he => by simp at he), (by simp), List.nodup_nil, (by decide), (by rfl), List.Pairwise.nil, by
    show _ ∨ (!w.params.followText "set-order") = true
    cases w.params.followText "set-order"
    · exact .inr rfl
    · exact .inl rfl⟩
/-- .. of one thing -/
theorem code_set_led1 {v : Value} {Q₁ : Value → Shared → Prop}
    (h : Q₁ (.ref s.heap.objs.size) { s with heap := s.heap.push { cls := .type "set", dict := none, data := .set #[] 0 (.fresh 0 0 (!w.params.followText "set-order")) } }) :
    codeAny (model prog w) A (.call (.builtin "set.__new__") ⟨[.type "set", v], []⟩) (wants Q₁ E) s := by
  refine codeAny_of_tree ?_
  show wpAny _ A.in1 (do checkBuiltinCall "set.__new__" ⟨[.type "set", v], []⟩; again (.builtin "set.__new__" ⟨[.type "set", v], []⟩)) _ _ s
  refine wpAny_bind (wpAny_of_eq (F.newCall_set_1 v) (wpAny_pure ⟨plainId_quiet F.plain_set_new _, codeAny_builtin F.entry_set_new ?_⟩))
  rw [Around.under_plainId F.plain_set_new _]
  unfold Builtin.«set.__new__» Builtin.Frozenset.newClass
  have hsub := sub_set_self
  obtain ⟨hp, g, d, tk, os⟩ := s
  dsimp only
  wp_walk
  refine wpAny_askSetting (wpAny_pure ?_)
  dsimp only
  simp only [newObj]
  refine wpAny_bind (wpAny_alloc (wpAny_pure ?_))
  exact wpAny_pure h
set_option maxHeartbeats 3200000 in
theorem call_setG_list {l : Addr} {items : Array Value} {xs : List K} {Q : Value → Shared → Prop}
    (hh : A.handled = none) (hl : s.heap.IsList l items) (hlen : xs.length = items.size) (hn1 : items.size + 1 < scanBound)
    (hval : ∀ i v, items[i]? = some v → ∀ (h : i < xs.length), knd.is xs[i] v = true ∧ v.scannable = true ∧ key v = xs[i])
    (h : ∀ (h' : Heap) (tk : Nat), SetG knd key h' s.heap.objs.size (firsts [] xs) →
      (∀ b o, b < s.heap.objs.size → s.heap.get? b = some o → h'.get? b = some o) → Q (.ref s.heap.objs.size) { s with heap := h', toks := tk }) :
    wpAny (model prog w) A (call (.type "set") [.ref l]) Q E s := by
  obtain ⟨c, tl, hmro⟩ := PySem.F.called_set.mro
  have hmade := PySem.F.called_set.made
  have hsub := PySem.F.called_set.sub
  refine wpAny_call (codeAny_of_tree ?_)
  show wpAny _ _ (callAny (.type "set") _) _ _ _
  refine wpAny_pure ⟨Code.quiet_builtin _ (by decide +kernel), codeAny_builtin PySem.F.entry_type_call ?_⟩
  rw [Around.under_plain (weight_type_call_type "set" [.ref l] []) rfl]
  have h1 := PySem.F.called_set.notType
  have h2 := PySem.F.called_set.canCreate
  have hct := PySem.F.typeCall_set_1 (.ref l)
  repeat (any_goals (first | assumption | wp_step))
  refine codeAny_mono (code_set_led1 (v := .ref l) (E := E) (Q₁ := fun obj s₁ => obj = .ref s.heap.objs.size ∧ s₁ = { s with heap := s.heap.push { cls := .type "set", dict := none, data := .set #[] 0 (.fresh 0 0 (!w.params.followText "set-order")) } }) ⟨rfl, rfl⟩) fun r s₁ hr => ?_
  cases r with
  | error e => exact hr
  | ok fl =>
    cases fl with
    | ret obj =>
      obtain ⟨rfl, rfl⟩ := hr
      have hG := setG_fresh (prog := prog) (h := s.heap) w (knd := knd) (key := key)
      generalize hled : (!w.params.followText "set-order") = led at hG ⊢
      have hS : (s.heap.push { cls := .type "set", dict := none, data := .set #[] 0 (.fresh 0 0 led) }).get? s.heap.objs.size = some { cls := .type "set", dict := none, data := .set #[] 0 (.fresh 0 0 led) } := Heap.get?_push_size _ rfl
      have hT : Shared.TypeIs { s with heap := s.heap.push { cls := .type "set", dict := none, data := .set #[] 0 (.fresh 0 0 led) } } (.ref s.heap.objs.size) "set" := ⟨_, hS, rfl⟩
      have hli := PySem.F.called_set.init.lookup
      have hbi := PySem.F.called_set.init.bind (.ref s.heap.objs.size)
      repeat (any_goals (first | assumption | wp_step))
      refine codeAny_mono (codeAny_call_builtin (R := wants (fun r s₂ => r = .none ∧ ∃ h' tk, s₂ = { s with heap := h', toks := tk } ∧
          SetG knd key h' s.heap.objs.size (firsts [] xs) ∧
          (∀ b o, b < s.heap.objs.size → s.heap.get? b = some o → h'.get? b = some o)) E) PySem.F.called_set.init.plain PySem.F.entry_set_init (check_set_init_1 hT ?_)) fun r₂ s₂ hr₂ => ?_
      · obtain ⟨ol, hol, hcl, nl, hdl⟩ := hl
        obtain ⟨ocls, odict, odata, oslots⟩ := ol
        simp only at hcl hdl
        subst hcl; subst hdl
        have hol' : (s.heap.push { cls := .type "set", dict := none, data := .set #[] 0 (.fresh 0 0 led) }).get? l = some { cls := .type "list", dict := odict, data := .seq items nl, slots := oslots } := Heap.get?_push_of_some _ hol
        have hsls := PySem.F.sub_list_set
        have hslf := PySem.F.sub_list_frozenset
        have hne : (Value.type "list" == Value.type "dict") = false := by decide
        have hl1 : (s.heap.push { cls := .type "set", dict := none, data := .set #[] 0 (.fresh 0 0 led) }).IsList l items := ⟨_, hol', rfl, nl, rfl⟩
        unfold Builtin.«set.__init__» noKeywords Builtin.Frozenset.updateFrom
        generalize hPI : pyIter = PI
        wp_walk
        subst hPI
        refine wpAny_pyIter_list hl1 ?_
        refine wpAny_bind (wpAny_runValue ?_)
        have hlS : l < s.heap.objs.size := Heap.lt_size hol
        have hh3 : A.in1.in1.in1.handled = none := by simp [hh]
        have hneI : l ≠ (s.heap.push { cls := .type "set", dict := none, data := .set #[] 0 (.fresh 0 0 led) }).objs.size := by
          rw [Heap.size_push]; exact Nat.ne_of_lt (Nat.lt_succ_of_lt hlS)
        have hSf : s.heap.objs.size ∉ [(s.heap.push { cls := .type "set", dict := none, data := .set #[] 0 (.fresh 0 0 led) }).objs.size, l] := by
          rw [Heap.size_push]; simp only [List.mem_cons, List.mem_singleton, List.not_mem_nil, or_false, not_or]
          exact ⟨Nat.ne_of_lt (Nat.lt_succ_self _), Nat.ne_of_gt hlS⟩
        refine loopG ((Walks.list hh3 _ l hneI items).toS) s.heap.objs.size
          hSf xs hlen hn1 hval (items.size - 0) 0 _ [] (by omega) (Nat.zero_le _)
          ⟨⟨_, Heap.get?_push_size _ rfl, rfl, rfl⟩, (hl1.push _)⟩ (Nat.zero_le _) ?hS0 ?hR
        case hS0 => exact hG.at fun o ho => Heap.get?_push_of_some _ ho
        case hR =>
          intro s' hm hS'
          obtain ⟨h', g', d', tk', os'⟩ := s'
          have eg : g' = s.gens := hm.gens
          have ed : d' = s.drawn := hm.drawn
          have eo : os' = s.os := hm.os
          subst eg; subst ed; subst eo
          show wpAny _ _ _ _ _ _
          refine wpAny_pure ?_
          show wpAny _ _ (ret Value.none) _ _ _
          refine wpAny_pure ⟨rfl, h', tk', rfl, hS', fun b o hb e => ?_⟩
          have hb1 : b ≠ s.heap.objs.size := Nat.ne_of_lt hb
          have hb2 : b ≠ (s.heap.push { cls := .type "set", dict := none, data := .set #[] 0 (.fresh 0 0 led) }).objs.size := by
            rw [Heap.size_push]; exact Nat.ne_of_lt (Nat.lt_succ_of_lt hb)
          exact hm.heap b o (by simp only [List.mem_cons, List.mem_singleton, List.not_mem_nil, or_false, not_or]; exact ⟨hb1, hb2⟩) (Heap.get?_push_of_some _ (Heap.get?_push_of_some _ e))
      · cases r₂ with
        | error e => exact hr₂
        | ok fl₂ =>
          cases fl₂ with
          | ret r =>
            obtain ⟨rfl, h', tk, rfl, hS', hk'⟩ := hr₂
            repeat (any_goals (first | assumption | wp_step))
            exact h _ _ hS' hk'
          | _ => exact hr₂.elim
    | _ => exact hr.elim
/-- len(set) -/
theorem call_len_setG {a : Addr} {L : List K} {Q : Value → Shared → Prop} (R : SetG knd key s.heap a L) (h : Q (.int L.length (s.toks + 1)) { s with toks := s.toks + 1 + 1 }) :
    wpAny (model prog w) A (call (.builtin "len") [.ref a]) Q E s := by
  obtain ⟨o, es, ep, t, ho, hex, hd, g, pL, nd, hb, hf, hr, hl⟩ := R
  have hn : es.size = L.length := by rw [← Array.length_toList, ← pL.length_eq, List.length_map]
  refine call_len_set ho hex hd hf (by unfold scanBound at hb; omega) ?_
  rw [hn]; exact h
/-- what a set bears, in some order -/
theorem sorted_setG_any {a : Addr} {L : List K} {Q : Value → Shared → Prop} (R : SetG knd key s.heap a L) (hh : A.handled = none)
    (hQ : ∀ (s1 : Shared) (vs : List Value), (∀ b o, s.heap.get? b = some o → s1.heap.get? b = some o) → s1.gens = s.gens → s1.os = s.os → s.heap.objs.size ≤ s1.heap.objs.size → (∀ v ∈ vs, ∃ k, knd.is k v = true ∧ key v = k) → (vs.map key).Perm L → vs.length ≤ 100000 →
      (s1.heap.push (seqObj "list" vs.toArray 0)).get? s1.heap.objs.size = some (seqObj "list" vs.toArray 0) →
      wpAny (model prog w) A.in1 (call (.builtin "list.sort") [.ref s1.heap.objs.size]) (fun _ s2 => Q (.ref s1.heap.objs.size) s2) E { s1 with heap := s1.heap.push (seqObj "list" vs.toArray 0) }) :
    wpAny (model prog w) A (call (.builtin "sorted") [.ref a]) Q E s := by
  obtain ⟨o, es, ep, t, ho, hex, hd, g, pL, nd, hb, hf, hr, hl⟩ := R
  refine Calls.call_function_entry kind_sorted plain_sorted entry_sorted (args_sorted1 _) ?_
  unfold Builtin.«sorted»
  refine wpAny_bind (m := checkCount "sorted" 1 1 _) (wpAny_pure ?_)
  refine wpAny_bind (collect_set (A := A.in1) hh ⟨o, ho, hex.1, hd⟩ hf hb hr hl fun s1 vs k1 hz g1 o1 pm => ?_)
  have hvl : vs.length = es.size := by rw [pm.length_eq, List.length_map, Array.length_toList]
  have hvb : vs.length ≤ 100000 := by rw [hvl]; unfold scanBound at hb; omega
  refine wpAny_bind (wpAny_newList ?_ (by rw [sizeLine_eq]; omega))
  have hoL : (s1.heap.push (seqObj "list" vs.toArray 0)).get? s1.heap.objs.size = some (seqObj "list" vs.toArray 0) := Heap.get?_push_size _ rfl
  refine wpAny_bind (wpAny_holding (wpAny_mono (hQ s1 vs k1 g1 o1 hz (fun v hv => ?_) ?_ hvb hoL) (fun r s2 h2 => ?_) fun _ _ e => e))
  · obtain ⟨e, he, q⟩ := List.mem_map.mp (pm.mem_iff.mp hv)
    obtain ⟨k, h1, _, _, h4⟩ := g e he
    exact ⟨k, by rw [← q]; exact h1, by rw [← q]; exact h4⟩
  · have q := pm.map key
    rw [List.map_map] at q
    exact q.trans pL
  · exact wpAny_pure ⟨_, rfl, h2⟩
end
end Cw

end
section
set_option Elab.async false
set_option linter.all false
set_option maxRecDepth 100000
/-! Cw6b: set(text) -/
namespace Cw
open PySem PySem.Spec PyProof.Rows L2
section
variable {prog : Program} {w : World} {A : Around} {E : Value → Shared → Prop} {s : Shared} {K : Type} [DecidableEq K] {knd : KeyKind prog w K} {key : Value → K}
set_option maxHeartbeats 3200000 in
theorem call_setG_str {z : Str} {zt : Tok} {xs : List K} {Q : Value → Shared → Prop}
    (hh : A.handled = none) (hlen : xs.length = z.cps.size) (hn1 : z.cps.size + 1 < scanBound)
    (hval : ∀ i v, SignAt z i v → ∀ (h : i < xs.length), knd.is xs[i] v = true ∧ v.scannable = true ∧ key v = xs[i])
    (h : ∀ (h' : Heap) (tk : Nat), SetG knd key h' s.heap.objs.size (firsts [] xs) →
      (∀ b o, b < s.heap.objs.size → s.heap.get? b = some o → h'.get? b = some o) → Q (.ref s.heap.objs.size) { s with heap := h', toks := tk }) :
    wpAny (model prog w) A (call (.type "set") [.str z zt]) Q E s := by
  obtain ⟨c, tl, hmro⟩ := PySem.F.called_set.mro
  have hmade := PySem.F.called_set.made
  have hsub := PySem.F.called_set.sub
  refine wpAny_call (codeAny_of_tree ?_)
  show wpAny _ _ (callAny (.type "set") _) _ _ _
  refine wpAny_pure ⟨Code.quiet_builtin _ (by decide +kernel), codeAny_builtin PySem.F.entry_type_call ?_⟩
  rw [Around.under_plain (weight_type_call_type "set" [.str z zt] []) rfl]
  have h1 := PySem.F.called_set.notType
  have h2 := PySem.F.called_set.canCreate
  have hct := PySem.F.typeCall_set_1 (.str z zt)
  repeat (any_goals (first | assumption | wp_step))
  refine codeAny_mono (code_set_led1 (v := .str z zt) (E := E) (Q₁ := fun obj s₁ => obj = .ref s.heap.objs.size ∧ s₁ = { s with heap := s.heap.push { cls := .type "set", dict := none, data := .set #[] 0 (.fresh 0 0 (!w.params.followText "set-order")) } }) ⟨rfl, rfl⟩) fun r s₁ hr => ?_
  cases r with
  | error e => exact hr
  | ok fl =>
    cases fl with
    | ret obj =>
      obtain ⟨rfl, rfl⟩ := hr
      have hG := setG_fresh (prog := prog) (h := s.heap) w (knd := knd) (key := key)
      generalize hled : (!w.params.followText "set-order") = led at hG ⊢
      have hS : (s.heap.push { cls := .type "set", dict := none, data := .set #[] 0 (.fresh 0 0 led) }).get? s.heap.objs.size = some { cls := .type "set", dict := none, data := .set #[] 0 (.fresh 0 0 led) } := Heap.get?_push_size _ rfl
      have hT : Shared.TypeIs { s with heap := s.heap.push { cls := .type "set", dict := none, data := .set #[] 0 (.fresh 0 0 led) } } (.ref s.heap.objs.size) "set" := ⟨_, hS, rfl⟩
      have hli := PySem.F.called_set.init.lookup
      have hbi := PySem.F.called_set.init.bind (.ref s.heap.objs.size)
      repeat (any_goals (first | assumption | wp_step))
      refine codeAny_mono (codeAny_call_builtin (R := wants (fun r s₂ => r = .none ∧ ∃ h' tk, s₂ = { s with heap := h', toks := tk } ∧
          SetG knd key h' s.heap.objs.size (firsts [] xs) ∧
          (∀ b o, b < s.heap.objs.size → s.heap.get? b = some o → h'.get? b = some o)) E) PySem.F.called_set.init.plain PySem.F.entry_set_init (check_set_init_1 hT ?_)) fun r₂ s₂ hr₂ => ?_
      · have hsls := PySem.F.sub_str_set
        have hslf := PySem.F.sub_str_frozenset
        have hne : (Value.type "str" == Value.type "dict") = false := by decide
        have hTz : Shared.TypeIs { s with heap := s.heap.push { cls := .type "set", dict := none, data := .set #[] 0 (.fresh 0 0 led) } } (.str z zt) "str" := rfl
        unfold Builtin.«set.__init__» noKeywords Builtin.Frozenset.updateFrom
        generalize hPI : pyIter = PI
        wp_walk
        subst hPI
        refine wpAny_pyIter_str fun oi St Wk hst => ?_
        refine wpAny_bind (wpAny_runValue ?_)
        have hh3 : A.in1.in1.in1.handled = none := by simp [hh]
        have hSf : s.heap.objs.size ∉ [(s.heap.push { cls := .type "set", dict := none, data := .set #[] 0 (.fresh 0 0 led) }).objs.size] := by
          rw [Heap.size_push]; simp only [List.mem_cons, List.not_mem_nil, or_false]
          exact Nat.ne_of_lt (Nat.lt_succ_self _)
        refine loopG ((Wk _ hh3).toS) s.heap.objs.size
          hSf xs hlen hn1 hval (z.cps.size - 0) 0 _ [] (by omega) (Nat.zero_le _)
          hst (Nat.zero_le _) ?hS0 ?hR
        case hS0 => exact hG.at fun o ho => Heap.get?_push_of_some _ ho
        case hR =>
          intro s' hm hS'
          obtain ⟨h', g', d', tk', os'⟩ := s'
          have eg : g' = s.gens := hm.gens
          have ed : d' = s.drawn := hm.drawn
          have eo : os' = s.os := hm.os
          subst eg; subst ed; subst eo
          show wpAny _ _ _ _ _ _
          refine wpAny_pure ?_
          show wpAny _ _ (ret Value.none) _ _ _
          refine wpAny_pure ⟨rfl, h', tk', rfl, hS', fun b o hb e => ?_⟩
          have hb1 : b ≠ s.heap.objs.size := Nat.ne_of_lt hb
          have hb2 : b ≠ (s.heap.push { cls := .type "set", dict := none, data := .set #[] 0 (.fresh 0 0 led) }).objs.size := by
            rw [Heap.size_push]; exact Nat.ne_of_lt (Nat.lt_succ_of_lt hb)
          exact hm.heap b o (by simp only [List.mem_cons, List.mem_singleton, List.not_mem_nil, or_false, not_or]; exact ⟨hb1, hb2⟩) (Heap.get?_push_of_some _ (Heap.get?_push_of_some _ e))
      · cases r₂ with
        | error e => exact hr₂
        | ok fl₂ =>
          cases fl₂ with
          | ret r =>
            obtain ⟨rfl, h', tk, rfl, hS', hk'⟩ := hr₂
            repeat (any_goals (first | assumption | wp_step))
            exact h _ _ hS' hk'
          | _ => exact hr₂.elim
    | _ => exact hr.elim
end
end Cw

end
section
set_option Elab.async false
set_option linter.all false
set_option maxRecDepth 100000
/-! Cw4c: sorted, sets: as readings of the small language -/
namespace Cw
open PySem PySem.Spec PyProof.Rows L2
theorem mem_firsts {K : Type} [DecidableEq K] {k : K} : ∀ {xs L : List K}, k ∈ firsts L xs ↔ k ∈ L ∨ k ∈ xs
  | [], L => by simp [firsts]
  | x :: r, L => by
    unfold firsts
    rw [mem_firsts]
    split
    · rename_i h
      constructor
      · rintro (h1 | h1)
        · exact .inl h1
        · exact .inr (List.mem_cons_of_mem _ h1)
      · rintro (h1 | h1)
        · exact .inl h1
        · rcases List.mem_cons.mp h1 with h2 | h2
          · exact .inl (h2 ▸ h)
          · exact .inr h2
    · rw [List.mem_cons, List.mem_cons]
      constructor
      · rintro ((h1 | h1) | h1)
        · exact .inr (.inl h1)
        · exact .inl h1
        · exact .inr (.inr h1)
      · rintro (h1 | h1 | h1)
        · exact .inl (.inr h1)
        · exact .inl (.inl h1)
        · exact .inr h1
theorem nodup_firsts {K : Type} [DecidableEq K] : ∀ {xs L : List K}, L.Nodup → (firsts L xs).Nodup
  | [], L, h => h
  | x :: r, L, h => by
    unfold firsts
    refine nodup_firsts ?_
    split
    · exact h
    · exact List.nodup_cons.mpr ⟨by assumption, h⟩
theorem toS_back (s : Str) : toS s.cps.toList = s := by
  cases s
  simp [toS]
theorem toS_of (l : List Nat) : (toS l).cps.toList = l := by simp [toS]
theorem toS_inj' {a b : List Nat} (h : toS a = toS b) : a = b := by rw [← toS_of a, ← toS_of b, h]
theorem ltCps_lt : ∀ a b : List Nat, ltCps a b = ltL a b
  | [], [] => by unfold ltL; simp [ltCps]
  | [], _ :: _ => by unfold ltL; simp [ltCps]
  | _ :: _, [] => by unfold ltL; simp [ltCps]
  | a :: r, b :: t => by
    have ih := ltCps_lt r t
    unfold ltCps
    rw [ih]
    unfold ltL
    rw [Bool.eq_iff_iff]
    simp [List.cons_lt_cons_iff]
theorem pairwise_of_risingS : ∀ (l : List Str) (p : Str), risingS p l = true → (p :: l).Pairwise (fun a b => ltL b.cps.toList a.cps.toList = false)
  | [], p, _ => List.pairwise_singleton _ _
  | x :: r, p, h => by
    have h := (Bool.and_eq_true _ _).mp (show (!ltCps x.cps.toList p.cps.toList && risingS x r) = true from h)
    have ih := pairwise_of_risingS r x h.2
    have h1 : ltL x.cps.toList p.cps.toList = false := by
      rw [← ltCps_lt]
      simpa using h.1
    refine List.pairwise_cons.mpr ⟨fun z hz => ?_, ih⟩
    rcases List.mem_cons.mp hz with hz | hz
    · rw [hz]; exact h1
    · exact ltL_tr _ _ _ h1 ((List.pairwise_cons.mp ih).1 z hz)
theorem pairwise_of_sortedS : ∀ (l : List Str), sortedS l = true → l.Pairwise (fun a b => ltL b.cps.toList a.cps.toList = false)
  | [], _ => List.Pairwise.nil
  | x :: r, h => pairwise_of_risingS r x h
/-- sorted texts are the ones that the small language tells -/
theorem strs_sorted {ss : List (List Nat)} {ys : List Str} (p : ys.Perm (ss.map toS)) (h : sortedS ys = true) : ys = (sortBy ltL ss).map toS := by
  have e : ys = (ys.map fun s => s.cps.toList).map toS := by
    rw [List.map_map]
    conv => lhs; rw [← List.map_id ys]
    exact List.map_congr_left fun s _ => (toS_back s).symm
  have p2 : (ys.map fun s => s.cps.toList).Perm ss := by
    have q := p.map fun s : Str => s.cps.toList
    rw [List.map_map] at q
    rw [show ((fun s : Str => s.cps.toList) ∘ toS) = id from funext fun l => toS_of l, List.map_id] at q
    exact q
  rw [e, sortBy_unique ltL_asym ltL_tr ltL_anti p2 (by
    rw [List.pairwise_map]
    exact pairwise_of_sortedS ys h)]
theorem ints_sorted {ns ms : List Int} (p : ms.Perm ns) (h : ms.Pairwise (· ≤ ·)) : ms = sortBy ltI ns :=
  sortBy_unique ltI_asym ltI_tr ltI_anti p (h.imp fun {a b} hab => by unfold ltI; simp; omega)
section
variable {X : Cx}
/-- sorted(xs), texts -/
def rSortedA (K : PySem.W.Frag) : List V → Hp → VK → Prop := fun vs H Q => ∃ (a : Addr) (xs : List Str), vs = [V.ref a] ∧ SqL K H a (xs.map V.str) ∧
  ∀ (ys : List Str) (p : Addr), ys.Perm xs → sortedS ys = true → H p = none → Q (.ref p) (upd H p (.lst (ys.map V.str)))
theorem cr_sortedA : CallR X (.builtin "sorted") (rSortedA X.K) := by
  intro pins s σ H vs us Q I r h
  obtain ⟨a, xs, rfl, hs, q⟩ := h
  obtain ⟨its, rv, hl, hz⟩ := I.list hs
  rw [Vals.ref1 r]
  have hlen0 := rv.length
  rw [List.length_map] at hlen0 hz
  refine PyProof.Rows.sorted_strsAny hl.isList rv.strs (by rw [← hlen0]; exact hz) fun out ys h1 h2 h3 => ?_
  obtain ⟨ep, he'⟩ := PyProof.Rows.sortedAll_at s.heap its out
  have hlen : (ys.map V.str).length ≤ sizeLine := by rw [List.length_map, h2.length_eq]; exact hz
  exact ⟨.ref _, upd H (s.heap.objs.size + 1) (.lst (ys.map V.str)), I.laid (t' := s.toks) (fun _ _ => PyProof.Rows.sortedAll_old) (Nat.le_succ _) ⟨hlen, out.toList, ep, vals_of_strs h1, he'⟩, rfl, q ys _ h2 h3 (I.hok.fresh (Nat.le_succ _))⟩
/-- a new list of texts is put in order -/
theorem sort_new {A : Around} {E : Value → Shared → Prop} {P : Program} {w : World} {s1 : Shared} {vs : List Value} {ss : List Str} {Q : Value → Shared → Prop} (hS : StrsAre vs ss) (hL : vs.length ≤ sizeLine)
    (hoL : (s1.heap.push (seqObj "list" vs.toArray 0)).get? s1.heap.objs.size = some (seqObj "list" vs.toArray 0))
    (h : ∀ (h' : Heap) (out : Array Value) (ys : List Str) (ep : Nat), (∀ b u, s1.heap.get? b = some u → h'.get? b = some u) → h'.get? s1.heap.objs.size = some (seqObj "list" out ep) → StrsAre out.toList ys → ys.Perm ss → sortedS ys = true → Q .none { s1 with heap := h' }) :
    wpAny (model P w) A (call (.builtin "list.sort") [.ref s1.heap.objs.size]) Q E { s1 with heap := s1.heap.push (seqObj "list" vs.toArray 0) } := by
  refine wpAny_call_entry (s := { s1 with heap := s1.heap.push (seqObj "list" vs.toArray 0) }) slot_list_sort ⟨_, hoL, rfl⟩ entry_list_sort (list_sort_treeKAny (s := { s1 with heap := s1.heap.push (seqObj "list" vs.toArray 0) }) strKind_oneLt hoL hS.keysOf (fun v₁ v₂ rest e => keyKind_strs (by rw [← e]; exact hS)) hL fun st' hp hs => ⟨_, rfl, ?_⟩) (args_list_sort _)
  obtain ⟨ss', h1, h2, h3⟩ := sorted_out_str hS hp hs
  obtain ⟨c, hc⟩ := sortedHeap_at (vs := vs) (out := (arrOf st').map (·.2)) hoL
  refine h _ _ ss' c (fun b u e => ?_) hc h1 h2 h3
  have hlt := Heap.lt_size e
  rw [sortedHeap_old (Nat.ne_of_lt hlt) (by rw [size_push']; exact Nat.lt_succ_of_lt hlt)]
  exact Heap.get?_push_of_some _ e
theorem sort_newI {A : Around} {E : Value → Shared → Prop} {P : Program} {w : World} {s1 : Shared} {vs : List Value} {ns : List Int} {Q : Value → Shared → Prop} (hS : IntsAre vs ns) (hL : vs.length ≤ sizeLine)
    (hoL : (s1.heap.push (seqObj "list" vs.toArray 0)).get? s1.heap.objs.size = some (seqObj "list" vs.toArray 0))
    (h : ∀ (h' : Heap) (out : Array Value) (ys : List Int) (ep : Nat), (∀ b u, s1.heap.get? b = some u → h'.get? b = some u) → h'.get? s1.heap.objs.size = some (seqObj "list" out ep) → IntsAre out.toList ys → ys.Perm ns → ys.Pairwise (· ≤ ·) → Q .none { s1 with heap := h' }) :
    wpAny (model P w) A (call (.builtin "list.sort") [.ref s1.heap.objs.size]) Q E { s1 with heap := s1.heap.push (seqObj "list" vs.toArray 0) } := by
  refine wpAny_call_entry (s := { s1 with heap := s1.heap.push (seqObj "list" vs.toArray 0) }) slot_list_sort ⟨_, hoL, rfl⟩ entry_list_sort (list_sort_treeAny (s := { s1 with heap := s1.heap.push (seqObj "list" vs.toArray 0) }) hoL hS hL fun out ns' h1 h2 h3 => ⟨_, rfl, ?_⟩) (args_list_sort _)
  obtain ⟨c, hc⟩ := sortedHeap_at (vs := vs) (out := out) hoL
  refine h _ _ ns' c (fun b u e => ?_) hc h1 h2 h3
  have hlt := Heap.lt_size e
  rw [sortedHeap_old (Nat.ne_of_lt hlt) (by rw [size_push']; exact Nat.lt_succ_of_lt hlt)]
  exact Heap.get?_push_of_some _ e
/-- the heap behind: a new list at p -/
theorem laid_new {pins : List (Addr × Obj)} {σ : L2.St} {H : Hp} {s s' : Shared} {p : Addr} {us : List V} {out : Array Value} {ep : Nat} (I : Inv X pins σ H s) (k : ∀ b o, s.heap.get? b = some o → s'.heap.get? b = some o) (hp : s.heap.get? p = none) (g : s'.gens = s.gens) (o : s'.os = s.os)
    (hg : s'.heap.get? p = some (seqObj "list" out ep)) (hlen : us.length ≤ sizeLine) (r : Vals us out.toList) : Inv X pins σ (upd H p (.lst us)) s' ∧ H p = none := by
  have hn : H p = none := I.hok.gone hp
  have J : Inv X pins σ (upd H p (.lst us)) { s with heap := s'.heap, gens := s'.gens, drawn := s'.drawn, toks := s'.toks } :=
    I.call (ch := []) (Un.laidN k hp hn) (I.hok.laidN k hn ⟨hlen, out.toList, ep, r, hg⟩) (by rw [g]; exact I.bare) (fun _ z => nomatch z)
  have e : s' = { s with heap := s'.heap, gens := s'.gens, drawn := s'.drawn, toks := s'.toks } := by
    cases s'
    cases s
    cases o
    rfl
  rw [e]
  exact ⟨J, hn⟩
/-- sorted(x), x a text -/
theorem cr_sortedT (hc : X.calm = true) : CallR X (.builtin "sorted") (fun vs H Q => ∃ z : List Nat, vs = [V.str (toS z)] ∧ z.length ≤ sizeL ∧ ∀ (ys : List Str) (p : Addr), ys.Perm (z.map fun c => toS [c]) → sortedS ys = true → H p = none → Q (.ref p) (upd H p (.lst (ys.map V.str)))) := by
  intro pins s σ H vs us Q I r h
  obtain ⟨z, rfl, hz, q⟩ := h
  rcases r with _ | ⟨r1, r2⟩
  cases r2
  obtain ⟨t, rfl⟩ := r1
  refine Calls.call_function_entry kind_sorted plain_sorted entry_sorted (args_sorted1 _) ?_
  unfold Builtin.«sorted»
  refine wpAny_bind (m := checkCount "sorted" 1 1 _) (wpAny_pure ?_)
  have hzz : (toS z).cps.size = z.length := by simp [toS]
  refine wpAny_bind (wpAny_collect_str (A := X.A.in1) (I.ok.hd hc) (toS z) t (fun s1 acc k1 g1 d1 o1 pm => ?_) (by rw [hzz]; rw [← sizeL_eq]; exact hz))
  rw [hzz] at pm
  have hS := strs_of_items pm
  have hsz : acc.toList.length = z.length := by rw [Array.length_toList, pm.1]
  refine wpAny_bind (wpAny_newList ?_ (by rw [hsz, ← sizeL_eq]; exact hz))
  have hoL : (s1.heap.push (seqObj "list" acc.toList.toArray 0)).get? s1.heap.objs.size = some (seqObj "list" acc.toList.toArray 0) := Heap.get?_push_size _ rfl
  refine wpAny_bind (wpAny_holding (sort_new hS (by rw [hsz, ← sizeL_eq]; exact hz) hoL fun h' out ys ep k2 hg h1 h2 h3 => ?_))
  have hp : s.heap.get? s1.heap.objs.size = none := by
    cases e : s.heap.get? s1.heap.objs.size with
    | none => rfl
    | some o => exact absurd (Heap.lt_size (k1 _ o e)) (Nat.lt_irrefl _)
  obtain ⟨J, hn⟩ := laid_new (s' := { s1 with heap := h' }) I (fun b o e => k2 b o (k1 b o e)) hp g1 o1 hg (us := ys.map V.str) (by rw [List.length_map, h2.length_eq, List.length_map, ← sizeL_eq]; exact hz) (vals_of_strs h1)
  exact wpAny_pure ⟨_, rfl, .ref _, _, J, rfl, q ys _ h2 h3 hn⟩
/-- a list of texts of the heap, item by item -/
theorem strs_each : ∀ {us : List Value} {xs : List Str}, StrsAre us xs → ∀ (i : Nat) (v : Value), us[i]? = some v → ∀ (h : i < xs.length), ∃ t, v = .str xs[i] t
  | _, _, .nil, i, v, e, h => by simp at h
  | _, _, .cons n t hr, 0, v, e, h => by simp at e; exact ⟨t, by rw [← e]; rfl⟩
  | _, _, .cons n t hr, i + 1, v, e, h => by
    simp only [List.getElem?_cons_succ] at e
    obtain ⟨t', e'⟩ := strs_each hr i v e (by simpa using h)
    exact ⟨t', by rw [e']; rfl⟩
theorem ints_each : ∀ {us : List Value} {xs : List Int}, IntsAre us xs → ∀ (i : Nat) (v : Value), us[i]? = some v → ∀ (h : i < xs.length), ∃ t, v = .int xs[i] t
  | _, _, .nil, i, v, e, h => by simp at h
  | _, _, .cons n t hr, 0, v, e, h => by simp at e; exact ⟨t, by rw [← e]; rfl⟩
  | _, _, .cons n t hr, i + 1, v, e, h => by
    simp only [List.getElem?_cons_succ] at e
    obtain ⟨t', e'⟩ := ints_each hr i v e (by simpa using h)
    exact ⟨t', by rw [e']; rfl⟩
def keyS : Value → Str
  | .str s _ => s
  | _ => Str.empty
def keyI : Value → Int
  | .int s _ => s
  | _ => 0
theorem strsAre_of_key : ∀ (vs : List Value) {P : Program} {w : World}, (∀ v ∈ vs, ∃ k, (PySem.strKind P w).is k v = true ∧ keyS v = k) → StrsAre vs (vs.map keyS)
  | [], _, _, _ => .nil
  | v :: vs, P, w, h => by
    obtain ⟨k, h1, h2⟩ := h v List.mem_cons_self
    obtain ⟨t, rfl⟩ := Value.isStrOf_shape h1
    exact .cons k t (strsAre_of_key vs fun u hu => h u (List.mem_cons_of_mem _ hu))
theorem intsAre_of_key : ∀ (vs : List Value) {P : Program} {w : World}, (∀ v ∈ vs, ∃ k, (PySem.intKind P w).is k v = true ∧ keyI v = k) → IntsAre vs (vs.map keyI)
  | [], _, _, _ => .nil
  | v :: vs, P, w, h => by
    obtain ⟨k, h1, h2⟩ := h v List.mem_cons_self
    obtain ⟨t, rfl⟩ := Value.isInt_shape h1
    exact .cons k t (intsAre_of_key vs fun u hu => h u (List.mem_cons_of_mem _ hu))
theorem toS_injective : Function.Injective toS := fun a b h => toS_inj' h
/-- the members, told by texts of the small language -/
theorem firsts_strs (ss : List (List Nat)) : (firsts [] (ss.map toS)).Perm ((dedup ss).map toS) := by
  refine (List.perm_ext_iff_of_nodup (nodup_firsts List.nodup_nil) ?_).mpr fun x => ?_
  · show List.Pairwise _ _
    rw [List.pairwise_map]
    exact (nodup_dedup ss).imp fun {a b} h e => h (toS_inj' e)
  · rw [mem_firsts, List.mem_map, List.mem_map]
    constructor
    · rintro (h | ⟨y, hy, rfl⟩)
      · cases h
      · exact ⟨y, mem_dedup.mpr hy, rfl⟩
    · rintro ⟨y, hy, rfl⟩
      exact .inr ⟨y, mem_dedup.mp hy, rfl⟩
theorem firsts_ints (ns : List Int) : (firsts [] ns).Perm (dedupI ns) :=
  (List.perm_ext_iff_of_nodup (nodup_firsts List.nodup_nil) (nodup_dedupI ns)).mpr fun x => by
    rw [mem_firsts, mem_dedupI]
    simp
end
section
variable {X : Cx} {a : Expr} {ma : Slots → M Val} {p p2 q pos : Pos}
/-- set(xs), the set at hand: for len(..) and sorted(..) of it -/
theorem setS_at {pins : List (Addr × Obj)} {σ : L2.St} {H : Hp} {s : Shared} {l : Addr} {xs : List Str} {A : Around} {E : Value → Shared → Prop} {Q : Value → Shared → Prop} (I : Inv X pins σ H s) (hA : A.handled = none) (hq : SqL X.K H l (xs.map V.str)) (hn : xs.length < 4000)
    (h : ∀ (h' : Heap) (tk : Nat), SetG (PySem.strKind X.prog X.w) keyS h' s.heap.objs.size (firsts [] xs) → Inv X pins σ H { s with heap := h', toks := tk } → Q (.ref s.heap.objs.size) { s with heap := h', toks := tk }) :
    wpAny (model X.prog X.w) A (call (.type "set") [.ref l]) Q E s := by
  obtain ⟨its, r, pl, hz⟩ := I.list hq
  have hl : xs.length = its.toArray.size := by rw [List.size_toArray, ← r.length, List.length_map]
  refine call_setG_list (knd := PySem.strKind X.prog X.w) (key := keyS) hA pl.isList hl (by rw [← hl]; unfold scanBound; omega) (fun i v hv hi => ?_) fun h' tk hS hk => ?_
  · obtain ⟨t, rfl⟩ := strs_each r.strs i v (by simpa using hv) hi
    exact ⟨strKind_is _ _ _ _, rfl, rfl⟩
  · exact h h' tk hS (I.kept fun b o e => hk b o (Heap.lt_size e) e)
theorem setI_at {pins : List (Addr × Obj)} {σ : L2.St} {H : Hp} {s : Shared} {l : Addr} {xs : List Int} {A : Around} {E : Value → Shared → Prop} {Q : Value → Shared → Prop} (I : Inv X pins σ H s) (hA : A.handled = none) (hq : SqL X.K H l (xs.map V.int)) (hn : xs.length < 4000)
    (h : ∀ (h' : Heap) (tk : Nat), SetG (PySem.intKind X.prog X.w) keyI h' s.heap.objs.size (firsts [] xs) → Inv X pins σ H { s with heap := h', toks := tk } → Q (.ref s.heap.objs.size) { s with heap := h', toks := tk }) :
    wpAny (model X.prog X.w) A (call (.type "set") [.ref l]) Q E s := by
  obtain ⟨its, r, pl, hz⟩ := I.list hq
  have hl : xs.length = its.toArray.size := by rw [List.size_toArray, ← r.length, List.length_map]
  refine call_setG_list (knd := PySem.intKind X.prog X.w) (key := keyI) hA pl.isList hl (by rw [← hl]; unfold scanBound; omega) (fun i v hv hi => ?_) fun h' tk hS hk => ?_
  · obtain ⟨t, rfl⟩ := ints_each r.ints i v (by simpa using hv) hi
    exact ⟨intKind_is _ _ _ _, rfl, rfl⟩
  · exact h h' tk hS (I.kept fun b o e => hk b o (Heap.lt_size e) e)
theorem chars_strs : ∀ z : List Nat, allStr? (charsW z) = some (z.map fun c => [c])
  | [] => rfl
  | c :: z => by
    show (allStr? (charsW z)).map (([c] : List Nat) :: ·) = _
    rw [chars_strs z]
    rfl
theorem setT_at {pins : List (Addr × Obj)} {σ : L2.St} {H : Hp} {s : Shared} {z : List Nat} {t : Tok} {A : Around} {E : Value → Shared → Prop} {Q : Value → Shared → Prop} (I : Inv X pins σ H s) (hA : A.handled = none) (hn : z.length < 4000)
    (h : ∀ (h' : Heap) (tk : Nat), SetG (PySem.strKind X.prog X.w) keyS h' s.heap.objs.size (firsts [] ((z.map fun c => [c]).map toS)) → Inv X pins σ H { s with heap := h', toks := tk } → Q (.ref s.heap.objs.size) { s with heap := h', toks := tk }) :
    wpAny (model X.prog X.w) A (call (.type "set") [.str (toS z) t]) Q E s := by
  have hzs : (toS z).cps.size = z.length := by simp [toS]
  refine call_setG_str (knd := PySem.strKind X.prog X.w) (key := keyS) (xs := (z.map fun c => [c]).map toS) hA (by simp [toS]) (by rw [hzs]; unfold scanBound; omega) (fun i v hv hi => ?_) fun h' tk hS hk => ?_
  · obtain ⟨c, u, e1, rfl⟩ := hv
    have e2 : z[i]? = some c := by simpa [toS] using e1
    have e3 : ((z.map fun c => [c]).map toS)[i] = toS [c] := by
      have : ((z.map fun c => [c]).map toS)[i]? = some (toS [c]) := by simp [e2]
      rw [List.getElem?_eq_getElem hi] at this
      exact Option.some.inj this
    rw [e3]
    exact ⟨strKind_is _ _ _ _, rfl, rfl⟩
  · exact h h' tk hS (I.kept fun b o e => hk b o (Heap.lt_size e) e)
/-- what is done with a set of a list: read by values -/
structure SetUse (X : Cx) (f : String) (g : List W → Option Val) : Prop where
  run : ∀ (pins : List (Addr × Obj)) (s : Shared) (σ : L2.St) (H : Hp) (Q : VK) (l : Addr) (S : Kn) (C : List Addr) (c : Cells) (ws : List W) (us : List V) (v : Val), Inv X pins σ H s → Bs S C c H → Rd H l (.lst us) → Reps S C ws us → g [.lst ws] = some v → EndX S C H Q v c →
    wpAny (model X.prog X.w) X.A (call (.type "set") [.ref l]) (fun st s1 => wpAny (model X.prog X.w) X.A (call (.builtin f) [st]) (EP X pins σ Q) X.xe s1) X.xe s
  runT : ∀ (pins : List (Addr × Obj)) (s : Shared) (σ : L2.St) (H : Hp) (Q : VK) (z : List Nat) (t : Tok) (S : Kn) (C : List Addr) (c : Cells) (v : Val), Inv X pins σ H s → Bs S C c H → g [.str z] = some v → EndX S C H Q v c →
    wpAny (model X.prog X.w) X.A (call (.type "set") [.str (toS z) t]) (fun st s1 => wpAny (model X.prog X.w) X.A (call (.builtin f) [st]) (EP X pins σ Q) X.xe s1) X.xe s
theorem use_len (hc : X.calm = true) : SetUse X "len" (bltop .lenset) := ⟨fun pins s σ H Q l S C c ws us v I B rd r e q => by
  simp only [bltop] at e
  split at e
  case isFalse => cases e
  rename_i h4
  obtain ⟨n, e2, rfl⟩ := Option.map_eq_some_iff.mp e
  clear e
  have e := e2
  clear e2
  unfold lenSetW at e
  cases hs : allStr? ws with
  | some ss =>
    rw [hs] at e
    cases e
    have hu := r.strs hs
    subst hu
    have hlen : (ss.map toS).length < 4000 := by
      have := r.length
      rw [List.length_map] at this
      omega
    refine setS_at I (I.ok.hd hc) (Rd.sq rd) hlen fun h' tk hS I2 => ?_
    refine call_len_setG hS ⟨.int _, H, I2.tok _, ⟨_, rfl⟩, ?_⟩
    rw [(firsts_strs ss).length_eq, List.length_map]
    exact q.int B
  | none =>
    rw [hs] at e
    obtain ⟨ns, hn, rfl⟩ := Option.map_eq_some_iff.mp e
    have hu := r.ints hn
    subst hu
    have hlen : ns.length < 4000 := by
      have := r.length
      rw [List.length_map] at this
      omega
    refine setI_at I (I.ok.hd hc) (Rd.sq rd) hlen fun h' tk hS I2 => ?_
    refine call_len_setG hS ⟨.int _, H, I2.tok _, ⟨_, rfl⟩, ?_⟩
    rw [(firsts_ints ns).length_eq]
    exact q.int B,
  fun pins s σ H Q z t S C c v I B e q => by
  simp only [bltop] at e
  split at e
  case isFalse => cases e
  rename_i h4
  obtain ⟨n, e2, rfl⟩ := Option.map_eq_some_iff.mp e
  unfold lenSetW at e2
  rw [chars_strs] at e2
  cases e2
  refine setT_at I (I.ok.hd hc) h4 fun h' tk hS I2 => ?_
  refine call_len_setG hS ⟨.int _, H, I2.tok _, ⟨_, rfl⟩, ?_⟩
  rw [(firsts_strs _).length_eq, List.length_map]
  exact q.int B⟩
theorem use_sorted (hc : X.calm = true) : SetUse X "sorted" (bltop .sortedset) := ⟨fun pins s σ H Q l S C c ws us v I B rd r e q => by
  simp only [bltop] at e
  split at e
  case isFalse => cases e
  rename_i h4
  obtain ⟨zs, e2, rfl⟩ := Option.map_eq_some_iff.mp e
  clear e
  have e := e2
  clear e2
  unfold sortSetW at e
  cases hs : allStr? ws with
  | some ss =>
    rw [hs] at e
    cases e
    have hu := r.strs hs
    subst hu
    have hlen : (ss.map toS).length < 4000 := by
      have := r.length
      rw [List.length_map] at this
      omega
    refine setS_at I (I.ok.hd hc) (Rd.sq rd) hlen fun h' tk hS I2 => ?_
    refine sorted_setG_any hS (I.ok.hd hc) fun s1 vs k1 g1 o1 hz hv pm hb hoL => ?_
    refine sort_new (strsAre_of_key vs hv) (by rw [sizeLine_eq]; omega) hoL fun h2 out ys ep k2 hg h1 p2 h3 => ?_
    have hyl : ys.length ≤ sizeLine := by rw [p2.length_eq, List.length_map, sizeLine_eq]; omega
    have hp : h'.get? s1.heap.objs.size = none := by
      cases e : h'.get? s1.heap.objs.size with
      | none => rfl
      | some o => exact absurd (Heap.lt_size (k1 _ o e)) (Nat.lt_irrefl _)
    obtain ⟨J, hn⟩ := laid_new (s' := { s1 with heap := h2 }) I2 (fun b o e => k2 b o (k1 b o e)) hp g1 o1 hg (us := ys.map V.str) (by rw [List.length_map]; exact hyl) (vals_of_strs h1)
    refine ⟨.ref _, _, J, rfl, ?_⟩
    have hy := strs_sorted ((p2.trans pm).trans (firsts_strs ss)) h3
    subst hy
    refine q.list B ?_ hn
    rw [List.map_map]
    exact Reps.map_str _
  | none =>
    rw [hs] at e
    obtain ⟨ns, hn, rfl⟩ := Option.map_eq_some_iff.mp e
    have hu := r.ints hn
    subst hu
    have hlen : ns.length < 4000 := by
      have := r.length
      rw [List.length_map] at this
      omega
    refine setI_at I (I.ok.hd hc) (Rd.sq rd) hlen fun h' tk hS I2 => ?_
    refine sorted_setG_any hS (I.ok.hd hc) fun s1 vs k1 g1 o1 hz hv pm hb hoL => ?_
    refine sort_newI (intsAre_of_key vs hv) (by rw [sizeLine_eq]; omega) hoL fun h2 out ys ep k2 hg h1 p2 h3 => ?_
    have hyl : ys.length ≤ sizeLine := by rw [p2.length_eq, List.length_map, sizeLine_eq]; omega
    have hp : h'.get? s1.heap.objs.size = none := by
      cases e : h'.get? s1.heap.objs.size with
      | none => rfl
      | some o => exact absurd (Heap.lt_size (k1 _ o e)) (Nat.lt_irrefl _)
    obtain ⟨J, hn⟩ := laid_new (s' := { s1 with heap := h2 }) I2 (fun b o e => k2 b o (k1 b o e)) hp g1 o1 hg (us := ys.map V.int) (by rw [List.length_map]; exact hyl) (vals_of_ints h1)
    refine ⟨.ref _, _, J, rfl, ?_⟩
    have hy := ints_sorted ((p2.trans pm).trans (firsts_ints ns)) h3
    subst hy
    exact q.list B (Reps.map_int _) hn,
  fun pins s σ H Q z t S C c v I B e q => by
  simp only [bltop] at e
  split at e
  case isFalse => cases e
  rename_i h4
  obtain ⟨zs, e2, rfl⟩ := Option.map_eq_some_iff.mp e
  unfold sortSetW at e2
  rw [chars_strs] at e2
  cases e2
  refine setT_at I (I.ok.hd hc) h4 fun h' tk hS I2 => ?_
  refine sorted_setG_any hS (I.ok.hd hc) fun s1 vs k1 g1 o1 hz hv pm hb hoL => ?_
  refine sort_new (strsAre_of_key vs hv) (by rw [sizeLine_eq]; omega) hoL fun h2 out ys ep k2 hg h1 p2 h3 => ?_
  have hyl : ys.length ≤ sizeLine := by rw [p2.length_eq, List.length_map, sizeLine_eq]; omega
  have hp : h'.get? s1.heap.objs.size = none := by
    cases e : h'.get? s1.heap.objs.size with
    | none => rfl
    | some o => exact absurd (Heap.lt_size (k1 _ o e)) (Nat.lt_irrefl _)
  obtain ⟨J, hn⟩ := laid_new (s' := { s1 with heap := h2 }) I2 (fun b o e => k2 b o (k1 b o e)) hp g1 o1 hg (us := ys.map V.str) (by rw [List.length_map]; exact hyl) (vals_of_strs h1)
  refine ⟨.ref _, _, J, rfl, ?_⟩
  have hy := strs_sorted ((p2.trans pm).trans (firsts_strs _)) h3
  subst hy
  refine q.list B ?_ hn
  rw [List.map_map]
  exact Reps.map_str _⟩
theorem snd_setOf {f : String} {g : List W → Option Val} {x : Str} (U : SetUse X f g) (hgl : Gl X x) (hm : X.mg x = none) (hv : bootBuiltins x = some (.builtin f)) (hn : x ≠ "__name__") (hdb : (x == ("__debug__" : Str)) = false) (hg2 : Gl X "set") (hm2 : X.mg "set" = none) (na : notStar a = true)
    (hone : ∀ w v, g [w] = some v → (∃ ws, w = .lst ws) ∨ ∃ z, w = .str z) (ha : PE X a (TX ma)) : PE X (.Call (.Name x p) [.Call (.Name "set" p2) [a] [] q] [] pos) (TX fun sl => ma sl >>= fun v => M.lift (g [v.get])) := by
  have na' : starEach [a] X.env = (false, eval a X.env) :: starEach [] X.env := star_cons na
  refine ⟨fun pins s σ H Q I ⟨S, C, sl, c, R, hx⟩ => ?_⟩
  refine Call_ (ld_blt (hn := hn) (hd := hdb) I hgl hm hv ?_)
  refine PyProof.Rows.callWith_builtin1 (PyProof.Rows.args_cons ?_ rfl) rfl rfl
  refine Call_ (ld_blt I hg2 hm2 PyProof.Rows.boot_set ?_)
  refine PyProof.Rows.callWith_type1 (PyProof.Rows.args_cons (thn (ha.run pins s σ H (fun x1 H1 => (∃ S1 C c1 ws us l v, x1 = .ref l ∧ Bs S1 C c1 H1 ∧ Rd H1 l (.lst us) ∧ Reps S1 C ws us ∧ g [.lst ws] = some v ∧ EndX S1 C H1 Q v c1) ∨ ∃ S1 C c1 z v, x1 = .str (toS z) ∧ Bs S1 C c1 H1 ∧ g [.str z] = some v ∧ EndX S1 C H1 Q v c1) I ?_) fun v s1 ⟨x, H1, I1, r1, q1⟩ => PyProof.Rows.args_nil ?_) na') na' rfl
  · refine ⟨S, C, sl, c, R, (okr_bnd.mp hx).imp fun v1 c1 h1 S1 H1 x1 P1 k1 r1 => ?_⟩
    obtain ⟨v', e, qq⟩ := okr_lift.mp h1
    have B : Bs S1 C c1 H1 := ⟨P1.sub, k1⟩
    rcases hone _ _ e with ⟨ws, hw⟩ | ⟨z, hw⟩
    case inr =>
      refine .inr ⟨S1, C, c1, z, v', ?_, B, by rw [← hw]; exact e, fun S2 H2 y P2 k2 r2 => qq S2 H2 y (P1.trans P2) k2 (r2.back P1.dom)⟩
      have lk := r1.lk
      rw [hw] at lk
      exact lk.str
    refine .inl ?_
    have e1 : g [.lst ws] = some v' := by rw [← hw]; exact e
    have fin : EndX S1 C H1 Q v' c1 := fun S2 H2 y P2 k2 r2 => qq S2 H2 y (P1.trans P2) k2 (r2.back P1.dom)
    cases v1 with
    | w w1 =>
      have hw : w1 = .lst ws := hw
      subst hw
      obtain ⟨p, us, rfl, hS, r⟩ := r1
      exact ⟨S1, C, c1, ws, us, p, v', rfl, B, P1.sub _ _ hS, r, e1, fin⟩
    | own w1 =>
      have hw : w1 = .lst ws := hw
      subst hw
      obtain ⟨p, o, ⟨us, rfl, r⟩, rfl, hH, _⟩ := r1
      exact ⟨S1, C, c1, _, us, p, v', rfl, B, .inl hH, r, e1, fin⟩
    | bor w1 =>
      have hw : w1 = .lst ws := hw
      subst hw
      obtain ⟨p, o, ⟨us, rfl, r⟩, rfl, hH, _⟩ := r1
      exact ⟨S1, C, c1, _, us, p, v', rfl, B, .inl hH, r, e1, fin⟩
  · rcases q1 with ⟨S1, C1, c1, ws, us, l, v', rfl, B, rd, r, e, qq⟩ | ⟨S1, C1, c1, z, v', rfl, B, e, qq⟩
    case inr =>
      obtain ⟨t, rfl⟩ := r1
      have hrun := U.runT pins s1 σ H1 Q z t S1 C1 c1 v' I1 B e qq
      refine wpAny_mono hrun (fun st s2 h2 => ?_) fun _ _ e => e
      exact PyProof.Rows.args_nil h2
    cases r1
    have hrun := U.run pins s1 σ H1 Q l S1 C1 c1 ws us v' I1 B rd r e qq
    refine wpAny_mono hrun (fun st s2 h2 => ?_) fun _ _ e => e
    exact PyProof.Rows.args_nil h2
theorem blt_sorted (hc : X.calm = true) : CallR X (.builtin "sorted") (rdF (bltop .sorted)) := by
  refine CallR.cases fun xs H Q ⟨S, C, c, ws, v, B, l, e, q⟩ => ?_
  rcases ws with _ | ⟨w, _ | ⟨w2, r⟩⟩
  · cases e
  · obtain ⟨x, rfl, k⟩ := l.one
    cases w <;> first | (cases e; done) | skip
    · rename_i z
      have e : (if z.length ≤ sizeL then some (Val.own (.lst ((sortBy (fun a b => decide (a < b)) z).map fun c => .str [c]))) else none) = some v := e
      split at e
      case isFalse => cases e
      rename_i hz
      cases e
      have hx := k.str
      subst hx
      refine ⟨_, cr_sortedT hc, z, rfl, hz, fun ys p hp hs hn => ?_⟩
      have e1 : (z.map fun c => toS [c]) = (z.map fun c => [c]).map toS := by rw [List.map_map]; rfl
      rw [e1] at hp
      have hy := strs_sorted hp hs
      have hz2 : sortBy ltL (z.map fun c => [c]) = (sortBy (fun a b => decide (a < b)) z).map fun c => [c] := by
        refine (sortBy_unique ltL_asym ltL_tr ltL_anti ((sortBy_perm z).map _) ?_).symm
        rw [List.pairwise_map]
        refine (sortBy_sorted (lt := fun a b : Nat => decide (a < b)) (fun a b h => by simp at h ⊢; omega) (fun a b c h1 h2 => by simp at h1 h2 ⊢; omega) z).imp fun {a b} h => ?_
        have e3 : ltL [b] [a] = decide (b < a) := by
          unfold ltL
          rw [decide_eq_decide]
          simp [List.cons_lt_cons_iff]
        rw [e3]; exact h
      rw [hz2, List.map_map] at hy
      subst hy
      refine q.list B ?_ hn
      have := Reps.map_str (S := S) (C := C) ((sortBy (fun a b => decide (a < b)) z).map fun c => [c])
      rw [List.map_map, List.map_map] at this
      rw [List.map_map]
      exact this
    · rename_i zs
      obtain ⟨ys, e2, ev⟩ := Option.map_eq_some_iff.mp (show (sortW zs).map (fun ys => Val.own (.lst ys)) = some v from e)
      subst ev
      obtain ⟨p, us, rfl, rd, r⟩ := k.lst B
      unfold sortW at e2
      cases hs : allStr? zs with
      | some ss =>
        rw [hs] at e2
        cases e2
        have hu := r.strs hs
        subst hu
        refine ⟨_, cr_sortedA, p, _, rfl, Rd.sq rd, fun ys pp hp hs hn => ?_⟩
        have hy := strs_sorted hp hs
        subst hy
        refine q.list B ?_ hn
        rw [List.map_map]
        exact Reps.map_str _
      | none =>
        rw [hs] at e2
        obtain ⟨ns, hn, rfl⟩ := Option.map_eq_some_iff.mp e2
        have hu := r.ints hn
        subst hu
        refine ⟨_, cr_sortedI, p, ns, rfl, Rd.sq rd, fun ms pp hp hs hn => ?_⟩
        have hy := ints_sorted hp hs
        subst hy
        exact q.list B (Reps.map_int _) hn
  · cases w <;> cases e
theorem ev_one {P : Prog} {R : Nat → List W → M Val} {a : E} {f : Blt} {sl : Slots} : (evEv P R (.cons a .nil) sl >>= fun ws => M.lift (bltop f ws)) = (evE P R a sl >>= fun v => M.lift (bltop f [v.get])) := by
  funext c
  show (((evE P R a sl >>= fun v => (evEv P R .nil sl) >>= fun ws => pure (v.get :: ws)) >>= fun ws => M.lift (bltop f ws)) : M Val) c = _
  show M.bnd (M.bnd _ _) _ c = M.bnd _ _ c
  unfold M.bnd
  cases evE P R a sl c <;> rfl
theorem lenset_lst {w : W} {v : Val} (h : bltop .lenset [w] = some v) : (∃ ws, w = .lst ws) ∨ ∃ z, w = .str z := by
  cases w <;> first | exact .inl ⟨_, rfl⟩ | exact .inr ⟨_, rfl⟩ | cases h
theorem sortset_lst {w : W} {v : Val} (h : bltop .sortedset [w] = some v) : (∃ ws, w = .lst ws) ∨ ∃ z, w = .str z := by
  cases w <;> first | exact .inl ⟨_, rfl⟩ | exact .inr ⟨_, rfl⟩ | cases h
end
end Cw

end
section
set_option Elab.async false
set_option linter.all false
set_option maxRecDepth 100000
/-! Cw4d: dicts with ints and texts as keys -/
namespace Cw
open PySem PySem.Spec PyProof.Rows L2
section
variable {S S' : Kn} {C : List Addr} {c c' : Cells} {H H' : Hp} {Q : VK} {v : Val} {x y : V}
theorem Lk.dct {ks vs : List W} (B : Bs S C c H) (k : Lk S C H (.dct ks vs) x) : ∃ p kvs, x = .ref p ∧ Rd H p (.dK kvs) ∧ ks.map keyW = kvs.map (fun p => some p.1) ∧ Reps S C vs (kvs.map (·.2)) := by
  rcases k with ⟨p, kvs, e, h, m, r⟩ | ⟨p, o, ⟨kvs, rfl, m, r⟩, e2, h, nc⟩
  · exact ⟨p, kvs, e, B.sub _ _ h, m, r⟩
  · exact ⟨p, kvs, e2, .inl h, m, r⟩
theorem key_lk {w : W} (h : w.isKey = true) (k : Lk S C H w y) : ∃ kk, keyW w = some kk ∧ y = kV kk := by
  cases w <;> first | (cases h; done) | skip
  · exact ⟨.inl _, rfl, k.int⟩
  · exact ⟨.inr _, rfl, k.str⟩
theorem keyEq_ok {k w : W} {f kk : Key} (h1 : keyW k = some f) (h2 : keyW w = some kk) : keyEq k w = decide (f = kk) := by
  cases k <;> first | (cases h1; done) | skip
  · cases w <;> first | (cases h2; done) | skip
    · cases h1; cases h2
      show (_ == _) = _
      rw [Bool.eq_iff_iff]; simp
    · cases h1; cases h2
      show false = _
      simp
  · cases w <;> first | (cases h2; done) | skip
    · cases h1; cases h2
      show false = _
      simp
    · cases h1; cases h2
      rename_i a b
      show (a == b) = _
      rw [Bool.eq_iff_iff]
      simp only [beq_iff_eq, decide_eq_true_eq, Sum.inr.injEq]
      exact ⟨fun h => by rw [h], fun h => toS_inj' h⟩
theorem look_ok {w : W} {kk : Key} (hk : keyW w = some kk) : ∀ {ks vs : List W} {kvs : List (Key × V)}, ks.map keyW = kvs.map (fun p => some p.1) → Reps S C vs (kvs.map (·.2)) →
    (lookW ks vs w = none ∧ valV kvs kk = none) ∨ ∃ z u, lookW ks vs w = some z ∧ valV kvs kk = some u ∧ Rep S C z u
  | [], vs, kvs, m, r => by
    have : kvs = [] := by simpa using m.symm
    subst this
    have : vs = [] := by
      cases vs with
      | nil => rfl
      | cons a b => obtain ⟨_, _, e, _⟩ := r; cases e
    subst this
    exact .inl ⟨rfl, rfl⟩
  | k :: ks, vs, [], m, r => by simp at m
  | k :: ks, [], p :: kvs, m, r => by cases r
  | k :: ks, v :: vs, p :: kvs, m, ⟨u, us, e, r1, r2⟩ => by
    rw [List.map_cons, List.map_cons] at m
    obtain ⟨m1, m2⟩ := List.cons.inj m
    rw [List.map_cons] at e
    obtain ⟨e1, e2⟩ := List.cons.inj e
    subst e2
    have hke := keyEq_ok m1 hk
    by_cases h : p.1 = kk
    · right
      refine ⟨v, u, ?_, ?_, r1⟩
      · show (if keyEq k w = true then some v else _) = _
        rw [if_pos (by rw [hke]; exact decide_eq_true h)]
      · rw [valV_pos h, e1]
    · have hn : lookW (k :: ks) (v :: vs) w = lookW ks vs w := by
        show (if keyEq k w = true then some v else _) = _
        rw [if_neg (by rw [hke, decide_eq_false h]; exact Bool.false_ne_true)]
      rw [hn, valV_neg h]
      exact look_ok hk m2 r2
theorem repl_ok {w z : W} {kk : Key} {u : V} (hk : keyW w = some kk) (hz : Rep S C z u) : ∀ {ks vs : List W} {kvs : List (Key × V)}, ks.map keyW = kvs.map (fun p => some p.1) → Reps S C vs (kvs.map (·.2)) →
    Reps S C (replW ks vs w z) ((kvs.map fun kv => if kv.1 = kk then (kv.1, u) else kv).map (·.2)) ∧ ks.map keyW = (kvs.map fun kv => if kv.1 = kk then (kv.1, u) else kv).map (fun p => some p.1)
  | [], vs, kvs, m, r => by
    have : kvs = [] := by simpa using m.symm
    subst this
    exact ⟨rfl, rfl⟩
  | k :: ks, vs, [], m, r => by simp at m
  | k :: ks, [], p :: kvs, m, r => by cases r
  | k :: ks, v :: vs, p :: kvs, m, ⟨u1, us, e, r1, r2⟩ => by
    rw [List.map_cons, List.map_cons] at m
    obtain ⟨m1, m2⟩ := List.cons.inj m
    rw [List.map_cons] at e
    obtain ⟨e1, e2⟩ := List.cons.inj e
    subst e2
    have hke := keyEq_ok m1 hk
    obtain ⟨i1, i2⟩ := repl_ok hk hz m2 r2
    show Reps S C ((if keyEq k w = true then z else v) :: replW ks vs w z) _ ∧ _
    rw [List.map_cons, List.map_cons, List.map_cons, List.map_cons, i2, hke]
    by_cases h : p.1 = kk
    · rw [if_pos h, decide_eq_true h, if_pos rfl]
      exact ⟨⟨u, _, rfl, hz, i1⟩, by rw [m1]⟩
    · rw [if_neg h, decide_eq_false h, if_neg Bool.false_ne_true]
      exact ⟨⟨u1, _, by rw [e1], r1, i1⟩, by rw [m1]⟩
theorem put_ok {w z : W} {kk : Key} {u : V} {ks vs : List W} {kvs : List (Key × V)} (hk : keyW w = some kk) (hz : Rep S C z u) (m : ks.map keyW = kvs.map (fun p => some p.1)) (r : Reps S C vs (kvs.map (·.2))) : Pay S C (putW ks vs w z) (.dK (putK kvs kk u)) := by
  unfold putW putK
  rw [valV_any]
  rcases look_ok hk m r with ⟨h1, h2⟩ | ⟨a, b, h1, h2, _⟩
  · rw [h1, h2, if_neg (by simp), if_neg (by simp)]
    refine ⟨_, rfl, ?_, ?_⟩
    · rw [List.map_append, List.map_append, m]
      show _ ++ [keyW w] = _
      rw [hk]; rfl
    · rw [List.map_append]
      exact r.append (Reps.cons hz Reps.nil)
  · rw [h1, h2, if_pos (show (some a).isSome = true from rfl), if_pos (show (some b).isSome = true from rfl)]
    obtain ⟨i1, i2⟩ := repl_ok hk hz m r
    exact ⟨_, rfl, i2, i1⟩
end
section
variable {X : Cx} {o k d : Expr} {mo mk md : Slots → M Val} {pos apos : Pos}
theorem snd_dnew : PE X (.Dict [] [] pos) (TX fun _ => pure (.own (.dct [] []))) := by
  refine pe_dnewK.imp fun σ H Q ⟨S, C, sl, c, R, h⟩ => ?_
  intro p hp
  have B := R.bs
  obtain ⟨P, k⟩ := Post.laid B.rel hp (.dK []) (fun _ _ z => by cases z) false
  refine okr_ret.mp h _ _ _ P k ⟨p, _, ⟨[], rfl, rfl, rfl⟩, rfl, upd_same, ?_, ?_, hp⟩
  · cases q : S p with
    | none => exact q
    | some u => exact absurd hp (Rd.some (B.sub p u q))
  · intro hm
    obtain ⟨us', hu⟩ := B.cells.live hm
    rw [hp] at hu; cases hu
theorem snd_dget (hu : X.A.units + 1 < cLine) (hs : NoSl k) (ho : PE X o (TX mo)) (hk : PE X k (TX mk)) : PE X (.Subscript o k pos) (TX fun sl => mo sl >>= fun x => mk sl >>= fun y => M.lift ((dgetW x.get y.get).map .w)) := by
  refine (pe_dget hu ho hk hs).imp fun σ H Q ⟨S, C, sl, c, R, h⟩ => ?_
  refine tx_bind (f := fun x sl => mk sl >>= fun y => M.lift ((dgetW x.get y.get).map .w)) R h fun v c1 S1 H1 x P1 k1 R1 r1 h1 => ?_
  refine tx_bind (f := fun y sl => M.lift ((dgetW v.get y.get).map .w)) R1 h1 fun v2 c2 S2 H2 y P2 k2 R2 r2 h2 => ?_
  obtain ⟨u, e, q⟩ := okr_lift.mp h2
  obtain ⟨z, e1, rfl⟩ := Option.map_eq_some_iff.mp e
  have l := r1.lk.next P2
  cases hv : v.get <;> rw [hv] at e1 l <;> first | (cases e1; done) | skip
  rename_i ks vs
  have e1 : (if v2.get.isKey = true then lookW ks vs v2.get else none) = some z := e1
  by_cases hkk : v2.get.isKey = true
  case neg => rw [if_neg hkk] at e1; cases e1
  rw [if_pos hkk] at e1
  obtain ⟨p, kvs, rfl, rd, m, r⟩ := l.dct R2.bs
  obtain ⟨kk, e2, rfl⟩ := key_lk hkk r2.lk
  rcases look_ok e2 m r with ⟨h3, _⟩ | ⟨a, b, h3, h4, rz⟩
  · rw [h3] at e1; cases e1
  · rw [h3] at e1
    cases e1
    exact ⟨p, b, rfl, .inl ⟨kvs, kk, rd, rfl, h4.symm⟩, q.now R2.bs rz⟩
theorem snd_dgetD (hu : X.A.units + 1 < cLine) (hm : M2 X o "get" apos k d pos) (ho : PE X o (TX mo)) (hk : PE X k (TX mk)) (hd : PE X d (TX md)) :
    PE X (.Call (.Attribute o "get" apos) [k, d] [] pos) (TX fun sl => mo sl >>= fun x => mk sl >>= fun y => md sl >>= fun z => keepM z >>= fun w => M.lift ((dgetDW x.get y.get w).map .w)) := by
  refine (pe_dget2 hu ho hk hd hm).imp fun σ H Q ⟨S, C, sl, c, R, h⟩ => ?_
  refine tx_bind (f := fun x sl => mk sl >>= fun y => md sl >>= fun z => keepM z >>= fun w => M.lift ((dgetDW x.get y.get w).map .w)) R h fun v c1 S1 H1 x P1 k1 R1 r1 h1 => ?_
  -- it is a dict
  obtain ⟨v2, c2, e2, h2⟩ := (okr_bnd.mp h1).get
  obtain ⟨v3, c3, e3, h3⟩ := (okr_bnd.mp h2).get
  obtain ⟨w, ek, h4⟩ := okr_lift.mp (okr_bnd.mp h3)
  obtain ⟨u, e, q⟩ := okr_lift.mp h4
  obtain ⟨z, e1, rfl⟩ := Option.map_eq_some_iff.mp e
  have l := r1.lk
  cases hv : v.get <;> rw [hv] at e1 l <;> first | (cases e1; done) | skip
  rename_i ks vs
  have e1 : (if v2.get.isKey = true then some ((lookW ks vs v2.get).getD w) else none) = some z := e1
  by_cases hkk : v2.get.isKey = true
  case neg => rw [if_neg hkk] at e1; cases e1
  rw [if_pos hkk] at e1
  cases e1
  obtain ⟨p, kvs, rfl, rd, m, r⟩ := l.dct R1.bs
  refine ⟨p, rfl, .inl ⟨kvs, rd⟩, S1, C, sl, c1, R1, ?_⟩
  rw [e2]
  intro S2 H2 y P2 k2 r2
  have R2 := R1.next P2 k2
  refine ⟨S2, C, sl, c2, R2, ?_⟩
  rw [e3]
  intro S3 H3 y3 P3 k3 r3
  obtain ⟨S4, P4, k4, rp, le⟩ := VR.keep P3 k3 r3 ek
  obtain ⟨kk, e5, rfl⟩ := key_lk hkk r2.lk
  have P14 := P2.trans P4
  obtain ⟨p', kvs', ep, rd', m', r'⟩ := (l.next P14).dct ⟨P14.sub, k4⟩
  cases ep
  refine ⟨valV kvs' kk, .inl ⟨kvs', kk, rd', rfl, rfl⟩, ?_⟩
  refine q S4 H3 _ P14 k4 ?_
  rcases look_ok e5 m' r' with ⟨g1, g2⟩ | ⟨a, b, g1, g2, rz⟩
  · rw [g1, g2]; exact rp
  · rw [g1, g2]; exact rz
theorem din_core {neg : Bool} {S : Kn} {C : List Addr} {sl : Slots} {c : Cells} {σ : L2.St} {H : Hp} {Q : Bool → Hp → Prop} (R : Rel S C sl c σ H)
    (h : Okr ((mk sl >>= fun y => mo sl >>= fun x => M.lift ((dinW x.get y.get).map fun b => Val.w (.bl (if neg = true then !b else b)))) c) fun v c' => ∀ b, v = .w (.bl b) → ∀ S' H', Post S C H S' H' → CellsOk S' C c' H' → Q b H') :
    TX mk σ H fun y H1 => TX mo σ H1 fun x H2 => ∃ a ov, x = .ref a ∧ DGet H2 a y ov ∧ Q (if neg = true then !ov.isSome else ov.isSome) H2 := by
  refine ⟨S, C, sl, c, R, (okr_bnd.mp h).imp fun v c1 h1 S1 H1 y P1 k1 r1 => ?_⟩
  have R1 := R.next P1 k1
  refine ⟨S1, C, sl, c1, R1, (okr_bnd.mp h1).imp fun v2 c2 h2 S2 H2 x P2 k2 r2 => ?_⟩
  have R2 := R1.next P2 k2
  obtain ⟨u, e, q⟩ := okr_lift.mp h2
  obtain ⟨z, e1, rfl⟩ := Option.map_eq_some_iff.mp e
  have l := r2.lk
  have l1 := r1.lk.next P2
  cases hv : v2.get <;> rw [hv] at e1 l <;> first | (cases e1; done) | skip
  rename_i ks vs
  have e1 : (if v.get.isKey = true then some (lookW ks vs v.get).isSome else none) = some z := e1
  by_cases hkk : v.get.isKey = true
  case neg => rw [if_neg hkk] at e1; cases e1
  rw [if_pos hkk] at e1
  cases e1
  obtain ⟨p, kvs, rfl, rd, m, r⟩ := l.dct R2.bs
  obtain ⟨kk, e2, rfl⟩ := key_lk hkk l1
  refine ⟨p, valV kvs kk, rfl, .inl ⟨kvs, kk, rd, rfl, rfl⟩, ?_⟩
  have : (valV kvs kk).isSome = (lookW ks vs v.get).isSome := by
    rcases look_ok e2 m r with ⟨g1, g2⟩ | ⟨a, b, g1, g2, rz⟩ <;> rw [g1, g2] <;> rfl
  rw [this]
  exact q _ rfl S2 H2 (P1.trans P2) k2
theorem snd_din {neg : Bool} {op : CmpOp} (hu : X.A.units + 1 < cLine) (hop : op = if neg = true then .NotIn else .In) (hb : behindInMarks op o = false) (hk : PE X k (TX mk)) (ho : PE X o (TX mo)) :
    PE X (.Compare k [op] [o] pos) (TX fun sl => mk sl >>= fun y => mo sl >>= fun x => M.lift ((dinW x.get y.get).map fun b => .w (.bl (if neg = true then !b else b)))) := by
  have core : ∀ {σ H Q}, TX (fun sl => mk sl >>= fun y => mo sl >>= fun x => M.lift ((dinW x.get y.get).map fun b => .w (.bl (if neg = true then !b else b)))) σ H Q →
      TX mk σ H fun y H1 => TX mo σ H1 fun x H2 => ∃ a ov, x = .ref a ∧ DGet H2 a y ov ∧ Q (.bl (if neg = true then !ov.isSome else ov.isSome)) H2 := fun {σ H Q} ⟨S, C, sl, c, R, h⟩ =>
    din_core (Q := fun b H' => Q (.bl b) H') R (h.imp fun v c' q b e S' H' P k => by subst e; exact q S' H' (.bl b) P k rfl)
  cases neg with
  | false =>
    subst hop
    exact (pe_cmp (pc_din hu hk ho) hb).imp fun σ H Q h => core h
  | true =>
    subst hop
    exact (pe_cmp (pc_dnotin hu hk ho) hb).imp fun σ H Q h => core h
theorem snd_dinT {neg : Bool} {op : CmpOp} (hu : X.A.units + 1 < cLine) (hop : op = if neg = true then .NotIn else .In) (hb : behindInMarks op o = false) (hk : PE X k (TX mk)) (ho : PE X o (TX mo)) :
    PT X (.Compare k [op] [o] pos) (TT' fun sl => (mk sl >>= fun y => mo sl >>= fun x => M.lift ((dinW x.get y.get).map fun b => Val.w (.bl (if neg = true then !b else b)))) >>= truthM) := by
  have core : ∀ {σ H Q}, TT' (fun sl => (mk sl >>= fun y => mo sl >>= fun x => M.lift ((dinW x.get y.get).map fun b => Val.w (.bl (if neg = true then !b else b)))) >>= truthM) σ H Q →
      TX mk σ H fun y H1 => TX mo σ H1 fun x H2 => ∃ a ov, x = .ref a ∧ DGet H2 a y ov ∧ ∃ c, V.bl (if neg = true then !ov.isSome else ov.isSome) = .bl c ∧ Q c H2 := fun {σ H Q} ⟨S, C, sl, c, R, h⟩ =>
    din_core (Q := fun b H' => ∃ c, V.bl b = .bl c ∧ Q c H') R ((okr_bnd.mp h).imp fun v c' q b e S' H' P k => by
      subst e
      exact ⟨b, rfl, okr_ret.mp q S' H' P k⟩)
  cases neg with
  | false =>
    subst hop
    exact (pt_cmp (pc_din hu hk ho) hb).imp fun σ H Q h => core h
  | true =>
    subst hop
    exact (pt_cmp (pc_dnotin hu hk ho) hb).imp fun σ H Q h => core h
/-- x[k] = v, x a dict of its own -/
theorem dput_read {i : Nat} {m mk : Slots → M Val} {D : Ends} {σ : L2.St} {H : Hp} (h : TSx (fun sl => m sl >>= fun v => keepM v >>= fun w => mk sl >>= fun j => dputM sl i j.get w >>= fun s => pure (.nx s)) D σ H) :
    sDPut (tVar i) (TX mk) (TX m) D σ H := by
  obtain ⟨G, S, C, sl, c, R, h⟩ := h
  refine ts_bind (f := fun v sl => keepM v >>= fun w => mk sl >>= fun j => dputM sl i j.get w >>= fun s => pure (.nx s)) R h fun v c1 S1 H1 x P1 k1 R1 r1 h1 => ?_
  obtain ⟨w, ek, h2⟩ := okr_lift.mp (okr_bnd.mp h1)
  obtain ⟨S2, R2, rp, le, P2, k2⟩ := R.keep P1 k1 r1 ek
  obtain ⟨v3, c3, e3, h3⟩ := (okr_bnd.mp h2).get
  have h4 := okr_bnd.mp h3
  unfold dputM at h4
  cases e : sl[i]? with
  | none => rw [e] at h4; exact h4.elim
  | some s =>
    rw [e] at h4
    cases s with
    | none => exact h4.elim
    | val _ => exact h4.elim
    | own w0 =>
      cases w0 <;> first | exact h4.elim | skip
      rename_i ks vs
      obtain ⟨p, o, ⟨kvs, rfl, m1, r⟩, ep, hp, n, nc⟩ := R2.rel.slot i _ e
      rcases okr_if h4 with ⟨hg, h4⟩ | ⟨_, h4⟩
      · obtain ⟨hkk, hlt⟩ := (Bool.and_eq_true _ _).mp hg
        have hlt := of_decide_eq_true hlt
        refine ⟨.ref p, ep, S2, C, sl, c1, R2.rel, ?_⟩
        rw [e3]
        intro S3 H3 y P3 k3 r3
        have R3 := R2.next P3 k3
        have hp3 := P3.fr p _ hp nc
        obtain ⟨kk, e5, rfl⟩ := key_lk hkk r3.lk
        have hlen : kvs.length < sizeLine := by
          have := congrArg List.length m1
          rw [List.length_map, List.length_map] at this
          rw [← sizeL_eq]; omega
        refine ⟨p, _, rfl, .inl ⟨kvs, kk, hp3, rfl, hlen, rfl⟩, ?_⟩
        have R4 := R3.store (w1 := putW ks vs v3.get w) (ob' := .dK (putK kvs kk x)) e ep hp3 (put_ok e5 (rp.le P3.le) m1 (r.le P3.le))
        exact okr_ret.mp (okr_ret.mp h4) S3 C σ _ R4 ((Up.of le).trans (.of P3.le))
      · exact h4.elim
end
end Cw

end
section
set_option Elab.async false
set_option linter.all false
set_option maxRecDepth 100000
/-! Cw4e: tuple(range(n)), list(range(n)) -/
namespace Cw
open PySem PySem.Spec PyProof.Rows L2
theorem rangeW_ints : ∀ (lo : Int) (k : Nat), rangeW lo 1 k = ((List.range k).map fun i => lo + ((i : Nat) : Int)).map .int
  | lo, 0 => rfl
  | lo, k + 1 => by
    show W.int lo :: rangeW (lo + 1) 1 k = _
    rw [rangeW_ints (lo + 1) k, List.range_succ_eq_map, List.map_cons, List.map_map, List.map_cons]
    congr 1
    · simp
    · rw [List.map_map, List.map_map]
      refine List.map_congr_left fun i _ => ?_
      show W.int (lo + 1 + (i : Int)) = W.int (lo + ((i + 1 : Nat) : Int))
      congr 1
      omega
theorem reps_rg {S : Kn} {C : List Addr} {n : Int} : Reps S C (rangeW 0 1 n.toNat) (rgV 0 n) := by
  rw [rangeW_ints]
  unfold rgV
  rw [Int.sub_zero, show (fun i : Nat => V.int (0 + (i : Int))) = V.int ∘ fun i : Nat => (0 : Int) + (i : Int) from rfl, ← List.map_map]
  exact Reps.map_int _
section
variable {X : Cx} {a : Expr} {ma : Slots → M Val} {p p2 q pos : Pos}
theorem rangeT_int {w : W} {u : Val} (e : bltop .rangeT [w] = some u) : ∃ i : Int, w = .int i ∧ 0 ≤ i ∧ i ≤ 1000000 ∧ u = .w (.tup (rangeW 0 1 i.toNat)) := by
  cases w <;> first | (cases e; done) | skip
  rename_i i
  have e : (if 0 ≤ i ∧ i ≤ 1000000 then some (Val.w (.tup (rangeW 0 1 i.toNat))) else none) = some u := e
  split at e
  · rename_i h
    cases e
    exact ⟨i, rfl, h.1, h.2, rfl⟩
  · cases e
theorem rangeL_int {w : W} {u : Val} (e : bltop .rangeL [w] = some u) : ∃ i : Int, w = .int i ∧ 0 ≤ i ∧ i ≤ 1000000 ∧ u = .own (.lst (rangeW 0 1 i.toNat)) := by
  cases w <;> first | (cases e; done) | skip
  rename_i i
  have e : (if 0 ≤ i ∧ i ≤ 1000000 then some (Val.own (.lst (rangeW 0 1 i.toNat))) else none) = some u := e
  split at e
  · rename_i h
    cases e
    exact ⟨i, rfl, h.1, h.2, rfl⟩
  · cases e
theorem snd_tupRg (hc : X.calm = true) (hg : Gl X "tuple") (hm : X.mg "tuple" = none) (hg2 : Gl X "range") (hm2 : X.mg "range" = none) (na : notStar a = true) (ha : PE X a (TX ma)) :
    PE X (.Call (.Name "tuple" p) [.Call (.Name "range" p2) [a] [] q] [] pos) (TX fun sl => ma sl >>= fun v => M.lift (bltop .rangeT [v.get])) := by
  refine (pe_tupRg hc hg hm (prg_1 hg2 hm2 ha (star_cons na))).imp fun σ H Q ⟨S, C, sl, c, R, h⟩ => ?_
  refine ⟨S, C, sl, c, R, (okr_bnd.mp h).imp fun v c1 h1 S1 H1 x P1 k1 r1 => ?_⟩
  obtain ⟨u, e, qq⟩ := okr_lift.mp h1
  obtain ⟨i, ei, i0, i1, rfl⟩ := rangeT_int e
  rw [get_int r1 (show v.get.int? = some i by rw [ei]; rfl)]
  refine ⟨i, rfl, RgOk.of_le (Int.le_refl _) (by omega) (by omega) i0, fun l hl => ?_⟩
  have R1 := R.next P1 k1
  obtain ⟨P2, k2⟩ := Post.laid R1 hl (.tup (rgV 0 i)) (fun _ _ z => by cases z) true
  exact qq _ _ _ (P1.trans P2) k2 ⟨l, rgV 0 i, rfl, upd_same, reps_rg⟩
theorem snd_lstRg (hc : X.calm = true) (hg : Gl X "list") (hm : X.mg "list" = none) (hg2 : Gl X "range") (hm2 : X.mg "range" = none) (na : notStar a = true) (ha : PE X a (TX ma)) :
    PE X (.Call (.Name "list" p) [.Call (.Name "range" p2) [a] [] q] [] pos) (TX fun sl => ma sl >>= fun v => M.lift (bltop .rangeL [v.get])) := by
  refine (pe_listRg hc hg hm (prg_1 hg2 hm2 ha (star_cons na))).imp fun σ H Q ⟨S, C, sl, c, R, h⟩ => ?_
  refine ⟨S, C, sl, c, R, (okr_bnd.mp h).imp fun v c1 h1 S1 H1 x P1 k1 r1 => ?_⟩
  obtain ⟨u, e, qq⟩ := okr_lift.mp h1
  obtain ⟨i, ei, i0, i1, rfl⟩ := rangeL_int e
  rw [get_int r1 (show v.get.int? = some i by rw [ei]; rfl)]
  refine ⟨i, rfl, RgOk.of_le (Int.le_refl _) (by omega) (by omega) i0, fun l hl => ?_⟩
  have R1 := R.next P1 k1
  exact EndX.list (Q := Q) (c := c1) R1.bs (fun S2 H2 x P2 k2 r2 => qq S2 H2 x (P1.trans P2) k2 (r2.back P1.dom)) reps_rg hl
end
end Cw

end
section
set_option Elab.async false
set_option linter.all false
set_option maxRecDepth 100000
/-! Cw6c: dict(pairs); a comprehension over a dict's keys -/
namespace Cw
open PySem PySem.Spec PyProof.Rows L2
theorem EndX.dct {S : Kn} {C : List Addr} {c : Cells} {H : Hp} {Q : V → Hp → Prop} {w : W} {o : HO} (B : Bs S C c H) (h : EndX S C H Q (.own w) c) (r : Pay S C w o) {p : Addr} (hp : H p = none) : Q (.ref p) (upd H p o) := by
  obtain ⟨P, k⟩ := Post.laid B.rel hp o r.ne false
  refine h _ _ _ P k ⟨p, _, r, rfl, upd_same, ?_, ?_, hp⟩
  · cases q : S p with
    | none => exact q
    | some u => exact absurd hp (Rd.some (B.sub p u q))
  · intro hm
    obtain ⟨us', hu⟩ := B.cells.live hm
    rw [hp] at hu
    cases hu
theorem isKey_keyW {w : W} (h : w.isKey = true) : ∃ kk, keyW w = some kk := by
  cases w <;> first | (cases h; done) | exact ⟨_, rfl⟩
theorem rep_key {S : Kn} {C : List Addr} {w : W} {kk : Key} (h : keyW w = some kk) : Rep S C w (kV kk) := by
  cases w <;> first | (cases h; done) | skip
  · cases h
    rfl
  · cases h
    rfl
theorem pairs_reps {S : Kn} {C : List Addr} : ∀ {ws : List W} {us : List V} {ps : List (W × W)}, Reps S C ws us → allPair? ws = some ps →
    ∃ as kvs, us = as.map V.ref ∧ Paired (fun a (kv : Key × V) => S a = some (.tup [kV kv.1, kv.2])) as kvs ∧ Paired (fun (p : W × W) (kv : Key × V) => keyW p.1 = some kv.1 ∧ Rep S C p.2 kv.2) ps kvs
  | [], us, ps, r, e => by
    cases e
    cases r
    exact ⟨[], [], rfl, .nil, .nil⟩
  | w :: ws, us, ps, r, e => by
    obtain ⟨k, v, rfl, hk, e⟩ : ∃ k v, w = .tup [k, v] ∧ k.isKey = true ∧ (allPair? ws).map ((k, v) :: ·) = some ps := by
      cases w <;> first | (cases e; done) | skip
      rename_i l
      rcases l with _ | ⟨k, _ | ⟨v, _ | ⟨x, l⟩⟩⟩ <;> first | (cases e; done) | skip
      have e : (if k.isKey = true then (allPair? ws).map ((k, v) :: ·) else none) = some ps := e
      by_cases hk : k.isKey = true
      · rw [if_pos hk] at e
        exact ⟨k, v, rfl, hk, e⟩
      · rw [if_neg hk] at e
        cases e
    obtain ⟨rest, e2, rfl⟩ := Option.map_eq_some_iff.mp e
    obtain ⟨u, ur, rfl, ⟨a, vs, rfl, hS, kr, vr, ev, rk, v1, v2, ev2, rv, rn⟩, rr⟩ := r
    cases rn
    subst ev2
    obtain ⟨kk, hkk⟩ := isKey_keyW hk
    obtain ⟨as, kvs, e3, h3, h4⟩ := pairs_reps rr e2
    have ek : kr = kV kk := by
      cases k <;> first | (cases hk; done) | (cases hkk; exact rk)
    subst ev ek e3
    exact ⟨a :: as, (kk, v1) :: kvs, rfl, .cons hS h3, .cons ⟨hkk, rv⟩ h4⟩
theorem mkDct_ok {S : Kn} {C : List Addr} {ps : List (W × W)} {kvs : List (Key × V)} (h : Paired (fun (p : W × W) (kv : Key × V) => keyW p.1 = some kv.1 ∧ Rep S C p.2 kv.2) ps kvs) :
    ∀ {ks vs : List W} {k0 : List (Key × V)}, ks.map keyW = k0.map (fun p => some p.1) → Reps S C vs (k0.map (·.2)) → Pay S C (mkDct ps (.dct ks vs)) (.dK (mergeK k0 kvs)) := by
  induction h with
  | nil => intro ks vs k0 m r; exact ⟨k0, rfl, m, r⟩
  | @cons p kv ps kvs h t ih =>
    intro ks vs k0 m r
    obtain ⟨h1, h2⟩ := h
    obtain ⟨k, v⟩ := p
    have q := put_ok h1 h2 m r
    show Pay S C (mkDct ps (putW ks vs k v)) (.dK (mergeK (putK k0 kv.1 kv.2) kvs))
    unfold putW at q ⊢
    split at q
    · rename_i hc
      rw [if_pos hc]
      obtain ⟨k1, e1, m1, r1⟩ := q
      injection e1 with e1
      rw [e1]
      exact ih m1 r1
    · rename_i hc
      rw [if_neg hc]
      obtain ⟨k1, e1, m1, r1⟩ := q
      injection e1 with e1
      rw [e1]
      exact ih m1 r1
section
variable {X : Cx}
theorem blt_dict (hc : X.calm = true) : CallR X (.type "dict") (rdF (bltop .dict)) := by
  refine CallR.cases fun xs H Q ⟨S, C, c, ws, v, B, l, e, q⟩ => ?_
  rcases ws with _ | ⟨w, _ | ⟨w2, r⟩⟩
  · cases e
  · obtain ⟨x, rfl, k⟩ := l.one
    cases w <;> first | (cases e; done) | skip
    rename_i zs
    obtain ⟨ps, e2, ev⟩ := Option.map_eq_some_iff.mp (show (allPair? zs).map (fun ps => Val.own (mkDct ps (.dct [] []))) = some v from e)
    subst ev
    obtain ⟨p, us, rfl, rd, r⟩ := k.lst B
    obtain ⟨as, kvs, rfl, h3, h4⟩ := pairs_reps r e2
    refine ⟨_, call_dictP hc, p, as, kvs, rfl, Rd.sq rd, L2.Paired.mapP h3 fun a kv h => Rd.sqT (B.sub _ _ h), fun pp hn => ?_⟩
    exact q.dct B (mkDct_ok h4 (k0 := []) rfl rfl) hn
  · cases w <;> cases e
/-- under a lock -/
theorem Rel.locked {S : Kn} {C : List Addr} {sl : Slots} {c : Cells} {σ : L2.St} {H : Hp} (R : Rel S C sl c σ H) {p : Addr} {o : Obj} {kvs : List (Key × V)} (hS : S p = some (.dK kvs)) : Rel S C sl c σ (upd H p (.frz o (.dK kvs))) := by
  have nc : p ∉ C := fun m => by
    have := R.cells.off p m
    rw [hS] at this
    cases this
  refine ⟨fun b u e => ?_, ⟨R.cells.len, R.cells.nd, R.cells.off, fun n a L h1 h2 => ?_⟩, R.slen, fun i s e => ?_⟩
  · by_cases hb : b = p
    · subst hb
      rw [hS] at e
      cases e
      exact .inr ⟨o, upd_same⟩
    · rcases R.sub b u e with h | ⟨x, h⟩
      · exact .inl (by rw [upd_ne hb]; exact h)
      · exact .inr ⟨x, by rw [upd_ne hb]; exact h⟩
  · obtain ⟨us, h3, h4⟩ := R.cells.at_ n a L h1 h2
    have ha : a ≠ p := fun z => nc (z ▸ List.mem_of_getElem? h1)
    exact ⟨us, by rw [upd_ne ha]; exact h3, h4⟩
  · have q := R.slot i s e
    cases s with
    | none => trivial
    | val w => exact q
    | own w =>
      obtain ⟨a, ob, py, e1, h3, h4, h5⟩ := q
      have ha : a ≠ p := fun z => by
        rw [z, hS] at h4
        cases h4
      exact ⟨a, ob, py, e1, by rw [upd_ne ha]; exact h3, h4, h5⟩
/-- behind the lock -/
theorem EndX.unlock {S : Kn} {C : List Addr} {c : Cells} {H : Hp} {Q : V → Hp → Prop} {v : Val} {p : Addr} {o : Obj} {kvs : List (Key × V)} (hS : S p = some (.dK kvs)) (hp : H p = some (.dK kvs)) (nc : p ∉ C) (h : EndX S C H Q v c) :
    EndX S C (upd H p (.frz o (.dK kvs))) (fun x H' => H' p = some (.frz o (.dK kvs)) ∧ Q x (upd H' p (.dK kvs))) v c := by
  intro S' H' x P k r
  have e1 : H' p = some (.frz o (.dK kvs)) := P.fr p _ upd_same nc
  refine ⟨e1, h S' _ x ⟨P.le, fun b hb => ?_, fun b u e hb => ?_, fun b e => ?_, fun b u e => ?_⟩ ⟨k.len, k.nd, k.off, fun n a L h1 h2 => ?_⟩ ?_⟩
  · rcases P.new b hb with z | z
    · exact .inl z
    · by_cases hbp : b = p
      · rw [hbp, upd_same] at z
        cases z
      · rw [upd_ne hbp] at z
        exact .inr z
  · by_cases hbp : b = p
    · subst hbp
      rw [hp] at e
      cases e
      exact upd_same
    · rw [upd_ne hbp]
      exact P.fr b u (by rw [upd_ne hbp]; exact e) hb
  · by_cases hbp : b = p
    · rw [hbp, upd_same]
      exact fun z => by cases z
    · rw [upd_ne hbp]
      exact P.dom b (by rw [upd_ne hbp]; exact e)
  · by_cases hbp : b = p
    · subst hbp
      rw [P.le _ _ hS] at e
      cases e
      exact .inl upd_same
    · rcases P.sub b u e with z | ⟨y, z⟩
      · exact .inl (by rw [upd_ne hbp]; exact z)
      · exact .inr ⟨y, by rw [upd_ne hbp]; exact z⟩
  · obtain ⟨us, h3, h4⟩ := k.at_ n a L h1 h2
    have ha : a ≠ p := fun z => nc (z ▸ List.mem_of_getElem? h1)
    exact ⟨us, by rw [upd_ne ha]; exact h3, h4⟩
  · cases v with
    | w w => exact r
    | own w =>
      obtain ⟨a, ob, py, e2, h3, h4, h5, h6⟩ := r
      have ha : a ≠ p := fun z => by
        rw [z, e1] at h3
        exact py.ne _ _ (Option.some.inj h3).symm
      exact ⟨a, ob, py, e2, by rw [upd_ne ha]; exact h3, h4, h5, by rw [upd_ne ha] at h6; exact h6⟩
    | bor w =>
      obtain ⟨a, ob, py, e2, h3, h5⟩ := r
      have ha : a ≠ p := fun z => by
        rw [z, e1] at h3
        exact py.ne _ _ (Option.some.inj h3).symm
      exact ⟨a, ob, py, e2, by rw [upd_ne ha]; exact h3, h5⟩
theorem lcK_read {e : Expr} {i t : Nat} {vs : List Nat} {mc : Slots → M Bool} {me : Slots → M Val} (hv : t ∈ vs) (q : PE X e (tLc (iKeys (tVar i)) (rdTg X.K (.nm t)) (TT' mc) (TX me) vs)) :
    PE X e (TX fun sl => M.lift (slotKeys sl[i]?) >>= fun ks => cmpLp (fun w => bindTg (.nm t) w (wipeS sl vs)) mc (fun s => me s >>= keepM) ks >>= listFit) := by
  refine ⟨fun pins s σ H Q I h => ?_⟩
  obtain ⟨S, C, sl, c, R, h⟩ := h
  obtain ⟨ks, hks, h⟩ := okr_lift.mp (okr_bnd.mp h)
  obtain ⟨vs0, hsl⟩ : ∃ vs0, sl[i]? = some (.val (.dct ks vs0)) := by
    cases hq : sl[i]? with
    | none => rw [hq] at hks; cases hks
    | some s0 =>
      rw [hq] at hks
      cases s0 <;> first | (cases hks; done) | skip
      rename_i w0
      cases w0 <;> first | (cases hks; done) | skip
      cases hks
      exact ⟨_, rfl⟩
  obtain ⟨x, e1, p, kvs, rfl, hS, hm, hr⟩ := R.slot i _ hsl
  have nc : p ∉ C := fun m => by
    have := R.cells.off p m
    rw [hS] at this
    cases this
  have core : ∀ {Hl : Hp} {o : Obj} {Q' : V → Hp → Prop}, Rel S C sl c σ Hl → Hl p = some (.frz o (.dK kvs)) → Okr ((cmpLp (fun w => bindTg (.nm t) w (wipeS sl vs)) mc (fun s => me s >>= keepM) ks >>= listFit) c) (EndX S C Hl Q') →
      tLc (iKeys (tVar i)) (rdTg X.K (.nm t)) (TT' mc) (TX me) vs σ Hl Q' := fun {Hl o Q'} Rl hp hQ => by
    refine ⟨.ref p, e1, p, o, rfl, .inl ⟨kvs, hp, fun D hD => ?_⟩⟩
    have hlen : ks.length = kvs.length := by simpa using congrArg List.length hm
    refine lc_turns (t := .nm t) (J := Itk p o kvs) (G := fun H => H p = some (.frz o (.dK kvs))) (fun j hj => ?_) Rl (Post.refl Rl.sub) Rl.cells ⟨fun j H' hj g => ⟨g, by rw [← hlen]; exact hj⟩, fun H' g => ⟨g, by rw [hlen]; exact Nat.le_refl _⟩, fun j H' x H'' hj g y => ?_⟩ (fun Si H' P => P.fr p _ hp nc) hQ D hD
    · have : j = t := by simpa [Tg.slots] using hj
      rw [this]
      exact hv
    · obtain ⟨e2, k, v, ek, ex⟩ := y
      have hw : (ks.map keyW)[j]? = some (some k) := by rw [hm, List.getElem?_map, ek]; rfl
      rw [List.getElem?_map] at hw
      obtain ⟨w, hw1, hw2⟩ := Option.map_eq_some_iff.mp hw
      exact ⟨w, hw1, .inl ⟨e2, by rw [ex]; exact rep_key hw2⟩⟩
  rcases R.sub p _ hS with hp | ⟨o, hp⟩
  · refine (pe_lock q).run pins s σ H Q I ⟨p, .dK kvs, hp, trivial, fun od => core (R.locked hS) upd_same (h.imp fun v c' z => z.unlock hS hp nc)⟩
  · exact q.run pins s σ H Q I (core R hp h)
end
end Cw

end
section
set_option Elab.async false
set_option linter.all false
set_option maxRecDepth 100000
/-! Cw5a: what never ends with an error: expressions, simple statements -/
namespace Cw
/-- never an error -/
def NX {α : Type} (m : M α) : Prop := ∀ c x c', m c ≠ .exc x c'
section
variable {α β : Type}
theorem nx_pure (a : α) : NX (pure a : M α) := fun c x c' e => by cases e
theorem nx_no : NX (M.no : M α) := fun c x c' e => by cases e
theorem nx_lift (o : Option α) : NX (M.lift o) := by cases o with
  | none => exact nx_no
  | some a => exact nx_pure a
theorem nx_bnd {m : M α} {f : α → M β} (h1 : NX m) (h2 : ∀ a, NX (f a)) : NX (m >>= f) := fun c x c' e => by
  have e : M.bnd m f c = .exc x c' := e
  unfold M.bnd at e
  cases hm : m c with
  | ok a c1 => rw [hm] at e; exact h2 a c1 x c' e
  | exc y c1 => exact h1 c y c1 hm
  | stuck => rw [hm] at e; cases e
theorem nx_ite {b : Prop} [Decidable b] {m n : M α} (h1 : NX m) (h2 : NX n) : NX (if b then m else n) := by split <;> assumption
theorem nx_noExc (m : M α) : NX (noExc m) := fun c x c' e => by
  unfold noExc at e
  split at e
  · cases e
  · rename_i h
    exact h _ _ e
theorem nx_keep (v : Val) : NX (keepM v) := nx_lift _
theorem nx_truth (v : Val) : NX (truthM v) := nx_lift _
theorem nx_items (st : Bool) (v : Val) : NX (itemsM st v) := nx_ite (nx_lift _) (nx_lift _)
theorem nx_fit (r : List W) : NX (listFit r) := nx_ite (nx_pure _) nx_no
theorem nx_at {m : Cells → M α} (h : ∀ c, NX (m c)) : NX (fun c => m c c) := fun c x c' e => h c c x c' e
theorem nx_cmp {bd : W → Option Slots} {cond : Slots → M Bool} {el : Slots → M W} (h1 : ∀ s, NX (cond s)) (h2 : ∀ s, NX (el s)) : ∀ ws, NX (cmpLp bd cond el ws)
  | [] => nx_pure _
  | w :: ws => nx_bnd (nx_lift _) fun sl => nx_bnd (h1 sl) fun b => nx_ite (nx_bnd (h2 sl) fun x => nx_bnd (nx_cmp h1 h2 ws) fun r => nx_pure _) (nx_cmp h1 h2 ws)
theorem nx_cmp2 {bd : W → Option Slots} {cond : Slots → M Bool} {inner : Slots → M (List W)} (h1 : ∀ s, NX (cond s)) (h2 : ∀ s, NX (inner s)) : ∀ ws, NX (cmpLp2 bd cond inner ws)
  | [] => nx_pure _
  | w :: ws => nx_bnd (nx_lift _) fun sl => nx_bnd (h1 sl) fun b => nx_ite (nx_bnd (h2 sl) fun x => nx_bnd (nx_cmp2 h1 h2 ws) fun r => nx_pure _) (nx_cmp2 h1 h2 ws)
end
section
variable (P : Prog) (R : Nat → List W → M Val)
mutual
theorem nx_evE : ∀ (e : E) (sl : Slots), NX (evE P R e sl)
  | .var i, sl => by
    show NX (match sl[i]? with
      | some (.val w) => (pure (.w w) : M Val)
      | _ => M.no)
    split
    · exact nx_pure _
    · exact nx_no
  | .peek i, sl => by
    show NX (match sl[i]? with
      | some (.own w) => (pure (.bor w) : M Val)
      | _ => M.no)
    split
    · exact nx_pure _
    · exact nx_no
  | .lit w, sl => nx_pure _
  | .glob g, sl => nx_lift _
  | .bin op a b, sl => nx_bnd (nx_evE a sl) fun _ => nx_bnd (nx_evE b sl) fun _ => nx_lift _
  | .neg a, sl => nx_bnd (nx_evE a sl) fun _ => nx_lift _
  | .cmp op a b, sl => nx_bnd (nx_evE a sl) fun _ => nx_bnd (nx_evE b sl) fun _ => nx_lift _
  | .chain o1 o2 a b d, sl => nx_bnd (nx_evE a sl) fun _ => nx_bnd (nx_evE b sl) fun _ => nx_bnd (nx_lift _) fun _ => nx_ite (nx_bnd (nx_evE d sl) fun _ => nx_lift _) (nx_pure _)
  | .and_ a b, sl => nx_bnd (nx_evE a sl) fun _ => nx_bnd (nx_truth _) fun _ => nx_ite (nx_evE b sl) (nx_pure _)
  | .or_ a b, sl => nx_bnd (nx_evE a sl) fun _ => nx_bnd (nx_truth _) fun _ => nx_ite (nx_pure _) (nx_evE b sl)
  | .not_ a, sl => nx_bnd (nx_evE a sl) fun _ => nx_bnd (nx_truth _) fun _ => nx_pure _
  | .ife t a b, sl => nx_bnd (nx_evE t sl) fun _ => nx_bnd (nx_truth _) fun _ => nx_ite (nx_evE a sl) (nx_evE b sl)
  | .call f as, sl => nx_bnd (nx_evEs as sl) fun _ => nx_noExc _
  | .blt f as, sl => nx_bnd (nx_evEv as sl) fun _ => nx_lift _
  | .meth m o as, sl => nx_bnd (nx_evE o sl) fun _ => nx_bnd (nx_evEv as sl) fun _ => nx_lift _
  | .sub o i, sl => nx_bnd (nx_evE o sl) fun x => nx_bnd (nx_evE i sl) fun y => nx_at (m := fun c => M.lift ((getitem c x.get y.get).map Val.w)) fun _ => nx_lift _
  | .slc o lo hi, sl => nx_bnd (nx_evE o sl) fun _ => nx_bnd (nx_evO lo sl) fun _ => nx_bnd (nx_evO hi sl) fun _ => nx_lift _
  | .rev o, sl => nx_bnd (nx_evE o sl) fun _ => nx_lift _
  | .tup as, sl => nx_bnd (nx_evEs as sl) fun _ => nx_ite (nx_pure _) nx_no
  | .lst as, sl => nx_bnd (nx_evEs as sl) fun _ => nx_fit _
  | .dnew, sl => nx_pure _
  | .dget o k, sl => nx_bnd (nx_evE o sl) fun _ => nx_bnd (nx_evE k sl) fun _ => nx_lift _
  | .dgetD o k d, sl => nx_bnd (nx_evE o sl) fun _ => nx_bnd (nx_evE k sl) fun _ => nx_bnd (nx_evE d sl) fun _ => nx_bnd (nx_keep _) fun _ => nx_lift _
  | .din neg k o, sl => nx_bnd (nx_evE k sl) fun _ => nx_bnd (nx_evE o sl) fun _ => nx_lift _
  | .comp el t it cond own, sl => nx_bnd (nx_evIt it false sl) fun _ => nx_bnd (nx_cmp (fun s => nx_evC cond s) (fun s => nx_bnd (nx_evE el s) fun v => nx_keep v) _) fun _ => nx_fit _
  | .compK el i t cond own, sl => nx_bnd (nx_lift _) fun _ => nx_bnd (nx_cmp (fun s => nx_evC cond s) (fun s => nx_bnd (nx_evE el s) fun v => nx_keep v) _) fun _ => nx_fit _
  | .comp2 el t it cond t2 it2 cond2 own own2, sl => nx_bnd (nx_evIt it false sl) fun _ => nx_bnd (nx_cmp2 (fun s => nx_evC cond s) (fun s => nx_bnd (nx_evIt it2 true s) fun _ => nx_cmp (fun s => nx_evC cond2 s) (fun s => nx_bnd (nx_evE el s) fun v => nx_keep v) _) _) fun _ => nx_fit _
theorem nx_evEs : ∀ (e : Es) (sl : Slots), NX (evEs P R e sl)
  | .nil, sl => nx_pure _
  | .cons e r, sl => nx_bnd (nx_evE e sl) fun v => nx_bnd (nx_keep v) fun _ => nx_bnd (nx_evEs r sl) fun _ => nx_pure _
theorem nx_evEv : ∀ (e : Es) (sl : Slots), NX (evEv P R e sl)
  | .nil, sl => nx_pure _
  | .cons e r, sl => nx_bnd (nx_evE e sl) fun _ => nx_bnd (nx_evEv r sl) fun _ => nx_pure _
theorem nx_evO : ∀ (e : Es) (sl : Slots), NX (evO P R e sl)
  | .nil, sl => nx_pure _
  | .cons e r, sl => nx_bnd (nx_evE e sl) fun _ => nx_bnd (nx_lift _) fun _ => nx_pure _
theorem nx_evC : ∀ (e : Es) (sl : Slots), NX (evC P R e sl)
  | .nil, sl => nx_pure _
  | .cons e r, sl => nx_bnd (nx_evE e sl) fun v => nx_truth v
theorem nx_evIt : ∀ (it : Wk) (st : Bool) (sl : Slots), NX (evIt P R it st sl)
  | .seq e, st, sl => nx_bnd (nx_evE e sl) fun v => nx_items st v
  | .rng1 a, st, sl => nx_bnd (nx_evE a sl) fun _ => nx_bnd (nx_lift _) fun _ => nx_ite (nx_pure _) nx_no
  | .rng2 a b, st, sl => nx_bnd (nx_evE a sl) fun _ => nx_bnd (nx_evE b sl) fun _ => nx_bnd (nx_lift _) fun _ => nx_bnd (nx_lift _) fun _ => nx_ite (nx_pure _) nx_no
  | .rng3 a b d, st, sl => nx_bnd (nx_evE a sl) fun _ => nx_bnd (nx_evE b sl) fun _ => nx_bnd (nx_evE d sl) fun _ => nx_bnd (nx_lift _) fun _ => nx_bnd (nx_lift _) fun _ => nx_bnd (nx_lift _) fun _ => nx_ite (nx_pure _) nx_no
  | .enum e, st, sl => nx_bnd (nx_evE e sl) fun v => nx_bnd (nx_items st v) fun _ => nx_ite nx_no (nx_pure _)
  | .zip a b, st, sl => nx_bnd (nx_evE a sl) fun _ => nx_bnd (nx_evE b sl) fun _ => nx_bnd (nx_items st _) fun _ => nx_bnd (nx_items st _) fun _ => nx_pure _
  | .zip3 a b d, st, sl => nx_bnd (nx_evE a sl) fun _ => nx_bnd (nx_evE b sl) fun _ => nx_bnd (nx_evE d sl) fun _ => nx_bnd (nx_items st _) fun _ => nx_bnd (nx_items st _) fun _ => nx_bnd (nx_items st _) fun _ => nx_pure _
end
theorem nx_evVs : ∀ (e : Es) (sl : Slots), NX (evVs P R e sl)
  | .nil, sl => nx_pure _
  | .cons e r, sl => nx_bnd (nx_evE P R e sl) fun _ => nx_bnd (nx_evVs r sl) fun _ => nx_pure _
/-- statements without statements in them that bear no error -/
def S.simple : S → Bool
  | .ite _ _ _ | .for_ _ _ _ | .while_ _ _ | .raise _ _ | .tryLim _ _ _ _ => false
  | _ => true
theorem nx_store (sl : Slots) (i : Nat) (idx v : W) : NX (storeM sl i idx v) := by
  intro c x c' e
  unfold storeM at e
  cases ho : sl[i]? with
  | none => rw [ho] at e; cases e
  | some s =>
    rw [ho] at e
    cases s with
    | none => cases e
    | val w =>
      cases w <;> first | (cases e; done) | skip
      cases idx <;> first | (cases e; done) | skip
      dsimp only at e
      split at e
      · split at e <;> cases e
      · cases e
    | own w =>
      cases w <;> first | (cases e; done) | skip
      cases idx <;> first | (cases e; done) | skip
      dsimp only at e
      rename_i xs j
      cases hx : ixN xs.length j with
      | none => rw [hx] at e; cases e
      | some k => rw [hx] at e; cases e
theorem nx_pop (sl : Slots) (i : Nat) (idx : Option Int) : NX (popM sl i idx) := by
  unfold popM
  split
  · split
    · split
      · exact nx_pure _
      · exact nx_no
    · split
      · split
        · split
          · exact nx_pure _
          · exact nx_no
        · exact nx_no
      · exact nx_no
  · exact nx_no
theorem nx_dput (sl : Slots) (i : Nat) (j w : W) : NX (dputM sl i j w) := by
  unfold dputM
  split
  · exact nx_ite (nx_pure _) nx_no
  · exact nx_no
theorem nx_app (sl : Slots) (i : Nat) (w : W) : NX (appM sl i w) := by
  unfold appM
  split
  · exact nx_ite (nx_pure _) nx_no
  · exact nx_no
theorem nx_simple (F : Nat) : ∀ (a : S) (sl : Slots), a.simple = true → NX (exS P F R a sl)
  | .set i e, sl, _ => nx_bnd (nx_evE P R e sl) fun _ => nx_bnd (nx_keep _) fun _ => nx_pure _
  | .setOwn i e, sl, _ => nx_bnd (nx_evE P R e sl) fun v => by
    cases v
    · exact nx_no
    · exact nx_pure _
    · exact nx_no
  | .setCell i e, sl, _ => nx_bnd (nx_evE P R e sl) fun v => by
    cases v with
    | w _ => exact nx_no
    | bor _ => exact nx_no
    | own w =>
      cases w <;> first | exact nx_no | (intro c x c' e; cases e)
  | .frz i, sl, _ => by
    show NX (match sl[i]? with
      | some (.own w) => (pure (Out.nx (sl.set i (.val w))) : M Out)
      | _ => M.no)
    split
    · exact nx_pure _
    · exact nx_no
  | .unpack l e, sl, _ => nx_bnd (nx_evE P R e sl) fun _ => nx_bnd (nx_keep _) fun _ => nx_bnd (nx_lift _) fun _ => nx_pure _
  | .par l es, sl, _ => nx_bnd (nx_evVs P R es sl) fun _ => nx_bnd (nx_lift _) fun _ => nx_pure _
  | .setIt i idx e, sl, _ => nx_bnd (nx_evE P R e sl) fun _ => nx_bnd (nx_keep _) fun _ => nx_bnd (nx_evE P R idx sl) fun _ => nx_bnd (nx_store _ _ _ _) fun _ => nx_pure _
  | .dput i k e, sl, _ => nx_bnd (nx_evE P R e sl) fun _ => nx_bnd (nx_keep _) fun _ => nx_bnd (nx_evE P R k sl) fun _ => nx_bnd (nx_dput _ _ _ _) fun _ => nx_pure _
  | .app i e, sl, _ => nx_bnd (nx_evE P R e sl) fun _ => nx_bnd (nx_keep _) fun _ => nx_bnd (nx_app _ _ _) fun _ => nx_pure _
  | .popTo j i idx, sl, _ => nx_bnd (nx_evO P R idx sl) fun _ => nx_bnd (nx_pop _ _ _) fun _ => nx_pure _
  | .appPop j i idx, sl, _ => nx_bnd (nx_evO P R idx sl) fun _ => nx_bnd (nx_pop _ _ _) fun _ => nx_bnd (nx_app _ _ _) fun _ => nx_pure _
  | .expr e, sl, _ => nx_bnd (nx_evE P R e sl) fun _ => nx_pure _
  | .ret e, sl, _ => nx_bnd (nx_evE P R e sl) fun v => by
    cases v
    · exact nx_pure _
    · exact nx_pure _
    · exact nx_no
  | .retN, sl, _ => nx_pure _
  | .retOwn i, sl, _ => by
    show NX (match sl[i]? with
      | some (.own w) => (pure (Out.rt (.own w)) : M Out)
      | _ => M.no)
    split
    · exact nx_pure _
    · exact nx_no
  | .pass, sl, _ => nx_pure _
  | .brk, sl, _ => nx_pure _
  | .cnt, sl, _ => nx_pure _
  | .ite _ _ _, _, h => by cases h
  | .for_ _ _ _, _, h => by cases h
  | .while_ _ _, _, h => by cases h
  | .raise _ _, _, h => by cases h
  | .tryLim _ _ _ _, _, h => by cases h
end
end Cw

end
section
set_option Elab.async false
set_option linter.all false
set_option maxRecDepth 100000
/-! Cw5b: readings of statements that may end with an error -/
namespace Cw
open PySem PySem.Spec PyProof.Rows L2
def OkX {α : Type} (r : Res α) (Q : α → Cells → Prop) (E : Exn → Cells → Prop) : Prop := match r with
  | .ok a c => Q a c
  | .exc x c => E x c
  | .stuck => False
section
variable {α β : Type} {m : M α} {f : α → M β} {c : Cells} {Q : β → Cells → Prop} {E : Exn → Cells → Prop}
theorem okx_bnd : OkX ((m >>= f) c) Q E ↔ OkX (m c) (fun a c' => OkX (f a c') Q E) E := by
  show OkX (M.bnd m f c) Q E ↔ _
  unfold M.bnd
  cases m c <;> exact Iff.rfl
theorem okx_nx {Q : α → Cells → Prop} (h : NX m) (o : OkX (m c) Q E) : Okr (m c) Q := by
  cases e : m c with
  | ok a c1 => rw [e] at o; exact o
  | exc x c1 => exact (h c x c1 e).elim
  | stuck => rw [e] at o; exact o
theorem okr_x {Q : α → Cells → Prop} {r : Res α} (o : Okr r Q) : OkX r Q E := by
  cases r with
  | ok a c => exact o
  | exc _ _ => exact o.elim
  | stuck => exact o
theorem OkX.imp {r : Res α} {Q Q' : α → Cells → Prop} (h : OkX r Q E) (i : ∀ a c, Q a c → Q' a c) : OkX r Q' E := by
  cases r with
  | ok a c => exact i a c h
  | exc _ _ => exact h
  | stuck => exact h
theorem okx_nxb (h : NX m) (o : OkX ((m >>= f) c) Q E) : Okr (m c) fun a c' => OkX (f a c') Q E := okx_nx h (okx_bnd.mp o)
end
/-- as TSx, for statements that may end with an error -/
def TSy (EX : At0 → Exn → Cells → Prop) (m : Slots → M Out) : TS := fun D σ H => ∃ G S C sl c, RelS G S C sl c σ H ∧ OkX (m sl c) (OutQ G S C D) (EX G)
theorem tsy_tsx {EX : At0 → Exn → Cells → Prop} {m : Slots → M Out} (hn : ∀ sl, NX (m sl)) {D : Ends} {σ : L2.St} {H : Hp} (h : TSy EX m D σ H) : TSx m D σ H := by
  obtain ⟨G, S, C, sl, c, R, h⟩ := h
  exact ⟨G, S, C, sl, c, R, okx_nx (hn sl) h⟩
section
variable {EX : At0 → Exn → Cells → Prop} {X : Cx} {m mi : Slots → M Val} {i j : Nat}
theorem sy_nil : PSs X [] (TSy EX fun sl => pure (.nx sl)) := pss_nil.imp fun D σ H ⟨G, S, C, sl, c, R, h⟩ => (show OutQ G S C D (.nx sl) c from h) S C σ H R (Up.refl _ _)
theorem seq_ready {f g : Slots → M Out} {D : Ends} {σ : L2.St} {H : Hp} (h : TSy EX (fun sl => f sl >>= fun o => match o with
    | .nx s2 => g s2
    | o => pure o) D σ H) : tSeq (TSy EX f) (TSy EX g) D σ H := by
  obtain ⟨G, S, C, sl, c, R, h⟩ := h
  refine ⟨G, S, C, sl, c, R, (okx_bnd.mp h).imp fun o c1 h1 => ?_⟩
  cases o with
  | nx s2 => exact fun S1 C1 σ1 H1 R1 le => ⟨G, S1, C1, s2, c1, R1, OkX.imp h1 fun o c2 q => q.from le⟩
  | bk s2 => exact h1
  | ct s2 => exact h1
  | rt v => exact h1
theorem sy_cons {st : Stmt} {rest : List Stmt} {f g : Slots → M Out} (h1 : PS X st (TSy EX f)) (h2 : PSs X rest (TSy EX g)) : PSs X (st :: rest) (TSy EX fun sl => f sl >>= fun o => match o with
    | .nx s2 => g s2
    | o => pure o) := (pss_cons h1 h2).imp fun D σ H h => seq_ready h
/-- an own list is frozen: no statement of the text -/
theorem sy_frz {rest : List Stmt} {g : Slots → M Out} (h2 : PSs X rest (TSy EX g)) : PSs X rest (TSy EX fun sl => (match sl[i]? with
    | some (.own w) => (pure (Out.nx (sl.set i (.val w))) : M Out)
    | _ => M.no) >>= fun o => match o with
    | .nx s2 => g s2
    | o => pure o) := h2.imp fun D σ H ⟨G, S, C, sl, c, R, h⟩ => by
  have h := okx_bnd.mp h
  cases e : sl[i]? with
  | none => rw [e] at h; exact h.elim
  | some s =>
    rw [e] at h
    cases s with
    | none => exact h.elim
    | val _ => exact h.elim
    | own w =>
      obtain ⟨S2, R2, le⟩ := R.freeze e
      exact ⟨G, S2, C, _, c, R2, OkX.imp (show OkX (g (sl.set i (.val w)) c) _ _ from h) fun o c2 q => q.from (.of le)⟩
theorem if_ready {f g : Slots → M Out} (hn : ∀ sl, NX (m sl)) {D : Ends} {σ : L2.St} {H : Hp} (h : TSy EX (fun sl => m sl >>= fun v => truthM v >>= fun k => if k = true then f sl else g sl) D σ H) :
    tIfS (TT' fun sl => m sl >>= truthM) (TSy EX f) (TSy EX g) D σ H := by
  obtain ⟨G, S, C, sl, c, R, h⟩ := h
  refine ⟨S, C, sl, c, R.rel, okr_bnd.mpr ((okx_nxb (hn sl) h).imp fun v c1 h1 => (okx_nxb (nx_truth v) h1).imp fun k c2 h2 S1 H1 P1 k1 => ?_)⟩
  cases k with
  | true =>
    rw [if_pos rfl]
    exact ⟨G, S1, C, sl, c2, R.next P1 k1, OkX.imp h2 fun o c3 q => q.from (.of P1.le)⟩
  | false =>
    rw [if_neg Bool.false_ne_true]
    exact ⟨G, S1, C, sl, c2, R.next P1 k1, OkX.imp h2 fun o c3 q => q.from (.of P1.le)⟩
theorem while_ready {mt : Slots → M Bool} (hn : ∀ sl, NX (mt sl)) {f : Slots → M Out} {F : Nat} {D : Ends} {σ : L2.St} {H : Hp} (h : TSy EX (fun sl => whLp mt f F sl) D σ H) : tWhile (TT' mt) (TSy EX f) D σ H := by
  obtain ⟨G, S, C, sl, c, R, h⟩ := h
  refine ⟨fun n σ1 H1 => ∃ S1 C1 sl1 c1, RelS G S1 C1 sl1 c1 σ1 H1 ∧ Up S C S1 C1 ∧ OkX (whLp mt f n sl1 c1) (OutQ G S C D) (EX G), ⟨F, S, C, sl, c, R, Up.refl _ _, h⟩, ?_⟩
  rintro n σ1 H1 ⟨S1, C1, sl1, c1, R1, le1, o⟩
  cases n with
  | zero => exact o.elim
  | succ n =>
    refine ⟨S1, C1, sl1, c1, R1.rel, (okx_nxb (hn sl1) (show OkX ((mt sl1 >>= fun b => if b = true then f sl1 >>= fun o => (match o with
      | .nx s2 => whLp mt f n s2
      | .ct s2 => whLp mt f n s2
      | .bk s2 => pure (.nx s2)
      | .rt v => pure (.rt v)) else pure (.nx sl1)) c1) _ _ from o)).imp fun b c2 h2 S2 H2 P2 k2 => ?_⟩
    have R2 := R1.next P2 k2
    cases b with
    | false =>
      rw [if_neg Bool.false_ne_true] at h2
      exact iteF ((show OutQ G S C D (.nx sl1) c2 from h2) S2 C1 σ1 H2 R2 (le1.trans (.of P2.le)))
    | true =>
      rw [if_pos rfl] at h2
      refine iteT ⟨fun σ' H' => ∃ S1 C1 sl1 c1, RelS G S1 C1 sl1 c1 σ' H' ∧ Up S C S1 C1 ∧ OkX (whLp mt f n sl1 c1) (OutQ G S C D) (EX G), fun σ' H' hn => ⟨n, Nat.lt_succ_self n, hn⟩, G, S2, C1, sl1, c2, R2, (okx_bnd.mp h2).imp fun o c3 h3 => ?_⟩
      have le2 := le1.trans (.of P2.le)
      cases o with
      | nx s => exact fun S3 C3 σ3 H3 R3 le3 => ⟨S3, C3, s, c3, R3, le2.trans le3, h3⟩
      | ct s => exact fun S3 C3 σ3 H3 R3 le3 => ⟨S3, C3, s, c3, R3, le2.trans le3, h3⟩
      | bk s => exact fun S3 C3 σ3 H3 R3 le3 => (show OutQ G S C D (.nx s) c3 from h3) S3 C3 σ3 H3 R3 (le2.trans le3)
      | rt v => exact h3
theorem for_ready {K : PySem.W.Frag} {t : Tg} {mw : Slots → M (List W)} (hn : ∀ sl, NX (mw sl)) {f : Slots → M Out} {D : Ends} {σ : L2.St} {H : Hp} (h : TSy EX (fun sl => mw sl >>= fun ws => forLp (bindTg t) f ws sl) D σ H) :
    tFor (TIx mw true) (rdTg K t) (TSy EX f) D σ H := by
  obtain ⟨G, S, C, sl, c, R, h⟩ := h
  refine ⟨S, C, sl, c, R.rel, (okx_nxb (hn sl) h).imp fun ws c1 h1 S1 H1 Fx J P1 k1 fx g => ?_⟩
  refine for_it g (fun i σ2 H2 => ∃ S2 C2 sl2 c2, RelS G S2 C2 sl2 c2 σ2 H2 ∧ Up S1 C S2 C2 ∧ OkX (forLp (bindTg t) f (ws.drop i) sl2 c2) (OutQ G S C D) (EX G)) ?_ ?_ ?_ ?_
  · exact ⟨S1, C, sl, c1, R.next P1 k1, Up.refl _ _, h1⟩
  · rintro i σ2 H2 hi ⟨S2, C2, sl2, c2, R2, le, _⟩ a u hf
    exact R2.rel.sub a u (le.le a u (fx.lp rfl a u hf))
  · rintro i x σ2 H2 H3 hi ⟨S2, C2, sl2, c2, R2, le, o⟩ ⟨w, hw, y⟩
    have item : ∃ S3, Post S2 C2 H2 S3 H3 ∧ CellsOk S3 C2 c2 H3 ∧ Rep S3 C2 w x := by
      rcases y with ⟨e, rp⟩ | ⟨T, ws1, xs1, e1, e2, hT, e3, rp⟩
      · subst e
        exact ⟨S2, Post.refl R2.rel.sub, R2.rel.cells, le.rep rp⟩
      · obtain ⟨P2, k2⟩ := Post.laid R2.rel hT (.tup xs1) (fun _ _ z => by cases z) true
        subst e1 e2 e3
        exact ⟨_, P2, k2, T, xs1, rfl, upd_same, (le.reps rp).le P2.le⟩
    obtain ⟨S3, P3, k3, rp⟩ := item
    have R3 := R2.next P3 k3
    rw [List.drop_eq_getElem_cons hi] at o
    have ew : ws[i] = w := by
      rw [List.getElem?_eq_getElem hi] at hw
      exact Option.some.inj hw
    rw [ew] at o
    obtain ⟨sl3, eb, o⟩ := okr_lift.mp (okx_nxb (nx_lift _) o)
    have o := okx_bnd.mp o
    refine tg_ok (own := t.slots) eb rp R3.rel (fun i hi => hi) fun σ3 R4 hw3 _ => ?_
    have R5 : RelS G S3 C2 sl3 c2 σ3 H3 := R3.sub R4 fun j u hj => by
      obtain ⟨a, b⟩ := own_bind2 eb hj
      refine ⟨a, ?_⟩
      have z1 := wipe_out (σ := σ3) b
      have z2 := wipe_out (σ := σ2) b
      rw [← z1, hw3, z2]
    have le3 := le.trans (.of P3.le)
    have le0 := (Up.of P1.le).trans le3
    refine ⟨G, S3, C2, sl3, c2, R5, o.imp fun o c4 h4 => ?_⟩
    cases o with
    | nx s => exact fun S4 C4 σ4 H4 R4 le4 => ⟨S4, C4, s, c4, R4, le3.trans le4, h4⟩
    | ct s => exact fun S4 C4 σ4 H4 R4 le4 => ⟨S4, C4, s, c4, R4, le3.trans le4, h4⟩
    | bk s => exact fun S4 C4 σ4 H4 R4 le4 => (show OutQ G S C D (.nx s) c4 from h4) S4 C4 σ4 H4 R4 (le0.trans le4)
    | rt v => exact h4
  · rintro σ2 H2 ⟨S2, C2, sl2, c2, R2, le, o⟩
    rw [List.drop_length] at o
    exact (show OutQ G S C D (.nx sl2) c2 from o) S2 C2 σ2 H2 R2 ((Up.of P1.le).trans le)
end
end Cw

end
section
set_option Elab.async false
set_option linter.all false
set_option maxRecDepth 100000
/-! Cw5c: calls that may end with an error, try -/
namespace Cw
open PySem PySem.Spec PyProof.Rows L2
section
variable {X : Cx} {k : Nat} {f : Addr} {fd : FuncData} {ps : List Str} {sp : Sp} {x : Str} {p pos : Pos} {e : Expr} {es : List Expr} {t : TA} {W : WX}
/-- a call; its error is the wish of the context -/
def tCallX (sp : Sp) (W : WX) (t : TA) : TE := fun σ H Q => t σ H fun vs H1 => sp vs H1 Q fun cls d H' => W cls d σ H'
theorem pe_callX (F : FnOk X.prog X.w X.K X.mg X.base (L2.CX X.prog X.w) k f fd ps sp) (hr : Room k X.A) (hg : Gl X x) (hm : X.mg x = some (.ref f)) (hk : PySem.W.keepIn X.K (.ref f) = true) (hb : Binds X.K fd ps []) (tk : Takes X W)
    (ha : PA X (e :: es) t) (hdb : (x == ("__debug__" : Str)) = false) (he : starEach (e :: es) X.env = (false, eval e X.env) :: starEach es X.env) (hpl : (backTo pos (starEach es X.env)).any (·.1) = false) :
    PE X (.Call (.Name x p) (e :: es) [] pos) (tCallX sp W t) := by
  refine ⟨fun pins s σ H Q I h => ?_⟩
  refine wpAny_Call_Name_kw (ld_glob I hg hm ?_ hdb)
  refine PySem.W.callWith_K (h₀ := X.base) I.ok.mod.kin hk (thn (ha.run pos pins s σ H _ I h) fun us s1 ⟨vs, H1, I1, r, q⟩ => ⟨I1.kIn, ?_⟩) he hpl
  have hl : us.length = ps.length := by rw [← r.length]; exact F.len _ _ _ _ q
  have hb' := hb s1 us I1.kIn (by rw [List.append_nil]; exact hl)
  rw [List.append_nil] at hb'
  refine wpAny_call (codeAny_mono (F.run X.A X.stack s1 H1 ⟨us, []⟩ us vs Q _ hr I1.env0 hb' r q) fun rr s' hq => ?_)
  cases rr with
  | error u => exact tk u s' (XE.of_call I1 (fun cls d H' z => z) hq)
  | ok fl =>
    cases fl with
    | ret u => exact I1.after hq
    | next => exact False.elim hq
    | brk => exact False.elim hq
    | cont => exact False.elim hq
end
end Cw

end
section
set_option Elab.async false
set_option linter.all false
set_option maxRecDepth 100000
/-! Cw5d: try: a call, except C as n: return n.limit == k -/
namespace Cw
open PySem PySem.Spec PyProof.Rows L2
/-- the wish of a caller about an error -/
def EndE (tm : Option Addr) (S : Kn) (C : List Addr) (H : Hp) (E : XK) : Exn → Cells → Prop := fun x c => ∃ i Ca, x = ⟨15, some (.int i)⟩ ∧ tm = some Ca ∧
  ∀ S' H' d, Post S C H S' H' → CellsOk S' C c H' → H' d = some (.xd [("limit", .int i)]) → E (.ref Ca) (some d) H'
def spX (tm : Option Addr) (m : List W → M Val) (np : Nat) : Sp := fun vs H Q E => ∃ S C c ws, Bs S C c H ∧ Reps S C ws vs ∧ vs.length = np ∧ OkX (m ws c) (EndX S C H Q) (EndE tm S C H E)
theorem spF_spX {tm : Option Addr} {m : List W → M Val} {np : Nat} {vs : List V} {H : Hp} {Q : VK} {E : XK} (h : spF m np vs H Q E) : spX tm m np vs H Q E := by
  obtain ⟨S, C, c, ws, B, r, l, o⟩ := h
  exact ⟨S, C, c, ws, B, r, l, okr_x o⟩
section
variable {EX : At0 → Exn → Cells → Prop} {X : Cx} {k i : Nat} {f Ca : Addr} {fd : FuncData} {ps : List Str} {m : List W → M Val} {ms : Slots → M (List W)} {x cn n : Str} {p np p1 p2 p3 p4 p5 p6 p7 pos pos' : Pos} {e : Expr} {es : List Expr} {lim : Int} {j : Nat}
theorem snd_try (hs : X.stack = X.env :: X.outer) (hf : X.env.frame = some X.env.locals) (hN : X.N.Nodup) (hi : X.N[i]? = some n) (hln : X.env.kindOf n = some .local) (hc : Names X cn (.ref Ca)) (hex : PySem.W.exmOne X.K (.ref Ca) (.ref Ca) = some true)
    (xf : XfC X.K Ca) (hno : PySem.W.findIn X.K (.ref Ca) "limit" = some none) (hu : X.A.units + 65 < cLine)
    (F : FnOk X.prog X.w X.K X.mg X.base (L2.CX X.prog X.w) k f fd ps (spX (some Ca) m ps.length)) (hr : Room k X.A) (hg : Gl X x) (hm : X.mg x = some (.ref f)) (hk : PySem.W.keepIn X.K (.ref f) = true) (hb : Binds X.K fd ps [])
    (hl : ∀ ws c Q E, OkX (m ws c) Q E → ws.length = ps.length) (hdb : (x == ("__debug__" : Str)) = false) (hst : (e :: es).all notStar = true) (hnx : ∀ sl, NX (ms sl)) (ha : ∀ pn xe, PA (X.tr pn xe) (e :: es) (TK ms))
    (hnd : (n == ("__debug__" : Str)) = false) (hncd : (n == ("__classdict__" : Str)) = false) :
    PS X (.Try [.Expr (.Call (.Name x p) (e :: es) [] p1) p2] [.ExceptHandler (some (.Name cn np)) (some n) [.Return (some (.Compare (.Attribute (.Name n p3) "limit" p4) [.Eq] [.Constant (.int lim) j p5] p6)) p7] pos'] [] [] pos)
      (TSy EX fun sl => ms sl >>= fun ws ce => match m ws ce with
        | .ok _ c' => .ok (.nx sl) c'
        | .exc x c' => if x.cls = 15 then (match x.arg with
          | some (.int i) => .ok (.rt (.w (.bl (i == lim)))) c'
          | _ => .stuck) else .stuck
        | .stuck => .stuck) := by
  simp only [List.all_cons, Bool.and_eq_true] at hst
  have key := ps_try_as (X := X) (i := i) (n := n) (x := cn) (c := .ref Ca) (np := np) (pos := pos) (pos' := pos') (Wout := fun _ _ _ _ => False) (b₀ := .Return (some (.Compare (.Attribute (.Name n p3) "limit" p4) [.Eq] [.Constant (.int lim) j p5] p6)) p7) (suite := []) hs hf hN hi hln hc takes0
    (body := [.Expr (.Call (.Name x p) (e :: es) [] p1) p2]) (tb := fun W => tDrop (tCallX (spX (some Ca) m ps.length) W (TK ms)))
    (ts := fun a cls d => tRet (tOp (rdC (cmpop .eq)) (tXf a cls d Ca "limit" (tVar i)) (tC (.int lim))))
    (fun W pn xe tk own => pss_one (ps_expr (pe_callX (X := X.tr pn xe) F hr hg hm hk hb tk (ha pn xe) hdb (star_cons hst.1) (star_plain hst.2)) rfl))
    (fun a oe cls d pn hz hfl => pss_one (ps_ret (pe_cmpR (snd_cmp (X := X.suite a ((a, oe) :: pn)) hu (op := .eq) rfl) (pe_xf xf hno hz hfl (pe_var hi (.inl hln) hnd hncd)) pe_int rfl)))
  refine ⟨fun pins s σ H D I h => key.run pins s σ H D I ?_⟩
  obtain ⟨G, S, C, sl, c, R, h⟩ := h
  refine ⟨S, C, sl, c, R.rel, (okx_nxb (hnx sl) h).imp fun ws c1 h1 S1 H1 xs P1 k1 r1 => ?_⟩
  have R1 := R.next P1 k1
  have hil : i < σ.length := by rw [I.len]; exact (List.getElem?_eq_some_iff.mp hi).1
  have h1 : OkX (match m ws c1 with
        | .ok _ c' => (Res.ok (Out.nx sl) c' : Res Out)
        | .exc x c' => if x.cls = 15 then (match x.arg with
          | some (.int i) => .ok (.rt (.w (.bl (i == lim)))) c'
          | _ => .stuck) else .stuck
        | .stuck => .stuck) (OutQ G S C D) (EX G) := h1
  have fin : OkX (m ws c1) (EndX S1 C H1 fun _ H' => D.nx σ H') (EndE (some Ca) S1 C H1 fun cls d H' => wAs X.K (.ref Ca) i (fun a cls d => tRet (tOp (rdC (cmpop .eq)) (tXf a cls d Ca "limit" (tVar i)) (tC (.int lim)))) (fun _ _ _ _ => False) D cls d σ H') := by
    cases hm2 : m ws c1 with
    | stuck => rw [hm2] at h1; exact h1.elim
    | ok v c2 =>
      rw [hm2] at h1
      intro S2 H2 y P2 k2 r2
      exact (show OutQ G S C D (.nx sl) c2 from h1) S2 C σ H2 (R1.next P2 k2) ((Up.of P1.le).trans (.of P2.le))
    | exc u c2 =>
      rw [hm2] at h1
      obtain ⟨ucls, uarg⟩ := u
      by_cases h15 : ucls = 15
      · subst h15
        have h1 : OkX (match uarg with
          | some (.int i) => (Res.ok (Out.rt (.w (.bl (i == lim)))) c2 : Res Out)
          | _ => .stuck) (OutQ G S C D) (EX G) := h1
        cases uarg with
        | none => exact h1.elim
        | some w =>
          obtain ⟨z, rfl⟩ : ∃ z, w = .int z := by cases w <;> first | exact h1.elim | exact ⟨_, rfl⟩
          refine ⟨z, Ca, rfl, rfl, fun S2 H2 d P2 k2 hd => ⟨true, hex, fun _ a hna => ?_, fun h => by cases h⟩⟩
          refine ⟨.ref a, by rw [List.getElem?_set_self hil], rfl, rfl, d, [("limit", .int z)], .int z, rfl, hd, rfl, ?_⟩
          refine ⟨S2, C, c2, .int z, .int lim, z == lim, ⟨P2.sub, k2⟩, .inl rfl, .inl rfl, rfl, ?_⟩
          exact (show OutQ G S C D (.rt (.w (.bl (z == lim)))) c2 from h1) S2 C H2 (.bl (z == lim)) (R1.next P2 k2).fin rfl
      · have h1 : OkX (if ucls = 15 then (match uarg with
          | some (.int i) => (Res.ok (Out.rt (.w (.bl (i == lim)))) c2 : Res Out)
          | _ => .stuck) else .stuck) (OutQ G S C D) (EX G) := h1
        rw [if_neg h15] at h1
        exact h1.elim
  exact ⟨S1, C, c1, ws, ⟨P1.sub, k1⟩, r1, by rw [r1.length]; exact hl ws c1 _ _ fin, fin⟩
end
end Cw

end
section
set_option Elab.async false
set_option linter.all false
set_option maxRecDepth 100000
/-! Cw5e: raise TooMany(e) -/
namespace Cw
open PySem PySem.Spec PyProof.Rows L2
/-- what a body lets out -/
def EXQ (tm : Option Addr) (W : WX) : At0 → Exn → Cells → Prop := fun G x c => ∃ i Ca, x = ⟨15, some (.int i)⟩ ∧ tm = some Ca ∧
  ∀ S' C' H' σ' d, FinS G S' C' c H' → H' d = some (.xd [("limit", .int i)]) → W (.ref Ca) (some d) σ' H'
theorem okx_throwF {α : Type} {y : Exn} {c : Cells} {Q : α → Cells → Prop} {E : Exn → Cells → Prop} (h : OkX (throwF y c) Q E) : E y c := by
  unfold throwF at h
  split at h
  · exact h
  · exact h.elim
/-- the reading of TooMany(e) -/
def tMkT (Ca : Addr) (te : TE) : L2.St → Hp → XK → Prop := fun σ H Q => te σ H fun v H1 => ∃ i : Int, v = .int i ∧ i.natAbs.log2 < 1920 ∧ ∀ (H2 : Hp) (d : Addr), (∀ b o, H1 b = some o → H2 b = some o) → H2 d = some (.xd [("limit", .int i)]) → Q (.ref Ca) (some d) H2
theorem rd_ext {H H2 : Hp} {b : Addr} {u : HO} (h : ∀ b o, H b = some o → H2 b = some o) (r : Rd H b u) : Rd H2 b u := by
  rcases r with r | ⟨o, r⟩
  · exact .inl (h _ _ r)
  · exact .inr ⟨o, h _ _ r⟩
theorem post_ext {S : Kn} {C : List Addr} {H H2 : Hp} (sub : ∀ b u, S b = some u → Rd H b u) (h : ∀ b o, H b = some o → H2 b = some o) : Post S C H S H2 where
  le := Le.refl S
  new := fun b h => .inl h
  fr := fun b o e _ => h b o e
  dom := fun b n => by
    cases e : H b with
    | none => exact absurd e n
    | some o => rw [h b o e]; simp
  sub := fun b u e => rd_ext h (sub b u e)
theorem snd_raise {tm : Option Addr} {W : WX} {X : Cx} {Ca : Addr} {e : Expr} {m : Slots → M Val} {p p2 pos : Pos} {x : Str} (hc : X.calm = true) (tk : Takes X W) (ht : tm = some Ca) (hnx : ∀ sl, NX (m sl))
    (hmk : PMk X (.Call (.Name x p) [e] [] p2) (tMkT Ca (TX m))) :
    PS X (.Raise (some (.Call (.Name x p) [e] [] p2)) none pos) (TSy (EXQ tm W) fun sl => m sl >>= fun v => keepM v >>= fun w => throwF ⟨15, some w⟩) := by
  refine (ps_raise hc tk hmk).imp fun D σ H ⟨G, S, C, sl, c, R, h⟩ => ?_
  refine ⟨S, C, sl, c, R.rel, (okx_nxb (hnx sl) h).imp fun v c1 h1 S1 H1 y P1 k1 r1 => ?_⟩
  obtain ⟨w, ek, h2⟩ := okr_lift.mp (okx_nxb (nx_keep v) h1)
  have hfit : Exn.fits ⟨15, some w⟩ = true := by
    by_cases hf : Exn.fits ⟨15, some w⟩ = true
    · exact hf
    · unfold throwF at h2
      rw [if_neg hf] at h2
      exact h2.elim
  unfold throwF at h2
  rw [if_pos hfit] at h2
  obtain ⟨i, Ca', e1, e2, h3⟩ := (show EXQ tm W G ⟨15, some w⟩ c1 from h2)
  rw [ht] at e2
  cases e2
  injection e1 with _ e1
  injection e1 with e1
  subst e1
  have R1 := R.next P1 k1
  have ev : y = .int i := by
    cases v with
    | w w =>
      cases ek
      exact r1
    | own w =>
      cases ek
      obtain ⟨q, o, py, _⟩ := r1
      exact py.elim
    | bor w => cases ek
  refine ⟨i, ev, Nat.lt_trans (of_decide_eq_true hfit) (by decide), fun H2 d hx hd => ?_⟩
  have P2 := post_ext (C := C) R1.rel.sub hx
  have k2 : CellsOk S1 C c1 H2 := by
    have k := R1.rel.cells
    exact ⟨k.len, k.nd, k.off, fun n p L h1 h2 => let ⟨us, a, b⟩ := k.at_ n p L h1 h2; ⟨us, hx _ _ a, b⟩⟩
  exact h3 S1 C H2 σ d (R1.next P2 k2).fin hd
end Cw

end
section
set_option Elab.async false
set_option linter.all false
set_option maxRecDepth 100000
/-! Cw3a: the checker: small language against the text; what is known of the module -/
namespace Cw
open PySem PySem.Spec PyProof.Rows L2

/-- names of a body: in the order of the slots; the scope; in a comprehension's block its names -/
structure Sx where
  N : List Str
  sc : Scope
  fn : Option (List (Str × NameKind))
def Sx.fnB (s : Sx) (x : Str) : Bool := match s.fn with
  | none => true
  | some l => l.lookup x == some .cell
def Sx.blk (s : Sx) (scope : Scope) : Sx := ⟨s.N, relS scope s.sc, some scope.names⟩
/-- names of the module: the defs with how many parameters, the constants, the classes -/
structure Gx where
  fns : List (Str × Nat)
  consts : List Str
  tm : Bool := false
def dbgS : Str := "__debug__"
def cdS : Str := "__classdict__"
def visB (s : Sx) (x : Str) : Bool := match s.sc.names.lookup x with
  | some .local => true
  | some .cell => true
  | some .free => true
  | _ => false
def locB (s : Sx) (x : Str) : Bool := match s.sc.names.lookup x with
  | some .local => true
  | some .cell => true
  | _ => false
def isLocal (s : Sx) (x : Str) : Bool := decide (s.sc.names.lookup x = some .local)
def glB (s : Sx) (x : Str) : Bool := decide (s.sc.names.lookup x = some .globalImplicit) && !(x == dbgS)
def nmB (s : Sx) (i : Nat) (x : Str) : Bool := decide (s.N[i]? = some x) && visB s x && !(x == dbgS) && !(x == cdS)
/-- a name that may be stored -/
def stB (s : Sx) (i : Nat) (x : Str) : Bool := decide (s.N[i]? = some x) && locB s x && (s.fnB x || isLocal s x)
def bltNm : Blt → String
  | .len => "len" | .int => "int" | .abs => "abs" | .max => "max" | .min => "min" | .sum => "sum" | .all => "all" | .any => "any" | .tuple => "tuple" | .list => "list" | .bool => "bool" | .dict => "dict" | .isinst _ => "isinstance" | _ => "sorted"
/-- the built-in names that the texts use -/
def bltNames : List Str := ["len", "int", "abs", "max", "min", "sum", "all", "any", "tuple", "list", "bool", "isinstance", "sorted", "set", "range", "enumerate", "zip", "str", "dict"]
/-- which built-ins are told by values -/
def bltOk : Blt → Bool
  | .len | .int | .abs | .max | .min | .sum | .all | .any | .tuple | .list | .bool | .sorted | .dict => true
  | _ => false
def baseB : Expr → Bool
  | .Call (.Name _ _) [] [] _ => false
  | _ => true
def notSet : Expr → Bool
  | .Set _ _ _ => false
  | _ => true
def chkTgs (s : Sx) : List Nat → List Expr → Bool
  | [], [] => true
  | i :: l, .Name x _ :: es => stB s i x && chkTgs s l es
  | _, _ => false
def chkTg (s : Sx) : Tg → Expr → Bool
  | .nm i, .Name x _ => stB s i x
  | .tp l, .Tuple es _ _ => chkTgs s l es
  | _, _ => false
def ownOf (N : List Str) (l : List Nat) : List (Str × Nat) := l.filterMap fun i => (N[i]?).map fun x => (x, i)
def ownB (s : Sx) (scope : Scope) (l : List Nat) : Bool := decide ((ownOf s.N l).map (·.2) = l) && blkC s.N s.sc scope (ownOf s.N l)
/-- no conditional expression where a test stands -/
def noIf : E → Bool
  | .ife _ _ _ => false
  | .and_ a b => noIf a && noIf b
  | .or_ a b => noIf a && noIf b
  | .not_ a => noIf a
  | _ => true
/-- set(a), and nothing more -/
def setArg : Expr → List Expr → Option (Str × Expr)
  | .Call (.Name y _) [a] [] _, [] => some (y, a)
  | _, _ => none
section
variable (G : Gx)
mutual
def chkE : Sx → E → Expr → Bool
  | s, .var i, .Name x _ => nmB s i x
  | s, .peek i, .Name x _ => nmB s i x
  | s, .lit w, .Constant k _ _ => litB w k
  | s, .glob g, .Name x _ => decide (G.consts[g]? = some x) && glB s x
  | s, .bin op a b, .BinOp x o y _ => bopB op o && chkE s a x && chkE s b y
  | s, .neg a, .UnaryOp .USub x _ => chkE s a x
  | s, .cmp op a b, .Compare x [o] [y] _ => copB op o && !behindInMarks o y && chkE s a x && chkE s b y
  | s, .chain o1 o2 a b c, .Compare x [p1, p2] [y, z] _ => copB o1 p1 && copB o2 p2 && !lastMarks [p1, p2] [y, z] && chkE s a x && chkE s b y && chkE s c z
  | s, .and_ a b, .BoolOp .And (x :: y :: r) pos => chkE s a x && (match r with
    | [] => chkE s b y
    | z :: r => chkE s b (.BoolOp .And (y :: z :: r) pos))
  | s, .or_ a b, .BoolOp .Or (x :: y :: r) pos => chkE s a x && (match r with
    | [] => chkE s b y
    | z :: r => chkE s b (.BoolOp .Or (y :: z :: r) pos))
  | s, .not_ a, .UnaryOp .Not x _ => chkE s a x
  | s, .ife t a b, .IfExp u x y _ => noIf t && chkE s t u && chkE s a x && chkE s b y
  | s, .call f as, .Call (.Name x _) (e :: es) [] _ => (match G.fns[f]? with
    | some (y, np) => decide (x = y) && glB s x
    | none => false) && (e :: es).all notStar && chkEs s as (e :: es)
  | s, .blt (.isinst t) as, .Call (.Name x _) [e, .Name y _] [] _ => decide (t < 6) && decide (x = "isinstance") && glB s x && decide (y = Str.ofString (tyNm t)) && glB s y && notStar e && chkEs s as [e]
  | s, .blt .lenset as, .Call (.Name x _) (e :: es) [] _ => (match setArg e es with
    | some (y, a) => decide (x = "len") && glB s x && decide (y = "set") && glB s y && notStar a && chkEs s as [a]
    | none => false)
  | s, .blt .sortedset as, .Call (.Name x _) (e :: es) [] _ => (match setArg e es with
    | some (y, a) => decide (x = "sorted") && glB s x && decide (y = "set") && glB s y && notStar a && chkEs s as [a]
    | none => false)
  | s, .blt .rangeT as, .Call (.Name x _) (e :: es) [] _ => (match setArg e es with
    | some (y, a) => decide (x = "tuple") && glB s x && decide (y = "range") && glB s y && notStar a && chkEs s as [a]
    | none => false)
  | s, .blt .rangeL as, .Call (.Name x _) (e :: es) [] _ => (match setArg e es with
    | some (y, a) => decide (x = "list") && glB s x && decide (y = "range") && glB s y && notStar a && chkEs s as [a]
    | none => false)
  | s, .blt f as, .Call (.Name x _) (e :: es) [] _ => bltOk f && decide (x = Str.ofString (bltNm f)) && glB s x && (e :: es).all notStar && chkEs s as (e :: es)
  | s, .meth m o as, .Call (.Attribute x n apos) [e] [] pos => mthB m n && baseB x && (apos.endLine == pos.line) && notStar e && chkE s o x && chkEs s as [e]
  | s, .slc o lo hi, .Subscript x (.Slice l h none _) _ => chkE s o x && chkO s lo l && chkO s hi h
  | s, .rev o, .Subscript x (.Slice none none (some (.UnaryOp .USub (.Constant (.int 1) _ _) _)) _) _ => chkE s o x
  | s, .sub o i, .Subscript x y _ => plainIxB y && chkE s o x && chkE s i y
  | _, .dnew, .Dict [] [] _ => true
  | s, .dget o i, .Subscript x y _ => plainIxB y && chkE s o x && chkE s i y
  | s, .dgetD o k d, .Call (.Attribute x n apos) [a, b] [] pos => decide (n = "get") && baseB x && (apos.endLine == pos.line) && notStar a && notStar b && chkE s o x && chkE s k a && chkE s d b
  | s, .din neg k o, .Compare x [op] [y] _ => copB (if neg = true then .notin else .in_) op && !behindInMarks op y && chkE s k x && chkE s o y
  | s, .tup as, .Tuple es _ _ => es.all notStar && chkEs s as es
  | s, .lst as, .List es _ => es.all notStar && chkEs s as es
  | s, .comp el t it cond own, .ListComp elt [⟨tg, iter, ifs, 0⟩] scope _ => notSet iter && ownB s scope own && t.slots.all own.contains && chkWk s it tg iter && chkTg (s.blk scope) t tg && chkC (s.blk scope) cond ifs && chkE (s.blk scope) el elt
  | s, .compK el i t cond own, .ListComp elt [⟨tg, .Name x _, ifs, 0⟩] scope _ => nmB s i x && ownB s scope own && own.contains t && chkTg (s.blk scope) (.nm t) tg && chkC (s.blk scope) cond ifs && chkE (s.blk scope) el elt
  | s, .comp2 el t it cond t2 it2 cond2 own own2, .ListComp elt [⟨tg, iter, ifs, 0⟩, ⟨tg2, iter2, ifs2, 0⟩] scope _ => notSet iter && notSet iter2 && ownB s scope own && t.slots.all own.contains && t2.slots.all own2.contains && own2.all own.contains &&
      chkWk s it tg iter && chkTg (s.blk scope) t tg && chkC (s.blk scope) cond ifs && chkWk (s.blk scope) it2 tg2 iter2 && chkTg (s.blk scope) t2 tg2 && chkC (s.blk scope) cond2 ifs2 && chkE (s.blk scope) el elt
  | _, _, _ => false
def chkEs : Sx → Es → List Expr → Bool
  | _, .nil, [] => true
  | s, .cons e r, x :: xs => notStar x && chkE s e x && chkEs s r xs
  | _, _, _ => false
def chkO : Sx → Es → Option Expr → Bool
  | _, .nil, none => true
  | s, .cons e .nil, some x => chkE s e x
  | _, _, _ => false
def chkC : Sx → Es → List Expr → Bool
  | _, .nil, [] => true
  | s, .cons e .nil, [x] => noIf e && chkE s e x
  | _, _, _ => false
/-- a walked thing, its target -/
def chkWk : Sx → Wk → Expr → Expr → Bool
  | s, .seq e, _, x => chkE s e x
  | s, .rng1 a, _, .Call (.Name f _) [x] [] _ => decide (f = "range") && glB s f && notStar x && chkE s a x
  | s, .rng2 a b, _, .Call (.Name f _) [x, y] [] _ => decide (f = "range") && glB s f && notStar x && notStar y && chkE s a x && chkE s b y
  | s, .rng3 a b c, _, .Call (.Name f _) [x, y, z] [] _ => decide (f = "range") && glB s f && notStar x && notStar y && notStar z && chkE s a x && chkE s b y && chkE s c z
  | s, .enum e, .Tuple _ _ _, .Call (.Name f _) [x] [] _ => decide (f = "enumerate") && glB s f && notStar x && chkE s e x
  | s, .zip a b, .Tuple _ _ _, .Call (.Name f _) [x, y] [] _ => decide (f = "zip") && glB s f && notStar x && notStar y && chkE s a x && chkE s b y
  | _, _, _, _ => false
end
end

/-- where the class of the one error that bears something stands -/
def tmOf (mg : Str → Option Value) : Option Addr := match mg "TooMany" with
  | some (.ref a) => some a
  | _ => none
/-- what a body's context knows of the module -/
structure CtxOk (P : Prog) (R : Nat → List W → M Val) (G : Gx) (s : Sx) (X : Cx) : Prop where
  calm : X.calm = true
  N : X.N = s.N
  nd : s.N.Nodup
  sc : X.env.scope = s.sc
  fn : X.fn = s.fnB
  units : X.A.units + 65 < cLine
  blt : ∀ b ∈ bltNames, X.mg b = none
  const : ∀ (g : Nat) x, G.consts[g]? = some x → ∃ w u, P.consts[g]? = some w ∧ X.mg x = some u ∧ RelW w u
  call : ∀ (f : Nat) x np, G.fns[f]? = some (x, np) → ∃ k fa fd ps, FnOk X.prog X.w X.K X.mg X.base (L2.CX X.prog X.w) k fa fd ps (spX (tmOf X.mg) (R f) ps.length) ∧ Room k X.A ∧ X.mg x = some (.ref fa) ∧ PySem.W.keepIn X.K (.ref fa) = true ∧ L2.Binds X.K fd ps [] ∧
    ∀ ws c Q E, OkX (R f ws c) Q E → ws.length = ps.length
theorem CtxOk.blk {P : Prog} {R : Nat → List W → M Val} {G : Gx} {s : Sx} {X : Cx} (h : CtxOk P R G s X) (s' : Shared) (H : Hp) (scope : Scope) (C : Addr) (cl : List (Str × Addr)) (fp : List Addr) :
    CtxOk P R G (s.blk scope) (X.blk s' H scope (compEnvC scope cl C X.env) fp) where
  calm := h.calm
  N := h.N
  nd := h.nd
  sc := by
    show relabel scope X.env = relS scope s.sc
    rw [← h.sc]
    rfl
  fn := rfl
  units := h.units
  blt := h.blt
  const := h.const
  call := h.call
section
variable {P : Prog} {R : Nat → List W → M Val} {G : Gx} {s : Sx} {X : Cx} {x : Str} {i : Nat}
theorem CtxOk.gl (h : CtxOk P R G s X) (e : glB s x = true) : Gl X x ∧ (x == ("__debug__" : Str)) = false := by
  unfold glB at e
  simp only [Bool.and_eq_true, decide_eq_true_eq, Bool.not_eq_true'] at e
  exact ⟨by show X.env.scope.names.lookup x = _; rw [h.sc]; exact e.1, e.2⟩
theorem CtxOk.nm (h : CtxOk P R G s X) (e : nmB s i x = true) : X.N[i]? = some x ∧ Vis X.env.scope x ∧ (x == ("__debug__" : Str)) = false ∧ (x == ("__classdict__" : Str)) = false := by
  unfold nmB at e
  simp only [Bool.and_eq_true, decide_eq_true_eq, Bool.not_eq_true'] at e
  obtain ⟨⟨⟨e1, e2⟩, e3⟩, e4⟩ := e
  refine ⟨by rw [h.N]; exact e1, ?_, e3, e4⟩
  unfold Vis
  rw [h.sc]
  unfold visB at e2
  split at e2 <;> first | (cases e2; done) | skip
  · exact .inl (by assumption)
  · exact .inr (.inl (by assumption))
  · exact .inr (.inr (by assumption))
theorem CtxOk.st (h : CtxOk P R G s X) (e : stB s i x = true) : X.N[i]? = some x ∧ Loc X.env.scope x ∧ (X.fn x = true ∨ X.env.scope.names.lookup x = some .local) := by
  unfold stB at e
  simp only [Bool.and_eq_true, decide_eq_true_eq, Bool.or_eq_true] at e
  obtain ⟨⟨e1, e2⟩, e3⟩ := e
  refine ⟨by rw [h.N]; exact e1, ?_, ?_⟩
  · unfold L2.Loc
    rw [h.sc]
    unfold locB at e2
    split at e2 <;> first | (cases e2; done) | skip
    · exact .inl (by assumption)
    · exact .inr (by assumption)
  · rw [h.fn, h.sc]
    rcases e3 with e3 | e3
    · exact .inl e3
    · exact .inr (of_decide_eq_true e3)
theorem CtxOk.tgs (h : CtxOk P R G s X) : ∀ {l : List Nat} {es : List Expr}, chkTgs s l es = true → PGs X es (rdTgs l) ∧ es.length = l.length ∧ es.all notStar = true
  | [], [], _ => ⟨pgs_nil, rfl, rfl⟩
  | [], _ :: _, e => by cases e
  | _ :: _, [], e => by cases e
  | i :: l, t :: es, e => by
    cases t <;> first | (cases e; done) | skip
    have e := (Bool.and_eq_true _ _).mp (show (stB s i _ && chkTgs s l es) = true from e)
    obtain ⟨a, b, d⟩ := h.st e.1
    obtain ⟨p, q, r⟩ := h.tgs e.2
    exact ⟨pgs_cons (pg_name (by rw [h.N]; exact h.nd) a b d) p (by rfl), by simp [q], by simpa [notStar] using r⟩
theorem CtxOk.tg (h : CtxOk P R G s X) {t : Tg} {e : Expr} (hc : chkTg s t e = true) : PG X e (rdTg X.K t) := by
  cases t with
  | nm i =>
    cases e <;> first | (cases hc; done) | skip
    obtain ⟨a, b, d⟩ := h.st hc
    exact pg_name (by rw [h.N]; exact h.nd) a b d
  | tp l =>
    cases e <;> first | (cases hc; done) | skip
    obtain ⟨p, q, r⟩ := h.tgs hc
    exact pg_tup h.calm p (by rw [assign_len, q]) (assign_nostar r)
end
end Cw

end
section
set_option Elab.async false
set_option linter.all false
set_option maxRecDepth 100000
/-! Cw3b: a text that the checker takes computes what the small language computes: expressions -/
namespace Cw
open PySem PySem.Spec PyProof.Rows L2

theorem base_ok {o : Expr} {n : Str} {env : Env} {wh : Sem Value} (h : baseB o = true) : attributeBase o n env wh = wh := by
  cases o <;> first | rfl | skip
  rename_i f as kws pos
  cases f <;> first | rfl | skip
  cases as <;> first | rfl | skip
  cases kws <;> first | rfl | (cases h; done)
theorem plainIx_ok {e : Expr} (h : plainIxB e = true) : PlainIx e := by
  cases e <;> first | (cases h; done) | (intro o i; rfl)
theorem folded_ok {e : Expr} {env : Env} (h : notSet e = true) : ∀ x, foldedSetIterable e env x = pure x := by
  intro x
  cases e <;> first | (cases h; done) | rfl
theorem okr_noExc {α : Type} {m : M α} {c : Cells} {Q : α → Cells → Prop} : Okr (noExc m c) Q ↔ Okr (m c) Q := by
  unfold noExc
  cases m c <;> exact Iff.rfl
theorem noExc_read {ms : Slots → M (List W)} {m : List W → M Val} {σ : L2.St} {H : Hp} {Q : VK} (h : TX (fun sl => ms sl >>= fun ws => noExc (m ws)) σ H Q) : TX (fun sl => ms sl >>= fun ws => m ws) σ H Q := by
  obtain ⟨S, C, sl, c, R, h⟩ := h
  exact ⟨S, C, sl, c, R, okr_bnd.mpr ((okr_bnd.mp h).imp fun ws c1 h1 => okr_noExc.mp h1)⟩
section
variable {X : Cx} {y : Expr} {rest : List Expr} {pos : Pos} {m : Slots → M Val}
theorem pe_and_one (h : PE X y (TX m)) : PE X (.BoolOp .And [y] pos) (TX m) := ⟨fun pins s σ H Q I q => h.run pins s σ H Q I q⟩
theorem pe_or_one (h : PE X y (TX m)) : PE X (.BoolOp .Or [y] pos) (TX m) := ⟨fun pins s σ H Q I q => h.run pins s σ H Q I q⟩
end
theorem boot_all : ∀ f : Blt, (match f with | .int | .tuple | .list | .bool | .dict => bootBuiltins (Str.ofString (bltNm f)) = some (.type (bltNm f)) | _ => bootBuiltins (Str.ofString (bltNm f)) = some (.builtin (bltNm f))) := by
  intro f
  cases f <;> first | (show bootBuiltins _ = _; decide +kernel) | (show bootBuiltins "isinstance" = some (.builtin "isinstance"); decide +kernel)
theorem boot_ty : ∀ t, t < 6 → bootBuiltins (Str.ofString (tyNm t)) = some (.type (tyNm t)) ∧ Str.ofString (tyNm t) ≠ "__name__" ∧ Str.ofString (tyNm t) ∈ bltNames := by
  intro t ht
  rcases t with _ | _ | _ | _ | _ | _ | t <;> first | omega | (decide +kernel)
theorem bltNm_in : ∀ f : Blt, Str.ofString (bltNm f) ∈ bltNames ∧ Str.ofString (bltNm f) ≠ "__name__" := by
  intro f
  cases f <;> first | (decide +kernel) | (show ("isinstance" : Str) ∈ bltNames ∧ ("isinstance" : Str) ≠ "__name__"; decide +kernel)
section
variable {P : Prog} {R : Nat → List W → M Val} {G : Gx}
theorem snd_blt {X : Cx} {s : Sx} {f : Blt} {e : Expr} {es : List Expr} {p pos : Pos} {ms : Slots → M (List W)} (K : CtxOk P R G s X) (hf : bltOk f = true) (hg : glB s (Str.ofString (bltNm f)) = true) (hs : (e :: es).all notStar = true) (ha : PA X (e :: es) (TV ms)) :
    PE X (.Call (.Name (Str.ofString (bltNm f)) p) (e :: es) [] pos) (TX fun sl => ms sl >>= fun ws => M.lift (bltop f ws)) := by
  obtain ⟨g, d⟩ := K.gl hg
  obtain ⟨i, n⟩ := bltNm_in f
  have hm := K.blt _ i
  have b := boot_all f
  cases f <;> first | (cases hf; done) | skip
  · exact snd_callB blt_len g hm b n d hs ha
  · exact snd_callTy blt_int g hm b n d hs ha
  · exact snd_callB blt_abs g hm b n d hs ha
  · exact snd_callB (blt_max K.calm) g hm b n d hs ha
  · exact snd_callB (blt_min K.calm K.units) g hm b n d hs ha
  · exact snd_callB (blt_sum K.calm) g hm b n d hs ha
  · exact snd_callB (blt_all K.calm) g hm b n d hs ha
  · exact snd_callB (blt_any K.calm) g hm b n d hs ha
  · exact snd_callTy (blt_tuple K.calm) g hm b n d hs ha
  · exact snd_callTy blt_list g hm b n d hs ha
  · exact snd_callB (blt_sorted K.calm) g hm b n d hs ha
  · exact snd_callTy blt_bool g hm b n d hs ha
  · exact snd_callTy (blt_dict K.calm) g hm b n d hs ha

def boolOpB : Expr → Bool
  | .BoolOp _ _ _ => true
  | _ => false
structure Snd (X : Cx) (e : Expr) (m : Slots → M Val) (k : Bool) : Prop where
  pe : PE X e (TX m)
  pt : k = true → PT X e (TT' fun sl => m sl >>= truthM)
  pw : k = true → boolOpB e = true → PW X e (TT' fun sl => m sl >>= truthM)
theorem Snd.plain {X : Cx} {e : Expr} {m : Slots → M Val} {k : Bool} (h : PE X e (TX m)) (hp : plainT e = true) : Snd X e m k := ⟨h, fun _ => snd_truT hp h, fun _ hb => by cases e <;> first | (cases hb; done) | (cases hp; done)⟩
theorem and2 {a b : Bool} (h : (a && b) = true) : a = true ∧ b = true := (Bool.and_eq_true _ _).mp h
theorem inv_contains {l m : List Nat} (h : l.all m.contains = true) : ∀ i ∈ l, i ∈ m := fun i hi => by
  have := List.all_eq_true.mp h i hi
  exact List.contains_iff_mem.mp this
theorem noSl_ok {e : Expr} (h : plainIxB e = true) : NoSl e := by
  cases e <;> first | (cases h; done) | (intro ov iv; rfl)
theorem m2_ok {X : Cx} {o a b : Expr} {m : Str} {apos pos : Pos} (h1 : attributeBase o m X.env (eval o X.env) = eval o X.env) (h2 : (apos.endLine == pos.line) = true) (h3 : notStar a = true) (h4 : notStar b = true) : M2 X o m apos a b pos := by
  have st : starEach [a, b] X.env = [(false, eval a X.env), (false, eval b X.env)] := by rw [star_cons h3, star_cons h4]; rfl
  exact ⟨h1, by rw [st]; rfl, h2, by rw [st]; rfl⟩
theorem setArg_some {e a : Expr} {es : List Expr} {y : Str} (h : setArg e es = some (y, a)) : ∃ p q, e = .Call (.Name y p) [a] [] q ∧ es = [] := by
  unfold setArg at h
  split at h
  · cases h; exact ⟨_, _, rfl, rfl⟩
  · cases h
mutual
theorem sndE : ∀ (a : E) {s : Sx} {X : Cx} {e : Expr}, CtxOk P R G s X → chkE G s a e = true → Snd X e (evE P R a) (noIf a)
  | .var i, s, X, e, K, h => by
    cases e <;> first | (cases h; done) | skip
    obtain ⟨a, b, c, d⟩ := K.nm h
    exact .plain (snd_var a b c d) rfl
  | .peek i, s, X, e, K, h => by
    cases e <;> first | (cases h; done) | skip
    obtain ⟨a, b, c, d⟩ := K.nm h
    exact .plain (snd_peek a b c d) rfl
  | .lit w, s, X, e, K, h => by
    cases e <;> first | (cases h; done) | skip
    exact .plain (snd_lit h) rfl
  | .glob g, s, X, e, K, h => by
    cases e <;> first | (cases h; done) | skip
    obtain ⟨h1, h2⟩ := and2 h
    obtain ⟨g1, d⟩ := K.gl h2
    obtain ⟨w, u, hw, hm, r⟩ := K.const g _ (of_decide_eq_true h1)
    refine .plain ((snd_glob g1 hm r d).imp fun σ H Q q => ?_) rfl
    obtain ⟨S, C, sl, c, RR, o⟩ := q
    refine ⟨S, C, sl, c, RR, ?_⟩
    obtain ⟨v, e1, o2⟩ := okr_lift.mp (show Okr (M.lift ((P.consts[g]?).map Val.w) c) _ from o)
    rw [hw] at e1
    cases e1
    exact okr_ret.mpr o2
  | .bin op a b, s, X, e, K, h => by
    cases e <;> first | (cases h; done) | skip
    obtain ⟨h1, h3⟩ := and2 h
    obtain ⟨h1, h2⟩ := and2 h1
    exact .plain (snd_binE h1 (sndE a K h2).pe (sndE b K h3).pe) rfl
  | .neg a, s, X, e, K, h => by
    cases e <;> first | (cases h; done) | skip
    rename_i o x pos
    cases o <;> first | (cases h; done) | skip
    exact .plain (snd_negE (sndE a K h).pe) rfl
  | .cmp op a b, s, X, e, K, h => by
    cases e <;> first | (cases h; done) | skip
    rename_i x ops ys pos
    rcases ops with _ | ⟨o, _ | ⟨o2, ops⟩⟩ <;> rcases ys with _ | ⟨y, _ | ⟨y2, ys⟩⟩ <;> first | (cases h; done) | skip
    obtain ⟨h1, h4⟩ := and2 h
    obtain ⟨h1, h3⟩ := and2 h1
    obtain ⟨h1, h2⟩ := and2 h1
    have hm : behindInMarks o y = false := by simpa using h2
    have pa := (sndE a K h3).pe
    have pb := (sndE b K h4).pe
    exact ⟨snd_cmpE K.units h1 hm pa pb, fun _ => snd_cmpT K.units h1 hm pa pb, fun _ z => by cases z⟩
  | .chain o1 o2 a b c, s, X, e, K, h => by
    cases e <;> first | (cases h; done) | skip
    rename_i x ops ys pos
    rcases ops with _ | ⟨p1, _ | ⟨p2, _ | ⟨p3, ops⟩⟩⟩ <;> rcases ys with _ | ⟨y, _ | ⟨z, _ | ⟨z2, ys⟩⟩⟩ <;> first | (cases h; done) | skip
    obtain ⟨h1, h6⟩ := and2 h
    obtain ⟨h1, h5⟩ := and2 h1
    obtain ⟨h1, h4⟩ := and2 h1
    obtain ⟨h1, h3⟩ := and2 h1
    obtain ⟨h1, h2⟩ := and2 h1
    have hm : lastMarks [p1, p2] [y, z] = false := by simpa using h3
    have pa := (sndE a K h4).pe
    have pb := (sndE b K h5).pe
    have pc := (sndE c K h6).pe
    exact ⟨snd_chainE K.units h1 h2 hm pa pb pc, fun _ => snd_chainT K.units h1 h2 hm pa pb pc, fun _ z => by cases z⟩
  | .and_ a b, s, X, e, K, h => by
    cases e <;> first | (cases h; done) | skip
    rename_i o es pos
    cases o <;> first | (cases h; done) | skip
    rcases es with _ | ⟨x, _ | ⟨y, r⟩⟩ <;> first | (cases h; done) | skip
    obtain ⟨h1, h2⟩ := and2 h
    have pa := sndE a K h1
    rcases r with _ | ⟨z, r⟩
    · have pb := sndE b K h2
      have w : noIf (.and_ a b) = true → PW X (.BoolOp .And [x, y] pos) (TT' fun sl => evE P R (.and_ a b) sl >>= truthM) := fun hk =>
        snd_andT (pa.pt (and2 hk).1) (snd_and1T (pb.pt (and2 hk).2))
      exact ⟨snd_andE pa.pe (pe_and_one pb.pe), fun hk => (w hk).pt, fun hk _ => w hk⟩
    · have pb := sndE b K h2
      have w : noIf (.and_ a b) = true → PW X (.BoolOp .And (x :: y :: z :: r) pos) (TT' fun sl => evE P R (.and_ a b) sl >>= truthM) := fun hk =>
        snd_andT (pa.pt (and2 hk).1) (pb.pw (and2 hk).2 rfl)
      exact ⟨snd_andE pa.pe pb.pe, fun hk => (w hk).pt, fun hk _ => w hk⟩
  | .or_ a b, s, X, e, K, h => by
    cases e <;> first | (cases h; done) | skip
    rename_i o es pos
    cases o <;> first | (cases h; done) | skip
    rcases es with _ | ⟨x, _ | ⟨y, r⟩⟩ <;> first | (cases h; done) | skip
    obtain ⟨h1, h2⟩ := and2 h
    have pa := sndE a K h1
    rcases r with _ | ⟨z, r⟩
    · have pb := sndE b K h2
      have w : noIf (.or_ a b) = true → PW X (.BoolOp .Or [x, y] pos) (TT' fun sl => evE P R (.or_ a b) sl >>= truthM) := fun hk =>
        snd_orT (pa.pt (and2 hk).1) (snd_or1T (pb.pt (and2 hk).2))
      exact ⟨snd_orE pa.pe (pe_or_one pb.pe), fun hk => (w hk).pt, fun hk _ => w hk⟩
    · have pb := sndE b K h2
      have w : noIf (.or_ a b) = true → PW X (.BoolOp .Or (x :: y :: z :: r) pos) (TT' fun sl => evE P R (.or_ a b) sl >>= truthM) := fun hk =>
        snd_orT (pa.pt (and2 hk).1) (pb.pw (and2 hk).2 rfl)
      exact ⟨snd_orE pa.pe pb.pe, fun hk => (w hk).pt, fun hk _ => w hk⟩
  | .not_ a, s, X, e, K, h => by
    cases e <;> first | (cases h; done) | skip
    rename_i o x pos
    cases o <;> first | (cases h; done) | skip
    have pa := sndE a K h
    exact ⟨snd_notE pa.pe, fun hk => snd_notT (pa.pt hk), fun _ z => by cases z⟩
  | .ife t a b, s, X, e, K, h => by
    cases e <;> first | (cases h; done) | skip
    obtain ⟨h1, h4⟩ := and2 h
    obtain ⟨h1, h3⟩ := and2 h1
    obtain ⟨h1, h2⟩ := and2 h1
    exact ⟨snd_ifE ((sndE t K h2).pt h1) (sndE a K h3).pe (sndE b K h4).pe, fun z => (by cases z), fun z => (by cases z)⟩
  | .call f as, s, X, e, K, h => by
    cases e <;> first | (cases h; done) | skip
    rename_i fe es kws pos
    cases fe <;> first | (cases h; done) | skip
    rcases es with _ | ⟨e, es⟩ <;> first | (cases h; done) | skip
    rcases kws with _ | ⟨k, kws⟩ <;> first | (cases h; done) | skip
    rename_i x p
    obtain ⟨h1, h3⟩ := and2 h
    obtain ⟨h1, h2⟩ := and2 h1
    cases hf : G.fns[f]? with
    | none => rw [hf] at h1; cases h1
    | some fn =>
      rw [hf] at h1
      obtain ⟨y, np⟩ := fn
      obtain ⟨h4, h5⟩ := and2 h1
      have := of_decide_eq_true h4
      subst this
      obtain ⟨k, fa, fd, ps, F, hr, hm, hk, hb, hl⟩ := K.call f x np hf
      obtain ⟨g1, d⟩ := K.gl h5
      exact .plain ((snd_call (F.imp fun _ _ _ _ z => spF_spX z) hr g1 hm hk hb passL (fun ws c Q q => hl ws c Q (fun _ _ => False) (okr_x q)) d h2 (sndK as K h3)).imp fun σ H Q r => noExc_read r) rfl
  | .blt f as, s, X, e, K, h => by
    cases e <;> first | (cases f <;> cases h; done) | skip
    rename_i fe es kws pos
    cases fe <;> first | (cases f <;> cases h; done) | skip
    rename_i x p
    rcases es with _ | ⟨e, es⟩ <;> first | (cases f <;> cases h; done) | skip
    rcases kws with _ | ⟨k, kws⟩
    case cons => cases f <;> first | (cases h; done) | (rcases es with _ | ⟨e2, es⟩ <;> first | (cases h; done) | (cases e2 <;> first | (cases h; done) | (cases es <;> cases h)))
    have pv := fun (h : chkEs G s as (e :: es) = true) => sndV as K h
    cases f
    case isinst t =>
      rcases es with _ | ⟨e2, _ | ⟨e3, es⟩⟩ <;> first | (cases h; done) | (cases e2 <;> cases h; done) | skip
      cases e2 <;> first | (cases h; done) | skip
      rename_i y p2
      rcases as with _ | ⟨a, _ | ⟨a2, as⟩⟩
      · obtain ⟨h1, h7⟩ := and2 h
        cases h7
      · obtain ⟨h1, h7⟩ := and2 h
        obtain ⟨h1, h6⟩ := and2 h1
        obtain ⟨h1, h5⟩ := and2 h1
        obtain ⟨h1, h4⟩ := and2 h1
        obtain ⟨h1, h3⟩ := and2 h1
        obtain ⟨h1, h2⟩ := and2 h1
        have ht := of_decide_eq_true h1
        have hx := of_decide_eq_true h2
        have hy := of_decide_eq_true h4
        subst hx hy
        obtain ⟨g1, _⟩ := K.gl h3
        obtain ⟨g2, d2⟩ := K.gl h5
        obtain ⟨b1, b2, b3⟩ := boot_ty t ht
        obtain ⟨h8, _⟩ := and2 h7
        obtain ⟨_, h8⟩ := and2 h8
        exact .plain (snd_isinst ht g1 (K.blt _ (by decide +kernel)) g2 (K.blt _ b3) b1 b2 d2 h6 (sndE a K h8).pe) rfl
      · obtain ⟨h1, h7⟩ := and2 h
        obtain ⟨_, h7⟩ := and2 h7
        cases h7
    case rangeT =>
      obtain ⟨y, e1, hsa⟩ : ∃ y e1, setArg e es = some (y, e1) := by
        cases hq : setArg e es with
        | none =>
          have h : (match setArg e es with
            | some (y, a) => decide (x = "tuple") && glB s x && decide (y = "range") && glB s y && notStar a && chkEs G s as [a]
            | none => false) = true := h
          rw [hq] at h; cases h
        | some q => exact ⟨q.1, q.2, rfl⟩
      have h : (match setArg e es with
        | some (y, a) => decide (x = "tuple") && glB s x && decide (y = "range") && glB s y && notStar a && chkEs G s as [a]
        | none => false) = true := h
      rw [hsa] at h
      obtain ⟨p1, q1, rfl, rfl⟩ := setArg_some hsa
      rcases as with _ | ⟨a, _ | ⟨a2, as⟩⟩
      · obtain ⟨h1, h7⟩ := and2 h
        cases h7
      · obtain ⟨h1, h7⟩ := and2 h
        obtain ⟨h1, h6⟩ := and2 h1
        obtain ⟨h1, h5⟩ := and2 h1
        obtain ⟨h1, h4⟩ := and2 h1
        obtain ⟨h1, h3⟩ := and2 h1
        have hx := of_decide_eq_true h1
        have hy := of_decide_eq_true h4
        subst hx hy
        obtain ⟨g1, d1⟩ := K.gl h3
        obtain ⟨g2, d2⟩ := K.gl h5
        obtain ⟨h8, _⟩ := and2 h7
        obtain ⟨_, h8⟩ := and2 h8
        refine .plain ?_ rfl
        have q := snd_tupRg (p := p) (p2 := p1) (q := q1) (pos := pos) K.calm g1 (K.blt _ (by decide +kernel)) g2 (K.blt _ (by decide +kernel)) h6 (sndE a K h8).pe
        refine q.imp fun σ H Q r => ?_
        have e9 : (fun sl => evE P R (.blt .rangeT (.cons a .nil)) sl) = fun sl => evE P R a sl >>= fun v => M.lift (bltop .rangeT [v.get]) := funext fun sl => ev_one
        exact (congrArg (fun m => TX m σ H Q) e9) ▸ r
      · obtain ⟨h1, h7⟩ := and2 h
        obtain ⟨_, h7⟩ := and2 h7
        cases h7
    case rangeL =>
      obtain ⟨y, e1, hsa⟩ : ∃ y e1, setArg e es = some (y, e1) := by
        cases hq : setArg e es with
        | none =>
          have h : (match setArg e es with
            | some (y, a) => decide (x = "list") && glB s x && decide (y = "range") && glB s y && notStar a && chkEs G s as [a]
            | none => false) = true := h
          rw [hq] at h; cases h
        | some q => exact ⟨q.1, q.2, rfl⟩
      have h : (match setArg e es with
        | some (y, a) => decide (x = "list") && glB s x && decide (y = "range") && glB s y && notStar a && chkEs G s as [a]
        | none => false) = true := h
      rw [hsa] at h
      obtain ⟨p1, q1, rfl, rfl⟩ := setArg_some hsa
      rcases as with _ | ⟨a, _ | ⟨a2, as⟩⟩
      · obtain ⟨h1, h7⟩ := and2 h
        cases h7
      · obtain ⟨h1, h7⟩ := and2 h
        obtain ⟨h1, h6⟩ := and2 h1
        obtain ⟨h1, h5⟩ := and2 h1
        obtain ⟨h1, h4⟩ := and2 h1
        obtain ⟨h1, h3⟩ := and2 h1
        have hx := of_decide_eq_true h1
        have hy := of_decide_eq_true h4
        subst hx hy
        obtain ⟨g1, d1⟩ := K.gl h3
        obtain ⟨g2, d2⟩ := K.gl h5
        obtain ⟨h8, _⟩ := and2 h7
        obtain ⟨_, h8⟩ := and2 h8
        refine .plain ?_ rfl
        have q := snd_lstRg (p := p) (p2 := p1) (q := q1) (pos := pos) K.calm g1 (K.blt _ (by decide +kernel)) g2 (K.blt _ (by decide +kernel)) h6 (sndE a K h8).pe
        refine q.imp fun σ H Q r => ?_
        have e9 : (fun sl => evE P R (.blt .rangeL (.cons a .nil)) sl) = fun sl => evE P R a sl >>= fun v => M.lift (bltop .rangeL [v.get]) := funext fun sl => ev_one
        exact (congrArg (fun m => TX m σ H Q) e9) ▸ r
      · obtain ⟨h1, h7⟩ := and2 h
        obtain ⟨_, h7⟩ := and2 h7
        cases h7
    case lenset =>
      obtain ⟨y, e1, hsa⟩ : ∃ y e1, setArg e es = some (y, e1) := by
        cases hq : setArg e es with
        | none =>
          have h : (match setArg e es with
            | some (y, a) => decide (x = "len") && glB s x && decide (y = "set") && glB s y && notStar a && chkEs G s as [a]
            | none => false) = true := h
          rw [hq] at h; cases h
        | some q => exact ⟨q.1, q.2, rfl⟩
      have h : (match setArg e es with
        | some (y, a) => decide (x = "len") && glB s x && decide (y = "set") && glB s y && notStar a && chkEs G s as [a]
        | none => false) = true := h
      rw [hsa] at h
      obtain ⟨p1, q1, rfl, rfl⟩ := setArg_some hsa
      rcases as with _ | ⟨a, _ | ⟨a2, as⟩⟩
      · obtain ⟨h1, h7⟩ := and2 h
        cases h7
      · obtain ⟨h1, h7⟩ := and2 h
        obtain ⟨h1, h6⟩ := and2 h1
        obtain ⟨h1, h5⟩ := and2 h1
        obtain ⟨h1, h4⟩ := and2 h1
        obtain ⟨h1, h3⟩ := and2 h1
        have hx := of_decide_eq_true h1
        have hy := of_decide_eq_true h4
        subst hx hy
        obtain ⟨g1, d1⟩ := K.gl h3
        obtain ⟨g2, d2⟩ := K.gl h5
        obtain ⟨h8, _⟩ := and2 h7
        obtain ⟨_, h8⟩ := and2 h8
        refine .plain ?_ rfl
        have q := snd_setOf (p := p) (p2 := p1) (q := q1) (pos := pos) (use_len K.calm) g1 (K.blt _ (by decide +kernel)) (by decide +kernel) (by decide +kernel) d1 g2 (K.blt _ (by decide +kernel)) h6 (fun w v e => lenset_lst e) (sndE a K h8).pe
        refine q.imp fun σ H Q r => ?_
        have e9 : (fun sl => evE P R (.blt .lenset (.cons a .nil)) sl) = fun sl => evE P R a sl >>= fun v => M.lift (bltop .lenset [v.get]) := funext fun sl => ev_one
        exact (congrArg (fun m => TX m σ H Q) e9) ▸ r
      · obtain ⟨h1, h7⟩ := and2 h
        obtain ⟨_, h7⟩ := and2 h7
        cases h7
    case sortedset =>
      obtain ⟨y, e1, hsa⟩ : ∃ y e1, setArg e es = some (y, e1) := by
        cases hq : setArg e es with
        | none =>
          have h : (match setArg e es with
            | some (y, a) => decide (x = "sorted") && glB s x && decide (y = "set") && glB s y && notStar a && chkEs G s as [a]
            | none => false) = true := h
          rw [hq] at h; cases h
        | some q => exact ⟨q.1, q.2, rfl⟩
      have h : (match setArg e es with
        | some (y, a) => decide (x = "sorted") && glB s x && decide (y = "set") && glB s y && notStar a && chkEs G s as [a]
        | none => false) = true := h
      rw [hsa] at h
      obtain ⟨p1, q1, rfl, rfl⟩ := setArg_some hsa
      rcases as with _ | ⟨a, _ | ⟨a2, as⟩⟩
      · obtain ⟨h1, h7⟩ := and2 h
        cases h7
      · obtain ⟨h1, h7⟩ := and2 h
        obtain ⟨h1, h6⟩ := and2 h1
        obtain ⟨h1, h5⟩ := and2 h1
        obtain ⟨h1, h4⟩ := and2 h1
        obtain ⟨h1, h3⟩ := and2 h1
        have hx := of_decide_eq_true h1
        have hy := of_decide_eq_true h4
        subst hx hy
        obtain ⟨g1, d1⟩ := K.gl h3
        obtain ⟨g2, d2⟩ := K.gl h5
        obtain ⟨h8, _⟩ := and2 h7
        obtain ⟨_, h8⟩ := and2 h8
        refine .plain ?_ rfl
        have q := snd_setOf (p := p) (p2 := p1) (q := q1) (pos := pos) (use_sorted K.calm) g1 (K.blt _ (by decide +kernel)) (by decide +kernel) (by decide +kernel) d1 g2 (K.blt _ (by decide +kernel)) h6 (fun w v e => sortset_lst e) (sndE a K h8).pe
        refine q.imp fun σ H Q r => ?_
        have e9 : (fun sl => evE P R (.blt .sortedset (.cons a .nil)) sl) = fun sl => evE P R a sl >>= fun v => M.lift (bltop .sortedset [v.get]) := funext fun sl => ev_one
        exact (congrArg (fun m => TX m σ H Q) e9) ▸ r
      · obtain ⟨h1, h7⟩ := and2 h
        obtain ⟨_, h7⟩ := and2 h7
        cases h7
    all_goals
      obtain ⟨h1, h4⟩ := and2 h
      obtain ⟨h1, h3⟩ := and2 h1
      obtain ⟨h1, h2⟩ := and2 h1
      obtain ⟨h0, h1⟩ := and2 h1
      first
        | (cases h0; done)
        | (have hx := of_decide_eq_true h1
           subst hx
           exact .plain (snd_blt K h0 h2 h3 (pv h4)) rfl)
  | .meth m o .nil, s, X, e, K, h => by
    cases e <;> first | (cases h; done) | skip
    rename_i fe es kws pos
    cases fe <;> first | (cases h; done) | skip
    rcases es with _ | ⟨e, _ | ⟨e2, es⟩⟩ <;> first | (cases h; done) | skip
    rcases kws with _ | ⟨k, kws⟩ <;> first | (cases h; done) | skip
    obtain ⟨_, h6⟩ := and2 h
    cases h6
  | .meth m o (.cons a (.cons _ _)), s, X, e, K, h => by
    cases e <;> first | (cases h; done) | skip
    rename_i fe es kws pos
    cases fe <;> first | (cases h; done) | skip
    rcases es with _ | ⟨e, _ | ⟨e2, es⟩⟩ <;> first | (cases h; done) | skip
    rcases kws with _ | ⟨k, kws⟩ <;> first | (cases h; done) | skip
    obtain ⟨_, h6⟩ := and2 h
    obtain ⟨_, h6⟩ := and2 h6
    cases h6
  | .meth m o (.cons a .nil), s, X, e, K, h => by
    cases e <;> first | (cases h; done) | skip
    rename_i fe es kws pos
    cases fe <;> first | (cases h; done) | skip
    rcases es with _ | ⟨e, _ | ⟨e2, es⟩⟩ <;> first | (cases h; done) | skip
    rcases kws with _ | ⟨k, kws⟩ <;> first | (cases h; done) | skip
    obtain ⟨h1, h6⟩ := and2 h
    obtain ⟨h1, h5⟩ := and2 h1
    obtain ⟨h1, h4⟩ := and2 h1
    obtain ⟨h1, h3⟩ := and2 h1
    obtain ⟨h1, h2⟩ := and2 h1
    obtain ⟨h7, _⟩ := and2 h6
    obtain ⟨_, h7⟩ := and2 h7
    exact .plain (snd_meth h1 h4 (base_ok h2) h3 (sndE o K h5).pe (sndE a K h7).pe) rfl
  | .sub o i, s, X, e, K, h => by
    cases e <;> first | (cases h; done) | skip
    obtain ⟨h1, h3⟩ := and2 h
    obtain ⟨h1, h2⟩ := and2 h1
    exact .plain (snd_sub (plainIx_ok h1) (sndE o K h2).pe (sndE i K h3).pe) rfl
  | .slc o lo hi, s, X, e, K, h => by
    cases e <;> first | (cases h; done) | skip
    rename_i x sl pos
    cases sl <;> first | (cases h; done) | skip
    rename_i l u st p
    cases st <;> first | (cases h; done) | skip
    obtain ⟨h1, h3⟩ := and2 h
    obtain ⟨h1, h2⟩ := and2 h1
    exact .plain (snd_slc (sndE o K h1).pe (sndO lo K h2) (sndO hi K h3)) rfl
  | .rev o, s, X, e, K, h => by
    cases e <;> first | (cases h; done) | skip
    rename_i x sl pos
    cases sl <;> first | (cases h; done) | skip
    rename_i l u st p
    cases l <;> first | (cases h; done) | skip
    cases u <;> first | (cases h; done) | skip
    cases st <;> first | (cases h; done) | skip
    rename_i st
    cases st <;> first | (cases h; done) | skip
    rename_i op c p2
    cases op <;> first | (cases h; done) | skip
    cases c <;> first | (cases h; done) | skip
    rename_i c j p1
    cases c <;> first | (cases h; done) | skip
    rename_i i
    rcases i with (_ | _ | n) | n <;> first | (cases h; done) | skip
    exact .plain (snd_rev (sndE o K h).pe) rfl
  | .dnew, s, X, e, K, h => by
    cases e <;> first | (cases h; done) | skip
    rename_i ks vs pos
    rcases ks with _ | ⟨k, ks⟩ <;> rcases vs with _ | ⟨v, vs⟩ <;> first | (cases h; done) | skip
    exact .plain snd_dnew rfl
  | .dget o i, s, X, e, K, h => by
    cases e <;> first | (cases h; done) | skip
    obtain ⟨h1, h3⟩ := and2 h
    obtain ⟨h1, h2⟩ := and2 h1
    exact .plain (snd_dget (by have := K.units; omega) (noSl_ok h1) (sndE o K h2).pe (sndE i K h3).pe) rfl
  | .dgetD o k d, s, X, e, K, h => by
    cases e <;> first | (cases h; done) | skip
    rename_i fe es kws pos
    cases fe <;> first | (cases h; done) | skip
    rename_i x n apos
    rcases es with _ | ⟨a, _ | ⟨b, _ | ⟨b2, es⟩⟩⟩ <;> first | (cases h; done) | skip
    rcases kws with _ | ⟨kw, kws⟩ <;> first | (cases h; done) | skip
    obtain ⟨h1, h8⟩ := and2 h
    obtain ⟨h1, h7⟩ := and2 h1
    obtain ⟨h1, h6⟩ := and2 h1
    obtain ⟨h1, h5⟩ := and2 h1
    obtain ⟨h1, h4⟩ := and2 h1
    obtain ⟨h1, h3⟩ := and2 h1
    obtain ⟨h1, h2⟩ := and2 h1
    have hn := of_decide_eq_true h1
    subst hn
    exact .plain (snd_dgetD (by have := K.units; omega) (m2_ok (base_ok h2) h3 h4 h5) (sndE o K h6).pe (sndE k K h7).pe (sndE d K h8).pe) rfl
  | .din neg k o, s, X, e, K, h => by
    cases e <;> first | (cases h; done) | skip
    rename_i x ops ys pos
    rcases ops with _ | ⟨op, _ | ⟨o2, ops⟩⟩ <;> rcases ys with _ | ⟨y, _ | ⟨y2, ys⟩⟩ <;> first | (cases h; done) | skip
    obtain ⟨h1, h4⟩ := and2 h
    obtain ⟨h1, h3⟩ := and2 h1
    obtain ⟨h1, h2⟩ := and2 h1
    have hm : behindInMarks op y = false := by simpa using h2
    have hop : op = if neg = true then .NotIn else .In := by
      cases neg <;> cases op <;> first | rfl | cases h1
    exact ⟨snd_din (by have := K.units; omega) hop hm (sndE k K h3).pe (sndE o K h4).pe, fun _ => snd_dinT (by have := K.units; omega) hop hm (sndE k K h3).pe (sndE o K h4).pe, fun _ z => by cases z⟩
  | .tup as, s, X, e, K, h => by
    cases e <;> first | (cases h; done) | skip
    obtain ⟨h1, h2⟩ := and2 h
    exact .plain (snd_tup (sndK as K h2)) rfl
  | .lst as, s, X, e, K, h => by
    cases e <;> first | (cases h; done) | skip
    obtain ⟨h1, h2⟩ := and2 h
    exact .plain (snd_lst (sndK as K h2)) rfl
  | .comp el t it cond own, s, X, e, K, h => by
    cases e <;> first | (cases h; done) | skip
    rename_i elt gs scope pos
    rcases gs with _ | ⟨⟨tg, iter, ifs, as⟩, _ | ⟨⟨tg2, iter2, ifs2, bs⟩, _ | ⟨g3, gs⟩⟩⟩
    · cases h
    case cons.cons.nil => rcases as with (_ | _) | _ <;> rcases bs with (_ | _) | _ <;> cases h
    case cons.cons.cons => rcases as with (_ | _) | _ <;> rcases bs with (_ | _) | _ <;> cases h
    rcases as with (_ | _) | _
    case negSucc => cases h
    case ofNat.succ => cases h
    obtain ⟨h1, h7⟩ := and2 h
    obtain ⟨h1, h6⟩ := and2 h1
    obtain ⟨h1, h5⟩ := and2 h1
    obtain ⟨h1, h4⟩ := and2 h1
    obtain ⟨h1, h3⟩ := and2 h1
    obtain ⟨h1, h2⟩ := and2 h1
    obtain ⟨o1, o2⟩ := and2 h2
    have eo := of_decide_eq_true o1
    have bk : BlkOk X.N X.env.scope scope (ownOf s.N own) := by rw [K.N, K.sc]; exact blkOk_by o2
    have q := pe_lc (g := rdTg X.K t) (pos := pos) K.calm (by rw [K.N]; exact K.nd) (sndW it K h4 false) bk (fun s' H C cl fp => (K.blk s' H scope C cl fp).tg h5) (fun s' H C cl fp => sndC cond (K.blk s' H scope C cl fp) h6) (fun s' H C cl fp => (sndE el (K.blk s' H scope C cl fp) h7).pe) (folded_ok h1)
    rw [eo] at q
    exact .plain (q.imp fun σ H Q r => lc_read (inv_contains h3) r) rfl
  | .compK el i t cond own, s, X, e, K, h => by
    cases e <;> first | (cases h; done) | skip
    rename_i elt gs scope pos
    rcases gs with _ | ⟨⟨tg, iter, ifs, as⟩, _ | ⟨g2, gs⟩⟩
    · cases h
    case cons.cons => cases iter <;> rcases as with (_ | _) | _ <;> cases h
    cases iter <;> first | (rcases as with (_ | _) | _ <;> cases h; done) | skip
    rename_i ix ip
    rcases as with (_ | _) | _
    case negSucc => cases h
    case ofNat.succ => cases h
    obtain ⟨h1, h7⟩ := and2 h
    obtain ⟨h1, h6⟩ := and2 h1
    obtain ⟨h1, h5⟩ := and2 h1
    obtain ⟨h1, h3⟩ := and2 h1
    obtain ⟨h1, h2⟩ := and2 h1
    obtain ⟨o1, o2⟩ := and2 h2
    have eo := of_decide_eq_true o1
    have bk : BlkOk X.N X.env.scope scope (ownOf s.N own) := by rw [K.N, K.sc]; exact blkOk_by o2
    obtain ⟨m1, m2, m3, m4⟩ := K.nm h1
    have q := pe_lc (iter := .Name ix ip) (g := rdTg X.K (.nm t)) (pos := pos) K.calm (by rw [K.N]; exact K.nd) (pi_keys (tg := tg) (pe_var m1 m2 m3 m4)) bk (fun s' H C cl fp => (K.blk s' H scope C cl fp).tg h5) (fun s' H C cl fp => sndC cond (K.blk s' H scope C cl fp) h6) (fun s' H C cl fp => (sndE el (K.blk s' H scope C cl fp) h7).pe) (folded_ok rfl)
    rw [eo] at q
    exact .plain (lcK_read (List.contains_iff_mem.mp h3) q) rfl
  | .comp2 el t it cond t2 it2 cond2 own own2, s, X, e, K, h => by
    cases e <;> first | (cases h; done) | skip
    rename_i elt gs scope pos
    rcases gs with _ | ⟨⟨tg, iter, ifs, as⟩, _ | ⟨⟨tg2, iter2, ifs2, bs⟩, _ | ⟨g3, gs⟩⟩⟩
    · cases h
    · rcases as with (_ | _) | _ <;> cases h
    · rcases as with (_ | _) | _
      case negSucc => cases h
      case ofNat.succ => cases h
      rcases bs with (_ | _) | _
      case negSucc => cases h
      case ofNat.succ => cases h
      obtain ⟨h1, h13⟩ := and2 h
      obtain ⟨h1, h12⟩ := and2 h1
      obtain ⟨h1, h11⟩ := and2 h1
      obtain ⟨h1, h10⟩ := and2 h1
      obtain ⟨h1, h9⟩ := and2 h1
      obtain ⟨h1, h8⟩ := and2 h1
      obtain ⟨h1, h7⟩ := and2 h1
      obtain ⟨h1, h6⟩ := and2 h1
      obtain ⟨h1, h5⟩ := and2 h1
      obtain ⟨h1, h4⟩ := and2 h1
      obtain ⟨h1, h3⟩ := and2 h1
      obtain ⟨h1, h2⟩ := and2 h1
      obtain ⟨o1, o2⟩ := and2 h3
      have eo := of_decide_eq_true o1
      have bk : BlkOk X.N X.env.scope scope (ownOf s.N own) := by rw [K.N, K.sc]; exact blkOk_by o2
      have q := pe_lc2 (g := rdTg X.K t) (g1 := rdTg X.K t2) (pos := pos) (vs1 := own2) K.calm (by rw [K.N]; exact K.nd) (sndW it K h7 false) bk (by rw [eo]; exact inv_contains h6) (fun s' H C cl fp => (K.blk s' H scope C cl fp).tg h8) (fun s' H C cl fp => sndC cond (K.blk s' H scope C cl fp) h9)
        (fun s' H C cl fp => sndW it2 (K.blk s' H scope C cl fp) h10 true) (fun s' H C cl fp => (K.blk s' H scope C cl fp).tg h11) (fun s' H C cl fp => sndC cond2 (K.blk s' H scope C cl fp) h12) (fun s' H C cl fp => (sndE el (K.blk s' H scope C cl fp) h13).pe) (folded_ok h1) (fun _ => folded_ok h2)
      rw [eo] at q
      exact .plain (q.imp fun σ H Q r => lc2_read (inv_contains h4) (inv_contains h5) r) rfl
    · rcases as with (_ | _) | _ <;> rcases bs with (_ | _) | _ <;> cases h
theorem sndK : ∀ (as : Es) {s : Sx} {X : Cx} {es : List Expr}, CtxOk P R G s X → chkEs G s as es = true → PA X es (TK (evEs P R as))
  | .nil, s, X, es, K, h => by
    cases es <;> first | (cases h; done) | skip
    exact snd_knil
  | .cons a r, s, X, es, K, h => by
    cases es <;> first | (cases h; done) | skip
    obtain ⟨h1, h3⟩ := and2 h
    obtain ⟨h1, h2⟩ := and2 h1
    exact snd_kcons h1 (sndE a K h2).pe (sndK r K h3)
theorem sndV : ∀ (as : Es) {s : Sx} {X : Cx} {es : List Expr}, CtxOk P R G s X → chkEs G s as es = true → PA X es (TV (evEv P R as))
  | .nil, s, X, es, K, h => by
    cases es <;> first | (cases h; done) | skip
    exact snd_vnil
  | .cons a r, s, X, es, K, h => by
    cases es <;> first | (cases h; done) | skip
    obtain ⟨h1, h3⟩ := and2 h
    obtain ⟨h1, h2⟩ := and2 h1
    exact snd_vcons h1 (sndE a K h2).pe (sndV r K h3)
theorem sndO : ∀ (as : Es) {s : Sx} {X : Cx} {es : Option Expr}, CtxOk P R G s X → chkO G s as es = true → PO X es (TOp (evO P R as))
  | .nil, s, X, es, K, h => by
    cases es <;> first | (cases h; done) | skip
    exact snd_onil
  | .cons a .nil, s, X, es, K, h => by
    cases es <;> first | (cases h; done) | skip
    exact snd_osome (sndE a K h).pe
  | .cons a (.cons _ _), s, X, es, K, h => by cases es <;> cases h
theorem sndC : ∀ (as : Es) {s : Sx} {X : Cx} {es : List Expr}, CtxOk P R G s X → chkC G s as es = true → PTs X es (TT' (evC P R as))
  | .nil, s, X, es, K, h => by
    cases es <;> first | (cases h; done) | skip
    exact ⟨fun pins s σ H Q I ⟨S, C, sl, c, RR, o⟩ => pts_nil.run pins s σ H Q I (okr_ret.mp o S H (Post.refl RR.sub) RR.cells)⟩
  | .cons a .nil, s, X, es, K, h => by
    rcases es with _ | ⟨x, _ | ⟨y, es⟩⟩ <;> first | (cases h; done) | skip
    obtain ⟨h1, h2⟩ := and2 h
    exact pts_one ((sndE a K h2).pt h1)
  | .cons a (.cons _ _), s, X, es, K, h => by rcases es with _ | ⟨x, _ | ⟨y, es⟩⟩ <;> cases h
theorem sndW : ∀ (it : Wk) {s : Sx} {X : Cx} {tg e : Expr}, CtxOk P R G s X → chkWk G s it tg e = true → ∀ st, PI X tg e (TIx (evIt P R it st) st)
  | .seq a, s, X, tg, e, K, h, st => snd_seq (sndE a K h).pe
  | .rng1 a, s, X, tg, e, K, h, st => by
    cases e <;> first | (cases h; done) | skip
    rename_i fe es kws pos
    cases fe <;> first | (cases h; done) | skip
    rcases es with _ | ⟨x, _ | ⟨y, es⟩⟩ <;> first | (cases h; done) | skip
    rcases kws with _ | ⟨k, kws⟩ <;> first | (cases h; done) | skip
    obtain ⟨h1, h4⟩ := and2 h
    obtain ⟨h1, h3⟩ := and2 h1
    obtain ⟨h1, h2⟩ := and2 h1
    have hx := of_decide_eq_true h1
    subst hx
    exact snd_rng1 (K.gl h2).1 (K.blt _ (by decide +kernel)) h3 (sndE a K h4).pe
  | .rng2 a b, s, X, tg, e, K, h, st => by
    cases e <;> first | (cases h; done) | skip
    rename_i fe es kws pos
    cases fe <;> first | (cases h; done) | skip
    rcases es with _ | ⟨x, _ | ⟨y, _ | ⟨z, es⟩⟩⟩ <;> first | (cases h; done) | skip
    rcases kws with _ | ⟨k, kws⟩ <;> first | (cases h; done) | skip
    obtain ⟨h1, h6⟩ := and2 h
    obtain ⟨h1, h5⟩ := and2 h1
    obtain ⟨h1, h4⟩ := and2 h1
    obtain ⟨h1, h3⟩ := and2 h1
    obtain ⟨h1, h2⟩ := and2 h1
    have hx := of_decide_eq_true h1
    subst hx
    exact snd_rng2 (K.gl h2).1 (K.blt _ (by decide +kernel)) h3 h4 (sndE a K h5).pe (sndE b K h6).pe
  | .rng3 a b c, s, X, tg, e, K, h, st => by
    cases e <;> first | (cases h; done) | skip
    rename_i fe es kws pos
    cases fe <;> first | (cases h; done) | skip
    rcases es with _ | ⟨x, _ | ⟨y, _ | ⟨z, _ | ⟨z2, es⟩⟩⟩⟩ <;> first | (cases h; done) | skip
    rcases kws with _ | ⟨k, kws⟩ <;> first | (cases h; done) | skip
    obtain ⟨h1, h8⟩ := and2 h
    obtain ⟨h1, h7⟩ := and2 h1
    obtain ⟨h1, h6⟩ := and2 h1
    obtain ⟨h1, h5⟩ := and2 h1
    obtain ⟨h1, h4⟩ := and2 h1
    obtain ⟨h1, h3⟩ := and2 h1
    obtain ⟨h1, h2⟩ := and2 h1
    have hx := of_decide_eq_true h1
    subst hx
    exact snd_rng3 (K.gl h2).1 (K.blt _ (by decide +kernel)) h3 h4 h5 (sndE a K h6).pe (sndE b K h7).pe (sndE c K h8).pe
  | .enum a, s, X, tg, e, K, h, st => by
    cases tg <;> first | (cases h; done) | skip
    cases e <;> first | (cases h; done) | skip
    rename_i fe es kws pos
    cases fe <;> first | (cases h; done) | skip
    rcases es with _ | ⟨x, _ | ⟨y, es⟩⟩ <;> first | (cases h; done) | skip
    rcases kws with _ | ⟨k, kws⟩ <;> first | (cases h; done) | skip
    obtain ⟨h1, h4⟩ := and2 h
    obtain ⟨h1, h3⟩ := and2 h1
    obtain ⟨h1, h2⟩ := and2 h1
    have hx := of_decide_eq_true h1
    subst hx
    exact snd_enum (K.gl h2).1 (K.blt _ (by decide +kernel)) h3 (sndE a K h4).pe
  | .zip a b, s, X, tg, e, K, h, st => by
    cases tg <;> first | (cases h; done) | skip
    cases e <;> first | (cases h; done) | skip
    rename_i fe es kws pos
    cases fe <;> first | (cases h; done) | skip
    rcases es with _ | ⟨x, _ | ⟨y, _ | ⟨z, es⟩⟩⟩ <;> first | (cases h; done) | skip
    rcases kws with _ | ⟨k, kws⟩ <;> first | (cases h; done) | skip
    obtain ⟨h1, h6⟩ := and2 h
    obtain ⟨h1, h5⟩ := and2 h1
    obtain ⟨h1, h4⟩ := and2 h1
    obtain ⟨h1, h3⟩ := and2 h1
    obtain ⟨h1, h2⟩ := and2 h1
    have hx := of_decide_eq_true h1
    subst hx
    exact snd_zip (K.gl h2).1 (K.blt _ (by decide +kernel)) h3 h4 (sndE a K h5).pe (sndE b K h6).pe
  | .zip3 a b c, s, X, tg, e, K, h, st => by cases tg <;> cases h
end
end
end Cw

end
section
set_option Elab.async false
set_option linter.all false
set_option maxRecDepth 100000
/-! Cw3c: .. statements: the checker -/
namespace Cw
open PySem PySem.Spec PyProof.Rows L2

def notComp : Expr → Bool
  | .ListComp _ _ _ _ => false
  | .SetComp _ _ _ _ => false
  | .DictComp _ _ _ _ _ => false
  | _ => true
def notTuple : Expr → Bool
  | .Tuple _ _ _ => false
  | _ => true
def isStar : Expr → Bool
  | .Starred _ _ => true
  | _ => false
def swapN (ts : List Expr) (sc : Scope) : List Str := ts.filterMap fun
  | .Name id pos => if (sc.names.lookup id == some .local && pos.line == (ts.head?.map (·.pos.line)).getD 0) = true then some id else none
  | _ => none
def swapV (ts vs : List Expr) (sc : Scope) : Option (Option (List Str)) :=
  if (!(ts.length == 2 || ts.length == 3) || vs.length != ts.length) = true then some none
  else if vs.any isStar = true then some none
  else if ((swapN ts sc).length != ts.length || (swapN ts sc).eraseDups.length != (swapN ts sc).length) = true then some none
  else if vs.all (foldedForSure 8) = true then some none
  else if vs.all (constantsAlone 8) = true then none
  else some (some (swapN ts sc))
theorem any_star {vs : List Expr} {f : Expr → Bool} (h : ∀ x, f x = isStar x) : vs.any f = vs.any isStar := by
  rw [show f = isStar from funext h]
theorem swapV_ok {ts vs : List Expr} {k k2 : Nat} {p p2 : Pos} {env : Env} {r : Option (List Str)} (hk : env.scope.kind = .function) (h : swapV ts vs env.scope = some r) : swappedStores [.Tuple ts k p] (.Tuple vs k2 p2) env = pure r := by
  have hb : env.blockKind = .function := by unfold Env.blockKind; rw [hk]; rfl
  have hb2 : (env.blockKind != .function) = false := by rw [hb]; rfl
  unfold swapV at h
  delta swappedStores
  dsimp only
  rw [hb2, Bool.or_false]
  by_cases h1 : (!(ts.length == 2 || ts.length == 3) || vs.length != ts.length) = true
  · rw [if_pos h1] at h ⊢
    cases h
    rfl
  rw [if_neg h1] at h ⊢
  by_cases h2 : vs.any isStar = true
  · rw [if_pos h2] at h
    cases h
    refine (if_pos ((any_star ?_).trans h2)).trans rfl
    intro x; cases x <;> rfl
  rw [if_neg h2] at h
  refine (if_neg ?_).trans ?_
  · rw [any_star (fun x => by cases x <;> rfl)]
    exact h2
  by_cases h3 : ((swapN ts env.scope).length != ts.length || (swapN ts env.scope).eraseDups.length != (swapN ts env.scope).length) = true
  · rw [if_pos h3] at h
    cases h
    exact if_pos h3
  rw [if_neg h3] at h
  refine (if_neg h3).trans ?_
  by_cases h4 : vs.all (foldedForSure 8) = true
  · rw [if_pos h4] at h ⊢
    cases h
    rfl
  rw [if_neg h4] at h ⊢
  by_cases h5 : vs.all (constantsAlone 8) = true
  · rw [if_pos h5] at h
    cases h
  rw [if_neg h5] at h ⊢
  cases h
  rfl
theorem swaps_ok {v : Expr} {t : Option Expr} {l : Nat} {env : Env} (h : notComp v = true) : swapsWith v t l env = pure false := by
  cases v <;> first | (cases h; done) | rfl
theorem swaps_tuple {v : Expr} {ts : List Expr} {k : Nat} {p : Pos} {l : Nat} {env : Env} : swapsWithSole [.Tuple ts k p] v l env = pure false := by
  cases v <;> rfl
theorem swaps_sub {v o i : Expr} {p : Pos} {l : Nat} {env : Env} : swapsWithSole [.Subscript o i p] v l env = pure false := by
  cases v <;> rfl
theorem stores_one {v : Expr} {ts : List Expr} {k : Nat} {p : Pos} {env : Env} (h : notTuple v = true) : swappedStores [.Tuple ts k p] v env = pure none := by
  cases v <;> first | (cases h; done) | rfl
theorem stores_sub {v o i : Expr} {p : Pos} {env : Env} : swappedStores [.Subscript o i p] v env = pure none := by
  cases v <;> rfl
end Cw

end
section
set_option Elab.async false
set_option linter.all false
set_option maxRecDepth 100000
/-! Cw3d: .. statements -/
namespace Cw
open PySem PySem.Spec PyProof.Rows L2

structure CtxS (P : Prog) (R : Nat → List W → M Val) (G : Gx) (s : Sx) (X : Cx) : Prop extends CtxOk P R G s X where
  kind : X.env.scope.kind = .function
  own : PassesOwn (model X.prog X.w) X.A X.env X.xe
def noSD : Expr → Bool
  | .SetComp _ _ _ _ => false
  | .DictComp _ _ _ _ _ => false
  | _ => true
/-- no walk over a dict's keys -/
def notK : E → Bool
  | .compK _ _ _ _ _ => false
  | _ => true
def compSwap (s : Sx) (x : Str) (py : Pos) : Expr → Bool
  | .ListComp _ _ scope pos => isLocal s x && (py.line == pos.line) && !(scope.names.any fun (n, k) => n == x && (k == .local || k == .cell))
  | _ => false
section
variable {P : Prog} {R : Nat → List W → M Val} {G : Gx} {s : Sx} {X : Cx}
theorem swaps_comp (K : CtxS P R G s X) {v : Expr} {x : Str} {py : Pos} {l : Nat} (h : noSD v = true) : swapsWith v (some (.Name x py)) l X.env = pure (compSwap s x py v) := by
  have hb : X.env.blockKind = .function := by unfold Env.blockKind; rw [K.kind]; rfl
  cases v <;> first | (cases h; done) | rfl | skip
  rename_i elt gs scope pos
  unfold swapsWith compSwap
  simp only [hb]
  have e : (X.env.kindOf x == some NameKind.local) = isLocal s x := by
    show (X.env.scope.names.lookup x == some NameKind.local) = _
    rw [K.sc]
    unfold isLocal
    by_cases h : s.sc.names.lookup x = some .local
    · rw [h]; rfl
    · rw [decide_eq_false h]; exact beq_eq_false_iff_ne.mpr h
  rw [e]
  rfl
theorem sndAsg (K : CtxS P R G s X) {i : Nat} {x : Str} {py pos : Pos} {a : E} {v : Expr} (hst : stB s i x = true) (hv : chkE G s a v = true) (hn2 : (noSD v && notK a) = true) :
    PS X (.Assign [.Name x py] v pos) (tAsg (TX (evE P R a)) (gName i)) := by
  obtain ⟨hn, hnk⟩ := and2 hn2
  obtain ⟨g1, g2, g3⟩ := K.st hst
  have nd : X.N.Nodup := by rw [K.N]; exact K.nd
  have sw := swaps_comp K (x := x) (py := py) (l := pos.line) hn
  cases hc : compSwap s x py v with
  | false =>
    rw [hc] at sw
    exact ps_set nd g1 g2 (sndE a K.toCtxOk hv).pe sw g3
  | true =>
    rw [hc] at sw
    cases v <;> first | (cases hc; done) | skip
    rename_i elt gs scope vpos
    have hl : X.env.scope.names.lookup x = some .local := by
      have := (and2 (and2 hc).1).1
      rw [K.sc]
      exact of_decide_eq_true this
    cases a <;> first | (cases hnk; done) | (cases hv; done) | (rename_i f as; cases f <;> cases hv; done) | skip
    · rename_i el t it cond own
      rcases gs with _ | ⟨⟨tg, iter, ifs, as⟩, _ | ⟨⟨tg2, iter2, ifs2, bs⟩, _ | ⟨g3, gs⟩⟩⟩
      · cases hv
      case cons.cons.nil => rcases as with (_ | _) | _ <;> rcases bs with (_ | _) | _ <;> cases hv
      case cons.cons.cons => rcases as with (_ | _) | _ <;> rcases bs with (_ | _) | _ <;> cases hv
      rcases as with (_ | _) | _
      case negSucc => cases hv
      case ofNat.succ => cases hv
      obtain ⟨h1, h7⟩ := and2 hv
      obtain ⟨h1, h6⟩ := and2 h1
      obtain ⟨h1, h5⟩ := and2 h1
      obtain ⟨h1, h4⟩ := and2 h1
      obtain ⟨h1, h3⟩ := and2 h1
      obtain ⟨h1, h2⟩ := and2 h1
      obtain ⟨o1, o2⟩ := and2 h2
      have eo := of_decide_eq_true o1
      have bk : BlkOk X.N X.env.scope scope (ownOf s.N own) := by rw [K.N, K.sc]; exact blkOk_by o2
      have q := ps_setLc (g := rdTg X.K t) K.calm nd g1 hl sw (sndW it K.toCtxOk h4 false) bk (fun s' H C cl fp => (K.toCtxOk.blk s' H scope C cl fp).tg h5) (fun s' H C cl fp => sndC cond (K.toCtxOk.blk s' H scope C cl fp) h6)
        (fun s' H C cl fp => (sndE el (K.toCtxOk.blk s' H scope C cl fp) h7).pe) (folded_ok h1)
      rw [eo] at q
      exact q.imp fun D σ H r => lc_read (inv_contains h3) r
    · rename_i el t it cond t2 it2 cond2 own own2
      rcases gs with _ | ⟨⟨tg, iter, ifs, as⟩, _ | ⟨⟨tg2, iter2, ifs2, bs⟩, _ | ⟨g3, gs⟩⟩⟩
      · cases hv
      · rcases as with (_ | _) | _ <;> cases hv
      · rcases as with (_ | _) | _
        case negSucc => cases hv
        case ofNat.succ => cases hv
        rcases bs with (_ | _) | _
        case negSucc => cases hv
        case ofNat.succ => cases hv
        obtain ⟨h1, h13⟩ := and2 hv
        obtain ⟨h1, h12⟩ := and2 h1
        obtain ⟨h1, h11⟩ := and2 h1
        obtain ⟨h1, h10⟩ := and2 h1
        obtain ⟨h1, h9⟩ := and2 h1
        obtain ⟨h1, h8⟩ := and2 h1
        obtain ⟨h1, h7⟩ := and2 h1
        obtain ⟨h1, h6⟩ := and2 h1
        obtain ⟨h1, h5⟩ := and2 h1
        obtain ⟨h1, h4⟩ := and2 h1
        obtain ⟨h1, h3⟩ := and2 h1
        obtain ⟨h1, h2⟩ := and2 h1
        obtain ⟨o1, o2⟩ := and2 h3
        have eo := of_decide_eq_true o1
        have bk : BlkOk X.N X.env.scope scope (ownOf s.N own) := by rw [K.N, K.sc]; exact blkOk_by o2
        have q := ps_setLc2 (g := rdTg X.K t) (g1 := rdTg X.K t2) (vs1 := own2) K.calm nd g1 hl sw (sndW it K.toCtxOk h7 false) bk (by rw [eo]; exact inv_contains h6) (fun s' H C cl fp => (K.toCtxOk.blk s' H scope C cl fp).tg h8) (fun s' H C cl fp => sndC cond (K.toCtxOk.blk s' H scope C cl fp) h9)
          (fun s' H C cl fp => sndW it2 (K.toCtxOk.blk s' H scope C cl fp) h10 true) (fun s' H C cl fp => (K.toCtxOk.blk s' H scope C cl fp).tg h11) (fun s' H C cl fp => sndC cond2 (K.toCtxOk.blk s' H scope C cl fp) h12) (fun s' H C cl fp => (sndE el (K.toCtxOk.blk s' H scope C cl fp) h13).pe) (folded_ok h1) (fun _ => folded_ok h2)
        rw [eo] at q
        exact q.imp fun D σ H r => lc2_read (inv_contains h4) (inv_contains h5) r
      · rcases as with (_ | _) | _ <;> rcases bs with (_ | _) | _ <;> cases hv
theorem sndVs (K : CtxOk P R G s X) : ∀ (as : Es) {es : List Expr}, chkEs G s as es = true → PA X es (TVs (evVs P R as)) ∧ es.all notStar = true
  | .nil, es, h => by
    cases es <;> first | (cases h; done) | skip
    exact ⟨snd_svnil, rfl⟩
  | .cons a r, es, h => by
    cases es <;> first | (cases h; done) | skip
    obtain ⟨h1, h3⟩ := and2 h
    obtain ⟨h1, h2⟩ := and2 h1
    obtain ⟨p, q⟩ := sndVs K r h3
    exact ⟨snd_svcons h1 (sndE a K h2).pe p, by simp [h1, q]⟩
end
/-- a, b = x, y: how they are stored -/
def parB (s : Sx) (l : List Nat) (ts vs : List Expr) : Bool := match swapV ts vs s.sc with
  | none => false
  | some none => decide (l.length ≤ 1000)
  | some (some ns) => match l, ts, vs with
    | [i, j], [.Name x _, .Name y _], [_, _] => decide (ns = [x, y]) && decide (i ≠ j) && isLocal s x && isLocal s y
    | [i, j, k], [.Name x _, .Name y _, .Name z _], [_, _, _] => decide (ns = [x, y, z]) && decide (i ≠ j) && decide (i ≠ k) && decide (j ≠ k) && isLocal s x && isLocal s y && isLocal s z
    | _, _, _ => false
section
variable (G : Gx)
mutual
def chkS : Sx → S → Stmt → Bool
  | s, .set i e, .Assign [.Name x _] v _ => stB s i x && (noSD v && notK e) && chkE G s e v
  | s, .setOwn i e, .Assign [.Name x _] v _ => stB s i x && (noSD v && notK e) && chkE G s e v
  | s, .setCell i e, .Assign [.Name x _] v _ => stB s i x && (noSD v && notK e) && chkE G s e v
  | s, .unpack l e, .Assign [.Tuple ts _ _] v _ => chkTgs s l ts && notTuple v && chkE G s e v
  | s, .par l es, .Assign [.Tuple ts _ _] (.Tuple vs _ _) _ => chkTgs s (l.map (·.1)) ts && chkEs G s es vs && parB s (l.map (·.1)) ts vs
  | s, .setIt i idx e, .Assign [.Subscript (.Name x _) y _] v _ => nmB s i x && plainIxB y && chkE G s idx y && chkE G s e v
  | s, .dput i k e, .Assign [.Subscript (.Name x _) y _] v _ => nmB s i x && plainIxB y && notComp v && chkE G s k y && chkE G s e v
  | s, .app i e, .Expr (.Call (.Attribute (.Name x _) n apos) [a] [] cpos) _ => decide (n = "append") && (apos.endLine == cpos.line) && nmB s i x && notStar a && chkE G s e a
  | s, .popTo j i .nil, .Assign [.Name y _] (.Call (.Attribute (.Name x _) n apos) [] [] cpos) _ => decide (n = "pop") && (apos.endLine == cpos.line) && nmB s i x && stB s j y
  | s, .popTo j i (.cons e .nil), .Assign [.Name y _] (.Call (.Attribute (.Name x _) n apos) [a] [] cpos) _ => decide (n = "pop") && (apos.endLine == cpos.line) && nmB s i x && stB s j y && notStar a && chkE G s e a
  | s, .expr e, .Expr v _ => notComp v && chkE G s e v
  | s, .ite t a b, .If c p q _ => noIf t && chkE G s t c && chkSs s a p && chkSs s b q
  | s, .for_ t it b, .For tg iter body [] _ => notSet iter && chkWk G s it tg iter && chkTg s t tg && chkSs s b body
  | s, .while_ t b, .While c body [] _ => noIf t && chkE G s t c && chkSs s b body
  | s, .ret e, .Return (some v) _ => chkE G s e v
  | _, .retN, .Return none _ => true
  | s, .retOwn i, .Return (some (.Name x _)) _ => nmB s i x
  | s, .raise 15 (.cons a .nil), .Raise (some (.Call (.Name x _) [e] [] _)) none _ => G.tm && decide (x = "TooMany") && glB s x && notStar e && chkE G s a e
  | _, .raise n _, .Raise _ _ _ => decide (n ≠ 15)
  | s, .tryLim f as c (.lit (.int lim)), .Try [.Expr (.Call (.Name x _) (e :: es) [] _) _] [.ExceptHandler (some (.Name cn _)) (some n) [.Return (some (.Compare (.Attribute (.Name n2 _) at_ _) [.Eq] [.Constant (.int l2) _ _] _)) _] _] [] [] _ =>
    (match G.fns[f]? with
    | some (y, np) => decide (x = y) && glB s x
    | none => false) && decide (c = 15) && G.tm && decide (cn = "TooMany") && glB s cn && decide (n2 = n) && decide (at_ = "limit") && decide (l2 = lim) && isLocal s n && nmB s (s.N.idxOf n) n && (e :: es).all notStar && chkEs G s as (e :: es)
  | _, .pass, .Pass _ => true
  | _, .brk, .Break _ => true
  | _, .cnt, .Continue _ => true
  | _, _, _ => false
def chkSs : Sx → Ss → List Stmt → Bool
  | _, .nil, [] => true
  | s, .cons (.frz _) r, sts => chkSs s r sts
  | s, .cons a r, st :: sts => chkS s a st && chkSs s r sts
  | _, _, _ => false
end
end
end Cw

end
section
set_option Elab.async false
set_option linter.all false
set_option maxRecDepth 100000
/-! Cw3e: a text that the checker takes computes what the small language computes: statements -/
namespace Cw
open PySem PySem.Spec PyProof.Rows L2

section
variable {P : Prog} {R : Nat → List W → M Val} {F : Nat} {G : Gx} {s : Sx} {X : Cx}
theorem CtxOk.loc (h : CtxOk P R G s X) {x : Str} (e : isLocal s x = true) : X.env.scope.names.lookup x = some .local := by
  rw [h.sc]; exact of_decide_eq_true e
theorem CtxOk.pv (h : CtxOk P R G s X) {x : Str} {i : Nat} {p : Pos} (e : nmB s i x = true) : PE X (.Name x p) (tVar i) := by
  obtain ⟨a, b, c, d⟩ := h.nm e
  exact pe_var a b c d
theorem few_ok {cpos : Pos} {a : Expr} {env : Env} (h : notStar a = true) : ((backTo cpos (starEach [a] env)).all (fun x => !x.1) && (backToKw cpos (keywordEach [] env)).all (fun x => x.1.isSome)
      && decide ([a].length + ([] : List Keyword).length + (if ([] : List Keyword).isEmpty then 0 else 1) < 30)) = true := by
  rw [star_cons h]
  rfl
theorem snd_par (K : CtxS P R G s X) {l : List (Nat × Bool)} {ts vs : List Expr} {k k2 : Nat} {p p2 pos : Pos} {es : Es} (h1 : chkTgs s (l.map (·.1)) ts = true) (h2 : chkEs G s es vs = true) (h3 : parB s (l.map (·.1)) ts vs = true) :
    PS X (.Assign [.Tuple ts k p] (.Tuple vs k2 p2) pos) (TSx (exS P F R (.par l es))) := by
  obtain ⟨pa, _⟩ := sndVs K.toCtxOk es h2
  obtain ⟨pg, hl, hns⟩ := K.tgs h1
  have nd : X.N.Nodup := by rw [K.N]; exact K.nd
  unfold parB at h3
  cases hsw : swapV ts vs s.sc with
  | none => rw [hsw] at h3; cases h3
  | some r =>
    rw [hsw] at h3
    have sw := swapV_ok (k := k) (k2 := k2) (p := p) (p2 := p2) K.kind (by rw [K.sc]; exact hsw)
    cases r with
    | none =>
      have hz : l.length ≤ sizeLine := by
        have : (l.map (·.1)).length ≤ 1000 := of_decide_eq_true h3
        rw [List.length_map] at this
        rw [sizeLine_eq]; omega
      exact (ps_asg (pe_tup pa) (pg_tup K.calm pg (by rw [assign_len, hl]) (assign_nostar hns)) swaps_tuple sw).imp fun D σ H q => parT_read hz q
    | some ns =>
      rcases l with _ | ⟨⟨i, a⟩, _ | ⟨⟨j, b⟩, _ | ⟨⟨m, d⟩, _ | ⟨q, l⟩⟩⟩⟩
      · cases h3
      · cases h3
      · rcases ts with _ | ⟨x, _ | ⟨y, _ | ⟨z, ts⟩⟩⟩ <;> first | (cases hl; done) | skip
        rcases vs with _ | ⟨u, _ | ⟨v, _ | ⟨w, vs⟩⟩⟩ <;> first | (cases x <;> first | (cases h3; done) | (cases y <;> cases h3)) | skip
        cases x <;> first | (cases h3; done) | skip
        cases y <;> first | (cases h3; done) | skip
        obtain ⟨h3, h7⟩ := and2 h3
        obtain ⟨h3, h6⟩ := and2 h3
        obtain ⟨h3, h5⟩ := and2 h3
        have hn := of_decide_eq_true h3
        subst hn
        obtain ⟨g1, g2⟩ := and2 (show (stB s i _ && chkTgs s [j] _) = true from h1)
        obtain ⟨g2, _⟩ := and2 (show (stB s j _ && chkTgs s [] _) = true from g2)
        exact (ps_par K.calm nd (K.st g1).1 (K.st g2).1 (of_decide_eq_true h5) (K.loc h6) (K.loc h7) pa sw swaps_tuple).imp fun D σ H q => par2_read q
      · rcases ts with _ | ⟨x, _ | ⟨y, _ | ⟨z, _ | ⟨z2, ts⟩⟩⟩⟩ <;> first | (cases hl; done) | skip
        rcases vs with _ | ⟨u, _ | ⟨v, _ | ⟨w, _ | ⟨w2, vs⟩⟩⟩⟩ <;> first | (cases x <;> first | (cases h3; done) | (cases y <;> first | (cases h3; done) | (cases z <;> cases h3))) | skip
        cases x <;> first | (cases h3; done) | skip
        cases y <;> first | (cases h3; done) | skip
        cases z <;> first | (cases h3; done) | skip
        obtain ⟨h3, l3⟩ := and2 h3
        obtain ⟨h3, l2⟩ := and2 h3
        obtain ⟨h3, l1⟩ := and2 h3
        obtain ⟨h3, d3⟩ := and2 h3
        obtain ⟨h3, d2⟩ := and2 h3
        obtain ⟨h3, d1⟩ := and2 h3
        have hn := of_decide_eq_true h3
        subst hn
        obtain ⟨g1, g2⟩ := and2 (show (stB s i _ && chkTgs s [j, m] _) = true from h1)
        obtain ⟨g2, g4⟩ := and2 (show (stB s j _ && chkTgs s [m] _) = true from g2)
        obtain ⟨g4, _⟩ := and2 (show (stB s m _ && chkTgs s [] _) = true from g4)
        exact (ps_par3 K.calm nd (K.st g1).1 (K.st g2).1 (K.st g4).1 (of_decide_eq_true d1) (of_decide_eq_true d2) (of_decide_eq_true d3) (K.loc l1) (K.loc l2) (K.loc l3) pa sw swaps_tuple).imp fun D σ H q => par3_read q
      · rcases ts with _ | ⟨x, _ | ⟨y, _ | ⟨z, _ | ⟨z2, ts⟩⟩⟩⟩ <;> cases h3
theorem sndS : ∀ (a : S) {st : Stmt}, a.simple = true → CtxS P R G s X → chkS G s a st = true → PS X st (TSx (exS P F R a))
  | .set i a, st, h0, K, h => by
    cases st <;> first | (cases h; done) | skip
    rename_i ts v pos
    rcases ts with _ | ⟨t, _ | ⟨t2, ts⟩⟩
    · cases h
    case cons.cons => cases t <;> cases h
    cases t <;> first | (cases h; done) | skip
    obtain ⟨h1, h3⟩ := and2 h
    obtain ⟨h1, h2⟩ := and2 h1
    exact (sndAsg K h1 h3 h2).imp fun D σ H q => set_read q
  | .setOwn i a, st, h0, K, h => by
    cases st <;> first | (cases h; done) | skip
    rename_i ts v pos
    rcases ts with _ | ⟨t, _ | ⟨t2, ts⟩⟩
    · cases h
    case cons.cons => cases t <;> cases h
    cases t <;> first | (cases h; done) | skip
    obtain ⟨h1, h3⟩ := and2 h
    obtain ⟨h1, h2⟩ := and2 h1
    exact (sndAsg K h1 h3 h2).imp fun D σ H q => setOwn_read q
  | .setCell i a, st, h0, K, h => by
    cases st <;> first | (cases h; done) | skip
    rename_i ts v pos
    rcases ts with _ | ⟨t, _ | ⟨t2, ts⟩⟩
    · cases h
    case cons.cons => cases t <;> cases h
    cases t <;> first | (cases h; done) | skip
    obtain ⟨h1, h3⟩ := and2 h
    obtain ⟨h1, h2⟩ := and2 h1
    exact (sndAsg K h1 h3 h2).imp fun D σ H q => setCell_read q
  | .frz i, st, h0, K, h => by cases st <;> cases h
  | .unpack l a, st, h0, K, h => by
    cases st <;> first | (cases h; done) | skip
    rename_i ts v pos
    rcases ts with _ | ⟨t, _ | ⟨t2, ts⟩⟩
    · cases h
    case cons.cons => cases t <;> cases h
    cases t <;> first | (cases h; done) | skip
    obtain ⟨h1, h3⟩ := and2 h
    obtain ⟨h1, h2⟩ := and2 h1
    obtain ⟨pg, hl, hns⟩ := K.tgs h1
    have g := fun (k : Nat) (p : Pos) => pg_tup (X := X) (k := k) (pos := p) K.calm pg (by rw [assign_len, hl]) (assign_nostar hns)
    exact (ps_asg (sndE a K.toCtxOk h3).pe (g _ _) swaps_tuple (stores_one h2)).imp fun D σ H q => unpack_read q
  | .par l es, st, h0, K, h => by
    cases st <;> first | (cases h; done) | skip
    rename_i ts v pos
    rcases ts with _ | ⟨t, _ | ⟨t2, ts⟩⟩
    · cases h
    case cons.cons => cases t <;> first | (cases h; done) | (cases v <;> cases h)
    cases t <;> first | (cases h; done) | skip
    cases v <;> first | (cases h; done) | skip
    obtain ⟨h1, h3⟩ := and2 h
    obtain ⟨h1, h2⟩ := and2 h1
    exact snd_par K h1 h2 h3
  | .setIt i idx a, st, h0, K, h => by
    cases st <;> first | (cases h; done) | skip
    rename_i ts v pos
    rcases ts with _ | ⟨t, _ | ⟨t2, ts⟩⟩
    · cases h
    case cons.cons => cases t <;> first | (cases h; done) | (rename_i o y p; cases o <;> cases h)
    cases t <;> first | (cases h; done) | skip
    rename_i o y p
    cases o <;> first | (cases h; done) | skip
    rename_i x px
    obtain ⟨h1, h4⟩ := and2 h
    obtain ⟨h1, h3⟩ := and2 h1
    obtain ⟨h1, h2⟩ := and2 h1
    have g := pg_sub (pos := p) (K.pv (p := px) h1) (sndE idx K.toCtxOk h3).pe set_list (fun v => by cases y <;> first | (cases h2; done) | rfl)
    exact (ps_asg (sndE a K.toCtxOk h4).pe g swaps_sub stores_sub).imp fun D σ H q => setIt_read q
  | .dput i idx a, st, h0, K, h => by
    cases st <;> first | (cases h; done) | skip
    rename_i ts v pos
    rcases ts with _ | ⟨t, _ | ⟨t2, ts⟩⟩
    · cases h
    case cons.cons => cases t <;> first | (cases h; done) | (rename_i o y p; cases o <;> cases h)
    cases t <;> first | (cases h; done) | skip
    rename_i o y p
    cases o <;> first | (cases h; done) | skip
    rename_i x px
    obtain ⟨h1, h5⟩ := and2 h
    obtain ⟨h1, h4⟩ := and2 h1
    obtain ⟨h1, h3⟩ := and2 h1
    obtain ⟨h1, h2⟩ := and2 h1
    exact (ps_dput (by have := K.toCtxOk.units; omega) (K.pv (p := px) h1) (sndE idx K.toCtxOk h4).pe (sndE a K.toCtxOk h5).pe (swaps_ok h3)).imp fun D σ H q => dput_read q
  | .app i a, st, h0, K, h => by
    cases st <;> first | (cases h; done) | skip
    rename_i v pos
    cases v <;> first | (cases h; done) | skip
    rename_i fe es kws cpos
    cases fe <;> first | (cases h; done) | skip
    rename_i o n apos
    cases o <;> first | (cases h; done) | skip
    rcases es with _ | ⟨e, _ | ⟨e2, es⟩⟩ <;> first | (cases h; done) | skip
    rcases kws with _ | ⟨k, kws⟩ <;> first | (cases h; done) | skip
    obtain ⟨h1, h5⟩ := and2 h
    obtain ⟨h1, h4⟩ := and2 h1
    obtain ⟨h1, h3⟩ := and2 h1
    obtain ⟨h1, h2⟩ := and2 h1
    have hn := of_decide_eq_true h1
    subst hn
    exact (ps_expr (pe_bm PySem.F.plainAttrs_list PySem.F.slot_list_append PySem.F.type_list_append mt_append (K.pv h3) (pa_cons (sndE a K.toCtxOk h5).pe pa_nil (star_cons h4)) rfl (few_ok h4) h2 (star_cons h4) rfl) rfl).imp fun D σ H q => app_read q
  | .popTo j i .nil, st, h0, K, h => by
    cases st <;> first | (cases h; done) | skip
    rename_i ts v pos
    rcases ts with _ | ⟨t, _ | ⟨t2, ts⟩⟩
    · cases h
    case cons.cons => cases t <;> cases h
    cases t <;> first | (cases h; done) | skip
    cases v <;> first | (cases h; done) | skip
    rename_i fe es kws cpos
    cases fe <;> first | (cases h; done) | skip
    rename_i o n apos
    cases o <;> first | (cases h; done) | skip
    rcases es with _ | ⟨e, es⟩ <;> first | (cases h; done) | skip
    rcases kws with _ | ⟨k, kws⟩ <;> first | (cases h; done) | skip
    obtain ⟨h1, h4⟩ := and2 h
    obtain ⟨h1, h3⟩ := and2 h1
    obtain ⟨h1, h2⟩ := and2 h1
    have hn := of_decide_eq_true h1
    subst hn
    obtain ⟨g1, g2, g3⟩ := K.st h4
    exact (ps_set (by rw [K.N]; exact K.nd) g1 g2 (pe_bm0 PySem.F.plainAttrs_list PySem.F.slot_list_pop PySem.F.type_list_pop mt_pop (K.pv h3) rfl h2) rfl g3).imp fun D σ H q => pop0_read q
  | .popTo j i (.cons a .nil), st, h0, K, h => by
    cases st <;> first | (cases h; done) | skip
    rename_i ts v pos
    rcases ts with _ | ⟨t, _ | ⟨t2, ts⟩⟩
    · cases h
    case cons.cons => cases t <;> cases h
    cases t <;> first | (cases h; done) | skip
    cases v <;> first | (cases h; done) | skip
    rename_i fe es kws cpos
    cases fe <;> first | (cases h; done) | skip
    rename_i o n apos
    cases o <;> first | (cases h; done) | skip
    rcases es with _ | ⟨e, _ | ⟨e2, es⟩⟩ <;> first | (cases h; done) | skip
    rcases kws with _ | ⟨k, kws⟩ <;> first | (cases h; done) | skip
    obtain ⟨h1, h6⟩ := and2 h
    obtain ⟨h1, h5⟩ := and2 h1
    obtain ⟨h1, h4⟩ := and2 h1
    obtain ⟨h1, h3⟩ := and2 h1
    obtain ⟨h1, h2⟩ := and2 h1
    have hn := of_decide_eq_true h1
    subst hn
    obtain ⟨g1, g2, g3⟩ := K.st h4
    exact (ps_set (by rw [K.N]; exact K.nd) g1 g2 (pe_bm PySem.F.plainAttrs_list PySem.F.slot_list_pop PySem.F.type_list_pop mt_popAt (K.pv h3) (pa_cons (sndE a K.toCtxOk h6).pe pa_nil (star_cons h5)) rfl (few_ok h5) h2 (star_cons h5) rfl) rfl g3).imp fun D σ H q => pop1_read q
  | .popTo j i (.cons a (.cons _ _)), st, h0, K, h => by cases st <;> cases h
  | .appPop j i idx, st, h0, K, h => by cases st <;> cases h
  | .expr a, st, h0, K, h => by
    cases st <;> first | (cases h; done) | skip
    obtain ⟨h1, h2⟩ := and2 h
    exact (ps_expr (sndE a K.toCtxOk h2).pe (swaps_ok h1)).imp fun D σ H q => expr_read q
  | .ite t a b, st, h0, K, h => by cases h0
  | .for_ t it b, st, h0, K, h => by cases h0
  | .while_ t b, st, h0, K, h => by cases h0
  | .ret a, st, h0, K, h => by
    cases st <;> first | (cases h; done) | skip
    rename_i v pos
    cases v <;> first | (cases h; done) | skip
    exact (ps_ret (sndE a K.toCtxOk h).pe).imp fun D σ H q => ret_read q
  | .retN, st, h0, K, h => by
    cases st <;> first | (cases h; done) | skip
    rename_i v pos
    cases v <;> first | (cases h; done) | skip
    exact ps_retN.imp fun D σ H q => retN_read q
  | .retOwn i, st, h0, K, h => by
    cases st <;> first | (cases h; done) | skip
    rename_i v pos
    cases v <;> first | (cases h; done) | skip
    rename_i v
    cases v <;> first | (cases h; done) | skip
    exact (ps_ret (K.pv h)).imp fun D σ H q => retOwn_read q
  | .raise c as, st, h0, K, h => by cases h0
  | .tryLim f as c k, st, h0, K, h => by cases h0
  | .pass, st, h0, K, h => by
    cases st <;> first | (cases h; done) | skip
    exact ps_pass.imp fun D σ H ⟨G, S, C, sl, c, R, o⟩ => okr_ret.mp o S C σ H R (Up.refl _ _)
  | .brk, st, h0, K, h => by
    cases st <;> first | (cases h; done) | skip
    exact ps_break.imp fun D σ H ⟨G, S, C, sl, c, R, o⟩ => okr_ret.mp o S C σ H R (Up.refl _ _)
  | .cnt, st, h0, K, h => by
    cases st <;> first | (cases h; done) | skip
    exact ps_continue.imp fun D σ H ⟨G, S, C, sl, c, R, o⟩ => okr_ret.mp o S C σ H R (Up.refl _ _)

section
variable {Wx : WX}
/-- the class TooMany, where it stands -/
structure TmOk (X : Cx) (Ca : Addr) : Prop where
  mg : X.mg "TooMany" = some (.ref Ca)
  exm : PySem.W.exmOne X.K (.ref Ca) (.ref Ca) = some true
  xf : XfC X.K Ca
  hno : PySem.W.findIn X.K (.ref Ca) "limit" = some none
  mkE : ∀ {e : Expr} {p p2 : Pos} {m : Slots → M Val}, notStar e = true → Gl X "TooMany" → PE X e (TX m) → PMk X (.Call (.Name "TooMany" p) [e] [] p2) (tMkT Ca (TX m))
structure CtxY (P : Prog) (R : Nat → List W → M Val) (G : Gx) (s : Sx) (Wx : WX) (X : Cx) : Prop extends CtxS P R G s X where
  tk : Takes X Wx
  stk : X.stack = X.env :: X.outer
  frm : X.env.frame = some X.env.locals
  tm : G.tm = true → ∃ Ca, tmOf X.mg = some Ca ∧ TmOk X Ca
theorem CtxOk.tr {pn : List (Addr × Obj)} {xe : Value → Shared → Prop} (h : CtxOk P R G s X) : CtxOk P R G s (X.tr pn xe) := ⟨h.calm, h.N, h.nd, h.sc, h.fn, h.units, h.blt, h.const, h.call⟩
mutual
theorem sndY : ∀ (a : S) {st : Stmt}, CtxY P R G s Wx X → chkS G s a st = true → PS X st (TSy (EXQ (tmOf X.mg) Wx) (exS P F R a))
  | .ite t a b, st, K, h => by
    cases st <;> first | (cases h; done) | skip
    obtain ⟨h1, h4⟩ := and2 h
    obtain ⟨h1, h3⟩ := and2 h1
    obtain ⟨h1, h2⟩ := and2 h1
    exact (ps_if ((sndE t K.toCtxOk h2).pt h1) (sndYs a K h3) (sndYs b K h4)).imp fun D σ H q => if_ready (fun sl => nx_evE P R t sl) q
  | .for_ t it b, st, K, h => by
    cases st <;> first | (cases h; done) | skip
    rename_i tg iter body orelse pos
    cases orelse <;> first | (cases h; done) | skip
    obtain ⟨h1, h4⟩ := and2 h
    obtain ⟨h1, h3⟩ := and2 h1
    obtain ⟨h1, h2⟩ := and2 h1
    exact (ps_for K.own K.calm (sndW it K.toCtxOk h2 true) (K.tg h3) (sndYs b K h4) (folded_ok h1)).imp fun D σ H q => for_ready (fun sl => nx_evIt P R it true sl) q
  | .while_ t b, st, K, h => by
    cases st <;> first | (cases h; done) | skip
    rename_i c body orelse pos
    cases orelse <;> first | (cases h; done) | skip
    obtain ⟨h1, h3⟩ := and2 h
    obtain ⟨h1, h2⟩ := and2 h1
    exact (ps_while K.own ((sndE t K.toCtxOk h2).pt h1) (sndYs b K h3)).imp fun D σ H q => while_ready (fun sl => nx_bnd (nx_evE P R t sl) fun v => nx_truth v) q
  | .raise c as, st, K, h => by
    by_cases hc : c = 15
    · subst hc
      rcases as with _ | ⟨a, _ | ⟨b, r⟩⟩
      · cases st <;> first | (cases h; done) | exact absurd (show decide ((15 : Nat) ≠ 15) = true from h) (by decide)
      case cons.cons => cases st <;> first | (cases h; done) | exact absurd (show decide ((15 : Nat) ≠ 15) = true from h) (by decide)
      cases st <;> first | (cases h; done) | skip
      rename_i ex ca pos
      rcases ex with _ | ex <;> first | (exact absurd (show decide ((15 : Nat) ≠ 15) = true from h) (by decide)) | skip
      cases ex <;> first | (exact absurd (show decide ((15 : Nat) ≠ 15) = true from h) (by decide)) | skip
      rename_i fe es kws p2
      cases fe <;> first | (exact absurd (show decide ((15 : Nat) ≠ 15) = true from h) (by decide)) | skip
      rename_i x p
      rcases es with _ | ⟨e, _ | ⟨e2, es⟩⟩ <;> first | (exact absurd (show decide ((15 : Nat) ≠ 15) = true from h) (by decide)) | skip
      rcases kws with _ | ⟨kw, kws⟩ <;> first | (exact absurd (show decide ((15 : Nat) ≠ 15) = true from h) (by decide)) | skip
      rcases ca with _ | ca <;> first | (exact absurd (show decide ((15 : Nat) ≠ 15) = true from h) (by decide)) | skip
      have h : (G.tm && decide (x = "TooMany") && glB s x && notStar e && chkE G s a e) = true := h
      obtain ⟨h1, h5⟩ := and2 h
      obtain ⟨h1, h4⟩ := and2 h1
      obtain ⟨h1, h3⟩ := and2 h1
      obtain ⟨g1, h2⟩ := and2 h1
      have hx := of_decide_eq_true h2
      subst hx
      obtain ⟨Ca, et, T⟩ := K.tm g1
      refine (snd_raise (tm := tmOf X.mg) K.calm K.tk et (fun sl => nx_evE P R a sl) (T.mkE h4 (K.gl h3).1 (sndE a K.toCtxOk h5).pe)).imp fun D σ H q => ?_
      have e9 : (fun sl => exS P F R (.raise 15 (.cons a .nil)) sl) = fun sl => evE P R a sl >>= fun v => keepM v >>= fun w => throwF ⟨15, some w⟩ := by
        funext sl c
        show (M.bnd (M.bnd (evE P R a sl) fun v => M.bnd (keepM v) fun w => M.bnd (M.ret []) fun ws => M.ret (w :: ws)) fun ws => throwF ⟨15, ws.head?⟩) c = M.bnd (evE P R a sl) (fun v => M.bnd (keepM v) fun w => throwF ⟨15, some w⟩) c
        unfold M.bnd
        cases evE P R a sl c with
        | ok v c1 => cases v <;> rfl
        | exc _ _ => rfl
        | stuck => rfl
      exact (congrArg (fun m => TSy (EXQ (tmOf X.mg) Wx) m D σ H) e9) ▸ q
    · exact ps_never.imp fun D σ H ⟨G, S, C, sl, c1, R1, o⟩ => by
        obtain ⟨ws, c2, _, o1⟩ := (okx_nxb (nx_evEs P R as sl) o).get
        obtain ⟨i, Ca, e1, _⟩ := (okx_throwF o1)
        injection e1 with e1 _
        exact hc e1
  | .tryLim f as c k, st, K, h => by
    cases k <;> first | (cases st <;> cases h; done) | skip
    rename_i w
    cases w <;> first | (cases st <;> cases h; done) | skip
    rename_i lim
    cases st <;> first | (cases h; done) | skip
    rename_i body hds orelse fin pos
    rcases body with _ | ⟨b, _ | ⟨b2, bs⟩⟩ <;> first | (cases h; done) | (cases b <;> first | (cases h; done) | skip)
    case cons.cons.Expr => rename_i v _; cases v <;> first | (cases h; done) | (rename_i fe es kws _; cases fe <;> first | (cases h; done) | (cases es <;> first | (cases h; done) | (cases kws <;> cases h)))
    rename_i v p2
    cases v <;> first | (cases h; done) | skip
    rename_i fe es kws p1
    cases fe <;> first | (cases h; done) | skip
    rename_i x p
    rcases es with _ | ⟨e, es⟩ <;> first | (cases h; done) | skip
    rcases kws with _ | ⟨kw, kws⟩ <;> first | (cases h; done) | skip
    rcases hds with _ | ⟨hd, hds⟩ <;> first | (cases h; done) | skip
    rcases hd with ⟨ty, nm, hb, pos'⟩
    rcases ty with _ | ty <;> first | (cases h; done) | skip
    cases ty <;> first | (cases h; done) | skip
    rename_i cn np
    rcases nm with _ | n <;> first | (cases h; done) | skip
    rcases hb with _ | ⟨r1, rs⟩ <;> first | (cases h; done) | skip
    cases r1 <;> first | (cases h; done) | skip
    rename_i rv p7
    rcases rv with _ | rv <;> first | (cases h; done) | skip
    cases rv <;> first | (cases h; done) | skip
    rename_i cl ops cs p6
    cases cl <;> first | (cases h; done) | skip
    rename_i cb at_ p4
    cases cb <;> first | (cases h; done) | skip
    rename_i n2 p3
    rcases ops with _ | ⟨op, _ | ⟨op2, ops⟩⟩ <;> first | (cases h; done) | (cases op <;> first | (cases h; done) | skip)
    rcases cs with _ | ⟨cv, cs⟩ <;> first | (cases h; done) | skip
    cases cv <;> first | (cases h; done) | skip
    rename_i cc j p5
    cases cc <;> first | (cases h; done) | skip
    rename_i l2
    rcases cs with _ | ⟨cv2, cs⟩ <;> first | (cases h; done) | skip
    rcases rs with _ | ⟨r2, rs⟩ <;> first | (cases h; done) | skip
    rcases hds with _ | ⟨hd2, hds⟩ <;> first | (cases h; done) | skip
    rcases orelse with _ | ⟨o1, orelse⟩ <;> first | (cases h; done) | skip
    rcases fin with _ | ⟨o1, fin⟩ <;> first | (cases h; done) | skip
    have h : ((match G.fns[f]? with
      | some (y, np) => decide (x = y) && glB s x
      | none => false) && decide (c = 15) && G.tm && decide (cn = "TooMany") && glB s cn && decide (n2 = n) && decide (at_ = "limit") && decide (l2 = lim) && isLocal s n && nmB s (s.N.idxOf n) n && (e :: es).all notStar && chkEs G s as (e :: es)) = true := h
    obtain ⟨h1, k12⟩ := and2 h
    obtain ⟨h1, k11⟩ := and2 h1
    obtain ⟨h1, k10⟩ := and2 h1
    obtain ⟨h1, k9⟩ := and2 h1
    obtain ⟨h1, k8⟩ := and2 h1
    obtain ⟨h1, k7⟩ := and2 h1
    obtain ⟨h1, k6⟩ := and2 h1
    obtain ⟨h1, k5⟩ := and2 h1
    obtain ⟨h1, k4⟩ := and2 h1
    obtain ⟨h1, k3⟩ := and2 h1
    obtain ⟨k1, k2⟩ := and2 h1
    have q2 := of_decide_eq_true k2
    have q4 := of_decide_eq_true k4
    have q6 := of_decide_eq_true k6
    have q7 := of_decide_eq_true k7
    have q8 := of_decide_eq_true k8
    subst q2 q4 q6 q7 q8
    cases hf : G.fns[f]? with
    | none => rw [hf] at k1; cases k1
    | some fn =>
      rw [hf] at k1
      obtain ⟨y, np2⟩ := fn
      obtain ⟨z1, z2⟩ := and2 k1
      have qx := of_decide_eq_true z1
      subst qx
      obtain ⟨k, fa, fd, ps, F1, hr, hm, hk, hb, hl⟩ := K.call f x np2 hf
      obtain ⟨g1, d1⟩ := K.gl z2
      obtain ⟨gc, dc⟩ := K.gl k5
      obtain ⟨Ca, et, T⟩ := K.tm k3
      obtain ⟨m1, m2, m3, m4⟩ := K.nm k10
      rw [et] at F1
      exact snd_try K.stk K.frm (by rw [K.N]; exact K.nd) m1 (K.toCtxOk.loc k9) ⟨gc, dc, .inl T.mg⟩ T.exm T.xf T.hno K.units F1 hr g1 hm hk hb hl d1 k11 (fun sl => nx_evEs P R as sl) (fun pn xe => sndK as K.toCtxOk.tr k12) m3 m4
  | .set i e, st, K, h => (sndS (F := F) (.set i e) rfl K.toCtxS h).imp fun D σ H q => tsy_tsx (fun sl => nx_simple P R F _ sl rfl) q
  | .setOwn i e, st, K, h => (sndS (F := F) (.setOwn i e) rfl K.toCtxS h).imp fun D σ H q => tsy_tsx (fun sl => nx_simple P R F _ sl rfl) q
  | .setCell i e, st, K, h => (sndS (F := F) (.setCell i e) rfl K.toCtxS h).imp fun D σ H q => tsy_tsx (fun sl => nx_simple P R F _ sl rfl) q
  | .frz i, st, K, h => (sndS (F := F) (.frz i) rfl K.toCtxS h).imp fun D σ H q => tsy_tsx (fun sl => nx_simple P R F _ sl rfl) q
  | .unpack l e, st, K, h => (sndS (F := F) (.unpack l e) rfl K.toCtxS h).imp fun D σ H q => tsy_tsx (fun sl => nx_simple P R F _ sl rfl) q
  | .par l es, st, K, h => (sndS (F := F) (.par l es) rfl K.toCtxS h).imp fun D σ H q => tsy_tsx (fun sl => nx_simple P R F _ sl rfl) q
  | .setIt i j e, st, K, h => (sndS (F := F) (.setIt i j e) rfl K.toCtxS h).imp fun D σ H q => tsy_tsx (fun sl => nx_simple P R F _ sl rfl) q
  | .dput i k e, st, K, h => (sndS (F := F) (.dput i k e) rfl K.toCtxS h).imp fun D σ H q => tsy_tsx (fun sl => nx_simple P R F _ sl rfl) q
  | .app i e, st, K, h => (sndS (F := F) (.app i e) rfl K.toCtxS h).imp fun D σ H q => tsy_tsx (fun sl => nx_simple P R F _ sl rfl) q
  | .popTo j i idx, st, K, h => (sndS (F := F) (.popTo j i idx) rfl K.toCtxS h).imp fun D σ H q => tsy_tsx (fun sl => nx_simple P R F _ sl rfl) q
  | .appPop j i idx, st, K, h => (sndS (F := F) (.appPop j i idx) rfl K.toCtxS h).imp fun D σ H q => tsy_tsx (fun sl => nx_simple P R F _ sl rfl) q
  | .expr e, st, K, h => (sndS (F := F) (.expr e) rfl K.toCtxS h).imp fun D σ H q => tsy_tsx (fun sl => nx_simple P R F _ sl rfl) q
  | .ret e, st, K, h => (sndS (F := F) (.ret e) rfl K.toCtxS h).imp fun D σ H q => tsy_tsx (fun sl => nx_simple P R F _ sl rfl) q
  | .retN, st, K, h => (sndS (F := F) .retN rfl K.toCtxS h).imp fun D σ H q => tsy_tsx (fun sl => nx_simple P R F _ sl rfl) q
  | .retOwn i, st, K, h => (sndS (F := F) (.retOwn i) rfl K.toCtxS h).imp fun D σ H q => tsy_tsx (fun sl => nx_simple P R F _ sl rfl) q
  | .pass, st, K, h => (sndS (F := F) .pass rfl K.toCtxS h).imp fun D σ H q => tsy_tsx (fun sl => nx_simple P R F _ sl rfl) q
  | .brk, st, K, h => (sndS (F := F) .brk rfl K.toCtxS h).imp fun D σ H q => tsy_tsx (fun sl => nx_simple P R F _ sl rfl) q
  | .cnt, st, K, h => (sndS (F := F) .cnt rfl K.toCtxS h).imp fun D σ H q => tsy_tsx (fun sl => nx_simple P R F _ sl rfl) q
theorem sndYs : ∀ (l : Ss) {sts : List Stmt}, CtxY P R G s Wx X → chkSs G s l sts = true → PSs X sts (TSy (EXQ (tmOf X.mg) Wx) (exSs P F R l))
  | .nil, sts, K, h => by
    cases sts <;> first | (cases h; done) | skip
    exact sy_nil
  | .cons a r, sts, K, h => by
    cases a <;> first
      | exact sy_frz (sndYs r K h)
      | (cases sts <;> first | (cases h; done) | (obtain ⟨h1, h2⟩ := and2 h; exact sy_cons (sndY _ K h1) (sndYs r K h2)))
end
end
end
end Cw

end
section
set_option Elab.async false
set_option linter.all false
set_option maxRecDepth 100000
/-! Cw3f: the defs of a module -/
namespace Cw
open PySem PySem.Spec PyProof.Rows L2

/-- a def: its name, its statement, its names in the order of the slots, its parameters -/
structure DefI where
  x : Str
  st : Stmt
  N : List Str
  ps : List Str
/-- a def's names and scope fit -/
def scopeB (N ps : List Str) (sc : Scope) : Bool :=
  (match sc.kind with
    | .function => true
    | _ => false) && !sc.isCoroutine && !sc.isGenerator && decide N.Nodup && decide (N.take ps.length = ps) && (ps.all fun x => match sc.names.lookup x with
    | some .local => true
    | some .cell => true
    | _ => false) && sc.names.all fun y => match y.2 with
    | .free => false
    | _ => true
theorem scope_ok {N ps : List Str} {sc : Scope} (h : scopeB N ps sc = true) : FnScope N ps sc := by
  unfold scopeB at h
  obtain ⟨h, h7⟩ := (Bool.and_eq_true _ _).mp h
  obtain ⟨h, h6⟩ := (Bool.and_eq_true _ _).mp h
  obtain ⟨h, h5⟩ := (Bool.and_eq_true _ _).mp h
  obtain ⟨h, h4⟩ := (Bool.and_eq_true _ _).mp h
  obtain ⟨h, h3⟩ := (Bool.and_eq_true _ _).mp h
  obtain ⟨h1, h2⟩ := (Bool.and_eq_true _ _).mp h
  refine ⟨?_, by simpa using h2, by simpa using h3, of_decide_eq_true h4, of_decide_eq_true h5, fun x hx => ?_, fun y hy e => ?_⟩
  · split at h1
    · assumption
    · cases h1
  · have q := List.all_eq_true.mp h6 x hx
    split at q
    · exact .inl (by assumption)
    · exact .inr (by assumption)
    · cases q
  · have q := List.all_eq_true.mp h7 y hy
    rw [e] at q
    cases q
def chkFn (G : Gx) (d : DefI) (fn : Fn) : Bool := chkSs G ⟨d.N, defScope d.st, none⟩ fn.body (defBody d.st) && decide (fn.ns = d.N.length) && decide (fn.np = d.ps.length) && scopeB d.N d.ps (defScope d.st)
theorem okx_same {m : M Val} {c : Cells} {Q : Val → Cells → Prop} {E : Exn → Cells → Prop} (h : OkX (sameCells m c) Q E) : OkX (m c) (fun v c' => (c'.length = c.length ∧ Q v c') ∨ (c = [] ∧ ∃ b, v = .w (.bl b) ∧ Q v [])) fun x c' => c'.length = c.length ∧ E x c' := by
  unfold sameCells at h
  cases e : m c with
  | stuck => rw [e] at h; exact h.elim
  | exc x c' =>
    rw [e] at h
    dsimp only at h
    by_cases hl : c'.length = c.length
    · rw [if_pos hl] at h
      exact ⟨hl, h⟩
    · rw [if_neg hl] at h
      exact h.elim
  | ok v c' =>
    rw [e] at h
    dsimp only at h
    by_cases hl : c'.length = c.length
    · rw [if_pos hl] at h
      exact .inl ⟨hl, h⟩
    · rw [if_neg hl] at h
      cases v <;> first | exact h.elim | skip
      rename_i w
      cases w <;> first | exact h.elim | skip
      cases c <;> first | exact h.elim | skip
      exact .inr ⟨rfl, _, rfl, h⟩
theorem OkX.imp2 {α : Type} {r : Res α} {Q Q' : α → Cells → Prop} {E E' : Exn → Cells → Prop} (h : OkX r Q E) (i : ∀ a c, Q a c → Q' a c) (j : ∀ x c, E x c → E' x c) : OkX r Q' E' := by
  cases r with
  | ok a c => exact i a c h
  | exc x c => exact j x c h
  | stuck => exact h
theorem start_rel {S : Kn} {C : List Addr} {c : Cells} {H : Hp} {ws : List W} {vs : List V} {N : List Str} {n : Nat} (B : Bs S C c H) (r : Reps S C ws vs) (hn : n = N.length) (hl : ws.length ≤ N.length) :
    Rel S C (ws.map .val ++ List.replicate (n - ws.length) .none) c (start N vs) H := by
  have hv := r.length
  refine ⟨B.sub, B.cells, ?_, fun i s e => ?_⟩
  · unfold L2.start
    simp only [List.length_append, List.length_map, List.length_replicate]
    omega
  · unfold L2.start
    by_cases hi : i < ws.length
    · rw [List.getElem?_append_left (by simpa using hi)] at e
      rw [List.getElem?_map, List.getElem?_eq_getElem hi] at e
      cases e
      obtain ⟨v, e1, e2⟩ := r.get (List.getElem?_eq_getElem hi)
      refine ⟨v, ?_, e2⟩
      rw [List.getElem?_append_left (by rw [List.length_map, hv]; exact hi), List.getElem?_map, e1]
      rfl
    · rw [List.getElem?_append_right (by simpa using Nat.le_of_not_lt hi)] at e
      have := List.mem_of_getElem? e
      rw [List.mem_replicate] at this
      rw [this.2]
      trivial
theorem start_own {ws : List W} {n : Nat} {i : Nat} {w : W} (e : (ws.map Slot.val ++ List.replicate n Slot.none)[i]? = some (.own w)) : False := by
  have := List.mem_of_getElem? e
  rcases List.mem_append.mp this with h | h
  · obtain ⟨a, _, h⟩ := List.mem_map.mp h
    cases h
  · rw [List.mem_replicate] at h
    cases h.2
section
variable {P : Prog} {F : Nat} {G : Gx} {Pg : Program} {w : World} {K : PySem.W.Frag} {mg : Str → Option Value} {base : Heap} {ds : List DefI}
/-- what the top has left -/
structure ModF (P : Prog) (G : Gx) (K : PySem.W.Frag) (mg : Str → Option Value) (ds : List DefI) : Prop where
  gfns : G.fns = ds.map fun d => (d.x, d.ps.length)
  def_ : ∀ (f : Nat) d, ds[f]? = some d → ∃ fa fd, L2.Fun K d.x d.x d.st fa fd ∧ mg d.x = some (.ref fa) ∧ L2.Binds K fd d.ps []
  chk : ∀ (f : Nat) d, ds[f]? = some d → ∃ fn, P.fns[f]? = some fn ∧ chkFn G d fn = true
  blt : ∀ b ∈ bltNames, mg b = none
  const : ∀ (g : Nat) x, G.consts[g]? = some x → ∃ w u, P.consts[g]? = some w ∧ mg x = some u ∧ RelW w u
/-- the one error that bears something: its class stands where a context looks -/
def TmAll (G : Gx) (Pg : Program) (w : World) (K : PySem.W.Frag) (mg : Str → Option Value) (base : Heap) : Prop := G.tm = true → ∃ Ca, tmOf mg = some Ca ∧ ∀ X : Cx, X.prog = Pg → X.w = w → X.K = K → X.mg = mg → X.base = base → X.calm = true → Room 3 X.A → TmOk X Ca
theorem fn_step (D : ModF P G K mg ds) (TA : TmAll G Pg w K mg base) {k f : Nat} {d : DefI} (hd : ds[f]? = some d) (ih : ∀ (f : Nat) d, ds[f]? = some d → ∀ fa fd, L2.Fun K d.x d.x d.st fa fd → FnOk Pg w K mg base (L2.CX Pg w) (k + 3) fa fd d.ps (spX (tmOf mg) (run P F k f) d.ps.length))
    {fa : Addr} {fd : FuncData} (Fn : L2.Fun K d.x d.x d.st fa fd) : FnOk Pg w K mg base (L2.CX Pg w) (k + 1 + 3) fa fd d.ps (spX (tmOf mg) (run P F (k + 1) f) d.ps.length) := by
  obtain ⟨fn, hf, hc⟩ := D.chk f d hd
  obtain ⟨h1, h4⟩ := and2 hc
  obtain ⟨h1, h3⟩ := and2 h1
  obtain ⟨h1, h2⟩ := and2 h1
  have S := scope_ok h4
  have hns := of_decide_eq_true h2
  have hnp := of_decide_eq_true h3
  refine Fn.okX S (fun vs H Q E h => by obtain ⟨_, _, _, _, _, _, h, _⟩ := h; exact h) fun cdv A outer s H vs Q E hr h => ?_
  obtain ⟨S0, C, c, ws, B, r, hl, o⟩ := h
  have hrun : run P F (k + 1) f ws = runFn P F (run P F k) fn ws := by
    show (match P.fns[f]? with
      | some fn => runFn P F (run P F k) fn ws
      | none => M.no) = _
    rw [hf]
  rw [hrun] at o
  have hpl : d.ps.length ≤ d.N.length := by
    have := congrArg List.length S.pre
    rw [List.length_take] at this
    omega
  have hwl : ws.length = fn.np := by rw [← r.length, hl, hnp]
  unfold runFn at o
  rw [if_pos hwl] at o
  have ctx : CtxY P (run P F k) G ⟨d.N, defScope d.st, none⟩ (fun cls d _ H' => E cls d H') (cxOf (L2.CX Pg w) Pg w K mg base d.N d.x (defScope d.st) fa cdv A outer s H E) := {
    calm := rfl
    N := rfl
    nd := S.nd
    sc := rfl
    fn := rfl
    units := by have := hr.un; show (A.deeper _).units + 65 < cLine; omega
    blt := D.blt
    const := D.const
    call := fun g x np hg => by
      rw [D.gfns, List.getElem?_map] at hg
      cases hd2 : ds[g]? with
      | none => rw [hd2] at hg; cases hg
      | some d2 =>
        rw [hd2] at hg
        cases hg
        obtain ⟨fa2, fd2, F2, hm2, hb2⟩ := D.def_ g d2 hd2
        refine ⟨k + 3, fa2, fd2, d2.ps, ih g d2 hd2 fa2 fd2 F2, hr, hm2, F2.kp, hb2, fun ws c Q E q => ?_⟩
        obtain ⟨fn2, hf2, hc2⟩ := D.chk g d2 hd2
        obtain ⟨h1, _⟩ := and2 hc2
        obtain ⟨_, h3⟩ := and2 h1
        have hnp2 := of_decide_eq_true h3
        cases k with
        | zero => exact q.elim
        | succ k =>
          have e : run P F (k + 1) g ws = runFn P F (run P F k) fn2 ws := by
            show (match P.fns[g]? with
              | some fn => runFn P F (run P F k) fn ws
              | none => M.no) = _
            rw [hf2]
          rw [e] at q
          unfold runFn at q
          by_cases hw : ws.length = fn2.np
          · rw [hw, hnp2]
          · rw [if_neg hw] at q
            exact q.elim
    kind := S.kind
    own := passes_of (X := cxOf (L2.CX Pg w) Pg w K mg base d.N d.x (defScope d.st) fa cdv A outer s H E) rfl
    tk := takes_of (X := cxOf (L2.CX Pg w) Pg w K mg base d.N d.x (defScope d.st) fa cdv A outer s H E) rfl rfl rfl rfl
    stk := rfl
    frm := rfl
    tm := fun ht => by
      obtain ⟨Ca, e1, e2⟩ := TA ht
      exact ⟨Ca, e1, e2 _ rfl rfl rfl rfl rfl rfl (hr.mono (by omega))⟩ }
  refine ⟨_, sndYs (F := F) fn.body ctx h1, ⟨S0, C, H⟩, S0, C, ws.map Slot.val ++ List.replicate (fn.ns - fn.np) Slot.none, c, ?_, ?_⟩
  · rw [← hwl]
    refine ⟨start_rel B r hns (by omega), Le.refl _, fun b hb => .inl hb, fun b u hb _ => hb, fun b hb => hb, ⟨[], by simp⟩, fun p hp hn => absurd hp hn, fun i w p e _ => (start_own e).elim, fun i j w u p e _ _ _ => (start_own e).elim⟩
  · -- the end
    have len : ∀ {S' : Kn} {C' : List Addr} {c2 : Cells} {H' : Hp}, FinS ⟨S0, C, H⟩ S' C' c2 H' → c2.length = c.length → C' = C := by
      intro S' C' c2 H' fs hlen
      obtain ⟨N, eN⟩ := fs.ext
      have eN : C' = C ++ N := eN
      have hN : N = [] := by
        have a1 := fs.cells.len
        have a2 := B.cells.len
        rw [eN, List.length_append] at a1
        exact List.length_eq_zero_iff.mp (by omega)
      subst hN
      rw [List.append_nil] at eN
      exact eN
    have fin : ∀ {v : Val} {c2 : Cells}, ((c2.length = c.length ∧ EndX S0 C H Q v c2) ∨ (c = [] ∧ ∃ b, v = .w (.bl b) ∧ EndX S0 C H Q v [])) → ∀ (S' : Kn) (C' : List Addr) (H' : Hp) (x : V), FinS ⟨S0, C, H⟩ S' C' c2 H' → VR S' C' H H' v x → Q x H' := by
      intro v c2 hq S' C' H' x fs vr
      have P1 : Post S0 C H S' H' := ⟨fs.le, fs.new, fs.fr, fs.dom, fs.sub⟩
      rcases hq with ⟨hlen, hq⟩ | ⟨hc0, b, hv, hq⟩
      · have eN := len fs hlen
        subst eN
        exact hq S' H' x P1 fs.cells vr
      · subst hc0 hv
        have hC : C = [] := List.length_eq_zero_iff.mp B.cells.len
        subst hC
        exact hq S' H' x P1 ⟨rfl, List.nodup_nil, by simp, fun n p L e => by simp at e⟩ (show x = V.bl b from vr)
    refine OkX.imp2 (okx_bnd.mp (okx_same o)) (fun out c1 q => ?_) fun x c1 q => ?_
    · cases out with
      | nx s2 =>
        intro S' C' σ' H' R _
        exact fin q S' C' H' .non R.fin rfl
      | rt v =>
        intro S' C' H' x fs vr
        exact fin q S' C' H' x fs vr
      | bk _ => exact q.elim
      | ct _ => exact q.elim
    · obtain ⟨hlen, i, Ca, e1, e2, q⟩ := q
      refine ⟨i, Ca, e1, e2, fun S' C' H' σ' d fs hd => ?_⟩
      have eN := len fs hlen
      subst eN
      exact q S' H' d ⟨fs.le, fs.new, fs.fr, fs.dom, fs.sub⟩ fs.cells hd
theorem fn_all (D : ModF P G K mg ds) (TA : TmAll G Pg w K mg base) : ∀ (k f : Nat) (d : DefI), ds[f]? = some d → ∀ fa fd, L2.Fun K d.x d.x d.st fa fd → FnOk Pg w K mg base (L2.CX Pg w) (k + 3) fa fd d.ps (spX (tmOf mg) (run P F k f) d.ps.length)
  | 0, f, d, hd, fa, fd, Fn => ⟨fun vs H Q E ⟨_, _, _, _, _, _, _, o⟩ => o.elim, fun A outer s H args us vs Q E _ _ _ _ ⟨_, _, _, _, _, _, _, o⟩ => o.elim⟩
  | k + 1, f, d, hd, fa, fd, Fn => fn_step D TA hd (fn_all D TA k) Fn
/-- the law's own promise, from a run of the small language -/
theorem law_sp {m : List W → M Val} {H : Hp} {a : Addr} {ns : List Int} (ho : Rd H a (.lst (ns.map V.int))) (h : m [.lst (ns.map .int)] [] = .ok (.w (.bl true)) []) : spF m 1 [.ref a] H (fun v _ => v = .bl true) fun _ _ _ => False := by
  refine ⟨fun b => if b = a then some (.lst (ns.map V.int)) else none, [], [], [.lst (ns.map .int)], ⟨fun b u e => ?_, ⟨rfl, List.nodup_nil, by simp, fun n p L e => by simp at e⟩⟩, ⟨.ref a, [], rfl, ⟨a, _, rfl, by simp, Reps.map_int ns⟩, rfl⟩, rfl, ?_⟩
  · by_cases hb : b = a
    · subst hb
      have e : (if b = b then some (HO.lst (ns.map V.int)) else none) = some u := e
      rw [if_pos rfl] at e
      cases e
      exact ho
    · have e : (if b = a then some (HO.lst (ns.map V.int)) else none) = some u := e
      rw [if_neg hb] at e
      cases e
  · rw [h]
    exact fun S' H' x P k r => r
end
def noLists (K : PySem.W.Frag) : Bool := K.all fun p => !(p.2.cls == .type "list")
end Cw

end
section
set_option Elab.async false
set_option linter.all false
set_option maxRecDepth 100000
/-! Cw3g: the end of a law -/
namespace Cw
open PySem PySem.Spec PyProof.Rows L2

/-- a def as the top leaves it -/
structure DefF (K : PySem.W.Frag) (x : Str) (st : Stmt) : Prop where
  ex : ∃ (fa : Addr) (fd : FuncData), PySem.W.nsIn K mainGlobals x = some (some (.ref fa)) ∧ L2.Fun K x x st fa fd
theorem DefF.mk2 {K : PySem.W.Frag} {x : Str} {st : Stmt} {fa : Addr} {od an : Option Addr} {sl : Array (Option Value)} {oc kV dc pm cd ct : Value}
    (a : PySem.W.nsIn K mainGlobals x = some (some (.ref fa))) (l : K.lookup fa = some ⟨oc, od, .func (PySem.W.fnOf x x (defArgs st) (defBody st) (defScope st) .none kV dc pm an cd ct), sl⟩) (c : PySem.W.codeIn K cd x = true) (k : PySem.W.keepIn K (.ref fa) = true) : DefF K x st :=
  ⟨fa, _, a, fun_mk l c k⟩
/-- a constant as the top leaves it -/
structure ConF (K : PySem.W.Frag) (x : Str) (w : W) : Prop where
  ex : ∃ u, PySem.W.nsIn K mainGlobals x = some (some u) ∧ RelW w u
theorem ConF.int {K : PySem.W.Frag} {x : Str} {i : Int} {t : Tok} (a : PySem.W.nsIn K mainGlobals x = some (some (.int i t))) : ConF K x (.int i) := ⟨_, a, ⟨t, rfl⟩⟩
theorem ConF.str {K : PySem.W.Frag} {x : Str} {s : List Nat} {z : Str} {t : Tok} (a : PySem.W.nsIn K mainGlobals x = some (some (.str z t))) (e : z = toS s) : ConF K x (.str s) := ⟨_, a, ⟨t, by rw [e]⟩⟩
/-- a list of facts about the places of two lists -/
inductive All2 {α β : Type} (p : α → β → Prop) : List α → List β → Prop where
  | nil : All2 p [] []
  | cons {a : α} {b : β} {l : List α} {m : List β} (h : p a b) (t : All2 p l m) : All2 p (a :: l) (b :: m)
theorem All2.get {α β : Type} {p : α → β → Prop} {l : List α} {m : List β} (h : All2 p l m) : ∀ {i : Nat} {a : α}, l[i]? = some a → ∃ b, m[i]? = some b ∧ p a b := by
  induction h with
  | nil => intro i a e; simp at e
  | cons h t ih =>
    intro i a e
    cases i with
    | zero => simp at e; subst e; exact ⟨_, rfl, h⟩
    | succ i => simpa using ih (by simpa using e)
inductive All1 {α : Type} (p : α → Prop) : List α → Prop where
  | nil : All1 p []
  | cons {a : α} {l : List α} (h : p a) (t : All1 p l) : All1 p (a :: l)
theorem All1.get {α : Type} {p : α → Prop} {l : List α} (h : All1 p l) : ∀ a ∈ l, p a := by
  induction h with
  | nil => simp
  | cons h t ih =>
    intro a m
    rcases List.mem_cons.mp m with m | m
    · rw [m]; exact h
    · exact ih a m
/-- the whole of what the top has left -/
theorem modF_mk {P : Prog} {G : Gx} {K : PySem.W.Frag} {mg : Str → Option Value} {ds : List DefI} {h : Heap} (X : K.In h) (Ns : h.Ns mainGlobals mg) (gfns : G.fns = ds.map fun d => (d.x, d.ps.length))
    (fns : All2 (fun d fn => chkFn G d fn = true ∧ DefF K d.x d.st ∧ ∀ (fa : Addr) (fd : FuncData), L2.Fun K d.x d.x d.st fa fd → L2.Binds K fd d.ps []) ds P.fns)
    (blt : All1 (fun b => PySem.W.nsIn K mainGlobals b = some none) bltNames)
    (con : All2 (fun x w => ConF K x w) G.consts P.consts) : ModF P G K mg ds where
  gfns := gfns
  def_ := fun f d hd => by
    obtain ⟨fn, _, _, ⟨fa, fd, a, F⟩, b⟩ := fns.get hd
    exact ⟨fa, fd, F, PySem.W.mg_of X Ns a, b fa fd F⟩
  chk := fun f d hd => by
    obtain ⟨fn, h1, h2, _⟩ := fns.get hd
    exact ⟨fn, h1, h2⟩
  blt := fun b hb => by
    exact PySem.W.mg_none_of X Ns (blt.get b hb)
  const := fun g x hx => by
    obtain ⟨w, h1, u, a, r⟩ := con.get hx
    exact ⟨w, u, h1, PySem.W.mg_of X Ns a, r⟩
/-- no list stands in what is written out -/
structure NoLst (K : PySem.W.Frag) : Prop where
  no : ∀ a o, K.lookup a = some o → o.cls ≠ .type "list"
theorem mem_at {β : Type} {a : Addr} {o : β} : ∀ {K : List (Addr × β)}, K.lookup a = some o → (a, o) ∈ K
  | [], e => by cases e
  | (b, u) :: K, e => by
    rw [List.lookup_cons] at e
    cases h : a == b with
    | true =>
      rw [h] at e
      cases e
      rw [eq_of_beq h]
      exact List.mem_cons_self
    | false =>
      rw [h] at e
      exact List.mem_cons_of_mem _ (mem_at e)
theorem noLst_of {K : PySem.W.Frag} (h : K.all (fun p => !(p.2.cls == .type "list")) = true) : NoLst K := ⟨fun a o e z => by
  have m := mem_at e
  have := List.all_eq_true.mp h _ m
  rw [z] at this
  cases this⟩
/-- the law, from a run -/
theorem law_of {K : PySem.W.Frag} {m : List W → M Val} (n : NoLst K) (h : ∀ ns : List Int, ns.length ≤ 63 → m [.lst (ns.map .int)] [] = .ok (.w (.bl true)) []) (H : Hp) (a : Addr) (ns : List Int) (hl : ns.length ≤ 63) (hS : SqL K H a (ns.map V.int)) :
    spF m 1 [.ref a] H (fun v _ => v = .bl true) fun _ _ _ => False := by
  rcases hS with hS | ⟨o, its, q, e, c, _⟩
  · exact law_sp hS (h ns hl)
  · exact absurd c (n.no a o e)
theorem end_of {P : Prog} {F k i : Nat} {G : Gx} {Pg : Program} {w : World} {K : PySem.W.Frag} {mg : Str → Option Value} {ds : List DefI} {h : Heap} {fa : Addr} {d : DefI} {x : Str} (X : K.In h) (Ns : h.Ns mainGlobals mg)
    (hfa : mg d.x = some (.ref fa)) (hd : ds[i]? = some d) (hps : d.ps = [x]) (gfns : G.fns = ds.map fun d => (d.x, d.ps.length))
    (hb : ∀ (fd : FuncData), L2.Fun K d.x d.x d.st fa fd → ∀ (s : Shared) (v : Value), BindsTo s fd ⟨[v], []⟩ [(x, v)])
    (fns : All2 (fun d fn => chkFn G d fn = true ∧ DefF K d.x d.st ∧ ∀ (fa : Addr) (fd : FuncData), L2.Fun K d.x d.x d.st fa fd → L2.Binds K fd d.ps []) ds P.fns)
    (blt : All1 (fun b => PySem.W.nsIn K mainGlobals b = some none) bltNames)
    (con : All2 (fun x w => ConF K x w) G.consts P.consts) (tm : ∀ base : Heap, K.In base → base.Ns mainGlobals mg → TmAll G Pg w K mg base) :
    ∃ fd : FuncData, (∀ (s : Shared) (u : Value), BindsTo s fd ⟨[u], []⟩ [(x, u)]) ∧ ∀ base : Heap, K.In base → base.Ns mainGlobals mg → FnOk Pg w K mg base (L2.CX Pg w) (k + 3) fa fd [x] (spF (run P F k i) 1) := by
  have D := modF_mk X Ns gfns fns blt con
  obtain ⟨fa2, fd, Fn, hm, _⟩ := D.def_ i d hd
  rw [hfa] at hm
  cases hm
  refine ⟨fd, hb fd Fn, fun base hb1 hb2 => ?_⟩
  have q := (fn_all (F := F) (Pg := Pg) (w := w) (base := base) D (tm base hb1 hb2) k i d hd fa fd Fn).imp fun _ _ _ _ z => spF_spX z
  rw [hps] at q
  exact q
theorem cx_no {P : Program} {w : World} {outer : List Env} {H : Hp} {s : Shared} {e : Value} {s' : Shared} (h : L2.CX P w outer H s (fun _ _ _ => False) e s') : False := by
  obtain ⟨_, _, _, _, _, _, _, _, _, _, _, _, z⟩ := h
  exact z
/-- a module without that class -/
theorem tmAll_no {G : Gx} {Pg : Program} {w : World} {K : PySem.W.Frag} {mg : Str → Option Value} {base : Heap} (h : G.tm = false) : TmAll G Pg w K mg base := fun e => by rw [h] at e; cases e
end Cw

end
section
set_option Elab.async false
set_option linter.all false
set_option maxRecDepth 100000
/-! Cw5f: TooMany(e), from what its __init__ does -/
namespace Cw
open PySem PySem.Spec PyProof.Rows L2
/-- the promise of TooMany.__init__ -/
def spI (C : Addr) : Sp := fun vs H Q _ => ∃ (a : Addr) (i : Int), vs = [.ref a, .int i] ∧ i.natAbs.log2 < 1920 ∧ H a = some (exo a C none) ∧ ∀ d, H d = none → d ≠ a → Q .non (upd (upd H d (exd d [("limit", .int i)])) a (exo a C (some d)))
theorem tx_mono {m : Slots → M Val} {σ : L2.St} {H : Hp} {Q Q' : V → Hp → Prop} (h : TX m σ H Q) (i : ∀ v H', Q v H' → Q' v H') : TX m σ H Q' := by
  obtain ⟨S, C, sl, c, R, h⟩ := h
  exact ⟨S, C, sl, c, R, h.imp fun v c1 q S1 H1 x P1 k1 r1 => i _ _ (q S1 H1 x P1 k1 r1)⟩
theorem tmk_of {X : Cx} {Ca fI : Addr} {k : Nat} {fd : FuncData} {e : Expr} {p p2 : Pos} {m : Slots → M Val} (T : OexC X.K Ca) (iC : PySem.W.findIn X.K (.ref Ca) "__init__" = some (some (.ref fI))) (tI : PySem.W.typeIn X.K (.ref fI) = some (.type "function"))
    (F1 : Mod X.K X.mg X.base → FnOk X.prog X.w X.K X.mg X.base (L2.CX X.prog X.w) k fI fd ["self", "limit"] (spI Ca)) (hr : Room (k + 1) X.A) (hb : Binds X.K fd ["self", "limit"] []) (hg : Gl X "TooMany") (hm : X.mg "TooMany" = some (.ref Ca)) (ns : notStar e = true) (he : PE X e (TX m)) :
    PMk X (.Call (.Name "TooMany" p) [e] [] p2) (tMkT Ca (TX m)) := by
  intro pins s σ H Q I h
  refine pmk_oex (x := "TooMany") (dvs := []) T iC tI (F1 I.ok.mod) hr hb .nil passL hg hm (pa_cons he pa_nil (star_cons ns)) (by decide) (star_cons ns) rfl pins s σ H Q I ?_
  show TX m σ H _
  refine tx_mono h fun v H1 ⟨i, ev, hlog, q⟩ => ?_
  subst ev
  show [V.int i].length ≤ 1000 ∧ _
  refine ⟨by simp, fun a ha => ⟨a, i, rfl, hlog, upd_same, fun d hd hda => ⟨rfl, d, [("limit", .int i)], upd_same, ?_, ?_, ?_⟩⟩⟩
  · rw [upd_ne hda, upd_same]
  · rw [upd_ne hda] at hd
    exact hd
  · rw [upd_ne hda] at hd
    refine q _ _ (fun b o hb => ?_) upd_same
    have nb : b ≠ d := fun z => by rw [z, hd] at hb; cases hb
    have na : b ≠ a := fun z => by rw [z, ha] at hb; cases hb
    rw [upd_ne nb, del_ne na, upd_ne na, upd_ne nb, upd_ne na]
    exact hb
end Cw

end
section
set_option Elab.async false
set_option linter.all false
set_option maxRecDepth 100000
/-! Cw5g: what TooMany.__init__ does: super().__init__("beyond " + str(limit)); self.limit = limit -/
namespace Cw
open PySem PySem.Spec PyProof.Rows L2
/-- the text of that __init__ -/
def tmTextB : List Stmt → Bool
  | [.Expr (.Call (.Attribute (.Call (.Name s _) [] [] _) m pa) [.BinOp (.Constant (.str z) _ _) .Add (.Call (.Name f _) [.Name x _] [] _) _] [] pb) _, .Assign [.Attribute (.Name o _) a _] (.Name y _) _] =>
    decide (s = "super") && decide (m = "__init__") && decide (z.length ≤ 1000) && decide (f = "str") && decide (x = "limit") && decide (o = "self") && decide (a = "limit") && decide (y = "limit") && (pa.endLine == pb.line)
  | _ => false
theorem tmText {b : List Stmt} (h : tmTextB b = true) : ∃ p0 p1 p2 z k3 p3 p4 p5 p6 p7 p8 p9 q1 q2 q3 q4, z.length ≤ 1000 ∧ (p2.endLine == p8.line) = true ∧
    b = [.Expr (.Call (.Attribute (.Call (.Name "super" p0) [] [] p1) "__init__" p2) [.BinOp (.Constant (.str z) k3 p3) .Add (.Call (.Name "str" p4) [.Name "limit" p5] [] p6) p7] [] p8) p9, .Assign [.Attribute (.Name "self" q1) "limit" q2] (.Name "limit" q3) q4] := by
  unfold tmTextB at h
  split at h
  · obtain ⟨h, h9⟩ := and2 h
    obtain ⟨h, h8⟩ := and2 h
    obtain ⟨h, h7⟩ := and2 h
    obtain ⟨h, h6⟩ := and2 h
    obtain ⟨h, h5⟩ := and2 h
    obtain ⟨h, h4⟩ := and2 h
    obtain ⟨h, h3⟩ := and2 h
    obtain ⟨h1, h2⟩ := and2 h
    have h1 := of_decide_eq_true h1
    have h2 := of_decide_eq_true h2
    have h3 := of_decide_eq_true h3
    have h4 := of_decide_eq_true h4
    have h5 := of_decide_eq_true h5
    have h6 := of_decide_eq_true h6
    have h7 := of_decide_eq_true h7
    have h8 := of_decide_eq_true h8
    subst h1 h2 h4 h5 h6 h7 h8
    exact ⟨_, _, _, _, _, _, _, _, _, _, _, _, _, _, _, _, h3, h9, rfl⟩
  · cases h
/-- its scope -/
def tmScopeB (sc : Scope) : Bool := (match sc.kind with
    | .function => true
    | _ => false) && !sc.isCoroutine && !sc.isGenerator && (sc.names.all fun y => match y.2 with
    | .cell => false
    | _ => true) && decide (sc.names.lookup ("super" : Str) = some .globalImplicit) && decide (sc.names.lookup ("__class__" : Str) = some .free) && decide (sc.names.lookup ("str" : Str) = some .globalImplicit) &&
    decide (sc.names.lookup ("self" : Str) = some .local) && decide (sc.names.lookup ("limit" : Str) = some .local)
structure TmScope (sc : Scope) : Prop where
  kind : sc.kind = .function
  co : sc.isCoroutine = false
  gen : sc.isGenerator = false
  cell : ∀ x ∈ sc.names, x.2 ≠ .cell
  sup : sc.names.lookup ("super" : Str) = some .globalImplicit
  cls : sc.names.lookup ("__class__" : Str) = some .free
  str : sc.names.lookup ("str" : Str) = some .globalImplicit
  self : sc.names.lookup ("self" : Str) = some .local
  limit : sc.names.lookup ("limit" : Str) = some .local
theorem tmScope {sc : Scope} (h : tmScopeB sc = true) : TmScope sc := by
  unfold tmScopeB at h
  obtain ⟨h, h9⟩ := and2 h
  obtain ⟨h, h8⟩ := and2 h
  obtain ⟨h, h7⟩ := and2 h
  obtain ⟨h, h6⟩ := and2 h
  obtain ⟨h, h5⟩ := and2 h
  obtain ⟨h, h4⟩ := and2 h
  obtain ⟨h, h3⟩ := and2 h
  obtain ⟨h1, h2⟩ := and2 h
  refine ⟨?_, by simpa using h2, by simpa using h3, fun y hy e => ?_, of_decide_eq_true h5, of_decide_eq_true h6, of_decide_eq_true h7, of_decide_eq_true h8, of_decide_eq_true h9⟩
  · split at h1
    · assumption
    · cases h1
  · have q := List.all_eq_true.mp h4 y hy
    rw [e] at q
    cases q
/-- what the written part says of that class and of its __init__ -/
structure TmInit (prog : Program) (K : PySem.W.Frag) (C fI : Addr) (fd : FuncData) : Prop where
  ex : ∃ (oc : Value) (od : Option Addr) (osl : Array (Option Value)) (qual : Str) (st : Stmt) (dV kV doc pm : Value) (an : Option Addr) (cda cc : Addr) (ct : Value) (ccl cl : Value) (cdd cld : Option Addr) (ccs csl : Array (Option Value)) (vs : Array Value) (file : Str) (tf : Tok) (cd : ClassData),
    fd = PySem.W.ksFn "__init__" qual (defArgs st) (defBody st) (defScope st) dV kV doc pm an (.ref cda) ct cc ∧ K.lookup fI = some ⟨oc, od, .func fd, osl⟩ ∧ PySem.W.codeIn K (.ref cda) qual = true ∧
    tmTextB (defBody st) = true ∧ tmScopeB (defScope st) = true ∧ ((defArgs st).posonlyargs ++ (defArgs st).args).head?.map (·.arg) = some ("self" : Str) ∧
    K.lookup cda = some ⟨ccl, cdd, .fields vs, ccs⟩ ∧ vs[2]? = some (.str file tf) ∧ ((prog.main.file : Str) == file) = true ∧
    K.lookup cc = some ⟨cl, cld, .cell (some (.ref C)), csl⟩ ∧ PySem.W.clsIn K C = some cd
  sub : PySem.W.mroIn K C (.ref C) = some true
  sup : PySem.W.ks_superIn K C C "__init__" = some (some (.builtin "ValueError.__init__"))
  sB : PySem.W.subIn K (.ref C) (.type "ValueError") = some true
  ini : PySem.W.excInitIn K C [.type "ValueError", .type "Exception", .type "BaseException", .type "object"] "ValueError.__new__" = true
  no : PySem.W.findIn K (.ref C) "limit" = some none
  opq : PySem.W.nsIn K cStatics "thirdparty.any" = some none
  top : (prog.main.scope.names.lookup ("super" : Str)).isSome = false
theorem he_super {o : Expr} {name : Str} {apos pos : Pos} {args : List Expr} {env : Env} (hf : methodCallForm (args.length + ([] : List Keyword).length) (backTo pos (starEach args env)) (backToKw pos (keywordEach [] env)) = true) (hl : (apos.endLine == pos.line) = true) :
    eval (.Call (.Attribute o name apos) args [] pos) env = (do
      let ov ← attributeBase o name env (eval o env)
      standAt apos.atName
      let (f, first) ← holding [ov] (getMethod ov name (L2.plainOf o env))
      callWith pos f first (backTo pos (starEach args env)) []) := by
  rw [arm_eval_Call]
  refine bind_congr fun ov => bind_congr fun _ => ?_
  exact L2.mcall_line hf hl
theorem superAt {p0 p1 : Pos} {whole : Sem Value} {prog : Program} {w : World} {A : Around} {E : Value → Shared → Prop} {s : Shared} {body : List Stmt} {K : PySem.W.Frag} {mg : Str → Option Value} {base h₀ : Heap} {L : Addr} {m : Str → Option Value} {x C f cda cc : Addr} {ox : Obj} {odx : Option Obj} {news : List (Addr × Obj)}
    {q : Str} {scope : Scope} {fd : FuncData} {oc ccl cl : Value} {od cdd cld : Option Addr} {osl ccs csl : Array (Option Value)} {vs : Array Value} {file : Str} {tf : Tok} {cd : ClassData} {Q : Value → Shared → Prop} (M : Mod K mg base) (bk : ∀ b o, base.get? b = some o → h₀.get? b = some o) (S : TmScope scope)
    (F : Fr h₀ L s.heap m) (N : News h₀ L s.heap news) (hsup : mg "super" = none) (hf : K.lookup f = some ⟨oc, od, .func fd, osl⟩) (hp : (fd.params.posonlyargs ++ fd.params.args).head?.map (·.arg) = some ("self" : Str)) (hv : m "self" = some (.ref x)) (I : PySem.W.InstAt s.heap x ox C odx)
    (hcode : K.lookup cda = some ⟨ccl, cdd, .fields vs, ccs⟩) (hvs : vs[2]? = some (.str file tf)) (hfile : ((prog.main.file : Str) == file) = true) (hcell : K.lookup cc = some ⟨cl, cld, .cell (some (.ref C)), csl⟩) (hC : PySem.W.clsIn K C = some cd) (hsub : PySem.W.mroIn K C (.ref C) = some true)
    (htop : (prog.main.scope.names.lookup ("super" : Str)).isSome = false)
    (h : ∀ so h', Fr h₀ L h' m → News h₀ L h' ((so, PySem.W.ks_superObj C x C) :: news) → (∀ p ∈ news, p.1 < so) → Q (.ref so) { s with heap := h' }) :
    _root_.PySem.wpAt (model prog w) A (.func body (PySem.W.ksEnv q scope L f (.ref cda) cc)) (attributeBase (.Call (.Name "super" p0) [] [] p1) "__init__" (PySem.W.ksEnv q scope L f (.ref cda) cc) whole) Q E s := by
  obtain ⟨ar, har, hn⟩ := Option.map_eq_some_iff.mp hp
  have KX : K.In s.heap := M.kin.keeps fun b o e => F.keep b o (bk b o e)
  obtain ⟨oC, hC1, hC2⟩ : ∃ oC, s.heap.get? C = some oC ∧ oC.data = .cls cd := by
    unfold PySem.W.clsIn at hC
    split at hC
    · cases hC
      exact ⟨_, KX _ _ (by assumption), rfl⟩
    · cases hC
  obtain ⟨mb, b1, b2⟩ := M.blt
  obtain ⟨hh, g, d, t, os⟩ := s
  refine ks_wpAt_super_base (env := PySem.W.ksEnv q scope L f (.ref cda) cc) S.sup S.cls (by decide) rfl (KX _ _ hf) rfl har rfl (KX _ _ hcode) rfl hvs hfile htop ?_
  have g1 : Heap.Ns hh mainGlobals mg := M.glob.keeps fun b o e => F.keep b o (bk b o e)
  have g2 : Heap.Ns hh builtinsNs mb := b1.keeps fun b o e => F.keep b o (bk b o e)
  have e1 : mb "super" = some (.type "super") := (b2 _ (by decide)).trans (by first | rfl | kernel_rfl)
  refine PySem.W.ks_loadName_global (env := PySem.W.ksEnv q scope L f (.ref cda) cc) S.kind S.sup (Calls.loadGlobal_builtin (env := PySem.W.ksEnv q scope L f (.ref cda) cc) g1 hsup g2 e1 ⟨rfl, ?_⟩)
  refine wpAny_loadName_free (env := PySem.W.ksEnv q scope L f (.ref cda) cc) S.kind S.cls rfl ⟨_, KX _ _ hcell, rfl⟩ ?_
  refine wpAny_loadName_local (env := PySem.W.ksEnv q scope L f (.ref cda) cc) S.kind (by rw [hn]; exact S.self) F.ns (by rw [hn]; exact hv) ?_
  refine ks_wpAny_isType_cls hC1 hC2 ⟨rfl, ?_⟩
  refine ks_wpAny_call_super hC1 hC2 I.at_ I.cls (fun c e => ?_) (PySem.W.looks_mroIn KX hsub) (fun h' e k => ?_)
  · have z := I.no
    unfold PySem.W.notCls at z
    rw [e] at z
    cases z
  · obtain ⟨F', N', l'⟩ := PySem.W.ks_newsPush (s := ⟨hh, g, d, t, os⟩) F N rfl e k
    exact h _ _ F' N' l'
theorem fn_tmInit {prog : Program} {w : World} {K : PySem.W.Frag} {mg : Str → Option Value} {base : Heap} {CX : CXT} {C fI : Addr} {fd : FuncData} (M : Mod K mg base) (T : OexC K C) (J : TmInit prog K C fI fd) (hsup : mg "super" = none) (hstr : mg "str" = none) :
    FnOk prog w K mg base CX 1 fI fd ["self", "limit"] (spI C) := by
  refine ⟨fun vs H Q E ⟨a, i, e, _⟩ => by rw [e]; rfl, fun A outer s H args us vs Q E hr e0 hb r hsp => ?_⟩
  obtain ⟨a, i, rfl, hlog, ha, hq⟩ := hsp
  obtain ⟨u0, us1, rfl, r1, r2⟩ : ∃ u0 us1, us = u0 :: us1 ∧ RelV (.ref a) u0 ∧ Vals [.int i] us1 := by
    cases r with
    | cons r1 r2 => exact ⟨_, _, rfl, r1, r2⟩
  obtain ⟨u1, rfl, t0, rfl⟩ := vals1 r2
  obtain rfl : u0 = Value.ref a := r1
  obtain ⟨oc, od, osl, qual, st, dV, kV, doc, pm, an, cda, cc, ct, ccl, cl, cdd, cld, ccs, csl, vs, file, tf, cd, rfl, lk, hcd, ht, hsc, hself, lcda, hvs, hfile, lcc, hcls⟩ := J.ex
  have S := tmScope hsc
  obtain ⟨p0, p1, p2, z, k3, p3, p4, p5, p6, p7, p8, p9, q1, q2, q3, q4, hz, hline, hbody⟩ := tmText ht
  have bs : ∀ b o, base.get? b = some o → s.heap.get? b = some o := fun b o e => (e0.bs b o e).1
  have KX : K.In s.heap := M.kin.keeps bs
  obtain ⟨t1, hoa⟩ := exo_at e0.hok ha
  have bk : ∀ b o, base.get? b = some o → (s.heap.hide a).get? b = some o := fun b o e => by
    have nb : b ≠ a := fun y => by
      have z := (e0.bs b o e).2
      rw [y, ha] at z
      cases z
    rw [Heap.hide_ne _ nb]
    exact bs b o e
  refine ks_codeAny_call_defAt (fd := PySem.W.ksFn "__init__" qual (defArgs st) (defBody st) (defScope st) dV kV doc pm an (.ref cda) ct cc) (body := defBody st) hr.depth (KX _ _ lk) rfl (M.nolimit.keeps bs) (PySem.W.codeRec_of KX hcd) rfl hb S.cell (fun y hy => ?_) (fun h₁ hns hk₁ => ?_) S.co S.gen S.kind
  · simp only [List.zip_cons_cons, List.zip_nil_left, List.mem_cons, List.not_mem_nil, or_false] at hy
    rcases hy with rfl | rfl
    · exact S.self
    · exact S.limit
  have hL : s.heap.objs.size ≠ a := Nat.ne_of_gt (Heap.lt_size hoa)
  have F : Fr (s.heap.hide a) s.heap.objs.size h₁ (fun x => ((["self", "limit"] : List Str).zip [Value.ref a, Value.int i t0]).reverse.lookup x) := ⟨hns, fun b o e => hk₁ b o (Heap.of_hide e), Nat.le_of_eq (Heap.hide_size _ _)⟩
  have N : News (s.heap.hide a) s.heap.objs.size h₁ [(a, PySem.W.excObj C t1 none .none)] := fun p hp => by
    rcases List.mem_cons.mp hp with rfl | hp
    · exact ⟨hk₁ _ _ hoa, hL.symm, Heap.hide_self _ _⟩
    · cases hp
  have X₀ : K.In (s.heap.hide a) := M.kin.keeps bk
  rw [hbody]
  have I1 : PySem.W.InstAt h₁ a (PySem.W.excObj C t1 none .none) C none := PySem.W.InstAt.of_exc0 N (List.mem_cons_self ..)
  have notI : interactive (callEnv (PySem.W.ksFn "__init__" qual (defArgs st) (defBody st) (defScope st) dV kV doc pm an (.ref cda) ct cc) s.heap.objs.size fI) = false := by
    unfold interactive
    rw [show (callEnv (PySem.W.ksFn "__init__" qual (defArgs st) (defBody st) (defScope st) dV kV doc pm an (.ref cda) ct cc) s.heap.objs.size fI).scope.kind = .function from S.kind]
    rfl
  rw [hbody] at notI
  refine ks_wpAt_execs_cons (ks_wpAt_Expr_any (hi := notI) (ks_wpAt_MethodCall (he := he_super rfl hline) (superAt (m := fun x => ((["self", "limit"] : List Str).zip [Value.ref a, Value.int i t0]).reverse.lookup x) M bk S F N hsup lk hself rfl I1 lcda hvs hfile lcc hcls J.sub J.top fun so h2 F2 N2 l2 => ?_)))
  have I2 : PySem.W.InstAt h2 a (PySem.W.excObj C t1 none .none) C none := PySem.W.InstAt.of_exc0 N2 (List.mem_cons_of_mem _ (List.mem_cons_self ..))
  refine PySem.W.kxs_method PySem.W.kxs_ValueError F2 X₀ N2 (List.mem_cons_self ..) I2 J.opq J.sup J.sB (by decide) fun q h3 F3 N3 l3 => ?_
  refine PySem.W.kxs_callWith1 (i := "ValueError.__init__") (x := a) N3 (List.mem_cons_self ..) ?_
  refine Calls.spliced_cons (wpAny_BinOp (Calls.Constant_str ?_))
  obtain ⟨mb, b1, b2⟩ := M.blt
  have e1 : mb "str" = some (.type "str") := (b2 _ (by decide)).trans (by first | rfl | kernel_rfl)
  refine wpAny_Call_Name_kw (Calls.Name_function_global S.kind S.str (Calls.loadGlobal_builtin (M.glob.keeps fun b o e => F3.keep b o (bk b o e)) hstr (b1.keeps fun b o e => F3.keep b o (bk b o e)) e1 ?_))
  refine PyProof.Rows.callWith_type1 (Calls.spliced_cons (wpAny_Name (wpAny_loadName_local S.kind S.limit F3.ns rfl (Calls.spliced_nil ?_))))
  refine PySem.P.str_of_int hlog ?_
  refine PyProof.Rows.add_str (fun t' tk => ?_) (by have := PyProof.Rows.int_text_len_1921 hlog; rw [sizeLine_eq]; show z.length + (Str.ofString (toString i)).length ≤ _; omega)
  refine Calls.spliced_nil ⟨PySem.W.kxs_at N3 (List.mem_cons_self ..), ?_⟩
  have U : PySem.W.UpdF a (PySem.W.excObj C t1 none .none) [(q, PySem.W.kxs_mw "ValueError.__init__" a), (so, PySem.W.ks_superObj C a C), (a, PySem.W.excObj C t1 none .none)] (fun o' => [(q, PySem.W.kxs_mw "ValueError.__init__" a), (so, PySem.W.ks_superObj C a C), (a, o')]) :=
    .tail (Nat.ne_of_gt (l3 (a, _) (List.mem_cons_of_mem _ (List.mem_cons_self ..)))) (.tail (Nat.ne_of_gt (l2 (a, _) (List.mem_cons_self ..))) (.head fun p hp => nomatch hp))
  refine PySem.W.kxs_call F3 X₀ N3 PySem.F.excBase_ValueError J.ini (List.mem_cons_self ..) U (by rw [sizeLine_eq]; show 1 ≤ 16777216; omega) fun t2 h4 F4 N4 l4 => ?_
  -- self.limit = limit
  refine ks_wpAt_execs_cons (wpAt_of_wpAny (plainObj_wpAny_Assign_Attribute (wpAny_Name (wpAny_loadName_local S.kind S.limit F4.ns rfl (wpAny_Name (wpAny_loadName_local S.kind S.self F4.ns rfl ?_))))))
  have ha4 : h4.get? a = some (PySem.W.excObj C t2 none .none) := (N4 (a, _) (by simp)).1
  have KX4 : K.In h4 := X₀.keeps F4.keep
  obtain ⟨nm, qn, N', bs', bm, sn, sub, ab, col, dd, k0, k1, k2, k3', k5, hC, hbm⟩ := T.cls
  have hcl : PySem.W.clsIn K C = some { name := nm, bases := bs', mro := .ref C :: bm, ns := N', qualname := qn, hasDict := true, slotNames := sn, subclasses := sub, abstract := ab, collection := col, hasDel := false } := by unfold PySem.W.clsIn; rw [hC] <;> rfl
  refine PySem.W.set_plain KX4 (ox := PySem.W.excObj C t2 none .none) (od := none) ⟨ha4, rfl, rfl, True.intro⟩ T.sa ?_
  refine PySem.HandSPX.exc_osa KX4 ha4 hcl (show PySem.HandSPX.refsVE (.ref C :: bm) = true from hbm) rfl J.no (fun h5 tk' dx k dn dne hx hn => ?_)
  refine wpAt_of_wpAny (wpAny_execs_nil ?_)
  have hup : ∀ b o, b ≠ a → s.heap.get? b = some o → h5.get? b = some o := fun b o hb e => k b o hb (F4.keep b o (by rw [Heap.hide_ne _ hb]; exact e))
  have sz : s.heap.objs.size ≤ dx := Nat.le_trans (Nat.le_of_lt F4.ns.lt) dn
  have hnd : H dx = none := e0.hok.fresh sz
  have nd : ∀ {b : Addr} {o : Obj}, s.heap.get? b = some o → b ≠ dx := fun {b o} q => Nat.ne_of_lt (Nat.lt_of_lt_of_le (Heap.lt_size q) sz)
  have na : ∀ {b : Addr}, H b = none → b ≠ a := fun {b} n z => by
    rw [z, ha] at n
    cases n
  refine ⟨.non, upd (upd H dx (exd dx [("limit", .int i)])) a (exo a C (some dx)), rfl, e0.bare, ?_, ?_, rfl, hq dx hnd dne⟩
  · exact {
      keep := fun b o q n _ _ => hup b o (na n) q
      slot := fun b o q n _ _ => ⟨o.slots, hup b o (na n) q⟩
      free := fun b o q n _ => by rw [upd_ne (na n), upd_ne (nd q)]; exact n
      there := fun b o q _ => by
        by_cases hb : b = a
        · exact ⟨_, by rw [hb]; exact hx⟩
        · exact ⟨o, hup b o hb q⟩
      tups := fun b xs q => by rw [upd_ne (at_ne ha q exo_tup), upd_ne (ne_of_none q hnd)]; exact q
      frzs := fun b o v q => by rw [upd_ne (at_ne ha q exo_frz), upd_ne (ne_of_none q hnd)]; exact q
      tbls := fun b ps q => ⟨#[], by rw [upd_ne (at_ne ha q exo_tbl), upd_ne (ne_of_none q hnd), q]; simp⟩ }
  · intro b o q
    by_cases hb : b = a
    · subst hb
      rw [upd_same] at q
      cases q
      exact exo_ok hx
    · rw [upd_ne hb] at q
      by_cases hd : b = dx
      · subst hd
        rw [upd_same] at q
        cases q
        exact exd_ok hn (relO_put (fs := []) ⟨t0, rfl⟩ fun g => True.intro)
      · rw [upd_ne hd] at q
        refine (e0.hok b o q).stay (fun c v hc y => hup c v ?_ y) (fun c hc => ?_) fun c xs hc => ?_
        · rcases hc with hc | hc
          · rw [hc]
            exact hb
          · exact at_ne ha hc exo_own
        · rw [upd_ne (at_ne ha hc exo_own), upd_ne (ne_of_none hc hnd)]
          exact hc
        · rw [upd_ne (at_ne ha hc exo_tup), upd_ne (ne_of_none hc hnd)]
          exact hc
end Cw

end
section
set_option Elab.async false
set_option linter.all false
set_option maxRecDepth 100000
/-! Cw5h: the class TooMany as the top leaves it -/
namespace Cw
open PySem PySem.Spec PyProof.Rows L2
theorem tmAll_of {G : Gx} {Pg : Program} {w : World} {K : PySem.W.Frag} {mg : Str → Option Value} {base : Heap} {C fI cda cc N : Addr} {st : Stmt} {qual nm qn file : Str} {tf : Tok} {kV doc pm ct oc ccl cl : Value} {an od cdd cld dd : Option Addr} {osl ccs csl : Array (Option Value)} {vs : Array Value}
    {bs bm sub : List Value} {sn : List Str} {ab : Bool} {col : Option Bool} {k0 k1 k2 k3 k5 : Option Value} {cd : ClassData}
    (KX : K.In base) (Ns : base.Ns mainGlobals mg)
    (a : PySem.W.nsIn K mainGlobals "TooMany" = some (some (.ref C)))
    (i : PySem.W.findIn K (.ref C) "__init__" = some (some (.ref fI)))
    (l : K.lookup fI = some ⟨oc, od, .func (PySem.W.ksFn "__init__" qual (defArgs st) (defBody st) (defScope st) .none kV doc pm an (.ref cda) ct cc), osl⟩)
    (c : PySem.W.codeIn K (.ref cda) qual = true)
    (tI : PySem.W.typeIn K (.ref fI) = some (.type "function"))
    (lc : K.lookup cda = some ⟨ccl, cdd, .fields vs, ccs⟩)
    (lcc : K.lookup cc = some ⟨cl, cld, .cell (some (.ref C)), csl⟩)
    (cC : K.lookup C = some (excClassObj nm qn C N bs bm true sn sub ab col dd k0 k1 k2 k3 k5 "ValueError.__new__"))
    (hcd : PySem.W.clsIn K C = some cd)
    (sa : PySem.W.findIn K (.ref C) "__setattr__" = some (some (.builtin "object.__setattr__")))
    (exC : PySem.W.subIn K (.ref C) (.type "BaseException") = some true)
    (tyC : PySem.W.typeIn K (.ref C) = some (.type "type"))
    (kC : PySem.W.keepIn K (.ref C) = true)
    (ga : PySem.W.findIn K (.ref C) "__getattribute__" = some (some (.builtin "BaseException.__getattribute__")))
    (gg : PySem.W.findIn K (.ref C) "__getattr__" = some none)
    (hdC : PySem.W.hasDictIn K C = true)
    (sub1 : PySem.W.mroIn K C (.ref C) = some true)
    (sup : PySem.W.ks_superIn K C C "__init__" = some (some (.builtin "ValueError.__init__")))
    (sB : PySem.W.subIn K (.ref C) (.type "ValueError") = some true)
    (ini : PySem.W.excInitIn K C [.type "ValueError", .type "Exception", .type "BaseException", .type "object"] "ValueError.__new__" = true)
    (no : PySem.W.findIn K (.ref C) "limit" = some none)
    (opq : PySem.W.nsIn K cStatics "thirdparty.any" = some none)
    (ms : PySem.W.nsIn K mainGlobals "super" = some none) (mt : PySem.W.nsIn K mainGlobals "str" = some none)
    (hbm : PySem.HandSPX.refsVE bm = true)
    (b : ∀ us : List Value, us.length = 2 → bindArgs (PySem.W.ksFn "__init__" qual (defArgs st) (defBody st) (defScope st) .none kV doc pm an (.ref cda) ct cc) ⟨us, []⟩ = pure ((["self", "limit"] : List Str).zip us))
    (hvs : vs[2]? = some (.str file tf)) (hfile : ((Pg.main.file : Str) == file) = true)
    (tx : tmTextB (defBody st) = true) (sc : tmScopeB (defScope st) = true)
    (hself : ((defArgs st).posonlyargs ++ (defArgs st).args).head?.map (·.arg) = some ("self" : Str))
    (top : (Pg.main.scope.names.lookup ("super" : Str)).isSome = false) : TmAll G Pg w K mg base := by
  intro _
  have hm : mg "TooMany" = some (.ref C) := PySem.W.mg_of KX Ns a
  refine ⟨C, by unfold tmOf; rw [hm], fun X e1 e2 e3 e4 e5 hc hr => ?_⟩
  subst e1 e2 e3 e4 e5
  have T : OexC X.K C := ⟨⟨nm, qn, N, bs, bm, sn, sub, ab, col, dd, k0, k1, k2, k3, k5, cC, hbm⟩, sa, exC, tyC, kC⟩
  have J : TmInit X.prog X.K C fI (PySem.W.ksFn "__init__" qual (defArgs st) (defBody st) (defScope st) .none kV doc pm an (.ref cda) ct cc) := {
    ex := ⟨oc, od, osl, qual, st, .none, kV, doc, pm, an, cda, cc, ct, ccl, cl, cdd, cld, ccs, csl, vs, file, tf, cd, rfl, l, c, tx, sc, hself, lc, hvs, hfile, lcc, hcd⟩
    sub := sub1
    sup := sup
    sB := sB
    ini := ini
    no := no
    opq := opq
    top := top }
  exact {
    mg := hm
    exm := PySem.W.exm_ref exC hdC tyC sub1
    xf := ⟨ga, gg, exC, hdC⟩
    hno := no
    mkE := fun {e p p2 m} ns hg he => tmk_of T i tI (fun M => fn_tmInit M T J (PySem.W.mg_none_of KX Ns ms) (PySem.W.mg_none_of KX Ns mt)) (hr.mono (by omega)) (.all b) hg hm ns he }
end Cw

end
section
set_option linter.all false
/-! Cy0: running the small language by simp; loops by their bodies -/
namespace Cw
def Res.andThen {α β : Type} : Res α → (α → Cells → Res β) → Res β
  | .ok a c, f => f a c
  | .exc x c, _ => .exc x c
  | .stuck, _ => .stuck
section
variable {α β : Type} {c c' : Cells} {a : α} {m : M α} {f : α → M β} {g : α → Cells → Res β}
@[simp] theorem bind_run : (m >>= f) c = (m c).andThen fun a c' => f a c' := by
  show M.bnd m f c = _
  unfold M.bnd
  cases m c <;> rfl
theorem then_congr {x y : Res α} (h : x = y) : x.andThen g = y.andThen g := by rw [h]
@[simp] theorem then_ok : (Res.ok a c).andThen g = g a c := rfl
@[simp] theorem then_exc {x : Exn} : (Res.exc x c : Res α).andThen g = .exc x c := rfl
@[simp] theorem then_stuck : (Res.stuck : Res α).andThen g = .stuck := rfl
@[simp] theorem then_ite {b : Prop} [Decidable b] {x y : Res α} : (if b then x else y).andThen g = if b then x.andThen g else y.andThen g := by split <;> rfl
@[simp] theorem pure_run : (pure a : M α) c = .ok a c := rfl
@[simp] theorem lift_some : M.lift (some a) c = .ok a c := rfl
@[simp] theorem lift_none : M.lift (none : Option α) c = .stuck := rfl
@[simp] theorem lift_ite {b : Prop} [Decidable b] {x y : Option α} : M.lift (if b then x else y) c = if b then M.lift x c else M.lift y c := by split <;> rfl
@[simp] theorem no_run : (M.no : M α) c = .stuck := rfl
@[simp] theorem throw_run {x : Exn} : (M.throw x : M α) c = .exc x c := rfl
@[simp] theorem ite_run {b : Prop} [Decidable b] {m n : M α} : (if b then m else n) c = if b then m c else n c := by split <;> rfl
/-- no error may come -/
def _root_.Cw.Res.noX {α : Type} : Res α → Res α
  | .exc _ _ => .stuck
  | r => r
theorem noExc_run {m : M α} : noExc m c = (m c).noX := by
  unfold noExc Res.noX
  cases m c <;> rfl
@[simp] theorem noX_ok : (Res.ok a c).noX = .ok a c := rfl
@[simp] theorem noX_stuck : (Res.stuck : Res α).noX = .stuck := rfl
@[simp] theorem noX_ite {b : Prop} [Decidable b] {x y : Res α} : (if b then x else y).noX = if b then x.noX else y.noX := by split <;> rfl
@[simp] theorem keepM_w {w : W} : keepM (.w w) c = .ok w c := rfl
@[simp] theorem keepM_own {w : W} : keepM (.own w) c = .ok w c := rfl
@[simp] theorem truthM_bl {b : Bool} : truthM (.w (.bl b)) c = .ok b c := rfl
@[simp] theorem truthM_int {i : Int} : truthM (.w (.int i)) c = .ok (i != 0) c := rfl
@[simp] theorem truthM_non : truthM (.w .non) c = .ok false c := rfl
@[simp] theorem get_w {w : W} : (Val.w w).get = w := rfl
@[simp] theorem get_own {w : W} : (Val.own w).get = w := rfl
@[simp] theorem get_bor {w : W} : (Val.bor w).get = w := rfl
@[simp] theorem outM_rt {v : Val} : outM (.rt v) c = .ok v c := rfl
@[simp] theorem outM_nx {s : Slots} : outM (.nx s) c = .ok (.w .non) c := rfl
end
/-! ### operators -/
section
variable {i j : Int} {a b : List Nat} {x y : List W} {w : W} {p q : Bool}
@[simp] theorem b_addI : binop .add (.int i) (.int j) = some (.w (.int (i + j))) := rfl
@[simp] theorem b_subI : binop .sub (.int i) (.int j) = some (.w (.int (i - j))) := rfl
theorem b_mulI (h : i.natAbs < 18446744073709551616 ∨ j.natAbs < 18446744073709551616) : binop .mul (.int i) (.int j) = some (.w (.int (i * j))) := if_pos h
theorem b_powI (h : 0 ≤ j) (h2 : j ≤ 1000000) (h3 : i.natAbs < 18446744073709551616) : binop .pow (.int i) (.int j) = some (.w (.int (i ^ j.toNat))) := if_pos ⟨h, h2, h3⟩
theorem b_fdivI (h : 0 < j) (h2 : j < 1073741824) : binop .fdiv (.int i) (.int j) = some (.w (.int (i / j))) := if_pos ⟨h, h2⟩
theorem b_modI (h : 0 < j) : binop .mod (.int i) (.int j) = some (.w (.int (i % j))) := if_pos h
theorem b_addS (h : a.length + b.length ≤ sizeL) : binop .add (.str a) (.str b) = some (.w (.str (a ++ b))) := if_pos h
theorem b_addT (h : x.length + y.length ≤ sizeL) : binop .add (.tup x) (.tup y) = some (.w (.tup (x ++ y))) := if_pos h
theorem b_addL (h : x.length + y.length ≤ sizeL) : binop .add (.lst x) (.lst y) = some (.own (.lst (x ++ y))) := if_pos h
@[simp] theorem c_eqI : cmpop .eq (.int i) (.int j) = some (i == j) := rfl
@[simp] theorem c_neI : cmpop .ne (.int i) (.int j) = some (!(i == j)) := rfl
@[simp] theorem c_eqS : cmpop .eq (.str a) (.str b) = some (a == b) := rfl
@[simp] theorem c_neS : cmpop .ne (.str a) (.str b) = some (!(a == b)) := rfl
@[simp] theorem c_ltI : cmpop .lt (.int i) (.int j) = some (decide (i < j)) := rfl
@[simp] theorem c_leI : cmpop .le (.int i) (.int j) = some (decide (i ≤ j)) := rfl
@[simp] theorem c_gtI : cmpop .gt (.int i) (.int j) = some (decide (j < i)) := rfl
@[simp] theorem c_geI : cmpop .ge (.int i) (.int j) = some (decide (j ≤ i)) := rfl
@[simp] theorem c_inS : cmpop .in_ (.str a) (.str b) = some (inStr a b) := rfl
@[simp] theorem c_notinS : cmpop .notin (.str a) (.str b) = some (!inStr a b) := rfl
@[simp] theorem isNon_non : W.non.isNon = true := rfl
@[simp] theorem isNon_bl : (W.bl p).isNon = false := rfl
@[simp] theorem isNon_int : (W.int i).isNon = false := rfl
@[simp] theorem isNon_str : (W.str a).isNon = false := rfl
@[simp] theorem isNon_tup : (W.tup x).isNon = false := rfl
@[simp] theorem isNon_lst : (W.lst x).isNon = false := rfl
@[simp] theorem c_isN : cmpop .is_ w .non = some w.isNon := by cases w <;> rfl
@[simp] theorem c_isnotN : cmpop .isnot w .non = some (!w.isNon) := by cases w <;> rfl
end
/-! ### the trees -/
section
variable {P : Prog} {F : Nat} {R : Nat → List W → M Val} {sl : Slots} {c : Cells} {a b d t : E} {as r : Es} {i j g f : Nat} {w : W} {op o1 o2 : Cop} {bo : Bop} {s : S} {ss s1 s2 : Ss}
@[simp] theorem ev_lit : evE P R (.lit w) sl c = .ok (.w w) c := rfl
@[simp] theorem ev_var : evE P R (.var i) sl c = match sl[i]? with
    | some (.val w) => .ok (.w w) c
    | _ => .stuck := by
  show (match sl[i]? with
    | some (.val w) => (pure (.w w) : M Val)
    | _ => M.no) c = _
  cases sl[i]? with
  | none => rfl
  | some s => cases s <;> rfl
@[simp] theorem ev_peek : evE P R (.peek i) sl c = match sl[i]? with
    | some (.own w) => .ok (.bor w) c
    | _ => .stuck := by
  show (match sl[i]? with
    | some (.own w) => (pure (.bor w) : M Val)
    | _ => M.no) c = _
  cases sl[i]? with
  | none => rfl
  | some s => cases s <;> rfl
@[simp] theorem ev_glob : evE P R (.glob g) sl c = M.lift ((P.consts[g]?).map .w) c := rfl
@[simp] theorem ev_bin : evE P R (.bin bo a b) sl c = (evE P R a sl c).andThen fun x c1 => (evE P R b sl c1).andThen fun y c2 => M.lift (binop bo x.get y.get) c2 := by
  show (evE P R a sl >>= fun x => evE P R b sl >>= fun y => M.lift (binop bo x.get y.get)) c = _
  simp only [bind_run]
@[simp] theorem ev_neg : evE P R (.neg a) sl c = (evE P R a sl c).andThen fun x c1 => M.lift (x.get.int?.map fun i => .w (.int (-i))) c1 := by
  show (evE P R a sl >>= fun x => M.lift (x.get.int?.map fun i => Val.w (.int (-i)))) c = _
  simp only [bind_run]
@[simp] theorem ev_cmp : evE P R (.cmp op a b) sl c = (evE P R a sl c).andThen fun x c1 => (evE P R b sl c1).andThen fun y c2 => M.lift ((cmpop op x.get y.get).map fun b => .w (.bl b)) c2 := by
  show (evE P R a sl >>= fun x => evE P R b sl >>= fun y => M.lift ((cmpop op x.get y.get).map fun b => Val.w (.bl b))) c = _
  simp only [bind_run]
@[simp] theorem ev_chain : evE P R (.chain o1 o2 a b d) sl c = (evE P R a sl c).andThen fun x c1 => (evE P R b sl c1).andThen fun y c2 => (M.lift (cmpop o1 x.get y.get) c2).andThen fun k c3 =>
    if k = true then (evE P R d sl c3).andThen fun z c4 => M.lift ((cmpop o2 y.get z.get).map fun b => .w (.bl b)) c4 else .ok (.w (.bl false)) c3 := by
  show (evE P R a sl >>= fun x => evE P R b sl >>= fun y => M.lift (cmpop o1 x.get y.get) >>= fun k => if k = true then evE P R d sl >>= fun z => M.lift ((cmpop o2 y.get z.get).map fun b => Val.w (.bl b)) else pure (.w (.bl false))) c = _
  simp only [bind_run, ite_run, pure_run]
@[simp] theorem ev_and : evE P R (.and_ a b) sl c = (evE P R a sl c).andThen fun x c1 => (truthM x c1).andThen fun k c2 => if k = true then evE P R b sl c2 else .ok x c2 := by
  show (evE P R a sl >>= fun x => truthM x >>= fun k => if k = true then evE P R b sl else pure x) c = _
  simp only [bind_run, ite_run, pure_run]
@[simp] theorem ev_or : evE P R (.or_ a b) sl c = (evE P R a sl c).andThen fun x c1 => (truthM x c1).andThen fun k c2 => if k = true then .ok x c2 else evE P R b sl c2 := by
  show (evE P R a sl >>= fun x => truthM x >>= fun k => if k = true then pure x else evE P R b sl) c = _
  simp only [bind_run, ite_run, pure_run]
@[simp] theorem ev_not : evE P R (.not_ a) sl c = (evE P R a sl c).andThen fun x c1 => (truthM x c1).andThen fun k c2 => .ok (.w (.bl (!k))) c2 := by
  show (evE P R a sl >>= fun x => truthM x >>= fun k => pure (Val.w (.bl (!k)))) c = _
  simp only [bind_run, ite_run, pure_run]
@[simp] theorem ev_ife : evE P R (.ife t a b) sl c = (evE P R t sl c).andThen fun x c1 => (truthM x c1).andThen fun k c2 => if k = true then evE P R a sl c2 else evE P R b sl c2 := by
  show (evE P R t sl >>= fun x => truthM x >>= fun k => if k = true then evE P R a sl else evE P R b sl) c = _
  simp only [bind_run, ite_run, pure_run]
@[simp] theorem ev_call : evE P R (.call f as) sl c = (evEs P R as sl c).andThen fun ws c1 => (R f ws c1).noX := by
  show (evEs P R as sl >>= fun ws => noExc (R f ws)) c = _
  simp only [bind_run, noExc_run]
@[simp] theorem ev_blt {f : Blt} : evE P R (.blt f as) sl c = (evEv P R as sl c).andThen fun ws c1 => M.lift (bltop f ws) c1 := by
  show (evEv P R as sl >>= fun ws => M.lift (bltop f ws)) c = _
  simp only [bind_run]
@[simp] theorem ev_meth {m : Mth} : evE P R (.meth m a as) sl c = (evE P R a sl c).andThen fun x c1 => (evEv P R as sl c1).andThen fun ws c2 => M.lift (methop m x.get ws) c2 := by
  show (evE P R a sl >>= fun x => evEv P R as sl >>= fun ws => M.lift (methop m x.get ws)) c = _
  simp only [bind_run]
@[simp] theorem ev_sub : evE P R (.sub a b) sl c = (evE P R a sl c).andThen fun x c1 => (evE P R b sl c1).andThen fun y c2 => M.lift ((getitem c2 x.get y.get).map .w) c2 := by
  refine (bind_run (m := evE P R a sl)).trans ?_
  congr 1
  funext x c1
  exact bind_run (m := evE P R b sl)
@[simp] theorem ev_slc {lo hi : Es} : evE P R (.slc a lo hi) sl c = (evE P R a sl c).andThen fun x c1 => (evO P R lo sl c1).andThen fun i c2 => (evO P R hi sl c2).andThen fun j c3 => M.lift (slice x.get i j) c3 := by
  show (evE P R a sl >>= fun x => evO P R lo sl >>= fun i => evO P R hi sl >>= fun j => M.lift (slice x.get i j)) c = _
  simp only [bind_run]
@[simp] theorem ev_rev : evE P R (.rev a) sl c = (evE P R a sl c).andThen fun x c1 => M.lift (backw x.get) c1 := by
  show (evE P R a sl >>= fun x => M.lift (backw x.get)) c = _
  simp only [bind_run]
@[simp] theorem ev_tup : evE P R (.tup as) sl c = (evEs P R as sl c).andThen fun ws c1 => if ws.length ≤ sizeL then .ok (.w (.tup ws)) c1 else .stuck := by
  show (evEs P R as sl >>= fun ws => if ws.length ≤ sizeL then pure (Val.w (.tup ws)) else M.no) c = _
  simp only [bind_run, ite_run, pure_run, no_run]
@[simp] theorem ev_lst : evE P R (.lst as) sl c = (evEs P R as sl c).andThen fun ws c1 => if ws.length ≤ sizeL then .ok (.own (.lst ws)) c1 else .stuck := by
  show (evEs P R as sl >>= listFit) c = _
  simp only [bind_run, listFit, ite_run, pure_run, no_run]
@[simp] theorem es_nil : evEs P R .nil sl c = .ok [] c := rfl
@[simp] theorem es_cons : evEs P R (.cons a r) sl c = (evE P R a sl c).andThen fun v c1 => (keepM v c1).andThen fun w c2 => (evEs P R r sl c2).andThen fun ws c3 => .ok (w :: ws) c3 := by
  show (evE P R a sl >>= fun v => keepM v >>= fun w => evEs P R r sl >>= fun ws => pure (w :: ws)) c = _
  simp only [bind_run, pure_run]
@[simp] theorem ew_nil : evEv P R .nil sl c = .ok [] c := rfl
@[simp] theorem ew_cons : evEv P R (.cons a r) sl c = (evE P R a sl c).andThen fun v c1 => (evEv P R r sl c1).andThen fun ws c3 => .ok (v.get :: ws) c3 := by
  show (evE P R a sl >>= fun v => evEv P R r sl >>= fun ws => pure (v.get :: ws)) c = _
  simp only [bind_run, pure_run]
@[simp] theorem eo_nil : evO P R .nil sl c = .ok none c := rfl
@[simp] theorem eo_cons : evO P R (.cons a r) sl c = (evE P R a sl c).andThen fun v c1 => (M.lift v.get.int? c1).andThen fun i c2 => .ok (some i) c2 := by
  show (evE P R a sl >>= fun v => M.lift v.get.int? >>= fun i => pure (some i)) c = _
  simp only [bind_run, pure_run]
@[simp] theorem ec_nil : evC P R .nil sl c = .ok true c := rfl
@[simp] theorem ec_cons : evC P R (.cons a r) sl c = (evE P R a sl c).andThen fun v c1 => truthM v c1 := by
  show (evE P R a sl >>= fun v => truthM v) c = _
  simp only [bind_run]
@[simp] theorem ss_nil : exSs P F R .nil sl c = .ok (.nx sl) c := rfl
theorem ss_cons : exSs P F R (.cons s ss) sl c = (exS P F R s sl c).andThen fun o c1 => match o with
    | .nx s2 => exSs P F R ss s2 c1
    | o => .ok o c1 := by
  show (exS P F R s sl >>= fun o => match o with
    | .nx s2 => exSs P F R ss s2
    | o => pure o) c = _
  simp only [bind_run]
  congr 1
  funext o c1
  cases o <;> rfl
@[simp] theorem xs_set : exS P F R (.set i a) sl c = (evE P R a sl c).andThen fun v c1 => (keepM v c1).andThen fun w c2 => .ok (.nx (sl.set i (.val w))) c2 := by
  show (evE P R a sl >>= fun v => keepM v >>= fun w => pure (Out.nx (sl.set i (.val w)))) c = _
  simp only [bind_run, pure_run]
@[simp] theorem xs_expr : exS P F R (.expr a) sl c = (evE P R a sl c).andThen fun _ c1 => .ok (.nx sl) c1 := by
  show (evE P R a sl >>= fun _ => pure (Out.nx sl)) c = _
  simp only [bind_run, pure_run]
@[simp] theorem xs_ite : exS P F R (.ite t s1 s2) sl c = (evE P R t sl c).andThen fun v c1 => (truthM v c1).andThen fun k c2 => if k = true then exSs P F R s1 sl c2 else exSs P F R s2 sl c2 := by
  show (evE P R t sl >>= fun v => truthM v >>= fun k => if k = true then exSs P F R s1 sl else exSs P F R s2 sl) c = _
  simp only [bind_run, ite_run]
@[simp] theorem xs_ret : exS P F R (.ret a) sl c = (evE P R a sl c).andThen fun v c1 => match v with
    | .bor _ => .stuck
    | v => .ok (.rt v) c1 := by
  show (evE P R a sl >>= fun v => match v with
    | .bor _ => M.no
    | v => pure (Out.rt v)) c = _
  simp only [bind_run]
  congr 1
  funext v c1
  cases v <;> rfl
@[simp] theorem xs_retN : exS P F R .retN sl c = .ok (.rt (.w .non)) c := rfl
@[simp] theorem xs_pass : exS P F R .pass sl c = .ok (.nx sl) c := rfl
@[simp] theorem xs_brk : exS P F R .brk sl c = .ok (.bk sl) c := rfl
@[simp] theorem xs_cnt : exS P F R .cnt sl c = .ok (.ct sl) c := rfl
end

/-! ### walks, loops -/
def forS (P : Prog) (F : Nat) (R : Nat → List W → M Val) (t : Tg) (b : Ss) (ws : List W) (sl : Slots) : M Out := forLp (bindTg t) (fun s => exSs P F R b s) ws sl
def compS (P : Prog) (R : Nat → List W → M Val) (el : E) (t : Tg) (cond : Es) (own : List Nat) (sl : Slots) (ws : List W) : M (List W) := cmpLp (fun w => bindTg t w (wipeS sl own)) (fun s => evC P R cond s) (fun s => evE P R el s >>= keepM) ws
def comp2S (P : Prog) (R : Nat → List W → M Val) (el : E) (t : Tg) (cond : Es) (t2 : Tg) (it2 : Wk) (cond2 : Es) (own own2 : List Nat) (sl : Slots) (ws : List W) : M (List W) := cmpLp2 (fun w => bindTg t w (wipeS sl own)) (fun s => evC P R cond s) (fun s =>
  evIt P R it2 true s >>= fun ws2 => compS P R el t2 cond2 own2 s ws2) ws
def whS (P : Prog) (F : Nat) (R : Nat → List W → M Val) (t : E) (b : Ss) (n : Nat) (sl : Slots) : M Out := whLp (fun s => evE P R t s >>= truthM) (fun s => exSs P F R b s) n sl
section
variable {P : Prog} {F : Nat} {R : Nat → List W → M Val} {sl : Slots} {c : Cells} {a b el : E} {cond : Es} {t t2 : Tg} {it it2 : Wk} {own own2 : List Nat} {st : Bool} {ss : Ss} {i : Nat}
@[simp] theorem ev_comp : evE P R (.comp el t it cond own) sl c = (evIt P R it false sl c).andThen fun ws c1 => (compS P R el t cond own sl ws c1).andThen fun r c2 =>
    if r.length ≤ sizeL then .ok (.own (.lst r)) c2 else .stuck := by
  show (evIt P R it false sl >>= fun ws => compS P R el t cond own sl ws >>= listFit) c = _
  simp only [bind_run, listFit, ite_run, pure_run, no_run]
@[simp] theorem ev_comp2 {cond2 : Es} : evE P R (.comp2 el t it cond t2 it2 cond2 own own2) sl c = (evIt P R it false sl c).andThen fun ws c1 => (comp2S P R el t cond t2 it2 cond2 own own2 sl ws c1).andThen fun r c2 =>
    if r.length ≤ sizeL then .ok (.own (.lst r)) c2 else .stuck := by
  show (evIt P R it false sl >>= fun ws => comp2S P R el t cond t2 it2 cond2 own own2 sl ws >>= listFit) c = _
  simp only [bind_run, listFit, ite_run, pure_run, no_run]
@[simp] theorem items_w {w : W} : itemsM st (.w w) c = M.lift w.items c := by cases st <;> rfl
@[simp] theorem items_own {w : W} : itemsM st (.own w) c = M.lift w.items c := by cases st <;> rfl
@[simp] theorem items_bor {w : W} : itemsM false (.bor w) c = M.lift w.items c := rfl
@[simp] theorem it_seq : evIt P R (.seq a) st sl c = (evE P R a sl c).andThen fun v c1 => itemsM st v c1 := by
  show (evE P R a sl >>= fun v => itemsM st v) c = _
  simp only [bind_run]
@[simp] theorem it_rng1 : evIt P R (.rng1 a) st sl c = (evE P R a sl c).andThen fun x c1 => (M.lift x.get.int? c1).andThen fun i c2 => if bound62 i = true then .ok (rangeW 0 1 i.toNat) c2 else .stuck := by
  show (evE P R a sl >>= fun x => M.lift x.get.int? >>= fun i => if bound62 i = true then pure (rangeW 0 1 i.toNat) else M.no) c = _
  simp only [bind_run, ite_run, pure_run, no_run]
@[simp] theorem it_rng2 : evIt P R (.rng2 a b) st sl c = (evE P R a sl c).andThen fun x c1 => (evE P R b sl c1).andThen fun y c2 => (M.lift x.get.int? c2).andThen fun i c3 => (M.lift y.get.int? c3).andThen fun j c4 =>
    if (bound62 i && bound62 j) = true then .ok (rangeW i 1 (j - i).toNat) c4 else .stuck := by
  show (evE P R a sl >>= fun x => evE P R b sl >>= fun y => M.lift x.get.int? >>= fun i => M.lift y.get.int? >>= fun j => if (bound62 i && bound62 j) = true then pure (rangeW i 1 (j - i).toNat) else M.no) c = _
  simp only [bind_run, ite_run, pure_run, no_run]
@[simp] theorem it_rng3 {d : E} : evIt P R (.rng3 a b d) st sl c = (evE P R a sl c).andThen fun x c1 => (evE P R b sl c1).andThen fun y c2 => (evE P R d sl c2).andThen fun z c3 => (M.lift x.get.int? c3).andThen fun i c4 => (M.lift y.get.int? c4).andThen fun j c5 => (M.lift z.get.int? c5).andThen fun k c6 =>
    if (bound62 i && bound62 j && decide (k = -1)) = true then .ok (rangeW i k (i - j).toNat) c6 else .stuck := by
  show (evE P R a sl >>= fun x => evE P R b sl >>= fun y => evE P R d sl >>= fun z => M.lift x.get.int? >>= fun i => M.lift y.get.int? >>= fun j => M.lift z.get.int? >>= fun k => if (bound62 i && bound62 j && decide (k = -1)) = true then pure (rangeW i k (i - j).toNat) else M.no) c = _
  simp only [bind_run, ite_run, pure_run, no_run]
@[simp] theorem it_enum : evIt P R (.enum a) st sl c = (evE P R a sl c).andThen fun v c1 => (itemsM st v c1).andThen fun xs c2 => if v.get.isTup = true then .stuck else .ok (enumW 0 xs) c2 := by
  show (evE P R a sl >>= fun v => itemsM st v >>= fun xs => if v.get.isTup = true then M.no else pure (enumW 0 xs)) c = _
  simp only [bind_run, ite_run, pure_run, no_run]
@[simp] theorem it_zip : evIt P R (.zip a b) st sl c = (evE P R a sl c).andThen fun x c1 => (evE P R b sl c1).andThen fun y c2 => (itemsM st x c2).andThen fun xs c3 => (itemsM st y c3).andThen fun ys c4 => .ok (zipW xs ys) c4 := by
  show (evE P R a sl >>= fun x => evE P R b sl >>= fun y => itemsM st x >>= fun xs => itemsM st y >>= fun ys => pure (zipW xs ys)) c = _
  simp only [bind_run, ite_run, pure_run, no_run]
@[simp] theorem xs_for : exS P F R (.for_ t it ss) sl c = (evIt P R it true sl c).andThen fun ws c1 => forS P F R t ss ws sl c1 := by
  show (evIt P R it true sl >>= fun ws => forS P F R t ss ws sl) c = _
  simp only [bind_run]
@[simp] theorem xs_while : exS P F R (.while_ a ss) sl c = whS P F R a ss F sl c := rfl
@[simp] theorem xs_setOwn : exS P F R (.setOwn i a) sl c = (evE P R a sl c).andThen fun v c1 => match v with
    | .own w => .ok (.nx (sl.set i (.own w))) c1
    | _ => .stuck := by
  show (evE P R a sl >>= fun v => match v with
    | .own w => pure (Out.nx (sl.set i (.own w)))
    | _ => M.no) c = _
  simp only [bind_run]
  congr 1
  funext v c1
  cases v <;> rfl
@[simp] theorem xs_setCell : exS P F R (.setCell i a) sl c = (evE P R a sl c).andThen fun v c1 => match v with
    | .own (.lst xs) => .ok (.nx (sl.set i (.val (.cel c1.length)))) (c1 ++ [xs])
    | _ => .stuck := by
  refine (bind_run (m := evE P R a sl)).trans ?_
  congr 1
  funext v c1
  cases v with
  | own w => cases w <;> rfl
  | _ => rfl
@[simp] theorem xs_frz : exS P F R (.frz i) sl c = match sl[i]? with
    | some (.own w) => .ok (.nx (sl.set i (.val w))) c
    | _ => .stuck := by
  show (match sl[i]? with
    | some (.own w) => (pure (Out.nx (sl.set i (.val w))) : M Out)
    | _ => M.no) c = _
  cases sl[i]? with
  | none => rfl
  | some s => cases s <;> rfl
@[simp] theorem xs_retOwn : exS P F R (.retOwn i) sl c = match sl[i]? with
    | some (.own w) => .ok (.rt (.own w)) c
    | _ => .stuck := by
  show (match sl[i]? with
    | some (.own w) => (pure (Out.rt (.own w)) : M Out)
    | _ => M.no) c = _
  cases sl[i]? with
  | none => rfl
  | some s => cases s <;> rfl
@[simp] theorem xs_app : exS P F R (.app i a) sl c = (evE P R a sl c).andThen fun v c1 => (keepM v c1).andThen fun w c2 => (appM sl i w c2).andThen fun s c3 => .ok (.nx s) c3 := by
  show (evE P R a sl >>= fun v => keepM v >>= fun w => appM sl i w >>= fun s => pure (Out.nx s)) c = _
  simp only [bind_run, pure_run]
@[simp] theorem xs_setIt : exS P F R (.setIt i b a) sl c = (evE P R a sl c).andThen fun v c1 => (keepM v c1).andThen fun w c2 => (evE P R b sl c2).andThen fun j c3 => (storeM sl i j.get w c3).andThen fun s c4 => .ok (.nx s) c4 := by
  show (evE P R a sl >>= fun v => keepM v >>= fun w => evE P R b sl >>= fun j => storeM sl i j.get w >>= fun s => pure (Out.nx s)) c = _
  simp only [bind_run, pure_run]
@[simp] theorem xs_par {l : List (Nat × Bool)} {as : Es} : exS P F R (.par l as) sl c = (evVs P R as sl c).andThen fun vs c1 => (M.lift (parW l vs sl) c1).andThen fun s c2 => .ok (.nx s) c2 := by
  show (evVs P R as sl >>= fun vs => M.lift (parW l vs sl) >>= fun s => pure (Out.nx s)) c = _
  simp only [bind_run, pure_run]
@[simp] theorem vs_nil : evVs P R .nil sl c = .ok [] c := rfl
@[simp] theorem vs_cons {as : Es} : evVs P R (.cons a as) sl c = (evE P R a sl c).andThen fun v c1 => (evVs P R as sl c1).andThen fun vs c2 => .ok (v :: vs) c2 := by
  show (evE P R a sl >>= fun v => evVs P R as sl >>= fun vs => pure (v :: vs)) c = _
  simp only [bind_run, pure_run]
end
section
variable {P : Prog} {F : Nat} {R : Nat → List W → M Val} {t : Tg} {b : Ss} {sl : Slots} {c : Cells} {w : W} {ws : List W} {el : E} {cond : Es} {own : List Nat}
theorem forS_nil : forS P F R t b [] sl c = .ok (.nx sl) c := rfl
theorem forS_cons : forS P F R t b (w :: ws) sl c = (M.lift (bindTg t w sl) c).andThen fun s1 c1 => (exSs P F R b s1 c1).andThen fun o c2 => match o with
    | .nx s2 => forS P F R t b ws s2 c2
    | .ct s2 => forS P F R t b ws s2 c2
    | .bk s2 => .ok (.nx s2) c2
    | .rt v => .ok (.rt v) c2 := by
  show (M.lift (bindTg t w sl) >>= fun s1 => exSs P F R b s1 >>= fun o => match o with
      | .nx s2 => forS P F R t b ws s2
      | .ct s2 => forS P F R t b ws s2
      | .bk s2 => pure (.nx s2)
      | .rt v => pure (.rt v)) c = _
  simp only [bind_run]
  congr 1
  funext s1 c1
  congr 1
  funext o c2
  cases o <;> rfl
theorem compS_nil : compS P R el t cond own sl [] c = .ok [] c := rfl
theorem compS_cons : compS P R el t cond own sl (w :: ws) c = (M.lift (bindTg t w (wipeS sl own)) c).andThen fun s c1 => (evC P R cond s c1).andThen fun b c2 =>
    if b = true then (evE P R el s c2).andThen fun v c3 => (keepM v c3).andThen fun x c4 => (compS P R el t cond own sl ws c4).andThen fun r c5 => .ok (x :: r) c5 else compS P R el t cond own sl ws c2 := by
  show (M.lift (bindTg t w (wipeS sl own)) >>= fun s => evC P R cond s >>= fun b => if b = true then (evE P R el s >>= keepM) >>= fun x => compS P R el t cond own sl ws >>= fun r => pure (x :: r) else compS P R el t cond own sl ws) c = _
  simp only [bind_run, ite_run, pure_run]
  congr 1
  funext s c1
  congr 1
  funext b c2
  split
  · cases evE P R el s c2 <;> rfl
  · rfl
/-- one item's value -/
def elV (P : Prog) (R : Nat → List W → M Val) (el : E) (s : Slots) (c : Cells) : Res W := (evE P R el s c).andThen fun v c1 => keepM v c1
/-- over the images of a list, nothing left out -/
theorem compS_map {α : Type} {i f : α → W} : ∀ {l : List α}, (∀ x ∈ l, ∃ s, bindTg t (i x) (wipeS sl own) = some s ∧ evC P R cond s c = .ok true c ∧ elV P R el s c = .ok (f x) c) → compS P R el t cond own sl (l.map i) c = .ok (l.map f) c
  | [], _ => rfl
  | x :: l, h => by
    obtain ⟨s, h1, h2, h3⟩ := h x List.mem_cons_self
    have ih := compS_map (f := f) fun w hw => h w (List.mem_cons_of_mem _ hw)
    rw [List.map_cons, compS_cons]
    unfold elV at h3
    simp only [h1, lift_some, then_ok, h2, if_true]
    cases hv : evE P R el s c with
    | ok v c1 =>
      rw [hv] at h3
      simp only [then_ok] at h3 ⊢
      rw [h3]
      simp [ih]
    | exc _ _ => rw [hv] at h3; cases h3
    | stuck => rw [hv] at h3; cases h3
/-- .. with a test -/
theorem compS_filter {α : Type} {i f : α → W} {p : α → Bool} : ∀ {l : List α}, (∀ x ∈ l, ∃ s, bindTg t (i x) (wipeS sl own) = some s ∧ evC P R cond s c = .ok (p x) c ∧ (p x = true → elV P R el s c = .ok (f x) c)) → compS P R el t cond own sl (l.map i) c = .ok ((l.filter p).map f) c
  | [], _ => rfl
  | x :: l, h => by
    obtain ⟨s, h1, h2, h3⟩ := h x List.mem_cons_self
    have ih := compS_filter (f := f) fun w hw => h w (List.mem_cons_of_mem _ hw)
    rw [List.map_cons, compS_cons]
    simp only [h1, lift_some, then_ok, h2]
    cases hp : p x with
    | false =>
      rw [List.filter_cons_of_neg (by simp [hp])]
      simpa using ih
    | true =>
      rw [List.filter_cons_of_pos hp]
      have h3 := h3 hp
      unfold elV at h3
      simp only [if_true]
      cases hv : evE P R el s c with
      | ok v c1 =>
        rw [hv] at h3
        simp only [then_ok] at h3 ⊢
        rw [h3]
        simp [ih]
      | exc _ _ => rw [hv] at h3; cases h3
      | stuck => rw [hv] at h3; cases h3
/-- .. that may draw: each item has some answer -/
theorem compS_inv {α : Type} {i : α → W} {I : Cells → Prop} {p : α → W → Prop} : ∀ {l : List α} {c : Cells}, (∀ x ∈ l, ∀ c, I c → ∃ s y c', bindTg t (i x) (wipeS sl own) = some s ∧ evC P R cond s c = .ok true c ∧ elV P R el s c = .ok y c' ∧ I c' ∧ p x y) → I c →
    ∃ r c', compS P R el t cond own sl (l.map i) c = .ok r c' ∧ I c' ∧ r.length = l.length ∧ ∀ y ∈ r, ∃ x ∈ l, p x y
  | [], c, _, hc => ⟨[], c, rfl, hc, rfl, by simp⟩
  | x :: l, c, h, hc => by
    obtain ⟨s, y, c1, h1, h2, h3, i1, py⟩ := h x List.mem_cons_self c hc
    obtain ⟨r, c2, h4, i2, hl, pr⟩ := compS_inv (l := l) (c := c1) (fun w hw => h w (List.mem_cons_of_mem _ hw)) i1
    refine ⟨y :: r, c2, ?_, i2, by simp [hl], fun z hz => ?_⟩
    · rw [List.map_cons, compS_cons]
      unfold elV at h3
      simp only [h1, lift_some, then_ok, h2, if_true]
      cases hv : evE P R el s c with
      | ok v c3 =>
        rw [hv] at h3
        simp only [then_ok] at h3 ⊢
        rw [h3]
        simp [h4]
      | exc _ _ => rw [hv] at h3; cases h3
      | stuck => rw [hv] at h3; cases h3
    · rcases List.mem_cons.mp hz with hz | hz
      · exact ⟨x, List.mem_cons_self, hz ▸ py⟩
      · obtain ⟨x', hx', px'⟩ := pr z hz
        exact ⟨x', List.mem_cons_of_mem _ hx', px'⟩
/-- two walks, one in the other, no tests -/
theorem comp2S_map {α : Type} {i : α → W} {t2 : Tg} {it2 : Wk} {own2 : List Nat} {r : α → List W} : ∀ {l : List α}, (∀ x ∈ l, ∃ s ws, bindTg t (i x) (wipeS sl own) = some s ∧ evIt P R it2 true s c = .ok ws c ∧ compS P R el t2 .nil own2 s ws c = .ok (r x) c) → comp2S P R el t .nil t2 it2 .nil own own2 sl (l.map i) c = .ok (l.flatMap r) c
  | [], _ => rfl
  | x :: l, h => by
    obtain ⟨s, ws, h1, h2, h3⟩ := h x List.mem_cons_self
    have ih := comp2S_map (r := r) fun w hw => h w (List.mem_cons_of_mem _ hw)
    show (M.lift (bindTg t (i x) (wipeS sl own)) >>= fun s => evC P R .nil s >>= fun b => if b = true then (evIt P R it2 true s >>= fun ws2 => compS P R el t2 .nil own2 s ws2) >>= fun y => comp2S P R el t .nil t2 it2 .nil own own2 sl (l.map i) >>= fun r => pure (y ++ r) else comp2S P R el t .nil t2 it2 .nil own own2 sl (l.map i)) c = _
    simp [h1, h2, h3, ih]
/-- a loop that runs to its end; I: behind so many items -/
theorem forS_inv {α : Type} {i : α → W} : ∀ {l : List α} {sl : Slots} {c : Cells} (I : Nat → Slots → Cells → Prop), I 0 sl c →
    (∀ (n : Nat) (h : n < l.length) sl c, I n sl c → ∃ s1 s2 c', bindTg t (i l[n]) sl = some s1 ∧ exSs P F R b s1 c = .ok (.nx s2) c' ∧ I (n + 1) s2 c') → ∃ sl' c', forS P F R t b (l.map i) sl c = .ok (.nx sl') c' ∧ I l.length sl' c'
  | [], sl, c, I, h0, _ => ⟨sl, c, rfl, h0⟩
  | w :: ws, sl, c, I, h0, h => by
    obtain ⟨s1, s2, c1, e1, e2, i1⟩ := h 0 (by simp) sl c h0
    obtain ⟨sl', c', e3, i3⟩ := forS_inv (l := ws) (fun i => I (i + 1)) i1 fun n hn sl c hi => h (n + 1) (by simp; omega) sl c hi
    refine ⟨sl', c', ?_, i3⟩
    rw [List.map_cons, forS_cons]
    simp at e1
    simp [e1, e2, e3]
/-- a while that ends: m bounds its turns -/
theorem whS_inv {te : E} : ∀ (n m : Nat) {sl : Slots} {c : Cells} (I : Nat → Slots → Cells → Prop) {Q : Slots → Cells → Prop}, m < n → I m sl c →
    (∀ m sl c, I m sl c → ((evE P R te sl c).andThen (fun v c => truthM v c) = .ok false c ∧ Q sl c) ∨ ∃ m' s2 c', m = m' + 1 ∧ (evE P R te sl c).andThen (fun v c => truthM v c) = .ok true c ∧ exSs P F R b sl c = .ok (.nx s2) c' ∧ I m' s2 c') → ∃ sl' c', whS P F R te b n sl c = .ok (.nx sl') c' ∧ Q sl' c'
  | 0, m, _, _, _, _, hm, _, _ => by omega
  | n + 1, m, sl, c, I, Q, hm, h0, h => by
    have e : whS P F R te b (n + 1) sl c = ((evE P R te sl >>= truthM) >>= fun k => if k = true then exSs P F R b sl >>= fun o => (match o with
      | .nx s2 => whS P F R te b n s2
      | .ct s2 => whS P F R te b n s2
      | .bk s2 => pure (.nx s2)
      | .rt v => pure (.rt v)) else pure (.nx sl)) c := rfl
    rw [e, bind_run, bind_run]
    rcases h m sl c h0 with ⟨e1, q⟩ | ⟨m', s2, c', rfl, e1, e2, i2⟩
    · exact ⟨sl, c, by rw [e1]; simp, q⟩
    · obtain ⟨sl', c2, e3, q⟩ := whS_inv n m' I (by omega) i2 h
      exact ⟨sl', c2, by rw [e1]; simp [e2, e3], q⟩
end
section
variable {α : Type}
@[simp] theorem allBl_map {f : α → Bool} {l : List α} : allBl? (l.map fun x => W.bl (f x)) = some (l.map f) := by
  induction l with
  | nil => rfl
  | cons b l ih => show (allBl? (l.map fun x => W.bl (f x))).map _ = _; rw [ih]; rfl
@[simp] theorem allBl_comp {f : α → Bool} {l : List α} : allBl? (l.map (W.bl ∘ f)) = some (l.map f) := allBl_map
@[simp] theorem allBl_id {l : List Bool} : allBl? (l.map W.bl) = some l := by
  have := allBl_map (f := id) (l := l)
  simpa using this
@[simp] theorem allInt_map {f : α → Int} {l : List α} : allInt? (l.map fun x => W.int (f x)) = some (l.map f) := by
  induction l with
  | nil => rfl
  | cons b l ih => show (allInt? (l.map fun x => W.int (f x))).map _ = _; rw [ih]; rfl
@[simp] theorem allInt_comp {f : α → Int} {l : List α} : allInt? (l.map (W.int ∘ f)) = some (l.map f) := allInt_map
@[simp] theorem allInt_id {l : List Int} : allInt? (l.map W.int) = some l := by
  have := allInt_map (f := id) (l := l)
  simpa using this
@[simp] theorem allStr_map {f : α → List Nat} {l : List α} : allStr? (l.map fun x => W.str (f x)) = some (l.map f) := by
  induction l with
  | nil => rfl
  | cons b l ih => show (allStr? (l.map fun x => W.str (f x))).map _ = _; rw [ih]; rfl
@[simp] theorem allStr_comp {f : α → List Nat} {l : List α} : allStr? (l.map (W.str ∘ f)) = some (l.map f) := allStr_map
@[simp] theorem allStr_id {l : List (List Nat)} : allStr? (l.map W.str) = some l := by
  have := allStr_map (f := id) (l := l)
  simpa using this
end
@[simp] theorem size_le {n : Nat} (h : n ≤ 64) : n ≤ sizeL := by unfold sizeL; omega
@[simp] theorem int_of {i : Int} : (W.int i).int? = some i := rfl
/-! built-ins -/
section
variable {s a : List Nat} {x : List W} {i j : Int} {w : W} {c : Cells}
theorem len_str (h : s.length ≤ sizeL) : bltop .len [.str s] = some (.w (.int s.length)) := if_pos h
@[simp] theorem len_tup : bltop .len [.tup x] = some (.w (.int x.length)) := rfl
@[simp] theorem len_lst : bltop .len [.lst x] = some (.w (.int x.length)) := rfl
@[simp] theorem all_lst : bltop .all [.lst x] = (allBl? x).map fun ns => .w (.bl (ns.all id)) := rfl
@[simp] theorem any_lst : bltop .any [.lst x] = (allBl? x).map fun ns => .w (.bl (ns.any id)) := rfl
@[simp] theorem sum_lst : bltop .sum [.lst x] = (allInt? x).map fun ns => .w (.int (sumI ns)) := rfl
@[simp] theorem sum_tupI : bltop .sum [.tup x] = (allInt? x).map fun ns => .w (.int (sumI ns)) := rfl
@[simp] theorem tuple_lst : bltop .tuple [.lst x] = some (.w (.tup x)) := rfl
@[simp] theorem tuple_tup : bltop .tuple [.tup x] = some (.w (.tup x)) := rfl
@[simp] theorem list_lst : bltop .list [.lst x] = some (.own (.lst x)) := rfl
@[simp] theorem list_tup : bltop .list [.tup x] = some (.own (.lst x)) := rfl
@[simp] theorem int_int : bltop .int [.int i] = some (.w (.int i)) := rfl
@[simp] theorem abs_int : bltop .abs [.int i] = some (.w (.int (if i < 0 then -i else i))) := rfl
@[simp] theorem isinst_op {t : Nat} : bltop (.isinst t) [w] = (isinst t w).map fun b => .w (.bl b) := rfl
@[simp] theorem items_str : (W.str s).items = some (s.map fun c => .str [c]) := rfl
@[simp] theorem items_tup : (W.tup x).items = some x := rfl
@[simp] theorem items_lst : (W.lst x).items = some x := rfl
theorem get_str (h : s.length ≤ sizeL) : getitem c (.str s) (.int i) = (atI s i).map fun x => .str [x] := if_pos h
@[simp] theorem get_tup : getitem c (.tup x) (.int i) = atI x i := rfl
@[simp] theorem get_lst : getitem c (.lst x) (.int i) = atI x i := rfl
theorem slc_str {lo hi : Option Int} (h : s.length ≤ sizeL) : slice (.str s) lo hi = some (.w (.str (cut s lo hi))) := if_pos h
@[simp] theorem slc_tup {lo hi : Option Int} : slice (.tup x) lo hi = some (.w (.tup (cut x lo hi))) := rfl
@[simp] theorem slc_lst {lo hi : Option Int} : slice (.lst x) lo hi = some (.own (.lst (cut x lo hi))) := rfl
@[simp] theorem index_str : methop .index (.str s) [.str a] = (findS a s).map fun (i : Nat) => .w (.int (i : Int)) := rfl
@[simp] theorem count_str {z : Nat} : methop .count (.str s) [.str [z]] = some (.w (.int (countS z s))) := rfl
theorem atI_nat {α : Type} {l : List α} {n : Nat} (h : n < l.length) : atI l (n : Int) = l[n]? := by
  unfold atI ixN
  rw [if_pos ⟨by omega, by omega⟩]
  simp
theorem cut_to {α : Type} {l : List α} {n : Nat} (h : n ≤ l.length) : cut l none (some (n : Int)) = l.take n := by
  show List.take ((if (n : Int) < 0 then ((n : Int) + l.length).toNat else min (n : Int).toNat l.length) - 0) (l.drop 0) = _
  rw [if_neg (by omega), List.drop_zero, Nat.sub_zero, Int.toNat_natCast, Nat.min_eq_left h]
end
@[simp] theorem inStr_one (x : Nat) (b : List Nat) : inStr [x] b = decide (x ∈ b) := by
  show b.elem x = _
  rw [Bool.eq_iff_iff, decide_eq_true_eq]
  exact List.elem_iff
theorem run_fn {P : Prog} {F k f : Nat} {fn : Fn} {args : List W} {v : Val} {c c' : Cells} (h : P.fns[f]? = some fn) (hn : args.length = fn.np)
    (hm : (exSs P F (run P F k) fn.body (args.map .val ++ List.replicate (fn.ns - fn.np) .none) c).andThen (fun o c => outM o c) = .ok v c') (hl : c'.length = c.length) : run P F (k + 1) f args c = .ok v c' := by
  show (match P.fns[f]? with
    | some fn => runFn P F (run P F k) fn args
    | none => M.no) c = _
  rw [h]
  show runFn P F (run P F k) fn args c = _
  unfold runFn
  rw [if_pos hn]
  unfold sameCells
  rw [show (do
      let o ← exSs P F (run P F k) fn.body (args.map .val ++ List.replicate (fn.ns - fn.np) .none)
      outM o : M Val) c = .ok v c' from by rw [bind_run]; exact hm]
  dsimp only
  rw [if_pos hl]
/-! ### by single statements -/
section
variable {P : Prog} {F : Nat} {R : Nat → List W → M Val} {sl s2 : Slots} {c c2 : Cells} {s : S} {ss : Ss} {r : Res Out}
/-- what a row of statements does behind a first one -/
def Res.nextS (x : Res Out) (K : Slots → Cells → Res Out) : Res Out := x.andThen fun o c1 => match o with
    | .nx s2 => K s2 c1
    | o => .ok o c1
theorem nextS_congr {x y : Res Out} {K : Slots → Cells → Res Out} (h : x = y) : x.nextS K = y.nextS K := by rw [h]
@[simp] theorem nextS_nx {K : Slots → Cells → Res Out} : (Res.ok (.nx sl) c).nextS K = K sl c := rfl
@[simp] theorem nextS_rt {K : Slots → Cells → Res Out} {v : Val} : (Res.ok (.rt v) c).nextS K = .ok (.rt v) c := rfl
@[simp] theorem nextS_bk {K : Slots → Cells → Res Out} : (Res.ok (.bk sl) c).nextS K = .ok (.bk sl) c := rfl
@[simp] theorem nextS_ct {K : Slots → Cells → Res Out} : (Res.ok (.ct sl) c).nextS K = .ok (.ct sl) c := rfl
/-- one step: the rest is out of sight -/
theorem step (h1 : exS P F R s sl c = .ok (.nx s2) c2) (h2 : exSs P F R ss s2 c2 = r) : exSs P F R (.cons s ss) sl c = r := by
  rw [ss_cons, h1]; exact h2
@[simp] theorem ss_one : exSs P F R (.cons s .nil) sl c = exS P F R s sl c := by
  rw [ss_cons]
  cases exS P F R s sl c with
  | ok o c1 => cases o <;> rfl
  | exc _ _ => rfl
  | stuck => rfl
theorem stepK (h1 : ∀ K : Slots → Cells → Res Out, (exS P F R s sl c).nextS K = K s2 c2) (h2 : exSs P F R ss s2 c2 = r) : exSs P F R (.cons s ss) sl c = r := by
  rw [ss_cons]
  exact (h1 fun s c => exSs P F R ss s c).trans h2
theorem stepR {v : Val} (h1 : exS P F R s sl c = .ok (.rt v) c2) : exSs P F R (.cons s ss) sl c = .ok (.rt v) c2 := by
  rw [ss_cons, h1]; rfl
end
theorem run_fnS {P : Prog} {F k f : Nat} {fn : Fn} {args : List W} {v : Val} {c c' : Cells} (h : P.fns[f]? = some fn) (hn : args.length = fn.np)
    (hm : exSs P F (run P F k) fn.body (args.map .val ++ List.replicate (fn.ns - fn.np) .none) c = .ok (.rt v) c') (hl : c'.length = c.length) : run P F (k + 1) f args c = .ok v c' :=
  run_fn h hn (by rw [hm]; rfl) hl
/-! ### more of lists, walks, ends -/
theorem run_law_end {P : Prog} {F k f : Nat} {fn : Fn} {args : List W} {b : Bool} {c' : Cells} (h : P.fns[f]? = some fn) (hn : args.length = fn.np)
    (hm : exSs P F (run P F k) fn.body (args.map .val ++ List.replicate (fn.ns - fn.np) .none) [] = .ok (.rt (.w (.bl b))) c') : run P F (k + 1) f args [] = .ok (.w (.bl b)) [] := by
  show (match P.fns[f]? with
    | some fn => runFn P F (run P F k) fn args
    | none => M.no) [] = _
  rw [h]
  show runFn P F (run P F k) fn args [] = _
  unfold runFn
  rw [if_pos hn]
  unfold sameCells
  rw [show (do
      let o ← exSs P F (run P F k) fn.body (args.map .val ++ List.replicate (fn.ns - fn.np) .none)
      outM o : M Val) [] = .ok (.w (.bl b)) c' from by rw [bind_run, hm]; rfl]
  dsimp only
  split
  · rename_i h
    rw [List.eq_nil_of_length_eq_zero h]
  · rfl
theorem bound_nat {n : Nat} (h : n ≤ 1000000) : bound62 (n : Int) = true := by
  unfold bound62
  rw [Int.natAbs_natCast]
  have : n.log2 ≤ 20 := by
    by_cases h0 : n = 0
    · rw [h0]; decide
    · have := Nat.log2_lt h0 (k := 21)
      have : n.log2 < 21 := this.mpr (by omega)
      omega
  simp
  omega
theorem bound_int {i : Int} (h : -1000000 ≤ i) (h2 : i ≤ 1000000) : bound62 i = true := by
  have := bound_nat (n := i.natAbs) (by omega)
  unfold bound62 at this ⊢
  rw [Int.natAbs_natCast] at this
  exact this
theorem rangeW_map : ∀ (lo : Int) (n : Nat), rangeW lo 1 n = (List.range n).map fun (i : Nat) => .int (lo + (i : Int))
  | lo, 0 => rfl
  | lo, n + 1 => by
    show W.int lo :: rangeW (lo + 1) 1 n = _
    rw [rangeW_map (lo + 1) n, List.range_succ_eq_map, List.map_cons, List.map_map]
    congr 1
    · simp
    · refine List.map_congr_left fun i _ => ?_
      show W.int _ = W.int (lo + ((i + 1 : Nat) : Int))
      congr 1
      omega
theorem rangeW_zero (n : Nat) : rangeW 0 1 n = (List.range n).map fun (i : Nat) => .int (i : Int) := by
  rw [rangeW_map]
  refine List.map_congr_left fun i _ => ?_
  rw [Int.zero_add]
theorem rangeW_lenY (lo c : Int) : ∀ (n : Nat), (rangeW lo c n).length = n := by
  intro n
  induction n generalizing lo with
  | zero => rfl
  | succ n ih => show (rangeW (lo + c) c n).length + 1 = _; rw [ih]
theorem enumW_map : ∀ (n : Nat) (xs : List W), enumW n xs = (xs.zipIdx n).map fun p => .tup [.int (p.2 : Int), p.1]
  | _, [] => rfl
  | n, x :: r => by
    show W.tup [.int (n : Int), x] :: enumW (n + 1) r = _
    rw [enumW_map (n + 1) r, List.zipIdx_cons, List.map_cons]
theorem zipW_map {α β : Type} {f : α → W} {g : β → W} : ∀ {a : List α} {b : List β}, zipW (a.map f) (b.map g) = (a.zip b).map fun p => .tup [f p.1, g p.2]
  | [], _ => rfl
  | _ :: _, [] => rfl
  | x :: a, y :: b => by
    show W.tup [f x, g y] :: zipW (a.map f) (b.map g) = _
    rw [zipW_map]; rfl
theorem atI_last {α : Type} {l : List α} {x : α} : atI (l ++ [x]) (-1) = some x := by
  unfold atI ixN
  rw [if_neg (by omega), if_pos ⟨by omega, by simp; omega⟩]
  rw [show (-1 + ((l ++ [x]).length : Int)).toNat = l.length by simp; omega]
  simp
theorem cut_mem {α : Type} {l : List α} {a b : Option Int} {x : α} (h : x ∈ cut l a b) : x ∈ l := List.mem_of_mem_drop (List.mem_of_mem_take h)
theorem cut_len {α : Type} {l : List α} {a b : Option Int} : (cut l a b).length ≤ l.length := by
  unfold cut
  rw [List.length_take, List.length_drop]
  omega
theorem cut_from {α : Type} {l : List α} {n : Nat} (h : n ≤ l.length) : cut l (some (n : Int)) none = l.drop n := by
  show List.take (l.length - (if (n : Int) < 0 then ((n : Int) + l.length).toNat else min (n : Int).toNat l.length)) (l.drop (if (n : Int) < 0 then ((n : Int) + l.length).toNat else min (n : Int).toNat l.length)) = _
  rw [if_neg (by omega), Int.toNat_natCast, Nat.min_eq_left h]
  exact List.take_of_length_le (by rw [List.length_drop]; omega)
/-- whatever the bounds are -/
theorem cut_nat {α : Type} {l : List α} {a b : Nat} : cut l (some (a : Int)) (some (b : Int)) = (l.drop a).take (b - a) := by
  show List.take ((if (b : Int) < 0 then ((b : Int) + l.length).toNat else min (b : Int).toNat l.length) - (if (a : Int) < 0 then ((a : Int) + l.length).toNat else min (a : Int).toNat l.length)) (l.drop (if (a : Int) < 0 then ((a : Int) + l.length).toNat else min (a : Int).toNat l.length)) = _
  rw [if_neg (by omega), if_neg (by omega), Int.toNat_natCast, Int.toNat_natCast]
  by_cases h : a ≤ l.length
  · rw [Nat.min_eq_left h]
    by_cases h2 : b ≤ l.length
    · rw [Nat.min_eq_left h2]
    · rw [Nat.min_eq_right (by omega), List.take_of_length_le (by rw [List.length_drop]; omega), List.take_of_length_le (by rw [List.length_drop]; omega)]
  · rw [Nat.min_eq_right (a := a) (by omega), List.drop_eq_nil_of_le (as := l) (i := l.length) (Nat.le_refl _), List.drop_eq_nil_of_le (as := l) (i := a) (by omega)]
    simp
theorem cut_toN {α : Type} {l : List α} {b : Nat} : cut l none (some (b : Int)) = l.take b := by
  show List.take ((if (b : Int) < 0 then ((b : Int) + l.length).toNat else min (b : Int).toNat l.length) - 0) (l.drop 0) = _
  rw [if_neg (by omega), Int.toNat_natCast, List.drop_zero, Nat.sub_zero]
  by_cases h2 : b ≤ l.length
  · rw [Nat.min_eq_left h2]
  · rw [Nat.min_eq_right (by omega), List.take_of_length_le (by omega), List.take_of_length_le (by omega)]
theorem cut_fromN {α : Type} {l : List α} {a : Nat} : cut l (some (a : Int)) none = l.drop a := by
  show List.take (l.length - (if (a : Int) < 0 then ((a : Int) + l.length).toNat else min (a : Int).toNat l.length)) (l.drop (if (a : Int) < 0 then ((a : Int) + l.length).toNat else min (a : Int).toNat l.length)) = _
  rw [if_neg (by omega), Int.toNat_natCast]
  by_cases h : a ≤ l.length
  · rw [Nat.min_eq_left h, List.take_of_length_le (by rw [List.length_drop]; omega)]
  · rw [Nat.min_eq_right (by omega), List.drop_eq_nil_of_le (Nat.le_refl _), List.drop_eq_nil_of_le (by omega)]
    simp
theorem joinS_nil : ∀ (l : List (List Nat)), joinS [] l = l.flatten
  | [] => rfl
  | [x] => by simp [joinS]
  | x :: y :: r => by
    show x ++ [] ++ joinS [] (y :: r) = _
    rw [joinS_nil (y :: r)]
    simp
theorem flat_chr (T : List Nat) : (T.map fun y => [y]).flatten = T := by
  induction T with
  | nil => rfl
  | cons y T ih => simp [ih]
theorem sum_chr (T : List Nat) : ((T.map fun y => [y]).map List.length).sum = T.length := by
  induction T with
  | nil => rfl
  | cons y T ih => simp at ih ⊢; omega
/-- "".join of texts of one sign -/
theorem join_chr {T : List Nat} (h : T.length ≤ sizeL) : methop .join (.str []) [.lst (T.map fun y => .str [y])] = some (.w (.str T)) := by
  show (allStr? (T.map fun y => W.str [y])).bind _ = _
  rw [allStr_map]
  have hs := sum_chr T
  show (if ((T.map fun y => [y]).map List.length).sum + (T.map fun y => [y]).length * 0 ≤ sizeL then some (Val.w (.str (joinS [] (T.map fun y => [y])))) else none) = _
  rw [if_pos (by rw [hs]; omega), joinS_nil, flat_chr]
theorem chr_list : ∀ {r : List W} {p : Nat → Prop}, (∀ x ∈ r, ∃ y, x = .str [y] ∧ p y) → ∃ T : List Nat, r = T.map (fun y => .str [y]) ∧ ∀ y ∈ T, p y
  | [], p, _ => ⟨[], rfl, by simp⟩
  | x :: r, p, h => by
    obtain ⟨y, hy, py⟩ := h x List.mem_cons_self
    obtain ⟨T, hT, pT⟩ := chr_list (r := r) fun x hx => h x (List.mem_cons_of_mem _ hx)
    refine ⟨y :: T, by rw [hy, hT]; rfl, fun z hz => ?_⟩
    rcases List.mem_cons.mp hz with hz | hz
    · rw [hz]; exact py
    · exact pT z hz
theorem eq_lst {xs : List W} (h : xs.all (W.plain 59) = true) : cmpop .eq (.lst xs) (.lst []) = some xs.isEmpty := by
  have e : cmpop .eq (.lst xs) (.lst []) = if (W.plain 60 (.lst xs) && W.plain 60 (.lst [])) = true then some (W.eqv 60 (.lst xs) (.lst [])) else none := rfl
  rw [e, if_pos (by rw [show W.plain 60 (.lst xs) = xs.all (W.plain 59) from rfl, h]; rfl)]
  cases xs <;> rfl
theorem ne_lst {xs : List W} (h : xs.all (W.plain 59) = true) : cmpop .ne (.lst xs) (.lst []) = some (!xs.isEmpty) := by
  have e : cmpop .ne (.lst xs) (.lst []) = if (W.plain 60 (.lst xs) && W.plain 60 (.lst [])) = true then some (!W.eqv 60 (.lst xs) (.lst [])) else none := rfl
  rw [e, if_pos (by rw [show W.plain 60 (.lst xs) = xs.all (W.plain 59) from rfl, h]; rfl)]
  cases xs <;> rfl
end Cw

end
section
set_option maxRecDepth 100000
set_option linter.all false
set_option Elab.async false
namespace Cw
abbrev n_is_integer : Nat := 0
abbrev n_is_whole : Nat := 1
abbrev n_need_whole : Nat := 2
abbrev n_is_string_of : Nat := 3
abbrev n_fits_word : Nat := 4
abbrev n_need_word : Nat := 5
abbrev n_need_pattern : Nat := 10
abbrev n_fits_at : Nat := 11
abbrev n_is_pattern : Nat := 15
abbrev n_does_fit : Nat := 16
abbrev n__law_cup : Nat := 20
abbrev n__law_roll : Nat := 21
abbrev n__law_some : Nat := 22
abbrev n__law_sort : Nat := 23
abbrev n__law_like : Nat := 24
abbrev n__law_word : Nat := 25
abbrev n_is_tuple_of : Nat := 34
abbrev n_need_words : Nat := 42
abbrev n_letters_met : Nat := 43
abbrev n_usual_in : Nat := 44
abbrev n_usual_word : Nat := 45
abbrev n_is_piece : Nat := 46
abbrev n_need_shape : Nat := 47
abbrev n_letters_under : Nat := 48
abbrev n_word_by_map : Nat := 49
abbrev n_length_rows : Nat := 50
abbrev n_map_by_lengths : Nat := 51
abbrev n_maps_in : Nat := 52
abbrev n_fits_shape_map : Nat := 53
abbrev n_place_under : Nat := 54
abbrev n_need_few_signs : Nat := 55
abbrev n_is_shape_map : Nat := 56
abbrev n_shape_map : Nat := 57
abbrev n_count_shape_maps : Nat := 58
abbrev n_stands_under : Nat := 59
abbrev n_under_place : Nat := 60
abbrev n__law_bent : Nat := 61
abbrev n__law_maps : Nat := 62
abbrev n__law_is_map : Nat := 63
abbrev n__law_right_k77 : Nat := 64
abbrev n__law_stands_right : Nat := 65
abbrev n_law_k77 : Nat := 66
abbrev c_LETTERS : Nat := 2000
abbrev c_MOST : Nat := 2001
abbrev c_OPEN : Nat := 2002
abbrev c_SIGNS : Nat := 2005
abbrev c_LONGEST : Nat := 2006
abbrev c_MAPPED : Nat := 2007
abbrev c_STOOD : Nat := 2008
def F_is_tuple_of (x : Nat → Nat) : Fn := ⟨3, 3, (.cons (.ret (.and_ (.blt (.isinst 3) (.cons (.var 0) .nil)) (.chain .le .le (.var 1) (.blt .len (.cons (.var 0) .nil)) (.var 2)))) .nil)⟩
/-- slots: 0 value, 1 low, 2 high -/
structure H_is_tuple_of (P : Prog) (x : Nat → Nat) : Prop where
  f : P.fns[x n_is_tuple_of]? = some (F_is_tuple_of x)
def F_is_string_of_e1 (x : Nat → Nat) : E := (.cmp .in_ (.var 4) (.var 1))
def F_is_string_of (x : Nat → Nat) : Fn := ⟨4, 5, (.cons (.ret (.and_ (.blt (.isinst 2) (.cons (.var 0) .nil)) (.and_ (.chain .le .le (.var 2) (.blt .len (.cons (.var 0) .nil)) (.var 3)) (.blt .all (.cons (.comp (F_is_string_of_e1 x) (.nm 4) (.seq (.var 0)) .nil [4]) .nil))))) .nil)⟩
/-- slots: 0 value, 1 signs, 2 low, 3 high, 4 sign -/
structure H_is_string_of (P : Prog) (x : Nat → Nat) : Prop where
  f : P.fns[x n_is_string_of]? = some (F_is_string_of x)
def F_fits_word (x : Nat → Nat) : Fn := ⟨1, 1, (.cons (.ret (.call (x n_is_string_of) (.cons (.var 0) (.cons (.glob (x c_LETTERS)) (.cons (.lit (.int 0)) (.cons (.glob (x c_MOST)) .nil)))))) .nil)⟩
/-- slots: 0 value -/
structure H_fits_word (P : Prog) (x : Nat → Nat) : Prop where
  f : P.fns[x n_fits_word]? = some (F_fits_word x)
  is_string_of : H_is_string_of P x
  c_LETTERS : P.consts[x c_LETTERS]? = some (.str [97, 98, 99, 100, 101, 102, 103, 104])
  c_MOST : P.consts[x c_MOST]? = some (.int 200)
def F_need_word (x : Nat → Nat) : Fn := ⟨1, 1, (.cons (.ite (.not_ (.call (x n_fits_word) (.cons (.var 0) .nil))) (.cons (.raise 1 (.cons (.lit (.str [110, 111, 32, 119, 111, 114, 100])) .nil)) .nil) .nil) .nil)⟩
/-- slots: 0 value -/
structure H_need_word (P : Prog) (x : Nat → Nat) : Prop where
  f : P.fns[x n_need_word]? = some (F_need_word x)
  fits_word : H_fits_word P x
def F_need_words (x : Nat → Nat) : Fn := ⟨2, 2, (.cons (.expr (.call (x n_need_word) (.cons (.var 0) .nil))) (.cons (.expr (.call (x n_need_word) (.cons (.var 1) .nil))) .nil))⟩
/-- slots: 0 word, 1 other -/
structure H_need_words (P : Prog) (x : Nat → Nat) : Prop where
  f : P.fns[x n_need_words]? = some (F_need_words x)
  need_word : H_need_word P x
def F_letters_met_b1 (x : Nat → Nat) : Ss := (.cons (.set 1 (.ife (.cmp .in_ (.var 2) (.var 1)) (.var 1) (.bin .add (.var 1) (.var 2)))) .nil)
def F_letters_met (x : Nat → Nat) : Fn := ⟨1, 3, (.cons (.set 1 (.lit (.str []))) (.cons (.for_ (.nm 2) (.seq (.var 0)) (F_letters_met_b1 x)) (.cons (.ret (.var 1)) .nil)))⟩
/-- slots: 0 word, 1 found, 2 letter -/
structure H_letters_met (P : Prog) (x : Nat → Nat) : Prop where
  f : P.fns[x n_letters_met]? = some (F_letters_met x)
def F_usual_in_e1 (x : Nat → Nat) : E := (.sub (.glob (x c_LETTERS)) (.meth .index (.var 1) (.cons (.var 2) .nil)))
def F_usual_in (x : Nat → Nat) : Fn := ⟨1, 3, (.cons (.set 1 (.call (x n_letters_met) (.cons (.var 0) .nil))) (.cons (.ret (.meth .join (.lit (.str [])) (.cons (.comp (F_usual_in_e1 x) (.nm 2) (.seq (.var 0)) .nil [2]) .nil))) .nil))⟩
/-- slots: 0 word, 1 met, 2 letter -/
structure H_usual_in (P : Prog) (x : Nat → Nat) : Prop where
  f : P.fns[x n_usual_in]? = some (F_usual_in x)
  letters_met : H_letters_met P x
  c_LETTERS : P.consts[x c_LETTERS]? = some (.str [97, 98, 99, 100, 101, 102, 103, 104])
def F_usual_word (x : Nat → Nat) : Fn := ⟨1, 1, (.cons (.expr (.call (x n_need_word) (.cons (.var 0) .nil))) (.cons (.ret (.call (x n_usual_in) (.cons (.var 0) .nil))) .nil))⟩
/-- slots: 0 word -/
structure H_usual_word (P : Prog) (x : Nat → Nat) : Prop where
  f : P.fns[x n_usual_word]? = some (F_usual_word x)
  need_word : H_need_word P x
  usual_in : H_usual_in P x
def F_is_piece (x : Nat → Nat) : Fn := ⟨2, 2, (.cons (.expr (.call (x n_need_words) (.cons (.var 0) (.cons (.var 1) .nil)))) (.cons (.ret (.cmp .in_ (.var 1) (.var 0))) .nil))⟩
/-- slots: 0 word, 1 other -/
structure H_is_piece (P : Prog) (x : Nat → Nat) : Prop where
  f : P.fns[x n_is_piece]? = some (F_is_piece x)
  need_words : H_need_words P x
def F_need_shape (x : Nat → Nat) : Fn := ⟨1, 1, (.cons (.ite (.not_ (.call (x n_is_string_of) (.cons (.var 0) (.cons (.glob (x c_SIGNS)) (.cons (.lit (.int 1)) (.cons (.glob (x c_LONGEST)) .nil)))))) (.cons (.raise 9 (.cons (.lit (.str [110, 111, 32, 115, 104, 97, 112, 101])) .nil)) .nil) .nil) .nil)⟩
/-- slots: 0 value -/
structure H_need_shape (P : Prog) (x : Nat → Nat) : Prop where
  f : P.fns[x n_need_shape]? = some (F_need_shape x)
  is_string_of : H_is_string_of P x
  c_LONGEST : P.consts[x c_LONGEST]? = some (.int 6)
  c_SIGNS : P.consts[x c_SIGNS]? = some (.str [97, 98, 99, 100])
def F_letters_under_e1 (x : Nat → Nat) : E := (.var 1)
def F_letters_under_c1 (x : Nat → Nat) : Es := (.cons (.cmp .in_ (.var 1) (.var 0)) .nil)
def F_letters_under (x : Nat → Nat) : Fn := ⟨1, 2, (.cons (.ret (.comp (F_letters_under_e1 x) (.nm 1) (.seq (.glob (x c_SIGNS))) (F_letters_under_c1 x) [1])) .nil)⟩
/-- slots: 0 shape, 1 letter -/
structure H_letters_under (P : Prog) (x : Nat → Nat) : Prop where
  f : P.fns[x n_letters_under]? = some (F_letters_under x)
  c_SIGNS : P.consts[x c_SIGNS]? = some (.str [97, 98, 99, 100])
def F_word_by_map_e1 (x : Nat → Nat) : E := (.sub (.var 1) (.meth .index (.var 2) (.cons (.var 3) .nil)))
def F_word_by_map (x : Nat → Nat) : Fn := ⟨2, 4, (.cons (.set 2 (.call (x n_letters_under) (.cons (.var 0) .nil))) (.cons (.ret (.meth .join (.lit (.str [])) (.cons (.comp (F_word_by_map_e1 x) (.nm 3) (.seq (.var 0)) .nil [3]) .nil))) .nil))⟩
/-- slots: 0 shape, 1 value, 2 letters, 3 letter -/
structure H_word_by_map (P : Prog) (x : Nat → Nat) : Prop where
  f : P.fns[x n_word_by_map]? = some (F_word_by_map x)
  letters_under : H_letters_under P x
def F_length_rows_e1 (x : Nat → Nat) : E := (.meth .count (.var 0) (.cons (.var 13) .nil))
def F_length_rows_b1 (x : Nat → Nat) : Ss := (.cons (.app 6 (.tup (.cons (.bin .add (.var 9) (.tup (.cons (.var 12) .nil))) (.cons (.bin .sub (.var 10) (.bin .mul (.var 7) (.var 12))) .nil)))) .nil)
def F_length_rows_b2 (x : Nat → Nat) : Ss := (.cons (.set 11 (.ife (.cmp .gt (.var 8) (.lit (.int 0))) (.lit (.int 1)) (.blt .max (.cons (.lit (.int 1)) (.cons (.bin .fdiv (.var 10) (.var 7)) .nil))))) (.cons (.for_ (.nm 12) (.rng2 (.var 11) (.bin .add (.bin .fdiv (.bin .sub (.var 10) (.var 8)) (.var 7)) (.lit (.int 1)))) (F_length_rows_b1 x)) .nil))
def F_length_rows_b3 (x : Nat → Nat) : Ss := (.cons (.par [(7, false), (8, false)] (.cons (.meth .count (.var 0) (.cons (.var 5) .nil)) (.cons (.blt .sum (.cons (.comp (F_length_rows_e1 x) (.nm 13) (.seq (.slc (.var 2) (.cons (.bin .add (.var 4) (.lit (.int 1))) .nil) .nil)) .nil [13]) .nil)) .nil))) (.cons (.setOwn 6 (.lst .nil)) (.cons (.for_ (.tp [9, 10]) (.seq (.var 3)) (F_length_rows_b2 x)) (.cons (.frz 6) (.cons (.set 3 (.var 6)) .nil)))))
def F_length_rows_e2 (x : Nat → Nat) : E := (.var 9)
def F_length_rows_c1 (x : Nat → Nat) : Es := (.cons (.cmp .eq (.var 10) (.lit (.int 0))) .nil)
def F_length_rows (x : Nat → Nat) : Fn := ⟨2, 14, (.cons (.set 2 (.call (x n_letters_under) (.cons (.var 0) .nil))) (.cons (.set 3 (.lst (.cons (.tup (.cons (.tup .nil) (.cons (.var 1) .nil))) .nil))) (.cons (.for_ (.tp [4, 5]) (.enum (.var 2)) (F_length_rows_b3 x)) (.cons (.ret (.comp (F_length_rows_e2 x) (.tp [9, 10]) (.seq (.var 3)) (F_length_rows_c1 x) [9, 10])) .nil))))⟩
/-- slots: 0 shape, 1 size, 2 letters, 3 found, 4 at, 5 letter, 6 later, 7 many, 8 behind, 9 row, 10 left, 11 least, 12 length, 13 other -/
structure H_length_rows (P : Prog) (x : Nat → Nat) : Prop where
  f : P.fns[x n_length_rows]? = some (F_length_rows x)
  letters_under : H_letters_under P x
def F_map_by_lengths_b1 (x : Nat → Nat) : Ss := (.cons (.set 7 (.sub (.var 2) (.meth .index (.var 4) (.cons (.var 3) .nil)))) (.cons (.set 8 (.slc (.var 1) (.cons (.var 6) .nil) (.cons (.bin .add (.var 6) (.var 7)) .nil))) (.cons (.ite (.cmp .ne (.dgetD (.peek 5) (.var 3) (.var 8)) (.var 8)) (.cons (.ret (.lit .non)) .nil) .nil) (.cons (.dput 5 (.var 3) (.var 8)) (.cons (.set 6 (.bin .add (.var 6) (.var 7))) .nil)))))
def F_map_by_lengths_e1 (x : Nat → Nat) : E := (.dget (.peek 5) (.var 3))
def F_map_by_lengths (x : Nat → Nat) : Fn := ⟨3, 9, (.cons (.par [(4, false), (5, true), (6, false)] (.cons (.call (x n_letters_under) (.cons (.var 0) .nil)) (.cons .dnew (.cons (.lit (.int 0)) .nil)))) (.cons (.for_ (.nm 3) (.seq (.var 0)) (F_map_by_lengths_b1 x)) (.cons (.ret (.blt .tuple (.cons (.comp (F_map_by_lengths_e1 x) (.nm 3) (.seq (.var 4)) .nil [3]) .nil))) .nil)))⟩
/-- slots: 0 shape, 1 word, 2 lengths, 3 letter, 4 letters, 5 found, 6 at, 7 size, 8 piece -/
structure H_map_by_lengths (P : Prog) (x : Nat → Nat) : Prop where
  f : P.fns[x n_map_by_lengths]? = some (F_map_by_lengths x)
  letters_under : H_letters_under P x
def F_maps_in_e1 (x : Nat → Nat) : E := (.call (x n_map_by_lengths) (.cons (.var 0) (.cons (.var 1) (.cons (.var 3) .nil))))
def F_maps_in_e2 (x : Nat → Nat) : E := (.var 4)
def F_maps_in_c1 (x : Nat → Nat) : Es := (.cons (.cmp .isnot (.var 4) (.lit .non)) .nil)
def F_maps_in (x : Nat → Nat) : Fn := ⟨2, 5, (.cons (.set 2 (.comp (F_maps_in_e1 x) (.nm 3) (.seq (.call (x n_length_rows) (.cons (.var 0) (.cons (.blt .len (.cons (.var 1) .nil)) .nil)))) .nil [3])) (.cons (.ret (.comp (F_maps_in_e2 x) (.nm 4) (.seq (.var 2)) (F_maps_in_c1 x) [4])) .nil))⟩
/-- slots: 0 shape, 1 word, 2 found, 3 lengths, 4 value -/
structure H_maps_in (P : Prog) (x : Nat → Nat) : Prop where
  f : P.fns[x n_maps_in]? = some (F_maps_in x)
  length_rows : H_length_rows P x
  map_by_lengths : H_map_by_lengths P x
def F_fits_shape_map_e1 (x : Nat → Nat) : E := (.and_ (.call (x n_fits_word) (.cons (.var 4) .nil)) (.cmp .ne (.var 4) (.lit (.str []))))
def F_fits_shape_map (x : Nat → Nat) : Fn := ⟨3, 5, (.cons (.set 3 (.blt .len (.cons (.call (x n_letters_under) (.cons (.var 0) .nil)) .nil))) (.cons (.ite (.or_ (.not_ (.call (x n_is_tuple_of) (.cons (.var 2) (.cons (.var 3) (.cons (.var 3) .nil))))) (.not_ (.blt .all (.cons (.comp (F_fits_shape_map_e1 x) (.nm 4) (.seq (.var 2)) .nil [4]) .nil)))) (.cons (.ret (.lit (.bl false))) .nil) .nil) (.cons (.ret (.cmp .eq (.call (x n_word_by_map) (.cons (.var 0) (.cons (.var 2) .nil))) (.var 1))) .nil)))⟩
/-- slots: 0 shape, 1 word, 2 value, 3 many, 4 part -/
structure H_fits_shape_map (P : Prog) (x : Nat → Nat) : Prop where
  f : P.fns[x n_fits_shape_map]? = some (F_fits_shape_map x)
  fits_word : H_fits_word P x
  is_tuple_of : H_is_tuple_of P x
  letters_under : H_letters_under P x
  word_by_map : H_word_by_map P x
def F_place_under_b1 (x : Nat → Nat) : Ss := (.cons (.ite (.cmp .ne (.call (x n_maps_in) (.cons (.var 0) (.cons (.slc (.var 1) (.cons (.var 2) .nil) (.cons (.var 3) .nil)) .nil))) (.lst .nil)) (.cons (.ret (.tup (.cons (.var 2) (.cons (.var 3) .nil)))) .nil) .nil) .nil)
def F_place_under_b2 (x : Nat → Nat) : Ss := (.cons (.for_ (.nm 3) (.rng2 (.bin .add (.var 2) (.blt .len (.cons (.var 0) .nil))) (.bin .add (.blt .len (.cons (.var 1) .nil)) (.lit (.int 1)))) (F_place_under_b1 x)) .nil)
def F_place_under (x : Nat → Nat) : Fn := ⟨2, 4, (.cons (.for_ (.nm 2) (.rng1 (.blt .len (.cons (.var 1) .nil))) (F_place_under_b2 x)) (.cons (.ret (.lit .non)) .nil))⟩
/-- slots: 0 shape, 1 word, 2 begin, 3 end -/
structure H_place_under (P : Prog) (x : Nat → Nat) : Prop where
  f : P.fns[x n_place_under]? = some (F_place_under x)
  maps_in : H_maps_in P x
def F_need_few_signs (x : Nat → Nat) : Fn := ⟨2, 2, (.cons (.expr (.call (x n_need_word) (.cons (.var 0) .nil))) (.cons (.ite (.cmp .gt (.blt .len (.cons (.var 0) .nil)) (.var 1)) (.cons (.raise 1 (.cons (.lit (.str [116, 111, 111, 32, 108, 111, 110, 103])) .nil)) .nil) .nil) .nil))⟩
/-- slots: 0 word, 1 most -/
structure H_need_few_signs (P : Prog) (x : Nat → Nat) : Prop where
  f : P.fns[x n_need_few_signs]? = some (F_need_few_signs x)
  need_word : H_need_word P x
def F_is_shape_map (x : Nat → Nat) : Fn := ⟨3, 3, (.cons (.expr (.call (x n_need_shape) (.cons (.var 0) .nil))) (.cons (.expr (.call (x n_need_word) (.cons (.var 1) .nil))) (.cons (.ret (.call (x n_fits_shape_map) (.cons (.var 0) (.cons (.var 1) (.cons (.var 2) .nil))))) .nil)))⟩
/-- slots: 0 shape, 1 word, 2 value -/
structure H_is_shape_map (P : Prog) (x : Nat → Nat) : Prop where
  f : P.fns[x n_is_shape_map]? = some (F_is_shape_map x)
  fits_shape_map : H_fits_shape_map P x
  need_shape : H_need_shape P x
  need_word : H_need_word P x
def F_shape_map (x : Nat → Nat) : Fn := ⟨2, 3, (.cons (.expr (.call (x n_need_shape) (.cons (.var 0) .nil))) (.cons (.expr (.call (x n_need_few_signs) (.cons (.var 1) (.cons (.glob (x c_MAPPED)) .nil)))) (.cons (.set 2 (.call (x n_maps_in) (.cons (.var 0) (.cons (.var 1) .nil)))) (.cons (.ret (.ife (.cmp .ne (.var 2) (.lst .nil)) (.sub (.var 2) (.lit (.int 0))) (.lit .non))) .nil))))⟩
/-- slots: 0 shape, 1 word, 2 found -/
structure H_shape_map (P : Prog) (x : Nat → Nat) : Prop where
  f : P.fns[x n_shape_map]? = some (F_shape_map x)
  maps_in : H_maps_in P x
  need_few_signs : H_need_few_signs P x
  need_shape : H_need_shape P x
  c_MAPPED : P.consts[x c_MAPPED]? = some (.int 40)
def F_count_shape_maps (x : Nat → Nat) : Fn := ⟨2, 2, (.cons (.expr (.call (x n_need_shape) (.cons (.var 0) .nil))) (.cons (.expr (.call (x n_need_few_signs) (.cons (.var 1) (.cons (.glob (x c_MAPPED)) .nil)))) (.cons (.ret (.blt .len (.cons (.call (x n_maps_in) (.cons (.var 0) (.cons (.var 1) .nil))) .nil))) .nil)))⟩
/-- slots: 0 shape, 1 word -/
structure H_count_shape_maps (P : Prog) (x : Nat → Nat) : Prop where
  f : P.fns[x n_count_shape_maps]? = some (F_count_shape_maps x)
  maps_in : H_maps_in P x
  need_few_signs : H_need_few_signs P x
  need_shape : H_need_shape P x
  c_MAPPED : P.consts[x c_MAPPED]? = some (.int 40)
def F_stands_under (x : Nat → Nat) : Fn := ⟨2, 2, (.cons (.expr (.call (x n_need_shape) (.cons (.var 0) .nil))) (.cons (.expr (.call (x n_need_few_signs) (.cons (.var 1) (.cons (.glob (x c_STOOD)) .nil)))) (.cons (.ret (.cmp .isnot (.call (x n_place_under) (.cons (.var 0) (.cons (.var 1) .nil))) (.lit .non))) .nil)))⟩
/-- slots: 0 shape, 1 word -/
structure H_stands_under (P : Prog) (x : Nat → Nat) : Prop where
  f : P.fns[x n_stands_under]? = some (F_stands_under x)
  need_few_signs : H_need_few_signs P x
  need_shape : H_need_shape P x
  place_under : H_place_under P x
  c_STOOD : P.consts[x c_STOOD]? = some (.int 14)
def F_under_place (x : Nat → Nat) : Fn := ⟨2, 2, (.cons (.expr (.call (x n_need_shape) (.cons (.var 0) .nil))) (.cons (.expr (.call (x n_need_few_signs) (.cons (.var 1) (.cons (.glob (x c_STOOD)) .nil)))) (.cons (.ret (.call (x n_place_under) (.cons (.var 0) (.cons (.var 1) .nil)))) .nil)))⟩
/-- slots: 0 shape, 1 word -/
structure H_under_place (P : Prog) (x : Nat → Nat) : Prop where
  f : P.fns[x n_under_place]? = some (F_under_place x)
  need_few_signs : H_need_few_signs P x
  need_shape : H_need_shape P x
  place_under : H_place_under P x
  c_STOOD : P.consts[x c_STOOD]? = some (.int 14)
def F__law_cup (x : Nat → Nat) : Fn := ⟨1, 2, (.cons (.set 1 (.blt .abs (.cons (.sub (.bin .add (.blt .list (.cons (.var 0) .nil)) (.lst (.cons (.lit (.int 0)) .nil))) (.lit (.int 0))) .nil))) (.cons (.ret (.lst (.cons (.ife (.cmp .ge (.var 1) (.bin .pow (.lit (.int 10)) (.lit (.int 18)))) (.bin .fdiv (.var 1) (.lit (.int 73))) (.lit (.int 0))) (.cons (.bin .add (.bin .mod (.blt .int (.cons (.bin .add (.bin .mul (.var 1) (.lit (.int 283))) (.lit (.int 3907))) .nil)) (.lit (.int 2077503167))) (.lit (.int 167))) .nil)))) .nil))⟩
/-- slots: 0 script, 1 cell -/
structure H__law_cup (P : Prog) (x : Nat → Nat) : Prop where
  f : P.fns[x n__law_cup]? = some (F__law_cup x)
def F__law_roll (x : Nat → Nat) : Fn := ⟨2, 4, (.cons (.ite (.cmp .gt (.sub (.var 0) (.lit (.int 0))) (.lit (.int 0))) (.cons (.set 3 (.bin .mod (.blt .int (.cons (.sub (.var 0) (.lit (.int 0))) .nil)) (.var 1))) (.cons (.setIt 0 (.lit (.int 0)) (.bin .fdiv (.sub (.var 0) (.lit (.int 0))) (.var 1))) (.cons (.ret (.var 3)) .nil))) .nil) (.cons (.setIt 0 (.lit (.int 1)) (.bin .mod (.blt .int (.cons (.bin .add (.bin .mul (.sub (.var 0) (.lit (.int 1))) (.lit (.int 31051))) (.lit (.int 7993))) .nil)) (.lit (.int 2147483543)))) (.cons (.set 2 (.bin .mod (.blt .int (.cons (.bin .mul (.sub (.var 0) (.lit (.int 1))) (.bin .add (.sub (.var 0) (.lit (.int 1))) (.lit (.int 229)))) .nil)) (.lit (.int 2147483587)))) (.cons (.ret (.bin .mod (.blt .int (.cons (.bin .fdiv (.var 2) (.lit (.int 821))) .nil)) (.var 1))) .nil))))⟩
/-- slots: 0 cup, 1 many, 2 deep, 3 found -/
structure H__law_roll (P : Prog) (x : Nat → Nat) : Prop where
  f : P.fns[x n__law_roll]? = some (F__law_roll x)
def F__law_some (x : Nat → Nat) : Fn := ⟨2, 2, (.cons (.ret (.sub (.var 1) (.call (x n__law_roll) (.cons (.var 0) (.cons (.blt .len (.cons (.var 1) .nil)) .nil))))) .nil)⟩
/-- slots: 0 cup, 1 things -/
structure H__law_some (P : Prog) (x : Nat → Nat) : Prop where
  f : P.fns[x n__law_some]? = some (F__law_some x)
  _law_roll : H__law_roll P x
def F__law_sort (x : Nat → Nat) : Fn := ⟨1, 1, (.cons (.ite (.or_ (.cmp .is_ (.var 0) (.lit .non)) (.blt (.isinst 1) (.cons (.var 0) .nil))) (.cons (.ret (.ife (.cmp .is_ (.var 0) (.lit .non)) (.lit (.int 0)) (.lit (.int 1)))) .nil) .nil) (.cons (.ite (.or_ (.blt (.isinst 0) (.cons (.var 0) .nil)) (.blt (.isinst 2) (.cons (.var 0) .nil))) (.cons (.ret (.ife (.blt (.isinst 0) (.cons (.var 0) .nil)) (.lit (.int 2)) (.lit (.int 3)))) .nil) .nil) (.cons (.ret (.ife (.blt (.isinst 3) (.cons (.var 0) .nil)) (.lit (.int 4)) (.ife (.blt (.isinst 4) (.cons (.var 0) .nil)) (.lit (.int 5)) (.lit (.int 6))))) .nil)))⟩
/-- slots: 0 value -/
structure H__law_sort (P : Prog) (x : Nat → Nat) : Prop where
  f : P.fns[x n__law_sort]? = some (F__law_sort x)
def F__law_like_e1 (x : Nat → Nat) : E := (.lit (.int 1))
def F__law_like_c1 (x : Nat → Nat) : Es := (.cons (.not_ (.call (x n__law_like) (.cons (.var 3) (.cons (.var 4) .nil)))) .nil)
def F__law_like (x : Nat → Nat) : Fn := ⟨2, 5, (.cons (.set 2 (.call (x n__law_sort) (.cons (.var 1) .nil))) (.cons (.ite (.or_ (.cmp .ne (.call (x n__law_sort) (.cons (.var 0) .nil)) (.var 2)) (.cmp .eq (.var 2) (.lit (.int 6)))) (.cons (.ret (.lit (.bl false))) .nil) .nil) (.cons (.ite (.cmp .in_ (.var 2) (.tup (.cons (.lit (.int 4)) (.cons (.lit (.int 5)) .nil)))) (.cons (.ret (.and_ (.cmp .eq (.blt .len (.cons (.var 0) .nil)) (.blt .len (.cons (.var 1) .nil))) (.cmp .eq (.comp (F__law_like_e1 x) (.tp [3, 4]) (.zip (.var 0) (.var 1)) (F__law_like_c1 x) [3, 4]) (.lst .nil)))) .nil) .nil) (.cons (.ret (.cmp .eq (.var 0) (.var 1))) .nil))))⟩
/-- slots: 0 one, 1 other, 2 sort, 3 first, 4 second -/
structure H__law_like (P : Prog) (x : Nat → Nat) : Prop where
  f : P.fns[x n__law_like]? = some (F__law_like x)
  _law_sort : H__law_sort P x
def F__law_word_b1 (x : Nat → Nat) : Ss := (.cons (.set 8 (.bin .add (.var 8) (.call (x n__law_some) (.cons (.var 0) (.cons (.var 7) .nil))))) .nil)
def F__law_word (x : Nat → Nat) : Fn := ⟨3, 9, (.cons (.par [(5, false), (6, false)] (.cons (.call (x n__law_roll) (.cons (.var 0) (.cons (.lit (.int 4)) .nil))) (.cons (.call (x n__law_roll) (.cons (.var 0) (.cons (.bin .add (.var 1) (.lit (.int 1))) .nil))) .nil))) (.cons (.par [(7, false), (8, false)] (.cons (.slc (.lit (.str [97, 98, 99, 100, 101, 102, 103, 104])) .nil (.cons (.var 2) .nil)) (.cons (.lit (.str [])) .nil))) (.cons (.for_ (.nm 3) (.rng1 (.var 6)) (F__law_word_b1 x)) (.cons (.ite (.or_ (.cmp .lt (.var 5) (.lit (.int 2))) (.cmp .eq (.var 6) (.lit (.int 0)))) (.cons (.ret (.var 8)) .nil) .nil) (.cons (.set 4 (.slc (.var 8) .nil (.cons (.bin .add (.lit (.int 1)) (.call (x n__law_roll) (.cons (.var 0) (.cons (.var 6) .nil)))) .nil))) (.cons (.ite (.cmp .eq (.var 5) (.lit (.int 2))) (.cons (.ret (.slc (.bin .mul (.var 4) (.bin .add (.bin .fdiv (.var 6) (.blt .len (.cons (.var 4) .nil))) (.lit (.int 1)))) .nil (.cons (.var 6) .nil))) .nil) .nil) (.cons (.ret (.slc (.bin .add (.var 4) (.rev (.var 4))) .nil (.cons (.var 1) .nil))) .nil)))))))⟩
/-- slots: 0 cup, 1 most, 2 letters, 3 turn, 4 piece, 5 way, 6 size, 7 signs, 8 found -/
structure H__law_word (P : Prog) (x : Nat → Nat) : Prop where
  f : P.fns[x n__law_word]? = some (F__law_word x)
  _law_roll : H__law_roll P x
  _law_some : H__law_some P x
def F__law_bent (x : Nat → Nat) : Fn := ⟨2, 5, (.cons (.ite (.or_ (.not_ (.blt (.isinst 3) (.cons (.var 1) .nil))) (.or_ (.cmp .eq (.var 1) (.tup .nil)) (.cmp .eq (.call (x n__law_roll) (.cons (.var 0) (.cons (.lit (.int 8)) .nil))) (.lit (.int 0))))) (.cons (.set 2 (.lst (.cons (.lit .non) (.cons (.lit (.bl true)) (.cons (.lit (.bl false)) (.cons (.lit (.int 0)) (.cons (.lit (.int 1)) (.cons (.lit (.int 2)) (.cons (.lit (.int 5)) (.cons (.neg (.lit (.int 1))) (.cons (.lit (.str [])) (.cons (.lit (.str [97])) (.cons (.lit (.str [97, 98])) (.cons (.lit (.str [63])) (.cons (.tup .nil) (.cons (.lst .nil) .nil)))))))))))))))) (.cons (.ite (.cmp .eq (.call (x n__law_sort) (.cons (.var 1) .nil)) (.lit (.int 2))) (.cons (.set 2 (.bin .add (.var 2) (.lst (.cons (.bin .add (.var 1) (.lit (.int 1))) (.cons (.bin .add (.var 1) (.lit (.int 1))) (.cons (.bin .sub (.var 1) (.lit (.int 1))) .nil)))))) .nil) .nil) (.cons (.ret (.call (x n__law_some) (.cons (.var 0) (.cons (.var 2) .nil)))) .nil))) .nil) (.cons (.par [(3, false), (4, false)] (.cons (.call (x n__law_roll) (.cons (.var 0) (.cons (.blt .len (.cons (.var 1) .nil)) .nil))) (.cons (.call (x n__law_roll) (.cons (.var 0) (.cons (.lit (.int 12)) .nil))) .nil))) (.cons (.ite (.cmp .eq (.var 4) (.lit (.int 0))) (.cons (.ret (.bin .add (.slc (.var 1) .nil (.cons (.var 3) .nil)) (.slc (.var 1) (.cons (.bin .add (.var 3) (.lit (.int 1))) .nil) .nil))) .nil) .nil) (.cons (.ite (.cmp .eq (.var 4) (.lit (.int 1))) (.cons (.ret (.bin .add (.slc (.var 1) .nil (.cons (.bin .add (.var 3) (.lit (.int 1))) .nil)) (.slc (.var 1) (.cons (.var 3) .nil) .nil))) .nil) .nil) (.cons (.ite (.cmp .eq (.var 4) (.lit (.int 2))) (.cons (.ret (.blt .list (.cons (.var 1) .nil))) .nil) .nil) (.cons (.ite (.cmp .eq (.var 4) (.lit (.int 3))) (.cons (.ret (.rev (.var 1))) .nil) .nil) (.cons (.ret (.bin .add (.bin .add (.slc (.var 1) .nil (.cons (.var 3) .nil)) (.tup (.cons (.call (x n__law_bent) (.cons (.var 0) (.cons (.sub (.var 1) (.var 3)) .nil))) .nil))) (.slc (.var 1) (.cons (.bin .add (.var 3) (.lit (.int 1))) .nil) .nil))) .nil)))))))⟩
/-- slots: 0 cup, 1 value, 2 some, 3 at, 4 way -/
structure H__law_bent (P : Prog) (x : Nat → Nat) : Prop where
  f : P.fns[x n__law_bent]? = some (F__law_bent x)
  _law_roll : H__law_roll P x
  _law_some : H__law_some P x
  _law_sort : H__law_sort P x
def F__law_maps_e1 (x : Nat → Nat) : E := (.tup (.cons (.var 12) (.cons (.dget (.var 8) (.var 12)) .nil)))
def F__law_maps_b1 (x : Nat → Nat) : Ss := (.cons (.set 11 (.blt .dict (.cons (.bin .add (.compK (F__law_maps_e1 x) 8 12 .nil [12]) (.lst (.cons (.tup (.cons (.var 5) (.cons (.slc (.var 9) .nil (.cons (.var 10) .nil)) .nil))) .nil))) .nil))) (.cons (.app 6 (.tup (.cons (.var 11) (.cons (.slc (.var 9) (.cons (.var 10) .nil) .nil) .nil)))) .nil))
def F__law_maps_b2 (x : Nat → Nat) : Ss := (.cons (.ite (.din false (.var 5) (.var 8)) (.cons (.ite (.cmp .eq (.slc (.var 9) .nil (.cons (.blt .len (.cons (.dget (.var 8) (.var 5)) .nil)) .nil)) (.dget (.var 8) (.var 5))) (.cons (.app 6 (.tup (.cons (.var 8) (.cons (.slc (.var 9) (.cons (.blt .len (.cons (.dget (.var 8) (.var 5)) .nil)) .nil) .nil) .nil)))) .nil) .nil) .nil) (.cons (.for_ (.nm 10) (.rng2 (.lit (.int 1)) (.bin .add (.bin .sub (.blt .len (.cons (.var 9) .nil)) (.var 7)) (.lit (.int 1)))) (F__law_maps_b1 x)) .nil)) .nil)
def F__law_maps_b3 (x : Nat → Nat) : Ss := (.cons (.par [(6, true), (7, false)] (.cons (.lst .nil) (.cons (.bin .sub (.bin .sub (.blt .len (.cons (.var 0) .nil)) (.var 4)) (.lit (.int 1))) .nil))) (.cons (.for_ (.tp [8, 9]) (.seq (.var 2)) (F__law_maps_b2 x)) (.cons (.frz 6) (.cons (.set 2 (.var 6)) .nil))))
def F__law_maps_e2 (x : Nat → Nat) : E := (.dget (.var 8) (.var 12))
def F__law_maps_e3 (x : Nat → Nat) : E := (.blt .tuple (.cons (.comp (F__law_maps_e2 x) (.nm 12) (.seq (.var 3)) .nil [12]) .nil))
def F__law_maps_c1 (x : Nat → Nat) : Es := (.cons (.cmp .eq (.var 9) (.lit (.str []))) .nil)
def F__law_maps (x : Nat → Nat) : Fn := ⟨2, 13, (.cons (.set 2 (.lst (.cons (.tup (.cons .dnew (.cons (.var 1) .nil))) .nil))) (.cons (.for_ (.tp [4, 5]) (.enum (.var 0)) (F__law_maps_b3 x)) (.cons (.set 3 (.blt .sortedset (.cons (.var 0) .nil))) (.cons (.ret (.comp (F__law_maps_e3 x) (.tp [8, 9]) (.seq (.var 2)) (F__law_maps_c1 x) [8, 9])) .nil))))⟩
/-- slots: 0 shape, 1 word, 2 found, 3 letters, 4 at, 5 sign, 6 longer, 7 behind, 8 told, 9 left, 10 size, 11 more, 12 own -/
structure H__law_maps (P : Prog) (x : Nat → Nat) : Prop where
  f : P.fns[x n__law_maps]? = some (F__law_maps x)
def F__law_is_map_e1 (x : Nat → Nat) : E := (.var 4)
def F__law_is_map_e2 (x : Nat → Nat) : E := (.var 5)
def F__law_is_map_c1 (x : Nat → Nat) : Es := (.cons (.cmp .notin (.var 5) (.lit (.str [97, 98, 99, 100, 101, 102, 103, 104]))) .nil)
def F__law_is_map_c2 (x : Nat → Nat) : Es := (.cons (.or_ (.not_ (.blt (.isinst 2) (.cons (.var 4) .nil))) (.or_ (.cmp .eq (.var 4) (.lit (.str []))) (.cmp .ne (.comp (F__law_is_map_e2 x) (.nm 5) (.seq (.var 4)) (F__law_is_map_c1 x) [5]) (.lst .nil)))) .nil)
def F__law_is_map_e3 (x : Nat → Nat) : E := (.sub (.var 2) (.meth .index (.var 3) (.cons (.var 5) .nil)))
def F__law_is_map (x : Nat → Nat) : Fn := ⟨3, 6, (.cons (.set 3 (.blt .sortedset (.cons (.var 0) .nil))) (.cons (.ite (.or_ (.not_ (.blt (.isinst 3) (.cons (.var 2) .nil))) (.cmp .ne (.blt .len (.cons (.var 2) .nil)) (.blt .len (.cons (.var 3) .nil)))) (.cons (.ret (.lit (.bl false))) .nil) .nil) (.cons (.ite (.cmp .ne (.comp (F__law_is_map_e1 x) (.nm 4) (.seq (.var 2)) (F__law_is_map_c2 x) [4]) (.lst .nil)) (.cons (.ret (.lit (.bl false))) .nil) .nil) (.cons (.ret (.cmp .eq (.meth .join (.lit (.str [])) (.cons (.comp (F__law_is_map_e3 x) (.nm 5) (.seq (.var 0)) .nil [5]) .nil)) (.var 1))) .nil))))⟩
/-- slots: 0 shape, 1 word, 2 value, 3 letters, 4 part, 5 sign -/
structure H__law_is_map (P : Prog) (x : Nat → Nat) : Prop where
  f : P.fns[x n__law_is_map]? = some (F__law_is_map x)
def F__law_right_k77_e1 (x : Nat → Nat) : E := (.blt .len (.cons (.var 10) .nil))
def F__law_right_k77_e2 (x : Nat → Nat) : E := (.blt .tuple (.cons (.comp (F__law_right_k77_e1 x) (.nm 10) (.seq (.var 7)) .nil [10]) .nil))
def F__law_right_k77_e3 (x : Nat → Nat) : E := (.blt .len (.cons (.var 10) .nil))
def F__law_right_k77_b1 (x : Nat → Nat) : Ss := (.cons (.ite (.not_ (.call (x n__law_like) (.cons (.call (x n_is_shape_map) (.cons (.var 1) (.cons (.var 2) (.cons (.var 7) .nil)))) (.cons (.call (x n__law_is_map) (.cons (.var 1) (.cons (.var 2) (.cons (.var 7) .nil)))) .nil)))) (.cons (.ret (.lit (.bl false))) .nil) .nil) .nil)
def F__law_right_k77 (x : Nat → Nat) : Fn := ⟨3, 11, (.cons (.par [(8, false), (9, false)] (.cons (.call (x n__law_maps) (.cons (.var 1) (.cons (.var 2) .nil))) (.cons (.call (x n_shape_map) (.cons (.var 1) (.cons (.var 2) .nil))) .nil))) (.cons (.set 3 (.ife (.cmp .ne (.var 8) (.lst .nil)) (.blt .min (.cons (.comp (F__law_right_k77_e2 x) (.nm 7) (.seq (.var 8)) .nil [7]) .nil)) (.lit .non))) (.cons (.ite (.not_ (.call (x n__law_like) (.cons (.lst (.cons (.call (x n_count_shape_maps) (.cons (.var 1) (.cons (.var 2) .nil))) (.cons (.cmp .is_ (.var 9) (.lit .non)) .nil))) (.cons (.lst (.cons (.blt .len (.cons (.var 8) .nil)) (.cons (.cmp .eq (.var 8) (.lst .nil)) .nil))) .nil)))) (.cons (.ret (.lit (.bl false))) .nil) .nil) (.cons (.ite (.and_ (.cmp .isnot (.var 9) (.lit .non)) (.or_ (.cmp .notin (.var 9) (.var 8)) (.or_ (.cmp .ne (.blt .tuple (.cons (.comp (F__law_right_k77_e3 x) (.nm 10) (.seq (.var 9)) .nil [10]) .nil)) (.var 3)) (.cmp .isnot (.call (x n_is_shape_map) (.cons (.var 1) (.cons (.var 2) (.cons (.var 9) .nil)))) (.lit (.bl true)))))) (.cons (.ret (.lit (.bl false))) .nil) .nil) (.cons (.set 4 (.ife (.cmp .isnot (.var 9) (.lit .non)) (.var 9) (.blt .tuple (.cons (.slc (.var 2) .nil (.cons (.blt .lenset (.cons (.var 1) .nil)) .nil)) .nil)))) (.cons (.set 5 (.bin .add (.lst (.cons (.var 4) (.cons (.rev (.var 4)) (.cons (.blt .list (.cons (.var 4) .nil)) (.cons (.slc (.var 4) (.cons (.lit (.int 1)) .nil) .nil) (.cons (.bin .add (.var 4) (.slc (.var 4) .nil (.cons (.lit (.int 1)) .nil))) (.cons (.tup (.cons (.var 2) .nil)) (.cons (.blt .tuple (.cons (.var 2) .nil)) (.cons (.lit .non) (.cons (.tup .nil) (.cons (.lit (.int 5)) (.cons (.var 2) (.cons (.bin .add (.var 4) (.tup (.cons (.lit (.str [])) .nil))) .nil))))))))))))) (.slc (.var 8) (.cons (.neg (.lit (.int 2))) .nil) .nil))) (.cons (.set 6 (.call (x n__law_roll) (.cons (.var 0) (.cons (.bin .add (.blt .len (.cons (.var 2) .nil)) (.lit (.int 1))) .nil)))) (.cons (.for_ (.nm 7) (.seq (.bin .add (.var 5) (.lst (.cons (.tup (.cons (.slc (.var 2) .nil (.cons (.var 6) .nil)) (.cons (.slc (.var 2) (.cons (.var 6) .nil) .nil) .nil))) (.cons (.call (x n__law_bent) (.cons (.var 0) (.cons (.var 4) .nil))) (.cons (.call (x n__law_bent) (.cons (.var 0) (.cons (.var 4) .nil))) .nil)))))) (F__law_right_k77_b1 x)) (.cons (.ret (.lit (.bl true))) .nil)))))))))⟩
/-- slots: 0 cup, 1 shape, 2 word, 3 first, 4 some, 5 values, 6 at, 7 value, 8 every, 9 told, 10 part -/
structure H__law_right_k77 (P : Prog) (x : Nat → Nat) : Prop where
  f : P.fns[x n__law_right_k77]? = some (F__law_right_k77 x)
  _law_bent : H__law_bent P x
  _law_is_map : H__law_is_map P x
  _law_like : H__law_like P x
  _law_maps : H__law_maps P x
  _law_roll : H__law_roll P x
  count_shape_maps : H_count_shape_maps P x
  is_shape_map : H_is_shape_map P x
  shape_map : H_shape_map P x
def F__law_stands_right_e1 (x : Nat → Nat) : E := (.tup (.cons (.var 3) (.cons (.var 5) .nil)))
def F__law_stands_right_c1 (x : Nat → Nat) : Es := (.cons (.cmp .ne (.call (x n__law_maps) (.cons (.var 0) (.cons (.slc (.var 1) (.cons (.var 3) .nil) (.cons (.var 5) .nil)) .nil))) (.lst .nil)) .nil)
def F__law_stands_right_b1 (x : Nat → Nat) : Ss := (.cons (.set 2 (.bin .add (.var 2) (.comp (F__law_stands_right_e1 x) (.nm 5) (.rng2 (.bin .add (.var 3) (.lit (.int 1))) (.bin .add (.blt .len (.cons (.var 1) .nil)) (.lit (.int 1)))) (F__law_stands_right_c1 x) [5]))) .nil)
def F__law_stands_right (x : Nat → Nat) : Fn := ⟨2, 6, (.cons (.set 2 (.lst .nil)) (.cons (.for_ (.nm 3) (.rng1 (.blt .len (.cons (.var 1) .nil))) (F__law_stands_right_b1 x)) (.cons (.set 4 (.ife (.cmp .ne (.var 2) (.lst .nil)) (.sub (.var 2) (.lit (.int 0))) (.lit .non))) (.cons (.ite (.not_ (.call (x n__law_like) (.cons (.lst (.cons (.call (x n_stands_under) (.cons (.var 0) (.cons (.var 1) .nil))) (.cons (.call (x n_under_place) (.cons (.var 0) (.cons (.var 1) .nil))) .nil))) (.cons (.lst (.cons (.cmp .isnot (.var 4) (.lit .non)) (.cons (.var 4) .nil))) .nil)))) (.cons (.ret (.lit (.bl false))) .nil) .nil) (.cons (.ret (.call (x n__law_like) (.cons (.call (x n_under_place) (.cons (.var 0) (.cons (.call (x n_usual_word) (.cons (.var 1) .nil)) .nil))) (.cons (.var 4) .nil)))) .nil)))))⟩
/-- slots: 0 shape, 1 word, 2 pairs, 3 begin, 4 due, 5 end -/
structure H__law_stands_right (P : Prog) (x : Nat → Nat) : Prop where
  f : P.fns[x n__law_stands_right]? = some (F__law_stands_right x)
  _law_like : H__law_like P x
  _law_maps : H__law_maps P x
  stands_under : H_stands_under P x
  under_place : H_under_place P x
  usual_word : H_usual_word P x
def F_law_k77_e1 (x : Nat → Nat) : E := (.call (x n__law_some) (.cons (.var 1) (.cons (.slc (.lit (.str [97, 97, 98, 99, 100])) .nil (.cons (.var 8) .nil)) .nil)))
def F_law_k77_e2 (x : Nat → Nat) : E := (.bin .add (.call (x n__law_word) (.cons (.var 1) (.cons (.lit (.int 3)) (.cons (.lit (.int 2)) .nil)))) (.lit (.str [99])))
def F_law_k77_e3 (x : Nat → Nat) : E := (.sub (.var 9) (.meth .index (.lit (.str [97, 98, 99, 100])) (.cons (.var 14) .nil)))
def F_law_k77_b1 (x : Nat → Nat) : Ss := (.cons (.ite (.not_ (.call (x n__law_right_k77) (.cons (.var 1) (.cons (.var 3) (.cons (.var 11) .nil))))) (.cons (.ret (.lit (.bl false))) .nil) .nil) .nil)
def F_law_k77_b2 (x : Nat → Nat) : Ss := (.cons (.set 3 (.meth .join (.lit (.str [])) (.cons (.comp (F_law_k77_e1 x) (.nm 4) (.rng1 (.bin .add (.lit (.int 1)) (.call (x n__law_roll) (.cons (.var 1) (.cons (.var 8) .nil))))) .nil [4]) .nil))) (.cons (.set 9 (.comp (F_law_k77_e2 x) (.nm 14) (.seq (.lit (.str [97, 98, 99, 100]))) .nil [14])) (.cons (.set 10 (.meth .join (.lit (.str [])) (.cons (.comp (F_law_k77_e3 x) (.nm 14) (.seq (.var 3)) .nil [14]) .nil))) (.cons (.for_ (.nm 11) (.seq (.tup (.cons (.var 10) (.cons (.call (x n__law_word) (.cons (.var 1) (.cons (.var 7) (.cons (.lit (.int 2)) .nil)))) .nil)))) (F_law_k77_b1 x)) .nil))))
def F_law_k77_b3 (x : Nat → Nat) : Ss := (.cons (.ite (.or_ (.not_ (.call (x n__law_stands_right) (.cons (.var 3) (.cons (.call (x n__law_word) (.cons (.var 1) (.cons (.var 7) (.cons (.lit (.int 2)) .nil)))) .nil)))) (.not_ (.call (x n__law_stands_right) (.cons (.var 3) (.cons (.call (x n__law_word) (.cons (.var 1) (.cons (.lit (.int 7)) (.cons (.lit (.int 4)) .nil)))) .nil))))) (.cons (.ret (.lit (.bl false))) .nil) .nil) .nil)
def F_law_k77_e4 (x : Nat → Nat) : E := (.call (x n__law_some) (.cons (.var 1) (.cons (.slc (.lit (.str [97, 98, 99, 100])) .nil (.cons (.bin .add (.lit (.int 2)) (.call (x n__law_roll) (.cons (.var 1) (.cons (.lit (.int 3)) .nil)))) .nil)) .nil)))
def F_law_k77_e5 (x : Nat → Nat) : E := (.call (x n__law_some) (.cons (.var 1) (.cons (.lit (.str [97, 98, 99])) .nil)))
def F_law_k77_e6 (x : Nat → Nat) : E := (.call (x n__law_some) (.cons (.var 1) (.cons (.lit (.str [97, 98, 99])) .nil)))
def F_law_k77_b4 (x : Nat → Nat) : Ss := (.cons (.set 13 (.blt .int (.cons (.bin .fdiv (.bin .mul (.var 13) (.bin .sub (.bin .sub (.var 8) (.lit (.int 1))) (.var 4))) (.bin .add (.var 4) (.lit (.int 1)))) .nil))) .nil)
def F_law_k77 (x : Nat → Nat) : Fn := ⟨1, 15, (.cons (.setCell 1 (.call (x n__law_cup) (.cons (.var 0) .nil))) (.cons (.set 2 (.lst (.cons (.call (x n_is_shape_map) (.cons (.lit (.str [97, 98, 97])) (.cons (.lit (.str [97, 98, 99, 97, 98])) (.cons (.tup (.cons (.lit (.str [97, 98])) (.cons (.lit (.str [99])) .nil))) .nil)))) (.cons (.call (x n_is_shape_map) (.cons (.lit (.str [97, 98, 97])) (.cons (.lit (.str [97, 98, 99, 97, 98])) (.cons (.tup (.cons (.lit (.str [97])) (.cons (.lit (.str [98, 99, 97])) .nil))) .nil)))) (.cons (.call (x n_shape_map) (.cons (.lit (.str [97, 97])) (.cons (.lit (.str [97, 98, 97, 98])) .nil))) (.cons (.call (x n_shape_map) (.cons (.lit (.str [97, 98, 97])) (.cons (.lit (.str [97, 97, 98, 97, 97])) .nil))) .nil)))))) (.cons (.set 2 (.bin .add (.var 2) (.lst (.cons (.call (x n_shape_map) (.cons (.lit (.str [97, 97])) (.cons (.lit (.str [97, 98, 97])) .nil))) (.cons (.call (x n_count_shape_maps) (.cons (.lit (.str [97, 98, 97])) (.cons (.lit (.str [97, 97, 98, 97, 97])) .nil))) (.cons (.call (x n_count_shape_maps) (.cons (.lit (.str [97, 98])) (.cons (.lit (.str [97, 98, 99, 100])) .nil))) (.cons (.call (x n_stands_under) (.cons (.lit (.str [97, 97])) (.cons (.lit (.str [97, 98, 99])) .nil))) .nil))))))) (.cons (.set 2 (.bin .add (.var 2) (.lst (.cons (.call (x n_stands_under) (.cons (.lit (.str [97, 97])) (.cons (.lit (.str [97, 98, 99, 98, 99])) .nil))) (.cons (.call (x n_under_place) (.cons (.lit (.str [97, 97])) (.cons (.lit (.str [97, 98, 99, 98, 99])) .nil))) (.cons (.call (x n_count_shape_maps) (.cons (.lit (.str [97])) (.cons (.lit (.str [])) .nil))) (.cons (.call (x n_shape_map) (.cons (.lit (.str [97, 97])) (.cons (.lit (.str [97, 98, 97, 99])) .nil))) .nil))))))) (.cons (.ite (.not_ (.call (x n__law_like) (.cons (.var 2) (.cons (.lst (.cons (.lit (.bl true)) (.cons (.lit (.bl false)) (.cons (.tup (.cons (.lit (.str [97, 98])) .nil)) (.cons (.tup (.cons (.lit (.str [97])) (.cons (.lit (.str [97, 98, 97])) .nil))) (.cons (.lit .non) (.cons (.lit (.int 2)) (.cons (.lit (.int 3)) (.cons (.lit (.bl false)) (.cons (.lit (.bl true)) (.cons (.tup (.cons (.lit (.int 1)) (.cons (.lit (.int 5)) .nil))) (.cons (.lit (.int 0)) (.cons (.lit .non) .nil))))))))))))) .nil)))) (.cons (.ret (.lit (.bl false))) .nil) .nil) (.cons (.for_ (.tp [7, 8]) (.seq (.tup (.cons (.tup (.cons (.lit (.int 6)) (.cons (.lit (.int 2)) .nil))) (.cons (.tup (.cons (.lit (.int 10)) (.cons (.lit (.int 3)) .nil))) (.cons (.tup (.cons (.lit (.int 12)) (.cons (.lit (.int 4)) .nil))) (.cons (.tup (.cons (.lit (.int 20)) (.cons (.lit (.int 5)) .nil))) .nil)))))) (F_law_k77_b2 x)) (.cons (.for_ (.tp [3, 7]) (.seq (.tup (.cons (.tup (.cons (.lit (.str [97, 97])) (.cons (.lit (.int 12)) .nil))) (.cons (.tup (.cons (.lit (.str [97, 98, 97])) (.cons (.lit (.int 8)) .nil))) (.cons (.tup (.cons (.call (x n__law_some) (.cons (.var 1) (.cons (.lst (.cons (.lit (.str [97, 98, 97, 98])) (.cons (.lit (.str [97, 97, 98])) (.cons (.lit (.str [97, 98, 98, 97])) (.cons (.lit (.str [97, 97, 97])) .nil))))) .nil))) (.cons (.lit (.int 8)) .nil))) .nil))))) (F_law_k77_b3 x)) (.cons (.set 3 (.meth .join (.lit (.str [])) (.cons (.comp (F_law_k77_e4 x) (.nm 4) (.rng1 (.bin .add (.lit (.int 3)) (.call (x n__law_roll) (.cons (.var 1) (.cons (.lit (.int 4)) .nil))))) .nil [4]) .nil))) (.cons (.ite (.not_ (.call (x n__law_stands_right) (.cons (.var 3) (.cons (.call (x n__law_some) (.cons (.var 1) (.cons (.lst (.cons (.call (x n__law_word) (.cons (.var 1) (.cons (.lit (.int 14)) (.cons (.lit (.int 2)) .nil)))) (.cons (.meth .join (.lit (.str [])) (.cons (.comp (F_law_k77_e5 x) (.nm 4) (.rng1 (.lit (.int 14))) .nil [4]) .nil)) .nil))) .nil))) .nil)))) (.cons (.ret (.lit (.bl false))) .nil) .nil) (.cons (.par [(8, false), (12, false)] (.cons (.bin .add (.lit (.int 1)) (.call (x n__law_roll) (.cons (.var 1) (.cons (.lit (.int 40)) .nil)))) (.cons (.bin .add (.lit (.int 1)) (.call (x n__law_roll) (.cons (.var 1) (.cons (.lit (.int 4)) .nil)))) .nil))) (.cons (.par [(11, false), (13, false)] (.cons (.meth .join (.lit (.str [])) (.cons (.comp (F_law_k77_e6 x) (.nm 4) (.rng1 (.var 8)) .nil [4]) .nil)) (.cons (.lit (.int 1)) .nil))) (.cons (.for_ (.nm 4) (.rng1 (.bin .sub (.var 12) (.lit (.int 1)))) (F_law_k77_b4 x)) (.cons (.set 5 (.bin .add (.lit (.int 1)) (.call (x n__law_roll) (.cons (.var 1) (.cons (.lit (.int 6)) .nil))))) (.cons (.set 6 (.bin .add (.call (x n__law_word) (.cons (.var 1) (.cons (.lit (.int 5)) (.cons (.lit (.int 3)) .nil)))) (.lit (.str [100])))) (.cons (.set 2 (.lst (.cons (.call (x n_count_shape_maps) (.cons (.slc (.lit (.str [97, 98, 99, 100])) .nil (.cons (.var 12) .nil)) (.cons (.var 11) .nil))) (.cons (.call (x n_shape_map) (.cons (.bin .mul (.lit (.str [97])) (.var 5)) (.cons (.bin .mul (.var 6) (.var 5)) .nil))) (.cons (.call (x n_is_piece) (.cons (.var 11) (.cons (.slc (.var 11) .nil (.cons (.lit (.int 1)) .nil)) .nil))) .nil))))) (.cons (.ret (.call (x n__law_like) (.cons (.var 2) (.cons (.lst (.cons (.ife (.cmp .le (.var 12) (.var 8)) (.var 13) (.lit (.int 0))) (.cons (.tup (.cons (.var 6) .nil)) (.cons (.lit (.bl true)) .nil)))) .nil)))) .nil))))))))))))))))⟩
/-- slots: 0 script, 1 cup, 2 told, 3 shape, 4 at, 5 times, 6 part, 7 most, 8 size, 9 parts, 10 made, 11 word, 12 many, 13 cuts, 14 sign -/
structure H_law_k77 (P : Prog) (x : Nat → Nat) : Prop where
  f : P.fns[x n_law_k77]? = some (F_law_k77 x)
  _law_cup : H__law_cup P x
  _law_like : H__law_like P x
  _law_right_k77 : H__law_right_k77 P x
  _law_roll : H__law_roll P x
  _law_some : H__law_some P x
  _law_stands_right : H__law_stands_right P x
  _law_word : H__law_word P x
  count_shape_maps : H_count_shape_maps P x
  is_piece : H_is_piece P x
  is_shape_map : H_is_shape_map P x
  shape_map : H_shape_map P x
  stands_under : H_stands_under P x
  under_place : H_under_place P x
def F_is_integer (x : Nat → Nat) : Fn := ⟨1, 1, (.cons (.ret (.and_ (.blt (.isinst 0) (.cons (.var 0) .nil)) (.not_ (.blt (.isinst 1) (.cons (.var 0) .nil))))) .nil)⟩
/-- slots: 0 value -/
structure H_is_integer (P : Prog) (x : Nat → Nat) : Prop where
  f : P.fns[x n_is_integer]? = some (F_is_integer x)
def F_is_whole (x : Nat → Nat) : Fn := ⟨3, 3, (.cons (.ret (.and_ (.call (x n_is_integer) (.cons (.var 0) .nil)) (.chain .le .le (.var 1) (.var 0) (.var 2)))) .nil)⟩
/-- slots: 0 value, 1 low, 2 high -/
structure H_is_whole (P : Prog) (x : Nat → Nat) : Prop where
  f : P.fns[x n_is_whole]? = some (F_is_whole x)
  is_integer : H_is_integer P x
def F_need_whole (x : Nat → Nat) : Fn := ⟨3, 3, (.cons (.ite (.not_ (.call (x n_is_whole) (.cons (.var 0) (.cons (.var 1) (.cons (.var 2) .nil))))) (.cons (.raise 3 (.cons (.lit (.str [110, 111, 32, 115, 117, 99, 104, 32, 110, 117, 109, 98, 101, 114])) .nil)) .nil) .nil) .nil)⟩
/-- slots: 0 value, 1 low, 2 high -/
structure H_need_whole (P : Prog) (x : Nat → Nat) : Prop where
  f : P.fns[x n_need_whole]? = some (F_need_whole x)
  is_whole : H_is_whole P x
def F_need_pattern (x : Nat → Nat) : Fn := ⟨1, 1, (.cons (.ite (.not_ (.call (x n_is_string_of) (.cons (.var 0) (.cons (.bin .add (.glob (x c_LETTERS)) (.glob (x c_OPEN))) (.cons (.lit (.int 0)) (.cons (.glob (x c_MOST)) .nil)))))) (.cons (.raise 9 (.cons (.lit (.str [110, 111, 32, 112, 97, 116, 116, 101, 114, 110])) .nil)) .nil) .nil) .nil)⟩
/-- slots: 0 value -/
structure H_need_pattern (P : Prog) (x : Nat → Nat) : Prop where
  f : P.fns[x n_need_pattern]? = some (F_need_pattern x)
  is_string_of : H_is_string_of P x
  c_LETTERS : P.consts[x c_LETTERS]? = some (.str [97, 98, 99, 100, 101, 102, 103, 104])
  c_MOST : P.consts[x c_MOST]? = some (.int 200)
  c_OPEN : P.consts[x c_OPEN]? = some (.str [63])
def F_fits_at_e1 (x : Nat → Nat) : E := (.cmp .in_ (.var 4) (.tup (.cons (.glob (x c_OPEN)) (.cons (.sub (.var 1) (.bin .add (.var 2) (.var 3))) .nil))))
def F_fits_at (x : Nat → Nat) : Fn := ⟨3, 5, (.cons (.ret (.blt .all (.cons (.comp (F_fits_at_e1 x) (.tp [3, 4]) (.enum (.var 0)) .nil [3, 4]) .nil))) .nil)⟩
/-- slots: 0 pattern, 1 word, 2 place, 3 at, 4 sign -/
structure H_fits_at (P : Prog) (x : Nat → Nat) : Prop where
  f : P.fns[x n_fits_at]? = some (F_fits_at x)
  c_OPEN : P.consts[x c_OPEN]? = some (.str [63])
def F_is_pattern (x : Nat → Nat) : Fn := ⟨1, 1, (.cons (.ret (.call (x n_is_string_of) (.cons (.var 0) (.cons (.bin .add (.glob (x c_LETTERS)) (.glob (x c_OPEN))) (.cons (.lit (.int 0)) (.cons (.glob (x c_MOST)) .nil)))))) .nil)⟩
/-- slots: 0 value -/
structure H_is_pattern (P : Prog) (x : Nat → Nat) : Prop where
  f : P.fns[x n_is_pattern]? = some (F_is_pattern x)
  is_string_of : H_is_string_of P x
  c_LETTERS : P.consts[x c_LETTERS]? = some (.str [97, 98, 99, 100, 101, 102, 103, 104])
  c_MOST : P.consts[x c_MOST]? = some (.int 200)
  c_OPEN : P.consts[x c_OPEN]? = some (.str [63])
def F_does_fit (x : Nat → Nat) : Fn := ⟨2, 2, (.cons (.expr (.call (x n_need_pattern) (.cons (.var 0) .nil))) (.cons (.expr (.call (x n_need_word) (.cons (.var 1) .nil))) (.cons (.ret (.and_ (.cmp .eq (.blt .len (.cons (.var 0) .nil)) (.blt .len (.cons (.var 1) .nil))) (.call (x n_fits_at) (.cons (.var 0) (.cons (.var 1) (.cons (.lit (.int 0)) .nil)))))) .nil)))⟩
/-- slots: 0 pattern, 1 word -/
structure H_does_fit (P : Prog) (x : Nat → Nat) : Prop where
  f : P.fns[x n_does_fit]? = some (F_does_fit x)
  fits_at : H_fits_at P x
  need_pattern : H_need_pattern P x
  need_word : H_need_word P x
end Cw

end
section
set_option linter.all false
set_option maxRecDepth 100000
set_option maxHeartbeats 1000000
/-! Cy1: the defs that all laws share -/
namespace Cw
def LT : List Nat := [97, 98, 99, 100, 101, 102, 103, 104]
@[simp] theorem fold_LT : ([97, 98, 99, 100, 101, 102, 103, 104] : List Nat) = LT := rfl
theorem lt_len : LT.length = 8 := rfl
theorem lt_size : LT.length ≤ sizeL := by decide
theorem pred_of {k : Nat} (h : 1 ≤ k) : ∃ j, k = j + 1 := ⟨k - 1, by omega⟩
/-- no cell -/
def noCel : W → Prop
  | .cel _ => False
  | .dct _ _ => False
  | _ => True
theorem noCel.ne {w : W} (h : noCel w) (n : Nat) : w ≠ .cel n := fun e => by rw [e] at h; exact h
/-- what the judging defs take -/
def okV : W → Prop
  | .cel _ => False
  | .dct _ _ => False
  | .str s => s.length ≤ sizeL
  | .tup xs => xs.length ≤ sizeL
  | _ => True
theorem okV.cel {w : W} (h : okV w) : noCel w := by cases w <;> first | trivial | exact h
def W.isInt : W → Bool
  | .int _ => true
  | _ => false
def whole (lo hi : Int) : W → Bool
  | .int i => decide (lo ≤ i) && decide (i ≤ hi)
  | _ => false
theorem whole_int {lo hi i : Int} (h1 : lo ≤ i) (h2 : i ≤ hi) : whole lo hi (.int i) = true := by simp [whole, h1, h2]
def strOf (signs : List Nat) (lo hi : Int) : W → Bool
  | .str s => decide (lo ≤ s.length) && decide (s.length ≤ hi) && s.all fun x => decide (x ∈ signs)
  | _ => false
def tupOf (lo hi : Int) : W → Bool
  | .tup xs => decide (lo ≤ xs.length) && decide (xs.length ≤ hi)
  | _ => false
section
variable {P : Prog} {F : Nat} {x : Nat → Nat} {k : Nat} {c : Cells} {w : W}
theorem run_is_integer (h : H_is_integer P x) (hw : noCel w) (hk : 1 ≤ k) : run P F k (x n_is_integer) [w] c = .ok (.w (.bl (W.isInt w))) c := by
  obtain ⟨k, rfl⟩ := pred_of hk
  refine run_fn h.f rfl ?_ rfl
  cases w <;> first | rfl | exact hw.elim
theorem run_is_whole (h : H_is_whole P x) (lo hi : Int) (hw : noCel w) (hk : 2 ≤ k) : run P F k (x n_is_whole) [w, .int lo, .int hi] c = .ok (.w (.bl (whole lo hi w))) c := by
  obtain ⟨k, rfl⟩ := pred_of (k := k) (by omega)
  refine run_fn h.f rfl ?_ rfl
  have q := run_is_integer (F := F) (k := k) (c := c) h.is_integer hw (by omega)
  cases w <;> simp [F_is_whole, q, whole, W.isInt]
  split <;> simp_all
  omega
theorem run_need_whole (h : H_need_whole P x) {lo hi : Int} (hw : whole lo hi w = true) (hk : 3 ≤ k) : run P F k (x n_need_whole) [w, .int lo, .int hi] c = .ok (.w .non) c := by
  obtain ⟨k, rfl⟩ := pred_of (k := k) (by omega)
  refine run_fn h.f rfl ?_ rfl
  have hn : noCel w := by cases w <;> first | trivial | cases hw
  have q := run_is_whole (F := F) (k := k) (c := c) h.is_whole lo hi hn (by omega)
  simp [F_need_whole, q, hw]
theorem run_is_string_of (h : H_is_string_of P x) (signs : List Nat) (lo hi : Int) (hw : okV w) (hk : 1 ≤ k) : run P F k (x n_is_string_of) [w, .str signs, .int lo, .int hi] c = .ok (.w (.bl (strOf signs lo hi w))) c := by
  obtain ⟨k, rfl⟩ := pred_of hk
  refine run_fn h.f rfl ?_ rfl
  cases w with
  | str s =>
    have hs : s.length ≤ sizeL := hw
    have hc : compS P (run P F k) (F_is_string_of_e1 x) (.nm 4) .nil [4] [.val (.str s), .val (.str signs), .val (.int lo), .val (.int hi), .none] (s.map fun x => .str [x]) c = .ok (s.map fun x => .bl (decide (x ∈ signs))) c :=
      compS_map fun y hy => ⟨_, rfl, rfl, by simp [elV, F_is_string_of_e1, wipeS]⟩
    simp [F_is_string_of, isinst, len_str hs, hs, hc, strOf]
    split
    · split <;> simp_all <;> (intros; omega)
    · simp_all
      intros; omega
  | _ => first | rfl | exact hw.elim
theorem run_is_tuple_of (h : H_is_tuple_of P x) (lo hi : Int) (hw : okV w) (hk : 1 ≤ k) : run P F k (x n_is_tuple_of) [w, .int lo, .int hi] c = .ok (.w (.bl (tupOf lo hi w))) c := by
  obtain ⟨k, rfl⟩ := pred_of hk
  refine run_fn h.f rfl ?_ rfl
  cases w with
  | tup xs =>
    simp [F_is_tuple_of, isinst, tupOf]
    split <;> simp_all <;> (intros; omega)
  | _ => first | rfl | exact hw.elim
theorem run_fits_word (h : H_fits_word P x) (hw : okV w) (hk : 2 ≤ k) : run P F k (x n_fits_word) [w] c = .ok (.w (.bl (strOf LT 0 200 w))) c := by
  obtain ⟨k, rfl⟩ := pred_of (k := k) (by omega)
  refine run_fn h.f rfl ?_ rfl
  have q := run_is_string_of (F := F) (k := k) (c := c) h.is_string_of LT 0 200 hw (by omega)
  simp [F_fits_word, h.c_LETTERS, h.c_MOST, q]
theorem run_need_word (h : H_need_word P x) (hw : strOf LT 0 200 w = true) (hk : 3 ≤ k) : run P F k (x n_need_word) [w] c = .ok (.w .non) c := by
  obtain ⟨k, rfl⟩ := pred_of (k := k) (by omega)
  refine run_fn h.f rfl ?_ rfl
  have ho : okV w := by
    cases w <;> first | (cases hw; done) | skip
    rename_i s
    simp only [strOf, Bool.and_eq_true, decide_eq_true_eq] at hw
    show s.length ≤ sizeL
    unfold sizeL
    omega
  have q := run_fits_word (F := F) (k := k) (c := c) h.fits_word ho (by omega)
  simp [F_need_word, q, hw]
/-! ### drawing -/
def Cup (c : Cells) : Prop := ∃ a b : Int, c = [[.int a, .int b]] ∧ 0 ≤ a ∧ 0 ≤ b ∧ b < 4294967296
theorem cup_len {c c' : Cells} (h : Cup c) (h' : Cup c') : c'.length = c.length := by
  obtain ⟨a, b, rfl, _⟩ := h
  obtain ⟨a2, b2, rfl, _⟩ := h'
  rfl
theorem run_cup (ns : List Int) (hn : ns.length ≤ 63) (h : H__law_cup P x) (hk : 1 ≤ k) : ∃ a b : Int, run P F k (x n__law_cup) [.lst (ns.map .int)] c = .ok (.own (.lst [.int a, .int b])) c ∧ 0 ≤ a ∧ 0 ≤ b ∧ b < 4294967296 := by
  obtain ⟨k, rfl⟩ := pred_of hk
  have hz : ns.length + 1 ≤ sizeL := by unfold sizeL; omega
  obtain ⟨z, hx⟩ : ∃ z : Int, (ns.map W.int ++ [W.int 0])[0]? = some (.int z) := by
    cases ns with
    | nil => exact ⟨0, rfl⟩
    | cons y r => exact ⟨y, rfl⟩
  have hat : atI (ns.map W.int ++ [W.int 0]) 0 = some (.int z) := by
    have := atI_nat (l := ns.map W.int ++ [W.int 0]) (n := 0) (by simp)
    rw [show ((0 : Nat) : Int) = 0 from rfl] at this
    rw [this, hx]
  have hadd : binop .add (.lst (ns.map W.int)) (.lst [.int 0]) = some (.own (.lst (ns.map W.int ++ [W.int 0]))) := b_addL (by simpa using hz)
  have hpow : binop .pow (.int 10) (.int 18) = some (.w (.int 1000000000000000000)) := rfl
  generalize hy : (if z < 0 then -z else z) = y
  have hy0 : 0 ≤ y := by rw [← hy]; split <;> omega
  have hm : binop .mul (.int y) (.int 283) = some (.w (.int (y * 283))) := b_mulI (.inr (by decide))
  have hd : binop .fdiv (.int y) (.int 73) = some (.w (.int (y / 73))) := b_fdivI (by decide) (by decide)
  have hmod : binop .mod (.int (y * 283 + 3907)) (.int 2077503167) = some (.w (.int ((y * 283 + 3907) % 2077503167))) := b_modI (by decide)
  refine ⟨if 1000000000000000000 ≤ y then y / 73 else 0, (y * 283 + 3907) % 2077503167 + 167, run_fn (fn := F__law_cup x) h.f rfl ?_ rfl, ?_, ?_, ?_⟩
  · by_cases h9 : 1000000000000000000 ≤ y
    · simp [F__law_cup, ss_cons, hadd, hat, hy, hpow, hm, hd, hmod, h9]
    · simp [F__law_cup, ss_cons, hadd, hat, hy, hpow, hm, hd, hmod, h9]
  · split <;> omega
  · omega
  · omega
theorem atI0 {x y : W} : atI [x, y] 0 = some x := rfl
theorem atI1 {x y : W} : atI [x, y] 1 = some y := rfl
theorem run_roll (h : H__law_roll P x) {n : Int} (h0 : 0 < n) (hn : n ≤ 1000000000) (hc : Cup c) (hk : 1 ≤ k) : ∃ (r : Int) (c' : Cells), run P F k (x n__law_roll) [.cel 0, .int n] c = .ok (.w (.int r)) c' ∧ Cup c' ∧ 0 ≤ r ∧ r < n := by
  obtain ⟨k, rfl⟩ := pred_of hk
  obtain ⟨a, b, rfl, ha, hb, hb2⟩ := hc
  have hg0 : ∀ a b : Int, getitem [[.int a, .int b]] (.cel 0) (.int 0) = some (.int a) := fun _ _ => rfl
  have hg1 : ∀ a b : Int, getitem [[.int a, .int b]] (.cel 0) (.int 1) = some (.int b) := fun _ _ => rfl
  by_cases hp : 0 < a
  · have hm : binop .mod (.int a) (.int n) = some (.w (.int (a % n))) := b_modI h0
    have hd : binop .fdiv (.int a) (.int n) = some (.w (.int (a / n))) := b_fdivI h0 (by omega)
    have hs : storeM [.val (.cel 0), .val (.int n), .none, .val (.int (a % n))] 0 (.int 0) (.int (a / n)) [[.int a, .int b]] = .ok [.val (.cel 0), .val (.int n), .none, .val (.int (a % n))] [[.int (a / n), .int b]] := rfl
    refine ⟨a % n, [[.int (a / n), .int b]], run_fn (fn := F__law_roll x) h.f rfl ?_ rfl, ⟨a / n, b, rfl, Int.ediv_nonneg ha (by omega), hb, hb2⟩, Int.emod_nonneg _ (by omega), Int.emod_lt_of_pos _ h0⟩
    simp [F__law_roll, ss_cons, hg0, hp, hm, hd, hs]
  · generalize hb' : (b * 31051 + 7993) % 2147483543 = b'
    have hb'0 : 0 ≤ b' ∧ b' < 2147483543 := by omega
    generalize hdp : (b' * (b' + 229)) % 2147483587 = d
    have hd0 : 0 ≤ d ∧ d < 2147483587 := by
      rw [← hdp]
      exact ⟨Int.emod_nonneg _ (by decide), Int.emod_lt_of_pos _ (by decide)⟩
    have m1 : binop .mul (.int b) (.int 31051) = some (.w (.int (b * 31051))) := b_mulI (.inr (by decide))
    have m2 : binop .mod (.int (b * 31051 + 7993)) (.int 2147483543) = some (.w (.int b')) := by rw [b_modI (by decide), hb']
    have m3 : binop .mul (.int b') (.int (b' + 229)) = some (.w (.int (b' * (b' + 229)))) := b_mulI (.inl (by omega))
    have m4 : binop .mod (.int (b' * (b' + 229))) (.int 2147483587) = some (.w (.int d)) := by rw [b_modI (by decide), hdp]
    have m5 : binop .fdiv (.int d) (.int 821) = some (.w (.int (d / 821))) := b_fdivI (by decide) (by decide)
    have m6 : binop .mod (.int (d / 821)) (.int n) = some (.w (.int ((d / 821) % n))) := b_modI h0
    have hs : storeM [.val (.cel 0), .val (.int n), .none, .none] 0 (.int 1) (.int b') [[.int a, .int b]] = .ok [.val (.cel 0), .val (.int n), .none, .none] [[.int a, .int b']] := rfl
    refine ⟨(d / 821) % n, [[.int a, .int b']], run_fn (fn := F__law_roll x) h.f rfl ?_ rfl, ⟨a, b', rfl, ha, hb'0.1, by omega⟩, Int.emod_nonneg _ (by omega), Int.emod_lt_of_pos _ h0⟩
    simp [F__law_roll, ss_cons, hg0, hg1, hp, m1, m2, m3, m4, m5, m6, hs]
theorem run_someL (h : H__law_some P x) {xs : List W} (h0 : 0 < xs.length) (hn : xs.length ≤ 1000000) (hc : Cup c) (hk : 2 ≤ k) : ∃ (i : Nat) (hi : i < xs.length) (c' : Cells), run P F k (x n__law_some) [.cel 0, .lst xs] c = .ok (.w xs[i]) c' ∧ Cup c' := by
  obtain ⟨k, rfl⟩ := pred_of (k := k) (by omega)
  obtain ⟨r, c', e, hc', r0, r1⟩ := run_roll (F := F) (k := k) h._law_roll (n := (xs.length : Int)) (by omega) (by omega) hc (by omega)
  obtain ⟨i, rfl⟩ : ∃ i : Nat, r = (i : Int) := ⟨r.toNat, by omega⟩
  have hi : i < xs.length := by omega
  have hat := atI_nat hi
  rw [List.getElem?_eq_getElem hi] at hat
  refine ⟨i, hi, c', run_fn h.f rfl ?_ (cup_len hc hc'), hc'⟩
  simp [F__law_some, e, hat]
theorem run_someS (h : H__law_some P x) {s : List Nat} (h0 : 0 < s.length) (hn : s.length ≤ 1000000) (hc : Cup c) (hk : 2 ≤ k) : ∃ (y : Nat) (c' : Cells), run P F k (x n__law_some) [.cel 0, .str s] c = .ok (.w (.str [y])) c' ∧ Cup c' ∧ y ∈ s := by
  obtain ⟨k, rfl⟩ := pred_of (k := k) (by omega)
  have hz : s.length ≤ sizeL := by unfold sizeL; omega
  obtain ⟨r, c', e, hc', r0, r1⟩ := run_roll (F := F) (k := k) h._law_roll (n := (s.length : Int)) (by omega) (by omega) hc (by omega)
  obtain ⟨i, rfl⟩ : ∃ i : Nat, r = (i : Int) := ⟨r.toNat, by omega⟩
  have hi : i < s.length := by omega
  have hat := atI_nat hi
  rw [List.getElem?_eq_getElem hi] at hat
  refine ⟨s[i], c', run_fn h.f rfl ?_ (cup_len hc hc'), hc', List.getElem_mem hi⟩
  simp [F__law_some, e, get_str hz, len_str hz, hat]
def sortOf : W → Int
  | .non => 0 | .bl _ => 1 | .int _ => 2 | .str _ => 3 | .tup _ => 4 | .lst _ => 5 | _ => 6
theorem run_sort (h : H__law_sort P x) (hw : noCel w) (hk : 1 ≤ k) : run P F k (x n__law_sort) [w] c = .ok (.w (.int (sortOf w))) c := by
  obtain ⟨k, rfl⟩ := pred_of hk
  refine run_fn h.f rfl ?_ rfl
  cases w <;> first | rfl | exact hw.elim
/-- values that may be held against one another, so deep at most -/
def lk : Nat → W → Prop
  | _, .non => True
  | _, .bl _ => True
  | _, .int _ => True
  | _, .str _ => True
  | n + 1, .tup xs => xs.length ≤ sizeL ∧ ∀ x ∈ xs, lk n x
  | n + 1, .lst xs => xs.length ≤ sizeL ∧ ∀ x ∈ xs, lk n x
  | _, _ => False
theorem lk_cel {n : Nat} {w : W} (h : lk n w) : noCel w := by
  cases w <;> first | trivial | (cases n <;> exact h)
theorem in45_0 : cmpop .in_ (.int 0) (.tup [.int 4, .int 5]) = some false := rfl
theorem in45_1 : cmpop .in_ (.int 1) (.tup [.int 4, .int 5]) = some false := rfl
theorem in45_2 : cmpop .in_ (.int 2) (.tup [.int 4, .int 5]) = some false := rfl
theorem in45_3 : cmpop .in_ (.int 3) (.tup [.int 4, .int 5]) = some false := rfl
theorem in45_4 : cmpop .in_ (.int 4) (.tup [.int 4, .int 5]) = some true := rfl
theorem in45_5 : cmpop .in_ (.int 5) (.tup [.int 4, .int 5]) = some true := rfl
theorem eq_non : cmpop .eq .non .non = some true := rfl
theorem eq_bl {b : Bool} : cmpop .eq (.bl b) (.bl b) = some true := by cases b <;> rfl
theorem eq_nil : cmpop .eq (.lst []) (.lst []) = some true := rfl
theorem run_like_eq (h : H__law_like P x) : ∀ (n : Nat) {w : W}, lk n w → ∀ {k : Nat} {c : Cells}, n + 2 ≤ k → run P F k (x n__law_like) [w, w] c = .ok (.w (.bl true)) c := by
  intro n
  induction n with
  | zero =>
    intro w hl k c hk
    obtain ⟨k, rfl⟩ := pred_of (k := k) (by omega)
    refine run_fn h.f rfl ?_ rfl
    have q := run_sort (F := F) (k := k) (c := c) h._law_sort (lk_cel hl) (by omega)
    cases w <;> first | exact hl.elim | skip
    all_goals simp [F__law_like, ss_cons, q, sortOf, in45_0, in45_1, in45_2, in45_3, eq_non, eq_bl]
  | succ n ih =>
    intro w hl k c hk
    obtain ⟨k, rfl⟩ := pred_of (k := k) (by omega)
    refine run_fn h.f rfl ?_ rfl
    have q := run_sort (F := F) (k := k) (c := c) h._law_sort (lk_cel hl) (by omega)
    have seq : ∀ (xs : List W), (∀ y ∈ xs, lk n y) → ∀ (sl : Slots), (∀ p ∈ xs, ∃ s, bindTg (.tp [3, 4]) (.tup [p, p]) (wipeS sl [3, 4]) = some s ∧ s[3]? = some (.val p) ∧ s[4]? = some (.val p)) →
        compS P (run P F k) (F__law_like_e1 x) (.tp [3, 4]) (F__law_like_c1 x) [3, 4] sl (zipW xs xs) c = .ok [] c := by
      intro xs hx sl hs
      have hz : zipW xs xs = xs.map fun p => .tup [p, p] := by
        have := zipW_map (f := fun w : W => w) (g := fun w : W => w) (a := xs) (b := xs)
        rw [List.map_id'] at this
        rw [this]
        clear this hx hs
        induction xs with
        | nil => rfl
        | cons y xs ih => simp [ih]
      rw [hz]
      have := compS_filter (P := P) (R := run P F k) (el := F__law_like_e1 x) (cond := F__law_like_c1 x) (own := [3, 4]) (sl := sl) (c := c) (t := .tp [3, 4]) (i := fun p : W => .tup [p, p]) (f := fun w => w) (p := fun _ => false) (l := xs) (fun p hp => by
        obtain ⟨s, h1, h2, h3⟩ := hs p hp
        have hl := ih (hx p hp) (k := k) (c := c) (by omega)
        refine ⟨s, h1, ?_, fun z => by cases z⟩
        simp [F__law_like_c1, h2, h3, hl])
      rw [this]
      simp
    cases w with
    | tup xs =>
      have e := seq xs hl.2 [.val (.tup xs), .val (.tup xs), .val (.int 4), .none, .none] fun p hp => ⟨_, rfl, rfl, rfl⟩
      simp [F__law_like, ss_cons, q, sortOf, in45_4, in45_5, eq_nil, e]
    | lst xs =>
      have e := seq xs hl.2 [.val (.lst xs), .val (.lst xs), .val (.int 5), .none, .none] fun p hp => ⟨_, rfl, rfl, rfl⟩
      simp [F__law_like, ss_cons, q, sortOf, in45_4, in45_5, eq_nil, e]
    | non => simp [F__law_like, ss_cons, q, sortOf, in45_0, in45_1, in45_2, in45_3, eq_non, eq_bl]
    | bl b => simp [F__law_like, ss_cons, q, sortOf, in45_0, in45_1, in45_2, in45_3, eq_non, eq_bl]
    | int b => simp [F__law_like, ss_cons, q, sortOf, in45_0, in45_1, in45_2, in45_3, eq_non, eq_bl]
    | str b => simp [F__law_like, ss_cons, q, sortOf, in45_0, in45_1, in45_2, in45_3, eq_non, eq_bl]
    | _ => exact hl.elim
/-- .. decided: values that may be held against one another -/
def lkB : Nat → W → Bool
  | _, .non | _, .bl _ | _, .int _ | _, .str _ => true
  | n + 1, .tup xs => decide (xs.length ≤ 64) && xs.all (lkB n)
  | n + 1, .lst xs => decide (xs.length ≤ 64) && xs.all (lkB n)
  | _, _ => false
theorem lk_of : ∀ (n : Nat) {w : W}, lkB n w = true → lk n w
  | 0, w, h => by cases w <;> first | trivial | cases h
  | n + 1, w, h => by
    cases w with
    | tup xs =>
      have h := (Bool.and_eq_true _ _).mp h
      exact ⟨size_le (of_decide_eq_true h.1), fun y hy => lk_of n (List.all_eq_true.mp h.2 y hy)⟩
    | lst xs =>
      have h := (Bool.and_eq_true _ _).mp h
      exact ⟨size_le (of_decide_eq_true h.1), fun y hy => lk_of n (List.all_eq_true.mp h.2 y hy)⟩
    | non => trivial
    | bl _ => trivial
    | int _ => trivial
    | str _ => trivial
    | _ => cases h
theorem lk_lst {n : Nat} {xs : List W} (hl : xs.length ≤ sizeL) (h : ∀ x ∈ xs, lk n x) : lk (n + 1) (.lst xs) := ⟨hl, h⟩
theorem lk_tup {n : Nat} {xs : List W} (hl : xs.length ≤ sizeL) (h : ∀ x ∈ xs, lk n x) : lk (n + 1) (.tup xs) := ⟨hl, h⟩
theorem lk_up : ∀ {n m : Nat} {w : W}, lk n w → n ≤ m → lk m w := by
  intro n
  induction n with
  | zero => intro m w h _; cases w <;> first | (cases m <;> trivial) | exact h.elim
  | succ n ih =>
    intro m w h hm
    obtain ⟨m, rfl⟩ := pred_of (k := m) (by omega)
    cases w with
    | tup xs => exact ⟨h.1, fun y hy => ih (h.2 y hy) (by omega)⟩
    | lst xs => exact ⟨h.1, fun y hy => ih (h.2 y hy) (by omega)⟩
    | non => trivial
    | bl _ => trivial
    | int _ => trivial
    | str _ => trivial
    | _ => exact h.elim
end
end Cw

end
section
set_option linter.all false
set_option maxRecDepth 100000
set_option maxHeartbeats 1000000
/-! Cy2: drawn words, all words -/
namespace Cw
/-- of the first letters, so many -/
def Ws (n : Nat) (T : List Nat) : Prop := ∀ y ∈ T, y ∈ LT.take n
theorem Ws.nil {n : Nat} : Ws n [] := fun y h => by cases h
theorem Ws.take {n m : Nat} {T : List Nat} (h : Ws n T) : Ws n (T.take m) := fun y hy => h y (List.mem_of_mem_take hy)
theorem Ws.drop {n m : Nat} {T : List Nat} (h : Ws n T) : Ws n (T.drop m) := fun y hy => h y (List.mem_of_mem_drop hy)
theorem Ws.app {n : Nat} {T U : List Nat} (h : Ws n T) (h2 : Ws n U) : Ws n (T ++ U) := fun y hy => (List.mem_append.mp hy).elim (h y) (h2 y)
theorem Ws.rev {n : Nat} {T : List Nat} (h : Ws n T) : Ws n T.reverse := fun y hy => h y (List.mem_reverse.mp hy)
theorem Ws.rep {n m : Nat} {T : List Nat} (h : Ws n T) : Ws n (List.replicate m T).flatten := fun y hy => by
  obtain ⟨l, hl, hy⟩ := List.mem_flatten.mp hy
  rw [(List.mem_replicate.mp hl).2] at hy
  exact h y hy
theorem LT_take : ∀ {n : Nat}, n ≤ 8 → LT.take n = List.range' 97 n
  | 0, _ => rfl | 1, _ => rfl | 2, _ => rfl | 3, _ => rfl | 4, _ => rfl | 5, _ => rfl | 6, _ => rfl | 7, _ => rfl | 8, _ => rfl
  | n + 9, h => by omega
theorem LT_mem {n y : Nat} (h : n ≤ 8) : y ∈ LT.take n ↔ 97 ≤ y ∧ y < 97 + n := by
  rw [LT_take h, List.mem_range'_1]
theorem Ws.mono {n m : Nat} {T : List Nat} (h : Ws n T) (hn : n ≤ m) : Ws m T := fun y hy => by
  have := h y hy
  rw [show LT.take n = (LT.take m).take n by rw [List.take_take, Nat.min_eq_left hn]] at this
  exact List.mem_of_mem_take this
theorem Ws.all {n : Nat} {T : List Nat} (h : Ws n T) : ∀ y ∈ T, y ∈ LT := fun y hy => List.mem_of_mem_take (h y hy)
theorem strOf_ws {n : Nat} {T : List Nat} (h : Ws n T) (hl : T.length ≤ 200) : strOf LT 0 200 (.str T) = true := by
  simp only [strOf, Bool.and_eq_true, decide_eq_true_eq, List.all_eq_true]
  exact ⟨⟨by omega, by omega⟩, h.all⟩
theorem LT_slc {n : Nat} : slice (.str LT) none (some (n : Int)) = some (.w (.str (LT.take n))) := by rw [slc_str lt_size, cut_toN]
theorem b_mulS {a : List Nat} {n : Nat} (h : a.length * n ≤ sizeL) (h2 : n ≤ 1000000) : binop .mul (.str a) (.int (n : Int)) = some (.w (.str (List.replicate n a).flatten)) := by
  show (if a.length * (n : Int).toNat ≤ sizeL ∧ -9223372036854775808 ≤ (n : Int) ∧ (n : Int) < 9223372036854775808 then some (Val.w (.str (List.replicate (n : Int).toNat a).flatten)) else none) = _
  rw [Int.toNat_natCast, if_pos ⟨h, by omega, by omega⟩]
theorem rev_str {s : List Nat} (h : s.length ≤ sizeL) : backw (.str s) = some (.w (.str s.reverse)) := if_pos h
section
variable {P : Prog} {F : Nat} {x : Nat → Nat} {k : Nat} {c : Cells} {w : W}
theorem run_word (h : H__law_word P x) {most letters : Nat} (h1 : 1 ≤ letters) (h8 : letters ≤ 8) (hm : most ≤ 1000) (hc : Cup c) (hk : 4 ≤ k) :
    ∃ (T : List Nat) (c' : Cells), run P F k (x n__law_word) [.cel 0, .int (most : Int), .int (letters : Int)] c = .ok (.w (.str T)) c' ∧ Cup c' ∧ T.length ≤ most ∧ Ws letters T := by
  obtain ⟨k, rfl⟩ := pred_of (k := k) (by omega)
  obtain ⟨way, c1, e1, hc1, w0, w1⟩ := run_roll (F := F) (k := k) h._law_roll (n := 4) (by omega) (by omega) hc (by omega)
  obtain ⟨r, c2, e2, hc2, r0, r1⟩ := run_roll (F := F) (k := k) h._law_roll (n := (most : Int) + 1) (by omega) (by omega) hc1 (by omega)
  obtain ⟨size, rfl⟩ : ∃ n : Nat, r = (n : Int) := ⟨r.toNat, by omega⟩
  have hs : size ≤ most := by omega
  have hlt : (LT.take letters).length = letters := by rw [List.length_take, lt_len]; omega
  have hb := bound_nat (n := size) (by omega)
  -- the letters
  obtain ⟨sl, c3, e3, hc3, z, T, rfl, hl, hT⟩ := forS_inv (P := P) (F := F) (R := run P F k) (t := .nm 3) (b := F__law_word_b1 x) (i := fun i : Nat => W.int (i : Int)) (l := List.range size)
    (sl := [.val (.cel 0), .val (.int (most : Int)), .val (.int (letters : Int)), .none, .none, .val (.int way), .val (.int (size : Int)), .val (.str (LT.take letters)), .val (.str [])]) (c := c2)
    (fun n sl c => Cup c ∧ ∃ z T, sl = [.val (.cel 0), .val (.int (most : Int)), .val (.int (letters : Int)), z, .none, .val (.int way), .val (.int (size : Int)), .val (.str (LT.take letters)), .val (.str T)] ∧ T.length = n ∧ Ws letters T) ⟨hc2, _, _, rfl, rfl, Ws.nil⟩ (by
      rintro n hn sl c ⟨hc, z, T, rfl, hl, hT⟩
      rw [List.length_range] at hn
      obtain ⟨y, c4, e4, hc4, hy⟩ := run_someS (F := F) (k := k) h._law_some (s := LT.take letters) (by omega) (by omega) hc (by omega)
      have ha : binop .add (.str T) (.str [y]) = some (.w (.str (T ++ [y]))) := b_addS (by unfold sizeL; simp; omega)
      refine ⟨_, _, c4, rfl, ?_, hc4, .val (.int ((List.range size)[n] : Nat)), T ++ [y], rfl, by simp [hl], hT.app fun q hq => by rw [List.mem_singleton.mp hq]; exact hy⟩
      simp [F__law_word_b1, e4, ha])
  rw [List.length_range] at hl
  rw [← rangeW_zero] at e3
  have hzT : T.length ≤ sizeL := by unfold sizeL; omega
  -- the ends
  suffices hx : ∃ U c', exSs P F (run P F k) (F__law_word x).body [.val (.cel 0), .val (.int (most : Int)), .val (.int (letters : Int)), .none, .none, .none, .none, .none, .none] c = .ok (.rt (.w (.str U))) c' ∧ Cup c' ∧ U.length ≤ most ∧ Ws letters U by
    obtain ⟨U, c', e, hc', hU, hW⟩ := hx
    exact ⟨U, c', run_fnS h.f rfl e (cup_len hc hc'), hc', hU, hW⟩
  by_cases hw : way < 2 ∨ size = 0
  · refine ⟨T, c3, ?_, hc3, by omega, hT⟩
    refine stepK (fun K => by simp [e1, e2, parW, Val.keep]; with_reducible rfl) ?_
    refine stepK (fun K => by simp [LT_slc, parW, Val.keep]; with_reducible rfl) ?_
    refine stepK (fun K => by simp [hb, e3]; with_reducible rfl) ?_
    refine stepR ?_
    by_cases h2 : way < 2
    · simp [h2]
    · have h0 : size = 0 := by omega
      simp [h2, h0]
  · have h2 : ¬ way < 2 := by omega
    have h0 : ¬ size = 0 := by omega
    have h0' : ¬ (size : Int) = 0 := by omega
    obtain ⟨q, c4, e4, hc4, q0, q1⟩ := run_roll (F := F) (k := k) h._law_roll (n := (size : Int)) (by omega) (by omega) hc3 (by omega)
    obtain ⟨p, hp⟩ : ∃ p : Nat, 1 + q = (p : Int) := ⟨(1 + q).toNat, by omega⟩
    have hcp : slice (.str T) none (some (p : Int)) = some (.w (.str (T.take p))) := by rw [slc_str hzT, cut_toN]
    have hpl : (T.take p).length = p := by rw [List.length_take]; omega
    have hzp : (T.take p).length ≤ sizeL := by omega
    by_cases h3 : way = 2
    · have hd : binop .fdiv (.int (size : Int)) (.int (p : Int)) = some (.w (.int ((size / p : Nat) : Int))) := by
        rw [b_fdivI (by omega) (by omega)]; rfl
      have hdl : size / p ≤ size := Nat.div_le_self _ _
      generalize size / p = qq at hd hdl
      have hpq : p * (qq + 1) ≤ 1000 * 1001 := Nat.mul_le_mul (by omega) (by omega)
      have hm2 : binop .mul (.str (T.take p)) (.int ((qq : Int) + 1)) = some (.w (.str (List.replicate (qq + 1) (T.take p)).flatten)) := by
        rw [show (qq : Int) + 1 = ((qq + 1 : Nat) : Int) by omega]
        exact b_mulS (by rw [hpl]; unfold sizeL; omega) (by omega)
      have hlen : ((List.replicate (qq + 1) (T.take p)).flatten).length ≤ sizeL := by
        have e : ((List.replicate (qq + 1) (T.take p)).flatten).length = (qq + 1) * p := by
          rw [List.length_flatten, List.map_replicate, List.sum_replicate_nat, hpl]
        rw [e, Nat.mul_comm]
        unfold sizeL
        omega
      generalize hU : (List.replicate (qq + 1) (T.take p)).flatten = U at hm2 hlen
      have hWU : Ws letters U := by rw [← hU]; exact hT.take.rep
      have hcU : slice (.str U) none (some (size : Int)) = some (.w (.str (U.take size))) := by rw [slc_str hlen, cut_toN]
      refine ⟨U.take size, c4, ?_, hc4, by rw [List.length_take]; omega, hWU.take⟩
      refine stepK (fun K => by simp [e1, e2, parW, Val.keep]; with_reducible rfl) ?_
      refine stepK (fun K => by simp [LT_slc, parW, Val.keep]; with_reducible rfl) ?_
      refine stepK (fun K => by simp [hb, e3]; with_reducible rfl) ?_
      refine stepK (fun K => by simp [h2, h0, h0']; with_reducible rfl) ?_
      refine stepK (fun K => by simp [e4, hp, hcp]; with_reducible rfl) ?_
      refine stepR ?_
      simp [h3, len_str hzp, hpl, hd, hm2, hcU]
    · have ha : binop .add (.str (T.take p)) (.str (T.take p).reverse) = some (.w (.str (T.take p ++ (T.take p).reverse))) := b_addS (by rw [List.length_reverse, hpl]; unfold sizeL; omega)
      have hlen : (T.take p ++ (T.take p).reverse).length ≤ sizeL := by rw [List.length_append, List.length_reverse, hpl]; unfold sizeL; omega
      have hr := rev_str hzp
      generalize hU : T.take p ++ (T.take p).reverse = U at ha hlen
      have hWU : Ws letters U := by rw [← hU]; exact hT.take.app hT.take.rev
      have hcU : slice (.str U) none (some (most : Int)) = some (.w (.str (U.take most))) := by rw [slc_str hlen, cut_toN]
      refine ⟨U.take most, c4, ?_, hc4, by rw [List.length_take]; omega, hWU.take⟩
      refine stepK (fun K => by simp [e1, e2, parW, Val.keep]; with_reducible rfl) ?_
      refine stepK (fun K => by simp [LT_slc, parW, Val.keep]; with_reducible rfl) ?_
      refine stepK (fun K => by simp [hb, e3]; with_reducible rfl) ?_
      refine stepK (fun K => by simp [h2, h0, h0']; with_reducible rfl) ?_
      refine stepK (fun K => by simp [e4, hp, hcp]; with_reducible rfl) ?_
      refine stepK (fun K => by simp [h3]; with_reducible rfl) ?_
      refine stepR ?_
      simp [hr, ha, hcU]
end
end Cw

end
section
set_option linter.all false
set_option maxRecDepth 100000
set_option maxHeartbeats 1000000
/-! Cy3: patterns with open letters: the package's defs -/
namespace Cw
/-- the signs of patterns -/
def PT : List Nat := LT ++ [63]
def Pat (p : List Nat) : Prop := ∀ y ∈ p, y ∈ PT
def agree (y z : Nat) : Bool := y == 63 || y == z
def fits (p w : List Nat) : Bool := p.length == w.length && (p.zip w).all fun q => agree q.1 q.2
def able (n y : Nat) : List Nat := (LT.take n).filter (agree y)
/-- the words that a pattern fits -/
def fitl (n : Nat) (p : List Nat) : List (List Nat) := p.foldl (fun found y => found.flatMap fun w => (able n y).map fun l => w ++ [l]) [[]]
def joint : List Nat → List Nat → Option (List Nat)
  | y :: p, z :: q => if y ≠ z ∧ y ≠ 63 ∧ z ≠ 63 then none else (joint p q).map ((if y = 63 then z else y) :: ·)
  | _, _ => some []
theorem Pat.of_ws {n : Nat} {T : List Nat} (h : Ws n T) : Pat T := fun y hy => List.mem_append_left _ (h.all y hy)
theorem Pat.app {p q : List Nat} (h : Pat p) (h2 : Pat q) : Pat (p ++ q) := fun y hy => (List.mem_append.mp hy).elim (h y) (h2 y)
theorem strOf_pat {p : List Nat} (h : Pat p) (hl : p.length ≤ 200) : strOf PT 0 200 (.str p) = true := by
  simp only [strOf, Bool.and_eq_true, decide_eq_true_eq, List.all_eq_true]
  exact ⟨⟨by omega, by omega⟩, h⟩
theorem size200 {T : List Nat} (h : T.length ≤ 200) : T.length ≤ sizeL := by unfold sizeL; omega
theorem able_len (n y : Nat) : (able n y).length ≤ 8 := by
  have := List.length_filter_le (agree y) (LT.take n)
  have h8 : (LT.take n).length ≤ 8 := by rw [List.length_take, lt_len]; omega
  unfold able
  omega
theorem in_two {a b y : Nat} : cmpop .in_ (.str [y]) (.tup [.str [a], .str [b]]) = some (a == y || b == y) := by
  show (if ((W.str [y]).scal && [W.str [a], W.str [b]].all W.scal) = true then some ([W.str [a], W.str [b]].any fun z => W.eqv 1 z (.str [y])) else none) = _
  have hs : ((W.str [y]).scal && [W.str [a], W.str [b]].all W.scal) = true := rfl
  rw [if_pos hs]
  show some ((([a] : List Nat) == [y]) || ((([b] : List Nat) == [y]) || false)) = _
  have : ∀ u v : Nat, (([u] : List Nat) == [v]) = (u == v) := fun u v => by rw [Bool.eq_iff_iff]; simp
  rw [this, this, Bool.or_false]
section
variable {P : Prog} {F : Nat} {x : Nat → Nat} {k : Nat} {c : Cells} {w : W}
theorem pt_add : binop .add (.str LT) (.str [63]) = some (.w (.str PT)) := b_addS (by decide)
theorem run_need_pattern (h : H_need_pattern P x) {p : List Nat} (hp : Pat p) (hl : p.length ≤ 200) (hk : 2 ≤ k) : run P F k (x n_need_pattern) [.str p] c = .ok (.w .non) c := by
  obtain ⟨k, rfl⟩ := pred_of (k := k) (by omega)
  refine run_fn h.f rfl ?_ rfl
  have q := run_is_string_of (F := F) (k := k) (c := c) h.is_string_of PT 0 200 (w := .str p) (size200 hl) (by omega)
  rw [strOf_pat hp hl] at q
  simp [F_need_pattern, h.c_LETTERS, h.c_OPEN, h.c_MOST, pt_add, q]
theorem run_is_pattern (h : H_is_pattern P x) (hw : okV w) (hk : 2 ≤ k) : run P F k (x n_is_pattern) [w] c = .ok (.w (.bl (strOf PT 0 200 w))) c := by
  obtain ⟨k, rfl⟩ := pred_of (k := k) (by omega)
  refine run_fn h.f rfl ?_ rfl
  have q := run_is_string_of (F := F) (k := k) (c := c) h.is_string_of PT 0 200 hw (by omega)
  simp [F_is_pattern, h.c_LETTERS, h.c_OPEN, h.c_MOST, pt_add, q]
/-- a pattern at a place of a word -/
def fitsAt (p w : List Nat) (at_ : Nat) : Bool := (p.zip (w.drop at_)).all fun q => agree q.1 q.2
theorem run_fits_at (h : H_fits_at P x) {p T : List Nat} {a : Nat} (hl : a + p.length ≤ T.length) (hT : T.length ≤ 100000) (hk : 1 ≤ k) : run P F k (x n_fits_at) [.str p, .str T, .int (a : Int)] c = .ok (.w (.bl (fitsAt p T a))) c := by
  obtain ⟨k, rfl⟩ := pred_of hk
  refine run_fn h.f rfl ?_ rfl
  have hzT : T.length ≤ sizeL := by unfold sizeL; omega
  have hzp : p.length ≤ sizeL := by unfold sizeL; omega
  have hc : compS P (run P F k) (F_fits_at_e1 x) (.tp [3, 4]) .nil [3, 4] [.val (.str p), .val (.str T), .val (.int (a : Int)), .none, .none] ((p.zipIdx).map fun q => .tup [.int (q.2 : Int), .str [q.1]]) c
      = .ok ((p.zipIdx).map fun q => .bl (agree q.1 (T.getD (a + q.2) 0))) c := by
    refine compS_map fun q hq => ⟨_, rfl, rfl, ?_⟩
    have hq2 : q.2 < p.length := by
      have := List.snd_lt_of_mem_zipIdx hq
      omega
    have hat : atI T ((a : Int) + (q.2 : Int)) = some (T.getD (a + q.2) 0) := by
      rw [show (a : Int) + (q.2 : Int) = ((a + q.2 : Nat) : Int) by omega, atI_nat (by omega), List.getElem?_eq_getElem (by omega), List.getD_eq_getElem?_getD, List.getElem?_eq_getElem (by omega)]
      rfl
    have hin := in_two (a := 63) (b := T.getD (a + q.2) 0) (y := q.1)
    have e : (63 == q.1 || T.getD (a + q.2) 0 == q.1) = agree q.1 (T.getD (a + q.2) 0) := by
      unfold agree
      rw [Bool.eq_iff_iff]
      simp only [Bool.or_eq_true, beq_iff_eq]
      constructor <;> rintro (h | h) <;> first | exact .inl h.symm | exact .inr h.symm
    rw [e] at hin
    generalize T.getD (a + q.2) 0 = z at hat hin
    generalize agree q.1 z = b at hin
    simp [elV, F_fits_at_e1, wipeS, h.c_OPEN, get_str hzT, hat, hin]
  have hen : enumW 0 (p.map fun y => W.str [y]) = (p.zipIdx).map fun q => .tup [.int (q.2 : Int), .str [q.1]] := by
    rw [enumW_map]
    have : ∀ (l : List Nat) (n : Nat), ((l.map fun y => W.str [y]).zipIdx n) = (l.zipIdx n).map fun q => (W.str [q.1], q.2) := by
      intro l
      induction l with
      | nil => intro n; rfl
      | cons y l ih => intro n; simp [ih]
    rw [this, List.map_map]
    rfl
  have hfin : ((p.zipIdx).map fun q => agree q.1 (T.getD (a + q.2) 0)).all id = fitsAt p T a := by
    unfold fitsAt
    have : ∀ (p : List Nat) (n : Nat), n + p.length ≤ (T.drop a).length → ((p.zipIdx n).map fun q => agree q.1 (T.getD (a + q.2) 0)).all id = (p.zip ((T.drop a).drop n)).all fun q => agree q.1 q.2 := by
      intro p
      induction p with
      | nil => intro n _; rfl
      | cons y p ih =>
        intro n hn
        rw [List.length_cons] at hn
        have hlt : n < (T.drop a).length := by omega
        rw [List.zipIdx_cons, List.drop_eq_getElem_cons hlt, List.map_cons, List.all_cons, List.zip_cons_cons, List.all_cons, ih (n + 1) (by omega)]
        have e : T.getD (a + n) 0 = (T.drop a)[n] := by
          rw [List.getElem_drop, List.getD_eq_getElem?_getD, List.getElem?_eq_getElem (by rw [List.length_drop] at hlt; omega)]
          rfl
        simp only [id, e]
    have := this p 0 (by rw [List.length_drop]; omega)
    simpa using this
  have hzl : (p.zipIdx).length ≤ sizeL := by rw [List.length_zipIdx]; exact hzp
  generalize hE : enumW 0 (p.map fun y => W.str [y]) = EE at hen
  rw [← hen] at hc
  have hal : allBl? ((p.zipIdx).map fun q => W.bl (agree q.1 (T.getD (a + q.2) 0))) = some ((p.zipIdx).map fun q => agree q.1 (T.getD (a + q.2) 0)) := allBl_map
  have hll : ((p.zipIdx).map fun q => W.bl (agree q.1 (T.getD (a + q.2) 0))).length ≤ sizeL := by rw [List.length_map]; exact hzl
  generalize ((p.zipIdx).map fun q => W.bl (agree q.1 (T.getD (a + q.2) 0))) = BB at hc hal hll
  generalize ((p.zipIdx).map fun q => agree q.1 (T.getD (a + q.2) 0)) = bb at hal hfin
  simp [F_fits_at, Val.get, W.isTup, hE, hc, hll, hal, ← hfin]
theorem run_does_fit (h : H_does_fit P x) {p T : List Nat} (hp : Pat p) (hpl : p.length ≤ 200) (hw : strOf LT 0 200 (.str T) = true) (hT : T.length ≤ 200) (hk : 4 ≤ k) : run P F k (x n_does_fit) [.str p, .str T] c = .ok (.w (.bl (fits p T))) c := by
  obtain ⟨k, rfl⟩ := pred_of (k := k) (by omega)
  refine run_fn h.f rfl ?_ rfl
  have q1 := run_need_pattern (F := F) (k := k) (c := c) h.need_pattern hp hpl (by omega)
  have q2 := run_need_word (F := F) (k := k) (c := c) h.need_word hw (by omega)
  by_cases e : p.length = T.length
  · have q3 := run_fits_at (F := F) (k := k) (c := c) h.fits_at (p := p) (T := T) (a := 0) (by omega) (by omega) (by omega)
    have e2 : fits p T = fitsAt p T 0 := by
      unfold fits fitsAt
      rw [e, List.drop_zero]
      simp
    rw [e2]
    rw [show ((0 : Nat) : Int) = 0 from rfl] at q3
    simp [F_does_fit, ss_cons, q1, q2, len_str (size200 hpl), len_str (size200 hT), e, q3]
  · have e2 : fits p T = false := by
      unfold fits
      rw [show (p.length == T.length) = false by simpa using e]
      rfl
    have e3 : ¬ ((p.length : Int) = (T.length : Int)) := by omega
    simp [F_does_fit, ss_cons, q1, q2, len_str (size200 hpl), len_str (size200 hT), e, e3, e2]
end
end Cw

end
section
set_option linter.all false
set_option maxRecDepth 100000
set_option maxHeartbeats 1000000
set_option Elab.async false
/-! Cz77a: dicts of the small language; letters of shapes -/
namespace Cw
section
variable {P : Prog} {F : Nat} {R : Nat → List W → M Val} {sl : Slots} {c : Cells} {a b d el : E} {cond : Es} {own : List Nat} {i t : Nat}
@[simp] theorem ev_dnew : evE P R .dnew sl c = .ok (.own (.dct [] [])) c := rfl
@[simp] theorem ev_dget : evE P R (.dget a b) sl c = (evE P R a sl c).andThen fun x c1 => (evE P R b sl c1).andThen fun y c2 => M.lift ((dgetW x.get y.get).map .w) c2 := by
  show (evE P R a sl >>= fun x => evE P R b sl >>= fun y => (M.lift ((dgetW x.get y.get).map .w) : M Val)) c = _
  simp only [bind_run]
@[simp] theorem ev_dgetD : evE P R (.dgetD a b d) sl c = (evE P R a sl c).andThen fun x c1 => (evE P R b sl c1).andThen fun y c2 => (evE P R d sl c2).andThen fun z c3 => (keepM z c3).andThen fun w c4 => M.lift ((dgetDW x.get y.get w).map .w) c4 := by
  show (evE P R a sl >>= fun x => evE P R b sl >>= fun y => evE P R d sl >>= fun z => keepM z >>= fun w => (M.lift ((dgetDW x.get y.get w).map .w) : M Val)) c = _
  simp only [bind_run]
@[simp] theorem ev_din {neg : Bool} : evE P R (.din neg b a) sl c = (evE P R b sl c).andThen fun y c1 => (evE P R a sl c1).andThen fun x c2 => M.lift ((dinW x.get y.get).map fun b => .w (.bl (if neg = true then !b else b))) c2 := by
  show (evE P R b sl >>= fun y => evE P R a sl >>= fun x => (M.lift ((dinW x.get y.get).map fun b => .w (.bl (if neg = true then !b else b))) : M Val)) c = _
  simp only [bind_run]
@[simp] theorem ev_compK : evE P R (.compK el i t cond own) sl c = (M.lift (slotKeys sl[i]?) c).andThen fun ws c1 => (compS P R el (.nm t) cond own sl ws c1).andThen fun r c2 => if r.length ≤ sizeL then .ok (.own (.lst r)) c2 else .stuck := by
  show (M.lift (slotKeys sl[i]?) >>= fun ws => compS P R el (.nm t) cond own sl ws >>= listFit) c = _
  simp only [bind_run, listFit, ite_run, pure_run, no_run]
@[simp] theorem xs_dput : exS P F R (.dput i b a) sl c = (evE P R a sl c).andThen fun v c1 => (keepM v c1).andThen fun w c2 => (evE P R b sl c2).andThen fun j c3 => (dputM sl i j.get w c3).andThen fun s c4 => .ok (.nx s) c4 := by
  show (evE P R a sl >>= fun v => keepM v >>= fun w => evE P R b sl >>= fun j => dputM sl i j.get w >>= fun s => pure (Out.nx s)) c = _
  simp only [bind_run, pure_run]
end
@[simp] theorem isTup_lst {xs : List W} : (W.lst xs).isTup = false := rfl
@[simp] theorem isTup_str {s : List Nat} : (W.str s).isTup = false := rfl
/-! ### dicts from letters to words -/
abbrev Dct := List (Nat × List Nat)
def lookD (d : Dct) (a : Nat) : Option (List Nat) := (d.find? fun p => p.1 == a).map (·.2)
def dK (d : Dct) : List W := d.map fun p => .str [p.1]
def dV (d : Dct) : List W := d.map fun p => .str p.2
def dW (d : Dct) : W := .dct (dK d) (dV d)
theorem key_one (y z : Nat) : keyEq (.str [y]) (.str [z]) = (y == z) := by
  show ([y] == [z]) = _
  rw [Bool.eq_iff_iff]
  simp
theorem lookW_d : ∀ (d : Dct) (a : Nat), lookW (dK d) (dV d) (.str [a]) = (lookD d a).map .str
  | [], a => rfl
  | (y, v) :: d, a => by
    show (if keyEq (.str [y]) (.str [a]) = true then some (.str v) else lookW (dK d) (dV d) (.str [a])) = _
    rw [key_one, lookW_d d a]
    unfold lookD
    rw [List.find?_cons]
    by_cases h : (y == a) = true
    · rw [if_pos h, h]; rfl
    · rw [if_neg h, Bool.not_eq_true _ |>.mp h]
theorem dget_d (d : Dct) (a : Nat) : dgetW (dW d) (.str [a]) = (lookD d a).map .str := by
  show (if (W.str [a]).isKey = true then lookW (dK d) (dV d) (.str [a]) else none) = _
  rw [if_pos (show (W.str [a]).isKey = true from rfl), lookW_d]
theorem dgetD_d (d : Dct) (a : Nat) (z : List Nat) : dgetDW (dW d) (.str [a]) (.str z) = some (.str ((lookD d a).getD z)) := by
  show (if (W.str [a]).isKey = true then some ((lookW (dK d) (dV d) (.str [a])).getD (.str z)) else none) = _
  rw [if_pos (show (W.str [a]).isKey = true from rfl), lookW_d]
  cases lookD d a <;> rfl
theorem din_d (d : Dct) (a : Nat) : dinW (dW d) (.str [a]) = some (lookD d a).isSome := by
  show (if (W.str [a]).isKey = true then some (lookW (dK d) (dV d) (.str [a])).isSome else none) = _
  rw [if_pos (show (W.str [a]).isKey = true from rfl), lookW_d]
  cases lookD d a <;> rfl
theorem put_new {d : Dct} {a : Nat} {v : List Nat} (h : lookD d a = none) : putW (dK d) (dV d) (.str [a]) (.str v) = dW (d ++ [(a, v)]) := by
  unfold putW
  rw [lookW_d, h]
  show W.dct (dK d ++ [.str [a]]) (dV d ++ [.str v]) = _
  unfold dW dK dV
  rw [List.map_append, List.map_append]
  rfl
def keysD (d : Dct) : List Nat := d.map (·.1)
theorem lookD_some {d : Dct} {a : Nat} {v : List Nat} (h : lookD d a = some v) : (a, v) ∈ d := by
  obtain ⟨p, h1, h2⟩ := Option.map_eq_some_iff.mp h
  have h3 := List.mem_of_find?_eq_some h1
  have h4 := List.find?_some h1
  have : p.1 = a := by simpa using h4
  subst h2 this
  exact h3
theorem lookD_none {d : Dct} {a : Nat} : lookD d a = none ↔ a ∉ keysD d := by
  unfold lookD keysD
  rw [Option.map_eq_none_iff, List.find?_eq_none]
  constructor
  · intro h m
    obtain ⟨p, hp, rfl⟩ := List.mem_map.mp m
    exact h p hp (by simp)
  · intro h p hp e
    have : p.1 = a := by simpa using e
    exact h (this ▸ List.mem_map_of_mem hp)
theorem lookD_mem {d : Dct} (nd : (keysD d).Nodup) {a : Nat} {v : List Nat} (h : (a, v) ∈ d) : lookD d a = some v := by
  induction d with
  | nil => cases h
  | cons p d ih =>
    unfold keysD at nd
    rw [List.map_cons, List.nodup_cons] at nd
    unfold lookD
    rw [List.find?_cons]
    rcases List.mem_cons.mp h with h | h
    · subst h
      simp
    · have hne : (p.1 == a) = false := by
        rw [beq_eq_false_iff_ne]
        intro e
        exact nd.1 (e ▸ List.mem_map_of_mem (f := Prod.fst) h)
      rw [hne]
      exact ih nd.2 h
theorem lookD_app (d : Dct) (a b : Nat) (v : List Nat) : lookD (d ++ [(a, v)]) b = (lookD d b).or (if a = b then some v else none) := by
  unfold lookD
  rw [List.find?_append]
  cases List.find? (fun p => p.1 == b) d with
  | some p => rfl
  | none =>
    show Option.map _ (List.find? (fun p => p.1 == b) [(a, v)]) = _
    rw [List.find?_cons]
    by_cases h : a = b
    · subst h
      simp
    · have : (a == b) = false := by simpa using h
      simp [this, h]
theorem repl_same : ∀ {d : Dct} {a : Nat} {v : List Nat}, (∀ p ∈ d, p.1 = a → p.2 = v) → replW (dK d) (dV d) (.str [a]) (.str v) = dV d
  | [], a, v, _ => rfl
  | (y, u) :: d, a, v, h => by
    show (if keyEq (.str [y]) (.str [a]) = true then .str v else .str u) :: replW (dK d) (dV d) (.str [a]) (.str v) = .str u :: dV d
    rw [key_one, repl_same fun p hp => h p (List.mem_cons_of_mem _ hp)]
    by_cases e : y = a
    · have : u = v := h (y, u) List.mem_cons_self e
      rw [this]
      simp
    · simp [e]
theorem put_same {d : Dct} (nd : (keysD d).Nodup) {a : Nat} {v : List Nat} (h : lookD d a = some v) : putW (dK d) (dV d) (.str [a]) (.str v) = dW d := by
  unfold putW
  rw [lookW_d, h]
  show W.dct (dK d) (replW (dK d) (dV d) (.str [a]) (.str v)) = _
  rw [repl_same]
  · rfl
  · intro p hp e
    obtain ⟨y, u⟩ := p
    have e : y = a := e
    subst e
    have := lookD_mem nd hp
    rw [h] at this
    exact (Option.some.inj this).symm
theorem mkDct_d : ∀ (e d : Dct), (keysD (d ++ e)).Nodup → mkDct (e.map fun p => (.str [p.1], .str p.2)) (dW d) = dW (d ++ e)
  | [], d, _ => by rw [List.append_nil]; rfl
  | (a, v) :: e, d, h => by
    have hn : lookD d a = none := by
      rw [lookD_none]
      intro m
      unfold keysD at h
      rw [List.map_append, List.nodup_append] at h
      exact h.2.2 a m a (by simp) rfl
    show mkDct (e.map fun p => (.str [p.1], .str p.2)) (putW (dK d) (dV d) (.str [a]) (.str v)) = _
    rw [put_new hn, mkDct_d e (d ++ [(a, v)]) (by rw [List.append_assoc]; exact h), List.append_assoc]
    rfl
theorem allPair_d : ∀ (e : Dct), allPair? (e.map fun p => W.tup [.str [p.1], .str p.2]) = some (e.map fun p => (.str [p.1], .str p.2))
  | [] => rfl
  | p :: e => by
    show (if (W.str [p.1]).isKey = true then (allPair? (e.map fun p => W.tup [.str [p.1], .str p.2])).map ((W.str [p.1], W.str p.2) :: ·) else none) = _
    rw [if_pos (show (W.str [p.1]).isKey = true from rfl), allPair_d e]
    rfl
theorem dict_pairs (e : Dct) (h : (keysD e).Nodup) : bltop .dict [.lst (e.map fun p => W.tup [.str [p.1], .str p.2])] = some (.own (dW e)) := by
  show (allPair? _).map _ = _
  rw [allPair_d]
  show some (Val.own (mkDct _ (dW []))) = _
  rw [mkDct_d e [] (by simpa using h)]
  rfl
/-! ### letters of a shape -/
def SG : List Nat := [97, 98, 99, 100]
def lettersU (s : List Nat) : List Nat := SG.filter fun y => decide (y ∈ s)
def Shp (s : List Nat) : Prop := ∀ y ∈ s, y ∈ SG
theorem lettersU_mem {s : List Nat} (h : Shp s) {y : Nat} : y ∈ lettersU s ↔ y ∈ s := by
  unfold lettersU
  rw [List.mem_filter]
  constructor
  · intro h1; simpa using h1.2
  · intro h1; exact ⟨h y h1, by simpa using h1⟩
theorem lettersU_le (s : List Nat) : (lettersU s).length ≤ 4 := List.length_filter_le _ _
theorem lettersU_nodup (s : List Nat) : (lettersU s).Nodup := List.Pairwise.filter _ (show SG.Nodup by decide)
theorem findIdx_one : ∀ {L : List Nat} {y : Nat}, y ∈ L → (L.map fun z => [z]).findIdx? (· == [y]) = some (L.idxOf y)
  | [], y, h => by cases h
  | z :: L, y, h => by
    rw [List.map_cons, List.findIdx?_cons, List.idxOf_cons]
    by_cases e : z = y
    · subst e
      simp
    · have h2 : y ∈ L := by
        rcases List.mem_cons.mp h with h | h
        · exact absurd h.symm e
        · exact h
      have e1 : ([z] == [y]) = false := by simpa using e
      have e2 : (z == y) = false := by simpa using e
      rw [e1, e2, findIdx_one h2]
      rfl
theorem index_lst {L : List Nat} {y : Nat} (h : y ∈ L) : methop .index (.lst (L.map fun z => .str [z])) [.str [y]] = some (.w (.int (L.idxOf y : Nat))) := by
  show ((allStr? (L.map fun z => W.str [z])).bind fun ss => (ss.findIdx? (· == [y])).map fun (i : Nat) => Val.w (.int (i : Int))) = _
  rw [allStr_map]
  show ((L.map fun z => [z]).findIdx? (· == [y])).map _ = _
  rw [findIdx_one h]
  rfl
theorem findS_one : ∀ {L : List Nat} {y : Nat}, y ∈ L → findS [y] L = some (L.idxOf y)
  | [], y, h => by cases h
  | z :: L, y, h => by
    show (if [y].isPrefixOf (z :: L) then some 0 else (findS [y] L).map (· + 1)) = _
    rw [List.idxOf_cons]
    by_cases e : z = y
    · subst e
      simp [List.isPrefixOf]
    · have h2 : y ∈ L := by
        rcases List.mem_cons.mp h with h | h
        · exact absurd h.symm e
        · exact h
      have e2 : (z == y) = false := by simpa using e
      have e3 : (y == z) = false := by simpa using fun x => e x.symm
      rw [findS_one h2, e2]
      simp [List.isPrefixOf, e3]
section
variable {P : Prog} {F : Nat} {x : Nat → Nat} {k : Nat} {c : Cells} {w : W}
theorem run_letters_under (h : H_letters_under P x) {s : List Nat} (hk : 1 ≤ k) : run P F k (x n_letters_under) [.str s] c = .ok (.own (.lst ((lettersU s).map fun y => .str [y]))) c := by
  obtain ⟨k, rfl⟩ := pred_of hk
  refine run_fn h.f rfl ?_ rfl
  have hc : compS P (run P F k) (F_letters_under_e1 x) (.nm 1) (F_letters_under_c1 x) [1] [.val (.str s), .none] (SG.map fun y => .str [y]) c = .ok ((lettersU s).map fun y => .str [y]) c :=
    compS_filter fun y hy => ⟨_, rfl, by simp [F_letters_under_c1, wipeS], fun _ => by simp [elV, F_letters_under_e1, wipeS]⟩
  have hl : ((lettersU s).map fun y => W.str [y]).length ≤ sizeL := by
    rw [List.length_map]
    have := lettersU_le s
    unfold sizeL
    omega
  have hs : P.consts[x c_SIGNS]? = some (.str SG) := h.c_SIGNS
  generalize ((lettersU s).map fun y => W.str [y]) = LL at hc hl
  simp [F_letters_under, hs, hc, hl]
theorem run_need_shape (h : H_need_shape P x) {s : List Nat} (hs : Shp s) (h1 : 1 ≤ s.length) (h6 : s.length ≤ 6) (hk : 2 ≤ k) : run P F k (x n_need_shape) [.str s] c = .ok (.w .non) c := by
  obtain ⟨k, rfl⟩ := pred_of (k := k) (by omega)
  refine run_fn h.f rfl ?_ rfl
  have q := run_is_string_of (F := F) (k := k) (c := c) h.is_string_of SG 1 6 (w := .str s) (by show s.length ≤ sizeL; unfold sizeL; omega) (by omega)
  have e : strOf SG 1 6 (.str s) = true := by
    simp only [strOf, Bool.and_eq_true, decide_eq_true_eq, List.all_eq_true]
    refine ⟨⟨by omega, by omega⟩, fun y hy => by simpa using hs y hy⟩
  rw [e] at q
  have hc : P.consts[x c_SIGNS]? = some (.str SG) := h.c_SIGNS
  simp [F_need_shape, hc, h.c_LONGEST, q]
theorem run_need_few_signs (h : H_need_few_signs P x) {T : List Nat} {most : Int} (hw : strOf LT 0 200 (.str T) = true) (hT : T.length ≤ 200) (hm : (T.length : Int) ≤ most) (hk : 4 ≤ k) : run P F k (x n_need_few_signs) [.str T, .int most] c = .ok (.w .non) c := by
  obtain ⟨k, rfl⟩ := pred_of (k := k) (by omega)
  refine run_fn h.f rfl ?_ rfl
  have q := run_need_word (F := F) (k := k) (c := c) h.need_word hw (by omega)
  have hn : ¬ most < (T.length : Int) := by omega
  simp [F_need_few_signs, ss_cons, q, len_str (size200 hT), hn]
end
end Cw

end
section
set_option linter.all false
set_option maxRecDepth 100000
set_option maxHeartbeats 1000000
set_option Elab.async false
/-! Cz77b: rows of lengths -/
namespace Cw
def iW (l : List Nat) : List W := l.map fun (n : Nat) => .int (n : Int)
theorem iW_app (a b : List Nat) : iW (a ++ b) = iW a ++ iW b := List.map_append
theorem iW_len (a : List Nat) : (iW a).length = a.length := List.length_map _
def least (m beh left : Nat) : Nat := if 0 < beh then 1 else max 1 (left / m)
def lens (m beh left : Nat) : List Nat := (List.range (((left : Int) - beh) / m + 1 - least m beh left).toNat).map (· + least m beh left)
theorem lens_mem {m beh left l : Nat} (hm : 1 ≤ m) : l ∈ lens m beh left ↔ least m beh left ≤ l ∧ m * l + beh ≤ left := by
  unfold lens
  rw [List.mem_map]
  generalize least m beh left = a
  have key : ∀ q : Nat, ((q : Int) ≤ ((left : Int) - beh) / m) ↔ m * q + beh ≤ left := fun q => by
    rw [Int.le_ediv_iff_mul_le (by omega)]
    constructor
    · intro h
      have : ((q * m : Nat) : Int) ≤ (left : Int) - beh := by push_cast; exact h
      rw [Nat.mul_comm m q]
      omega
    · intro h
      have : ((q * m : Nat) : Int) ≤ (left : Int) - beh := by rw [Nat.mul_comm m q] at h; omega
      push_cast at this
      exact this
  constructor
  · rintro ⟨i, hi, rfl⟩
    rw [List.mem_range] at hi
    refine ⟨by omega, (key _).mp ?_⟩
    omega
  · rintro ⟨h1, h2⟩
    have := (key l).mpr h2
    exact ⟨l - a, by rw [List.mem_range]; omega, by omega⟩
theorem lens_len {m beh left : Nat} (hm : 1 ≤ m) : (lens m beh left).length ≤ left := by
  unfold lens
  rw [List.length_map, List.length_range]
  have h1 : 1 ≤ least m beh left := by unfold least; split <;> omega
  have h2 : ((left : Int) - beh) / m ≤ left := by
    by_cases h : (0 : Int) ≤ (left : Int) - beh
    · have := Int.ediv_le_self (a := (left : Int) - beh) m h
      omega
    · have : ((left : Int) - beh) / m < 0 := Int.ediv_neg_of_neg_of_pos (by omega) (by omega)
      omega
  omega
theorem lens_pos {m beh left l : Nat} (hm : 1 ≤ m) (h : l ∈ lens m beh left) : 1 ≤ l := by
  have h1 := ((lens_mem hm).mp h).1
  have h2 : 1 ≤ least m beh left := by unfold least; split <;> omega
  omega
def rowStep (m beh : Nat) (rs : List (List Nat × Nat)) : List (List Nat × Nat) := rs.flatMap fun p => (lens m beh p.2).map fun l => (p.1 ++ [l], p.2 - m * l)
def rowW (p : List Nat × Nat) : W := .tup [.tup (iW p.1), .int (p.2 : Int)]
theorem rowStep_cons (m beh : Nat) (p : List Nat × Nat) (rs : List (List Nat × Nat)) : rowStep m beh (p :: rs) = ((lens m beh p.2).map fun l => (p.1 ++ [l], p.2 - m * l)) ++ rowStep m beh rs := rfl
theorem rangeW_map2 (a n : Nat) : rangeW (a : Int) 1 n = ((List.range n).map (· + a)).map fun (i : Nat) => .int (i : Int) := by
  rw [rangeW_map, List.map_map]
  refine List.map_congr_left fun i _ => ?_
  show W.int _ = W.int _
  congr 1
  push_cast
  omega
section
variable {P : Prog} {F : Nat} {R : Nat → List W → M Val} {t : Tg} {b : Ss} {sl s1 s2 : Slots} {c c2 : Cells} {w : W} {ws : List W} {v : Val}
theorem forS_nx (h1 : bindTg t w sl = some s1) (h2 : exSs P F R b s1 c = .ok (.nx s2) c2) : forS P F R t b (w :: ws) sl c = forS P F R t b ws s2 c2 := by
  rw [forS_cons, h1]
  simp [h2]
theorem forS_rt (h1 : bindTg t w sl = some s1) (h2 : exSs P F R b s1 c = .ok (.rt v) c2) : forS P F R t b (w :: ws) sl c = .ok (.rt v) c2 := by
  rw [forS_cons, h1]
  simp [h2]
end
section
variable {P : Prog} {F : Nat} {x : Nat → Nat} {k : Nat} {c : Cells} {w : W}
theorem rows_in (R : Nat → List W → M Val) (s0 s1 s2 s3 s4 s5 s8 s11 s13 : Slot) (m left : Nat) (row : List Nat) (hm : m ≤ 1000) (hrow : row.length ≤ 100) : ∀ (ls : List Nat) (acc : List W) (z12 : Slot), (∀ l ∈ ls, m * l ≤ left) → acc.length + ls.length ≤ 16000000 →
    ∃ z12', forS P F R (.nm 12) (F_length_rows_b1 x) (ls.map fun (l : Nat) => .int (l : Int)) [s0, s1, s2, s3, s4, s5, .own (.lst acc), .val (.int (m : Int)), s8, .val (.tup (iW row)), .val (.int (left : Int)), s11, z12, s13] c
      = .ok (.nx [s0, s1, s2, s3, s4, s5, .own (.lst (acc ++ ls.map fun l => rowW (row ++ [l], left - m * l))), .val (.int (m : Int)), s8, .val (.tup (iW row)), .val (.int (left : Int)), s11, z12', s13]) c
  | [], acc, z12, _, _ => ⟨z12, by simp [forS_nil]⟩
  | l :: ls, acc, z12, hl, hs => by
    rw [List.length_cons] at hs
    obtain ⟨z, ih⟩ := rows_in R s0 s1 s2 s3 s4 s5 s8 s11 s13 m left row hm hrow ls (acc ++ [rowW (row ++ [l], left - m * l)]) (.val (.int (l : Int))) (fun l h => hl l (List.mem_cons_of_mem _ h)) (by rw [List.length_append, List.length_singleton]; omega)
    refine ⟨z, ?_⟩
    have h1 := hl l List.mem_cons_self
    have ha : binop .add (.tup (iW row)) (.tup [.int (l : Int)]) = some (.w (.tup (iW (row ++ [l])))) := by
      rw [b_addT (by rw [iW_len]; unfold sizeL; simp; omega), iW_app]
      rfl
    have hmul : binop .mul (.int (m : Int)) (.int (l : Int)) = some (.w (.int ((m * l : Nat) : Int))) := by
      rw [b_mulI (.inl (by omega))]
      push_cast
      rfl
    have hsub : (left : Int) - ((m * l : Nat) : Int) = ((left - m * l : Nat) : Int) := by omega
    have hlt : acc.length < sizeL := by unfold sizeL; omega
    have hz2 : (iW (row ++ [l])).length ≤ sizeL := by rw [iW_len, List.length_append]; unfold sizeL; simp; omega
    have hb : exSs P F R (F_length_rows_b1 x) [s0, s1, s2, s3, s4, s5, .own (.lst acc), .val (.int (m : Int)), s8, .val (.tup (iW row)), .val (.int (left : Int)), s11, .val (.int (l : Int)), s13] c
        = .ok (.nx [s0, s1, s2, s3, s4, s5, .own (.lst (acc ++ [rowW (row ++ [l], left - m * l)])), .val (.int (m : Int)), s8, .val (.tup (iW row)), .val (.int (left : Int)), s11, .val (.int (l : Int)), s13]) c := by
      simp [F_length_rows_b1, ha, hmul, appM, hlt, rowW, -Int.natCast_mul]
      rw [hsub]
    rw [List.map_cons, forS_nx rfl hb, ih, List.append_assoc]
    rfl
theorem rows_mid (R : Nat → List W → M Val) (s0 s1 s2 s3 s4 s5 s13 : Slot) (m beh : Nat) (hm1 : 1 ≤ m) (hm : m ≤ 1000) (hb : beh ≤ 1000) : ∀ (rs : List (List Nat × Nat)) (acc : List W) (z9 z10 z11 z12 : Slot), (∀ p ∈ rs, p.1.length ≤ 100 ∧ p.2 ≤ 1000) → acc.length + (rowStep m beh rs).length ≤ 16000000 →
    ∃ y9 y10 y11 y12, forS P F R (.tp [9, 10]) (F_length_rows_b2 x) (rs.map rowW) [s0, s1, s2, s3, s4, s5, .own (.lst acc), .val (.int (m : Int)), .val (.int (beh : Int)), z9, z10, z11, z12, s13] c
      = .ok (.nx [s0, s1, s2, s3, s4, s5, .own (.lst (acc ++ (rowStep m beh rs).map rowW)), .val (.int (m : Int)), .val (.int (beh : Int)), y9, y10, y11, y12, s13]) c
  | [], acc, z9, z10, z11, z12, _, _ => ⟨z9, z10, z11, z12, by simp [forS_nil, rowStep]⟩
  | (row, left) :: rs, acc, z9, z10, z11, z12, hr, hs => by
    rw [rowStep_cons, List.length_append, List.length_map] at hs
    obtain ⟨h1, h2⟩ := hr (row, left) List.mem_cons_self
    have h1 : row.length ≤ 100 := h1
    have h2 : left ≤ 1000 := h2
    have hs : acc.length + ((lens m beh left).length + (rowStep m beh rs).length) ≤ 16000000 := hs
    obtain ⟨z, e⟩ := rows_in (P := P) (F := F) (x := x) (c := c) R s0 s1 s2 s3 s4 s5 (.val (.int (beh : Int))) (.val (.int (least m beh left : Nat))) s13 m left row hm h1 (lens m beh left) acc z12 (fun l hl => by have := ((lens_mem hm1).mp hl).2; omega) (by omega)
    obtain ⟨y9, y10, y11, y12, ih⟩ := rows_mid R s0 s1 s2 s3 s4 s5 s13 m beh hm1 hm hb rs (acc ++ (lens m beh left).map fun l => rowW (row ++ [l], left - m * l)) (.val (.tup (iW row))) (.val (.int (left : Int))) (.val (.int (least m beh left : Nat))) z (fun p h => hr p (List.mem_cons_of_mem _ h)) (by rw [List.length_append, List.length_map]; omega)
    refine ⟨y9, y10, y11, y12, ?_⟩
    have hb : exSs P F R (F_length_rows_b2 x) [s0, s1, s2, s3, s4, s5, .own (.lst acc), .val (.int (m : Int)), .val (.int (beh : Int)), .val (.tup (iW row)), .val (.int (left : Int)), z11, z12, s13] c
        = .ok (.nx [s0, s1, s2, s3, s4, s5, .own (.lst (acc ++ (lens m beh left).map fun l => rowW (row ++ [l], left - m * l))), .val (.int (m : Int)), .val (.int (beh : Int)), .val (.tup (iW row)), .val (.int (left : Int)), .val (.int (least m beh left : Nat)), z, s13]) c := by
      have hd1 : binop .fdiv (.int (left : Int)) (.int (m : Int)) = some (.w (.int ((left / m : Nat) : Int))) := by
        rw [b_fdivI (by omega) (by omega)]
        rfl
      have hd2 : binop .fdiv (.int ((left : Int) - (beh : Int))) (.int (m : Int)) = some (.w (.int (((left : Int) - beh) / m))) := b_fdivI (by omega) (by omega)
      have hle : ((left : Int) - beh) / m ≤ 1000 := by
        have : ((left : Int) - beh) / m ≤ (1000 : Int) / m := Int.ediv_le_ediv (by omega) (by omega)
        have h3 := Int.ediv_le_self (a := (1000 : Int)) m (by omega)
        omega
      have hge : -1000 ≤ ((left : Int) - beh) / m := by
        rw [Int.le_ediv_iff_mul_le (by omega)]
        have : (-1000 : Int) * m ≤ -1000 * 1 := by
          apply Int.mul_le_mul_of_nonpos_left <;> omega
        omega
      have hlst : least m beh left ≤ 1001 := by
        unfold least
        have := Nat.div_le_self left m
        split <;> omega
      have hb1 : bound62 (least m beh left : Nat) = true := bound_nat (by omega)
      have hb2 : bound62 (((left : Int) - beh) / m + 1) = true := bound_int (by omega) (by omega)
      have hset : ∀ (q : W), exS P F R (.set 11 (.ife (.cmp .gt (.var 8) (.lit (.int 0))) (.lit (.int 1)) (.blt .max (.cons (.lit (.int 1)) (.cons (.bin .fdiv (.var 10) (.var 7)) .nil))))) [s0, s1, s2, s3, s4, s5, .own (.lst acc), .val (.int (m : Int)), .val (.int (beh : Int)), .val q, .val (.int (left : Int)), z11, z12, s13] c
          = .ok (.nx [s0, s1, s2, s3, s4, s5, .own (.lst acc), .val (.int (m : Int)), .val (.int (beh : Int)), .val q, .val (.int (left : Int)), .val (.int (least m beh left : Nat)), z12, s13]) c := fun q => by
        unfold least
        by_cases h0 : 0 < beh
        · have h0' : (0 : Int) < (beh : Int) := by omega
          simp [h0, h0']
        · have h0' : ¬ (0 : Int) < (beh : Int) := by omega
          have hmx : bltop .max [.int 1, .int ((left / m : Nat) : Int)] = some (.w (.int (if ((left / m : Nat) : Int) > 1 then ((left / m : Nat) : Int) else 1))) := rfl
          have e5 : (if ((left / m : Nat) : Int) > 1 then ((left / m : Nat) : Int) else 1) = ((max 1 (left / m) : Nat) : Int) := by
            split <;> omega
          rw [e5] at hmx
          simp [h0, h0', hd1, hmx, -Int.natCast_ediv]
      refine stepK (fun K => by rw [hset]; rfl) ?_
      have hrng : rangeW ((least m beh left : Nat) : Int) 1 ((((left : Int) - beh) / m + 1).toNat - least m beh left) = (lens m beh left).map fun (l : Nat) => .int (l : Int) := by
        rw [rangeW_map2]
        unfold lens
        rw [show (((left : Int) - beh) / m + 1 - (least m beh left : Nat)).toNat = (((left : Int) - beh) / m + 1).toNat - least m beh left by omega]
      simp [hd2, hb1, hb2, hrng]
      exact e
    rw [List.map_cons, forS_nx rfl hb, ih, rowStep_cons, List.map_append, List.map_map, List.append_assoc]
    rfl
end
end Cw

end
section
set_option linter.all false
set_option maxRecDepth 100000
set_option maxHeartbeats 1000000
set_option Elab.async false
/-! Cz77c: all rows of lengths -/
namespace Cw
def msOf (s : List Nat) : List Nat → List (Nat × Nat)
  | [] => []
  | y :: L => (s.count y, (L.map s.count).sum) :: msOf s L
def rowsGo : List (Nat × Nat) → List (List Nat × Nat) → List (List Nat × Nat)
  | [], rs => rs
  | (m, b) :: r, rs => rowsGo r (rowStep m b rs)
def rowsL (s : List Nat) (n : Nat) : List (List Nat) := ((rowsGo (msOf s (lettersU s)) [([], n)]).filter fun p => p.2 == 0).map (·.1)
theorem rowStep_len {m b N : Nat} (hm : 1 ≤ m) : ∀ {rs : List (List Nat × Nat)}, (∀ p ∈ rs, p.2 ≤ N) → (rowStep m b rs).length ≤ rs.length * N
  | [], _ => by simp [rowStep]
  | p :: rs, h => by
    rw [rowStep_cons, List.length_append, List.length_map, List.length_cons, Nat.succ_mul]
    have h1 := rowStep_len (b := b) hm fun q hq => h q (List.mem_cons_of_mem _ hq)
    have h2 := lens_len (beh := b) (left := p.2) hm
    have h3 := h p List.mem_cons_self
    omega
theorem rowStep_mem {m b : Nat} {rs : List (List Nat × Nat)} {p : List Nat × Nat} (h : p ∈ rowStep m b rs) : ∃ q ∈ rs, ∃ l ∈ lens m b q.2, p = (q.1 ++ [l], q.2 - m * l) := by
  obtain ⟨q, hq, h⟩ := List.mem_flatMap.mp h
  obtain ⟨l, hl, rfl⟩ := List.mem_map.mp h
  exact ⟨q, hq, l, hl, rfl⟩
theorem sumI_nat {α : Type} (f : α → Nat) : ∀ l : List α, sumI (l.map fun y => (f y : Int)) = ((l.map f).sum : Nat)
  | [] => rfl
  | y :: l => by
    show (f y : Int) + sumI (l.map fun y => (f y : Int)) = _
    rw [sumI_nat f l, List.map_cons, List.sum_cons]
    push_cast
    rfl
theorem count_sum_le (s : List Nat) (L : List Nat) (h : L.length ≤ 4) : (L.map s.count).sum ≤ 4 * s.length := by
  have : ∀ L : List Nat, (L.map s.count).sum ≤ L.length * s.length := fun L => by
    induction L with
    | nil => simp
    | cons y L ih =>
      rw [List.map_cons, List.sum_cons, List.length_cons, Nat.succ_mul]
      have := List.count_le_length (a := y) (l := s)
      omega
  exact Nat.le_trans (this L) (Nat.mul_le_mul_right _ h)
section
variable {P : Prog} {F : Nat} {x : Nat → Nat} {k : Nat} {c : Cells} {w : W}
theorem rows_out (R : Nat → List W → M Val) (s1 : Slot) (s L : List Nat) (N : Nat) (hN1 : 1 ≤ N) (hN : N ≤ 1000) (hs : s.length ≤ 100) (hL : L.length ≤ 4) (hsL : ∀ y ∈ L, y ∈ s) : ∀ (L2 : List Nat) (i : Nat) (rs : List (List Nat × Nat)) (z4 z5 z6 z7 z8 z9 z10 z11 z12 z13 : Slot), L.drop i = L2 →
    (∀ p ∈ rs, p.1.length + L2.length ≤ 50 ∧ p.2 ≤ N) → rs.length * N ^ L2.length ≤ 16000000 →
    ∃ y4 y5 y6 y7 y8 y9 y10 y11 y12 y13, forS P F R (.tp [4, 5]) (F_length_rows_b3 x) ((L2.zipIdx i).map fun p => .tup [.int (p.2 : Int), .str [p.1]]) [.val (.str s), s1, .val (.lst (L.map fun y => .str [y])), .val (.lst (rs.map rowW)), z4, z5, z6, z7, z8, z9, z10, z11, z12, z13] c
      = .ok (.nx [.val (.str s), s1, .val (.lst (L.map fun y => .str [y])), .val (.lst ((rowsGo (msOf s L2) rs).map rowW)), y4, y5, y6, y7, y8, y9, y10, y11, y12, y13]) c
  | [], i, rs, z4, z5, z6, z7, z8, z9, z10, z11, z12, z13, _, _, _ => ⟨z4, z5, z6, z7, z8, z9, z10, z11, z12, z13, rfl⟩
  | y :: L2, i, rs, z4, z5, z6, z7, z8, z9, z10, z11, z12, z13, hd, hr, hb => by
    have hd2 : L.drop (i + 1) = L2 := by
      rw [← List.tail_drop, hd]
      rfl
    have hyL : y ∈ L := by
      have : y ∈ L.drop i := by rw [hd]; exact List.mem_cons_self
      exact List.mem_of_mem_drop this
    have hm1 : 1 ≤ s.count y := List.count_pos_iff.mpr (hsL y hyL)
    have hm2 : s.count y ≤ 1000 := Nat.le_trans List.count_le_length (by omega)
    have hl2 : L2.length ≤ 4 := by
      rw [← hd2, List.length_drop]
      omega
    have hbe : (L2.map s.count).sum ≤ 1000 := Nat.le_trans (count_sum_le s L2 hl2) (by omega)
    have hlen := rowStep_len (b := (L2.map s.count).sum) (N := N) hm1 (rs := rs) fun p hp => (hr p hp).2
    rw [List.length_cons, Nat.pow_succ] at hb
    have hpow : 1 ≤ N ^ L2.length := Nat.pow_pos hN1
    have hb2 : (rowStep (s.count y) (L2.map s.count).sum rs).length * N ^ L2.length ≤ 16000000 := by
      refine Nat.le_trans (Nat.mul_le_mul_right _ hlen) ?_
      rw [Nat.mul_assoc, Nat.mul_comm N]
      exact hb
    have hb3 : (rowStep (s.count y) (L2.map s.count).sum rs).length ≤ 16000000 := Nat.le_trans (Nat.le_mul_of_pos_right _ hpow) hb2
    obtain ⟨y9, y10, y11, y12, e⟩ := rows_mid (P := P) (F := F) (x := x) (c := c) R (.val (.str s)) s1 (.val (.lst (L.map fun y => .str [y]))) (.val (.lst (rs.map rowW))) (.val (.int (i : Int))) (.val (.str [y])) z13 (s.count y) (L2.map s.count).sum hm1 hm2 hbe rs [] z9 z10 z11 z12
      (fun p hp => by have := hr p hp; rw [List.length_cons] at this; omega) (by simpa using hb3)
    rw [List.nil_append] at e
    obtain ⟨u4, u5, u6, u7, u8, u9, u10, u11, u12, u13, ih⟩ := rows_out R s1 s L N hN1 hN hs hL hsL L2 (i + 1) (rowStep (s.count y) (L2.map s.count).sum rs) (.val (.int (i : Int))) (.val (.str [y])) (.val (.lst ((rowStep (s.count y) (L2.map s.count).sum rs).map rowW))) (.val (.int (s.count y : Nat))) (.val (.int ((L2.map s.count).sum : Nat))) y9 y10 y11 y12 z13 hd2
      (fun p hp => by
        obtain ⟨q, hq, l, hl, rfl⟩ := rowStep_mem hp
        have := hr q hq
        rw [List.length_cons] at this
        show (q.1 ++ [l]).length + _ ≤ 50 ∧ q.2 - _ ≤ N
        rw [List.length_append, List.length_singleton]
        omega) hb2
    refine ⟨u4, u5, u6, u7, u8, u9, u10, u11, u12, u13, ?_⟩
    have hcomp : ∀ (q4 q5 q6 q7 q8 : Slot), compS P R (F_length_rows_e1 x) (.nm 13) .nil [13] [.val (.str s), s1, .val (.lst (L.map fun y => .str [y])), .val (.lst (rs.map rowW)), q4, q5, q6, q7, q8, z9, z10, z11, z12, z13] (L2.map fun y => .str [y]) c = .ok (L2.map fun y => .int (s.count y : Nat)) c := fun q4 q5 q6 q7 q8 =>
      compS_map fun z hz => ⟨_, rfl, rfl, by simp [elV, F_length_rows_e1, wipeS, countS]; rfl⟩
    have hcut : cut (L.map fun y => W.str [y]) (some ((i : Int) + 1)) none = L2.map fun y => .str [y] := by
      rw [show (i : Int) + 1 = ((i + 1 : Nat) : Int) by push_cast; rfl, cut_fromN, ← List.map_drop, hd2]
    have hsz : (L2.map fun y => W.int (s.count y : Nat)).length ≤ sizeL := by
      rw [List.length_map]
      unfold sizeL
      omega
    have hsum : bltop .sum [.lst (L2.map fun y => W.int (s.count y : Nat))] = some (.w (.int ((L2.map s.count).sum : Nat))) := by
      rw [sum_lst, allInt_map]
      show some (Val.w (.int (sumI _))) = _
      rw [sumI_nat]
    have hcy : methop .count (.str s) [.str [y]] = some (.w (.int (s.count y : Nat))) := rfl
    have hbody : exSs P F R (F_length_rows_b3 x) [.val (.str s), s1, .val (.lst (L.map fun y => .str [y])), .val (.lst (rs.map rowW)), .val (.int (i : Int)), .val (.str [y]), z6, z7, z8, z9, z10, z11, z12, z13] c
        = .ok (.nx [.val (.str s), s1, .val (.lst (L.map fun y => .str [y])), .val (.lst ((rowStep (s.count y) (L2.map s.count).sum rs).map rowW)), .val (.int (i : Int)), .val (.str [y]), .val (.lst ((rowStep (s.count y) (L2.map s.count).sum rs).map rowW)), .val (.int (s.count y : Nat)), .val (.int ((L2.map s.count).sum : Nat)), y9, y10, y11, y12, z13]) c := by
      generalize (L2.map fun y => W.int (s.count y : Nat)) = CC at hcomp hsz hsum
      generalize (L2.map fun y => W.str [y]) = LL2 at hcomp hcut
      generalize (L.map fun y => W.str [y]) = LL at hcomp hcut e
      generalize (rs.map rowW) = RR at hcomp e
      generalize ((rowStep (s.count y) (L2.map s.count).sum rs).map rowW) = R2 at e
      generalize ((L2.map s.count).sum : Nat) = SS at hsum e
      generalize (s.count y : Nat) = MM at hcy e
      refine stepK (fun K => by simp [hcy, hcut, hcomp, hsz, hsum, parW, Val.keep]; try with_reducible rfl) ?_
      refine stepK (fun K => by simp; try with_reducible rfl) ?_
      refine stepK (fun K => by simp [e]; try with_reducible rfl) ?_
      simp [ss_cons]
    rw [List.zipIdx_cons, List.map_cons, forS_nx rfl hbody, ih]
    rfl
theorem rowsGo_len {N : Nat} : ∀ (ms : List (Nat × Nat)) (rs : List (List Nat × Nat)), (∀ p ∈ ms, 1 ≤ p.1) → (∀ p ∈ rs, p.2 ≤ N) → (rowsGo ms rs).length ≤ rs.length * N ^ ms.length
  | [], rs, _, _ => by simp [rowsGo]
  | (m, b) :: ms, rs, h1, h2 => by
    have hm := h1 (m, b) List.mem_cons_self
    have := rowsGo_len (N := N) ms (rowStep m b rs) (fun p hp => h1 p (List.mem_cons_of_mem _ hp)) fun p hp => by
      obtain ⟨q, hq, l, hl, rfl⟩ := rowStep_mem hp
      have := h2 q hq
      show q.2 - _ ≤ N
      omega
    refine Nat.le_trans this ?_
    rw [List.length_cons, Nat.pow_succ, Nat.mul_comm (N ^ _), ← Nat.mul_assoc]
    exact Nat.mul_le_mul_right _ (rowStep_len hm h2)
theorem msOf_len (s : List Nat) : ∀ L, (msOf s L).length = L.length
  | [] => rfl
  | y :: L => by rw [msOf, List.length_cons, List.length_cons, msOf_len s L]
theorem msOf_pos (s : List Nat) : ∀ L, (∀ y ∈ L, y ∈ s) → ∀ p ∈ msOf s L, 1 ≤ p.1
  | [], _, p, hp => by cases hp
  | y :: L, h, p, hp => by
    rcases List.mem_cons.mp hp with rfl | hp
    · exact List.count_pos_iff.mpr (h y List.mem_cons_self)
    · exact msOf_pos s L (fun z hz => h z (List.mem_cons_of_mem _ hz)) p hp
theorem lettersU_in {s : List Nat} : ∀ y ∈ lettersU s, y ∈ s := fun y hy => by
  unfold lettersU at hy
  rw [List.mem_filter] at hy
  simpa using hy.2
theorem run_length_rows (h : H_length_rows P x) {s : List Nat} {n : Nat} (hs : s.length ≤ 100) (hn : n ≤ 40) (hk : 2 ≤ k) : run P F k (x n_length_rows) [.str s, .int (n : Int)] c = .ok (.own (.lst ((rowsL s n).map fun r => .tup (iW r)))) c := by
  obtain ⟨k, rfl⟩ := pred_of (k := k) (by omega)
  refine run_fnS h.f rfl ?_ rfl
  have q := run_letters_under (F := F) (k := k) (c := c) h.letters_under (s := s) (by omega)
  have hL := lettersU_le s
  have hpow : 1 * 40 ^ (lettersU s).length ≤ 16000000 := by
    have : 40 ^ (lettersU s).length ≤ 40 ^ 4 := Nat.pow_le_pow_right (by omega) hL
    omega
  obtain ⟨y4, y5, y6, y7, y8, y9, y10, y11, y12, y13, e⟩ := rows_out (P := P) (F := F) (x := x) (c := c) (run P F k) (.val (.int (n : Int))) s (lettersU s) 40 (by omega) (by omega) hs hL lettersU_in (lettersU s) 0 [([], n)] .none .none .none .none .none .none .none .none .none .none rfl
    (fun p hp => by
      have : p = ([], n) := by simpa using hp
      subst this
      exact ⟨by simp; omega, hn⟩) hpow
  have hen : enumW 0 ((lettersU s).map fun y => W.str [y]) = ((lettersU s).zipIdx 0).map fun p => .tup [.int (p.2 : Int), .str [p.1]] := by
    rw [enumW_map, List.zipIdx_map, List.map_map]
    rfl
  have hfin : compS P (run P F k) (F_length_rows_e2 x) (.tp [9, 10]) (F_length_rows_c1 x) [9, 10] [.val (.str s), .val (.int (n : Int)), .val (.lst ((lettersU s).map fun y => .str [y])), .val (.lst ((rowsGo (msOf s (lettersU s)) [([], n)]).map rowW)), y4, y5, y6, y7, y8, y9, y10, y11, y12, y13] ((rowsGo (msOf s (lettersU s)) [([], n)]).map rowW) c
      = .ok (((rowsGo (msOf s (lettersU s)) [([], n)]).filter fun p => p.2 == 0).map fun p => .tup (iW p.1)) c := by
    refine compS_filter fun p hp => ⟨_, rfl, ?_, fun _ => by simp [elV, F_length_rows_e2, wipeS]⟩
    have : ((p.2 : Int) == 0) = (p.2 == 0) := by
      rw [Bool.eq_iff_iff]
      simp
    simp [F_length_rows_c1, wipeS]
    exact this
  have hz : (((rowsGo (msOf s (lettersU s)) [([], n)]).filter fun p => p.2 == 0).map fun p => W.tup (iW p.1)).length ≤ sizeL := by
    rw [List.length_map]
    have h1 := List.length_filter_le (fun p : List Nat × Nat => p.2 == 0) (rowsGo (msOf s (lettersU s)) [([], n)])
    have h2 := rowsGo_len (N := 40) (msOf s (lettersU s)) [([], n)] (msOf_pos s _ lettersU_in) (fun p hp => by
      have : p = ([], n) := by simpa using hp
      subst this
      exact hn)
    rw [msOf_len] at h2
    unfold sizeL
    have : ([([], n)] : List (List Nat × Nat)).length = 1 := rfl
    rw [this] at h2
    omega
  have hres : (rowsL s n).map (fun r => W.tup (iW r)) = (((rowsGo (msOf s (lettersU s)) [([], n)]).filter fun p => p.2 == 0).map fun p => W.tup (iW p.1)) := by
    unfold rowsL
    rw [List.map_map]
    rfl
  rw [hres]
  have e0 : ([([], n)] : List (List Nat × Nat)).map rowW = [.tup [.tup [], .int (n : Int)]] := rfl
  rw [e0] at e
  generalize (((rowsGo (msOf s (lettersU s)) [([], n)]).filter fun p => p.2 == 0).map fun p => W.tup (iW p.1)) = FF at hfin hz
  generalize ((rowsGo (msOf s (lettersU s)) [([], n)]).map rowW) = GG at e hfin
  generalize ((lettersU s).zipIdx 0).map (fun p => W.tup [.int (p.2 : Int), .str [p.1]]) = EE at hen e
  generalize ((lettersU s).map fun y => W.str [y]) = LL at q hen e hfin
  refine stepK (fun K => by simp [F_length_rows, q]; try with_reducible rfl) ?_
  refine stepK (fun K => by simp; try with_reducible rfl) ?_
  refine stepK (fun K => by simp [hen, e]; try with_reducible rfl) ?_
  exact stepR (by simp [hfin, hz])
end
end Cw

end
section
set_option linter.all false
set_option maxRecDepth 100000
set_option maxHeartbeats 1000000
set_option Elab.async false
/-! Cz77d: maps by lengths -/
namespace Cw
def putD (d : Dct) (a : Nat) (p : List Nat) : Dct := if (lookD d a).isSome = true then d else d ++ [(a, p)]
def mapGo (w : List Nat) (r L : List Nat) : List Nat → Dct → Nat → Option Dct
  | [], d, _ => some d
  | a :: t, d, i => if (lookD d a).getD ((w.drop i).take (r.getD (L.idxOf a) 0)) = (w.drop i).take (r.getD (L.idxOf a) 0) then mapGo w r L t (putD d a ((w.drop i).take (r.getD (L.idxOf a) 0))) (i + r.getD (L.idxOf a) 0) else none
def mapBy (s w r : List Nat) : Option (List (List Nat)) := (mapGo w r (lettersU s) s [] 0).map fun d => (lettersU s).map fun a => (lookD d a).getD []
def mW : Option (List (List Nat)) → W
  | none => .non
  | some v => .tup (v.map .str)
def mapsA (s w : List Nat) : List (List (List Nat)) := (rowsL s w.length).filterMap (mapBy s w)
theorem keysD_put {d : Dct} {a : Nat} {p : List Nat} (nd : (keysD d).Nodup) : (keysD (putD d a p)).Nodup := by
  unfold putD
  split
  · exact nd
  · rename_i h
    have : lookD d a = none := by simpa using h
    unfold keysD
    rw [List.map_append, List.nodup_append]
    refine ⟨nd, by simp, fun x hx y hy e => ?_⟩
    have : y = a := by simpa using hy
    subst this e
    exact lookD_none.mp ‹_› hx
theorem putD_len (d : Dct) (a : Nat) (p : List Nat) : (putD d a p).length ≤ d.length + 1 := by
  unfold putD
  split
  · omega
  · simp
theorem lookD_put {d : Dct} {a b : Nat} {p : List Nat} : (lookD d b).isSome = true ∨ a = b → (lookD (putD d a p) b).isSome = true := by
  intro h
  unfold putD
  split
  · rename_i hs
    rcases h with h | h
    · exact h
    · rw [← h]; exact hs
  · rw [lookD_app]
    rcases h with h | h
    · cases hq : lookD d b with
      | some v => rfl
      | none => rw [hq] at h; cases h
    · rw [if_pos h]
      cases lookD d b <;> rfl
theorem mapGo_keys {w r L : List Nat} : ∀ {t : List Nat} {d d' : Dct} {i : Nat}, mapGo w r L t d i = some d' → ∀ b, (lookD d b).isSome = true ∨ b ∈ t → (lookD d' b).isSome = true
  | [], d, d', i, h, b, hb => by
    cases h
    rcases hb with hb | hb
    · exact hb
    · cases hb
  | a :: t, d, d', i, h, b, hb => by
    rw [mapGo] at h
    split at h
    case isFalse => cases h
    refine mapGo_keys h b ?_
    rcases hb with hb | hb
    · exact .inl (lookD_put (.inl hb))
    · rcases List.mem_cons.mp hb with hb | hb
      · exact .inl (lookD_put (.inr hb.symm))
      · exact .inr hb
theorem putW_d {d : Dct} (nd : (keysD d).Nodup) {a : Nat} {p : List Nat} (h : (lookD d a).getD p = p) : putW (dK d) (dV d) (.str [a]) (.str p) = dW (putD d a p) := by
  unfold putD
  cases hq : lookD d a with
  | none => exact put_new hq
  | some v =>
    rw [hq] at h
    have h : v = p := h
    subst h
    exact put_same nd hq
section
variable {P : Prog} {F : Nat} {x : Nat → Nat} {k : Nat} {c : Cells} {w : W}
theorem map_loop (R : Nat → List W → M Val) (s0 : Slot) (T r L : List Nat) (hT : T.length ≤ 200) (hrl : r.length = L.length) (hr : ∀ n ∈ r, n ≤ 1000) : ∀ (t : List Nat) (d : Dct) (i : Nat) (z3 z7 z8 : Slot), (∀ y ∈ t, y ∈ L) → (keysD d).Nodup → d.length + t.length ≤ 1000 →
    (mapGo T r L t d i = none → forS P F R (.nm 3) (F_map_by_lengths_b1 x) (t.map fun y => .str [y]) [s0, .val (.str T), .val (.tup (iW r)), z3, .val (.lst (L.map fun y => .str [y])), .own (dW d), .val (.int (i : Int)), z7, z8] c = .ok (.rt (.w .non)) c) ∧
    (∀ d', mapGo T r L t d i = some d' → ∃ y3 y6 y7 y8, forS P F R (.nm 3) (F_map_by_lengths_b1 x) (t.map fun y => .str [y]) [s0, .val (.str T), .val (.tup (iW r)), z3, .val (.lst (L.map fun y => .str [y])), .own (dW d), .val (.int (i : Int)), z7, z8] c
      = .ok (.nx [s0, .val (.str T), .val (.tup (iW r)), y3, .val (.lst (L.map fun y => .str [y])), .own (dW d'), y6, y7, y8]) c)
  | [], d, i, z3, z7, z8, _, _, _ => ⟨(fun h => by cases h), fun d' h => by cases h; exact ⟨z3, _, z7, z8, rfl⟩⟩
  | a :: t, d, i, z3, z7, z8, ht, nd, hl => by
    rw [List.length_cons] at hl
    have hidx := index_lst (ht a List.mem_cons_self)
    have hix : L.idxOf a < r.length := by rw [hrl]; exact List.idxOf_lt_length_of_mem (ht a List.mem_cons_self)
    generalize hn : r.getD (L.idxOf a) 0 = n
    have hat : atI (iW r) ((L.idxOf a : Nat) : Int) = some (.int (n : Int)) := by
      rw [atI_nat (by rw [iW_len]; exact hix)]
      unfold iW
      rw [List.getElem?_map, List.getElem?_eq_getElem hix, ← hn, List.getD_eq_getElem?_getD, List.getElem?_eq_getElem hix]
      rfl
    have hcut : cut T (some (i : Int)) (some ((i : Int) + (n : Int))) = (T.drop i).take n := by
      rw [show (i : Int) + (n : Int) = ((i + n : Nat) : Int) by push_cast; rfl, cut_nat]
      congr 1
      omega
    have hdl : (dK d).length < sizeL := by unfold dK sizeL; rw [List.length_map]; omega
    have ih := map_loop R s0 T r L hT hrl hr t (putD d a ((T.drop i).take n)) (i + n) (.val (.str [a])) (.val (.int (n : Int))) (.val (.str ((T.drop i).take n))) (fun y hy => ht y (List.mem_cons_of_mem _ hy)) (keysD_put nd) (by have := putD_len d a ((T.drop i).take n); omega)
    have ei : ((i + n : Nat) : Int) = (i : Int) + (n : Int) := by push_cast; rfl
    rw [ei] at ih
    have hgo : mapGo T r L (a :: t) d i = if (lookD d a).getD ((T.drop i).take n) = (T.drop i).take n then mapGo T r L t (putD d a ((T.drop i).take n)) (i + n) else none := by
      rw [mapGo, hn]
    have hgd := dgetD_d d a ((T.drop i).take n)
    have hd : dW d = .dct (dK d) (dV d) := rfl
    by_cases hc : (lookD d a).getD ((T.drop i).take n) = (T.drop i).take n
    · rw [if_pos hc] at hgo
      have hput := putW_d nd hc
      rw [hc] at hgd
      have hb : exSs P F R (F_map_by_lengths_b1 x) [s0, .val (.str T), .val (.tup (iW r)), .val (.str [a]), .val (.lst (L.map fun y => .str [y])), .own (dW d), .val (.int (i : Int)), z7, z8] c
          = .ok (.nx [s0, .val (.str T), .val (.tup (iW r)), .val (.str [a]), .val (.lst (L.map fun y => .str [y])), .own (dW (putD d a ((T.drop i).take n))), .val (.int ((i : Int) + (n : Int))), .val (.int (n : Int)), .val (.str ((T.drop i).take n))]) c := by
        generalize (T.drop i).take n = p at hcut hgd hput
        generalize (L.map fun y => W.str [y]) = LL at hidx
        generalize iW r = rr at hat
        refine stepK (fun K => by simp [hidx, hat]; try with_reducible rfl) ?_
        refine stepK (fun K => by simp [slc_str (size200 hT), hcut]; try with_reducible rfl) ?_
        refine stepK (fun K => by simp [hgd]; try with_reducible rfl) ?_
        refine stepK (fun K => by simp [dputM, hd, hdl, hput, W.isKey]; try with_reducible rfl) ?_
        simp
      rw [List.map_cons, forS_nx rfl hb, hgo]
      exact ih
    · rw [if_neg hc] at hgo
      have hb : exSs P F R (F_map_by_lengths_b1 x) [s0, .val (.str T), .val (.tup (iW r)), .val (.str [a]), .val (.lst (L.map fun y => .str [y])), .own (dW d), .val (.int (i : Int)), z7, z8] c
          = .ok (.rt (.w .non)) c := by
        generalize (T.drop i).take n = p at hcut hgd hc
        generalize (L.map fun y => W.str [y]) = LL at hidx
        generalize iW r = rr at hat
        refine stepK (fun K => by simp [hidx, hat]; try with_reducible rfl) ?_
        refine stepK (fun K => by simp [slc_str (size200 hT), hcut]; try with_reducible rfl) ?_
        refine stepR (by simp [hgd, hc])
      rw [List.map_cons, forS_rt rfl hb, hgo]
      exact ⟨fun _ => rfl, fun d' h => by cases h⟩
theorem run_map_by_lengths (h : H_map_by_lengths P x) {s T r : List Nat} (hss : Shp s) (hs : s.length ≤ 100) (hT : T.length ≤ 200) (hrl : r.length = (lettersU s).length) (hr : ∀ n ∈ r, n ≤ 1000) (hk : 2 ≤ k) :
    run P F k (x n_map_by_lengths) [.str s, .str T, .tup (iW r)] c = .ok (.w (mW (mapBy s T r))) c := by
  obtain ⟨k, rfl⟩ := pred_of (k := k) (by omega)
  refine run_fnS h.f rfl ?_ rfl
  have q := run_letters_under (F := F) (k := k) (c := c) h.letters_under (s := s) (by omega)
  obtain ⟨e1, e2⟩ := map_loop (P := P) (F := F) (x := x) (c := c) (run P F k) (.val (.str s)) T r (lettersU s) hT hrl hr s [] 0 .none .none .none (fun y hy => (lettersU_mem hss).mpr hy) (by simp [keysD]) (by simp; omega)
  have e0 : dW [] = .dct [] [] := rfl
  have hz0 : ((0 : Nat) : Int) = 0 := rfl
  rw [e0, hz0] at e1 e2
  unfold mapBy
  cases hm : mapGo T r (lettersU s) s [] 0 with
  | none =>
    have e := e1 hm
    generalize ((lettersU s).map fun y => W.str [y]) = LL at q e
    refine stepK (fun K => by simp [F_map_by_lengths, q, parW, Val.keep]; try with_reducible rfl) ?_
    exact stepR (by simp [e, mW])
  | some d =>
    obtain ⟨y3, y6, y7, y8, e⟩ := e2 d hm
    have hcomp : compS P (run P F k) (F_map_by_lengths_e1 x) (.nm 3) .nil [3] [.val (.str s), .val (.str T), .val (.tup (iW r)), y3, .val (.lst ((lettersU s).map fun y => .str [y])), .own (dW d), y6, y7, y8] ((lettersU s).map fun y => .str [y]) c = .ok ((lettersU s).map fun a => .str ((lookD d a).getD [])) c := by
      refine compS_map fun a ha => ⟨_, rfl, rfl, ?_⟩
      have hg := dget_d d a
      have hsome := mapGo_keys hm a (.inr (lettersU_in a ha))
      cases hq : lookD d a with
      | none => rw [hq] at hsome; cases hsome
      | some v =>
        rw [hq] at hg
        simp [elV, F_map_by_lengths_e1, wipeS, hg]
    have hz : ((lettersU s).map fun a => W.str ((lookD d a).getD [])).length ≤ sizeL := by
      rw [List.length_map]
      have := lettersU_le s
      unfold sizeL
      omega
    have hw : mW (some ((lettersU s).map fun a => (lookD d a).getD [])) = .tup ((lettersU s).map fun a => .str ((lookD d a).getD [])) := by
      show W.tup (List.map _ _) = _
      rw [List.map_map]
      rfl
    show exSs P F _ _ _ c = .ok (.rt (.w (mW (some ((lettersU s).map fun a => (lookD d a).getD []))))) c
    rw [hw]
    generalize ((lettersU s).map fun a => W.str ((lookD d a).getD [])) = VV at hcomp hz
    generalize ((lettersU s).map fun y => W.str [y]) = LL at q e hcomp
    refine stepK (fun K => by simp [F_map_by_lengths, q, parW, Val.keep]; try with_reducible rfl) ?_
    refine stepK (fun K => by simp [e]; try with_reducible rfl) ?_
    exact stepR (by simp [hcomp, hz])
end
end Cw

end
section
set_option linter.all false
set_option maxRecDepth 100000
set_option maxHeartbeats 1000000
set_option Elab.async false
/-! Cz77e: what a map is -/
namespace Cw
theorem idx_nth : ∀ {L : List Nat}, L.Nodup → ∀ {i : Nat} (h : i < L.length), L.idxOf L[i] = i
  | [], _, i, h => by cases h
  | y :: L, nd, 0, h => by rw [List.getElem_cons_zero, List.idxOf_cons]; simp
  | y :: L, nd, i + 1, h => by
    rw [List.nodup_cons] at nd
    have h2 : i < L.length := by rw [List.length_cons] at h; omega
    rw [List.getElem_cons_succ, List.idxOf_cons]
    have : (y == L[i]) = false := by
      rw [beq_eq_false_iff_ne]
      intro e
      exact nd.1 (e ▸ List.getElem_mem h2)
    rw [this, idx_nth nd.2 h2]
    rfl
theorem map_idx {α : Type} {L : List Nat} {r : List α} {z : α} (nd : L.Nodup) (h : r.length = L.length) : (L.map fun a => r.getD (L.idxOf a) z) = r := by
  apply List.ext_getElem
  · rw [List.length_map, h]
  · intro i h1 h2
    have h3 : i < L.length := by omega
    rw [List.getElem_map, idx_nth nd h3, List.getD_eq_getElem?_getD, List.getElem?_eq_getElem h2]
    rfl
def fitR : List Nat → Nat → List Nat → Prop
  | [], n, [] => n = 0
  | m :: ms, n, l :: t => 1 ≤ l ∧ m * l ≤ n ∧ fitR ms (n - m * l) t
  | _, _, _ => False
theorem fitR_sum : ∀ {ms : List Nat} {n : Nat} {t : List Nat}, fitR ms n t → ms.sum ≤ n
  | [], n, t, _ => by simp
  | m :: ms, n, [], h => h.elim
  | m :: ms, n, l :: t, h => by
    obtain ⟨h1, h2, h3⟩ := h
    have h4 := fitR_sum h3
    have h5 : m * 1 ≤ m * l := Nat.mul_le_mul_left _ h1
    rw [List.sum_cons]
    omega
theorem fitR_len : ∀ {ms : List Nat} {n : Nat} {t : List Nat}, fitR ms n t → t.length = ms.length
  | [], n, [], _ => rfl
  | [], n, l :: t, h => h.elim
  | m :: ms, n, [], h => h.elim
  | m :: ms, n, l :: t, h => by rw [List.length_cons, List.length_cons, fitR_len h.2.2]
theorem rowsGo_mem {s : List Nat} : ∀ (L : List Nat) (rs : List (List Nat × Nat)) (r : List Nat), (∀ y ∈ L, y ∈ s) → ((r, 0) ∈ rowsGo (msOf s L) rs ↔ ∃ q ∈ rs, ∃ t, r = q.1 ++ t ∧ fitR (L.map s.count) q.2 t)
  | [], rs, r, _ => by
    constructor
    · intro h
      exact ⟨(r, 0), h, [], by simp, rfl⟩
    · rintro ⟨q, hq, t, rfl, ht⟩
      cases t with
      | nil =>
        have : q.2 = 0 := ht
        show (q.1 ++ [], 0) ∈ rs
        rw [List.append_nil, ← this]
        exact hq
      | cons l t => exact ht.elim
  | y :: L, rs, r, hL => by
    have hm : 1 ≤ s.count y := List.count_pos_iff.mpr (hL y List.mem_cons_self)
    have ih := rowsGo_mem L (rowStep (s.count y) (L.map s.count).sum rs) r fun z hz => hL z (List.mem_cons_of_mem _ hz)
    show (r, 0) ∈ rowsGo (msOf s L) (rowStep (s.count y) (L.map s.count).sum rs) ↔ _
    rw [ih]
    constructor
    · rintro ⟨q', hq', t, rfl, ht⟩
      obtain ⟨q, hq, l, hl, rfl⟩ := rowStep_mem hq'
      have h1 := lens_pos hm hl
      have h2 := ((lens_mem hm).mp hl).2
      exact ⟨q, hq, l :: t, by simp, h1, (by show s.count y * l ≤ q.2; omega), ht⟩
    · rintro ⟨q, hq, t, rfl, ht⟩
      cases t with
      | nil => exact ht.elim
      | cons l t =>
        obtain ⟨h1, h2, h3⟩ := ht
        have h2 : s.count y * l ≤ q.2 := h2
        have h3 : fitR (L.map s.count) (q.2 - s.count y * l) t := h3
        refine ⟨(q.1 ++ [l], q.2 - s.count y * l), ?_, t, by simp, h3⟩
        refine List.mem_flatMap.mpr ⟨q, hq, List.mem_map.mpr ⟨l, (lens_mem hm).mpr ⟨?_, ?_⟩, rfl⟩⟩
        · unfold least
          by_cases hb : 0 < (L.map s.count).sum
          · rw [if_pos hb]; exact h1
          · rw [if_neg hb]
            cases L with
            | nil =>
              have h4 := fitR_len h3
              have : t = [] := by simpa using h4
              subst this
              have h5 : q.2 - s.count y * l = 0 := h3
              have h6 : q.2 = s.count y * l := by omega
              rw [h6, Nat.mul_div_cancel_left _ (by omega)]
              omega
            | cons z L =>
              exfalso
              have : 1 ≤ s.count z := List.count_pos_iff.mpr (hL z (by simp))
              simp only [List.map_cons, List.sum_cons] at hb
              omega
        · have := fitR_sum h3
          omega
theorem fitR_map {G f : Nat → Nat} : ∀ {L : List Nat} {n : Nat}, fitR (L.map G) n (L.map f) ↔ (∀ a ∈ L, 1 ≤ f a) ∧ (L.map fun a => G a * f a).sum = n
  | [], n => by
    show n = 0 ↔ _
    constructor
    · rintro rfl; exact ⟨(fun a h => by cases h), rfl⟩
    · rintro ⟨_, h⟩; exact h.symm
  | y :: L, n => by
    show 1 ≤ f y ∧ G y * f y ≤ n ∧ fitR (L.map G) (n - G y * f y) (L.map f) ↔ _
    rw [fitR_map (L := L), List.map_cons, List.sum_cons]
    constructor
    · rintro ⟨h1, h2, h3, h4⟩
      refine ⟨fun a ha => ?_, by omega⟩
      rcases List.mem_cons.mp ha with rfl | ha
      · exact h1
      · exact h3 a ha
    · rintro ⟨h1, h2⟩
      exact ⟨h1 y List.mem_cons_self, by omega, fun a ha => h1 a (List.mem_cons_of_mem _ ha), by omega⟩
theorem sum_single {f : Nat → Nat} {z : Nat} : ∀ {L : List Nat}, L.Nodup → (L.map fun a => (if z = a then 1 else 0) * f a).sum = if z ∈ L then f z else 0
  | [], _ => rfl
  | y :: L, nd => by
    rw [List.nodup_cons] at nd
    rw [List.map_cons, List.sum_cons, sum_single nd.2]
    by_cases h : z = y
    · subst h
      rw [if_pos rfl, if_neg nd.1, if_pos List.mem_cons_self]
      omega
    · rw [if_neg h]
      by_cases h2 : z ∈ L
      · rw [if_pos h2, if_pos (List.mem_cons_of_mem _ h2)]; omega
      · rw [if_neg h2, if_neg (by simp [h, h2])]
        omega
theorem sum_add' {f g : Nat → Nat} : ∀ {L : List Nat}, (L.map fun a => f a + g a).sum = (L.map f).sum + (L.map g).sum
  | [] => rfl
  | y :: L => by
    rw [List.map_cons, List.sum_cons, sum_add', List.map_cons, List.sum_cons, List.map_cons, List.sum_cons]
    omega
theorem sum_count {L : List Nat} (nd : L.Nodup) (f : Nat → Nat) : ∀ {s : List Nat}, (∀ y ∈ s, y ∈ L) → (L.map fun a => s.count a * f a).sum = (s.map f).sum
  | [], _ => by
    have : ∀ L : List Nat, (L.map fun a => ([] : List Nat).count a * f a).sum = 0 := fun L => by
      induction L with
      | nil => rfl
      | cons y L ih => rw [List.map_cons, List.sum_cons, ih]; simp
    rw [this]
    rfl
  | z :: s, h => by
    have e : (fun a => (z :: s).count a * f a) = fun a => s.count a * f a + (if z = a then 1 else 0) * f a := by
      funext a
      rw [List.count_cons, ← Nat.add_mul]
      by_cases h : z = a <;> simp [h]
    rw [e, sum_add', sum_count nd f fun y hy => h y (List.mem_cons_of_mem _ hy), sum_single nd, if_pos (h z List.mem_cons_self), List.map_cons, List.sum_cons]
    omega
abbrev rAt (s r : List Nat) (a : Nat) : Nat := r.getD ((lettersU s).idxOf a) 0
abbrev vAt (s : List Nat) (v : List (List Nat)) (a : Nat) : List Nat := v.getD ((lettersU s).idxOf a) []
theorem rowsL_mem {s : List Nat} (hs : Shp s) {n : Nat} {r : List Nat} : r ∈ rowsL s n ↔ r.length = (lettersU s).length ∧ (∀ a ∈ lettersU s, 1 ≤ rAt s r a) ∧ (s.map (rAt s r)).sum = n := by
  have h1 : r ∈ rowsL s n ↔ (r, 0) ∈ rowsGo (msOf s (lettersU s)) [([], n)] := by
    unfold rowsL
    rw [List.mem_map]
    constructor
    · rintro ⟨p, hp, rfl⟩
      rw [List.mem_filter] at hp
      have : p.2 = 0 := by simpa using hp.2
      rw [← this]
      exact hp.1
    · intro h
      exact ⟨(r, 0), List.mem_filter.mpr ⟨h, rfl⟩, rfl⟩
  rw [h1, rowsGo_mem _ _ _ lettersU_in]
  have key : ∀ r : List Nat, r.length = (lettersU s).length → (fitR ((lettersU s).map s.count) n r ↔ (∀ a ∈ lettersU s, 1 ≤ rAt s r a) ∧ (s.map (rAt s r)).sum = n) := fun r hl => by
    have e := map_idx (z := 0) (lettersU_nodup s) hl
    have q := fitR_map (G := s.count) (f := rAt s r) (L := lettersU s) (n := n)
    rw [show (lettersU s).map (rAt s r) = r from e] at q
    rw [q, sum_count (lettersU_nodup s) _ fun y hy => (lettersU_mem hs).mpr hy]
  constructor
  · rintro ⟨q, hq, t, rfl, ht⟩
    have : q = ([], n) := by simpa using hq
    subst this
    have hl := fitR_len ht
    rw [List.length_map] at hl
    exact ⟨hl, (key t hl).mp ht⟩
  · rintro ⟨hl, h⟩
    exact ⟨([], n), by simp, r, by simp, (key r hl).mpr h⟩
theorem lookD_putD (d : Dct) (a b : Nat) (p : List Nat) : lookD (putD d a p) b = (lookD d b).or (if a = b then some p else none) := by
  unfold putD
  split
  · rename_i h
    by_cases e : a = b
    · subst e
      cases hq : lookD d a with
      | none => rw [hq] at h; cases h
      | some v => rfl
    · rw [if_neg e]
      cases lookD d b <;> rfl
  · exact lookD_app d a b p
theorem mapGo_some (f : Nat → List Nat) {w r L : List Nat} : ∀ (t : List Nat) (d : Dct) (i : Nat), (∀ y ∈ t, r.getD (L.idxOf y) 0 = (f y).length) → (∀ a p, lookD d a = some p → p = f a) → w.drop i = t.flatMap f →
    ∃ d', mapGo w r L t d i = some d' ∧ ∀ a p, lookD d' a = some p → p = f a
  | [], d, i, _, hd, _ => ⟨d, rfl, hd⟩
  | a :: t, d, i, hr, hd, hw => by
    rw [List.flatMap_cons] at hw
    have hp : (w.drop i).take (f a).length = f a := by rw [hw]; simp
    have hdr : w.drop (i + (f a).length) = t.flatMap f := by rw [← List.drop_drop, hw]; simp
    rw [mapGo, hr a List.mem_cons_self, hp]
    have hg : (lookD d a).getD (f a) = f a := by
      cases hq : lookD d a with
      | none => rfl
      | some p => exact hd a p hq
    rw [if_pos hg]
    refine mapGo_some f t _ _ (fun y hy => hr y (List.mem_cons_of_mem _ hy)) (fun b p hb => ?_) hdr
    rw [lookD_putD] at hb
    cases hq : lookD d b with
    | some v =>
      rw [hq] at hb
      have : v = p := by simpa using hb
      rw [← this]
      exact hd b v hq
    | none =>
      rw [hq] at hb
      by_cases e : a = b
      · subst e
        have : f a = p := by simpa using hb
        exact this.symm
      · rw [if_neg e] at hb
        cases hb
theorem mapGo_sound {w r L : List Nat} : ∀ (t : List Nat) (d : Dct) (i : Nat) {d' : Dct}, mapGo w r L t d i = some d' → i + (t.map fun y => r.getD (L.idxOf y) 0).sum = w.length →
    (∀ a p, lookD d a = some p → lookD d' a = some p) ∧ t.flatMap (fun y => (lookD d' y).getD []) = w.drop i ∧ ∀ y ∈ t, ((lookD d' y).getD []).length = r.getD (L.idxOf y) 0
  | [], d, i, d', h, hi => by
    cases h
    refine ⟨fun a p h => h, ?_, fun y hy => by cases hy⟩
    have : i = w.length := by simpa using hi
    rw [this, List.drop_length]
    rfl
  | a :: t, d, i, d', h, hi => by
    rw [mapGo] at h
    split at h
    case isFalse => cases h
    rename_i hg
    rw [List.map_cons, List.sum_cons] at hi
    obtain ⟨h1, h2, h3⟩ := mapGo_sound t _ _ h (by omega)
    have ha : lookD (putD d a ((w.drop i).take (r.getD (L.idxOf a) 0))) a = some ((w.drop i).take (r.getD (L.idxOf a) 0)) := by
      rw [lookD_putD, if_pos rfl]
      cases hq : lookD d a with
      | none => rfl
      | some v =>
        rw [hq] at hg
        have hg : v = _ := hg
        rw [hg]
        rfl
    have ha' := h1 _ _ ha
    refine ⟨fun b p hb => h1 b p ?_, ?_, fun y hy => ?_⟩
    · rw [lookD_putD, hb]; rfl
    · rw [List.flatMap_cons, ha', h2, Option.getD_some, ← List.drop_drop, List.take_append_drop]
    · rcases List.mem_cons.mp hy with rfl | hy
      · rw [ha', Option.getD_some, List.length_take, List.length_drop]
        omega
      · exact h3 y hy
/-- the maps -/
def valid (s w : List Nat) (v : List (List Nat)) : Prop := v.length = (lettersU s).length ∧ (∀ p ∈ v, p ≠ []) ∧ s.flatMap (vAt s v) = w
theorem vAt_mem {s : List Nat} (hs : Shp s) {v : List (List Nat)} (hl : v.length = (lettersU s).length) {y : Nat} (hy : y ∈ s) : vAt s v y ∈ v := by
  have h1 := List.idxOf_lt_length_of_mem ((lettersU_mem hs).mpr hy)
  unfold vAt
  rw [List.getD_eq_getElem?_getD, List.getElem?_eq_getElem (by omega)]
  exact List.getElem_mem _
theorem mapBy_sound {s w r : List Nat} {v : List (List Nat)} (hs : Shp s) (hr : r ∈ rowsL s w.length) (h : mapBy s w r = some v) : valid s w v ∧ v.map List.length = r := by
  obtain ⟨h1, h2, h3⟩ := (rowsL_mem hs).mp hr
  unfold mapBy at h
  obtain ⟨d, hd, rfl⟩ := Option.map_eq_some_iff.mp h
  obtain ⟨g1, g2, g3⟩ := mapGo_sound s [] 0 hd (by rw [Nat.zero_add]; exact h3)
  have hat : ∀ y ∈ s, vAt s ((lettersU s).map fun a => (lookD d a).getD []) y = (lookD d y).getD [] := fun y hy => by
    have h5 := (lettersU_mem hs).mpr hy
    unfold vAt
    rw [List.getD_eq_getElem?_getD, List.getElem?_map, List.getElem?_eq_getElem (List.idxOf_lt_length_of_mem h5), List.getElem_idxOf]
    rfl
  refine ⟨⟨by rw [List.length_map], ?_, ?_⟩, ?_⟩
  · intro p hp
    obtain ⟨a, ha, rfl⟩ := List.mem_map.mp hp
    have h5 := g3 a (lettersU_in a ha)
    have h6 := h2 a ha
    intro e
    rw [e] at h5
    have : (0 : Nat) = rAt s r a := h5
    omega
  · rw [List.drop_zero] at g2
    rw [← g2]
    have : ∀ t : List Nat, (∀ y ∈ t, y ∈ s) → t.flatMap (vAt s ((lettersU s).map fun a => (lookD d a).getD [])) = t.flatMap (fun y => (lookD d y).getD []) := fun t ht => by
      induction t with
      | nil => rfl
      | cons y t ih => rw [List.flatMap_cons, List.flatMap_cons, hat y (ht y List.mem_cons_self), ih fun z hz => ht z (List.mem_cons_of_mem _ hz)]
    exact this s fun y hy => hy
  · rw [List.map_map]
    have e := map_idx (z := 0) (lettersU_nodup s) h1
    refine Eq.trans (List.map_congr_left fun a ha => ?_) e
    exact g3 a (lettersU_in a ha)
theorem flat_lens {f : Nat → List Nat} : ∀ (s : List Nat), (s.flatMap f).length = (s.map fun y => (f y).length).sum
  | [] => rfl
  | y :: s => by rw [List.flatMap_cons, List.length_append, flat_lens s, List.map_cons, List.sum_cons]
theorem valid_lens {s w : List Nat} {v : List (List Nat)} (hs : Shp s) (h : valid s w v) : v.map List.length ∈ rowsL s w.length ∧ mapBy s w (v.map List.length) = some v := by
  obtain ⟨h1, h2, h3⟩ := h
  have hat : ∀ a, rAt s (v.map List.length) a = (vAt s v a).length := fun a => by
    unfold rAt vAt
    rw [List.getD_eq_getElem?_getD, List.getD_eq_getElem?_getD, List.getElem?_map]
    cases v[(lettersU s).idxOf a]? <;> rfl
  refine ⟨(rowsL_mem hs).mpr ⟨by rw [List.length_map, h1], fun a ha => ?_, ?_⟩, ?_⟩
  · rw [hat]
    have := h2 _ (vAt_mem hs h1 (lettersU_in a ha))
    exact List.length_pos_iff.mpr this
  · rw [show (rAt s (v.map List.length)) = fun a => (vAt s v a).length from funext hat, ← flat_lens, h3]
  · obtain ⟨d, hd, hd2⟩ := mapGo_some (vAt s v) (w := w) (r := v.map List.length) (L := lettersU s) s [] 0 (fun y _ => hat y) (fun a p h => by cases h) (by rw [List.drop_zero, h3])
    unfold mapBy
    rw [hd]
    show some _ = some v
    congr 1
    refine Eq.trans (List.map_congr_left fun a ha => ?_) (map_idx (z := []) (lettersU_nodup s) h1)
    have h5 := mapGo_keys hd a (.inr (lettersU_in a ha))
    cases hq : lookD d a with
    | none => rw [hq] at h5; cases h5
    | some p => exact hd2 a p hq
theorem mapsA_mem {s w : List Nat} {v : List (List Nat)} (hs : Shp s) : v ∈ mapsA s w ↔ valid s w v := by
  unfold mapsA
  rw [List.mem_filterMap]
  constructor
  · rintro ⟨r, hr, h⟩
    exact (mapBy_sound hs hr h).1
  · intro h
    exact ⟨_, valid_lens hs h⟩
/-! ### their order -/
def ltN (a b : List Nat) : Prop := lexI (a.map fun (n : Nat) => (n : Int)) (b.map fun (n : Nat) => (n : Int)) = true
theorem lexI_app : ∀ {a b x y : List Int}, a.length = b.length → lexI a b = true → lexI (a ++ x) (b ++ y) = true
  | [], [], x, y, _, h => by cases h
  | [], _ :: _, x, y, h, _ => by cases h
  | _ :: _, [], x, y, h, _ => by cases h
  | p :: a, q :: b, x, y, h, h2 => by
    rw [List.cons_append, List.cons_append, lexI]
    rw [lexI] at h2
    split
    · rename_i e
      rw [if_pos e] at h2
      exact lexI_app (by simpa using h) h2
    · rename_i e
      rw [if_neg e] at h2
      exact h2
theorem lexI_pre : ∀ {a x y : List Int}, lexI (a ++ x) (a ++ y) = lexI x y
  | [], x, y => rfl
  | p :: a, x, y => by rw [List.cons_append, List.cons_append, lexI, if_pos rfl, lexI_pre]
theorem lexI_irr : ∀ a : List Int, lexI a a = false
  | [] => rfl
  | x :: a => by rw [lexI, if_pos rfl, lexI_irr a]
theorem lexI_asy : ∀ {a b : List Int}, lexI a b = true → lexI b a = false
  | [], [], h => by cases h
  | [], _ :: _, h => rfl
  | _ :: _, [], h => by cases h
  | x :: a, y :: b, h => by
    rw [lexI] at h ⊢
    split at h
    · rename_i e
      rw [if_pos e.symm]
      exact lexI_asy h
    · rename_i e
      rw [if_neg fun z => e z.symm]
      have : x < y := by simpa using h
      simp
      omega
theorem minTI_is {b : List Int} : ∀ {r : List (List Int)} {m : List Int}, b ∈ m :: r → (∀ x ∈ m :: r, x = b ∨ lexI b x = true) → minTI m r = b
  | [], m, hb, _ => by
    have : b = m := by simpa using hb
    exact this.symm
  | x :: r, m, hb, h => by
    rw [minTI]
    have hm := h m (by simp)
    have hx := h x (by simp)
    have hr : ∀ y ∈ r, y = b ∨ lexI b y = true := fun y hy => h y (by simp [hy])
    have hn : b ∈ (if lexI x m = true then x else m) :: r := by
      rcases List.mem_cons.mp hb with e | hb
      · subst e
        have : lexI x b = false := by
          rcases hx with e | hx
          · rw [e]; exact lexI_irr b
          · exact lexI_asy hx
        rw [this]
        exact List.mem_cons_self
      · rcases List.mem_cons.mp hb with e | hb
        · subst e
          rcases hm with e | hm
          · subst e
            split <;> exact List.mem_cons_self
          · rw [if_pos hm]; exact List.mem_cons_self
        · exact List.mem_cons_of_mem _ hb
    refine minTI_is hn fun y hy => ?_
    rcases List.mem_cons.mp hy with rfl | hy
    · split
      · exact hx
      · exact hm
    · exact hr y hy
theorem ltN_app {a b x y : List Nat} (h : a.length = b.length) (h2 : ltN a b) : ltN (a ++ x) (b ++ y) := by
  unfold ltN
  rw [List.map_append, List.map_append]
  exact lexI_app (by simp [h]) h2
theorem lens_pw (m b left : Nat) : (lens m b left).Pairwise (· < ·) := by
  unfold lens
  rw [List.pairwise_map]
  exact List.Pairwise.imp (fun h => by omega) List.pairwise_lt_range
theorem rowStep_pw {m b : Nat} {n : Nat} {rs : List (List Nat × Nat)} (hl : ∀ p ∈ rs, p.1.length = n) (h : rs.Pairwise fun p q => ltN p.1 q.1) : (rowStep m b rs).Pairwise fun p q => ltN p.1 q.1 := by
  unfold rowStep
  rw [List.pairwise_flatMap]
  refine ⟨fun p hp => ?_, ?_⟩
  · rw [List.pairwise_map]
    refine List.Pairwise.imp (fun {a b} hab => ?_) (lens_pw _ _ _)
    unfold ltN
    rw [List.map_append, List.map_append, lexI_pre]
    have : ((a : Int) = (b : Int)) ↔ False := by
      constructor
      · intro e; omega
      · exact False.elim
    simp [lexI, this]
    omega
  · have h2 : rs.Pairwise fun p q => p.1.length = q.1.length ∧ ltN p.1 q.1 := by
      refine List.Pairwise.imp_of_mem (fun {p q} hp hq hpq => ⟨by rw [hl p hp, hl q hq], hpq⟩) h
    refine List.Pairwise.imp (fun {p q} hpq x hx y hy => ?_) h2
    obtain ⟨l, _, rfl⟩ := List.mem_map.mp hx
    obtain ⟨l2, _, rfl⟩ := List.mem_map.mp hy
    exact ltN_app hpq.1 hpq.2
theorem rowsGo_pw : ∀ (ms : List (Nat × Nat)) {n : Nat} {rs : List (List Nat × Nat)}, (∀ p ∈ rs, p.1.length = n) → rs.Pairwise (fun p q => ltN p.1 q.1) → (rowsGo ms rs).Pairwise fun p q => ltN p.1 q.1
  | [], n, rs, _, h => h
  | (m, b) :: ms, n, rs, hl, h => by
    rw [rowsGo]
    refine rowsGo_pw ms (n := n + 1) (fun p hp => ?_) (rowStep_pw hl h)
    obtain ⟨q, hq, l, _, rfl⟩ := rowStep_mem hp
    show (q.1 ++ [l]).length = n + 1
    rw [List.length_append, hl q hq]
    rfl
theorem rowsL_pw (s : List Nat) (n : Nat) : (rowsL s n).Pairwise ltN := by
  unfold rowsL
  rw [List.pairwise_map]
  exact List.Pairwise.filter _ (rowsGo_pw _ (n := 0) (fun p hp => by
    have : p = ([], n) := by simpa using hp
    rw [this]; rfl) (by simp))
theorem mapsA_pw {s w : List Nat} (hs : Shp s) : (mapsA s w).Pairwise fun u v => ltN (u.map List.length) (v.map List.length) := by
  unfold mapsA
  rw [List.pairwise_filterMap]
  refine List.Pairwise.imp_of_mem (fun {r t} hr ht hrt u hu v hv => ?_) (rowsL_pw s w.length)
  rw [(mapBy_sound hs hr hu).2, (mapBy_sound hs ht hv).2]
  exact hrt
theorem ltN_irr {a : List Nat} (h : ltN a a) : False := by
  unfold ltN at h
  rw [lexI_irr] at h
  cases h
theorem mapsA_nodup {s w : List Nat} (hs : Shp s) : (mapsA s w).Nodup :=
  List.Pairwise.imp (fun {u v} h e => by subst e; exact ltN_irr h) (mapsA_pw hs)
end Cw

end
section
set_option linter.all false
set_option maxRecDepth 100000
set_option maxHeartbeats 1000000
set_option Elab.async false
/-! Cz77f: the law's own maps -/
namespace Cw
abbrev St := Dct × List Nat
def stepB (bh y : Nat) (st : St) : List St := match lookD st.1 y with
  | some p => if st.2.take p.length = p then [(st.1, st.2.drop p.length)] else []
  | none => (List.range (st.2.length - bh)).map fun n => (st.1 ++ [(y, st.2.take (n + 1))], st.2.drop (n + 1))
def lawGo : List Nat → List St → List St
  | [], rs => rs
  | y :: t, rs => lawGo t (rs.flatMap (stepB t.length y))
def dfs : List Nat → St → List Dct
  | [], st => if (st.2 == []) = true then [st.1] else []
  | y :: t, st => (stepB t.length y st).flatMap (dfs t)
def gD (s : List Nat) (d : Dct) : List (List Nat) := (lettersU s).map fun a => (lookD d a).getD []
def lawMaps (s w : List Nat) : List (List (List Nat)) := ((lawGo s [([], w)]).filter fun p => p.2 == []).map fun p => gD s p.1
theorem lawGo_dfs : ∀ (t : List Nat) (rs : List St), ((lawGo t rs).filter fun p => p.2 == []).map (·.1) = rs.flatMap (dfs t)
  | [], rs => by
    rw [lawGo]
    induction rs with
    | nil => rfl
    | cons p rs ih =>
      rw [List.flatMap_cons, ← ih, List.filter_cons, dfs]
      split <;> rfl
  | y :: t, rs => by
    rw [lawGo, lawGo_dfs t, List.flatMap_assoc]
    rfl
theorem lawMaps_dfs (s w : List Nat) : lawMaps s w = (dfs s ([], w)).map (gD s) := by
  have := lawGo_dfs s [([], w)]
  rw [List.flatMap_singleton] at this
  rw [← this, List.map_map]
  rfl
theorem lookD_snoc {d : Dct} {y : Nat} {p : List Nat} (h : lookD d y = none) : lookD (d ++ [(y, p)]) y = some p := by
  rw [lookD_app, h, if_pos rfl]
  rfl
theorem lookD_keep {d : Dct} {y a : Nat} {p q : List Nat} (h : lookD d a = some q) : lookD (d ++ [(y, p)]) a = some q := by
  rw [lookD_app, h]
  rfl
theorem stepB_mem {bh y : Nat} {st st' : St} (h : st' ∈ stepB bh y st) : (∀ a q, lookD st.1 a = some q → lookD st'.1 a = some q) ∧ ∃ p, lookD st'.1 y = some p ∧ st.2 = p ++ st'.2 ∧ (p ≠ [] ∨ lookD st.1 y = some p) ∧ (st'.1 = st.1 ∨ st'.1 = st.1 ++ [(y, p)] ∧ lookD st.1 y = none) := by
  unfold stepB at h
  split at h
  · rename_i p hp
    split at h
    · rename_i he
      have : st' = (st.1, st.2.drop p.length) := by simpa using h
      subst this
      refine ⟨fun a q hq => hq, p, hp, ?_, .inr hp, .inl rfl⟩
      show st.2 = p ++ st.2.drop p.length
      have := List.take_append_drop p.length st.2
      rw [he] at this
      exact this.symm
    · cases h
  · rename_i hp
    obtain ⟨n, hn, rfl⟩ := List.mem_map.mp h
    rw [List.mem_range] at hn
    refine ⟨fun a q hq => lookD_keep hq, st.2.take (n + 1), lookD_snoc hp, (List.take_append_drop _ _).symm, .inl ?_, .inr ⟨rfl, hp⟩⟩
    intro e
    have := congrArg List.length e
    rw [List.length_take] at this
    have : min (n + 1) st.2.length = 0 := this
    omega
theorem dfs_ext : ∀ {t : List Nat} {st : St} {d' : Dct}, d' ∈ dfs t st → ∀ {a p}, lookD st.1 a = some p → lookD d' a = some p
  | [], st, d', h, a, p, ha => by
    rw [dfs] at h
    split at h
    · have : d' = st.1 := by simpa using h
      rw [this]
      exact ha
    · cases h
  | y :: t, st, d', h, a, p, ha => by
    obtain ⟨st', h1, h2⟩ := List.mem_flatMap.mp h
    exact dfs_ext h2 ((stepB_mem h1).1 a p ha)
theorem dfs_sound : ∀ {t : List Nat} {st : St} {d' : Dct}, d' ∈ dfs t st → (∀ a p, lookD st.1 a = some p → p ≠ []) → t.flatMap (fun y => (lookD d' y).getD []) = st.2 ∧ ∀ y ∈ t, ∃ p, lookD d' y = some p ∧ p ≠ []
  | [], st, d', h, _ => by
    rw [dfs] at h
    split at h
    · rename_i he
      have : st.2 = [] := by simpa using he
      rw [this]
      exact ⟨rfl, fun y hy => by cases hy⟩
    · cases h
  | y :: t, st, d', h, hne => by
    obtain ⟨st', h1, h2⟩ := List.mem_flatMap.mp h
    obtain ⟨e1, p, hp, e2, e3, e4⟩ := stepB_mem h1
    have hpn : p ≠ [] := by
      rcases e3 with e | e
      · exact e
      · exact hne _ _ e
    have hy := dfs_ext h2 hp
    have hne2 : ∀ a q, lookD st'.1 a = some q → q ≠ [] := fun a q hq => by
      rcases e4 with e | ⟨e, e0⟩
      · rw [e] at hq
        exact hne a q hq
      · rw [e, lookD_app] at hq
        cases hz : lookD st.1 a with
        | some z =>
          rw [hz] at hq
          have : z = q := by simpa using hq
          exact this ▸ hne a z hz
        | none =>
          rw [hz] at hq
          by_cases g : y = a
          · rw [if_pos g] at hq
            have : p = q := by simpa using hq
            exact this ▸ hpn
          · rw [if_neg g] at hq
            cases hq
    obtain ⟨g1, g2⟩ := dfs_sound h2 hne2
    refine ⟨by rw [List.flatMap_cons, hy, g1, e2]; rfl, fun z hz => ?_⟩
    rcases List.mem_cons.mp hz with rfl | hz
    · exact ⟨p, hy, hpn⟩
    · exact g2 z hz
theorem flat_ge {f : Nat → List Nat} : ∀ {t : List Nat}, (∀ y ∈ t, f y ≠ []) → t.length ≤ (t.flatMap f).length
  | [], _ => by simp
  | y :: t, h => by
    rw [List.flatMap_cons, List.length_append, List.length_cons]
    have h1 := flat_ge fun z hz => h z (List.mem_cons_of_mem _ hz)
    have h2 := List.length_pos_iff.mpr (h y List.mem_cons_self)
    omega
theorem dfs_some (f : Nat → List Nat) : ∀ (t : List Nat) (d : Dct), (∀ y ∈ t, f y ≠ []) → (∀ a p, lookD d a = some p → p = f a) → ∃ d' ∈ dfs t (d, t.flatMap f), ∀ a p, lookD d' a = some p → p = f a
  | [], d, _, hd => ⟨d, by rw [dfs]; simp, hd⟩
  | y :: t, d, hf, hd => by
    have hy := hf y List.mem_cons_self
    have ht : ∀ z ∈ t, f z ≠ [] := fun z hz => hf z (List.mem_cons_of_mem _ hz)
    cases hq : lookD d y with
    | some p =>
      have hp := hd y p hq
      obtain ⟨d', h1, h2⟩ := dfs_some f t d ht hd
      refine ⟨d', List.mem_flatMap.mpr ⟨(d, t.flatMap f), ?_, h1⟩, h2⟩
      unfold stepB
      rw [hq, hp]
      simp
    | none =>
      have hcon : ∀ a p, lookD (d ++ [(y, f y)]) a = some p → p = f a := fun a p hp => by
        rw [lookD_app] at hp
        cases hz : lookD d a with
        | some z =>
          rw [hz] at hp
          have : z = p := by simpa using hp
          exact this ▸ hd a z hz
        | none =>
          rw [hz] at hp
          by_cases g : y = a
          · rw [if_pos g] at hp
            have : f y = p := by simpa using hp
            rw [← this, g]
          · rw [if_neg g] at hp
            cases hp
      obtain ⟨d', h1, h2⟩ := dfs_some f t (d ++ [(y, f y)]) ht hcon
      refine ⟨d', List.mem_flatMap.mpr ⟨(d ++ [(y, f y)], t.flatMap f), ?_, h1⟩, h2⟩
      have h3 := flat_ge ht
      have h4 := List.length_pos_iff.mpr hy
      unfold stepB
      rw [hq]
      refine List.mem_map.mpr ⟨(f y).length - 1, ?_, ?_⟩
      · rw [List.mem_range, List.flatMap_cons, List.length_append]
        omega
      · rw [show (f y).length - 1 + 1 = (f y).length by omega, List.flatMap_cons]
        simp
theorem stepB_pw (bh y : Nat) (st : St) : (stepB bh y st).Pairwise fun a b => ∃ p q, lookD a.1 y = some p ∧ lookD b.1 y = some q ∧ p ≠ q := by
  unfold stepB
  split
  · split
    · exact List.pairwise_singleton _ _
    · exact List.Pairwise.nil
  · rename_i hn
    rw [List.pairwise_map]
    refine List.Pairwise.imp_of_mem (fun {a b} ha hb hab => ⟨_, _, lookD_snoc hn, lookD_snoc hn, fun e => ?_⟩) List.pairwise_lt_range
    rw [List.mem_range] at ha hb
    have := congrArg List.length e
    rw [List.length_take, List.length_take] at this
    omega
theorem dfs_pw : ∀ (t : List Nat) (st : St), (dfs t st).Pairwise fun a b => ∃ y ∈ t, lookD a y ≠ lookD b y
  | [], st => by
    rw [dfs]
    split
    · exact List.pairwise_singleton _ _
    · exact List.Pairwise.nil
  | y :: t, st => by
    rw [dfs, List.pairwise_flatMap]
    refine ⟨fun st' _ => List.Pairwise.imp (fun {a b} ⟨z, hz, h⟩ => ⟨z, List.mem_cons_of_mem _ hz, h⟩) (dfs_pw t st'), ?_⟩
    refine List.Pairwise.imp (fun {s1 s2} ⟨p, q, hp, hq, hpq⟩ a ha b hb => ⟨y, List.mem_cons_self, ?_⟩) (stepB_pw _ _ _)
    rw [dfs_ext ha hp, dfs_ext hb hq]
    intro e
    exact hpq (Option.some.inj e)
theorem gD_at {s : List Nat} (hs : Shp s) (d : Dct) {y : Nat} (hy : y ∈ s) : vAt s (gD s d) y = (lookD d y).getD [] := by
  have h5 := (lettersU_mem hs).mpr hy
  unfold vAt gD
  rw [List.getD_eq_getElem?_getD, List.getElem?_map, List.getElem?_eq_getElem (List.idxOf_lt_length_of_mem h5), List.getElem_idxOf]
  rfl
theorem flat_congr {f g : Nat → List Nat} : ∀ {t : List Nat}, (∀ y ∈ t, f y = g y) → t.flatMap f = t.flatMap g
  | [], _ => rfl
  | y :: t, h => by rw [List.flatMap_cons, List.flatMap_cons, h y List.mem_cons_self, flat_congr fun z hz => h z (List.mem_cons_of_mem _ hz)]
theorem lawMaps_mem {s w : List Nat} {v : List (List Nat)} (hs : Shp s) : v ∈ lawMaps s w ↔ valid s w v := by
  rw [lawMaps_dfs, List.mem_map]
  constructor
  · rintro ⟨d, hd, rfl⟩
    obtain ⟨h1, h2⟩ := dfs_sound hd fun a p h => by cases h
    refine ⟨List.length_map _, fun p hp => ?_, ?_⟩
    · obtain ⟨a, ha, rfl⟩ := List.mem_map.mp hp
      obtain ⟨q, hq, hqn⟩ := h2 a (lettersU_in a ha)
      rw [hq]
      exact hqn
    · refine Eq.trans ?_ h1
      exact flat_congr fun y hy => gD_at hs d hy
  · rintro ⟨h1, h2, h3⟩
    obtain ⟨d, hd, hd2⟩ := dfs_some (vAt s v) s [] (fun y hy => h2 _ (vAt_mem hs h1 hy)) fun a p h => by cases h
    rw [h3] at hd
    refine ⟨d, hd, ?_⟩
    refine Eq.trans (List.map_congr_left fun a ha => ?_) (map_idx (z := []) (lettersU_nodup s) h1)
    obtain ⟨q, hq, _⟩ := (dfs_sound hd fun a p h => by cases h).2 a (lettersU_in a ha)
    rw [hq]
    exact hd2 a q hq
theorem lawMaps_nodup {s w : List Nat} (hs : Shp s) : (lawMaps s w).Nodup := by
  rw [lawMaps_dfs]
  unfold List.Nodup
  rw [List.pairwise_map]
  refine List.Pairwise.imp_of_mem (fun {a b} ha hb ⟨y, hy, hne⟩ e => hne ?_) (dfs_pw s ([], w))
  obtain ⟨p, hp, _⟩ := (dfs_sound ha fun a p h => by cases h).2 y hy
  obtain ⟨q, hq, _⟩ := (dfs_sound hb fun a p h => by cases h).2 y hy
  have h1 := gD_at hs a hy
  have h2 := gD_at hs b hy
  rw [e, h2, hp, hq] at h1
  rw [hp, hq]
  have : q = p := h1
  rw [this]
theorem maps_perm {s : List Nat} (hs : Shp s) (w : List Nat) : (mapsA s w).Perm (lawMaps s w) := by
  rw [List.perm_ext_iff_of_nodup (mapsA_nodup hs) (lawMaps_nodup hs)]
  intro v
  rw [mapsA_mem hs, lawMaps_mem hs]
/-- the least lengths -/
theorem maps_head {s w : List Nat} (hs : Shp s) {u : List (List Nat)} {r : List (List (List Nat))} (h : mapsA s w = u :: r) : ∃ m l, (lawMaps s w).map (fun v => (v.map List.length).map fun (n : Nat) => (n : Int)) = m :: l ∧ minTI m l = (u.map List.length).map fun (n : Nat) => (n : Int) := by
  have hp := maps_perm hs w
  have hu : u ∈ lawMaps s w := (hp.mem_iff).mp (by rw [h]; exact List.mem_cons_self)
  have hpw := mapsA_pw (w := w) hs
  rw [h, List.pairwise_cons] at hpw
  have hall : ∀ v ∈ lawMaps s w, v = u ∨ ltN (u.map List.length) (v.map List.length) := fun v hv => by
    have := (hp.mem_iff).mpr hv
    rw [h] at this
    rcases List.mem_cons.mp this with e | e
    · exact .inl e
    · exact .inr (hpw.1 v e)
  cases hl : lawMaps s w with
  | nil => rw [hl] at hu; cases hu
  | cons z l =>
    rw [hl] at hu hall
    refine ⟨_, _, rfl, minTI_is ?_ ?_⟩
    · have := List.mem_map_of_mem (f := fun v : List (List Nat) => (v.map List.length).map fun (n : Nat) => (n : Int)) hu
      exact this
    · intro x hx
      have hx : x ∈ (z :: l).map (fun v : List (List Nat) => (v.map List.length).map fun (n : Nat) => (n : Int)) := hx
      obtain ⟨v, hv, rfl⟩ := List.mem_map.mp hx
      rcases hall v hv with e | e
      · rw [e]; exact .inl rfl
      · exact .inr e
end Cw

end
section
set_option linter.all false
set_option maxRecDepth 100000
set_option maxHeartbeats 1000000
set_option Elab.async false
/-! Cz77g: maps and places, walked -/
namespace Cw
def tW (v : List (List Nat)) : W := .tup (v.map .str)
def mhW : List (List (List Nat)) → W
  | [] => .non
  | v :: _ => tW v
theorem rowsL_len {s : List Nat} {n : Nat} (hn : n ≤ 40) : (rowsL s n).length ≤ 4000000 := by
  unfold rowsL
  rw [List.length_map]
  have h1 := List.length_filter_le (fun p : List Nat × Nat => p.2 == 0) (rowsGo (msOf s (lettersU s)) [([], n)])
  have h2 := rowsGo_len (N := 40) (msOf s (lettersU s)) [([], n)] (msOf_pos s _ lettersU_in) (fun p hp => by
    have : p = ([], n) := by simpa using hp
    subst this
    exact hn)
  rw [msOf_len] at h2
  have : ([([], n)] : List (List Nat × Nat)).length = 1 := rfl
  rw [this] at h2
  have : 40 ^ (lettersU s).length ≤ 40 ^ 4 := Nat.pow_le_pow_right (by omega) (lettersU_le s)
  omega
theorem mapsA_len {s w : List Nat} (hn : w.length ≤ 40) : (mapsA s w).length ≤ 4000000 := by
  unfold mapsA
  exact Nat.le_trans (List.length_filterMap_le _ _) (rowsL_len hn)
theorem le_sum {f : Nat → Nat} {y : Nat} : ∀ {s : List Nat}, y ∈ s → f y ≤ (s.map f).sum
  | [], h => by cases h
  | z :: s, h => by
    rw [List.map_cons, List.sum_cons]
    rcases List.mem_cons.mp h with rfl | h
    · omega
    · have := le_sum (f := f) h
      omega
theorem valid_part {s w : List Nat} {v : List (List Nat)} (hs : Shp s) (h : valid s w v) {p : List Nat} (hp : p ∈ v) : ∀ y ∈ p, y ∈ w := fun y hy => by
  obtain ⟨h1, h2, h3⟩ := h
  obtain ⟨i, hi, rfl⟩ := List.mem_iff_getElem.mp hp
  have hi2 : i < (lettersU s).length := by omega
  rw [← h3]
  refine List.mem_flatMap.mpr ⟨(lettersU s)[i], lettersU_in _ (List.getElem_mem hi2), ?_⟩
  unfold vAt
  rw [idx_nth (lettersU_nodup s) hi2, List.getD_eq_getElem?_getD, List.getElem?_eq_getElem hi]
  exact hy
theorem row_bound {s : List Nat} (hs : Shp s) {n : Nat} {r : List Nat} (h : r ∈ rowsL s n) : r.length = (lettersU s).length ∧ ∀ m ∈ r, m ≤ n := by
  obtain ⟨h1, h2, h3⟩ := (rowsL_mem hs).mp h
  refine ⟨h1, fun m hm => ?_⟩
  rw [← map_idx (z := 0) (lettersU_nodup s) h1] at hm
  obtain ⟨a, ha, rfl⟩ := List.mem_map.mp hm
  rw [← h3]
  exact le_sum (f := rAt s r) (lettersU_in a ha)
theorem plain_tW {v : List (List Nat)} (h : ∀ p ∈ v, Ws 8 p) (n : Nat) : W.plain (n + 1) (tW v) = true := by
  show (v.map W.str).all (W.plain n) = true
  rw [List.all_eq_true]
  intro y hy
  obtain ⟨p, hp, rfl⟩ := List.mem_map.mp hy
  have : W.plain n (.str p) = p.all (· < 1114112) := by cases n <;> rfl
  rw [this, List.all_eq_true]
  intro z hz
  have := (LT_mem (n := 8) (by omega)).mp (h p hp z hz)
  simp
  omega
theorem valid_ws {s w : List Nat} {v : List (List Nat)} (hs : Shp s) (hw : Ws 8 w) (h : valid s w v) : ∀ p ∈ v, Ws 8 p := fun p hp y hy => hw y (valid_part hs h hp y hy)
theorem maps_plain {s w : List Nat} (hs : Shp s) (hw : Ws 8 w) (n : Nat) : ((mapsA s w).map tW).all (W.plain (n + 1)) = true := by
  rw [List.all_eq_true]
  intro y hy
  obtain ⟨v, hv, rfl⟩ := List.mem_map.mp hy
  exact plain_tW (valid_ws hs hw ((mapsA_mem hs).mp hv)) n
theorem rangeW_range' (a n : Nat) : rangeW (a : Int) 1 n = (List.range' a n).map fun (i : Nat) => .int (i : Int) := by
  rw [rangeW_map2, List.range'_eq_map_range]
  congr 1
  exact List.map_congr_left fun i _ => Nat.add_comm i a
section
variable {P : Prog} {F : Nat} {x : Nat → Nat} {k : Nat} {c : Cells} {w : W}
theorem forS_first {α : Type} {i : α → W} {q : α → Option Val} {I : Slots → Prop} {R : Nat → List W → M Val} {t : Tg} {b : Ss} : ∀ {l : List α} {sl : Slots},
    (∀ a ∈ l, ∀ sl, I sl → ∃ sl1, bindTg t (i a) sl = some sl1 ∧ (∀ v, q a = some v → exSs P F R b sl1 c = .ok (.rt v) c) ∧ (q a = none → ∃ sl2, exSs P F R b sl1 c = .ok (.nx sl2) c ∧ I sl2)) → I sl →
    (∀ v, l.findSome? q = some v → forS P F R t b (l.map i) sl c = .ok (.rt v) c) ∧ (l.findSome? q = none → ∃ sl2, forS P F R t b (l.map i) sl c = .ok (.nx sl2) c ∧ I sl2)
  | [], sl, _, hI => ⟨(fun v h => by cases h), fun _ => ⟨sl, rfl, hI⟩⟩
  | a :: l, sl, h, hI => by
    obtain ⟨sl1, h1, h2, h3⟩ := h a List.mem_cons_self sl hI
    rw [List.findSome?_cons, List.map_cons]
    cases hq : q a with
    | some v =>
      refine ⟨fun u hu => ?_, fun hu => by cases hu⟩
      cases hu
      exact forS_rt h1 (h2 v hq)
    | none =>
      obtain ⟨sl2, h4, h5⟩ := h3 hq
      rw [forS_nx h1 h4]
      exact forS_first (fun b hb => h b (List.mem_cons_of_mem _ hb)) h5
theorem run_maps_in (h : H_maps_in P x) {s T : List Nat} (hs : Shp s) (hsl : s.length ≤ 100) (hT : T.length ≤ 40) (hk : 4 ≤ k) : run P F k (x n_maps_in) [.str s, .str T] c = .ok (.own (.lst ((mapsA s T).map tW))) c := by
  obtain ⟨k, rfl⟩ := pred_of (k := k) (by omega)
  refine run_fnS h.f rfl ?_ rfl
  have q := run_length_rows (F := F) (k := k) (c := c) h.length_rows hsl hT (by omega)
  have hl := rowsL_len (s := s) hT
  have c1 : compS P (run P F k) (F_maps_in_e1 x) (.nm 3) .nil [3] [.val (.str s), .val (.str T), .none, .none, .none] ((rowsL s T.length).map fun r => .tup (iW r)) c = .ok ((rowsL s T.length).map fun r => mW (mapBy s T r)) c := by
    refine compS_map fun r hr => ⟨_, rfl, rfl, ?_⟩
    obtain ⟨h1, h2⟩ := row_bound hs hr
    have q2 := run_map_by_lengths (F := F) (k := k) (c := c) h.map_by_lengths (T := T) hs hsl (by omega) h1 (fun n hn => by have := h2 n hn; omega) (by omega)
    simp [elV, F_maps_in_e1, wipeS, q2]
  have c2 : compS P (run P F k) (F_maps_in_e2 x) (.nm 4) (F_maps_in_c1 x) [4] [.val (.str s), .val (.str T), .val (.lst ((rowsL s T.length).map fun r => mW (mapBy s T r))), .none, .none] ((rowsL s T.length).map fun r => mW (mapBy s T r)) c = .ok ((mapsA s T).map tW) c := by
    have := compS_filter (P := P) (R := run P F k) (el := F_maps_in_e2 x) (cond := F_maps_in_c1 x) (own := [4]) (sl := [.val (.str s), .val (.str T), .val (.lst ((rowsL s T.length).map fun r => mW (mapBy s T r))), .none, .none]) (c := c) (t := .nm 4) (i := fun r => mW (mapBy s T r)) (f := fun r => mW (mapBy s T r)) (p := fun r => (mapBy s T r).isSome) (l := rowsL s T.length) (fun r hr => by
      refine ⟨_, rfl, ?_, fun _ => by simp [elV, F_maps_in_e2, wipeS]⟩
      cases mapBy s T r <;> simp [F_maps_in_c1, wipeS, mW])
    rw [this]
    congr 1
    unfold mapsA
    generalize rowsL s T.length = rs
    induction rs with
    | nil => rfl
    | cons r rs ih =>
      rw [List.filter_cons, List.filterMap_cons]
      cases hm : mapBy s T r with
      | none => simpa [hm] using ih
      | some v =>
        show mW (mapBy s T r) :: _ = tW v :: _
        rw [ih, hm]
        rfl
  have z1 : ((rowsL s T.length).map fun r => mW (mapBy s T r)).length ≤ sizeL := by rw [List.length_map]; unfold sizeL; omega
  have z2 : ((mapsA s T).map tW).length ≤ sizeL := by rw [List.length_map]; have := mapsA_len (s := s) hT; unfold sizeL; omega
  generalize ((rowsL s T.length).map fun r => mW (mapBy s T r)) = A at c1 c2 z1
  generalize ((mapsA s T).map tW) = B at c2 z2
  generalize ((rowsL s T.length).map fun r => W.tup (iW r)) = D at q c1
  refine stepK (fun K => by simp [F_maps_in, len_str (size200 (T := T) (by omega)), q, c1, z1]; try with_reducible rfl) ?_
  exact stepR (by simp [c2, z2])
theorem run_shape_map (h : H_shape_map P x) {s T : List Nat} (hs : Shp s) (h1 : 1 ≤ s.length) (h6 : s.length ≤ 6) (hw : Ws 8 T) (hT : T.length ≤ 40) (hk : 5 ≤ k) : run P F k (x n_shape_map) [.str s, .str T] c = .ok (.w (mhW (mapsA s T))) c := by
  obtain ⟨k, rfl⟩ := pred_of (k := k) (by omega)
  refine run_fnS h.f rfl ?_ rfl
  have q1 := run_need_shape (F := F) (k := k) (c := c) h.need_shape hs h1 h6 (by omega)
  have q2 := run_need_few_signs (F := F) (k := k) (c := c) h.need_few_signs (most := 40) (strOf_ws hw (by omega)) (by omega) (by omega) (by omega)
  have q3 := run_maps_in (F := F) (k := k) (c := c) h.maps_in hs (by omega) hT (by omega)
  have q4 := ne_lst (maps_plain hs hw 58)
  refine stepK (fun K => by simp [F_shape_map, q1]; try with_reducible rfl) ?_
  refine stepK (fun K => by simp [h.c_MAPPED, q2]; try with_reducible rfl) ?_
  refine stepK (fun K => by simp [q3]; try with_reducible rfl) ?_
  cases hm : mapsA s T with
  | nil =>
    rw [hm] at q4
    have q4 : cmpop .ne (.lst []) (.lst []) = some false := q4
    exact stepR (by simp [q4, mhW])
  | cons v r =>
    rw [hm] at q4
    have q4 : cmpop .ne (.lst (tW v :: r.map tW)) (.lst []) = some true := q4
    have q5 : atI (tW v :: r.map tW) 0 = some (tW v) := atI_nat (l := tW v :: r.map tW) (n := 0) (by simp)
    exact stepR (by simp [q4, q5, mhW])
theorem run_count_shape_maps (h : H_count_shape_maps P x) {s T : List Nat} (hs : Shp s) (h1 : 1 ≤ s.length) (h6 : s.length ≤ 6) (hw : Ws 8 T) (hT : T.length ≤ 40) (hk : 5 ≤ k) : run P F k (x n_count_shape_maps) [.str s, .str T] c = .ok (.w (.int ((mapsA s T).length : Nat))) c := by
  obtain ⟨k, rfl⟩ := pred_of (k := k) (by omega)
  refine run_fnS h.f rfl ?_ rfl
  have q1 := run_need_shape (F := F) (k := k) (c := c) h.need_shape hs h1 h6 (by omega)
  have q2 := run_need_few_signs (F := F) (k := k) (c := c) h.need_few_signs (most := 40) (strOf_ws hw (by omega)) (by omega) (by omega) (by omega)
  have q3 := run_maps_in (F := F) (k := k) (c := c) h.maps_in hs (by omega) hT (by omega)
  refine stepK (fun K => by simp [F_count_shape_maps, q1]; try with_reducible rfl) ?_
  refine stepK (fun K => by simp [h.c_MAPPED, q2]; try with_reducible rfl) ?_
  exact stepR (by simp [q3])
/-- whether a shape lies under -/
def under (s w : List Nat) : Bool := !(mapsA s w).isEmpty
def pairV (b e : Nat) : Val := .w (.tup [.int (b : Int), .int (e : Int)])
def placeIn (s w : List Nat) (b : Nat) : Option Val := (List.range' (b + s.length) (w.length + 1 - (b + s.length))).findSome? fun e => if under s ((w.drop b).take (e - b)) = true then some (pairV b e) else none
def placeF (s w : List Nat) : Option Val := (List.range w.length).findSome? (placeIn s w)
def plV : Option Val → Val
  | none => .w .non
  | some v => v
theorem run_place_under (h : H_place_under P x) {s T : List Nat} (hs : Shp s) (hsl : s.length ≤ 100) (hw : Ws 8 T) (hT : T.length ≤ 40) (hk : 5 ≤ k) : run P F k (x n_place_under) [.str s, .str T] c = .ok (plV (placeF s T)) c := by
  obtain ⟨k, rfl⟩ := pred_of (k := k) (by omega)
  refine run_fnS h.f rfl ?_ rfl
  have inner : ∀ b : Nat, b ≤ 40 → ∀ z3 : Slot, (∀ v, placeIn s T b = some v → forS P F (run P F k) (.nm 3) (F_place_under_b1 x) ((List.range' (b + s.length) (T.length + 1 - (b + s.length))).map fun (i : Nat) => .int (i : Int)) [.val (.str s), .val (.str T), .val (.int (b : Int)), z3] c = .ok (.rt v) c)
      ∧ (placeIn s T b = none → ∃ sl2, forS P F (run P F k) (.nm 3) (F_place_under_b1 x) ((List.range' (b + s.length) (T.length + 1 - (b + s.length))).map fun (i : Nat) => .int (i : Int)) [.val (.str s), .val (.str T), .val (.int (b : Int)), z3] c = .ok (.nx sl2) c ∧ ∃ y3, sl2 = [.val (.str s), .val (.str T), .val (.int (b : Int)), y3]) := fun b hb z3 => by
    refine forS_first (I := fun sl => ∃ y3, sl = [.val (.str s), .val (.str T), .val (.int (b : Int)), y3]) (fun e he sl hsl => ?_) ⟨z3, rfl⟩
    obtain ⟨y3, rfl⟩ := hsl
    refine ⟨_, rfl, ?_⟩
    have hcut : cut T (some (b : Int)) (some (e : Int)) = (T.drop b).take (e - b) := cut_nat
    have hwp : Ws 8 ((T.drop b).take (e - b)) := (hw.drop).take
    have q3 := run_maps_in (F := F) (k := k) (c := c) h.maps_in hs (T := (T.drop b).take (e - b)) hsl (by rw [List.length_take, List.length_drop]; omega) (by omega)
    have q4 := ne_lst (maps_plain hs hwp 58)
    have q5 : (!((mapsA s ((T.drop b).take (e - b))).map tW).isEmpty) = under s ((T.drop b).take (e - b)) := by
      unfold under
      cases mapsA s ((T.drop b).take (e - b)) <;> rfl
    rw [q5] at q4
    generalize ((mapsA s ((T.drop b).take (e - b))).map tW) = A at q3 q4
    generalize (T.drop b).take (e - b) = U at hcut q3 q4
    cases hu : under s U with
    | true =>
      rw [hu] at q4
      refine ⟨fun v hv => ?_, fun hv => by cases hv⟩
      cases hv
      simp [F_place_under_b1, slc_str (size200 (T := T) (by omega)), hcut, q3, q4, pairV]
    | false =>
      rw [hu] at q4
      refine ⟨(fun v hv => by cases hv), fun _ => ⟨_, ?_, .val (.int (e : Int)), rfl⟩⟩
      simp [F_place_under_b1, slc_str (size200 (T := T) (by omega)), hcut, q3, q4]
  have outer : ∀ z2 z3 : Slot, (∀ v, placeF s T = some v → forS P F (run P F k) (.nm 2) (F_place_under_b2 x) ((List.range T.length).map fun (i : Nat) => .int (i : Int)) [.val (.str s), .val (.str T), z2, z3] c = .ok (.rt v) c)
      ∧ (placeF s T = none → ∃ sl2, forS P F (run P F k) (.nm 2) (F_place_under_b2 x) ((List.range T.length).map fun (i : Nat) => .int (i : Int)) [.val (.str s), .val (.str T), z2, z3] c = .ok (.nx sl2) c ∧ ∃ y2 y3, sl2 = [.val (.str s), .val (.str T), y2, y3]) := fun z2 z3 => by
    refine forS_first (I := fun sl => ∃ y2 y3, sl = [.val (.str s), .val (.str T), y2, y3]) (fun b hb sl hsl2 => ?_) ⟨z2, z3, rfl⟩
    obtain ⟨y2, y3, rfl⟩ := hsl2
    refine ⟨_, rfl, ?_⟩
    rw [List.mem_range] at hb
    obtain ⟨i1, i2⟩ := inner b (by omega) y3
    have hb1 : bound62 ((b : Int) + (s.length : Int)) = true := bound_int (by omega) (by omega)
    have hb2 : bound62 ((T.length : Int) + 1) = true := bound_int (by omega) (by omega)
    have hrg : rangeW ((b : Int) + (s.length : Int)) 1 ((((T.length : Int) + 1) - ((b : Int) + (s.length : Int))).toNat) = (List.range' (b + s.length) (T.length + 1 - (b + s.length))).map fun (i : Nat) => .int (i : Int) := by
      rw [← rangeW_range']
      congr 1
      omega
    generalize ((List.range' (b + s.length) (T.length + 1 - (b + s.length))).map fun (i : Nat) => W.int (i : Int)) = RR at i1 i2 hrg
    refine ⟨fun v hv => ?_, fun hn => ?_⟩
    · have e := i1 v hv
      simp [F_place_under_b2, len_str (size200 (T := T) (by omega)), len_str (size200 (T := s) (by omega)), hb1, hb2]
      rw [hrg, e]
    · obtain ⟨sl2, e, y3, rfl⟩ := i2 hn
      refine ⟨_, ?_, .val (.int (b : Int)), y3, rfl⟩
      simp [F_place_under_b2, len_str (size200 (T := T) (by omega)), len_str (size200 (T := s) (by omega)), hb1, hb2]
      rw [hrg, e]
  obtain ⟨o1, o2⟩ := outer .none .none
  rw [← rangeW_zero] at o1 o2
  have hb : bound62 (T.length : Int) = true := bound_nat (by omega)
  cases hp : placeF s T with
  | some v =>
    have e := o1 v hp
    exact stepR (by simp [F_place_under, len_str (size200 (T := T) (by omega)), hb, e, plV])
  | none =>
    obtain ⟨sl2, e, y2, y3, rfl⟩ := o2 hp
    refine stepK (fun K => by simp [F_place_under, len_str (size200 (T := T) (by omega)), hb, e]; try with_reducible rfl) ?_
    exact stepR (by simp [plV])
end
end Cw

end
section
set_option linter.all false
set_option maxRecDepth 100000
set_option maxHeartbeats 1000000
set_option Elab.async false
/-! Cz77h: whether any value is a map -/
namespace Cw
theorem dedup_mem {z : List Nat} : ∀ {l : List (List Nat)}, z ∈ dedup l ↔ z ∈ l
  | [] => Iff.rfl
  | y :: l => by
    rw [dedup, List.mem_cons, List.mem_filter, dedup_mem, List.mem_cons]
    constructor
    · rintro (h | h)
      · exact .inl h
      · exact .inr h.1
    · rintro (h | h)
      · exact .inl h
      · by_cases e : z = y
        · exact .inl e
        · exact .inr ⟨h, by simpa using e⟩
theorem dedup_nodup : ∀ (l : List (List Nat)), (dedup l).Nodup
  | [] => List.nodup_nil
  | y :: l => by
    rw [dedup, List.nodup_cons]
    refine ⟨fun h => ?_, List.Pairwise.filter _ (dedup_nodup l)⟩
    rw [List.mem_filter] at h
    simpa using h.2
theorem plain_s : ∀ (n : Nat) {w : W}, W.plain n w = true → W.plain (n + 1) w = true
  | n, .tup xs, h => by
    cases n with
    | zero => cases h
    | succ n => exact List.all_eq_true.mpr fun y hy => plain_s n (List.all_eq_true.mp h y hy)
  | n, .lst xs, h => by
    cases n with
    | zero => cases h
    | succ n => exact List.all_eq_true.mpr fun y hy => plain_s n (List.all_eq_true.mp h y hy)
  | n, .non, _ => rfl
  | n, .bl _, _ => rfl
  | n, .int _, _ => rfl
  | n, .str s, h => by cases n <;> exact h
  | n, .cel _, h => by cases n <;> cases h
  | n, .dct _ _, h => by cases n <;> cases h
theorem plain_up {w : W} {n m : Nat} (h : W.plain n w = true) (hn : n ≤ m) : W.plain m w = true := by
  induction hn with
  | refl => exact h
  | step _ ih => exact plain_s _ ih
theorem one_nodup {l : List Nat} (h : l.Nodup) : (l.map fun y => [y]).Nodup := by
  unfold List.Nodup
  rw [List.pairwise_map]
  exact List.Pairwise.imp (fun hab e => hab (by simpa using e)) h
theorem letters_perm {s : List Nat} (hs : Shp s) : ((lettersU s).map fun y => [y]).Perm (dedup (s.map fun y => [y])) := by
  rw [List.perm_ext_iff_of_nodup (one_nodup (lettersU_nodup s)) (dedup_nodup _)]
  intro v
  rw [dedup_mem, List.mem_map, List.mem_map]
  constructor
  · rintro ⟨y, hy, rfl⟩; exact ⟨y, (lettersU_mem hs).mp hy, rfl⟩
  · rintro ⟨y, hy, rfl⟩; exact ⟨y, (lettersU_mem hs).mpr hy, rfl⟩
theorem letters_sorted {s : List Nat} (hs : Shp s) : sortBy ltL (dedup (s.map fun y => [y])) = (lettersU s).map fun y => [y] := by
  refine (sortBy_unique ltL_asym ltL_tr ltL_anti (letters_perm hs) ?_).symm
  rw [List.pairwise_map]
  unfold lettersU
  refine List.Pairwise.filter _ ?_
  show [97, 98, 99, 100].Pairwise fun a b => ltL [b] [a] = false
  decide
theorem sortedset_str {s : List Nat} (hs : Shp s) (hl : s.length ≤ 100) : bltop .sortedset [.str s] = some (.own (.lst ((lettersU s).map fun y => .str [y]))) := by
  have e : bltop .sortedset [.str s] = if s.length < 4000 then (sortSetW (charsW s)).map fun ys => .own (.lst ys) else none := rfl
  rw [e, if_pos (by omega)]
  have e2 : sortSetW (charsW s) = some ((sortBy ltL (dedup (s.map fun y => [y]))).map .str) := by
    unfold sortSetW charsW
    rw [allStr_map]
  rw [e2, letters_sorted hs, List.map_map]
  rfl
theorem lenset_str {s : List Nat} (hs : Shp s) (hl : s.length ≤ 100) : bltop .lenset [.str s] = some (.w (.int ((lettersU s).length : Nat))) := by
  have e : bltop .lenset [.str s] = if s.length < 4000 then (lenSetW (charsW s)).map fun (n : Nat) => .w (.int (n : Int)) else none := rfl
  rw [e, if_pos (by omega)]
  have e2 : lenSetW (charsW s) = some (dedup (s.map fun y => [y])).length := by
    unfold lenSetW charsW
    rw [allStr_map]
  have := (letters_perm hs).length_eq
  rw [List.length_map] at this
  rw [e2, ← this]
  rfl
def partB : W → Bool
  | .str p => !(p == []) && p.all fun y => decide (y ∈ LT)
  | _ => false
def okE (e : W) : Prop := okV e ∧ W.plain 58 e = true ∧ ∀ p, e = .str p → p.length ≤ 200
def gval (v : W) : Prop := okV v ∧ ∀ vs, v = .tup vs → ∀ e ∈ vs, okE e
def isMapB (s w : List Nat) : W → Bool
  | .tup vs => decide (vs.length = (lettersU s).length) && vs.all partB && (match allStr? vs with
    | some ps => s.flatMap (vAt s ps) == w
    | none => false)
  | _ => false
theorem isMapB_tup (s w : List Nat) (vs : List W) : isMapB s w (.tup vs) = (decide (vs.length = (lettersU s).length) && vs.all partB && (match allStr? vs with
    | some ps => s.flatMap (vAt s ps) == w
    | none => false)) := rfl
theorem parts_str : ∀ {vs : List W}, vs.all partB = true → ∃ ps : List (List Nat), vs = ps.map .str ∧ ∀ p ∈ ps, p ≠ [] ∧ ∀ y ∈ p, y ∈ LT
  | [], _ => ⟨[], rfl, fun p h => by cases h⟩
  | e :: vs, h => by
    rw [List.all_cons, Bool.and_eq_true] at h
    obtain ⟨ps, rfl, h2⟩ := parts_str h.2
    cases e with
    | str p =>
      refine ⟨p :: ps, rfl, fun q hq => ?_⟩
      rcases List.mem_cons.mp hq with rfl | hq
      · have := h.1
        simp only [partB, Bool.and_eq_true, List.all_eq_true, decide_eq_true_eq] at this
        exact ⟨by simpa using this.1, this.2⟩
      · exact h2 q hq
    | _ => cases h.1
theorem isMapB_valid {s w : List Nat} {v : List (List Nat)} (hs : Shp s) (hw : Ws 8 w) (h : valid s w v) : isMapB s w (tW v) = true := by
  have h8 := valid_ws hs hw h
  obtain ⟨h1, h2, h3⟩ := h
  show (decide ((v.map W.str).length = (lettersU s).length) && (v.map W.str).all partB && (match allStr? (v.map W.str) with
    | some ps => s.flatMap (vAt s ps) == w
    | none => false)) = true
  have e : allStr? (v.map W.str) = some v := by
    have := allStr_map (f := fun p : List Nat => p) (l := v)
    simpa using this
  rw [e, List.length_map, h1, Bool.and_eq_true, Bool.and_eq_true]
  refine ⟨⟨by simp, ?_⟩, by simpa using h3⟩
  rw [List.all_eq_true]
  intro q hq
  obtain ⟨p, hp, rfl⟩ := List.mem_map.mp hq
  simp only [partB, Bool.and_eq_true, List.all_eq_true, decide_eq_true_eq]
  exact ⟨by simpa using h2 p hp, (h8 p hp).all⟩
theorem flat_sum_le {f : Nat → List Nat} {m : Nat} : ∀ {s : List Nat}, (∀ y ∈ s, (f y).length ≤ m) → ((s.map f).map List.length).sum ≤ s.length * m
  | [], _ => by simp
  | y :: s, h => by
    rw [List.map_cons, List.map_cons, List.sum_cons, List.length_cons, Nat.succ_mul]
    have h1 := flat_sum_le (s := s) fun z hz => h z (List.mem_cons_of_mem _ hz)
    have h2 := h y List.mem_cons_self
    omega
theorem join_flat {f : Nat → List Nat} {m : Nat} {s : List Nat} (h : ∀ y ∈ s, (f y).length ≤ m) (hm : s.length * m ≤ sizeL) : methop .join (.str []) [.lst (s.map fun y => .str (f y))] = some (.w (.str (s.flatMap f))) := by
  show ((allStr? (s.map fun y => W.str (f y))).bind fun ss => if (ss.map List.length).sum + ss.length * ([] : List Nat).length ≤ sizeL then some (Val.w (.str (joinS [] ss))) else none) = _
  rw [allStr_map, Option.bind_some, if_pos, joinS_nil, List.flatMap_def]
  have := flat_sum_le h
  simp only [List.length_nil, Nat.mul_zero, Nat.add_zero]
  omega
theorem atI_part {s : List Nat} (hs : Shp s) {ps : List (List Nat)} (hl : ps.length = (lettersU s).length) {y : Nat} (hy : y ∈ s) : atI (ps.map W.str) (((lettersU s).idxOf y : Nat) : Int) = some (.str (vAt s ps y)) := by
  have h1 := List.idxOf_lt_length_of_mem ((lettersU_mem hs).mpr hy)
  rw [atI_nat (by rw [List.length_map]; omega), List.getElem?_map]
  unfold vAt
  rw [List.getD_eq_getElem?_getD, List.getElem?_eq_getElem (by omega)]
  rfl
section
variable {P : Prog} {F : Nat} {x : Nat → Nat} {k : Nat} {c : Cells} {w : W}
theorem run_word_by_map (h : H_word_by_map P x) {s : List Nat} (hs : Shp s) (hsl : s.length ≤ 100) {ps : List (List Nat)} (hl : ps.length = (lettersU s).length) (hp : ∀ p ∈ ps, p.length ≤ 200) (hk : 2 ≤ k) : run P F k (x n_word_by_map) [.str s, .tup (ps.map .str)] c = .ok (.w (.str (s.flatMap (vAt s ps)))) c := by
  obtain ⟨k, rfl⟩ := pred_of (k := k) (by omega)
  refine run_fnS h.f rfl ?_ rfl
  have q := run_letters_under (F := F) (k := k) (c := c) h.letters_under (s := s) (by omega)
  have c1 : compS P (run P F k) (F_word_by_map_e1 x) (.nm 3) .nil [3] [.val (.str s), .val (.tup (ps.map .str)), .val (.lst ((lettersU s).map fun y => .str [y])), .none] (s.map fun y => .str [y]) c = .ok (s.map fun y => .str (vAt s ps y)) c := by
    refine compS_map fun y hy => ⟨_, rfl, rfl, ?_⟩
    have h1 := index_lst ((lettersU_mem hs).mpr hy)
    have h2 := atI_part hs hl hy
    generalize ps.map W.str = PP at h2
    generalize ((lettersU s).map fun z => W.str [z]) = LL at h1
    simp [elV, F_word_by_map_e1, wipeS, h1, h2]
  have z1 : (s.map fun y => W.str (vAt s ps y)).length ≤ sizeL := by rw [List.length_map]; unfold sizeL; omega
  have hj := join_flat (f := vAt s ps) (m := 200) (s := s) (fun y hy => hp _ (vAt_mem hs hl hy)) (by unfold sizeL; omega)
  generalize (s.map fun y => W.str (vAt s ps y)) = A at c1 z1 hj
  generalize ((lettersU s).map fun z => W.str [z]) = LL at q c1
  refine stepK (fun K => by simp [F_word_by_map, q]; try with_reducible rfl) ?_
  exact stepR (by simp [c1, z1, hj])
theorem partB_fits {e : W} (h : okE e) : (strOf LT 0 200 e && partB e) = partB e := by
  cases e with
  | str p =>
    have := h.2.2 p rfl
    have h1 : (0 : Int) ≤ (p.length : Int) := by omega
    have h2 : (p.length : Int) ≤ 200 := by omega
    simp only [strOf, partB, h1, h2, decide_true, Bool.true_and]
    cases (p.all fun y => decide (y ∈ LT)) <;> simp
  | _ => rfl
theorem run_fits_shape_map (h : H_fits_shape_map P x) {s T : List Nat} (hs : Shp s) (hsl : s.length ≤ 100) (hv : gval w) (hk : 4 ≤ k) : run P F k (x n_fits_shape_map) [.str s, .str T, w] c = .ok (.w (.bl (isMapB s T w))) c := by
  obtain ⟨k, rfl⟩ := pred_of (k := k) (by omega)
  refine run_fnS h.f rfl ?_ rfl
  have q := run_letters_under (F := F) (k := k) (c := c) h.letters_under (s := s) (by omega)
  have q2 := run_is_tuple_of (F := F) (k := k) (c := c) h.is_tuple_of (((lettersU s).length : Nat) : Int) (((lettersU s).length : Nat) : Int) hv.1 (by omega)
  refine stepK (s2 := [.val (.str s), .val (.str T), .val w, .val (.int ((lettersU s).length : Nat)), .none]) (c2 := c) (fun K => by simp [F_fits_shape_map, q]; try with_reducible rfl) ?_
  by_cases ht : tupOf (((lettersU s).length : Nat) : Int) (((lettersU s).length : Nat) : Int) w = true
  · rw [ht] at q2
    obtain ⟨vs, rfl⟩ : ∃ vs, w = .tup vs := by
      cases w with
      | tup vs => exact ⟨vs, rfl⟩
      | _ => cases ht
    have hlen : vs.length = (lettersU s).length := by
      simp only [tupOf, Bool.and_eq_true, decide_eq_true_eq] at ht
      omega
    have hE := hv.2 vs rfl
    have c1 : compS P (run P F k) (F_fits_shape_map_e1 x) (.nm 4) .nil [4] [.val (.str s), .val (.str T), .val (.tup vs), .val (.int ((lettersU s).length : Nat)), .none] (vs.map fun e => e) c = .ok (vs.map fun e => .bl (partB e)) c := by
      refine compS_map fun e he => ⟨_, rfl, rfl, ?_⟩
      have q3 := run_fits_word (F := F) (k := k) (c := c) h.fits_word (hE e he).1 (by omega)
      have q4 := partB_fits (hE e he)
      cases hst : strOf LT 0 200 e with
      | false =>
        rw [hst] at q3 q4
        rw [← q4]
        simp [elV, F_fits_shape_map_e1, wipeS, q3]
      | true =>
        rw [hst] at q3
        cases e with
        | str p =>
          have hp : p.all (fun y => decide (y ∈ LT)) = true := by
            simp only [strOf, Bool.and_eq_true] at hst
            exact hst.2
          have e5 : partB (.str p) = !(p == []) := by
            show (!(p == []) && p.all fun y => decide (y ∈ LT)) = _
            rw [hp, Bool.and_true]
          rw [e5]
          simp [elV, F_fits_shape_map_e1, wipeS, q3]
        | _ => cases hst
    rw [List.map_id'] at c1
    have z1 : (vs.map fun e => W.bl (partB e)).length ≤ sizeL := by rw [List.length_map]; exact hv.1
    have hall : allBl? (vs.map fun e => W.bl (partB e)) = some (vs.map partB) := allBl_map
    have hall2 : (vs.map partB).all id = vs.all partB := by rw [List.all_map]; rfl
    generalize (vs.map fun e => W.bl (partB e)) = A at c1 z1 hall
    generalize vs.map partB = BB at hall hall2
    cases hb : vs.all partB with
    | false =>
      rw [hb] at hall2
      have : isMapB s T (.tup vs) = false := by rw [isMapB_tup, hb]; simp
      rw [this]
      exact stepR (by simp [F_fits_shape_map, q2, c1, z1, hall, hall2])
    | true =>
      rw [hb] at hall2
      obtain ⟨ps, rfl, hps⟩ := parts_str hb
      have hpl : ∀ p ∈ ps, p.length ≤ 200 := fun p hp => (hE _ (List.mem_map_of_mem hp)).2.2 p rfl
      rw [List.length_map] at hlen
      have q5 := run_word_by_map (F := F) (k := k) (c := c) h.word_by_map hs hsl hlen hpl (by omega)
      have e6 : isMapB s T (.tup (ps.map .str)) = (s.flatMap (vAt s ps) == T) := by
        rw [isMapB_tup]
        have e : allStr? (ps.map W.str) = some ps := by
          have := allStr_map (f := fun p : List Nat => p) (l := ps)
          simpa using this
        rw [hb, List.length_map, hlen, e]
        simp
      rw [e6]
      generalize ps.map W.str = PP at q2 c1 q5
      refine stepK (fun K => by simp [F_fits_shape_map, q2, c1, z1, hall, hall2]; try with_reducible rfl) ?_
      exact stepR (by simp [q5])
  · have ht := (Bool.not_eq_true _).mp ht
    rw [ht] at q2
    have : isMapB s T w = false := by
      cases w with
      | tup vs =>
        have hlen : vs.length ≠ (lettersU s).length := fun e => by
          simp [tupOf, e] at ht
        simp [isMapB, hlen]
      | _ => rfl
    rw [this]
    exact stepR (by simp [F_fits_shape_map, q2])
theorem run_is_shape_map (h : H_is_shape_map P x) {s T : List Nat} (hs : Shp s) (h1 : 1 ≤ s.length) (h6 : s.length ≤ 6) (hw : Ws 8 T) (hT : T.length ≤ 200) (hv : gval w) (hk : 5 ≤ k) : run P F k (x n_is_shape_map) [.str s, .str T, w] c = .ok (.w (.bl (isMapB s T w))) c := by
  obtain ⟨k, rfl⟩ := pred_of (k := k) (by omega)
  refine run_fnS h.f rfl ?_ rfl
  have q1 := run_need_shape (F := F) (k := k) (c := c) h.need_shape hs h1 h6 (by omega)
  have q2 := run_need_word (F := F) (k := k) (c := c) h.need_word (strOf_ws hw hT) (by omega)
  have q3 := run_fits_shape_map (F := F) (k := k) (c := c) h.fits_shape_map (T := T) hs (by omega) hv (by omega)
  refine stepK (fun K => by simp [F_is_shape_map, q1]; try with_reducible rfl) ?_
  refine stepK (fun K => by simp [q2]; try with_reducible rfl) ?_
  exact stepR (by simp [q3])
theorem run_law_is_map (h : H__law_is_map P x) {s T : List Nat} (hs : Shp s) (hsl : s.length ≤ 100) (hv : gval w) (hk : 1 ≤ k) : run P F k (x n__law_is_map) [.str s, .str T, w] c = .ok (.w (.bl (isMapB s T w))) c := by
  obtain ⟨k, rfl⟩ := pred_of hk
  refine run_fnS h.f rfl ?_ rfl
  have q := sortedset_str hs hsl
  refine stepK (s2 := [.val (.str s), .val (.str T), .val w, .val (.lst ((lettersU s).map fun y => .str [y])), .none, .none]) (c2 := c) (fun K => by
    generalize ((lettersU s).map fun z => W.str [z]) = LL at q
    simp [F__law_is_map, q]; try with_reducible rfl) ?_
  by_cases ht : ∃ vs, w = .tup vs ∧ vs.length = (lettersU s).length
  · obtain ⟨vs, rfl, hlen⟩ := ht
    have hE := hv.2 vs rfl
    have hlen' : ((vs.length : Int) == (((lettersU s).map fun z => W.str [z]).length : Int)) = true := by rw [List.length_map, hlen]; simp
    have c1 : compS P (run P F k) (F__law_is_map_e1 x) (.nm 4) (F__law_is_map_c2 x) [4] [.val (.str s), .val (.str T), .val (.tup vs), .val (.lst ((lettersU s).map fun y => .str [y])), .none, .none] (vs.map fun e => e) c = .ok ((vs.filter fun e => !partB e).map fun e => e) c := by
      refine compS_filter fun e he => ⟨_, rfl, ?_, fun _ => by simp [elV, F__law_is_map_e1, wipeS]⟩
      cases e with
      | str p =>
        have hp := (hE _ he).2.2 p rfl
        have hpl := (hE _ he).2.1
        have hpl : p.all (· < 1114112) = true := hpl
        have c2 : compS P (run P F k) (F__law_is_map_e2 x) (.nm 5) (F__law_is_map_c1 x) [5] [.val (.str s), .val (.str T), .val (.tup vs), .val (.lst ((lettersU s).map fun y => .str [y])), .val (.str p), .none] (p.map fun y => .str [y]) c = .ok ((p.filter fun y => !decide (y ∈ LT)).map fun y => .str [y]) c := by
          refine compS_filter fun y hy => ⟨_, rfl, ?_, fun _ => by simp [elV, F__law_is_map_e2, wipeS]⟩
          simp [F__law_is_map_c1, wipeS]
        have z2 : ((p.filter fun y => !decide (y ∈ LT)).map fun y => W.str [y]).length ≤ sizeL := by
          rw [List.length_map]
          have := List.length_filter_le (fun y => !decide (y ∈ LT)) p
          unfold sizeL
          omega
        have z3 : ((p.filter fun y => !decide (y ∈ LT)).map fun y => W.str [y]).all (W.plain 59) = true := by
          rw [List.all_eq_true]
          intro v hv
          obtain ⟨y, hy, rfl⟩ := List.mem_map.mp hv
          have := List.all_eq_true.mp hpl y (List.mem_filter.mp hy).1
          show ([y].all fun y => decide (y < 1114112)) = true
          simpa using this
        have z4 := ne_lst z3
        have hem : ((p.filter fun y => !decide (y ∈ LT)).map fun y => W.str [y]).isEmpty = p.all fun y => decide (y ∈ LT) := by
          rw [Bool.eq_iff_iff, List.isEmpty_iff, List.map_eq_nil_iff, List.filter_eq_nil_iff, List.all_eq_true]
          simp
        rw [hem] at z4
        have e7 : (!partB (.str p)) = (p == [] || !p.all fun y => decide (y ∈ LT)) := by
          show (!(!(p == []) && p.all fun y => decide (y ∈ LT))) = _
          rw [Bool.not_and, Bool.not_not]
        rw [e7]
        generalize ((p.filter fun y => !decide (y ∈ LT)).map fun y => W.str [y]) = A at c2 z2 z4
        generalize (p.all fun y => decide (y ∈ LT)) = B at z4
        generalize ((lettersU s).map fun z => W.str [z]) = LL at c2
        by_cases hb : p = []
        · simp [F__law_is_map_c2, wipeS, isinst, hb]
        · simp [F__law_is_map_c2, wipeS, isinst, c2, z2, z4, hb]
      | cel n => exact ((hE _ he).1).elim
      | dct a b => exact ((hE _ he).1).elim
      | _ => simp [F__law_is_map_c2, wipeS, isinst, partB]
    rw [List.map_id', List.map_id'] at c1
    have z1 : (vs.filter fun e => !partB e).length ≤ sizeL := Nat.le_trans (List.length_filter_le _ _) hv.1
    have z5 : (vs.filter fun e => !partB e).all (W.plain 59) = true := by
      rw [List.all_eq_true]
      intro e he
      exact plain_up (hE e (List.mem_filter.mp he).1).2.1 (by omega)
    have z6 := ne_lst z5
    have hem : (vs.filter fun e => !partB e).isEmpty = vs.all partB := by
      rw [Bool.eq_iff_iff, List.isEmpty_iff, List.filter_eq_nil_iff, List.all_eq_true]
      simp
    rw [hem] at z6
    generalize (vs.filter fun e => !partB e) = A at c1 z1 z6
    refine stepK (s2 := [.val (.str s), .val (.str T), .val (.tup vs), .val (.lst ((lettersU s).map fun y => .str [y])), .none, .none]) (c2 := c) (fun K => by
      generalize ((lettersU s).map fun z => W.str [z]) = LL at hlen'
      simp [isinst, hlen']) ?_
    cases hb : vs.all partB with
    | false =>
      rw [hb] at z6
      have : isMapB s T (.tup vs) = false := by rw [isMapB_tup, hb]; simp
      rw [this]
      generalize ((lettersU s).map fun z => W.str [z]) = LL at c1
      exact stepR (by simp [c1, z1, z6])
    | true =>
      rw [hb] at z6
      obtain ⟨ps, rfl, hps⟩ := parts_str hb
      have hpl : ∀ p ∈ ps, p.length ≤ 200 := fun p hp => (hE _ (List.mem_map_of_mem hp)).2.2 p rfl
      rw [List.length_map] at hlen
      have e6 : isMapB s T (.tup (ps.map .str)) = (s.flatMap (vAt s ps) == T) := by
        rw [isMapB_tup]
        have e : allStr? (ps.map W.str) = some ps := by
          have := allStr_map (f := fun p : List Nat => p) (l := ps)
          simpa using this
        rw [hb, List.length_map, hlen, e]
        simp
      rw [e6]
      have c3 : compS P (run P F k) (F__law_is_map_e3 x) (.nm 5) .nil [5] [.val (.str s), .val (.str T), .val (.tup (ps.map .str)), .val (.lst ((lettersU s).map fun y => .str [y])), .none, .none] (s.map fun y => .str [y]) c = .ok (s.map fun y => .str (vAt s ps y)) c := by
        refine compS_map fun y hy => ⟨_, rfl, rfl, ?_⟩
        have h1 := index_lst ((lettersU_mem hs).mpr hy)
        have h2 := atI_part hs hlen hy
        generalize ps.map W.str = PP at h2
        generalize ((lettersU s).map fun z => W.str [z]) = LL at h1
        simp [elV, F__law_is_map_e3, wipeS, h1, h2]
      have z8 : (s.map fun y => W.str (vAt s ps y)).length ≤ sizeL := by rw [List.length_map]; unfold sizeL; omega
      have hj := join_flat (f := vAt s ps) (m := 200) (s := s) (fun y hy => hpl _ (vAt_mem hs hlen hy)) (by unfold sizeL; omega)
      generalize (s.map fun y => W.str (vAt s ps y)) = D at c3 z8 hj
      generalize ps.map W.str = PP at c1 c3
      generalize ((lettersU s).map fun z => W.str [z]) = LL at c1 c3
      refine stepK (fun K => by simp [c1, z1, z6]; try with_reducible rfl) ?_
      exact stepR (by simp [c3, z8, hj])
  · have : isMapB s T w = false := by
      cases w with
      | tup vs =>
        have hlen : vs.length ≠ (lettersU s).length := fun e => ht ⟨vs, rfl, e⟩
        simp [isMapB, hlen]
      | _ => rfl
    rw [this]
    cases w with
    | tup vs =>
      have hlen : vs.length ≠ (lettersU s).length := fun e => ht ⟨vs, rfl, e⟩
      have hlen' : ((vs.length : Int) == (((lettersU s).map fun z => W.str [z]).length : Int)) = false := by
        rw [List.length_map, beq_eq_false_iff_ne]
        omega
      generalize ((lettersU s).map fun z => W.str [z]) = LL at hlen'
      exact stepR (by simp [isinst, hlen'])
    | cel n => exact hv.1.elim
    | dct a b => exact hv.1.elim
    | _ => exact stepR (by simp [isinst])
end
end Cw

end
section
set_option linter.all false
set_option maxRecDepth 100000
set_option maxHeartbeats 1000000
set_option Elab.async false
/-! Cz77i: the law's own maps, walked -/
namespace Cw
def stW (st : St) : W := .tup [dW st.1, .str st.2]
theorem keysD_snoc {d : Dct} {y : Nat} {p : List Nat} (nd : (keysD d).Nodup) (h : lookD d y = none) : (keysD (d ++ [(y, p)])).Nodup := by
  unfold keysD
  rw [List.map_append, List.nodup_append]
  refine ⟨nd, by simp, fun a ha b hb e => ?_⟩
  have : b = y := by simpa using hb
  subst this e
  exact lookD_none.mp h ha
structure okS (N m : Nat) (st : St) : Prop where
  nd : (keysD st.1).Nodup
  len : st.1.length + m ≤ 50
  left : st.2.length ≤ N
  vals : ∀ a p, lookD st.1 a = some p → p.length ≤ N
theorem stepB_ok {N m bh y : Nat} {st st' : St} (h : okS N (m + 1) st) (h2 : st' ∈ stepB bh y st) : okS N m st' := by
  obtain ⟨_, p, _, e2, _, e4⟩ := stepB_mem h2
  have hl := h.left
  have hn := h.len
  have : st'.2.length ≤ st.2.length := by rw [e2, List.length_append]; omega
  rcases e4 with e | ⟨e, e0⟩
  · exact ⟨e ▸ h.nd, by rw [e]; omega, by omega, fun a q hq => h.vals a q (e ▸ hq)⟩
  · refine ⟨e ▸ keysD_snoc h.nd e0, by rw [e, List.length_append, List.length_singleton]; omega, by omega, fun a q hq => ?_⟩
    rw [e, lookD_app] at hq
    cases hz : lookD st.1 a with
    | some z =>
      rw [hz] at hq
      have : z = q := by simpa using hq
      exact this ▸ h.vals a z hz
    | none =>
      rw [hz] at hq
      by_cases g : y = a
      · rw [if_pos g] at hq
        have : p = q := by simpa using hq
        rw [← this]
        rw [e2, List.length_append] at hl
        omega
      · rw [if_neg g] at hq
        cases hq
theorem stepB_len {N m bh y : Nat} {st : St} (hN : 1 ≤ N) (h : okS N m st) : (stepB bh y st).length ≤ N := by
  have hl := h.left
  unfold stepB
  split
  · split <;> simp <;> omega
  · rw [List.length_map, List.length_range]; omega
theorem steps_len {N m bh y : Nat} (hN : 1 ≤ N) : ∀ {rs : List St}, (∀ st ∈ rs, okS N m st) → (rs.flatMap (stepB bh y)).length ≤ rs.length * N
  | [], _ => by simp
  | st :: rs, h => by
    rw [List.flatMap_cons, List.length_append, List.length_cons, Nat.succ_mul]
    have h1 := stepB_len (bh := bh) (y := y) hN (h st List.mem_cons_self)
    have h2 := steps_len (bh := bh) (y := y) hN (rs := rs) fun q hq => h q (List.mem_cons_of_mem _ hq)
    omega
theorem lawGo_look : ∀ {t : List Nat} {rs : List St} {st : St}, st ∈ lawGo t rs → ∃ st0 ∈ rs, (∀ a q, lookD st0.1 a = some q → lookD st.1 a = some q) ∧ ∀ y ∈ t, ∃ q, lookD st.1 y = some q
  | [], rs, st, h => ⟨st, h, fun a q h => h, fun y hy => by cases hy⟩
  | y :: t, rs, st, h => by
    obtain ⟨st1, h1, h2, h3⟩ := lawGo_look (t := t) h
    obtain ⟨st0, h4, h5⟩ := List.mem_flatMap.mp h1
    obtain ⟨e1, p, hp, _⟩ := stepB_mem h5
    refine ⟨st0, h4, fun a q hq => h2 a q (e1 a q hq), fun z hz => ?_⟩
    rcases List.mem_cons.mp hz with rfl | hz
    · exact ⟨p, h2 _ _ hp⟩
    · exact h3 z hz
theorem lawGo_len {N : Nat} (hN : 1 ≤ N) : ∀ (t : List Nat) (rs : List St), (∀ st ∈ rs, okS N t.length st) → (lawGo t rs).length ≤ rs.length * N ^ t.length
  | [], rs, _ => by simp [lawGo]
  | y :: t, rs, h => by
    rw [lawGo]
    have h1 := lawGo_len hN t (rs.flatMap (stepB t.length y)) fun st hst => by
      obtain ⟨q, hq, h2⟩ := List.mem_flatMap.mp hst
      exact stepB_ok (h q hq) h2
    refine Nat.le_trans h1 ?_
    rw [List.length_cons, Nat.pow_succ, Nat.mul_comm (N ^ _), ← Nat.mul_assoc]
    exact Nat.mul_le_mul_right _ (steps_len hN h)
section
variable {P : Prog} {F : Nat} {x : Nat → Nat} {k : Nat} {c : Cells} {w : W}
theorem b1_body (R : Nat → List W → M Val) (s0 s1 s2 s3 s4 s7 z11 z12 : Slot) (y n : Nat) (d : Dct) (T : List Nat) (acc : List W) (hd : lookD d y = none) (nd : (keysD d).Nodup) (hl : d.length ≤ 100) (hT : T.length ≤ 200) (ha : acc.length < 16000000) :
    ∃ y11 y12, exSs P F R (F__law_maps_b1 x) [s0, s1, s2, s3, s4, .val (.str [y]), .own (.lst acc), s7, .val (dW d), .val (.str T), .val (.int ((n + 1 : Nat) : Int)), z11, z12] c
      = .ok (.nx [s0, s1, s2, s3, s4, .val (.str [y]), .own (.lst (acc ++ [stW (d ++ [(y, T.take (n + 1))], T.drop (n + 1))])), s7, .val (dW d), .val (.str T), .val (.int ((n + 1 : Nat) : Int)), y11, y12]) c := by
  refine ⟨.val (dW (d ++ [(y, T.take (n + 1))])), z12, ?_⟩
  have c1 : compS P R (F__law_maps_e1 x) (.nm 12) .nil [12] [s0, s1, s2, s3, s4, .val (.str [y]), .own (.lst acc), s7, .val (dW d), .val (.str T), .val (.int ((n + 1 : Nat) : Int)), z11, z12] (d.map fun q => .str [q.1]) c = .ok (d.map fun q => .tup [.str [q.1], .str q.2]) c := by
    refine compS_map fun q hq => ⟨_, rfl, rfl, ?_⟩
    have h1 : dgetW (dW d) (.str [q.1]) = some (.str q.2) := by
      rw [dget_d, lookD_mem nd (a := q.1) (v := q.2) hq]
      rfl
    generalize dW d = D at h1
    simp [elV, F__law_maps_e1, wipeS, h1]
  have hk : slotKeys (some (.val (dW d))) = some (d.map fun q => .str [q.1]) := rfl
  have z1 : (d.map fun q => W.tup [.str [q.1], .str q.2]).length ≤ sizeL := by rw [List.length_map]; unfold sizeL; omega
  have hadd : binop .add (.lst (d.map fun q => W.tup [.str [q.1], .str q.2])) (.lst [.tup [.str [y], .str (T.take (n + 1))]]) = some (.own (.lst ((d ++ [(y, T.take (n + 1))]).map fun q => W.tup [.str [q.1], .str q.2]))) := by
    rw [b_addL (by rw [List.length_map]; unfold sizeL; simp; omega), List.map_append]
    rfl
  have hdp := dict_pairs (d ++ [(y, T.take (n + 1))]) (keysD_snoc nd hd)
  have ct : cut T none (some ((n + 1 : Nat) : Int)) = T.take (n + 1) := cut_toN
  have cd : cut T (some ((n + 1 : Nat) : Int)) none = T.drop (n + 1) := cut_fromN
  have hap : acc.length < sizeL := by unfold sizeL; omega
  have hst : stW (d ++ [(y, T.take (n + 1))], T.drop (n + 1)) = .tup [dW (d ++ [(y, T.take (n + 1))]), .str (T.drop (n + 1))] := rfl
  rw [hst]
  generalize ((d ++ [(y, T.take (n + 1))]).map fun q => W.tup [.str [q.1], .str q.2]) = PP at hadd hdp
  generalize dW (d ++ [(y, T.take (n + 1))]) = D2 at hdp
  generalize T.take (n + 1) = T1 at ct hadd
  generalize T.drop (n + 1) = T2 at cd
  generalize (d.map fun q => W.tup [.str [q.1], .str q.2]) = QQ at c1 z1 hadd
  generalize (d.map fun q => W.str [q.1]) = KK at c1 hk
  generalize dW d = D at c1 hk
  generalize ((n + 1 : Nat) : Int) = nn at c1 ct cd
  refine stepK (fun K => by simp [hk, c1, z1, slc_str (size200 hT), ct, hadd, hdp]; try with_reducible rfl) ?_
  simp [slc_str (size200 hT), cd, appM, hap]
theorem b1_loop (R : Nat → List W → M Val) (s0 s1 s2 s3 s4 s7 : Slot) (y : Nat) (d : Dct) (T : List Nat) (hd : lookD d y = none) (nd : (keysD d).Nodup) (hl : d.length ≤ 100) (hT : T.length ≤ 200) : ∀ (ns : List Nat) (acc : List W) (z10 z11 z12 : Slot), acc.length + ns.length ≤ 16000000 →
    ∃ y10 y11 y12, forS P F R (.nm 10) (F__law_maps_b1 x) (ns.map fun (n : Nat) => .int ((n + 1 : Nat) : Int)) [s0, s1, s2, s3, s4, .val (.str [y]), .own (.lst acc), s7, .val (dW d), .val (.str T), z10, z11, z12] c
      = .ok (.nx [s0, s1, s2, s3, s4, .val (.str [y]), .own (.lst (acc ++ ns.map fun n => stW (d ++ [(y, T.take (n + 1))], T.drop (n + 1)))), s7, .val (dW d), .val (.str T), y10, y11, y12]) c
  | [], acc, z10, z11, z12, _ => ⟨z10, z11, z12, by simp [forS_nil]⟩
  | n :: ns, acc, z10, z11, z12, ha => by
    rw [List.length_cons] at ha
    obtain ⟨y11, y12, e⟩ := b1_body (P := P) (F := F) (x := x) (c := c) R s0 s1 s2 s3 s4 s7 z11 z12 y n d T acc hd nd hl hT (by omega)
    obtain ⟨u10, u11, u12, ih⟩ := b1_loop R s0 s1 s2 s3 s4 s7 y d T hd nd hl hT ns (acc ++ [stW (d ++ [(y, T.take (n + 1))], T.drop (n + 1))]) (.val (.int ((n + 1 : Nat) : Int))) y11 y12 (by rw [List.length_append, List.length_singleton]; omega)
    refine ⟨u10, u11, u12, ?_⟩
    rw [List.map_cons, forS_nx rfl e, ih, List.append_assoc]
    rfl
theorem b2_body (R : Nat → List W → M Val) (s0 s1 s2 s3 s4 z10 z11 z12 : Slot) (y bh : Nat) (st : St) (acc : List W) (nd : (keysD st.1).Nodup) (hl : st.1.length ≤ 100) (hT : st.2.length ≤ 200) (hbh : bh ≤ 100) (hv : ∀ p, lookD st.1 y = some p → p.length ≤ 200) (ha : acc.length + (stepB bh y st).length ≤ 16000000) :
    ∃ y10 y11 y12, exSs P F R (F__law_maps_b2 x) [s0, s1, s2, s3, s4, .val (.str [y]), .own (.lst acc), .val (.int (bh : Int)), .val (dW st.1), .val (.str st.2), z10, z11, z12] c
      = .ok (.nx [s0, s1, s2, s3, s4, .val (.str [y]), .own (.lst (acc ++ (stepB bh y st).map stW)), .val (.int (bh : Int)), .val (dW st.1), .val (.str st.2), y10, y11, y12]) c := by
  obtain ⟨d, T⟩ := st
  have hin := din_d d y
  have hget := dget_d d y
  unfold stepB at ha ⊢
  show ∃ y10 y11 y12, exSs P F R (F__law_maps_b2 x) [s0, s1, s2, s3, s4, .val (.str [y]), .own (.lst acc), .val (.int (bh : Int)), .val (dW d), .val (.str T), z10, z11, z12] c = .ok (.nx [s0, s1, s2, s3, s4, .val (.str [y]), .own (.lst (acc ++ (match lookD d y with
    | some p => if T.take p.length = p then [(d, T.drop p.length)] else []
    | none => (List.range (T.length - bh)).map fun n => (d ++ [(y, T.take (n + 1))], T.drop (n + 1))).map stW)), .val (.int (bh : Int)), .val (dW d), .val (.str T), y10, y11, y12]) c
  have ha : acc.length + (match lookD d y with
    | some p => if T.take p.length = p then [(d, T.drop p.length)] else []
    | none => (List.range (T.length - bh)).map fun n => (d ++ [(y, T.take (n + 1))], T.drop (n + 1))).length ≤ 16000000 := ha
  have hT : T.length ≤ 200 := hT
  cases hq : lookD d y with
  | some p =>
    rw [hq] at hin hget ha
    have hget : dgetW (dW d) (.str [y]) = some (.str p) := hget
    have hin : dinW (dW d) (.str [y]) = some true := hin
    refine ⟨z10, z11, z12, ?_⟩
    have ct : cut T none (some (p.length : Int)) = T.take p.length := cut_toN
    have cd : cut T (some (p.length : Int)) none = T.drop p.length := cut_fromN
    have hpl : p.length ≤ 200 := hv p hq
    by_cases he : T.take p.length = p
    · have ha : acc.length + (if T.take p.length = p then [(d, T.drop p.length)] else []).length ≤ 16000000 := ha
      rw [if_pos he] at ha
      have hap : acc.length < sizeL := by simp at ha; unfold sizeL; omega
      show _ = Res.ok (Out.nx [s0, s1, s2, s3, s4, .val (.str [y]), .own (.lst (acc ++ (if T.take p.length = p then [(d, T.drop p.length)] else []).map stW)), .val (.int (bh : Int)), .val (dW d), .val (.str T), z10, z11, z12]) c
      rw [if_pos he, List.map_singleton]
      have hst : stW (d, T.drop p.length) = .tup [dW d, .str (T.drop p.length)] := rfl
      rw [hst]
      rw [he] at ct
      have hlp := len_str (size200 hpl)
      generalize T.drop p.length = T2 at cd
      generalize dW d = D at hin hget
      generalize (p.length : Int) = pl at ct cd hlp
      simp [F__law_maps_b2, hin, hget, hlp, slc_str (size200 hT), ct, cd, appM, hap]
    · show _ = Res.ok (Out.nx [s0, s1, s2, s3, s4, .val (.str [y]), .own (.lst (acc ++ (if T.take p.length = p then [(d, T.drop p.length)] else []).map stW)), .val (.int (bh : Int)), .val (dW d), .val (.str T), z10, z11, z12]) c
      rw [if_neg he, List.map_nil, List.append_nil]
      have hlp := len_str (size200 hpl)
      generalize T.take p.length = T1 at ct he
      generalize dW d = D at hin hget
      generalize (p.length : Int) = pl at ct cd hlp
      simp [F__law_maps_b2, hin, hget, hlp, slc_str (size200 hT), ct, he]
  | none =>
    rw [hq] at hin ha
    have hin : dinW (dW d) (.str [y]) = some false := hin
    have ha : acc.length + ((List.range (T.length - bh)).map fun n => ((d ++ [(y, T.take (n + 1))], T.drop (n + 1)) : St)).length ≤ 16000000 := ha
    rw [List.length_map, List.length_range] at ha
    obtain ⟨y10, y11, y12, e⟩ := b1_loop (P := P) (F := F) (x := x) (c := c) R s0 s1 s2 s3 s4 (.val (.int (bh : Int))) y d T hq nd hl hT (List.range (T.length - bh)) acc z10 z11 z12 (by rw [List.length_range]; exact ha)
    refine ⟨y10, y11, y12, ?_⟩
    show _ = Res.ok (Out.nx [s0, s1, s2, s3, s4, .val (.str [y]), .own (.lst (acc ++ ((List.range (T.length - bh)).map fun n => ((d ++ [(y, T.take (n + 1))], T.drop (n + 1)) : St)).map stW)), .val (.int (bh : Int)), .val (dW d), .val (.str T), y10, y11, y12]) c
    rw [List.map_map]
    have hrg : rangeW 1 1 (((T.length : Int) - (bh : Int) + 1 - 1).toNat) = (List.range (T.length - bh)).map fun (n : Nat) => .int ((n + 1 : Nat) : Int) := by
      rw [rangeW_map, show ((T.length : Int) - (bh : Int) + 1 - 1).toNat = T.length - bh by omega]
      refine List.map_congr_left fun n _ => ?_
      show W.int _ = W.int _
      congr 1
      omega
    have hb : bound62 ((T.length : Int) - (bh : Int) + 1) = true := bound_int (by omega) (by omega)
    have hb1 : bound62 1 = true := by decide
    have he : (List.range (T.length - bh)).map (stW ∘ fun n => ((d ++ [(y, T.take (n + 1))], T.drop (n + 1)) : St)) = (List.range (T.length - bh)).map fun n => stW (d ++ [(y, T.take (n + 1))], T.drop (n + 1)) := rfl
    rw [he]
    generalize ((List.range (T.length - bh)).map fun n => stW (d ++ [(y, T.take (n + 1))], T.drop (n + 1))) = AA at e
    generalize ((List.range (T.length - bh)).map fun (n : Nat) => W.int ((n + 1 : Nat) : Int)) = RR at e hrg
    generalize dW d = D at hin e
    simp [F__law_maps_b2, hin, len_str (size200 hT), hb, hb1]
    have : ((T.length : Int) - (bh : Int) + 1 - 1).toNat = T.length - bh := by omega
    rw [this] at hrg
    rw [hrg, e]
theorem b2_loop (R : Nat → List W → M Val) (s0 s1 s2 s3 s4 : Slot) (y bh N : Nat) (hN : N ≤ 200) (hbh : bh ≤ 100) : ∀ (rs : List St) (acc : List W) (z8 z9 z10 z11 z12 : Slot), (∀ st ∈ rs, okS N (bh + 1) st) → acc.length + (rs.flatMap (stepB bh y)).length ≤ 16000000 →
    ∃ y8 y9 y10 y11 y12, forS P F R (.tp [8, 9]) (F__law_maps_b2 x) (rs.map stW) [s0, s1, s2, s3, s4, .val (.str [y]), .own (.lst acc), .val (.int (bh : Int)), z8, z9, z10, z11, z12] c
      = .ok (.nx [s0, s1, s2, s3, s4, .val (.str [y]), .own (.lst (acc ++ (rs.flatMap (stepB bh y)).map stW)), .val (.int (bh : Int)), y8, y9, y10, y11, y12]) c
  | [], acc, z8, z9, z10, z11, z12, _, _ => ⟨z8, z9, z10, z11, z12, by simp [forS_nil]⟩
  | st :: rs, acc, z8, z9, z10, z11, z12, hr, ha => by
    rw [List.flatMap_cons, List.length_append] at ha
    have ho := hr st List.mem_cons_self
    have h1 := ho.len
    have h2 := ho.left
    obtain ⟨y10, y11, y12, e⟩ := b2_body (P := P) (F := F) (x := x) (c := c) R s0 s1 s2 s3 s4 z10 z11 z12 y bh st acc ho.nd (by omega) (by omega) hbh (fun p hp => Nat.le_trans (ho.vals y p hp) hN) (by omega)
    obtain ⟨u8, u9, u10, u11, u12, ih⟩ := b2_loop R s0 s1 s2 s3 s4 y bh N hN hbh rs (acc ++ (stepB bh y st).map stW) (.val (dW st.1)) (.val (.str st.2)) y10 y11 y12 (fun q hq => hr q (List.mem_cons_of_mem _ hq)) (by rw [List.length_append, List.length_map]; omega)
    refine ⟨u8, u9, u10, u11, u12, ?_⟩
    rw [List.map_cons, forS_nx rfl e, ih, List.append_assoc, List.flatMap_cons, List.map_append]
theorem b3_loop (R : Nat → List W → M Val) (s T : List Nat) (N : Nat) (hN1 : 1 ≤ N) (hN : N ≤ 200) (hsl : s.length ≤ 50) (s1 s3 : Slot) : ∀ (t : List Nat) (i : Nat) (rs : List St) (z4 z5 z6 z7 z8 z9 z10 z11 z12 : Slot), i + t.length = s.length → (∀ st ∈ rs, okS N t.length st) → rs.length * N ^ t.length ≤ 16000000 →
    ∃ y4 y5 y6 y7 y8 y9 y10 y11 y12, forS P F R (.tp [4, 5]) (F__law_maps_b3 x) ((t.zipIdx i).map fun p => .tup [.int (p.2 : Int), .str [p.1]]) [.val (.str s), s1, .val (.lst (rs.map stW)), s3, z4, z5, z6, z7, z8, z9, z10, z11, z12] c
      = .ok (.nx [.val (.str s), s1, .val (.lst ((lawGo t rs).map stW)), s3, y4, y5, y6, y7, y8, y9, y10, y11, y12]) c
  | [], i, rs, z4, z5, z6, z7, z8, z9, z10, z11, z12, _, _, _ => ⟨z4, z5, z6, z7, z8, z9, z10, z11, z12, rfl⟩
  | y :: t, i, rs, z4, z5, z6, z7, z8, z9, z10, z11, z12, hi, hr, hb => by
    rw [List.length_cons] at hi hr hb
    have hlen := steps_len (bh := t.length) (y := y) hN1 hr
    rw [Nat.pow_succ] at hb
    have hpow : 1 ≤ N ^ t.length := Nat.pow_pos hN1
    have hb2 : (rs.flatMap (stepB t.length y)).length * N ^ t.length ≤ 16000000 := by
      refine Nat.le_trans (Nat.mul_le_mul_right _ hlen) ?_
      rw [Nat.mul_assoc, Nat.mul_comm N]
      exact hb
    have hb3 : (rs.flatMap (stepB t.length y)).length ≤ 16000000 := Nat.le_trans (Nat.le_mul_of_pos_right _ hpow) hb2
    obtain ⟨y8, y9, y10, y11, y12, e⟩ := b2_loop (P := P) (F := F) (x := x) (c := c) R (.val (.str s)) s1 (.val (.lst (rs.map stW))) s3 (.val (.int (i : Int))) y t.length N hN (by omega) rs [] z8 z9 z10 z11 z12 hr (by simpa using hb3)
    rw [List.nil_append] at e
    obtain ⟨u4, u5, u6, u7, u8, u9, u10, u11, u12, ih⟩ := b3_loop R s T N hN1 hN hsl s1 s3 t (i + 1) (rs.flatMap (stepB t.length y)) (.val (.int (i : Int))) (.val (.str [y])) (.val (.lst ((rs.flatMap (stepB t.length y)).map stW))) (.val (.int (t.length : Int))) y8 y9 y10 y11 y12 (by omega) (fun st hst => by
      obtain ⟨q, hq, h2⟩ := List.mem_flatMap.mp hst
      exact stepB_ok (hr q hq) h2) hb2
    refine ⟨u4, u5, u6, u7, u8, u9, u10, u11, u12, ?_⟩
    have hbh : (s.length : Int) - (i : Int) - 1 = (t.length : Int) := by omega
    have hbody : exSs P F R (F__law_maps_b3 x) [.val (.str s), s1, .val (.lst (rs.map stW)), s3, .val (.int (i : Int)), .val (.str [y]), z6, z7, z8, z9, z10, z11, z12] c
        = .ok (.nx [.val (.str s), s1, .val (.lst ((rs.flatMap (stepB t.length y)).map stW)), s3, .val (.int (i : Int)), .val (.str [y]), .val (.lst ((rs.flatMap (stepB t.length y)).map stW)), .val (.int (t.length : Int)), y8, y9, y10, y11, y12]) c := by
      generalize ((rs.flatMap (stepB t.length y)).map stW) = R2 at e
      generalize rs.map stW = RR at e
      have hls := len_str (size200 (T := s) (by omega))
      generalize (s.length : Int) = ls at hbh hls
      generalize (t.length : Int) = lt at hbh e
      refine stepK (fun K => by simp [hls, hbh, parW, Val.keep]; try with_reducible rfl) ?_
      refine stepK (fun K => by simp [e]; try with_reducible rfl) ?_
      simp [ss_cons]
    rw [List.zipIdx_cons, List.map_cons, forS_nx rfl hbody, ih]
    rfl
theorem run_law_maps (h : H__law_maps P x) {s T : List Nat} {N : Nat} (hs : Shp s) (hN1 : 1 ≤ N) (hN : N ≤ 200) (hsl : s.length ≤ 50) (hT : T.length ≤ N) (hb : N ^ s.length ≤ 16000000) (hk : 1 ≤ k) : run P F k (x n__law_maps) [.str s, .str T] c = .ok (.own (.lst ((lawMaps s T).map tW))) c := by
  obtain ⟨k, rfl⟩ := pred_of hk
  refine run_fnS h.f rfl ?_ rfl
  have hok : ∀ st ∈ [(([], T) : St)], okS N s.length st := fun st hst => by
    have : st = ([], T) := by simpa using hst
    subst this
    exact ⟨by simp [keysD], by simp; omega, hT, fun a p h => by cases h⟩
  obtain ⟨y4, y5, y6, y7, y8, y9, y10, y11, y12, e⟩ := b3_loop (P := P) (F := F) (x := x) (c := c) (run P F k) s T N hN1 hN hsl (.val (.str T)) .none s 0 [([], T)] .none .none .none .none .none .none .none .none .none (by omega) hok (by simpa using hb)
  have hlen := lawGo_len hN1 s [(([], T) : St)] hok
  have hsort := sortedset_str hs (by omega)
  have hc : compS P (run P F k) (F__law_maps_e3 x) (.tp [8, 9]) (F__law_maps_c1 x) [8, 9] [.val (.str s), .val (.str T), .val (.lst ((lawGo s [([], T)]).map stW)), .val (.lst ((lettersU s).map fun y => .str [y])), y4, y5, y6, y7, y8, y9, y10, y11, y12] ((lawGo s [([], T)]).map stW) c = .ok ((lawMaps s T).map tW) c := by
    have := compS_filter (P := P) (R := run P F k) (el := F__law_maps_e3 x) (cond := F__law_maps_c1 x) (own := [8, 9]) (sl := [.val (.str s), .val (.str T), .val (.lst ((lawGo s [([], T)]).map stW)), .val (.lst ((lettersU s).map fun y => .str [y])), y4, y5, y6, y7, y8, y9, y10, y11, y12]) (c := c) (t := .tp [8, 9]) (i := stW) (f := fun st => tW (gD s st.1)) (p := fun st => st.2 == []) (l := lawGo s [([], T)]) (fun st hst => by
      refine ⟨_, rfl, ?_, fun _ => ?_⟩
      · simp [F__law_maps_c1, wipeS]
      · obtain ⟨_, _, _, hall⟩ := lawGo_look hst
        have c2 : compS P (run P F k) (F__law_maps_e2 x) (.nm 12) .nil [12] [.val (.str s), .val (.str T), .val (.lst ((lawGo s [([], T)]).map stW)), .val (.lst ((lettersU s).map fun y => .str [y])), y4, y5, y6, y7, .val (dW st.1), .val (.str st.2), y10, y11, y12] ((lettersU s).map fun y => .str [y]) c = .ok ((lettersU s).map fun a => .str ((lookD st.1 a).getD [])) c := by
          refine compS_map fun a ha => ⟨_, rfl, rfl, ?_⟩
          obtain ⟨q, hq⟩ := hall a (lettersU_in a ha)
          have h1 := dget_d st.1 a
          rw [hq] at h1
          have h1 : dgetW (dW st.1) (.str [a]) = some (.str q) := h1
          rw [hq]
          generalize dW st.1 = D at h1
          simp [elV, F__law_maps_e2, wipeS, h1]
        have z1 : ((lettersU s).map fun a => W.str ((lookD st.1 a).getD [])).length ≤ sizeL := by
          rw [List.length_map]
          have := lettersU_le s
          unfold sizeL
          omega
        have hg : tW (gD s st.1) = .tup ((lettersU s).map fun a => W.str ((lookD st.1 a).getD [])) := by
          unfold tW gD
          rw [List.map_map]
          rfl
        rw [hg]
        generalize ((lettersU s).map fun a => W.str ((lookD st.1 a).getD [])) = A at c2 z1
        generalize ((lettersU s).map fun z => W.str [z]) = LL at c2
        generalize ((lawGo s [([], T)]).map stW) = GG at c2
        generalize dW st.1 = D at c2
        simp [elV, F__law_maps_e3, wipeS, c2, z1])
    rw [this]
    unfold lawMaps
    rw [List.map_map]
    rfl
  have z2 : ((lawMaps s T).map tW).length ≤ sizeL := by
    rw [List.length_map]
    unfold lawMaps
    rw [List.length_map]
    have h1 := List.length_filter_le (fun p : St => p.2 == []) (lawGo s [([], T)])
    have h2 : ([([], T)] : List St).length = 1 := rfl
    rw [h2] at hlen
    unfold sizeL
    omega
  have hen : enumW 0 (s.map fun y => W.str [y]) = (s.zipIdx 0).map fun p => .tup [.int (p.2 : Int), .str [p.1]] := by
    rw [enumW_map, List.zipIdx_map, List.map_map]
    rfl
  have e0 : ([([], T)] : List St).map stW = [.tup [.dct [] [], .str T]] := rfl
  rw [e0] at e
  generalize ((lawMaps s T).map tW) = FF at hc z2
  generalize ((lawGo s [([], T)]).map stW) = GG at e hc
  generalize (s.zipIdx 0).map (fun p => W.tup [.int (p.2 : Int), .str [p.1]]) = EE at hen e
  generalize ((lettersU s).map fun y => W.str [y]) = LL at hsort hc
  refine stepK (fun K => by simp [F__law_maps]; try with_reducible rfl) ?_
  refine stepK (fun K => by simp [hen, e]; try with_reducible rfl) ?_
  refine stepK (fun K => by simp [hsort]; try with_reducible rfl) ?_
  exact stepR (by simp [hc, z2])
end
end Cw

end
section
set_option linter.all false
set_option maxRecDepth 100000
set_option maxHeartbeats 1000000
set_option Elab.async false
/-! Cz77j: values bent; the maps of a shape under a word are told -/
namespace Cw
def bentL : List W := [.non, .bl true, .bl false, .int 0, .int 1, .int 2, .int 5, .int (-1), .str [], .str [97], .str [97, 98], .str [63], .tup [], .lst []]
theorem okE_str {p : List Nat} (h : p.length ≤ 200) (h2 : ∀ y ∈ p, y < 1114112) : okE (.str p) :=
  ⟨size200 h, List.all_eq_true.mpr fun y hy => decide_eq_true (h2 y hy), fun q hq => by cases hq; exact h⟩
theorem gval_str {p : List Nat} (h : p.length ≤ 200) : gval (.str p) := ⟨size200 h, fun vs hvs => by cases hvs⟩
theorem gval_tup {vs : List W} (h : vs.length ≤ 1000) (h2 : ∀ e ∈ vs, okE e) : gval (.tup vs) := ⟨by show vs.length ≤ sizeL; unfold sizeL; omega, fun us hus e he => by cases hus; exact h2 e he⟩
theorem gval_lst (vs : List W) : gval (.lst vs) := ⟨trivial, fun us hus => by cases hus⟩
theorem bentL_ok : ∀ v ∈ bentL, okE v ∧ gval v := by
  intro v hv
  simp only [bentL, List.mem_cons, List.not_mem_nil, or_false] at hv
  have hs : ∀ p : List Nat, p.length ≤ 200 → (∀ y ∈ p, y < 1114112) → okE (.str p) ∧ gval (.str p) := fun p h1 h2 => ⟨okE_str h1 h2, gval_str h1⟩
  have hn : ∀ w : W, (∀ n, W.plain n w = true) → okV w → (∀ p, w ≠ .str p) → (∀ p, w ≠ .tup p) → okE w ∧ gval w := fun w h1 h2 h3 h4 => ⟨⟨h2, h1 58, fun p hp => absurd hp (h3 p)⟩, h2, fun vs hvs => absurd hvs (h4 vs)⟩
  have i : ∀ j : Int, okE (.int j) ∧ gval (.int j) := fun j => hn _ (fun n => by cases n <;> rfl) trivial (fun p h => by cases h) (fun p h => by cases h)
  have b : ∀ j : Bool, okE (.bl j) ∧ gval (.bl j) := fun j => hn _ (fun n => by cases n <;> rfl) trivial (fun p h => by cases h) (fun p h => by cases h)
  rcases hv with rfl | rfl | rfl | rfl | rfl | rfl | rfl | rfl | rfl | rfl | rfl | rfl | rfl | rfl
  · exact hn _ (fun n => by cases n <;> rfl) trivial (fun p h => by cases h) (fun p h => by cases h)
  · exact b _
  · exact b _
  · exact i _
  · exact i _
  · exact i _
  · exact i _
  · exact i _
  · exact hs _ (by decide) (by decide)
  · exact hs _ (by decide) (by decide)
  · exact hs _ (by decide) (by decide)
  · exact hs _ (by decide) (by decide)
  · exact ⟨⟨by show 0 ≤ sizeL; omega, rfl, fun p h => by cases h⟩, gval_tup (by simp) fun e he => by cases he⟩
  · exact ⟨⟨trivial, rfl, fun p h => by cases h⟩, gval_lst _⟩
theorem eq_tup {xs : List W} (h : xs.all (W.plain 59) = true) : cmpop .eq (.tup xs) (.tup []) = some xs.isEmpty := by
  have e : cmpop .eq (.tup xs) (.tup []) = if (W.plain 60 (.tup xs) && W.plain 60 (.tup [])) = true then some (W.eqv 60 (.tup xs) (.tup [])) else none := rfl
  rw [e, if_pos (by rw [show W.plain 60 (.tup xs) = xs.all (W.plain 59) from rfl, h]; rfl)]
  cases xs <;> rfl
section
variable {P : Prog} {F : Nat} {x : Nat → Nat} {k : Nat} {c : Cells} {w : W}
theorem run_bentS (h : H__law_bent P x) {p : List Nat} (hc : Cup c) (hk : 3 ≤ k) : ∃ v c', run P F k (x n__law_bent) [.cel 0, .str p] c = .ok (.w v) c' ∧ okE v ∧ gval v ∧ Cup c' := by
  obtain ⟨k, rfl⟩ := pred_of (k := k) (by omega)
  obtain ⟨i, hi, c1, e, hc1⟩ := run_someL (F := F) (k := k) h._law_some (xs := bentL) (by decide) (by decide) hc (by omega)
  have hv := bentL_ok bentL[i] (List.getElem_mem hi)
  generalize bentL[i] = v at e hv
  refine ⟨v, c1, run_fnS h.f rfl ?_ (cup_len hc hc1), hv.1, hv.2, hc1⟩
  have q := run_sort (F := F) (k := k) (c := c) h._law_sort (w := .str p) trivial (by omega)
  have q : run P F k (x n__law_sort) [.str p] c = .ok (.w (.int 3)) c := q
  unfold bentL at e
  exact stepR (by simp [F__law_bent, ss_cons, isinst, q, e])
theorem run_bent (h : H__law_bent P x) {xs : List W} (hl : xs.length ≤ 100) (hx : ∀ e ∈ xs, okE e ∧ ∃ p, e = .str p) (hc : Cup c) (hk : 4 ≤ k) : ∃ V v c', run P F k (x n__law_bent) [.cel 0, .tup xs] c = .ok V c' ∧ (∀ c, keepM V c = .ok v c) ∧ gval v ∧ Cup c' := by
  obtain ⟨k, rfl⟩ := pred_of (k := k) (by omega)
  have hpl : xs.all (W.plain 59) = true := List.all_eq_true.mpr fun e he => plain_up (hx e he).1.2.1 (by omega)
  have heq := eq_tup hpl
  -- something else
  have early : ∀ {c c0 : Cells}, Cup c → Cup c0 → (∀ K : Slots → Cells → Res Out, evE P (run P F k) (.or_ (.not_ (.blt (.isinst 3) (.cons (.var 1) .nil))) (.or_ (.cmp .eq (.var 1) (.tup .nil)) (.cmp .eq (.call (x n__law_roll) (.cons (.var 0) (.cons (.lit (.int 8)) .nil))) (.lit (.int 0))))) [.val (.cel 0), .val (.tup xs), .none, .none, .none] c = .ok (.w (.bl true)) c0) →
      ∃ V v c', run P F (k + 1) (x n__law_bent) [.cel 0, .tup xs] c = .ok V c' ∧ (∀ c, keepM V c = .ok v c) ∧ gval v ∧ Cup c' := fun {c c0} hc hc0 hcond => by
    obtain ⟨i, hi, c1, e, hc1⟩ := run_someL (F := F) (k := k) h._law_some (xs := bentL) (by decide) (by decide) hc0 (by omega)
    have hv := bentL_ok bentL[i] (List.getElem_mem hi)
    generalize bentL[i] = v at e hv
    refine ⟨.w v, v, c1, run_fnS h.f rfl ?_ (cup_len hc hc1), fun _ => rfl, hv.2, hc1⟩
    have q := run_sort (F := F) (k := k) (c := c0) h._law_sort (w := .tup xs) trivial (by omega)
    have q : run P F k (x n__law_sort) [.tup xs] c0 = .ok (.w (.int 4)) c0 := q
    unfold bentL at e
    have hcond := hcond fun _ _ => .stuck
    show exSs P F _ (.cons (.ite _ _ _) _) [.val (.cel 0), .val (.tup xs), .none, .none, .none] c = _
    refine stepR ?_
    rw [xs_ite, hcond]
    simp [ss_cons, q, e]
  cases xs with
  | nil => exact early hc hc fun _ => by simp [isinst, heq]
  | cons e0 r =>
    have heq : cmpop .eq (.tup (e0 :: r)) (.tup []) = some false := heq
    generalize hxs : e0 :: r = xs at hl hx hpl heq early
    have hpos : 0 < xs.length := by rw [← hxs]; simp
    obtain ⟨r1, c1, f1, hc1, r10, r11⟩ := run_roll (F := F) (k := k) h._law_roll (n := 8) (by omega) (by omega) hc (by omega)
    by_cases hr : r1 = 0
    · exact early hc hc1 fun _ => by simp [isinst, heq, f1, hr]
    · obtain ⟨r2, c2, f2, hc2, r20, r21⟩ := run_roll (F := F) (k := k) h._law_roll (n := (xs.length : Int)) (by omega) (by omega) hc1 (by omega)
      obtain ⟨r3, c3, f3, hc3, r30, r31⟩ := run_roll (F := F) (k := k) h._law_roll (n := 12) (by omega) (by omega) hc2 (by omega)
      obtain ⟨i, rfl⟩ : ∃ i : Nat, r2 = (i : Int) := ⟨r2.toNat, by omega⟩
      have hi : i < xs.length := by omega
      have ei : (i : Int) + 1 = ((i + 1 : Nat) : Int) := by push_cast; rfl
      have t1 : cut xs none (some (i : Int)) = xs.take i := cut_toN
      have t2 : cut xs (some (((i + 1 : Nat) : Int))) none = xs.drop (i + 1) := cut_fromN
      have t3 : cut xs none (some (((i + 1 : Nat) : Int))) = xs.take (i + 1) := cut_toN
      have t4 : cut xs (some (i : Int)) none = xs.drop i := cut_fromN
      have pre : ∀ {K : Res Out → Prop} {V : Val} {c' : Cells}, exSs P F (run P F k) (.cons (.ite (.cmp .eq (.var 4) (.lit (.int 0))) (.cons (.ret (.bin .add (.slc (.var 1) .nil (.cons (.var 3) .nil)) (.slc (.var 1) (.cons (.bin .add (.var 3) (.lit (.int 1))) .nil) .nil))) .nil) .nil) (.cons (.ite (.cmp .eq (.var 4) (.lit (.int 1))) (.cons (.ret (.bin .add (.slc (.var 1) .nil (.cons (.bin .add (.var 3) (.lit (.int 1))) .nil)) (.slc (.var 1) (.cons (.var 3) .nil) .nil))) .nil) .nil) (.cons (.ite (.cmp .eq (.var 4) (.lit (.int 2))) (.cons (.ret (.blt .list (.cons (.var 1) .nil))) .nil) .nil) (.cons (.ite (.cmp .eq (.var 4) (.lit (.int 3))) (.cons (.ret (.rev (.var 1))) .nil) .nil) (.cons (.ret (.bin .add (.bin .add (.slc (.var 1) .nil (.cons (.var 3) .nil)) (.tup (.cons (.call (x n__law_bent) (.cons (.var 0) (.cons (.sub (.var 1) (.var 3)) .nil))) .nil))) (.slc (.var 1) (.cons (.bin .add (.var 3) (.lit (.int 1))) .nil) .nil))) .nil))))) [.val (.cel 0), .val (.tup xs), .none, .val (.int (i : Int)), .val (.int r3)] c3 = .ok (.rt V) c' → Cup c' → run P F (k + 1) (x n__law_bent) [.cel 0, .tup xs] c = .ok V c' := fun {K V c'} hrun hc' => by
        refine run_fnS h.f rfl ?_ (cup_len hc hc')
        refine stepK (s2 := [.val (.cel 0), .val (.tup xs), .none, .none, .none]) (c2 := c1) (fun K => by simp [F__law_bent, isinst, heq, f1, hr]) ?_
        refine stepK (fun K => by simp [f2, f3, parW, Val.keep]; try with_reducible rfl) ?_
        exact hrun
      have okt : ∀ m, ∀ e ∈ xs.take m, okE e := fun m e he => (hx e (List.mem_of_mem_take he)).1
      have okd : ∀ m, ∀ e ∈ xs.drop m, okE e := fun m e he => (hx e (List.mem_of_mem_drop he)).1
      have ok2 : ∀ {a b : List W}, (∀ e ∈ a, okE e) → (∀ e ∈ b, okE e) → ∀ e ∈ a ++ b, okE e := fun ha hb e he => (List.mem_append.mp he).elim (ha e) (hb e)
      by_cases w0 : r3 = 0
      · subst w0
        have ha : binop .add (.tup (xs.take i)) (.tup (xs.drop (i + 1))) = some (.w (.tup (xs.take i ++ xs.drop (i + 1)))) := b_addT (by rw [List.length_take, List.length_drop]; unfold sizeL; omega)
        refine ⟨_, .tup (xs.take i ++ xs.drop (i + 1)), c3, pre (K := fun _ => True) (V := .w (.tup (xs.take i ++ xs.drop (i + 1)))) (stepR (by simp [ei, t1, t2, ha, -Int.natCast_add, -Int.natCast_succ])) hc3, fun _ => rfl, gval_tup (by rw [List.length_append, List.length_take, List.length_drop]; omega) (ok2 (okt _) (okd _)), hc3⟩
      by_cases w1 : r3 = 1
      · subst w1
        have ha : binop .add (.tup (xs.take (i + 1))) (.tup (xs.drop i)) = some (.w (.tup (xs.take (i + 1) ++ xs.drop i))) := b_addT (by rw [List.length_take, List.length_drop]; unfold sizeL; omega)
        refine ⟨_, .tup (xs.take (i + 1) ++ xs.drop i), c3, pre (K := fun _ => True) (V := .w (.tup (xs.take (i + 1) ++ xs.drop i))) (stepK (fun K => by simp; try with_reducible rfl) (stepR (by simp [ei, t3, t4, ha, -Int.natCast_add, -Int.natCast_succ]))) hc3, fun _ => rfl, gval_tup (by rw [List.length_append, List.length_take, List.length_drop]; omega) (ok2 (okt _) (okd _)), hc3⟩
      by_cases w2 : r3 = 2
      · subst w2
        refine ⟨_, .lst xs, c3, pre (K := fun _ => True) (V := .own (.lst xs)) (stepK (fun K => by simp; try with_reducible rfl) (stepK (fun K => by simp; try with_reducible rfl) (stepR (by simp)))) hc3, fun _ => rfl, gval_lst _, hc3⟩
      by_cases w3 : r3 = 3
      · subst w3
        have hb : backw (.tup xs) = some (.w (.tup xs.reverse)) := rfl
        refine ⟨_, .tup xs.reverse, c3, pre (K := fun _ => True) (V := .w (.tup xs.reverse)) (stepK (fun K => by simp; try with_reducible rfl) (stepK (fun K => by simp; try with_reducible rfl) (stepK (fun K => by simp; try with_reducible rfl) (stepR (by simp [hb]))))) hc3, fun _ => rfl, gval_tup (by rw [List.length_reverse]; omega) fun e he => (hx e (List.mem_reverse.mp he)).1, hc3⟩
      · obtain ⟨hok, p, hp⟩ := hx xs[i] (List.getElem_mem hi)
        obtain ⟨v, c4, e4, hv, hv2, hc4⟩ := run_bentS (F := F) (k := k) h (p := p) hc3 (by omega)
        have hat : atI xs (i : Int) = some (.str p) := by rw [atI_nat hi, List.getElem?_eq_getElem hi, hp]
        have ha : binop .add (.tup (xs.take i)) (.tup [v]) = some (.w (.tup (xs.take i ++ [v]))) := b_addT (by rw [List.length_take]; unfold sizeL; simp; omega)
        have hb : binop .add (.tup (xs.take i ++ [v])) (.tup (xs.drop (i + 1))) = some (.w (.tup (xs.take i ++ [v] ++ xs.drop (i + 1)))) := b_addT (by rw [List.length_append, List.length_take, List.length_drop]; unfold sizeL; simp; omega)
        refine ⟨_, .tup (xs.take i ++ [v] ++ xs.drop (i + 1)), c4, pre (K := fun _ => True) (V := .w (.tup (xs.take i ++ [v] ++ xs.drop (i + 1)))) (stepK (fun K => by simp [w0]; try with_reducible rfl) (stepK (fun K => by simp [w1]; try with_reducible rfl) (stepK (fun K => by simp [w2]; try with_reducible rfl) (stepK (fun K => by simp [w3]; try with_reducible rfl) (stepR (by simp only [List.append_assoc] at hb ⊢; simp [ei, t1, t2, hat, e4, ha, hb, -Int.natCast_add, -Int.natCast_succ])))))) hc4, fun _ => rfl, gval_tup (by rw [List.length_append, List.length_append, List.length_take, List.length_drop]; simp; omega) (ok2 (ok2 (okt _) (fun e he => by rw [List.mem_singleton.mp he]; exact hv)) (okd _)), hc4⟩
end
end Cw

end
section
set_option linter.all false
set_option maxRecDepth 100000
set_option maxHeartbeats 1000000
set_option Elab.async false
/-! Cz77k: the maps of a shape under a word are told -/
namespace Cw
theorem isnotB77 {a b : Bool} : cmpop .isnot (.bl a) (.bl b) = some (!(a == b)) := by cases a <;> cases b <;> rfl
theorem allTup_iW : ∀ (l : List (List Nat)), allTupI? (l.map fun r => W.tup (iW r)) = some (l.map fun r => r.map fun (n : Nat) => (n : Int))
  | [] => rfl
  | r :: l => by
    show ((allInt? (iW r)).bind fun ns => (allTupI? (l.map fun r => W.tup (iW r))).map (ns :: ·)) = _
    rw [allTup_iW l]
    unfold iW
    rw [allInt_map]
    rfl
theorem min_tups {m : List Nat} {l : List (List Nat)} : bltop .min [.lst ((m :: l).map fun r => W.tup (iW r))] = some (.w (.tup ((minTI (m.map fun (n : Nat) => (n : Int)) (l.map fun r => r.map fun (n : Nat) => (n : Int))).map .int))) := by
  show ((allInt? (iW m)).bind fun ns => (allTupI? (l.map fun r => W.tup (iW r))).map fun l => Val.w (.tup ((minTI ns l).map .int))) = _
  rw [allTup_iW l]
  unfold iW
  rw [allInt_map]
  rfl
theorem eqv_strs (n : Nat) : ∀ (l : List (List Nat)), ((l.map W.str).zip (l.map W.str)).all (fun p => W.eqv n p.1 p.2) = true
  | [] => rfl
  | a :: l => by
    rw [List.map_cons, List.zip_cons_cons, List.all_cons, eqv_strs n l]
    have : W.eqv n (.str a) (.str a) = (a == a) := by cases n <;> rfl
    simp [this]
theorem eqv_ints (n : Nat) : ∀ (l : List Nat), ((iW l).zip (iW l)).all (fun p => W.eqv n p.1 p.2) = true
  | [] => rfl
  | a :: l => by
    show (W.eqv n (.int (a : Int)) (.int (a : Int)) && ((iW l).zip (iW l)).all fun p => W.eqv n p.1 p.2) = true
    rw [eqv_ints n l]
    have : W.eqv n (.int (a : Int)) (.int (a : Int)) = ((a : Int) == (a : Int)) := by cases n <;> rfl
    simp [this]
theorem notin_tW {u : List (List Nat)} {L : List (List (List Nat))} (h : u ∈ L) (hp : ∀ v ∈ L, ∀ p ∈ v, Ws 8 p) : cmpop .notin (tW u) (.lst (L.map tW)) = some false := by
  have e : cmpop .notin (tW u) (.lst (L.map tW)) = if (W.plain 58 (tW u) && (L.map tW).all (W.plain 58)) = true then some (!(L.map tW).any fun x => W.eqv 58 x (tW u)) else none := rfl
  have h1 : W.plain 58 (tW u) = true := plain_tW (hp u h) 57
  have h2 : (L.map tW).all (W.plain 58) = true := by
    rw [List.all_eq_true]
    intro y hy
    obtain ⟨v, hv, rfl⟩ := List.mem_map.mp hy
    exact plain_tW (hp v hv) 57
  rw [e, h1, h2, if_pos (show (true && true) = true from rfl)]
  have : ((L.map tW).any fun x => W.eqv 58 x (tW u)) = true := by
    rw [List.any_eq_true]
    refine ⟨tW u, List.mem_map_of_mem h, ?_⟩
    show ((u.map W.str).length == (u.map W.str).length && ((u.map W.str).zip (u.map W.str)).all fun p => W.eqv 57 p.1 p.2) = true
    rw [eqv_strs]
    simp
  rw [this]
  rfl
theorem ne_iW (r : List Nat) : cmpop .ne (.tup (iW r)) (.tup (iW r)) = some false := by
  have e : cmpop .ne (.tup (iW r)) (.tup (iW r)) = if (W.plain 60 (.tup (iW r)) && W.plain 60 (.tup (iW r))) = true then some (!W.eqv 60 (.tup (iW r)) (.tup (iW r))) else none := rfl
  have h1 : W.plain 60 (.tup (iW r)) = true := by
    show (iW r).all (W.plain 59) = true
    rw [List.all_eq_true]
    intro y hy
    obtain ⟨n, _, rfl⟩ := List.mem_map.mp hy
    rfl
  have h2 : W.eqv 60 (.tup (iW r)) (.tup (iW r)) = true := by
    show ((iW r).length == (iW r).length && ((iW r).zip (iW r)).all fun p => W.eqv 59 p.1 p.2) = true
    rw [eqv_ints]
    simp
  rw [e, h1, h2]
  rfl
theorem lawMaps_len {s w : List Nat} (hs : Shp s) (hn : w.length ≤ 40) : (lawMaps s w).length ≤ 4000000 := by
  rw [← (maps_perm hs w).length_eq]
  exact mapsA_len hn
/-- the least lengths, as the law takes them -/
def firstW (L : List (List (List Nat))) : W := match L with
  | [] => .non
  | u :: _ => .tup (iW (u.map List.length))
/-- what the bent ones are made of -/
def someP (s w : List Nat) : List (List Nat) := match mapsA s w with
  | [] => (w.take (lettersU s).length).map fun y => [y]
  | u :: _ => u
section
variable {P : Prog} {F : Nat} {x : Nat → Nat} {k : Nat} {c : Cells} {w : W}
theorem lens_comp {R : Nat → List W → M Val} {sl : Slots} (h : 10 < sl.length) {v : List (List Nat)} (hv : ∀ p ∈ v, p.length ≤ 200) : compS P R (.blt .len (.cons (.var 10) .nil)) (.nm 10) .nil [10] sl (v.map .str) c = .ok (iW (v.map List.length)) c := by
  unfold iW
  rw [List.map_map]
  refine compS_map fun p hp => ⟨_, rfl, rfl, ?_⟩
  simp [elV, wipeS, h, len_str (size200 (hv p hp))]
theorem right_loop (h : H__law_right_k77 P x) {s T : List Nat} (hs : Shp s) (h1 : 1 ≤ s.length) (h6 : s.length ≤ 6) (hw : Ws 8 T) (hT : T.length ≤ 200) (hk : 5 ≤ k) (s0 s3 s4 s5 s6 s8 s9 s10 : Slot) : ∀ (l : List W) (z7 : Slot), (∀ v ∈ l, gval v) →
    ∃ y7, forS P F (run P F k) (.nm 7) (F__law_right_k77_b1 x) l [s0, .val (.str s), .val (.str T), s3, s4, s5, s6, z7, s8, s9, s10] c = .ok (.nx [s0, .val (.str s), .val (.str T), s3, s4, s5, s6, y7, s8, s9, s10]) c
  | [], z7, _ => ⟨z7, rfl⟩
  | v :: l, z7, hl => by
    obtain ⟨y7, ih⟩ := right_loop h hs h1 h6 hw hT hk s0 s3 s4 s5 s6 s8 s9 s10 l (.val v) fun u hu => hl u (List.mem_cons_of_mem _ hu)
    refine ⟨y7, ?_⟩
    have hv := hl v List.mem_cons_self
    have q1 := run_is_shape_map (F := F) (k := k) (c := c) h.is_shape_map hs h1 h6 hw hT hv hk
    have q2 := run_law_is_map (F := F) (k := k) (c := c) h._law_is_map (T := T) hs (by omega) hv (by omega)
    have q3 := run_like_eq (F := F) h._law_like 0 (w := .bl (isMapB s T v)) trivial (k := k) (c := c) (by omega)
    have hb : exSs P F (run P F k) (F__law_right_k77_b1 x) [s0, .val (.str s), .val (.str T), s3, s4, s5, s6, .val v, s8, s9, s10] c = .ok (.nx [s0, .val (.str s), .val (.str T), s3, s4, s5, s6, .val v, s8, s9, s10]) c := by
      simp [F__law_right_k77_b1, q1, q2, q3]
    rw [forS_nx rfl hb, ih]
theorem run_right_k77 (h : H__law_right_k77 P x) {s T : List Nat} {N : Nat} (hs : Shp s) (h1 : 1 ≤ s.length) (h6 : s.length ≤ 6) (hw : Ws 8 T) (hN1 : 1 ≤ N) (hN : N ≤ 40) (hT : T.length ≤ N) (hb : N ^ s.length ≤ 16000000) (hc : Cup c) (hk : 6 ≤ k) : ∃ c', run P F k (x n__law_right_k77) [.cel 0, .str s, .str T] c = .ok (.w (.bl true)) c' ∧ Cup c' := by
  obtain ⟨k, rfl⟩ := pred_of (k := k) (by omega)
  have hT40 : T.length ≤ 40 := by omega
  have hperm := maps_perm hs T
  have hwv : ∀ v ∈ lawMaps s T, ∀ p ∈ v, Ws 8 p := fun v hv => valid_ws hs hw ((lawMaps_mem hs).mp hv)
  have q1 := run_law_maps (F := F) (k := k) (c := c) h._law_maps hs hN1 (by omega) (by omega) hT hb (by omega)
  have q2 := run_shape_map (F := F) (k := k) (c := c) h.shape_map hs h1 h6 hw hT40 (by omega)
  have q3 := run_count_shape_maps (F := F) (k := k) (c := c) h.count_shape_maps hs h1 h6 hw hT40 (by omega)
  have hpl : ((lawMaps s T).map tW).all (W.plain 59) = true := by
    rw [List.all_eq_true]
    intro y hy
    obtain ⟨v, hv, rfl⟩ := List.mem_map.mp hy
    exact plain_tW (hwv v hv) 58
  have qne := ne_lst hpl
  have qeq := eq_lst hpl
  have hemp : ((lawMaps s T).map tW).isEmpty = (mapsA s T).isEmpty := by
    have := hperm.length_eq
    rw [Bool.eq_iff_iff, List.isEmpty_iff, List.isEmpty_iff, List.map_eq_nil_iff, ← List.length_eq_zero_iff, ← List.length_eq_zero_iff]
    omega
  rw [hemp] at qne qeq
  have hlen : ((lawMaps s T).map tW).length = (mapsA s T).length := by rw [List.length_map, hperm.length_eq]
  have hpart : ∀ v, valid s T v → v.length ≤ 4 ∧ ∀ p ∈ v, p.length ≤ 200 := fun v hv => by
    refine ⟨by rw [hv.1]; exact lettersU_le s, fun p hp => ?_⟩
    obtain ⟨e1, e2⟩ := valid_lens hs hv
    have := (row_bound hs e1).2 p.length (List.mem_map_of_mem hp)
    omega
  have c1 : compS P (run P F k) (F__law_right_k77_e2 x) (.nm 7) .nil [7] [.val (.cel 0), .val (.str s), .val (.str T), .none, .none, .none, .none, .none, .val (.lst ((lawMaps s T).map tW)), .val (mhW (mapsA s T)), .none] ((lawMaps s T).map tW) c = .ok ((lawMaps s T).map fun v => .tup (iW (v.map List.length))) c := by
    refine compS_map fun v hv => ⟨_, rfl, rfl, ?_⟩
    obtain ⟨hv4, hp⟩ := hpart v ((lawMaps_mem hs).mp hv)
    have e := lens_comp (P := P) (R := run P F k) (c := c) (sl := [.val (.cel 0), .val (.str s), .val (.str T), .none, .none, .none, .none, .val (tW v), .val (.lst ((lawMaps s T).map tW)), .val (mhW (mapsA s T)), .none]) (by simp) hp
    have z : (iW (v.map List.length)).length ≤ sizeL := by rw [iW_len, List.length_map]; unfold sizeL; omega
    have hti : (tW v).items = some (v.map .str) := rfl
    generalize iW (v.map List.length) = A at e z
    generalize v.map W.str = VV at e hti
    generalize tW v = tv at e hti
    generalize ((lawMaps s T).map tW) = LL at e
    simp [elV, F__law_right_k77_e2, F__law_right_k77_e1, wipeS, hti, e, z]
  have z1 : ((lawMaps s T).map fun v => W.tup (iW (v.map List.length))).length ≤ sizeL := by
    rw [List.length_map]
    have := lawMaps_len hs hT40
    unfold sizeL
    omega
  have hmin : ∀ u r, mapsA s T = u :: r → bltop .min [.lst ((lawMaps s T).map fun v => W.tup (iW (v.map List.length)))] = some (.w (.tup (iW (u.map List.length)))) := fun u r hu => by
    obtain ⟨m, l, e1, e2⟩ := maps_head hs hu
    cases hl : lawMaps s T with
    | nil => rw [hl] at e1; cases e1
    | cons v r2 =>
      rw [hl] at e1
      have e3 := min_tups (m := v.map List.length) (l := r2.map fun v => v.map List.length)
      have e4 : ((v.map List.length) :: r2.map fun v => v.map List.length).map (fun r => W.tup (iW r)) = (v :: r2).map fun v => W.tup (iW (v.map List.length)) := by
        rw [List.map_cons, List.map_map]; rfl
      rw [e4] at e3
      rw [e3]
      have e5 : (v.map List.length).map (fun (n : Nat) => (n : Int)) = m := by
        have := (List.cons.inj e1).1
        exact this
      have e6 : (r2.map fun v => v.map List.length).map (fun r => r.map fun (n : Nat) => (n : Int)) = l := by
        have := (List.cons.inj e1).2
        rw [List.map_map]
        exact this
      rw [e5, e6, e2]
      unfold iW
      rw [List.map_map]
      rfl
  have s1 := run_like_eq (F := F) h._law_like 1 (w := .lst [.int ((mapsA s T).length : Nat), .bl (mapsA s T).isEmpty]) ⟨by show 2 ≤ sizeL; unfold sizeL; omega, fun y hy => by
    simp only [List.mem_cons, List.not_mem_nil, or_false] at hy
    rcases hy with rfl | rfl <;> exact True.intro⟩ (k := k) (c := c) (by omega)
  -- what is made of it
  have hsome : (someP s T).length ≤ 4 ∧ ∀ p ∈ someP s T, p.length ≤ 40 ∧ Ws 8 p := by
    unfold someP
    cases hm : mapsA s T with
    | nil =>
      refine ⟨?_, fun p hp => ?_⟩
      · show ((T.take (lettersU s).length).map fun y => [y]).length ≤ 4
        rw [List.length_map, List.length_take]
        have := lettersU_le s
        omega
      · have hp : p ∈ (T.take (lettersU s).length).map fun y => [y] := hp
        obtain ⟨y, hy, rfl⟩ := List.mem_map.mp hp
        exact ⟨by simp, fun z hz => by rw [List.mem_singleton.mp hz]; exact hw y (List.mem_of_mem_take hy)⟩
    | cons u r =>
      have hu : valid s T u := (mapsA_mem hs).mp (by rw [hm]; exact List.mem_cons_self)
      refine ⟨(hpart u hu).1, fun p hp => ⟨?_, valid_ws hs hw hu p hp⟩⟩
      obtain ⟨e1, e2⟩ := valid_lens hs hu
      have := (row_bound hs e1).2 p.length (List.mem_map_of_mem hp)
      omega
  have okW : ∀ {p : List Nat}, p.length ≤ 200 → Ws 8 p → okE (.str p) := fun {p} hl hp => okE_str hl fun y hy => by
    have := (LT_mem (n := 8) (by omega)).mp (hp y hy)
    omega
  have okS : ∀ e ∈ (someP s T).map W.str, okE e ∧ ∃ p, e = .str p := fun e he => by
    obtain ⟨p, hp, rfl⟩ := List.mem_map.mp he
    obtain ⟨e1, e2⟩ := hsome.2 p hp
    exact ⟨okW (by omega) e2, p, rfl⟩
  have hslen : ((someP s T).map W.str).length ≤ 4 := by rw [List.length_map]; exact hsome.1
  obtain ⟨r1, c2, f1, hc2, r10, r11⟩ := run_roll (F := F) (k := k) h._law_roll (n := (T.length : Int) + 1) (by omega) (by omega) hc (by omega)
  obtain ⟨V1, v1, c3, f2, k1, g1, hc3⟩ := run_bent (F := F) (k := k) h._law_bent (xs := (someP s T).map W.str) (by omega) okS hc2 (by omega)
  obtain ⟨V2, v2, c4, f3, k2, g2, hc4⟩ := run_bent (F := F) (k := k) h._law_bent (xs := (someP s T).map W.str) (by omega) okS hc3 (by omega)
  obtain ⟨i, rfl⟩ : ∃ i : Nat, r1 = (i : Int) := ⟨r1.toNat, by omega⟩
  have hchW : ∀ e ∈ charsW T, okE e := fun e he => by
    obtain ⟨y, hy, rfl⟩ := List.mem_map.mp he
    exact okW (by simp) fun z hz => by rw [List.mem_singleton.mp hz]; exact hw y hy
  have hchl : (charsW T).length ≤ 40 := by unfold charsW; rw [List.length_map]; omega
  generalize hSM : (someP s T).map W.str = SM at okS hslen f2 f3
  have g3 : gval (.tup SM) := gval_tup (by omega) fun e he => (okS e he).1
  -- the values
  have hx : ∀ v ∈ ([.tup SM, .tup SM.reverse, .lst SM, .tup (SM.drop 1), .tup (SM ++ SM.take 1), .tup [.str T], .tup (charsW T), .non, .tup [], .int 5, .str T, .tup (SM ++ [.str []])] : List W) ++ cut ((lawMaps s T).map tW) (some (-2)) none, gval v := fun v hv => by
    have ok0 : okE (.str []) := okW (by simp) Ws.nil
    rcases List.mem_append.mp hv with hv | hv
    · simp only [List.mem_cons, List.not_mem_nil, or_false] at hv
      rcases hv with rfl | rfl | rfl | rfl | rfl | rfl | rfl | rfl | rfl | rfl | rfl | rfl
      · exact g3
      · exact gval_tup (by rw [List.length_reverse]; omega) fun e he => (okS e (List.mem_reverse.mp he)).1
      · exact gval_lst _
      · exact gval_tup (by rw [List.length_drop]; omega) fun e he => (okS e (List.mem_of_mem_drop he)).1
      · exact gval_tup (by rw [List.length_append, List.length_take]; omega) fun e he => (List.mem_append.mp he).elim (fun he => (okS e he).1) fun he => (okS e (List.mem_of_mem_take he)).1
      · exact gval_tup (by simp) fun e he => by rw [List.mem_singleton.mp he]; exact okW (by omega) hw
      · exact gval_tup (by omega) hchW
      · exact ⟨trivial, fun vs hvs => by cases hvs⟩
      · exact gval_tup (by simp) fun e he => by cases he
      · exact ⟨trivial, fun vs hvs => by cases hvs⟩
      · exact gval_str (by omega)
      · exact gval_tup (by rw [List.length_append]; simp; omega) fun e he => (List.mem_append.mp he).elim (fun he => (okS e he).1) fun he => by rw [List.mem_singleton.mp he]; exact ok0
    · obtain ⟨u, hu, rfl⟩ := List.mem_map.mp (cut_mem hv)
      have hval := (lawMaps_mem hs).mp hu
      obtain ⟨e1, e2⟩ := hpart u hval
      refine gval_tup (by rw [List.length_map]; omega) fun e he => ?_
      obtain ⟨p, hp, rfl⟩ := List.mem_map.mp he
      exact okW (e2 p hp) (hwv u hu p hp)
  have hcl : (cut ((lawMaps s T).map tW) (some (-2)) none).length ≤ 4000000 := Nat.le_trans cut_len (by rw [List.length_map]; exact lawMaps_len hs hT40)
  have hnotin : ∀ u r, mapsA s T = u :: r → cmpop .notin (tW u) (.lst ((lawMaps s T).map tW)) = some false := fun u r hu => notin_tW (hperm.mem_iff.mp (by rw [hu]; exact List.mem_cons_self)) hwv
  have hhead : ∀ u r, mapsA s T = u :: r → valid s T u := fun u r hu => (mapsA_mem hs).mp (by rw [hu]; exact List.mem_cons_self)
  have hism : ∀ u r, mapsA s T = u :: r → run P F k (x n_is_shape_map) [.str s, .str T, tW u] c = .ok (.w (.bl true)) c := fun u r hu => by
    obtain ⟨e1, e2⟩ := hpart u (hhead u r hu)
    have g : gval (tW u) := gval_tup (by rw [List.length_map]; omega) fun e he => by
      obtain ⟨p, hp, rfl⟩ := List.mem_map.mp he
      exact okW (e2 p hp) (valid_ws hs hw (hhead u r hu) p hp)
    have q := run_is_shape_map (F := F) (k := k) (c := c) h.is_shape_map hs h1 h6 hw (by omega) g (by omega)
    rw [isMapB_valid hs hw (hhead u r hu)] at q
    exact q
  have hlens : ∀ u r, mapsA s T = u :: r → ∀ sl : Slots, 10 < sl.length → compS P (run P F k) (F__law_right_k77_e3 x) (.nm 10) .nil [10] sl (u.map .str) c = .ok (iW (u.map List.length)) c := fun u r hu sl hsl => lens_comp hsl (hpart u (hhead u r hu)).2
  have hlz : ∀ u r, mapsA s T = u :: r → (iW (u.map List.length)).length ≤ sizeL := fun u r hu => by
    have := (hpart u (hhead u r hu)).1
    rw [iW_len, List.length_map]
    unfold sizeL
    omega
  have hS0 : mapsA s T = [] → charsW (T.take (lettersU s).length) = SM := fun hm => by
    rw [← hSM]
    unfold someP
    rw [hm]
    show _ = ((T.take (lettersU s).length).map fun y => [y]).map W.str
    rw [List.map_map]
    rfl
  have hS1 : ∀ u r, mapsA s T = u :: r → tW u = .tup SM := fun u r hm => by
    rw [← hSM]
    unfold someP
    rw [hm]
    rfl
  have hnon : (mhW (mapsA s T)).isNon = (mapsA s T).isEmpty := by cases mapsA s T <;> rfl
  have hls := lenset_str hs (by omega)
  have hck : cut T none (some (((lettersU s).length : Nat) : Int)) = T.take (lettersU s).length := cut_toN
  have htk : ∀ U : List Nat, U.length ≤ 200 → bltop .tuple [.str U] = some (.w (.tup (charsW U))) := fun U hU => if_pos (size200 hU)
  have htk1 := htk (T.take (lettersU s).length) (by rw [List.length_take]; omega)
  have htk2 := htk T (by omega)
  have hgc : gval (.tup [.str (T.take i), .str (T.drop i)]) := gval_tup (by simp) fun e he => by
    simp only [List.mem_cons, List.not_mem_nil, or_false] at he
    rcases he with rfl | rfl
    · exact okW (by rw [List.length_take]; omega) hw.take
    · exact okW (by rw [List.length_drop]; omega) hw.drop
  obtain ⟨y7, hloop⟩ := right_loop (P := P) (F := F) (x := x) (k := k) (c := c4) h hs h1 h6 hw (by omega) (by omega) (.val (.cel 0)) (.val (firstW (mapsA s T))) (.val (.tup SM)) (.val (.lst (([.tup SM, .tup SM.reverse, .lst SM, .tup (SM.drop 1), .tup (SM ++ SM.take 1), .tup [.str T], .tup (charsW T), .non, .tup [], .int 5, .str T, .tup (SM ++ [.str []])] : List W) ++ cut ((lawMaps s T).map tW) (some (-2)) none))) (.val (.int (i : Int))) (.val (.lst ((lawMaps s T).map tW))) (.val (mhW (mapsA s T))) .none
    ((([.tup SM, .tup SM.reverse, .lst SM, .tup (SM.drop 1), .tup (SM ++ SM.take 1), .tup [.str T], .tup (charsW T), .non, .tup [], .int 5, .str T, .tup (SM ++ [.str []])] : List W) ++ cut ((lawMaps s T).map tW) (some (-2)) none) ++ [.tup [.str (T.take i), .str (T.drop i)], v1, v2]) .none (fun v hv => by
      rcases List.mem_append.mp hv with hv | hv
      · exact hx v hv
      · simp only [List.mem_cons, List.not_mem_nil, or_false] at hv
        rcases hv with rfl | rfl | rfl
        · exact hgc
        · exact g1
        · exact g2)
  refine ⟨c4, run_fnS h.f rfl ?_ (cup_len hc hc4), hc4⟩
  clear hx
  generalize ((lawMaps s T).map tW) = L8 at q1 qne qeq hemp hlen c1 hnotin hcl hloop
  generalize ((lawMaps s T).map fun v => W.tup (iW (v.map List.length))) = A8 at c1 z1 hmin
  refine stepK (fun K => by simp [F__law_right_k77, q1, q2, parW, Val.keep]; try with_reducible rfl) ?_
  refine stepK (s2 := [.val (.cel 0), .val (.str s), .val (.str T), .val (firstW (mapsA s T)), .none, .none, .none, .none, .val (.lst L8), .val (mhW (mapsA s T)), .none]) (c2 := c) (fun K => by
    cases hm : mapsA s T with
    | nil =>
      rw [hm] at qne
      have qne : cmpop .ne (.lst L8) (.lst []) = some false := qne
      simp [qne, mhW, firstW]
    | cons u r =>
      rw [hm] at qne c1
      have qne : cmpop .ne (.lst L8) (.lst []) = some true := qne
      have c1 : compS P (run P F k) (F__law_right_k77_e2 x) (.nm 7) .nil [7] [.val (.cel 0), .val (.str s), .val (.str T), .none, .none, .none, .none, .none, .val (.lst L8), .val (tW u), .none] L8 c = .ok A8 c := c1
      have hmi := hmin u r hm
      simp [qne, mhW, firstW, c1, z1, hmi]) ?_
  have c2 : True := trivial
  refine stepK (s2 := [.val (.cel 0), .val (.str s), .val (.str T), .val (firstW (mapsA s T)), .none, .none, .none, .none, .val (.lst L8), .val (mhW (mapsA s T)), .none]) (c2 := c) (fun K => by
    generalize mhW (mapsA s T) = M at hnon
    generalize firstW (mapsA s T) = W1
    generalize (mapsA s T).isEmpty = B at s1 qeq hnon
    have hle : (L8.length : Int) = ((mapsA s T).length : Nat) := by rw [hlen]
    generalize (((mapsA s T).length : Nat) : Int) = n at q3 s1 hle
    simp [q3, hnon, qeq, hle, s1]) ?_
  refine stepK (s2 := [.val (.cel 0), .val (.str s), .val (.str T), .val (firstW (mapsA s T)), .none, .none, .none, .none, .val (.lst L8), .val (mhW (mapsA s T)), .none]) (c2 := c) (fun K => by
    cases hm : mapsA s T with
    | nil => simp [mhW, firstW]
    | cons u r =>
      have e1 := hnotin u r hm
      have e2 := hism u r hm
      have e3 := hlens u r hm [.val (.cel 0), .val (.str s), .val (.str T), .val (.tup (iW (u.map List.length))), .none, .none, .none, .none, .val (.lst L8), .val (tW u), .none] (by simp)
      have e4 := hlz u r hm
      have e5 := ne_iW (u.map List.length)
      have e6 : (tW u).isNon = false := rfl
      have e7 : (tW u).items = some (u.map .str) := rfl
      show Res.nextS (exS P F _ _ [.val (.cel 0), .val (.str s), .val (.str T), .val (.tup (iW (u.map List.length))), .none, .none, .none, .none, .val (.lst L8), .val (tW u), .none] c) K = K [.val (.cel 0), .val (.str s), .val (.str T), .val (.tup (iW (u.map List.length))), .none, .none, .none, .none, .val (.lst L8), .val (tW u), .none] c
      generalize iW (u.map List.length) = IL at e3 e4 e5
      generalize u.map W.str = US at e3 e7
      generalize tW u = TU at e1 e2 e3 e6 e7
      simp [e6, e1, e7, e3, e4, e5, e2, isnotB77]) ?_
  refine stepK (s2 := [.val (.cel 0), .val (.str s), .val (.str T), .val (firstW (mapsA s T)), .val (.tup SM), .none, .none, .none, .val (.lst L8), .val (mhW (mapsA s T)), .none]) (c2 := c) (fun K => by
    cases hm : mapsA s T with
    | nil =>
      have e := hS0 hm
      rw [e] at htk1
      generalize T.take (lettersU s).length = T1 at hck htk1
      generalize (((lettersU s).length : Nat) : Int) = n at hls hck
      simp [mhW, hls, slc_str (size200 (T := T) (by omega)), hck, htk1]
    | cons u r =>
      have e := hS1 u r hm
      have e6 : (tW u).isNon = false := rfl
      show Res.nextS (exS P F _ _ [.val (.cel 0), .val (.str s), .val (.str T), .val (firstW (u :: r)), .none, .none, .none, .none, .val (.lst L8), .val (tW u), .none] c) K = K [.val (.cel 0), .val (.str s), .val (.str T), .val (firstW (u :: r)), .val (.tup SM), .none, .none, .none, .val (.lst L8), .val (tW u), .none] c
      simp [e6, e]) ?_
  generalize mhW (mapsA s T) = M at hloop
  generalize firstW (mapsA s T) = W1 at hloop
  have b1 : backw (.tup SM) = some (.w (.tup SM.reverse)) := rfl
  have b2 : cut SM (some 1) none = SM.drop 1 := by have := cut_fromN (l := SM) (a := 1); simpa using this
  have b3 : cut SM none (some 1) = SM.take 1 := by have := cut_toN (l := SM) (b := 1); simpa using this
  have b4 : binop .add (.tup SM) (.tup (SM.take 1)) = some (.w (.tup (SM ++ SM.take 1))) := b_addT (by rw [List.length_take]; unfold sizeL; omega)
  have b5 : binop .add (.tup SM) (.tup [.str []]) = some (.w (.tup (SM ++ [.str []]))) := b_addT (by unfold sizeL; simp; omega)
  have b6 : cut T none (some (i : Int)) = T.take i := cut_toN
  have b7 : cut T (some (i : Int)) none = T.drop i := cut_fromN
  have b8 : ∀ A : List W, A.length = 12 → binop .add (.lst A) (.lst (cut L8 (some (-2)) none)) = some (.own (.lst (A ++ cut L8 (some (-2)) none))) := fun A hA => b_addL (by unfold sizeL; omega)
  have b9 : ∀ A B : List W, A.length ≤ 5000000 → B.length = 3 → binop .add (.lst A) (.lst B) = some (.own (.lst (A ++ B))) := fun A B hA hB => b_addL (by unfold sizeL; omega)
  generalize hC : cut L8 (some (-2)) none = C8 at hcl hloop b8
  have b10 := b8 [.tup SM, .tup SM.reverse, .lst SM, .tup (SM.drop 1), .tup (SM ++ SM.take 1), .tup [.str T], .tup (charsW T), .non, .tup [], .int 5, .str T, .tup (SM ++ [.str []])] rfl
  have b11 := b9 (([.tup SM, .tup SM.reverse, .lst SM, .tup (SM.drop 1), .tup (SM ++ SM.take 1), .tup [.str T], .tup (charsW T), .non, .tup [], .int 5, .str T, .tup (SM ++ [.str []])] : List W) ++ C8) [.tup [.str (T.take i), .str (T.drop i)], v1, v2] (by rw [List.length_append]; simp; omega) rfl
  refine stepK (s2 := [.val (.cel 0), .val (.str s), .val (.str T), .val W1, .val (.tup SM), .val (.lst (([.tup SM, .tup SM.reverse, .lst SM, .tup (SM.drop 1), .tup (SM ++ SM.take 1), .tup [.str T], .tup (charsW T), .non, .tup [], .int 5, .str T, .tup (SM ++ [.str []])] : List W) ++ C8)), .none, .none, .val (.lst L8), .val M, .none]) (c2 := c) (fun K => by
    generalize SM.drop 1 = S1 at b2 b10
    generalize SM ++ SM.take 1 = S2 at b4 b10
    generalize SM.take 1 = S3 at b3 b4
    generalize SM.reverse = S4 at b1 b10
    generalize SM ++ [W.str []] = S5 at b5 b10
    generalize charsW T = S6 at htk2 b10
    simp only [List.cons_append, List.nil_append] at b10 ⊢
    simp [b1, b2, b3, b4, b5, htk2, hC, b10]) ?_
  generalize (([.tup SM, .tup SM.reverse, .lst SM, .tup (SM.drop 1), .tup (SM ++ SM.take 1), .tup [.str T], .tup (charsW T), .non, .tup [], .int 5, .str T, .tup (SM ++ [.str []])] : List W) ++ C8) = VV at hloop b11
  generalize hnew : VV ++ [.tup [.str (T.take i), .str (T.drop i)], v1, v2] = V3 at hloop b11
  refine stepK (fun K => by simp [len_str (size200 (T := T) (by omega)), f1]; try with_reducible rfl) ?_
  generalize T.take i = T1 at b6 b11
  generalize T.drop i = T2 at b7 b11
  refine stepK (fun K => by simp [slc_str (size200 (T := T) (by omega)), b6, b7, f2, f3, k1, k2, b11, hloop]; try with_reducible rfl) ?_
  exact stepR (by simp)
end
end Cw

end
section
set_option linter.all false
set_option maxRecDepth 100000
set_option maxHeartbeats 1000000
set_option Elab.async false
/-! Cz77l: whether a shape stands under a word; letters exchanged -/
namespace Cw
theorem under_valid {s w : List Nat} (hs : Shp s) : under s w = true ↔ ∃ v, valid s w v := by
  unfold under
  constructor
  · intro h
    cases hm : mapsA s w with
    | nil => rw [hm] at h; cases h
    | cons v r => exact ⟨v, (mapsA_mem hs).mp (by rw [hm]; exact List.mem_cons_self)⟩
  · rintro ⟨v, hv⟩
    have := (mapsA_mem hs).mpr hv
    cases hm : mapsA s w with
    | nil => rw [hm] at this; cases this
    | cons v r => rfl
theorem under_len {s w : List Nat} (hs : Shp s) (h : under s w = true) : s.length ≤ w.length := by
  obtain ⟨v, h1, h2, h3⟩ := (under_valid hs).mp h
  rw [← h3]
  exact flat_ge fun y hy => h2 _ (vAt_mem hs h1 hy)
theorem vAt_map {s : List Nat} (g : Nat → Nat) (v : List (List Nat)) (y : Nat) : vAt s (v.map (List.map g)) y = (vAt s v y).map g := by
  unfold vAt
  rw [List.getD_eq_getElem?_getD, List.getD_eq_getElem?_getD, List.getElem?_map]
  cases v[(lettersU s).idxOf y]? <;> rfl
theorem under_map1 {s w : List Nat} (hs : Shp s) (g : Nat → Nat) (h : under s w = true) : under s (w.map g) = true := by
  obtain ⟨v, h1, h2, h3⟩ := (under_valid hs).mp h
  refine (under_valid hs).mpr ⟨v.map (List.map g), by rw [List.length_map, h1], fun p hp => ?_, ?_⟩
  · obtain ⟨q, hq, rfl⟩ := List.mem_map.mp hp
    intro e
    exact h2 q hq (List.map_eq_nil_iff.mp e)
  · rw [← h3, List.map_flatMap]
    exact flat_congr fun y _ => vAt_map g v y
theorem under_map {s w : List Nat} (hs : Shp s) (g u : Nat → Nat) (h : ∀ y ∈ w, u (g y) = y) : under s (w.map g) = under s w := by
  rw [Bool.eq_iff_iff]
  refine ⟨fun h2 => ?_, under_map1 hs g⟩
  have := under_map1 hs u h2
  rw [List.map_map] at this
  have e : w.map (u ∘ g) = w := by
    refine Eq.trans (List.map_congr_left fun y hy => h y hy) (List.map_id' w)
  rw [e] at this
  exact this
theorem placeIn_map {s T : List Nat} (hs : Shp s) (g u : Nat → Nat) (h : ∀ y ∈ T, u (g y) = y) (b : Nat) : placeIn s (T.map g) b = placeIn s T b := by
  unfold placeIn
  rw [List.length_map]
  congr 1
  funext e
  have : ((T.map g).drop b).take (e - b) = ((T.drop b).take (e - b)).map g := by rw [List.map_take, List.map_drop]
  rw [this, under_map hs g u fun y hy => h y (List.mem_of_mem_drop (List.mem_of_mem_take hy))]
theorem placeF_map {s T : List Nat} (hs : Shp s) (g u : Nat → Nat) (h : ∀ y ∈ T, u (g y) = y) : placeF s (T.map g) = placeF s T := by
  unfold placeF
  rw [List.length_map]
  congr 1
  funext b
  exact placeIn_map hs g u h b
/-! ### all pairs -/
def endsL (s T : List Nat) (b : Nat) : List Nat := (List.range' (b + 1) (T.length + 1 - (b + 1))).filter fun e => under s ((T.drop b).take (e - b))
def pairsL (s T : List Nat) : List (Nat × Nat) := (List.range T.length).flatMap fun b => (endsL s T b).map fun e => (b, e)
theorem endsL_far {s T : List Nat} (hs : Shp s) (h1 : 1 ≤ s.length) {b : Nat} (hb : b < T.length) : endsL s T b = (List.range' (b + s.length) (T.length + 1 - (b + s.length))).filter fun e => under s ((T.drop b).take (e - b)) := by
  unfold endsL
  have low : ∀ e, e - b < s.length → under s ((T.drop b).take (e - b)) = false := fun e he => by
    cases hu : under s ((T.drop b).take (e - b)) with
    | false => rfl
    | true =>
      have := under_len hs hu
      rw [List.length_take] at this
      omega
  by_cases h : b + s.length ≤ T.length
  · have e : List.range' (b + 1) (T.length + 1 - (b + 1)) = List.range' (b + 1) (s.length - 1) ++ List.range' (b + s.length) (T.length + 1 - (b + s.length)) := by
      rw [show T.length + 1 - (b + 1) = (s.length - 1) + (T.length + 1 - (b + s.length)) by omega, ← List.range'_append, show b + 1 + 1 * (s.length - 1) = b + s.length by omega]
    rw [e, List.filter_append]
    have : (List.range' (b + 1) (s.length - 1)).filter (fun e => under s ((T.drop b).take (e - b))) = [] := by
      rw [List.filter_eq_nil_iff]
      intro a ha
      rw [List.mem_range'_1] at ha
      rw [low a (by omega)]
      simp
    rw [this, List.nil_append]
  · have e : T.length + 1 - (b + s.length) = 0 := by omega
    rw [e]
    show _ = []
    rw [List.filter_eq_nil_iff]
    intro a ha
    rw [List.mem_range'_1] at ha
    rw [low a (by omega)]
    simp
theorem findSome_if {α β : Type} (p : α → Bool) (f : α → β) : ∀ l : List α, l.findSome? (fun a => if p a = true then some (f a) else none) = (l.filter p).head?.map f
  | [] => rfl
  | a :: l => by
    rw [List.findSome?_cons, List.filter_cons]
    cases p a with
    | true => rfl
    | false => simpa using findSome_if p f l
theorem findSome_congr {α β : Type} {f g : α → Option β} : ∀ {l : List α}, (∀ a ∈ l, f a = g a) → l.findSome? f = l.findSome? g
  | [], _ => rfl
  | a :: l, h => by rw [List.findSome?_cons, List.findSome?_cons, h a List.mem_cons_self, findSome_congr fun b hb => h b (List.mem_cons_of_mem _ hb)]
theorem place_pairs {s T : List Nat} (hs : Shp s) (h1 : 1 ≤ s.length) : placeF s T = (pairsL s T).head?.map fun p => pairV p.1 p.2 := by
  unfold placeF pairsL
  rw [List.head?_flatMap, List.map_findSome?]
  refine findSome_congr fun b hb => ?_
  rw [List.mem_range] at hb
  show placeIn s T b = Option.map _ ((endsL s T b).map fun e => (b, e)).head?
  unfold placeIn
  rw [findSome_if (fun e => under s ((T.drop b).take (e - b))) (fun e => pairV b e), ← endsL_far hs h1 hb, List.head?_map, Option.map_map]
  rfl
def dueW (s T : List Nat) : W := match pairsL s T with
  | [] => .non
  | p :: _ => .tup [.int (p.1 : Int), .int (p.2 : Int)]
theorem plV_due {s T : List Nat} (hs : Shp s) (h1 : 1 ≤ s.length) : plV (placeF s T) = .w (dueW s T) := by
  rw [place_pairs hs h1]
  unfold dueW
  cases pairsL s T <;> rfl
theorem lk_due (s T : List Nat) : lk 1 (dueW s T) := by
  unfold dueW
  split
  · trivial
  · exact ⟨by show 2 ≤ sizeL; unfold sizeL; omega, fun y hy => by
      simp only [List.mem_cons, List.not_mem_nil, or_false] at hy
      rcases hy with rfl | rfl <;> exact True.intro⟩
/-! ### letters as they are met -/
def metGo : List Nat → List Nat → List Nat
  | [], f => f
  | y :: t, f => metGo t (if y ∈ f then f else f ++ [y])
def met (T : List Nat) : List Nat := metGo T []
theorem metGo_nodup : ∀ {t f : List Nat}, f.Nodup → (metGo t f).Nodup
  | [], f, h => h
  | y :: t, f, h => by
    rw [metGo]
    refine metGo_nodup ?_
    split
    · exact h
    · rename_i hy
      rw [List.nodup_append]
      refine ⟨h, by simp, fun a ha b hb e => ?_⟩
      have : b = y := by simpa using hb
      subst this e
      exact hy ha
theorem metGo_mem {z : Nat} : ∀ {t f : List Nat}, z ∈ metGo t f ↔ z ∈ f ∨ z ∈ t
  | [], f => by simp [metGo]
  | y :: t, f => by
    rw [metGo, metGo_mem]
    by_cases hy : y ∈ f
    · rw [if_pos hy, List.mem_cons]
      constructor
      · rintro (h | h)
        · exact .inl h
        · exact .inr (.inr h)
      · rintro (h | rfl | h)
        · exact .inl h
        · exact .inl hy
        · exact .inr h
    · rw [if_neg hy, List.mem_append, List.mem_singleton, List.mem_cons]
      constructor
      · rintro ((h | h) | h)
        · exact .inl h
        · exact .inr (.inl h)
        · exact .inr (.inr h)
      · rintro (h | h | h)
        · exact .inl (.inl h)
        · exact .inl (.inr h)
        · exact .inr h
theorem met_mem {T : List Nat} {z : Nat} : z ∈ met T ↔ z ∈ T := by
  unfold met
  rw [metGo_mem]
  simp
theorem lt_nodup : LT.Nodup := by decide
theorem sub_LT {L : List Nat} (nd : L.Nodup) (h : ∀ y ∈ L, y ∈ LT) : L.length ≤ 8 := by
  have : L.Perm (LT.filter fun y => decide (y ∈ L)) := by
    rw [List.perm_ext_iff_of_nodup nd (List.Pairwise.filter _ lt_nodup)]
    intro a
    rw [List.mem_filter]
    constructor
    · intro ha; exact ⟨h a ha, by simpa using ha⟩
    · rintro ⟨_, ha⟩; simpa using ha
  rw [this.length_eq]
  exact Nat.le_trans (List.length_filter_le _ _) (by decide)
theorem met_len {T : List Nat} (h : Ws 8 T) : (met T).length ≤ 8 := sub_LT (metGo_nodup List.nodup_nil) fun y hy => h.all y (met_mem.mp hy)
def usl (T : List Nat) (y : Nat) : Nat := LT.getD ((met T).idxOf y) 0
theorem usl_back {T : List Nat} (h : Ws 8 T) {y : Nat} (hy : y ∈ T) : (met T).getD (LT.idxOf (usl T y)) 0 = y := by
  have h1 := List.idxOf_lt_length_of_mem (met_mem.mpr hy)
  have h2 := met_len h
  have h3 : (met T).idxOf y < LT.length := by rw [lt_len]; omega
  unfold usl
  rw [List.getD_eq_getElem?_getD (l := LT), List.getElem?_eq_getElem h3, Option.getD_some, idx_nth lt_nodup h3, List.getD_eq_getElem?_getD, List.getElem?_eq_getElem h1, List.getElem_idxOf]
  rfl
theorem usl_ws {T : List Nat} (h : Ws 8 T) : Ws 8 (T.map (usl T)) := fun z hz => by
  obtain ⟨y, hy, rfl⟩ := List.mem_map.mp hz
  have h1 := List.idxOf_lt_length_of_mem (met_mem.mpr hy)
  have h2 := met_len h
  have h3 : (met T).idxOf y < LT.length := by rw [lt_len]; omega
  unfold usl
  rw [List.getD_eq_getElem?_getD, List.getElem?_eq_getElem h3]
  exact List.getElem_mem h3
section
variable {P : Prog} {F : Nat} {x : Nat → Nat} {k : Nat} {c : Cells} {w : W}
theorem met_loop (R : Nat → List W → M Val) (s0 : Slot) : ∀ (t f : List Nat) (z2 : Slot), f.length + t.length ≤ 1000 → ∃ y2, forS P F R (.nm 2) (F_letters_met_b1 x) (t.map fun y => .str [y]) [s0, .val (.str f), z2] c = .ok (.nx [s0, .val (.str (metGo t f)), y2]) c
  | [], f, z2, _ => ⟨z2, rfl⟩
  | y :: t, f, z2, hl => by
    rw [List.length_cons] at hl
    obtain ⟨y2, ih⟩ := met_loop R s0 t (if y ∈ f then f else f ++ [y]) (.val (.str [y])) (by
      have : (if y ∈ f then f else f ++ [y]).length ≤ f.length + 1 := by
        split
        · omega
        · rw [List.length_append]; simp
      omega)
    refine ⟨y2, ?_⟩
    have ha : binop .add (.str f) (.str [y]) = some (.w (.str (f ++ [y]))) := b_addS (by unfold sizeL; simp; omega)
    have hb : exSs P F R (F_letters_met_b1 x) [s0, .val (.str f), .val (.str [y])] c = .ok (.nx [s0, .val (.str (if y ∈ f then f else f ++ [y])), .val (.str [y])]) c := by
      by_cases hy : y ∈ f
      · simp [F_letters_met_b1, hy]
      · simp [F_letters_met_b1, hy, ha]
    rw [List.map_cons, forS_nx rfl hb, ih]
    rfl
theorem run_letters_met (h : H_letters_met P x) {T : List Nat} (hT : T.length ≤ 200) (hk : 1 ≤ k) : run P F k (x n_letters_met) [.str T] c = .ok (.w (.str (met T))) c := by
  obtain ⟨k, rfl⟩ := pred_of hk
  refine run_fnS h.f rfl ?_ rfl
  obtain ⟨y2, e⟩ := met_loop (P := P) (F := F) (x := x) (c := c) (run P F k) (.val (.str T)) T [] .none (by simp; omega)
  refine stepK (fun K => by simp [F_letters_met]; try with_reducible rfl) ?_
  refine stepK (fun K => by simp [e]; try with_reducible rfl) ?_
  exact stepR (by simp [met])
theorem run_usual_in (h : H_usual_in P x) {T : List Nat} (hw : Ws 8 T) (hT : T.length ≤ 200) (hk : 2 ≤ k) : run P F k (x n_usual_in) [.str T] c = .ok (.w (.str (T.map (usl T)))) c := by
  obtain ⟨k, rfl⟩ := pred_of (k := k) (by omega)
  refine run_fnS h.f rfl ?_ rfl
  have q := run_letters_met (F := F) (k := k) (c := c) h.letters_met hT (by omega)
  have c1 : compS P (run P F k) (F_usual_in_e1 x) (.nm 2) .nil [2] [.val (.str T), .val (.str (met T)), .none] (T.map fun y => .str [y]) c = .ok (T.map fun y => .str [usl T y]) c := by
    refine compS_map fun y hy => ⟨_, rfl, rfl, ?_⟩
    have h1 := findS_one (met_mem.mpr hy)
    have h2 := List.idxOf_lt_length_of_mem (met_mem.mpr hy)
    have h3 := met_len hw
    have h4 : (met T).idxOf y < LT.length := by rw [lt_len]; omega
    have hat : atI LT (((met T).idxOf y : Nat) : Int) = some (usl T y) := by
      rw [atI_nat h4]
      unfold usl
      rw [List.getD_eq_getElem?_getD, List.getElem?_eq_getElem h4]
      rfl
    simp [elV, F_usual_in_e1, wipeS, h.c_LETTERS, h1, get_str lt_size, hat]
  have z1 : (T.map fun y => W.str [usl T y]).length ≤ sizeL := by rw [List.length_map]; exact size200 hT
  have hj := join_chr (T := T.map (usl T)) (by rw [List.length_map]; exact size200 hT)
  rw [List.map_map] at hj
  have hj : methop .join (.str []) [.lst (T.map fun y => W.str [usl T y])] = some (.w (.str (T.map (usl T)))) := hj
  generalize (T.map fun y => W.str [usl T y]) = A at c1 z1 hj
  refine stepK (fun K => by simp [F_usual_in, q]; try with_reducible rfl) ?_
  exact stepR (by simp [c1, z1, hj])
theorem run_usual_word (h : H_usual_word P x) {T : List Nat} (hw : Ws 8 T) (hT : T.length ≤ 200) (hk : 4 ≤ k) : run P F k (x n_usual_word) [.str T] c = .ok (.w (.str (T.map (usl T)))) c := by
  obtain ⟨k, rfl⟩ := pred_of (k := k) (by omega)
  refine run_fnS h.f rfl ?_ rfl
  have q1 := run_need_word (F := F) (k := k) (c := c) h.need_word (strOf_ws hw hT) (by omega)
  have q2 := run_usual_in (F := F) (k := k) (c := c) h.usual_in hw hT (by omega)
  refine stepK (fun K => by simp [F_usual_word, q1]; try with_reducible rfl) ?_
  exact stepR (by simp [q2])
theorem run_stands_under (h : H_stands_under P x) {s T : List Nat} (hs : Shp s) (h1 : 1 ≤ s.length) (h6 : s.length ≤ 6) (hw : Ws 8 T) (hT : T.length ≤ 14) (hk : 6 ≤ k) : run P F k (x n_stands_under) [.str s, .str T] c = .ok (.w (.bl (!(dueW s T).isNon))) c := by
  obtain ⟨k, rfl⟩ := pred_of (k := k) (by omega)
  refine run_fnS h.f rfl ?_ rfl
  have q1 := run_need_shape (F := F) (k := k) (c := c) h.need_shape hs h1 h6 (by omega)
  have q2 := run_need_few_signs (F := F) (k := k) (c := c) h.need_few_signs (most := 14) (strOf_ws hw (by omega)) (by omega) (by omega) (by omega)
  have q3 := run_place_under (F := F) (k := k) (c := c) h.place_under hs (by omega) hw (by omega) (by omega)
  rw [plV_due hs h1] at q3
  refine stepK (fun K => by simp [F_stands_under, q1]; try with_reducible rfl) ?_
  refine stepK (fun K => by simp [h.c_STOOD, q2]; try with_reducible rfl) ?_
  exact stepR (by simp [q3])
theorem run_under_place (h : H_under_place P x) {s T : List Nat} (hs : Shp s) (h1 : 1 ≤ s.length) (h6 : s.length ≤ 6) (hw : Ws 8 T) (hT : T.length ≤ 14) (hk : 6 ≤ k) : run P F k (x n_under_place) [.str s, .str T] c = .ok (.w (dueW s T)) c := by
  obtain ⟨k, rfl⟩ := pred_of (k := k) (by omega)
  refine run_fnS h.f rfl ?_ rfl
  have q1 := run_need_shape (F := F) (k := k) (c := c) h.need_shape hs h1 h6 (by omega)
  have q2 := run_need_few_signs (F := F) (k := k) (c := c) h.need_few_signs (most := 14) (strOf_ws hw (by omega)) (by omega) (by omega) (by omega)
  have q3 := run_place_under (F := F) (k := k) (c := c) h.place_under hs (by omega) hw (by omega) (by omega)
  rw [plV_due hs h1] at q3
  refine stepK (fun K => by simp [F_under_place, q1]; try with_reducible rfl) ?_
  refine stepK (fun K => by simp [h.c_STOOD, q2]; try with_reducible rfl) ?_
  exact stepR (by simp [q3])
def prW (p : Nat × Nat) : W := .tup [.int (p.1 : Int), .int (p.2 : Int)]
theorem pairs_loop (h : H__law_maps P x) {s T : List Nat} (hs : Shp s) (h6 : s.length ≤ 6) (hw : Ws 8 T) (hT : T.length ≤ 14) (hk : 1 ≤ k) (s4 : Slot) : ∀ (l : List Nat) (acc : List (Nat × Nat)) (z3 : Slot), (∀ b ∈ l, b < T.length) → acc.length + l.length * 20 ≤ 10000 →
    ∃ y3, forS P F (run P F k) (.nm 3) (F__law_stands_right_b1 x) (l.map fun (b : Nat) => .int (b : Int)) [.val (.str s), .val (.str T), .val (.lst (acc.map prW)), z3, s4, .none] c
      = .ok (.nx [.val (.str s), .val (.str T), .val (.lst ((acc ++ l.flatMap fun b => (endsL s T b).map fun e => (b, e)).map prW)), y3, s4, .none]) c
  | [], acc, z3, _, _ => ⟨z3, by simp [forS_nil]⟩
  | b :: l, acc, z3, hl, ha => by
    rw [List.length_cons] at ha
    have hb := hl b List.mem_cons_self
    have hel : (endsL s T b).length ≤ 14 := by
      unfold endsL
      have := List.length_filter_le (fun e => under s ((T.drop b).take (e - b))) (List.range' (b + 1) (T.length + 1 - (b + 1)))
      rw [List.length_range'] at this
      omega
    obtain ⟨y3, ih⟩ := pairs_loop h hs h6 hw hT hk s4 l (acc ++ (endsL s T b).map fun e => (b, e)) (.val (.int (b : Int))) (fun a ha => hl a (List.mem_cons_of_mem _ ha)) (by rw [List.length_append, List.length_map]; omega)
    refine ⟨y3, ?_⟩
    have hpow : 14 ^ s.length ≤ 16000000 := by
      have : 14 ^ s.length ≤ 14 ^ 6 := Nat.pow_le_pow_right (by omega) h6
      omega
    have c1 : compS P (run P F k) (F__law_stands_right_e1 x) (.nm 5) (F__law_stands_right_c1 x) [5] [.val (.str s), .val (.str T), .val (.lst (acc.map prW)), .val (.int (b : Int)), s4, .none] ((List.range' (b + 1) (T.length + 1 - (b + 1))).map fun (e : Nat) => .int (e : Int)) c = .ok ((endsL s T b).map fun e => prW (b, e)) c := by
      unfold endsL
      refine compS_filter fun e he => ⟨_, rfl, ?_, fun _ => ?_⟩
      · have hcut : cut T (some (b : Int)) (some (e : Int)) = (T.drop b).take (e - b) := cut_nat
        have hwp : Ws 8 ((T.drop b).take (e - b)) := (hw.drop).take
        have q := run_law_maps (F := F) (k := k) (c := c) h (s := s) (T := (T.drop b).take (e - b)) (N := 14) hs (by omega) (by omega) (by omega) (by rw [List.length_take, List.length_drop]; omega) hpow hk
        have hpl : ((lawMaps s ((T.drop b).take (e - b))).map tW).all (W.plain 59) = true := by
          rw [List.all_eq_true]
          intro y hy
          obtain ⟨v, hv, rfl⟩ := List.mem_map.mp hy
          exact plain_tW (valid_ws hs hwp ((lawMaps_mem hs).mp hv)) 58
        have q4 := ne_lst hpl
        have q5 : (!((lawMaps s ((T.drop b).take (e - b))).map tW).isEmpty) = under s ((T.drop b).take (e - b)) := by
          unfold under
          congr 1
          have := (maps_perm hs ((T.drop b).take (e - b))).length_eq
          rw [Bool.eq_iff_iff, List.isEmpty_iff, List.isEmpty_iff, List.map_eq_nil_iff, ← List.length_eq_zero_iff, ← List.length_eq_zero_iff]
          omega
        rw [q5] at q4
        generalize ((lawMaps s ((T.drop b).take (e - b))).map tW) = A at q q4
        generalize (T.drop b).take (e - b) = U at hcut q q4
        simp [F__law_stands_right_c1, wipeS, slc_str (size200 (T := T) (by omega)), hcut, q, q4]
      · simp [elV, F__law_stands_right_e1, wipeS, prW]
    have z1 : ((endsL s T b).map fun e => prW (b, e)).length ≤ sizeL := by rw [List.length_map]; unfold sizeL; omega
    have hadd : binop .add (.lst (acc.map prW)) (.lst ((endsL s T b).map fun e => prW (b, e))) = some (.own (.lst ((acc ++ (endsL s T b).map fun e => (b, e)).map prW))) := by
      rw [b_addL (by rw [List.length_map, List.length_map]; unfold sizeL; omega), List.map_append, List.map_map]
      rfl
    have hb1 : bound62 ((b : Int) + 1) = true := bound_int (by omega) (by omega)
    have hb2 : bound62 ((T.length : Int) + 1) = true := bound_int (by omega) (by omega)
    have hrg : rangeW ((b : Int) + 1) 1 ((((T.length : Int) + 1) - ((b : Int) + 1)).toNat) = (List.range' (b + 1) (T.length + 1 - (b + 1))).map fun (i : Nat) => .int (i : Int) := by
      rw [← rangeW_range']
      congr 1
      omega
    have hbody : exSs P F (run P F k) (F__law_stands_right_b1 x) [.val (.str s), .val (.str T), .val (.lst (acc.map prW)), .val (.int (b : Int)), s4, .none] c
        = .ok (.nx [.val (.str s), .val (.str T), .val (.lst ((acc ++ (endsL s T b).map fun e => (b, e)).map prW)), .val (.int (b : Int)), s4, .none]) c := by
      generalize ((acc ++ (endsL s T b).map fun e => (b, e)).map prW) = A2 at hadd
      generalize ((endsL s T b).map fun e => prW (b, e)) = A1 at c1 z1 hadd
      generalize acc.map prW = A0 at c1 hadd
      generalize ((List.range' (b + 1) (T.length + 1 - (b + 1))).map fun (i : Nat) => W.int (i : Int)) = RR at c1 hrg
      simp [F__law_stands_right_b1, len_str (size200 (T := T) (by omega)), hb1, hb2, hrg, c1, z1, hadd]
    rw [List.map_cons, forS_nx rfl hbody, ih, List.append_assoc]
    rfl
theorem run_stands_right (h : H__law_stands_right P x) {s T : List Nat} (hs : Shp s) (h1 : 1 ≤ s.length) (h6 : s.length ≤ 6) (hw : Ws 8 T) (hT : T.length ≤ 14) (hk : 7 ≤ k) : run P F k (x n__law_stands_right) [.str s, .str T] c = .ok (.w (.bl true)) c := by
  obtain ⟨k, rfl⟩ := pred_of (k := k) (by omega)
  refine run_fnS h.f rfl ?_ rfl
  obtain ⟨y3, e⟩ := pairs_loop (P := P) (F := F) (x := x) (k := k) (c := c) h._law_maps hs h6 hw hT (by omega) .none (List.range T.length) [] .none (fun b hb => List.mem_range.mp hb) (by rw [List.length_range]; simp; omega)
  rw [List.nil_append, ← rangeW_zero] at e
  have e : forS P F (run P F k) (.nm 3) (F__law_stands_right_b1 x) (rangeW 0 1 T.length) [.val (.str s), .val (.str T), .val (.lst []), .none, .none, .none] c = .ok (.nx [.val (.str s), .val (.str T), .val (.lst ((pairsL s T).map prW)), y3, .none, .none]) c := e
  have q1 := run_stands_under (F := F) (k := k) (c := c) h.stands_under hs h1 h6 hw hT (by omega)
  have q2 := run_under_place (F := F) (k := k) (c := c) h.under_place hs h1 h6 hw hT (by omega)
  have q3 := run_usual_word (F := F) (k := k) (c := c) h.usual_word hw (by omega) (by omega)
  have q4 := run_under_place (F := F) (k := k) (c := c) h.under_place hs h1 h6 (usl_ws hw) (by rw [List.length_map]; exact hT) (by omega)
  have hdue : dueW s (T.map (usl T)) = dueW s T := by
    have e1 := plV_due (T := T.map (usl T)) hs h1
    have e2 := plV_due (T := T) hs h1
    rw [placeF_map hs (usl T) (fun z => (met T).getD (LT.idxOf z) 0) fun y hy => usl_back hw hy] at e1
    rw [e1] at e2
    exact Val.w.inj e2
  rw [hdue] at q4
  have l1 := run_like_eq (F := F) h._law_like 1 (lk_due s T) (k := k) (c := c) (by omega)
  have l2 := run_like_eq (F := F) h._law_like 2 (w := .lst [.bl (!(dueW s T).isNon), dueW s T]) ⟨by show 2 ≤ sizeL; unfold sizeL; omega, fun y hy => by
    simp only [List.mem_cons, List.not_mem_nil, or_false] at hy
    rcases hy with rfl | rfl
    · exact True.intro
    · exact lk_due s T⟩ (k := k) (c := c) (by omega)
  have hpl : ((pairsL s T).map prW).all (W.plain 59) = true := by
    rw [List.all_eq_true]
    intro y hy
    obtain ⟨v, hv, rfl⟩ := List.mem_map.mp hy
    rfl
  have qne := ne_lst hpl
  have hb : bound62 (T.length : Int) = true := bound_nat (by omega)
  refine stepK (fun K => by simp [F__law_stands_right]; try with_reducible rfl) ?_
  refine stepK (fun K => by simp [len_str (size200 (T := T) (by omega)), hb, e]; try with_reducible rfl) ?_
  refine stepK (s2 := [.val (.str s), .val (.str T), .val (.lst ((pairsL s T).map prW)), y3, .val (dueW s T), .none]) (c2 := c) (fun K => by
    unfold dueW
    cases hm : pairsL s T with
    | nil =>
      rw [hm] at qne
      have qne : cmpop .ne (.lst []) (.lst []) = some false := qne
      simp [qne]
    | cons p r =>
      rw [hm] at qne
      have qne : cmpop .ne (.lst (prW p :: r.map prW)) (.lst []) = some true := qne
      have q5 : atI (prW p :: r.map prW) 0 = some (prW p) := atI_nat (l := prW p :: r.map prW) (n := 0) (by simp)
      have q6 : prW p = .tup [.int (p.1 : Int), .int (p.2 : Int)] := rfl
      simp [qne, q5]
      rw [q6]) ?_
  generalize dueW s T = D at q1 q2 q4 l1 l2
  generalize T.map (usl T) = U at q3 q4
  refine stepK (fun K => by simp [q1, q2, l2]; try with_reducible rfl) ?_
  exact stepR (by simp [q3, q4, l1])
end
end Cw

end
section
set_option linter.all false
set_option maxRecDepth 100000
set_option maxHeartbeats 4000000
set_option Elab.async false
/-! Cz77m: how many maps of unlike letters; one letter so many times -/
namespace Cw
def cntR : List (Nat × Nat) → Nat → Nat
  | [], n => if n = 0 then 1 else 0
  | (m, b) :: ms, n => ((lens m b n).map fun l => cntR ms (n - m * l)).sum
theorem sum_flat {α β : Type} (f : α → List β) (g : β → Nat) : ∀ l : List α, ((l.flatMap f).map g).sum = (l.map fun a => ((f a).map g).sum).sum
  | [] => rfl
  | a :: l => by
    rw [List.flatMap_cons, List.map_append, List.sum_append, sum_flat f g l, List.map_cons, List.sum_cons]
theorem rowsGo_cnt : ∀ (ms : List (Nat × Nat)) (rs : List (List Nat × Nat)), ((rowsGo ms rs).filter fun p => p.2 == 0).length = (rs.map fun p => cntR ms p.2).sum
  | [], rs => by
    rw [rowsGo]
    induction rs with
    | nil => rfl
    | cons p rs ih =>
      rw [List.filter_cons, List.map_cons, List.sum_cons, ← ih, cntR]
      by_cases h : p.2 = 0
      · simp [h]; omega
      · simp [h]
  | (m, b) :: ms, rs => by
    rw [rowsGo, rowsGo_cnt ms, rowStep, sum_flat]
    congr 1
    refine List.map_congr_left fun p _ => ?_
    rw [List.map_map]
    rfl
theorem rowsL_cnt (s : List Nat) (n : Nat) : (rowsL s n).length = cntR (msOf s (lettersU s)) n := by
  unfold rowsL
  rw [List.length_map, rowsGo_cnt]
  simp
theorem mapGo_new {w r L : List Nat} : ∀ (t : List Nat) (d : Dct) (i : Nat), t.Nodup → (∀ y ∈ t, lookD d y = none) → (mapGo w r L t d i).isSome = true
  | [], d, i, _, _ => rfl
  | a :: t, d, i, nd, h => by
    rw [List.nodup_cons] at nd
    rw [mapGo, h a List.mem_cons_self]
    rw [Option.getD_none, if_pos rfl]
    refine mapGo_new t _ _ nd.2 fun y hy => ?_
    rw [lookD_putD, h y (List.mem_cons_of_mem _ hy)]
    have : a ≠ y := fun e => nd.1 (e ▸ hy)
    rw [if_neg this]
    rfl
theorem maps_all {s w : List Nat} (nd : s.Nodup) : (mapsA s w).length = (rowsL s w.length).length := by
  unfold mapsA
  have : ∀ rs : List (List Nat), (rs.filterMap (mapBy s w)).length = rs.length := fun rs => by
    induction rs with
    | nil => rfl
    | cons r rs ih =>
      have h := mapGo_new (w := w) (r := r) (L := lettersU s) s [] 0 nd fun y _ => rfl
      rw [List.filterMap_cons]
      unfold mapBy
      cases hm : mapGo w r (lettersU s) s [] 0 with
      | none => rw [hm] at h; cases h
      | some d =>
        show (_ :: _ : List (List (List Nat))).length = _
        rw [List.length_cons, List.length_cons]
        exact congrArg (· + 1) ih
  exact this _
def cutsI (n : Nat) : Nat → Int
  | 0 => 1
  | j + 1 => cutsI n j * ((n : Int) - 1 - (j : Int)) / ((j : Int) + 1)
def pas : Nat → Nat → Nat
  | 0, n => if n = 0 then 1 else 0
  | _ + 1, 0 => 0
  | k + 1, n + 1 => pas (k + 1) n + pas k n
theorem pas_small : ∀ {k n : Nat}, n < k → pas k n = 0
  | 0, n, h => by omega
  | k + 1, 0, _ => rfl
  | k + 1, n + 1, h => by rw [pas, pas_small (by omega), pas_small (by omega)]
theorem pas_one : ∀ n : Nat, pas 1 (n + 1) = 1
  | 0 => rfl
  | n + 1 => by rw [pas, pas_one n]; rfl
theorem pas_mul : ∀ (n k : Nat), (k : Int) * (pas (k + 1) n : Nat) = (pas k n : Nat) * ((n : Int) - k)
  | 0, 0 => by simp [pas]
  | 0, k + 1 => by simp [pas]
  | n + 1, 0 => by simp [pas]
  | n + 1, j + 1 => by
    have h1 := pas_mul n (j + 1)
    have h2 := pas_mul n j
    rw [show pas (j + 1 + 1) (n + 1) = pas (j + 1 + 1) n + pas (j + 1) n from rfl, show pas (j + 1) (n + 1) = pas (j + 1) n + pas j n from rfl]
    generalize pas (j + 1 + 1) n = a at *
    generalize pas (j + 1) n = b at *
    generalize pas j n = d at *
    push_cast at *
    have e1 : ((j : Int) + 1) * ((a : Int) + b) = ((j : Int) + 1) * a + ((j : Int) + 1) * b := Int.mul_add _ _ _
    have e2 : ((b : Int) + d) * ((n : Int) + 1 - ((j : Int) + 1)) = b * ((n : Int) - ((j : Int) + 1)) + b + d * ((n : Int) - j) := by
      rw [show (n : Int) + 1 - ((j : Int) + 1) = (n : Int) - j by omega, Int.add_mul, show (n : Int) - j = ((n : Int) - ((j : Int) + 1)) + 1 by omega, Int.mul_add (b : Int), Int.mul_one]
    rw [e1, e2, h1, ← h2, Int.add_mul, Int.one_mul]
    omega
theorem cuts_pas {n : Nat} (h : 1 ≤ n) : ∀ j : Nat, cutsI n j = (pas (j + 1) n : Nat)
  | 0 => by
    obtain ⟨n, rfl⟩ : ∃ i, n = i + 1 := ⟨n - 1, by omega⟩
    rw [pas_one]
    rfl
  | j + 1 => by
    rw [cutsI, cuts_pas h j]
    have := pas_mul n (j + 1)
    rw [show (n : Int) - 1 - (j : Int) = (n : Int) - ((j + 1 : Nat) : Int) by push_cast; omega, ← this]
    rw [show (j : Int) + 1 = ((j + 1 : Nat) : Int) by push_cast; rfl]
    exact Int.mul_ediv_cancel_left _ (by omega)
def ones : Nat → List (Nat × Nat)
  | 0 => []
  | k + 1 => (1, k) :: ones k
theorem sum_pas (k : Nat) : ∀ n : Nat, ((List.range (n - k)).map fun i => pas k (n - (i + 1))).sum = pas (k + 1) n
  | 0 => by simp [pas]
  | n + 1 => by
    by_cases h : n < k
    · rw [show n + 1 - k = 0 by omega, pas_small (by omega)]
      rfl
    · rw [show n + 1 - k = (n - k) + 1 by omega, List.range_succ_eq_map, List.map_cons, List.sum_cons, List.map_map, pas, ← sum_pas k n]
      have : ((fun i => pas k (n + 1 - (i + 1))) ∘ Nat.succ) = fun i => pas k (n - (i + 1)) := by
        funext i
        show pas k (n + 1 - (i + 1 + 1)) = _
        congr 1
        omega
      rw [this, show n + 1 - (0 + 1) = n by omega]
      omega
theorem cnt_ones : ∀ (k n : Nat), cntR (ones k) n = pas k n
  | 0, n => by rw [ones, cntR, pas]
  | k + 1, n => by
    rw [ones, cntR]
    have e : (fun l => cntR (ones k) (n - 1 * l)) = fun l => pas k (n - l) := by
      funext l
      rw [cnt_ones k, Nat.one_mul]
    rw [e]
    by_cases hk : 0 < k
    · have hl : lens 1 k n = (List.range (n - k)).map (· + 1) := by
        unfold lens least
        rw [if_pos hk]
        congr 2
        have : ((n : Int) - k) / ((1 : Nat) : Int) = (n : Int) - k := Int.ediv_one _
        rw [this]
        omega
      rw [hl, List.map_map]
      exact sum_pas k n
    · have : k = 0 := by omega
      subst this
      cases n with
      | zero => rfl
      | succ n =>
        have hl : lens 1 0 (n + 1) = [n + 1] := by
          unfold lens least
          rw [if_neg (by omega), Nat.div_one]
          have : (((n + 1 : Nat) : Int) - ((0 : Nat) : Int)) / ((1 : Nat) : Int) = ((n + 1 : Nat) : Int) := by
            rw [show ((1 : Nat) : Int) = 1 from rfl, Int.ediv_one]
            omega
          rw [this, show (((n + 1 : Nat) : Int) + 1 - (max 1 (n + 1) : Nat)).toNat = 1 by omega]
          show [0 + max 1 (n + 1)] = [n + 1]
          congr 1
          omega
        rw [hl, pas_one]
        simp [pas]
theorem ones_is : ∀ m, m ≤ 4 → msOf (SG.take m) (lettersU (SG.take m)) = ones m := by decide
theorem cnt_is {m n : Nat} (h1 : 1 ≤ m) (h4 : m ≤ 4) (n1 : 1 ≤ n) {w : List Nat} (hw : w.length = n) : (((mapsA (SG.take m) w).length : Nat) : Int) = if m ≤ n then cutsI n (m - 1) else 0 := by
  have nd : (SG.take m).Nodup := (show SG.Nodup by decide).sublist (List.take_sublist _ _)
  rw [maps_all nd, rowsL_cnt, hw, ones_is m h4, cnt_ones]
  split
  · rw [cuts_pas n1, show m - 1 + 1 = m by omega]
  · rw [pas_small (by omega)]
    rfl
/-! ### one letter so many times -/
theorem rep_letters {t : Nat} (h : 1 ≤ t) : lettersU (List.replicate t 97) = [97] := by
  unfold lettersU SG
  have e : ∀ y, decide (y ∈ List.replicate t 97) = decide (y = 97) := fun y => by
    rw [Bool.eq_iff_iff]
    simp
    omega
  simp only [List.filter_cons, List.filter_nil, e]
  rfl
theorem rep_flat (t : Nat) (f : Nat → List Nat) : (List.replicate t 97).flatMap f = (List.replicate t (f 97)).flatten := by
  rw [List.flatMap_def, List.map_replicate]
theorem rep_len (t : Nat) (p : List Nat) : (List.replicate t p).flatten.length = t * p.length := by
  rw [List.length_flatten, List.map_replicate, List.sum_replicate_nat]
theorem rep_head {t : Nat} (h : 1 ≤ t) {p q : List Nat} (e : (List.replicate t p).flatten = (List.replicate t q).flatten) : p = q := by
  have hl := congrArg List.length e
  rw [rep_len, rep_len] at hl
  have hl2 : p.length = q.length := Nat.eq_of_mul_eq_mul_left h hl
  obtain ⟨t, rfl⟩ : ∃ j, t = j + 1 := ⟨t - 1, by omega⟩
  rw [List.replicate_succ, List.replicate_succ, List.flatten_cons, List.flatten_cons] at e
  exact (List.append_inj e hl2).1
theorem rep_maps {t : Nat} (h : 1 ≤ t) {p : List Nat} (hp : p ≠ []) : mhW (mapsA (List.replicate t 97) (List.replicate t p).flatten) = .tup [.str p] := by
  have hs : Shp (List.replicate t 97) := fun y hy => by rw [(List.mem_replicate.mp hy).2]; decide
  have hL := rep_letters h
  have hat : ∀ q, vAt (List.replicate t 97) [q] 97 = q := fun q => by
    unfold vAt
    rw [hL]
    rfl
  have hv : valid (List.replicate t 97) (List.replicate t p).flatten [p] := by
    refine ⟨by rw [hL]; rfl, fun q hq => by rw [List.mem_singleton.mp hq]; exact hp, ?_⟩
    rw [rep_flat, hat]
  have hm := (mapsA_mem hs).mpr hv
  cases hc : mapsA (List.replicate t 97) (List.replicate t p).flatten with
  | nil => rw [hc] at hm; cases hm
  | cons u r =>
    have hu : valid (List.replicate t 97) (List.replicate t p).flatten u := (mapsA_mem hs).mp (by rw [hc]; exact List.mem_cons_self)
    obtain ⟨h1, h2, h3⟩ := hu
    rw [hL] at h1
    obtain ⟨q, rfl⟩ : ∃ q, u = [q] := by
      cases u with
      | nil => cases h1
      | cons q r2 =>
        cases r2 with
        | nil => exact ⟨q, rfl⟩
        | cons _ _ => cases h1
    rw [rep_flat, hat] at h3
    rw [rep_head h h3]
    rfl
section
variable {P : Prog} {F : Nat} {x : Nat → Nat} {k : Nat} {c : Cells} {w : W}
theorem run_need_words77 (h : H_need_words P x) {T U : List Nat} (hT : strOf LT 0 200 (.str T) = true) (hU : strOf LT 0 200 (.str U) = true) (hk : 4 ≤ k) : run P F k (x n_need_words) [.str T, .str U] c = .ok (.w .non) c := by
  obtain ⟨k, rfl⟩ := pred_of (k := k) (by omega)
  refine run_fn h.f rfl ?_ rfl
  have q1 := run_need_word (F := F) (k := k) (c := c) h.need_word hT (by omega)
  have q2 := run_need_word (F := F) (k := k) (c := c) h.need_word hU (by omega)
  simp [F_need_words, ss_cons, q1, q2]
theorem run_is_piece77 (h : H_is_piece P x) {T U : List Nat} (hT : strOf LT 0 200 (.str T) = true) (hU : strOf LT 0 200 (.str U) = true) (hk : 5 ≤ k) : run P F k (x n_is_piece) [.str T, .str U] c = .ok (.w (.bl (inStr U T))) c := by
  obtain ⟨k, rfl⟩ := pred_of (k := k) (by omega)
  refine run_fn h.f rfl ?_ rfl
  have q1 := run_need_words77 (F := F) (k := k) (c := c) h.need_words hT hU (by omega)
  simp [F_is_piece, ss_cons, q1]
end
end Cw

end
section
set_option linter.all false
set_option maxRecDepth 100000
set_option maxHeartbeats 4000000
set_option Elab.async false
/-! Cz77n: the law -/
namespace Cw
theorem str_list77 {p : List Nat → Prop} : ∀ {r : List W}, (∀ y ∈ r, ∃ q, y = .str q ∧ p q) → ∃ ps : List (List Nat), r = ps.map .str ∧ ∀ q ∈ ps, p q
  | [], _ => ⟨[], rfl, fun q h => by cases h⟩
  | y :: r, h => by
    obtain ⟨q, rfl, hq⟩ := h y List.mem_cons_self
    obtain ⟨ps, rfl, hps⟩ := str_list77 (r := r) fun z hz => h z (List.mem_cons_of_mem _ hz)
    refine ⟨q :: ps, rfl, fun z hz => ?_⟩
    rcases List.mem_cons.mp hz with rfl | hz
    · exact hq
    · exact hps z hz
theorem rep_one77 (n y : Nat) : (List.replicate n [y]).flatten = List.replicate n y := by
  induction n with
  | zero => rfl
  | succ n ih => rw [List.replicate_succ, List.flatten_cons, ih, List.replicate_succ]; rfl
theorem sg_in : ∀ y ∈ ([97, 97, 98, 99, 100] : List Nat), y ∈ SG := by decide
def pW77 (p : Nat × Nat) : W := .tup [.int (p.1 : Int), .int (p.2 : Int)]
def qW77 (p : List Nat × Nat) : W := .tup [.str p.1, .int (p.2 : Int)]
section
variable {P : Prog} {F : Nat} {x : Nat → Nat} {k : Nat} {c : Cells} {w : W}
theorem flat_len_le {f : Nat → List Nat} {m : Nat} {s : List Nat} (h : ∀ y ∈ s, (f y).length ≤ m) : (s.flatMap f).length ≤ s.length * m := by
  rw [flat_lens]
  have := flat_sum_le h
  rw [List.map_map] at this
  exact this
theorem k77_body1 (h : H_law_k77 P x) {most size : Nat} (hm : most ≤ 20) (hs1 : 1 ≤ size) (hs5 : size ≤ 5) (hc : Cup c) (hk : 7 ≤ k) (s0 s2 z3 z9 z10 z11 : Slot) : ∃ y3 y9 y10 y11 c', exSs P F (run P F k) (F_law_k77_b2 x) [s0, .val (.cel 0), s2, z3, .none, .none, .none, .val (.int (most : Int)), .val (.int (size : Int)), z9, z10, z11, .none, .none, .none] c
    = .ok (.nx [s0, .val (.cel 0), s2, y3, .none, .none, .none, .val (.int (most : Int)), .val (.int (size : Int)), y9, y10, y11, .none, .none, .none]) c' ∧ Cup c' := by
  obtain ⟨r1, c1, f1, hc1, r10, r11⟩ := run_roll (F := F) (k := k) h._law_roll (n := (size : Int)) (by omega) (by omega) hc (by omega)
  obtain ⟨r, rfl⟩ : ∃ n : Nat, r1 = (n : Int) := ⟨r1.toNat, by omega⟩
  have hcutS : cut ([97, 97, 98, 99, 100] : List Nat) none (some (size : Int)) = ([97, 97, 98, 99, 100] : List Nat).take size := cut_toN
  have hslc : slice (.str [97, 97, 98, 99, 100]) none (some (size : Int)) = some (.w (.str (([97, 97, 98, 99, 100] : List Nat).take size))) := by rw [slc_str (by decide), hcutS]
  have hlenS : 0 < (([97, 97, 98, 99, 100] : List Nat).take size).length := by rw [List.length_take]; simp; omega
  have hlenS2 : (([97, 97, 98, 99, 100] : List Nat).take size).length ≤ 5 := by rw [List.length_take]; simp; omega
  have hinS : ∀ y ∈ ([97, 97, 98, 99, 100] : List Nat).take size, y ∈ SG := fun y hy => sg_in y (List.mem_of_mem_take hy)
  generalize ([97, 97, 98, 99, 100] : List Nat).take size = SS at hslc hlenS hlenS2 hinS
  obtain ⟨ra, c2, e2, hc2, hl2, hr2⟩ := compS_inv (P := P) (R := run P F k) (t := .nm 4) (el := F_law_k77_e1 x) (cond := .nil) (own := [4]) (sl := [s0, .val (.cel 0), s2, z3, .none, .none, .none, .val (.int (most : Int)), .val (.int (size : Int)), z9, z10, z11, .none, .none, .none]) (i := fun i : Nat => W.int (i : Int)) (I := Cup) (p := fun _ y => ∃ z, y = .str [z] ∧ z ∈ SG) (l := List.range (1 + r)) (c := c1) (by
    intro i hi c hc
    obtain ⟨y, c3, e3, hc3, hy⟩ := run_someS (F := F) (k := k) h._law_some (s := SS) hlenS (by omega) hc (by omega)
    exact ⟨_, .str [y], c3, rfl, rfl, by simp [elV, F_law_k77_e1, wipeS, hslc, e3], hc3, y, rfl, hinS y hy⟩) hc1
  obtain ⟨S, rfl, hS⟩ := chr_list (p := fun y => y ∈ SG) fun y hy => by
    obtain ⟨_, _, h⟩ := hr2 y hy
    exact h
  rw [List.length_map, List.length_range] at hl2
  rw [← rangeW_zero] at e2
  have hjS := join_chr (T := S) (by unfold sizeL; omega)
  have hzS : (S.map fun y => W.str [y]).length ≤ sizeL := by rw [List.length_map]; unfold sizeL; omega
  have hS : Shp S := hS
  -- the parts
  obtain ⟨rb, c3, e3, hc3, hl3, hr3⟩ := compS_inv (P := P) (R := run P F k) (t := .nm 14) (el := F_law_k77_e2 x) (cond := .nil) (own := [14]) (sl := [s0, .val (.cel 0), s2, .val (.str S), .none, .none, .none, .val (.int (most : Int)), .val (.int (size : Int)), z9, z10, z11, .none, .none, .none]) (i := fun y : Nat => W.str [y]) (I := Cup) (p := fun _ y => ∃ q, y = .str q ∧ (q.length ≤ 4 ∧ Ws 8 q)) (l := SG) (c := c2) (by
    intro i hi c hc
    obtain ⟨T, c4, e4, hc4, hTl, hT⟩ := run_word (F := F) (k := k) h._law_word (most := 3) (letters := 2) (by omega) (by omega) (by omega) hc (by omega)
    rw [show ((3 : Nat) : Int) = 3 from rfl, show ((2 : Nat) : Int) = 2 from rfl] at e4
    have ha : binop .add (.str T) (.str [99]) = some (.w (.str (T ++ [99]))) := b_addS (by unfold sizeL; simp; omega)
    refine ⟨_, .str (T ++ [99]), c4, rfl, rfl, by simp [elV, F_law_k77_e2, wipeS, e4, ha], hc4, T ++ [99], rfl, by rw [List.length_append]; simp; omega, ?_⟩
    exact (hT.mono (by omega)).app fun y hy => by rw [List.mem_singleton.mp hy]; decide) hc2
  obtain ⟨ps, rfl, hps⟩ := str_list77 (p := fun q => q.length ≤ 4 ∧ Ws 8 q) fun y hy => by
    obtain ⟨_, _, h⟩ := hr3 y hy
    exact h
  rw [List.length_map, show SG.length = 4 from rfl] at hl3
  have hSGw : (W.str ([97, 98, 99, 100] : List Nat)).items = some (SG.map fun y => .str [y]) := rfl
  have hz3 : (ps.map W.str).length ≤ sizeL := by rw [List.length_map]; unfold sizeL; omega
  -- the word made
  have hidx : ∀ y ∈ S, SG.idxOf y < ps.length := fun y hy => by
    rw [hl3]
    exact List.idxOf_lt_length_of_mem (hS y hy)
  have hpm : ∀ y ∈ S, ps.getD (SG.idxOf y) [] ∈ ps := fun y hy => by
    rw [List.getD_eq_getElem?_getD, List.getElem?_eq_getElem (hidx y hy)]
    exact List.getElem_mem _
  have c4 : compS P (run P F k) (F_law_k77_e3 x) (.nm 14) .nil [14] [s0, .val (.cel 0), s2, .val (.str S), .none, .none, .none, .val (.int (most : Int)), .val (.int (size : Int)), .val (.lst (ps.map .str)), z10, z11, .none, .none, .none] (S.map fun y => .str [y]) c3 = .ok (S.map fun y => .str (ps.getD (SG.idxOf y) [])) c3 := by
    refine compS_map fun y hy => ⟨_, rfl, rfl, ?_⟩
    have h1 := findS_one (hS y hy)
    have h2 : atI (ps.map W.str) ((SG.idxOf y : Nat) : Int) = some (.str (ps.getD (SG.idxOf y) [])) := by
      rw [atI_nat (by rw [List.length_map]; exact hidx y hy), List.getElem?_map, List.getD_eq_getElem?_getD, List.getElem?_eq_getElem (hidx y hy)]
      rfl
    have e0 : ([97, 98, 99, 100] : List Nat) = SG := rfl
    generalize ps.map W.str = PP at h2
    generalize SG = GG at h1 h2 e0
    simp [elV, F_law_k77_e3, wipeS, e0, h1, h2]
  have hj4 := join_flat (f := fun y => ps.getD (SG.idxOf y) []) (m := 4) (s := S) (fun y hy => (hps _ (hpm y hy)).1) (by unfold sizeL; omega)
  have hz4 : (S.map fun y => W.str (ps.getD (SG.idxOf y) [])).length ≤ sizeL := by rw [List.length_map]; unfold sizeL; omega
  have hml : (S.flatMap fun y => ps.getD (SG.idxOf y) []).length ≤ 20 := by
    have := flat_len_le (f := fun y => ps.getD (SG.idxOf y) []) (m := 4) (s := S) fun y hy => (hps _ (hpm y hy)).1
    omega
  have hmw : Ws 8 (S.flatMap fun y => ps.getD (SG.idxOf y) []) := fun z hz => by
    obtain ⟨y, hy, hz⟩ := List.mem_flatMap.mp hz
    exact (hps _ (hpm y hy)).2 z hz
  have hpow : 20 ^ S.length ≤ 16000000 := by
    have : 20 ^ S.length ≤ 20 ^ 5 := Nat.pow_le_pow_right (by omega) (by omega)
    omega
  obtain ⟨T, c5, e5, hc5, hTl, hT⟩ := run_word (F := F) (k := k) h._law_word (most := most) (letters := 2) (by omega) (by omega) (by omega) hc3 (by omega)
  rw [show ((2 : Nat) : Int) = 2 from rfl] at e5
  generalize hM : (S.flatMap fun y => ps.getD (SG.idxOf y) []) = M at hj4 hml hmw
  obtain ⟨c6, e6, hc6⟩ := run_right_k77 (F := F) (k := k) h._law_right_k77 (s := S) (T := M) (N := 20) hS (by omega) (by omega) hmw (by omega) (by omega) hml hpow hc5 (by omega)
  obtain ⟨c7, e7, hc7⟩ := run_right_k77 (F := F) (k := k) h._law_right_k77 (s := S) (T := T) (N := 20) hS (by omega) (by omega) (hT.mono (by omega)) (by omega) (by omega) (by omega) hpow hc6 (by omega)
  have hb : bound62 (1 + (r : Int)) = true := bound_int (by omega) (by omega)
  have hrn : (1 + (r : Int)).toNat = 1 + r := by omega
  refine ⟨.val (.str S), .val (.lst (ps.map .str)), .val (.str M), .val (.str T), c7, ?_, hc7⟩
  have hb1 : ∀ (c c' : Cells) (U : List Nat) (z : Slot), run P F k (x n__law_right_k77) [.cel 0, .str S, .str U] c = .ok (.w (.bl true)) c' → exSs P F (run P F k) (F_law_k77_b1 x) [s0, .val (.cel 0), s2, .val (.str S), .none, .none, .none, .val (.int (most : Int)), .val (.int (size : Int)), .val (.lst (ps.map .str)), .val (.str M), .val (.str U), .none, .none, .none] c
      = .ok (.nx [s0, .val (.cel 0), s2, .val (.str S), .none, .none, .none, .val (.int (most : Int)), .val (.int (size : Int)), .val (.lst (ps.map .str)), .val (.str M), .val (.str U), .none, .none, .none]) c' := fun c c' U z e => by
    simp [F_law_k77_b1, e]
  have hloop : forS P F (run P F k) (.nm 11) (F_law_k77_b1 x) [.str M, .str T] [s0, .val (.cel 0), s2, .val (.str S), .none, .none, .none, .val (.int (most : Int)), .val (.int (size : Int)), .val (.lst (ps.map .str)), .val (.str M), z11, .none, .none, .none] c5
      = .ok (.nx [s0, .val (.cel 0), s2, .val (.str S), .none, .none, .none, .val (.int (most : Int)), .val (.int (size : Int)), .val (.lst (ps.map .str)), .val (.str M), .val (.str T), .none, .none, .none]) c7 := by
    rw [forS_nx rfl (hb1 _ _ M z11 e6), forS_nx rfl (hb1 _ _ T z11 e7)]
    rfl
  generalize (S.map fun y => W.str (ps.getD (SG.idxOf y) [])) = A4 at c4 hj4 hz4
  generalize ps.map W.str = PP at e3 hz3 c4 hloop
  refine stepK (s2 := [s0, .val (.cel 0), s2, .val (.str S), .none, .none, .none, .val (.int (most : Int)), .val (.int (size : Int)), z9, z10, z11, .none, .none, .none]) (c2 := c2) (fun K => by
    generalize (S.map fun y => W.str [y]) = A2 at e2 hjS hzS
    simp [f1, hb, hrn, e2, hzS, hjS]) ?_
  have e3 : compS P (run P F k) (F_law_k77_e2 x) (.nm 14) .nil [14] [s0, .val (.cel 0), s2, .val (.str S), .none, .none, .none, .val (.int (most : Int)), .val (.int (size : Int)), z9, z10, z11, .none, .none, .none] [.str [97], .str [98], .str [99], .str [100]] c2 = .ok PP c3 := e3
  refine stepK (fun K => by simp [e3, hz3]; try with_reducible rfl) ?_
  refine stepK (fun K => by simp [c4, hz4, hj4]; try with_reducible rfl) ?_
  simp [e5, hloop]
theorem k77_loop1 (h : H_law_k77 P x) (hc : Cup c) (hk : 7 ≤ k) (s0 s2 : Slot) : ∃ z3 z7 z8 z9 z10 z11 c', forS P F (run P F k) (.tp [7, 8]) (F_law_k77_b2 x) (([(6, 2), (10, 3), (12, 4), (20, 5)] : List (Nat × Nat)).map pW77) [s0, .val (.cel 0), s2, .none, .none, .none, .none, .none, .none, .none, .none, .none, .none, .none, .none] c
    = .ok (.nx [s0, .val (.cel 0), s2, z3, .none, .none, .none, z7, z8, z9, z10, z11, .none, .none, .none]) c' ∧ Cup c' := by
  have hall : ∀ p ∈ ([(6, 2), (10, 3), (12, 4), (20, 5)] : List (Nat × Nat)), p.1 ≤ 20 ∧ 1 ≤ p.2 ∧ p.2 ≤ 5 := by decide
  generalize ([(6, 2), (10, 3), (12, 4), (20, 5)] : List (Nat × Nat)) = l at hall
  obtain ⟨sl, c2, e, hc2, z3, z7, z8, z9, z10, z11, rfl⟩ := forS_inv (P := P) (F := F) (R := run P F k) (t := .tp [7, 8]) (b := F_law_k77_b2 x) (i := pW77) (l := l)
    (sl := [s0, .val (.cel 0), s2, .none, .none, .none, .none, .none, .none, .none, .none, .none, .none, .none, .none]) (c := c)
    (fun i sl c => Cup c ∧ ∃ z3 z7 z8 z9 z10 z11, sl = [s0, .val (.cel 0), s2, z3, .none, .none, .none, z7, z8, z9, z10, z11, .none, .none, .none]) ⟨hc, .none, .none, .none, .none, .none, .none, rfl⟩ (by
      rintro i hi sl c ⟨hc, z3, z7, z8, z9, z10, z11, rfl⟩
      obtain ⟨h1, h2, h3⟩ := hall _ (List.getElem_mem hi)
      generalize l[i] = p at h1 h2 h3
      obtain ⟨y3, y9, y10, y11, c3, e3, hc3⟩ := k77_body1 (P := P) (F := F) (x := x) (k := k) h (most := p.1) (size := p.2) h1 h2 h3 hc hk s0 s2 z3 z9 z10 z11
      exact ⟨_, _, c3, rfl, e3, hc3, y3, _, _, y9, y10, y11, rfl⟩)
  exact ⟨z3, z7, z8, z9, z10, z11, c2, e, hc2⟩
theorem k77_loop2 (h : H_law_k77 P x) (hc : Cup c) (hk : 8 ≤ k) {l : List (List Nat × Nat)} (hall : ∀ p ∈ l, Shp p.1 ∧ 1 ≤ p.1.length ∧ p.1.length ≤ 6 ∧ p.2 ≤ 14) (s0 s2 z3 z7 s8 s9 s10 s11 : Slot) : ∃ y3 y7 c', forS P F (run P F k) (.tp [3, 7]) (F_law_k77_b3 x) (l.map qW77) [s0, .val (.cel 0), s2, z3, .none, .none, .none, z7, s8, s9, s10, s11, .none, .none, .none] c
    = .ok (.nx [s0, .val (.cel 0), s2, y3, .none, .none, .none, y7, s8, s9, s10, s11, .none, .none, .none]) c' ∧ Cup c' := by
  obtain ⟨sl, c2, e, hc2, y3, y7, rfl⟩ := forS_inv (P := P) (F := F) (R := run P F k) (t := .tp [3, 7]) (b := F_law_k77_b3 x) (i := qW77) (l := l)
    (sl := [s0, .val (.cel 0), s2, z3, .none, .none, .none, z7, s8, s9, s10, s11, .none, .none, .none]) (c := c)
    (fun i sl c => Cup c ∧ ∃ y3 y7, sl = [s0, .val (.cel 0), s2, y3, .none, .none, .none, y7, s8, s9, s10, s11, .none, .none, .none]) ⟨hc, z3, z7, rfl⟩ (by
      rintro i hi sl c ⟨hc, y3, y7, rfl⟩
      obtain ⟨h1, h2, h3, h4⟩ := hall _ (List.getElem_mem hi)
      generalize l[i] = p at h1 h2 h3 h4
      obtain ⟨T, c3, e3, hc3, hTl, hT⟩ := run_word (F := F) (k := k) h._law_word (most := p.2) (letters := 2) (by omega) (by omega) (by omega) hc (by omega)
      rw [show ((2 : Nat) : Int) = 2 from rfl] at e3
      have e4 := run_stands_right (F := F) (k := k) (c := c3) h._law_stands_right h1 h2 h3 (hT.mono (by omega)) (by omega) (by omega)
      obtain ⟨U, c5, e5, hc5, hUl, hU⟩ := run_word (F := F) (k := k) h._law_word (most := 7) (letters := 4) (by omega) (by omega) (by omega) hc3 (by omega)
      rw [show ((4 : Nat) : Int) = 4 from rfl, show ((7 : Nat) : Int) = 7 from rfl] at e5
      have e6 := run_stands_right (F := F) (k := k) (c := c5) h._law_stands_right h1 h2 h3 (hU.mono (by omega)) (by omega) (by omega)
      refine ⟨_, _, c5, rfl, ?_, hc5, .val (.str p.1), .val (.int (p.2 : Int)), rfl⟩
      simp [F_law_k77_b3, e3, e4, e5, e6])
  exact ⟨y3, y7, c2, e, hc2⟩
theorem k77_cuts (R : Nat → List W → M Val) {n : Nat} (hn : n ≤ 40) (z4 s0 s1 s2 s3 s5 s6 s7 s9 s10 s11 s12 s14 : Slot) (m : Nat) (hm : m ≤ 4) : ∃ y4, forS P F R (.nm 4) (F_law_k77_b4 x) ((List.range m).map fun (i : Nat) => .int (i : Int)) [s0, s1, s2, s3, z4, s5, s6, s7, .val (.int (n : Int)), s9, s10, s11, s12, .val (.int 1), s14] c
    = .ok (.nx [s0, s1, s2, s3, y4, s5, s6, s7, .val (.int (n : Int)), s9, s10, s11, s12, .val (.int (cutsI n m)), s14]) c := by
  obtain ⟨sl, c2, e, rfl, y4, rfl⟩ := forS_inv (P := P) (F := F) (R := R) (t := .nm 4) (b := F_law_k77_b4 x) (i := fun (i : Nat) => W.int (i : Int)) (l := List.range m)
    (sl := [s0, s1, s2, s3, z4, s5, s6, s7, .val (.int (n : Int)), s9, s10, s11, s12, .val (.int 1), s14]) (c := c)
    (fun i sl c' => c' = c ∧ ∃ y4, sl = [s0, s1, s2, s3, y4, s5, s6, s7, .val (.int (n : Int)), s9, s10, s11, s12, .val (.int (cutsI n i)), s14]) ⟨rfl, z4, rfl⟩ (by
      rintro i hi sl c' ⟨rfl, y4, rfl⟩
      rw [List.length_range] at hi
      rw [List.getElem_range]
      have hmul : binop .mul (.int (cutsI n i)) (.int ((n : Int) - 1 - (i : Int))) = some (.w (.int (cutsI n i * ((n : Int) - 1 - (i : Int))))) := b_mulI (.inr (by omega))
      have hdiv : binop .fdiv (.int (cutsI n i * ((n : Int) - 1 - (i : Int)))) (.int ((i : Int) + 1)) = some (.w (.int (cutsI n i * ((n : Int) - 1 - (i : Int)) / ((i : Int) + 1)))) := b_fdivI (by omega) (by omega)
      refine ⟨_, _, c', rfl, ?_, rfl, .val (.int (i : Int)), rfl⟩
      show exSs P F R (F_law_k77_b4 x) [s0, s1, s2, s3, .val (.int (i : Int)), s5, s6, s7, .val (.int (n : Int)), s9, s10, s11, s12, .val (.int (cutsI n i)), s14] c' = .ok (.nx [s0, s1, s2, s3, .val (.int (i : Int)), s5, s6, s7, .val (.int (n : Int)), s9, s10, s11, s12, .val (.int (cutsI n i * ((n : Int) - 1 - (i : Int)) / ((i : Int) + 1))), s14]) c'
      simp [F_law_k77_b4, hmul, hdiv])
  rw [List.length_range] at e
  exact ⟨y4, e⟩
end
end Cw

end
section
set_option linter.all false
set_option maxRecDepth 100000
set_option maxHeartbeats 4000000
set_option Elab.async false
/-! Cz77o: the law of k77 -/
namespace Cw
theorem ws_of77 {T : List Nat} (h : (T.all fun y => decide (y ∈ LT)) = true) : Ws 8 T := fun y hy => of_decide_eq_true (List.all_eq_true.mp h y hy)
theorem shp_of77 {T : List Nat} (h : (T.all fun y => decide (y ∈ SG)) = true) : Shp T := fun y hy => of_decide_eq_true (List.all_eq_true.mp h y hy)
theorem ne_of77 {a b : List Nat} (h : a.length ≤ 200 ∧ b.length ≤ 200 ∧ (a.all fun y => decide (y ∈ LT)) = true ∧ (b.all fun y => decide (y ∈ LT)) = true) : gval (.tup [.str a, .str b]) := by
  obtain ⟨h1, h2, h3, h4⟩ := h
  refine gval_tup (by simp) fun e he => ?_
  have key : ∀ T : List Nat, T.length ≤ 200 → (T.all fun y => decide (y ∈ LT)) = true → okE (.str T) := fun T hT hw => okE_str hT fun y hy => by
    have := (LT_mem (n := 8) (by omega)).mp (ws_of77 hw y hy)
    omega
  simp only [List.mem_cons, List.not_mem_nil, or_false] at he
  rcases he with rfl | rfl
  · exact key _ h1 h3
  · exact key _ h2 h4
theorem m77a : mapsA [97, 97] [97, 98, 97, 98] = [[[97, 98]]] := by decide +kernel
theorem m77b : mapsA [97, 98, 97] [97, 97, 98, 97, 97] = [[[97], [97, 98, 97]], [[97, 97], [98]]] := by decide +kernel
theorem m77c : mapsA [97, 97] [97, 98, 97] = [] := by decide +kernel
theorem m77d : (mapsA [97, 98] [97, 98, 99, 100]).length = 3 := by decide +kernel
theorem m77e : pairsL [97, 97] [97, 98, 99] = [] := by decide +kernel
theorem m77f : pairsL [97, 97] [97, 98, 99, 98, 99] = [(1, 5)] := by decide +kernel
theorem m77g : (mapsA [97] []).length = 0 := by decide +kernel
theorem m77h : mapsA [97, 97] [97, 98, 97, 99] = [] := by decide +kernel
theorem i77a : isMapB [97, 98, 97] [97, 98, 99, 97, 98] (.tup [.str [97, 98], .str [99]]) = true := by decide +kernel
theorem i77b : isMapB [97, 98, 97] [97, 98, 99, 97, 98] (.tup [.str [97], .str [98, 99, 97]]) = false := by decide +kernel
section
variable {P : Prog} {F : Nat} {x : Nat → Nat} {k : Nat} {c : Cells} {w : W}
/-- a random text -/
theorem rnd_text77 (h : H__law_some P x) {SS : List Nat} (h0 : 0 < SS.length) (hl : SS.length ≤ 1000) {el : E} {sl : Slots} (i4 : 4 < sl.length) (hel : ∀ s' : Slots, ∀ c c' y, run P F k (x n__law_some) [.cel 0, .str SS] c = .ok (.w (.str [y])) c' → s'[1]? = some (.val (.cel 0)) → elV P (run P F k) el s' c = .ok (.str [y]) c') (h1 : sl[1]? = some (.val (.cel 0))) {m : Nat} (hm : m ≤ 1000) (hc : Cup c) (hk : 2 ≤ k) :
    ∃ (T : List Nat) (c' : Cells), compS P (run P F k) el (.nm 4) .nil [4] sl ((List.range m).map fun (i : Nat) => .int (i : Int)) c = .ok (T.map fun y => .str [y]) c' ∧ Cup c' ∧ T.length = m ∧ (∀ y ∈ T, y ∈ SS) ∧ (T.map fun y => W.str [y]).length ≤ sizeL ∧ methop .join (.str []) [.lst (T.map fun y => W.str [y])] = some (.w (.str T)) := by
  obtain ⟨ra, c2, e2, hc2, hl2, hr2⟩ := compS_inv (P := P) (R := run P F k) (t := .nm 4) (el := el) (cond := .nil) (own := [4]) (sl := sl) (i := fun i : Nat => W.int (i : Int)) (I := Cup) (p := fun _ y => ∃ z, y = .str [z] ∧ z ∈ SS) (l := List.range m) (c := c) (by
    intro i hi c hc
    obtain ⟨y, c3, e3, hc3, hy⟩ := run_someS (F := F) (k := k) h (s := SS) h0 (by omega) hc hk
    refine ⟨(wipeS sl [4]).set 4 (.val (.int (i : Int))), .str [y], c3, ?_, rfl, hel _ _ _ _ e3 ?_, hc3, y, rfl, hy⟩
    · simp [wipeS, bindTg, i4]
    · simp [wipeS, h1]) hc
  obtain ⟨S, rfl, hS⟩ := chr_list (p := fun y => y ∈ SS) fun y hy => by
    obtain ⟨_, _, h⟩ := hr2 y hy
    exact h
  rw [List.length_map, List.length_range] at hl2
  exact ⟨S, c2, e2, hc2, hl2, hS, by rw [List.length_map]; unfold sizeL; omega, join_chr (by unfold sizeL; omega)⟩
theorem run_law_k77 (h : H_law_k77 P x) (ns : List Int) (hn : ns.length ≤ 63) (hk : 9 ≤ k) : run P F k (x n_law_k77) [.lst (ns.map .int)] [] = .ok (.w (.bl true)) [] := by
  obtain ⟨k, rfl⟩ := pred_of (k := k) (by omega)
  obtain ⟨a, b, e1, ha, hb, hb2⟩ := run_cup (F := F) (k := k) (c := []) ns hn h._law_cup (by omega)
  have hc : Cup [[.int a, .int b]] := ⟨a, b, rfl, ha, hb, hb2⟩
  generalize hcc : ([[.int a, .int b]] : Cells) = c0 at hc
  have x1 := run_is_shape_map (F := F) (k := k) (c := c0) h.is_shape_map (s := [97, 98, 97]) (T := [97, 98, 99, 97, 98]) (w := .tup [.str [97, 98], .str [99]]) (shp_of77 (by decide)) (by decide) (by decide) (ws_of77 (by decide)) (by decide) (ne_of77 (by decide)) (by omega)
  rw [i77a] at x1
  have x2 := run_is_shape_map (F := F) (k := k) (c := c0) h.is_shape_map (s := [97, 98, 97]) (T := [97, 98, 99, 97, 98]) (w := .tup [.str [97], .str [98, 99, 97]]) (shp_of77 (by decide)) (by decide) (by decide) (ws_of77 (by decide)) (by decide) (ne_of77 (by decide)) (by omega)
  rw [i77b] at x2
  have x3 := run_shape_map (F := F) (k := k) (c := c0) h.shape_map (s := [97, 97]) (T := [97, 98, 97, 98]) (shp_of77 (by decide)) (by decide) (by decide) (ws_of77 (by decide)) (by decide) (by omega)
  rw [m77a] at x3
  have x3 : run P F k (x n_shape_map) [.str [97, 97], .str [97, 98, 97, 98]] c0 = .ok (.w (.tup [.str [97, 98]])) c0 := x3
  have x4 := run_shape_map (F := F) (k := k) (c := c0) h.shape_map (s := [97, 98, 97]) (T := [97, 97, 98, 97, 97]) (shp_of77 (by decide)) (by decide) (by decide) (ws_of77 (by decide)) (by decide) (by omega)
  rw [m77b] at x4
  have x4 : run P F k (x n_shape_map) [.str [97, 98, 97], .str [97, 97, 98, 97, 97]] c0 = .ok (.w (.tup [.str [97], .str [97, 98, 97]])) c0 := x4
  have x5 := run_shape_map (F := F) (k := k) (c := c0) h.shape_map (s := [97, 97]) (T := [97, 98, 97]) (shp_of77 (by decide)) (by decide) (by decide) (ws_of77 (by decide)) (by decide) (by omega)
  rw [m77c] at x5
  have x5 : run P F k (x n_shape_map) [.str [97, 97], .str [97, 98, 97]] c0 = .ok (.w .non) c0 := x5
  have x6 := run_count_shape_maps (F := F) (k := k) (c := c0) h.count_shape_maps (s := [97, 98, 97]) (T := [97, 97, 98, 97, 97]) (shp_of77 (by decide)) (by decide) (by decide) (ws_of77 (by decide)) (by decide) (by omega)
  rw [m77b] at x6
  have x6 : run P F k (x n_count_shape_maps) [.str [97, 98, 97], .str [97, 97, 98, 97, 97]] c0 = .ok (.w (.int 2)) c0 := x6
  have x7 := run_count_shape_maps (F := F) (k := k) (c := c0) h.count_shape_maps (s := [97, 98]) (T := [97, 98, 99, 100]) (shp_of77 (by decide)) (by decide) (by decide) (ws_of77 (by decide)) (by decide) (by omega)
  rw [m77d] at x7
  have x7 : run P F k (x n_count_shape_maps) [.str [97, 98], .str [97, 98, 99, 100]] c0 = .ok (.w (.int 3)) c0 := x7
  have x8 := run_stands_under (F := F) (k := k) (c := c0) h.stands_under (s := [97, 97]) (T := [97, 98, 99]) (shp_of77 (by decide)) (by decide) (by decide) (ws_of77 (by decide)) (by decide) (by omega)
  unfold dueW at x8
  rw [m77e] at x8
  have x8 : run P F k (x n_stands_under) [.str [97, 97], .str [97, 98, 99]] c0 = .ok (.w (.bl false)) c0 := x8
  have x9 := run_stands_under (F := F) (k := k) (c := c0) h.stands_under (s := [97, 97]) (T := [97, 98, 99, 98, 99]) (shp_of77 (by decide)) (by decide) (by decide) (ws_of77 (by decide)) (by decide) (by omega)
  unfold dueW at x9
  rw [m77f] at x9
  have x9 : run P F k (x n_stands_under) [.str [97, 97], .str [97, 98, 99, 98, 99]] c0 = .ok (.w (.bl true)) c0 := x9
  have x10 := run_under_place (F := F) (k := k) (c := c0) h.under_place (s := [97, 97]) (T := [97, 98, 99, 98, 99]) (shp_of77 (by decide)) (by decide) (by decide) (ws_of77 (by decide)) (by decide) (by omega)
  unfold dueW at x10
  rw [m77f] at x10
  have x10 : run P F k (x n_under_place) [.str [97, 97], .str [97, 98, 99, 98, 99]] c0 = .ok (.w (.tup [.int 1, .int 5])) c0 := x10
  have x11 := run_count_shape_maps (F := F) (k := k) (c := c0) h.count_shape_maps (s := [97]) (T := []) (shp_of77 (by decide)) (by decide) (by decide) (ws_of77 (by decide)) (by decide) (by omega)
  rw [m77g] at x11
  have x11 : run P F k (x n_count_shape_maps) [.str [97], .str []] c0 = .ok (.w (.int 0)) c0 := x11
  have x12 := run_shape_map (F := F) (k := k) (c := c0) h.shape_map (s := [97, 97]) (T := [97, 98, 97, 99]) (shp_of77 (by decide)) (by decide) (by decide) (ws_of77 (by decide)) (by decide) (by omega)
  rw [m77h] at x12
  have x12 : run P F k (x n_shape_map) [.str [97, 97], .str [97, 98, 97, 99]] c0 = .ok (.w .non) c0 := x12
  generalize hTL : ([.bl true, .bl false, .tup [.str [97, 98]], .tup [.str [97], .str [97, 98, 97]], .non, .int 2, .int 3, .bl false, .bl true, .tup [.int 1, .int 5], .int 0, .non] : List W) = TL
  have hTLl : TL.length ≤ sizeL := by rw [← hTL]; unfold sizeL; simp
  have x13 := run_like_eq (F := F) h._law_like 2 (w := .lst TL) (by rw [← hTL]; exact lk_of 2 rfl) (k := k) (c := c0) (by omega)
  have ad1 : binop .add (.lst [.bl true, .bl false, .tup [.str [97, 98]], .tup [.str [97], .str [97, 98, 97]]]) (.lst [.non, .int 2, .int 3, .bl false]) = some (.own (.lst [.bl true, .bl false, .tup [.str [97, 98]], .tup [.str [97], .str [97, 98, 97]], .non, .int 2, .int 3, .bl false])) := b_addL (by unfold sizeL; simp)
  have ad2 : binop .add (.lst [.bl true, .bl false, .tup [.str [97, 98]], .tup [.str [97], .str [97, 98, 97]], .non, .int 2, .int 3, .bl false]) (.lst [.bl true, .tup [.int 1, .int 5], .int 0, .non]) = some (.own (.lst TL)) := by
    rw [← hTL]
    exact b_addL (by unfold sizeL; simp)
  -- the loops
  obtain ⟨z3, z7, z8, z9, z10, z11, c1, m1, hc1⟩ := k77_loop1 (P := P) (F := F) (x := x) (k := k) h hc (by omega) (.val (.lst (ns.map .int))) (.val (.lst TL))
  have hl1 : ([(6, 2), (10, 3), (12, 4), (20, 5)] : List (Nat × Nat)).map pW77 = [.tup [.int 6, .int 2], .tup [.int 10, .int 3], .tup [.int 12, .int 4], .tup [.int 20, .int 5]] := rfl
  rw [hl1] at m1
  obtain ⟨i, hi, c2, f1, hc2⟩ := run_someL (F := F) (k := k) h._law_some (xs := [.str [97, 98, 97, 98], .str [97, 97, 98], .str [97, 98, 98, 97], .str [97, 97, 97]]) (by simp) (by simp) hc1 (by omega)
  obtain ⟨q, hq, q1, q2, q3⟩ : ∃ q, ([.str [97, 98, 97, 98], .str [97, 97, 98], .str [97, 98, 98, 97], .str [97, 97, 97]] : List W)[i] = .str q ∧ Shp q ∧ 1 ≤ q.length ∧ q.length ≤ 6 := by
    have := List.getElem_mem hi
    generalize ([.str [97, 98, 97, 98], .str [97, 97, 98], .str [97, 98, 98, 97], .str [97, 97, 97]] : List W)[i] = v at this
    simp only [List.mem_cons, List.not_mem_nil, or_false] at this
    rcases this with rfl | rfl | rfl | rfl <;> exact ⟨_, rfl, shp_of77 (by decide), by decide, by decide⟩
  rw [hq] at f1
  obtain ⟨y3, y7, c3, m2, hc3⟩ := k77_loop2 (P := P) (F := F) (x := x) (k := k) h hc2 (by omega) (l := [([97, 97], 12), ([97, 98, 97], 8), (q, 8)]) (by
    intro p hp
    simp only [List.mem_cons, List.not_mem_nil, or_false] at hp
    rcases hp with rfl | rfl | rfl
    · exact ⟨shp_of77 (by decide), by decide, by decide, by decide⟩
    · exact ⟨shp_of77 (by decide), by decide, by decide, by decide⟩
    · exact ⟨q1, q2, q3, by show 8 ≤ 14; omega⟩) (.val (.lst (ns.map .int))) (.val (.lst TL)) z3 z7 z8 z9 z10 z11
  have hl2 : ([([97, 97], 12), ([97, 98, 97], 8), (q, 8)] : List (List Nat × Nat)).map qW77 = [.tup [.str [97, 97], .int 12], .tup [.str [97, 98, 97], .int 8], .tup [.str q, .int 8]] := rfl
  rw [hl2] at m2
  -- a shape of three to six signs
  obtain ⟨r1, c4, f2, hc4, r10, r11⟩ := run_roll (F := F) (k := k) h._law_roll (n := 4) (by omega) (by omega) hc3 (by omega)
  obtain ⟨r, rfl⟩ : ∃ n : Nat, r1 = (n : Int) := ⟨r1.toNat, by omega⟩
  have hSG : ([97, 98, 99, 100] : List Nat) = SG := rfl
  obtain ⟨ra, c5, f3, hc5, hl3, hr3⟩ := compS_inv (P := P) (R := run P F k) (t := .nm 4) (el := F_law_k77_e4 x) (cond := .nil) (own := [4]) (sl := [.val (.lst (ns.map .int)), .val (.cel 0), .val (.lst TL), y3, .none, .none, .none, y7, z8, z9, z10, z11, .none, .none, .none]) (i := fun i : Nat => W.int (i : Int)) (I := Cup) (p := fun _ y => ∃ z, y = .str [z] ∧ z ∈ SG) (l := List.range (3 + r)) (c := c4) (by
    intro i hi c hc
    obtain ⟨r2, c2, e2, hc2, r20, r21⟩ := run_roll (F := F) (k := k) h._law_roll (n := 3) (by omega) (by omega) hc (by omega)
    obtain ⟨r2, rfl⟩ : ∃ n : Nat, r2 = (n : Int) := ⟨r2.toNat, by omega⟩
    have hs : slice (.str SG) none (some (2 + (r2 : Int))) = some (.w (.str (SG.take (2 + r2)))) := by
      rw [show 2 + (r2 : Int) = ((2 + r2 : Nat) : Int) by push_cast; rfl, slc_str (by decide), cut_toN]
    have hlen : 0 < (SG.take (2 + r2)).length := by rw [List.length_take, show SG.length = 4 from rfl]; omega
    have hlen2 : (SG.take (2 + r2)).length ≤ 4 := by rw [List.length_take, show SG.length = 4 from rfl]; omega
    have hin : ∀ y ∈ SG.take (2 + r2), y ∈ SG := fun y hy => List.mem_of_mem_take hy
    generalize SG.take (2 + r2) = SS at hs hlen hlen2 hin
    obtain ⟨y, c3, e3, hc3, hy⟩ := run_someS (F := F) (k := k) h._law_some (s := SS) hlen (by omega) hc2 (by omega)
    exact ⟨_, .str [y], c3, rfl, rfl, by simp [elV, F_law_k77_e4, wipeS, e2, hSG, hs, e3], hc3, y, rfl, hin y hy⟩) hc4
  obtain ⟨S, rfl, hS⟩ := chr_list (p := fun y => y ∈ SG) fun y hy => by
    obtain ⟨_, _, h⟩ := hr3 y hy
    exact h
  have hS : Shp S := hS
  rw [List.length_map, List.length_range] at hl3
  rw [← rangeW_zero] at f3
  have hjS := join_chr (T := S) (by unfold sizeL; omega)
  have hzS : (S.map fun y => W.str [y]).length ≤ sizeL := by rw [List.length_map]; unfold sizeL; omega
  have hbr : bound62 (3 + (r : Int)) = true := bound_int (by omega) (by omega)
  have htr : (3 + (r : Int)).toNat = 3 + r := by omega
  -- a word of fourteen letters at most
  obtain ⟨T1, c6, f4, hc6, hT1l, hT1⟩ := run_word (F := F) (k := k) h._law_word (most := 14) (letters := 2) (by omega) (by omega) (by omega) hc5 (by omega)
  rw [show ((14 : Nat) : Int) = 14 from rfl, show ((2 : Nat) : Int) = 2 from rfl] at f4
  have hel5 : ∀ s' : Slots, ∀ c c' y, run P F k (x n__law_some) [.cel 0, .str [97, 98, 99]] c = .ok (.w (.str [y])) c' → s'[1]? = some (.val (.cel 0)) → elV P (run P F k) (F_law_k77_e5 x) s' c = .ok (.str [y]) c' := fun s' c c' y e hs => by
    simp [elV, F_law_k77_e5, hs, e]
  have hel6 : ∀ s' : Slots, ∀ c c' y, run P F k (x n__law_some) [.cel 0, .str [97, 98, 99]] c = .ok (.w (.str [y])) c' → s'[1]? = some (.val (.cel 0)) → elV P (run P F k) (F_law_k77_e6 x) s' c = .ok (.str [y]) c' := fun s' c c' y e hs => by
    simp [elV, F_law_k77_e6, hs, e]
  obtain ⟨T2, c7, f5, hc7, hT2l, hT2, hzT2, hjT2⟩ := rnd_text77 (P := P) (F := F) (x := x) (k := k) h._law_some (SS := [97, 98, 99]) (by decide) (by decide) (el := F_law_k77_e5 x) (sl := [.val (.lst (ns.map .int)), .val (.cel 0), .val (.lst TL), .val (.str S), .none, .none, .none, y7, z8, z9, z10, z11, .none, .none, .none]) (by simp) hel5 rfl (m := 14) (by omega) hc6 (by omega)
  rw [← rangeW_zero] at f5
  have w3 : ∀ y ∈ ([97, 98, 99] : List Nat), y ∈ LT.take 8 := by decide
  have hT2w : Ws 8 T2 := fun y hy => w3 y (hT2 y hy)
  obtain ⟨j, hj, c8, f6, hc8⟩ := run_someL (F := F) (k := k) h._law_some (xs := [.str T1, .str T2]) (by simp) (by simp) hc7 (by omega)
  obtain ⟨U, hU, u1, u2⟩ : ∃ U, ([.str T1, .str T2] : List W)[j] = .str U ∧ Ws 8 U ∧ U.length ≤ 14 := by
    have := List.getElem_mem hj
    generalize ([.str T1, .str T2] : List W)[j] = v at this
    simp only [List.mem_cons, List.not_mem_nil, or_false] at this
    rcases this with rfl | rfl
    · exact ⟨_, rfl, hT1.mono (by omega), hT1l⟩
    · exact ⟨_, rfl, hT2w, by omega⟩
  rw [hU] at f6
  have f7 := run_stands_right (F := F) (k := k) (c := c8) h._law_stands_right hS (by omega) (by omega) u1 u2 (by omega)
  have hb14 : bound62 14 = true := by decide
  have ht14 : (14 : Int).toNat = 14 := rfl
  -- unlike letters
  obtain ⟨r2, c9, f8, hc9, r20, r21⟩ := run_roll (F := F) (k := k) h._law_roll (n := 40) (by omega) (by omega) hc8 (by omega)
  obtain ⟨r3, c10, f9, hc10, r30, r31⟩ := run_roll (F := F) (k := k) h._law_roll (n := 4) (by omega) (by omega) hc9 (by omega)
  obtain ⟨n, hnn⟩ : ∃ n : Nat, 1 + r2 = (n : Int) := ⟨(1 + r2).toNat, by omega⟩
  obtain ⟨m, hmm⟩ : ∃ m : Nat, 1 + r3 = (m : Int) := ⟨(1 + r3).toNat, by omega⟩
  have hn1 : 1 ≤ n := by omega
  have hn2 : n ≤ 40 := by omega
  have hm1 : 1 ≤ m := by omega
  have hm2 : m ≤ 4 := by omega
  obtain ⟨T, c11, f10, hc11, hTl, hTin, hzT, hjT⟩ := rnd_text77 (P := P) (F := F) (x := x) (k := k) h._law_some (SS := [97, 98, 99]) (by decide) (by decide) (el := F_law_k77_e6 x) (sl := [.val (.lst (ns.map .int)), .val (.cel 0), .val (.lst TL), .val (.str S), .none, .none, .none, y7, .val (.int (n : Int)), z9, z10, z11, .val (.int (m : Int)), .none, .none]) (by simp) hel6 rfl (m := n) (by omega) hc10 (by omega)
  rw [← rangeW_zero] at f10
  have hTw : Ws 8 T := fun y hy => w3 y (hTin y hy)
  have hbn : bound62 (n : Int) = true := bound_nat (by omega)
  obtain ⟨y4, f11⟩ := k77_cuts (P := P) (F := F) (x := x) (c := c11) (run P F k) hn2 .none (.val (.lst (ns.map .int))) (.val (.cel 0)) (.val (.lst TL)) (.val (.str S)) .none .none y7 z9 z10 (.val (.str T)) (.val (.int (m : Int))) .none (m - 1) (by omega)
  rw [← rangeW_zero] at f11
  have hbm : bound62 ((m : Int) - 1) = true := bound_int (by omega) (by omega)
  have htm : ((m : Int) - 1).toNat = m - 1 := by omega
  -- one letter so many times
  obtain ⟨r4, c12, f12, hc12, r40, r41⟩ := run_roll (F := F) (k := k) h._law_roll (n := 6) (by omega) (by omega) hc11 (by omega)
  obtain ⟨t, htt⟩ : ∃ t : Nat, 1 + r4 = (t : Int) := ⟨(1 + r4).toNat, by omega⟩
  have ht1 : 1 ≤ t := by omega
  have ht6 : t ≤ 6 := by omega
  obtain ⟨V, c13, f13, hc13, hVl, hV⟩ := run_word (F := F) (k := k) h._law_word (most := 5) (letters := 3) (by omega) (by omega) (by omega) hc12 (by omega)
  rw [show ((5 : Nat) : Int) = 5 from rfl, show ((3 : Nat) : Int) = 3 from rfl] at f13
  have hVd : binop .add (.str V) (.str [100]) = some (.w (.str (V ++ [100]))) := b_addS (by unfold sizeL; simp; omega)
  have hpl : (V ++ [100]).length ≤ 6 := by rw [List.length_append]; simp; omega
  have hpn : V ++ [100] ≠ [] := by simp
  have hpw : Ws 8 (V ++ [100]) := (hV.mono (by omega)).app fun y hy => by rw [List.mem_singleton.mp hy]; decide
  generalize V ++ [100] = p at hVd hpl hpn hpw
  have hmul1 : binop .mul (.str [97]) (.int (t : Int)) = some (.w (.str (List.replicate t 97))) := by
    rw [b_mulS (by unfold sizeL; simp; omega) (by omega), rep_one77]
  have hmul2 : binop .mul (.str p) (.int (t : Int)) = some (.w (.str (List.replicate t p).flatten)) := by
    have : p.length * t ≤ 36 := Nat.mul_le_mul hpl ht6
    exact b_mulS (by unfold sizeL; omega) (by omega)
  have hslm : slice (.str SG) none (some (m : Int)) = some (.w (.str (SG.take m))) := by rw [slc_str (by decide), cut_toN]
  have hml : (SG.take m).length = m := by rw [List.length_take, show SG.length = 4 from rfl]; omega
  have x14 := run_count_shape_maps (F := F) (k := k) (c := c13) h.count_shape_maps (s := SG.take m) (T := T) (fun y hy => List.mem_of_mem_take hy) (by omega) (by omega) hTw (by omega) (by omega)
  rw [cnt_is hm1 hm2 hn1 hTl] at x14
  have hrl := rep_len t p
  have hrl2 : t * p.length ≤ 36 := Nat.mul_le_mul ht6 hpl
  have x15 := run_shape_map (F := F) (k := k) (c := c13) h.shape_map (s := List.replicate t 97) (T := (List.replicate t p).flatten) (fun y hy => by rw [(List.mem_replicate.mp hy).2]; decide) (by rw [List.length_replicate]; exact ht1) (by rw [List.length_replicate]; exact ht6) hpw.rep (by omega) (by omega)
  rw [rep_maps ht1 hpn] at x15
  have x16 := run_is_piece77 (F := F) (k := k) (c := c13) h.is_piece (T := T) (U := T.take 1) (strOf_ws hTw (by omega)) (strOf_ws hTw.take (by rw [List.length_take]; omega)) (by omega)
  have hin : inStr (T.take 1) T = true := by
    cases T with
    | nil => simp at hTl; omega
    | cons y r =>
      show inStr [y] (y :: r) = true
      rw [inStr_one]
      simp
  rw [hin] at x16
  have hc1' : cut T none (some 1) = T.take 1 := cut_toN (b := 1)
  have x17 := run_like_eq (F := F) h._law_like 2 (w := .lst [.int (if m ≤ n then cutsI n (m - 1) else 0), .tup [.str p], .bl true]) (lk_of 2 rfl) (k := k) (c := c13) (by omega)
  generalize (List.replicate t p).flatten = RP at hmul2 x15
  generalize List.replicate t 97 = RA at hmul1 x15
  generalize SG.take m = SM at hslm x14
  generalize T.take 1 = TO at hc1' x16
  refine run_law_end (c' := c13) h.f rfl ?_
  refine stepK (fun K => by simp [F_law_k77, e1, hcc]; try with_reducible rfl) ?_
  refine stepK (fun K => by simp [x1, x2, x3, x4]; try with_reducible rfl) ?_
  refine stepK (fun K => by simp [x5, x6, x7, x8, ad1]; try with_reducible rfl) ?_
  refine stepK (fun K => by simp [x9, x10, x11, x12, ad2]; try with_reducible rfl) ?_
  refine stepK (fun K => by simp [hTL, hTLl, x13]; try with_reducible rfl) ?_
  refine stepK (fun K => by simp [m1]; try with_reducible rfl) ?_
  refine stepK (fun K => by simp [f1, m2]; try with_reducible rfl) ?_
  refine stepK (s2 := [.val (.lst (ns.map .int)), .val (.cel 0), .val (.lst TL), .val (.str S), .none, .none, .none, y7, z8, z9, z10, z11, .none, .none, .none]) (c2 := c5) (fun K => by
    generalize (S.map fun y => W.str [y]) = A2 at f3 hjS hzS
    simp [f2, hbr, htr, f3, hzS, hjS]) ?_
  refine stepK (s2 := [.val (.lst (ns.map .int)), .val (.cel 0), .val (.lst TL), .val (.str S), .none, .none, .none, y7, z8, z9, z10, z11, .none, .none, .none]) (c2 := c8) (fun K => by
    generalize (T2.map fun y => W.str [y]) = A2 at f5 hjT2 hzT2
    simp [f4, hb14, ht14, f5, hzT2, hjT2, f6, f7]) ?_
  refine stepK (fun K => by simp [f8, f9, hnn, hmm, parW, Val.keep]; try with_reducible rfl) ?_
  refine stepK (s2 := [.val (.lst (ns.map .int)), .val (.cel 0), .val (.lst TL), .val (.str S), .none, .none, .none, y7, .val (.int (n : Int)), z9, z10, .val (.str T), .val (.int (m : Int)), .val (.int 1), .none]) (c2 := c11) (fun K => by
    generalize (T.map fun y => W.str [y]) = A2 at f10 hjT hzT
    simp [hbn, f10, hzT, hjT, parW, Val.keep]) ?_
  refine stepK (fun K => by simp [hbm, htm, f11]; try with_reducible rfl) ?_
  refine stepK (fun K => by simp [f12, htt]; try with_reducible rfl) ?_
  refine stepK (fun K => by simp [f13, hVd]; try with_reducible rfl) ?_
  refine stepK (fun K => by simp [hSG, hslm, x14, hmul1, hmul2, x15, slc_str (size200 (T := T) (by omega)), hc1', x16]; try with_reducible rfl) ?_
  by_cases hmn : m ≤ n
  · rw [if_pos hmn] at x17
    have : (m : Int) ≤ (n : Int) := by omega
    simp only [if_pos hmn]
    exact stepR (by simp [this, hmn, x17])
  · rw [if_neg hmn] at x17
    have : ¬ (m : Int) ≤ (n : Int) := by omega
    simp only [if_neg hmn]
    exact stepR (by simp [this, hmn, x17])
end
end Cw

end
section
set_option maxRecDepth 100000
namespace L77
open PySem PySem.Spec PyProof.Rows L2 Cw
abbrev topS (i : Nat) : Stmt := PySem.Challenge.pw_wordslaid_k77_whole_shapes_under_words.main.body.getD i (.Pass ⟨0, 0, 0, 0⟩)
def look (n : Nat) : List (Nat × Nat) → Nat
  | [] => 0
  | (a, b) :: r => if a == n then b else look n r
def ix (n : Nat) : Nat := look n [(n_is_tuple_of, 0), (n_is_string_of, 1), (n_fits_word, 2), (n_need_word, 3), (n_need_words, 4), (n_letters_met, 5), (n_usual_in, 6), (n_usual_word, 7), (n_is_piece, 8), (n_need_shape, 9), (n_letters_under, 10), (n_word_by_map, 11), (n_length_rows, 12), (n_map_by_lengths, 13), (n_maps_in, 14), (n_fits_shape_map, 15), (n_place_under, 16), (n_need_few_signs, 17), (n_is_shape_map, 18), (n_shape_map, 19), (n_count_shape_maps, 20), (n_stands_under, 21), (n_under_place, 22), (n__law_cup, 23), (n__law_roll, 24), (n__law_some, 25), (n__law_sort, 26), (n__law_like, 27), (n__law_word, 28), (n__law_bent, 29), (n__law_maps, 30), (n__law_is_map, 31), (n__law_right_k77, 32), (n__law_stands_right, 33), (n_law_k77, 34), (c_LETTERS, 0), (c_MOST, 1), (c_SIGNS, 2), (c_LONGEST, 3), (c_MAPPED, 4), (c_STOOD, 5)]
def prog : Prog := ⟨[F_is_tuple_of ix, F_is_string_of ix, F_fits_word ix, F_need_word ix, F_need_words ix, F_letters_met ix, F_usual_in ix, F_usual_word ix, F_is_piece ix, F_need_shape ix, F_letters_under ix, F_word_by_map ix, F_length_rows ix, F_map_by_lengths ix, F_maps_in ix, F_fits_shape_map ix, F_place_under ix, F_need_few_signs ix, F_is_shape_map ix, F_shape_map ix, F_count_shape_maps ix, F_stands_under ix, F_under_place ix, F__law_cup ix, F__law_roll ix, F__law_some ix, F__law_sort ix, F__law_like ix, F__law_word ix, F__law_bent ix, F__law_maps ix, F__law_is_map ix, F__law_right_k77 ix, F__law_stands_right ix, F_law_k77 ix], [(.str [97, 98, 99, 100, 101, 102, 103, 104]), (.int 200), (.str [97, 98, 99, 100]), (.int 6), (.int 40), (.int 14)]⟩
def gx : Gx := { fns := [(("is_tuple_of" : Str), 3), (("is_string_of" : Str), 4), (("fits_word" : Str), 1), (("need_word" : Str), 1), (("need_words" : Str), 2), (("letters_met" : Str), 1), (("usual_in" : Str), 1), (("usual_word" : Str), 1), (("is_piece" : Str), 2), (("need_shape" : Str), 1), (("letters_under" : Str), 1), (("word_by_map" : Str), 2), (("length_rows" : Str), 2), (("map_by_lengths" : Str), 3), (("maps_in" : Str), 2), (("fits_shape_map" : Str), 3), (("place_under" : Str), 2), (("need_few_signs" : Str), 2), (("is_shape_map" : Str), 3), (("shape_map" : Str), 2), (("count_shape_maps" : Str), 2), (("stands_under" : Str), 2), (("under_place" : Str), 2), (("_law_cup" : Str), 1), (("_law_roll" : Str), 2), (("_law_some" : Str), 2), (("_law_sort" : Str), 1), (("_law_like" : Str), 2), (("_law_word" : Str), 3), (("_law_bent" : Str), 2), (("_law_maps" : Str), 2), (("_law_is_map" : Str), 3), (("_law_right" : Str), 3), (("_law_stands_right" : Str), 2), (("law" : Str), 1)], consts := [("LETTERS" : Str), ("MOST" : Str), ("SIGNS" : Str), ("LONGEST" : Str), ("MAPPED" : Str), ("STOOD" : Str)], tm := false }
def d_is_tuple_of : DefI := ⟨"is_tuple_of", topS 7, ["value", "low", "high"], ["value", "low", "high"]⟩
def d_is_string_of : DefI := ⟨"is_string_of", topS 8, ["value", "signs", "low", "high", "sign"], ["value", "signs", "low", "high"]⟩
def d_fits_word : DefI := ⟨"fits_word", topS 9, ["value"], ["value"]⟩
def d_need_word : DefI := ⟨"need_word", topS 10, ["value"], ["value"]⟩
def d_need_words : DefI := ⟨"need_words", topS 11, ["word", "other"], ["word", "other"]⟩
def d_letters_met : DefI := ⟨"letters_met", topS 12, ["word", "found", "letter"], ["word"]⟩
def d_usual_in : DefI := ⟨"usual_in", topS 13, ["word", "met", "letter"], ["word"]⟩
def d_usual_word : DefI := ⟨"usual_word", topS 14, ["word"], ["word"]⟩
def d_is_piece : DefI := ⟨"is_piece", topS 15, ["word", "other"], ["word", "other"]⟩
def d_need_shape : DefI := ⟨"need_shape", topS 21, ["value"], ["value"]⟩
def d_letters_under : DefI := ⟨"letters_under", topS 22, ["shape", "letter"], ["shape"]⟩
def d_word_by_map : DefI := ⟨"word_by_map", topS 23, ["shape", "value", "letters", "letter"], ["shape", "value"]⟩
def d_length_rows : DefI := ⟨"length_rows", topS 24, ["shape", "size", "letters", "found", "at", "letter", "later", "many", "behind", "row", "left", "least", "length", "other"], ["shape", "size"]⟩
def d_map_by_lengths : DefI := ⟨"map_by_lengths", topS 25, ["shape", "word", "lengths", "letter", "letters", "found", "at", "size", "piece"], ["shape", "word", "lengths"]⟩
def d_maps_in : DefI := ⟨"maps_in", topS 26, ["shape", "word", "found", "lengths", "value"], ["shape", "word"]⟩
def d_fits_shape_map : DefI := ⟨"fits_shape_map", topS 27, ["shape", "word", "value", "many", "part"], ["shape", "word", "value"]⟩
def d_place_under : DefI := ⟨"place_under", topS 28, ["shape", "word", "begin", "end"], ["shape", "word"]⟩
def d_need_few_signs : DefI := ⟨"need_few_signs", topS 29, ["word", "most"], ["word", "most"]⟩
def d_is_shape_map : DefI := ⟨"is_shape_map", topS 30, ["shape", "word", "value"], ["shape", "word", "value"]⟩
def d_shape_map : DefI := ⟨"shape_map", topS 31, ["shape", "word", "found"], ["shape", "word"]⟩
def d_count_shape_maps : DefI := ⟨"count_shape_maps", topS 32, ["shape", "word"], ["shape", "word"]⟩
def d_stands_under : DefI := ⟨"stands_under", topS 33, ["shape", "word"], ["shape", "word"]⟩
def d_under_place : DefI := ⟨"under_place", topS 34, ["shape", "word"], ["shape", "word"]⟩
def d__law_cup : DefI := ⟨"_law_cup", topS 36, ["script", "cell"], ["script"]⟩
def d__law_roll : DefI := ⟨"_law_roll", topS 37, ["cup", "many", "deep", "found"], ["cup", "many"]⟩
def d__law_some : DefI := ⟨"_law_some", topS 38, ["cup", "things"], ["cup", "things"]⟩
def d__law_sort : DefI := ⟨"_law_sort", topS 39, ["value"], ["value"]⟩
def d__law_like : DefI := ⟨"_law_like", topS 40, ["one", "other", "sort", "first", "second"], ["one", "other"]⟩
def d__law_word : DefI := ⟨"_law_word", topS 41, ["cup", "most", "letters", "turn", "piece", "way", "size", "signs", "found"], ["cup", "most", "letters"]⟩
def d__law_bent : DefI := ⟨"_law_bent", topS 42, ["cup", "value", "some", "at", "way"], ["cup", "value"]⟩
def d__law_maps : DefI := ⟨"_law_maps", topS 43, ["shape", "word", "found", "letters", "at", "sign", "longer", "behind", "told", "left", "size", "more", "own"], ["shape", "word"]⟩
def d__law_is_map : DefI := ⟨"_law_is_map", topS 44, ["shape", "word", "value", "letters", "part", "sign"], ["shape", "word", "value"]⟩
def d__law_right : DefI := ⟨"_law_right", topS 45, ["cup", "shape", "word", "first", "some", "values", "at", "value", "every", "told", "part"], ["cup", "shape", "word"]⟩
def d__law_stands_right : DefI := ⟨"_law_stands_right", topS 46, ["shape", "word", "pairs", "begin", "due", "end"], ["shape", "word"]⟩
def d_law : DefI := ⟨"law", topS 47, ["script", "cup", "told", "shape", "at", "times", "part", "most", "size", "parts", "made", "word", "many", "cuts", "sign"], ["script"]⟩
def defs : List DefI := [d_is_tuple_of, d_is_string_of, d_fits_word, d_need_word, d_need_words, d_letters_met, d_usual_in, d_usual_word, d_is_piece, d_need_shape, d_letters_under, d_word_by_map, d_length_rows, d_map_by_lengths, d_maps_in, d_fits_shape_map, d_place_under, d_need_few_signs, d_is_shape_map, d_shape_map, d_count_shape_maps, d_stands_under, d_under_place, d__law_cup, d__law_roll, d__law_some, d__law_sort, d__law_like, d__law_word, d__law_bent, d__law_maps, d__law_is_map, d__law_right, d__law_stands_right, d_law]
theorem c_is_tuple_of : chkFn gx d_is_tuple_of (F_is_tuple_of ix) = true := by decide +kernel
theorem c_is_string_of : chkFn gx d_is_string_of (F_is_string_of ix) = true := by decide +kernel
theorem c_fits_word : chkFn gx d_fits_word (F_fits_word ix) = true := by decide +kernel
theorem c_need_word : chkFn gx d_need_word (F_need_word ix) = true := by decide +kernel
theorem c_need_words : chkFn gx d_need_words (F_need_words ix) = true := by decide +kernel
theorem c_letters_met : chkFn gx d_letters_met (F_letters_met ix) = true := by decide +kernel
theorem c_usual_in : chkFn gx d_usual_in (F_usual_in ix) = true := by decide +kernel
theorem c_usual_word : chkFn gx d_usual_word (F_usual_word ix) = true := by decide +kernel
theorem c_is_piece : chkFn gx d_is_piece (F_is_piece ix) = true := by decide +kernel
theorem c_need_shape : chkFn gx d_need_shape (F_need_shape ix) = true := by decide +kernel
theorem c_letters_under : chkFn gx d_letters_under (F_letters_under ix) = true := by decide +kernel
theorem c_word_by_map : chkFn gx d_word_by_map (F_word_by_map ix) = true := by decide +kernel
theorem c_length_rows : chkFn gx d_length_rows (F_length_rows ix) = true := by decide +kernel
theorem c_map_by_lengths : chkFn gx d_map_by_lengths (F_map_by_lengths ix) = true := by decide +kernel
theorem c_maps_in : chkFn gx d_maps_in (F_maps_in ix) = true := by decide +kernel
theorem c_fits_shape_map : chkFn gx d_fits_shape_map (F_fits_shape_map ix) = true := by decide +kernel
theorem c_place_under : chkFn gx d_place_under (F_place_under ix) = true := by decide +kernel
theorem c_need_few_signs : chkFn gx d_need_few_signs (F_need_few_signs ix) = true := by decide +kernel
theorem c_is_shape_map : chkFn gx d_is_shape_map (F_is_shape_map ix) = true := by decide +kernel
theorem c_shape_map : chkFn gx d_shape_map (F_shape_map ix) = true := by decide +kernel
theorem c_count_shape_maps : chkFn gx d_count_shape_maps (F_count_shape_maps ix) = true := by decide +kernel
theorem c_stands_under : chkFn gx d_stands_under (F_stands_under ix) = true := by decide +kernel
theorem c_under_place : chkFn gx d_under_place (F_under_place ix) = true := by decide +kernel
theorem c__law_cup : chkFn gx d__law_cup (F__law_cup ix) = true := by decide +kernel
theorem c__law_roll : chkFn gx d__law_roll (F__law_roll ix) = true := by decide +kernel
theorem c__law_some : chkFn gx d__law_some (F__law_some ix) = true := by decide +kernel
theorem c__law_sort : chkFn gx d__law_sort (F__law_sort ix) = true := by decide +kernel
theorem c__law_like : chkFn gx d__law_like (F__law_like ix) = true := by decide +kernel
theorem c__law_word : chkFn gx d__law_word (F__law_word ix) = true := by decide +kernel
theorem c__law_bent : chkFn gx d__law_bent (F__law_bent ix) = true := by decide +kernel
theorem c__law_maps : chkFn gx d__law_maps (F__law_maps ix) = true := by decide +kernel
theorem c__law_is_map : chkFn gx d__law_is_map (F__law_is_map ix) = true := by decide +kernel
theorem c__law_right : chkFn gx d__law_right (F__law_right_k77 ix) = true := by decide +kernel
theorem c__law_stands_right : chkFn gx d__law_stands_right (F__law_stands_right ix) = true := by decide +kernel
theorem c_law : chkFn gx d_law (F_law_k77 ix) = true := by decide +kernel
theorem b_is_tuple_of (K : PySem.W.Frag) (fa : Addr) (fd : FuncData) (F : L2.Fun K d_is_tuple_of.x d_is_tuple_of.x d_is_tuple_of.st fa fd) : L2.Binds K fd d_is_tuple_of.ps [] := F.binds fun _ _ _ _ _ _ us hl => match us, hl with | [_, _, _], _ => rfl
theorem b_is_string_of (K : PySem.W.Frag) (fa : Addr) (fd : FuncData) (F : L2.Fun K d_is_string_of.x d_is_string_of.x d_is_string_of.st fa fd) : L2.Binds K fd d_is_string_of.ps [] := F.binds fun _ _ _ _ _ _ us hl => match us, hl with | [_, _, _, _], _ => rfl
theorem b_fits_word (K : PySem.W.Frag) (fa : Addr) (fd : FuncData) (F : L2.Fun K d_fits_word.x d_fits_word.x d_fits_word.st fa fd) : L2.Binds K fd d_fits_word.ps [] := F.binds fun _ _ _ _ _ _ us hl => match us, hl with | [_], _ => rfl
theorem b_need_word (K : PySem.W.Frag) (fa : Addr) (fd : FuncData) (F : L2.Fun K d_need_word.x d_need_word.x d_need_word.st fa fd) : L2.Binds K fd d_need_word.ps [] := F.binds fun _ _ _ _ _ _ us hl => match us, hl with | [_], _ => rfl
theorem b_need_words (K : PySem.W.Frag) (fa : Addr) (fd : FuncData) (F : L2.Fun K d_need_words.x d_need_words.x d_need_words.st fa fd) : L2.Binds K fd d_need_words.ps [] := F.binds fun _ _ _ _ _ _ us hl => match us, hl with | [_, _], _ => rfl
theorem b_letters_met (K : PySem.W.Frag) (fa : Addr) (fd : FuncData) (F : L2.Fun K d_letters_met.x d_letters_met.x d_letters_met.st fa fd) : L2.Binds K fd d_letters_met.ps [] := F.binds fun _ _ _ _ _ _ us hl => match us, hl with | [_], _ => rfl
theorem b_usual_in (K : PySem.W.Frag) (fa : Addr) (fd : FuncData) (F : L2.Fun K d_usual_in.x d_usual_in.x d_usual_in.st fa fd) : L2.Binds K fd d_usual_in.ps [] := F.binds fun _ _ _ _ _ _ us hl => match us, hl with | [_], _ => rfl
theorem b_usual_word (K : PySem.W.Frag) (fa : Addr) (fd : FuncData) (F : L2.Fun K d_usual_word.x d_usual_word.x d_usual_word.st fa fd) : L2.Binds K fd d_usual_word.ps [] := F.binds fun _ _ _ _ _ _ us hl => match us, hl with | [_], _ => rfl
theorem b_is_piece (K : PySem.W.Frag) (fa : Addr) (fd : FuncData) (F : L2.Fun K d_is_piece.x d_is_piece.x d_is_piece.st fa fd) : L2.Binds K fd d_is_piece.ps [] := F.binds fun _ _ _ _ _ _ us hl => match us, hl with | [_, _], _ => rfl
theorem b_need_shape (K : PySem.W.Frag) (fa : Addr) (fd : FuncData) (F : L2.Fun K d_need_shape.x d_need_shape.x d_need_shape.st fa fd) : L2.Binds K fd d_need_shape.ps [] := F.binds fun _ _ _ _ _ _ us hl => match us, hl with | [_], _ => rfl
theorem b_letters_under (K : PySem.W.Frag) (fa : Addr) (fd : FuncData) (F : L2.Fun K d_letters_under.x d_letters_under.x d_letters_under.st fa fd) : L2.Binds K fd d_letters_under.ps [] := F.binds fun _ _ _ _ _ _ us hl => match us, hl with | [_], _ => rfl
theorem b_word_by_map (K : PySem.W.Frag) (fa : Addr) (fd : FuncData) (F : L2.Fun K d_word_by_map.x d_word_by_map.x d_word_by_map.st fa fd) : L2.Binds K fd d_word_by_map.ps [] := F.binds fun _ _ _ _ _ _ us hl => match us, hl with | [_, _], _ => rfl
theorem b_length_rows (K : PySem.W.Frag) (fa : Addr) (fd : FuncData) (F : L2.Fun K d_length_rows.x d_length_rows.x d_length_rows.st fa fd) : L2.Binds K fd d_length_rows.ps [] := F.binds fun _ _ _ _ _ _ us hl => match us, hl with | [_, _], _ => rfl
theorem b_map_by_lengths (K : PySem.W.Frag) (fa : Addr) (fd : FuncData) (F : L2.Fun K d_map_by_lengths.x d_map_by_lengths.x d_map_by_lengths.st fa fd) : L2.Binds K fd d_map_by_lengths.ps [] := F.binds fun _ _ _ _ _ _ us hl => match us, hl with | [_, _, _], _ => rfl
theorem b_maps_in (K : PySem.W.Frag) (fa : Addr) (fd : FuncData) (F : L2.Fun K d_maps_in.x d_maps_in.x d_maps_in.st fa fd) : L2.Binds K fd d_maps_in.ps [] := F.binds fun _ _ _ _ _ _ us hl => match us, hl with | [_, _], _ => rfl
theorem b_fits_shape_map (K : PySem.W.Frag) (fa : Addr) (fd : FuncData) (F : L2.Fun K d_fits_shape_map.x d_fits_shape_map.x d_fits_shape_map.st fa fd) : L2.Binds K fd d_fits_shape_map.ps [] := F.binds fun _ _ _ _ _ _ us hl => match us, hl with | [_, _, _], _ => rfl
theorem b_place_under (K : PySem.W.Frag) (fa : Addr) (fd : FuncData) (F : L2.Fun K d_place_under.x d_place_under.x d_place_under.st fa fd) : L2.Binds K fd d_place_under.ps [] := F.binds fun _ _ _ _ _ _ us hl => match us, hl with | [_, _], _ => rfl
theorem b_need_few_signs (K : PySem.W.Frag) (fa : Addr) (fd : FuncData) (F : L2.Fun K d_need_few_signs.x d_need_few_signs.x d_need_few_signs.st fa fd) : L2.Binds K fd d_need_few_signs.ps [] := F.binds fun _ _ _ _ _ _ us hl => match us, hl with | [_, _], _ => rfl
theorem b_is_shape_map (K : PySem.W.Frag) (fa : Addr) (fd : FuncData) (F : L2.Fun K d_is_shape_map.x d_is_shape_map.x d_is_shape_map.st fa fd) : L2.Binds K fd d_is_shape_map.ps [] := F.binds fun _ _ _ _ _ _ us hl => match us, hl with | [_, _, _], _ => rfl
theorem b_shape_map (K : PySem.W.Frag) (fa : Addr) (fd : FuncData) (F : L2.Fun K d_shape_map.x d_shape_map.x d_shape_map.st fa fd) : L2.Binds K fd d_shape_map.ps [] := F.binds fun _ _ _ _ _ _ us hl => match us, hl with | [_, _], _ => rfl
theorem b_count_shape_maps (K : PySem.W.Frag) (fa : Addr) (fd : FuncData) (F : L2.Fun K d_count_shape_maps.x d_count_shape_maps.x d_count_shape_maps.st fa fd) : L2.Binds K fd d_count_shape_maps.ps [] := F.binds fun _ _ _ _ _ _ us hl => match us, hl with | [_, _], _ => rfl
theorem b_stands_under (K : PySem.W.Frag) (fa : Addr) (fd : FuncData) (F : L2.Fun K d_stands_under.x d_stands_under.x d_stands_under.st fa fd) : L2.Binds K fd d_stands_under.ps [] := F.binds fun _ _ _ _ _ _ us hl => match us, hl with | [_, _], _ => rfl
theorem b_under_place (K : PySem.W.Frag) (fa : Addr) (fd : FuncData) (F : L2.Fun K d_under_place.x d_under_place.x d_under_place.st fa fd) : L2.Binds K fd d_under_place.ps [] := F.binds fun _ _ _ _ _ _ us hl => match us, hl with | [_, _], _ => rfl
theorem b__law_cup (K : PySem.W.Frag) (fa : Addr) (fd : FuncData) (F : L2.Fun K d__law_cup.x d__law_cup.x d__law_cup.st fa fd) : L2.Binds K fd d__law_cup.ps [] := F.binds fun _ _ _ _ _ _ us hl => match us, hl with | [_], _ => rfl
theorem b__law_roll (K : PySem.W.Frag) (fa : Addr) (fd : FuncData) (F : L2.Fun K d__law_roll.x d__law_roll.x d__law_roll.st fa fd) : L2.Binds K fd d__law_roll.ps [] := F.binds fun _ _ _ _ _ _ us hl => match us, hl with | [_, _], _ => rfl
theorem b__law_some (K : PySem.W.Frag) (fa : Addr) (fd : FuncData) (F : L2.Fun K d__law_some.x d__law_some.x d__law_some.st fa fd) : L2.Binds K fd d__law_some.ps [] := F.binds fun _ _ _ _ _ _ us hl => match us, hl with | [_, _], _ => rfl
theorem b__law_sort (K : PySem.W.Frag) (fa : Addr) (fd : FuncData) (F : L2.Fun K d__law_sort.x d__law_sort.x d__law_sort.st fa fd) : L2.Binds K fd d__law_sort.ps [] := F.binds fun _ _ _ _ _ _ us hl => match us, hl with | [_], _ => rfl
theorem b__law_like (K : PySem.W.Frag) (fa : Addr) (fd : FuncData) (F : L2.Fun K d__law_like.x d__law_like.x d__law_like.st fa fd) : L2.Binds K fd d__law_like.ps [] := F.binds fun _ _ _ _ _ _ us hl => match us, hl with | [_, _], _ => rfl
theorem b__law_word (K : PySem.W.Frag) (fa : Addr) (fd : FuncData) (F : L2.Fun K d__law_word.x d__law_word.x d__law_word.st fa fd) : L2.Binds K fd d__law_word.ps [] := F.binds fun _ _ _ _ _ _ us hl => match us, hl with | [_, _, _], _ => rfl
theorem b__law_bent (K : PySem.W.Frag) (fa : Addr) (fd : FuncData) (F : L2.Fun K d__law_bent.x d__law_bent.x d__law_bent.st fa fd) : L2.Binds K fd d__law_bent.ps [] := F.binds fun _ _ _ _ _ _ us hl => match us, hl with | [_, _], _ => rfl
theorem b__law_maps (K : PySem.W.Frag) (fa : Addr) (fd : FuncData) (F : L2.Fun K d__law_maps.x d__law_maps.x d__law_maps.st fa fd) : L2.Binds K fd d__law_maps.ps [] := F.binds fun _ _ _ _ _ _ us hl => match us, hl with | [_, _], _ => rfl
theorem b__law_is_map (K : PySem.W.Frag) (fa : Addr) (fd : FuncData) (F : L2.Fun K d__law_is_map.x d__law_is_map.x d__law_is_map.st fa fd) : L2.Binds K fd d__law_is_map.ps [] := F.binds fun _ _ _ _ _ _ us hl => match us, hl with | [_, _, _], _ => rfl
theorem b__law_right (K : PySem.W.Frag) (fa : Addr) (fd : FuncData) (F : L2.Fun K d__law_right.x d__law_right.x d__law_right.st fa fd) : L2.Binds K fd d__law_right.ps [] := F.binds fun _ _ _ _ _ _ us hl => match us, hl with | [_, _, _], _ => rfl
theorem b__law_stands_right (K : PySem.W.Frag) (fa : Addr) (fd : FuncData) (F : L2.Fun K d__law_stands_right.x d__law_stands_right.x d__law_stands_right.st fa fd) : L2.Binds K fd d__law_stands_right.ps [] := F.binds fun _ _ _ _ _ _ us hl => match us, hl with | [_, _], _ => rfl
theorem b_law (K : PySem.W.Frag) (fa : Addr) (fd : FuncData) (F : L2.Fun K d_law.x d_law.x d_law.st fa fd) : L2.Binds K fd d_law.ps [] := F.binds fun _ _ _ _ _ _ us hl => match us, hl with | [_], _ => rfl
theorem law_binds (K : PySem.W.Frag) (fa : Addr) (fd : FuncData) (F : L2.Fun K d_law.x d_law.x d_law.st fa fd) (s : Shared) (v : Value) : BindsTo s fd ⟨[v], []⟩ [("script", v)] := by
  obtain ⟨oc, od, kV, doc, pm, an, cdv, ct, osl, rfl, lk, hcd⟩ := F.ex
  exact .of_eq rfl
theorem h_is_tuple_of : H_is_tuple_of prog ix := { f := rfl }
theorem h_is_string_of : H_is_string_of prog ix := { f := rfl }
theorem h_fits_word : H_fits_word prog ix := { f := rfl, is_string_of := h_is_string_of, c_LETTERS := rfl, c_MOST := rfl }
theorem h_need_word : H_need_word prog ix := { f := rfl, fits_word := h_fits_word }
theorem h_need_words : H_need_words prog ix := { f := rfl, need_word := h_need_word }
theorem h_letters_met : H_letters_met prog ix := { f := rfl }
theorem h_usual_in : H_usual_in prog ix := { f := rfl, letters_met := h_letters_met, c_LETTERS := rfl }
theorem h_usual_word : H_usual_word prog ix := { f := rfl, need_word := h_need_word, usual_in := h_usual_in }
theorem h_is_piece : H_is_piece prog ix := { f := rfl, need_words := h_need_words }
theorem h_need_shape : H_need_shape prog ix := { f := rfl, is_string_of := h_is_string_of, c_LONGEST := rfl, c_SIGNS := rfl }
theorem h_letters_under : H_letters_under prog ix := { f := rfl, c_SIGNS := rfl }
theorem h_word_by_map : H_word_by_map prog ix := { f := rfl, letters_under := h_letters_under }
theorem h_length_rows : H_length_rows prog ix := { f := rfl, letters_under := h_letters_under }
theorem h_map_by_lengths : H_map_by_lengths prog ix := { f := rfl, letters_under := h_letters_under }
theorem h_maps_in : H_maps_in prog ix := { f := rfl, length_rows := h_length_rows, map_by_lengths := h_map_by_lengths }
theorem h_fits_shape_map : H_fits_shape_map prog ix := { f := rfl, fits_word := h_fits_word, is_tuple_of := h_is_tuple_of, letters_under := h_letters_under, word_by_map := h_word_by_map }
theorem h_place_under : H_place_under prog ix := { f := rfl, maps_in := h_maps_in }
theorem h_need_few_signs : H_need_few_signs prog ix := { f := rfl, need_word := h_need_word }
theorem h_is_shape_map : H_is_shape_map prog ix := { f := rfl, fits_shape_map := h_fits_shape_map, need_shape := h_need_shape, need_word := h_need_word }
theorem h_shape_map : H_shape_map prog ix := { f := rfl, maps_in := h_maps_in, need_few_signs := h_need_few_signs, need_shape := h_need_shape, c_MAPPED := rfl }
theorem h_count_shape_maps : H_count_shape_maps prog ix := { f := rfl, maps_in := h_maps_in, need_few_signs := h_need_few_signs, need_shape := h_need_shape, c_MAPPED := rfl }
theorem h_stands_under : H_stands_under prog ix := { f := rfl, need_few_signs := h_need_few_signs, need_shape := h_need_shape, place_under := h_place_under, c_STOOD := rfl }
theorem h_under_place : H_under_place prog ix := { f := rfl, need_few_signs := h_need_few_signs, need_shape := h_need_shape, place_under := h_place_under, c_STOOD := rfl }
theorem h__law_cup : H__law_cup prog ix := { f := rfl }
theorem h__law_roll : H__law_roll prog ix := { f := rfl }
theorem h__law_some : H__law_some prog ix := { f := rfl, _law_roll := h__law_roll }
theorem h__law_sort : H__law_sort prog ix := { f := rfl }
theorem h__law_like : H__law_like prog ix := { f := rfl, _law_sort := h__law_sort }
theorem h__law_word : H__law_word prog ix := { f := rfl, _law_roll := h__law_roll, _law_some := h__law_some }
theorem h__law_bent : H__law_bent prog ix := { f := rfl, _law_roll := h__law_roll, _law_some := h__law_some, _law_sort := h__law_sort }
theorem h__law_maps : H__law_maps prog ix := { f := rfl }
theorem h__law_is_map : H__law_is_map prog ix := { f := rfl }
theorem h__law_right_k77 : H__law_right_k77 prog ix := { f := rfl, _law_bent := h__law_bent, _law_is_map := h__law_is_map, _law_like := h__law_like, _law_maps := h__law_maps, _law_roll := h__law_roll, count_shape_maps := h_count_shape_maps, is_shape_map := h_is_shape_map, shape_map := h_shape_map }
theorem h__law_stands_right : H__law_stands_right prog ix := { f := rfl, _law_like := h__law_like, _law_maps := h__law_maps, stands_under := h_stands_under, under_place := h_under_place, usual_word := h_usual_word }
theorem h_law_k77 : H_law_k77 prog ix := { f := rfl, _law_cup := h__law_cup, _law_like := h__law_like, _law_right_k77 := h__law_right_k77, _law_roll := h__law_roll, _law_some := h__law_some, _law_stands_right := h__law_stands_right, _law_word := h__law_word, count_shape_maps := h_count_shape_maps, is_piece := h_is_piece, is_shape_map := h_is_shape_map, shape_map := h_shape_map, stands_under := h_stands_under, under_place := h_under_place }
end L77

end
section
set_option maxRecDepth 100000
namespace L77
theorem law_run (ns : List Int) (h : ns.length ≤ 63) : Cw.run prog 1000 40 34 [.lst (ns.map .int)] [] = .ok (.w (.bl true)) [] := Cw.run_law_k77 (P := prog) (F := 1000) (x := ix) h_law_k77 ns h (by decide)
end L77
open PySem PySem.W PyProof.Rows
set_option maxHeartbeats 0 in
theorem PySem.Challenge.cw_wordslaid_k77_whole_shapes_under_words_holds : PySem.Challenge.rw_wordslaid_k77_whole_shapes_under_words.Holds := by
  w_on; o_law; k_head; (case hw => w_witness2)
  k_fill
  refine' L2.walk_of (l := PySem.Challenge.rw_wordslaid_k77_whole_shapes_under_words) (n := 63) (k := 43) (x := "script") (CX := fun w => L2.CX PySem.Challenge.rw_wordslaid_k77_whole_shapes_under_words.prog w) (sp := fun w => Cw.spF (Cw.run L77.prog 1000 40 34) 1) rfl (by decide) rfl ⟨rfl, by decide, by decide⟩ (fun w h Y => PySem.W.kIn_of Y) ?F ?S (fun _ _ _ _ _ h => Cw.cx_no h)
  case S => intro w H a ns hl _ hS; exact Cw.law_of (Cw.noLst_of (by kernel_rfl)) (fun ns hn => L77.law_run ns hn) H a ns hl hS
  case F =>
    intro w mg fa h KX G hmg
    refine' Cw.end_of (P := L77.prog) (F := 1000) (G := L77.gx) (ds := L77.defs) (i := 34) (d := L77.d_law) KX G hmg rfl rfl rfl (fun fd Fn => L77.law_binds _ fa fd Fn) ?fns ?blt ?con ?tm
    case fns =>
      refine' Cw.All2.cons ⟨L77.c_is_tuple_of, Cw.DefF.mk2 ?a ?l ?c ?k, L77.b_is_tuple_of _⟩ ?_
      (case a => k_is); (case l => k_is); (case c => k_is); (case k => k_is)
      refine' Cw.All2.cons ⟨L77.c_is_string_of, Cw.DefF.mk2 ?a ?l ?c ?k, L77.b_is_string_of _⟩ ?_
      (case a => k_is); (case l => k_is); (case c => k_is); (case k => k_is)
      refine' Cw.All2.cons ⟨L77.c_fits_word, Cw.DefF.mk2 ?a ?l ?c ?k, L77.b_fits_word _⟩ ?_
      (case a => k_is); (case l => k_is); (case c => k_is); (case k => k_is)
      refine' Cw.All2.cons ⟨L77.c_need_word, Cw.DefF.mk2 ?a ?l ?c ?k, L77.b_need_word _⟩ ?_
      (case a => k_is); (case l => k_is); (case c => k_is); (case k => k_is)
      refine' Cw.All2.cons ⟨L77.c_need_words, Cw.DefF.mk2 ?a ?l ?c ?k, L77.b_need_words _⟩ ?_
      (case a => k_is); (case l => k_is); (case c => k_is); (case k => k_is)
      refine' Cw.All2.cons ⟨L77.c_letters_met, Cw.DefF.mk2 ?a ?l ?c ?k, L77.b_letters_met _⟩ ?_
      (case a => k_is); (case l => k_is); (case c => k_is); (case k => k_is)
      refine' Cw.All2.cons ⟨L77.c_usual_in, Cw.DefF.mk2 ?a ?l ?c ?k, L77.b_usual_in _⟩ ?_
      (case a => k_is); (case l => k_is); (case c => k_is); (case k => k_is)
      refine' Cw.All2.cons ⟨L77.c_usual_word, Cw.DefF.mk2 ?a ?l ?c ?k, L77.b_usual_word _⟩ ?_
      (case a => k_is); (case l => k_is); (case c => k_is); (case k => k_is)
      refine' Cw.All2.cons ⟨L77.c_is_piece, Cw.DefF.mk2 ?a ?l ?c ?k, L77.b_is_piece _⟩ ?_
      (case a => k_is); (case l => k_is); (case c => k_is); (case k => k_is)
      refine' Cw.All2.cons ⟨L77.c_need_shape, Cw.DefF.mk2 ?a ?l ?c ?k, L77.b_need_shape _⟩ ?_
      (case a => k_is); (case l => k_is); (case c => k_is); (case k => k_is)
      refine' Cw.All2.cons ⟨L77.c_letters_under, Cw.DefF.mk2 ?a ?l ?c ?k, L77.b_letters_under _⟩ ?_
      (case a => k_is); (case l => k_is); (case c => k_is); (case k => k_is)
      refine' Cw.All2.cons ⟨L77.c_word_by_map, Cw.DefF.mk2 ?a ?l ?c ?k, L77.b_word_by_map _⟩ ?_
      (case a => k_is); (case l => k_is); (case c => k_is); (case k => k_is)
      refine' Cw.All2.cons ⟨L77.c_length_rows, Cw.DefF.mk2 ?a ?l ?c ?k, L77.b_length_rows _⟩ ?_
      (case a => k_is); (case l => k_is); (case c => k_is); (case k => k_is)
      refine' Cw.All2.cons ⟨L77.c_map_by_lengths, Cw.DefF.mk2 ?a ?l ?c ?k, L77.b_map_by_lengths _⟩ ?_
      (case a => k_is); (case l => k_is); (case c => k_is); (case k => k_is)
      refine' Cw.All2.cons ⟨L77.c_maps_in, Cw.DefF.mk2 ?a ?l ?c ?k, L77.b_maps_in _⟩ ?_
      (case a => k_is); (case l => k_is); (case c => k_is); (case k => k_is)
      refine' Cw.All2.cons ⟨L77.c_fits_shape_map, Cw.DefF.mk2 ?a ?l ?c ?k, L77.b_fits_shape_map _⟩ ?_
      (case a => k_is); (case l => k_is); (case c => k_is); (case k => k_is)
      refine' Cw.All2.cons ⟨L77.c_place_under, Cw.DefF.mk2 ?a ?l ?c ?k, L77.b_place_under _⟩ ?_
      (case a => k_is); (case l => k_is); (case c => k_is); (case k => k_is)
      refine' Cw.All2.cons ⟨L77.c_need_few_signs, Cw.DefF.mk2 ?a ?l ?c ?k, L77.b_need_few_signs _⟩ ?_
      (case a => k_is); (case l => k_is); (case c => k_is); (case k => k_is)
      refine' Cw.All2.cons ⟨L77.c_is_shape_map, Cw.DefF.mk2 ?a ?l ?c ?k, L77.b_is_shape_map _⟩ ?_
      (case a => k_is); (case l => k_is); (case c => k_is); (case k => k_is)
      refine' Cw.All2.cons ⟨L77.c_shape_map, Cw.DefF.mk2 ?a ?l ?c ?k, L77.b_shape_map _⟩ ?_
      (case a => k_is); (case l => k_is); (case c => k_is); (case k => k_is)
      refine' Cw.All2.cons ⟨L77.c_count_shape_maps, Cw.DefF.mk2 ?a ?l ?c ?k, L77.b_count_shape_maps _⟩ ?_
      (case a => k_is); (case l => k_is); (case c => k_is); (case k => k_is)
      refine' Cw.All2.cons ⟨L77.c_stands_under, Cw.DefF.mk2 ?a ?l ?c ?k, L77.b_stands_under _⟩ ?_
      (case a => k_is); (case l => k_is); (case c => k_is); (case k => k_is)
      refine' Cw.All2.cons ⟨L77.c_under_place, Cw.DefF.mk2 ?a ?l ?c ?k, L77.b_under_place _⟩ ?_
      (case a => k_is); (case l => k_is); (case c => k_is); (case k => k_is)
      refine' Cw.All2.cons ⟨L77.c__law_cup, Cw.DefF.mk2 ?a ?l ?c ?k, L77.b__law_cup _⟩ ?_
      (case a => k_is); (case l => k_is); (case c => k_is); (case k => k_is)
      refine' Cw.All2.cons ⟨L77.c__law_roll, Cw.DefF.mk2 ?a ?l ?c ?k, L77.b__law_roll _⟩ ?_
      (case a => k_is); (case l => k_is); (case c => k_is); (case k => k_is)
      refine' Cw.All2.cons ⟨L77.c__law_some, Cw.DefF.mk2 ?a ?l ?c ?k, L77.b__law_some _⟩ ?_
      (case a => k_is); (case l => k_is); (case c => k_is); (case k => k_is)
      refine' Cw.All2.cons ⟨L77.c__law_sort, Cw.DefF.mk2 ?a ?l ?c ?k, L77.b__law_sort _⟩ ?_
      (case a => k_is); (case l => k_is); (case c => k_is); (case k => k_is)
      refine' Cw.All2.cons ⟨L77.c__law_like, Cw.DefF.mk2 ?a ?l ?c ?k, L77.b__law_like _⟩ ?_
      (case a => k_is); (case l => k_is); (case c => k_is); (case k => k_is)
      refine' Cw.All2.cons ⟨L77.c__law_word, Cw.DefF.mk2 ?a ?l ?c ?k, L77.b__law_word _⟩ ?_
      (case a => k_is); (case l => k_is); (case c => k_is); (case k => k_is)
      refine' Cw.All2.cons ⟨L77.c__law_bent, Cw.DefF.mk2 ?a ?l ?c ?k, L77.b__law_bent _⟩ ?_
      (case a => k_is); (case l => k_is); (case c => k_is); (case k => k_is)
      refine' Cw.All2.cons ⟨L77.c__law_maps, Cw.DefF.mk2 ?a ?l ?c ?k, L77.b__law_maps _⟩ ?_
      (case a => k_is); (case l => k_is); (case c => k_is); (case k => k_is)
      refine' Cw.All2.cons ⟨L77.c__law_is_map, Cw.DefF.mk2 ?a ?l ?c ?k, L77.b__law_is_map _⟩ ?_
      (case a => k_is); (case l => k_is); (case c => k_is); (case k => k_is)
      refine' Cw.All2.cons ⟨L77.c__law_right, Cw.DefF.mk2 ?a ?l ?c ?k, L77.b__law_right _⟩ ?_
      (case a => k_is); (case l => k_is); (case c => k_is); (case k => k_is)
      refine' Cw.All2.cons ⟨L77.c__law_stands_right, Cw.DefF.mk2 ?a ?l ?c ?k, L77.b__law_stands_right _⟩ ?_
      (case a => k_is); (case l => k_is); (case c => k_is); (case k => k_is)
      refine' Cw.All2.cons ⟨L77.c_law, Cw.DefF.mk2 ?a ?l ?c ?k, L77.b_law _⟩ ?_
      (case a => k_is); (case l => k_is); (case c => k_is); (case k => k_is)
      exact Cw.All2.nil
    case blt =>
      repeat (first | exact Cw.All1.nil | (refine' Cw.All1.cons ?z ?_; (case z => k_is)))
    case con =>
      refine' Cw.All2.cons (Cw.ConF.str ?z ?e) ?_
      (case z => k_is); (case e => decide +kernel)
      refine' Cw.All2.cons (Cw.ConF.int ?z) ?_
      (case z => k_is)
      refine' Cw.All2.cons (Cw.ConF.str ?z ?e) ?_
      (case z => k_is); (case e => decide +kernel)
      refine' Cw.All2.cons (Cw.ConF.int ?z) ?_
      (case z => k_is)
      refine' Cw.All2.cons (Cw.ConF.int ?z) ?_
      (case z => k_is)
      refine' Cw.All2.cons (Cw.ConF.int ?z) ?_
      (case z => k_is)
      exact Cw.All2.nil
    case tm => exact fun base _ _ => Cw.tmAll_no rfl

end
