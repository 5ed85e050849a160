import PyProof.Rows.All
import Wide.All
import OpenK.AllK
import Wide.FinOn
import HandS.ForMost
import HandS.Exc
import HandS.ExcOwn
import HandS.WordsExc
import HandS.IsInst
import HandS.TupAny
import HandS.TupMul
import HandS.Deep
import HandS.Flow
import HandS.TupLe
import HandS.Style
import HandS.ExcInit
import HandS.ExcField
import HandS.SortInts
import HandS.WordsDict
import HandS.SortOrd
import HandS.SortRule
import HandS.NamedTupSort
import HandS.Conv
import HandS.SetFor
import HandS.Set
import HandS.Strs
import HandS.SetKeys
import HandS.Star
import HandS.Dict
import HandS.Iter
import KE.GoesMore
import KE.GoesEnum
import HandS.Comp
import HandS.TryMany
import HandS.Words
import HandS.Defaults
import OpenK.KCls
import HandS.Ends
import HandS.Head0
import HandS.Head1
import HandS.Head2
import HandS.HeadEnd
import HandS.HeadHook1
import HandS.HeadHook2
import HandS.HeadHook3
import HandS.HeadHook4
import PySem.Challenge.RW_spareorbits_k01_lots
set_option Elab.async false
set_option linter.all false
section
/-! DyCore: a small core language for a part of Python, and its interpreter over plain data. Nothing of the kit's model is used here. -/
set_option linter.all false
namespace Dy
/-- values: frozen data as trees, mutable objects by their place in the store -/
inductive D where
  | non
  | bl (b : Bool)
  | int (i : Int)
  | str (s : List Nat)
  | tup (xs : List D)
  | fl (xs : List D)
  | ro (xs : List D)
  | ob (c : Nat) (ns : List Nat) (fs : List D)
  | ex (c : Nat) (ns : List Nat) (fs : List D)
  | cell (k : Nat)
  deriving Inhabited
/-- a dict's key: an int, a text -/
abbrev Ky := Sum Int (List Nat)
inductive Cell where
  | lst (xs : List D)
  | dct (lk : Bool) (kvs : List (Ky × D))
  | ins (c : Nat) (ns : List Nat) (fs : List D)
  | dead
abbrev Store := List Cell
abbrev Loc := List (Option D)
inductive Res (α : Type) where
  | ok (a : α) (m : Store)
  | exc (x : D) (m : Store)
  | stuck
def Res.bind {α β : Type} (r : Res α) (f : α → Store → Res β) : Res β := match r with
  | .ok a m => f a m
  | .exc x m => .exc x m
  | .stuck => .stuck
/-- flows of a statement -/
inductive Flw where
  | nx (σ : Loc) (m : Store)
  | brk (σ : Loc) (m : Store)
  | ct (σ : Loc) (m : Store)
  | rt (d : D) (m : Store)
  | exc (x : D) (σ : Loc) (m : Store)
  | stuck
/-- a value is reckoned at σ, then the statement goes on -/
def Res.go {α : Type} (r : Res α) (σ : Loc) (f : α → Store → Flw) : Flw := match r with
  | .ok a m => f a m
  | .exc x m => .exc x σ m
  | .stuck => .stuck
def Flw.go (r : Flw) (f : Loc → Store → Flw) : Flw := match r with
  | .nx σ m => f σ m
  | .brk σ m => .brk σ m
  | .ct σ m => .ct σ m
  | .rt d m => .rt d m
  | .exc x σ m => .exc x σ m
  | .stuck => .stuck
/-- the longest list, text -/
abbrev lim : Nat := 16777216

inductive Bop where | add | sub | mul | fdiv | mod | pow
  deriving DecidableEq
inductive Cop where | lt | le | gt | ge | eq | ne | inn | nin
  deriving DecidableEq
inductive Lit where | non | bl (b : Bool) | int (i : Int) | str (s : List Nat)
  deriving DecidableEq
def Lit.d : Lit → D
  | .non => .non
  | .bl b => .bl b
  | .int i => .int i
  | .str s => .str s
inductive Ty where | int | bool | str | list | tuple | dict | cls (c : Nat)
  deriving DecidableEq
/-- built-in functions of one or two plain arguments -/
inductive Bi where | len | abs | int | sum | all | any | max | min | tuple | list | sorted
  deriving DecidableEq
/-- targets: a name, a flat tuple of names -/
inductive Tg where | nm (i : Nat) | tp (is : List Nat)

mutual
inductive E where
  | var (i : Nat)
  | lit (l : Lit)
  | glb (x : Nat)
  | bin (op : Bop) (a b : E)
  | neg (a : E)
  | cmp (op : Cop) (a b : E)
  | chain (op op' : Cop) (a b c : E)
  | isc (no : Bool) (a : E) (l : Lit)
  | bop (isAnd : Bool) (es : Es)
  | notv (a : E)
  | ife (t : T) (a b : E)
  | tup (es : Es)
  | tupS (a b : E)
  | lst (mu : Bool) (es : Es)
  | new (a : E)
  | dsp (kvs : Es)
  | idx (a i : E)
  | slc (a : E) (lo hi : Oe)
  | rev (a : E)
  | fld (a : E) (f : Nat)
  | call (f : Nat) (es : Es)
  | callk (f : Nat) (es kes : Es) (pm : List Nat)
  | make (c : Nat) (es : Es)
  | bi (b : Bi) (es : Es)
  | isi (a : E) (tupled : Bool) (ts : List Ty)
  | rng (tupled : Bool) (es : Es)
  | lenset (a : E)
  | sortset (a : E)
  | app (a e : E)
  | ext (a e : E)
  | lc (mu : Bool) (elt : E) (tg : Tg) (it : Wk) (cond : Ot) (own : List Nat)
  /-- e, a bool, while the dict in a name is only read -/
  | lck (i : Nat) (e : E)
inductive Es where
  | nil
  | cons (e : E) (es : Es)
inductive Oe where
  | none
  | some (e : E)
/-- tests -/
inductive T where
  | e (a : E)
  | bop (isAnd : Bool) (ts : Ts)
  | notv (t : T)
inductive Ts where
  | nil
  | cons (t : T) (ts : Ts)
inductive Ot where
  | none
  | some (t : T)
/-- what a loop goes over -/
inductive Wk where
  | e (a : E)
  | rng1 (a : E)
  | rng2 (a b : E)
  | enum (a : E)
end
/-- an except clause: the class, the slot of its name, the items of the list that it returns: texts, fields of the exception -/
inductive Hi where | lit (l : Lit) | fld (f : Nat)
structure Hd where
  c : Nat
  slot : Option Nat
  items : Option (List Hi)
mutual
inductive S where
  | set (i : Nat) (e : E)
  | par (is : List Nat) (es : Es)
  | unp (is : List Nat) (e : E)
  | setix (a i e : E)
  | setfld (a : E) (f : Nat) (e : E)
  | aug (i : Nat) (op : Bop) (e : E)
  | ex (e : E)
  | ret (e : E)
  | retN
  | ite (t : T) (a b : Ss)
  | «for» (tg : Tg) (it : Wk) (b : Ss)
  | «while» (t : T) (b : Ss)
  | brk
  | ct
  | pass
  | raise (c : Nat) (es : Es)
  | tryx (b : Ss) (hs : List Hd)
  | frz (i : Nat)
inductive Ss where
  | nil
  | cons (s : S) (r : Ss)
end
def Es.len : Es → Nat
  | .nil => 0
  | .cons _ r => r.len + 1
end Dy
end
section
/-! DyEval: the interpreter. -/
set_option linter.all false
namespace Dy
/-! ### data -/
mutual
/-- == of frozen data -/
def eqD : D → D → Bool
  | .non, .non => true
  | .bl a, .bl b => a == b
  | .bl a, .int b => (if a then 1 else 0) == b
  | .int a, .bl b => a == (if b then 1 else 0)
  | .int a, .int b => a == b
  | .str a, .str b => a == b
  | .tup xs, .tup ys => eqDs xs ys
  | .fl xs, .fl ys => eqDs xs ys
  | _, _ => false
def eqDs : List D → List D → Bool
  | [], [] => true
  | x :: xs, y :: ys => eqD x y && eqDs xs ys
  | _, _ => false
end
def keyD : D → Option Ky
  | .int i => some (.inl i)
  | .str s => some (.inr s)
  | _ => none
def kyD : Ky → D
  | .inl i => .int i
  | .inr s => .str s
def putK (k : Ky) (v : D) : List (Ky × D) → List (Ky × D)
  | [] => [(k, v)]
  | p :: r => if p.1 = k then (k, v) :: r else p :: putK k v r
def getK (k : Ky) : List (Ky × D) → Option D
  | [] => none
  | p :: r => if p.1 = k then some p.2 else getK k r
mutual
/-- frozen data without objects, nested n deep at most -/
def shp : D → Nat → Bool
  | .non, _ => true
  | .bl _, _ => true
  | .int _, _ => true
  | .str s, _ => s.all fun c => decide (c < 1114112)
  | .tup xs, n + 1 => shps xs n
  | .fl xs, n + 1 => shps xs n
  | _, _ => false
def shps : List D → Nat → Bool
  | [], _ => true
  | x :: xs, n => shp x n && shps xs n
end
/-- a list's cell at the top is read as a list -/
def Store.flat (m : Store) : D → D
  | .cell k => match m[k]? with
    | some (.lst xs) => .fl xs
    | _ => .cell k
  | d => d
/-- lists' cells within are read as lists, n deep -/
def Store.deep (m : Store) : Nat → D → D
  | n + 1, .tup xs => .tup (xs.map (Store.deep m n))
  | n + 1, .fl xs => .fl (xs.map (Store.deep m n))
  | n + 1, .cell k => match m[k]? with
    | some (.lst xs) => .fl (xs.map (Store.deep m n))
    | _ => .cell k
  | _, d => d
/-- what may be read as a sequence -/
def Store.seqAt (m : Store) : D → Option (List D)
  | .fl xs => some xs
  | .ro xs => some xs
  | .tup xs => some xs
  | .cell k => match m[k]? with
    | some (.lst xs) => some xs
    | _ => none
  | _ => none
/-- the place of a live list -/
def Store.lstOf (m : Store) : D → Option Nat
  | .cell k => match m[k]? with
    | some (.lst _) => some k
    | _ => none
  | _ => none
def sIx (n d : Nat) : Option Int → Nat
  | none => d
  | some v => if v < 0 then (v + (n : Int)).toNat else min v.toNat n
def cut {α : Type} (xs : List α) (lo hi : Option Int) : List α := (xs.drop (sIx xs.length 0 lo)).take (sIx xs.length xs.length hi - sIx xs.length 0 lo)
def ixN (n : Nat) (i : Int) : Option Nat := if 0 ≤ i then (if i < n then some i.toNat else none) else if -(n : Int) ≤ i then some (i + n).toNat else none
def asInts : List D → Option (List Int)
  | [] => some []
  | .int i :: r => (asInts r).map (i :: ·)
  | _ => none
def asBls : List D → Option (List Bool)
  | [] => some []
  | .bl i :: r => (asBls r).map (i :: ·)
  | _ => none
def asStrs : List D → Option (List (List Nat))
  | [] => some []
  | .str i :: r => (asStrs r).map (i :: ·)
  | _ => none
/-- lists of ints in Python's order of tuples -/
def lexI : List Int → List Int → Bool
  | [], [] => false
  | [], _ :: _ => true
  | _ :: _, [] => false
  | x :: xs, y :: ys => if x = y then lexI xs ys else decide (x < y)
def asIntTups : List D → Option (List (List Int))
  | [] => some []
  | .tup xs :: r => match asInts xs, asIntTups r with
    | some a, some b => some (a :: b)
    | _, _ => none
  | _ => none
def ins {α : Type} (lt : α → α → Bool) (x : α) : List α → List α
  | [] => [x]
  | y :: r => if lt y x then y :: ins lt x r else x :: y :: r
def isort {α : Type} (lt : α → α → Bool) : List α → List α
  | [] => []
  | x :: r => ins lt x (isort lt r)
def ltI (a b : Int) : Bool := decide (a < b)
def dInts (xs : List Int) : List D := xs.map .int
def sortD (xs : List D) : Option (List D) := match asInts xs with
  | some ns => some ((isort ltI ns).map .int)
  | none => match asIntTups xs with
    | some ts => some ((isort lexI ts).map fun t => .tup (t.map .int))
    | none => none
/-- the members of a list, once each, the first ones -/
def undup {α : Type} [DecidableEq α] : List α → List α
  | [] => []
  | x :: r => if x ∈ r then undup r else x :: undup r

def cMul (i j : Int) : Bool := decide (i.natAbs < 2 ^ 64) || decide (j.natAbs < 2 ^ 64)
def addD (m : Store) : D → D → Option D
  | .int i, .int j => some (.int (i + j))
  | .str s, .str t => if s.length + t.length ≤ lim then some (.str (s ++ t)) else none
  | .tup xs, .tup ys => if xs.length + ys.length ≤ lim then some (.tup (xs ++ ys)) else none
  | x, y => match m.flat x, m.flat y with
    | .fl xs, .fl ys => if xs.length + ys.length ≤ lim then some (.fl (xs ++ ys)) else none
    | _, _ => none
def subD : D → D → Option D
  | .int i, .int j => some (.int (i - j))
  | _, _ => none
def mulD : D → D → Option D
  | .int i, .int j => if cMul i j then some (.int (i * j)) else none
  | .tup xs, .int k => if decide (xs ≠ [] ∧ 2 ≤ k ∧ k ≤ 1000 ∧ xs.length ≤ 1000) then some (.tup (List.replicate k.toNat xs).flatten) else none
  | .fl xs, .int k => if decide (0 ≤ k ∧ k ≤ 1000000 ∧ xs.length * k.toNat ≤ lim) then some (.fl (List.replicate k.toNat xs).flatten) else none
  | _, _ => none
def fdivD : D → D → Option D
  | .int i, .int j => if decide (0 < j ∧ j < 1073741824) then some (.int (i / j)) else none
  | _, _ => none
def modD : D → D → Option D
  | .int i, .int j => if decide (0 < j) then some (.int (i % j)) else none
  | _, _ => none
def powD : D → D → Option D
  | .int i, .int j => if decide (0 ≤ j ∧ j ≤ 1000000 ∧ i.natAbs < 2 ^ 64) then some (.int (i ^ j.toNat)) else none
  | _, _ => none
def binD (m : Store) (op : Bop) (x y : D) : Option D := match op with
  | .add => addD m x y
  | .sub => subD x y
  | .mul => mulD x y
  | .fdiv => fdivD x y
  | .mod => modD x y
  | .pow => powD x y
/-- x op= y -/
def augD : Bop → D → D → Option D
  | .add, .int i, .int j => some (.int (i + j))
  | .add, .str s, .str t => if s.length + t.length ≤ lim then some (.str (s ++ t)) else none
  | .sub, .int i, .int j => some (.int (i - j))
  | .mul, .int i, .int j => if cMul i j then some (.int (i * j)) else none
  | .fdiv, .int i, .int j => if decide (0 < j ∧ j < 1073741824) then some (.int (i / j)) else none
  | .mod, .int i, .int j => if decide (0 < j) then some (.int (i % j)) else none
  | _, _, _ => none
def inD (x : D) (xs : List D) : Bool := xs.any fun y => eqD y x
def inM (m : Store) (x : D) (ys : List D) : Option Bool := let a := m.deep 60 x; let b := ys.map (m.deep 60); if shp a 60 && shps b 60 then some (inD a b) else none
def eqM (m : Store) (x y : D) : Option Bool := let a := m.deep 60 x; let b := m.deep 60 y; if shp a 60 && shp b 60 then some (eqD a b) else none
def ltD : D → D → Option Bool
  | .int i, .int j => some (decide (i < j))
  | .tup xs, .tup ys => match asInts xs, asInts ys with
    | some a, some b => some (lexI a b)
    | _, _ => none
  | _, _ => none
def leD : D → D → Option Bool
  | .int i, .int j => some (decide (i ≤ j))
  | _, _ => none
def gtD : D → D → Option Bool
  | .int i, .int j => some (decide (j < i))
  | _, _ => none
def geD : D → D → Option Bool
  | .int i, .int j => some (decide (j ≤ i))
  | _, _ => none
def isinD (m : Store) (x y : D) : Option Bool := match y with
  | .str z => (match x with
    | .str [c] => some (decide (c ∈ z))
    | _ => none)
  | .cell k => (match m[k]? with
    | some (.lst ys) => inM m x ys
    | some (.dct _ kvs) => (keyD x).map fun y => (getK y kvs).isSome
    | _ => none)
  | .fl ys => inM m x ys
  | .tup ys => inM m x ys
  | _ => none
def cmpD (m : Store) (op : Cop) (x y : D) : Option Bool := match op with
  | .eq => eqM m x y
  | .ne => (eqM m x y).map (!·)
  | .lt => ltD x y
  | .le => leD x y
  | .gt => gtD x y
  | .ge => geD x y
  | .inn => isinD m x y
  | .nin => (isinD m x y).map (!·)
def iscD : D → Lit → Option Bool
  | .non, .non => some true
  | _, .non => some false
  | .bl a, .bl b => some (a == b)
  | _, _ => none
def truD (m : Store) : D → Option Bool
  | .non => some false
  | .bl b => some b
  | .int i => some (i != 0)
  | .str s => if s.length ≤ lim then some (!s.isEmpty) else none
  | .tup xs => some (!xs.isEmpty)
  | .fl xs => some (!xs.isEmpty)
  | .cell k => match m[k]? with
    | some (.lst xs) => some (!xs.isEmpty)
    | some (.dct false kvs) => some (!kvs.isEmpty)
    | _ => none
  | _ => none
/-- isinstance against one class; sup: which own classes are the same or above -/
def isTy (sup : Nat → Nat → Bool) (m : Store) : D → Ty → Bool
  | .int _, .int => true
  | .bl _, .int => true
  | .bl _, .bool => true
  | .str _, .str => true
  | .fl _, .list => true
  | .ro _, .list => true
  | .tup _, .tuple => true
  | .ob c _ _, .cls d => sup c d
  | .cell k, .list => match m[k]? with
    | some (.lst _) => true
    | _ => false
  | .cell k, .dict => match m[k]? with
    | some (.dct _ _) => true
    | _ => false
  | .cell k, .cls d => match m[k]? with
    | some (.ins c _ _) => sup c d
    | _ => false
  | _, _ => false
/-- what isinstance may be asked -/
def alive (ok : Nat → Bool) (m : Store) : D → Bool
  | .cell k => match m[k]? with
    | some .dead => false
    | some (.ins c _ _) => ok c
    | some _ => true
    | none => false
  | .ob c _ _ => ok c
  | .ex _ _ _ => false
  | _ => true
def idxD (m : Store) (x i : D) : Option D := match x, i with
  | .str z, .int i => if z.length ≤ lim then ((ixN z.length i).bind fun j => z[j]?).map fun c => .str [c] else none
  | .cell k, i => match m[k]? with
    | some (.lst xs) => (match i with
      | .int i => (ixN xs.length i).bind fun j => xs[j]?
      | _ => none)
    | some (.dct _ kvs) => (keyD i).bind fun y => getK y kvs
    | _ => none
  | x, .int i => match m.seqAt x with
    | some xs => (ixN xs.length i).bind fun j => xs[j]?
    | none => none
  | _, _ => none
def optI : D → Option Int
  | .int i => some i
  | _ => none
def slcD (m : Store) (x : D) (lo hi : Option Int) : Option D := match x with
  | .str z => if z.length ≤ lim then some (.str (cut z lo hi)) else none
  | .tup xs => some (.tup (cut xs lo hi))
  | x => match m.seqAt x with
    | some xs => some (.fl (cut xs lo hi))
    | none => none
/-- the items of a list, also of one that is read alone -/
def Store.lstAt (m : Store) (x : D) : Option (List D) := match m.flat x with
  | .fl xs => some xs
  | .ro xs => some xs
  | _ => none
def revD (m : Store) (x : D) : Option D := match x with
  | .tup xs => some (.tup xs.reverse)
  | x => (m.lstAt x).map fun xs => .fl xs.reverse
def lenD (m : Store) : List D → Option D
  | [.str s] => if s.length ≤ lim then some (.int s.length) else none
  | [.cell k] => match m[k]? with
    | some (.lst xs) => some (.int xs.length)
    | some (.dct _ kvs) => some (.int kvs.length)
    | _ => none
  | [x] => (m.seqAt x).map fun xs => .int xs.length
  | _ => none
def absD : List D → Option D
  | [.int i] => some (.int (if i < 0 then -i else i))
  | _ => none
def intD : List D → Option D
  | [.int i] => some (.int i)
  | [.bl b] => some (.int (if b then 1 else 0))
  | _ => none
def sumD (m : Store) : List D → Option D
  | [x] => (m.lstAt x).bind fun xs => (asInts xs).map fun ns => .int ns.sum
  | _ => none
def allD (m : Store) : List D → Option D
  | [x] => (m.lstAt x).bind fun xs => (asBls xs).map fun bs => .bl (bs.all id)
  | _ => none
def anyD (m : Store) : List D → Option D
  | [x] => (m.lstAt x).bind fun xs => (asBls xs).map fun bs => .bl (bs.any id)
  | _ => none
def maxD : List D → Option D
  | [.int i, .int j] => some (.int (if j > i then j else i))
  | _ => none
def minD : List D → Option D
  | [.int i, .int j] => some (.int (if j < i then j else i))
  | _ => none
def tupleD (m : Store) : List D → Option D
  | [x] => (m.seqAt x).map .tup
  | _ => none
def listD (m : Store) : List D → Option D
  | [x] => (m.seqAt x).map .fl
  | _ => none
def sortedD (m : Store) : List D → Option D
  | [x] => (m.lstAt x).bind fun xs => (sortD xs).map .fl
  | _ => none
def biD (m : Store) (b : Bi) (xs : List D) : Option D := match b with
  | .len => lenD m xs
  | .abs => absD xs
  | .int => intD xs
  | .sum => sumD m xs
  | .all => allD m xs
  | .any => anyD m xs
  | .max => maxD xs
  | .min => minD xs
  | .tuple => tupleD m xs
  | .list => listD m xs
  | .sorted => sortedD m xs
/-- range(a, b) written out -/
def rngD (a b : Int) : List D := (List.range (b - a).toNat).map fun i => .int (a + (i : Nat))
def rgOk (a b : Int) : Bool := decide (-(2 ^ 62) ≤ a ∧ a < 2 ^ 62 ∧ -(2 ^ 62) ≤ b ∧ b < 2 ^ 62 ∧ (b - a).toNat ≤ lim)
/-- len(set(x)), x a tuple of ints and texts; sorted(set(x)), x a tuple of ints -/
def tupInts (k : Nat) : D → Option (List Int)
  | .tup xs => if xs.length ≤ k then asInts xs else none
  | _ => none
def asKeys : List D → Option (List Ky)
  | [] => some []
  | x :: r => match keyD x, asKeys r with
    | some k, some ks => some (k :: ks)
    | _, _ => none
def tupKeys (k : Nat) : D → Option (List Ky)
  | .tup xs => if xs.length ≤ k then asKeys xs else none
  | _ => none
def lensetD (x : D) : Option Nat := (tupKeys 4000 x).map fun ks => (undup ks).length
def sortsetD (x : D) : Option (List D) := (tupInts 60 x).map fun ns => dInts (isort ltI (undup ns))
def bindTg (tg : Tg) (d : D) (σ : Loc) : Option Loc := match tg with
  | .nm i => some (σ.set i (some d))
  | .tp is => match d with
    | .tup xs => if xs.length = is.length then some ((is.zip xs).foldl (fun σ p => σ.set p.1 (some p.2)) σ) else none
    | _ => none
def putF (f : Nat) (d : D) : List Nat → List D → List Nat × List D
  | n :: ns, x :: xs => if n = f then (n :: ns, d :: xs) else let r := putF f d ns xs; (n :: r.1, x :: r.2)
  | _, _ => ([f], [d])
def getF (f : Nat) : List Nat → List D → Option D
  | n :: ns, x :: xs => if n = f then some x else getF f ns xs
  | _, _ => none
def ofO {α : Type} (m : Store) : Option α → Res α
  | some a => .ok a m
  | none => .stuck
/-- a class: its __init__ among the functions, whether its instances are frozen behind it -/
structure Cls where
  init : Nat
  frozen : Bool
/-- an exception's class: its fields -/
structure Xcl where
  fs : List Nat
structure Env where
  glb : Nat → Option D
  cls : Nat → Option Cls
  xcl : Nat → Option Xcl
  sup : Nat → Nat → Bool
/-! ### loops -/
inductive Src where
  | fix (xs : List D)
  | cel (k : Nat)
  /-- a dict's keys; it is locked meanwhile; was it locked ahead? -/
  | dic (k : Nat) (was : Bool) (ks : List D)
def Store.src (m : Store) : D → Option Src
  | .fl xs => some (.fix xs)
  | .ro xs => some (.fix xs)
  | .tup xs => some (.fix xs)
  | .cell k => match m[k]? with
    | some (.lst _) => some (.cel k)
    | some (.dct true kvs) => some (.fix (kvs.map fun p => kyD p.1))
    | _ => none
  | .str z => if z.length ≤ lim then some (.fix (z.map fun c => .str [c])) else none
  | _ => none
def enumD (xs : List D) : List D := (List.range xs.length).zipWith (fun i x => .tup [.int (i : Nat), x]) xs
def wipeD (σ : Loc) : List Nat → Loc
  | [] => σ
  | i :: r => (wipeD σ r).set i none
/-- the turns of a comprehension over a written list -/
def lcL (turn : D → Store → Res (Option D)) : List D → Store → Res (List D)
  | [], m => .ok [] m
  | x :: r, m => (turn x m).bind fun o m1 => (lcL turn r m1).bind fun ys m2 => .ok (match o with
    | some y => y :: ys
    | none => ys) m2
def lcC (turn : D → Store → Res (Option D)) (k : Nat) : Nat → Nat → Store → Res (List D)
  | 0, _, _ => .stuck
  | n + 1, i, m => match m[k]? with
    | some (.lst xs) => (match xs[i]? with
      | none => .ok [] m
      | some x => (turn x m).bind fun o m1 => (lcC turn k n (i + 1) m1).bind fun ys m2 => .ok (match o with
        | some y => y :: ys
        | none => ys) m2)
    | _ => .stuck
/-- a dict's cell is locked, or let go -/
def lockC (m : Store) (k : Nat) (b : Bool) : Store := match m[k]? with
  | some (.dct _ kvs) => m.set k (.dct b kvs)
  | _ => m
def lcG (turn : D → Store → Res (Option D)) (s : Src) (m : Store) : Res (List D) := match s with
  | .fix xs => lcL turn xs m
  | .cel k => lcC turn k (lim + 1) 0 m
  | .dic k was ks => (lcL turn ks (lockC m k true)).bind fun ys m1 => .ok ys (lockC m1 k was)
/-- behind a loop's turn -/
def Flw.turn (r : Flw) (again : Loc → Store → Flw) : Flw := match r with
  | .nx σ m => again σ m
  | .ct σ m => again σ m
  | .brk σ m => .nx σ m
  | .rt d m => .rt d m
  | .exc x σ m => .exc x σ m
  | .stuck => .stuck
def bound (tg : Tg) (d : D) (σ : Loc) (f : Loc → Flw) : Flw := match bindTg tg d σ with
  | some σ1 => f σ1
  | none => .stuck
def forL (body : Loc → Store → Flw) (tg : Tg) : List D → Loc → Store → Flw
  | [], σ, m => .nx σ m
  | x :: r, σ, m => bound tg x σ fun σ1 => (body σ1 m).turn fun σ2 m2 => forL body tg r σ2 m2
def forC (body : Loc → Store → Flw) (tg : Tg) (k : Nat) : Nat → Nat → Loc → Store → Flw
  | 0, _, _, _ => .stuck
  | n + 1, i, σ, m => match m[k]? with
    | some (.lst xs) => (match xs[i]? with
      | none => .nx σ m
      | some x => bound tg x σ fun σ1 => (body σ1 m).turn fun σ2 m2 => forC body tg k n (i + 1) σ2 m2)
    | _ => .stuck
def forG (body : Loc → Store → Flw) (tg : Tg) (s : Src) (σ : Loc) (m : Store) : Flw := match s with
  | .fix xs => forL body tg xs σ m
  | .cel k => forC body tg k (lim + 1) 0 σ m
  | .dic _ _ _ => .stuck
def whileD (test : Loc → Store → Res Bool) (body : Loc → Store → Flw) : Nat → Loc → Store → Flw
  | 0, _, _ => .stuck
  | n + 1, σ, m => (test σ m).go σ fun b m1 => if b then (body σ m1).turn fun σ2 m2 => whileD test body n σ2 m2 else .nx σ m1
/-- an exception out of a comprehension is not told -/
def Res.noexc {α : Type} : Res α → Res α
  | .ok a m => .ok a m
  | _ => .stuck
/-! ### the interpreter: Γ tells what the functions do -/
abbrev Fns := Nat → List D → Store → Res D
def newCell (m : Store) (c : Cell) : Res D := .ok (.cell m.length) (m ++ [c])
def makeD (G : Env) (Γ : Fns) (c : Nat) (vs : List D) (m : Store) : Res D := match G.cls c with
  | some C => (Γ C.init (.cell m.length :: vs) (m ++ [.ins c [] []])).bind fun r m2 => match r with
    | .non => (match m2[m.length]? with
      | some (.ins c' ns fs) => if C.frozen then .ok (.ob c' ns fs) (m2.set m.length .dead) else .ok (.cell m.length) m2
      | _ => .stuck)
    | _ => .stuck
  | none => .stuck
def pairsD : List D → Option (List (Ky × D))
  | [] => some []
  | k :: v :: r => match keyD k, pairsD r with
    | some y, some ps => some ((y, v) :: ps)
    | _, _ => none
  | _ => none
def permD (vs : List D) : List Nat → Option (List D)
  | [] => some []
  | i :: r => match vs[i]?, permD vs r with
    | some d, some ds => some (d :: ds)
    | _, _ => none
/-- behind a locked dict's reading -/
def lckR (k : Nat) (r : Res D) : Res D := match r with
  | .ok (.bl b) m1 => (match m1[k]? with
    | some (.dct true kvs) => .ok (.bl b) (m1.set k (.dct false kvs))
    | _ => .stuck)
  | _ => .stuck
mutual
def evE (G : Env) (Γ : Fns) : E → Loc → Store → Res D
  | .var i, σ, m => (match σ[i]? with
    | some (some d) => .ok d m
    | _ => .stuck)
  | .lit l, _, m => .ok l.d m
  | .glb x, _, m => ofO m (G.glb x)
  | .bin op a b, σ, m => (evE G Γ a σ m).bind fun x m1 => (evE G Γ b σ m1).bind fun y m2 => ofO m2 (binD m2 op x y)
  | .neg a, σ, m => (evE G Γ a σ m).bind fun x m1 => (match x with
    | .int i => .ok (.int (-i)) m1
    | _ => .stuck)
  | .cmp op a b, σ, m => (evE G Γ a σ m).bind fun x m1 => (evE G Γ b σ m1).bind fun y m2 => ofO m2 ((cmpD m2 op x y).map .bl)
  | .chain op op' a b c, σ, m => (evE G Γ a σ m).bind fun x m1 => (evE G Γ b σ m1).bind fun y m2 => (ofO m2 (cmpD m2 op x y)).bind fun k m3 =>
    if k then (evE G Γ c σ m3).bind fun z m4 => ofO m4 ((cmpD m4 op' y z).map .bl) else .ok (.bl false) m3
  | .isc no a l, σ, m => (evE G Γ a σ m).bind fun x m1 => ofO m1 ((iscD x l).map fun k => .bl (k != no))
  | .bop isAnd es, σ, m => evB G Γ isAnd es σ m
  | .notv a, σ, m => (evE G Γ a σ m).bind fun x m1 => ofO m1 ((truD m1 x).map fun k => .bl (!k))
  | .ife t a b, σ, m => (evT G Γ t σ m).bind fun k m1 => if k then evE G Γ a σ m1 else evE G Γ b σ m1
  | .tup es, σ, m => (evEs G Γ es σ m).bind fun vs m1 => .ok (.tup vs) m1
  | .tupS a b, σ, m => (evE G Γ a σ m).bind fun x m1 => (match m1.seqAt x with
    | some xs => (evE G Γ b σ m1).bind fun y m2 => if xs.length < lim then .ok (.tup (xs ++ [y])) m2 else .stuck
    | none => .stuck)
  | .lst mu es, σ, m => (evEs G Γ es σ m).bind fun vs m1 => if mu then newCell m1 (.lst vs) else .ok (.fl vs) m1
  | .new a, σ, m => (evE G Γ a σ m).bind fun x m1 => (match x with
    | .fl xs => newCell m1 (.lst xs)
    | _ => .stuck)
  | .dsp kvs, σ, m => (evEs G Γ kvs σ (m ++ [.dct false []])).bind fun xs m1 => (match pairsD xs, m1[m.length]? with
    | some ps, some (.dct false []) => if ps.length ≤ 15 then .ok (.cell m.length) (m1.set m.length (.dct false (ps.foldl (fun kvs p => putK p.1 p.2 kvs) []))) else .stuck
    | _, _ => .stuck)
  | .idx a i, σ, m => (evE G Γ a σ m).bind fun x m1 => (evE G Γ i σ m1).bind fun y m2 => ofO m2 (idxD m2 x y)
  | .slc a lo hi, σ, m => (evE G Γ a σ m).bind fun x m1 => (evO G Γ lo σ m1).bind fun l m2 => (evO G Γ hi σ m2).bind fun h m3 => ofO m3 (slcD m3 x l h)
  | .rev a, σ, m => (evE G Γ a σ m).bind fun x m1 => ofO m1 (revD m1 x)
  | .fld a f, σ, m => (evE G Γ a σ m).bind fun x m1 => (match x with
    | .ob c ns fs => if (G.cls c).isSome then ofO m1 (getF f ns fs) else .stuck
    | .cell k => (match m1[k]? with
      | some (.ins c ns fs) => if (G.cls c).isSome then ofO m1 (getF f ns fs) else .stuck
      | _ => .stuck)
    | _ => .stuck)
  | .call f es, σ, m => (evEs G Γ es σ m).bind fun vs m1 => Γ f vs m1
  | .callk f es kes pm, σ, m => (evEs G Γ es σ m).bind fun vs m1 => (evEs G Γ kes σ m1).bind fun ws m2 => (match permD (vs ++ ws) pm with
    | some us => Γ f us m2
    | none => .stuck)
  | .make c es, σ, m => (evEs G Γ es σ m).bind fun vs m1 => makeD G Γ c vs m1
  | .bi b es, σ, m => (evEs G Γ es σ m).bind fun vs m1 => ofO m1 (biD m1 b vs)
  | .isi a _ ts, σ, m => (evE G Γ a σ m).bind fun x m1 => if alive (fun c => (G.cls c).isSome) m1 x then .ok (.bl (ts.any fun t => isTy G.sup m1 x t)) m1 else .stuck
  | .rng tupled es, σ, m => (evEs G Γ es σ m).bind fun vs m1 => (match vs with
    | [.int b] => if rgOk 0 b then .ok (if tupled then .tup (rngD 0 b) else .fl (rngD 0 b)) m1 else .stuck
    | [.int a, .int b] => if rgOk a b then .ok (if tupled then .tup (rngD a b) else .fl (rngD a b)) m1 else .stuck
    | _ => .stuck)
  | .lenset a, σ, m => (evE G Γ a σ m).bind fun x m1 => ofO m1 ((lensetD x).map fun n => .int (n : Nat))
  | .sortset a, σ, m => (evE G Γ a σ m).bind fun x m1 => ofO m1 ((sortsetD x).map .fl)
  | .app a e, σ, m => (evE G Γ a σ m).bind fun x m1 => (match m1.lstOf x with
    | some k => (evE G Γ e σ m1).bind fun y m2 => (match m2[k]? with
      | some (.lst xs) => if xs.length < lim then .ok .non (m2.set k (.lst (xs ++ [y]))) else .stuck
      | _ => .stuck)
    | none => .stuck)
  | .ext a e, σ, m => (evE G Γ a σ m).bind fun x m1 => (match m1.lstOf x with
    | some k => (evE G Γ e σ m1).bind fun y m2 => (match m2.flat y, m2[k]? with
      | .fl ys, some (.lst xs) => if xs.length + ys.length ≤ lim then .ok .non (m2.set k (.lst (xs ++ ys))) else .stuck
      | _, _ => .stuck)
    | none => .stuck)
  | .lc mu elt tg it cond own, σ, m => (evI G Γ it σ m).bind fun s m1 =>
    (lcG (fun d m => match bindTg tg d (wipeD σ own) with
      | some σ1 => ((evC G Γ cond σ1 m).bind fun k m1 => if k then (evE G Γ elt σ1 m1).bind fun y m2 => .ok (some y) m2 else .ok none m1).noexc
      | none => .stuck) s m1).bind fun ys m2 => if ys.length ≤ lim then (if mu then newCell m2 (.lst ys) else .ok (.fl ys) m2) else .stuck
  | .lck i e, σ, m => (match σ[i]? with
    | some (some (.cell k)) => (match m[k]? with
      | some (.dct false kvs) => lckR k (evE G Γ e σ (m.set k (.dct true kvs)))
      | _ => evE G Γ e σ m)
    | _ => evE G Γ e σ m)
def evEs (G : Env) (Γ : Fns) : Es → Loc → Store → Res (List D)
  | .nil, _, m => .ok [] m
  | .cons e r, σ, m => (evE G Γ e σ m).bind fun x m1 => (evEs G Γ r σ m1).bind fun xs m2 => .ok (x :: xs) m2
/-- and, or as values: all but the last are bools -/
def evB (G : Env) (Γ : Fns) (isAnd : Bool) : Es → Loc → Store → Res D
  | .nil, _, _ => .stuck
  | .cons e .nil, σ, m => evE G Γ e σ m
  | .cons e r, σ, m => (evE G Γ e σ m).bind fun x m1 => (ofO m1 (truD m1 x)).bind fun k m2 => if k = isAnd then evB G Γ isAnd r σ m2 else .ok x m2
/-- .. as tests -/
def evBT (G : Env) (Γ : Fns) (isAnd : Bool) : Ts → Loc → Store → Res Bool
  | .nil, _, _ => .stuck
  | .cons t .nil, σ, m => evT G Γ t σ m
  | .cons t r, σ, m => (evT G Γ t σ m).bind fun k m1 => if k = isAnd then evBT G Γ isAnd r σ m1 else .ok k m1
def evT (G : Env) (Γ : Fns) : T → Loc → Store → Res Bool
  | .bop isAnd ts, σ, m => evBT G Γ isAnd ts σ m
  | .notv t, σ, m => (evT G Γ t σ m).bind fun k m1 => .ok (!k) m1
  | .e a, σ, m => (evE G Γ a σ m).bind fun x m1 => ofO m1 (truD m1 x)
def evO (G : Env) (Γ : Fns) : Oe → Loc → Store → Res (Option Int)
  | .none, _, m => .ok none m
  | .some e, σ, m => (evE G Γ e σ m).bind fun x m1 => (match x with
    | .int i => .ok (some i) m1
    | _ => .stuck)
def evC (G : Env) (Γ : Fns) : Ot → Loc → Store → Res Bool
  | .none, _, m => .ok true m
  | .some t, σ, m => evT G Γ t σ m
def evI (G : Env) (Γ : Fns) : Wk → Loc → Store → Res Src
  | .e a, σ, m => (evE G Γ a σ m).bind fun x m1 => ofO m1 (m1.src x)
  | .rng1 a, σ, m => (evE G Γ a σ m).bind fun x m1 => (match x with
    | .int b => if rgOk 0 b then .ok (.fix (rngD 0 b)) m1 else .stuck
    | _ => .stuck)
  | .rng2 a b, σ, m => (evE G Γ a σ m).bind fun x m1 => (evE G Γ b σ m1).bind fun y m2 => (match x, y with
    | .int a, .int b => if rgOk a b then .ok (.fix (rngD a b)) m2 else .stuck
    | _, _ => .stuck)
  | .enum a, σ, m => (evE G Γ a σ m).bind fun x m1 => (match x with
    | .fl xs => .ok (.fix (enumD xs)) m1
    | .ro xs => .ok (.fix (enumD xs)) m1
    | .tup xs => .ok (.fix (enumD xs)) m1
    | _ => .stuck)
end
/-- the store's cell that a value names becomes frozen -/
def frzD (m : Store) : D → Option (D × Store)
  | .cell k => match m[k]? with
    | some (.lst xs) => some (.fl xs, m.set k .dead)
    | _ => none
  | _ => none
def setixD (m : Store) (x i v : D) : Option Store := match x with
  | .cell k => match m[k]? with
    | some (.lst xs) => (match i with
      | .int i => (ixN xs.length i).map fun j => m.set k (.lst (xs.set j v))
      | _ => none)
    | some (.dct false kvs) => if kvs.length < 1000000 then (keyD i).map fun y => m.set k (.dct false (putK y v kvs)) else none
    | _ => none
  | _ => none
def setfldD (G : Env) (m : Store) (x : D) (f : Nat) (v : D) : Option Store := match x with
  | .cell k => match m[k]? with
    | some (.ins c ns fs) => if ns.length < 900 ∧ (G.cls c).isSome = true then some (m.set k (let r := putF f v ns fs; .ins c r.1 r.2)) else none
    | _ => none
  | _ => none
def hdItem (x : D) : Hi → Option D
  | .lit l => some l.d
  | .fld f => match x with
    | .ex _ ns fs => getF f ns fs
    | _ => none
def hdItems (x : D) : List Hi → Option (List D)
  | [] => some []
  | h :: r => match hdItem x h, hdItems x r with
    | some d, some ds => some (d :: ds)
    | _, _ => none
/-- the first clause that names the exception's class or one above -/
def hdGo (G : Env) (x : D) (σ : Loc) (m : Store) : List Hd → Flw
  | [] => .exc x σ m
  | h :: r => match x with
    | .ex c ns _ => (match G.xcl c with
      | some C => if ns = C.fs then (if G.sup c h.c then (match h.items with
          | none => .rt .non m
          | some hs => match hdItems x hs with
            | some ds => .rt (.fl ds) m
            | none => .stuck) else hdGo G x σ m r) else .stuck
      | none => .stuck)
    | _ => .stuck
mutual
def evS (G : Env) (Γ : Fns) : S → Loc → Store → Flw
  | .set i e, σ, m => (evE G Γ e σ m).go σ fun d m1 => .nx (σ.set i (some d)) m1
  | .par is es, σ, m => (evEs G Γ es σ m).go σ fun ds m1 => if ds.length = is.length then .nx ((is.zip ds).foldl (fun σ p => σ.set p.1 (some p.2)) σ) m1 else .stuck
  | .unp is e, σ, m => (evE G Γ e σ m).go σ fun d m1 => bound (.tp is) d σ fun σ1 => .nx σ1 m1
  | .setix a i e, σ, m => (evE G Γ e σ m).go σ fun v m1 => (evE G Γ a σ m1).go σ fun x m2 => (evE G Γ i σ m2).go σ fun y m3 => (match setixD m3 x y v with
    | some m4 => .nx σ m4
    | none => .stuck)
  | .setfld a f e, σ, m => (evE G Γ e σ m).go σ fun v m1 => (evE G Γ a σ m1).go σ fun x m2 => (match setfldD G m2 x f v with
    | some m3 => .nx σ m3
    | none => .stuck)
  | .aug i op e, σ, m => (match σ[i]? with
    | some (some x) => (evE G Γ e σ m).go σ fun y m1 => (match augD op x y with
      | some z => .nx (σ.set i (some z)) m1
      | none => .stuck)
    | _ => .stuck)
  | .ex e, σ, m => (evE G Γ e σ m).go σ fun _ m1 => .nx σ m1
  | .ret e, σ, m => (evE G Γ e σ m).go σ fun d m1 => .rt d m1
  | .retN, _, m => .rt .non m
  | .ite t a b, σ, m => (evT G Γ t σ m).go σ fun k m1 => if k then evSs G Γ a σ m1 else evSs G Γ b σ m1
  | .for tg it b, σ, m => (evI G Γ it σ m).go σ fun s m1 => forG (fun σ m => evSs G Γ b σ m) tg s σ m1
  | .while t b, σ, m => whileD (fun σ m => evT G Γ t σ m) (fun σ m => evSs G Γ b σ m) (lim + 1) σ m
  | .brk, σ, m => .brk σ m
  | .ct, σ, m => .ct σ m
  | .pass, σ, m => .nx σ m
  | .raise c es, σ, m => (evEs G Γ es σ m).go σ fun vs m1 => (match G.xcl c with
    | some C => if vs.length = C.fs.length then .exc (.ex c C.fs vs) σ m1 else .stuck
    | none => .stuck)
  | .tryx b hs, σ, m => (match evSs G Γ b σ m with
    | .exc x σ1 m1 => hdGo G x σ1 m1 hs
    | r => r)
  | .frz i, σ, m => (match σ[i]? with
    | some (some x) => (match frzD m x with
      | some (d, m1) => .nx (σ.set i (some d)) m1
      | none => .stuck)
    | _ => .stuck)
def evSs (G : Env) (Γ : Fns) : Ss → Loc → Store → Flw
  | .nil, σ, m => .nx σ m
  | .cons s r, σ, m => (evS G Γ s σ m).go fun σ1 m1 => evSs G Γ r σ1 m1
end
structure FnC where
  np : Nat
  nl : Nat
  body : Ss
def Flw.fin : Flw → Res D
  | .nx _ m => .ok .non m
  | .rt d m => .ok d m
  | .exc x _ m => .exc x m
  | _ => .stuck
/-- what the functions do, calls nested n deep at most -/
def run (G : Env) (fns : Nat → Option FnC) : Nat → Fns
  | 0, _, _, _ => .stuck
  | n + 1, f, vs, m => match fns f with
    | some F => if vs.length = F.np then (evSs G (run G fns n) F.body (vs.map some ++ List.replicate (F.nl - F.np) none) m).fin else .stuck
    | none => .stuck
end Dy
end
section
set_option Elab.async false
set_option linter.all false
set_option maxRecDepth 100000
set_option maxHeartbeats 4000000
/-! DyRep: how the model's heap bears the interpreter's data and store. -/
namespace Dy
open PySem L2
abbrev Ad := PySem.Addr
def sx (s : List Nat) : PySem.Str := ⟨s.toArray⟩
/-- where the text's classes stand, what attributes are called -/
structure Lk where
  G : Env
  fns : Nat → Option FnC
  fnm : Nat → PySem.Str
  cnm : Nat → PySem.Str
  gnm : Nat → PySem.Str
  kb : Nat → Nat → List PySem.Str → List Nat → Bool
  glo : Nat → Bool
  nc : Nat
  fok : Nat → Bool
  cad : Nat → Ad
  fad : Nat → Ad
  atn : Nat → PySem.Str
  atI : ∀ i j, atn i = atn j → i = j
/-- where the store's places stand; the lists that are being written (no data may name them) -/
structure Pl where
  c : List Ad
  g : List Ad
def Pl.add (ρ : Pl) (p : Ad) : Pl := ⟨ρ.c ++ [p], ρ.g⟩
/-- what a place of the store is while it lives; a list that is being written -/
def Lv (ρ : Pl) (m : Store) (a : Ad) : Prop := (∃ (k : Nat) (c : Cell), m[k]? = some c ∧ c ≠ .dead ∧ ρ.c[k]? = some a) ∨ a ∈ ρ.g
/-- a list that is read alone: the script's, the text's own -/
def RoL (K : PySem.W.Frag) (H : Hp) (a : Ad) (vs : List V) : Prop := (∃ o, H a = some (.frz o (.lst vs))) ∨
  ∃ (o : PySem.Obj) (its : Array PySem.Value) (n : Nat), K.lookup a = some o ∧ o.cls = .type "list" ∧ o.dict = none ∧ o.data = .seq its n ∧ its.size ≤ sizeLine ∧ Vals vs its.toList
def zipF (L : Lk) : List Nat → List V → List (PySem.Str × V)
  | n :: ns, v :: vs => (L.atn n, v) :: zipF L ns vs
  | _, _ => []
section
variable (K : PySem.W.Frag) (L : Lk) (ρ : Pl) (m : Store) (H : Hp)
mutual
def Rep : D → V → Prop
  | .non, v => v = .non
  | .bl b, v => v = .bl b
  | .int i, v => v = .int i
  | .str s, v => v = .str (sx s)
  | .tup xs, v => ∃ a vs, v = .ref a ∧ SqT K H a vs ∧ Reps xs vs
  | .fl xs, v => ∃ a vs, v = .ref a ∧ H a = some (.lst vs) ∧ ¬ Lv ρ m a ∧ Reps xs vs
  | .ro xs, v => ∃ a vs, v = .ref a ∧ RoL K H a vs ∧ Reps xs vs
  | .ob c ns fs, v => ∃ a dx vs, v = .ref a ∧ H a = some (.ins (L.cad c) dx (zipF L ns vs)) ∧ ¬ Lv ρ m a ∧ ns.length = fs.length ∧ Reps fs vs
  | .ex _ _ _, _ => False
  | .cell k, v => ∃ a, v = .ref a ∧ ρ.c[k]? = some a
def Reps : List D → List V → Prop
  | [], vs => vs = []
  | x :: xs, vs => ∃ v r, vs = v :: r ∧ Rep x v ∧ Reps xs r
end
def kyV : Ky → Key
  | .inl i => .inl i
  | .inr s => .inr (sx s)
def RepK : List (Ky × D) → List (Key × V) → Prop
  | [], vs => vs = []
  | p :: r, vs => ∃ v vr, vs = (kyV p.1, v) :: vr ∧ Rep K L ρ m H p.2 v ∧ RepK r vr
def CellOk (a : Ad) : Cell → Prop
  | .lst xs => ∃ vs, H a = some (.lst vs) ∧ Reps K L ρ m H xs vs
  | .dct lk kvs => ∃ kv, RepK K L ρ m H kvs kv ∧ (kv.map (·.1)).Nodup ∧ match lk with
    | false => H a = some (.dK kv)
    | true => ∃ o, H a = some (.frz o (.dK kv))
  | .ins c ns fs => ∃ dx vs, H a = some (.ins (L.cad c) dx (zipF L ns vs)) ∧ ns.length = fs.length ∧ Reps K L ρ m H fs vs
  | .dead => True
/-- the store is borne -/
structure SR : Prop where
  len : ρ.c.length = m.length
  cell : ∀ (k : Nat) (c : Cell) (a : Ad), m[k]? = some c → ρ.c[k]? = some a → CellOk K L ρ m H a c
  inj : ∀ (i j : Nat) (a : Ad) (c c' : Cell), m[i]? = some c → c ≠ .dead → m[j]? = some c' → c' ≠ .dead → ρ.c[i]? = some a → ρ.c[j]? = some a → i = j
  gh : ∀ a ∈ ρ.g, ∃ vs, H a = some (.lst vs)
  dj : ∀ (k : Nat) (c : Cell) (a : Ad), m[k]? = some c → c ≠ .dead → ρ.c[k]? = some a → a ∉ ρ.g
end
/-- objects that frozen data may hold -/
def fk : HO → Bool
  | .lst _ => true
  | .tup _ => true
  | .ins _ _ _ => true
  | .frz _ _ => true
  | _ => false
/-- from one state to a later one, whatever is being written -/
structure Wst (ρ : Pl) (m : Store) (H : Hp) (ρ' : Pl) (m' : Store) (H' : Hp) : Prop where
  pre : ∃ e, ρ'.c = ρ.c ++ e
  keep : ∀ a o, H a = some o → fk o = true → ¬ Lv ρ m a → H' a = some o
  nl : ∀ a o, H a = some o → fk o = true → ¬ Lv ρ m a → ¬ Lv ρ' m' a
/-- from one state to a later one -/
structure Step (ρ : Pl) (m : Store) (H : Hp) (ρ' : Pl) (m' : Store) (H' : Hp) : Prop where
  pre : ∃ e, ρ'.c = ρ.c ++ e
  gg : ρ'.g = ρ.g
  gk : ∀ a ∈ ρ.g, H' a = H a
  keep : ∀ a o, H a = some o → fk o = true → ¬ Lv ρ m a → H' a = some o
  nl : ∀ a o, H a = some o → fk o = true → ¬ Lv ρ m a → ¬ Lv ρ' m' a
  lk : ∀ a o kv, H a = some (.frz o (.dK kv)) → H' a = some (.frz o (.dK kv))
/-- a weak step that leaves locked dicts -/
structure Wsl (ρ : Pl) (m : Store) (H : Hp) (ρ' : Pl) (m' : Store) (H' : Hp) : Prop where
  w : Wst ρ m H ρ' m' H'
  lk : ∀ a o kv, H a = some (.frz o (.dK kv)) → H' a = some (.frz o (.dK kv))
theorem Step.wl {ρ ρ' : Pl} {m m' : Store} {H H' : Hp} (st : Step ρ m H ρ' m' H') : Wsl ρ m H ρ' m' H' := ⟨⟨st.pre, st.keep, st.nl⟩, st.lk⟩
theorem Step.w {ρ ρ' : Pl} {m m' : Store} {H H' : Hp} (st : Step ρ m H ρ' m' H') : Wst ρ m H ρ' m' H' := ⟨st.pre, st.keep, st.nl⟩
section
variable {K : PySem.W.Frag} {L : Lk} {ρ ρ1 ρ2 : Pl} {m m1 m2 : Store} {H H1 H2 : Hp}
theorem Step.refl : Step ρ m H ρ m H := ⟨⟨[], by simp⟩, rfl, fun _ _ => rfl, fun _ _ h _ _ => h, fun _ _ _ _ h => h, fun _ _ _ h => h⟩
theorem Step.trans (a : Step ρ m H ρ1 m1 H1) (b : Step ρ1 m1 H1 ρ2 m2 H2) : Step ρ m H ρ2 m2 H2 := by
  refine ⟨?_, b.gg.trans a.gg, fun x hx => (b.gk x (by rw [a.gg]; exact hx)).trans (a.gk x hx), fun x o h f n => b.keep x o (a.keep x o h f n) f (a.nl x o h f n), fun x o h f n => b.nl x o (a.keep x o h f n) f (a.nl x o h f n), fun x o kv h => b.lk x o kv (a.lk x o kv h)⟩
  obtain ⟨e, he⟩ := a.pre
  obtain ⟨e', he'⟩ := b.pre
  exact ⟨e ++ e', by rw [he', he, List.append_assoc]⟩
theorem Wst.refl : Wst ρ m H ρ m H := ⟨⟨[], by simp⟩, fun _ _ h _ _ => h, fun _ _ _ _ h => h⟩
theorem Wst.trans (a : Wst ρ m H ρ1 m1 H1) (b : Wst ρ1 m1 H1 ρ2 m2 H2) : Wst ρ m H ρ2 m2 H2 := by
  refine ⟨?_, fun x o h f n => b.keep x o (a.keep x o h f n) f (a.nl x o h f n), fun x o h f n => b.nl x o (a.keep x o h f n) f (a.nl x o h f n)⟩
  obtain ⟨e, he⟩ := a.pre
  obtain ⟨e', he'⟩ := b.pre
  exact ⟨e ++ e', by rw [he', he, List.append_assoc]⟩
theorem Wsl.refl : Wsl ρ m H ρ m H := ⟨Wst.refl, fun _ _ _ e => e⟩
theorem Wsl.trans (a : Wsl ρ m H ρ1 m1 H1) (b : Wsl ρ1 m1 H1 ρ2 m2 H2) : Wsl ρ m H ρ2 m2 H2 := ⟨a.w.trans b.w, fun x o kv e => b.lk x o kv (a.lk x o kv e)⟩
theorem Wst.get (st : Wst ρ m H ρ1 m1 H1) {k : Nat} {a : Ad} (h : ρ.c[k]? = some a) : ρ1.c[k]? = some a := by
  obtain ⟨e, he⟩ := st.pre
  rw [he]
  obtain ⟨hk, _⟩ := List.getElem?_eq_some_iff.mp h
  rw [List.getElem?_append_left hk]
  exact h
theorem Step.get (st : Step ρ m H ρ1 m1 H1) {k : Nat} {a : Ad} (h : ρ.c[k]? = some a) : ρ1.c[k]? = some a := by
  obtain ⟨e, he⟩ := st.pre
  rw [he]
  obtain ⟨hk, _⟩ := List.getElem?_eq_some_iff.mp h
  rw [List.getElem?_append_left hk]
  exact h
/-- what stands at a live place -/
def liveO : HO → Bool
  | .lst _ => true
  | .dK _ => true
  | .frz _ (.dK _) => true
  | .ins _ _ _ => true
  | _ => false
theorem SR.live (S : SR K L ρ m H) {a : Ad} (h : Lv ρ m a) : ∃ o, H a = some o ∧ liveO o = true := by
  rcases h with ⟨k, c, h1, h2, h3⟩ | h
  case inr =>
    obtain ⟨vs, e⟩ := S.gh a h
    exact ⟨_, e, rfl⟩
  have q := S.cell k c a h1 h3
  cases c with
  | lst xs =>
    obtain ⟨vs, e, _⟩ := q
    exact ⟨_, e, rfl⟩
  | dct lk kvs =>
    obtain ⟨kv, _, _, e⟩ := q
    cases lk with
    | false => exact ⟨_, e, rfl⟩
    | true =>
      obtain ⟨o, e⟩ := e
      exact ⟨_, e, rfl⟩
  | ins c ns fs =>
    obtain ⟨dx, vs, e, _⟩ := q
    exact ⟨_, e, rfl⟩
  | dead => exact absurd rfl h2
theorem SR.notLive (S : SR K L ρ m H) {a : Ad} {o : HO} (h : H a = some o) (hl : liveO o = false) : ¬ Lv ρ m a := fun z => by
  obtain ⟨u, h1, h2⟩ := S.live z
  rw [h] at h1
  cases h1
  rw [hl] at h2
  cases h2
theorem SR.free (S : SR K L ρ m H) {a : Ad} (h : H a = none) : ¬ Lv ρ m a := fun z => by
  obtain ⟨u, h1, _⟩ := S.live z
  rw [h] at h1
  cases h1
theorem SqT.stepW {a : Ad} {vs : List V} (S : SR K L ρ m H) (st : Wst ρ m H ρ1 m1 H1) (h : SqT K H a vs) : SqT K H1 a vs := by
  rcases h with (h | ⟨o, h⟩) | h
  · exact .inl (.inl (st.keep _ _ h rfl (S.notLive h rfl)))
  · exact .inl (.inr ⟨o, st.keep _ _ h rfl (S.notLive h rfl)⟩)
  · exact .inr h
theorem RoL.sql {a : Ad} {vs : List V} (h : RoL K H a vs) : SqL K H a vs := by
  rcases h with ⟨o, h⟩ | h
  · exact .inl (.inr ⟨o, h⟩)
  · exact .inr h
theorem RoL.stepW {a : Ad} {vs : List V} (S : SR K L ρ m H) (st : Wst ρ m H ρ1 m1 H1) (h : RoL K H a vs) : RoL K H1 a vs := by
  rcases h with ⟨o, h⟩ | h
  · exact .inl ⟨o, st.keep _ _ h rfl (S.notLive h rfl)⟩
  · exact .inr h
mutual
theorem Rep.stepW (S : SR K L ρ m H) (st : Wst ρ m H ρ1 m1 H1) : ∀ (d : D) (v : V), Rep K L ρ m H d v → Rep K L ρ1 m1 H1 d v
  | .non, v, h => by rw [Rep] at h ⊢; exact h
  | .bl b, v, h => by rw [Rep] at h ⊢; exact h
  | .int i, v, h => by rw [Rep] at h ⊢; exact h
  | .str s, v, h => by rw [Rep] at h ⊢; exact h
  | .tup xs, v, h => by
    rw [Rep] at h ⊢
    obtain ⟨a, vs, e, h1, h2⟩ := h
    exact ⟨a, vs, e, SqT.stepW S st h1, Reps.stepW S st xs vs h2⟩
  | .fl xs, v, h => by
    rw [Rep] at h ⊢
    obtain ⟨a, vs, e, h1, n, h2⟩ := h
    exact ⟨a, vs, e, st.keep _ _ h1 rfl n, st.nl _ _ h1 rfl n, Reps.stepW S st xs vs h2⟩
  | .ro xs, v, h => by
    rw [Rep] at h ⊢
    obtain ⟨a, vs, e, h1, h2⟩ := h
    exact ⟨a, vs, e, RoL.stepW S st h1, Reps.stepW S st xs vs h2⟩
  | .ob c ns fs, v, h => by
    rw [Rep] at h ⊢
    obtain ⟨a, dx, vs, e, h1, n, hl, h2⟩ := h
    exact ⟨a, dx, vs, e, st.keep _ _ h1 rfl n, st.nl _ _ h1 rfl n, hl, Reps.stepW S st fs vs h2⟩
  | .ex _ _ _, v, h => by rw [Rep] at h; exact h.elim
  | .cell k, v, h => by
    rw [Rep] at h ⊢
    obtain ⟨a, e, h1⟩ := h
    exact ⟨a, e, st.get h1⟩
theorem Reps.stepW (S : SR K L ρ m H) (st : Wst ρ m H ρ1 m1 H1) : ∀ (ds : List D) (vs : List V), Reps K L ρ m H ds vs → Reps K L ρ1 m1 H1 ds vs
  | [], vs, h => by rw [Reps] at h ⊢; exact h
  | x :: xs, vs, h => by
    rw [Reps] at h ⊢
    obtain ⟨v, r, e, h1, h2⟩ := h
    exact ⟨v, r, e, Rep.stepW S st x v h1, Reps.stepW S st xs r h2⟩
end
theorem RepK.stepW (S : SR K L ρ m H) (st : Wst ρ m H ρ1 m1 H1) : ∀ (ds : List (Ky × D)) (vs : List (Key × V)), RepK K L ρ m H ds vs → RepK K L ρ1 m1 H1 ds vs
  | [], vs, h => h
  | p :: r, vs, h => by
    obtain ⟨v, vr, e, h1, h2⟩ := h
    exact ⟨v, vr, e, Rep.stepW S st _ v h1, RepK.stepW S st r vr h2⟩
theorem SqT.step {a : Ad} {vs : List V} (S : SR K L ρ m H) (st : Step ρ m H ρ1 m1 H1) (h : SqT K H a vs) : SqT K H1 a vs := SqT.stepW S st.w h
theorem RoL.step {a : Ad} {vs : List V} (S : SR K L ρ m H) (st : Step ρ m H ρ1 m1 H1) (h : RoL K H a vs) : RoL K H1 a vs := RoL.stepW S st.w h
theorem Rep.step (S : SR K L ρ m H) (st : Step ρ m H ρ1 m1 H1) (d : D) (v : V) (h : Rep K L ρ m H d v) : Rep K L ρ1 m1 H1 d v := Rep.stepW S st.w d v h
theorem Reps.step (S : SR K L ρ m H) (st : Step ρ m H ρ1 m1 H1) (ds : List D) (vs : List V) (h : Reps K L ρ m H ds vs) : Reps K L ρ1 m1 H1 ds vs := Reps.stepW S st.w ds vs h
theorem RepK.step (S : SR K L ρ m H) (st : Step ρ m H ρ1 m1 H1) (ds : List (Ky × D)) (vs : List (Key × V)) (h : RepK K L ρ m H ds vs) : RepK K L ρ1 m1 H1 ds vs := RepK.stepW S st.w ds vs h
/-- a place whose object stands as it stood -/
theorem CellOk.stepW {a : Ad} {c : Cell} (S : SR K L ρ m H) (st : Wst ρ m H ρ1 m1 H1) (e : c ≠ .dead → H1 a = H a) (h : CellOk K L ρ m H a c) : CellOk K L ρ1 m1 H1 a c := by
  cases c with
  | lst xs =>
    obtain ⟨vs, h1, h2⟩ := h
    exact ⟨vs, by rw [e (by simp), h1], Reps.stepW S st _ _ h2⟩
  | dct lk kvs =>
    obtain ⟨kv, h1, h2, h3⟩ := h
    refine ⟨kv, RepK.stepW S st _ _ h1, h2, ?_⟩
    cases lk with
    | false => exact (e (by simp)).trans h3
    | true =>
      obtain ⟨o, h3⟩ := h3
      exact ⟨o, (e (by simp)).trans h3⟩
  | ins c ns fs =>
    obtain ⟨dx, vs, h1, hl, h2⟩ := h
    exact ⟨dx, vs, by rw [e (by simp), h1], hl, Reps.stepW S st _ _ h2⟩
  | dead => trivial
theorem CellOk.step {a : Ad} {c : Cell} (S : SR K L ρ m H) (st : Step ρ m H ρ1 m1 H1) (e : c ≠ .dead → H1 a = H a) (h : CellOk K L ρ m H a c) : CellOk K L ρ1 m1 H1 a c := CellOk.stepW S st.w e h
theorem SR.there (S : SR K L ρ m H) {a : Ad} (h : Lv ρ m a) : H a ≠ none := fun z => S.free z h
/-- a new object that is no place of the store -/
theorem step_new {p : Ad} {o : HO} (S : SR K L ρ m H) (hp : H p = none) : Step ρ m H ρ m (upd H p o) :=
  ⟨⟨[], by simp⟩, rfl, fun a ha => by
    obtain ⟨vs, e⟩ := S.gh a ha
    rw [upd_ne (ne_of_none e hp)], fun a u e _ _ => by rw [upd_ne (ne_of_none e hp)]; exact e, fun _ _ _ _ n => n, fun a o kv e => by rw [upd_ne (ne_of_none e hp)]; exact e⟩
theorem SR.new {p : Ad} {o : HO} (S : SR K L ρ m H) (hp : H p = none) : SR K L ρ m (upd H p o) := by
  refine ⟨S.len, fun k c a h1 h2 => ?_, S.inj, fun a ha => ?_, S.dj⟩
  · refine (S.cell k c a h1 h2).step S (step_new S hp) fun hc => ?_
    have hl : Lv ρ m a := .inl ⟨k, c, h1, hc, h2⟩
    obtain ⟨u, hu, _⟩ := S.live hl
    rw [upd_ne (ne_of_none hu hp)]
  · obtain ⟨vs, e⟩ := S.gh a ha
    exact ⟨vs, by rw [upd_ne (ne_of_none e hp)]; exact e⟩
theorem notLv_new {p : Ad} (S : SR K L ρ m H) (hp : H p = none) : ¬ Lv ρ m p := S.free hp
/-- a new place of the store -/
theorem lv_app {a p : Ad} {c : Cell} (hl : ρ.c.length = m.length) (h : Lv (ρ.add p) (m ++ [c]) a) : Lv ρ m a ∨ a = p := by
  rcases h with ⟨k, c', h1, h2, h3⟩ | h
  case inr => exact .inl (.inr h)
  have h3 : (ρ.c ++ [p])[k]? = some a := h3
  by_cases hk : k < m.length
  · rw [List.getElem?_append_left hk] at h1
    rw [List.getElem?_append_left (by omega)] at h3
    exact .inl (.inl ⟨k, c', h1, h2, h3⟩)
  · obtain ⟨q, _⟩ := List.getElem?_eq_some_iff.mp h1
    have e : k = ρ.c.length := by rw [List.length_append] at q; simp at q; omega
    rw [e] at h3
    simp at h3
    exact .inr h3.symm
theorem add_at {p : Ad} (S : SR K L ρ m H) : (ρ.add p).c[m.length]? = some p := by
  show (ρ.c ++ [p])[m.length]? = some p
  rw [← S.len]
  simp
/-- a place that holds nothing of the data -/
def Idle (ρ : Pl) (m : Store) (H : Hp) (p : Ad) : Prop := (∀ o, H p = some o → fk o = false) ∧ ¬ Lv ρ m p
theorem SR.idle (S : SR K L ρ m H) {p : Ad} (hp : H p = none) : Idle ρ m H p := ⟨fun o e => (nomatch hp.symm.trans e), S.free hp⟩
theorem step_cell {p : Ad} {o : HO} {c : Cell} (S : SR K L ρ m H) (hp : Idle ρ m H p) : Step ρ m H (ρ.add p) (m ++ [c]) (upd H p o) := by
  have ne : ∀ {a : Ad} {u : HO}, H a = some u → fk u = true → a ≠ p := fun {a u} e f z => by
    have q := hp.1 u (z ▸ e)
    rw [f] at q
    cases q
  refine ⟨⟨[p], rfl⟩, rfl, fun a ha => ?_, fun a u e f _ => by rw [upd_ne (ne e f)]; exact e, fun a u e f n z => ?_, fun a o kv e => by rw [upd_ne (ne e rfl)]; exact e⟩
  · have : a ≠ p := fun z => hp.2 (.inr (z ▸ ha))
    rw [upd_ne this]
  · rcases lv_app S.len z with z | z
    · exact n z
    · exact ne e f z
theorem SR.newCell {p : Ad} {o : HO} {c : Cell} (S : SR K L ρ m H) (hp : Idle ρ m H p) (hc : CellOk K L (ρ.add p) (m ++ [c]) (upd H p o) p c) : SR K L (ρ.add p) (m ++ [c]) (upd H p o) := by
  have st := step_cell (o := o) (c := c) S hp
  have el : ρ.c.length = m.length := S.len
  have old : ∀ {k : Nat} {c' : Cell} {a : Ad}, (m ++ [c])[k]? = some c' → (ρ.add p).c[k]? = some a → (k < m.length ∧ m[k]? = some c' ∧ ρ.c[k]? = some a) ∨ (k = m.length ∧ c' = c ∧ a = p) := by
    intro k c' a h1 h2
    have h2 : (ρ.c ++ [p])[k]? = some a := h2
    by_cases hk : k < m.length
    · rw [List.getElem?_append_left hk] at h1
      rw [List.getElem?_append_left (by omega)] at h2
      exact .inl ⟨hk, h1, h2⟩
    · obtain ⟨q, _⟩ := List.getElem?_eq_some_iff.mp h1
      have e : k = m.length := by rw [List.length_append] at q; simp at q; omega
      subst e
      rw [List.getElem?_append_right (Nat.le_refl _)] at h1
      rw [List.getElem?_append_right (by omega)] at h2
      simp at h1
      simp [el] at h2
      exact .inr ⟨rfl, h1.symm, h2.symm⟩
  refine ⟨by show (ρ.c ++ [p]).length = _; simp [el], fun k c' a h1 h2 => ?_, fun i j a c1 c2 h1 n1 h2 n2 h3 h4 => ?_, fun a ha => ?_, fun k c' a h1 n1 h2 => ?_⟩
  · rcases old h1 h2 with ⟨hk, h1, h2⟩ | ⟨rfl, rfl, rfl⟩
    · refine (S.cell k c' a h1 h2).step S st fun hc => ?_
      have lv : Lv ρ m a := .inl ⟨k, c', h1, hc, h2⟩
      have ne : a ≠ p := fun z => hp.2 (z ▸ lv)
      rw [upd_ne ne]
    · exact hc
  · rcases old h1 h3 with ⟨hi, g1, g3⟩ | ⟨ei, _, ea⟩
    · rcases old h2 h4 with ⟨hj, g2, g4⟩ | ⟨_, _, ea⟩
      · exact S.inj i j a c1 c2 g1 n1 g2 n2 g3 g4
      · exact absurd (.inl ⟨i, c1, g1, n1, ea ▸ g3⟩) hp.2
    · rcases old h2 h4 with ⟨hj, g2, g4⟩ | ⟨ej, _, _⟩
      · exact absurd (.inl ⟨j, c2, g2, n2, ea ▸ g4⟩) hp.2
      · exact ei.trans ej.symm
  · obtain ⟨vs, e⟩ := S.gh a ha
    exact ⟨vs, (st.gk a ha).trans e⟩
  · rcases old h1 h2 with ⟨hk, g1, g2⟩ | ⟨_, _, ea⟩
    · exact S.dj k c' a g1 n1 g2
    · subst ea
      exact fun z => hp.2 (.inr z)
/-- a live place is written -/
theorem lv_set {a : Ad} {k : Nat} {c c' : Cell} (hk : m[k]? = some c) (hc : c ≠ .dead) (h : Lv ρ (m.set k c') a) : Lv ρ m a := by
  rcases h with ⟨j, c1, h1, h2, h3⟩ | h
  case inr => exact .inr h
  by_cases e : j = k
  · subst e
    exact .inl ⟨j, c, hk, hc, h3⟩
  · rw [List.getElem?_set_ne (Ne.symm e)] at h1
    exact .inl ⟨j, c1, h1, h2, h3⟩
/-- a locked dict -/
def Cell.lkd : Cell → Bool
  | .dct b _ => b
  | _ => false
theorem step_setW {k : Nat} {c c' : Cell} {a : Ad} {o : HO} (S : SR K L ρ m H) (hk : m[k]? = some c) (hc : c ≠ .dead) (ha : ρ.c[k]? = some a) : Wst ρ m H ρ (m.set k c') (upd H a o) := by
  refine ⟨⟨[], by simp⟩, fun b u e _ n => ?_, fun b u e _ n z => n (lv_set hk hc z)⟩
  have hb : b ≠ a := fun z => n (z ▸ .inl ⟨k, c, hk, hc, ha⟩)
  rw [upd_ne hb]
  exact e
theorem step_set {k : Nat} {c c' : Cell} {a : Ad} {o : HO} (S : SR K L ρ m H) (hk : m[k]? = some c) (hc : c ≠ .dead) (ha : ρ.c[k]? = some a) (hl : c.lkd = false := by rfl) : Step ρ m H ρ (m.set k c') (upd H a o) := by
  refine ⟨⟨[], by simp⟩, rfl, fun b hb => ?_, fun b u e _ n => ?_, fun b u e _ n z => n (lv_set hk hc z), fun b o1 kv e => ?_⟩
  case refine_3 =>
    have hb : b ≠ a := fun z => by
      subst z
      have q := S.cell k c b hk ha
      cases c with
      | lst xs =>
        obtain ⟨vs, q, _⟩ := q
        rw [e] at q
        cases q
      | dct lk kvs =>
        obtain rfl : lk = false := hl
        obtain ⟨_, _, _, q⟩ := q
        have q : H b = some (.dK _) := q
        rw [e] at q
        cases q
      | ins c ns fs =>
        obtain ⟨_, _, q, _⟩ := q
        rw [e] at q
        cases q
      | dead => exact hc rfl
    rw [upd_ne hb]
    exact e
  · have : b ≠ a := fun z => S.dj k c a hk hc ha (z ▸ hb)
    rw [upd_ne this]
  · have hb : b ≠ a := fun z => n (z ▸ .inl ⟨k, c, hk, hc, ha⟩)
    rw [upd_ne hb]
    exact e
theorem SR.set {k : Nat} {c c' : Cell} {a : Ad} {o : HO} (S : SR K L ρ m H) (hk : m[k]? = some c) (hc : c ≠ .dead) (ha : ρ.c[k]? = some a) (h : CellOk K L ρ (m.set k c') (upd H a o) a c') : SR K L ρ (m.set k c') (upd H a o) := by
  have st := step_setW (c' := c') (o := o) S hk hc ha
  have lt : k < m.length := (List.getElem?_eq_some_iff.mp hk).1
  have back : ∀ {i : Nat} {c1 : Cell}, (m.set k c')[i]? = some c1 → c1 ≠ .dead → ∃ c0, m[i]? = some c0 ∧ c0 ≠ .dead := by
    intro i c1 h1 n1
    by_cases e : i = k
    · subst e
      exact ⟨c, hk, hc⟩
    · rw [List.getElem?_set_ne (Ne.symm e)] at h1
      exact ⟨c1, h1, n1⟩
  refine ⟨by simp [S.len], fun j c1 b h1 h2 => ?_, fun i j b c1 c2 h1 n1 h2 n2 h3 h4 => ?_, fun b hb => ?_, fun j c1 b h1 n1 h2 => ?_⟩
  · by_cases e : j = k
    · subst e
      rw [List.getElem?_set_self lt] at h1
      rw [ha] at h2
      cases h1
      cases h2
      exact h
    · rw [List.getElem?_set_ne (Ne.symm e)] at h1
      refine (S.cell j c1 b h1 h2).stepW S st fun hd => ?_
      have hb : b ≠ a := fun z => e (S.inj j k b c1 c h1 hd hk hc h2 (z ▸ ha))
      rw [upd_ne hb]
  · obtain ⟨d1, q1, r1⟩ := back h1 n1
    obtain ⟨d2, q2, r2⟩ := back h2 n2
    exact S.inj i j b d1 d2 q1 r1 q2 r2 h3 h4
  · obtain ⟨vs, e⟩ := S.gh b hb
    have : b ≠ a := fun z => S.dj k c a hk hc ha (z ▸ hb)
    exact ⟨vs, by rw [upd_ne this]; exact e⟩
  · obtain ⟨d1, q1, r1⟩ := back h1 n1
    exact S.dj j d1 b q1 r1 h2
/-- a place is given up: its object stands frozen from then on -/
theorem step_kill {k : Nat} {c : Cell} (S : SR K L ρ m H) (hk : m[k]? = some c) (hc : c ≠ .dead) : Step ρ m H ρ (m.set k .dead) H :=
  ⟨⟨[], by simp⟩, rfl, fun _ _ => rfl, fun _ _ e _ _ => e, fun _ _ _ _ n z => n (lv_set hk hc z), fun _ _ _ e => e⟩
theorem SR.kill {k : Nat} {c : Cell} (S : SR K L ρ m H) (hk : m[k]? = some c) (hc : c ≠ .dead) : SR K L ρ (m.set k .dead) H := by
  have st := step_kill S hk hc
  have lt : k < m.length := (List.getElem?_eq_some_iff.mp hk).1
  have back : ∀ {i : Nat} {c1 : Cell}, (m.set k .dead)[i]? = some c1 → c1 ≠ .dead → m[i]? = some c1 := by
    intro i c1 h1 n1
    by_cases e : i = k
    · subst e
      rw [List.getElem?_set_self lt] at h1
      cases h1
      exact absurd rfl n1
    · rwa [List.getElem?_set_ne (Ne.symm e)] at h1
  refine ⟨by simp [S.len], fun j c1 b h1 h2 => ?_, fun i j b c1 c2 h1 n1 h2 n2 h3 h4 => ?_, S.gh, fun j c1 b h1 n1 h2 => S.dj j c1 b (back h1 n1) n1 h2⟩
  · by_cases e : j = k
    · subst e
      rw [List.getElem?_set_self lt] at h1
      cases h1
      trivial
    · rw [List.getElem?_set_ne (Ne.symm e)] at h1
      exact (S.cell j c1 b h1 h2).step S st fun _ => rfl
  · exact S.inj i j b c1 c2 (back h1 n1) n1 (back h2 n2) n2 h3 h4
theorem notLv_kill {k : Nat} {c : Cell} {a : Ad} (S : SR K L ρ m H) (hk : m[k]? = some c) (hc : c ≠ .dead) (ha : ρ.c[k]? = some a) : ¬ Lv ρ (m.set k .dead) a := by
  rintro (⟨j, c1, h1, n1, h3⟩ | h)
  case inr => exact S.dj k c a hk hc ha h
  have lt : k < m.length := (List.getElem?_eq_some_iff.mp hk).1
  by_cases e : j = k
  · subst e
    rw [List.getElem?_set_self lt] at h1
    cases h1
    exact n1 rfl
  · rw [List.getElem?_set_ne (Ne.symm e)] at h1
    exact e (S.inj j k a c1 c h1 n1 hk hc h3 ha)
/-! ### a list that is being written -/
def Pl.gh (ρ : Pl) (p : Ad) : Pl := ⟨ρ.c, p :: ρ.g⟩
theorem wst_gh {p : Ad} {o : HO} (S : SR K L ρ m H) (hp : H p = none) : Wst ρ m H (ρ.gh p) m (upd H p o) := by
  refine ⟨⟨[], by show ρ.c = _; simp⟩, fun a u e _ _ => by rw [upd_ne (ne_of_none e hp)]; exact e, fun a u e _ n z => ?_⟩
  rcases z with z | z
  · exact n (.inl z)
  · rcases List.mem_cons.mp z with z | z
    · exact ne_of_none e hp z
    · exact n (.inr z)
theorem wsl_gh {p : Ad} {o : HO} (S : SR K L ρ m H) (hp : H p = none) : Wsl ρ m H (ρ.gh p) m (upd H p o) := ⟨wst_gh S hp, fun a o kv e => by rw [upd_ne (ne_of_none e hp)]; exact e⟩
theorem SR.ghost {p : Ad} {vs : List V} (S : SR K L ρ m H) (hp : H p = none) : SR K L (ρ.gh p) m (upd H p (.lst vs)) := by
  have st := wst_gh (o := .lst vs) S hp
  refine ⟨S.len, fun k c a h1 h2 => ?_, S.inj, fun a ha => ?_, fun k c a h1 n1 h2 z => ?_⟩
  · refine (S.cell k c a h1 h2).stepW S st fun hc => ?_
    obtain ⟨u, hu, _⟩ := S.live (.inl ⟨k, c, h1, hc, h2⟩)
    rw [upd_ne (ne_of_none hu hp)]
  · rcases List.mem_cons.mp ha with rfl | ha
    · exact ⟨vs, upd_same⟩
    · obtain ⟨ws, e⟩ := S.gh a ha
      exact ⟨ws, by rw [upd_ne (ne_of_none e hp)]; exact e⟩
  · rcases List.mem_cons.mp z with z | z
    · subst z
      obtain ⟨u, hu, _⟩ := S.live (.inl ⟨k, c, h1, n1, h2⟩)
      rw [hp] at hu
      cases hu
    · exact S.dj k c a h1 n1 h2 z
theorem wst_wr {p : Ad} {o : HO} (hp : p ∈ ρ.g) : Wst ρ m H ρ m (upd H p o) :=
  ⟨⟨[], by simp⟩, fun a u e _ n => by
    have ne : a ≠ p := fun z => n (.inr (by rw [z]; exact hp))
    rw [upd_ne ne]
    exact e, fun _ _ _ _ n => n⟩
theorem wsl_wr {p : Ad} {o : HO} (S : SR K L ρ m H) (hp : p ∈ ρ.g) : Wsl ρ m H ρ m (upd H p o) := ⟨wst_wr hp, fun a o kv e => by
  have ne : a ≠ p := fun z => by
    obtain ⟨vs, q⟩ := S.gh p hp
    rw [z, q] at e
    cases e
  rw [upd_ne ne]
  exact e⟩
theorem SR.wr {p : Ad} {vs : List V} (S : SR K L ρ m H) (hp : p ∈ ρ.g) : SR K L ρ m (upd H p (.lst vs)) := by
  have st := wst_wr (m := m) (H := H) (o := .lst vs) hp
  refine ⟨S.len, fun k c a h1 h2 => ?_, S.inj, fun a ha => ?_, S.dj⟩
  · refine (S.cell k c a h1 h2).stepW S st fun hc => ?_
    have : a ≠ p := fun z => S.dj k c a h1 hc h2 (z ▸ hp)
    rw [upd_ne this]
  · by_cases e : a = p
    · subst e
      exact ⟨vs, upd_same⟩
    · obtain ⟨ws, q⟩ := S.gh a ha
      exact ⟨ws, by rw [upd_ne e]; exact q⟩
theorem wst_un {p : Ad} : Wst (ρ.gh p) m H ρ m H := ⟨⟨[], by show ρ.c = ρ.c ++ []; simp⟩, fun _ _ e _ _ => e, fun a o _ _ n z => n (by
  rcases z with z | z
  · exact .inl z
  · exact .inr (List.mem_cons_of_mem _ z))⟩
theorem wsl_un {p : Ad} : Wsl (ρ.gh p) m H ρ m H := ⟨wst_un, fun _ _ _ e => e⟩
theorem SR.unghost {p : Ad} (S : SR K L (ρ.gh p) m H) : SR K L ρ m H :=
  ⟨S.len, fun k c a h1 h2 => (S.cell k c a h1 h2).stepW S wst_un fun _ => rfl, S.inj, fun a ha => S.gh a (List.mem_cons_of_mem _ ha), fun k c a h1 n1 h2 z => S.dj k c a h1 n1 h2 (List.mem_cons_of_mem _ z)⟩
theorem notLv_un {p : Ad} (S : SR K L (ρ.gh p) m H) (hp : p ∉ ρ.g) : ¬ Lv ρ m p := by
  rintro (⟨k, c, h1, n1, h2⟩ | z)
  · exact S.dj k c p h1 n1 h2 List.mem_cons_self
  · exact hp z
end
end Dy
end
section
set_option Elab.async false
set_option linter.all false
set_option maxRecDepth 100000
set_option maxHeartbeats 4000000
/-! DyJud: what a run of the interpreter promises of the model's run. -/
namespace Dy
open PySem PySem.Spec PyProof.Rows L2
abbrev Vl := PySem.Value
/-- an exception of the interpreter, as it flies in the model -/
def XRep (K : PySem.W.Frag) (L : Lk) (ρ : Pl) (m : Store) (H : Hp) (x : D) (cls : Vl) (dx : Option Ad) : Prop :=
  ∃ c ns fs, x = .ex c ns fs ∧ cls = .ref (L.cad c) ∧ ns.length = fs.length ∧ (ns ≠ [] → ∃ d xs vs, dx = some d ∧ H d = some (.xd xs) ∧ Reps K L ρ m H fs vs ∧ ∀ q ∈ zipF L ns vs, xs.lookup q.1 = some q.2)
/-- what holds behind a run that ends by r: Q of what it gives, R of what it raises -/
def Post {α β : Type} (K : PySem.W.Frag) (L : Lk) (Rl : Pl → Store → Hp → α → β → Prop) (ρ : Pl) (m : Store) (H : Hp) (r : Res α) (Q : β → Hp → Prop) (R : XK) : Prop := match r with
  | .ok d m' => ∀ ρ' H' v, SR K L ρ' m' H' → Step ρ m H ρ' m' H' → Rl ρ' m' H' d v → Q v H'
  | .exc x m' => ∀ ρ' H' cls dx, SR K L ρ' m' H' → Step ρ m H ρ' m' H' → XRep K L ρ' m' H' x cls dx → R cls dx H'
  | .stuck => False
section
variable {α β γ δ : Type} {K : PySem.W.Frag} {L : Lk} {ρ ρ1 : Pl} {m m1 : Store} {H H1 : Hp} {R : XK}
theorem Post.next {Rl : Pl → Store → Hp → α → β → Prop} {r : Res α} {Q : β → Hp → Prop} (h : Post K L Rl ρ m H r Q R) (st : Step ρ m H ρ1 m1 H1) : Post K L Rl ρ1 m1 H1 r Q R := by
  cases r with
  | ok d m' => exact fun ρ' H' v S s q => h ρ' H' v S (st.trans s) q
  | exc x m' => exact fun ρ' H' cls dx S s q => h ρ' H' cls dx S (st.trans s) q
  | stuck => exact h
theorem Post.bind {Ra : Pl → Store → Hp → α → β → Prop} {Rb : Pl → Store → Hp → γ → δ → Prop} {r : Res α} {f : α → Store → Res γ} {Q : δ → Hp → Prop} {Q1 : β → Hp → Prop} (h : Post K L Rb ρ m H (r.bind f) Q R)
    (k : ∀ d m1 ρ1 H1 v, SR K L ρ1 m1 H1 → Step ρ m H ρ1 m1 H1 → Ra ρ1 m1 H1 d v → Post K L Rb ρ1 m1 H1 (f d m1) Q R → Q1 v H1) : Post K L Ra ρ m H r Q1 R := by
  cases r with
  | ok d m' => exact fun ρ' H' v S s q => k d m' ρ' H' v S s q (Post.next (r := f d m') h s)
  | exc x m' => exact h
  | stuck => exact h
theorem Post.ok {Rl : Pl → Store → Hp → α → β → Prop} {d : α} {Q : β → Hp → Prop} (h : Post K L Rl ρ m H (.ok d m) Q R) (S : SR K L ρ m H) {v : β} (r : Rl ρ m H d v) : Q v H := h ρ H v S Step.refl r
theorem Post.stuck {Rl : Pl → Store → Hp → α → β → Prop} {Q : β → Hp → Prop} (h : Post K L Rl ρ m H .stuck Q R) {P : Prop} : P := (show False from h).elim
theorem Post.ofO {Rl : Pl → Store → Hp → α → β → Prop} {o : Option α} {Q : β → Hp → Prop} (h : Post K L Rl ρ m H (ofO m o) Q R) : ∃ d, o = some d ∧ Post K L Rl ρ m H (.ok d m) Q R := by
  cases o with
  | none => exact (show False from h).elim
  | some d => exact ⟨d, rfl, h⟩
end
/-! ### the relations of what comes -/
abbrev RE (K : PySem.W.Frag) (L : Lk) : Pl → Store → Hp → D → V → Prop := Rep K L
abbrev RA (K : PySem.W.Frag) (L : Lk) : Pl → Store → Hp → List D → List V → Prop := Reps K L
abbrev RB : Pl → Store → Hp → Bool → Bool → Prop := fun _ _ _ a b => a = b
abbrev RO : Pl → Store → Hp → Option Int → Option Int → Prop := fun _ _ _ a b => a = b
/-! ### the model's runs -/
def EvE (X : Cx) (e : Expr) (σ : L2.St) (H : Hp) (Q : VK) : Prop := ∀ pins s, Inv X pins σ H s → wpAny (model X.prog X.w) X.A (eval e X.env) (EP X pins σ Q) X.xe s
def EvT (X : Cx) (e : Expr) (σ : L2.St) (H : Hp) (Q : Bool → Hp → Prop) : Prop := ∀ pins s, Inv X pins σ H s → wpAny (model X.prog X.w) X.A (isTrue e X.env (eval e X.env)) (TP X pins σ Q) X.xe s
def EvW (X : Cx) (e : Expr) (σ : L2.St) (H : Hp) (Q : Bool → Hp → Prop) : Prop := ∀ (whole : Sem Vl) pins s, Inv X pins σ H s → wpAny (model X.prog X.w) X.A (isTrue e X.env whole) (TP X pins σ Q) X.xe s
def EvA (X : Cx) (es : List Expr) (σ : L2.St) (H : Hp) (Q : List V → Hp → Prop) : Prop := ∀ (pos : Pos) pins s, Inv X pins σ H s → wpAny (model X.prog X.w) X.A (spliced (backTo pos (starEach es X.env))) (AP X pins σ Q) X.xe s
def EvK (X : Cx) (ks : List Keyword) (σ : L2.St) (H : Hp) (Q : List V → Hp → Prop) : Prop := ∀ (pos : Pos) pins s, Inv X pins σ H s → wpAny (model X.prog X.w) X.A (evalAll ((backToKw pos (keywordEach ks X.env)).map (·.2))) (AP X pins σ Q) X.xe s
def EvI (X : Cx) (tg it : Expr) (σ : L2.St) (H : Hp) (Q : It → Hp → Prop) : Prop := ∀ pins s, Inv X pins σ H s → wpAny (model X.prog X.w) X.A (eval it X.env) (fun v s1 => wpAny (model X.prog X.w) X.A (pyIter v) (PIE X pins σ tg Q) X.xe s1) X.xe s
def EvS (X : Cx) (st : Stmt) (σ : L2.St) (H : Hp) (D : Ends) : Prop := ∀ pins s, Inv X pins σ H s → wpAny (model X.prog X.w) X.A (exec st X.env) (SP X pins D) X.xe s
def EvSs (X : Cx) (st : List Stmt) (σ : L2.St) (H : Hp) (D : Ends) : Prop := ∀ pins s, Inv X pins σ H s → wpAny (model X.prog X.w) X.A (execs st X.env) (SP X pins D) X.xe s
section
variable {X : Cx} {e : Expr} {σ : L2.St} {H : Hp}
theorem EvE.pe : PE X e (EvE X e) := ⟨fun pins s _ _ _ I h => h pins s I⟩
theorem EvT.pt : PT X e (EvT X e) := ⟨fun pins s _ _ _ I h => h pins s I⟩
theorem EvW.pw : PW X e (EvW X e) := ⟨fun w pins s _ _ _ I h => h w pins s I⟩
theorem EvA.pa {es : List Expr} : PA X es (EvA X es) := ⟨fun pos pins s _ _ _ I h => h pos pins s I⟩
theorem EvK.pk {ks : List Keyword} : PK X ks (EvK X ks) := ⟨fun pos pins s _ _ _ I h => h pos pins s I⟩
theorem EvI.pi {tg it : Expr} : PI X tg it (EvI X tg it) := ⟨fun pins s _ _ _ I h => h pins s I⟩
theorem EvS.ps {st : Stmt} : PS X st (fun D σ H => EvS X st σ H D) := ⟨fun pins s _ _ _ I h => h pins s I⟩
theorem EvSs.pss {st : List Stmt} : PSs X st (fun D σ H => EvSs X st σ H D) := ⟨fun pins s _ _ _ I h => h pins s I⟩
theorem PE.ev {t : TE} (p : PE X e t) {Q : VK} (h : t σ H Q) : EvE X e σ H Q := fun pins s I => p.run pins s σ H Q I h
theorem PT.ev {t : TT} (p : PT X e t) {Q : Bool → Hp → Prop} (h : t σ H Q) : EvT X e σ H Q := fun pins s I => p.run pins s σ H Q I h
theorem PW.ev {t : TT} (p : PW X e t) {Q : Bool → Hp → Prop} (h : t σ H Q) : EvW X e σ H Q := fun w pins s I => p.run w pins s σ H Q I h
theorem PA.ev {es : List Expr} {t : TA} (p : PA X es t) {Q : List V → Hp → Prop} (h : t σ H Q) : EvA X es σ H Q := fun pos pins s I => p.run pos pins s σ H Q I h
theorem PK.ev {ks : List Keyword} {t : TA} (p : PK X ks t) {Q : List V → Hp → Prop} (h : t σ H Q) : EvK X ks σ H Q := fun pos pins s I => p.run pos pins s σ H Q I h
theorem PI.ev {tg it : Expr} {t : TI} (p : PI X tg it t) {Q : It → Hp → Prop} (h : t σ H Q) : EvI X tg it σ H Q := fun pins s I => p.run pins s σ H Q I h
theorem PS.ev {st : Stmt} {t : TS} (p : PS X st t) {D : Ends} (h : t D σ H) : EvS X st σ H D := fun pins s I => p.run pins s σ H D I h
theorem PSs.ev {st : List Stmt} {t : TS} (p : PSs X st t) {D : Ends} (h : t D σ H) : EvSs X st σ H D := fun pins s I => p.run pins s σ H D I h
theorem EvE.mono {Q Q' : VK} (h : EvE X e σ H Q) (k : ∀ v H', Q v H' → Q' v H') : EvE X e σ H Q' := fun pins s I => thn (h pins s I) fun _ _ ⟨v, H1, I1, r, q⟩ => ⟨v, H1, I1, r, k v H1 q⟩
end
/-! ### locals -/
def LocR (K : PySem.W.Frag) (L : Lk) (ρ : Pl) (m : Store) (H : Hp) (τ : Loc) (σ : L2.St) : Prop := τ.length = σ.length ∧ ∀ (i : Nat) (d : D), τ[i]? = some (some d) → ∃ v, σ[i]? = some (some v) ∧ Rep K L ρ m H d v
theorem LocR.step {K : PySem.W.Frag} {L : Lk} {ρ ρ1 : Pl} {m m1 : Store} {H H1 : Hp} {τ : Loc} {σ : L2.St} (l : LocR K L ρ m H τ σ) (S : SR K L ρ m H) (st : Step ρ m H ρ1 m1 H1) : LocR K L ρ1 m1 H1 τ σ :=
  ⟨l.1, fun i d e => let ⟨v, h1, h2⟩ := l.2 i d e; ⟨v, h1, Rep.step S st d v h2⟩⟩
theorem LocR.stepW {K : PySem.W.Frag} {L : Lk} {ρ ρ1 : Pl} {m m1 : Store} {H H1 : Hp} {τ : Loc} {σ : L2.St} (l : LocR K L ρ m H τ σ) (S : SR K L ρ m H) (st : Wst ρ m H ρ1 m1 H1) : LocR K L ρ1 m1 H1 τ σ :=
  ⟨l.1, fun i d e => let ⟨v, h1, h2⟩ := l.2 i d e; ⟨v, h1, Rep.stepW S st d v h2⟩⟩
theorem LocR.set {K : PySem.W.Frag} {L : Lk} {ρ : Pl} {m : Store} {H : Hp} {τ : Loc} {σ : L2.St} {i : Nat} {d : D} {v : V} (l : LocR K L ρ m H τ σ) (r : Rep K L ρ m H d v) : LocR K L ρ m H (τ.set i (some d)) (σ.set i (some v)) := by
  refine ⟨by simp [l.1], fun j d' e => ?_⟩
  by_cases h : j = i
  · subst h
    have hj : j < τ.length := by
      have q := (List.getElem?_eq_some_iff.mp e).1
      rwa [List.length_set] at q
    rw [List.getElem?_set_self hj] at e
    rw [List.getElem?_set_self (by rw [← l.1]; exact hj)]
    cases e
    exact ⟨v, rfl, r⟩
  · rw [List.getElem?_set_ne (Ne.symm h)] at e
    rw [List.getElem?_set_ne (Ne.symm h)]
    exact l.2 j d' e
theorem LocR.wipe {K : PySem.W.Frag} {L : Lk} {ρ : Pl} {m : Store} {H : Hp} {τ : Loc} {σ : L2.St} (l : LocR K L ρ m H τ σ) : ∀ is : List Nat, LocR K L ρ m H (wipeD τ is) (L2.wipe σ is)
  | [] => l
  | i :: r => by
    have q := LocR.wipe l r
    refine ⟨by show ((wipeD τ r).set i none).length = ((L2.wipe σ r).set i none).length; simp [q.1], fun j d e => ?_⟩
    have e : ((wipeD τ r).set i none)[j]? = some (some d) := e
    show ∃ v, ((L2.wipe σ r).set i none)[j]? = some (some v) ∧ _
    by_cases h : j = i
    · subst h
      have hj : j < (wipeD τ r).length := by
        have q := (List.getElem?_eq_some_iff.mp e).1
        rwa [List.length_set] at q
      rw [List.getElem?_set_self hj] at e
      cases e
    · rw [List.getElem?_set_ne (Ne.symm h)] at e
      rw [List.getElem?_set_ne (Ne.symm h)]
      exact q.2 j d e
end Dy
end
section
set_option linter.all false
set_option maxRecDepth 100000
set_option maxHeartbeats 4000000
/-! DyMatch: the core text and the written text say the same. -/
namespace Dy
open PySem
abbrev Nm := List PySem.Str
def isGl (sc : Scope) (x : PySem.Str) : Bool := match sc.names.lookup x with
  | some .globalImplicit => !(x == ("__debug__" : PySem.Str))
  | _ => false
def isVis (sc : Scope) (x : PySem.Str) : Bool := match sc.names.lookup x with
  | some .local => !(x == ("__debug__" : PySem.Str)) && !(x == ("__classdict__" : PySem.Str))
  | some .cell => !(x == ("__debug__" : PySem.Str)) && !(x == ("__classdict__" : PySem.Str))
  | some .free => !(x == ("__debug__" : PySem.Str)) && !(x == ("__classdict__" : PySem.Str))
  | _ => false
def isLoc (sc : Scope) (x : PySem.Str) : Bool := match sc.names.lookup x with
  | some .local => true
  | some .cell => true
  | _ => false
def isLocal (sc : Scope) (x : PySem.Str) : Bool := match sc.names.lookup x with
  | some .local => true
  | _ => false
def mLit : Lit → Const → Bool
  | .non, .none => true
  | .bl b, .bool c => b == c
  | .int i, .int j => i == j
  | .str s, .str x => decide (sx s = x)
  | _, _ => false
def mBop : Bop → Operator → Bool
  | .add, .Add => true
  | .sub, .Sub => true
  | .mul, .Mult => true
  | .fdiv, .FloorDiv => true
  | .mod, .Mod => true
  | .pow, .Pow => true
  | _, _ => false
def mCop : Cop → CmpOp → Bool
  | .lt, .Lt => true
  | .le, .LtE => true
  | .gt, .Gt => true
  | .ge, .GtE => true
  | .eq, .Eq => true
  | .ne, .NotEq => true
  | .inn, .In => true
  | .nin, .NotIn => true
  | _, _ => false
/-- the second side of in, not in may be no display (the model looks at it) -/
def plainIn (e : Expr) : Bool := match e with
  | .Name _ _ => true
  | .Attribute _ _ _ => true
  | .Subscript _ _ _ => true
  | .Call _ _ _ _ => true
  | .BinOp _ _ _ _ => true
  | .Constant (.str _) _ _ => true
  | _ => false
/-- what stands ahead of a dot: no call without arguments (the model looks for super there) -/
def plainBase (e : Expr) : Bool := match e with
  | .Call (.Name _ _) [] [] _ => false
  | _ => true
def biNm : Bi → PySem.Str
  | .len => "len"
  | .abs => "abs"
  | .int => "int"
  | .sum => "sum"
  | .all => "all"
  | .any => "any"
  | .max => "max"
  | .min => "min"
  | .tuple => "tuple"
  | .list => "list"
  | .sorted => "sorted"
def tyNm : Ty → PySem.Str
  | .int => "int"
  | .bool => "bool"
  | .str => "str"
  | .list => "list"
  | .tuple => "tuple"
  | .dict => "dict"
  | .cls _ => "?"
section
variable (L : Lk) (N : Nm)
def mTy (sc : Scope) : Ty → Expr → Bool
  | .cls c, .Name x _ => (decide (x = L.cnm c) && decide (c < L.nc)) && isGl sc x
  | t, .Name x _ => decide (x = tyNm t) && isGl sc x
  | _, _ => false
def mTys (sc : Scope) : List Ty → List Expr → Bool
  | [], [] => true
  | t :: ts, e :: es => mTy L sc t e && mTys sc ts es
  | _, _ => false
def mNm (sc : Scope) (i : Nat) : Expr → Bool
  | .Name x _ => decide (N[i]? = some x) && isLoc sc x
  | _ => false
def mNms (sc : Scope) : List Nat → List Expr → Bool
  | [], [] => true
  | i :: is, e :: es => mNm N sc i e && mNms sc is es
  | _, _ => false
def mTg (sc : Scope) : Tg → Expr → Bool
  | .nm i, e => mNm N sc i e
  | .tp is, .Tuple es _ _ => mNms N sc is es
  | _, _ => false
def tgIs : Tg → List Nat
  | .nm i => [i]
  | .tp is => is
/-- an enumerate's target is a tuple -/
def tgW : Tg → Wk → Bool
  | .nm _, .enum _ => false
  | _, _ => true
def noSet (e : Expr) : Bool := match e with
  | .Set _ _ _ => false
  | _ => true
def relS' (scope sc : Scope) : Scope := L2.relS scope sc
mutual
def mE (sc : Scope) : E → Expr → Bool
  | .var i, .Name x _ => decide (N[i]? = some x) && isVis sc x
  | .lit l, .Constant c _ _ => mLit l c
  | .glb g, .Name x _ => decide (x = L.gnm g) && isGl sc x
  | .bin op a b, .BinOp l o r _ => mBop op o && (mE sc a l && mE sc b r)
  | .neg a, .UnaryOp .USub e _ => mE sc a e
  | .cmp op a b, .Compare l [o] [r] _ => (mCop op o && (mE sc a l && mE sc b r)) && ((decide (op ≠ .inn) && decide (op ≠ .nin)) || plainIn r)
  | .chain op op' a b c, .Compare l [o, o'] [r, r'] _ => ((mCop op o && mCop op' o') && (mE sc a l && (mE sc b r && mE sc c r'))) && (decide (op ≠ .inn) && decide (op ≠ .nin) && (decide (op' ≠ .inn) && decide (op' ≠ .nin)))
  | .isc no a l, .Compare e [o] [.Constant c _ _] _ => (match no, o with
    | false, .Is => true
    | true, .IsNot => true
    | _, _ => false) && (mE sc a e && mLit l c)
  | .bop isAnd es, .BoolOp o xs _ => (match isAnd, o with
    | true, .And => true
    | false, .Or => true
    | _, _ => false) && (decide (0 < es.len) && mEs sc es xs)
  | .notv a, .UnaryOp .Not e _ => mE sc a e
  | .ife t a b, .IfExp e l r _ => mT sc t e && (mE sc a l && mE sc b r)
  | .tup es, .Tuple xs _ _ => decide (es.len ≤ 1000) && mEs sc es xs
  | .tupS a b, .Tuple [.Starred x _, y] _ _ => mE sc a x && mE sc b y
  | .lst _ es, .List xs _ => decide (es.len ≤ 1000) && mEs sc es xs
  | .new a, e => (match a with
    | .bi .list _ => true
    | .bi .sorted _ => true
    | _ => false) && mE sc a e
  | .dsp kvs, .Dict ks vs _ => decide (ks.length ≤ 15) && mDs sc kvs ks vs
  | .idx a i, .Subscript x y _ => (mE sc a x && mE sc i y) && (match y with
    | .Slice _ _ _ _ => false
    | .Tuple _ _ _ => false
    | .Constant _ _ _ => true
    | .Name _ _ => true
    | .BinOp _ _ _ _ => true
    | .UnaryOp _ _ _ => true
    | .Call _ _ _ _ => true
    | .Subscript _ _ _ => true
    | _ => false)
  | .slc a lo hi, .Subscript x (.Slice l h none _) _ => mE sc a x && (mO sc lo l && mO sc hi h)
  | .rev a, .Subscript x (.Slice none none (some (.UnaryOp .USub (.Constant (.int 1) _ _) _)) _) _ => mE sc a x
  | .fld a f, .Attribute x y _ => (mE sc a x && plainBase x) && (decide (y = L.atn f) && L.fok f)
  | .call f es, .Call (.Name x _) xs [] _ => ((decide (x = L.fnm f) && (L.glo f && (L.fns f).isSome)) && isGl sc x) && mEs sc es xs
  | .callk f es kes pm, .Call (.Name x _) xs ks _ => (((decide (x = L.fnm f) && (L.glo f && (L.fns f).isSome)) && isGl sc x) && L.kb f es.len (ks.filterMap (·.arg)) pm) && (mEs sc es xs && mKs sc kes ks)
  | .make c es, .Call (.Name x _) xs [] _ => ((decide (x = L.cnm c) && (decide (c < L.nc) && (L.G.cls c).isSome)) && isGl sc x) && (decide (0 < es.len) && mEs sc es xs)
  | .bi b es, .Call (.Name x _) xs [] _ => (decide (x = biNm b) && isGl sc x) && (decide (0 < es.len) && mEs sc es xs)
  | .isi a tupled ts, .Call (.Name x _) [e, t] [] _ => ((decide (x = ("isinstance" : PySem.Str)) && isGl sc x) && decide (ts.length ≤ 1000)) && (mE sc a e && (match tupled, t with
    | false, t => mTys L sc ts [t]
    | true, .Tuple us _ _ => mTys L sc ts us
    | _, _ => false))
  | .rng tupled es, .Call (.Name x _) [.Call (.Name y _) xs [] _] [] _ => ((decide (x = (if tupled then ("tuple" : PySem.Str) else "list")) && isGl sc x) && (decide (y = ("range" : PySem.Str)) && isGl sc y)) && ((es.len == 1 || es.len == 2) && mEs sc es xs)
  | .lenset a, .Call (.Name x _) [.Call (.Name y _) [e] [] _] [] _ => ((decide (x = ("len" : PySem.Str)) && isGl sc x) && (decide (y = ("set" : PySem.Str)) && isGl sc y)) && mE sc a e
  | .sortset a, .Call (.Name x _) [.Call (.Name y _) [e] [] _] [] _ => ((decide (x = ("sorted" : PySem.Str)) && isGl sc x) && (decide (y = ("set" : PySem.Str)) && isGl sc y)) && mE sc a e
  | .app a e, .Call (.Attribute x y apos) [z] [] cpos => ((mE sc a x && (plainBase x && apos.endLine == cpos.line)) && decide (y = ("append" : PySem.Str))) && mE sc e z
  | .ext a e, .Call (.Attribute x y apos) [z] [] cpos => ((mE sc a x && (plainBase x && apos.endLine == cpos.line)) && decide (y = ("extend" : PySem.Str))) && mE sc e z
  | .lc _ elt tg it cond own, .ListComp x [⟨t, i, ifs, 0⟩] scope _ => ((mTg N scope tg t && (decide (∀ j ∈ tgIs tg, j ∈ own))) && (mW sc it i && tgW tg it)) && (L2.blkC N sc scope (own.map fun j => (N.getD j ("" : PySem.Str), j)) && (mC (relS' scope sc) cond ifs && mE (relS' scope sc) elt x))
  | .lck _ a, .Compare l os rs p => mE sc a (.Compare l os rs p)
  | _, _ => false
def mEs (sc : Scope) : Es → List Expr → Bool
  | .nil, [] => true
  | .cons a r, e :: es => mE sc a e && mEs sc r es
  | _, _ => false
def mDs (sc : Scope) : Es → List (Option Expr) → List Expr → Bool
  | .nil, [], [] => true
  | .cons a (.cons b r), some k :: ks, v :: vs => (mE sc a k && mE sc b v) && mDs sc r ks vs
  | _, _, _ => false
def mKs (sc : Scope) : Es → List Keyword → Bool
  | .nil, [] => true
  | .cons a r, ⟨some _, e, _⟩ :: es => mE sc a e && mKs sc r es
  | _, _ => false
def mO (sc : Scope) : Oe → Option Expr → Bool
  | .none, none => true
  | .some a, some e => mE sc a e
  | _, _ => false
def mT (sc : Scope) : T → Expr → Bool
  | .bop isAnd ts, .BoolOp o xs _ => (match isAnd, o with
    | true, .And => true
    | false, .Or => true
    | _, _ => false) && mTs sc ts xs
  | .notv t, .UnaryOp .Not e _ => mT sc t e
  | .e a, e => mE sc a e && (match e with
    | .Compare _ _ _ _ => (match a with
      | .cmp _ _ _ => true
      | .chain _ _ _ _ _ => true
      | .isc _ _ _ => true
      | _ => false)
    | .Name _ _ => true
    | .Call _ _ _ _ => true
    | .Attribute _ _ _ => true
    | .Subscript _ _ _ => true
    | .Constant _ _ _ => true
    | .BinOp _ _ _ _ => true
    | .List _ _ => true
    | _ => false)
  | _, _ => false
def mTs (sc : Scope) : Ts → List Expr → Bool
  | .nil, [] => false
  | .cons t .nil, [e] => mT sc t e
  | .cons t r, e :: es => mT sc t e && mTs sc r es
  | _, _ => false
def mC (sc : Scope) : Ot → List Expr → Bool
  | .none, [] => true
  | .some t, [e] => mT sc t e
  | _, _ => false
def mW (sc : Scope) : Wk → Expr → Bool
  | .rng1 a, .Call (.Name x _) [e] [] _ => (decide (x = ("range" : PySem.Str)) && isGl sc x) && mE sc a e
  | .rng2 a b, .Call (.Name x _) [e, e'] [] _ => (decide (x = ("range" : PySem.Str)) && isGl sc x) && (mE sc a e && mE sc b e')
  | .enum a, .Call (.Name x _) [e] [] _ => (decide (x = ("enumerate" : PySem.Str)) && isGl sc x) && mE sc a e
  | .e a, e => mE sc a e && noSet e
  | _, _ => false
end
/-- how the model stores a written tuple into names: in turn from the right (true), or by a tuple (false) -/
def swapMode (sc : Scope) (ts vs : List Expr) : Option Bool :=
  if !(ts.length == 2 || ts.length == 3) || vs.length != ts.length then some false
  else if (vs.any fun | .Starred .. => true | _ => false) then some false
  else
    let line := (ts.head?.map (·.pos.line)).getD 0
    let names := ts.filterMap fun
      | .Name id pos => if sc.names.lookup id == some .local && pos.line == line then some id else none
      | _ => none
    if names.length != ts.length || names.eraseDups.length != names.length then some false
    else if vs.all (foldedForSure 8) then some false
    else if vs.all (constantsAlone 8) then none
    else some true
def noComp : Expr → Bool
  | .ListComp _ _ _ _ => false
  | .SetComp _ _ _ _ => false
  | .DictComp _ _ _ _ _ => false
  | .GeneratorExp _ _ _ _ => false
  | _ => true
def mHi (i : Nat) (n : Option PySem.Str) : Hi → Expr → Bool
  | .lit l, .Constant c _ _ => mLit l c
  | .fld f, .Attribute (.Name x _) a _ => decide (n = some x) && decide (a = L.atn f)
  | _, _ => false
def mHis (i : Nat) (n : Option PySem.Str) : List Hi → List Expr → Bool
  | [], [] => true
  | h :: r, e :: es => mHi L i n h e && mHis i n r es
  | _, _ => false
def mHd (sc : Scope) : Hd → ExceptHandler → Bool
  | ⟨c, slot, items⟩, .ExceptHandler (some (.Name x _)) nm [.Return (some v) _] _ => ((decide (x = L.cnm c) && decide (c < L.nc ∧ (L.G.cls c).isNone = true)) && isGl sc x) && ((match slot, nm with
      | none, none => true
      | some i, some n => decide (N[i]? = some n) && isLocal sc n && isVis sc n
      | _, _ => false) && (match items, v with
        | none, .Constant .none _ _ => true
        | some hs, .List xs _ => decide (hs.length ≤ 1000) && mHis L (slot.getD 0) nm hs xs
        | _, _ => false))
  | _, _ => false
def mHds (sc : Scope) : List Hd → List ExceptHandler → Bool
  | [], [] => true
  | h :: r, e :: es => mHd L N sc h e && mHds sc r es
  | _, _ => false
mutual
def mS (sc : Scope) : S → Stmt → Bool
  | .set i e, .Assign [t] v _ => mNm N sc i t && mE L N sc e v
  | .par is es, .Assign [.Tuple ts _ _] (.Tuple vs _ _) _ => (mNms N sc is ts && (decide (es.len ≤ 1000) && mEs L N sc es vs)) && ((swapMode sc ts vs).isSome && decide is.Nodup)
  | .unp is e, .Assign [.Tuple ts _ _] v _ => (mNms N sc is ts && mE L N sc e v) && (match v with
    | .Tuple _ _ _ => false
    | _ => true)
  | .setix a i e, .Assign [.Subscript x y _] v _ => (mE L N sc a x && (mE L N sc i y && mE L N sc e v)) && (match y with
    | .Slice _ _ _ _ => false
    | _ => true)
  | .setfld a f e, .Assign [.Attribute x y _] v _ => (mE L N sc a x && mE L N sc e v) && (decide (y = L.atn f) && L.fok f)
  | .aug i op e, .AugAssign t o v _ => mNm N sc i t && (mBop op o && mE L N sc e v)
  | .ex e, .Expr v _ => mE L N sc e v && noComp v
  | .ret e, .Return (some v) _ => mE L N sc e v
  | .retN, .Return none _ => true
  | .ite t a b, .If c x y _ => mT L N sc t c && (mSs sc a x && mSs sc b y)
  | .for tg w b, .For t it body [] _ => mTg N sc tg t && ((mW L N sc w it && tgW tg w) && mSs sc b body)
  | .while t b, .While c body [] _ => mT L N sc t c && mSs sc b body
  | .brk, .Break _ => true
  | .ct, .Continue _ => true
  | .pass, .Pass _ => true
  | .raise c es, .Raise (some (.Call (.Name x _) xs [] _)) none _ => ((decide (x = L.cnm c) && (decide (c < L.nc) && (L.G.xcl c).isSome)) && isGl sc x) && (decide (0 < es.len) && mEs L N sc es xs)
  | .tryx b hs, .Try body hds [] [] _ => mSs sc b body && (decide (0 < hs.length) && mHds L N sc hs hds)
  | _, _ => false
def mSs (sc : Scope) : Ss → List Stmt → Bool
  | .nil, [] => true
  | .cons (.frz i) r, sts => decide (i < N.length) && mSs sc r sts
  | .cons s r, st :: sts => mS sc s st && mSs sc r sts
  | _, _ => false
end
end
def fsC (N P : Nm) (sc : Scope) : Bool := ((match sc.kind with
    | .function => true
    | _ => false) && (!sc.isCoroutine && !sc.isGenerator)) && ((decide N.Nodup && decide (N.take P.length = P)) && ((P.all fun x => isLoc sc x) && sc.names.all fun y => match y.2 with
      | .free => false
      | _ => true))
/-! ### names by lists -/
def atOf (l : List PySem.Str) (i : Nat) : PySem.Str := l.getD i ⟨Array.replicate (100 + i) 63⟩
theorem atOf_inj {l : List PySem.Str} (hn : l.Nodup) (hl : ∀ x ∈ l, x.cps.size < 100) : ∀ i j, atOf l i = atOf l j → i = j := by
  have big : ∀ i, l.length ≤ i → (atOf l i).cps.size = 100 + i := fun i h => by
    unfold atOf
    rw [List.getD_eq_getElem?_getD, List.getElem?_eq_none h]
    simp
  have small : ∀ i, (h : i < l.length) → atOf l i = l[i] := fun i h => by
    unfold atOf
    rw [List.getD_eq_getElem?_getD, List.getElem?_eq_getElem h]
    rfl
  intro i j e
  by_cases hi : i < l.length
  · by_cases hj : j < l.length
    · rw [small i hi, small j hj] at e
      exact (List.getElem_inj hn).mp e
    · have h1 := hl _ (List.getElem_mem hi)
      rw [← small i hi, e, big j (by omega)] at h1
      omega
  · by_cases hj : j < l.length
    · have h1 := hl _ (List.getElem_mem hj)
      rw [← small j hj, ← e, big i (by omega)] at h1
      omega
    · have h1 := big i (by omega)
      rw [e, big j (by omega)] at h1
      omega
end Dy
end
section
set_option Elab.async false
set_option linter.all false
set_option maxRecDepth 100000
set_option maxHeartbeats 4000000
/-! DyS1: the plain expressions are sound. -/
namespace Dy
open PySem PySem.Spec PyProof.Rows L2
/-- a def's promise by the interpreter -/
def spF (K : PySem.W.Frag) (L : Lk) (n f : Nat) : Sp := fun vs H Q E => ∃ ρ m ds F, L.fns f = some F ∧ ds.length = F.np ∧ SR K L ρ m H ∧ Reps K L ρ m H ds vs ∧ Post K L (RE K L) ρ m H (run L.G L.fns n f ds m) Q E
def bltNames : List PySem.Str := (["len", "abs", "int", "sum", "all", "any", "max", "min", "tuple", "list", "sorted", "isinstance", "range", "set", "enumerate", "bool", "str", "dict", "zip", "reversed"] : List String).map Str.ofString
/-- kinds of values, as isinstance sees them -/
inductive VT where | non | bl | int | str | lst | tup | dct | own (c : Nat)
def VT.v (L : Lk) : VT → Vl
  | .non => .type "NoneType"
  | .bl => .type "bool"
  | .int => .type "int"
  | .str => .type "str"
  | .lst => .type "list"
  | .tup => .type "tuple"
  | .dct => .type "dict"
  | .own c => .ref (L.cad c)
def Ty.v (L : Lk) : Ty → Vl
  | .int => .type "int"
  | .bool => .type "bool"
  | .str => .type "str"
  | .list => .type "list"
  | .tuple => .type "tuple"
  | .dict => .type "dict"
  | .cls c => .ref (L.cad c)
def VT.is (sup : Nat → Nat → Bool) : VT → Ty → Bool
  | .int, .int => true
  | .bl, .int => true
  | .bl, .bool => true
  | .str, .str => true
  | .lst, .list => true
  | .tup, .tuple => true
  | .dct, .dict => true
  | .own c, .cls d => sup c d
  | _, _ => false
/-- an exception's __init__: its arguments become its fields -/
def spX (L : Lk) (C : Xcl) (ca : Ad) : Sp := fun vs H Q E => ∃ a ws, vs = .ref a :: ws ∧ ws.length = C.fs.length ∧ H a = some (exo a ca none) ∧
  ∀ d H2 fs, H d = none → d ≠ a → H2 a = some (exo a ca (some d)) → H2 d = some (exd d fs) → (∀ b, b ≠ a → b ≠ d → H2 b = H b) → (∀ q ∈ zipF L C.fs ws, fs.lookup q.1 = some q.2) → Q .non H2
/-- the facts of an exception's class -/
structure XclFacts (P : Program) (w : World) (K : PySem.W.Frag) (mg : PySem.Str → Option Vl) (base : Heap) (L : Lk) (c : Nat) (C : Xcl) : Prop where
  oex : OexC K (L.cad c)
  ini : ∃ fI fd ps, PySem.W.findIn K (.ref (L.cad c)) "__init__" = some (some (.ref fI)) ∧ PySem.W.typeIn K (.ref fI) = some (.type "function") ∧ FnOk P w K mg base (L2.CX P w) 1 fI fd ps (spX L C (L.cad c)) ∧ Binds K fd ps []
  xf : XfC K (L.cad c)
  noat : ∀ f ∈ C.fs, PySem.W.findIn K (.ref (L.cad c)) (L.atn f) = some none
  lt : c < L.nc
  few : C.fs.length ≤ 100
  pos : C.fs ≠ []
  exm : ∀ d, d < L.nc → (L.G.cls d).isNone = true → PySem.W.exmOne K (.ref (L.cad c)) (.ref (L.cad d)) = some (L.G.sup c d)
structure ClsFacts (K : PySem.W.Frag) (L : Lk) (c : Nat) : Prop where
  cl : L2.Cls K (L.cad c)
  noat : ∀ f, L.fok f = true → NoAttr K (L.cad c) (L.atn f)
  ha : PySem.W.findIn K (.ref (L.cad c)) "__class__" = some (some (.builtin "object.__class__"))
  hn : PySem.W.specialIn K (.builtin "object.__class__") "__get__" = some (some (.builtin "getset_descriptor.__get__"))
  htk : PySem.W.takesIn K (.builtin "object.__class__") = some true
  hm : PySem.W.mroIn K (L.cad c) (.type "object") = some true
/-- what the top has left -/
structure Facts (L : Lk) (n : Nat) (P : Program) (w : World) (K : PySem.W.Frag) (mg : PySem.Str → Option Vl) (base : Heap) : Prop where
  fn : ∀ f F, L.fns f = some F → ∃ fd ps, FnOk P w K mg base (L2.CX P w) (2 * n + 2) (L.fad f) fd ps (spF K L n f) ∧ (L.glo f = true → mg (L.fnm f) = some (.ref (L.fad f))) ∧ PySem.W.keepIn K (.ref (L.fad f)) = true ∧ Binds K fd ps [] ∧ ps.length = F.np ∧
    ∀ k ks pm, L.kb f k ks pm = true → pm.length = F.np ∧ (∀ i ∈ pm, i < k + ks.length) ∧ ∀ (s : Shared) (us ws : List Vl), K.In s.heap → us.length = k → ws.length = ks.length → BindsTo s fd ⟨us, ks.zip ws⟩ (ps.zip (pm.map fun i => (us ++ ws).getD i .none))
  mks : ∀ c C, L.G.cls c = some C → Mk K (L.cad c) (L.fad C.init) ∧ (L.fns C.init).isSome = true
  blt : ∀ x ∈ bltNames, mg x = none
  glb : ∀ g d, L.G.glb g = some d → ∃ v u, mg (L.gnm g) = some u ∧ RelV v u ∧ ∀ ρ m H, Rep K L ρ m H d v
  cls : ∀ c, c < L.nc → mg (L.cnm c) = some (.ref (L.cad c)) ∧ PySem.W.keepIn K (.ref (L.cad c)) = true
  own : ∀ c C, L.G.cls c = some C → ClsFacts K L c
  xcs : ∀ c C, L.G.xcl c = some C → XclFacts P w K mg base L c C
  kit : ∀ (t : VT) (u : Ty), (∀ c, t = .own c → ∃ C, L.G.cls c = some C) → (∀ d, u = .cls d → d < L.nc) → PySem.W.kitOne K (t.v L) (u.v L) = some (t.is L.G.sup u)
structure Cxt (L : Lk) (n : Nat) (X : Cx) (W : WX) : Prop where
  nd : X.N.Nodup
  room : Room (2 * n + 3) X.A
  calm : X.calm = true
  tk : Takes X W
  fx : Facts L n X.prog X.w X.K X.mg X.base
abbrev rX (W : WX) (σ : L2.St) : XK := fun cls d H => W cls d σ H
/-- an expression is sound -/
def SndE (L : Lk) (n : Nat) (c : E) (e : Expr) (X : Cx) : Prop := ∀ (W : WX) (τ : Loc) (σ : L2.St) (ρ : Pl) (m : Store) (H : Hp) (Q : VK), Cxt L n X W → LocR X.K L ρ m H τ σ → SR X.K L ρ m H →
  Post X.K L (RE X.K L) ρ m H (evE L.G (run L.G L.fns n) c τ m) Q (rX W σ) → EvE X e σ H Q
def SndT (L : Lk) (n : Nat) (c : T) (e : Expr) (X : Cx) : Prop := ∀ (W : WX) (τ : Loc) (σ : L2.St) (ρ : Pl) (m : Store) (H : Hp) (Q : Bool → Hp → Prop), Cxt L n X W → LocR X.K L ρ m H τ σ → SR X.K L ρ m H →
  Post X.K L RB ρ m H (evT L.G (run L.G L.fns n) c τ m) Q (rX W σ) → EvT X e σ H Q
def SndA (L : Lk) (n : Nat) (c : Es) (es : List Expr) (X : Cx) : Prop := ∀ (W : WX) (τ : Loc) (σ : L2.St) (ρ : Pl) (m : Store) (H : Hp) (Q : List V → Hp → Prop), Cxt L n X W → LocR X.K L ρ m H τ σ → SR X.K L ρ m H →
  Post X.K L (RA X.K L) ρ m H (evEs L.G (run L.G L.fns n) c τ m) Q (rX W σ) → EvA X es σ H Q
section
variable {L : Lk} {n : Nat} {X : Cx} {K : PySem.W.Frag} {ρ : Pl} {m : Store} {H : Hp}
theorem blt_of {P : Program} {w : World} {mg : PySem.Str → Option Vl} {base : Heap} (fx : Facts L n P w K mg base) {x : PySem.Str} (h : (bltNames.contains x) = true) : mg x = none := fx.blt x (by simpa using h)
theorem gl_of {x : PySem.Str} (h : isGl X.env.scope x = true) : Gl X x ∧ (x == ("__debug__" : PySem.Str)) = false := by
  unfold isGl at h
  split at h
  · rename_i e
    exact ⟨e, by simpa using h⟩
  · cases h
theorem vis_of {x : PySem.Str} (h : isVis X.env.scope x = true) : Vis X.env.scope x ∧ (x == ("__debug__" : PySem.Str)) = false ∧ (x == ("__classdict__" : PySem.Str)) = false := by
  unfold isVis at h
  split at h
  · rename_i e
    rw [Bool.and_eq_true] at h
    exact ⟨.inl e, by simpa using h.1, by simpa using h.2⟩
  · rename_i e
    rw [Bool.and_eq_true] at h
    exact ⟨.inr (.inl e), by simpa using h.1, by simpa using h.2⟩
  · rename_i e
    rw [Bool.and_eq_true] at h
    exact ⟨.inr (.inr e), by simpa using h.1, by simpa using h.2⟩
  · cases h
/-! ### data: what Rep says of a kind -/
theorem rep_ref {d : D} {v : V} (h : Rep K L ρ m H d v) : (∃ b, d = .bl b ∧ v = .bl b) ∨ (∃ i, d = .int i ∧ v = .int i) ∨ (∃ s, d = .str s ∧ v = .str (sx s)) ∨ (d = .non ∧ v = .non) ∨ ∃ a, v = .ref a := by
  cases d with
  | non => rw [Rep] at h; exact .inr (.inr (.inr (.inl ⟨rfl, h⟩)))
  | bl b => rw [Rep] at h; exact .inl ⟨b, rfl, h⟩
  | int i => rw [Rep] at h; exact .inr (.inl ⟨i, rfl, h⟩)
  | str s => rw [Rep] at h; exact .inr (.inr (.inl ⟨s, rfl, h⟩))
  | tup xs => rw [Rep] at h; obtain ⟨a, vs, e, _⟩ := h; exact .inr (.inr (.inr (.inr ⟨a, e⟩)))
  | fl xs => rw [Rep] at h; obtain ⟨a, vs, e, _⟩ := h; exact .inr (.inr (.inr (.inr ⟨a, e⟩)))
  | ro xs => rw [Rep] at h; obtain ⟨a, vs, e, _⟩ := h; exact .inr (.inr (.inr (.inr ⟨a, e⟩)))
  | ob c ns fs => rw [Rep] at h; obtain ⟨a, dx, vs, e, _⟩ := h; exact .inr (.inr (.inr (.inr ⟨a, e⟩)))
  | ex c ns fs => rw [Rep] at h; exact h.elim
  | cell k => rw [Rep] at h; obtain ⟨a, e, _⟩ := h; exact .inr (.inr (.inr (.inr ⟨a, e⟩)))
theorem rep_non {v : V} : Rep K L ρ m H .non v ↔ v = .non := by rw [Rep]
theorem rep_bl {b : Bool} {v : V} : Rep K L ρ m H (.bl b) v ↔ v = .bl b := by rw [Rep]
theorem rep_int {i : Int} {v : V} : Rep K L ρ m H (.int i) v ↔ v = .int i := by rw [Rep]
theorem rep_str {s : List Nat} {v : V} : Rep K L ρ m H (.str s) v ↔ v = .str (sx s) := by rw [Rep]
theorem rep_tup {xs : List D} {v : V} : Rep K L ρ m H (.tup xs) v ↔ ∃ a vs, v = .ref a ∧ SqT K H a vs ∧ Reps K L ρ m H xs vs := by rw [Rep]
theorem rep_fl {xs : List D} {v : V} : Rep K L ρ m H (.fl xs) v ↔ ∃ a vs, v = .ref a ∧ H a = some (.lst vs) ∧ ¬ Lv ρ m a ∧ Reps K L ρ m H xs vs := by rw [Rep]
theorem rep_ro {xs : List D} {v : V} : Rep K L ρ m H (.ro xs) v ↔ ∃ a vs, v = .ref a ∧ RoL K H a vs ∧ Reps K L ρ m H xs vs := by rw [Rep]
theorem rep_ob {c : Nat} {ns : List Nat} {fs : List D} {v : V} : Rep K L ρ m H (.ob c ns fs) v ↔ ∃ a dx vs, v = .ref a ∧ H a = some (.ins (L.cad c) dx (zipF L ns vs)) ∧ ¬ Lv ρ m a ∧ ns.length = fs.length ∧ Reps K L ρ m H fs vs := by rw [Rep]
theorem rep_cell {k : Nat} {v : V} : Rep K L ρ m H (.cell k) v ↔ ∃ a, v = .ref a ∧ ρ.c[k]? = some a := by rw [Rep]
theorem reps_nil {vs : List V} : Reps K L ρ m H [] vs ↔ vs = [] := by rw [Reps]
theorem reps_cons {x : D} {xs : List D} {vs : List V} : Reps K L ρ m H (x :: xs) vs ↔ ∃ v r, vs = v :: r ∧ Rep K L ρ m H x v ∧ Reps K L ρ m H xs r := by rw [Reps]
theorem Reps.length : ∀ {xs : List D} {vs : List V}, Reps K L ρ m H xs vs → xs.length = vs.length
  | [], vs, h => by rw [reps_nil] at h; subst h; rfl
  | x :: xs, vs, h => by
    rw [reps_cons] at h
    obtain ⟨v, r, rfl, _, h2⟩ := h
    simp [Reps.length h2]
theorem Reps.get : ∀ {xs : List D} {vs : List V} {i : Nat} {d : D}, Reps K L ρ m H xs vs → xs[i]? = some d → ∃ v, vs[i]? = some v ∧ Rep K L ρ m H d v
  | [], vs, i, d, h, e => by simp at e
  | x :: xs, vs, 0, d, h, e => by
    rw [reps_cons] at h
    obtain ⟨v, r, rfl, h1, _⟩ := h
    simp at e
    subst e
    exact ⟨v, rfl, h1⟩
  | x :: xs, vs, i + 1, d, h, e => by
    rw [reps_cons] at h
    obtain ⟨v, r, rfl, _, h2⟩ := h
    obtain ⟨u, h3, h4⟩ := Reps.get (i := i) h2 (by simpa using e)
    exact ⟨u, by simpa using h3, h4⟩
theorem Reps.app : ∀ {xs ys : List D} {vs ws : List V}, Reps K L ρ m H xs vs → Reps K L ρ m H ys ws → Reps K L ρ m H (xs ++ ys) (vs ++ ws)
  | [], ys, vs, ws, h, q => by rw [reps_nil] at h; subst h; exact q
  | x :: xs, ys, vs, ws, h, q => by
    rw [reps_cons] at h
    obtain ⟨v, r, rfl, h1, h2⟩ := h
    show Reps K L ρ m H (x :: (xs ++ ys)) (v :: (r ++ ws))
    rw [reps_cons]
    exact ⟨v, _, rfl, h1, h2.app q⟩
theorem Reps.one {x : D} {v : V} (h : Rep K L ρ m H x v) : Reps K L ρ m H [x] [v] := by
  rw [reps_cons]
  exact ⟨v, [], rfl, h, by rw [reps_nil]⟩
theorem Reps.take : ∀ {xs : List D} {vs : List V} (k : Nat), Reps K L ρ m H xs vs → Reps K L ρ m H (xs.take k) (vs.take k)
  | _, _, 0, _ => by simp [reps_nil]
  | [], vs, k + 1, h => by rw [reps_nil] at h; subst h; simp [reps_nil]
  | x :: xs, vs, k + 1, h => by
    rw [reps_cons] at h
    obtain ⟨v, r, rfl, h1, h2⟩ := h
    rw [List.take_succ_cons, List.take_succ_cons, reps_cons]
    exact ⟨v, _, rfl, h1, h2.take k⟩
theorem Reps.drop : ∀ {xs : List D} {vs : List V} (k : Nat), Reps K L ρ m H xs vs → Reps K L ρ m H (xs.drop k) (vs.drop k)
  | _, _, 0, h => h
  | [], vs, k + 1, h => by rw [reps_nil] at h; subst h; simp [reps_nil]
  | x :: xs, vs, k + 1, h => by
    rw [reps_cons] at h
    obtain ⟨v, r, rfl, h1, h2⟩ := h
    exact h2.drop k
theorem Reps.rev : ∀ {xs : List D} {vs : List V}, Reps K L ρ m H xs vs → Reps K L ρ m H xs.reverse vs.reverse
  | [], vs, h => by rw [reps_nil] at h; subst h; simp [reps_nil]
  | x :: xs, vs, h => by
    rw [reps_cons] at h
    obtain ⟨v, r, rfl, h1, h2⟩ := h
    rw [List.reverse_cons, List.reverse_cons]
    exact h2.rev.app (.one h1)
theorem Reps.set : ∀ {xs : List D} {vs : List V} (i : Nat) {d : D} {v : V}, Reps K L ρ m H xs vs → Rep K L ρ m H d v → Reps K L ρ m H (xs.set i d) (vs.set i v)
  | [], vs, i, d, v, h, q => by rw [reps_nil] at h; subst h; simp [reps_nil]
  | x :: xs, vs, 0, d, v, h, q => by
    rw [reps_cons] at h
    obtain ⟨u, r, rfl, h1, h2⟩ := h
    rw [List.set_cons_zero, List.set_cons_zero, reps_cons]
    exact ⟨v, r, rfl, q, h2⟩
  | x :: xs, vs, i + 1, d, v, h, q => by
    rw [reps_cons] at h
    obtain ⟨u, r, rfl, h1, h2⟩ := h
    rw [List.set_cons_succ, List.set_cons_succ, reps_cons]
    exact ⟨u, _, rfl, h1, h2.set i q⟩
theorem Reps.reps (k : Nat) {xs : List D} {vs : List V} (h : Reps K L ρ m H xs vs) : Reps K L ρ m H (List.replicate k xs).flatten (List.replicate k vs).flatten := by
  induction k with
  | zero => simp [reps_nil]
  | succ k ih => simpa [List.replicate_succ] using h.app ih
theorem Reps.ints : ∀ {xs : List D} {vs : List V} {ns : List Int}, Reps K L ρ m H xs vs → asInts xs = some ns → vs = ns.map V.int
  | [], vs, ns, h, e => by
    rw [reps_nil] at h
    subst h
    cases e
    rfl
  | x :: xs, vs, ns, h, e => by
    rw [reps_cons] at h
    obtain ⟨v, r, rfl, h1, h2⟩ := h
    cases x with
    | int i =>
      have e : (asInts xs).map (i :: ·) = some ns := e
      obtain ⟨ms, e1, e2⟩ := Option.map_eq_some_iff.mp e
      subst e2
      rw [rep_int] at h1
      rw [h1, h2.ints e1] <;> rfl
    | _ => cases e
theorem Reps.bls : ∀ {xs : List D} {vs : List V} {ns : List Bool}, Reps K L ρ m H xs vs → asBls xs = some ns → vs = ns.map V.bl
  | [], vs, ns, h, e => by
    rw [reps_nil] at h
    subst h
    cases e
    rfl
  | x :: xs, vs, ns, h, e => by
    rw [reps_cons] at h
    obtain ⟨v, r, rfl, h1, h2⟩ := h
    cases x with
    | bl i =>
      have e : (asBls xs).map (i :: ·) = some ns := e
      obtain ⟨ms, e1, e2⟩ := Option.map_eq_some_iff.mp e
      subst e2
      rw [rep_bl] at h1
      rw [h1, h2.bls e1] <;> rfl
    | _ => cases e
theorem Reps.ofInts : ∀ ns : List Int, Reps K L ρ m H (ns.map D.int) (ns.map V.int)
  | [] => by simp [reps_nil]
  | i :: r => by
    rw [List.map_cons, List.map_cons, reps_cons]
    exact ⟨_, _, rfl, by rw [rep_int], Reps.ofInts r⟩
/-- a cell's list -/
theorem cell_lst {k : Nat} {xs : List D} {v : V} (S : SR K L ρ m H) (h : Rep K L ρ m H (.cell k) v) (e : m[k]? = some (.lst xs)) : ∃ a vs, v = .ref a ∧ ρ.c[k]? = some a ∧ H a = some (.lst vs) ∧ Reps K L ρ m H xs vs := by
  rw [rep_cell] at h
  obtain ⟨a, rfl, h1⟩ := h
  obtain ⟨vs, h2, h3⟩ := S.cell k _ a e h1
  exact ⟨a, vs, rfl, h1, h2, h3⟩
/-- a frozen list, or a cell's -/
theorem flat_lst {x : D} {xs : List D} {v : V} (S : SR K L ρ m H) (h : Rep K L ρ m H x v) (e : m.flat x = .fl xs) : ∃ a vs, v = .ref a ∧ H a = some (.lst vs) ∧ Reps K L ρ m H xs vs := by
  cases x with
  | fl ys =>
    cases e
    rw [rep_fl] at h
    obtain ⟨a, vs, h1, h2, _, h3⟩ := h
    exact ⟨a, vs, h1, h2, h3⟩
  | cell k =>
    unfold Store.flat at e
    simp only at e
    split at e
    · rename_i ys e1
      cases e
      obtain ⟨a, vs, h1, _, h2, h3⟩ := cell_lst S h e1
      exact ⟨a, vs, h1, h2, h3⟩
    · cases e
  | _ => cases e
/-- what may be read as a sequence -/
theorem seq_at {x : D} {xs : List D} {v : V} (S : SR K L ρ m H) (h : Rep K L ρ m H x v) (e : m.seqAt x = some xs) : ∃ a vs, v = .ref a ∧ (SqL K H a vs ∨ SqT K H a vs) ∧ Reps K L ρ m H xs vs ∧ ((∃ ys, x = .tup ys) ∧ SqT K H a vs ∨ (∀ ys, x ≠ .tup ys) ∧ SqL K H a vs) := by
  cases x with
  | fl ys =>
    cases e
    rw [rep_fl] at h
    obtain ⟨a, vs, h1, h2, _, h3⟩ := h
    exact ⟨a, vs, h1, .inl (.of h2), h3, .inr ⟨fun _ z => (nomatch z), .of h2⟩⟩
  | ro ys =>
    cases e
    rw [rep_ro] at h
    obtain ⟨a, vs, h1, h2, h3⟩ := h
    exact ⟨a, vs, h1, .inl h2.sql, h3, .inr ⟨fun _ z => (nomatch z), h2.sql⟩⟩
  | tup ys =>
    cases e
    rw [rep_tup] at h
    obtain ⟨a, vs, h1, h2, h3⟩ := h
    exact ⟨a, vs, h1, .inr h2, h3, .inl ⟨⟨_, rfl⟩, h2⟩⟩
  | cell k =>
    unfold Store.seqAt at e
    simp only at e
    split at e
    · rename_i ys e1
      cases e
      obtain ⟨a, vs, h1, _, h2, h3⟩ := cell_lst S h e1
      exact ⟨a, vs, h1, .inl (.of h2), h3, .inr ⟨fun _ z => (nomatch z), .of h2⟩⟩
    · cases e
  | _ => cases e
/-! ### what is given back: a flat value, a new tuple, a new list -/
theorem give {d : D} {v : V} {Q : VK} {R : XK} (S : SR K L ρ m H) (h : Post K L (RE K L) ρ m H (.ok d m) Q R) (r : Rep K L ρ m H d v) : Q v H := h ρ H v S Step.refl r
theorem give_tup {xs : List D} {vs : List V} {Q : VK} {R : XK} (S : SR K L ρ m H) (h : Post K L (RE K L) ρ m H (.ok (.tup xs) m) Q R) (r : Reps K L ρ m H xs vs) {p : Ad} (hp : H p = none) : Q (.ref p) (upd H p (.tup vs)) := by
  refine h ρ _ _ (S.new hp) (step_new S hp) ?_
  show Rep _ _ _ _ _ _ _
  rw [rep_tup]
  exact ⟨p, vs, rfl, .of upd_same, Reps.step S (step_new S hp) _ _ r⟩
theorem give_fl {xs : List D} {vs : List V} {Q : VK} {R : XK} (S : SR K L ρ m H) (h : Post K L (RE K L) ρ m H (.ok (.fl xs) m) Q R) (r : Reps K L ρ m H xs vs) {p : Ad} (hp : H p = none) : Q (.ref p) (upd H p (.lst vs)) := by
  refine h ρ _ _ (S.new hp) (step_new S hp) ?_
  show Rep _ _ _ _ _ _ _
  rw [rep_fl]
  exact ⟨p, vs, rfl, upd_same, S.free hp, Reps.step S (step_new S hp) _ _ r⟩
theorem give_cell {xs : List D} {vs : List V} {Q : VK} {R : XK} (S : SR K L ρ m H) (h : Post K L (RE K L) ρ m H (newCell m (.lst xs)) Q R) (r : Reps K L ρ m H xs vs) {p : Ad} (hp : H p = none) : Q (.ref p) (upd H p (.lst vs)) := by
  have st := step_cell (o := .lst vs) (c := .lst xs) S (S.idle hp)
  refine h (ρ.add p) _ _ (S.newCell (S.idle hp) ⟨vs, upd_same, Reps.step S st _ _ r⟩) st ?_
  show Rep _ _ _ _ _ _ _
  rw [rep_cell]
  exact ⟨p, rfl, add_at S⟩
end
end Dy
end
section
set_option Elab.async false
set_option linter.all false
set_option maxRecDepth 100000
set_option maxHeartbeats 4000000
/-! DyS2: operators. -/
namespace Dy
open PySem PySem.Spec PyProof.Rows L2
section
variable {X : Cx}
/-- the weakest readings of operators -/
def opW (X : Cx) (f : Vl → Vl → Sem Vl) : R2 := fun x y H Q => ∀ pins s σ v u, Inv X pins σ H s → RelV x v → RelV y u → wpAny (model X.prog X.w) X.A (f v u) (EP X pins σ Q) X.xe s
theorem opW_ok {f : Vl → Vl → Sem Vl} : OpR X f (opW X f) := fun pins s σ H x y v u Q I rx ry h => h pins s σ v u I rx ry
theorem OpR.w {f : Vl → Vl → Sem Vl} {r : R2} (o : OpR X f r) {x y : V} {H : Hp} {Q : VK} (h : r x y H Q) : opW X f x y H Q := fun pins s σ v u I rx ry => o pins s σ H x y v u Q I rx ry h
def ixW (X : Cx) : R2 := fun x y H Q => ∀ pins s σ v u, Inv X pins σ H s → RelV x v → RelV y u → wpAny (model X.prog X.w) X.A (getItem v u) (EP X pins σ Q) X.xe s
end
section
variable {L : Lk} {n : Nat} {X : Cx} {K : PySem.W.Frag} {ρ : Pl} {m : Store} {H : Hp}
theorem s_var {i : Nat} {x : PySem.Str} {pos : Pos} (h1 : X.N[i]? = some x) (h2 : isVis X.env.scope x = true) : SndE L n (.var i) (.Name x pos) X := by
  intro W τ σ ρ m H Q cx lc S h
  rw [evE] at h
  obtain ⟨v1, v2, v3⟩ := vis_of h2
  split at h
  · rename_i d e
    obtain ⟨v, e1, r⟩ := lc.2 i d e
    exact PE.ev (pe_var h1 v1 v2 v3) ⟨v, e1, give S h r⟩
  · exact Post.stuck h
/-- a literal's value -/
def LitV (l : Lit) (v : V) : Prop := match l with
  | .non => v = .non
  | .bl b => v = .bl b
  | .int i => v = .int i
  | .str s => v = .str (sx s)
theorem rep_lit (l : Lit) : ∃ v, Rep K L ρ m H l.d v ∧ LitV l v := by
  cases l with
  | non => exact ⟨_, rep_non.mpr rfl, rfl⟩
  | bl b => exact ⟨_, rep_bl.mpr rfl, rfl⟩
  | int i => exact ⟨_, rep_int.mpr rfl, rfl⟩
  | str s => exact ⟨_, rep_str.mpr rfl, rfl⟩
theorem lit_pe {l : Lit} {c : Const} {k : Nat} {pos : Pos} (h : mLit l c = true) {v : V} (hv : LitV l v) : PE X (.Constant c k pos) (tC v) := by
  cases l <;> cases c <;> simp only [mLit, LitV, beq_iff_eq, decide_eq_true_eq, Bool.false_eq_true] at h hv
  · subst hv; exact pe_non
  · subst hv h; exact pe_bl
  · subst hv h; exact pe_int
  · subst hv h; exact pe_str
theorem s_lit {l : Lit} {c : Const} {k : Nat} {pos : Pos} (hl : mLit l c = true) : SndE L n (.lit l) (.Constant c k pos) X := by
  intro W τ σ ρ m H Q cx lc S h
  rw [evE] at h
  obtain ⟨v, r, hv⟩ := rep_lit (K := X.K) (L := L) (ρ := ρ) (m := m) (H := H) l
  exact PE.ev (lit_pe hl hv) (give S h r)
theorem s_glb {g : Nat} {x : PySem.Str} {pos : Pos} (h1 : x = L.gnm g) (h2 : isGl X.env.scope x = true) : SndE L n (.glb g) (.Name x pos) X := by
  intro W τ σ ρ m H Q cx lc S h
  rw [evE] at h
  obtain ⟨d, e, h⟩ := Post.ofO h
  obtain ⟨v, u, q1, q2, q3⟩ := cx.fx.glb g d e
  obtain ⟨g1, g2⟩ := gl_of h2
  subst h1
  exact PE.ev (pe_glob g1 q1 q2 g2) (give S h (q3 ρ m H))
/-! ### two operands -/
theorem two {a b : E} {l r : Expr} {W : WX} {τ : Loc} {σ : L2.St} {Q : VK} {f : D → D → Store → Res D} {r2 : R2} (cx : Cxt L n X W) (lc : LocR X.K L ρ m H τ σ) (S : SR X.K L ρ m H) (ha : SndE L n a l X) (hb : SndE L n b r X)
    (h : Post X.K L (RE X.K L) ρ m H ((evE L.G (run L.G L.fns n) a τ m).bind fun x m1 => (evE L.G (run L.G L.fns n) b τ m1).bind fun y m2 => f x y m2) Q (rX W σ))
    (k : ∀ x y m2 ρ2 H2 v u, SR X.K L ρ2 m2 H2 → LocR X.K L ρ2 m2 H2 τ σ → Rep X.K L ρ2 m2 H2 x v → Rep X.K L ρ2 m2 H2 y u → Post X.K L (RE X.K L) ρ2 m2 H2 (f x y m2) Q (rX W σ) → r2 v u H2 Q) : tOp r2 (EvE X l) (EvE X r) σ H Q := by
  refine ha W τ σ ρ m H _ cx lc S (Post.bind (Ra := Rep X.K L) h fun x m1 ρ1 H1 v S1 st1 r1 h1 => ?_)
  refine hb W τ σ ρ1 m1 H1 _ cx (lc.step S st1) S1 (Post.bind (Ra := Rep X.K L) h1 fun y m2 ρ2 H2 u S2 st2 r2 h2 => ?_)
  exact k x y m2 ρ2 H2 v u S2 ((lc.step S st1).step S1 st2) (Rep.step S1 st2 _ _ r1) r2 h2
theorem lim_eq : lim = sizeLine := by rw [sizeLine_eq]
theorem sx_app (s t : List Nat) : sx (s ++ t) = sx s ++ sx t := by
  show (⟨(s ++ t).toArray⟩ : PySem.Str) = ⟨s.toArray ++ t.toArray⟩
  rw [List.append_toArray]
theorem sx_len (s : List Nat) : (sx s).length = s.length := by
  show s.toArray.size = s.length
  simp
theorem bin_add {x y d : D} {v u : V} {Q : VK} {R : XK} (S : SR X.K L ρ m H) (rx : Rep X.K L ρ m H x v) (ry : Rep X.K L ρ m H y u) (e : addD m x y = some d) (h : Post X.K L (RE X.K L) ρ m H (.ok d m) Q R) : opW X (binaryOp .Add) v u H Q := by
  unfold addD at e
  split at e
  · rename_i i j
    cases e
    rw [rep_int] at rx ry
    subst rx ry
    exact OpR.w op_add ⟨i, j, rfl, rfl, give S h (rep_int.mpr rfl)⟩
  · rename_i s t
    split at e
    · rename_i hl
      cases e
      rw [rep_str] at rx ry
      subst rx ry
      exact OpR.w op_add_str ⟨sx s, sx t, rfl, rfl, by rw [sx_len, sx_len, ← lim_eq]; exact hl, by rw [← sx_app]; exact give S h (rep_str.mpr rfl)⟩
    · cases e
  · rename_i xs ys
    split at e
    · rename_i hl
      cases e
      rw [rep_tup] at rx ry
      obtain ⟨a, vs, rfl, ha, r1⟩ := rx
      obtain ⟨b, us, rfl, hb, r2⟩ := ry
      refine OpR.w op_catA ⟨a, b, vs, us, rfl, rfl, ha, hb, by rw [← r1.length, ← r2.length, ← lim_eq]; exact hl, fun e0 => ?_, fun e0 e1 => ?_, fun _ _ p hp => give_tup S h (r1.app r2) hp⟩
      · refine give S h ?_
        have : xs = [] := by
          have q := r1.length
          rw [e0] at q
          exact List.length_eq_zero_iff.mp q
        subst this
        exact rep_tup.mpr ⟨b, us, rfl, hb, r2⟩
      · refine give S h ?_
        have : ys = [] := by
          have q := r2.length
          rw [e1] at q
          exact List.length_eq_zero_iff.mp q
        subst this
        rw [List.append_nil]
        exact rep_tup.mpr ⟨a, vs, rfl, ha, r1⟩
    · cases e
  · split at e
    · rename_i xs ys e1 e2
      split at e
      · rename_i hl
        cases e
        obtain ⟨a, vs, rfl, ha, r1⟩ := flat_lst S rx e1
        obtain ⟨b, us, rfl, hb, r2⟩ := flat_lst S ry e2
        exact OpR.w op_cat ⟨a, b, vs, us, rfl, rfl, ha, hb, by rw [← r1.length, ← r2.length, ← lim_eq]; exact hl, fun p hp => give_fl S h (r1.app r2) hp⟩
      · cases e
    · cases e
theorem bin_ok {op : Bop} {o : Operator} (ho : mBop op o = true) {x y d : D} {v u : V} {Q : VK} {R : XK} (S : SR X.K L ρ m H) (rx : Rep X.K L ρ m H x v) (ry : Rep X.K L ρ m H y u) (e : binD m op x y = some d) (h : Post X.K L (RE X.K L) ρ m H (.ok d m) Q R) : opW X (binaryOp o) v u H Q := by
  cases op <;> cases o <;> (first | cases ho | skip)
  · exact bin_add S rx ry e h
  · have e : subD x y = some d := e
    unfold subD at e
    split at e
    · cases e
      rw [rep_int] at rx ry
      subst rx ry
      exact OpR.w op_sub ⟨_, _, rfl, rfl, give S h (rep_int.mpr rfl)⟩
    · cases e
  · have e : mulD x y = some d := e
    unfold mulD at e
    split at e
    · rename_i i j
      split at e
      · rename_i hc
        cases e
        rw [rep_int] at rx ry
        subst rx ry
        refine OpR.w op_mul ⟨_, _, rfl, rfl, ?_, give S h (rep_int.mpr rfl)⟩
        unfold cMul at hc
        simp only [Bool.or_eq_true, decide_eq_true_eq] at hc
        rcases hc with hc | hc
        · exact .inl (by omega)
        · exact .inr (by omega)
      · cases e
    · rename_i xs k
      split at e
      · rename_i hc
        cases e
        simp only [decide_eq_true_eq] at hc
        obtain ⟨c1, c2, c3, c4⟩ := hc
        rw [rep_int] at ry
        rw [rep_tup] at rx
        obtain ⟨a, vs, rfl, ha, r1⟩ := rx
        subst ry
        refine OpR.w op_repT ⟨a, _, vs, rfl, rfl, ha, fun z => c1 ?_, c2, c3, by rw [← r1.length]; exact c4, fun p hp => give_tup S h (r1.reps _) hp⟩
        have q := r1.length
        rw [z] at q
        exact List.length_eq_zero_iff.mp q
      · cases e
    · rename_i xs k
      split at e
      · rename_i hc
        cases e
        simp only [decide_eq_true_eq] at hc
        obtain ⟨c1, c2, c3⟩ := hc
        rw [rep_int] at ry
        rw [rep_fl] at rx
        obtain ⟨a, vs, rfl, ha, _, r1⟩ := rx
        subst ry
        exact OpR.w op_rep ⟨a, _, vs, rfl, rfl, ha, by omega, by omega, by rw [← r1.length, ← lim_eq]; exact c3, fun p hp => give_fl S h (r1.reps _) hp⟩
      · cases e
    · cases e
  · have e : fdivD x y = some d := e
    unfold fdivD at e
    split at e
    · split at e
      · rename_i hc
        cases e
        simp only [decide_eq_true_eq] at hc
        rw [rep_int] at rx ry
        subst rx ry
        exact OpR.w op_fdiv ⟨_, _, rfl, rfl, hc, give S h (rep_int.mpr rfl)⟩
      · cases e
    · cases e
  · have e : modD x y = some d := e
    unfold modD at e
    split at e
    · split at e
      · rename_i hc
        cases e
        simp only [decide_eq_true_eq] at hc
        rw [rep_int] at rx ry
        subst rx ry
        exact OpR.w op_mod ⟨_, _, rfl, rfl, hc, give S h (rep_int.mpr rfl)⟩
      · cases e
    · cases e
  · have e : powD x y = some d := e
    unfold powD at e
    split at e
    · split at e
      · rename_i hc
        cases e
        simp only [decide_eq_true_eq] at hc
        rw [rep_int] at rx ry
        subst rx ry
        exact OpR.w op_pow ⟨_, _, rfl, rfl, hc, give S h (rep_int.mpr rfl)⟩
      · cases e
    · cases e
theorem s_bin {op : Bop} {o : Operator} {a b : E} {l r : Expr} {pos : Pos} (ho : mBop op o = true) (ha : SndE L n a l X) (hb : SndE L n b r X) : SndE L n (.bin op a b) (.BinOp l o r pos) X := by
  intro W τ σ ρ m H Q cx lc S h
  rw [evE] at h
  refine PE.ev (pe_op (opW_ok (f := binaryOp o)) EvE.pe EvE.pe) (two cx lc S ha hb h fun x y m2 ρ2 H2 v u S2 lc2 rx ry h2 => ?_)
  obtain ⟨d, e, h3⟩ := Post.ofO h2
  exact bin_ok ho S2 rx ry e h3
theorem s_neg {a : E} {l : Expr} {pos : Pos} (ha : SndE L n a l X) : SndE L n (.neg a) (.UnaryOp .USub l pos) X := by
  intro W τ σ ρ m H Q cx lc S h
  rw [evE] at h
  refine PE.ev (pe_un un_neg EvE.pe) (ha W τ σ ρ m H _ cx lc S (Post.bind (Ra := Rep X.K L) h fun x m1 ρ1 H1 v S1 st1 r1 h1 => ?_))
  split at h1
  · rw [rep_int] at r1
    subst r1
    exact ⟨_, rfl, give S1 h1 (rep_int.mpr rfl)⟩
  · exact Post.stuck h1
end
end Dy
end
section
set_option Elab.async false
set_option linter.all false
set_option maxRecDepth 100000
set_option maxHeartbeats 4000000
/-! DyS3: comparisons, tests. -/
namespace Dy
open PySem PySem.Spec PyProof.Rows L2
mutual
def toPy : D → PyData
  | .bl b => .bool b
  | .int i => .int i
  | .str s => .str (sx s)
  | .tup xs => .tuple (toPys xs)
  | .fl xs => .list (toPys xs)
  | _ => .none
def toPys : List D → List PyData
  | [] => []
  | x :: xs => toPy x :: toPys xs
end
theorem sx_inj {s t : List Nat} (h : sx s = sx t) : s = t := by
  have e : s.toArray = t.toArray := congrArg PySem.Str.cps h
  simpa using e
theorem sx_beq (s t : List Nat) : (sx s == sx t) = (s == t) := by
  by_cases h : s = t
  · subst h
    simp
  · have h2 : sx s ≠ sx t := fun z => h (sx_inj z)
    rw [beq_eq_false_iff_ne.mpr h, beq_eq_false_iff_ne.mpr h2]
mutual
theorem eqv_py : ∀ (a b : D) (j k : Nat), shp a j = true → shp b k = true → PyData.eqv (toPy a) (toPy b) = eqD a b
  | .non, b, j, k, ha, hb => by cases b <;> (first | rfl | (simp only [shp, Bool.false_eq_true] at hb))
  | .bl x, b, j, k, ha, hb => by cases b <;> (first | rfl | (simp only [shp, Bool.false_eq_true] at hb))
  | .int x, b, j, k, ha, hb => by cases b <;> (first | rfl | (simp only [shp, Bool.false_eq_true] at hb))
  | .str x, b, j, k, ha, hb => by
    cases b with
    | str y =>
      show (sx x == sx y) = (x == y)
      exact sx_beq x y
    | _ => first | rfl | (simp only [shp, Bool.false_eq_true] at hb)
  | .tup xs, b, j, k, ha, hb => by
    cases b with
    | tup ys =>
      cases j with
      | zero => simp only [shp, Bool.false_eq_true] at ha
      | succ j =>
        cases k with
        | zero => simp only [shp, Bool.false_eq_true] at hb
        | succ k =>
          rw [shp] at ha hb
          show PyData.eqv (.tuple (toPys xs)) (.tuple (toPys ys)) = eqD (.tup xs) (.tup ys)
          rw [PyData.eqv, eqD]
          exact eqv_pys xs ys j k ha hb
    | _ => first | rfl | (simp only [shp, Bool.false_eq_true] at hb)
  | .fl xs, b, j, k, ha, hb => by
    cases b with
    | fl ys =>
      cases j with
      | zero => simp only [shp, Bool.false_eq_true] at ha
      | succ j =>
        cases k with
        | zero => simp only [shp, Bool.false_eq_true] at hb
        | succ k =>
          rw [shp] at ha hb
          show PyData.eqv (.list (toPys xs)) (.list (toPys ys)) = eqD (.fl xs) (.fl ys)
          rw [PyData.eqv, eqD]
          exact eqv_pys xs ys j k ha hb
    | _ => first | rfl | (simp only [shp, Bool.false_eq_true] at hb)
  | .ro xs, b, j, k, ha, hb => by simp only [shp, Bool.false_eq_true] at ha
  | .ob _ _ _, b, j, k, ha, hb => by simp only [shp, Bool.false_eq_true] at ha
  | .ex _ _ _, b, j, k, ha, hb => by simp only [shp, Bool.false_eq_true] at ha
  | .cell _, b, j, k, ha, hb => by simp only [shp, Bool.false_eq_true] at ha
theorem eqv_pys : ∀ (xs ys : List D) (j k : Nat), shps xs j = true → shps ys k = true → PyData.eqvAll (toPys xs) (toPys ys) = eqDs xs ys
  | [], [], j, k, ha, hb => by simp only [toPys, PyData.eqvAll, eqDs]
  | [], y :: ys, j, k, ha, hb => by simp only [toPys, PyData.eqvAll, eqDs]
  | x :: xs, [], j, k, ha, hb => by simp only [toPys, PyData.eqvAll, eqDs]
  | x :: xs, y :: ys, j, k, ha, hb => by
    rw [shps, Bool.and_eq_true] at ha hb
    simp only [toPys, PyData.eqvAll, eqDs]
    rw [eqv_py x y j k ha.1 hb.1, eqv_pys xs ys j k ha.2 hb.2]
end
mutual
theorem shp_lay : ∀ (a : D) (j : Nat), shp a j = true → (toPy a).canLay0 = true ∧ (toPy a).depth ≤ j
  | .non, j, h => ⟨rfl, Nat.zero_le _⟩
  | .bl b, j, h => ⟨rfl, Nat.zero_le _⟩
  | .int b, j, h => ⟨rfl, Nat.zero_le _⟩
  | .str s, j, h => by
    refine ⟨?_, Nat.zero_le _⟩
    rw [shp] at h
    show ((sx s).cps.all fun c => decide (c < 1114112)) = true
    show (s.toArray.all fun c => decide (c < 1114112)) = true
    rw [List.all_toArray]
    exact h
  | .tup xs, 0, h => by simp only [shp, Bool.false_eq_true] at h
  | .tup xs, j + 1, h => by
    rw [shp] at h
    obtain ⟨h1, h2⟩ := shps_lay xs j h
    exact ⟨by simp only [toPy, PyData.canLay0]; exact h1, by simp only [toPy, PyData.depth]; omega⟩
  | .fl xs, 0, h => by simp only [shp, Bool.false_eq_true] at h
  | .fl xs, j + 1, h => by
    rw [shp] at h
    obtain ⟨h1, h2⟩ := shps_lay xs j h
    exact ⟨by simp only [toPy, PyData.canLay0]; exact h1, by simp only [toPy, PyData.depth]; omega⟩
  | .ro xs, j, h => by simp only [shp, Bool.false_eq_true] at h
  | .ob _ _ _, j, h => by simp only [shp, Bool.false_eq_true] at h
  | .ex _ _ _, j, h => by simp only [shp, Bool.false_eq_true] at h
  | .cell _, j, h => by simp only [shp, Bool.false_eq_true] at h
theorem shps_lay : ∀ (xs : List D) (j : Nat), shps xs j = true → PyData.canLayAll0 (toPys xs) = true ∧ PyData.depthAll (toPys xs) ≤ j
  | [], j, h => ⟨rfl, Nat.zero_le _⟩
  | x :: xs, j, h => by
    rw [shps, Bool.and_eq_true] at h
    obtain ⟨h1, h2⟩ := shp_lay x j h.1
    obtain ⟨h3, h4⟩ := shps_lay xs j h.2
    exact ⟨by simp only [toPys, PyData.canLayAll0, h1, h3, Bool.and_self], by simp only [toPys, PyData.depthAll]; omega⟩
end
theorem shaped_of {a : D} (h : shp a 60 = true) : SeqAt.shaped (toPy a) = true := by
  obtain ⟨h1, h2⟩ := shp_lay a 60 h
  show ((toPy a).canLay0 && decide ((toPy a).depth ≤ 64)) = true
  rw [h1, Bool.true_and]
  exact decide_eq_true (by omega)
theorem shaped_list {xs : List D} (h : shps xs 60 = true) : SeqAt.shaped (.list (toPys xs)) = true := by
  obtain ⟨h1, h2⟩ := shps_lay xs 60 h
  show (PyData.canLay0 (.list (toPys xs)) && decide (PyData.depth (.list (toPys xs)) ≤ 64)) = true
  rw [show PyData.canLay0 (.list (toPys xs)) = true by simp only [PyData.canLay0]; exact h1, Bool.true_and]
  exact decide_eq_true (by simp only [PyData.depth]; omega)
section
variable {L : Lk} {n : Nat} {X : Cx} {K : PySem.W.Frag} {ρ : Pl} {m : Store} {H : Hp}
mutual
theorem dp_pure : ∀ (d : D) (v : V) (j : Nat), shp d j = true → Rep K L ρ m H d v → Dp K H v (toPy d)
  | .non, v, j, h, r => by rw [rep_non] at r; subst r; exact .non
  | .bl b, v, j, h, r => by rw [rep_bl] at r; subst r; exact .bl b
  | .int b, v, j, h, r => by rw [rep_int] at r; subst r; exact .int b
  | .str b, v, j, h, r => by rw [rep_str] at r; subst r; exact .str _
  | .tup xs, v, 0, h, r => by simp only [shp, Bool.false_eq_true] at h
  | .tup xs, v, j + 1, h, r => by
    rw [shp] at h
    rw [rep_tup] at r
    obtain ⟨a, vs, rfl, h1, h2⟩ := r
    exact .tup h1 (dps_pure xs vs j h h2)
  | .fl xs, v, 0, h, r => by simp only [shp, Bool.false_eq_true] at h
  | .fl xs, v, j + 1, h, r => by
    rw [shp] at h
    rw [rep_fl] at r
    obtain ⟨a, vs, rfl, h1, _, h2⟩ := r
    exact .lst (.of h1) (dps_pure xs vs j h h2)
  | .ro xs, v, j, h, r => by simp only [shp, Bool.false_eq_true] at h
  | .ob _ _ _, v, j, h, r => by simp only [shp, Bool.false_eq_true] at h
  | .ex _ _ _, v, j, h, r => by simp only [shp, Bool.false_eq_true] at h
  | .cell _, v, j, h, r => by simp only [shp, Bool.false_eq_true] at h
theorem dps_pure : ∀ (xs : List D) (vs : List V) (j : Nat), shps xs j = true → Reps K L ρ m H xs vs → DpAll K H vs (toPys xs)
  | [], vs, j, h, r => by rw [reps_nil] at r; subst r; exact .nil
  | x :: xs, vs, j, h, r => by
    rw [shps, Bool.and_eq_true] at h
    rw [reps_cons] at r
    obtain ⟨v, w, rfl, h1, h2⟩ := r
    exact .cons (dp_pure x v j h.1 h1) (dps_pure xs w j h.2 h2)
end
theorem dp_deep (S : SR K L ρ m H) : ∀ (n : Nat) (d : D) (v : V) (j : Nat), shp (m.deep n d) j = true → Rep K L ρ m H d v → Dp K H v (toPy (m.deep n d)) := by
  intro n
  induction n with
  | zero =>
    intro d v j h r
    have e : m.deep 0 d = d := by unfold Store.deep; cases d <;> rfl
    rw [e] at h ⊢
    exact dp_pure d v j h r
  | succ n ih =>
    intro d v j h r
    have all : ∀ (xs : List D) (vs : List V) (j : Nat), shps (xs.map (m.deep n)) j = true → Reps K L ρ m H xs vs → DpAll K H vs (toPys (xs.map (m.deep n))) := by
      intro xs
      induction xs with
      | nil => intro vs j h r; rw [reps_nil] at r; subst r; exact .nil
      | cons x xs ihx =>
        intro vs j h r
        rw [List.map_cons, shps, Bool.and_eq_true] at h
        rw [reps_cons] at r
        obtain ⟨v, w, rfl, h1, h2⟩ := r
        exact .cons (ih x v j h.1 h1) (ihx w j h.2 h2)
    cases d with
    | tup xs =>
      have e : m.deep (n + 1) (.tup xs) = .tup (xs.map (m.deep n)) := by rw [Store.deep]
      rw [e] at h ⊢
      cases j with
      | zero => simp only [shp, Bool.false_eq_true] at h
      | succ j =>
        rw [shp] at h
        rw [rep_tup] at r
        obtain ⟨a, vs, rfl, h1, h2⟩ := r
        exact .tup h1 (all xs vs j h h2)
    | fl xs =>
      have e : m.deep (n + 1) (.fl xs) = .fl (xs.map (m.deep n)) := by rw [Store.deep]
      rw [e] at h ⊢
      cases j with
      | zero => simp only [shp, Bool.false_eq_true] at h
      | succ j =>
        rw [shp] at h
        rw [rep_fl] at r
        obtain ⟨a, vs, rfl, h1, _, h2⟩ := r
        exact .lst (.of h1) (all xs vs j h h2)
    | cell k =>
      rw [Store.deep] at h ⊢
      split at h
      · rename_i xs e1
        cases j with
        | zero => simp only [shp, Bool.false_eq_true] at h
        | succ j =>
          rw [shp] at h
          obtain ⟨a, vs, rfl, _, h1, h2⟩ := cell_lst S r e1
          exact .lst (.of h1) (all xs vs j h h2)
      · simp only [shp, Bool.false_eq_true] at h
    | _ => exact dp_pure _ v j h r
theorem dps_deep (S : SR K L ρ m H) {xs : List D} {vs : List V} {j : Nat} (h : shps (xs.map (m.deep 60)) j = true) (r : Reps K L ρ m H xs vs) : DpAll K H vs (toPys (xs.map (m.deep 60))) := by
  induction xs generalizing vs with
  | nil => rw [reps_nil] at r; subst r; exact .nil
  | cons x xs ihx =>
    rw [List.map_cons, shps, Bool.and_eq_true] at h
    rw [reps_cons] at r
    obtain ⟨v, w, rfl, h1, h2⟩ := r
    exact .cons (dp_deep S 60 x v j h.1 h1) (ihx h.2 h2)
theorem any_py {x : D} (hx : shp x 60 = true) : ∀ (ys : List D), shps ys 60 = true → ((toPys ys).any fun z => PyData.eqv z (toPy x)) = inD x ys
  | [], _ => rfl
  | y :: ys, h => by
    rw [shps, Bool.and_eq_true] at h
    simp only [toPys, List.any_cons, inD]
    rw [eqv_py y x 60 60 h.1 hx, any_py hx ys h.2]
    rfl
/-! ### in a tuple -/
theorem op_inT (hu : X.A.units + 65 < cLine) : OpR X (compareOp .In) (fun x y H Q => ∃ d ds, Dp X.K H x d ∧ Dp X.K H y (.tuple ds) ∧ SeqAt.shaped d = true ∧ SeqAt.shaped (.list ds) = true ∧ Q (.bl (ds.any fun z => PyData.eqv z d)) H) := by
  intro pins s σ H x y v u Q I rx ry h
  obtain ⟨d, ds, hd, he, sd, se, q⟩ := h
  obtain ⟨as, r1⟩ := Dp.reads I d x v hd rx
  obtain ⟨bs, r2⟩ := Dp.reads I (.tuple ds) y u he ry
  exact SeqAt.in_tuple_reads r2 r1 (SeqAt.canLay_of_shaped se) (SeqAt.canLay_of_shaped sd) (room_in_shaped sd hu) ⟨.bl _, H, I, rfl, q⟩
theorem op_notInT (hu : X.A.units + 65 < cLine) : OpR X (compareOp .NotIn) (fun x y H Q => ∃ d ds, Dp X.K H x d ∧ Dp X.K H y (.tuple ds) ∧ SeqAt.shaped d = true ∧ SeqAt.shaped (.list ds) = true ∧ Q (.bl (!ds.any fun z => PyData.eqv z d)) H) := by
  intro pins s σ H x y v u Q I rx ry h
  obtain ⟨d, ds, hd, he, sd, se, q⟩ := h
  obtain ⟨as, r1⟩ := Dp.reads I d x v hd rx
  obtain ⟨bs, r2⟩ := Dp.reads I (.tuple ds) y u he ry
  exact SeqAt.notIn_tuple_reads r2 r1 (SeqAt.canLay_of_shaped se) (SeqAt.canLay_of_shaped sd) (room_in_shaped sd hu) ⟨.bl _, H, I, rfl, q⟩
end
end Dy
end
section
set_option Elab.async false
set_option linter.all false
set_option maxRecDepth 100000
set_option maxHeartbeats 4000000
/-! DyS4: comparisons and tests are sound. -/
namespace Dy
open PySem PySem.Spec PyProof.Rows L2
section
variable {L : Lk} {n : Nat} {X : Cx} {K : PySem.W.Frag} {ρ : Pl} {m : Store} {H : Hp}
/-! ### keys of dicts -/
theorem kV_ky (k : Ky) : kV (kyV k) = (match k with
    | .inl i => .int i
    | .inr s => .str (sx s)) := by cases k <;> rfl
theorem key_rep {x : D} {k : Ky} {v : V} (e : keyD x = some k) (r : Rep K L ρ m H x v) : v = kV (kyV k) := by
  cases x with
  | int i => cases e; rw [rep_int] at r; subst r; rfl
  | str s => cases e; rw [rep_str] at r; subst r; rfl
  | _ => cases e
theorem kyV_inj {a b : Ky} (h : kyV a = kyV b) : a = b := by
  cases a with
  | inl i => cases b with
    | inl j => cases h; rfl
    | inr s => cases h
  | inr s => cases b with
    | inl j => cases h
    | inr t =>
      have e : sx s = sx t := Sum.inr.inj h
      rw [sx_inj e]
theorem RepK.val {k : Ky} : ∀ {kvs : List (Ky × D)} {kv : List (Key × V)}, RepK K L ρ m H kvs kv → (getK k kvs = none ∧ valV kv (kyV k) = none) ∨ ∃ d v, getK k kvs = some d ∧ valV kv (kyV k) = some v ∧ Rep K L ρ m H d v
  | [], kv, h => by
    obtain rfl : kv = [] := h
    exact .inl ⟨rfl, rfl⟩
  | p :: r, kv, h => by
    obtain ⟨v, vr, rfl, h1, h2⟩ := h
    by_cases e : p.1 = k
    · refine .inr ⟨p.2, v, ?_, ?_, h1⟩
      · show (if p.1 = k then some p.2 else getK k r) = _
        rw [if_pos e]
      · rw [valV_pos (show (kyV p.1, v).1 = kyV k by rw [e])]
    · have e2 : ¬ (kyV p.1, v).1 = kyV k := fun z => e (kyV_inj z)
      have g : getK k (p :: r) = getK k r := by
        show (if p.1 = k then some p.2 else getK k r) = _
        rw [if_neg e]
      rw [g, valV_neg e2]
      exact RepK.val h2
theorem RepK.isSome {k : Ky} {kvs : List (Ky × D)} {kv : List (Key × V)} (h : RepK K L ρ m H kvs kv) : (valV kv (kyV k)).isSome = (getK k kvs).isSome := by
  rcases h.val (k := k) with ⟨a, b⟩ | ⟨d, v, a, b, _⟩
  · rw [a, b] <;> rfl
  · rw [a, b] <;> rfl
theorem RepK.length : ∀ {kvs : List (Ky × D)} {kv : List (Key × V)}, RepK K L ρ m H kvs kv → kvs.length = kv.length
  | [], kv, h => by
    obtain rfl : kv = [] := h
    rfl
  | p :: r, kv, h => by
    obtain ⟨v, vr, rfl, h1, h2⟩ := h
    simp [RepK.length h2]
/-- a dict's cell -/
theorem cell_dct {k : Nat} {lk : Bool} {kvs : List (Ky × D)} {v : V} (S : SR K L ρ m H) (h : Rep K L ρ m H (.cell k) v) (e : m[k]? = some (.dct lk kvs)) :
    ∃ a kv, v = .ref a ∧ ρ.c[k]? = some a ∧ Rd H a (.dK kv) ∧ RepK K L ρ m H kvs kv ∧ (kv.map (·.1)).Nodup ∧ (lk = false → H a = some (.dK kv)) ∧ (lk = true → ∃ o, H a = some (.frz o (.dK kv))) := by
  rw [rep_cell] at h
  obtain ⟨a, rfl, h1⟩ := h
  obtain ⟨kv, h2, h3, h4⟩ := S.cell k _ a e h1
  cases lk with
  | false => exact ⟨a, kv, rfl, h1, .inl h4, h2, h3, fun _ => h4, fun z => nomatch z⟩
  | true => exact ⟨a, kv, rfl, h1, .inr h4, h2, h3, fun z => (nomatch z), fun _ => h4⟩
theorem op_din (hu : X.A.units + 1 < cLine) : OpR X (compareOp .In) (fun y x H Q => ∃ a o, x = .ref a ∧ DGet H a y o ∧ Q (.bl o.isSome) H) := by
  intro pins s σ H y x u v Q I ry rx h
  obtain ⟨a, o, rfl, g, q⟩ := h
  obtain rfl : v = Value.ref a := rx
  exact d_in hu I g ry fun s' I' => ⟨.bl _, H, I', rfl, q⟩
theorem op_dnotin (hu : X.A.units + 1 < cLine) : OpR X (compareOp .NotIn) (fun y x H Q => ∃ a o, x = .ref a ∧ DGet H a y o ∧ Q (.bl (!o.isSome)) H) := by
  intro pins s σ H y x u v Q I ry rx h
  obtain ⟨a, o, rfl, g, q⟩ := h
  obtain rfl : v = Value.ref a := rx
  exact d_notIn hu I g ry fun s' I' => ⟨.bl _, H, I', rfl, q⟩
theorem inM_of {x : D} {ys : List D} {b : Bool} (h : inM m x ys = some b) : shp (m.deep 60 x) 60 = true ∧ shps (ys.map (m.deep 60)) 60 = true ∧ b = inD (m.deep 60 x) (ys.map (m.deep 60)) := by
  unfold inM at h
  simp only at h
  split at h
  · rename_i e
    rw [Bool.and_eq_true] at e
    exact ⟨e.1, e.2, (Option.some.inj h).symm⟩
  · cases h
/-- x in y, x not in y -/
theorem isin_ok {no : Bool} {o : CmpOp} (ho : o = if no then .NotIn else .In) (hu : X.A.units + 65 < cLine) {x y : D} {b : Bool} {v u : V} {Q : VK} (S : SR X.K L ρ m H) (rx : Rep X.K L ρ m H x v) (ry : Rep X.K L ρ m H y u) (e : isinD m x y = some b) (h : Q (.bl (b != no)) H) :
    opW X (compareOp o) v u H Q := by
  have bx : ∀ b : Bool, (b != true) = !b := fun b => by cases b <;> rfl
  have by' : ∀ b : Bool, (b != false) = b := fun b => by cases b <;> rfl
  have lst : ∀ {a : Ad} {ys : List D} {vs : List V}, u = .ref a → H a = some (.lst vs) → Reps X.K L ρ m H ys vs → inM m x ys = some b → opW X (compareOp o) v u H Q := by
    intro a ys vs eu ha r e
    obtain ⟨h1, h2, h3⟩ := inM_of e
    have dx := dp_deep S 60 x v 60 h1 rx
    have dy : Dp X.K H u (.list (toPys (ys.map (m.deep 60)))) := by rw [eu]; exact .lst (.of ha) (dps_deep S h2 r)
    have an := any_py h1 _ h2
    cases no with
    | false =>
      subst ho
      refine OpR.w (op_inD hu) ⟨_, _, dx, dy, shaped_of h1, shaped_list h2, ?_⟩
      rw [an, ← h3]
      rw [by'] at h
      exact h
    | true =>
      subst ho
      refine OpR.w (op_notInD hu) ⟨_, _, dx, dy, shaped_of h1, shaped_list h2, ?_⟩
      rw [an, ← h3]
      rw [bx] at h
      exact h
  unfold isinD at e
  split at e
  · rename_i z
    split at e
    · rename_i c
      cases e
      rw [rep_str] at rx ry
      subst rx ry
      cases no with
      | false =>
        subst ho
        refine OpR.w op_in_sign ⟨c, sx z, rfl, rfl, ?_⟩
        rw [by'] at h
        exact h
      | true =>
        subst ho
        refine OpR.w op_notIn_sign ⟨c, sx z, rfl, rfl, ?_⟩
        rw [bx] at h
        exact h
    · cases e
  · rename_i k
    split at e
    · rename_i ys e1
      obtain ⟨a, vs, eu, _, ha, r⟩ := cell_lst S ry e1
      exact lst eu ha r e
    · rename_i lk kvs e1
      obtain ⟨ky, e2, e3⟩ := Option.map_eq_some_iff.mp e
      obtain ⟨a, kv, rfl, _, rd, rk, _⟩ := cell_dct S ry e1
      have ev := key_rep e2 rx
      subst ev
      have g : DGet H a (kV (kyV ky)) (valV kv (kyV ky)) := .inl ⟨kv, kyV ky, rd, rfl, rfl⟩
      have es : (valV kv (kyV ky)).isSome = b := rk.isSome.trans e3
      cases no with
      | false =>
        subst ho
        refine OpR.w (op_din (by omega)) ⟨a, _, rfl, g, ?_⟩
        rw [es]
        rw [by'] at h
        exact h
      | true =>
        subst ho
        refine OpR.w (op_dnotin (by omega)) ⟨a, _, rfl, g, ?_⟩
        rw [es]
        rw [bx] at h
        exact h
    · cases e
  · rename_i ys
    rw [rep_fl] at ry
    obtain ⟨a, vs, eu, ha, _, r⟩ := ry
    exact lst eu ha r e
  · rename_i ys
    rw [rep_tup] at ry
    obtain ⟨a, vs, eu, ha, r⟩ := ry
    obtain ⟨h1, h2, h3⟩ := inM_of e
    have dx := dp_deep S 60 x v 60 h1 rx
    have dy : Dp X.K H u (.tuple (toPys (ys.map (m.deep 60)))) := by rw [eu]; exact .tup ha (dps_deep S h2 r)
    have an := any_py h1 _ h2
    cases no with
    | false =>
      subst ho
      refine OpR.w (op_inT hu) ⟨_, _, dx, dy, shaped_of h1, shaped_list h2, ?_⟩
      rw [an, ← h3]
      rw [by'] at h
      exact h
    | true =>
      subst ho
      refine OpR.w (op_notInT hu) ⟨_, _, dx, dy, shaped_of h1, shaped_list h2, ?_⟩
      rw [an, ← h3]
      rw [bx] at h
      exact h
  · cases e
theorem eqM_of {x y : D} {b : Bool} (h : eqM m x y = some b) : shp (m.deep 60 x) 60 = true ∧ shp (m.deep 60 y) 60 = true ∧ b = eqD (m.deep 60 x) (m.deep 60 y) := by
  unfold eqM at h
  simp only at h
  split at h
  · rename_i e
    rw [Bool.and_eq_true] at e
    exact ⟨e.1, e.2, (Option.some.inj h).symm⟩
  · cases h
/-- any comparison -/
theorem cmp_ok {op : Cop} {o : CmpOp} (ho : mCop op o = true) (hu : X.A.units + 65 < cLine) {x y : D} {b : Bool} {v u : V} {Q : VK} (S : SR X.K L ρ m H) (rx : Rep X.K L ρ m H x v) (ry : Rep X.K L ρ m H y u) (e : cmpD m op x y = some b) (h : Q (.bl b) H) :
    opW X (compareOp o) v u H Q := by
  cases op <;> cases o <;> (first | cases ho | skip)
  · change ltD x y = some b at e
    unfold ltD at e
    split at e
    · cases e
      rw [rep_int] at rx ry
      subst rx ry
      exact OpR.w op_lt ⟨_, _, rfl, rfl, h⟩
    · split at e
      · rename_i a' b' e1 e2
        cases e
        rw [rep_tup] at rx ry
        obtain ⟨a, vs, rfl, ha, r1⟩ := rx
        obtain ⟨c, us, rfl, hc, r2⟩ := ry
        rw [r1.ints e1] at ha
        rw [r2.ints e2] at hc
        refine OpR.w (op_ltT (by omega)) ⟨a, c, _, _, rfl, rfl, ha, hc, ?_⟩
        have lx : ∀ (p q : List Int), HT.lexLt p q = lexI p q := by
          intro p
          induction p with
          | nil => intro q; cases q <;> rfl
          | cons x p ih =>
            intro q
            cases q with
            | nil => rfl
            | cons y q =>
              show (if x = y then HT.lexLt p q else decide (x < y)) = (if x = y then lexI p q else decide (x < y))
              rw [ih]
        rw [lx]
        exact h
      · cases e
    · cases e
  · change leD x y = some b at e
    unfold leD at e
    split at e
    · cases e
      rw [rep_int] at rx ry
      subst rx ry
      exact OpR.w op_le ⟨_, _, rfl, rfl, h⟩
    · cases e
  · change gtD x y = some b at e
    unfold gtD at e
    split at e
    · cases e
      rw [rep_int] at rx ry
      subst rx ry
      exact OpR.w op_gt ⟨_, _, rfl, rfl, h⟩
    · cases e
  · change geD x y = some b at e
    unfold geD at e
    split at e
    · cases e
      rw [rep_int] at rx ry
      subst rx ry
      exact OpR.w op_ge ⟨_, _, rfl, rfl, h⟩
    · cases e
  · change eqM m x y = some b at e
    obtain ⟨h1, h2, h3⟩ := eqM_of e
    refine OpR.w (op_eqD (by omega)) ⟨_, _, dp_deep S 60 x v 60 h1 rx, dp_deep S 60 y u 60 h2 ry, shaped_of h1, shaped_of h2, ?_⟩
    rw [eqv_py _ _ 60 60 h1 h2, ← h3]
    exact h
  · change (eqM m x y).map (!·) = some b at e
    obtain ⟨c, e1, e2⟩ := Option.map_eq_some_iff.mp e
    obtain ⟨h1, h2, h3⟩ := eqM_of e1
    refine OpR.w (op_neD (by omega)) ⟨_, _, dp_deep S 60 x v 60 h1 rx, dp_deep S 60 y u 60 h2 ry, shaped_of h1, shaped_of h2, ?_⟩
    rw [eqv_py _ _ 60 60 h1 h2, ← h3, e2]
    exact h
  · exact isin_ok (no := false) rfl hu S rx ry e (by rw [show (b != false) = b by cases b <;> rfl]; exact h)
  · change (isinD m x y).map (!·) = some b at e
    obtain ⟨c, e1, e2⟩ := Option.map_eq_some_iff.mp e
    exact isin_ok (no := true) rfl hu S rx ry e1 (by rw [show (c != true) = !c by cases c <;> rfl, e2]; exact h)
theorem plain_mark {op : CmpOp} {e : Expr} (h : plainIn e = true) : behindInMarks op e = false := by
  cases e <;> (first | cases h | skip)
  all_goals first
    | (cases op <;> rfl)
    | (rename_i c _ _; cases c <;> (first | cases h | (cases op <;> rfl)))
theorem mark_of {op : Cop} {o : CmpOp} {r : Expr} (ho : mCop op o = true) (h : ((decide (op ≠ .inn) && decide (op ≠ .nin)) || plainIn r) = true) : behindInMarks o r = false := by
  rw [Bool.or_eq_true] at h
  rcases h with h | h
  · rw [Bool.and_eq_true, decide_eq_true_eq, decide_eq_true_eq] at h
    refine nobehind r (fun z => ?_) (fun z => ?_)
    · subst z
      cases op <;> (first | exact h.1 rfl | cases ho)
    · subst z
      cases op <;> (first | exact h.2 rfl | cases ho)
  · exact plain_mark h
theorem Cxt.hu {W : WX} (cx : Cxt L n X W) : X.A.units + 65 < cLine := by
  have := cx.room.un
  omega
theorem Post.map {α β γ δ : Type} {Ra : Pl → Store → Hp → α → β → Prop} {Rb : Pl → Store → Hp → γ → δ → Prop} {f : α → γ} {o : Option α} {Q : δ → Hp → Prop} {R : XK} (h : Post K L Rb ρ m H (Dy.ofO m (o.map f)) Q R) : ∃ a, o = some a ∧ Post K L Rb ρ m H (.ok (f a) m) Q R := by
  cases o with
  | none => exact (show False from h).elim
  | some a => exact ⟨a, rfl, h⟩
theorem s_cmp {op : Cop} {o : CmpOp} {a b : E} {l r : Expr} {pos : Pos} (ho : mCop op o = true) (hm : ((decide (op ≠ .inn) && decide (op ≠ .nin)) || plainIn r) = true) (ha : SndE L n a l X) (hb : SndE L n b r X) : SndE L n (.cmp op a b) (.Compare l [o] [r] pos) X := by
  intro W τ σ ρ m H Q cx lc S h
  rw [evE] at h
  refine PE.ev (pe_cmpR (opW_ok (f := compareOp o)) EvE.pe EvE.pe (mark_of ho hm)) (two cx lc S ha hb h fun x y m2 ρ2 H2 v u S2 lc2 rx ry h2 => ?_)
  obtain ⟨k, e, h3⟩ := Post.map (Ra := RB) h2
  exact cmp_ok ho cx.hu S2 rx ry e (give S2 h3 (rep_bl.mpr rfl))
theorem s_chain {op op' : Cop} {o o' : CmpOp} {a b c : E} {l r r' : Expr} {pos : Pos} (ho : mCop op o = true) (ho' : mCop op' o' = true) (hm : (decide (op ≠ .inn) && decide (op ≠ .nin)) = true) (hm' : (decide (op' ≠ .inn) && decide (op' ≠ .nin)) = true)
    (ha : SndE L n a l X) (hb : SndE L n b r X) (hc : SndE L n c r' X) : SndE L n (.chain op op' a b c) (.Compare l [o, o'] [r, r'] pos) X := by
  intro W τ σ ρ m H Q cx lc S h
  rw [evE] at h
  have m2 : behindInMarks o' r' = false := mark_of ho' (by rw [hm']; rfl)
  refine PE.ev (pe_chain (opW_ok (f := compareOp o)) (opW_ok (f := compareOp o')) EvE.pe EvE.pe EvE.pe m2) ?_
  refine ha W τ σ ρ m H _ cx lc S (Post.bind (Ra := Rep X.K L) h fun x m1 ρ1 H1 v S1 st1 r1 h1 => ?_)
  refine hb W τ σ ρ1 m1 H1 _ cx (lc.step S st1) S1 (Post.bind (Ra := Rep X.K L) h1 fun y m2 ρ2 H2 u S2 st2 r2 h2 => ?_)
  have r1' := Rep.step S1 st2 _ _ r1
  have lc2 := (lc.step S st1).step S1 st2
  cases e : cmpD m2 op x y with
  | none =>
    rw [e] at h2
    exact (show False from h2).elim
  | some k =>
    rw [e] at h2
    refine cmp_ok ho cx.hu S2 r1' r2 e ?_
    refine ⟨k, rfl, ?_⟩
    have h2 : Post X.K L (RE X.K L) ρ2 m2 H2 (if k then (evE L.G (run L.G L.fns n) c τ m2).bind fun z m4 => ofO m4 ((cmpD m4 op' y z).map .bl) else .ok (.bl false) m2) Q (rX W σ) := h2
    cases k with
    | false => exact give S2 h2 (rep_bl.mpr rfl)
    | true =>
      refine hc W τ σ ρ2 m2 H2 _ cx lc2 S2 (Post.bind (Ra := Rep X.K L) h2 fun z m4 ρ4 H4 w S4 st4 r4 h4 => ?_)
      obtain ⟨k, e, h5⟩ := Post.map (Ra := RB) h4
      exact cmp_ok ho' cx.hu S4 (Rep.step S2 st4 _ _ r2) r4 e (give S4 h5 (rep_bl.mpr rfl))
end
end Dy
end
section
set_option Elab.async false
set_option linter.all false
set_option maxRecDepth 100000
set_option maxHeartbeats 4000000
/-! DyS5: is, truth, and, or, not, conditional expressions; tests. -/
namespace Dy
open PySem PySem.Spec PyProof.Rows L2
section
variable {L : Lk} {n : Nat} {X : Cx} {K : PySem.W.Frag} {ρ : Pl} {m : Store} {H : Hp}
/-! ### the comparisons' readings, apart from where they stand -/
theorem rd_cmp {op : Cop} {o : CmpOp} {a b : E} {l r : Expr} (ho : mCop op o = true) (ha : SndE L n a l X) (hb : SndE L n b r X) {W : WX} {τ : Loc} {σ : L2.St} {Q : VK} (cx : Cxt L n X W) (lc : LocR X.K L ρ m H τ σ) (S : SR X.K L ρ m H)
    (h : Post X.K L (RE X.K L) ρ m H (evE L.G (run L.G L.fns n) (.cmp op a b) τ m) Q (rX W σ)) : tOp (opW X (compareOp o)) (EvE X l) (EvE X r) σ H Q := by
  rw [evE] at h
  refine two cx lc S ha hb h fun x y m2 ρ2 H2 v u S2 lc2 rx ry h2 => ?_
  obtain ⟨k, e, h3⟩ := Post.map (Ra := RB) h2
  exact cmp_ok ho cx.hu S2 rx ry e (give S2 h3 (rep_bl.mpr rfl))
theorem rd_chain {op op' : Cop} {o o' : CmpOp} {a b c : E} {l r r' : Expr} (ho : mCop op o = true) (ho' : mCop op' o' = true) (ha : SndE L n a l X) (hb : SndE L n b r X) (hc : SndE L n c r' X) {W : WX} {τ : Loc} {σ : L2.St} {Q : VK} (cx : Cxt L n X W) (lc : LocR X.K L ρ m H τ σ) (S : SR X.K L ρ m H)
    (h : Post X.K L (RE X.K L) ρ m H (evE L.G (run L.G L.fns n) (.chain op op' a b c) τ m) Q (rX W σ)) : tChain (opW X (compareOp o)) (opW X (compareOp o')) (EvE X l) (EvE X r) (EvE X r') σ H Q := by
  rw [evE] at h
  refine ha W τ σ ρ m H _ cx lc S (Post.bind (Ra := Rep X.K L) h fun x m1 ρ1 H1 v S1 st1 r1 h1 => ?_)
  refine hb W τ σ ρ1 m1 H1 _ cx (lc.step S st1) S1 (Post.bind (Ra := Rep X.K L) h1 fun y m2 ρ2 H2 u S2 st2 r2 h2 => ?_)
  have r1' := Rep.step S1 st2 _ _ r1
  have lc2 := (lc.step S st1).step S1 st2
  cases e : cmpD m2 op x y with
  | none =>
    rw [e] at h2
    exact (show False from h2).elim
  | some k =>
    rw [e] at h2
    refine cmp_ok ho cx.hu S2 r1' r2 e ⟨k, rfl, ?_⟩
    have h2 : Post X.K L (RE X.K L) ρ2 m2 H2 (if k then (evE L.G (run L.G L.fns n) c τ m2).bind fun z m4 => ofO m4 ((cmpD m4 op' y z).map .bl) else .ok (.bl false) m2) Q (rX W σ) := h2
    cases k with
    | false => exact give S2 h2 (rep_bl.mpr rfl)
    | true =>
      refine hc W τ σ ρ2 m2 H2 _ cx lc2 S2 (Post.bind (Ra := Rep X.K L) h2 fun z m4 ρ4 H4 w S4 st4 r4 h4 => ?_)
      obtain ⟨k, e, h5⟩ := Post.map (Ra := RB) h4
      exact cmp_ok ho' cx.hu S4 (Rep.step S2 st4 _ _ r2) r4 e (give S4 h5 (rep_bl.mpr rfl))
/-- is, is not -/
def isOp (no : Bool) : CmpOp := if no then .IsNot else .Is
theorem op_isL {no : Bool} {l : Lit} {x : D} {k : Bool} {v u : V} {Q : VK} (rx : Rep X.K L ρ m H x v) (hu : LitV l u) (e : iscD x l = some k) (h : Q (.bl (k != no)) H) : opW X (compareOp (isOp no)) v u H Q := by
  cases l with
  | non =>
    obtain rfl : u = .non := hu
    have kv : k = decide (v = .non) := by
      cases x with
      | non => cases e; rw [rep_non] at rx; subst rx; rfl
      | bl b => cases e; rw [rep_bl] at rx; subst rx; rfl
      | int b => cases e; rw [rep_int] at rx; subst rx; rfl
      | str b => cases e; rw [rep_str] at rx; subst rx; rfl
      | tup xs => cases e; rw [rep_tup] at rx; obtain ⟨a, vs, rfl, _⟩ := rx; rfl
      | fl xs => cases e; rw [rep_fl] at rx; obtain ⟨a, vs, rfl, _⟩ := rx; rfl
      | ro xs => cases e; rw [rep_ro] at rx; obtain ⟨a, vs, rfl, _⟩ := rx; rfl
      | ob c ns fs => cases e; rw [rep_ob] at rx; obtain ⟨a, dx, vs, rfl, _⟩ := rx; rfl
      | ex c ns fs => rw [Rep] at rx; exact rx.elim
      | cell k => cases e; rw [rep_cell] at rx; obtain ⟨a, rfl, _⟩ := rx; rfl
    cases no with
    | false =>
      refine OpR.w op_isN ⟨rfl, ?_⟩
      rw [← kv]
      rw [show (k != false) = k by cases k <;> rfl] at h
      exact h
    | true =>
      refine OpR.w op_notN ⟨rfl, ?_⟩
      rw [← kv]
      rw [show (k != true) = !k by cases k <;> rfl] at h
      exact h
  | bl b =>
    obtain rfl : u = .bl b := hu
    cases x with
    | bl a =>
      have e : some (a == b) = some k := e
      cases e
      rw [rep_bl] at rx
      subst rx
      have q : decide (a = b) = (a == b) := by cases a <;> cases b <;> rfl
      cases no with
      | false =>
        refine OpR.w op_is_bl ⟨a, b, rfl, rfl, ?_⟩
        rw [q]
        rw [show ((a == b) != false) = (a == b) by cases (a == b) <;> rfl] at h
        exact h
      | true =>
        refine OpR.w op_isnot_bl ⟨a, b, rfl, rfl, ?_⟩
        rw [q]
        rw [show ((a == b) != true) = !(a == b) by cases (a == b) <;> rfl] at h
        exact h
    | _ => cases e
  | int i => cases x <;> cases e
  | str s => cases x <;> cases e
theorem rd_isc {no : Bool} {a : E} {l : Lit} {e : Expr} {c : Const} {j : Nat} {p : Pos} (hl : mLit l c = true) (ha : SndE L n a e X) {W : WX} {τ : Loc} {σ : L2.St} {Q : VK} (cx : Cxt L n X W) (lc : LocR X.K L ρ m H τ σ) (S : SR X.K L ρ m H)
    (h : Post X.K L (RE X.K L) ρ m H (evE L.G (run L.G L.fns n) (.isc no a l) τ m) Q (rX W σ)) : tOp (opW X (compareOp (isOp no))) (EvE X e) (EvE X (.Constant c j p)) σ H Q := by
  rw [evE] at h
  refine ha W τ σ ρ m H _ cx lc S (Post.bind (Ra := Rep X.K L) h fun x m1 ρ1 H1 v S1 st1 r1 h1 => ?_)
  obtain ⟨k, e, h2⟩ := Post.map (Ra := RB) h1
  obtain ⟨u, ru, hu⟩ := rep_lit (K := X.K) (L := L) (ρ := ρ1) (m := m1) (H := H1) l
  exact PE.ev (lit_pe hl hu) (op_isL r1 hu e (give S1 h2 (rep_bl.mpr rfl)))
theorem s_isc {no : Bool} {a : E} {l : Lit} {e : Expr} {c : Const} {j : Nat} {p pos : Pos} (hl : mLit l c = true) (ha : SndE L n a e X) : SndE L n (.isc no a l) (.Compare e [isOp no] [.Constant c j p] pos) X := by
  intro W τ σ ρ m H Q cx lc S h
  exact PE.ev (pe_cmpR (opW_ok (f := compareOp (isOp no))) EvE.pe EvE.pe (by cases no <;> rfl)) (rd_isc hl ha cx lc S h)
/-! ### truth -/
theorem tru_of {x : D} {k : Bool} {v : V} (S : SR K L ρ m H) (r : Rep K L ρ m H x v) (e : truD m x = some k) : TruV K v H k := by
  have emp : ∀ {xs : List D} {vs : List V}, Reps K L ρ m H xs vs → (!xs.isEmpty) = !vs.isEmpty := by
    intro xs vs r
    have q := r.length
    cases xs <;> cases vs <;> (first | rfl | cases q)
  cases x with
  | non => cases e; rw [rep_non] at r; subst r; rfl
  | bl b => cases e; rw [rep_bl] at r; subst r; rfl
  | int b => cases e; rw [rep_int] at r; subst r; rfl
  | str s =>
    have e : (if s.length ≤ lim then some (!s.isEmpty) else none) = some k := e
    split at e
    · rename_i hl
      cases e
      rw [rep_str] at r
      subst r
      refine ⟨by rw [sx_len, ← lim_eq]; exact hl, ?_⟩
      rw [sx_len]
      cases s with
      | nil => rfl
      | cons c s =>
        show true = (((s.length + 1 : Nat) : Int) != 0)
        simp
        omega
    · cases e
  | tup xs =>
    cases e
    rw [rep_tup] at r
    obtain ⟨a, vs, rfl, h1, h2⟩ := r
    exact .inr (.inl ⟨vs, h1, emp h2⟩)
  | fl xs =>
    cases e
    rw [rep_fl] at r
    obtain ⟨a, vs, rfl, h1, _, h2⟩ := r
    exact .inl ⟨vs, .of h1, emp h2⟩
  | cell j =>
    unfold truD at e
    simp only at e
    split at e
    · rename_i xs e1
      cases e
      obtain ⟨a, vs, rfl, _, h1, h2⟩ := cell_lst S r e1
      exact .inl ⟨vs, .of h1, emp h2⟩
    · rename_i kvs e1
      cases e
      obtain ⟨a, kv, rfl, _, _, rk, _, hf, _⟩ := cell_dct S r e1
      refine .inr (.inr ⟨kv, hf rfl, ?_⟩)
      have q := rk.length
      cases kvs <;> cases kv <;> (first | rfl | cases q)
    · cases e
  | _ => cases e
theorem s_notv {a : E} {e : Expr} {pos : Pos} (ha : SndE L n a e X) : SndE L n (.notv a) (.UnaryOp .Not e pos) X := by
  intro W τ σ ρ m H Q cx lc S h
  rw [evE] at h
  refine PE.ev (pe_notT EvE.pe) (ha W τ σ ρ m H _ cx lc S (Post.bind (Ra := Rep X.K L) h fun x m1 ρ1 H1 v S1 st1 r1 h1 => ?_))
  obtain ⟨k, e, h2⟩ := Post.map (Ra := RB) h1
  exact ⟨k, tru_of S1 r1 e, give S1 h2 (rep_bl.mpr rfl)⟩
/-- a list of operands of and, or -/
def SndB (L : Lk) (n : Nat) (isAnd : Bool) (c : Es) (es : List Expr) (X : Cx) : Prop := ∀ (pos : Pos) (W : WX) (τ : Loc) (σ : L2.St) (ρ : Pl) (m : Store) (H : Hp) (Q : VK), Cxt L n X W → LocR X.K L ρ m H τ σ → SR X.K L ρ m H →
  Post X.K L (RE X.K L) ρ m H (evB L.G (run L.G L.fns n) isAnd c τ m) Q (rX W σ) → EvE X (.BoolOp (if isAnd then .And else .Or) es pos) σ H Q
theorem s_bop1 {isAnd : Bool} {a : E} {e : Expr} (ha : SndE L n a e X) : SndB L n isAnd (.cons a .nil) [e] X := by
  intro pos W τ σ ρ m H Q cx lc S h
  rw [evB] at h
  exact PE.ev (pe_one EvE.pe) (ha W τ σ ρ m H Q cx lc S h)
theorem s_bop2 {isAnd : Bool} {a b : E} {r : Es} {e e2 : Expr} {es : List Expr} (ha : SndE L n a e X) (hb : SndB L n isAnd (.cons b r) (e2 :: es) X) : SndB L n isAnd (.cons a (.cons b r)) (e :: e2 :: es) X := by
  intro pos W τ σ ρ m H Q cx lc S h
  rw [evB] at h
  · have go : ∀ {x : D} {m1 : Store} {ρ1 : Pl} {H1 : Hp} {v : V}, SR X.K L ρ1 m1 H1 → Step ρ m H ρ1 m1 H1 → Rep X.K L ρ1 m1 H1 x v →
        Post X.K L (RE X.K L) ρ1 m1 H1 ((ofO m1 (truD m1 x)).bind fun k m2 => if k = isAnd then evB L.G (run L.G L.fns n) isAnd (.cons b r) τ m2 else .ok x m2) Q (rX W σ) →
        ∃ k, TruV X.K v H1 k ∧ ((k = isAnd → EvE X (.BoolOp (if isAnd then .And else .Or) (e2 :: es) pos) σ H1 Q) ∧ (k ≠ isAnd → Q v H1)) := by
      intro x m1 ρ1 H1 v S1 st1 r1 h1
      cases et : truD m1 x with
      | none =>
        rw [et] at h1
        exact (show False from h1).elim
      | some k =>
        rw [et] at h1
        have h1 : Post X.K L (RE X.K L) ρ1 m1 H1 (if k = isAnd then evB L.G (run L.G L.fns n) isAnd (.cons b r) τ m1 else .ok x m1) Q (rX W σ) := h1
        refine ⟨k, tru_of S1 r1 et, fun ek => ?_, fun ek => ?_⟩
        · rw [if_pos ek] at h1
          exact hb pos W τ σ ρ1 m1 H1 Q cx (lc.step S st1) S1 h1
        · rw [if_neg ek] at h1
          exact give S1 h1 r1
    cases isAnd with
    | true =>
      refine PE.ev (pe_andT EvE.pe (EvE.pe (e := .BoolOp .And (e2 :: es) pos))) (ha W τ σ ρ m H _ cx lc S (Post.bind (Ra := Rep X.K L) h fun x m1 ρ1 H1 v S1 st1 r1 h1 => ?_))
      obtain ⟨k, q1, q2, q3⟩ := go S1 st1 r1 h1
      refine ⟨k, q1, ?_⟩
      cases k with
      | true => exact q2 rfl
      | false => exact q3 (by simp)
    | false =>
      refine PE.ev (pe_orT EvE.pe (EvE.pe (e := .BoolOp .Or (e2 :: es) pos))) (ha W τ σ ρ m H _ cx lc S (Post.bind (Ra := Rep X.K L) h fun x m1 ρ1 H1 v S1 st1 r1 h1 => ?_))
      obtain ⟨k, q1, q2, q3⟩ := go S1 st1 r1 h1
      refine ⟨k, q1, ?_⟩
      cases k with
      | true => exact q3 (by simp)
      | false => exact q2 rfl
  · intro z
    cases z
/-! ### tests -/
def SndBT (L : Lk) (n : Nat) (isAnd : Bool) (c : Ts) (es : List Expr) (X : Cx) : Prop := ∀ (pos : Pos) (W : WX) (τ : Loc) (σ : L2.St) (ρ : Pl) (m : Store) (H : Hp) (Q : Bool → Hp → Prop), Cxt L n X W → LocR X.K L ρ m H τ σ → SR X.K L ρ m H →
  Post X.K L RB ρ m H (evBT L.G (run L.G L.fns n) isAnd c τ m) Q (rX W σ) → EvW X (.BoolOp (if isAnd then .And else .Or) es pos) σ H Q
theorem EvW.t {e : Expr} {σ : L2.St} {Q : Bool → Hp → Prop} (h : EvW X e σ H Q) : EvT X e σ H Q := h _
theorem t_bop1 {isAnd : Bool} {a : T} {e : Expr} (ha : SndT L n a e X) : SndBT L n isAnd (.cons a .nil) [e] X := by
  intro pos W τ σ ρ m H Q cx lc S h
  rw [evBT] at h
  cases isAnd with
  | true => exact PW.ev (pw_and1 EvT.pt) (ha W τ σ ρ m H Q cx lc S h)
  | false => exact PW.ev (pw_or1 EvT.pt) (ha W τ σ ρ m H Q cx lc S h)
theorem t_bop2 {isAnd : Bool} {a b : T} {r : Ts} {e e2 : Expr} {es : List Expr} (ha : SndT L n a e X) (hb : SndBT L n isAnd (.cons b r) (e2 :: es) X) : SndBT L n isAnd (.cons a (.cons b r)) (e :: e2 :: es) X := by
  intro pos W τ σ ρ m H Q cx lc S h
  rw [evBT] at h
  · cases isAnd with
    | true =>
      refine PW.ev (pw_and EvT.pt (EvW.pw (e := .BoolOp .And (e2 :: es) pos))) (ha W τ σ ρ m H _ cx lc S (Post.bind (Ra := RB) h fun k m1 ρ1 H1 v S1 st1 r1 h1 => ?_))
      obtain rfl : k = v := r1
      cases k with
      | true => exact hb pos W τ σ ρ1 m1 H1 Q cx (lc.step S st1) S1 h1
      | false => exact Post.ok h1 S1 rfl
    | false =>
      refine PW.ev (pw_or EvT.pt (EvW.pw (e := .BoolOp .Or (e2 :: es) pos))) (ha W τ σ ρ m H _ cx lc S (Post.bind (Ra := RB) h fun k m1 ρ1 H1 v S1 st1 r1 h1 => ?_))
      obtain rfl : k = v := r1
      cases k with
      | true => exact Post.ok h1 S1 rfl
      | false => exact hb pos W τ σ ρ1 m1 H1 Q cx (lc.step S st1) S1 h1
  · intro z
    cases z
theorem t_bop {isAnd : Bool} {ts : Ts} {es : List Expr} {pos : Pos} (h : SndBT L n isAnd ts es X) : SndT L n (.bop isAnd ts) (.BoolOp (if isAnd then .And else .Or) es pos) X := by
  intro W τ σ ρ m H Q cx lc S hp
  rw [evT] at hp
  exact (h pos W τ σ ρ m H Q cx lc S hp).t
theorem t_notv {t : T} {e : Expr} {pos : Pos} (ha : SndT L n t e X) : SndT L n (.notv t) (.UnaryOp .Not e pos) X := by
  intro W τ σ ρ m H Q cx lc S h
  rw [evT] at h
  refine PT.ev (pt_not EvT.pt) (ha W τ σ ρ m H _ cx lc S (Post.bind (Ra := RB) h fun k m1 ρ1 H1 v S1 st1 r1 h1 => ?_))
  obtain rfl : k = v := r1
  exact Post.ok h1 S1 rfl
/-- a comparison's value is a bool -/
theorem bl_post {r : Res D} {Q : Bool → Hp → Prop} {R : XK} (hb : ∀ d m', r = .ok d m' → ∃ b, d = .bl b) (h : Post K L RB ρ m H (r.bind fun x m1 => ofO m1 (truD m1 x)) Q R) : Post K L (RE K L) ρ m H r (fun x H' => ∃ k, x = .bl k ∧ Q k H') R := by
  cases r with
  | ok d m' =>
    obtain ⟨b, rfl⟩ := hb d m' rfl
    intro ρ' H' v S st r
    have r : Rep K L ρ' m' H' (.bl b) v := r
    rw [rep_bl] at r
    exact ⟨b, r, h ρ' H' b S st rfl⟩
  | exc x m' => exact h
  | stuck => exact h
theorem bind_ok {α β : Type} {r : Res α} {f : α → Store → Res β} {b : β} {m' : Store} (h : r.bind f = .ok b m') : ∃ a m1, r = .ok a m1 ∧ f a m1 = .ok b m' := by
  cases r with
  | ok a m1 => exact ⟨a, m1, rfl, h⟩
  | exc x m1 => cases h
  | stuck => cases h
theorem map_bl {o : Option Bool} {d : D} {m m' : Store} (h : ofO m (o.map D.bl) = .ok d m') : ∃ b, d = .bl b := by
  cases o with
  | none => cases h
  | some b => cases h; exact ⟨b, rfl⟩
theorem t_cmp {op : Cop} {o : CmpOp} {a b : E} {l r : Expr} {pos : Pos} (ho : mCop op o = true) (hm : ((decide (op ≠ .inn) && decide (op ≠ .nin)) || plainIn r) = true) (ha : SndE L n a l X) (hb : SndE L n b r X) : SndT L n (.e (.cmp op a b)) (.Compare l [o] [r] pos) X := by
  intro W τ σ ρ m H Q cx lc S h
  rw [evT] at h
  refine PT.ev (pt_cmpR (opW_ok (f := compareOp o)) EvE.pe EvE.pe (mark_of ho hm)) (rd_cmp ho ha hb cx lc S (bl_post (fun d m' e => ?_) h))
  rw [evE] at e
  obtain ⟨x, m1, _, e⟩ := bind_ok e
  obtain ⟨y, m2, _, e⟩ := bind_ok e
  exact map_bl e
theorem t_chain {op op' : Cop} {o o' : CmpOp} {a b c : E} {l r r' : Expr} {pos : Pos} (ho : mCop op o = true) (ho' : mCop op' o' = true) (hm' : (decide (op' ≠ .inn) && decide (op' ≠ .nin)) = true)
    (ha : SndE L n a l X) (hb : SndE L n b r X) (hc : SndE L n c r' X) : SndT L n (.e (.chain op op' a b c)) (.Compare l [o, o'] [r, r'] pos) X := by
  intro W τ σ ρ m H Q cx lc S h
  rw [evT] at h
  have m2 : behindInMarks o' r' = false := mark_of ho' (by rw [hm']; rfl)
  refine PT.ev (pt_chain (opW_ok (f := compareOp o)) (opW_ok (f := compareOp o')) EvE.pe EvE.pe EvE.pe m2) (rd_chain ho ho' ha hb hc cx lc S (bl_post (fun d m' e => ?_) h))
  rw [evE] at e
  obtain ⟨x, m1, _, e⟩ := bind_ok e
  obtain ⟨y, m2, _, e⟩ := bind_ok e
  obtain ⟨k, m3, _, e⟩ := bind_ok e
  cases k with
  | true =>
    obtain ⟨z, m4, _, e⟩ := bind_ok (show (evE L.G (run L.G L.fns n) c τ m3).bind (fun z m4 => ofO m4 ((cmpD m4 op' y z).map .bl)) = .ok d m' from e)
    exact map_bl e
  | false =>
    have e : (Res.ok (.bl false) m3 : Res D) = .ok d m' := e
    cases e
    exact ⟨_, rfl⟩
theorem t_isc {no : Bool} {a : E} {l : Lit} {e : Expr} {c : Const} {j : Nat} {p pos : Pos} (hl : mLit l c = true) (ha : SndE L n a e X) : SndT L n (.e (.isc no a l)) (.Compare e [isOp no] [.Constant c j p] pos) X := by
  intro W τ σ ρ m H Q cx lc S h
  rw [evT] at h
  refine PT.ev (pt_cmpR (opW_ok (f := compareOp (isOp no))) EvE.pe EvE.pe (by cases no <;> rfl)) (rd_isc hl ha cx lc S (bl_post (fun d m' e => ?_) h))
  rw [evE] at e
  obtain ⟨x, m1, _, e⟩ := bind_ok e
  cases h : iscD x l with
  | none => rw [h] at e; cases e
  | some k => rw [h] at e; cases e; exact ⟨_, rfl⟩
/-- a value's truth -/
theorem t_e {a : E} {e : Expr} (he : ∀ whole, isTrue e X.env whole = (do let v ← whole; standAt e.pos; holding [v] (truthy v))) (ha : SndE L n a e X) : SndT L n (.e a) e X := by
  intro W τ σ ρ m H Q cx lc S h
  rw [evT] at h
  refine PT.ev (pt_truth EvE.pe he) (ha W τ σ ρ m H _ cx lc S (Post.bind (Ra := Rep X.K L) h fun x m1 ρ1 H1 v S1 st1 r1 h1 => ?_))
  obtain ⟨k, e, h2⟩ := Post.ofO h1
  exact ⟨k, tru_of S1 r1 e, Post.ok h2 S1 rfl⟩
theorem s_ife {t : T} {a b : E} {c l r : Expr} {pos : Pos} (ht : SndT L n t c X) (ha : SndE L n a l X) (hb : SndE L n b r X) : SndE L n (.ife t a b) (.IfExp c l r pos) X := by
  intro W τ σ ρ m H Q cx lc S h
  rw [evE] at h
  refine PE.ev (pe_ifExp EvT.pt EvE.pe EvE.pe) (ht W τ σ ρ m H _ cx lc S (Post.bind (Ra := RB) h fun k m1 ρ1 H1 v S1 st1 r1 h1 => ?_))
  obtain rfl : k = v := r1
  cases k with
  | true => exact ha W τ σ ρ1 m1 H1 Q cx (lc.step S st1) S1 h1
  | false => exact hb W τ σ ρ1 m1 H1 Q cx (lc.step S st1) S1 h1
end
end Dy
end
section
set_option Elab.async false
set_option linter.all false
set_option maxRecDepth 100000
set_option maxHeartbeats 4000000
/-! DyS6: displays, subscripts, fields, calls of built-ins. -/
namespace Dy
open PySem PySem.Spec PyProof.Rows L2
theorem nostar {L : Lk} {N : Nm} {sc : Scope} {c : E} {e : Expr} (h : mE L N sc c e = true) (es : List Expr) (env : PySem.Env) : starEach (e :: es) env = (false, eval e env) :: starEach es env := by
  cases e with
  | Starred v p => cases c <;> (first | (simp only [mE, Bool.false_eq_true] at h; done) | (rename_i a; cases a <;> (simp only [mE, Bool.and_false, Bool.false_and, Bool.false_eq_true] at h)))
  | _ => rfl
section
variable {L : Lk} {n : Nat} {X : Cx} {K : PySem.W.Frag} {ρ : Pl} {m : Store} {H : Hp}
theorem a_nil : SndA L n .nil [] X := by
  intro W τ σ ρ m H Q cx lc S h
  rw [evEs] at h
  exact PA.ev pa_nil (Post.ok h S (show Reps X.K L ρ m H [] [] by rw [reps_nil]))
theorem a_cons {a : E} {r : Es} {e : Expr} {es : List Expr} (hs : starEach (e :: es) X.env = (false, eval e X.env) :: starEach es X.env) (ha : SndE L n a e X) (hr : SndA L n r es X) : SndA L n (.cons a r) (e :: es) X := by
  intro W τ σ ρ m H Q cx lc S h
  rw [evEs] at h
  refine PA.ev (pa_cons EvE.pe EvA.pa hs) (ha W τ σ ρ m H _ cx lc S (Post.bind (Ra := Rep X.K L) h fun x m1 ρ1 H1 v S1 st1 r1 h1 => ?_))
  refine hr W τ σ ρ1 m1 H1 _ cx (lc.step S st1) S1 (Post.bind (Ra := Reps X.K L) h1 fun xs m2 ρ2 H2 vs S2 st2 r2 h2 => ?_)
  refine Post.ok h2 S2 (show Reps X.K L ρ2 m2 H2 (x :: xs) (v :: vs) from ?_)
  rw [reps_cons]
  exact ⟨v, vs, rfl, Rep.step S1 st2 _ _ r1, r2⟩
theorem evEs_len {G : Env} {Γ : Fns} : ∀ {es : Es} {τ : Loc} {m m' : Store} {ds : List D}, evEs G Γ es τ m = .ok ds m' → ds.length = es.len
  | .nil, τ, m, m', ds, h => by
    rw [evEs] at h
    cases h
    rfl
  | .cons e r, τ, m, m', ds, h => by
    rw [evEs] at h
    obtain ⟨x, m1, _, h⟩ := bind_ok h
    obtain ⟨xs, m2, e2, h⟩ := bind_ok h
    cases h
    rw [List.length_cons, evEs_len e2]
    rfl
theorem Post.bindE {α β γ δ : Type} {Ra : Pl → Store → Hp → α → β → Prop} {Rb : Pl → Store → Hp → γ → δ → Prop} {r : Res α} {f : α → Store → Res γ} {Q : δ → Hp → Prop} {Q1 : β → Hp → Prop} {R : XK} (h : Post K L Rb ρ m H (r.bind f) Q R)
    (k : ∀ d m1 ρ1 H1 v, r = .ok d m1 → SR K L ρ1 m1 H1 → Step ρ m H ρ1 m1 H1 → Ra ρ1 m1 H1 d v → Post K L Rb ρ1 m1 H1 (f d m1) Q R → Q1 v H1) : Post K L Ra ρ m H r Q1 R := by
  cases r with
  | ok d m' => exact fun ρ' H' v S s q => k d m' ρ' H' v rfl S s q (Post.next (r := f d m') h s)
  | exc x m' => exact h
  | stuck => exact h
theorem small_len {ds : List D} {vs : List V} {k : Nat} (r : Reps K L ρ m H ds vs) (e : ds.length = k) (h : k ≤ 1000) : vs.length ≤ sizeLine := by
  have q := r.length
  rw [sizeLine_eq]
  omega
theorem s_tup {es : Es} {xs : List Expr} {j : Nat} {pos : Pos} (hl : es.len ≤ 1000) (ha : SndA L n es xs X) : SndE L n (.tup es) (.Tuple xs j pos) X := by
  intro W τ σ ρ m H Q cx lc S h
  rw [evE] at h
  refine PE.ev (pe_tup EvA.pa) (ha W τ σ ρ m H _ cx lc S (Post.bindE (Ra := Reps X.K L) h fun ds m1 ρ1 H1 vs ed S1 st1 r1 h1 => ?_))
  exact ⟨small_len r1 (evEs_len ed) hl, fun p hp => give_tup S1 h1 r1 hp⟩
theorem s_lst {mu : Bool} {es : Es} {xs : List Expr} {pos : Pos} (hl : es.len ≤ 1000) (ha : SndA L n es xs X) : SndE L n (.lst mu es) (.List xs pos) X := by
  intro W τ σ ρ m H Q cx lc S h
  rw [evE] at h
  refine PE.ev (pe_lst EvA.pa) (ha W τ σ ρ m H _ cx lc S (Post.bindE (Ra := Reps X.K L) h fun ds m1 ρ1 H1 vs ed S1 st1 r1 h1 => ?_))
  refine ⟨small_len r1 (evEs_len ed) hl, fun p hp => ?_⟩
  cases mu with
  | true => exact give_cell S1 h1 r1 hp
  | false => exact give_fl S1 h1 r1 hp
/-! ### subscripts -/
def ixV (X : Cx) : R2 := fun x y H Q => ∀ (value slice : Expr) pins s σ v u, Inv X pins σ H s → RelV x v → RelV y u → subscripted slice false v u = operate [v, u] (getItem v u) → wpAny (model X.prog X.w) X.A (subscriptTail value slice v u) (EP X pins σ Q) X.xe s
theorem ixV_ok : IxR X (ixV X) := fun value slice pins s σ H x y v u Q I rx ry h hs => h value slice pins s σ v u I rx ry hs
theorem IxR.w {r : R2} (o : IxR X r) {x y : V} {H : Hp} {Q : VK} (h : r x y H Q) : ixV X x y H Q := fun value slice pins s σ v u I rx ry hs => o value slice pins s σ H x y v u Q I rx ry h hs
theorem ix_dict (hu : X.A.units + 1 < cLine) : IxR X (fun x y H Q => ∃ a v, x = .ref a ∧ DGet H a y (some v) ∧ Q v H) := by
  intro value slice pins s σ H x y v u Q I rx ry h hs
  obtain ⟨a, w, rfl, g, q⟩ := h
  obtain rfl : v = Value.ref a := rx
  exact tail_any (dict_typeIs I g) PySem.F.slot_dict_getitem.lookup (d_getItem hu I g ry fun w' s' I' r' => ⟨w, H, I', r', q⟩) hs
theorem ixN_eq (n : Nat) (i : Int) : Dy.ixN n i = L2.ixN n i := rfl
theorem at_seq {xs : List D} {vs : List V} {i : Int} {d : D} (r : Reps K L ρ m H xs vs) (e : ((Dy.ixN xs.length i).bind fun j => xs[j]?) = some d) : ∃ v, atI vs i = some v ∧ Rep K L ρ m H d v := by
  cases ej : Dy.ixN xs.length i with
  | none => rw [ej] at e; cases e
  | some j =>
    rw [ej] at e
    obtain ⟨v, e1, e2⟩ := r.get (show xs[j]? = some d from e)
    refine ⟨v, ?_, e2⟩
    unfold atI
    rw [← r.length, ← ixN_eq, ej]
    exact e1
theorem idx_ok {x y d : D} {v u : V} {Q : VK} {R : XK} (hu : X.A.units + 65 < cLine) (S : SR X.K L ρ m H) (rx : Rep X.K L ρ m H x v) (ry : Rep X.K L ρ m H y u) (e : idxD m x y = some d) (h : Post X.K L (RE X.K L) ρ m H (.ok d m) Q R) : ixV X v u H Q := by
  unfold idxD at e
  split at e
  · rename_i z i
    split at e
    · rename_i hl
      obtain ⟨c, e1, e2⟩ := Option.map_eq_some_iff.mp e
      subst e2
      rw [rep_str] at rx
      rw [rep_int] at ry
      subst rx ry
      refine IxR.w ix_str ⟨sx z, i, c, rfl, rfl, by rw [sx_len, ← lim_eq]; exact hl, ?_, give S h (rep_str.mpr rfl)⟩
      unfold atI
      show (L2.ixN z.toArray.toList.length i).bind (fun j => z.toArray.toList[j]?) = some c
      simpa [ixN_eq] using e1
    · cases e
  · rename_i k
    split at e
    · rename_i xs e1
      split at e
      · rename_i i
        rw [rep_int] at ry
        subst ry
        obtain ⟨a, vs, rfl, _, h1, h2⟩ := cell_lst S rx e1
        obtain ⟨w, e2, r2⟩ := at_seq h2 e
        exact IxR.w ix_list ⟨a, vs, i, w, rfl, rfl, .of h1, e2, give S h r2⟩
      · cases e
    · rename_i lk kvs e1
      obtain ⟨ky, e2, e3⟩ := Option.bind_eq_some_iff.mp e
      obtain ⟨a, kv, rfl, _, rd, rk, _⟩ := cell_dct S rx e1
      have ev := key_rep e2 ry
      subst ev
      rcases rk.val (k := ky) with ⟨g1, _⟩ | ⟨d', w, g1, g2, g3⟩
      · rw [g1] at e3
        cases e3
      · rw [g1] at e3
        cases e3
        exact IxR.w (ix_dict (by omega)) ⟨a, w, rfl, .inl ⟨kv, kyV ky, rd, rfl, g2.symm⟩, give S h g3⟩
    · cases e
  · rename_i i _ _
    split at e
    · rename_i xs e1
      rw [rep_int] at ry
      subst ry
      obtain ⟨a, vs, rfl, hs, h2, _⟩ := seq_at S rx e1
      obtain ⟨w, e2, r2⟩ := at_seq h2 e
      rcases hs with hs | hs
      · exact IxR.w ix_list ⟨a, vs, _, w, rfl, rfl, hs, e2, give S h r2⟩
      · exact IxR.w ix_tup ⟨a, vs, _, w, rfl, rfl, hs, e2, give S h r2⟩
    · cases e
  · cases e
theorem s_idx {a i : E} {x y : Expr} {pos : Pos} (hp : PlainIx y) (ha : SndE L n a x X) (hi : SndE L n i y X) : SndE L n (.idx a i) (.Subscript x y pos) X := by
  intro W τ σ ρ m H Q cx lc S h
  rw [evE] at h
  refine PE.ev (pe_ix ixV_ok EvE.pe EvE.pe hp) (two cx lc S ha hi h fun x y m2 ρ2 H2 v u S2 lc2 rx ry h2 => ?_)
  obtain ⟨d, e, h3⟩ := Post.ofO h2
  exact idx_ok cx.hu S2 rx ry e h3
/-! ### slices -/
def EvP (X : Cx) (e : Option Expr) (σ : L2.St) (H : Hp) (Q : Option Int → Hp → Prop) : Prop := ∀ pins s, Inv X pins σ H s → wpAny (model X.prog X.w) X.A (evalPart e X.env) (fun u s' => ∃ o H', Inv X pins σ H' s' ∧ IsPart u o ∧ Q o H') X.xe s
theorem EvP.po {e : Option Expr} : PO X e (EvP X e) := ⟨fun pins s _ _ _ I h => h pins s I⟩
theorem PO.ev {e : Option Expr} {t : TO} (p : PO X e t) {σ : L2.St} {H : Hp} {Q : Option Int → Hp → Prop} (h : t σ H Q) : EvP X e σ H Q := fun pins s I => p.run pins s σ H Q I h
def SndO (L : Lk) (n : Nat) (c : Oe) (e : Option Expr) (X : Cx) : Prop := ∀ (W : WX) (τ : Loc) (σ : L2.St) (ρ : Pl) (m : Store) (H : Hp) (Q : Option Int → Hp → Prop), Cxt L n X W → LocR X.K L ρ m H τ σ → SR X.K L ρ m H →
  Post X.K L RO ρ m H (evO L.G (run L.G L.fns n) c τ m) Q (rX W σ) → EvP X e σ H Q
theorem o_none : SndO L n .none none X := by
  intro W τ σ ρ m H Q cx lc S h
  rw [evO] at h
  exact PO.ev po_none (Post.ok h S rfl)
theorem o_some {a : E} {e : Expr} (ha : SndE L n a e X) : SndO L n (.some a) (some e) X := by
  intro W τ σ ρ m H Q cx lc S h
  rw [evO] at h
  refine PO.ev (po_some EvE.pe) (ha W τ σ ρ m H _ cx lc S (Post.bind (Ra := Rep X.K L) h fun x m1 ρ1 H1 v S1 st1 r1 h1 => ?_))
  split at h1
  · rw [rep_int] at r1
    subst r1
    exact ⟨_, rfl, Post.ok h1 S1 rfl⟩
  · exact Post.stuck h1
def slV (X : Cx) : V → Option Int → Option Int → Hp → VK → Prop := fun x lo hi H Q => ∀ pins s σ v vl vu sl, Inv X pins σ H s → RelV x v → s.heap.IsSliceOf sl vl vu .none → IsPart vl lo → IsPart vu hi →
  ∃ T id, typeLookup (.type T) "__getitem__" = pure (some (.builtin id)) ∧ s.TypeIs v T ∧ wpAny (model X.prog X.w) X.A (getItem v (.ref sl)) (EP X pins σ Q) X.xe s
theorem slV_ok : SlR X (slV X) := fun pins s σ H x v vl vu lo hi sl Q I rx hs pl pu h => h pins s σ v vl vu sl I rx hs pl pu
theorem SlR.w {r : V → Option Int → Option Int → Hp → VK → Prop} (o : SlR X r) {x : V} {lo hi : Option Int} {H : Hp} {Q : VK} (h : r x lo hi H Q) : slV X x lo hi H Q := fun pins s σ v vl vu sl I rx hs pl pu => o pins s σ H x v vl vu lo hi sl Q I rx hs pl pu h
theorem sIx_eq (n d : Nat) (o : Option Int) : Dy.sIx n d o = HT.sIx n d o := by cases o <;> rfl
theorem cut_reps {xs : List D} {vs : List V} {lo hi : Option Int} (r : Reps K L ρ m H xs vs) : Reps K L ρ m H (cut xs lo hi) (cutV vs lo hi) := by
  unfold cut cutV
  rw [r.length, sIx_eq, sIx_eq]
  exact (r.drop _).take _
theorem slc_ok {x d : D} {lo hi : Option Int} {v : V} {Q : VK} {R : XK} (S : SR X.K L ρ m H) (rx : Rep X.K L ρ m H x v) (e : slcD m x lo hi = some d) (h : Post X.K L (RE X.K L) ρ m H (.ok d m) Q R) : slV X v lo hi H Q := by
  unfold slcD at e
  split at e
  · rename_i z
    split at e
    · rename_i hl
      cases e
      rw [rep_str] at rx
      subst rx
      refine SlR.w sl_str ⟨sx z, rfl, by rw [sx_len, ← lim_eq]; exact hl, ?_⟩
      have q : cutS (sx z) lo hi = sx (cut z lo hi) := by
        unfold cutS cut
        rw [sx_len, sIx_eq, sIx_eq]
        show (⟨((z.toArray.toList.drop _).take _).toArray⟩ : PySem.Str) = ⟨((z.drop _).take _).toArray⟩
        rw [List.toList_toArray]
      rw [q]
      exact give S h (rep_str.mpr rfl)
    · cases e
  · rename_i xs
    cases e
    rw [rep_tup] at rx
    obtain ⟨a, vs, rfl, h1, h2⟩ := rx
    refine SlR.w sl_tupA ⟨a, vs, rfl, h1, fun hw => ?_, fun _ p hp => give_tup S h (cut_reps h2) hp⟩
    have q : cut xs lo hi = xs := by
      unfold cut
      rw [sIx_eq, sIx_eq, h2.length, hw.1, hw.2, List.drop_zero, Nat.sub_zero, ← h2.length, List.take_length]
    rw [q] at h
    exact give S h (rep_tup.mpr ⟨a, vs, rfl, h1, h2⟩)
  · split at e
    · rename_i hx _ xs e1
      cases e
      obtain ⟨a, vs, rfl, hs, h2, h3⟩ := seq_at S rx e1
      rcases h3 with ⟨⟨ys, rfl⟩, _⟩ | ⟨_, h3⟩
      · exact absurd rfl (hx ys)
      · exact SlR.w sl_list ⟨a, vs, rfl, h3, fun p hp => give_fl S h (cut_reps h2) hp⟩
    · cases e
theorem s_slc {a : E} {lo hi : Oe} {x : Expr} {l u : Option Expr} {p2 pos : Pos} (ha : SndE L n a x X) (hl : SndO L n lo l X) (hh : SndO L n hi u X) : SndE L n (.slc a lo hi) (.Subscript x (.Slice l u none p2) pos) X := by
  intro W τ σ ρ m H Q cx lc S h
  rw [evE] at h
  refine PE.ev (pe_slice slV_ok EvE.pe EvP.po EvP.po) (ha W τ σ ρ m H _ cx lc S (Post.bind (Ra := Rep X.K L) h fun y m1 ρ1 H1 v S1 st1 r1 h1 => ?_))
  refine hl W τ σ ρ1 m1 H1 _ cx (lc.step S st1) S1 (Post.bind (Ra := RO) h1 fun o m2 ρ2 H2 o' S2 st2 r2 h2 => ?_)
  obtain rfl : o = o' := r2
  refine hh W τ σ ρ2 m2 H2 _ cx ((lc.step S st1).step S1 st2) S2 (Post.bind (Ra := RO) h2 fun o2 m3 ρ3 H3 o3 S3 st3 r3 h3 => ?_)
  obtain rfl : o2 = o3 := r3
  obtain ⟨d, e, h4⟩ := Post.ofO h3
  exact slc_ok S3 (Rep.step S2 st3 _ _ (Rep.step S1 st2 _ _ r1)) e h4
/-! ### fields -/
theorem get_zip {f : Nat} {d : D} : ∀ {ns : List Nat} {fs : List D} {vs : List V}, Reps K L ρ m H fs vs → getF f ns fs = some d → ∃ v, (zipF L ns vs).lookup (L.atn f) = some v ∧ Rep K L ρ m H d v
  | [], fs, vs, r, e => by cases fs <;> cases e
  | n :: ns, [], vs, r, e => by cases e
  | n :: ns, x :: xs, vs, r, e => by
    rw [reps_cons] at r
    obtain ⟨v, w, rfl, r1, r2⟩ := r
    have e : (if n = f then some x else getF f ns xs) = some d := e
    show ∃ u, (((L.atn n, v) :: zipF L ns w).lookup (L.atn f)) = some u ∧ _
    rw [List.lookup_cons]
    by_cases hn : n = f
    · rw [if_pos hn] at e
      cases e
      subst hn
      exact ⟨v, by simp, r1⟩
    · rw [if_neg hn] at e
      have : (L.atn f == L.atn n) = false := beq_eq_false_iff_ne.mpr fun z => hn (L.atI _ _ z).symm
      rw [this]
      exact get_zip r2 e
theorem s_fld {a : E} {f : Nat} {x : Expr} {y : PySem.Str} {pos : Pos} (hy : y = L.atn f) (hf : L.fok f = true) (hb : attributeBase x y X.env (eval x X.env) = eval x X.env) (ha : SndE L n a x X) :
    SndE L n (.fld a f) (.Attribute x y pos) X := by
  intro W τ σ ρ m H Q cx lc S h
  rw [evE] at h
  subst hy
  refine PE.ev (pe_fld EvE.pe hb) (ha W τ σ ρ m H _ cx lc S (Post.bind (Ra := Rep X.K L) h fun d m1 ρ1 H1 v S1 st1 r1 h1 => ?_))
  have go : ∀ {c : Nat} {ns : List Nat} {fs : List D} {a dx : Ad} {vs : List V}, v = .ref a → H1 a = some (.ins (L.cad c) dx (zipF L ns vs)) → Reps X.K L ρ1 m1 H1 fs vs →
      Post X.K L (RE X.K L) ρ1 m1 H1 (if (L.G.cls c).isSome then ofO m1 (getF f ns fs) else .stuck) Q (rX W σ) →
      ∃ a C dx fs v', v = .ref a ∧ H1 a = some (.ins C dx fs) ∧ L2.Cls X.K C ∧ NoAttr X.K C (L.atn f) ∧ fs.lookup (L.atn f) = some v' ∧ Q v' H1 := by
    intro c ns fs a dx vs ev ha r h
    split at h
    · rename_i hc
      obtain ⟨C, hC⟩ := Option.isSome_iff_exists.mp hc
      have F := cx.fx.own c C hC
      obtain ⟨d, e, h⟩ := Post.ofO h
      obtain ⟨u, e1, e2⟩ := get_zip r e
      exact ⟨a, _, dx, _, u, ev, ha, F.cl, F.noat f hf, e1, give S1 h e2⟩
    · exact Post.stuck h
  split at h1
  · rename_i c ns fs
    rw [rep_ob] at r1
    obtain ⟨a, dx, vs, ev, ha, _, _, r⟩ := r1
    exact go ev ha r h1
  · rename_i k
    split at h1
    · rename_i c ns fs e1
      rw [rep_cell] at r1
      obtain ⟨a, ev, h2⟩ := r1
      obtain ⟨dx, vs, ha, _, r⟩ := S1.cell k _ a e1 h2
      exact go ev ha r h1
    · exact Post.stuck h1
  · exact Post.stuck h1
/-! ### calls of built-ins -/
def calW (X : Cx) (f : Vl) : List V → Hp → VK → Prop := fun vs H Q => ∀ pins s σ us, Inv X pins σ H s → Vals vs us → wpAny (model X.prog X.w) X.A (call f us) (EP X pins σ Q) X.xe s
theorem calW_ok {f : Vl} : CallR X f (calW X f) := fun pins s σ H vs us Q I r h => h pins s σ us I r
theorem CallR.w {f : Vl} {r : List V → Hp → VK → Prop} (o : CallR X f r) {vs : List V} {H : Hp} {Q : VK} (h : r vs H Q) : calW X f vs H Q := fun pins s σ us I rv => o pins s σ H vs us Q I rv h
theorem reps1 {x : D} {vs : List V} (r : Reps K L ρ m H [x] vs) : ∃ v, vs = [v] ∧ Rep K L ρ m H x v := by
  rw [reps_cons] at r
  obtain ⟨v, w, rfl, r1, r2⟩ := r
  rw [reps_nil] at r2
  subst r2
  exact ⟨v, rfl, r1⟩
theorem reps2 {x y : D} {vs : List V} (r : Reps K L ρ m H [x, y] vs) : ∃ v u, vs = [v, u] ∧ Rep K L ρ m H x v ∧ Rep K L ρ m H y u := by
  rw [reps_cons] at r
  obtain ⟨v, w, rfl, r1, r2⟩ := r
  obtain ⟨u, rfl, r3⟩ := reps1 r2
  exact ⟨v, u, rfl, r1, r3⟩
end
end Dy
end
section
set_option Elab.async false
set_option linter.all false
set_option maxRecDepth 100000
set_option maxHeartbeats 4000000
/-! DyS7: calls of built-ins. -/
namespace Dy
open PySem PySem.Spec PyProof.Rows L2
section
variable {L : Lk} {n : Nat} {X : Cx} {K : PySem.W.Frag} {ρ : Pl} {m : Store} {H : Hp}
theorem nostars {N : Nm} {sc : Scope} {env : PySem.Env} {pos : Pos} : ∀ {c : Es} {es : List Expr}, mEs L N sc c es = true → (backTo pos (starEach es env)).any (·.1) = false
  | .nil, [], _ => rfl
  | .nil, _ :: _, h => by simp only [mEs, Bool.false_eq_true] at h
  | .cons a r, [], h => by simp only [mEs, Bool.false_eq_true] at h
  | .cons a r, e :: es, h => by
    rw [mEs, Bool.and_eq_true] at h
    rw [nostar h.1]
    show (false || (backTo pos (starEach es env)).any (·.1)) = false
    rw [Bool.false_or]
    exact nostars h.2
theorem lst_at {x : D} {xs : List D} {v : V} (S : SR K L ρ m H) (h : Rep K L ρ m H x v) (e : m.lstAt x = some xs) : ∃ a vs, v = .ref a ∧ SqL K H a vs ∧ Reps K L ρ m H xs vs := by
  unfold Store.lstAt at e
  split at e
  · rename_i ys e1
    cases e
    obtain ⟨a, vs, h1, h2, h3⟩ := flat_lst S h e1
    exact ⟨a, vs, h1, .of h2, h3⟩
  · rename_i ys e1
    cases e
    have ex : x = .ro xs := by
      unfold Store.flat at e1
      split at e1
      · split at e1 <;> cases e1
      · exact e1
    subst ex
    rw [rep_ro] at h
    obtain ⟨a, vs, h1, h2, h3⟩ := h
    exact ⟨a, vs, h1, h2.sql, h3⟩
  · cases e
theorem RepK.len : ∀ {kvs : List (Ky × D)} {kv : List (Key × V)}, RepK K L ρ m H kvs kv → kv.length = kvs.length
  | [], kv, h => by
    have e : kv = [] := h
    subst e
    rfl
  | p :: q, kv, h => by
    obtain ⟨w, vr, rfl, _, h2⟩ := h
    rw [List.length_cons, List.length_cons, RepK.len h2]
section
variable {xs : List D} {d : D} {vs : List V} {Q : VK} {R : XK}
theorem len_ok (S : SR X.K L ρ m H) (r : Reps X.K L ρ m H xs vs) (e : lenD m xs = some d) (h : Post X.K L (RE X.K L) ρ m H (.ok d m) Q R) : calW X (.builtin "len") vs H Q := by
  unfold lenD at e
  split at e
  · split at e
    · rename_i hl
      cases e
      obtain ⟨v, rfl, r1⟩ := reps1 r
      rw [rep_str] at r1
      subst r1
      refine CallR.w call_len_str ⟨_, rfl, by rw [sx_len, ← lim_eq]; exact hl, ?_⟩
      rw [sx_len]
      exact give S h (rep_int.mpr rfl)
    · cases e
  · obtain ⟨v, rfl, r1⟩ := reps1 r
    split at e
    · rename_i e1
      cases e
      obtain ⟨a, ws, rfl, _, h1, h2⟩ := cell_lst S r1 e1
      refine CallR.w call_len_seq ⟨a, ws, rfl, .inl (.of h1), ?_⟩
      rw [← h2.length]
      exact give S h (rep_int.mpr rfl)
    · rename_i lk kvs e1
      cases e
      obtain ⟨a, kv, rfl, _, rd, rk, _⟩ := cell_dct S r1 e1
      have el := RepK.len rk
      intro pins s σ us I rv
      obtain ⟨u, rfl, ru⟩ := vals1 rv
      obtain rfl : u = Value.ref a := ru
      exact d_len I rd fun t s' I' => ⟨.int kvs.length, H, I', ⟨t, by rw [el]⟩, give S h (rep_int.mpr rfl)⟩
    · cases e
  · obtain ⟨v, rfl, r1⟩ := reps1 r
    obtain ⟨ys, e1, e2⟩ := Option.map_eq_some_iff.mp e
    subst e2
    obtain ⟨a, ws, rfl, hs, h2, _⟩ := seq_at S r1 e1
    refine CallR.w call_len_seq ⟨a, ws, rfl, hs, ?_⟩
    rw [← h2.length]
    exact give S h (rep_int.mpr rfl)
  · cases e
theorem abs_ok (S : SR X.K L ρ m H) (r : Reps X.K L ρ m H xs vs) (e : absD xs = some d) (h : Post X.K L (RE X.K L) ρ m H (.ok d m) Q R) : calW X (.builtin "abs") vs H Q := by
  unfold absD at e
  split at e
  · cases e
    obtain ⟨v, rfl, r1⟩ := reps1 r
    rw [rep_int] at r1
    subst r1
    exact CallR.w call_abs ⟨_, rfl, give S h (rep_int.mpr rfl)⟩
  · cases e
theorem int_ok (S : SR X.K L ρ m H) (r : Reps X.K L ρ m H xs vs) (e : intD xs = some d) (h : Post X.K L (RE X.K L) ρ m H (.ok d m) Q R) : calW X (.type "int") vs H Q := by
  unfold intD at e
  split at e
  · cases e
    obtain ⟨v, rfl, r1⟩ := reps1 r
    rw [rep_int] at r1
    subst r1
    exact CallR.w call_int1 (.inl ⟨_, rfl, give S h (rep_int.mpr rfl)⟩)
  · cases e
    obtain ⟨v, rfl, r1⟩ := reps1 r
    rw [rep_bl] at r1
    subst r1
    exact CallR.w call_int1 (.inr ⟨_, rfl, give S h (rep_int.mpr rfl)⟩)
  · cases e
theorem sum_ok (hc : X.calm = true) (S : SR X.K L ρ m H) (r : Reps X.K L ρ m H xs vs) (e : sumD m xs = some d) (h : Post X.K L (RE X.K L) ρ m H (.ok d m) Q R) : calW X (.builtin "sum") vs H Q := by
  unfold sumD at e
  split at e
  · obtain ⟨ys, e1, e2⟩ := Option.bind_eq_some_iff.mp e
    obtain ⟨ns, e3, e4⟩ := Option.map_eq_some_iff.mp e2
    subst e4
    obtain ⟨v, rfl, r1⟩ := reps1 r
    obtain ⟨a, ws, rfl, h1, h2⟩ := lst_at S r1 e1
    rw [h2.ints e3] at h1
    exact CallR.w (cr_sum hc) ⟨a, ns, rfl, h1, give S h (rep_int.mpr rfl)⟩
  · cases e
theorem all_ok (hc : X.calm = true) (S : SR X.K L ρ m H) (r : Reps X.K L ρ m H xs vs) (e : allD m xs = some d) (h : Post X.K L (RE X.K L) ρ m H (.ok d m) Q R) : calW X (.builtin "all") vs H Q := by
  unfold allD at e
  split at e
  · obtain ⟨ys, e1, e2⟩ := Option.bind_eq_some_iff.mp e
    obtain ⟨ns, e3, e4⟩ := Option.map_eq_some_iff.mp e2
    subst e4
    obtain ⟨v, rfl, r1⟩ := reps1 r
    obtain ⟨a, ws, rfl, h1, h2⟩ := lst_at S r1 e1
    rw [h2.bls e3] at h1
    exact CallR.w (cr_all hc) ⟨a, ns, rfl, h1, give S h (rep_bl.mpr rfl)⟩
  · cases e
theorem any_ok (hc : X.calm = true) (S : SR X.K L ρ m H) (r : Reps X.K L ρ m H xs vs) (e : anyD m xs = some d) (h : Post X.K L (RE X.K L) ρ m H (.ok d m) Q R) : calW X (.builtin "any") vs H Q := by
  unfold anyD at e
  split at e
  · obtain ⟨ys, e1, e2⟩ := Option.bind_eq_some_iff.mp e
    obtain ⟨ns, e3, e4⟩ := Option.map_eq_some_iff.mp e2
    subst e4
    obtain ⟨v, rfl, r1⟩ := reps1 r
    obtain ⟨a, ws, rfl, h1, h2⟩ := lst_at S r1 e1
    rw [h2.bls e3] at h1
    exact CallR.w (cr_any hc) ⟨a, ns, rfl, h1, give S h (rep_bl.mpr rfl)⟩
  · cases e
theorem max_ok (hc : X.calm = true) (S : SR X.K L ρ m H) (r : Reps X.K L ρ m H xs vs) (e : maxD xs = some d) (h : Post X.K L (RE X.K L) ρ m H (.ok d m) Q R) : calW X (.builtin "max") vs H Q := by
  unfold maxD at e
  split at e
  · cases e
    obtain ⟨v, u, rfl, r1, r2⟩ := reps2 r
    rw [rep_int] at r1 r2
    subst r1 r2
    exact CallR.w (call_max2 hc) ⟨_, _, rfl, give S h (rep_int.mpr rfl)⟩
  · cases e
theorem min_ok (hc : X.calm = true) (S : SR X.K L ρ m H) (r : Reps X.K L ρ m H xs vs) (e : minD xs = some d) (h : Post X.K L (RE X.K L) ρ m H (.ok d m) Q R) : calW X (.builtin "min") vs H Q := by
  unfold minD at e
  split at e
  · cases e
    obtain ⟨v, u, rfl, r1, r2⟩ := reps2 r
    rw [rep_int] at r1 r2
    subst r1 r2
    exact CallR.w (call_min2 hc) ⟨_, _, rfl, give S h (rep_int.mpr rfl)⟩
  · cases e
theorem tuple_ok (S : SR X.K L ρ m H) (r : Reps X.K L ρ m H xs vs) (e : tupleD m xs = some d) (h : Post X.K L (RE X.K L) ρ m H (.ok d m) Q R) : calW X (.type "tuple") vs H Q := by
  unfold tupleD at e
  split at e
  · obtain ⟨ys, e1, e2⟩ := Option.map_eq_some_iff.mp e
    subst e2
    obtain ⟨v, rfl, r1⟩ := reps1 r
    obtain ⟨a, ws, rfl, _, h2, h3⟩ := seq_at S r1 e1
    rcases h3 with ⟨⟨zs, rfl⟩, h3⟩ | ⟨_, h3⟩
    · cases e1
      exact CallR.w call_tuple_of ⟨a, ws, rfl, .inr ⟨h3, give S h r1⟩⟩
    · exact CallR.w call_tuple_of ⟨a, ws, rfl, .inl ⟨h3, fun l hl => give_tup S h h2 hl⟩⟩
  · cases e
theorem list_ok (S : SR X.K L ρ m H) (r : Reps X.K L ρ m H xs vs) (e : listD m xs = some d) (h : Post X.K L (RE X.K L) ρ m H (.ok d m) Q R) : calW X (.type "list") vs H Q := by
  unfold listD at e
  split at e
  · obtain ⟨ys, e1, e2⟩ := Option.map_eq_some_iff.mp e
    subst e2
    obtain ⟨v, rfl, r1⟩ := reps1 r
    obtain ⟨a, ws, rfl, hs, h2, _⟩ := seq_at S r1 e1
    exact CallR.w call_list_of ⟨a, ws, rfl, hs, fun l hl => give_fl S h h2 hl⟩
  · cases e
end
end
end Dy
end
section
set_option Elab.async false
set_option linter.all false
set_option maxRecDepth 100000
set_option maxHeartbeats 4000000
/-! DySort: sorted of ints, and of tuples of ints of any lengths. -/
namespace Dy
open PySem PySem.Spec PyProof.Rows L2 SrtO
/-! ### sorting by insertion -/
section
variable {α : Type} {lt : α → α → Bool}
theorem ins_at (O : Swo lt) (x : α) : ∀ {l : List α}, Srtd lt l → ∃ M N, l = M ++ N ∧ ins lt x l = M ++ x :: N ∧ (∀ y ∈ M, lt y x = true) ∧ ∀ y ∈ N, lt y x = false
  | [], _ => ⟨[], [], rfl, rfl, by simp, by simp⟩
  | y :: r, h => by
    by_cases q : lt y x = true
    · obtain ⟨M, N, e1, e2, h1, h2⟩ := ins_at O x (List.pairwise_cons.mp h).2
      refine ⟨y :: M, N, by rw [e1, List.cons_append], ?_, fun z hz => ?_, h2⟩
      · show (if lt y x then y :: ins lt x r else x :: y :: r) = _
        rw [if_pos q, e2, List.cons_append]
      · rcases List.mem_cons.mp hz with rfl | hz
        · exact q
        · exact h1 z hz
    · have q' : lt y x = false := by simpa using q
      refine ⟨[], y :: r, rfl, ?_, by simp, fun z hz => ?_⟩
      · show (if lt y x then y :: ins lt x r else x :: y :: r) = _
        rw [if_neg q, List.nil_append]
      · rcases List.mem_cons.mp hz with rfl | hz
        · exact q'
        · exact O.tr x y z q' (srtd_head h z hz)
theorem isort_ok (O : Swo lt) : ∀ l : List α, Srtd lt (isort lt l) ∧ Stb lt (isort lt l) l
  | [] => ⟨List.Pairwise.nil, .refl _⟩
  | x :: r => by
    obtain ⟨h1, h2⟩ := isort_ok O r
    obtain ⟨M, N, e1, e2, h3, h4⟩ := ins_at O x h1
    show Srtd lt (ins lt x (isort lt r)) ∧ Stb lt (ins lt x (isort lt r)) (x :: r)
    rw [e2]
    rw [e1] at h1 h2
    obtain ⟨m, nn, c⟩ := srtd_app.mp h1
    refine ⟨srtd_app.mpr ⟨m, List.pairwise_cons.mpr ⟨h4, nn⟩, fun a ha b hb => ?_⟩, ?_⟩
    · rcases List.mem_cons.mp hb with rfl | hb
      · exact O.asym _ _ (h3 a ha)
      · exact c a ha b hb
    · have q : Stb lt (M ++ [x]) ([x] ++ M) := Stb.swap O fun a ha b hb => by rw [List.mem_singleton.mp hb]; exact h3 a ha
      have q2 : Stb lt ((M ++ [x]) ++ N) (([x] ++ M) ++ N) := q.app (.refl N)
      have q3 : Stb lt ([x] ++ (M ++ N)) ([x] ++ r) := (Stb.refl [x]).app h2
      have e3 : M ++ x :: N = (M ++ [x]) ++ N := by simp
      have e4 : ([x] ++ M) ++ N = [x] ++ (M ++ N) := by simp
      rw [e3]
      rw [e4] at q2
      exact q2.trans q3
end
theorem swo_I : Swo ltI := ⟨fun x y h => by
  have a := of_decide_eq_true (p := x < y) h
  exact decide_eq_false (by omega), fun x y z h1 h2 => by
  have a := of_decide_eq_false (p := y < x) h1
  have b := of_decide_eq_false (p := z < y) h2
  exact decide_eq_false (by omega)⟩
theorem isort_int {ns ns' : List Int} (h1 : ns'.Perm ns) (h2 : ns'.Pairwise (· ≤ ·)) : ns' = isort ltI ns := by
  obtain ⟨h3, h4⟩ := isort_ok swo_I ns
  refine stb_uniq swo_I (h2.imp fun {a b} h => decide_eq_false (by omega)) h3 ⟨h1.trans h4.perm.symm, fun x => ?_⟩
  have go : ∀ l : List Int, l.filter (eqv ltI x) = List.replicate (l.count x) x := fun l => by
    have e : l.filter (eqv ltI x) = l.filter (· == x) := List.filter_congr fun y _ => by
      unfold eqv ltI
      by_cases e : y = x
      · subst e; simp
      · have : (y == x) = false := by simpa using e
        rw [this]
        rcases Int.lt_or_gt_of_ne e with q | q
        · have : decide (y < x) = true := by simpa using q
          simp [this]
        · have : decide (x < y) = true := by simpa using q
          simp [this]
    rw [e, List.filter_beq]
  rw [go, go, (h1.trans h4.perm.symm).count_eq]
theorem lexI_eq : ∀ xs ys : List Int, lexI xs ys = HT.lexLt xs ys
  | [], [] => by rw [HT.lexLt_nil_nil]; rfl
  | [], y :: ys => by rw [HT.lexLt_nil_cons]; rfl
  | x :: xs, [] => by rw [HT.lexLt_cons_nil]; rfl
  | x :: xs, y :: ys => by
    rw [HT.lexLt_cons, ← lexI_eq xs ys]
    rfl
theorem swo_lexI : Swo lexI := by
  have e : lexI = fun v u : List Int => HT.lexLt (id v) (id u) := funext fun v => funext fun u => lexI_eq v u
  rw [e]
  exact NtL.swo_lexL id
/-! ### tuples of ints in the heap -/
def TupI (h : Heap) (v : Vl) (ns : List Int) : Prop := ∃ (a : Addr) (o : PySem.Obj) (its : Array Vl) (n : Nat), v = .ref a ∧ h.get? a = some o ∧ o.cls = .type "tuple" ∧ o.data = .seq its n ∧ IntsAre its.toList ns
def keyT (h : Heap) (v : Vl) : List Int := match v with
  | .ref a => (match h.get? a with
    | some o => (match o.data with
      | .seq its _ => its.toList.map iv
      | _ => [])
    | none => [])
  | _ => []
theorem TupI.key {h : Heap} {v : Vl} {ns : List Int} (t : TupI h v ns) : keyT h v = ns := by
  obtain ⟨a, o, its, n, rfl, h1, h2, h3, h4⟩ := t
  unfold keyT
  simp only [h1, h3]
  exact iv_ints h4
theorem TupI.keeps {h h' : Heap} {v : Vl} {ns : List Int} (t : TupI h v ns) (k : ∀ b o, v = .ref b → h.get? b = some o → o.cls = .type "tuple" → h'.get? b = some o) : TupI h' v ns := by
  obtain ⟨a, o, its, n, e, h1, h2, h3, h4⟩ := t
  exact ⟨a, o, its, n, e, k a o e h1 h2, h2, h3, h4⟩
section
variable {prog : Program} {w : World} {A : Around} {E : Value → Shared → Prop} {s : Shared} {M : Model}
theorem kat_ints {b fin : Bool} {Q : Bool → Shared → Prop} : ∀ {vs ws : List Vl} {ns ms : List Int} (i : Nat), IntsAre vs ns → IntsAre ws ms → fin = decide (ns.length < ms.length) → Q (HT.lexLt ns ms) s → PySem.W.KatLex prog w A b fin Q (vs.zip ws) i s
  | _, _, _, _, i, .nil, .nil, hf, h => by
    rw [HT.lexLt_nil_nil] at h
    subst hf
    exact PySem.W.kat_nil h
  | _, _, _, _, i, .nil, .cons c u q, hf, h => by
    rw [HT.lexLt_nil_cons] at h
    subst hf
    rw [List.zip_nil_left]
    refine PySem.W.kat_nil ?_
    simpa using h
  | _, _, _, _, i, .cons c u q, .nil, hf, h => by
    rw [HT.lexLt_cons_nil] at h
    subst hf
    rw [List.zip_nil_right]
    refine PySem.W.kat_nil ?_
    simpa using h
  | _, _, _, _, i, .cons (ns := ns) x t p, .cons (ns := ms) y u q, hf, h => by
    rw [HT.lexLt_cons] at h
    rw [List.zip_cons_cons]
    refine PySem.W.kat_cons (SeqAt.EqAt.int_int x t y u prog w _ _ ?_)
    refine PySem.W.kat_go (fun e1 => ?_) (fun e1 => ?_)
    · have ex : x = y := by simpa using e1
      rw [if_pos ex] at h
      exact PySem.W.kat_yes (kat_ints (i + 1) p q (by rw [hf]; simp) h)
    · have ex : ¬ x = y := by simpa using e1
      rw [if_neg ex] at h
      refine PySem.W.kat_no ?_
      by_cases hb : (b && i == 0) = true
      · rw [hb]
        exact oneLt_int h
      · rw [show (b && i == 0) = false by simpa using hb]
        exact PySem.W.kat_one _ _ (PyProof.Rows.lt_int h)
theorem tup_is {h : Heap} {a : Addr} {o : PySem.Obj} {its : Array Vl} {n : Nat} (h1 : h.get? a = some o) (h2 : o.cls = .type "tuple") (h3 : o.data = .seq its n) : IsTup h a its := ⟨o, h1, h2, n, h3⟩
theorem lt_tups {κ : SortKind} {v u : Vl} {ns ms : List Int} {Q : Bool → Shared → Prop} (hk : κ = tuples' true ∨ κ = tuples' false ∨ κ = oneType' ∨ κ = general') (hu : A.units < cLine) (hv : TupI s.heap v ns) (hw : TupI s.heap u ms) (h : Q (HT.lexLt ns ms) s) : wpAny (model prog w) A (keyLt' κ v u) Q E s := by
  obtain ⟨a, o, its, n, rfl, h1, h2, h3, h4⟩ := hv
  obtain ⟨b, o2, its2, n2, rfl, g1, g2, g3, g4⟩ := hw
  have z1 : its.size = ns.length := by rw [← h4.length]; simp
  have z2 : its2.size = ms.length := by rw [← g4.length]; simp
  rcases hk with rfl | rfl | rfl | rfl
  · exact PySem.W.kat_lt h1 h3 g1 g3 (kat_ints 0 h4 g4 (by rw [z1, z2]) h)
  · exact PySem.W.kat_lt h1 h3 g1 g3 (kat_ints 0 h4 g4 (by rw [z1, z2]) h)
  · rw [keyLt'_oneType, oneLt'_eq]
    simp only [if_true]
    refine wpAny_bind (wpAny_cRoomFor hu ?_)
    obtain ⟨cls, dd, data, sl⟩ := o
    obtain ⟨cls2, dd2, data2, sl2⟩ := o2
    simp only at h2 h3 g2 g3
    subst h2 h3 g2 g3
    refine wpAny_bind (wpAny_callSpecialIfBound?_slot (T := "tuple") ⟨_, h1, rfl⟩ PySem.F.slot_tuple_lt ?_)
    refine call_meets PySem.F.slot_tuple_lt ⟨_, h1, rfl⟩ PySem.F.entry_tuple_lt (PySem.F.args_tuple_lt_2 _ _) (HT.tuple_lt_ints a b its its2 n n2 dd dd2 sl sl2 ns ms h4 g4) ⟨h1, g1, ?_⟩
    show wpAny _ _ _ _ _ _
    exact wpAny_truthy_bool h
  · show wpAny (model prog w) A (oneLt' false (.ref a) (.ref b)) Q E s
    exact PySem.W.kat_one _ _ (HT.lt_tupInts (tup_is h1 h2 h3) (tup_is g1 g2 g3) h4 g4 hu h)
/-- the kind of keys that are tuples -/
theorem first_tup {v : Vl} {ns : List Int} (hv : TupI s.heap v ns) : ∃ o : Option Vl, (∀ f, o = some f → ∃ i t, f = Value.int i t) ∧ ∀ (E : Value → Shared → Prop) (Q : Option Vl → Shared → Prop), Q o s → wpAny M A (firstOfTuple' v) Q E s := by
  obtain ⟨a, o, its, n, rfl, h1, h2, h3, h4⟩ := hv
  refine ⟨its[0]?, fun f e => ?_, fun E Q h => ?_⟩
  · obtain ⟨hi, e2⟩ := Array.getElem?_eq_some_iff.mp e
    have : f ∈ its.toList := by rw [← e2]; simp
    exact ints_mem h4 f this
  · rw [PySem.W.kas_first_eq]
    refine wpAny_bind (PySem.W.Looks.here (show PySem.W.Looks M s.heap (typeOf (.ref a)) o.cls from (PySem.W.Looks.ld h1).andThen .now) ?_)
    rw [h2, if_neg (by first | decide | simp)]
    exact wpAny_bind (listItems_at h1 h3 (wpAny_pure h))
theorem firsts_tup : ∀ {vs : List Vl}, (∀ v ∈ vs, ∃ ns, TupI s.heap v ns) → ∃ os : List (Option Vl), (∀ o ∈ os, ∀ f, o = some f → ∃ i t, f = Value.int i t) ∧
    ∀ (E : Value → Shared → Prop) (Q : List (Option Vl) → Shared → Prop), Q os s → wpAny M A (vs.mapM firstOfTuple') Q E s
  | [], _ => ⟨[], by simp, fun E Q h => by rw [List.mapM_nil]; exact wpAny_pure h⟩
  | v :: vs, hv => by
    obtain ⟨ns, t⟩ := hv v List.mem_cons_self
    obtain ⟨o, ho, h1⟩ := first_tup (M := M) (A := A) t
    obtain ⟨os, hos, h2⟩ := firsts_tup (vs := vs) fun u hu => hv u (List.mem_cons_of_mem _ hu)
    refine ⟨o :: os, fun p hp => ?_, fun E Q h => ?_⟩
    · rcases List.mem_cons.mp hp with rfl | hp
      · exact ho
      · exact hos p hp
    · rw [List.mapM_cons]
      exact wpAny_bind (h1 _ _ (wpAny_bind (h2 _ _ (wpAny_pure h))))
theorem one_ints (fs : Array Vl) (hf : ∀ f ∈ fs, ∃ i t, f = Value.int i t) : ∃ r : Option Vl, ∀ (E : Value → Shared → Prop) (Q : Option Vl → Shared → Prop), Q r s → wpAny M A (oneTypeOnly' fs) Q E s := by
  obtain ⟨fs⟩ := fs
  have hf : ∀ f ∈ fs, ∃ i t, f = Value.int i t := fun f hm => hf f (by simpa using hm)
  refine ⟨match (fs.map fun _ => Value.type "int").toArray[0]? with
    | some t => if (fs.map fun _ => Value.type "int").toArray.all (· == t) then some t else none
    | none => none, fun E Q h => ?_⟩
  rw [oneTypeOnly'_eq, List.mapM_toArray, map_eq_pure_bind]
  refine wpAny_bind (wpAny_bind (PySem.W.kas_mapM (r := Value.type "int") _ (fun v hm Q' hq => ?_) (wpAny_pure ?_)))
  · obtain ⟨i, t, rfl⟩ := hf v hm
    exact wpAny_pure hq
  · cases fs with
    | nil => exact wpAny_pure h
    | cons f fs => exact wpAny_pure h
theorem kind_tups {vs : List Vl} (h2 : 2 ≤ vs.length) (hv : ∀ v ∈ vs, ∃ ns, TupI s.heap v ns) : ∃ κ, (κ = tuples' true ∨ κ = tuples' false ∨ κ = oneType' ∨ κ = general') ∧
    ∀ (Q : SortKind → Shared → Prop) (E : Value → Shared → Prop), Q κ s → wpAny M A (keyKind' vs.toArray) Q E s := by
  obtain ⟨os, hos, h1⟩ := firsts_tup (M := M) (A := A) hv
  have open1 : ∀ (Q : SortKind → Shared → Prop) (E : Value → Shared → Prop), wpAny M A (do
      if os.toArray.all (·.isSome) then
        rule "list.sort.keys-are-tuples"
        return tuples' ((← oneTypeOnly' (os.toArray.filterMap id)).any (· != .type "tuple"))
      if (os.toArray[0]?.bind id).isSome then return general'
      return if (← oneTypeOnly' vs.toArray).isSome then oneType' else general') Q E s → wpAny M A (keyKind' vs.toArray) Q E s := fun Q E h => by
    rw [keyKind'_eq, List.mapM_toArray, map_eq_pure_bind]
    exact wpAny_bind (wpAny_bind (h1 _ _ (wpAny_pure h)))
  by_cases ha : (os.toArray.all fun x => x.isSome) = true
  · obtain ⟨r, hr⟩ := one_ints (s := s) (M := M) (A := A) (os.toArray.filterMap id) fun f hm => by
      have hm : some f ∈ os := by simpa using hm
      exact hos _ hm f rfl
    refine ⟨tuples' (r.any (· != .type "tuple")), ?_, fun Q E h => open1 Q E ?_⟩
    · cases (r.any (· != Value.type "tuple"))
      · exact .inr (.inl rfl)
      · exact .inl rfl
    · rw [if_pos ha]
      exact wpAny_bind (wpAny_rule (wpAny_bind (hr _ _ (wpAny_pure h))))
  · by_cases hb : ((os.toArray[0]?.bind id).isSome) = true
    · refine ⟨general', .inr (.inr (.inr rfl)), fun Q E h => open1 Q E ?_⟩
      rw [if_neg ha, if_pos hb]
      exact wpAny_pure h
    · refine ⟨oneType', .inr (.inr (.inl rfl)), fun Q E h => open1 Q E ?_⟩
      rw [if_neg ha, if_neg hb, oneTypeOnly'_eq, List.mapM_toArray, map_eq_pure_bind]
      refine wpAny_bind (wpAny_bind (wpAny_bind (PySem.W.kas_mapM (r := Value.type "tuple") _ (fun v hm Q' hq => ?_) (wpAny_pure ?_))))
      · obtain ⟨ns, a, o, its, n, rfl, g1, hc, _⟩ := hv v hm
        refine PySem.W.Looks.here (show PySem.W.Looks M s.heap (typeOf (.ref a)) o.cls from (PySem.W.Looks.ld g1).andThen .now) ?_
        rw [hc]
        exact hq
      · cases vs with
        | nil => simp at h2
        | cons v vs =>
          have hall : ((List.map (fun _ => Value.type "tuple") (v :: vs)).toArray.all fun x => x == Value.type "tuple") = true := by
            simp only [List.all_toArray, List.all_map, List.all_eq_true]
            intro _ _
            rfl
          have h0 : (List.map (fun _ => Value.type "tuple") (v :: vs)).toArray[0]? = some (Value.type "tuple") := by simp
          rw [h0]
          simp only [hall, if_true]
          exact wpAny_pure (wpAny_pure h)
theorem tups_sortable {a : Addr} {vs : List Vl} {k : Vl → List Int} (h2 : 2 ≤ vs.length) (hu : A.units < cLine) (hv : ∀ v ∈ vs, TupI s.heap v (k v)) (ha : ∀ o, s.heap.get? a = some o → o.cls ≠ .type "tuple") : SortableO prog w A s a vs fun v u => HT.lexLt (k v) (k u) := by
  intro h' keep
  have hv' : ∀ v ∈ vs, TupI h' v (k v) := fun v hm => (hv v hm).keeps fun b o _ e c => keep b o (fun z => by subst z; exact ha o e c) e
  obtain ⟨κ, hk, h⟩ := kind_tups (s := { s with heap := h' }) (M := model prog w) (A := A) h2 fun v hm => ⟨_, hv' v hm⟩
  exact ⟨κ, h, fun p q hp hq => lt_tups (s := { s with heap := h' }) (E := fun _ _ => False) (Q := fun r s' => s' = { s with heap := h' } ∧ r = HT.lexLt (k p.1) (k q.1)) hk hu (hv' _ hp) (hv' _ hq) ⟨rfl, rfl⟩⟩
theorem sorted_tupsI {l : Addr} {vs : List Vl} {k : Vl → List Int} {Q : Vl → Shared → Prop} (hu : A.units + 2 < cLine) (hl : s.heap.IsList l vs.toArray) (hz : vs.length ≤ sizeLine) (hp : ∀ v ∈ vs, TupI s.heap v (k v))
    (h : ∀ (h' : Heap) (d : Addr) (out : List Vl), Srtd (fun v u => HT.lexLt (k v) (k u)) out → Stb (fun v u => HT.lexLt (k v) (k u)) out vs → (∀ b o, s.heap.get? b = some o → h'.get? b = some o) → s.heap.objs.size ≤ d → (∃ n, h'.get? d = some (seqObj "list" out.toArray n)) → Q (.ref d) { s with heap := h' }) :
    wpAny (model prog w) A (call (.builtin "sorted") [.ref l]) Q E s := by
  refine sorted_ord (NtL.swo_lexL k) hl hz (fun h2 h₁ a ha kk => ?_) fun out hs hb => ?_
  · refine tups_sortable (s := { s with heap := h₁ }) h2 (by show A.units + 2 < cLine; exact hu) (fun v hm => (hp v hm).keeps fun b o _ e _ => (kk b o e).2) fun o e => ?_
    have e' : some o = some (seqObj "list" vs.toArray 0) := e.symm.trans ha
    cases e'
    intro c
    exact absurd (Value.type.inj c) (by decide)
  · exact h _ _ out hs hb (fun b o e => sortedAll_old e) (Nat.le_succ _) (sortedAll_at s.heap vs out.toArray)
end
/-- the tuples at xs hold these numbers -/
def TI (K : PySem.W.Frag) (H : Hp) : List V → List (List Int) → Prop
  | [], ts => ts = []
  | x :: xs, ts => ∃ t n r, x = .ref t ∧ ts = n :: r ∧ SqT K H t (n.map V.int) ∧ TI K H xs r
theorem TI.of {K : PySem.W.Frag} {H : Hp} {k : V → List Int} : ∀ {xs : List V}, (∀ x ∈ xs, ∃ t, x = .ref t ∧ SqT K H t ((k x).map V.int)) → TI K H xs (xs.map k)
  | [], _ => rfl
  | x :: xs, h => by
    obtain ⟨t, e, q⟩ := h x List.mem_cons_self
    exact ⟨t, _, _, e, rfl, q, TI.of fun y hy => h y (List.mem_cons_of_mem _ hy)⟩
/-- sorted(xs), xs tuples of ints -/
def rSortTI (K : PySem.W.Frag) : List V → Hp → VK → Prop := fun vs H Q => ∃ (a : Addr) (xs : List V) (ts : List (List Int)), vs = [V.ref a] ∧ SqL K H a xs ∧ TI K H xs ts ∧ ∀ ys p, TI K H ys (isort lexI ts) → H p = none → Q (.ref p) (upd H p (.lst ys))
section
variable {X : Cx}
theorem cr_sortTI (hu : X.A.units + 64 < cLine) : CallR X (.builtin "sorted") (rSortTI X.K) := by
  intro pins s σ H vs us Q I r h
  obtain ⟨a, xs, ts, rfl, hs, hx, q⟩ := h
  obtain ⟨its, rv, hl, hz⟩ := I.list hs
  obtain ⟨u, rfl, ru⟩ := vals1 r
  obtain rfl : u = Value.ref a := ru
  have hxr : ∀ {xs : List V} {ts : List (List Int)}, TI X.K H xs ts → ∀ x ∈ xs, ∃ t, x = .ref t := by
    intro xs
    induction xs with
    | nil => intro ts _ x hx; simp at hx
    | cons y ys ih =>
      intro ts h x hx
      obtain ⟨t, n, r, e, _, _, h2⟩ := h
      rcases List.mem_cons.mp hx with rfl | hx
      · exact ⟨t, e⟩
      · exact ih h2 x hx
  obtain ⟨e1, e2⟩ := refs_back rv (hxr hx)
  have hk : ∀ {us : List Vl} {ts : List (List Int)}, TI X.K H (us.map backV) ts → (∀ v ∈ us, ∃ t, v = Value.ref t) → us.map (keyT s.heap) = ts ∧ ∀ v ∈ us, TupI s.heap v (keyT s.heap v) ∧ ∃ t, backV v = .ref t ∧ SqT X.K H t ((keyT s.heap v).map V.int) := by
    intro us
    induction us with
    | nil => intro ts h _; rw [show ts = [] from h]; simp
    | cons v us ih =>
      intro ts h hr
      obtain ⟨t, n, r, e, rfl, hq, h2⟩ := h
      obtain ⟨i1, i2⟩ := ih h2 fun w hw => hr w (List.mem_cons_of_mem _ hw)
      obtain ⟨t', rfl⟩ := hr v List.mem_cons_self
      have et : t' = t := by
        have : V.ref t' = V.ref t := e
        cases this
        rfl
      subst et
      obtain ⟨its', rt, pt, _⟩ := I.tuple hq
      have tu : TupI s.heap (.ref t') n := by
        obtain ⟨o, ho, hc, k, hd⟩ := pt
        refine ⟨t', o, _, k, rfl, ho, hc, hd, ?_⟩
        exact rt.ints
      refine ⟨by rw [List.map_cons, i1, tu.key], fun w hw => ?_⟩
      rcases List.mem_cons.mp hw with rfl | hw
      · rw [tu.key]
        exact ⟨tu, t', rfl, hq⟩
      · exact i2 w hw
  rw [e1] at hx
  obtain ⟨k1, k2⟩ := hk hx e2
  refine sorted_tupsI (k := keyT s.heap) (by omega) hl.isList (by rw [← rv.length]; exact hz) (fun v hv => (k2 v hv).1) fun h' d out h1 h2 kp hd hn => ?_
  have h3 : ∀ u ∈ out, ∃ a, u = Value.ref a := fun u hu => e2 u (h2.perm.mem_iff.mp hu)
  obtain ⟨n, hn⟩ := hn
  have eo : out.map (keyT s.heap) = isort lexI ts := by
    obtain ⟨q1, q2⟩ := isort_ok swo_lexI ts
    have q3 : Stb (fun v u : List Int => HT.lexLt v u) (out.map (keyT s.heap)) (its.map (keyT s.heap)) := SrtO.Stb.map (NtL.swo_lexL id) (keyT s.heap) h2
    have q4 : Srtd (fun v u : List Int => HT.lexLt v u) (out.map (keyT s.heap)) := SrtO.srtd_map h1
    have el : (fun v u : List Int => HT.lexLt v u) = lexI := funext fun v => funext fun u => (lexI_eq v u).symm
    rw [el] at q3 q4
    rw [k1] at q3
    exact stb_uniq swo_lexI q4 q1 (q3.trans ⟨q2.perm.symm, fun x => (q2.cls x).symm⟩)
  have hti : TI X.K H (out.map backV) (isort lexI ts) := by
    rw [← eo]
    have go : ∀ l : List Vl, (∀ v ∈ l, v ∈ its) → TI X.K H (l.map backV) (l.map (keyT s.heap)) := by
      intro l
      induction l with
      | nil => intro _; rfl
      | cons v l ih =>
        intro hm
        obtain ⟨_, t, et, hq⟩ := k2 v (hm v List.mem_cons_self)
        exact ⟨t, _, _, et, rfl, hq, ih fun w hw => hm w (List.mem_cons_of_mem _ hw)⟩
    exact go out fun v hv => h2.perm.mem_iff.mp hv
  refine ⟨.ref d, upd H d (.lst (out.map backV)), I.laid (t' := s.toks) kp hd ⟨?_, out, n, vals_back h3, hn⟩, rfl, q _ d hti (I.hok.fresh hd)⟩
  rw [List.length_map, h2.len, ← rv.length]
  exact hz
end
end Dy
end
section
set_option Elab.async false
set_option linter.all false
set_option maxRecDepth 100000
set_option maxHeartbeats 4000000
/-! DyS8: calls of built-ins, joined. -/
namespace Dy
open PySem PySem.Spec PyProof.Rows L2
section
variable {L : Lk} {n : Nat} {X : Cx} {K : PySem.W.Frag} {ρ : Pl} {m : Store} {H : Hp} {N : Nm} {sc : Scope}
theorem ti_of : ∀ {xs : List D} {vs : List V} {ts : List (List Int)}, Reps K L ρ m H xs vs → asIntTups xs = some ts → TI K H vs ts
  | [], vs, ts, r, e => by
    rw [reps_nil] at r
    subst r
    cases e
    rfl
  | x :: xs, vs, ts, r, e => by
    rw [reps_cons] at r
    obtain ⟨v, w, rfl, r1, r2⟩ := r
    cases x with
    | tup ys =>
      have e : (match asInts ys, asIntTups xs with
        | some a, some b => some (a :: b)
        | _, _ => none) = some ts := e
      split at e
      · rename_i a b e1 e2
        cases e
        rw [rep_tup] at r1
        obtain ⟨p, ps, e3, h1, h2⟩ := r1
        rw [h2.ints e1] at h1
        exact ⟨p, a, b, e3, rfl, h1, ti_of r2 e2⟩
      · cases e
    | _ => cases e
theorem of_ti : ∀ {ts : List (List Int)} {vs : List V}, TI K H vs ts → Reps K L ρ m H (ts.map fun t => .tup (t.map .int)) vs
  | [], vs, h => by
    cases vs with
    | nil => simp [reps_nil]
    | cons v vs =>
      obtain ⟨_, _, _, _, e, _⟩ := h
      cases e
  | t :: ts, vs, h => by
    cases vs with
    | nil => cases (show t :: ts = [] from h)
    | cons v vs =>
      obtain ⟨p, n, r, e1, e2, h1, h2⟩ := h
      cases e2
      rw [List.map_cons, reps_cons]
      refine ⟨v, vs, rfl, ?_, of_ti h2⟩
      rw [rep_tup]
      exact ⟨p, _, e1, h1, Reps.ofInts t⟩
theorem sorted_ok {xs : List D} {d : D} {vs : List V} {Q : VK} {R : XK} (hu : X.A.units + 64 < cLine) (S : SR X.K L ρ m H) (r : Reps X.K L ρ m H xs vs) (e : sortedD m xs = some d) (h : Post X.K L (RE X.K L) ρ m H (.ok d m) Q R) : calW X (.builtin "sorted") vs H Q := by
  unfold sortedD at e
  split at e
  · obtain ⟨ys, e1, e2⟩ := Option.bind_eq_some_iff.mp e
    obtain ⟨zs, e3, e4⟩ := Option.map_eq_some_iff.mp e2
    subst e4
    obtain ⟨v, rfl, r1⟩ := reps1 r
    obtain ⟨a, ws, rfl, h1, h2⟩ := lst_at S r1 e1
    unfold sortD at e3
    split at e3
    · rename_i ns e4
      cases e3
      rw [h2.ints e4] at h1
      refine CallR.w cr_sortedI ⟨a, ns, rfl, h1, fun ns' p hp hs hn => ?_⟩
      rw [isort_int hp hs]
      exact give_fl S h (Reps.ofInts _) hn
    · split at e3
      · rename_i ts e4
        cases e3
        exact CallR.w (cr_sortTI hu) ⟨a, ws, ts, rfl, h1, ti_of h2 e4, fun zs p ht hn => give_fl S h (of_ti ht) hn⟩
      · cases e3
  · cases e
theorem s_bi {b : Bi} {c : Es} {x : PySem.Str} {xs : List Expr} {p pos : Pos} (hx : x = biNm b) (hg : isGl X.env.scope x = true) (hl : 0 < c.len) (hm : mEs L N sc c xs = true) (ha : SndA L n c xs X) : SndE L n (.bi b c) (.Call (.Name x p) xs [] pos) X := by
  intro W τ σ ρ m H Q cx lc S h
  rw [evE] at h
  obtain ⟨g1, g2⟩ := gl_of hg
  cases xs with
  | nil => cases c <;> simp [mEs, Es.len] at hm hl
  | cons e es =>
    cases c with
    | nil => simp [Es.len] at hl
    | cons a r =>
      rw [mEs, Bool.and_eq_true] at hm
      have he := nostar hm.1 es X.env
      have hp := nostars (env := X.env) (pos := pos) hm.2
      have go : tCB (calW X (match b with
          | .int => .type "int"
          | .tuple => .type "tuple"
          | .list => .type "list"
          | .len => .builtin "len"
          | .abs => .builtin "abs"
          | .sum => .builtin "sum"
          | .all => .builtin "all"
          | .any => .builtin "any"
          | .max => .builtin "max"
          | .min => .builtin "min"
          | .sorted => .builtin "sorted")) (EvA X (e :: es)) σ H Q := by
        refine ha W τ σ ρ m H _ cx lc S (Post.bind (Ra := Reps X.K L) h fun ds m1 ρ1 H1 vs S1 st1 r1 h1 => ?_)
        obtain ⟨d, e1, h2⟩ := Post.ofO h1
        have hu := cx.hu
        cases b with
        | len => exact len_ok S1 r1 e1 h2
        | abs => exact abs_ok S1 r1 e1 h2
        | int => exact int_ok S1 r1 e1 h2
        | sum => exact sum_ok cx.calm S1 r1 e1 h2
        | all => exact all_ok cx.calm S1 r1 e1 h2
        | any => exact any_ok cx.calm S1 r1 e1 h2
        | max => exact max_ok cx.calm S1 r1 e1 h2
        | min => exact min_ok cx.calm S1 r1 e1 h2
        | tuple => exact tuple_ok S1 r1 e1 h2
        | list => exact list_ok S1 r1 e1 h2
        | sorted => exact sorted_ok (by omega) S1 r1 e1 h2
      have hb : X.mg x = none := blt_of cx.fx (by subst hx; cases b <;> decide)
      subst hx
      cases b with
      | len => exact PE.ev (pe_callB calW_ok g1 hb (by rfl) EvA.pa (by decide) g2 he hp) go
      | abs => exact PE.ev (pe_callB calW_ok g1 hb (by rfl) EvA.pa (by decide) g2 he hp) go
      | int => exact PE.ev (pe_callTy calW_ok g1 hb (by rfl) EvA.pa (by decide) g2 he hp) go
      | sum => exact PE.ev (pe_callB calW_ok g1 hb (by rfl) EvA.pa (by decide) g2 he hp) go
      | all => exact PE.ev (pe_callB calW_ok g1 hb (by rfl) EvA.pa (by decide) g2 he hp) go
      | any => exact PE.ev (pe_callB calW_ok g1 hb (by rfl) EvA.pa (by decide) g2 he hp) go
      | max => exact PE.ev (pe_callB calW_ok g1 hb (by rfl) EvA.pa (by decide) g2 he hp) go
      | min => exact PE.ev (pe_callB calW_ok g1 hb (by rfl) EvA.pa (by decide) g2 he hp) go
      | tuple => exact PE.ev (pe_callTy calW_ok g1 hb (by rfl) EvA.pa (by decide) g2 he hp) go
      | list => exact PE.ev (pe_callTy calW_ok g1 hb (by rfl) EvA.pa (by decide) g2 he hp) go
      | sorted => exact PE.ev (pe_callB calW_ok g1 hb (by rfl) EvA.pa (by decide) g2 he hp) go
end
end Dy
end
section
set_option Elab.async false
set_option linter.all false
set_option maxRecDepth 100000
set_option maxHeartbeats 4000000
/-! DyS9: isinstance, ranges written out, sets of ints. -/
namespace Dy
open PySem PySem.Spec PyProof.Rows L2
section
variable {L : Lk} {n : Nat} {X : Cx} {K : PySem.W.Frag} {ρ : Pl} {m : Store} {H : Hp} {N : Nm} {sc : Scope}
/-! ### isinstance -/
def Ty.vv (L : Lk) : Ty → V
  | .int => .ty "int"
  | .bool => .ty "bool"
  | .str => .ty "str"
  | .list => .ty "list"
  | .tuple => .ty "tuple"
  | .dict => .ty "dict"
  | .cls c => .ref (L.cad c)
def vtOf (m : Store) : D → Option VT
  | .non => some .non
  | .bl _ => some .bl
  | .int _ => some .int
  | .str _ => some .str
  | .tup _ => some .tup
  | .fl _ => some .lst
  | .ro _ => some .lst
  | .ob c _ _ => some (.own c)
  | .ex _ _ _ => none
  | .cell k => match m[k]? with
    | some (.lst _) => some .lst
    | some (.dct _ _) => some .dct
    | some (.ins c _ _) => some (.own c)
    | _ => none
theorem isTy_is {sup : Nat → Nat → Bool} {x : D} {t : VT} (e : vtOf m x = some t) (u : Ty) : isTy sup m x u = t.is sup u := by
  cases x with
  | cell k =>
    unfold vtOf at e
    simp only at e
    split at e
    · rename_i h; cases e; cases u <;> simp [isTy, VT.is, h]
    · rename_i h; cases e; cases u <;> simp [isTy, VT.is, h]
    · rename_i h; cases e; cases u <;> simp [isTy, VT.is, h]
    · cases e
  | ex _ _ _ => cases e
  | _ => cases e; cases u <;> rfl
theorem alive_vt {ok : Nat → Bool} {x : D} (e : alive ok m x = true) : ∃ t, vtOf m x = some t ∧ ∀ c, t = .own c → ok c = true := by
  cases x with
  | cell k =>
    unfold alive at e
    simp only at e
    split at e
    · cases e
    · rename_i c _ _ h; exact ⟨.own c, by simp [vtOf, h], fun d z => by cases z; exact e⟩
    · rename_i c h1 h2 h
      cases c with
      | lst _ => exact ⟨.lst, by simp [vtOf, h], fun d z => (nomatch z)⟩
      | dct _ _ => exact ⟨.dct, by simp [vtOf, h], fun d z => (nomatch z)⟩
      | ins a b c => exact (h2 a b c rfl).elim
      | dead => exact (h1 rfl).elim
    · cases e
  | ob c _ _ => exact ⟨.own c, rfl, fun d z => by cases z; exact e⟩
  | ex _ _ _ => cases e
  | non => exact ⟨_, rfl, fun d z => (nomatch z)⟩
  | bl _ => exact ⟨_, rfl, fun d z => (nomatch z)⟩
  | int _ => exact ⟨_, rfl, fun d z => (nomatch z)⟩
  | str _ => exact ⟨_, rfl, fun d z => (nomatch z)⟩
  | tup _ => exact ⟨_, rfl, fun d z => (nomatch z)⟩
  | fl _ => exact ⟨_, rfl, fun d z => (nomatch z)⟩
  | ro _ => exact ⟨_, rfl, fun d z => (nomatch z)⟩
theorem tyx_of {P : Program} {w : World} {mg : PySem.Str → Option Vl} {base : Heap} (fx : Facts L n P w K mg base) {x : D} {v : V} {t : VT} (S : SR K L ρ m H) (r : Rep K L ρ m H x v) (e : vtOf m x = some t) (ho : ∀ c, t = .own c → (L.G.cls c).isSome = true) : TyX K H v (t.v L) := by
  have ins : ∀ {c : Nat} {a dx : Ad} {fs : List (PySem.Str × V)}, (L.G.cls c).isSome = true → H a = some (.ins (L.cad c) dx fs) → TyX K H (.ref a) ((VT.own c).v L) := by
    intro c a dx fs hc ha
    obtain ⟨C, hC⟩ := Option.isSome_iff_exists.mp hc
    have F := fx.own c C hC
    exact .base (.ins ha F.cl F.ha F.hn F.htk F.hm)
  cases x with
  | non => cases e; rw [rep_non] at r; subst r; exact .base .non
  | bl b => cases e; rw [rep_bl] at r; subst r; exact .base (.bl b)
  | int i => cases e; rw [rep_int] at r; subst r; exact .base (.int i)
  | str s => cases e; rw [rep_str] at r; subst r; exact .base (.str _)
  | tup xs =>
    cases e
    rw [rep_tup] at r
    obtain ⟨a, vs, rfl, h1, _⟩ := r
    rcases h1 with (h1 | ⟨o, h1⟩) | ⟨o, its, k, h1, h2, _⟩
    · exact .base (.tup h1)
    · exact .fTuple h1
    · exact .kTuple h1 h2
  | fl xs =>
    cases e
    rw [rep_fl] at r
    obtain ⟨a, vs, rfl, h1, _⟩ := r
    exact .base (.lst h1)
  | ro xs =>
    cases e
    rw [rep_ro] at r
    obtain ⟨a, vs, rfl, h1, _⟩ := r
    rcases h1 with ⟨o, h1⟩ | ⟨o, its, k, h1, h2, _⟩
    · exact .base (.frz h1)
    · exact .kList h1 h2
  | ob c ns fs =>
    cases e
    rw [rep_ob] at r
    obtain ⟨a, dx, vs, rfl, h1, _⟩ := r
    exact ins (ho c rfl) h1
  | ex _ _ _ => cases e
  | cell k =>
    rw [rep_cell] at r
    obtain ⟨a, rfl, h1⟩ := r
    unfold vtOf at e
    simp only at e
    split at e
    · rename_i h
      cases e
      obtain ⟨vs, h2, _⟩ := S.cell k _ a h h1
      exact .base (.lst h2)
    · rename_i lk kvs h
      cases e
      obtain ⟨kv, _, _, h2⟩ := S.cell k _ a h h1
      cases lk with
      | false => exact .base (.dK h2)
      | true =>
        obtain ⟨o, h2⟩ := h2
        exact .fDict h2
    · rename_i c ns fs h
      cases e
      obtain ⟨dx, vs, h2, _⟩ := S.cell k _ a h h1
      exact ins (ho c rfl) h2
    · cases e
def tVs (vs : List V) : TA := fun _ H Q => Q vs H
theorem pe_tyn {t : Ty} {e : Expr} (fx : Facts L n X.prog X.w X.K X.mg X.base) (h : mTy L X.env.scope t e = true) : PE X e (tC (t.vv L)) ∧ (∀ d, t = .cls d → d < L.nc) ∧ starEach [e] X.env = (false, eval e X.env) :: starEach [] X.env := by
  cases e with
  | Name x p =>
    cases t with
    | cls c =>
      have h : ((decide (x = L.cnm c) && decide (c < L.nc)) && isGl X.env.scope x) = true := h
      simp only [Bool.and_eq_true, decide_eq_true_eq] at h
      obtain ⟨⟨h1, h2⟩, h3⟩ := h
      obtain ⟨g1, g2⟩ := gl_of h3
      have q := (fx.cls c h2).1
      rw [← h1] at q
      exact ⟨pe_glob g1 q rfl g2, fun d z => by cases z; exact h2, rfl⟩
    | int =>
      have h : (decide (x = tyNm .int) && isGl X.env.scope x) = true := h
      simp only [Bool.and_eq_true, decide_eq_true_eq] at h
      obtain ⟨rfl, h3⟩ := h
      obtain ⟨g1, g2⟩ := gl_of h3
      exact ⟨pe_bltn (u := .type "int") g1 (blt_of fx (by decide)) rfl rfl (by decide) g2, fun d z => (nomatch z), rfl⟩
    | bool =>
      have h : (decide (x = tyNm .bool) && isGl X.env.scope x) = true := h
      simp only [Bool.and_eq_true, decide_eq_true_eq] at h
      obtain ⟨rfl, h3⟩ := h
      obtain ⟨g1, g2⟩ := gl_of h3
      exact ⟨pe_bltn (u := .type "bool") g1 (blt_of fx (by decide)) rfl rfl (by decide) g2, fun d z => (nomatch z), rfl⟩
    | str =>
      have h : (decide (x = tyNm .str) && isGl X.env.scope x) = true := h
      simp only [Bool.and_eq_true, decide_eq_true_eq] at h
      obtain ⟨rfl, h3⟩ := h
      obtain ⟨g1, g2⟩ := gl_of h3
      exact ⟨pe_bltn (u := .type "str") g1 (blt_of fx (by decide)) rfl rfl (by decide) g2, fun d z => (nomatch z), rfl⟩
    | list =>
      have h : (decide (x = tyNm .list) && isGl X.env.scope x) = true := h
      simp only [Bool.and_eq_true, decide_eq_true_eq] at h
      obtain ⟨rfl, h3⟩ := h
      obtain ⟨g1, g2⟩ := gl_of h3
      exact ⟨pe_bltn (u := .type "list") g1 (blt_of fx (by decide)) rfl rfl (by decide) g2, fun d z => (nomatch z), rfl⟩
    | tuple =>
      have h : (decide (x = tyNm .tuple) && isGl X.env.scope x) = true := h
      simp only [Bool.and_eq_true, decide_eq_true_eq] at h
      obtain ⟨rfl, h3⟩ := h
      obtain ⟨g1, g2⟩ := gl_of h3
      exact ⟨pe_bltn (u := .type "tuple") g1 (blt_of fx (by decide)) rfl rfl (by decide) g2, fun d z => (nomatch z), rfl⟩
    | dict =>
      have h : (decide (x = tyNm .dict) && isGl X.env.scope x) = true := h
      simp only [Bool.and_eq_true, decide_eq_true_eq] at h
      obtain ⟨rfl, h3⟩ := h
      obtain ⟨g1, g2⟩ := gl_of h3
      exact ⟨pe_bltn (u := .type "dict") g1 (blt_of fx (by decide)) rfl rfl (by decide) g2, fun d z => (nomatch z), rfl⟩
  | _ => cases t <;> simp [mTy] at h
theorem clsv (t : Ty) : ClsV (t.vv L) (t.v L) := by
  cases t with
  | cls c => exact .own _
  | _ => exact .ty _
theorem pa_tys (fx : Facts L n X.prog X.w X.K X.mg X.base) : ∀ {ts : List Ty} {es : List Expr}, mTys L X.env.scope ts es = true → PA X es (tVs (ts.map (Ty.vv L))) ∧ (∀ d, .cls d ∈ ts → d < L.nc) ∧ Paired ClsV (ts.map (Ty.vv L)) (ts.map (Ty.v L))
  | [], [], _ => ⟨pa_nil, by simp, .nil⟩
  | [], _ :: _, h => by simp [mTys] at h
  | _ :: _, [], h => by simp [mTys] at h
  | t :: ts, e :: es, h => by
    have h : (mTy L X.env.scope t e && mTys L X.env.scope ts es) = true := h
    rw [Bool.and_eq_true] at h
    obtain ⟨p1, p2, p3⟩ := pe_tyn fx h.1
    obtain ⟨q1, q2, q3⟩ := pa_tys fx h.2
    have hs : starEach (e :: es) X.env = (false, eval e X.env) :: starEach es X.env := by
      cases e with
      | Starred a b =>
        have z := h.1
        cases t <;> simp [mTy] at z
      | _ => rfl
    refine ⟨pa_cons p1 q1 hs, fun d hd => ?_, .cons (clsv t) q3⟩
    rcases List.mem_cons.mp hd with e | hd
    · exact p2 d e.symm
    · exact q2 d hd
theorem kit_all {P : Program} {w : World} {mg : PySem.Str → Option Vl} {base : Heap} (fx : Facts L n P w K mg base) {t : VT} (ho : ∀ c, t = .own c → (L.G.cls c).isSome = true) : ∀ {ts : List Ty}, (∀ d, .cls d ∈ ts → d < L.nc) → PySem.W.kitAny K (t.v L) (ts.map (Ty.v L)) = some (ts.any fun u => t.is L.G.sup u)
  | [], _ => kitAny_nil
  | u :: ts, h => by
    have k := fx.kit t u (fun c e => Option.isSome_iff_exists.mp (ho c e)) fun d e => h d (by rw [e]; exact List.mem_cons_self)
    rw [List.map_cons, List.any_cons]
    refine kitAny_cons k (fun e => ?_) fun e => ?_
    · rw [e, Bool.false_or]
      exact kit_all fx ho fun d hd => h d (List.mem_cons_of_mem _ hd)
    · rw [e, Bool.true_or]
theorem s_isi {a : E} {tupled : Bool} {ts : List Ty} {x : PySem.Str} {p pos : Pos} {e t : Expr} (hx : x = ("isinstance" : PySem.Str)) (hg : isGl X.env.scope x = true) (hm : mE L N sc a e = true) (ht : (match tupled, t with
    | false, t => mTys L X.env.scope ts [t]
    | true, .Tuple us _ _ => mTys L X.env.scope ts us
    | _, _ => false) = true) (hl : ts.length ≤ 1000) (ha : SndE L n a e X) : SndE L n (.isi a tupled ts) (.Call (.Name x p) [e, t] [] pos) X := by
  intro W τ σ ρ m H Q cx lc S h
  rw [evE] at h
  subst hx
  obtain ⟨g1, g2⟩ := gl_of hg
  have hb : X.mg ("isinstance" : PySem.Str) = none := blt_of cx.fx (by decide)
  have he := nostar hm [t] X.env
  cases tupled with
  | false =>
    have ht : mTys L X.env.scope ts [t] = true := ht
    obtain ⟨q1, q2, q3⟩ := pa_tys cx.fx ht
    have hs : (backTo pos (starEach [t] X.env)).any (·.1) = false := by
      cases t with
      | Starred a b =>
        cases ts with
        | nil => simp [mTys] at ht
        | cons u us => cases u <;> simp [mTys, mTy] at ht
      | _ => rfl
    refine PE.ev (pe_callB calW_ok g1 hb (by rfl) (pa_cons EvE.pe q1 he) (by decide) g2 he hs) (ha W τ σ ρ m H _ cx lc S (Post.bind (Ra := Rep X.K L) h fun d m1 ρ1 H1 v S1 st1 r1 h1 => ?_))
    show calW X (.builtin "isinstance") (v :: ts.map (Ty.vv L)) H1 Q
    split at h1
    · rename_i ea
      obtain ⟨vt, e1, e2⟩ := alive_vt ea
      cases ts with
      | nil => simp [mTys] at ht
      | cons u us =>
        cases us with
        | cons _ _ => simp [mTys] at ht
        | nil =>
          have k := cx.fx.kit vt u (fun c e => Option.isSome_iff_exists.mp (e2 c e)) fun d e => q2 d (by rw [e]; exact List.mem_cons_self)
          refine CallR.w call_isi ⟨v, u.vv L, vt.v L, u.v L, _, rfl, clsv u, tyx_of cx.fx S1 r1 e1 e2, k, ?_⟩
          have e3 : ([u].any fun t => isTy L.G.sup m1 d t) = vt.is L.G.sup u := by
            rw [List.any_cons, List.any_nil, Bool.or_false, isTy_is e1]
          rw [e3] at h1
          exact give S1 h1 (rep_bl.mpr rfl)
    · exact Post.stuck h1
  | true =>
    cases t with
    | Tuple us j tp =>
      have ht : mTys L X.env.scope ts us = true := ht
      obtain ⟨q1, q2, q3⟩ := pa_tys cx.fx ht
      refine PE.ev (pe_callB calW_ok g1 hb (by rfl) (pa_cons EvE.pe (pa_cons (pe_tup q1) pa_nil) he) (by decide) g2 he rfl) (ha W τ σ ρ m H _ cx lc S (Post.bind (Ra := Rep X.K L) h fun d m1 ρ1 H1 v S1 st1 r1 h1 => ?_))
      refine ⟨by rw [List.length_map, sizeLine_eq]; omega, fun q hq => ?_⟩
      show calW X (.builtin "isinstance") [v, .ref q] (upd H1 q (.tup (ts.map (Ty.vv L)))) Q
      split at h1
      · rename_i ea
        obtain ⟨vt, e1, e2⟩ := alive_vt ea
        have S2 := S1.new (o := .tup (ts.map (Ty.vv L))) hq
        have st2 := step_new (o := .tup (ts.map (Ty.vv L))) S1 hq
        refine CallR.w call_isiT ⟨v, q, ts.map (Ty.vv L), vt.v L, ts.map (Ty.v L), _, rfl, upd_same, q3, tyx_of cx.fx S2 (Rep.step S1 st2 _ _ r1) e1 e2, kit_all cx.fx e2 q2, ?_⟩
        have e3 : (ts.any fun t => isTy L.G.sup m1 d t) = ts.any fun u => vt.is L.G.sup u := by
          congr 1
          funext u
          exact isTy_is e1 u
        rw [e3] at h1
        exact h1 ρ1 _ _ S2 st2 (rep_bl.mpr rfl)
      · exact Post.stuck h1
    | _ => simp at ht
end
end Dy
end
section
set_option Elab.async false
set_option linter.all false
set_option maxRecDepth 100000
set_option maxHeartbeats 4000000
/-! DySE: len(set(t)), t a tuple of ints and texts. -/
namespace Dy
open PySem PySem.Spec PyProof.Rows L2
section
variable {α : Type} [DecidableEq α]
theorem undup_mem {x : α} : ∀ {l : List α}, x ∈ undup l ↔ x ∈ l
  | [] => Iff.rfl
  | y :: r => by
    show x ∈ (if y ∈ r then undup r else y :: undup r) ↔ _
    by_cases h : y ∈ r
    · rw [if_pos h, undup_mem, List.mem_cons]
      exact ⟨.inr, fun q => q.elim (fun e => e ▸ h) id⟩
    · rw [if_neg h, List.mem_cons, List.mem_cons, undup_mem]
theorem undup_nodup : ∀ {l : List α}, (undup l).Nodup
  | [] => List.nodup_nil
  | y :: r => by
    show (if y ∈ r then undup r else y :: undup r).Nodup
    by_cases h : y ∈ r
    · rw [if_pos h]; exact undup_nodup
    · rw [if_neg h]; exact List.nodup_cons.mpr ⟨fun q => h (undup_mem.mp q), undup_nodup⟩
theorem undup_le : ∀ l : List α, (undup l).length ≤ l.length
  | [] => Nat.le_refl _
  | x :: r => by
    show (if x ∈ r then undup r else x :: undup r).length ≤ r.length + 1
    have := undup_le r
    split
    · omega
    · rw [List.length_cons]; omega
theorem undup_snoc (l : List α) (x : α) : (undup (l ++ [x])).length = if x ∈ l then (undup l).length else (undup l).length + 1 := by
  have go : ∀ k : List α, k.Nodup → (∀ y, y ∈ k ↔ y ∈ l ++ [x]) → (undup (l ++ [x])).length = k.length := fun k hk hm =>
    ((List.perm_ext_iff_of_nodup undup_nodup hk).mpr fun y => by rw [undup_mem, hm]).length_eq
  by_cases h : x ∈ l
  · rw [if_pos h]
    refine go _ undup_nodup fun y => ?_
    rw [undup_mem, List.mem_append, List.mem_singleton]
    exact ⟨.inl, fun q => q.elim id fun e => e ▸ h⟩
  · rw [if_neg h]
    refine go (x :: undup l) (List.nodup_cons.mpr ⟨fun q => h (undup_mem.mp q), undup_nodup⟩) fun y => ?_
    rw [List.mem_cons, undup_mem, List.mem_append, List.mem_singleton]
    exact or_comm
end
instance lawKey : LawfulBEq L2.Key where
  eq_of_beq {a b} h := by
    cases a <;> cases b <;> first | cases h; done | skip
    · rename_i i j
      have h : (i == j) = true := h
      rw [eq_of_beq h]
    · rename_i x y
      have h : (x == y) = true := h
      rw [eq_of_beq h]
  rfl {a} := by
    cases a with
    | inl i => exact (show (i == i) = true from beq_self_eq_true i)
    | inr x => exact (show (x == x) = true from beq_self_eq_true x)
/-- the set at a has just the members of ks -/
def SetM (P : Program) (w : World) (h : Heap) (a : Addr) (ks : List L2.Key) : Prop := h.SetOf (mixKind P w) a (fun k => decide (k ∈ ks)) (undup ks).length
theorem SetM.keep {P : Program} {w : World} {h h' : Heap} {a : Addr} {ks : List Key} (R : SetM P w h a ks) (k : ∀ o, h.get? a = some o → h'.get? a = some o) : SetM P w h' a ks := setOf_at R k
abbrev emptySet (w : World) : PySem.Obj := { cls := .type "set", dict := none, data := .set #[] 0 (.fresh 0 0 (!w.params.followText "set-order")) }
section
variable {P : Program} {w : World} {A : Around} {E : Vl → Shared → Prop} {s : Shared}
theorem mix_scan {k : L2.Key} {v : Vl} (h : keyIs k v = true) : v.scannable = true := key_scan (keyIs_rel h)
/-- the keys go in, one by one -/
theorem fill_keys {I : Addr} {fp wr : List Addr} {G : Array GenState → Array GenState → Prop} {n : Nat} {Pv : Nat → Vl → Prop} {St : Nat → Shared → Prop} {R : Result → Shared → Prop}
    (wk : WalksS P w A.in1 I fp wr G n Pv St) (S : Addr) (hSf : S ∉ fp) (ks : List L2.Key) (hn : n = ks.length) (hb : ks.length + 1 < scanBound) (hv : ∀ i v, Pv i v → ∃ k : L2.Key, ks[i]? = some k ∧ keyIs k v = true) :
    ∀ (left i : Nat) (s : Shared), n - i = left → i ≤ n → St i s → SetM P w s.heap S (ks.take i) →
      (∀ s', Moved (S :: wr) G s s' → SetM P w s'.heap S ks → R (.ok (.ret .none)) s') →
      codeAny (model P w) A (.builtin "set.update.loop" ⟨[.ref S, .ref I], []⟩) R s := by
  have outS : S ∉ wr := fun z => hSf (wk.sub _ z)
  have more : ∀ b ∈ wr, b ∈ S :: wr := fun b z => List.mem_cons_of_mem _ z
  intro left
  induction left with
  | zero =>
    intro i s e1 e2 st hS fin
    obtain rfl : i = n := by omega
    refine codeAny_builtin F.entry_set_update_loop ?_
    rw [Around.under_plainId F.plain_set_update_loop _]
    show wpAny _ A.in1 (pyNext (.ref I) >>= _) _ _ s
    refine wpAny_bind (wk.done s _ _ st fun s1 mv => ?_)
    show wpAny _ A.in1 (ret Value.none) _ _ s1
    rw [List.take_of_length_le (by omega)] at hS
    exact wpAny_pure (fin s1 (mv.mono more) (hS.keep fun o q => mv.heap S o outS q))
  | succ left ih =>
    intro i s e1 e2 st hS fin
    have il : i < n := by omega
    refine codeAny_builtin F.entry_set_update_loop ?_
    rw [Around.under_plainId F.plain_set_update_loop _]
    show wpAny _ A.in1 (pyNext (.ref I) >>= _) _ _ s
    refine wpAny_bind (wk.item i s _ _ il st fun v s1 hp st1 mv => ?_)
    obtain ⟨k, hk, kv⟩ := hv i v hp
    have hS1 : SetM P w s1.heap S (ks.take i) := hS.keep fun o q => mv.heap S o outS q
    show wpAny _ A.in1 (holding [v] (setAdd S v) >>= _) _ _ s1
    refine wpAny_bind (wpAny_holding ?_)
    unfold setAdd
    refine wpAny_holding ?_
    refine wpAny_bind ((mixKind P w).pyHash (k := k) (v := v) kv ?_)
    have len : (undup (ks.take i)).length + 1 < scanBound := by
      have q := undup_le (ks.take i)
      have q2 := List.length_take_le i ks
      omega
    refine wpAny_setAddHashed_of (knd := mixKind P w) (s := { s1 with toks := s1.toks + 1 }) kv (mix_scan kv) hS1 len fun h2 same hS2 => ?_
    have hS3 : SetM P w h2 S (ks.take (i + 1)) := by
      have et : ks.take (i + 1) = ks.take i ++ [k] := by rw [List.take_add_one, hk] <;> rfl
      unfold SetM
      rw [et]
      refine SetOf_congr hS2 (fun y => ?_) ?_
      · by_cases h1 : y ∈ ks.take i <;> by_cases h2 : y = k <;> simp [h1, h2]
      · rw [undup_snoc]
        by_cases h1 : k ∈ ks.take i <;> simp [h1]
    have stay : ∀ b, b ≠ S → ∀ o, s1.heap.get? b = some o → h2.get? b = some o := fun b ne o q => by rw [same.2 b ne]; exact q
    refine wpAny_pure ⟨plainId_quiet F.plain_set_update_loop _, ih (i + 1) _ (by omega) il (wk.frame _ s1 _ _ st1 (Nat.le_succ _) fun b hbm o q => stay b (fun z => hSf (z ▸ hbm)) o q) hS3 fun s3 mv3 hS4 => ?_⟩
    exact fin s3 (Moved.trans wk.gtrans ((mv.mono more).then_heap (Nat.le_succ _) fun b o hbm q => stay b (fun z => hbm (by rw [z]; exact List.mem_cons_self)) o q) mv3) hS4
theorem setM_nil {h : Heap} {a : Addr} (ho : h.get? a = some (emptySet w)) : SetM P w h a [] := ((setObjOf_fresh (knd := mixKind P w) (!w.params.followText "set-order")).setOf ho (by decide)) |> fun q => SetOf_congr q (fun x => by simp) rfl
set_option maxHeartbeats 8000000 in
/-- set(t) -/
theorem set_of_keys {l : Addr} {items : Array Vl} (ks : List L2.Key) {Q : Vl → Shared → Prop} (calm : A.handled = none) (tl : s.heap.IsTuple l items) (sz : items.size = ks.length) (hv : ∀ (i : Nat) (v : Vl), items[i]? = some v → ∃ k : L2.Key, ks[i]? = some k ∧ keyIs k v = true) (hb : ks.length + 1 < scanBound)
    (fin : ∀ (h' : Heap) (tk : Nat), SetM P w h' s.heap.objs.size ks → (∀ b o, s.heap.get? b = some o → h'.get? b = some o) → Q (.ref s.heap.objs.size) { s with heap := h', toks := tk }) :
    wpAny (model P w) A (call (.type "set") [.ref l]) Q E s := by
  obtain ⟨cM, tM, mroE⟩ := F.called_set.mro
  have mk1 := F.called_set.made
  have mk2 := F.called_set.sub
  have mk3 := F.called_set.notType
  have mk4 := F.called_set.canCreate
  have mk5 := F.typeCall_set_1 (.ref l)
  refine wpAny_call (codeAny_of_tree ?_)
  show wpAny _ _ (callAny (.type "set") _) _ _ _
  refine wpAny_pure ⟨Code.quiet_builtin _ (by decide +kernel), codeAny_builtin F.entry_type_call ?_⟩
  rw [Around.under_plain (weight_type_call_type "set" [.ref l] []) rfl]
  repeat (any_goals (first | assumption | wp_step))
  refine codeAny_mono (code_set_led1 (.ref l) (E := E) (Q₁ := fun made s1 => made = .ref s.heap.objs.size ∧ s1 = { s with heap := s.heap.push (emptySet w) }) ⟨rfl, rfl⟩) fun r s1 hr => ?_
  cases r with
  | error e => exact hr
  | ok fl =>
    cases fl with
    | ret made =>
      obtain ⟨rfl, rfl⟩ := hr
      have g0 : (s.heap.push (emptySet w)).get? s.heap.objs.size = some (emptySet w) := Heap.get?_push_size _ rfl
      have ty0 : Shared.TypeIs { s with heap := s.heap.push (emptySet w) } (.ref s.heap.objs.size) "set" := ⟨_, g0, rfl⟩
      have in1 := F.called_set.init.lookup
      have in2 := F.called_set.init.bind (.ref s.heap.objs.size)
      repeat (any_goals (first | assumption | wp_step))
      refine codeAny_mono (codeAny_call_builtin (R := wants (fun r s2 => r = .none ∧ ∃ h' tk, s2 = { s with heap := h', toks := tk } ∧ SetM P w h' s.heap.objs.size ks ∧ ∀ b o, s.heap.get? b = some o → h'.get? b = some o) E) F.called_set.init.plain F.entry_set_init (check_set_init_1 ty0 ?_)) fun r2 s2 hr2 => ?_
      · obtain ⟨⟨oc, od, odt, osl⟩, g1, oc1, nl, od1⟩ := tl
        simp only at oc1 od1
        subst oc1 od1
        have g2 : (s.heap.push (emptySet w)).get? l = some { cls := .type "tuple", dict := od, data := .seq items nl, slots := osl } := Heap.get?_push_of_some _ g1
        have u1 := F.sub_tuple_set
        have u2 := F.sub_tuple_frozenset
        have u3 : (Value.type "tuple" == Value.type "dict") = false := by decide
        have tl1 : (s.heap.push (emptySet w)).IsTuple l items := ⟨_, g2, rfl, nl, rfl⟩
        unfold Builtin.«set.__init__» noKeywords Builtin.Frozenset.updateFrom
        generalize hIt : pyIter = It0
        wp_walk
        subst hIt
        refine wpAny_pyIter_tuple tl1 ?_
        refine wpAny_bind (wpAny_runValue ?_)
        have lt0 : l < s.heap.objs.size := Heap.lt_size g1
        have z1 : (s.heap.push (emptySet w)).objs.size = s.heap.objs.size + 1 := Heap.size_push ..
        have ne1 : l ≠ (s.heap.push (emptySet w)).objs.size := by rw [z1]; exact Nat.ne_of_lt (Nat.lt_succ_of_lt lt0)
        have hSf : s.heap.objs.size ∉ [(s.heap.push (emptySet w)).objs.size, l] := by
          rw [z1]
          simp only [List.mem_cons, List.not_mem_nil, or_false, not_or]
          exact ⟨Nat.ne_of_lt (Nat.lt_succ_self _), Nat.ne_of_gt lt0⟩
        refine fill_keys ((Walks.tuple (by simp [calm]) _ l ne1 items).toS) s.heap.objs.size hSf ks sz hb hv (items.size - 0) 0 _ (by omega) (Nat.zero_le _) ⟨⟨_, Heap.get?_push_size _ rfl, rfl, rfl⟩, (tl1.push _)⟩ (setM_nil (Heap.get?_push_of_some _ g0)) ?_
        intro s3 mv hS
        obtain ⟨h3, gn3, dr3, tk3, os3⟩ := s3
        obtain rfl : gn3 = s.gens := mv.gens
        obtain rfl : dr3 = s.drawn := mv.drawn
        obtain rfl : os3 = s.os := mv.os
        show wpAny _ _ _ _ _ _
        refine wpAny_pure ?_
        show wpAny _ _ (ret Value.none) _ _ _
        refine wpAny_pure ⟨rfl, h3, tk3, rfl, hS, fun b o q => ?_⟩
        have lb : b < s.heap.objs.size := Heap.lt_size q
        refine mv.heap b o ?_ (Heap.get?_push_of_some _ (Heap.get?_push_of_some _ q))
        simp only [List.mem_cons, List.not_mem_nil, or_false, not_or, z1]
        exact ⟨Nat.ne_of_lt lb, Nat.ne_of_lt (Nat.lt_succ_of_lt lb)⟩
      · cases r2 with
        | error e => exact hr2
        | ok fl2 =>
          cases fl2 with
          | ret v2 =>
            obtain ⟨rfl, h3, tk3, rfl, hS, stay⟩ := hr2
            repeat (any_goals (first | assumption | wp_step))
            exact fin _ _ hS stay
          | _ => exact hr2.elim
    | _ => exact hr.elim
end
section
variable {X : Cx}
def rSetM (K : PySem.W.Frag) (P : Program) (w : World) : List V → Hp → VK → Prop := fun vs H Q => ∃ (a : Addr) (ks : List L2.Key), vs = [.ref a] ∧ SqT K H a (ks.map kV) ∧ ks.length ≤ 4000 ∧ ∀ p, H p = none → Q (.ref p) (upd H p (SetK P w p (fun k => decide (k ∈ ks)) (undup ks).length))
theorem rel_keyIs {k : L2.Key} {v : Vl} (h : RelV (kV k) v) : keyIs k v = true := by
  cases k with
  | inl i => obtain ⟨t, rfl⟩ := h; exact keyIs_int i t
  | inr x => obtain ⟨t, rfl⟩ := h; exact keyIs_str x t
theorem cr_setM (hc : X.calm = true) : CallR X (.type "set") (rSetM X.K X.prog X.w) := by
  intro pins s σ H vs us Q I r h
  obtain ⟨a, ks, rfl, hs, hn, q⟩ := h
  obtain ⟨u, rfl, ru⟩ := vals1 r
  obtain rfl : u = Value.ref a := ru
  obtain ⟨its, rv, tl, hz⟩ := I.tuple hs
  have sz : its.toArray.size = ks.length := by rw [List.size_toArray, ← rv.length, List.length_map]
  refine set_of_keys ks (I.ok.hd hc) tl sz (fun i v hv => ?_) (by unfold scanBound; omega) fun h' tk R k => ?_
  · have hi : i < ks.length := by rw [← sz]; exact (Array.getElem?_eq_some_iff.mp hv).1
    have e : (ks.map kV)[i]? = some (kV ks[i]) := by rw [List.getElem?_map, List.getElem?_eq_getElem hi] <;> rfl
    obtain ⟨u, hu, ru⟩ := rv.get e
    rw [List.getElem?_toArray, hu] at hv
    cases hv
    exact ⟨_, List.getElem?_eq_getElem hi, rel_keyIs ru⟩
  · exact ⟨.ref s.heap.objs.size, _, I.laid (t' := tk) k (Nat.le_refl _) (setK_new R), rfl, q _ (I.hok.fresh (Nat.le_refl _))⟩
def rLenM (P : Program) (w : World) : List V → Hp → VK → Prop := fun vs H Q => ∃ (a : Addr) (S : L2.Key → Bool) (n : Nat), vs = [.ref a] ∧ H a = some (SetK P w a S n) ∧ Q (.int (n : Nat)) H
theorem cr_lenM : CallR X (.builtin "len") (rLenM X.prog X.w) := by
  intro pins s σ H vs us Q I r h
  obtain ⟨a, S, n, rfl, ha, q⟩ := h
  obtain ⟨u, rfl, ru⟩ := vals1 r
  obtain rfl : u = Value.ref a := ru
  obtain ⟨o, es, ep, t, ho, hex, hd, _, _, hb, hf, hc⟩ := setK_get I ha
  have small : es.size < 4096 := hb
  refine call_len_set ho hex hd hf (by omega) ⟨.int (n : Nat), H, I.tok _, ⟨_, by rw [hc]⟩, q⟩
end
end Dy
end
section
set_option Elab.async false
set_option linter.all false
set_option maxRecDepth 100000
set_option maxHeartbeats 4000000
/-! DySA: ranges written out, sets of ints, methods, tuples turned about. -/
namespace Dy
open PySem PySem.Spec PyProof.Rows L2
section
variable {α : Type} [DecidableEq α]
theorem mem_undup {x : α} : ∀ {l : List α}, x ∈ undup l ↔ x ∈ l
  | [] => Iff.rfl
  | y :: r => by
    show x ∈ (if y ∈ r then undup r else y :: undup r) ↔ _
    by_cases h : y ∈ r
    · rw [if_pos h, mem_undup, List.mem_cons]
      exact ⟨.inr, fun q => q.elim (fun e => e ▸ h) id⟩
    · rw [if_neg h, List.mem_cons, List.mem_cons, mem_undup]
theorem nodup_undup : ∀ {l : List α}, (undup l).Nodup
  | [] => List.nodup_nil
  | y :: r => by
    show (if y ∈ r then undup r else y :: undup r).Nodup
    by_cases h : y ∈ r
    · rw [if_pos h]; exact nodup_undup
    · rw [if_neg h]; exact List.nodup_cons.mpr ⟨fun q => h (mem_undup.mp q), nodup_undup⟩
theorem perm_same {l k : List α} (h1 : l.Nodup) (h2 : k.Nodup) (h : ∀ x, x ∈ l ↔ x ∈ k) : l.Perm k := (List.perm_ext_iff_of_nodup h1 h2).mpr h
end
section
variable {L : Lk} {n : Nat} {X : Cx} {K : PySem.W.Frag} {ρ : Pl} {m : Store} {H : Hp} {N : Nm} {sc : Scope}
/-! ### list(range(..)), tuple(range(..)) -/
def EvR (X : Cx) (e : Expr) (σ : L2.St) (H : Hp) (Q : Int → Int → Hp → Prop) : Prop := ∀ pins s, Inv X pins σ H s →
    wpAny (model X.prog X.w) X.A (eval e X.env) (fun x s' => ∃ r a b t u v H', x = .ref r ∧ IsRange s'.heap r a b 1 t u v ∧ Inv X pins σ H' s' ∧ Q a b H') X.xe s
theorem EvR.pr {e : Expr} : PRg X e (EvR X e) := fun pins s σ H Q I h => h pins s I
theorem PRg.ev {e : Expr} {t : L2.St → Hp → (Int → Int → Hp → Prop) → Prop} (p : PRg X e t) {σ : L2.St} {Q : Int → Int → Hp → Prop} (h : t σ H Q) : EvR X e σ H Q := fun pins s I => p pins s σ H Q I h
theorem rng_reps (a b : Int) : Reps K L ρ m H (rngD a b) (rgV a b) := by
  unfold rngD rgV
  have go : ∀ l : List Nat, Reps K L ρ m H (l.map fun i => D.int (a + (i : Nat))) (l.map fun i => V.int (a + (i : Nat))) := by
    intro l
    induction l with
    | nil => simp [reps_nil]
    | cons x l ih =>
      rw [List.map_cons, List.map_cons, reps_cons]
      exact ⟨_, _, rfl, rep_int.mpr rfl, ih⟩
  exact go _
theorem rg_ok {a b : Int} (h : rgOk a b = true) : RgOk a b := by
  unfold rgOk at h
  obtain ⟨h1, h2, h3, h4, h5⟩ := of_decide_eq_true h
  exact ⟨h1, h2, h3, h4, by rw [lim_eq, sizeLine_eq] at h5; omega⟩
theorem s_rng {tupled : Bool} {c : Es} {x y : PySem.Str} {p q qpos pos : Pos} {xs : List Expr} (hx : x = (if tupled then ("tuple" : PySem.Str) else "list")) (hg : isGl X.env.scope x = true) (hy : y = ("range" : PySem.Str)) (hgy : isGl X.env.scope y = true)
    (hl : (c.len == 1 || c.len == 2) = true) (hm : mEs L N sc c xs = true) (ha : SndA L n c xs X) : SndE L n (.rng tupled c) (.Call (.Name x p) [.Call (.Name y q) xs [] qpos] [] pos) X := by
  intro W τ σ ρ m H Q cx lc S h
  rw [evE] at h
  subst hy
  obtain ⟨g1, g2⟩ := gl_of hg
  obtain ⟨y1, y2⟩ := gl_of hgy
  have hr : X.mg ("range" : PySem.Str) = none := blt_of cx.fx (by decide)
  have key : EvR X (.Call (.Name "range" q) xs [] qpos) σ H (fun a b H1 => RgOk a b ∧ ∀ t, H1 t = none → Q (.ref t) (upd H1 t (if tupled then .tup (rgV a b) else .lst (rgV a b)))) := by
    have fin : ∀ {ds : List D} {m1 : Store} {ρ1 : Pl} {H1 : Hp} {vs : List V}, SR X.K L ρ1 m1 H1 → Reps X.K L ρ1 m1 H1 ds vs → Post X.K L (RE X.K L) ρ1 m1 H1 (match ds with
      | [.int b] => if rgOk 0 b then .ok (if tupled then .tup (rngD 0 b) else .fl (rngD 0 b)) m1 else .stuck
      | [.int a, .int b] => if rgOk a b then .ok (if tupled then .tup (rngD a b) else .fl (rngD a b)) m1 else .stuck
      | _ => .stuck) Q (rX W σ) → (∃ b, vs = [.int b] ∧ RgOk 0 b ∧ ∀ t, H1 t = none → Q (.ref t) (upd H1 t (if tupled then .tup (rgV 0 b) else .lst (rgV 0 b)))) ∨
        (∃ a b, vs = [.int a, .int b] ∧ RgOk a b ∧ ∀ t, H1 t = none → Q (.ref t) (upd H1 t (if tupled then .tup (rgV a b) else .lst (rgV a b)))) := by
      intro ds m1 ρ1 H1 vs S1 r1 h1
      split at h1
      · rename_i b
        obtain ⟨v, rfl, r2⟩ := reps1 r1
        rw [rep_int] at r2
        subst r2
        split at h1
        · rename_i hk
          refine .inl ⟨b, rfl, rg_ok hk, fun t ht => ?_⟩
          cases tupled with
          | true => exact give_tup S1 h1 (rng_reps 0 b) ht
          | false => exact give_fl S1 h1 (rng_reps 0 b) ht
        · exact Post.stuck h1
      · rename_i a b
        obtain ⟨v, u, rfl, r2, r3⟩ := reps2 r1
        rw [rep_int] at r2 r3
        subst r2 r3
        split at h1
        · rename_i hk
          refine .inr ⟨a, b, rfl, rg_ok hk, fun t ht => ?_⟩
          cases tupled with
          | true => exact give_tup S1 h1 (rng_reps a b) ht
          | false => exact give_fl S1 h1 (rng_reps a b) ht
        · exact Post.stuck h1
      · exact Post.stuck h1
    have hE : EvA X xs σ H (fun vs H1 => (∃ b, vs = [.int b] ∧ RgOk 0 b ∧ ∀ t, H1 t = none → Q (.ref t) (upd H1 t (if tupled then .tup (rgV 0 b) else .lst (rgV 0 b)))) ∨
        (∃ a b, vs = [.int a, .int b] ∧ RgOk a b ∧ ∀ t, H1 t = none → Q (.ref t) (upd H1 t (if tupled then .tup (rgV a b) else .lst (rgV a b))))) :=
      ha W τ σ ρ m H _ cx lc S (Post.bind (Ra := Reps X.K L) h fun ds m1 ρ1 H1 vs S1 st1 r1 h1 => fin S1 r1 h1)
    intro pins s I
    have hA := hE qpos pins s I
    cases xs with
    | nil => cases c <;> simp [mEs, Es.len] at hm hl
    | cons e es =>
      cases c with
      | nil => simp [mEs] at hm
      | cons a r =>
        rw [mEs, Bool.and_eq_true] at hm
        have he := nostar hm.1 es X.env
        have hp := nostars (env := X.env) (pos := qpos) hm.2
        refine wpAny_Call_Name_kw (ld_blt I y1 hr (by rfl) ?_ (by decide) y2)
        refine PyProof.Rows.callWith_type1 (thn hA fun us s1 ⟨vs, H1, I1, r1, q1⟩ => ?_) he hp
        rcases q1 with ⟨b, rfl, k1, k2⟩ | ⟨a, b, rfl, k1, k2⟩
        · obtain ⟨u, rfl, ru⟩ := vals1 r1
          obtain ⟨t, rfl⟩ := ru
          exact call_range_1 ⟨_, 0, b, _, _, _, H1, rfl, IsRange.new _ _ _ _ _ _ _, I1.kept fun b u e => Heap.get?_push_of_some _ e, k1, k2⟩
        · obtain ⟨u, w, rfl, ru, rw'⟩ := vals2 r1
          obtain ⟨t, rfl⟩ := ru
          obtain ⟨t', rfl⟩ := rw'
          exact call_range_2 ⟨_, a, b, _, _, _, H1, rfl, IsRange.new _ _ _ _ _ _ _, I1.kept fun b u e => Heap.get?_push_of_some _ e, k1, k2⟩
  subst hx
  cases tupled with
  | true =>
    have hb : X.mg ("tuple" : PySem.Str) = none := blt_of cx.fx (by decide)
    exact PE.ev (pe_tupRg cx.calm g1 hb EvR.pr rfl) key
  | false =>
    have hb : X.mg ("list" : PySem.Str) = none := blt_of cx.fx (by decide)
    exact PE.ev (pe_listRg cx.calm g1 hb EvR.pr rfl) key
/-! ### sets of ints -/
def rSetI (K : PySem.W.Frag) (w : World) : List V → Hp → VK → Prop := fun vs H Q => ∃ (a : Addr) (ns : List Int), vs = [.ref a] ∧ SqT K H a (ns.map V.int) ∧ ns.length ≤ 4000 ∧
  ∀ p c, H p = none → c ≤ ns.length → Q (.ref p) (upd H p (SetO w p (fun j => decide (j ∈ ns)) c))
theorem cr_setI (hc : X.calm = true) : CallR X (.type "set") (rSetI X.K X.w) := by
  intro pins s σ H vs us Q I r h
  obtain ⟨a, ns, rfl, hs, hn, q⟩ := h
  obtain ⟨u, rfl, ru⟩ := vals1 r
  obtain rfl : u = Value.ref a := ru
  obtain ⟨its, rv, pl, hz⟩ := I.tuple hs
  refine call_set_tupI ns (I.ok.hd hc) pl (by simpa using intsAre_of rv) (by unfold scanBound; omega) fun h' tk c R hle k => ?_
  exact ⟨.ref s.heap.objs.size, _, I.laid (t' := tk) k (Nat.le_refl _) (setO_new R), rfl, q _ c (I.hok.fresh (Nat.le_refl _)) hle⟩
theorem setR_len {w : World} {h : Heap} {a : Addr} {ns : List Int} {c : Nat} (R : SetR w h a (fun j => decide (j ∈ ns)) c) : c = (undup ns).length := by
  obtain ⟨o, es, ep, t, _, _, _, _, nd, hm, _, _, hc, _⟩ := R
  have p : (es.toList.map keyOf).Perm (undup ns) := perm_same nd nodup_undup fun x => by
    rw [mem_undup, ← hm x, decide_eq_true_eq]
  rw [← p.length_eq, List.length_map, Array.length_toList, hc]
def rLenSet (w : World) : List V → Hp → VK → Prop := fun vs H Q => ∃ (a : Addr) (ns : List Int) (c : Nat), vs = [.ref a] ∧ H a = some (SetO w a (fun j => decide (j ∈ ns)) c) ∧ Q (.int ((undup ns).length : Nat)) H
theorem cr_lenSet : CallR X (.builtin "len") (rLenSet X.w) := by
  intro pins s σ H vs us Q I r h
  obtain ⟨a, ns, c, rfl, ha, q⟩ := h
  obtain ⟨u, rfl, ru⟩ := vals1 r
  obtain rfl : u = Value.ref a := ru
  have R := setO_get I ha
  have e := setR_len R
  obtain ⟨o, es, ep, t, ho, hex, hd, _, _, _, hb, hf, hc, _⟩ := R
  have hb2 : es.size < 4096 := hb
  refine call_len_set ho hex hd hf (by omega) ⟨.int ((undup ns).length : Nat), H, I.tok _, ⟨_, by rw [← e, ← hc]⟩, q⟩
theorem tup_ints {k : Nat} {x : D} {v : V} {ns : List Int} (r : Rep K L ρ m H x v) (e : tupInts k x = some ns) : ∃ a, v = .ref a ∧ SqT K H a (ns.map V.int) ∧ ns.length ≤ k := by
  unfold tupInts at e
  split at e
  · split at e
    · rename_i hl
      rw [rep_tup] at r
      obtain ⟨a, vs, e1, h1, h2⟩ := r
      rw [h2.ints e] at h1
      refine ⟨a, e1, h1, ?_⟩
      have q := h2.length
      rw [h2.ints e, List.length_map] at q
      omega
    · cases e
  · cases e
theorem len_undup (ns : List Int) : (undup ns).length ≤ ns.length := by
  induction ns with
  | nil => exact Nat.le_refl _
  | cons x r ih =>
    show (if x ∈ r then undup r else x :: undup r).length ≤ r.length + 1
    split
    · omega
    · rw [List.length_cons]; omega
theorem undup_inj {α β : Type} [DecidableEq α] [DecidableEq β] {f : α → β} (hf : ∀ a b, f a = f b → a = b) : ∀ l : List α, (undup (l.map f)).length = (undup l).length
  | [] => rfl
  | x :: r => by
    have ih := undup_inj hf r
    have e : f x ∈ r.map f ↔ x ∈ r := by
      rw [List.mem_map]
      exact ⟨fun ⟨y, hy, e⟩ => hf _ _ e ▸ hy, fun h => ⟨x, h, rfl⟩⟩
    show (if f x ∈ r.map f then undup (r.map f) else f x :: undup (r.map f)).length = (if x ∈ r then undup r else x :: undup r).length
    by_cases h : x ∈ r
    · rw [if_pos h, if_pos (e.mpr h), ih]
    · rw [if_neg h, if_neg (fun z => h (e.mp z)), List.length_cons, List.length_cons, ih]
theorem asKeys_reps : ∀ {xs : List D} {ks : List Ky} {vs : List V}, asKeys xs = some ks → Reps K L ρ m H xs vs → vs = (ks.map kyV).map kV
  | [], ks, vs, e, r => by
    cases e
    exact reps_nil.mp r
  | x :: xs, ks, vs, e, r => by
    have e : (match keyD x, asKeys xs with
      | some k, some ks => some (k :: ks)
      | _, _ => none) = some ks := e
    cases e1 : keyD x with
    | none => rw [e1] at e; cases e
    | some k =>
      cases e2 : asKeys xs with
      | none => rw [e1, e2] at e; cases e
      | some l =>
        rw [e1, e2] at e
        cases e
        rw [reps_cons] at r
        obtain ⟨v, r', rfl, r1, r2⟩ := r
        rw [key_rep e1 r1, asKeys_reps e2 r2]
        rfl
theorem tup_keys {k : Nat} {x : D} {v : V} {ks : List Ky} (r : Rep K L ρ m H x v) (e : tupKeys k x = some ks) : ∃ a, v = .ref a ∧ SqT K H a ((ks.map kyV).map kV) ∧ ks.length ≤ k := by
  unfold tupKeys at e
  split at e
  · split at e
    · rename_i hl
      rw [rep_tup] at r
      obtain ⟨a, vs, e1, h1, h2⟩ := r
      have q := asKeys_reps e h2
      have ql := h2.length
      rw [q] at h1 ql
      simp only [List.length_map] at ql
      exact ⟨a, e1, h1, by omega⟩
    · cases e
  · cases e
theorem s_lenset {a : E} {x y : PySem.Str} {p q qpos pos : Pos} {e : Expr} (hx : x = ("len" : PySem.Str)) (hg : isGl X.env.scope x = true) (hy : y = ("set" : PySem.Str)) (hgy : isGl X.env.scope y = true) (hm : mE L N sc a e = true) (ha : SndE L n a e X) :
    SndE L n (.lenset a) (.Call (.Name x p) [.Call (.Name y q) [e] [] qpos] [] pos) X := by
  intro W τ σ ρ m H Q cx lc S h
  rw [evE] at h
  subst hx hy
  obtain ⟨g1, g2⟩ := gl_of hg
  obtain ⟨y1, y2⟩ := gl_of hgy
  have hb : X.mg ("len" : PySem.Str) = none := blt_of cx.fx (by decide)
  have hr : X.mg ("set" : PySem.Str) = none := blt_of cx.fx (by decide)
  refine PE.ev (pe_callB cr_lenM g1 hb (by rfl) (pa_cons (pe_callTy (cr_setM cx.calm) y1 hr (by rfl) (pa_cons EvE.pe pa_nil (nostar hm [] X.env)) (by decide) y2 (nostar hm [] X.env) rfl) pa_nil rfl) (by decide) g2 rfl rfl) ?_
  refine ha W τ σ ρ m H _ cx lc S (Post.bind (Ra := Rep X.K L) h fun d m1 ρ1 H1 v S1 st1 r1 h1 => ?_)
  obtain ⟨d2, e1, h2⟩ := Post.ofO h1
  obtain ⟨k, e2, e3⟩ := Option.map_eq_some_iff.mp e1
  obtain ⟨ns, e4, e5⟩ := Option.map_eq_some_iff.mp e2
  subst e3 e5
  obtain ⟨b, rfl, hs, hz⟩ := tup_keys r1 e4
  refine ⟨b, ns.map kyV, rfl, hs, by rw [List.length_map]; exact hz, fun t ht => ?_⟩
  refine ⟨t, _, _, rfl, upd_same, h2 ρ1 _ _ (S1.new ht) (step_new S1 ht) ?_⟩
  rw [undup_inj fun a b => kyV_inj]
  exact rep_int.mpr rfl
theorem s_sortset {a : E} {x y : PySem.Str} {p q qpos pos : Pos} {e : Expr} (hx : x = ("sorted" : PySem.Str)) (hg : isGl X.env.scope x = true) (hy : y = ("set" : PySem.Str)) (hgy : isGl X.env.scope y = true) (hm : mE L N sc a e = true) (ha : SndE L n a e X) :
    SndE L n (.sortset a) (.Call (.Name x p) [.Call (.Name y q) [e] [] qpos] [] pos) X := by
  intro W τ σ ρ m H Q cx lc S h
  rw [evE] at h
  subst hx hy
  obtain ⟨g1, g2⟩ := gl_of hg
  obtain ⟨y1, y2⟩ := gl_of hgy
  have hb : X.mg ("sorted" : PySem.Str) = none := blt_of cx.fx (by decide)
  have hr : X.mg ("set" : PySem.Str) = none := blt_of cx.fx (by decide)
  refine PE.ev (pe_callB (cr_sortedSet cx.calm) g1 hb (by rfl) (pa_cons (pe_callTy (cr_setI cx.calm) y1 hr (by rfl) (pa_cons EvE.pe pa_nil (nostar hm [] X.env)) (by decide) y2 (nostar hm [] X.env) rfl) pa_nil rfl) (by decide) g2 rfl rfl) ?_
  refine ha W τ σ ρ m H _ cx lc S (Post.bind (Ra := Rep X.K L) h fun d m1 ρ1 H1 v S1 st1 r1 h1 => ?_)
  obtain ⟨d2, e1, h2⟩ := Post.ofO h1
  obtain ⟨k, e2, e3⟩ := Option.map_eq_some_iff.mp e1
  obtain ⟨ns, e4, e5⟩ := Option.map_eq_some_iff.mp e2
  subst e3 e5
  obtain ⟨b, rfl, hs, hz⟩ := tup_ints r1 e4
  refine ⟨b, ns, rfl, hs, by omega, fun t c ht hc => ?_⟩
  refine ⟨t, _, c, rfl, upd_same, by omega, fun ks u hp hmem hlen hu => ?_⟩
  have S2 := S1.new (o := SetO X.w t (fun j => decide (j ∈ ns)) c) ht
  have st2 := step_new (o := SetO X.w t (fun j => decide (j ∈ ns)) c) S1 ht
  have ep : ks = isort ltI (undup ns) := isort_int (perm_same (hp.imp fun {a b} h => by omega) nodup_undup fun x => by rw [hmem x, mem_undup, decide_eq_true_eq]) (hp.imp fun {a b} h => by omega)
  subst ep
  exact give_fl S2 (Post.next h2 st2) (Reps.ofInts _) hu
end
end Dy
end
section
set_option Elab.async false
set_option linter.all false
set_option maxRecDepth 100000
set_option maxHeartbeats 4000000
/-! DyB: methods of lists, displays of dicts, new lists, sequences turned about, a star. -/
namespace Dy
open PySem PySem.Spec PyProof.Rows L2
section
variable {L : Lk} {n : Nat} {X : Cx} {K : PySem.W.Frag} {ρ : Pl} {m : Store} {H : Hp} {N : Nm} {sc : Scope}
theorem plain_base {o : Expr} {attr : PySem.Str} {env : PySem.Env} {whole : Sem Vl} (h : plainBase o = true) : attributeBase o attr env whole = whole := by
  unfold attributeBase
  split
  · rename_i x p p2
    simp [plainBase] at h
  · rfl
/-- a live list is given another content -/
theorem give_set {k : Nat} {xs ys : List D} {a : Ad} {vs ws : List V} {Q : VK} {R : XK} (S : SR K L ρ m H) (e : m[k]? = some (.lst xs)) (ha : ρ.c[k]? = some a) (r : Reps K L ρ m H ys ws) (h : Post K L (RE K L) ρ m H (.ok .non (m.set k (.lst ys))) Q R) : Q .non (upd H a (.lst ws)) := by
  have st := step_set (c' := .lst ys) (o := .lst ws) S e (by simp) ha
  exact h ρ _ _ (S.set e (by simp) ha ⟨ws, upd_same, Reps.step S st _ _ r⟩) st (rep_non.mpr rfl)
theorem lst_of {x : D} {k : Nat} (e : m.lstOf x = some k) : x = .cell k ∧ ∃ xs, m[k]? = some (.lst xs) := by
  unfold Store.lstOf at e
  split at e
  · split at e
    · rename_i h
      cases e
      exact ⟨rfl, _, h⟩
    · cases e
  · cases e
theorem few1 {z : Expr} {X : Cx} {cpos : Pos} (hz : starEach [z] X.env = (false, eval z X.env) :: starEach [] X.env) : ((backTo cpos (starEach [z] X.env)).all (fun x => !x.1) && (backToKw cpos (keywordEach [] X.env)).all (fun x => x.1.isSome)
      && decide (([z] : List Expr).length + ([] : List Keyword).length + (if ([] : List Keyword).isEmpty then 0 else 1) < 30)) = true := by
  rw [hz]
  rfl
theorem s_app {a e : E} {x z : Expr} {y : PySem.Str} {apos cpos : Pos} (hb : plainBase x = true) (hline : (apos.endLine == cpos.line) = true) (hy : y = ("append" : PySem.Str)) (hm : mE L N sc e z = true) (ha : SndE L n a x X) (he : SndE L n e z X) :
    SndE L n (.app a e) (.Call (.Attribute x y apos) [z] [] cpos) X := by
  intro W τ σ ρ m H Q cx lc S h
  rw [evE] at h
  subst hy
  have hz := nostar hm [] X.env
  refine PE.ev (pe_bm PySem.F.plainAttrs_list PySem.F.slot_list_append PySem.F.type_list_append mt_append EvE.pe (pa_cons EvE.pe pa_nil hz) (plain_base hb) (few1 hz) hline hz rfl) ?_
  refine ha W τ σ ρ m H _ cx lc S (Post.bind (Ra := Rep X.K L) h fun d m1 ρ1 H1 v S1 st1 r1 h1 => ?_)
  split at h1
  · rename_i k ek
    obtain ⟨rfl, ws, ew⟩ := lst_of ek
    obtain ⟨p, vs, rfl, hp, h2, _⟩ := cell_lst S1 r1 ew
    refine ⟨.inl ⟨rfl, vs, .of h2⟩, ?_⟩
    refine he W τ σ ρ1 m1 H1 _ cx (lc.step S st1) S1 (Post.bind (Ra := Rep X.K L) h1 fun d2 m2 ρ2 H2 u S2 st2 r2 h3 => ?_)
    split at h3
    · rename_i xs e2
      split at h3
      · rename_i hl
        obtain ⟨p2, us, e3, hp2, h4, h5⟩ := cell_lst S2 (Rep.step S1 st2 _ _ r1) e2
        cases e3
        refine ⟨p, us, u, rfl, rfl, h4, by rw [← h5.length, ← lim_eq]; exact hl, ?_⟩
        exact give_set (vs := us) S2 e2 hp2 (h5.app (.one r2)) h3
      · exact Post.stuck h3
    · exact Post.stuck h3
  · exact Post.stuck h1
theorem s_ext {a e : E} {x z : Expr} {y : PySem.Str} {apos cpos : Pos} (hb : plainBase x = true) (hline : (apos.endLine == cpos.line) = true) (hy : y = ("extend" : PySem.Str)) (hm : mE L N sc e z = true) (ha : SndE L n a x X) (he : SndE L n e z X) :
    SndE L n (.ext a e) (.Call (.Attribute x y apos) [z] [] cpos) X := by
  intro W τ σ ρ m H Q cx lc S h
  rw [evE] at h
  subst hy
  have hz := nostar hm [] X.env
  refine PE.ev (pe_bm PySem.F.plainAttrs_list PySem.F.slot_list_extend PySem.F.type_list_extend mt_extend EvE.pe (pa_cons EvE.pe pa_nil hz) (plain_base hb) (few1 hz) hline hz rfl) ?_
  refine ha W τ σ ρ m H _ cx lc S (Post.bind (Ra := Rep X.K L) h fun d m1 ρ1 H1 v S1 st1 r1 h1 => ?_)
  split at h1
  · rename_i k ek
    obtain ⟨rfl, ws, ew⟩ := lst_of ek
    obtain ⟨p, vs, rfl, hp, h2, _⟩ := cell_lst S1 r1 ew
    refine ⟨.inl ⟨rfl, vs, .of h2⟩, ?_⟩
    refine he W τ σ ρ1 m1 H1 _ cx (lc.step S st1) S1 (Post.bind (Ra := Rep X.K L) h1 fun d2 m2 ρ2 H2 u S2 st2 r2 h3 => ?_)
    split at h3
    · rename_i ys xs e1 e2
      split at h3
      · rename_i hl
        obtain ⟨p2, us, e3, hp2, h4, h5⟩ := cell_lst S2 (Rep.step S1 st2 _ _ r1) e2
        cases e3
        obtain ⟨q, zs, rfl, h6, h7⟩ := flat_lst S2 r2 e1
        refine ⟨p, q, us, zs, rfl, rfl, h4, h6, by rw [← h5.length, ← h7.length, ← lim_eq]; exact hl, ?_⟩
        exact give_set (vs := us) S2 e2 hp2 (h5.app h7) h3
      · exact Post.stuck h3
    · exact Post.stuck h3
  · exact Post.stuck h1
/-! ### new lists: a frozen list that was just made becomes a place of the store -/
def isNew : E → Bool
  | .bi .list _ => true
  | .bi .sorted _ => true
  | _ => false
/-! ### displays of dicts -/
def trsD (X : Cx) : List (Option Expr) → List Expr → List (TE × TE)
  | some k :: ks, v :: vs => (EvE X k, EvE X v) :: trsD X ks vs
  | _, _ => []
def EvD (X : Cx) (ks : List (Option Expr)) (vs : List Expr) (σ : L2.St) (H : Hp) (Q : List (V × V) → Hp → Prop) : Prop := tPairs (trsD X ks vs) σ H Q
inductive RepP (K : PySem.W.Frag) (L : Lk) (ρ : Pl) (m : Store) (H : Hp) : List D → List (V × V) → Prop where
  | nil : RepP K L ρ m H [] []
  | cons {a b : D} {x y : V} {ds : List D} {ps : List (V × V)} (h : Rep K L ρ m H a x) (h' : Rep K L ρ m H b y) (r : RepP K L ρ m H ds ps) : RepP K L ρ m H (a :: b :: ds) ((x, y) :: ps)
def SndD (L : Lk) (n : Nat) (c : Es) (ks : List (Option Expr)) (vs : List Expr) (X : Cx) : Prop := ∀ (W : WX) (τ : Loc) (σ : L2.St) (ρ : Pl) (m : Store) (H : Hp) (Q : List (V × V) → Hp → Prop), Cxt L n X W → LocR X.K L ρ m H τ σ → SR X.K L ρ m H →
  Post X.K L (RepP X.K L) ρ m H (evEs L.G (run L.G L.fns n) c τ m) Q (rX W σ) → EvD X ks vs σ H Q
theorem d_nil : SndD L n .nil [] [] X := by
  intro W τ σ ρ m H Q cx lc S h
  rw [evEs] at h
  exact Post.ok h S .nil
theorem d_cons {a b : E} {r : Es} {k v : Expr} {ks : List (Option Expr)} {vs : List Expr} (ha : SndE L n a k X) (hb : SndE L n b v X) (hr : SndD L n r ks vs X) : SndD L n (.cons a (.cons b r)) (some k :: ks) (v :: vs) X := by
  intro W τ σ ρ m H Q cx lc S h
  rw [evEs] at h
  refine ha W τ σ ρ m H _ cx lc S (Post.bind (Ra := Rep X.K L) h fun x m1 ρ1 H1 u S1 st1 r1 h1 => ?_)
  rw [evEs] at h1
  have h1 : Post X.K L (RepP X.K L) ρ1 m1 H1 ((evE L.G (run L.G L.fns n) b τ m1).bind fun y m2 => (evEs L.G (run L.G L.fns n) r τ m2).bind fun xs m3 => .ok (x :: y :: xs) m3) Q (rX W σ) := by
    cases e : evE L.G (run L.G L.fns n) b τ m1 with
    | ok y m2 =>
      rw [e] at h1
      simp only [Res.bind] at h1 ⊢
      cases e2 : evEs L.G (run L.G L.fns n) r τ m2 with
      | ok ys m3 => rw [e2] at h1; exact h1
      | exc z m3 => rw [e2] at h1; exact h1
      | stuck => rw [e2] at h1; exact h1
    | exc y m2 => rw [e] at h1; exact h1
    | stuck => rw [e] at h1; exact h1
  refine hb W τ σ ρ1 m1 H1 _ cx (lc.step S st1) S1 (Post.bind (Ra := Rep X.K L) h1 fun y m2 ρ2 H2 w S2 st2 r2 h2 => ?_)
  refine hr W τ σ ρ2 m2 H2 _ cx ((lc.step S st1).step S1 st2) S2 (Post.bind (Ra := RepP X.K L) h2 fun ys m3 ρ3 H3 ps S3 st3 r3 h3 => ?_)
  exact Post.ok h3 S3 (.cons (Rep.step S2 st3 _ _ (Rep.step S1 st2 _ _ r1)) (Rep.step S2 st3 _ _ r2) r3)
theorem pps_of {pos : Pos} : ∀ {c : Es} {ks : List (Option Expr)} {vs : List Expr}, mDs L N sc c ks vs = true → PPs X pos ks vs (trsD X ks vs) ∧ ks.all (·.isSome) = true ∧ ks.length = vs.length ∧ c.len = 2 * ks.length
  | .nil, [], [], _ => ⟨pps_nil, rfl, rfl, rfl⟩
  | .nil, _ :: _, _, h => by simp [mDs] at h
  | .nil, [], _ :: _, h => by simp [mDs] at h
  | .cons a .nil, _, _, h => by simp [mDs] at h
  | .cons a (.cons b r), [], _, h => by simp [mDs] at h
  | .cons a (.cons b r), none :: _, _, h => by simp [mDs] at h
  | .cons a (.cons b r), some _ :: _, [], h => by simp [mDs] at h
  | .cons a (.cons b r), some k :: ks, v :: vs, h => by
    rw [mDs, Bool.and_eq_true] at h
    obtain ⟨p1, p2, p3, p4⟩ := pps_of (pos := pos) h.2
    refine ⟨pps_cons EvE.pe EvE.pe p1, by simpa using p2, by simp [p3], ?_⟩
    show r.len + 1 + 1 = 2 * (ks.length + 1)
    omega
theorem pairs_of : ∀ {ds : List D} {ps : List (V × V)} {cs : List (Ky × D)}, RepP K L ρ m H ds ps → pairsD ds = some cs → ∃ kv, RepK K L ρ m H cs kv ∧ ps = kv.map fun p => (kV p.1, p.2)
  | [], ps, cs, r, e => by
    cases r
    cases e
    exact ⟨[], rfl, rfl⟩
  | [_], ps, cs, r, e => by cases r
  | a :: b :: ds, ps, cs, r, e => by
    cases r with
    | cons h h' r =>
      have e : (match keyD a, pairsD ds with
        | some y, some ps => some ((y, b) :: ps)
        | _, _ => none) = some cs := e
      split at e
      · rename_i y qs e1 e2
        cases e
        obtain ⟨kv, h1, h2⟩ := pairs_of r e2
        refine ⟨(kyV y, _) :: kv, ⟨_, kv, rfl, h', h1⟩, ?_⟩
        rw [List.map_cons, h2, key_rep e1 h]
      · cases e
theorem putK_pos {p : Key × V} {r : List (Key × V)} {k : Key} {v : V} (e : p.1 = k) (hn : ∀ q ∈ r, q.1 ≠ k) : L2.putK (p :: r) k v = (k, v) :: r := by
  unfold L2.putK
  have : ((p :: r).any fun kv => decide (kv.1 = k)) = true := by rw [List.any_cons, decide_eq_true e, Bool.true_or]
  rw [if_pos this, List.map_cons, if_pos e, e]
  congr 1
  exact (List.map_congr_left fun q hq => if_neg (hn q hq)).trans (List.map_id r)
theorem putK_neg {p : Key × V} {r : List (Key × V)} {k : Key} {v : V} (e : p.1 ≠ k) : L2.putK (p :: r) k v = p :: L2.putK r k v := by
  unfold L2.putK
  rw [List.any_cons, decide_eq_false e, Bool.false_or]
  split
  · rw [List.map_cons, if_neg e]
  · rfl
theorem RepK.put {k : Ky} {d : D} {v : V} (rd : Rep K L ρ m H d v) : ∀ {kvs : List (Ky × D)} {kv : List (Key × V)}, RepK K L ρ m H kvs kv → (kv.map (·.1)).Nodup → RepK K L ρ m H (Dy.putK k d kvs) (L2.putK kv (kyV k) v)
  | [], kv, h, _ => by
    obtain rfl : kv = [] := h
    exact ⟨v, [], rfl, rd, rfl⟩
  | p :: r, kv, h, hn => by
    obtain ⟨w, vr, rfl, h1, h2⟩ := h
    rw [List.map_cons, List.nodup_cons] at hn
    show RepK K L ρ m H (if p.1 = k then (k, d) :: r else p :: Dy.putK k d r) _
    by_cases e : p.1 = k
    · rw [if_pos e, putK_pos (by show kyV p.1 = kyV k; rw [e]) fun q hq z => hn.1 (List.mem_map.mpr ⟨q, hq, by show q.1 = kyV p.1; rw [z, e]⟩)]
      exact ⟨v, vr, rfl, rd, h2⟩
    · rw [if_neg e, putK_neg (fun z => e (kyV_inj z))]
      exact ⟨w, _, rfl, h1, RepK.put rd h2 hn.2⟩
theorem nodup_put {k : Key} {v : V} {kv : List (Key × V)} (hn : (kv.map (·.1)).Nodup) : ((L2.putK kv k v).map (·.1)).Nodup := by
  unfold L2.putK
  split
  · rw [List.map_map]
    have : (kv.map ((fun x => x.1) ∘ fun kv => if kv.1 = k then (kv.1, v) else kv)) = kv.map (·.1) := List.map_congr_left fun q _ => by
      show (if q.1 = k then (q.1, v) else q).1 = q.1
      split <;> rfl
    rw [this]
    exact hn
  · rename_i h
    rw [List.map_append, List.nodup_append]
    refine ⟨hn, by simp, fun a ha b hb => ?_⟩
    obtain ⟨q, hq, rfl⟩ := List.mem_map.mp ha
    simp at hb
    subst hb
    intro z
    exact h (List.any_eq_true.mpr ⟨q, hq, decide_eq_true z⟩)
theorem merge_of : ∀ {cs : List (Ky × D)} {kv : List (Key × V)} {kvs : List (Ky × D)} {kv0 : List (Key × V)}, RepK K L ρ m H cs kv → RepK K L ρ m H kvs kv0 → (kv0.map (·.1)).Nodup →
    RepK K L ρ m H (cs.foldl (fun kvs p => Dy.putK p.1 p.2 kvs) kvs) (mergeK kv0 kv) ∧ ((mergeK kv0 kv).map (·.1)).Nodup
  | [], kv, kvs, kv0, h, h0, hn => by
    obtain rfl : kv = [] := h
    exact ⟨h0, hn⟩
  | p :: r, kv, kvs, kv0, h, h0, hn => by
    obtain ⟨w, vr, rfl, h1, h2⟩ := h
    have q := merge_of h2 (RepK.put (k := p.1) h1 h0 hn) (nodup_put hn)
    exact q
theorem s_dsp0 {pos : Pos} : SndE L n (.dsp .nil) (.Dict [] [] pos) X := by
  intro W τ σ ρ m H Q cx lc S h
  rw [evE] at h
  have h : Post X.K L (RE X.K L) ρ m H (Res.ok (D.cell m.length) (m ++ [.dct false []])) Q (rX W σ) := by
    simpa [evEs, Res.bind, pairsD] using h
  refine PE.ev pe_dnewK fun p hp => ?_
  have st := step_cell (o := .dK []) (c := .dct false []) S (S.idle hp)
  have S0 : SR X.K L (ρ.add p) (m ++ [.dct false []]) (upd H p (.dK [])) := S.newCell (S.idle hp) ⟨[], rfl, List.nodup_nil, upd_same⟩
  exact h (ρ.add p) _ _ S0 st (rep_cell.mpr ⟨p, rfl, add_at S⟩)
theorem s_dsp1 {c : Es} {ks : List (Option Expr)} {vs : List Expr} {pos : Pos} (hl : 0 < c.len) (h15 : ks.length ≤ 15) (hm : mDs L N sc c ks vs = true) (ha : SndD L n c ks vs X) : SndE L n (.dsp c) (.Dict ks vs pos) X := by
  intro W τ σ ρ m H Q cx lc S h
  rw [evE] at h
  obtain ⟨p1, p2, p3, p4⟩ := pps_of (X := X) (pos := pos) hm
  have h0 : ks ≠ [] := fun z => by rw [z] at p4; simp at p4; omega
  · refine PE.ev (pe_disp p1 p2 p3 h0 h15) fun p hp => ?_
    have st := step_cell (o := .dK []) (c := .dct false []) S (S.idle hp)
    have S0 : SR X.K L (ρ.add p) (m ++ [.dct false []]) (upd H p (.dK [])) := S.newCell (S.idle hp) ⟨[], rfl, List.nodup_nil, upd_same⟩
    refine ha W τ σ _ _ _ _ cx (lc.step S st) S0 (Post.bind (Ra := RepP X.K L) (Post.next h st) fun ds m1 ρ1 H1 ps S1 st1 r1 h1 => ?_)
    split at h1
    · rename_i cs e1 e2
      split at h1
      · rename_i hl15
        have hk : (ρ.add p).c[m.length]? = some p := add_at S
        have hk1 := st1.get hk
        obtain ⟨kv0, g1, g2, g3⟩ := S1.cell _ _ p e2 hk1
        obtain rfl : kv0 = [] := g1
        obtain ⟨kv, k1, k2⟩ := pairs_of r1 e1
        obtain ⟨q1, q2⟩ := merge_of k1 (kvs := []) (kv0 := []) rfl List.nodup_nil
        refine ⟨g3, kv, k2, by rw [← k1.length]; exact hl15, ?_⟩
        have st2 := step_set (c' := .dct false (cs.foldl (fun kvs p => Dy.putK p.1 p.2 kvs) [])) (o := .dK (mergeK [] kv)) S1 e2 (by simp) hk1
        refine h1 ρ1 _ _ (S1.set e2 (by simp) hk1 ⟨_, RepK.step S1 st2 _ _ q1, q2, upd_same⟩) st2 (rep_cell.mpr ⟨p, rfl, hk1⟩)
      · exact Post.stuck h1
    · exact Post.stuck h1
theorem s_dsp {c : Es} {ks : List (Option Expr)} {vs : List Expr} {pos : Pos} (h15 : ks.length ≤ 15) (hm : mDs L N sc c ks vs = true) (ha : SndD L n c ks vs X) : SndE L n (.dsp c) (.Dict ks vs pos) X := by
  match c, ks, vs, hm, h15, ha with
  | .nil, [], [], _, _, _ => exact s_dsp0
  | .cons a r, ks, vs, hm, h15, ha => exact s_dsp1 (Nat.succ_pos _) h15 hm ha
/-! ### sequences turned about -/
section
variable {prog : Program} {w : World} {A : Around} {E : Value → Shared → Prop} {s : Shared}
theorem places_neg (n : Nat) : Builtin.Slice.slicePlaces ((n : Int) - 1) (-1) (-1) = n := by
  unfold Builtin.Slice.slicePlaces
  have h1 : ¬ ((-1 : Int) > 0) := by omega
  rw [if_neg h1]
  by_cases h : (n : Int) - 1 > -1
  · rw [if_pos h]
    have : (-(-1 : Int)) = 1 := rfl
    rw [this, Int.ediv_one]
    omega
  · rw [if_neg h]
    omega
theorem pick_rev (xs : Array Vl) : ((List.range xs.size).filterMap fun (m : Nat) => xs[(((xs.size : Int) - 1) + (m : Int) * (-1)).toNat]?).toArray = xs.toList.reverse.toArray := by
  congr 1
  obtain ⟨l⟩ := xs
  show ((List.range l.length).filterMap fun (m : Nat) => l.toArray[(((l.length : Int) - 1) + (m : Int) * (-1)).toNat]?) = l.reverse
  have go : ∀ k, k ≤ l.length → ((List.range k).filterMap fun (m : Nat) => l.toArray[(((l.length : Int) - 1) + (m : Int) * (-1)).toNat]?) = l.reverse.take k := by
    intro k
    induction k with
    | zero => intro _; rfl
    | succ k ih =>
      intro hk
      rw [List.range_succ, List.filterMap_append, ih (by omega)]
      have e : (((l.length : Int) - 1) + (k : Int) * (-1)).toNat = l.length - 1 - k := by omega
      have hl : l.length - 1 - k < l.length := by omega
      have hr : k < l.reverse.length := by rw [List.length_reverse]; omega
      rw [List.take_succ_eq_append_getElem hr]
      congr 1
      rw [List.filterMap_cons, List.filterMap_nil, e]
      simp [hl]
  have q := go l.length (Nat.le_refl _)
  rw [q, ← List.length_reverse (as := l), List.take_length]
theorem slice_neg {sl : Addr} {vl vu vs : Vl} {n : Nat} {Q : Int × Int × Nat → Shared → Prop} (hs : s.heap.IsSliceOf sl vl vu vs) (pl : IsPart vl none) (pu : IsPart vu none) (ps : IsPart vs (some (-1)))
    (h : Q ((n : Int) - 1, -1, n) s) : wpAny (model prog w) A (Builtin.Slice.sliceApplied (.ref sl) (pure (n : Int))) Q E s := by
  obtain ⟨os, hos, hcs, hds⟩ := id hs
  unfold Builtin.Slice.sliceApplied Builtin.Slice.sliceFields
  refine wpAny_bind (wpAny_bind (wpAny_field hos hds (x := vl) rfl (wpAny_bind (wpAny_field hos hds (x := vu) rfl (wpAny_bind (wpAny_field hos hds (x := vs) rfl (wpAny_pure ?_)))))))
  refine wpAny_bind (HT.slicePart_ ps ?_)
  show wpAny _ _ (if ((-1 : Int) == 0) = true then _ else _) _ _ s
  rw [if_neg (by decide)]
  refine wpAny_bind (HT.slicePart_ pl (wpAny_bind (HT.slicePart_ pu (wpAny_bind (wpAny_pure ?_)))))
  show wpAny _ _ (pure ((n : Int) - 1, (-1 : Int), Builtin.Slice.slicePlaces ((n : Int) - 1) (-1) (-1))) _ _ s
  rw [places_neg]
  exact wpAny_pure h
theorem get_tup_rev {t sl : Addr} {items : Array Vl} {vl vu vs : Vl} {Q : Vl → Shared → Prop} (ht : IsTup s.heap t items) (hs : s.heap.IsSliceOf sl vl vu vs) (pl : IsPart vl none) (pu : IsPart vu none) (ps : IsPart vs (some (-1)))
    (h : Q (.ref s.heap.objs.size) { s with heap := s.heap.push { cls := .type "tuple", data := .seq items.toList.reverse.toArray } })
    (hsz : items.size ≤ sizeLine) : wpAny (model prog w) A (getItem (.ref t) (.ref sl)) Q E s := by
  have hok : sizeOk (.seq items.toList.reverse.toArray) := by
    show items.toList.reverse.toArray.size ≤ sizeLine
    rw [List.size_toArray, List.length_reverse, Array.length_toList]
    exact hsz
  obtain ⟨os, hos, hcs, hds⟩ := id hs
  have hTs : s.TypeIs (.ref sl) "slice" := ⟨os, hos, hcs⟩
  unfold getItem
  try with_reducible refine wpAny_holding ?_
  first | refine wpAny_bind (wpAny_pure ?_) | skip
  refine wpAny_bind (wpAny_sequenceKey ht.typeIs (by decide) ?_)
  refine wpAny_bind (wpAny_callSpecial?_slot (name := Str.ofString "__getitem__") ht.typeIs PyProof.Rows.slot_tuple_getitem
    (wpAny_call_entry PyProof.Rows.slot_tuple_getitem ht.typeIs entry_tuple_getitem ?_ (args_tuple_getitem _ _)))
  show wpAny _ _ (Builtin.Tuple.tupleItemsOf (.ref t) >>= _) _ _ s
  refine wpAny_bind (tupleItemsOf_ ht ?_)
  refine wpAny_bind (wpAny_typeOf hTs ?_)
  rw [if_pos (by decide)]
  refine wpAny_bind (slice_neg (n := items.size) hs pl pu ps ?_)
  have hno : ¬ ((((items.size : Int) - 1) == 0 && (-1 : Int) == 1 && items.size == items.size) = true) := by
    rw [show ((-1 : Int) == 1) = false by decide, Bool.and_false, Bool.false_and]
    exact Bool.false_ne_true
  show wpAny _ _ (if (((items.size : Int) - 1) == 0 && (-1 : Int) == 1 && items.size == items.size) = true then _ else _) _ _ s
  rw [if_neg hno, pick_rev]
  exact wpAny_bind (m := Builtin.Tuple.tupleExact _) (wpAny_newObj_type (wpAny_pure ⟨_, rfl, wpAny_pure h⟩) hok)
end
def tRev2 (K : PySem.W.Frag) (te : TE) : TE := fun σ H Q => te σ H fun x H1 => ∃ a xs, x = .ref a ∧ ((SqL K H1 a xs ∧ ∀ p, H1 p = none → Q (.ref p) (upd H1 p (.lst xs.reverse))) ∨ (SqT K H1 a xs ∧ ∀ p, H1 p = none → Q (.ref p) (upd H1 p (.tup xs.reverse))))
theorem pe_rev2 {e : Expr} {te : TE} {k : Nat} {p1 p2 p3 pos : Pos} (he : PE X e te) : PE X (.Subscript e (.Slice none none (some (.UnaryOp .USub (.Constant (.int 1) k p1) p2)) p3) pos) (tRev2 X.K te) := by
  refine ⟨fun pins s σ H Q I h => Subscript_ (thn (he.run pins s σ H _ I h) fun v s1 ⟨x, H1, I1, r1, q1⟩ => ?_)⟩
  obtain ⟨a, xs, rfl, q⟩ := q1
  obtain rfl : v = Value.ref a := r1
  have hst : PO X (some (.UnaryOp .USub (.Constant (.int 1) k p1) p2)) (tPart (tUn (rU fun i => .int (-i)) (tC (.int 1)))) := po_some (pe_un un_neg pe_int)
  refine wpAny_Slice (thn (po_none.run pins s1 σ H1 (fun o H2 => o = none ∧ H2 = H1) I1 ⟨rfl, rfl⟩) fun vl s2 ⟨l, H2, I2, pl, el, e2⟩ => ?_)
  subst el e2
  refine thn (po_none.run pins s2 σ H2 (fun o H3 => o = none ∧ H3 = H2) I2 ⟨rfl, rfl⟩) fun vu s3 ⟨u, H3, I3, pu, eu, e3⟩ => ?_
  subst eu e3
  refine thn (hst.run pins s3 σ H3 (fun o H4 => o = some (-1) ∧ H4 = H3) I3 ⟨1, rfl, -1, rfl, rfl, rfl⟩) fun vs s4 ⟨o, H4, I4, ps, eo, e4⟩ => ?_
  subst eo e4
  have I5 : Inv X pins σ H4 { s4 with heap := s4.heap.push { cls := .type "slice", data := .fields #[vl, vu, vs] } } := I4.kept (t' := s4.toks) fun b ob q => Heap.get?_push_of_some _ q
  show wpAny (model X.prog X.w) X.A (subscriptTail e (.Slice none none (some (.UnaryOp .USub (.Constant (.int 1) k p1) p2)) p3) (.ref a) (.ref s4.heap.objs.size)) (EP X pins σ Q) X.xe { s4 with heap := s4.heap.push { cls := .type "slice", data := .fields #[vl, vu, vs] } }
  rcases q with ⟨hx, q⟩ | ⟨hx, q⟩
  · obtain ⟨its, r, ht, hz⟩ := I5.list hx
    have hlen := r.length
    refine tail_any (ops := [.ref a, .ref s4.heap.objs.size]) ht.isList.typeIs (PySem.slot_list_getitem.lookup) ?_ (by with_unfolding_all rfl)
    refine wpAny_getItem_list_slice ht.isList (Heap.IsSliceOf.new _ vl vu vs) pl pu ps (by decide) ?_ (by rw [List.size_toArray]; omega)
    rw [PySem.W.krv_pick]
    refine ⟨.ref _, _, I5.laid (t' := s4.toks) (o := .lst xs.reverse) (fun b ob q => Heap.get?_push_of_some _ q) (Nat.le_refl _) ?_, rfl, q _ (I5.hok.fresh (Nat.le_refl _))⟩
    exact ⟨by rw [List.length_reverse]; exact hz, _, 0, r.reverse, Heap.get?_push_size _ rfl⟩
  · obtain ⟨its, r, ht, hz⟩ := I5.tuple hx
    have hlen := r.length
    refine tail_any (ops := [.ref a, .ref s4.heap.objs.size]) ht.typeIs (PyProof.Rows.slot_tuple_getitem.lookup) ?_ (by with_unfolding_all rfl)
    refine get_tup_rev ht (Heap.IsSliceOf.new _ vl vu vs) pl pu ps ?_ (by rw [List.size_toArray]; omega)
    refine ⟨.ref _, _, I5.laid (t' := s4.toks) (o := .tup xs.reverse) (fun b ob q => Heap.get?_push_of_some _ q) (Nat.le_refl _) ?_, rfl, q _ (I5.hok.fresh (Nat.le_refl _))⟩
    exact ⟨by rw [List.length_reverse]; exact hz, its.toArray.toList.reverse, by rw [List.toList_toArray]; exact r.reverse, IsTup.new _ _⟩
theorem s_rev {a : E} {x : Expr} {k : Nat} {p1 p2 p3 pos : Pos} (ha : SndE L n a x X) : SndE L n (.rev a) (.Subscript x (.Slice none none (some (.UnaryOp .USub (.Constant (.int 1) k p1) p2)) p3) pos) X := by
  intro W τ σ ρ m H Q cx lc S h
  rw [evE] at h
  refine PE.ev (pe_rev2 EvE.pe) (ha W τ σ ρ m H _ cx lc S (Post.bind (Ra := Rep X.K L) h fun d m1 ρ1 H1 v S1 st1 r1 h1 => ?_))
  obtain ⟨d2, e1, h2⟩ := Post.ofO h1
  unfold revD at e1
  split at e1
  · cases e1
    rw [rep_tup] at r1
    obtain ⟨p, vs, rfl, g1, g2⟩ := r1
    exact ⟨p, vs, rfl, .inr ⟨g1, fun q hq => give_tup S1 h2 g2.rev hq⟩⟩
  · obtain ⟨xs, e2, e3⟩ := Option.map_eq_some_iff.mp e1
    subst e3
    obtain ⟨p, vs, rfl, g1, g2⟩ := lst_at S1 r1 e2
    exact ⟨p, vs, rfl, .inl ⟨g1, fun q hq => give_fl S1 h2 g2.rev hq⟩⟩
/-! ### a tuple with a star ahead -/
theorem s_tupS {a b : E} {x y : Expr} {j : Nat} {sp pos : Pos} (hm : mE L N sc b y = true) (ha : SndE L n a x X) (hb : SndE L n b y X) : SndE L n (.tupS a b) (.Tuple [.Starred x sp, y] j pos) X := by
  intro W τ σ ρ m H Q cx lc S h
  rw [evE] at h
  refine PE.ev (pe_tup (StX.pa_star EvE.pe (pa_cons EvE.pe pa_nil (nostar hm [] X.env)) rfl)) (ha W τ σ ρ m H _ cx lc S (Post.bind (Ra := Rep X.K L) h fun d m1 ρ1 H1 v S1 st1 r1 h1 => ?_))
  split at h1
  · rename_i xs e1
    obtain ⟨p, vs, rfl, g1, g2, _⟩ := seq_at S1 r1 e1
    refine ⟨p, vs, rfl, g1.symm, ?_⟩
    refine hb W τ σ ρ1 m1 H1 _ cx (lc.step S st1) S1 (Post.bind (Ra := Rep X.K L) h1 fun d2 m2 ρ2 H2 u S2 st2 r2 h2 => ?_)
    split at h2
    · rename_i hl
      refine ⟨?_, fun q hq => give_tup S2 h2 ((Reps.step S1 st2 _ _ g2).app (.one r2)) hq⟩
      rw [List.length_append, List.length_singleton, ← g2.length]
      rw [lim_eq] at hl
      omega
    · exact Post.stuck h2
  · exact Post.stuck h1
/-! ### a new list becomes a place of the store -/
section
variable {xs : List D} {d : D} {vs : List V} {Q : VK}
theorem list_of (S : SR X.K L ρ m H) (r : Reps X.K L ρ m H xs vs) (e : listD m xs = some d) : ∃ ys ws, d = .fl ys ∧ Reps X.K L ρ m H ys ws ∧ ((∀ l, H l = none → Q (.ref l) (upd H l (.lst ws))) → calW X (.type "list") vs H Q) := by
  unfold listD at e
  split at e
  · obtain ⟨ys, e1, e2⟩ := Option.map_eq_some_iff.mp e
    obtain ⟨v, rfl, r1⟩ := reps1 r
    obtain ⟨a, ws, rfl, hs, h2, _⟩ := seq_at S r1 e1
    exact ⟨ys, ws, e2.symm, h2, fun k => CallR.w call_list_of ⟨a, ws, rfl, hs, k⟩⟩
  · cases e
theorem sorted_of (hu : X.A.units + 64 < cLine) (S : SR X.K L ρ m H) (r : Reps X.K L ρ m H xs vs) (e : sortedD m xs = some d) : ∃ ys, d = .fl ys ∧ ((∀ ws l, Reps X.K L ρ m H ys ws → H l = none → Q (.ref l) (upd H l (.lst ws))) → calW X (.builtin "sorted") vs H Q) := by
  unfold sortedD at e
  split at e
  · obtain ⟨ys, e1, e2⟩ := Option.bind_eq_some_iff.mp e
    obtain ⟨zs, e3, e4⟩ := Option.map_eq_some_iff.mp e2
    obtain ⟨v, rfl, r1⟩ := reps1 r
    obtain ⟨a, ws, rfl, h1, h2⟩ := lst_at S r1 e1
    refine ⟨zs, e4.symm, fun k => ?_⟩
    clear e4
    unfold sortD at e3
    split at e3
    · rename_i ns e4
      cases e3
      rw [h2.ints e4] at h1
      refine CallR.w cr_sortedI ⟨a, ns, rfl, h1, fun ns' p hp hs hn => ?_⟩
      rw [isort_int hp hs]
      exact k _ _ (Reps.ofInts _) hn
    · split at e3
      · rename_i ts e4
        cases e3
        exact CallR.w (cr_sortTI hu) ⟨a, ws, ts, rfl, h1, ti_of h2 e4, fun zs p ht hn => k _ _ (of_ti ht) hn⟩
      · cases e3
  · cases e
end
theorem s_new {b : Bi} {c : Es} {x : PySem.Str} {xs : List Expr} {p pos : Pos} (hb : b = .list ∨ b = .sorted) (hx : x = biNm b) (hg : isGl X.env.scope x = true) (hl : 0 < c.len) (hm : mEs L N sc c xs = true) (ha : SndA L n c xs X) : SndE L n (.new (.bi b c)) (.Call (.Name x p) xs [] pos) X := by
  intro W τ σ ρ m H Q cx lc S h
  rw [evE, evE] at h
  obtain ⟨g1, g2⟩ := gl_of hg
  cases xs with
  | nil => cases c <;> simp [mEs, Es.len] at hm hl
  | cons e es =>
    cases c with
    | nil => simp [Es.len] at hl
    | cons a r =>
      rw [mEs, Bool.and_eq_true] at hm
      have he := nostar hm.1 es X.env
      have hp := nostars (env := X.env) (pos := pos) hm.2
      have h : Post X.K L (RE X.K L) ρ m H ((evEs L.G (run L.G L.fns n) (.cons a r) τ m).bind fun vs m1 => (ofO m1 (biD m1 b vs)).bind fun x m1 => match x with
        | .fl xs => newCell m1 (.lst xs)
        | _ => .stuck) Q (rX W σ) := by
        cases e : evEs L.G (run L.G L.fns n) (.cons a r) τ m with
        | ok y m2 => rw [e] at h; exact h
        | exc y m2 => rw [e] at h; exact h
        | stuck => rw [e] at h; exact h
      have hbn : X.mg x = none := blt_of cx.fx (by subst hx; cases b <;> decide)
      subst hx
      rcases hb with rfl | rfl
      · refine PE.ev (pe_callTy calW_ok g1 hbn (by rfl) EvA.pa (by decide) g2 he hp) (ha W τ σ ρ m H _ cx lc S (Post.bind (Ra := Reps X.K L) h fun ds m1 ρ1 H1 vs S1 st1 r1 h1 => ?_))
        cases eb : listD m1 ds with
        | none => rw [show biD m1 .list ds = none from eb] at h1; exact Post.stuck h1
        | some d =>
          rw [show biD m1 .list ds = some d from eb] at h1
          obtain ⟨ys, ws, rfl, r2, k⟩ := list_of (Q := Q) S1 r1 eb
          exact k fun l hl => give_cell S1 h1 r2 hl
      · refine PE.ev (pe_callB calW_ok g1 hbn (by rfl) EvA.pa (by decide) g2 he hp) (ha W τ σ ρ m H _ cx lc S (Post.bind (Ra := Reps X.K L) h fun ds m1 ρ1 H1 vs S1 st1 r1 h1 => ?_))
        have hu := cx.hu
        cases eb : sortedD m1 ds with
        | none => rw [show biD m1 .sorted ds = none from eb] at h1; exact Post.stuck h1
        | some d =>
          rw [show biD m1 .sorted ds = some d from eb] at h1
          obtain ⟨ys, rfl, k⟩ := sorted_of (Q := Q) (by omega) S1 r1 eb
          exact k fun ws l r2 hl => give_cell S1 h1 r2 hl
end
end Dy
end
section
set_option Elab.async false
set_option linter.all false
set_option maxRecDepth 100000
set_option maxHeartbeats 4000000
/-! DyC: calls of the text's own functions, its own classes. -/
namespace Dy
open PySem PySem.Spec PyProof.Rows L2
section
variable {L : Lk} {n : Nat} {X : Cx} {K : PySem.W.Frag} {ρ : Pl} {m : Store} {H : Hp} {N : Nm} {sc : Scope}
theorem run_some {f : Nat} {ds : List D} {Q : VK} {R : XK} (h : Post K L (RE K L) ρ m H (run L.G L.fns n f ds m) Q R) : ∃ F, L.fns f = some F ∧ ds.length = F.np := by
  cases n with
  | zero => exact Post.stuck h
  | succ n =>
    rw [run] at h
    split at h
    · rename_i F e
      split at h
      · rename_i hl
        exact ⟨F, e, hl⟩
      · exact Post.stuck h
    · exact Post.stuck h
theorem sp_of {f : Nat} {ds : List D} {vs : List V} {Q : VK} {R : XK} (S : SR K L ρ m H) (r : Reps K L ρ m H ds vs) (h : Post K L (RE K L) ρ m H (run L.G L.fns n f ds m) Q R) : spF K L n f vs H Q R := by
  obtain ⟨F, e, hl⟩ := run_some h
  exact ⟨ρ, m, ds, F, e, hl, S, r, h⟩
theorem s_call {f : Nat} {c : Es} {x : PySem.Str} {xs : List Expr} {p pos : Pos} (hx : x = L.fnm f) (hf : L.glo f = true) (hs : (L.fns f).isSome = true) (hg : isGl X.env.scope x = true) (hm : mEs L N sc c xs = true) (ha : SndA L n c xs X) : SndE L n (.call f c) (.Call (.Name x p) xs [] pos) X := by
  intro W τ σ ρ m H Q cx lc S h
  rw [evE] at h
  obtain ⟨F, eF⟩ := Option.isSome_iff_exists.mp hs
  obtain ⟨g1, g2⟩ := gl_of hg
  obtain ⟨fd, ps, fo, fg, fk, fb, fp, _⟩ := cx.fx.fn f F eF
  have hmg := fg hf
  rw [← hx] at hmg
  have go : EvA X xs σ H fun vs H1 => spF X.K L n f vs H1 Q (WE W σ) := ha W τ σ ρ m H _ cx lc S (Post.bind (Ra := Reps X.K L) h fun ds m1 ρ1 H1 vs S1 st1 r1 h1 => sp_of S1 r1 h1)
  have hr : Room (2 * n + 2) X.A := cx.room.mono (by omega)
  intro pins s I
  refine wpAny_Call_Name_kw (ld_glob I g1 hmg ?_ g2)
  have hA := go pos pins s I
  cases xs with
  | nil =>
    refine PySem.W.callWith_K0 I.kIn fk ?_
    have hA : wpAny (model X.prog X.w) X.A (spliced (backTo pos (starEach [] X.env))) (AP X pins σ fun vs H1 => spF X.K L n f vs H1 Q (WE W σ)) X.xe s := hA
    cases c with
    | cons _ _ => simp [mEs] at hm
    | nil =>
      rw [evEs] at h
      exact run_fnS (us := []) fo hr fb (passAt cx.tk σ) I .nil (sp_of S (reps_nil.mpr rfl) h)
  | cons e es =>
    cases c with
    | nil => simp [mEs] at hm
    | cons a r =>
      rw [mEs, Bool.and_eq_true] at hm
      exact PySem.W.callWith_K (h₀ := X.base) I.ok.mod.kin fk (thn hA fun us s1 ⟨vs, H1, I1, r, q⟩ => ⟨I1.kIn, run_fnS fo hr fb (passAt cx.tk σ) I1 r q⟩) (nostar hm.1 es X.env) (nostars hm.2)
/-! ### with names -/
def SndK (L : Lk) (n : Nat) (c : Es) (ks : List Keyword) (X : Cx) : Prop := ∀ (W : WX) (τ : Loc) (σ : L2.St) (ρ : Pl) (m : Store) (H : Hp) (Q : List V → Hp → Prop), Cxt L n X W → LocR X.K L ρ m H τ σ → SR X.K L ρ m H →
  Post X.K L (RA X.K L) ρ m H (evEs L.G (run L.G L.fns n) c τ m) Q (rX W σ) → EvK X ks σ H Q
theorem k_nil : SndK L n .nil [] X := by
  intro W τ σ ρ m H Q cx lc S h
  rw [evEs] at h
  exact PK.ev pk_nil (Post.ok h S (show Reps X.K L ρ m H [] [] by rw [reps_nil]))
theorem k_cons {a : E} {r : Es} {k : PySem.Str} {kp : Pos} {e : Expr} {ks : List Keyword} (ha : SndE L n a e X) (hr : SndK L n r ks X) : SndK L n (.cons a r) (⟨some k, e, kp⟩ :: ks) X := by
  intro W τ σ ρ m H Q cx lc S h
  rw [evEs] at h
  refine PK.ev (pk_cons EvE.pe EvK.pk) (ha W τ σ ρ m H _ cx lc S (Post.bind (Ra := Rep X.K L) h fun x m1 ρ1 H1 v S1 st1 r1 h1 => ?_))
  refine hr W τ σ ρ1 m1 H1 _ cx (lc.step S st1) S1 (Post.bind (Ra := Reps X.K L) h1 fun xs m2 ρ2 H2 vs S2 st2 r2 h2 => ?_)
  refine Post.ok h2 S2 (show Reps X.K L ρ2 m2 H2 (x :: xs) (v :: vs) from ?_)
  rw [reps_cons]
  exact ⟨v, vs, rfl, Rep.step S1 st2 _ _ r1, r2⟩
theorem kw_all {pos : Pos} {env : PySem.Env} : ∀ {c : Es} {ks : List Keyword}, mKs L N sc c ks = true → (backToKw pos (keywordEach ks env)).all (·.1.isSome) = true ∧ (backToKw pos (keywordEach ks env)).any (·.1.isNone) = false ∧ (backToKw pos (keywordEach ks env)).filterMap (·.1) = ks.filterMap (·.arg) ∧ (ks.filterMap (·.arg)).length = c.len
  | .nil, [], _ => ⟨rfl, rfl, rfl, rfl⟩
  | .nil, _ :: _, h => by simp [mKs] at h
  | .cons a r, [], h => by simp [mKs] at h
  | .cons a r, ⟨none, e, kp⟩ :: ks, h => by simp [mKs] at h
  | .cons a r, ⟨some k, e, kp⟩ :: ks, h => by
    rw [mKs, Bool.and_eq_true] at h
    obtain ⟨h1, h2, h3, h4⟩ := kw_all (pos := pos) (env := env) h.2
    refine ⟨?_, ?_, ?_, ?_⟩
    · show (true && (backToKw pos (keywordEach ks env)).all (·.1.isSome)) = true
      rw [h1] <;> rfl
    · show (false || (backToKw pos (keywordEach ks env)).any (·.1.isNone)) = false
      rw [h2] <;> rfl
    · show k :: (backToKw pos (keywordEach ks env)).filterMap (·.1) = k :: ks.filterMap (·.arg)
      rw [h3]
    · show (ks.filterMap (·.arg)).length + 1 = r.len + 1
      rw [h4]
theorem perm_reps {ds : List D} {vs : List V} (r : Reps K L ρ m H ds vs) : ∀ {pm : List Nat} {us : List D}, permD ds pm = some us → Reps K L ρ m H us (pm.map fun i => vs.getD i .non)
  | [], us, e => by
    cases e
    exact reps_nil.mpr rfl
  | i :: pm, us, e => by
    have e : (match ds[i]?, permD ds pm with
      | some d, some ds => some (d :: ds)
      | _, _ => none) = some us := e
    split at e
    · rename_i d qs e1 e2
      cases e
      obtain ⟨v, h1, h2⟩ := r.get e1
      rw [List.map_cons, reps_cons]
      refine ⟨_, _, rfl, ?_, perm_reps r e2⟩
      rw [List.getD_eq_getElem?_getD, h1]
      exact h2
    · cases e
theorem vals_pick {vs : List V} {us : List Vl} (r : Vals vs us) : ∀ {pm : List Nat}, (∀ i ∈ pm, i < vs.length) → Vals (pm.map fun i => vs.getD i .non) (pm.map fun i => us.getD i Value.none)
  | [], _ => .nil
  | i :: pm, h => by
    rw [List.map_cons, List.map_cons]
    have hi := h i List.mem_cons_self
    obtain ⟨u, h1, h2⟩ := r.get (List.getElem?_eq_getElem hi)
    refine .cons ?_ (vals_pick r fun j hj => h j (List.mem_cons_of_mem _ hj))
    rw [List.getD_eq_getElem?_getD, List.getD_eq_getElem?_getD, h1, List.getElem?_eq_getElem hi]
    exact h2
theorem s_callk {f : Nat} {c kc : Es} {pm : List Nat} {x : PySem.Str} {xs : List Expr} {ks : List Keyword} {p pos : Pos} (hx : x = L.fnm f) (hf : L.glo f = true) (hs : (L.fns f).isSome = true) (hg : isGl X.env.scope x = true)
    (hkb : L.kb f c.len (ks.filterMap (·.arg)) pm = true) (hm : mEs L N sc c xs = true) (hmk : mKs L N sc kc ks = true) (ha : SndA L n c xs X) (hk : SndK L n kc ks X) : SndE L n (.callk f c kc pm) (.Call (.Name x p) xs ks pos) X := by
  intro W τ σ ρ m H Q cx lc S h
  rw [evE] at h
  obtain ⟨F, eF⟩ := Option.isSome_iff_exists.mp hs
  obtain ⟨g1, g2⟩ := gl_of hg
  obtain ⟨fd, ps, fo, fg, fk, fb, fp, fkb⟩ := cx.fx.fn f F eF
  obtain ⟨kb1, kb2, kb3⟩ := fkb _ _ _ hkb
  have hmg := fg hf
  rw [← hx] at hmg
  obtain ⟨w1, w2, w3, w4⟩ := kw_all (pos := pos) (env := X.env) hmk
  have go : EvA X xs σ H fun vs H1 => EvK X ks σ H1 fun zs H2 => vs.length = c.len ∧ zs.length = kc.len ∧ spF X.K L n f (pm.map fun i => (vs ++ zs).getD i .non) H2 Q (WE W σ) := by
    refine ha W τ σ ρ m H _ cx lc S (Post.bindE (Ra := Reps X.K L) h fun ds m1 ρ1 H1 vs ed S1 st1 r1 h1 => ?_)
    refine hk W τ σ ρ1 m1 H1 _ cx (lc.step S st1) S1 (Post.bindE (Ra := Reps X.K L) h1 fun es m2 ρ2 H2 zs ee S2 st2 r2 h2 => ?_)
    refine ⟨by rw [← r1.length, evEs_len ed], by rw [← r2.length, evEs_len ee], ?_⟩
    split at h2
    · rename_i us e
      exact sp_of S2 (perm_reps ((Reps.step S1 st2 _ _ r1).app r2) e) h2
    · exact Post.stuck h2
  have hr : Room (2 * n + 2) X.A := cx.room.mono (by omega)
  have fin : ∀ {pins : List (Addr × PySem.Obj)} {s : Shared} {H2 : Hp} {vs zs : List V} {us ws : List Vl}, Inv X pins σ H2 s → Vals vs us → Vals zs ws → vs.length = c.len → zs.length = kc.len → spF X.K L n f (pm.map fun i => (vs ++ zs).getD i .non) H2 Q (WE W σ) →
      wpAny (model X.prog X.w) X.A (call (.ref (L.fad f)) us ((ks.filterMap (·.arg)).zip ws)) (EP X pins σ Q) X.xe s := by
    intro pins s H2 vs zs us ws I r rz l1 l2 h
    have rr := vals_pick (r.append rz) (pm := pm) fun i hi => by rw [List.length_append, l1, l2, ← w4]; exact kb2 i hi
    refine wpAny_call (codeAny_mono (fo.run X.A X.stack s H2 ⟨us, (ks.filterMap (·.arg)).zip ws⟩ _ _ Q (WE W σ) hr I.env0 (kb3 s us ws I.kIn (by rw [← r.length, l1]) (by rw [← rz.length, l2, w4])) rr h) fun r s' hq => ?_)
    cases r with
    | error e => exact passAt cx.tk σ pins H2 s e s' I hq
    | ok fl =>
      cases fl with
      | ret u => exact I.after hq
      | next => exact False.elim hq
      | brk => exact False.elim hq
      | cont => exact False.elim hq
  intro pins s I
  refine wpAny_Call_Name_kw (ld_glob I g1 hmg ?_ g2)
  have hA := go pos pins s I
  cases xs with
  | nil =>
    refine PySem.W.callWith_KW0 (h₀ := X.base) I.ok.mod.kin fk w1 ?_ (by rw [w2] <;> rfl)
    cases c with
    | cons _ _ => simp [mEs] at hm
    | nil =>
      rw [evEs] at h
      have go2 : EvK X ks σ H fun zs H2 => zs.length = kc.len ∧ spF X.K L n f (pm.map fun i => ([] ++ zs).getD i .non) H2 Q (WE W σ) := by
        refine hk W τ σ ρ m H _ cx lc S (Post.bindE (Ra := Reps X.K L) (show Post X.K L (RE X.K L) ρ m H ((evEs L.G (run L.G L.fns n) kc τ m).bind fun ws m2 => match permD ([] ++ ws) pm with
          | some us => run L.G L.fns n f us m2
          | none => .stuck) Q (rX W σ) from h) fun es m2 ρ2 H2 zs ee S2 st2 r2 h2 => ?_)
        refine ⟨by rw [← r2.length, evEs_len ee], ?_⟩
        split at h2
        · rename_i us e
          exact sp_of S2 (perm_reps ((reps_nil.mpr rfl).app r2) e) h2
        · exact Post.stuck h2
      refine thn (go2 pos pins s I) fun ws s2 ⟨zs, H2, I2, rz, l2, q2⟩ => ⟨I2.kIn, ?_⟩
      rw [w3]
      exact fin (vs := []) (us := []) I2 .nil rz rfl l2 q2
  | cons e es =>
    cases c with
    | nil => simp [mEs] at hm
    | cons a r =>
      have hm2 := hm
      rw [mEs, Bool.and_eq_true] at hm
      refine PySem.W.callWith_KW (h₀ := X.base) I.ok.mod.kin fk w1 (thn hA fun us s1 ⟨vs, H1, I1, r, q⟩ => ?_) (by rw [nostars hm2, w2] <;> rfl) (nostar hm.1 es X.env)
      refine thn (q pos pins s1 I1) fun ws s2 ⟨zs, H2, I2, rz, l1, l2, q2⟩ => ⟨I2.kIn, ?_⟩
      rw [w3]
      exact fin I2 r rz l1 l2 q2
/-! ### own classes -/
theorem s_make {k : Nat} {c : Es} {x : PySem.Str} {xs : List Expr} {p pos : Pos} (hx : x = L.cnm k) (hk : k < L.nc) (hc : (L.G.cls k).isSome = true) (hg : isGl X.env.scope x = true) (hl : 0 < c.len) (hm : mEs L N sc c xs = true) (ha : SndA L n c xs X) :
    SndE L n (.make k c) (.Call (.Name x p) xs [] pos) X := by
  intro W τ σ ρ m H Q cx lc S h
  rw [evE] at h
  obtain ⟨C, eC⟩ := Option.isSome_iff_exists.mp hc
  obtain ⟨g1, g2⟩ := gl_of hg
  obtain ⟨cm, ck⟩ := cx.fx.cls k hk
  rw [← hx] at cm
  obtain ⟨M, fs⟩ := cx.fx.mks k C eC
  obtain ⟨F, eF⟩ := Option.isSome_iff_exists.mp fs
  obtain ⟨fd, ps, fo, _, fk, fb, fp, _⟩ := cx.fx.fn C.init F eF
  have hr : Room (2 * n + 2 + 1) X.A := cx.room
  have go : EvA X xs σ H fun vs H1 => ∀ a dx, H1 a = none → H1 dx = none → dx ≠ a → spF X.K L n C.init (.ref a :: vs) (upd (upd H1 dx (.own a)) a (.ins (L.cad k) dx [])) (fun v H2 => v = .non ∧ Q (.ref a) H2) (WE W σ) := by
    refine ha W τ σ ρ m H _ cx lc S (Post.bind (Ra := Reps X.K L) h fun ds m1 ρ1 H1 vs S1 st1 r1 h1 => ?_)
    intro a dx h1a h1d ne
    have Sd := S1.new (o := .own a) h1d
    have std := step_new (o := .own a) S1 h1d
    have ia : (upd H1 dx (.own a)) a = none := by rw [upd_ne (Ne.symm ne)]; exact h1a
    have sta := step_cell (o := .ins (L.cad k) dx []) (c := .ins k [] []) Sd (Sd.idle ia)
    have Sa : SR X.K L (ρ1.add a) (m1 ++ [.ins k [] []]) (upd (upd H1 dx (.own a)) a (.ins (L.cad k) dx [])) := Sd.newCell (Sd.idle ia) ⟨dx, [], upd_same, rfl, reps_nil.mpr rfl⟩
    have ra : Reps X.K L (ρ1.add a) (m1 ++ [.ins k [] []]) (upd (upd H1 dx (.own a)) a (.ins (L.cad k) dx [])) (.cell m1.length :: ds) (.ref a :: vs) := by
      rw [reps_cons]
      exact ⟨_, _, rfl, rep_cell.mpr ⟨a, rfl, add_at S1⟩, Reps.step Sd sta _ _ (Reps.step S1 std _ _ r1)⟩
    unfold makeD at h1
    rw [eC] at h1
    have h2 := Post.next h1 (std.trans sta)
    refine sp_of Sa ra (Post.bind (Ra := Rep X.K L) h2 fun d m2 ρ2 H2 v S2 st2 r2 h3 => ?_)
    split at h3
    · rw [rep_non] at r2
      subst r2
      refine ⟨rfl, ?_⟩
      have hka : (ρ1.add a).c[m1.length]? = some a := add_at S1
      have hka2 := st2.get hka
      split at h3
      · rename_i c' ns fs e2
        split at h3
        · obtain ⟨dx2, us, q1, q2, q3⟩ := S2.cell _ _ a e2 hka2
          have st3 := step_kill S2 e2 (by simp)
          exact h3 ρ2 H2 _ (S2.kill e2 (by simp)) st3 (rep_ob.mpr ⟨a, dx2, us, rfl, q1, notLv_kill S2 e2 (by simp) hka2, q2, Reps.step S2 st3 _ _ q3⟩)
        · exact h3 ρ2 H2 _ S2 Step.refl (rep_cell.mpr ⟨a, rfl, hka2⟩)
      · exact Post.stuck h3
    · exact Post.stuck h3
  cases xs with
  | nil => cases c <;> simp [mEs, Es.len] at hm hl
  | cons e es =>
    cases c with
    | nil => simp [Es.len] at hl
    | cons a r =>
      rw [mEs, Bool.and_eq_true] at hm
      intro pins s I
      refine wpAny_Call_Name_kw (ld_glob I g1 cm ?_ g2)
      refine PySem.W.callWith_K (h₀ := X.base) I.ok.mod.kin ck (thn (go pos pins s I) fun us s1 ⟨vs, H1, I1, r, q⟩ => ⟨I1.kIn, ?_⟩) (nostar hm.1 es X.env) (nostars hm.2)
      show wpAny (model X.prog X.w) X.A (call (.ref (L.cad k)) us) (EP X pins σ Q) X.xe s1
      have hq := q (s1.heap.objs.size + 1) s1.heap.objs.size (I1.hok.fresh (Nat.le_succ _)) (I1.hok.fresh (Nat.le_refl _)) (Nat.ne_of_lt (Nat.lt_succ_self _))
      have I2 := Inv.made (C := L.cad k) I1
      have r2 : Vals (V.ref (s1.heap.objs.size + 1) :: vs) (Value.ref (s1.heap.objs.size + 1) :: us) := .cons rfl r
      have hlen : (Value.ref (s1.heap.objs.size + 1) :: us ++ []).length = ps.length := by
        have e := r2.length
        rw [fo.len _ _ _ _ hq] at e
        rw [List.append_nil]
        exact e.symm
      have bb := fb _ (Value.ref (s1.heap.objs.size + 1) :: us) I2.kIn hlen
      rw [List.append_nil] at bb
      refine wpAny_call (make_map (f := L.fad C.init) I1.kIn M.makes M.init (beq_iff_eq.mp M.fn) (codeAny_mono (fo.run _ X.stack _ _ ⟨Value.ref (s1.heap.objs.size + 1) :: us, []⟩ _ _ _ (WE W σ) (hr.make (L.cad k) us [])
        (I2.env0.make (L.cad k) us []) bb r2 hq) fun r s' hq' => ?_))
      cases r with
      | error e => exact passAt cx.tk σ pins _ _ e s' I2 hq'
      | ok fl =>
        cases fl with
        | ret u =>
          obtain ⟨v, H', I3, rv, ev, q3⟩ := I2.after hq'
          subst ev
          exact ⟨rv, ⟨V.ref (s1.heap.objs.size + 1), H', I3, rfl, q3⟩⟩
        | next => exact False.elim hq'
        | brk => exact False.elim hq'
        | cont => exact False.elim hq'
end
end Dy
end
section
set_option Elab.async false
set_option linter.all false
set_option maxRecDepth 100000
set_option maxHeartbeats 4000000
/-! DyEn: enumerate(t), t a tuple. -/
namespace Dy
open PySem PySem.Spec PyProof.Rows L2
theorem new_enum {v : Vl} {o : PySem.Obj} {HB : Heap → Prop} (B : Begins v o HB) :
    Meets (Builtin.«enumerate.__new__» ⟨[.type "enumerate", v], []⟩) (fun _ R s => HB s.heap ∧
      R (.ok (.ret (.ref (s.heap.push o).objs.size))) { s with heap := (s.heap.push o).push { cls := .type "enumerate", data := .fields #[.none, .bool false, .ref s.heap.objs.size, rawInt 0, .none, .none] } }) :=
  .of_wp fun P w A R s h => by
    obtain ⟨hp, gn, dr, tk, os⟩ := s
    obtain ⟨hB, hR⟩ := h
    have sub1 := sub_enumerate
    have it1 : ∀ {A1 : Around} {E1 : Vl → Shared → Prop} {Q1 : Vl → Shared → Prop}, Q1 (.ref hp.objs.size) ⟨hp.push o, gn, dr, tk, os⟩ → wpAny (model P w) A1 (pyIter v) Q1 E1 ⟨hp, gn, dr, tk, os⟩ :=
      fun q => B.iter P w _ _ ⟨hp, gn, dr, tk, os⟩ _ hB q
    wp_walk using it1
    refine wpAny_stack_any fun st => wpAny_pure ?_
    split
    · rename_i c _ _ _ _ _
      cases (c == Value.type "enumerate") <;> (wp_walk using it1; exact ⟨_, rfl, hR⟩)
    · wp_walk using it1
      exact ⟨_, rfl, hR⟩
section
variable {P : Program} {w : World} {A : Around} {E : Vl → Shared → Prop} {s : Shared}
theorem call_enum {v : Vl} {o : PySem.Obj} {HB : Heap → Prop} {Q : Vl → Shared → Prop} (B : Begins v o HB) (hB : HB s.heap)
    (fin : ∀ h', IsEnum h' (s.heap.objs.size + 1) s.heap.objs.size 0 .none → h'.get? s.heap.objs.size = some o → (∀ b o, s.heap.get? b = some o → h'.get? b = some o) → Q (.ref (s.heap.objs.size + 1)) { s with heap := h' }) :
    wpAny (model P w) A (call (.type "enumerate") [v]) Q E s := by
  refine callType_new F.called_enumerate (by decide) (F.typeCall_enumerate_1 _) (F.newCall_enumerate_1 _) (fun obj => F.args_object_init_2 obj _) F.entry_enumerate_new (new_enum B) ⟨hB, ?_⟩
  have z1 : (s.heap.push o).objs.size = s.heap.objs.size + 1 := Heap.size_push ..
  have g1 := Heap.get?_push_size (s.heap.push o) (o := { cls := .type "enumerate", data := .fields #[.none, .bool false, .ref s.heap.objs.size, rawInt 0, .none, .none] }) rfl
  show _ ∧ _
  rw [z1] at g1 ⊢
  exact ⟨⟨_, g1, rfl⟩, fin _ g1 (Heap.get?_push_of_some _ (Heap.get?_push_size _ B.free)) fun b u q => Heap.get?_push_of_some _ (Heap.get?_push_of_some _ q)⟩
theorem enum_stop {e it a : Ad} {i : Nat} {items : Array Vl} {k : Int} {old : Vl} {Q : Option Vl → Shared → Prop} (calm : A.handled = none) (he : IsEnum s.heap e it k old) (hi : s.heap.IsTupleIter it a i) (ht : s.heap.IsTuple a items) (hx : items[i]? = none)
    (fin : ∀ h', Heap.ExtBut it s.heap h' → Q none { s with heap := h' }) : wpAny (model P w) A (pyNext (.ref e)) Q E s := by
  have ty : s.TypeIs (.ref e) "enumerate" := ⟨_, he, rfl⟩
  unfold pyNext
  refine wpAny_bind (wpAny_attempt (wpAny_callSpecial?_slot (name := Str.ofString "__next__") ty F.slot_enumerate_next (wpAny_call_entry F.slot_enumerate_next ty F.entry_enumerate_next ?_ (F.args_enumerate_next_1 _))))
  show wpAny _ _ (field (.ref e) 2 >>= _) _ _ _
  refine wpAny_bind (wpAny_field he rfl (x := .ref it) rfl ?_)
  refine wpAny_bind (wpAny_nextOf_tuple_end (by simpa using calm) hi ht hx fun h1 x ext ⟨o, ho, hc⟩ => ?_)
  refine wpAny_bind (wpAny_isInstance (T := "StopIteration") (b := true) ⟨o, ho, hc⟩ isSubtype_stop ?_)
  exact wpAny_pure (fin _ ext)
end
/-- the tuple at a, each item in a new pair -/
def IteT (K : PySem.W.Frag) (a : Ad) : It :=
  ⟨fun i H => ∃ (xs : List V) (x : V), SqT K H a xs ∧ xs[i]? = some x, fun i H v H1 => ∃ T x, v = .ref T ∧ H T = none ∧ H1 = upd H T (.tup [.int (i : Nat), x]) ∧ ∀ xs, SqT K H a xs → xs[i]? = some x, fun i H => ∃ xs : List V, SqT K H a xs ∧ xs.length ≤ i⟩
theorem turn_enumT {P : Program} {w : World} {K : PySem.W.Frag} {elts : List Expr} {kk : Nat} {tpos : Pos} (a e it : Ad) (hae : a ≠ e) (hai : a ≠ it) (hei : e ≠ it) :
    Turn P w K (.Tuple elts kk tpos) (IteT K a) [e, it] e (fun i h => (∃ old, IsEnum h e it ((i : Nat) : Int) old) ∧ h.IsTupleIter it a i) where
  mem := List.mem_cons_self
  obj := fun i h st b hb => by
    obtain ⟨⟨old, q⟩, ⟨o, ho, hc, hd⟩⟩ := st
    rcases List.mem_cons.mp hb with z | z
    · subst z; exact ⟨_, q, fun v z => nomatch z⟩
    · cases List.mem_singleton.mp z
      exact ⟨o, ho, fun v z => by rw [hd] at z; cases z⟩
  keep := fun i h h1 st k => ⟨st.1.imp fun old q => k e List.mem_cons_self _ q, st.2.at fun o q => k it (List.mem_cons_of_mem _ List.mem_cons_self) o q⟩
  item := by
    intro X hP hw hK hc i pins s σ H E I hf st hg
    subst hP hw hK
    obtain ⟨⟨old, q1⟩, q2⟩ := st
    obtain ⟨xs, x, hq, hx⟩ := hg
    obtain ⟨its, rv, p, hz⟩ := I.tuple hq
    obtain ⟨u, hu, ru⟩ := rv.get hx
    have el : e < s.heap.objs.size := Heap.lt_size q1
    have il : it < s.heap.objs.size := by obtain ⟨_, q, _⟩ := q2; exact Heap.lt_size q
    have hlt : i < its.toArray.size := by rw [List.size_toArray]; exact (List.getElem?_eq_some_iff.mp hu).1
    have calm : X.A.in1.handled = none := by simpa using I.ok.hd hc
    have hef : e ∉ [it, a] := by simp [hei, Ne.symm hae]
    refine wpAny_pyNext_enum_itemD (Draws.tuple calm it a hai its.toArray) q1 ⟨q2, p⟩ hlt hei hef fun y h1 tk hy ho st1 hT hsz hk => ?_
    obtain rfl : y = u := by
      rw [List.getElem?_toArray, hu] at hy
      exact (Option.some.inj hy).symm
    refine ⟨_, rfl, wpAny_letOwnedTupleGo_enum (s := { s with heap := h1, toks := tk + 1 }) ho fun h2 he2 sb => ?_⟩
    have hT2 : h2.get? s.heap.objs.size = some { cls := .type "tuple", data := .seq #[.int i tk, y] } := (sb.2 _ (Nat.ne_of_gt el)).trans hT
    have new : ObjOk X.prog X.w (upd H s.heap.objs.size (.tup [.int (i : Nat), x])) h2 s.heap.objs.size (.tup [.int (i : Nat), x]) :=
      ⟨show 2 ≤ sizeLine by decide, [.int i tk, y], .cons ⟨_, rfl⟩ (.cons ru .nil), ⟨_, hT2, rfl, _, rfl⟩⟩
    have I1 : Inv X pins σ (upd H s.heap.objs.size (.tup [.int (i : Nat), x])) { s with heap := h2, toks := tk + 1 } :=
      I.turnedNew (ch := [e, it]) (fun b ob hb q => (sb.2 b (fun z => hb (by simp [z]))).trans (hk b ob (fun z => hb (by simp [z])) (fun z => hb (by simp [z])) q)) hf (Nat.le_refl _) new
    refine ⟨.ref s.heap.objs.size, _, I1, rfl, ⟨_, x, rfl, I.hok.fresh (Nat.le_refl _), rfl, fun ys hy => by rw [I.tuple_inj hy hq]; exact hx⟩, ⟨⟨y, ?_⟩, st1.1.at fun o q => (sb.2 it (Ne.symm hei)).trans q⟩, fun b hb => ?_⟩
    · rw [show ((i + 1 : Nat) : Int) = (i : Int) + 1 by omega]
      exact he2
    · have lb : b < s.heap.objs.size := by
        rcases List.mem_cons.mp hb with z | z
        · rw [z]; exact el
        · rw [List.mem_singleton.mp z]; exact il
      rw [upd_ne (Nat.ne_of_lt lb)]
      exact (hf b hb).1
  done := by
    intro X hP hw hK hc i pins s σ H E I hf st hg
    subst hP hw hK
    obtain ⟨⟨old, q1⟩, q2⟩ := st
    obtain ⟨xs, hq, hx⟩ := hg
    obtain ⟨its, rv, p, hz⟩ := I.tuple hq
    obtain ⟨f0, f1, f2, f3, f4, f5⟩ := hf it (by simp)
    have hl := rv.length
    exact enum_stop (I.ok.hd hc) q1 q2 p (by simp; omega) fun h1 ext => ⟨rfl, I.turned (t' := s.toks) (fun b o hb q => ext b o hb q) f0 f1 f3 f4 f5⟩
  self := fun A i s Q E st h => let ⟨_, q⟩ := st.1; wpAny_pyIter_enum q h
/-- over a list, or a tuple -/
def iEnumB (K : PySem.W.Frag) (ta : L2.TA) : L2.TI := fun σ H R => ta σ H fun vs H1 => ∃ a, vs = [.ref a] ∧ ((∃ xs, SqL K H1 a xs ∧ R (Ite K a) H1) ∨ ∃ xs, SqT K H1 a xs ∧ R (IteT K a) H1)
theorem pi_enumB {X : Cx} {e : Expr} {ta : L2.TA} {p pos tpos : Pos} {elts : List Expr} {kk : Nat} (hg : Gl X "enumerate") (hm : X.mg "enumerate" = none) (ha : PA X [e] ta) (hs : starEach [e] X.env = [(false, eval e X.env)]) :
    PI X (.Tuple elts kk tpos) (.Call (.Name "enumerate" p) [e] [] pos) (iEnumB X.K ta) := by
  refine ⟨fun pins s σ H R I h => ?_⟩
  refine Call_ (ld_blt I hg hm boot_enumerate (PyProof.Rows.callWith_type1 (thn (ha.run pos pins s σ H _ I h) fun us s1 ⟨vs, H1, I1, r1, q1⟩ => ?_) hs rfl))
  obtain ⟨a, rfl, q⟩ := q1
  obtain ⟨u, rfl, ru⟩ := vals1 r1
  obtain rfl : u = Value.ref a := ru
  have fpn : ∀ b, b = s1.heap.objs.size + 1 ∨ b = s1.heap.objs.size → FpOk X pins H1 b := fun b z => by
    have le : s1.heap.objs.size ≤ b := by
      rcases z with z | z
      · rw [z]; exact Nat.le_add_right _ _
      · rw [z]; exact Nat.le_refl _
    exact I1.fpOk le (I1.hok.fresh le)
  rcases q with ⟨xs, hq, q⟩ | ⟨xs, hq, q⟩
  · obtain ⟨its, rv, p', hz⟩ := I1.list hq
    refine call_enumerate_list p'.isList fun h1 he hit hsz hk => wpAny_pyIter_enum he ?_
    exact ⟨_, [s1.heap.objs.size + 1, s1.heap.objs.size], _, _, H1, rfl, I1.kept (t' := s1.toks) hk, turn_enum a (s1.heap.objs.size + 1) s1.heap.objs.size, ⟨⟨.none, he⟩, hit, Nat.succ_ne_self _⟩, fun b hb => fpn b (by simpa using hb), q⟩
  · obtain ⟨its, rv, p', hz⟩ := I1.tuple hq
    have la : a < s1.heap.objs.size := by
      obtain ⟨o, ho, _⟩ := (show s1.heap.IsTuple a its.toArray from p')
      exact Heap.lt_size ho
    refine call_enum (begins_tuple a its.toArray) p' fun h1 he hit hk => wpAny_pyIter_enum he ?_
    exact ⟨_, [s1.heap.objs.size + 1, s1.heap.objs.size], _, _, H1, rfl, I1.kept (t' := s1.toks) hk, turn_enumT a (s1.heap.objs.size + 1) s1.heap.objs.size (Nat.ne_of_lt (Nat.lt_succ_of_lt la)) (Nat.ne_of_lt la) (Nat.succ_ne_self _), ⟨⟨.none, he⟩, ⟨_, hit, rfl, rfl⟩⟩, fun b hb => fpn b (by simpa using hb), q⟩
end Dy
end
section
set_option Elab.async false
set_option linter.all false
set_option maxRecDepth 100000
set_option maxHeartbeats 4000000
/-! DyD: what a loop goes over, targets. -/
namespace Dy
open PySem PySem.Spec PyProof.Rows L2
section
variable {L : Lk} {n : Nat} {X : Cx} {K : PySem.W.Frag} {ρ ρ1 : Pl} {m m1 : Store} {H H1 : Hp} {N : Nm} {sc : Scope}
/-- at turn i the walk J yields that, or stops -/
def JAt (K : PySem.W.Frag) (L : Lk) (ρ : Pl) (m : Store) (H : Hp) (J : It) (i : Nat) (o : Option D) : Prop := match o with
  | some d => J.go i H ∧ ∀ x H', J.yld i H x H' → SR K L ρ m H' ∧ Step ρ m H ρ m H' ∧ Rep K L ρ m H' d x
  | none => J.stop i H
/-- J walks what s tells, at every later state -/
def JR (K : PySem.W.Frag) (L : Lk) (ρ : Pl) (m : Store) (H : Hp) (s : Src) (J : It) : Prop := ∀ ρ' m' H', SR K L ρ' m' H' → Wsl ρ m H ρ' m' H' → ∀ i : Nat, match s with
  | .fix xs => JAt K L ρ' m' H' J i xs[i]?
  | .cel k => ∀ xs, m'[k]? = some (.lst xs) → JAt K L ρ' m' H' J i xs[i]?
  | .dic _ _ _ => False
theorem JR.step {s : Src} {J : It} (h : JR K L ρ m H s J) (st : Wsl ρ m H ρ1 m1 H1) : JR K L ρ1 m1 H1 s J := fun ρ' m' H' S w i => h ρ' m' H' S (st.trans w) i
def SndI (L : Lk) (n : Nat) (c : Wk) (tg e : Expr) (X : Cx) : Prop := ∀ (W : WX) (τ : Loc) (σ : L2.St) (ρ : Pl) (m : Store) (H : Hp) (Q : It → Hp → Prop), Cxt L n X W → LocR X.K L ρ m H τ σ → SR X.K L ρ m H →
  Post X.K L (JR X.K L) ρ m H (evI L.G (run L.G L.fns n) c τ m) Q (rX W σ) → EvI X tg e σ H Q
theorem jat_list {a : Ad} {xs : List D} {vs : List V} (S : SR K L ρ m H) (h1 : SqL K H a vs) (h2 : Reps K L ρ m H xs vs) (i : Nat) : ∀ o, xs[i]? = o → JAt K L ρ m H (Itl K a) i o
  | none, e => ⟨vs, h1, by rw [← h2.length]; exact List.getElem?_eq_none_iff.mp e⟩
  | some d, e => by
    obtain ⟨v, e1, e2⟩ := h2.get e
    refine ⟨⟨vs, v, h1, e1⟩, fun x H2 hy => ?_⟩
    obtain ⟨rfl, q⟩ := hy
    have := q vs h1
    rw [e1] at this
    cases this
    exact ⟨S, Step.refl, e2⟩
theorem jat_tup {a : Ad} {xs : List D} {vs : List V} (S : SR K L ρ m H) (h1 : SqT K H a vs) (h2 : Reps K L ρ m H xs vs) (i : Nat) : ∀ o, xs[i]? = o → JAt K L ρ m H (Itt K a) i o
  | none, e => ⟨vs, h1, by rw [← h2.length]; exact List.getElem?_eq_none_iff.mp e⟩
  | some d, e => by
    obtain ⟨v, e1, e2⟩ := h2.get e
    refine ⟨⟨vs, v, h1, e1⟩, fun x H2 hy => ?_⟩
    obtain ⟨rfl, q⟩ := hy
    have := q vs h1
    rw [e1] at this
    cases this
    exact ⟨S, Step.refl, e2⟩
theorem jat_enum {a : Ad} {xs : List D} {vs : List V} (S : SR K L ρ m H) (h1 : SqL K H a vs) (h2 : Reps K L ρ m H xs vs) (i : Nat) : ∀ o, (enumD xs)[i]? = o → JAt K L ρ m H (Ite K a) i o := by
  have hl : (enumD xs).length = xs.length := by unfold enumD; simp
  intro o e
  cases o with
  | none => exact ⟨vs, h1, by rw [← h2.length, ← hl]; exact List.getElem?_eq_none_iff.mp e⟩
  | some d =>
    have hi : i < xs.length := by rw [← hl]; exact (List.getElem?_eq_some_iff.mp e).1
    have e0 : xs[i]? = some xs[i] := List.getElem?_eq_getElem hi
    have ed : d = .tup [.int (i : Nat), xs[i]] := by
      unfold enumD at e
      rw [List.getElem?_zipWith, List.getElem?_range hi, e0] at e
      cases e
      rfl
    obtain ⟨v, e1, e2⟩ := h2.get e0
    refine ⟨⟨vs, v, h1, e1⟩, fun x H2 hy => ?_⟩
    obtain ⟨T, y, rfl, hT, rfl, q⟩ := hy
    have := q vs h1
    rw [e1] at this
    cases this
    have st := step_new (o := .tup [.int (i : Nat), v]) S hT
    refine ⟨S.new hT, st, ?_⟩
    rw [ed, rep_tup]
    refine ⟨T, _, rfl, .of upd_same, ?_⟩
    rw [reps_cons]
    exact ⟨_, _, rfl, rep_int.mpr rfl, .one (Rep.step S st _ _ e2)⟩
theorem jat_enumT {a : Ad} {xs : List D} {vs : List V} (S : SR K L ρ m H) (h1 : SqT K H a vs) (h2 : Reps K L ρ m H xs vs) (i : Nat) : ∀ o, (enumD xs)[i]? = o → JAt K L ρ m H (IteT K a) i o := by
  have hl : (enumD xs).length = xs.length := by unfold enumD; simp
  intro o e
  cases o with
  | none => exact ⟨vs, h1, by rw [← h2.length, ← hl]; exact List.getElem?_eq_none_iff.mp e⟩
  | some d =>
    have hi : i < xs.length := by rw [← hl]; exact (List.getElem?_eq_some_iff.mp e).1
    have e0 : xs[i]? = some xs[i] := List.getElem?_eq_getElem hi
    have ed : d = .tup [.int (i : Nat), xs[i]] := by
      unfold enumD at e
      rw [List.getElem?_zipWith, List.getElem?_range hi, e0] at e
      cases e
      rfl
    obtain ⟨v, e1, e2⟩ := h2.get e0
    refine ⟨⟨vs, v, h1, e1⟩, fun x H2 hy => ?_⟩
    obtain ⟨T, y, rfl, hT, rfl, q⟩ := hy
    have := q vs h1
    rw [e1] at this
    cases this
    have st := step_new (o := .tup [.int (i : Nat), v]) S hT
    refine ⟨S.new hT, st, ?_⟩
    rw [ed, rep_tup]
    refine ⟨T, _, rfl, .of upd_same, ?_⟩
    rw [reps_cons]
    exact ⟨_, _, rfl, rep_int.mpr rfl, .one (Rep.step S st _ _ e2)⟩
theorem jat_rng {a b : Int} (S : SR K L ρ m H) (i : Nat) : ∀ o, (rngD a b)[i]? = o → JAt K L ρ m H (Itr a (b - a).toNat) i o := by
  have hl : (rngD a b).length = (b - a).toNat := by unfold rngD; simp
  intro o e
  cases o with
  | none => exact (show (b - a).toNat ≤ i by rw [← hl]; exact List.getElem?_eq_none_iff.mp e)
  | some d =>
    have hi : i < (b - a).toNat := by rw [← hl]; exact (List.getElem?_eq_some_iff.mp e).1
    refine ⟨hi, fun x H2 hy => ?_⟩
    obtain ⟨rfl, rfl⟩ := hy
    unfold rngD at e
    rw [List.getElem?_map, List.getElem?_range hi] at e
    cases e
    exact ⟨S, Step.refl, rep_int.mpr rfl⟩
theorem jat_str {z : List Nat} (S : SR K L ρ m H) (i : Nat) : ∀ o, (z.map fun c => D.str [c])[i]? = o → JAt K L ρ m H (Its (sx z)) i o := by
  have hs : (sx z).cps.size = z.length := by show z.toArray.size = _; simp
  intro o e
  cases o with
  | none => exact (show (sx z).cps.size ≤ i by rw [hs]; simpa using e)
  | some d =>
    have hi : i < z.length := by simpa using (List.getElem?_eq_some_iff.mp e).1
    refine ⟨(show i < (sx z).cps.size by rw [hs]; exact hi), fun x H2 hy => ?_⟩
    obtain ⟨rfl, c, hc, rfl⟩ := hy
    rw [List.getElem?_map] at e
    have hc : z.toArray[i]? = some c := hc
    rw [List.getElem?_toArray] at hc
    rw [hc] at e
    cases e
    exact ⟨S, Step.refl, rep_str.mpr rfl⟩
theorem RepK.get : ∀ (kvs : List (Ky × D)) (kv : List (Key × V)) (i : Nat) (p : Ky × D), RepK K L ρ m H kvs kv → kvs[i]? = some p → ∃ v, kv[i]? = some (kyV p.1, v)
  | [], _, i, p, _, e => by simp at e
  | q :: r, _, 0, p, h, e => by
    obtain ⟨v, vr, rfl, h1, h2⟩ := h
    cases e
    exact ⟨v, rfl⟩
  | q :: r, _, i + 1, p, h, e => by
    obtain ⟨v, vr, rfl, h1, h2⟩ := h
    exact RepK.get r vr i p h2 e
theorem jat_keys {a : Ad} {o : PySem.Obj} {kvs : List (Ky × D)} {kv : List (Key × V)} (S : SR K L ρ m H) (h1 : H a = some (.frz o (.dK kv))) (h2 : kvs.length = kv.length ∧ ∀ (i : Nat) (p : Ky × D), kvs[i]? = some p → ∃ v, kv[i]? = some (kyV p.1, v)) (i : Nat) : ∀ o', (kvs.map fun p => kyD p.1)[i]? = o' → JAt K L ρ m H (Itk a o kv) i o'
  | none, e => ⟨h1, by rw [← h2.1]; simpa using e⟩
  | some d, e => by
    rw [List.getElem?_map] at e
    cases ep : kvs[i]? with
    | none => rw [ep] at e; cases e
    | some p =>
      rw [ep] at e
      cases e
      obtain ⟨v, ev⟩ := h2.2 i p ep
      refine ⟨⟨h1, (List.getElem?_eq_some_iff.mp ev).1⟩, fun x H2 hy => ?_⟩
      obtain ⟨rfl, k, v', ek, rfl⟩ := hy
      rw [ev] at ek
      cases ek
      refine ⟨S, Step.refl, ?_⟩
      obtain ⟨y, d⟩ := p
      cases y with
      | inl i => exact rep_int.mpr rfl
      | inr s => exact rep_str.mpr rfl
/-- iter(x) of a value -/
def itV (X : Cx) (tg : Expr) (x : V) (H : Hp) (Q : It → Hp → Prop) : Prop := ∀ v pins s σ, Inv X pins σ H s → RelV x v → wpAny (model X.prog X.w) X.A (pyIter v) (PIE X pins σ tg Q) X.xe s
theorem itV_list {tg : Expr} {a : Ad} {vs : List V} {Q : It → Hp → Prop} (h : SqL X.K H a vs) (q : Q (Itl X.K a) H) : itV X tg (.ref a) H Q := by
  intro v pins s σ I r
  obtain rfl : v = Value.ref a := r
  obtain ⟨its, rv, p, hz⟩ := I.list h
  exact wpAny_pyIter_list p.isList (pi_one (tk := s.toks) I _ (turn_list a _) ⟨_, Heap.get?_push_size _ rfl, rfl, rfl⟩ q)
theorem itV_tup {tg : Expr} {a : Ad} {vs : List V} {Q : It → Hp → Prop} (h : SqT X.K H a vs) (q : Q (Itt X.K a) H) : itV X tg (.ref a) H Q := by
  intro v pins s σ I r
  obtain rfl : v = Value.ref a := r
  obtain ⟨its, rv, p, hz⟩ := I.tuple h
  exact wpAny_pyIter_tuple (show s.heap.IsTuple a its.toArray from p) (pi_one (tk := s.toks) I _ (turn_tuple a _) ⟨_, Heap.get?_push_size _ rfl, rfl, rfl⟩ q)
theorem itV_str {tg : Expr} {x : PySem.Str} {Q : It → Hp → Prop} (q : Q (Its x) H) : itV X tg (.str x) H Q := by
  intro v pins s σ I r
  obtain ⟨t, rfl⟩ := r
  cases ha : x.cps.all (· < 128)
  · exact wpAny_pyIter_wide ha (pi_one (tk := s.toks) I _ (turn_str _ x t "str_iterator" (.inr rfl)) ⟨_, Heap.get?_push_size _ rfl, rfl, rfl⟩ q)
  · exact wpAny_pyIter_ascii ha (pi_one (tk := s.toks) I _ (turn_str _ x t "str_ascii_iterator" (.inl rfl)) ⟨_, Heap.get?_push_size _ rfl, rfl, rfl⟩ q)
theorem itV_keys {tg : Expr} {a : Ad} {o : PySem.Obj} {kv : List (Key × V)} {Q : It → Hp → Prop} (h : H a = some (.frz o (.dK kv))) (q : Q (Itk a o kv) H) : itV X tg (.ref a) H Q := by
  intro v pins s σ I r
  obtain rfl : v = Value.ref a := r
  obtain ⟨hs, hgd, hx, es, ep, vs, hdt, hsz, _, hm⟩ := I.frzK h
  refine iter_keys hs hgd hx hdt (pi_one (tk := s.toks) I _ (turn_keys _ hdt) ⟨_, Heap.get?_push_size _ rfl, rfl, ?_⟩ q)
  rw [hsz] <;> rfl
theorem src_ok {tg : Expr} {d : D} {s : Src} {v : V} {Q : It → Hp → Prop} {R : XK} (S : SR X.K L ρ m H) (r : Rep X.K L ρ m H d v) (e : m.src d = some s) (h : Post X.K L (JR X.K L) ρ m H (.ok s m) Q R) : itV X tg v H Q := by
  have fin : ∀ {J : It}, JR X.K L ρ m H s J → Q J H := fun {J} j => h ρ H J S Step.refl j
  cases d with
  | fl xs =>
    cases e
    have r0 := r
    rw [rep_fl] at r
    obtain ⟨a, vs, rfl, h1, _, _⟩ := r
    refine itV_list (.of h1) (fin fun ρ' m' H' S' w i => ?_)
    have r1 := Rep.stepW S w.w _ _ r0
    rw [rep_fl] at r1
    obtain ⟨a', vs', ea, g1, _, g2⟩ := r1
    cases ea
    exact jat_list S' (.of g1) g2 i _ rfl
  | ro xs =>
    cases e
    have r0 := r
    rw [rep_ro] at r
    obtain ⟨a, vs, rfl, h1, _⟩ := r
    refine itV_list h1.sql (fin fun ρ' m' H' S' w i => ?_)
    have r1 := Rep.stepW S w.w _ _ r0
    rw [rep_ro] at r1
    obtain ⟨a', vs', ea, g1, g2⟩ := r1
    cases ea
    exact jat_list S' g1.sql g2 i _ rfl
  | tup xs =>
    cases e
    have r0 := r
    rw [rep_tup] at r
    obtain ⟨a, vs, rfl, h1, _⟩ := r
    refine itV_tup h1 (fin fun ρ' m' H' S' w i => ?_)
    have r1 := Rep.stepW S w.w _ _ r0
    rw [rep_tup] at r1
    obtain ⟨a', vs', ea, g1, g2⟩ := r1
    cases ea
    exact jat_tup S' g1 g2 i _ rfl
  | str z =>
    have e : (if z.length ≤ lim then some (Src.fix (z.map fun c => .str [c])) else none) = some s := e
    split at e
    · cases e
      rw [rep_str] at r
      subst r
      exact itV_str (fin fun ρ' m' H' S' w i => jat_str S' i _ rfl)
    · cases e
  | cell k =>
    unfold Store.src at e
    simp only at e
    split at e
    · rename_i xs e1
      cases e
      obtain ⟨a, vs, rfl, hk, h1, _⟩ := cell_lst S r e1
      refine itV_list (.of h1) (fin fun ρ' m' H' S' w i => ?_)
      intro ys e2
      obtain ⟨ws, g1, g2⟩ := S'.cell _ _ a e2 (w.w.get hk)
      exact jat_list S' (.of g1) g2 i _ rfl
    · rename_i kvs e1
      cases e
      obtain ⟨a, kv, rfl, hk, _, hr, _, _, hl⟩ := cell_dct S r e1
      obtain ⟨o, ho⟩ := hl rfl
      exact itV_keys ho (fin fun ρ' m' H' S' w i => jat_keys S' (w.lk _ _ _ ho) ⟨hr.length, fun i p e => RepK.get _ _ i p hr e⟩ i _ rfl)
    · cases e
  | _ => cases e
theorem i_e {a : E} {tg e : Expr} (ha : SndE L n a e X) : SndI L n (.e a) tg e X := by
  intro W τ σ ρ m H Q cx lc S h
  rw [evI] at h
  have go : EvE X e σ H fun v H1 => itV X tg v H1 Q := ha W τ σ ρ m H _ cx lc S (Post.bind (Ra := Rep X.K L) h fun d m1 ρ1 H1 v S1 st1 r1 h1 => by
    obtain ⟨s, e1, h2⟩ := Post.ofO h1
    exact src_ok S1 r1 e1 h2)
  intro pins s I
  exact thn (go pins s I) fun v s1 ⟨x, H1, I1, r1, q1⟩ => q1 v pins s1 σ I1 r1
theorem i_rng1 {a : E} {x : PySem.Str} {p pos : Pos} {tg e : Expr} (hx : x = ("range" : PySem.Str)) (hg : isGl X.env.scope x = true) (hm : mE L N sc a e = true) (ha : SndE L n a e X) : SndI L n (.rng1 a) tg (.Call (.Name x p) [e] [] pos) X := by
  intro W τ σ ρ m H Q cx lc S h
  rw [evI] at h
  subst hx
  obtain ⟨g1, _⟩ := gl_of hg
  have hb : X.mg ("range" : PySem.Str) = none := blt_of cx.fx (by decide)
  refine PI.ev (pi_range1 g1 hb (pa_cons EvE.pe pa_nil (nostar hm [] X.env)) (nostar hm [] X.env)) (ha W τ σ ρ m H _ cx lc S (Post.bind (Ra := Rep X.K L) h fun d m1 ρ1 H1 v S1 st1 r1 h1 => ?_))
  split at h1
  · rename_i b
    rw [rep_int] at r1
    subst r1
    split at h1
    · rename_i hk
      obtain ⟨k1, k2, k3, k4, k5⟩ := rg_ok hk
      refine ⟨b, rfl, k3, k4, ?_⟩
      have e0 : (b - 0).toNat = b.toNat := by rw [Int.sub_zero]
      rw [← e0]
      exact h1 ρ1 H1 _ S1 Step.refl fun ρ' m' H' S' w i => jat_rng S' i _ rfl
    · exact Post.stuck h1
  · exact Post.stuck h1
theorem i_rng2 {a b : E} {x : PySem.Str} {p pos : Pos} {tg e e' : Expr} (hx : x = ("range" : PySem.Str)) (hg : isGl X.env.scope x = true) (hm : mE L N sc a e = true) (hm' : mE L N sc b e' = true) (ha : SndE L n a e X) (hb : SndE L n b e' X) : SndI L n (.rng2 a b) tg (.Call (.Name x p) [e, e'] [] pos) X := by
  intro W τ σ ρ m H Q cx lc S h
  rw [evI] at h
  subst hx
  obtain ⟨g1, _⟩ := gl_of hg
  have hbn : X.mg ("range" : PySem.Str) = none := blt_of cx.fx (by decide)
  have s1 := nostar hm [e'] X.env
  have s2 := nostar hm' [] X.env
  refine PI.ev (pi_range2 g1 hbn (pa_cons EvE.pe (pa_cons EvE.pe pa_nil s2) s1) (by rw [s1, s2] <;> rfl) s2) (ha W τ σ ρ m H _ cx lc S (Post.bind (Ra := Rep X.K L) h fun d m1 ρ1 H1 v S1 st1 r1 h1 => ?_))
  refine hb W τ σ ρ1 m1 H1 _ cx (lc.step S st1) S1 (Post.bind (Ra := Rep X.K L) h1 fun d2 m2 ρ2 H2 u S2 st2 r2 h2 => ?_)
  have r1 := Rep.step S1 st2 _ _ r1
  split at h2
  · rw [rep_int] at r1 r2
    subst r1 r2
    split at h2
    · rename_i hk
      obtain ⟨k1, k2, k3, k4, k5⟩ := rg_ok hk
      exact ⟨_, _, rfl, ⟨k1, k2, k3, k4⟩, h2 ρ2 H2 _ S2 Step.refl fun ρ' m' H' S' w i => jat_rng S' i _ rfl⟩
    · exact Post.stuck h2
  · exact Post.stuck h2
theorem i_enum {a : E} {x : PySem.Str} {p pos tpos : Pos} {es : List Expr} {j : Nat} {e : Expr} (hx : x = ("enumerate" : PySem.Str)) (hg : isGl X.env.scope x = true) (hm : mE L N sc a e = true) (ha : SndE L n a e X) : SndI L n (.enum a) (.Tuple es j tpos) (.Call (.Name x p) [e] [] pos) X := by
  intro W τ σ ρ m H Q cx lc S h
  rw [evI] at h
  subst hx
  obtain ⟨g1, _⟩ := gl_of hg
  have hb : X.mg ("enumerate" : PySem.Str) = none := blt_of cx.fx (by decide)
  refine PI.ev (pi_enumB g1 hb (pa_cons EvE.pe pa_nil (nostar hm [] X.env)) (nostar hm [] X.env)) (ha W τ σ ρ m H _ cx lc S (Post.bind (Ra := Rep X.K L) h fun d m1 ρ1 H1 v S1 st1 r1 h1 => ?_))
  split at h1
  · have r0 := r1
    rw [rep_fl] at r1
    obtain ⟨a, vs, rfl, h2, _, _⟩ := r1
    refine ⟨a, rfl, .inl ⟨vs, .of h2, h1 ρ1 H1 _ S1 Step.refl fun ρ' m' H' S' w i => ?_⟩⟩
    have r1 := Rep.stepW S1 w.w _ _ r0
    rw [rep_fl] at r1
    obtain ⟨a', vs', ea, g1, _, g2⟩ := r1
    cases ea
    exact jat_enum S' (.of g1) g2 i _ rfl
  · have r0 := r1
    rw [rep_ro] at r1
    obtain ⟨a, vs, rfl, h2, _⟩ := r1
    refine ⟨a, rfl, .inl ⟨vs, h2.sql, h1 ρ1 H1 _ S1 Step.refl fun ρ' m' H' S' w i => ?_⟩⟩
    have r1 := Rep.stepW S1 w.w _ _ r0
    rw [rep_ro] at r1
    obtain ⟨a', vs', ea, g1, g2⟩ := r1
    cases ea
    exact jat_enum S' g1.sql g2 i _ rfl
  · have r0 := r1
    rw [rep_tup] at r1
    obtain ⟨a, vs, rfl, h2, _⟩ := r1
    refine ⟨a, rfl, .inr ⟨vs, h2, h1 ρ1 H1 _ S1 Step.refl fun ρ' m' H' S' w i => ?_⟩⟩
    have r1 := Rep.stepW S1 w.w _ _ r0
    rw [rep_tup] at r1
    obtain ⟨a', vs', ea, g1, g2⟩ := r1
    cases ea
    exact jat_enumT S' g1 g2 i _ rfl
  · exact Post.stuck h1
end
end Dy
end
section
set_option Elab.async false
set_option linter.all false
set_option maxRecDepth 100000
set_option maxHeartbeats 4000000
/-! DyF: targets, comprehensions. -/
namespace Dy
open PySem PySem.Spec PyProof.Rows L2
section
variable {L : Lk} {n : Nat} {X : Cx} {K : PySem.W.Frag} {ρ ρ1 : Pl} {m m1 : Store} {H H1 : Hp} {N : Nm} {sc : Scope}
/-! ### targets -/
def gNms : List Nat → TGs
  | [] => gNil
  | i :: is => gCons (gName i) (gNms is)
def gT (K : PySem.W.Frag) : Tg → TG
  | .nm i => gName i
  | .tp is => gTup K is.length (gNms is)
/-- the names of a scope may be written in a context -/
def Wr (X : Cx) (sc : Scope) : Prop := ∀ x, isLoc sc x = true → L2.Loc X.env.scope x ∧ (X.fn x = true ∨ X.env.scope.names.lookup x = some .local)
theorem pg_nm (hN : X.N.Nodup) (hw : Wr X sc) {i : Nat} {e : Expr} (h : mNm X.N sc i e = true) : PG X e (gName i) := by
  cases e with
  | Name x p =>
    have h : (decide (X.N[i]? = some x) && isLoc sc x) = true := h
    rw [Bool.and_eq_true, decide_eq_true_eq] at h
    obtain ⟨h1, h2⟩ := hw x h.2
    exact pg_name hN h.1 h1 h2
  | _ => simp [mNm] at h
theorem pgs_nms (hN : X.N.Nodup) (hw : Wr X sc) : ∀ {is : List Nat} {es : List Expr}, mNms X.N sc is es = true → PGs X es (gNms is) ∧ (assignEach es X.env).length = is.length ∧ (assignEach es X.env).findIdx? (·.1) = none
  | [], [], _ => ⟨pgs_nil, rfl, rfl⟩
  | [], _ :: _, h => by simp [mNms] at h
  | _ :: _, [], h => by simp [mNms] at h
  | i :: is, e :: es, h => by
    have h : (mNm X.N sc i e && mNms X.N sc is es) = true := h
    rw [Bool.and_eq_true] at h
    obtain ⟨p1, p2, p3⟩ := pgs_nms hN hw h.2
    have q := pg_nm hN hw h.1
    cases e with
    | Name x p =>
      refine ⟨pgs_cons q p1 rfl, ?_, ?_⟩
      · show (assignEach es X.env).length + 1 = is.length + 1
        rw [p2]
      · show List.findIdx? (·.1) ((false, assign (.Name x p) X.env) :: assignEach es X.env) = none
        rw [List.findIdx?_cons, p3]
        rfl
    | _ => simp [mNm] at h
theorem pg_tg (hc : X.calm = true) (hN : X.N.Nodup) (hw : Wr X sc) {tg : Tg} {e : Expr} (h : mTg X.N sc tg e = true) : PG X e (gT X.K tg) := by
  cases tg with
  | nm i => exact pg_nm hN hw h
  | tp is =>
    cases e with
    | Tuple es j p =>
      obtain ⟨p1, p2, p3⟩ := pgs_nms hN hw (show mNms X.N sc is es = true from h)
      exact pg_tup hc p1 p2 p3
    | _ => simp [mTg] at h
def setAll (is : List Nat) (vs : List V) (σ : L2.St) : L2.St := (is.zip vs).foldl (fun σ p => σ.set p.1 (some p.2)) σ
theorem gNms_ok : ∀ {is : List Nat} {vs : List V} {σ : L2.St} {Q : L2.St → Hp → Prop}, vs.length = is.length → Q (setAll is vs σ) H → gNms is vs σ H Q
  | [], [], σ, Q, _, h => ⟨rfl, h⟩
  | [], _ :: _, σ, Q, e, h => by simp at e
  | _ :: _, [], σ, Q, e, h => by simp at e
  | i :: is, v :: vs, σ, Q, e, h => ⟨v, vs, rfl, gNms_ok (by simpa using e) h⟩
theorem loc_all : ∀ {is : List Nat} {ds : List D} {vs : List V} {τ : Loc} {σ : L2.St}, LocR K L ρ m H τ σ → Reps K L ρ m H ds vs → LocR K L ρ m H ((is.zip ds).foldl (fun σ p => σ.set p.1 (some p.2)) τ) (setAll is vs σ)
  | [], ds, vs, τ, σ, l, r => l
  | i :: is, [], vs, τ, σ, l, r => by rw [reps_nil] at r; subst r; exact l
  | i :: is, d :: ds, vs, τ, σ, l, r => by
    rw [reps_cons] at r
    obtain ⟨v, w, rfl, r1, r2⟩ := r
    exact loc_all (is := is) (l.set r1) r2
/-- what a target does to the slots -/
def tgSet (tg : Tg) (σ σ1 : L2.St) : Prop := ∃ vs : List V, σ1 = setAll (tgIs tg) vs σ
theorem tg_ok {tg : Tg} {d : D} {v : V} {τ τ1 : Loc} {σ : L2.St} {Q : L2.St → Hp → Prop} (l : LocR K L ρ m H τ σ) (r : Rep K L ρ m H d v) (e : bindTg tg d τ = some τ1) (k : ∀ σ1, LocR K L ρ m H τ1 σ1 → tgSet tg σ σ1 → Q σ1 H) : gT K tg v σ H Q := by
  cases tg with
  | nm i =>
    cases e
    exact k _ (l.set r) ⟨[v], rfl⟩
  | tp is =>
    unfold bindTg at e
    simp only at e
    split at e
    · rename_i xs
      split at e
      · rename_i hl
        cases e
        rw [rep_tup] at r
        obtain ⟨a, vs, rfl, h1, h2⟩ := r
        have hv : vs.length = is.length := by rw [← h2.length, hl]
        exact ⟨a, vs, rfl, h1, hv, gNms_ok hv (k _ (loc_all l h2) ⟨vs, rfl⟩)⟩
      · cases e
    · cases e
theorem wipe_set {i : Nat} {o : Option V} {σ : L2.St} : ∀ {vs : List Nat}, i ∈ vs → L2.wipe (σ.set i o) vs = L2.wipe σ vs
  | [], h => by cases h
  | v :: vs, h => by
    show (L2.wipe (σ.set i o) vs).set v none = (L2.wipe σ vs).set v none
    have go : ∀ {vs : List Nat}, L2.wipe (σ.set i o) vs = L2.wipe σ vs ∨ L2.wipe (σ.set i o) vs = (L2.wipe σ vs).set i o := by
      intro vs
      induction vs with
      | nil => exact .inr rfl
      | cons w ws ih =>
        show (L2.wipe (σ.set i o) ws).set w none = (L2.wipe σ ws).set w none ∨ (L2.wipe (σ.set i o) ws).set w none = ((L2.wipe σ ws).set w none).set i o
        rcases ih with e | e
        · rw [e]; exact .inl rfl
        · rw [e]
          by_cases z : i = w
          · subst z
            rw [List.set_set]
            exact .inl rfl
          · rw [List.set_comm _ _ z]
            exact .inr rfl
    rcases List.mem_cons.mp h with e | h
    · subst e
      rcases go (vs := vs) with e | e
      · rw [e]
      · rw [e, List.set_set]
    · rw [wipe_set h]
theorem wipe_all {is vs : List Nat} : ∀ {xs : List V} {σ : L2.St}, (∀ j ∈ is, j ∈ vs) → L2.wipe (setAll is xs σ) vs = L2.wipe σ vs := by
  induction is with
  | nil => intro xs σ _; rfl
  | cons i is ih =>
    intro xs σ h
    cases xs with
    | nil => rfl
    | cons x xs =>
      show L2.wipe (setAll is xs (σ.set i (some x))) vs = _
      rw [ih (fun j hj => h j (List.mem_cons_of_mem _ hj)), wipe_set (h i List.mem_cons_self)]
theorem wipe_wipe {σ : L2.St} : ∀ {vs : List Nat}, L2.wipe (L2.wipe σ vs) vs = L2.wipe σ vs := by
  have go : ∀ {us vs : List Nat}, (∀ u ∈ us, u ∈ vs) → L2.wipe (L2.wipe σ us) vs = L2.wipe σ vs := by
    intro us
    induction us with
    | nil => intro vs _; rfl
    | cons u us ih =>
      intro vs h
      show L2.wipe ((L2.wipe σ us).set u none) vs = _
      rw [wipe_set (h u List.mem_cons_self), ih fun w hw => h w (List.mem_cons_of_mem _ hw)]
  exact fun {vs} => go fun u hu => hu
end
end Dy
end
section
set_option Elab.async false
set_option linter.all false
set_option maxRecDepth 100000
set_option maxHeartbeats 4000000
/-! DyG: list comprehensions. -/
namespace Dy
open PySem PySem.Spec PyProof.Rows L2
section
variable {L : Lk} {n : Nat} {X : Cx} {K : PySem.W.Frag} {ρ ρ1 : Pl} {m m1 : Store} {H H1 : Hp} {N : Nm} {sc : Scope}
/-! ### a list that was written becomes a place of the store -/
theorem lv_toCell {a p : Ad} {c : Cell} (hl : ρ.c.length = m.length) (h : Lv (ρ.add p) (m ++ [c]) a) : Lv (ρ.gh p) m a := by
  rcases lv_app hl h with h | h
  · rcases h with h | h
    · exact .inl h
    · exact .inr (List.mem_cons_of_mem _ h)
  · exact .inr (by rw [h]; exact List.mem_cons_self)
theorem wst_toCell {p : Ad} {c : Cell} (S : SR K L (ρ.gh p) m H) : Wst (ρ.gh p) m H (ρ.add p) (m ++ [c]) H :=
  ⟨⟨[p], rfl⟩, fun _ _ e _ _ => e, fun _ _ _ _ nn z => nn (lv_toCell S.len z)⟩
theorem wsl_toCell {p : Ad} {c : Cell} (S : SR K L (ρ.gh p) m H) : Wsl (ρ.gh p) m H (ρ.add p) (m ++ [c]) H := ⟨wst_toCell S, fun _ _ _ e => e⟩
theorem SR.toCell {p : Ad} {c : Cell} (S : SR K L (ρ.gh p) m H) (hp : p ∉ ρ.g) (hc : CellOk K L (ρ.add p) (m ++ [c]) H p c) : SR K L (ρ.add p) (m ++ [c]) H := by
  have st := wst_toCell (c := c) S
  have el : ρ.c.length = m.length := S.len
  have old : ∀ {k : Nat} {c' : Cell} {a : Ad}, (m ++ [c])[k]? = some c' → (ρ.add p).c[k]? = some a → (k < m.length ∧ m[k]? = some c' ∧ ρ.c[k]? = some a) ∨ (k = m.length ∧ c' = c ∧ a = p) := by
    intro k c' a h1 h2
    have h2 : (ρ.c ++ [p])[k]? = some a := h2
    by_cases hk : k < m.length
    · rw [List.getElem?_append_left hk] at h1
      rw [List.getElem?_append_left (by omega)] at h2
      exact .inl ⟨hk, h1, h2⟩
    · obtain ⟨q, _⟩ := List.getElem?_eq_some_iff.mp h1
      have e : k = m.length := by rw [List.length_append] at q; simp at q; omega
      subst e
      rw [List.getElem?_append_right (Nat.le_refl _)] at h1
      rw [List.getElem?_append_right (by omega)] at h2
      simp at h1
      simp [el] at h2
      exact .inr ⟨rfl, h1.symm, h2.symm⟩
  refine ⟨by show (ρ.c ++ [p]).length = _; simp [el], fun k c' a h1 h2 => ?_, fun i j a c1 c2 h1 n1 h2 n2 h3 h4 => ?_, fun a ha => S.gh a (List.mem_cons_of_mem _ ha), fun k c' a h1 n1 h2 z => ?_⟩
  · rcases old h1 h2 with ⟨hk, h1, h2⟩ | ⟨rfl, rfl, rfl⟩
    · exact (S.cell k c' a h1 h2).stepW S st fun _ => rfl
    · exact hc
  · rcases old h1 h3 with ⟨hi, g1, g3⟩ | ⟨ei, _, ea⟩
    · rcases old h2 h4 with ⟨hj, g2, g4⟩ | ⟨_, _, ea⟩
      · exact S.inj i j a c1 c2 g1 n1 g2 n2 g3 g4
      · subst ea
        exact absurd List.mem_cons_self (S.dj i c1 a g1 n1 g3)
    · rcases old h2 h4 with ⟨hj, g2, g4⟩ | ⟨ej, _, _⟩
      · subst ea
        exact absurd List.mem_cons_self (S.dj j c2 a g2 n2 g4)
      · exact ei.trans ej.symm
  · rcases old h1 h2 with ⟨hk, g1, g2⟩ | ⟨_, _, ea⟩
    · exact S.dj k c' a g1 n1 g2 (List.mem_cons_of_mem _ z)
    · subst ea
      exact hp z
/-! ### what is left of a walk -/
section
variable {turn : D → Store → Res (Option D)}
theorem lcL_noexc (ht : ∀ d m x m', turn d m ≠ .exc x m') : ∀ {xs : List D} {m : Store} {x : D} {m' : Store}, lcL turn xs m ≠ .exc x m'
  | [], m, x, m', h => by cases h
  | y :: r, m, x, m', h => by
    unfold lcL at h
    cases e : turn y m with
    | exc z m1 => exact ht _ _ _ _ e
    | stuck => rw [e] at h; cases h
    | ok o m1 =>
      rw [e] at h
      have h : ((lcL turn r m1).bind fun ys m2 => Res.ok (match o with
        | some y => y :: ys
        | none => ys) m2) = .exc x m' := h
      cases e2 : lcL turn r m1 with
      | exc z m2 => exact lcL_noexc ht e2
      | stuck => rw [e2] at h; cases h
      | ok o m2 => rw [e2] at h; cases h
theorem lcC_noexc {k : Nat} (ht : ∀ d m x m', turn d m ≠ .exc x m') : ∀ {μ i : Nat} {m : Store} {x : D} {m' : Store}, lcC turn k μ i m ≠ .exc x m'
  | 0, i, m, x, m', h => by cases h
  | μ + 1, i, m, x, m', h => by
    unfold lcC at h
    split at h
    · split at h
      · cases h
      · rename_i y _
        cases e : turn y m with
        | exc z m1 => exact ht _ _ _ _ e
        | stuck => rw [e] at h; cases h
        | ok o m1 =>
          rw [e] at h
          have h : ((lcC turn k μ (i + 1) m1).bind fun ys m2 => Res.ok (match o with
            | some y => y :: ys
            | none => ys) m2) = .exc x m' := h
          cases e2 : lcC turn k μ (i + 1) m1 with
          | exc z m2 => exact lcC_noexc ht e2
          | stuck => rw [e2] at h; cases h
          | ok o m2 => rw [e2] at h; cases h
    · cases h
def rem (turn : D → Store → Res (Option D)) (s : Src) (i μ : Nat) (mc : Store) (ys : List D) (mf : Store) : Prop := match s with
  | .fix xs => μ = xs.length - i ∧ lcL turn (xs.drop i) mc = .ok ys mf
  | .cel k => lcC turn k μ i mc = .ok ys mf
  | .dic _ _ _ => False
theorem rem_step {s : Src} {J : It} {i μ : Nat} {ys : List D} {mf : Store} (j : JR K L ρ m H s J) (S : SR K L ρ1 m1 H1) (w : Wsl ρ m H ρ1 m1 H1) (r : rem turn s i μ m1 ys mf) :
    (J.stop i H1 ∧ ys = [] ∧ m1 = mf) ∨ (J.go i H1 ∧ ∃ d, (∀ x H', J.yld i H1 x H' → SR K L ρ1 m1 H' ∧ Step ρ1 m1 H1 ρ1 m1 H' ∧ Rep K L ρ1 m1 H' d x) ∧ ∃ o m2 ys' μ', turn d m1 = .ok o m2 ∧ ys = (match o with
      | some y => y :: ys'
      | none => ys') ∧ μ' < μ ∧ rem turn s (i + 1) μ' m2 ys' mf) := by
  have jj := j ρ1 m1 H1 S w i
  cases s with
  | dic _ _ _ => exact r.elim
  | fix xs =>
    obtain ⟨e1, e2⟩ := r
    have jj : JAt K L ρ1 m1 H1 J i xs[i]? := jj
    cases ex : xs[i]? with
    | none =>
      rw [ex] at jj
      have hd : xs.drop i = [] := List.drop_eq_nil_of_le (List.getElem?_eq_none_iff.mp ex)
      rw [hd] at e2
      cases e2
      exact .inl ⟨jj, rfl, rfl⟩
    | some d =>
      rw [ex] at jj
      obtain ⟨hi, ed⟩ := List.getElem?_eq_some_iff.mp ex
      have hd : xs.drop i = d :: xs.drop (i + 1) := by rw [List.drop_eq_getElem_cons hi, ed]
      rw [hd] at e2
      unfold lcL at e2
      obtain ⟨o, m2, t1, e2⟩ := bind_ok e2
      obtain ⟨zs, m3, t2, e2⟩ := bind_ok e2
      cases e2
      exact .inr ⟨jj.1, d, jj.2, o, m2, zs, xs.length - (i + 1), t1, by cases o <;> rfl, by omega, rfl, t2⟩
  | cel k =>
    have r : lcC turn k μ i m1 = .ok ys mf := r
    cases μ with
    | zero => cases r
    | succ μ =>
      unfold lcC at r
      split at r
      · rename_i xs em
        have jj : JAt K L ρ1 m1 H1 J i xs[i]? := jj xs em
        split at r
        · rename_i ex
          rw [ex] at jj
          cases r
          exact .inl ⟨jj, rfl, rfl⟩
        · rename_i d ex
          rw [ex] at jj
          obtain ⟨o, m2, t1, r⟩ := bind_ok r
          obtain ⟨zs, m3, t2, r⟩ := bind_ok r
          cases r
          exact .inr ⟨jj.1, d, jj.2, o, m2, zs, μ, t1, by cases o <;> rfl, Nat.lt_succ_self _, t2⟩
      · cases r
end
/-! ### the tests of a comprehension -/
def EvC (X : Cx) (ifs : List Expr) (σ : L2.St) (H : Hp) (Q : Bool → Hp → Prop) : Prop := ∀ pins s, Inv X pins σ H s →
    wpAny (model X.prog X.w) X.A (forIn ifs true fun c r => if r = true then do let ok ← isTrue c X.env (eval c X.env); pure (ForInStep.yield ok) else pure (ForInStep.yield r)) (TP X pins σ Q) X.xe s
theorem EvC.pts {ifs : List Expr} : PTs X ifs (EvC X ifs) := ⟨fun pins s _ _ _ I h => h pins s I⟩
theorem PTs.ev {ifs : List Expr} {t : TT} (p : PTs X ifs t) {σ : L2.St} {Q : Bool → Hp → Prop} (h : t σ H Q) : EvC X ifs σ H Q := fun pins s I => p.run pins s σ H Q I h
def SndC (L : Lk) (n : Nat) (c : Ot) (ifs : List Expr) (X : Cx) : Prop := ∀ (W : WX) (τ : Dy.Loc) (σ : L2.St) (ρ : Pl) (m : Store) (H : Hp) (Q : Bool → Hp → Prop), Cxt L n X W → LocR X.K L ρ m H τ σ → SR X.K L ρ m H →
  Post X.K L RB ρ m H (evC L.G (run L.G L.fns n) c τ m) Q (rX W σ) → EvC X ifs σ H Q
theorem c_none : SndC L n .none [] X := by
  intro W τ σ ρ m H Q cx lc S h
  rw [evC] at h
  exact PTs.ev pts_nil (Post.ok h S rfl)
theorem c_some {t : T} {e : Expr} (ha : SndT L n t e X) : SndC L n (.some t) [e] X := by
  intro W τ σ ρ m H Q cx lc S h
  rw [evC] at h
  exact PTs.ev (pts_one EvT.pt) (ha W τ σ ρ m H Q cx lc S h)
/-! ### the comprehension -/
abbrev blkX (X : Cx) (scope : Scope) (s : Shared) (H : Hp) (C : Addr) (cl : List (PySem.Str × Addr)) (fp : List Addr) : Cx := X.blk s H scope (compEnvC scope cl C X.env) fp
def tElt (X : Cx) (scope : Scope) (x : Expr) : TE := fun σ H Q => ∀ s H0 C cl fp, EvE (blkX X scope s H0 C cl fp) x σ H Q
def tIfs (X : Cx) (scope : Scope) (ifs : List Expr) : TT := fun σ H Q => ∀ s H0 C cl fp, EvC (blkX X scope s H0 C cl fp) ifs σ H Q
theorem cxt_blk {W : WX} (cx : Cxt L n X W) (scope : Scope) (s : Shared) (H : Hp) (C : Addr) (cl : List (PySem.Str × Addr)) (fp : List Addr) : Cxt L n (blkX X scope s H C cl fp) (fun _ _ _ _ => False) :=
  ⟨cx.nd, cx.room, cx.calm, fun u s' ⟨_, _, _, _, _, _, _, _, _, _, _, _, _, _, _, _, z⟩ => z, cx.fx⟩
theorem lc_t {mu : Bool} {elt : E} {tg : Tg} {it : Wk} {cond : Ot} {own : List Nat} {x t i : Expr} {ifs : List Expr} {scope : Scope} {W : WX} {τ : Dy.Loc} {σ : L2.St} {Q : VK} (cx : Cxt L n X W) (lc : LocR X.K L ρ m H τ σ) (S : SR X.K L ρ m H)
    (hi : SndI L n it t i X) (hown : ∀ j ∈ tgIs tg, j ∈ own) (hc : ∀ s H0 C cl fp, SndC L n cond ifs (blkX X scope s H0 C cl fp)) (he : ∀ s H0 C cl fp, SndE L n elt x (blkX X scope s H0 C cl fp))
    (h : Post X.K L (RE X.K L) ρ m H (evE L.G (run L.G L.fns n) (.lc mu elt tg it cond own) τ m) Q (rX W σ)) : tLc (EvI X t i) (gT X.K tg) (tIfs X scope ifs) (tElt X scope x) own σ H Q := by
  rw [evE] at h
  refine hi W τ σ ρ m H _ cx lc S (Post.bind (Ra := JR X.K L) h fun s m1 ρ1 H1 J S1 st1 j1 h1 => ?_)
  intro D hD
  generalize hturn : (fun d m => match bindTg tg d (wipeD τ own) with
      | some σ1 => ((evC L.G (run L.G L.fns n) cond σ1 m).bind fun k m1 => if k then (evE L.G (run L.G L.fns n) elt σ1 m1).bind fun y m2 => .ok (some y) m2 else .ok none m1).noexc
      | none => .stuck) = turn at h1
  have noex : ∀ d m y m', turn d m ≠ .exc y m' := by
    intro d m y m' e
    subst hturn
    simp only at e
    split at e
    · unfold Res.noexc at e
      split at e <;> cases e
    · cases e
  cases eg : lcG turn s m1 with
  | stuck => rw [eg] at h1; exact Post.stuck h1
  | exc y mf =>
    exfalso
    cases s with
    | fix xs => exact lcL_noexc noex eg
    | cel k => exact lcC_noexc noex eg
    | dic _ _ _ => exact j1 ρ1 m1 H1 S1 Wsl.refl 0
  | ok all mf =>
    rw [eg] at h1
    have h1 : Post X.K L (RE X.K L) ρ1 m1 H1 (if all.length ≤ lim then (if mu then newCell mf (.lst all) else .ok (.fl all) mf) else .stuck) Q (rX W σ) := h1
    split at h1
    case isFalse => exact Post.stuck h1
    rename_i hlim
    have lc1 := lc.step S st1
    have gD : D ∉ ρ1.g := fun z => by
      obtain ⟨vs, e⟩ := S1.gh D z
      rw [hD] at e
      cases e
    refine ⟨fun i μ Hc => ∃ (mc : Store) (ρu : Pl) (acc : List V) (ds ys : List Dy.D), ρu.g = ρ1.g ∧ SR X.K L (ρu.gh D) mc Hc ∧ Wsl ρ1 m1 H1 (ρu.gh D) mc Hc ∧ (∀ a ∈ ρ1.g, Hc a = H1 a) ∧ Hc D = some (.lst acc) ∧ Reps X.K L (ρu.gh D) mc Hc ds acc ∧ all = ds ++ ys ∧ rem turn s i μ mc ys mf, ?_, ?_⟩
    · have r0 : ∃ μ, rem turn s 0 μ m1 all mf := by
        cases s with
        | fix xs => exact ⟨xs.length, rfl, eg⟩
        | cel k => exact ⟨_, eg⟩
        | dic _ _ _ => exact (j1 ρ1 m1 H1 S1 Wsl.refl 0).elim
      obtain ⟨μ, r0⟩ := r0
      refine ⟨μ, m1, ρ1, [], [], all, rfl, S1.ghost hD, wsl_gh S1 hD, fun a ha => ?_, upd_same, reps_nil.mpr rfl, rfl, r0⟩
      have ne : a ≠ D := fun z => gD (by rw [← z]; exact ha)
      rw [upd_ne ne]
    · intro i μ Hc ⟨mc, ρu, acc, ds, ys, eg', Sc, wc, gk, hDc, rp, eall, rm⟩
      have gDu : D ∉ ρu.g := by rw [eg']; exact gD
      rcases rem_step j1 Sc wc rm with ⟨js, rfl, rfl⟩ | ⟨jg, d, jy, o, m2, ys', μ', et, ey, hμ, rm'⟩
      · refine .inl ⟨js, ?_⟩
        have eds : all = ds := by rw [eall, List.append_nil]
        subst eds
        cases mu with
        | true =>
          have Sn : SR X.K L (ρu.add D) (mc ++ [.lst all]) Hc := Sc.toCell gDu ⟨acc, hDc, Reps.stepW Sc (wst_toCell Sc) _ _ rp⟩
          have wn := wc.trans (wsl_toCell (c := .lst all) Sc)
          refine h1 (ρu.add D) Hc _ Sn ⟨wn.w.pre, eg', gk, wn.w.keep, wn.w.nl, wn.lk⟩ (rep_cell.mpr ⟨D, rfl, ?_⟩)
          exact add_at Sc.unghost
        | false =>
          have wn := wc.trans (wsl_un (ρ := ρu) (p := D) (m := mc) (H := Hc))
          refine h1 ρu Hc _ Sc.unghost ⟨wn.w.pre, eg', gk, wn.w.keep, wn.w.nl, wn.lk⟩ (rep_fl.mpr ⟨D, acc, rfl, hDc, notLv_un Sc gDu, Reps.stepW Sc wst_un _ _ rp⟩)
      · refine .inr ⟨jg, fun H' => ∃ (mc : Store) (ρu : Pl) (acc : List V) (ds ys : List Dy.D), ρu.g = ρ1.g ∧ SR X.K L (ρu.gh D) mc H' ∧ Wsl ρ1 m1 H1 (ρu.gh D) mc H' ∧ (∀ a ∈ ρ1.g, H' a = H1 a) ∧ H' D = some (.lst acc) ∧ Reps X.K L (ρu.gh D) mc H' ds acc ∧ all = ds ++ ys ∧ rem turn s (i + 1) μ' mc ys mf, fun H' z => ⟨μ', hμ, z⟩, fun xv H2 hy => ?_⟩
        obtain ⟨S2, st2, rd⟩ := jy xv H2 hy
        have lcw : LocR X.K L (ρu.gh D) mc H2 (wipeD τ own) (L2.wipe σ own) := (((lc1.stepW S1 wc.w).step Sc st2)).wipe own
        rw [← hturn] at et
        simp only at et
        split at et
        case h_2 => cases et
        rename_i τ1 eb
        have et2 : ((evC L.G (run L.G L.fns n) cond τ1 mc).bind fun k m1 => if k then (evE L.G (run L.G L.fns n) elt τ1 m1).bind fun y m2 => .ok (some y) m2 else .ok none m1) = .ok o m2 := by
          unfold Res.noexc at et
          split at et
          · rename_i e; rw [e, et]
          · cases et
        obtain ⟨k, m3, ec, et3⟩ := bind_ok et2
        refine tg_ok lcw rd eb fun σ1 l1 ⟨us, eσ⟩ => ⟨by rw [eσ, wipe_all hown, wipe_wipe], ?_⟩
        intro s0 H0 C cl fp
        have cxb := cxt_blk cx scope s0 H0 C cl fp
        refine hc s0 H0 C cl fp _ τ1 σ1 _ mc H2 _ cxb l1 S2 ?_
        rw [ec]
        intro ρ3 H3 b S3 st3 hb
        obtain rfl : k = b := hb
        have gD3 : D ∈ (ρu.gh D).g := List.mem_cons_self
        -- what every later state keeps
        have later : ∀ {ρ4 : Pl} {m4 : Store} {H4 : Hp}, Step (ρu.gh D) mc Hc ρ4 m4 H4 → ∃ ρv : Pl, ρ4 = ρv.gh D ∧ ρv.g = ρ1.g ∧ H4 D = some (.lst acc) ∧ (∀ a ∈ ρ1.g, H4 a = H1 a) := by
          intro ρ4 m4 H4 st
          refine ⟨⟨ρ4.c, ρ1.g⟩, ?_, rfl, by rw [st.gk D gD3, hDc], fun a ha => by rw [st.gk a (List.mem_cons_of_mem _ (by rw [eg']; exact ha)), gk a ha]⟩
          obtain ⟨c4, g4⟩ := ρ4
          have e : g4 = D :: ρu.g := st.gg
          rw [e, eg']
          rfl
        cases k with
        | false =>
          have et3 : Res.ok (none : Option Dy.D) m3 = .ok o m2 := et3
          cases et3
          rw [if_neg Bool.false_ne_true]
          obtain ⟨ρv, rfl, e2, e3, e4⟩ := later (st2.trans st3)
          exact ⟨_, ρv, acc, ds, ys', e2, S3, wc.trans (st2.trans st3).wl, e4, e3, Reps.step Sc (st2.trans st3) _ _ rp, by rw [eall, ey], rm'⟩
        | true =>
          have et3 : ((evE L.G (run L.G L.fns n) elt τ1 m3).bind fun y m2 => Res.ok (some y) m2) = .ok o m2 := et3
          obtain ⟨yd, m4, ee, et4⟩ := bind_ok et3
          cases et4
          rw [if_pos rfl]
          intro s1 H01 C1 cl1 fp1
          refine he s1 H01 C1 cl1 fp1 _ τ1 σ1 ρ3 m3 H3 _ (cxt_blk cx scope s1 H01 C1 cl1 fp1) (l1.step S2 st3) S3 ?_
          rw [ee]
          intro ρ4 H4 yv S4 st4 ry
          have st24 := (st2.trans st3).trans st4
          obtain ⟨ρv, rfl, e2, e3, e4⟩ := later st24
          refine ⟨acc, e3, ?_, ?_⟩
          · rw [eall, ey, List.length_append, rp.length, List.length_cons, lim_eq] at hlim
            omega
          · have gDv : D ∈ (ρv.gh D).g := List.mem_cons_self
            have ww := wsl_wr (o := .lst (acc ++ [yv])) S4 gDv
            refine ⟨m2, ρv, acc ++ [yv], ds ++ [yd], ys', e2, S4.wr gDv, (wc.trans st24.wl).trans ww, fun a ha => ?_, upd_same, ?_, by rw [eall, ey]; simp, rm'⟩
            · have ne : a ≠ D := fun z => gD (by rw [← z]; exact ha)
              rw [upd_ne ne, e4 a ha]
            · exact Reps.stepW S4 ww.w _ _ ((Reps.step Sc st24 _ _ rp).app (.one ry))
theorem own_ix (own : List Nat) (N : Nm) : ((own.map fun j => (N.getD j ("" : PySem.Str), j)).map (·.2)) = own := by
  rw [List.map_map]
  exact (List.map_congr_left fun _ _ => rfl).trans (List.map_id own)
theorem wr_blk {scope : Scope} {s : Shared} {C : Addr} {cl : List (PySem.Str × Addr)} {fp : List Addr} : Wr (blkX X scope s H C cl fp) scope := by
  intro x h
  unfold isLoc at h
  split at h
  · rename_i e
    have q : (blkX X scope s H C cl fp).env.scope.names.lookup x = some .local := lookup_relS_keep (by decide) e
    exact ⟨.inl q, .inr q⟩
  · rename_i e
    have q : (blkX X scope s H C cl fp).env.scope.names.lookup x = some .cell := lookup_relS_keep (by decide) e
    exact ⟨.inr q, .inl (by show (scope.names.lookup x == some .cell) = true; rw [e] <;> rfl)⟩
  · cases h
theorem s_lc {mu : Bool} {elt : E} {tg : Tg} {it : Wk} {cond : Ot} {own : List Nat} {x t i : Expr} {ifs : List Expr} {scope : Scope} {pos : Pos} (hN : X.N.Nodup) (hcalm : X.calm = true) (hi : SndI L n it t i X) (hs : ∀ y, foldedSetIterable i X.env y = pure y)
    (hown : ∀ j ∈ tgIs tg, j ∈ own) (htg : mTg X.N scope tg t = true) (hblk : blkC X.N X.env.scope scope (own.map fun j => (X.N.getD j ("" : PySem.Str), j)) = true)
    (hc : ∀ s H0 C cl fp, SndC L n cond ifs (blkX X scope s H0 C cl fp)) (he : ∀ s H0 C cl fp, SndE L n elt x (blkX X scope s H0 C cl fp)) : SndE L n (.lc mu elt tg it cond own) (.ListComp x [⟨t, i, ifs, 0⟩] scope pos) X := by
  intro W τ σ ρ m H Q cx lc S h
  refine PE.ev (pe_lc (g := gT X.K tg) (tt := tIfs X scope ifs) (te := tElt X scope x) hcalm hN EvI.pi (blkOk_by hblk) (fun s H C cl fp => pg_tg (X := blkX X scope s H C cl fp) hcalm hN wr_blk htg) (fun s H C cl fp => ⟨fun pins s' σ H' Q I q => q s H C cl fp pins s' I⟩) (fun s H C cl fp => ⟨fun pins s' σ H' Q I q => q s H C cl fp pins s' I⟩) hs) ?_
  rw [own_ix]
  exact lc_t cx lc S hi hown hc he h
/-! ### a dict that is only read -/
theorem post_lck {e : Expr} {k : Nat} {a : Ad} {kvs : List (Ky × D)} {kv : List (Key × V)} {r : Res D} {Q : VK} {R : XK} {σ : L2.St} (S : SR X.K L ρ m H) (hk : m[k]? = some (.dct false kvs)) (ha : ρ.c[k]? = some a) (hH : H a = some (.dK kv)) (hr : RepK X.K L ρ m H kvs kv) (hn : (kv.map (·.1)).Nodup)
    (h : Post X.K L (RE X.K L) ρ m H (lckR k r) Q R) (go : ∀ (od : PySem.Obj) (Q' : VK), (∀ (b : Bool) (m1 : Store) (ρ1 : Pl) (H1 : Hp), r = .ok (.bl b) m1 → SR X.K L ρ1 m1 H1 → Step ρ (m.set k (.dct true kvs)) (upd H a (.frz od (.dK kv))) ρ1 m1 H1 → Q' (.bl b) H1) → SR X.K L ρ (m.set k (.dct true kvs)) (upd H a (.frz od (.dK kv))) → Step ρ m H ρ (m.set k (.dct true kvs)) (upd H a (.frz od (.dK kv))) → EvE X e σ (upd H a (.frz od (.dK kv))) Q') : EvE X e σ H Q := by
  refine PE.ev (pe_lock EvE.pe) ⟨a, _, hH, trivial, fun od => ?_⟩
  have st0 : Step ρ m H ρ (m.set k (.dct true kvs)) (upd H a (.frz od (.dK kv))) := step_set S hk (by simp) ha
  have S0 : SR X.K L ρ (m.set k (.dct true kvs)) (upd H a (.frz od (.dK kv))) := S.set hk (by simp) ha ⟨kv, RepK.step S st0 _ _ hr, hn, od, upd_same⟩
  refine go od _ (fun b m1 ρ1 H1 er S1 st1 => ?_) S0 st0
  subst er
  have e1 : H1 a = some (.frz od (.dK kv)) := st1.lk _ _ _ upd_same
  refine ⟨e1, ?_⟩
  unfold lckR at h
  simp only at h
  split at h
  · rename_i kvs1 hm1
    have hk1 : ρ1.c[k]? = some a := (st0.trans st1).get ha
    obtain ⟨kv', r1, n1, o1, z1⟩ := S1.cell k _ a hm1 hk1
    rw [e1] at z1
    cases z1
    have w1 : Wst ρ1 m1 H1 ρ1 (m1.set k (.dct false kvs1)) (upd H1 a (.dK kv)) := step_setW S1 hm1 (by simp) hk1
    have S2 : SR X.K L ρ1 (m1.set k (.dct false kvs1)) (upd H1 a (.dK kv)) := S1.set hm1 (by simp) hk1 ⟨kv, RepK.stepW S1 w1 _ _ r1, n1, upd_same⟩
    have ww := (st0.trans st1).w.trans w1
    have ng : ∀ b ∈ ρ.g, b ≠ a := fun b hb z => S.dj k _ a hk (by simp) ha (z ▸ hb)
    refine h ρ1 _ _ S2 ⟨ww.pre, (st0.trans st1).gg, fun b hb => ?_, ww.keep, ww.nl, fun b o kv2 e => ?_⟩ (rep_bl.mpr rfl)
    · rw [upd_ne (ng b hb)]
      exact (st0.trans st1).gk b hb
    · have ne : b ≠ a := fun z => by
        rw [z, hH] at e
        cases e
      rw [upd_ne ne]
      exact (st0.trans st1).lk b o kv2 e
  · exact Post.stuck h
theorem s_lck {i : Nat} {a : E} {e : Expr} (he : SndE L n a e X) : SndE L n (.lck i a) e X := by
  intro W τ σ ρ m H Q cx lc S h
  rw [evE] at h
  split at h
  case h_2 => exact he W τ σ ρ m H Q cx lc S h
  rename_i k _
  split at h
  case h_2 => exact he W τ σ ρ m H Q cx lc S h
  rename_i kvs hk
  have lt : k < ρ.c.length := by rw [S.len]; exact (List.getElem?_eq_some_iff.mp hk).1
  have ha : ρ.c[k]? = some ρ.c[k] := List.getElem?_eq_getElem lt
  obtain ⟨kv, r, hn, hH⟩ := S.cell k _ _ hk ha
  cases er : evE L.G (run L.G L.fns n) a τ (m.set k (.dct true kvs)) with
  | stuck => rw [er] at h; exact Post.stuck h
  | exc x m1 => rw [er] at h; exact Post.stuck h
  | ok d m1 =>
    rw [er] at h
    cases d with
    | bl b =>
      refine post_lck S hk ha hH r hn h fun od Q' hQ S0 st0 => ?_
      refine he W τ σ ρ _ _ Q' cx (lc.step S st0) S0 ?_
      rw [er]
      intro ρ1 H1 v S1 st1 rv
      obtain rfl : v = .bl b := rep_bl.mp rv
      exact hQ b m1 ρ1 H1 rfl S1 st1
    | _ => exact Post.stuck h
end
end Dy
end
section
set_option Elab.async false
set_option linter.all false
set_option maxRecDepth 100000
set_option maxHeartbeats 4000000
/-! DyH: statements. -/
namespace Dy
open PySem PySem.Spec PyProof.Rows L2
/-- what holds behind a statement -/
def PostF (K : PySem.W.Frag) (L : Lk) (ρ : Pl) (m : Store) (H : Hp) (r : Flw) (D : Ends) (W : WX) : Prop := match r with
  | .nx τ m' => ∀ ρ' H' σ', SR K L ρ' m' H' → Step ρ m H ρ' m' H' → LocR K L ρ' m' H' τ σ' → D.nx σ' H'
  | .brk τ m' => ∀ ρ' H' σ', SR K L ρ' m' H' → Step ρ m H ρ' m' H' → LocR K L ρ' m' H' τ σ' → D.bk σ' H'
  | .ct τ m' => ∀ ρ' H' σ', SR K L ρ' m' H' → Step ρ m H ρ' m' H' → LocR K L ρ' m' H' τ σ' → D.ct σ' H'
  | .rt d m' => ∀ ρ' H' v, SR K L ρ' m' H' → Step ρ m H ρ' m' H' → Rep K L ρ' m' H' d v → D.rt v H'
  | .exc x τ m' => ∀ ρ' H' σ' cls dx, SR K L ρ' m' H' → Step ρ m H ρ' m' H' → LocR K L ρ' m' H' τ σ' → XRep K L ρ' m' H' x cls dx → W cls dx σ' H'
  | .stuck => False
/-- what a statement needs of its context -/
structure CxtS (L : Lk) (n : Nat) (X : Cx) (W : WX) : Prop where
  cx : Cxt L n X W
  po : PassesOwn (model X.prog X.w) X.A X.env X.xe
  hs : X.stack = X.env :: X.outer
  hf : X.env.frame = some X.env.locals
  fnT : ∀ x, X.fn x = true
  kind : X.env.scope.kind = .function
section
variable {L : Lk} {n : Nat} {X : Cx} {K : PySem.W.Frag} {ρ ρ1 : Pl} {m m1 : Store} {H H1 : Hp} {N : Nm} {sc : Scope} {D : Ends} {W : WX}
theorem PostF.next {r : Flw} (h : PostF K L ρ m H r D W) (st : Step ρ m H ρ1 m1 H1) : PostF K L ρ1 m1 H1 r D W := by
  cases r with
  | nx τ m' => exact fun ρ' H' σ' S s l => h ρ' H' σ' S (st.trans s) l
  | brk τ m' => exact fun ρ' H' σ' S s l => h ρ' H' σ' S (st.trans s) l
  | ct τ m' => exact fun ρ' H' σ' S s l => h ρ' H' σ' S (st.trans s) l
  | rt d m' => exact fun ρ' H' v S s q => h ρ' H' v S (st.trans s) q
  | exc x τ m' => exact fun ρ' H' σ' cls dx S s l q => h ρ' H' σ' cls dx S (st.trans s) l q
  | stuck => exact h
theorem PostF.stuck (h : PostF K L ρ m H .stuck D W) {P : Prop} : P := (show False from h).elim
/-- a value is reckoned, then it goes on -/
theorem PostF.go {α β : Type} {Ra : Pl → Store → Hp → α → β → Prop} {r : Res α} {τ : Dy.Loc} {σ : L2.St} {f : α → Store → Flw} {Q1 : β → Hp → Prop} (lc : LocR K L ρ m H τ σ) (S : SR K L ρ m H) (h : PostF K L ρ m H (r.go τ f) D W)
    (k : ∀ d m1 ρ1 H1 v, SR K L ρ1 m1 H1 → Step ρ m H ρ1 m1 H1 → LocR K L ρ1 m1 H1 τ σ → Ra ρ1 m1 H1 d v → PostF K L ρ1 m1 H1 (f d m1) D W → Q1 v H1) : Post K L Ra ρ m H r Q1 (rX W σ) := by
  cases r with
  | ok d m' => exact fun ρ' H' v S' s q => k d m' ρ' H' v S' s (lc.step S s) q (PostF.next (r := f d m') h s)
  | exc x m' => exact fun ρ' H' cls dx S' s q => h ρ' H' σ cls dx S' s (lc.step S s) q
  | stuck => exact (show False from h).elim
theorem PostF.goE {α β : Type} {Ra : Pl → Store → Hp → α → β → Prop} {r : Res α} {τ : Dy.Loc} {σ : L2.St} {f : α → Store → Flw} {Q1 : β → Hp → Prop} (lc : LocR K L ρ m H τ σ) (S : SR K L ρ m H) (h : PostF K L ρ m H (r.go τ f) D W)
    (k : ∀ d m1 ρ1 H1 v, r = .ok d m1 → SR K L ρ1 m1 H1 → Step ρ m H ρ1 m1 H1 → LocR K L ρ1 m1 H1 τ σ → Ra ρ1 m1 H1 d v → PostF K L ρ1 m1 H1 (f d m1) D W → Q1 v H1) : Post K L Ra ρ m H r Q1 (rX W σ) := by
  cases r with
  | ok d m' => exact fun ρ' H' v S' s q => k d m' ρ' H' v rfl S' s (lc.step S s) q (PostF.next (r := f d m') h s)
  | exc x m' => exact fun ρ' H' cls dx S' s q => h ρ' H' σ cls dx S' s (lc.step S s) q
  | stuck => exact (show False from h).elim
def SndS (L : Lk) (n : Nat) (c : S) (st : Stmt) (X : Cx) : Prop := ∀ (W : WX) (τ : Dy.Loc) (σ : L2.St) (ρ : Pl) (m : Store) (H : Hp) (D : Ends), CxtS L n X W → LocR X.K L ρ m H τ σ → SR X.K L ρ m H →
  PostF X.K L ρ m H (evS L.G (run L.G L.fns n) c τ m) D W → EvS X st σ H D
def SndSs (L : Lk) (n : Nat) (c : Ss) (st : List Stmt) (X : Cx) : Prop := ∀ (W : WX) (τ : Dy.Loc) (σ : L2.St) (ρ : Pl) (m : Store) (H : Hp) (D : Ends), CxtS L n X W → LocR X.K L ρ m H τ σ → SR X.K L ρ m H →
  PostF X.K L ρ m H (evSs L.G (run L.G L.fns n) c τ m) D W → EvSs X st σ H D
/-! ### sequences -/
theorem ss_nil : SndSs L n .nil [] X := by
  intro W τ σ ρ m H D cx lc S h
  rw [evSs] at h
  exact PSs.ev pss_nil (h ρ H σ S Step.refl lc)
theorem seq_post {r : Flw} {f : Dy.Loc → Store → Flw} {D2 : Ends} (h : PostF K L ρ m H (r.go f) D W) (h1 : D2.rt = D.rt) (h2 : D2.bk = D.bk) (h3 : D2.ct = D.ct)
    (k : ∀ τ m1 ρ1 H1 σ, SR K L ρ1 m1 H1 → LocR K L ρ1 m1 H1 τ σ → PostF K L ρ1 m1 H1 (f τ m1) D W → D2.nx σ H1) : PostF K L ρ m H r D2 W := by
  cases r with
  | nx τ m' => exact fun ρ' H' σ' S s l => k τ m' ρ' H' σ' S l (PostF.next (r := f τ m') h s)
  | brk τ m' => exact fun ρ' H' σ' S s l => h2 ▸ h ρ' H' σ' S s l
  | ct τ m' => exact fun ρ' H' σ' S s l => h3 ▸ h ρ' H' σ' S s l
  | rt d m' => exact fun ρ' H' v S s q => h1 ▸ h ρ' H' v S s q
  | exc x τ m' => exact h
  | stuck => exact h
theorem ss_cons {c : S} {r : Ss} {st : Stmt} {rest : List Stmt} (ha : SndS L n c st X) (hr : SndSs L n r rest X) : SndSs L n (.cons c r) (st :: rest) X := by
  intro W τ σ ρ m H D cx lc S h
  rw [evSs] at h
  refine PSs.ev (pss_cons EvS.ps EvSs.pss) ?_
  refine ha W τ σ ρ m H _ cx lc S (seq_post h rfl rfl rfl fun τ1 m1 ρ1 H1 σ1 S1 l1 h1 => ?_)
  exact hr W τ1 σ1 ρ1 m1 H1 D cx l1 S1 h1
theorem ss_frz {i : Nat} {r : Ss} {rest : List Stmt} (hr : SndSs L n r rest X) : SndSs L n (.cons (.frz i) r) rest X := by
  intro W τ σ ρ m H D cx lc S h
  rw [evSs, evS] at h
  split at h
  · rename_i x ex
    obtain ⟨v, hv, rv⟩ := lc.2 i x ex
    cases x with
    | cell k =>
      unfold frzD at h
      simp only at h
      split at h
      · rename_i d m1 e
        split at e
        · rename_i xs em
          cases e
          obtain ⟨a, vs, rfl, ha, h1, h2⟩ := cell_lst S rv em
          have st := step_kill S em (by simp)
          have S1 := S.kill em (by simp)
          have rd : Rep X.K L ρ (m.set k .dead) H (.fl xs) (.ref a) := rep_fl.mpr ⟨a, vs, rfl, h1, notLv_kill S em (by simp) ha, Reps.step S st _ _ h2⟩
          have l1 := lc.step S st
          refine hr W (τ.set i (some (.fl xs))) σ ρ _ H D cx ⟨by rw [List.length_set]; exact l1.1, fun j d' e' => ?_⟩ S1 (PostF.next h st)
          by_cases hj : j = i
          · subst hj
            have hlt : j < τ.length := (List.getElem?_eq_some_iff.mp ex).1
            rw [List.getElem?_set_self hlt] at e'
            cases e'
            exact ⟨_, hv, rd⟩
          · rw [List.getElem?_set_ne (Ne.symm hj)] at e'
            exact l1.2 j d' e'
        · cases e
      · exact PostF.stuck h
    | _ => exact PostF.stuck h
  · exact PostF.stuck h
/-! ### plain statements -/
theorem st_pass {pos : Pos} : SndS L n .pass (.Pass pos) X := by
  intro W τ σ ρ m H D cx lc S h
  rw [evS] at h
  exact PS.ev ps_pass (h ρ H σ S Step.refl lc)
theorem st_brk {pos : Pos} : SndS L n .brk (.Break pos) X := by
  intro W τ σ ρ m H D cx lc S h
  rw [evS] at h
  exact PS.ev ps_break (h ρ H σ S Step.refl lc)
theorem st_ct {pos : Pos} : SndS L n .ct (.Continue pos) X := by
  intro W τ σ ρ m H D cx lc S h
  rw [evS] at h
  exact PS.ev ps_continue (h ρ H σ S Step.refl lc)
theorem st_ret {a : E} {e : Expr} {pos : Pos} (ha : SndE L n a e X) : SndS L n (.ret a) (.Return (some e) pos) X := by
  intro W τ σ ρ m H D cx lc S h
  rw [evS] at h
  refine PS.ev (ps_ret EvE.pe) (ha W τ σ ρ m H _ cx.cx lc S (PostF.go (Ra := Rep X.K L) lc S h fun d m1 ρ1 H1 v S1 st1 l1 r1 h1 => ?_))
  exact h1 ρ1 H1 v S1 Step.refl r1
theorem st_retN {pos : Pos} : SndS L n .retN (.Return none pos) X := by
  intro W τ σ ρ m H D cx lc S h
  rw [evS] at h
  exact PS.ev ps_retN (h ρ H .non S Step.refl (rep_non.mpr rfl))
theorem st_ex {a : E} {e : Expr} {pos : Pos} (hs : swapsWith e none pos.line X.env = pure false) (ha : SndE L n a e X) : SndS L n (.ex a) (.Expr e pos) X := by
  intro W τ σ ρ m H D cx lc S h
  rw [evS] at h
  refine PS.ev (ps_expr EvE.pe hs) (ha W τ σ ρ m H _ cx.cx lc S (PostF.go (Ra := Rep X.K L) lc S h fun d m1 ρ1 H1 v S1 st1 l1 r1 h1 => ?_))
  exact h1 ρ1 H1 σ S1 Step.refl l1
theorem st_ite {t : T} {a b : Ss} {c : Expr} {x y : List Stmt} {pos : Pos} (ht : SndT L n t c X) (ha : SndSs L n a x X) (hb : SndSs L n b y X) : SndS L n (.ite t a b) (.If c x y pos) X := by
  intro W τ σ ρ m H D cx lc S h
  rw [evS] at h
  refine PS.ev (ps_if EvT.pt EvSs.pss EvSs.pss) (ht W τ σ ρ m H _ cx.cx lc S (PostF.go (Ra := RB) lc S h fun k m1 ρ1 H1 b S1 st1 l1 r1 h1 => ?_))
  obtain rfl : k = b := r1
  cases k with
  | true => exact ha W τ σ ρ1 m1 H1 D cx l1 S1 h1
  | false => exact hb W τ σ ρ1 m1 H1 D cx l1 S1 h1
theorem wr_of (cx : CxtS L n X W) : Wr X X.env.scope := by
  intro x h
  unfold isLoc at h
  split at h
  · rename_i e; exact ⟨.inl e, .inl (cx.fnT x)⟩
  · rename_i e; exact ⟨.inr e, .inl (cx.fnT x)⟩
  · cases h
theorem st_set {i : Nat} {a : E} {t e : Expr} {pos : Pos} (hm : mNm X.N X.env.scope i t = true) (hs : swapsWithSole [t] e pos.line X.env = pure false) (ha : SndE L n a e X) : SndS L n (.set i a) (.Assign [t] e pos) X := by
  intro W τ σ ρ m H D cx lc S h
  rw [evS] at h
  cases t with
  | Name x p =>
    refine PS.ev (ps_asg EvE.pe (pg_nm cx.cx.nd (wr_of cx) hm) hs (by cases e <;> rfl) rfl) (ha W τ σ ρ m H _ cx.cx lc S (PostF.go (Ra := Rep X.K L) lc S h fun d m1 ρ1 H1 v S1 st1 l1 r1 h1 => ?_))
    exact h1 ρ1 H1 _ S1 Step.refl (l1.set r1)
  | _ => simp [mNm] at hm
theorem st_setLc {i0 : Nat} {mu : Bool} {elt : E} {tg : Tg} {it : Wk} {cond : Ot} {own : List Nat} {y : PySem.Str} {py : Pos} {x t i : Expr} {ifs : List Expr} {scope : Scope} {pos spos : Pos} (hm : mNm X.N X.env.scope i0 (.Name y py) = true)
    (hi : SndI L n it t i X) (hs : ∀ y, foldedSetIterable i X.env y = pure y)
    (hown : ∀ j ∈ tgIs tg, j ∈ own) (htg : mTg X.N scope tg t = true) (hblk : blkC X.N X.env.scope scope (own.map fun j => (X.N.getD j ("" : PySem.Str), j)) = true)
    (hc : ∀ s H0 C cl fp, SndC L n cond ifs (blkX X scope s H0 C cl fp)) (he : ∀ s H0 C cl fp, SndE L n elt x (blkX X scope s H0 C cl fp)) : SndS L n (.set i0 (.lc mu elt tg it cond own)) (.Assign [.Name y py] (.ListComp x [⟨t, i, ifs, 0⟩] scope pos) spos) X := by
  intro W τ σ ρ m H D cx lc S h
  rw [evS] at h
  have sw : swapsWith (.ListComp x [⟨t, i, ifs, 0⟩] scope pos) (some (.Name y py)) spos.line X.env = pure (X.env.blockKind == .function && X.env.kindOf y == some .local && py.line == pos.line
      && !(scope.names.any fun (n, k) => n == y && (k == .local || k == .cell))) := rfl
  have hm2 : (decide (X.N[i0]? = some y) && isLoc X.env.scope y) = true := hm
  rw [Bool.and_eq_true, decide_eq_true_eq] at hm2
  cases hb : (X.env.blockKind == .function && X.env.kindOf y == some .local && py.line == pos.line
      && !(scope.names.any fun (n, k) => n == y && (k == .local || k == .cell))) with
  | false =>
    rw [hb] at sw
    exact st_set (pos := spos) hm (show swapsWithSole [.Name y py] (.ListComp x [⟨t, i, ifs, 0⟩] scope pos) spos.line X.env = pure false from sw) (s_lc cx.cx.nd cx.cx.calm hi hs hown htg hblk hc he) W τ σ ρ m H D cx lc S (by rw [evS]; exact h)
  | true =>
    rw [hb] at sw
    have hy : X.env.scope.names.lookup y = some .local := by
      rw [Bool.and_eq_true, Bool.and_eq_true, Bool.and_eq_true] at hb
      exact eq_of_beq hb.1.1.2
    refine PS.ev (ps_setLc (g := gT X.K tg) (tt := tIfs X scope ifs) (te := tElt X scope x) cx.cx.calm cx.cx.nd hm2.1 hy sw EvI.pi (blkOk_by hblk) (fun s H C cl fp => pg_tg (X := blkX X scope s H C cl fp) cx.cx.calm cx.cx.nd wr_blk htg) (fun s H C cl fp => ⟨fun pins s' σ H' Q I q => q s H C cl fp pins s' I⟩) (fun s H C cl fp => ⟨fun pins s' σ H' Q I q => q s H C cl fp pins s' I⟩) hs) ?_
    rw [own_ix]
    refine lc_t cx.cx lc S hi hown hc he (PostF.go (Ra := Rep X.K L) lc S h fun d m1 ρ1 H1 v S1 st1 l1 r1 h1 => ?_)
    exact h1 ρ1 H1 _ S1 Step.refl (l1.set r1)
theorem st_unp {is : List Nat} {a : E} {ts : List Expr} {k : Nat} {tp pos : Pos} {e : Expr} (hm : mNms X.N X.env.scope is ts = true) (he : (match e with
    | .Tuple _ _ _ => false
    | _ => true) = true) (ha : SndE L n a e X) : SndS L n (.unp is a) (.Assign [.Tuple ts k tp] e pos) X := by
  intro W τ σ ρ m H D cx lc S h
  rw [evS] at h
  have q := pg_tg (X := X) (sc := X.env.scope) cx.cx.calm cx.cx.nd (wr_of cx) (tg := .tp is) (e := .Tuple ts k tp) hm
  refine PS.ev (ps_asg EvE.pe q (by cases e <;> rfl) (by cases e <;> first | rfl | simp at he) rfl) (ha W τ σ ρ m H _ cx.cx lc S (PostF.go (Ra := Rep X.K L) lc S h fun d m1 ρ1 H1 v S1 st1 l1 r1 h1 => ?_))
  unfold bound at h1
  split at h1
  · rename_i τ1 e1
    exact tg_ok l1 r1 e1 fun σ1 l2 _ => h1 ρ1 H1 σ1 S1 Step.refl l2
  · exact PostF.stuck h1
end
end Dy
end
section
set_option Elab.async false
set_option linter.all false
set_option maxRecDepth 100000
set_option maxHeartbeats 4000000
/-! DyI: stores into lists, dicts, fields; augmented stores; several at once; loops. -/
namespace Dy
open PySem PySem.Spec PyProof.Rows L2
section
variable {L : Lk} {n : Nat} {X : Cx} {K : PySem.W.Frag} {ρ ρ1 : Pl} {m m1 : Store} {H H1 : Hp} {N : Nm} {sc : Scope} {De : Ends} {W : WX}
/-! ### o[i] = v -/
def setV (X : Cx) : TSet := fun o i v H Q => ∀ pins s σ ov iv u, Inv X pins σ H s → RelV o ov → RelV i iv → RelV v u →
    wpAny (model X.prog X.w) X.A (setItem ov iv u) (fun _ s' => ∃ H', Inv X pins σ H' s' ∧ Q H') X.xe s
theorem setV_ok : PSet X (setV X) := fun pins s σ H o i v ov iv u Q I ro ri rv h => h pins s σ ov iv u I ro ri rv
theorem PSet.w {r : TSet} (p : PSet X r) {o i v : V} {Q : Hp → Prop} (h : r o i v H Q) : setV X o i v H Q := fun pins s σ ov iv u I ro ri rv => p pins s σ H o i v ov iv u Q I ro ri rv h
theorem setix_ok {x y v : D} {o i u : V} {m4 : Store} {τ : Dy.Loc} {σ : L2.St} (hu : X.A.units + 1 < cLine) (S : SR X.K L ρ m H) (lc : LocR X.K L ρ m H τ σ) (rx : Rep X.K L ρ m H x o) (ry : Rep X.K L ρ m H y i) (rv : Rep X.K L ρ m H v u) (e : setixD m x y v = some m4)
    (h : PostF X.K L ρ m H (.nx τ m4) De W) : setV X o i u H fun H' => De.nx σ H' := by
  unfold setixD at e
  split at e
  · rename_i k
    split at e
    · rename_i xs em
      split at e
      · rename_i z
        obtain ⟨j, e1, e2⟩ := Option.map_eq_some_iff.mp e
        subst e2
        rw [rep_int] at ry
        subst ry
        obtain ⟨a, vs, rfl, ha, h1, h2⟩ := cell_lst S rx em
        refine PSet.w set_list ⟨a, vs, z, j, rfl, rfl, h1, by rw [← h2.length, ← ixN_eq]; exact e1, ?_⟩
        have st := step_set (c' := .lst (xs.set j v)) (o := .lst (vs.set j u)) S em (by simp) ha
        exact h ρ _ σ (S.set em (by simp) ha ⟨_, upd_same, Reps.step S st _ _ (h2.set j rv)⟩) st (lc.step S st)
      · cases e
    · rename_i kvs em
      split at e
      · rename_i hl
        obtain ⟨ky, e1, e2⟩ := Option.map_eq_some_iff.mp e
        subst e2
        obtain ⟨a, kv, rfl, ha, rd, rk, nd, hf, _⟩ := cell_dct S rx em
        have ev := key_rep e1 ry
        subst ev
        have hD := hf rfl
        have st := step_set (c' := .dct false (Dy.putK ky v kvs)) (o := .dK (L2.putK kv (kyV ky) u)) S em (by simp) ha
        have hn := h ρ _ σ (S.set em (by simp) ha ⟨_, RepK.step S st _ _ (rk.put rv nd), nodup_put nd, upd_same⟩) st (lc.step S st)
        intro pins s σ' ov iv uu I ro ri rv'
        obtain rfl : ov = Value.ref a := ro
        have hlen : kv.length < sizeLine := by rw [← rk.length, sizeLine_eq]; omega
        exact d_setItem hu I (DPut.k hD hlen) ri rv' fun s4 I4 => ⟨_, I4, hn⟩
      · cases e
    · cases e
  · cases e
theorem st_setix {a i e : E} {x y v : Expr} {sp pos : Pos} (hy : (match y with
    | .Slice _ _ _ _ => false
    | _ => true) = true) (ha : SndE L n a x X) (hi : SndE L n i y X) (he : SndE L n e v X) : SndS L n (.setix a i e) (.Assign [.Subscript x y sp] v pos) X := by
  intro W τ σ ρ m H D cx lc S h
  rw [evS] at h
  have hu := cx.cx.hu
  refine PS.ev (ps_asg EvE.pe (pg_sub EvE.pe EvE.pe setV_ok (fun w => by cases y <;> first | rfl | simp at hy)) (by cases v <;> rfl) (by cases v <;> rfl) rfl) (he W τ σ ρ m H _ cx.cx lc S (PostF.go (Ra := Rep X.K L) lc S h fun d m1 ρ1 H1 u S1 st1 l1 r1 h1 => ?_))
  refine ha W τ σ ρ1 m1 H1 _ cx.cx l1 S1 (PostF.go (Ra := Rep X.K L) l1 S1 h1 fun d2 m2 ρ2 H2 o S2 st2 l2 r2 h2 => ?_)
  refine hi W τ σ ρ2 m2 H2 _ cx.cx l2 S2 (PostF.go (Ra := Rep X.K L) l2 S2 h2 fun d3 m3 ρ3 H3 ix S3 st3 l3 r3 h3 => ?_)
  split at h3
  · rename_i m4 e4
    exact setix_ok (by omega) S3 l3 (Rep.step S2 st3 _ _ r2) r3 (Rep.step S2 st3 _ _ (Rep.step S1 st2 _ _ r1)) e4 h3
  · exact PostF.stuck h3
/-! ### o.f = v -/
theorem zip_put {f : Nat} {d : Dy.D} {v : V} (rd : Rep K L ρ m H d v) : ∀ {ns : List Nat} {fs : List Dy.D} {vs : List V}, ns.length = fs.length → Reps K L ρ m H fs vs → ∃ ws, L2.putF (L.atn f) v (zipF L ns vs) = zipF L (Dy.putF f d ns fs).1 ws ∧ Reps K L ρ m H (Dy.putF f d ns fs).2 ws ∧ (Dy.putF f d ns fs).1.length = (Dy.putF f d ns fs).2.length
  | [], [], vs, _, r => by
    rw [reps_nil] at r
    subst r
    exact ⟨[v], rfl, .one rd, rfl⟩
  | [], _ :: _, vs, e, r => by simp at e
  | _ :: _, [], vs, e, r => by simp at e
  | k :: ns, x :: fs, vs, e, r => by
    rw [reps_cons] at r
    obtain ⟨w, ws, rfl, r1, r2⟩ := r
    by_cases hk : k = f
    · subst hk
      have e1 : Dy.putF k d (k :: ns) (x :: fs) = (k :: ns, d :: fs) := by
        show (if k = k then _ else _) = _
        rw [if_pos rfl]
      rw [e1]
      refine ⟨v :: ws, ?_, ?_, e⟩
      · show L2.putF (L.atn k) v ((L.atn k, w) :: zipF L ns ws) = (L.atn k, v) :: zipF L ns ws
        unfold L2.putF
        simp
      · rw [reps_cons]
        exact ⟨v, ws, rfl, rd, r2⟩
    · have e1 : Dy.putF f d (k :: ns) (x :: fs) = (k :: (Dy.putF f d ns fs).1, x :: (Dy.putF f d ns fs).2) := by
        show (if k = f then _ else _) = _
        rw [if_neg hk]
      rw [e1]
      obtain ⟨us, q1, q2, q3⟩ := zip_put (f := f) rd (by simpa using e) r2
      refine ⟨w :: us, ?_, ?_, by simp [q3]⟩
      · have ne : ¬ L.atn k = L.atn f := fun z => hk (L.atI _ _ z)
        show L2.putF (L.atn f) v ((L.atn k, w) :: zipF L ns ws) = (L.atn k, w) :: zipF L _ us
        rw [← q1]
        conv => lhs; unfold L2.putF
        simp [ne]
      · rw [reps_cons]
        exact ⟨w, us, rfl, r1, q2⟩
theorem zipF_len : ∀ (ns : List Nat) (vs : List V), (zipF L ns vs).length ≤ ns.length
  | [], vs => Nat.le_refl _
  | k :: ns, [] => Nat.zero_le _
  | k :: ns, v :: vs => Nat.succ_le_succ (zipF_len ns vs)
theorem st_setfld {a e : E} {f : Nat} {x v : Expr} {y : PySem.Str} {ap pos : Pos} (hy : y = L.atn f) (hf : L.fok f = true) (ha : SndE L n a x X) (he : SndE L n e v X) : SndS L n (.setfld a f e) (.Assign [.Attribute x y ap] v pos) X := by
  intro W τ σ ρ m H D cx lc S h
  rw [evS] at h
  subst hy
  refine PS.ev (ps_fld EvE.pe EvE.pe (by cases v <;> rfl)) (he W τ σ ρ m H _ cx.cx lc S (PostF.go (Ra := Rep X.K L) lc S h fun d m1 ρ1 H1 u S1 st1 l1 r1 h1 => ?_))
  refine ha W τ σ ρ1 m1 H1 _ cx.cx l1 S1 (PostF.go (Ra := Rep X.K L) l1 S1 h1 fun d2 m2 ρ2 H2 o S2 st2 l2 r2 h2 => ?_)
  have r1 := Rep.step S1 st2 _ _ r1
  split at h2
  · rename_i m3 e3
    unfold setfldD at e3
    split at e3
    · rename_i k
      split at e3
      · rename_i c ns fs em
        split at e3
        · rename_i hl
          cases e3
          rw [rep_cell] at r2
          obtain ⟨p, rfl, hk⟩ := r2
          obtain ⟨dx, vs, h3, h4, h5⟩ := S2.cell _ _ p em hk
          obtain ⟨C, hC⟩ := Option.isSome_iff_exists.mp hl.2
          have F := cx.cx.fx.own c C hC
          obtain ⟨ws, q1, q2, q3⟩ := zip_put (f := f) r1 h4 h5
          refine ⟨p, _, dx, _, rfl, h3, F.cl, F.noat f hf, Nat.lt_of_le_of_lt (zipF_len ns vs) (by omega), ?_⟩
          rw [q1]
          have st := step_set (c' := .ins c (Dy.putF f d ns fs).1 (Dy.putF f d ns fs).2) (o := .ins (L.cad c) dx (zipF L (Dy.putF f d ns fs).1 ws)) S2 em (by simp) hk
          exact h2 ρ2 _ σ (S2.set em (by simp) hk ⟨dx, ws, upd_same, q3, Reps.step S2 st _ _ q2⟩) st (l2.step S2 st)
        · cases e3
      · cases e3
    · cases e3
  · exact PostF.stuck h2
/-! ### x op= v -/
theorem aug_ok {op : Bop} {o : Operator} (ho : mBop op o = true) {x y d : Dy.D} {v u : V} {Q : VK} (rx : Rep X.K L ρ m H x v) (ry : Rep X.K L ρ m H y u) (e : augD op x y = some d) (h : ∀ w, Rep X.K L ρ m H d w → Q w H) : opW X (inplaceOp o) v u H Q := by
  unfold augD at e
  split at e
  · cases o <;> (first | cases ho | skip)
    cases e
    rw [rep_int] at rx ry
    subst rx ry
    exact OpR.w iop_add ⟨_, _, rfl, rfl, h _ (rep_int.mpr rfl)⟩
  · cases o <;> (first | cases ho | skip)
    split at e
    · rename_i hl
      cases e
      rw [rep_str] at rx ry
      subst rx ry
      exact OpR.w iop_add_str ⟨_, _, rfl, rfl, by rw [sx_len, sx_len, ← lim_eq]; exact hl, by rw [← sx_app]; exact h _ (rep_str.mpr rfl)⟩
    · cases e
  · cases o <;> (first | cases ho | skip)
    cases e
    rw [rep_int] at rx ry
    subst rx ry
    exact OpR.w iop_sub ⟨_, _, rfl, rfl, h _ (rep_int.mpr rfl)⟩
  · cases o <;> (first | cases ho | skip)
    split at e
    · rename_i hc
      cases e
      rw [rep_int] at rx ry
      subst rx ry
      refine OpR.w iop_mul ⟨_, _, rfl, rfl, ?_, h _ (rep_int.mpr rfl)⟩
      unfold cMul at hc
      simp only [Bool.or_eq_true, decide_eq_true_eq] at hc
      rcases hc with hc | hc
      · exact .inl (by omega)
      · exact .inr (by omega)
    · cases e
  · cases o <;> (first | cases ho | skip)
    split at e
    · rename_i hc
      cases e
      simp only [decide_eq_true_eq] at hc
      rw [rep_int] at rx ry
      subst rx ry
      exact OpR.w iop_fdiv ⟨_, _, rfl, rfl, hc, h _ (rep_int.mpr rfl)⟩
    · cases e
  · cases o <;> (first | cases ho | skip)
    split at e
    · rename_i hc
      cases e
      simp only [decide_eq_true_eq] at hc
      rw [rep_int] at rx ry
      subst rx ry
      exact OpR.w iop_mod ⟨_, _, rfl, rfl, hc, h _ (rep_int.mpr rfl)⟩
    · cases e
  · cases e
theorem st_aug {i : Nat} {op : Bop} {o : Operator} {a : E} {t v : Expr} {pos : Pos} (hm : mNm X.N X.env.scope i t = true) (ho : mBop op o = true) (ha : SndE L n a v X) : SndS L n (.aug i op a) (.AugAssign t o v pos) X := by
  intro W τ σ ρ m H D cx lc S h
  rw [evS] at h
  cases t with
  | Name x p =>
    have hm2 : (decide (X.N[i]? = some x) && isLoc X.env.scope x) = true := hm
    rw [Bool.and_eq_true, decide_eq_true_eq] at hm2
    obtain ⟨w1, w2⟩ := wr_of cx x hm2.2
    split at h
    · rename_i d ed
      obtain ⟨w, hw, rw'⟩ := lc.2 i d ed
      refine PS.ev (ps_aug (ti := opW X (inplaceOp o)) cx.cx.nd hm2.1 w1 EvE.pe (fun pins s σ H x y v u Q I rx ry h => opW_ok (f := inplaceOp o) pins s σ H x y v u Q I rx ry h) w2) ?_
      refine ⟨w, hw, ha W τ σ ρ m H _ cx.cx lc S (PostF.go (Ra := Rep X.K L) lc S h fun d2 m1 ρ1 H1 u S1 st1 l1 r1 h1 => ?_)⟩
      split at h1
      · rename_i z ez
        exact aug_ok ho (Rep.step S st1 _ _ rw') r1 ez fun w2 r2 => h1 ρ1 H1 _ S1 Step.refl (l1.set r2)
      · exact PostF.stuck h1
    · exact PostF.stuck h
  | _ => simp [mNm] at hm
/-! ### a, b = x, y -/
def swF (sc : Scope) (line : Nat) : Expr → Option PySem.Str := fun
  | .Name id pos => if sc.names.lookup id == some .local && pos.line == line then some id else none
  | _ => none
def swNames (sc : Scope) (ts : List Expr) : List PySem.Str := ts.filterMap (swF sc ((ts.head?.map (·.pos.line)).getD 0))
theorem swF_name {line : Nat} {x : PySem.Str} {px : Pos} (h : (swF sc line (.Name x px)).isSome = true) : swF sc line (.Name x px) = some x ∧ sc.names.lookup x = some .local := by
  have e : swF sc line (.Name x px) = if (sc.names.lookup x == some .local && px.line == line) = true then some x else none := rfl
  rw [e] at h ⊢
  by_cases c : (sc.names.lookup x == some .local && px.line == line) = true
  · rw [if_pos c]
    rw [Bool.and_eq_true] at c
    exact ⟨rfl, eq_of_beq c.1⟩
  · rw [if_neg c] at h
    cases h
theorem swap_of {ts vs : List Expr} {k k2 : Nat} {p p2 : Pos} {b : Bool} (hk : X.env.scope.kind = .function) (e : swapMode X.env.scope ts vs = some b) :
    swappedStores [.Tuple ts k p] (.Tuple vs k2 p2) X.env = pure (if b then some (swNames X.env.scope ts) else none) ∧ (b = true → (ts.length = 2 ∨ ts.length = 3) ∧ vs.length = ts.length ∧ (swNames X.env.scope ts).length = ts.length) := by
  have hbk : X.env.blockKind = .function := by unfold Env.blockKind; rw [hk]; rfl
  unfold swapMode at e
  unfold swappedStores
  rw [hbk]
  simp only [bne_self_eq_false, Bool.or_false]
  split at e
  · rename_i h1
    cases e
    refine ⟨?_, fun z => (nomatch z)⟩
    simp only [h1, if_true]
    rfl
  · rename_i h1
    split at e
    · rename_i h2
      cases e
      refine ⟨?_, fun z => (nomatch z)⟩
      exact (if_neg h1).trans (if_pos h2)
    · rename_i h2
      simp only at e
      split at e
      · rename_i h3
        cases e
        refine ⟨?_, fun z => (nomatch z)⟩
        exact (if_neg h1).trans ((if_neg h2).trans (if_pos h3))
      · rename_i h3
        split at e
        · rename_i h4
          cases e
          refine ⟨?_, fun z => (nomatch z)⟩
          exact (if_neg h1).trans ((if_neg h2).trans ((if_neg h3).trans (if_pos h4)))
        · rename_i h4
          split at e
          · cases e
          · rename_i h5
            cases e
            refine ⟨?_, fun _ => ?_⟩
            · exact (if_neg h1).trans ((if_neg h2).trans ((if_neg h3).trans ((if_neg h4).trans (if_neg h5))))
            · have h1' := Bool.eq_false_iff.mpr h1
              have h3' := Bool.eq_false_iff.mpr h3
              rw [Bool.or_eq_false_iff] at h1' h3'
              refine ⟨?_, by simpa using h1'.2, ?_⟩
              · have q := h1'.1
                by_cases e2 : ts.length = 2
                · exact .inl e2
                · refine .inr ?_
                  have e2' : (ts.length == 2) = false := beq_eq_false_iff_ne.mpr e2
                  rw [e2', Bool.false_or] at q
                  simpa using q
              · exact bne_eq_false_iff_eq.mp h3'.1
theorem st_par {is : List Nat} {c : Es} {ts vs : List Expr} {k k2 : Nat} {p p2 pos : Pos} (hm : mNms X.N X.env.scope is ts = true) (hl : c.len ≤ 1000) (hme : mEs L N sc c vs = true) (hsw : (swapMode X.env.scope ts vs).isSome = true) (hn : is.Nodup) (ha : SndA L n c vs X) :
    SndS L n (.par is c) (.Assign [.Tuple ts k p] (.Tuple vs k2 p2) pos) X := by
  intro W τ σ ρ m H D cx lc S h
  rw [evS] at h
  obtain ⟨b, hb⟩ := Option.isSome_iff_exists.mp hsw
  obtain ⟨s1, s2⟩ := swap_of (k := k) (k2 := k2) (p := p) (p2 := p2) cx.kind hb
  have fin : ∀ {ds : List Dy.D} {m1 : Store} {ρ1 : Pl} {H1 : Hp} {ws : List V}, SR X.K L ρ1 m1 H1 → LocR X.K L ρ1 m1 H1 τ σ → Reps X.K L ρ1 m1 H1 ds ws → PostF X.K L ρ1 m1 H1 (if ds.length = is.length then .nx ((is.zip ds).foldl (fun σ p => σ.set p.1 (some p.2)) τ) m1 else .stuck) D W →
      ws.length = is.length ∧ D.nx (setAll is ws σ) H1 ∧ ∀ q, H1 q = none → D.nx (setAll is ws σ) (upd H1 q (.tup ws)) := by
    intro ds m1 ρ1 H1 ws S1 l1 r1 h1
    split at h1
    · rename_i hl
      refine ⟨by rw [← r1.length, hl], h1 ρ1 H1 _ S1 Step.refl (loc_all l1 r1), fun q hq => ?_⟩
      have st := step_new (o := .tup ws) S1 hq
      exact h1 ρ1 _ _ (S1.new hq) st (loc_all (l1.step S1 st) (Reps.step S1 st _ _ r1))
    · exact PostF.stuck h1
  cases b with
  | false =>
    have q := pg_tg (X := X) (sc := X.env.scope) cx.cx.calm cx.cx.nd (wr_of cx) (tg := .tp is) (e := .Tuple ts k p) hm
    refine PS.ev (ps_asg (pe_tup EvA.pa) q (by rfl) s1 rfl) (ha W τ σ ρ m H _ cx.cx lc S (PostF.goE (Ra := Reps X.K L) lc S h fun ds m1 ρ1 H1 ws ed S1 st1 l1 r1 h1 => ?_))
    obtain ⟨q1, q2, q3⟩ := fin S1 l1 r1 h1
    refine ⟨small_len r1 (evEs_len ed) hl, fun q hq => ?_⟩
    exact ⟨q, ws, rfl, .of upd_same, q1, gNms_ok q1 (q3 q hq)⟩
  | true =>
    obtain ⟨n1, n2, n3⟩ := s2 rfl
    have go : EvA X vs σ H fun ws H1 => ws.length = is.length ∧ D.nx (setAll is ws σ) H1 := ha W τ σ ρ m H _ cx.cx lc S (PostF.go (Ra := Reps X.K L) lc S h fun ds m1 ρ1 H1 ws S1 st1 l1 r1 h1 => by
      obtain ⟨q1, q2, q3⟩ := fin S1 l1 r1 h1
      exact ⟨q1, q2⟩)
    have nm : ∀ {i : Nat} {e : Expr}, mNm X.N X.env.scope i e = true → ∃ x px, e = .Name x px ∧ X.N[i]? = some x := by
      intro i e h
      cases e with
      | Name x px =>
        have h : (decide (X.N[i]? = some x) && isLoc X.env.scope x) = true := h
        rw [Bool.and_eq_true, decide_eq_true_eq] at h
        exact ⟨x, px, rfl, h.1⟩
      | _ => simp [mNm] at h
    have lenM : ∀ {is : List Nat} {ts : List Expr}, mNms X.N X.env.scope is ts = true → is.length = ts.length := by
      intro is
      induction is with
      | nil => intro ts h; cases ts <;> simp [mNms] at h ⊢
      | cons i is ih =>
        intro ts h
        cases ts with
        | nil => simp [mNms] at h
        | cons t ts =>
          have h : (mNm X.N X.env.scope i t && mNms X.N X.env.scope is ts) = true := h
          rw [Bool.and_eq_true] at h
          simp [ih h.2]
    have li := lenM hm
    rcases n1 with n1 | n1
    · obtain ⟨t1, t2, rfl⟩ : ∃ t1 t2, ts = [t1, t2] := by
        match ts, n1 with
        | [t1, t2], _ => exact ⟨t1, t2, rfl⟩
      obtain ⟨v1, v2, rfl⟩ : ∃ v1 v2, vs = [v1, v2] := by
        match vs, n2 with
        | [v1, v2], _ => exact ⟨v1, v2, rfl⟩
      obtain ⟨i, j, rfl⟩ : ∃ i j, is = [i, j] := by
        match is, li with
        | [i, j], _ => exact ⟨i, j, rfl⟩
      have hm : (mNm X.N X.env.scope i t1 && (mNm X.N X.env.scope j t2 && true)) = true := hm
      simp only [Bool.and_eq_true, Bool.and_true] at hm
      obtain ⟨x, px, rfl, hx⟩ := nm hm.1
      obtain ⟨y, py, rfl, hy⟩ := nm hm.2
      have hij : i ≠ j := by simpa using hn
      have n4 : swNames X.env.scope [.Name x px, .Name y py] = [x, y] ∧ X.env.scope.names.lookup x = some .local ∧ X.env.scope.names.lookup y = some .local := by
        unfold swNames at n3 ⊢
        have q := List.filterMap_length_eq_length.mp n3
        obtain ⟨x1, x2⟩ := swF_name (q _ List.mem_cons_self)
        obtain ⟨y1, y2⟩ := swF_name (q _ (List.mem_cons_of_mem _ List.mem_cons_self))
        exact ⟨by rw [List.filterMap_cons_some x1, List.filterMap_cons_some y1, List.filterMap_nil], x2, y2⟩
      rw [n4.1, if_pos rfl] at s1
      refine PS.ev (ps_par cx.cx.calm cx.cx.nd hx hy hij n4.2.1 n4.2.2 EvA.pa s1 rfl) ?_
      intro pos' pins s I
      refine thn (go pos' pins s I) fun us s' ⟨ws, H1, I1, r1, q1, q2⟩ => ⟨ws, H1, I1, r1, ?_⟩
      match ws, q1, q2 with
      | [w1, w2], _, q2 => exact ⟨w1, w2, rfl, q2⟩
    · obtain ⟨t1, t2, t3, rfl⟩ : ∃ t1 t2 t3, ts = [t1, t2, t3] := by
        match ts, n1 with
        | [t1, t2, t3], _ => exact ⟨t1, t2, t3, rfl⟩
      obtain ⟨v1, v2, v3, rfl⟩ : ∃ v1 v2 v3, vs = [v1, v2, v3] := by
        match vs, n2 with
        | [v1, v2, v3], _ => exact ⟨v1, v2, v3, rfl⟩
      obtain ⟨i, j, l, rfl⟩ : ∃ i j l, is = [i, j, l] := by
        match is, li with
        | [i, j, l], _ => exact ⟨i, j, l, rfl⟩
      have hm : (mNm X.N X.env.scope i t1 && (mNm X.N X.env.scope j t2 && (mNm X.N X.env.scope l t3 && true))) = true := hm
      simp only [Bool.and_eq_true, Bool.and_true] at hm
      obtain ⟨x, px, rfl, hx⟩ := nm hm.1
      obtain ⟨y, py, rfl, hy⟩ := nm hm.2.1
      obtain ⟨z, pz, rfl, hz⟩ := nm hm.2.2
      have hij : i ≠ j ∧ i ≠ l ∧ j ≠ l := by
        simp at hn
        exact ⟨hn.1.1, hn.1.2, hn.2⟩
      have n4 : swNames X.env.scope [.Name x px, .Name y py, .Name z pz] = [x, y, z] ∧ X.env.scope.names.lookup x = some .local ∧ X.env.scope.names.lookup y = some .local ∧ X.env.scope.names.lookup z = some .local := by
        unfold swNames at n3 ⊢
        have q := List.filterMap_length_eq_length.mp n3
        obtain ⟨x1, x2⟩ := swF_name (q _ List.mem_cons_self)
        obtain ⟨y1, y2⟩ := swF_name (q _ (List.mem_cons_of_mem _ List.mem_cons_self))
        obtain ⟨z1, z2⟩ := swF_name (q _ (List.mem_cons_of_mem _ (List.mem_cons_of_mem _ List.mem_cons_self)))
        exact ⟨by rw [List.filterMap_cons_some x1, List.filterMap_cons_some y1, List.filterMap_cons_some z1, List.filterMap_nil], x2, y2, z2⟩
      rw [n4.1, if_pos rfl] at s1
      refine PS.ev (ps_par3 cx.cx.calm cx.cx.nd hx hy hz hij.1 hij.2.1 hij.2.2 n4.2.1 n4.2.2.1 n4.2.2.2 EvA.pa s1 rfl) ?_
      intro pos' pins s I
      refine thn (go pos' pins s I) fun us s' ⟨ws, H1, I1, r1, q1, q2⟩ => ⟨ws, H1, I1, r1, ?_⟩
      match ws, q1, q2 with
      | [w1, w2, w3], _, q2 => exact ⟨w1, w2, w3, rfl, q2⟩
end
end Dy
end
section
set_option Elab.async false
set_option linter.all false
set_option maxRecDepth 100000
set_option maxHeartbeats 4000000
/-! DyLp: loops. -/
namespace Dy
open PySem PySem.Spec PyProof.Rows L2
section
variable {L : Lk} {n : Nat} {X : Cx} {K : PySem.W.Frag} {ρ ρ1 : Pl} {m m1 : Store} {H H1 : Hp} {N : Nm} {sc : Scope} {De : Ends} {W : WX}
/-- a turn of a loop -/
theorem turn_post {r : Flw} {again : Dy.Loc → Store → Flw} {Nx : L2.St → Hp → Prop} (h : PostF K L ρ m H (r.turn again) De W)
    (k : ∀ τ m1 ρ1 H1 σ, SR K L ρ1 m1 H1 → Step ρ m H ρ1 m1 H1 → LocR K L ρ1 m1 H1 τ σ → PostF K L ρ1 m1 H1 (again τ m1) De W → Nx σ H1) : PostF K L ρ m H r { De with nx := Nx, ct := Nx, bk := De.nx } W := by
  cases r with
  | nx τ m' => exact fun ρ' H' σ' S s l => k τ m' ρ' H' σ' S s l (PostF.next (r := again τ m') h s)
  | ct τ m' => exact fun ρ' H' σ' S s l => k τ m' ρ' H' σ' S s l (PostF.next (r := again τ m') h s)
  | brk τ m' => exact h
  | rt d m' => exact h
  | exc x τ m' => exact h
  | stuck => exact h
def remF (body : Dy.Loc → Store → Flw) (tg : Tg) (s : Src) (i μ : Nat) (τ : Dy.Loc) (m : Store) (r : Flw) : Prop := match s with
  | .fix xs => μ = xs.length - i ∧ r = forL body tg (xs.drop i) τ m
  | .cel k => r = forC body tg k μ i τ m
  | .dic _ _ _ => False
theorem remF_step {body : Dy.Loc → Store → Flw} {tg : Tg} {s : Src} {J : It} {i μ : Nat} {τ : Dy.Loc} {σ : L2.St} {r : Flw} (j : JR K L ρ m H s J) (S : SR K L ρ1 m1 H1) (w : Wsl ρ m H ρ1 m1 H1) (lc : LocR K L ρ1 m1 H1 τ σ) (e : remF body tg s i μ τ m1 r) (h : PostF K L ρ1 m1 H1 r De W) :
    (J.stop i H1 ∧ De.nx σ H1) ∨ (J.go i H1 ∧ ∃ d, (∀ x H', J.yld i H1 x H' → SR K L ρ1 m1 H' ∧ Step ρ1 m1 H1 ρ1 m1 H' ∧ Rep K L ρ1 m1 H' d x) ∧ ∃ τ1 μ' again, bindTg tg d τ = some τ1 ∧ PostF K L ρ1 m1 H1 ((body τ1 m1).turn again) De W ∧ μ' < μ ∧
      ∀ τ2 m2, remF body tg s (i + 1) μ' τ2 m2 (again τ2 m2)) := by
  have jj := j ρ1 m1 H1 S w i
  cases s with
  | dic _ _ _ => exact e.elim
  | fix xs =>
    obtain ⟨e1, e2⟩ := e
    have jj : JAt K L ρ1 m1 H1 J i xs[i]? := jj
    cases ex : xs[i]? with
    | none =>
      rw [ex] at jj
      have hd : xs.drop i = [] := List.drop_eq_nil_of_le (List.getElem?_eq_none_iff.mp ex)
      rw [hd] at e2
      subst e2
      exact .inl ⟨jj, h ρ1 H1 σ S Step.refl lc⟩
    | some d =>
      rw [ex] at jj
      obtain ⟨hi, ed⟩ := List.getElem?_eq_some_iff.mp ex
      have hd : xs.drop i = d :: xs.drop (i + 1) := by rw [List.drop_eq_getElem_cons hi, ed]
      rw [hd] at e2
      have e3 : r = bound tg d τ fun σ1 => (body σ1 m1).turn fun σ2 m2 => forL body tg (xs.drop (i + 1)) σ2 m2 := e2
      subst e3
      unfold bound at h
      split at h
      · rename_i τ1 eb
        exact .inr ⟨jj.1, d, jj.2, τ1, xs.length - (i + 1), _, eb, h, by omega, fun τ2 m2 => ⟨rfl, rfl⟩⟩
      · exact PostF.stuck h
  | cel k =>
    have e : r = forC body tg k μ i τ m1 := e
    subst e
    cases μ with
    | zero => exact PostF.stuck h
    | succ μ =>
      unfold forC at h
      split at h
      · rename_i xs em
        have jj : JAt K L ρ1 m1 H1 J i xs[i]? := jj xs em
        split at h
        · rename_i ex
          rw [ex] at jj
          exact .inl ⟨jj, h ρ1 H1 σ S Step.refl lc⟩
        · rename_i d ex
          rw [ex] at jj
          unfold bound at h
          split at h
          · rename_i τ1 eb
            exact .inr ⟨jj.1, d, jj.2, τ1, μ, _, eb, h, Nat.lt_succ_self _, fun τ2 m2 => rfl⟩
          · exact PostF.stuck h
      · exact PostF.stuck h
theorem st_for {tg : Tg} {w : Wk} {b : Ss} {t it : Expr} {body : List Stmt} {pos : Pos} (hm : mTg X.N X.env.scope tg t = true) (hs : ∀ y, foldedSetIterable it X.env y = pure y) (hi : SndI L n w t it X) (hb : SndSs L n b body X) : SndS L n (.for tg w b) (.For t it body [] pos) X := by
  intro W τ σ ρ m H D cx lc S h
  rw [evS] at h
  refine PS.ev (ps_for cx.po cx.cx.calm EvI.pi (pg_tg (X := X) (sc := X.env.scope) cx.cx.calm cx.cx.nd (wr_of cx) hm) EvSs.pss hs) ?_
  refine hi W τ σ ρ m H _ cx.cx lc S (PostF.go (Ra := JR X.K L) lc S h fun s m1 ρ1 H1 J S1 st1 l1 j1 h1 => ?_)
  refine ⟨fun i μ σc Hc => ∃ (mc : Store) (ρc : Pl) (τc : Dy.Loc) (r : Flw), SR X.K L ρc mc Hc ∧ Step ρ1 m1 H1 ρc mc Hc ∧ LocR X.K L ρc mc Hc τc σc ∧ remF (fun σ m => evSs L.G (run L.G L.fns n) b σ m) tg s i μ τc mc r ∧ PostF X.K L ρc mc Hc r D W, ?_, ?_⟩
  · cases s with
    | fix xs => exact ⟨xs.length, m1, ρ1, τ, _, S1, Step.refl, l1, ⟨rfl, rfl⟩, h1⟩
    | cel k => exact ⟨lim + 1, m1, ρ1, τ, _, S1, Step.refl, l1, rfl, h1⟩
    | dic _ _ _ => exact PostF.stuck h1
  · intro i μ σc Hc ⟨mc, ρc, τc, r, Sc, stc, lcc, er, hr⟩
    rcases remF_step j1 Sc stc.wl lcc er hr with ⟨js, hn⟩ | ⟨jg, d, jy, τ1, μ', again, eb, ht, hμ, hag⟩
    · exact .inl ⟨js, hn⟩
    · refine .inr ⟨jg, fun σ' H' => ∃ (mc : Store) (ρc : Pl) (τc : Dy.Loc) (r : Flw), SR X.K L ρc mc H' ∧ Step ρ1 m1 H1 ρc mc H' ∧ LocR X.K L ρc mc H' τc σ' ∧ remF (fun σ m => evSs L.G (run L.G L.fns n) b σ m) tg s (i + 1) μ' τc mc r ∧ PostF X.K L ρc mc H' r D W, fun σ' H' z => ⟨μ', hμ, z⟩, fun x H2 hy => ?_⟩
      obtain ⟨S2, st2, rd⟩ := jy x H2 hy
      refine tg_ok (lcc.step Sc st2) rd eb fun σ1 l2 _ => ?_
      refine hb W τ1 σ1 ρc mc H2 _ cx l2 S2 (turn_post (PostF.next ht st2) fun τ3 m3 ρ3 H3 σ3 S3 st3 l3 h3 => ?_)
      exact ⟨m3, ρ3, τ3, _, S3, (stc.trans st2).trans st3, l3, hag τ3 m3, h3⟩
theorem st_while {t : T} {b : Ss} {c : Expr} {body : List Stmt} {pos : Pos} (ht : SndT L n t c X) (hb : SndSs L n b body X) : SndS L n (.while t b) (.While c body [] pos) X := by
  intro W τ σ ρ m H D cx lc S h
  rw [evS] at h
  refine PS.ev (ps_while cx.po EvT.pt EvSs.pss) ?_
  refine ⟨fun μ σc Hc => ∃ (mc : Store) (ρc : Pl) (τc : Dy.Loc), SR X.K L ρc mc Hc ∧ LocR X.K L ρc mc Hc τc σc ∧ PostF X.K L ρc mc Hc (whileD (fun σ m => evT L.G (run L.G L.fns n) t σ m) (fun σ m => evSs L.G (run L.G L.fns n) b σ m) μ τc mc) D W, ⟨_, m, ρ, τ, S, lc, h⟩, ?_⟩
  intro μ σc Hc ⟨mc, ρc, τc, Sc, lcc, hr⟩
  cases μ with
  | zero => exact PostF.stuck hr
  | succ μ =>
    unfold whileD at hr
    refine ht W τc σc ρc mc Hc _ cx.cx lcc Sc (PostF.go (Ra := RB) lcc Sc hr fun k m1 ρ1 H1 b' S1 st1 l1 r1 h1 => ?_)
    obtain rfl : k = b' := r1
    cases k with
    | false =>
      rw [if_neg Bool.false_ne_true]
      exact h1 ρ1 H1 σc S1 Step.refl l1
    | true =>
      rw [if_pos rfl]
      refine ⟨fun σ' H' => ∃ (mc : Store) (ρc : Pl) (τc : Dy.Loc), SR X.K L ρc mc H' ∧ LocR X.K L ρc mc H' τc σ' ∧ PostF X.K L ρc mc H' (whileD (fun σ m => evT L.G (run L.G L.fns n) t σ m) (fun σ m => evSs L.G (run L.G L.fns n) b σ m) μ τc mc) D W, fun σ' H' z => ⟨μ, Nat.lt_succ_self _, z⟩, ?_⟩
      refine hb W τc σc ρ1 m1 H1 _ cx l1 S1 (turn_post h1 fun τ3 m3 ρ3 H3 σ3 S3 st3 l3 h3 => ?_)
      exact ⟨m3, ρ3, τ3, S3, l3, h3⟩
end
end Dy
end
section
set_option Elab.async false
set_option linter.all false
set_option maxRecDepth 100000
set_option maxHeartbeats 4000000
/-! DyM: raise, try. -/
namespace Dy
open PySem PySem.Spec PyProof.Rows L2
section
variable {L : Lk} {n : Nat} {X : Cx} {K : PySem.W.Frag} {ρ ρ1 : Pl} {m m1 : Store} {H H1 : Hp} {N : Nm} {sc : Scope} {De : Ends} {W : WX}
/-! ### raise -/
theorem st_raise {c : Nat} {es : Es} {x : PySem.Str} {xs : List Expr} {p cp pos : Pos} (hx : x = L.cnm c) (hc : c < L.nc) (hk : (L.G.xcl c).isSome = true) (hg : isGl X.env.scope x = true) (hl : 0 < es.len) (hm : mEs L N sc es xs = true) (ha : SndA L n es xs X) :
    SndS L n (.raise c es) (.Raise (some (.Call (.Name x p) xs [] cp)) none pos) X := by
  intro W τ σ ρ m H D cx lc S h
  rw [evS] at h
  obtain ⟨C, eC⟩ := Option.isSome_iff_exists.mp hk
  obtain ⟨g1, g2⟩ := gl_of hg
  have F := cx.cx.fx.xcs c C eC
  obtain ⟨fI, fd, ps, h1, h2, h3, h4⟩ := F.ini
  have hmg := (cx.cx.fx.cls c hc).1
  rw [← hx] at hmg
  have hr : Room (1 + 1) X.A := cx.cx.room.mono (by omega)
  cases xs with
  | nil => cases es <;> simp [mEs, Es.len] at hm hl
  | cons e es' =>
    cases es with
    | nil => simp [mEs] at hm
    | cons a r =>
      rw [mEs, Bool.and_eq_true] at hm
      refine PS.ev (ps_raise cx.cx.calm cx.cx.tk (pmk_oex (dvs := []) F.oex h1 h2 h3 hr h4 .nil passL g1 hmg EvA.pa g2 (nostar hm.1 es' X.env) (nostars hm.2))) ?_
      refine ha W τ σ ρ m H _ cx.cx lc S (PostF.go (Ra := Reps X.K L) lc S h fun ds m1 ρ1 H1 vs S1 st1 l1 r1 k1 => ?_)
      rw [eC] at k1
      simp only at k1
      split at k1
      · rename_i hlen
        have hv : vs.length = C.fs.length := by rw [← r1.length, hlen]
        refine ⟨by have := F.few; omega, fun b hb => ?_⟩
        rw [List.append_nil]
        refine ⟨b, vs, rfl, hv, upd_same, fun d H2 fs hd ne e1 e2 e3 e4 => ⟨rfl, d, fs, e1, e2, ?_, ?_⟩⟩
        · rw [upd_ne ne] at hd
          exact hd
        · rw [upd_ne ne] at hd
          have eq : upd (del H2 b) d (.xd fs) = upd H1 d (.xd fs) := by
            funext y
            by_cases y1 : y = d
            · rw [y1, upd_same, upd_same]
            · rw [upd_ne y1, upd_ne y1]
              by_cases y2 : y = b
              · rw [y2, del_same, hb]
              · rw [del_ne y2, e3 y y2 y1, upd_ne y2]
          rw [eq]
          have st := step_new (o := .xd fs) S1 hd
          refine k1 ρ1 _ σ _ _ (S1.new hd) st (l1.step S1 st) ⟨c, C.fs, ds, rfl, rfl, hlen.symm, fun _ => ⟨d, fs, vs, rfl, upd_same, Reps.step S1 st _ _ r1, e4⟩⟩
      · exact PostF.stuck k1
/-! ### try: clauses with names or without -/
abbrev Cl := Vl × Option Nat × (Addr → Vl → Option Addr → TS)
def bk (o : Option Nat) (σ : L2.St) : L2.St := match o with
  | none => σ
  | some i => σ.set i none
def sset (o : Option Nat) (a : Addr) (σ : L2.St) : L2.St := match o with
  | none => σ
  | some i => σ.set i (some (V.ref a))
def wMix (K : PySem.W.Frag) (Wout : WX) (D : Ends) : List Cl → WX
  | [] => Wout
  | (c, o, ts) :: r => fun cls d σ H => ∃ b, PySem.W.exmOne K cls c = some b ∧ (b = true → ∀ a, H a = none → ts a cls d { nx := fun σ' H' => D.nx (bk o σ') H', rt := D.rt, bk := fun σ' H' => D.bk (bk o σ') H', ct := fun σ' H' => D.ct (bk o σ') H' } (sset o a σ) H) ∧ (b = false → wMix K Wout D r cls d σ H)
/-- the name of a clause -/
def NmOk (X : Cx) : Option PySem.Str → Option Nat → Prop
  | none, none => True
  | some y, some i => X.N[i]? = some y ∧ X.env.kindOf y = some .local
  | _, _ => False
inductive HdMix (X : Cx) : List ExceptHandler → List Cl → Prop
  | nil : HdMix X [] []
  | cons {x : PySem.Str} {c : Vl} {y : Option PySem.Str} {o : Option Nat} {ts : Addr → Vl → Option Addr → TS} {s0 : Stmt} {ss : List Stmt} {np hp : Pos} {hds : List ExceptHandler} {l : List Cl} (hc : Names X x c) (hy : NmOk X y o)
      (hsu : ∀ (a : Addr) (oe : PySem.Obj) (cls : Vl) (d : Option Addr) (pn : List (Addr × PySem.Obj)), Zc cls d oe → (∃ vs, oe.data = .fields vs) → PSs (X.suite a ((a, oe) :: pn)) (s0 :: ss) (ts a cls d)) (r : HdMix X hds l) :
      HdMix X (.ExceptHandler (some (.Name x np)) y (s0 :: ss) hp :: hds) ((c, o, ts) :: l)
theorem ps_try_mix {body : List Stmt} {hd0 : ExceptHandler} {hds : List ExceptHandler} {l : List Cl} {pos : Pos} {tb : WX → TS} {Wout : WX} (st : X.stack = X.env :: X.outer) (fr : X.env.frame = some X.env.locals) (nd : X.N.Nodup) (tk : Takes X Wout)
    (hb : ∀ (W : WX) (pn : List (Addr × PySem.Obj)) (xe : Vl → Shared → Prop), Takes (X.tr pn xe) W → PassesOwn (model X.prog X.w) X.A X.env xe → PSs (X.tr pn xe) body (tb W)) (hh : HdMix X (hd0 :: hds) l) :
    PS X (.Try body (hd0 :: hds) [] [] pos) (fun D σ H => tb (wMix X.K Wout D l) D σ H) := by
  refine ⟨fun pins s σ H D I h => wpAny_Try_except ?_⟩
  have ok := I.ok
  have frames : X.A.frames = some (X.env :: X.outer) := ok.frames.trans (by rw [st])
  let xe2 : Vl → Shared → Prop := fun e s1 => wpAny (model X.prog X.w) X.A (noteFrame e X.env) (fun _ s2 => wpAny (model X.prog X.w) X.A (setFlight e none) (fun _ s3 => wpAny (model X.prog X.w) X.A (handleBy e X.env (hd0 :: hds)) (SP X pins D) X.xe s3) X.xe s2) X.xe s1
  have tk2 : Takes (X.tr (X.pn ++ pins) xe2) (wMix X.K Wout D l) := by
    rintro u s' ⟨a, B, sI, pins', σ', H', cls, d, rfl, I', inB, up, sky, na, eos, ag, w⟩
    have J := I'.ofTry ok
    have sky2 : Sky B (X.env :: X.outer) a (Zc cls d) X.env.locals s'.heap := st ▸ sky
    show wpAny (model X.prog X.w) X.A (noteFrame (.ref a) X.env) _ _ _
    refine Sky.land Zc.steady frames fr sky2 fun h3 fl3 up3 => ?_
    have I3 : Inv X pins σ' H' { s' with heap := h3 } := J.landed inB fl3.1 (up.trans up3) eos ag
    obtain ⟨o3, vs3, at3, z3, dat3⟩ := fl3.there
    have outOf : a ∉ frs (X.env :: X.outer) := fun hm => by
      obtain ⟨_, o', e', nf⟩ := fl3.2.2.1.mem hm
      cases at3.symm.trans e'
      exact nf _ dat3
    have aL : a ≠ X.env.locals := fun z => outOf (List.mem_filterMap.mpr ⟨X.env, List.mem_cons_self, fr.trans (by rw [z])⟩)
    have aF : a ∉ X.fs := fun hm => by
      obtain ⟨v, hv, q⟩ := List.mem_filterMap.mp hm
      exact outOf (List.mem_filterMap.mpr ⟨v, List.mem_cons_of_mem _ hv, q⟩)
    have inS := I3.suite at3 dat3 na aL aF
    have walk : ∀ {hs2 : List ExceptHandler} {l2 : List Cl}, HdMix X hs2 l2 → wMix X.K Wout D l2 cls d σ' H' → wpAny (model X.prog X.w) X.A (handleBy (.ref a) X.env hs2) (SP X pins D) X.xe { s' with heap := h3 } := by
      intro hs2 l2 hk
      induction hk with
      | nil =>
        intro w
        refine wpAny_handleBy_nil ?_
        obtain ⟨_, _, _, oe, vs, T, oT, _, he, _, hd, h1, _⟩ := id fl3
        unfold PySem.passOn
        refine wpAny_bind (wpAny_field he hd h1 ?_)
        rw [if_neg (show ¬ ((Value.ref T == Value.none) = true) from by simp)]
        have thr : wpAny (model X.prog X.w) X.A (setFlight (.ref a) X.env.frame) (fun _ s4 => wpAny (model X.prog X.w) X.A (throw (.ref a) : Sem PySem.Flow) (SP X pins D) X.xe s4) X.xe { s' with heap := h3 } := by
          rw [fr]
          exact HandSPX.setFlight_upZ fl3 fun h4 hh4 up4 => wpAny_throw (tk _ _ ⟨a, B, sI, pins, σ', H', cls, d, rfl, J, inB, (up.trans up3).trans up4, .inr (.inr (st.symm ▸ hh4)), na, eos, ag, w⟩)
        first
          | exact wpAny_bind (wpAny_pure (wpAny_bind thr))
          | exact wpAny_bind thr
      | @cons x c y o ts s0 ss np hp hs3 l3 hc hy hsu r ih =>
        rintro ⟨b, hb1, yes, no⟩
        refine wpAny_handleBy_cons (codeAny_handlers_test ?_) (by intro q; cases q)
        have LT : PySem.W.Looks (model X.prog X.w) h3 (typeOf (.ref a)) cls := fun A Q E s k q => wpAny_typeOf_ref (k _ _ at3) (by rw [z3.1]; exact q)
        have LM := PySem.W.exm_one (M := model X.prog X.w) I3.kIn LT hb1
        have nameOf : ∀ {Q : Vl → Shared → Prop} {E : Vl → Shared → Prop}, Q c { s' with heap := h3 } → wpAny (model X.prog X.w) (X.A.mark (some (.ref a))) (eval (.Name x np) X.env) Q E { s' with heap := h3 } := fun {Q E} q => by
          obtain ⟨k1, k2, k3 | ⟨k3, k4, k5⟩⟩ := hc
          · exact ld_glob (X := X.suite a ((a, o3) :: (X.pn ++ pins))) inS k1 k3 q k2
          · exact ld_blt (X := X.suite a ((a, o3) :: (X.pn ++ pins))) inS k1 k3 k4 q k5 k2
        refine nameOf (LM.here ?_)
        cases b with
        | false => exact ih (no rfl)
        | true =>
          have yes := yes rfl a na
          cases y with
          | none =>
            cases o with
            | some i => exact hy.elim
            | none =>
              refine codeAny_handlers_suite (HandSPX.lands_againZ fl3 fun h4 fl4 up4 => ?_)
              have I4 : Inv X pins σ' H' { s' with heap := h4 } := J.landed inB fl4.1 ((up.trans up3).trans up4) eos ag
              obtain ⟨o4, vs4, at4, z4, dat4⟩ := fl4.there
              have S4 := I4.suite at4 dat4 na aL aF
              refine wpAny_mono ((hsu a o4 cls d (X.pn ++ pins) z4 ⟨_, dat4⟩).run [] _ _ H' _ S4 yes) (fun f s6 hsp => ?_) (fun _ _ z => False.elim z)
              cases f with
              | ret u => obtain ⟨v6, σ6, H6, S6, r6, q6⟩ := hsp; exact ⟨_, _, _, S6.unsuite ok, r6, q6⟩
              | next => obtain ⟨σ6, H6, S6, q6⟩ := hsp; exact ⟨_, _, S6.unsuite ok, q6⟩
              | brk => obtain ⟨σ6, H6, S6, q6⟩ := hsp; exact ⟨_, _, S6.unsuite ok, q6⟩
              | cont => obtain ⟨σ6, H6, S6, q6⟩ := hsp; exact ⟨_, _, S6.unsuite ok, q6⟩
          | some y =>
            cases o with
            | none => exact hy.elim
            | some i =>
              obtain ⟨hi, hl⟩ := hy
              refine codeAny_handlers_suite_as (HandSPX.lands_againZ fl3 fun h4 fl4 up4 => ?_)
              have I4 : Inv X pins σ' H' { s' with heap := h4 } := J.landed inB fl4.1 ((up.trans up3).trans up4) eos ag
              obtain ⟨o4, vs4, at4, z4, dat4⟩ := fl4.there
              have S4 := I4.suite at4 dat4 na aL aF
              refine store_ok (X := X.suite a ((a, o4) :: (X.pn ++ pins))) (v := .ref a) S4 nd hi (.inl hl) rfl (fun s5 S5 => ?_) (.inr hl)
              refine wpAny_mono ((hsu a o4 cls d (X.pn ++ pins) z4 ⟨_, dat4⟩).run [] s5 _ H' _ S5 yes) (fun f s6 hsp => ?_) (fun _ _ z => False.elim z)
              have ends : ∀ {σ6 : L2.St} {H6 : Hp} {Q : Shared → Prop}, Inv (X.suite a ((a, o4) :: (X.pn ++ pins))) [] σ6 H6 s6 → (∀ s7, Inv X pins (σ6.set i none) H6 s7 → Q s7) →
                  wpAny (model X.prog X.w) X.A (do bindName X.env y .none; unbindBehindTheSuite X.env y hp) (fun _ s7 => Q s7) X.xe s6 := fun S6 hq => gone_ok (S6.unsuite ok) nd hi hl hq
              cases f with
              | ret u => obtain ⟨v6, σ6, H6, S6, r6, q6⟩ := hsp; exact ends S6 fun s7 J7 => ⟨_, _, _, J7, r6, q6⟩
              | next => obtain ⟨σ6, H6, S6, q6⟩ := hsp; exact ends S6 fun s7 J7 => ⟨_, _, J7, q6⟩
              | brk => obtain ⟨σ6, H6, S6, q6⟩ := hsp; exact ends S6 fun s7 J7 => ⟨_, _, J7, q6⟩
              | cont => obtain ⟨σ6, H6, S6, q6⟩ := hsp; exact ends S6 fun s7 J7 => ⟨_, _, J7, q6⟩
    exact walk hh w
  refine wpAny_mono ((hb (wMix X.K Wout D l) (X.pn ++ pins) xe2 tk2 PassesOwn.looking).run [] s σ H D (I.toTry _) h) (fun f s1 hsp => ?_) (fun e s1 he => he)
  cases f with
  | ret u => obtain ⟨v, σ', H', J', r, q⟩ := hsp; exact ⟨v, σ', H', J'.ofTry ok, r, q⟩
  | next => obtain ⟨σ', H', J', q⟩ := hsp; exact wpAny_execs_nil ⟨σ', H', J'.ofTry ok, q⟩
  | brk => obtain ⟨σ', H', J', q⟩ := hsp; exact ⟨σ', H', J'.ofTry ok, q⟩
  | cont => obtain ⟨σ', H', J', q⟩ := hsp; exact ⟨σ', H', J'.ofTry ok, q⟩
end
end Dy
end
section
set_option Elab.async false
set_option linter.all false
set_option maxRecDepth 100000
set_option maxHeartbeats 4000000
/-! DyN: try, with the clauses' lists. -/
namespace Dy
open PySem PySem.Spec PyProof.Rows L2
section
variable {L : Lk} {n : Nat} {X : Cx} {K : PySem.W.Frag} {ρ ρ1 : Pl} {m m1 : Store} {H H1 : Hp} {N : Nm} {sc : Scope} {De : Ends} {W : WX}
theorem getF_mem {f : Nat} {d : Dy.D} : ∀ {ns : List Nat} {fs : List Dy.D}, getF f ns fs = some d → f ∈ ns
  | [], fs, e => by cases fs <;> cases e
  | k :: ns, [], e => by cases e
  | k :: ns, x :: fs, e => by
    have e : (if k = f then some x else getF f ns fs) = some d := e
    by_cases h : k = f
    · rw [h]; exact List.mem_cons_self
    · rw [if_neg h] at e
      exact List.mem_cons_of_mem _ (getF_mem e)
/-- a caught exception's data -/
structure Caught (L : Lk) (X : Cx) (ρ : Pl) (m : Store) (H : Hp) (x : Dy.D) (cls : Vl) (dx : Option Ad) (a : Addr) (σ : L2.St) (nm : Option PySem.Str) : Prop where
  rep : ∃ c C fs, x = .ex c C.fs fs ∧ L.G.xcl c = some C ∧ cls = .ref (L.cad c) ∧ XclFacts X.prog X.w X.K X.mg X.base L c C ∧ ∃ d xs vs, dx = some d ∧ H d = some (.xd xs) ∧ Reps X.K L ρ m H fs vs ∧ ∀ q ∈ zipF L C.fs vs, xs.lookup q.1 = some q.2
  nam : ∀ y, nm = some y → ∃ i : Nat, X.N[i]? = some y ∧ isVis X.env.scope y = true ∧ (σ.length = X.N.length → σ[i]? = some (some (V.ref a)))
theorem item_ok {x : Dy.D} {cls : Vl} {dx : Option Ad} {a : Addr} {σ : L2.St} {nm : Option PySem.Str} {j : Nat} {h : Hi} {e : Expr} {d : Dy.D} {oe : PySem.Obj} {pn : List (Addr × PySem.Obj)} (c : Caught L X ρ m H x cls dx a σ nm) (hm : mHi L j nm h e = true) (hd : hdItem x h = some d)
    (hz : Zc cls dx oe) (hf : ∃ vs, oe.data = .fields vs) : ∃ v, Rep X.K L ρ m H d v ∧ ∀ Q : VK, Q v H → EvE (X.suite a ((a, oe) :: pn)) e σ H Q := by
  cases h with
  | lit l =>
    cases e with
    | Constant k i p =>
      cases hd
      obtain ⟨v, r, hv⟩ := rep_lit (K := X.K) (L := L) (ρ := ρ) (m := m) (H := H) l
      exact ⟨v, r, fun Q q => PE.ev (lit_pe (show mLit l k = true from hm) hv) q⟩
    | _ => simp [mHi] at hm
  | fld f =>
    obtain ⟨cc, C, fs, rfl, hC, rfl, F, dd, xs, vs, rfl, h1, h2, h3⟩ := c.rep
    have hd : getF f C.fs fs = some d := hd
    cases e with
    | Attribute b y p =>
      cases b with
      | Name z zp =>
        have hm : (decide (nm = some z) && decide (y = L.atn f)) = true := hm
        rw [Bool.and_eq_true, decide_eq_true_eq, decide_eq_true_eq] at hm
        obtain ⟨rfl, rfl⟩ := hm
        obtain ⟨i, n1, n2, n3⟩ := c.nam z rfl
        obtain ⟨v, e1, e2⟩ := get_zip h2 hd
        refine ⟨v, e2, fun Q q pins s I => ?_⟩
        obtain ⟨v1, v2, v3⟩ := vis_of n2
        have hv : PE (X.suite a ((a, oe) :: pn)) (.Name z zp) _ := pe_var (X := X.suite a ((a, oe) :: pn)) n1 v1 v2 v3
        refine (pe_xf (pos := p) F.xf (F.noat f (getF_mem hd)) hz hf hv rfl).run pins s σ H Q I ⟨.ref a, n3 I.len, rfl, rfl, dd, xs, v, rfl, h1, h3 _ (PySem.mem_of_lookup e1), q⟩
      | _ => simp [mHi] at hm
    | _ => simp [mHi] at hm
theorem items_ok {x : Dy.D} {cls : Vl} {dx : Option Ad} {a : Addr} {σ : L2.St} {nm : Option PySem.Str} {j : Nat} {oe : PySem.Obj} {pn : List (Addr × PySem.Obj)} (c : Caught L X ρ m H x cls dx a σ nm) (hz : Zc cls dx oe) (hf : ∃ vs, oe.data = .fields vs) :
    ∀ {hs : List Hi} {es : List Expr} {ds : List Dy.D}, mHis L j nm hs es = true → hdItems x hs = some ds → ∃ vs, Reps X.K L ρ m H ds vs ∧ ds.length = hs.length ∧ ∀ Q : List V → Hp → Prop, Q vs H → EvA (X.suite a ((a, oe) :: pn)) es σ H Q
  | [], [], ds, _, e => by
    cases e
    exact ⟨[], reps_nil.mpr rfl, rfl, fun Q q => PA.ev pa_nil q⟩
  | [], _ :: _, ds, h, _ => by simp [mHis] at h
  | _ :: _, [], ds, h, _ => by simp [mHis] at h
  | h :: hs, e :: es, ds, hm, hd => by
    have hm : (mHi L j nm h e && mHis L j nm hs es) = true := hm
    rw [Bool.and_eq_true] at hm
    have hd : (match hdItem x h, hdItems x hs with
      | some d, some ds => some (d :: ds)
      | _, _ => none) = some ds := hd
    split at hd
    · rename_i d ds' e1 e2
      cases hd
      obtain ⟨v, r, k1⟩ := item_ok (pn := pn) c hm.1 e1 hz hf
      obtain ⟨vs, rs, hl, k2⟩ := items_ok c hz hf hm.2 e2
      refine ⟨v :: vs, ?_, by simp [hl], fun Q q => ?_⟩
      · rw [reps_cons]; exact ⟨v, vs, rfl, r, rs⟩
      · have hs : starEach (e :: es) (X.suite a ((a, oe) :: pn)).env = (false, eval e (X.suite a ((a, oe) :: pn)).env) :: starEach es (X.suite a ((a, oe) :: pn)).env := by
          have z := hm.1
          cases e with
          | Starred _ _ => cases h <;> simp [mHi] at z
          | _ => rfl
        exact PA.ev (pa_cons EvE.pe EvA.pa hs) (k1 _ (k2 _ q))
    · cases hd
/-- a clause, as ps_try_mix reads it -/
def clT (X : Cx) (ss : List Stmt) : Addr → Vl → Option Addr → TS := fun a cls d D σ H => ∀ oe pn, Zc cls d oe → (∃ vs, oe.data = .fields vs) → EvSs (X.suite a ((a, oe) :: pn)) ss σ H D
def clOf (L : Lk) (X : Cx) : List Hd → List ExceptHandler → List Cl
  | h :: hs, .ExceptHandler _ _ ss _ :: es => (.ref (L.cad h.c), h.slot, clT X ss) :: clOf L X hs es
  | _, _ => []
theorem hd_mix (fx : Facts L n X.prog X.w X.K X.mg X.base) : ∀ {hs : List Hd} {es : List ExceptHandler}, mHds L X.N X.env.scope hs es = true → HdMix X es (clOf L X hs es)
  | [], [], _ => .nil
  | [], _ :: _, h => by simp [mHds] at h
  | _ :: _, [], h => by simp [mHds] at h
  | ⟨c, slot, items⟩ :: hs, e :: es, h => by
    have h : (mHd L X.N X.env.scope ⟨c, slot, items⟩ e && mHds L X.N X.env.scope hs es) = true := h
    rw [Bool.and_eq_true] at h
    obtain ⟨h1, h2⟩ := h
    unfold mHd at h1
    split at h1
    case h_2 => simp at h1
    rename_i c' slot' items' x xp nm v rp hp heq
    cases heq
    rw [Bool.and_eq_true, Bool.and_eq_true, Bool.and_eq_true, Bool.and_eq_true, decide_eq_true_eq, decide_eq_true_eq] at h1
    obtain ⟨⟨⟨k1, k2⟩, k3⟩, k4, k5⟩ := h1
    obtain ⟨g1, g2⟩ := gl_of k3
    have hmg := (fx.cls c k2.1).1
    rw [← k1] at hmg
    refine .cons ⟨g1, g2, .inl hmg⟩ ?_ (fun a oe cls d pn hz hf => ⟨fun pins s σ H D I q => q oe pn hz hf pins s I⟩) (hd_mix fx h2)
    split at k4
    · trivial
    · rename_i i y
      rw [Bool.and_eq_true, Bool.and_eq_true, decide_eq_true_eq] at k4
      refine ⟨k4.1.1, ?_⟩
      have q := k4.1.2
      unfold isLocal at q
      split at q
      · assumption
      · cases q
    · cases k4
theorem mix_ok {x : Dy.D} {cls : Vl} {dx : Option Ad} {τ : Dy.Loc} {σ : L2.St} (fx : Facts L n X.prog X.w X.K X.mg X.base) (S : SR X.K L ρ m H) (lc : LocR X.K L ρ m H τ σ) (xr : XRep X.K L ρ m H x cls dx) :
    ∀ {hs : List Hd} {es : List ExceptHandler}, mHds L X.N X.env.scope hs es = true → PostF X.K L ρ m H (hdGo L.G x τ m hs) De W → wMix X.K W De (clOf L X hs es) cls dx σ H
  | [], [], _, h => h ρ H σ cls dx S Step.refl lc xr
  | [], _ :: _, h, _ => by simp [mHds] at h
  | _ :: _, [], h, _ => by simp [mHds] at h
  | ⟨c, slot, items⟩ :: hs, e :: es, hm, h => by
    have hm : (mHd L X.N X.env.scope ⟨c, slot, items⟩ e && mHds L X.N X.env.scope hs es) = true := hm
    rw [Bool.and_eq_true] at hm
    obtain ⟨h1, h2⟩ := hm
    obtain ⟨cx, ns, fs, rfl, rfl, hlen, hdat⟩ := xr
    unfold hdGo at h
    simp only at h
    split at h
    case h_2 => exact PostF.stuck h
    rename_i C hC
    split at h
    case isFalse => exact PostF.stuck h
    rename_i hns
    subst hns
    have F := fx.xcs cx C hC
    have hdat := hdat F.pos
    unfold mHd at h1
    split at h1
    case h_2 => simp at h1
    rename_i c' slot' items' x xp nm v rp hp heq
    cases heq
    rw [Bool.and_eq_true, Bool.and_eq_true, Bool.and_eq_true, Bool.and_eq_true, decide_eq_true_eq, decide_eq_true_eq] at h1
    obtain ⟨⟨⟨k1, k2⟩, k3⟩, k4, k5⟩ := h1
    refine ⟨L.G.sup cx c, F.exm c k2.1 k2.2, fun hb b hb0 => ?_, fun hb => ?_⟩
    · rw [if_pos hb] at h
      intro oe pn hz hf
      have mk : ∀ {σ1 : L2.St}, (∀ y, nm = some y → ∃ i : Nat, X.N[i]? = some y ∧ isVis X.env.scope y = true ∧ (σ1.length = X.N.length → σ1[i]? = some (some (V.ref b)))) → Caught L X ρ m H (.ex cx C.fs fs) (.ref (L.cad cx)) dx b σ1 nm := fun hn => ⟨⟨cx, C, fs, rfl, hC, rfl, F, hdat⟩, hn⟩
      have cgt : Caught L X ρ m H (.ex cx C.fs fs) (.ref (L.cad cx)) dx b (sset slot b σ) nm := by
        refine mk fun y hy => ?_
        subst hy
        cases slot with
        | none => cases k4
        | some i =>
          have k4 : ((decide (X.N[i]? = some y) && isLocal X.env.scope y) && isVis X.env.scope y) = true := k4
          rw [Bool.and_eq_true, Bool.and_eq_true, decide_eq_true_eq] at k4
          refine ⟨i, k4.1.1, k4.2, fun hl => ?_⟩
          have hi : i < X.N.length := (List.getElem?_eq_some_iff.mp k4.1.1).1
          have hl : (σ.set i (some (.ref b))).length = X.N.length := hl
          rw [List.length_set] at hl
          exact List.getElem?_set_self (by omega)
      cases items with
      | none =>
        cases v with
        | Constant k i p =>
          cases k with
          | none => exact PSs.ev (pss_one (ps_ret pe_non)) (h ρ H .non S Step.refl (rep_non.mpr rfl))
          | _ => simp at k5
        | _ => simp at k5
      | some its =>
        cases v with
        | List xs lp =>
          have k5 : (decide (its.length ≤ 1000) && mHis L (slot.getD 0) nm its xs) = true := k5
          rw [Bool.and_eq_true, decide_eq_true_eq] at k5
          simp only at h
          split at h
          · rename_i ds eds
            obtain ⟨vs, rs, hl, k⟩ := items_ok (pn := pn) cgt hz hf k5.2 eds
            refine PSs.ev (pss_one (ps_ret (pe_lst EvA.pa))) (k _ ⟨small_len rs hl (by omega), fun p hp => ?_⟩)
            have st := step_new (o := .lst vs) S hp
            exact h ρ _ _ (S.new hp) st (rep_fl.mpr ⟨p, vs, rfl, upd_same, S.free hp, Reps.step S st _ _ rs⟩)
          · exact PostF.stuck h
        | _ => simp at k5
    · rw [if_neg (by rw [hb]; exact Bool.false_ne_true)] at h
      exact mix_ok fx S lc ⟨cx, C.fs, fs, rfl, rfl, hlen, fun _ => hdat⟩ h2 h
theorem st_try {b : Ss} {hs : List Hd} {body : List Stmt} {hd0 : ExceptHandler} {hds : List ExceptHandler} {pos : Pos} (hm : mHds L X.N X.env.scope hs (hd0 :: hds) = true) (hb : ∀ pn xe, SndSs L n b body (X.tr pn xe)) : SndS L n (.tryx b hs) (.Try body (hd0 :: hds) [] [] pos) X := by
  intro W τ σ ρ m H D cx lc S h
  rw [evS] at h
  refine PS.ev (ps_try_mix (tb := fun W D σ H => ∀ pn xe, Takes (X.tr pn xe) W → PassesOwn (model X.prog X.w) X.A X.env xe → EvSs (X.tr pn xe) body σ H D) cx.hs cx.hf cx.cx.nd cx.cx.tk
    (fun W pn xe t p => ⟨fun pins s σ H D I q => q pn xe t p pins s I⟩) (hd_mix cx.cx.fx hm)) ?_
  intro pn xe t p
  have cx2 : CxtS L n (X.tr pn xe) (wMix X.K W D (clOf L X hs (hd0 :: hds))) := ⟨⟨cx.cx.nd, cx.cx.room, cx.cx.calm, t, cx.cx.fx⟩, p, cx.hs, cx.hf, cx.fnT, cx.kind⟩
  refine hb pn xe _ τ σ ρ m H D cx2 lc S ?_
  cases e : evSs L.G (run L.G L.fns n) b τ m with
  | exc x τ1 m1 =>
    rw [e] at h
    intro ρ1 H1 σ1 cls dx S1 st1 l1 xr
    exact mix_ok cx.cx.fx S1 l1 xr hm (PostF.next h st1)
  | nx τ1 m1 => rw [e] at h; exact h
  | brk τ1 m1 => rw [e] at h; exact h
  | ct τ1 m1 => rw [e] at h; exact h
  | rt d m1 => rw [e] at h; exact h
  | stuck => rw [e] at h; exact PostF.stuck h
end
end Dy
end
section
set_option Elab.async false
set_option linter.all false
set_option maxRecDepth 100000
set_option maxHeartbeats 40000000
/-! DySnd: every text that matches is sound. -/
namespace Dy
open PySem PySem.Spec PyProof.Rows L2
section
variable {L : Lk} {n : Nat}
theorem noset_ok {e : Expr} {env : PySem.Env} (h : noSet e = true) (y : Vl) : foldedSetIterable e env y = pure y := by
  cases e <;> first | rfl | simp [noSet] at h
mutual
theorem snd_E : ∀ (c : E) (e : Expr) (X : Cx), X.N.Nodup → X.calm = true → mE L X.N X.env.scope c e = true → SndE L n c e X
  | .var i, e, X, hN, hk, h => by
    cases e <;> (first | (simp only [mE, Bool.false_eq_true] at h; done) | skip)
    simp only [mE, Bool.and_eq_true, decide_eq_true_eq] at h
    exact s_var h.1 h.2
  | .lit l, e, X, hN, hk, h => by
    cases e <;> (first | (simp only [mE, Bool.false_eq_true] at h; done) | skip)
    simp only [mE] at h
    exact s_lit h
  | .glb g, e, X, hN, hk, h => by
    cases e <;> (first | (simp only [mE, Bool.false_eq_true] at h; done) | skip)
    simp only [mE, Bool.and_eq_true, decide_eq_true_eq] at h
    exact s_glb h.1 h.2
  | .bin op a b, e, X, hN, hk, h => by
    cases e <;> (first | (simp only [mE, Bool.false_eq_true] at h; done) | skip)
    simp only [mE, Bool.and_eq_true] at h
    exact s_bin h.1 (snd_E a _ X hN hk h.2.1) (snd_E b _ X hN hk h.2.2)
  | .neg a, e, X, hN, hk, h => by
    cases e <;> (first | (simp only [mE, Bool.false_eq_true] at h; done) | skip)
    rename_i op x p
    cases op <;> (first | (simp only [mE, Bool.false_eq_true] at h; done) | skip)
    simp only [mE] at h
    exact s_neg (snd_E a _ X hN hk h)
  | .cmp op a b, e, X, hN, hk, h => by
    cases e <;> (first | (simp only [mE, Bool.false_eq_true] at h; done) | skip)
    rename_i l os rs p
    match os, rs, h with
    | [o], [r], h =>
      simp only [mE, Bool.and_eq_true] at h
      exact s_cmp h.1.1 h.2 (snd_E a _ X hN hk h.1.2.1) (snd_E b _ X hN hk h.1.2.2)
    | [], _, h => simp [mE] at h
    | [_], [], h => simp [mE] at h
    | [_], _ :: _ :: _, h => simp [mE] at h
    | _ :: _ :: _, _, h => simp [mE] at h
  | .chain op op' a b c, e, X, hN, hk, h => by
    cases e <;> (first | (simp only [mE, Bool.false_eq_true] at h; done) | skip)
    rename_i l os rs p
    match os, rs, h with
    | [o, o'], [r, r'], h =>
      simp only [mE, Bool.and_eq_true] at h
      exact s_chain h.1.1.1 h.1.1.2 (by rw [Bool.and_eq_true]; exact h.2.1) (by rw [Bool.and_eq_true]; exact h.2.2) (snd_E a _ X hN hk h.1.2.1) (snd_E b _ X hN hk h.1.2.2.1) (snd_E c _ X hN hk h.1.2.2.2)
    | [], _, h => simp [mE] at h
    | [_], _, h => simp [mE] at h
    | [_, _], [], h => simp [mE] at h
    | [_, _], [_], h => simp [mE] at h
    | [_, _], _ :: _ :: _ :: _, h => simp [mE] at h
    | _ :: _ :: _ :: _, _, h => simp [mE] at h
  | .isc no a l, e, X, hN, hk, h => by
    cases e <;> (first | (simp only [mE, Bool.false_eq_true] at h; done) | skip)
    rename_i x os rs p
    match os, rs, h with
    | [o], [.Constant c j q], h =>
      simp only [mE, Bool.and_eq_true] at h
      have ho : o = isOp no := by
        have q := h.1
        cases no <;> cases o <;> first | rfl | simp at q
      subst ho
      exact s_isc h.2.2 (snd_E a _ X hN hk h.2.1)
    | [], _, h => simp [mE] at h
    | [_], [], h => simp [mE] at h
    | [_], _ :: _ :: _, h => simp [mE] at h
    | _ :: _ :: _, _, h => simp [mE] at h
    | [_], [r], h =>
      cases r <;> (first | (simp [mE] at h; done) | skip)
      simp only [mE, Bool.and_eq_true] at h
      rename_i o c j q
      have ho : o = isOp no := by
        have q := h.1
        cases no <;> cases o <;> first | rfl | simp at q
      subst ho
      exact s_isc h.2.2 (snd_E a _ X hN hk h.2.1)
  | .bop isAnd es, e, X, hN, hk, h => by
    cases e <;> (first | (simp only [mE, Bool.false_eq_true] at h; done) | skip)
    rename_i o xs p
    simp only [mE, Bool.and_eq_true, decide_eq_true_eq] at h
    have ho : o = (if isAnd then .And else .Or) := by
      have q := h.1
      cases isAnd <;> cases o <;> first | rfl | simp at q
    subst ho
    intro W τ σ ρ m H Q cx lc S h'
    rw [evE] at h'
    exact snd_B isAnd es xs X hN hk h.2.1 h.2.2 p W τ σ ρ m H Q cx lc S h'
  | .notv a, e, X, hN, hk, h => by
    cases e <;> (first | (simp only [mE, Bool.false_eq_true] at h; done) | skip)
    rename_i op x p
    cases op <;> (first | (simp only [mE, Bool.false_eq_true] at h; done) | skip)
    simp only [mE] at h
    exact s_notv (snd_E a _ X hN hk h)
  | .ife t a b, e, X, hN, hk, h => by
    cases e <;> (first | (simp only [mE, Bool.false_eq_true] at h; done) | skip)
    simp only [mE, Bool.and_eq_true] at h
    exact s_ife (snd_T t _ X hN hk h.1) (snd_E a _ X hN hk h.2.1) (snd_E b _ X hN hk h.2.2)
  | .lck i a, e, X, hN, hk, h => by
    cases e <;> (first | (simp only [mE, Bool.false_eq_true] at h; done) | skip)
    simp only [mE] at h
    exact s_lck (snd_E a _ X hN hk h)
  | .tup es, e, X, hN, hk, h => by
    cases e <;> (first | (simp only [mE, Bool.false_eq_true] at h; done) | skip)
    simp only [mE, Bool.and_eq_true, decide_eq_true_eq] at h
    exact s_tup h.1 (snd_Es es _ X hN hk h.2)
  | .tupS a b, e, X, hN, hk, h => by
    cases e <;> (first | (simp only [mE, Bool.false_eq_true] at h; done) | skip)
    rename_i xs j p
    match xs, h with
    | [x, y], h =>
      cases x <;> (first | (simp [mE] at h; done) | skip)
      simp only [mE, Bool.and_eq_true] at h
      exact s_tupS h.2 (snd_E a _ X hN hk h.1) (snd_E b _ X hN hk h.2)
    | [], h => simp [mE] at h
    | [_], h => simp [mE] at h
    | _ :: _ :: _ :: _, h => simp [mE] at h
  | .lst mu es, e, X, hN, hk, h => by
    cases e <;> (first | (simp only [mE, Bool.false_eq_true] at h; done) | skip)
    simp only [mE, Bool.and_eq_true, decide_eq_true_eq] at h
    exact s_lst h.1 (snd_Es es _ X hN hk h.2)
  | .new (.bi b c), e, X, hN, hk, h => by
    have h : ((match (E.bi b c) with
      | .bi .list _ => true
      | .bi .sorted _ => true
      | _ => false) && mE L X.N X.env.scope (.bi b c) e) = true := by
      cases b <;> (simp only [mE] at h ⊢; exact h)
    rw [Bool.and_eq_true] at h
    obtain ⟨h1, h2⟩ := h
    have hb : b = .list ∨ b = .sorted := by
      cases b <;> first | exact .inl rfl | exact .inr rfl | simp at h1
    clear h1
    cases e <;> (first | (simp only [mE, Bool.false_eq_true] at h2; done) | skip)
    rename_i f xs ks p
    cases f <;> (first | (simp [mE] at h2; done) | skip)
    cases ks <;> (first | (simp [mE] at h2; done) | skip)
    simp only [mE, Bool.and_eq_true, decide_eq_true_eq] at h2
    exact s_new hb h2.1.1 h2.1.2 h2.2.1 h2.2.2 (snd_Es c _ X hN hk h2.2.2)
  | .new (.var i), e, X, hN, hk, h => by simp [mE] at h
  | .new (.lck i a), e, X, hN, hk, h => by simp [mE] at h
  | .new (.lit l), e, X, hN, hk, h => by simp [mE] at h
  | .new (.glb g), e, X, hN, hk, h => by simp [mE] at h
  | .new (.bin op a b), e, X, hN, hk, h => by simp [mE] at h
  | .new (.neg a), e, X, hN, hk, h => by simp [mE] at h
  | .new (.cmp op a b), e, X, hN, hk, h => by simp [mE] at h
  | .new (.chain op op' a b c), e, X, hN, hk, h => by simp [mE] at h
  | .new (.isc no a l), e, X, hN, hk, h => by simp [mE] at h
  | .new (.bop k es), e, X, hN, hk, h => by simp [mE] at h
  | .new (.notv a), e, X, hN, hk, h => by simp [mE] at h
  | .new (.ife t a b), e, X, hN, hk, h => by simp [mE] at h
  | .new (.tup es), e, X, hN, hk, h => by simp [mE] at h
  | .new (.tupS a b), e, X, hN, hk, h => by simp [mE] at h
  | .new (.lst mu es), e, X, hN, hk, h => by simp [mE] at h
  | .new (.new a), e, X, hN, hk, h => by simp [mE] at h
  | .new (.dsp kvs), e, X, hN, hk, h => by simp [mE] at h
  | .new (.idx a i), e, X, hN, hk, h => by simp [mE] at h
  | .new (.slc a lo hi), e, X, hN, hk, h => by simp [mE] at h
  | .new (.rev a), e, X, hN, hk, h => by simp [mE] at h
  | .new (.fld a f), e, X, hN, hk, h => by simp [mE] at h
  | .new (.call f es), e, X, hN, hk, h => by simp [mE] at h
  | .new (.callk f es kes pm), e, X, hN, hk, h => by simp [mE] at h
  | .new (.make c es), e, X, hN, hk, h => by simp [mE] at h
  | .new (.isi a k ts), e, X, hN, hk, h => by simp [mE] at h
  | .new (.rng k es), e, X, hN, hk, h => by simp [mE] at h
  | .new (.lenset a), e, X, hN, hk, h => by simp [mE] at h
  | .new (.sortset a), e, X, hN, hk, h => by simp [mE] at h
  | .new (.app a b), e, X, hN, hk, h => by simp [mE] at h
  | .new (.ext a b), e, X, hN, hk, h => by simp [mE] at h
  | .new (.lc mu elt tg it cond own), e, X, hN, hk, h => by simp [mE] at h
  | .dsp kvs, e, X, hN, hk, h => by
    cases e <;> (first | (simp only [mE, Bool.false_eq_true] at h; done) | skip)
    simp only [mE, Bool.and_eq_true, decide_eq_true_eq] at h
    exact s_dsp h.1 h.2 (snd_Ds kvs _ _ X hN hk h.2)
  | .idx a i, e, X, hN, hk, h => by
    cases e <;> (first | (simp only [mE, Bool.false_eq_true] at h; done) | skip)
    simp only [mE, Bool.and_eq_true] at h
    rename_i x y p
    exact s_idx (fun o j => by cases y <;> first | rfl | simp at h) (snd_E a _ X hN hk h.1.1) (snd_E i _ X hN hk h.1.2)
  | .slc a lo hi, e, X, hN, hk, h => by
    cases e <;> (first | (simp only [mE, Bool.false_eq_true] at h; done) | skip)
    rename_i x y p
    cases y <;> (first | (simp [mE] at h; done) | skip)
    rename_i l u s q
    cases s <;> (first | (simp [mE] at h; done) | skip)
    simp only [mE, Bool.and_eq_true] at h
    exact s_slc (snd_E a _ X hN hk h.1) (snd_O lo _ X hN hk h.2.1) (snd_O hi _ X hN hk h.2.2)
  | .rev a, e, X, hN, hk, h => by
    cases e <;> (first | (simp only [mE, Bool.false_eq_true] at h; done) | skip)
    rename_i x y p
    cases y <;> (first | (simp [mE] at h; done) | skip)
    rename_i l u s q
    cases l <;> (first | (simp [mE] at h; done) | skip)
    cases u <;> (first | (simp [mE] at h; done) | skip)
    cases s <;> (first | (simp [mE] at h; done) | skip)
    rename_i s
    cases s <;> (first | (simp [mE] at h; done) | skip)
    rename_i op v p2
    cases op <;> (first | (simp [mE] at h; done) | skip)
    cases v <;> (first | (simp [mE] at h; done) | skip)
    rename_i k j p3
    cases k <;> (first | (simp [mE] at h; done) | skip)
    rename_i z
    by_cases hz : z = 1
    · subst hz
      simp only [mE] at h
      exact s_rev (snd_E a _ X hN hk h)
    · exfalso
      unfold mE at h
      split at h
      all_goals first
        | (cases h; done)
        | (rename_i heq; cases heq; exact hz rfl)
        | skip
      all_goals simp_all
  | .fld a f, e, X, hN, hk, h => by
    cases e <;> (first | (simp only [mE, Bool.false_eq_true] at h; done) | skip)
    simp only [mE, Bool.and_eq_true, decide_eq_true_eq] at h
    exact s_fld h.2.1 h.2.2 (plain_base h.1.2) (snd_E a _ X hN hk h.1.1)
  | .call f es, e, X, hN, hk, h => by
    cases e <;> (first | (simp only [mE, Bool.false_eq_true] at h; done) | skip)
    rename_i g xs ks p
    cases g <;> (first | (simp [mE] at h; done) | skip)
    cases ks <;> (first | (simp [mE] at h; done) | skip)
    simp only [mE, Bool.and_eq_true, decide_eq_true_eq] at h
    exact s_call h.1.1.1 h.1.1.2.1 h.1.1.2.2 h.1.2 h.2 (snd_Es es _ X hN hk h.2)
  | .callk f es kes pm, e, X, hN, hk, h => by
    cases e <;> (first | (simp only [mE, Bool.false_eq_true] at h; done) | skip)
    rename_i g xs ks p
    cases g <;> (first | (simp [mE] at h; done) | skip)
    simp only [mE, Bool.and_eq_true, decide_eq_true_eq] at h
    exact s_callk h.1.1.1.1 h.1.1.1.2.1 h.1.1.1.2.2 h.1.1.2 h.1.2 h.2.1 h.2.2 (snd_Es es _ X hN hk h.2.1) (snd_Ks kes _ X hN hk h.2.2)
  | .make c es, e, X, hN, hk, h => by
    cases e <;> (first | (simp only [mE, Bool.false_eq_true] at h; done) | skip)
    rename_i g xs ks p
    cases g <;> (first | (simp [mE] at h; done) | skip)
    cases ks <;> (first | (simp [mE] at h; done) | skip)
    simp only [mE, Bool.and_eq_true, decide_eq_true_eq] at h
    exact s_make h.1.1.1 h.1.1.2.1 h.1.1.2.2 h.1.2 h.2.1 h.2.2 (snd_Es es _ X hN hk h.2.2)
  | .bi b es, e, X, hN, hk, h => by
    cases e <;> (first | (simp only [mE, Bool.false_eq_true] at h; done) | skip)
    rename_i g xs ks p
    cases g <;> (first | (simp [mE] at h; done) | skip)
    cases ks <;> (first | (simp [mE] at h; done) | skip)
    simp only [mE, Bool.and_eq_true, decide_eq_true_eq] at h
    exact s_bi h.1.1 h.1.2 h.2.1 h.2.2 (snd_Es es _ X hN hk h.2.2)
  | .isi a tupled ts, e, X, hN, hk, h => by
    cases e <;> (first | (simp only [mE, Bool.false_eq_true] at h; done) | skip)
    rename_i g xs ks p
    cases g <;> (first | (simp [mE] at h; done) | skip)
    cases ks <;> (first | (simp [mE] at h; done) | skip)
    match xs, h with
    | [x, t], h =>
      simp only [mE, Bool.and_eq_true, decide_eq_true_eq] at h
      exact s_isi h.1.1.1 h.1.1.2 h.2.1 h.2.2 h.1.2 (snd_E a _ X hN hk h.2.1)
    | [], h => simp [mE] at h
    | [_], h => simp [mE] at h
    | _ :: _ :: _ :: _, h => simp [mE] at h
  | .rng tupled es, e, X, hN, hk, h => by
    cases e <;> (first | (simp only [mE, Bool.false_eq_true] at h; done) | skip)
    rename_i g xs ks p
    cases g <;> (first | (simp [mE] at h; done) | skip)
    cases ks <;> (first | (simp [mE] at h; done) | skip)
    match xs, h with
    | [x], h =>
      cases x <;> (first | (simp [mE] at h; done) | skip)
      rename_i g2 xs2 ks2 p2
      cases g2 <;> (first | (simp [mE] at h; done) | skip)
      cases ks2 <;> (first | (simp [mE] at h; done) | skip)
      simp only [mE, Bool.and_eq_true, decide_eq_true_eq] at h
      exact s_rng h.1.1.1 h.1.1.2 h.1.2.1 h.1.2.2 h.2.1 h.2.2 (snd_Es es _ X hN hk h.2.2)
    | [], h => simp [mE] at h
    | _ :: _ :: _, h => simp [mE] at h
  | .lenset a, e, X, hN, hk, h => by
    cases e <;> (first | (simp only [mE, Bool.false_eq_true] at h; done) | skip)
    rename_i g xs ks p
    cases g <;> (first | (simp [mE] at h; done) | skip)
    cases ks <;> (first | (simp [mE] at h; done) | skip)
    match xs, h with
    | [x], h =>
      cases x <;> (first | (simp [mE] at h; done) | skip)
      rename_i g2 xs2 ks2 p2
      cases g2 <;> (first | (simp [mE] at h; done) | skip)
      cases ks2 <;> (first | (simp [mE] at h; done) | skip)
      match xs2, h with
      | [y], h =>
        simp only [mE, Bool.and_eq_true, decide_eq_true_eq] at h
        exact s_lenset h.1.1.1 h.1.1.2 h.1.2.1 h.1.2.2 h.2 (snd_E a _ X hN hk h.2)
      | [], h => simp [mE] at h
      | _ :: _ :: _, h => simp [mE] at h
    | [], h => simp [mE] at h
    | _ :: _ :: _, h => simp [mE] at h
  | .sortset a, e, X, hN, hk, h => by
    cases e <;> (first | (simp only [mE, Bool.false_eq_true] at h; done) | skip)
    rename_i g xs ks p
    cases g <;> (first | (simp [mE] at h; done) | skip)
    cases ks <;> (first | (simp [mE] at h; done) | skip)
    match xs, h with
    | [x], h =>
      cases x <;> (first | (simp [mE] at h; done) | skip)
      rename_i g2 xs2 ks2 p2
      cases g2 <;> (first | (simp [mE] at h; done) | skip)
      cases ks2 <;> (first | (simp [mE] at h; done) | skip)
      match xs2, h with
      | [y], h =>
        simp only [mE, Bool.and_eq_true, decide_eq_true_eq] at h
        exact s_sortset h.1.1.1 h.1.1.2 h.1.2.1 h.1.2.2 h.2 (snd_E a _ X hN hk h.2)
      | [], h => simp [mE] at h
      | _ :: _ :: _, h => simp [mE] at h
    | [], h => simp [mE] at h
    | _ :: _ :: _, h => simp [mE] at h
  | .app a b, e, X, hN, hk, h => by
    cases e <;> (first | (simp only [mE, Bool.false_eq_true] at h; done) | skip)
    rename_i g xs ks p
    cases g <;> (first | (simp [mE] at h; done) | skip)
    cases ks <;> (first | (simp [mE] at h; done) | skip)
    match xs, h with
    | [x], h =>
      simp only [mE, Bool.and_eq_true, decide_eq_true_eq] at h
      exact s_app h.1.1.2.1 h.1.1.2.2 h.1.2 h.2 (snd_E a _ X hN hk h.1.1.1) (snd_E b _ X hN hk h.2)
    | [], h => simp [mE] at h
    | _ :: _ :: _, h => simp [mE] at h
  | .ext a b, e, X, hN, hk, h => by
    cases e <;> (first | (simp only [mE, Bool.false_eq_true] at h; done) | skip)
    rename_i g xs ks p
    cases g <;> (first | (simp [mE] at h; done) | skip)
    cases ks <;> (first | (simp [mE] at h; done) | skip)
    match xs, h with
    | [x], h =>
      simp only [mE, Bool.and_eq_true, decide_eq_true_eq] at h
      exact s_ext h.1.1.2.1 h.1.1.2.2 h.1.2 h.2 (snd_E a _ X hN hk h.1.1.1) (snd_E b _ X hN hk h.2)
    | [], h => simp [mE] at h
    | _ :: _ :: _, h => simp [mE] at h
  | .lc mu elt tg it cond own, e, X, hN, hk, h => by
    cases e <;> (first | (simp only [mE, Bool.false_eq_true] at h; done) | skip)
    rename_i x gs scope p
    match gs, h with
    | [⟨t, i, ifs, k⟩], h =>
      by_cases k0 : k = 0
      · subst k0
        simp only [mE, Bool.and_eq_true, decide_eq_true_eq] at h
        obtain ⟨⟨⟨h1, h2⟩, h3, h3'⟩, h4, h5, h6⟩ := h
        obtain ⟨w1, w2⟩ := snd_W it tg t i X scope hN hk h1 h3 h3'
        exact s_lc hN hk w1 w2 h2 h1 h4 (fun s H0 C cl fp => snd_C cond ifs (blkX X scope s H0 C cl fp) hN hk h5) (fun s H0 C cl fp => snd_E elt x (blkX X scope s H0 C cl fp) hN hk h6)
      · exfalso
        unfold mE at h
        split at h
        all_goals first
          | (cases h; done)
          | (rename_i heq; cases heq; exact k0 rfl)
          | skip
        all_goals simp_all
    | [], h => simp [mE] at h
    | _ :: _ :: _, h => simp [mE] at h
theorem snd_Es : ∀ (c : Es) (es : List Expr) (X : Cx), X.N.Nodup → X.calm = true → mEs L X.N X.env.scope c es = true → SndA L n c es X
  | .nil, [], X, hN, hk, h => a_nil
  | .nil, _ :: _, X, hN, hk, h => by simp [mEs] at h
  | .cons a r, [], X, hN, hk, h => by simp [mEs] at h
  | .cons a r, e :: es, X, hN, hk, h => by
    rw [mEs, Bool.and_eq_true] at h
    exact a_cons (nostar h.1 es X.env) (snd_E a e X hN hk h.1) (snd_Es r es X hN hk h.2)
theorem snd_Ks : ∀ (c : Es) (es : List Keyword) (X : Cx), X.N.Nodup → X.calm = true → mKs L X.N X.env.scope c es = true → SndK L n c es X
  | .nil, [], X, hN, hk, h => k_nil
  | .nil, _ :: _, X, hN, hk, h => by simp [mKs] at h
  | .cons a r, [], X, hN, hk, h => by simp [mKs] at h
  | .cons a r, ⟨none, e, p⟩ :: es, X, hN, hk, h => by simp [mKs] at h
  | .cons a r, ⟨some k, e, p⟩ :: es, X, hN, hk, h => by
    rw [mKs, Bool.and_eq_true] at h
    exact k_cons (snd_E a e X hN hk h.1) (snd_Ks r es X hN hk h.2)
theorem snd_Ds : ∀ (c : Es) (ks : List (Option Expr)) (vs : List Expr) (X : Cx), X.N.Nodup → X.calm = true → mDs L X.N X.env.scope c ks vs = true → SndD L n c ks vs X
  | .nil, [], [], X, hN, hk, h => d_nil
  | .nil, _ :: _, _, X, hN, hk, h => by simp [mDs] at h
  | .nil, [], _ :: _, X, hN, hk, h => by simp [mDs] at h
  | .cons a .nil, _, _, X, hN, hk, h => by simp [mDs] at h
  | .cons a (.cons b r), [], _, X, hN, hk, h => by simp [mDs] at h
  | .cons a (.cons b r), none :: _, _, X, hN, hk, h => by simp [mDs] at h
  | .cons a (.cons b r), some _ :: _, [], X, hN, hk, h => by simp [mDs] at h
  | .cons a (.cons b r), some k :: ks, v :: vs, X, hN, hk, h => by
    rw [mDs, Bool.and_eq_true, Bool.and_eq_true] at h
    exact d_cons (snd_E a k X hN hk h.1.1) (snd_E b v X hN hk h.1.2) (snd_Ds r ks vs X hN hk h.2)
theorem snd_B : ∀ (isAnd : Bool) (c : Es) (es : List Expr) (X : Cx), X.N.Nodup → X.calm = true → 0 < c.len → mEs L X.N X.env.scope c es = true → SndB L n isAnd c es X
  | isAnd, .nil, es, X, hN, hk, hl, h => by simp [Es.len] at hl
  | isAnd, .cons a .nil, es, X, hN, hk, hl, h => by
    match es, h with
    | [e], h =>
      rw [mEs, Bool.and_eq_true] at h
      exact s_bop1 (snd_E a e X hN hk h.1)
    | [], h => simp [mEs] at h
    | _ :: _ :: _, h => simp [mEs] at h
  | isAnd, .cons a (.cons b r), es, X, hN, hk, hl, h => by
    match es, h with
    | e :: e2 :: es, h =>
      rw [mEs, Bool.and_eq_true] at h
      exact s_bop2 (snd_E a e X hN hk h.1) (snd_B isAnd (.cons b r) (e2 :: es) X hN hk (by simp [Es.len]) h.2)
    | [], h => simp [mEs] at h
    | [_], h => simp [mEs] at h
theorem snd_O : ∀ (c : Oe) (e : Option Expr) (X : Cx), X.N.Nodup → X.calm = true → mO L X.N X.env.scope c e = true → SndO L n c e X
  | .none, none, X, hN, hk, h => o_none
  | .none, some _, X, hN, hk, h => by simp [mO] at h
  | .some a, none, X, hN, hk, h => by simp [mO] at h
  | .some a, some e, X, hN, hk, h => by
    rw [mO] at h
    exact o_some (snd_E a e X hN hk h)
theorem snd_T : ∀ (c : T) (e : Expr) (X : Cx), X.N.Nodup → X.calm = true → mT L X.N X.env.scope c e = true → SndT L n c e X
  | .bop isAnd ts, e, X, hN, hk, h => by
    cases e <;> (first | (simp only [mT, Bool.false_eq_true] at h; done) | skip)
    rename_i o xs p
    simp only [mT, Bool.and_eq_true] at h
    have ho : o = (if isAnd then .And else .Or) := by
      have q := h.1
      cases isAnd <;> cases o <;> first | rfl | simp at q
    subst ho
    exact t_bop (snd_Ts isAnd ts _ X hN hk h.2)
  | .notv t, e, X, hN, hk, h => by
    cases e <;> (first | (simp only [mT, Bool.false_eq_true] at h; done) | skip)
    rename_i op x p
    cases op <;> (first | (simp only [mT, Bool.false_eq_true] at h; done) | skip)
    simp only [mT] at h
    exact t_notv (snd_T t _ X hN hk h)
  | .e a, e, X, hN, hk, h => by
    simp only [mT, Bool.and_eq_true] at h
    obtain ⟨h1, h2⟩ := h
    cases e <;> (first | (simp at h2; done) | skip)
    case Compare l os rs p =>
      match a, h1, h2 with
      | .cmp op a b, h1, _ =>
        match os, rs, h1 with
        | [o], [r], h =>
          simp only [mE, Bool.and_eq_true] at h
          exact t_cmp h.1.1 h.2 (snd_E a _ X hN hk h.1.2.1) (snd_E b _ X hN hk h.1.2.2)
        | [], _, h => simp [mE] at h
        | [_], [], h => simp [mE] at h
        | [_], _ :: _ :: _, h => simp [mE] at h
        | _ :: _ :: _, _, h => simp [mE] at h
      | .chain op op' a b c, h1, _ =>
        match os, rs, h1 with
        | [o, o'], [r, r'], h =>
          simp only [mE, Bool.and_eq_true] at h
          exact t_chain h.1.1.1 h.1.1.2 (by rw [Bool.and_eq_true]; exact h.2.2) (snd_E a _ X hN hk h.1.2.1) (snd_E b _ X hN hk h.1.2.2.1) (snd_E c _ X hN hk h.1.2.2.2)
        | [], _, h => simp [mE] at h
        | [_], _, h => simp [mE] at h
        | [_, _], [], h => simp [mE] at h
        | [_, _], [_], h => simp [mE] at h
        | [_, _], _ :: _ :: _ :: _, h => simp [mE] at h
        | _ :: _ :: _ :: _, _, h => simp [mE] at h
      | .isc no a l, h1, _ =>
        match os, rs, h1 with
        | [o], [r], h =>
          cases r <;> (first | (simp [mE] at h; done) | skip)
          simp only [mE, Bool.and_eq_true] at h
          rename_i c j q
          have ho : o = isOp no := by
            have q := h.1
            cases no <;> cases o <;> first | rfl | simp at q
          subst ho
          exact t_isc h.2.2 (snd_E a _ X hN hk h.2.1)
        | [], _, h => simp [mE] at h
        | [_], [], h => simp [mE] at h
        | [_], _ :: _ :: _, h => simp [mE] at h
        | _ :: _ :: _, _, h => simp [mE] at h
    all_goals exact t_e (fun whole => rfl) (snd_E a _ X hN hk h1)
theorem snd_Ts : ∀ (isAnd : Bool) (c : Ts) (es : List Expr) (X : Cx), X.N.Nodup → X.calm = true → mTs L X.N X.env.scope c es = true → SndBT L n isAnd c es X
  | isAnd, .nil, es, X, hN, hk, h => by cases es <;> simp [mTs] at h
  | isAnd, .cons a .nil, es, X, hN, hk, h => by
    match es, h with
    | [e], h =>
      simp only [mTs] at h
      exact t_bop1 (snd_T a e X hN hk h)
    | [], h => simp [mTs] at h
    | _ :: _ :: _, h => simp [mTs] at h
  | isAnd, .cons a (.cons b r), es, X, hN, hk, h => by
    match es, h with
    | e :: e2 :: es, h =>
      simp only [mTs, Bool.and_eq_true] at h
      exact t_bop2 (snd_T a e X hN hk h.1) (snd_Ts isAnd (.cons b r) (e2 :: es) X hN hk h.2)
    | [], h => simp [mTs] at h
    | [_], h => simp [mTs] at h
theorem snd_C : ∀ (c : Ot) (es : List Expr) (X : Cx), X.N.Nodup → X.calm = true → mC L X.N X.env.scope c es = true → SndC L n c es X
  | .none, [], X, hN, hk, h => c_none
  | .none, _ :: _, X, hN, hk, h => by simp [mC] at h
  | .some t, [], X, hN, hk, h => by simp [mC] at h
  | .some t, [e], X, hN, hk, h => by
    rw [mC] at h
    exact c_some (snd_T t e X hN hk h)
  | .some t, _ :: _ :: _, X, hN, hk, h => by simp [mC] at h
theorem snd_W : ∀ (c : Wk) (tg : Tg) (t e : Expr) (X : Cx) (sc : Scope), X.N.Nodup → X.calm = true → mTg X.N sc tg t = true → mW L X.N X.env.scope c e = true → tgW tg c = true → SndI L n c t e X ∧ ∀ y, foldedSetIterable e X.env y = pure y
  | .e a, tg, t, e, X, sc, hN, hk, ht, h, hw => by
    simp only [mW, Bool.and_eq_true] at h
    exact ⟨i_e (snd_E a e X hN hk h.1), noset_ok h.2⟩
  | .rng1 a, tg, t, e, X, sc, hN, hk, ht, h, hw => by
    unfold mW at h
    split at h
    case h_1 =>
      rename_i heq
      cases heq
      simp only [Bool.and_eq_true, decide_eq_true_eq] at h
      exact ⟨i_rng1 h.1.1 h.1.2 h.2 (snd_E a _ X hN hk h.2), fun y => rfl⟩
    all_goals first
      | (cases h; done)
      | (rename_i heq; cases heq; done)
      | (rename_i heq _; cases heq; done)
  | .rng2 a b, tg, t, e, X, sc, hN, hk, ht, h, hw => by
    unfold mW at h
    split at h
    case h_2 =>
      rename_i heq
      cases heq
      simp only [Bool.and_eq_true, decide_eq_true_eq] at h
      exact ⟨i_rng2 h.1.1 h.1.2 h.2.1 h.2.2 (snd_E a _ X hN hk h.2.1) (snd_E b _ X hN hk h.2.2), fun y => rfl⟩
    all_goals first
      | (cases h; done)
      | (rename_i heq; cases heq; done)
      | (rename_i heq _; cases heq; done)
  | .enum a, tg, t, e, X, sc, hN, hk, ht, h, hw => by
    cases tg with
    | nm i => simp [tgW] at hw
    | tp is =>
      cases t <;> (first | (simp [mTg] at ht; done) | skip)
      unfold mW at h
      split at h
      case h_3 =>
        rename_i heq
        cases heq
        simp only [Bool.and_eq_true, decide_eq_true_eq] at h
        exact ⟨i_enum h.1.1 h.1.2 h.2 (snd_E a _ X hN hk h.2), fun y => rfl⟩
      all_goals first
        | (cases h; done)
        | (rename_i heq; cases heq; done)
        | (rename_i heq _; cases heq; done)
end
end
end Dy
end
section
set_option Elab.async false
set_option linter.all false
set_option maxRecDepth 100000
set_option maxHeartbeats 40000000
/-! DySst: every statement that matches is sound. -/
namespace Dy
open PySem PySem.Spec PyProof.Rows L2
section
variable {L : Lk} {n : Nat}
theorem sw_plain {e : Expr} {t : Expr} {line : Nat} {env : PySem.Env} (h : noComp e = true) : swapsWithSole [t] e line env = pure false := by
  cases e <;> first | rfl | simp [noComp] at h
theorem sw_none {e : Expr} {line : Nat} {env : PySem.Env} (h : noComp e = true) : swapsWith e none line env = pure false := by
  cases e <;> first | rfl | simp [noComp] at h
theorem comp_lc {N : Nm} {sc : Scope} {c : E} {e : Expr} (h : mE L N sc c e = true) (hn : noComp e = false) : ∃ x gs scope p, e = .ListComp x gs scope p ∧ ∃ mu elt tg it cond own, c = .lc mu elt tg it cond own := by
  cases e <;> (first | (simp [noComp] at hn; done) | skip)
  · rename_i x gs scope p
    refine ⟨x, gs, scope, p, rfl, ?_⟩
    cases c <;> (first | (simp [mE] at h; done) | skip)
    case new a => cases a <;> (first | (simp [mE] at h; done) | skip)
    exact ⟨_, _, _, _, _, _, rfl⟩
  all_goals
    exfalso
    cases c <;> (first | (simp [mE] at h; done) | skip)
    case new a => cases a <;> (simp [mE] at h; done)
theorem lc_parts {N : Nm} {sc scope : Scope} {mu : Bool} {elt : E} {tg : Tg} {it : Wk} {cond : Ot} {own : List Nat} {x : Expr} {gs : List Comprehension} {p : Pos} (h : mE L N sc (.lc mu elt tg it cond own) (.ListComp x gs scope p) = true) :
    ∃ t i ifs, gs = [⟨t, i, ifs, 0⟩] ∧ mTg N scope tg t = true ∧ (∀ j ∈ tgIs tg, j ∈ own) ∧ mW L N sc it i = true ∧ tgW tg it = true ∧ L2.blkC N sc scope (own.map fun j => (N.getD j ("" : PySem.Str), j)) = true ∧ mC L N (relS' scope sc) cond ifs = true ∧ mE L N (relS' scope sc) elt x = true := by
  match gs, h with
  | [⟨t, i, ifs, k⟩], h =>
    by_cases k0 : k = 0
    · subst k0
      simp only [mE, Bool.and_eq_true, decide_eq_true_eq] at h
      obtain ⟨⟨⟨h1, h2⟩, h3, h3'⟩, h4, h5, h6⟩ := h
      exact ⟨t, i, ifs, rfl, h1, h2, h3, h3', h4, h5, h6⟩
    · exfalso
      unfold mE at h
      split at h
      all_goals first
        | (cases h; done)
        | (rename_i heq; cases heq; exact k0 rfl)
        | skip
      all_goals simp_all
  | [], h => simp [mE] at h
  | _ :: _ :: _, h => simp [mE] at h
theorem snd_set {i : Nat} {c : E} {t e : Expr} {X : Cx} {pos : Pos} (hN : X.N.Nodup) (hk : X.calm = true) (hm : mNm X.N X.env.scope i t = true) (h : mE L X.N X.env.scope c e = true) : SndS L n (.set i c) (.Assign [t] e pos) X := by
  cases hn : noComp e with
  | true => exact st_set hm (sw_plain hn) (snd_E c e X hN hk h)
  | false =>
    obtain ⟨x, gs, scope, p, rfl, mu, elt, tg, it, cond, own, rfl⟩ := comp_lc h hn
    obtain ⟨t', i', ifs, rfl, h1, h2, h3, h3', h4, h5, h6⟩ := lc_parts h
    obtain ⟨w1, w2⟩ := snd_W it tg t' i' X scope hN hk h1 h3 h3'
    cases t with
    | Name y py => exact st_setLc hm w1 w2 h2 h1 h4 (fun s H0 C cl fp => snd_C cond ifs (blkX X scope s H0 C cl fp) hN hk h5) (fun s H0 C cl fp => snd_E elt x (blkX X scope s H0 C cl fp) hN hk h6)
    | _ => simp [mNm] at hm
mutual
theorem snd_S : ∀ (c : S) (st : Stmt) (X : Cx), X.N.Nodup → X.calm = true → mS L X.N X.env.scope c st = true → SndS L n c st X
  | .set i c, st, X, hN, hk, h => by
    unfold mS at h
    split at h
    case h_1 =>
      rename_i heq
      cases heq
      simp only [Bool.and_eq_true] at h
      exact snd_set hN hk h.1 h.2
    all_goals first
      | (cases h; done)
      | (rename_i heq; cases heq; done)
      | (rename_i heq _; cases heq; done)
  | .par is es, st, X, hN, hk, h => by
    unfold mS at h
    split at h
    case h_2 =>
      rename_i heq
      cases heq
      simp only [Bool.and_eq_true, decide_eq_true_eq] at h
      exact st_par h.1.1 h.1.2.1 h.1.2.2 h.2.1 h.2.2 (snd_Es es _ X hN hk h.1.2.2)
    all_goals first
      | (cases h; done)
      | (rename_i heq; cases heq; done)
      | (rename_i heq _; cases heq; done)
  | .unp is c, st, X, hN, hk, h => by
    unfold mS at h
    split at h
    case h_3 =>
      rename_i heq
      cases heq
      simp only [Bool.and_eq_true] at h
      exact st_unp h.1.1 h.2 (snd_E c _ X hN hk h.1.2)
    all_goals first
      | (cases h; done)
      | (rename_i heq; cases heq; done)
      | (rename_i heq _; cases heq; done)
  | .setix a i c, st, X, hN, hk, h => by
    unfold mS at h
    split at h
    case h_4 =>
      rename_i heq
      cases heq
      simp only [Bool.and_eq_true] at h
      exact st_setix h.2 (snd_E a _ X hN hk h.1.1) (snd_E i _ X hN hk h.1.2.1) (snd_E c _ X hN hk h.1.2.2)
    all_goals first
      | (cases h; done)
      | (rename_i heq; cases heq; done)
      | (rename_i heq _; cases heq; done)
  | .setfld a f c, st, X, hN, hk, h => by
    unfold mS at h
    split at h
    case h_5 =>
      rename_i heq
      cases heq
      simp only [Bool.and_eq_true, decide_eq_true_eq] at h
      exact st_setfld h.2.1 h.2.2 (snd_E a _ X hN hk h.1.1) (snd_E c _ X hN hk h.1.2)
    all_goals first
      | (cases h; done)
      | (rename_i heq; cases heq; done)
      | (rename_i heq _; cases heq; done)
  | .aug i op c, st, X, hN, hk, h => by
    cases st <;> (first | (simp only [mS, Bool.false_eq_true] at h; done) | skip)
    simp only [mS, Bool.and_eq_true] at h
    exact st_aug h.1 h.2.1 (snd_E c _ X hN hk h.2.2)
  | .ex c, st, X, hN, hk, h => by
    cases st <;> (first | (simp only [mS, Bool.false_eq_true] at h; done) | skip)
    simp only [mS, Bool.and_eq_true] at h
    exact st_ex (sw_none h.2) (snd_E c _ X hN hk h.1)
  | .ret c, st, X, hN, hk, h => by
    cases st <;> (first | (simp only [mS, Bool.false_eq_true] at h; done) | skip)
    rename_i v p
    cases v <;> (first | (simp [mS] at h; done) | skip)
    simp only [mS] at h
    exact st_ret (snd_E c _ X hN hk h)
  | .retN, st, X, hN, hk, h => by
    cases st <;> (first | (simp only [mS, Bool.false_eq_true] at h; done) | skip)
    rename_i v p
    cases v <;> (first | (simp [mS] at h; done) | skip)
    exact st_retN
  | .ite t a b, st, X, hN, hk, h => by
    cases st <;> (first | (simp only [mS, Bool.false_eq_true] at h; done) | skip)
    simp only [mS, Bool.and_eq_true] at h
    exact st_ite (snd_T t _ X hN hk h.1) (snd_Ss a _ X hN hk h.2.1) (snd_Ss b _ X hN hk h.2.2)
  | .for tg w b, st, X, hN, hk, h => by
    unfold mS at h
    split at h
    case h_11 =>
      rename_i heq
      cases heq
      simp only [Bool.and_eq_true] at h
      exact st_for h.1 (snd_W (L := L) (n := n) w tg _ _ X X.env.scope hN hk h.1 h.2.1.1 h.2.1.2).2 (snd_W w tg _ _ X X.env.scope hN hk h.1 h.2.1.1 h.2.1.2).1 (snd_Ss b _ X hN hk h.2.2)
    all_goals first
      | (cases h; done)
      | (rename_i heq; cases heq; done)
      | (rename_i heq _; cases heq; done)
  | .while t b, st, X, hN, hk, h => by
    unfold mS at h
    split at h
    case h_12 =>
      rename_i heq
      cases heq
      simp only [Bool.and_eq_true] at h
      exact st_while (snd_T t _ X hN hk h.1) (snd_Ss b _ X hN hk h.2)
    all_goals first
      | (cases h; done)
      | (rename_i heq; cases heq; done)
      | (rename_i heq _; cases heq; done)
  | .brk, st, X, hN, hk, h => by
    cases st <;> (first | (simp only [mS, Bool.false_eq_true] at h; done) | skip)
    exact st_brk
  | .ct, st, X, hN, hk, h => by
    cases st <;> (first | (simp only [mS, Bool.false_eq_true] at h; done) | skip)
    exact st_ct
  | .pass, st, X, hN, hk, h => by
    cases st <;> (first | (simp only [mS, Bool.false_eq_true] at h; done) | skip)
    exact st_pass
  | .raise c es, st, X, hN, hk, h => by
    unfold mS at h
    split at h
    case h_16 =>
      rename_i heq
      cases heq
      simp only [Bool.and_eq_true, decide_eq_true_eq] at h
      exact st_raise h.1.1.1 h.1.1.2.1 h.1.1.2.2 h.1.2 h.2.1 h.2.2 (snd_Es es _ X hN hk h.2.2)
    all_goals first
      | (cases h; done)
      | (rename_i heq; cases heq; done)
      | (rename_i heq _; cases heq; done)
  | .tryx b hs, st, X, hN, hk, h => by
    unfold mS at h
    split at h
    case h_17 =>
      rename_i heq
      cases heq
      rename_i body hds p
      simp only [Bool.and_eq_true, decide_eq_true_eq] at h
      cases hds with
      | nil =>
        exfalso
        cases hs with
        | nil => simp at h
        | cons a r => simp [mHds] at h
      | cons hd0 hds => exact st_try h.2.2 fun pn xe => snd_Ss b body (X.tr pn xe) hN hk h.1
    all_goals first
      | (cases h; done)
      | (rename_i heq; cases heq; done)
      | (rename_i heq _; cases heq; done)
  | .frz i, st, X, hN, hk, h => by cases st <;> simp [mS] at h
theorem snd_Ss : ∀ (c : Ss) (st : List Stmt) (X : Cx), X.N.Nodup → X.calm = true → mSs L X.N X.env.scope c st = true → SndSs L n c st X
  | .nil, [], X, hN, hk, h => ss_nil
  | .nil, _ :: _, X, hN, hk, h => by simp [mSs] at h
  | .cons c r, st, X, hN, hk, h => by
    cases c
    case frz i =>
      simp only [mSs, Bool.and_eq_true] at h
      exact ss_frz (snd_Ss r st X hN hk h.2)
    all_goals
      cases st with
      | nil => simp [mSs] at h
      | cons s rest =>
        simp only [mSs, Bool.and_eq_true] at h
        exact ss_cons (snd_S _ s X hN hk h.1) (snd_Ss r rest X hN hk h.2)
end
end
end Dy
end
section
set_option Elab.async false
set_option linter.all false
set_option maxRecDepth 100000
set_option maxHeartbeats 4000000
/-! DyFn: functions keep what the interpreter promises; calls nested at any depth. -/
namespace Dy
open PySem PySem.Spec PyProof.Rows L2
theorem fsc_of {N P : Nm} {sc : Scope} (h : fsC N P sc = true) : FnScope N P sc := by
  unfold fsC at h
  simp only [Bool.and_eq_true, Bool.not_eq_true', decide_eq_true_eq, List.all_eq_true] at h
  obtain ⟨⟨h1, h2, h3⟩, ⟨h4, h5⟩, h6, h7⟩ := h
  refine ⟨?_, h2, h3, h4, h5, fun x hx => ?_, fun y hy z => ?_⟩
  · split at h1
    · assumption
    · cases h1
  · have q := h6 x hx
    unfold isLoc at q
    split at q
    · exact .inl (by assumption)
    · exact .inr (by assumption)
    · cases q
  · have q := h7 y hy
    rw [z] at q
    cases q
/-- what the text and the top say of the functions and classes -/
structure Link (L : Lk) (P : Program) (w : World) (K : PySem.W.Frag) (mg : PySem.Str → Option Vl) (base : Heap) : Prop where
  fn : ∀ f F, L.fns f = some F → ∃ x qual st N ps fd, FunD K x qual (defArgs st) (defBody st) (defScope st) [] [] (L.fad f) fd ∧ fsC N ps (defScope st) = true ∧ mSs L N (defScope st) F.body (defBody st) = true ∧ F.np = ps.length ∧ F.nl = N.length ∧
    (L.glo f = true → mg (L.fnm f) = some (.ref (L.fad f))) ∧ Binds K fd ps [] ∧
    ∀ k ks pm, L.kb f k ks pm = true → pm.length = F.np ∧ (∀ i ∈ pm, i < k + ks.length) ∧ ∀ (s : Shared) (us ws : List Vl), K.In s.heap → us.length = k → ws.length = ks.length → BindsTo s fd ⟨us, ks.zip ws⟩ (ps.zip (pm.map fun i => (us ++ ws).getD i .none))
  mks : ∀ c C, L.G.cls c = some C → Mk K (L.cad c) (L.fad C.init) ∧ (L.fns C.init).isSome = true
  blt : ∀ x ∈ bltNames, mg x = none
  glb : ∀ g d, L.G.glb g = some d → ∃ v u, mg (L.gnm g) = some u ∧ RelV v u ∧ ∀ ρ m H, Rep K L ρ m H d v
  cls : ∀ c, c < L.nc → mg (L.cnm c) = some (.ref (L.cad c)) ∧ PySem.W.keepIn K (.ref (L.cad c)) = true
  own : ∀ c C, L.G.cls c = some C → ClsFacts K L c
  xcs : ∀ c C, L.G.xcl c = some C → XclFacts P w K mg base L c C
  kit : ∀ (t : VT) (u : Ty), (∀ c, t = .own c → ∃ C, L.G.cls c = some C) → (∀ d, u = .cls d → d < L.nc) → PySem.W.kitOne K (t.v L) (u.v L) = some (t.is L.G.sup u)
section
variable {L : Lk} {n : Nat} {P : Program} {w : World} {K : PySem.W.Frag} {mg : PySem.Str → Option Vl} {base : Heap}
theorem sp_len {f : Nat} {F : FnC} {ps : Nm} (hf : L.fns f = some F) (hp : F.np = ps.length) : ∀ vs H Q E, spF K L n f vs H Q E → vs.length = ps.length := by
  rintro vs H Q E ⟨ρ, m, ds, F', e, hl, S, r, h⟩
  rw [hf] at e
  cases e
  rw [← r.length, hl, hp]
theorem loc_start {ρ : Pl} {m : Store} {H : Hp} {ds : List D} {vs : List V} {k : Nat} (r : Reps K L ρ m H ds vs) : LocR K L ρ m H (ds.map some ++ List.replicate k none) (vs.map some ++ List.replicate k none) := by
  refine ⟨by simp [r.length], fun i d e => ?_⟩
  by_cases hi : i < ds.length
  · rw [List.getElem?_append_left (by simpa using hi), List.getElem?_map] at e
    cases e2 : ds[i]? with
    | none => rw [e2] at e; cases e
    | some d2 =>
      rw [e2] at e
      cases e
      obtain ⟨v, h1, h2⟩ := r.get e2
      refine ⟨v, ?_, h2⟩
      rw [List.getElem?_append_left (by rw [List.length_map, ← r.length]; exact hi), List.getElem?_map, h1]
      rfl
  · rw [List.getElem?_append_right (by simpa using hi), List.getElem?_replicate] at e
    split at e <;> cases e
theorem fn_ok {f : Nat} {F : FnC} {x qual : PySem.Str} {st : Stmt} {N ps : Nm} {fd : FuncData} (Fu : FunD K x qual (defArgs st) (defBody st) (defScope st) [] [] (L.fad f) fd) (hs : fsC N ps (defScope st) = true) (hm : mSs L N (defScope st) F.body (defBody st) = true) (hf : L.fns f = some F)
    (hp : F.np = ps.length) (hl : F.nl = N.length) (fx : Facts L n P w K mg base) : FnOk P w K mg base (L2.CX P w) (2 * (n + 1) + 2) (L.fad f) fd ps (spF K L (n + 1) f) := by
  have Sc := fsc_of hs
  refine Fu.ok (k := 2 * n + 3) Sc (sp_len hf hp) fun cdv A outer s H vs Q E hr hsp => ?_
  obtain ⟨ρ, m, ds, F', e, hlen, S, r, h⟩ := hsp
  rw [hf] at e
  cases e
  refine ⟨_, EvSs.pss, ?_⟩
  have cx : CxtS L n (cxOf (L2.CX P w) P w K mg base N qual (defScope st) (L.fad f) cdv A outer s H E) (fun cls d _ H => E cls d H) :=
    ⟨⟨Sc.nd, hr, rfl, takes_of rfl rfl rfl rfl, fx⟩, passes_of rfl, rfl, rfl, fun _ => rfl, Sc.kind⟩
  have lc : LocR K L ρ m H (ds.map some ++ List.replicate (F.nl - F.np) none) (L2.start N vs) := by
    unfold L2.start
    have e : F.nl - F.np = N.length - vs.length := by rw [hl, ← r.length, hlen]
    rw [e]
    exact loc_start r
  refine snd_Ss F.body (defBody st) (cxOf (L2.CX P w) P w K mg base N qual (defScope st) (L.fad f) cdv A outer s H E) Sc.nd rfl hm _ _ _ ρ m H _ cx lc S ?_
  rw [run, hf] at h
  simp only at h
  rw [if_pos hlen] at h
  show PostF K L ρ m H (evSs L.G (run L.G L.fns n) F.body (ds.map some ++ List.replicate (F.nl - F.np) none) m) _ _
  cases e : evSs L.G (run L.G L.fns n) F.body (ds.map some ++ List.replicate (F.nl - F.np) none) m with
  | nx τ m1 => rw [e] at h; exact fun ρ' H' σ' S' s' l => h ρ' H' .non S' s' (rep_non.mpr rfl)
  | rt d m1 => rw [e] at h; exact h
  | exc y τ m1 => rw [e] at h; exact fun ρ' H' σ' cls dx S' s' l q => h ρ' H' cls dx S' s' q
  | brk τ m1 => rw [e] at h; exact Post.stuck h
  | ct τ m1 => rw [e] at h; exact Post.stuck h
  | stuck => rw [e] at h; exact Post.stuck h
theorem facts_all (lk : Link L P w K mg base) : ∀ n, Facts L n P w K mg base
  | 0 => by
    refine ⟨fun f F hf => ?_, lk.mks, lk.blt, lk.glb, lk.cls, lk.own, lk.xcs, lk.kit⟩
    obtain ⟨x, qual, st, N, ps, fd, Fu, hs, hm, hp, hl, hg, hb, hk⟩ := lk.fn f F hf
    refine ⟨fd, ps, ⟨sp_len hf hp, fun A outer s H args us vs Q E hr e0 b r hsp => ?_⟩, hg, Fu.kp, hb, hp.symm, hk⟩
    obtain ⟨ρ, m, ds, F', e, hlen, S, r', h⟩ := hsp
    exact Post.stuck h
  | n + 1 => by
    have fx := facts_all lk n
    refine ⟨fun f F hf => ?_, lk.mks, lk.blt, lk.glb, lk.cls, lk.own, lk.xcs, lk.kit⟩
    obtain ⟨x, qual, st, N, ps, fd, Fu, hs, hm, hp, hl, hg, hb, hk⟩ := lk.fn f F hf
    exact ⟨fd, ps, fn_ok Fu hs hm hf hp hl fx, hg, Fu.kp, hb, hp.symm, hk⟩
end
end Dy
end
section
set_option Elab.async false
set_option linter.all false
set_option maxRecDepth 100000
set_option maxHeartbeats 4000000
/-! DyIni: the __init__ of the text's exceptions. -/
namespace Dy
open PySem PySem.Spec PyProof.Rows L2
/-- the parent's __init__, as its class is asked for it -/
structure ParC (K : PySem.W.Frag) (mg : PySem.Str → Option Vl) (S : PySem.Str) (CS : Addr) : Prop where
  nm : mg S = some (.ref CS)
  rd : PySem.W.readsIn K CS (.type "type") = true
  ga : PySem.W.specialIn K (.ref CS) "__getattribute__" = some (some (.builtin "type.__getattribute__"))
  ini : PySem.W.findCls K (.ref CS) (.type "type") "__init__" = some (.val (.builtin "ValueError.__init__"))
def mAs (L : Lk) (N : Nm) (sc : Scope) (self : PySem.Str) : Nat → List Nat → List Stmt → Bool
  | _, [], [] => true
  | i, f :: fs, .Assign [.Attribute (.Name z _) y _] (.Name g _) _ :: sts => ((decide (z = self) && decide (y = L.atn f)) && (decide (N[i]? = some g) && isVis sc g)) && mAs L N sc self (i + 1) fs sts
  | _, _, _ => false
def mIni (L : Lk) (N : Nm) (sc : Scope) (S : PySem.Str) (fs : List Nat) : List Stmt → Bool
  | .Expr (.Call (.Attribute (.Name x _) y ap) [.Name z _, .Constant (.str _) _ _] [] cp) _ :: sts => ((((ap.endLine == cp.line) && decide (x = S) && decide (y = ("__init__" : PySem.Str))) && isGl sc x) && (decide (N[0]? = some z) && isVis sc z)) && mAs L N sc z 1 fs sts
  | _ => false
section
variable {L : Lk} {X : Cx} {H : Hp}
theorem pe_veS {S z : PySem.Str} {k : Const} {j : Nat} {CS : Addr} {p1 p2 p3 p4 pos : Pos} {ta : TA} (hg : Gl X S) (hdb : (S == ("__debug__" : PySem.Str)) = false) (hline : (p2.endLine == pos.line) = true) (c : ParC X.K X.mg S CS) (ha : PA X [.Name z p3, .Constant k j p4] ta) :
    PE X (.Call (.Attribute (.Name S p1) "__init__" p2) [.Name z p3, .Constant k j p4] [] pos) (tVeI X.K ta) := by
  refine ⟨fun pins s σ H Q I h => ?_⟩
  rw [arm_eval_Call, plain_base rfl]
  refine wpAny_bind (ld_glob I hg c.nm ?_ hdb)
  refine wpAny_bind (wpAny_standAt ?_)
  have hpos : methodCallPos true (.Name S p1) X.env p2 pos = pure pos := by unfold methodCallPos; simp [hline]
  have hform : methodCallForm ([Expr.Name z p3, .Constant k j p4].length + ([] : List Keyword).length) (backTo pos (starEach [.Name z p3, .Constant k j p4] X.env)) (backToKw pos (keywordEach [] X.env)) = true := rfl
  unfold methodCall
  rw [hform]
  refine wpAny_bind (wpAny_holding (PySem.W.method_cls I.kIn c.ga (PySem.W.cls_value I.kIn c.rd c.ini (by decide +kernel) ?_)))
  refine wpAny_bind (wpAny_of_eq hpos ?_)
  show wpAny _ _ (callWith pos (Value.builtin "ValueError.__init__") [] (backTo pos (starEach [.Name z p3, .Constant k j p4] X.env)) []) _ _ _
  refine PyProof.Rows.callWith_method1 (thn (ha.run pos pins _ σ H _ (I.tok _) h) fun us s1 ⟨vs, H1, I1, r1, a, C, ws, ev, hl, T, ea, q⟩ => ?_) rfl rfl
  subst ev
  cases r1 with
  | @cons _ u0 _ ur ra rw' =>
    obtain rfl : u0 = Value.ref a := ra
    have hlen : ur.length ≤ sizeLine := by rw [← Paired.length rw', sizeLine_eq]; omega
    exact oinit_ok T I1 ea hlen fun s' J => ⟨.non, H1, J, rfl, q⟩
theorem mAs_cons {N : Nm} {sc : Scope} {self : PySem.Str} {i f : Nat} {fs : List Nat} {st : Stmt} {sts : List Stmt} (h : mAs L N sc self i (f :: fs) (st :: sts) = true) :
    ∃ zp ap g gp pos, st = .Assign [.Attribute (.Name self zp) (L.atn f) ap] (.Name g gp) pos ∧ N[i]? = some g ∧ isVis sc g = true ∧ mAs L N sc self (i + 1) fs sts = true := by
  unfold mAs at h
  split at h
  case h_2 =>
    rename_i heq1 heq2
    cases heq1
    cases heq2
    simp only [Bool.and_eq_true, decide_eq_true_eq] at h
    obtain ⟨⟨⟨rfl, rfl⟩, h3, h4⟩, h5⟩ := h
    exact ⟨_, _, _, _, _, rfl, h3, h4, h5⟩
  all_goals first
    | (cases h; done)
    | (rename_i heq; cases heq; done)
    | (rename_i heq _; cases heq; done)
theorem ini_rest {sc : Scope} {self : PySem.Str} {a ca d : Ad} {σ : L2.St} {D : Ends} (hsc : X.env.scope = sc) (h0 : X.N[0]? = some self) (hv : isVis sc self = true) (h0σ : σ[0]? = some (some (V.ref a))) (T : OexC X.K ca) :
    ∀ {fs : List Nat} {sts : List Stmt} {i : Nat} {ws : List V} {H : Hp} {acc : List (PySem.Str × V)}, mAs L X.N sc self i fs sts = true → (∀ f ∈ fs, PySem.W.findIn X.K (.ref ca) (L.atn f) = some none) → fs.Nodup → ws.length = fs.length → (∀ j (v : V), ws[j]? = some v → σ[i + j]? = some (some v)) →
      H a = some (exo a ca (some d)) → H d = some (exd d acc) → d ≠ a → acc.length + fs.length ≤ 900 →
      (∀ H2 acc2, H2 a = some (exo a ca (some d)) → H2 d = some (exd d acc2) → (∀ b, b ≠ a → b ≠ d → H2 b = H b) → (∀ q ∈ zipF L fs ws, acc2.lookup q.1 = some q.2) → (∀ y, (∀ f ∈ fs, L.atn f ≠ y) → acc2.lookup y = acc.lookup y) → D.nx σ H2) → EvSs X sts σ H D
  | [], [], i, ws, H, acc, _, _, _, hw, _, e1, e2, _, _, k => by
    cases ws with
    | cons _ _ => simp at hw
    | nil => exact PSs.ev pss_nil (k H acc e1 e2 (fun _ _ _ => rfl) (by simp [zipF]) fun _ _ => rfl)
  | [], _ :: _, i, ws, H, acc, h, _, _, _, _, _, _, _, _, _ => by simp [mAs] at h
  | f :: fs, [], i, ws, H, acc, h, _, _, _, _, _, _, _, _, _ => by simp [mAs] at h
  | f :: fs, st :: sts, i, ws, H, acc, h, hn, nd, hw, hs, e1, e2, ne, hl, k => by
    obtain ⟨zp, ap, g, gp, pos, rfl, h3, h4, h5⟩ := mAs_cons h
    cases ws with
    | nil => simp at hw
    | cons w ws =>
      subst hsc
      obtain ⟨v1, v2, v3⟩ := vis_of hv
      obtain ⟨u1, u2, u3⟩ := vis_of h4
      have nd2 := List.nodup_cons.mp nd
      refine PSs.ev (pss_cons (ps_ost (pe_var h0 v1 v2 v3) (pe_var h3 u1 u2 u3)) EvSs.pss) ?_
      refine ⟨w, hs 0 w rfl, .ref a, h0σ, a, ca, rfl, T, hn f List.mem_cons_self, .inr ⟨d, acc, e1, e2, by simp at hl; omega, ?_⟩⟩
      have da : (upd H d (exd d ((L.atn f, w) :: acc))) a = some (exo a ca (some d)) := by rw [upd_ne (Ne.symm ne)]; exact e1
      refine ini_rest rfl h0 hv h0σ T h5 (fun g hg => hn g (List.mem_cons_of_mem _ hg)) nd2.2 (by simpa using hw) (fun j v e => ?_) da upd_same ne (by simp at hl ⊢; omega) fun H2 acc2 g1 g2 g3 g4 g5 => ?_
      · have := hs (j + 1) v (by simpa using e)
        rw [show i + (j + 1) = i + 1 + j by omega] at this
        exact this
      · have hd : ∀ g ∈ fs, L.atn g ≠ L.atn f := fun g hg z => nd2.1 (by rw [← L.atI _ _ z]; exact hg)
        refine k H2 acc2 g1 g2 (fun b b1 b2 => by rw [g3 b b1 b2, upd_ne b2]) (fun q hq => ?_) fun y hy => ?_
        · have hq : q ∈ (L.atn f, w) :: zipF L fs ws := hq
          rcases List.mem_cons.mp hq with rfl | hq
          · rw [g5 _ hd]
            simp
          · exact g4 q hq
        · rw [g5 y fun g hg => hy g (List.mem_cons_of_mem _ hg)]
          have : (y == L.atn f) = false := beq_eq_false_iff_ne.mpr fun z => hy f List.mem_cons_self z.symm
          rw [List.lookup_cons, this]
theorem ini_body {S : PySem.Str} {ca CS a : Addr} {C : Xcl} {body : List Stmt} {ws : List V} {Q : VK} (hm : mIni L X.N X.env.scope S C.fs body = true) (T : OexC X.K ca) (par : ParC X.K X.mg S CS) (hn : ∀ f ∈ C.fs, PySem.W.findIn X.K (.ref ca) (L.atn f) = some none) (nd : C.fs.Nodup) (few : C.fs.length ≤ 100) (pos : C.fs ≠ [])
    (hl : ws.length = C.fs.length) (ha : H a = some (exo a ca none)) (hk : ∀ d H2 fs, H d = none → d ≠ a → H2 a = some (exo a ca (some d)) → H2 d = some (exd d fs) → (∀ b, b ≠ a → b ≠ d → H2 b = H b) → (∀ q ∈ zipF L C.fs ws, fs.lookup q.1 = some q.2) → Q .non H2) :
    EvSs X body (L2.start X.N (.ref a :: ws)) H { nx := fun _ H' => Q .non H', rt := Q } := by
  have hst : ∀ j (v : V), (V.ref a :: ws)[j]? = some v → (L2.start X.N (V.ref a :: ws))[j]? = some (some v) := fun j v e => by
    unfold L2.start
    have hj := (List.getElem?_eq_some_iff.mp e).1
    rw [List.getElem?_append_left (by simpa using hj), List.getElem?_map, e]
    rfl
  unfold mIni at hm
  split at hm
  case h_2 => cases hm
  rename_i x xp y ap z zp m j cpos cp pos0 sts
  simp only [Bool.and_eq_true, decide_eq_true_eq] at hm
  obtain ⟨⟨⟨⟨⟨hline, rfl⟩, rfl⟩, hg⟩, hz, hzv⟩, hm⟩ := hm
  obtain ⟨g1, g2⟩ := gl_of hg
  obtain ⟨v1, v2, v3⟩ := vis_of hzv
  cases C with
  | mk fs0 =>
    cases fs0 with
    | nil => exact absurd rfl pos
    | cons f fs =>
      cases sts with
      | nil => simp [mAs] at hm
      | cons st2 sts =>
        obtain ⟨zp2, ap2, g, gp, pos2, rfl, h3, h4, h5⟩ := mAs_cons hm
        obtain ⟨u1, u2, u3⟩ := vis_of h4
        have nd2 := List.nodup_cons.mp nd
        cases ws with
        | nil => simp at hl
        | cons w ws =>
          refine PSs.ev (pss_cons (ps_expr (pe_veS g1 g2 hline par (pa_cons (pe_var hz v1 v2 v3) (pa_cons pe_str pa_nil))) rfl) (pss_cons (ps_ost (pe_var hz v1 v2 v3) (pe_var h3 u1 u2 u3)) EvSs.pss)) ?_
          refine ⟨.ref a, hst 0 _ rfl, a, ca, _, rfl, by simp, T, ha, ?_⟩
          refine ⟨w, hst 1 _ rfl, .ref a, hst 0 _ rfl, a, ca, rfl, T, hn f List.mem_cons_self, .inl ⟨ha, fun d hd ne => ?_⟩⟩
          have e2 : (upd (upd H d (exd d [(L.atn f, w)])) a (exo a ca (some d))) d = some (exd d [(L.atn f, w)]) := by rw [upd_ne ne, upd_same]
          have hd' : ∀ g ∈ fs, L.atn g ≠ L.atn f := fun g hg z => nd2.1 (by rw [← L.atI _ _ z]; exact hg)
          refine ini_rest rfl hz hzv (hst 0 _ rfl) T h5 (fun g hg => hn g (List.mem_cons_of_mem _ hg)) nd2.2 (by simpa using hl) (fun j v e => ?_) upd_same e2 ne (by simp at few ⊢; omega) fun H2 acc2 q1 q2 q3 q4 q5 => ?_
          · have := hst (j + 2) v (by simpa using e)
            rw [show 1 + 1 + j = j + 2 by omega]
            exact this
          · refine hk d H2 acc2 hd ne q1 q2 (fun b b1 b2 => by rw [q3 b b1 b2, upd_ne b1, upd_ne b2]) fun q hq => ?_
            have hq : q ∈ (L.atn f, w) :: zipF L fs ws := hq
            rcases List.mem_cons.mp hq with rfl | hq
            · rw [q5 _ hd']
              simp
            · exact q4 q hq
/-- the __init__ of an exception -/
theorem ini_ok {P : Program} {w : World} {K : PySem.W.Frag} {mg : PySem.Str → Option Vl} {base : Heap} {x qual S : PySem.Str} {st : Stmt} {fI ca CS : Addr} {fd : FuncData} {N : Nm} {C : Xcl} (Fu : FunD K x qual (defArgs st) (defBody st) (defScope st) [] [] fI fd) (hs : fsC N N (defScope st) = true)
    (hm : mIni L N (defScope st) S C.fs (defBody st) = true) (hN : N.length = C.fs.length + 1) (T : OexC K ca) (par : ParC K mg S CS) (hn : ∀ f ∈ C.fs, PySem.W.findIn K (.ref ca) (L.atn f) = some none) (nd : C.fs.Nodup) (few : C.fs.length ≤ 100) (pos : C.fs ≠ []) :
    FnOk P w K mg base (L2.CX P w) 1 fI fd N (spX L C ca) := by
  have Sc := fsc_of hs
  refine Fu.ok (k := 0) Sc (fun vs H Q E h => ?_) fun cdv A outer s H vs Q E hr hsp => ?_
  · obtain ⟨a, ws, rfl, hl, _⟩ := h
    rw [List.length_cons, hl, hN]
  · obtain ⟨a, ws, rfl, hl, ha, hk⟩ := hsp
    refine ⟨_, EvSs.pss, ?_⟩
    exact ini_body (X := cxOf (L2.CX P w) P w K mg base N qual (defScope st) fI cdv A outer s H E) hm T par hn nd few pos hl ha hk
end
end Dy
end
section
set_option Elab.async false
set_option linter.all false
set_option maxRecDepth 100000
set_option maxHeartbeats 4000000
/-! DyLink: from what the head tells to Link; the law's end. -/
namespace Dy
open PySem PySem.Spec PyProof.Rows L2
/-- a def: where it stands, its names, its text, its slots' names, its parameters, its core text -/
structure FR where
  pl : PySem.Str × Option PySem.Str
  qual : PySem.Str
  st : Stmt
  N : Nm
  ps : Nm
  F : FnC
def FR.nm (r : FR) : PySem.Str := match r.pl.2 with
  | none => r.pl.1
  | some m => m
def FR.dd (r : FR) : He.DefD := ⟨r.pl, r.nm, r.qual, defArgs r.st, defBody r.st, defScope r.st, [], []⟩
/-- an exception's class: its parent, the fields, the place of its __init__ -/
structure XR where
  c : Nat
  ini : FR
  par : PySem.Str
  fs : List Nat
/-- an own class: its __init__ among the defs, its fields -/
structure CR where
  c : Nat
  init : Nat
  fs : List Nat
  frozen : Bool
structure Tabs where
  fn : List FR
  cn : Nm
  gn : Nm
  gv : List D
  at_ : Nm
  xs : List XR
  cs : List CR
  sup : Nat → Nat → Bool
  kb : List (Nat × Nat × Nm × List Nat)
  inj : ∀ i j, atOf at_ i = atOf at_ j → i = j
  xcl : Nat → Option Xcl
  cls : Nat → Option Cls
section
variable (T : Tabs)
def Tabs.G : Env := ⟨fun g => T.gv[g]?, T.cls, T.xcl, T.sup⟩
def Tabs.kbB (f n : Nat) (ks : List PySem.Str) (pm : List Nat) : Bool := T.kb.any fun q => (q.1 == f && q.2.1 == n) && (decide (q.2.2.1 = ks) && decide (q.2.2.2 = pm))
def Tabs.glo (f : Nat) : Bool := match T.fn[f]? with
  | some r => r.pl.2.isNone
  | none => false
def Tabs.L (K : PySem.W.Frag) : Lk where
  G := T.G
  fns := fun f => (T.fn[f]?).map (·.F)
  fnm := fun f => match T.fn[f]? with
    | some r => r.nm
    | none => Str.ofString ""
  cnm := fun c => T.cn.getD c (Str.ofString "")
  gnm := fun g => T.gn.getD g (Str.ofString "")
  kb := T.kbB
  glo := T.glo
  nc := T.cn.length
  fok := fun f => decide (f < T.at_.length)
  cad := fun c => He.ga K (T.cn.getD c (Str.ofString ""))
  fad := fun f => match T.fn[f]? with
    | some r => He.fAd K r.pl
    | none => 0
  atn := atOf T.at_
  atI := T.inj
/-! ### what the head is asked -/
def Tabs.fa : List He.Fa := (T.fn.filterMap fun r => if r.pl.2.isNone then some (.glo r.pl.1) else none) ++ (bltNames.map .free) ++
  (T.cn.map .glo) ++ (T.cn.map .keep) ++
  ((T.gn.zip T.gv).filterMap fun p => match p.2 with
    | .int i => some (.int p.1 i)
    | .str s => some (.str p.1 (sx s))
    | _ => none)
def oexB (K : PySem.W.Frag) (C : Addr) : Bool := match K.lookup C with
  | some ⟨.type t, _, .cls cd, sl⟩ => decide (t = "type") && (match cd.mro, sl.toList with
    | .ref C' :: bm, [_, _, _, _, some (.builtin n), _] => (C' == C && decide (n = "ValueError.__new__")) && ((!cd.hasDel && cd.hasDict) && PySem.HandSPX.refsVE bm)
    | _, _ => false)
  | _ => false
end
theorem oexB_ok {K : PySem.W.Frag} {C : Addr} (h : oexB K C = true) : ∃ nm q N bs bm sn sub ab col dd k0 k1 k2 k3 k5, K.lookup C = some (excClassObj nm q C N bs bm true sn sub ab col dd k0 k1 k2 k3 k5 "ValueError.__new__") ∧ PySem.HandSPX.refsVE bm = true := by
  unfold oexB at h
  split at h
  · rename_i t dd cd sl ho
    rw [Bool.and_eq_true, decide_eq_true_eq] at h
    obtain ⟨rfl, h⟩ := h
    split at h
    · rename_i C' bm k0 k1 k2 k3 n k5 hm hs
      simp only [Bool.and_eq_true, beq_iff_eq, Bool.not_eq_true', decide_eq_true_eq] at h
      obtain ⟨⟨rfl, rfl⟩, ⟨hdel, hdct⟩, hv⟩ := h
      obtain ⟨nm, bs, mro, ns, qn, hd, sn, sub, ab, col, del⟩ := cd
      dsimp only at hm hdel hdct
      subst hm hdel hdct
      have hsl : sl = #[k0, k1, k2, k3, some (.builtin "ValueError.__new__"), k5] := by
        obtain ⟨l⟩ := sl
        simp only at hs
        rw [hs]
      subst hsl
      exact ⟨nm, qn, ns, bs, bm, sn, sub, ab, col, dd, k0, k1, k2, k3, k5, ho, hv⟩
    · cases h
  · cases h
section
variable (T : Tabs) (K : PySem.W.Frag)
def clsB (r : CR) : Bool := let C := He.ga K (T.cn.getD r.c (Str.ofString "")); let fI := (T.L K).fad r.init
  (PySem.W.plainGet K C Str.empty && (PySem.W.hasDictIn K C && (PySem.W.plainOver K C && He.eqO (PySem.W.findIn K (.ref C) "__setattr__") (some (some (.builtin "object.__setattr__")))))) &&
  (((List.range T.at_.length).all fun f => He.eqO (PySem.W.findIn K (.ref C) (atOf T.at_ f)) (some none)) &&
  ((He.eqO (PySem.W.findIn K (.ref C) "__class__") (some (some (.builtin "object.__class__"))) && (He.eqO (PySem.W.specialIn K (.builtin "object.__class__") "__get__") (some (some (.builtin "getset_descriptor.__get__"))) &&
    (decide (PySem.W.takesIn K (.builtin "object.__class__") = some true) && decide (PySem.W.mroIn K C (.type "object") = some true)))) &&
  (PySem.W.makesIn K C && (He.eqO (PySem.W.findIn K (.ref C) "__init__") (some (some (.ref fI))) && (PySem.W.isFn K (.ref fI) && PySem.W.keepIn K (.ref C))))))
def xclB (r : XR) : Bool := let C := He.ga K (T.cn.getD r.c (Str.ofString "")); let fI := He.fAd K r.ini.pl; let CS := He.ga K r.par
  (oexB K C && (He.eqO (PySem.W.findIn K (.ref C) "__setattr__") (some (some (.builtin "object.__setattr__"))) && (decide (PySem.W.subIn K (.ref C) (.type "BaseException") = some true) && (decide (PySem.W.typeIn K (.ref C) = some (.type "type")) && PySem.W.keepIn K (.ref C))))) &&
  ((He.eqO (PySem.W.findIn K (.ref C) "__init__") (some (some (.ref fI))) && decide (PySem.W.typeIn K (.ref fI) = some (.type "function"))) &&
  ((xfB K C && (r.fs.all fun f => He.eqO (PySem.W.findIn K (.ref C) (atOf T.at_ f)) (some none))) &&
  (((List.range T.cn.length).all fun d => (T.cls d).isSome || decide (PySem.W.exmOne K (.ref C) (.ref (He.ga K (T.cn.getD d (Str.ofString "")))) = some (T.sup r.c d))) &&
  (He.eqO (PySem.W.nsIn K mainGlobals r.par) (some (some (.ref CS))) && (PySem.W.readsIn K CS (.type "type") && (He.eqO (PySem.W.specialIn K (.ref CS) "__getattribute__") (some (some (.builtin "type.__getattribute__"))) &&
    (match PySem.W.findCls K (.ref CS) (.type "type") "__init__" with
      | some (.val (.builtin b)) => decide (b = "ValueError.__init__")
      | _ => false)))))))
def vts : List VT := [.non, .bl, .int, .str, .lst, .tup, .dct] ++ T.cs.map fun r => .own r.c
def tys : List Ty := [.int, .bool, .str, .list, .tuple, .dict] ++ (List.range T.cn.length).map .cls
def kitB' : Bool := (vts T).all fun t => (tys T).all fun u => decide (PySem.W.kitOne K (t.v (T.L K)) (u.v (T.L K)) = some (t.is T.sup u))
def exB : Bool := (T.cs.all fun r => clsB T K r) && ((T.xs.all fun r => xclB T K r) && kitB' T K)
end
/-- how a def's arguments bind -/
def BndR (r : FR) : Prop := ∀ (kV doc pm : Vl) (an : Option Addr) (cdv ct : Vl) (us : List Vl), us.length = r.ps.length → bindArgs (PySem.W.fnOf r.nm r.qual (defArgs r.st) (defBody r.st) (defScope r.st) .none kV doc pm an cdv ct) ⟨us, []⟩ = pure (r.ps.zip us)
def KwR (r : FR) (k : Nat) (ks : List PySem.Str) (pm : List Nat) : Prop := ∀ (kV doc pm' : Vl) (an : Option Addr) (cdv ct : Vl) (us ws : List Vl), us.length = k → ws.length = ks.length →
  bindArgs (PySem.W.fnOf r.nm r.qual (defArgs r.st) (defBody r.st) (defScope r.st) .none kV doc pm' an cdv ct) ⟨us, ks.zip ws⟩ = pure (r.ps.zip (pm.map fun i => (us ++ ws).getD i .none))
/-- what is proved of the text alone -/
structure TabsOk (T : Tabs) : Prop where
  fn : ∀ r ∈ T.fn, BndR r ∧ (∀ K, (fsC r.N r.ps (defScope r.st) && mSs (T.L K) r.N (defScope r.st) r.F.body (defBody r.st)) = true) ∧ r.F.np = r.ps.length ∧ r.F.nl = r.N.length
  kb : ∀ q ∈ T.kb, ∀ r, T.fn[q.1]? = some r → KwR r q.2.1 q.2.2.1 q.2.2.2 ∧ q.2.2.2.length = r.F.np ∧ ∀ i ∈ q.2.2.2, i < q.2.1 + q.2.2.1.length
  xs : ∀ r ∈ T.xs, BndR r.ini ∧ (∀ K, (fsC r.ini.N r.ini.N (defScope r.ini.st) && mIni (T.L K) r.ini.N (defScope r.ini.st) r.par r.fs (defBody r.ini.st)) = true) ∧ r.ini.N.length = r.fs.length + 1 ∧ r.ini.ps = r.ini.N ∧ r.fs.Nodup ∧ r.fs.length ≤ 100 ∧ r.fs ≠ [] ∧ r.c < T.cn.length
  xcl : ∀ c C, T.xcl c = some C → ∃ r ∈ T.xs, r.c = c ∧ r.fs = C.fs
  cls : ∀ c C, T.cls c = some C → ∃ r ∈ T.cs, r.c = c ∧ r.init = C.init
  ini : ∀ r ∈ T.cs, r.init < T.fn.length
  gv : T.gv.length = T.gn.length ∧ ∀ d ∈ T.gv, (∃ i, d = .int i) ∨ ∃ s, d = .str s
theorem tab_xcl {T : Tabs} {xll : List (Nat × Xcl)} (h : ∀ p ∈ xll, ∃ r ∈ T.xs, r.c = p.1 ∧ r.fs = p.2.fs) (c : Nat) (C : Xcl) (e : (xll.find? (·.1 == c)).map (·.2) = some C) : ∃ r ∈ T.xs, r.c = c ∧ r.fs = C.fs := by
  obtain ⟨p, hp, rfl⟩ := Option.map_eq_some_iff.mp e
  obtain ⟨r, hr, h1, h2⟩ := h p (List.mem_of_find?_eq_some hp)
  exact ⟨r, hr, h1.trans (beq_iff_eq.mp (show (p.1 == c) = true from List.find?_some (p := fun x : Nat × _ => x.1 == c) hp)), h2⟩
theorem tab_cls {T : Tabs} {cll : List (Nat × Cls)} (h : ∀ p ∈ cll, ∃ r ∈ T.cs, r.c = p.1 ∧ r.init = p.2.init) (c : Nat) (C : Cls) (e : (cll.find? (·.1 == c)).map (·.2) = some C) : ∃ r ∈ T.cs, r.c = c ∧ r.init = C.init := by
  obtain ⟨p, hp, rfl⟩ := Option.map_eq_some_iff.mp e
  obtain ⟨r, hr, h1, h2⟩ := h p (List.mem_of_find?_eq_some hp)
  exact ⟨r, hr, h1.trans (beq_iff_eq.mp (show (p.1 == c) = true from List.find?_some (p := fun x : Nat × _ => x.1 == c) hp)), h2⟩
theorem link_of {T : Tabs} (ok : TabsOk T) {P : Program} {w : World} {K : PySem.W.Frag} {mg : PySem.Str → Option Vl} {base h : Heap} (X : K.In h) (G : h.Ns mainGlobals mg) (c : He.SaysD T.fa ((T.fn ++ T.xs.map (·.ini)).map FR.dd) K) (e : exB T K = true) : Link (T.L K) P w K mg base := by
  unfold exB at e
  rw [Bool.and_eq_true, Bool.and_eq_true, List.all_eq_true, List.all_eq_true] at e
  obtain ⟨ec, ex, ek⟩ := e
  have fnd : ∀ r ∈ T.fn ++ T.xs.map (·.ini), ∃ fd, FunD K r.nm r.qual (defArgs r.st) (defBody r.st) (defScope r.st) [] [] (He.fAd K r.pl) fd := fun r hr => c.defs (d := r.dd) (List.mem_map.mpr ⟨r, hr, rfl⟩)
  refine ⟨fun f F hf => ?_, fun k C hC => ?_, fun x hx => ?_, fun g d hg => ?_, fun k hk => ?_, fun k C hC => ?_, fun k C hC => ?_, fun t u ht hu => ?_⟩
  · obtain ⟨r, hr, rfl⟩ := Option.map_eq_some_iff.mp (show (T.fn[f]?).map (·.F) = some F from hf)
    have hm := List.mem_of_getElem? hr
    obtain ⟨fd, Fu⟩ := fnd r (List.mem_append_left _ hm)
    obtain ⟨b1, b2, b3, b4⟩ := ok.fn r hm
    have b2 := b2 K
    rw [Bool.and_eq_true] at b2
    have ef : (T.L K).fad f = He.fAd K r.pl := by show (match T.fn[f]? with | some r => He.fAd K r.pl | none => 0) = _; rw [hr]
    have en : (T.L K).fnm f = r.nm := by show (match T.fn[f]? with | some r => r.nm | none => Str.ofString "") = _; rw [hr]
    rw [← ef] at Fu
    refine ⟨r.nm, r.qual, r.st, r.N, r.ps, fd, Fu, b2.1, b2.2, b3, b4, fun hg => ?_, FunD.bindsN Fu b1, fun k ks pm hkb => ?_⟩
    · have hg : (match T.fn[f]? with | some r => r.pl.2.isNone | none => false) = true := hg
      rw [hr] at hg
      have hg : r.pl.2.isNone = true := hg
      have hp : r.pl.2 = none := Option.isNone_iff_eq_none.mp hg
      have hfa : He.Fa.glo r.pl.1 ∈ T.fa := by
        unfold Tabs.fa
        refine List.mem_append_left _ (List.mem_append_left _ (List.mem_append_left _ (List.mem_append_left _ (List.mem_filterMap.mpr ⟨r, hm, ?_⟩))))
        rw [if_pos hg]
      have q := He.glo_ok X G (c.facts hfa)
      rw [en, ef]
      unfold FR.nm He.fAd
      rw [hp]
      exact q
    · have hkb : (T.kb.any fun q => (q.1 == f && q.2.1 == k) && (decide (q.2.2.1 = ks) && decide (q.2.2.2 = pm))) = true := hkb
      obtain ⟨q, hq, hqe⟩ := List.any_eq_true.mp hkb
      simp only [Bool.and_eq_true, beq_iff_eq, decide_eq_true_eq] at hqe
      obtain ⟨⟨q1, q2⟩, q3, q4⟩ := hqe
      obtain ⟨k1, k2, k3⟩ := ok.kb q hq r (by rw [q1]; exact hr)
      subst q2 q3 q4
      refine ⟨k2, k3, fun s us ws _ hu hw => ?_⟩
      obtain ⟨oc, od, dV, kV, doc, pm, an, cdv, ct, osl, rfl, lk, hcd, hD, hK⟩ := Fu.ex
      rcases hD with ⟨_, rfl⟩ | ⟨e, _⟩
      · exact .of_eq (k1 kV doc pm an cdv ct us ws hu hw)
      · exact absurd rfl e
  · obtain ⟨r, hr, rfl, hi⟩ := ok.cls k C hC
    have q := ec r hr
    unfold clsB at q
    simp only [Bool.and_eq_true] at q
    obtain ⟨_, _, _, m1, m2, m3, m4⟩ := q
    rw [← hi]
    refine ⟨⟨m1, He.eqO_ok m2, m3, m4⟩, ?_⟩
    show ((T.fn[r.init]?).map (·.F)).isSome = true
    rw [List.getElem?_eq_getElem (ok.ini r hr)]
    rfl
  · exact He.free_ok X G (c.facts (by
      unfold Tabs.fa
      exact List.mem_append_left _ (List.mem_append_left _ (List.mem_append_left _ (List.mem_append_right _ (List.mem_map.mpr ⟨x, hx, rfl⟩))))))
  · have hg : T.gv[g]? = some d := hg
    obtain ⟨hl, _⟩ := List.getElem?_eq_some_iff.mp hg
    have hn : T.gn[g]? = some (T.gn.getD g (Str.ofString "")) := by
      have : g < T.gn.length := by rw [← ok.gv.1]; exact hl
      rw [List.getElem?_eq_getElem this, List.getD_eq_getElem?_getD, List.getElem?_eq_getElem this]
      rfl
    have hz : (T.gn.getD g (Str.ofString ""), d) ∈ T.gn.zip T.gv := List.mem_of_getElem? (i := g) (by rw [List.getElem?_zip_eq_some]; exact ⟨hn, hg⟩)
    rcases ok.gv.2 d (List.mem_of_getElem? hg) with ⟨i, rfl⟩ | ⟨s, rfl⟩
    · obtain ⟨t, q⟩ := He.int_ok X G (c.facts (f := .int (T.gn.getD g (Str.ofString "")) i) (by
        unfold Tabs.fa
        exact List.mem_append_right _ (List.mem_filterMap.mpr ⟨_, hz, rfl⟩)))
      exact ⟨.int i, _, q, ⟨t, rfl⟩, fun ρ m H => rep_int.mpr rfl⟩
    · obtain ⟨t, q⟩ := He.str_ok X G (c.facts (f := .str (T.gn.getD g (Str.ofString "")) (sx s)) (by
        unfold Tabs.fa
        exact List.mem_append_right _ (List.mem_filterMap.mpr ⟨_, hz, rfl⟩)))
      exact ⟨.str (sx s), _, q, ⟨t, rfl⟩, fun ρ m H => rep_str.mpr rfl⟩
  · have hk : k < T.cn.length := hk
    have hm : T.cn.getD k (Str.ofString "") ∈ T.cn := by
      rw [List.getD_eq_getElem?_getD, List.getElem?_eq_getElem hk]
      exact List.getElem_mem hk
    refine ⟨He.glo_ok X G (c.facts (f := .glo _) ?_), He.keep_ok (c.facts (f := .keep _) ?_)⟩
    · unfold Tabs.fa
      exact List.mem_append_left _ (List.mem_append_left _ (List.mem_append_right _ (List.mem_map.mpr ⟨_, hm, rfl⟩)))
    · unfold Tabs.fa
      exact List.mem_append_left _ (List.mem_append_right _ (List.mem_map.mpr ⟨_, hm, rfl⟩))
  · obtain ⟨r, hr, rfl, hi⟩ := ok.cls k C hC
    have q := ec r hr
    unfold clsB at q
    simp only [Bool.and_eq_true, List.all_eq_true, decide_eq_true_eq] at q
    obtain ⟨⟨p1, p2, p3, p4⟩, na, ⟨h1, h2, h3, h4⟩, _⟩ := q
    refine ⟨⟨p1, p2, p3, He.eqO_ok p4⟩, fun f hf => He.eqO_ok (na f ?_), He.eqO_ok h1, He.eqO_ok h2, h3, h4⟩
    exact List.mem_range.mpr (of_decide_eq_true hf)
  · obtain ⟨r, hr, rfl, hfs⟩ := ok.xcl k C hC
    have q := ex r hr
    obtain ⟨b1, b2, b3, b4, b5, b6, b7, b8⟩ := ok.xs r hr
    unfold xclB at q
    simp only [Bool.and_eq_true, List.all_eq_true, decide_eq_true_eq] at q
    obtain ⟨⟨o1, o2, o3, o4, o5⟩, ⟨i1, i2⟩, ⟨x1, x2⟩, m1, n1, n2, n3, n4⟩ := q
    have b2 := b2 K
    rw [Bool.and_eq_true] at b2
    obtain ⟨fd, Fu⟩ := fnd r.ini (List.mem_append_right _ (List.mem_map.mpr ⟨r, hr, rfl⟩))
    have ox : OexC K ((T.L K).cad r.c) := ⟨oexB_ok o1, He.eqO_ok o2, o3, o4, o5⟩
    have par : ParC K mg r.par (He.ga K r.par) := by
      refine ⟨PySem.W.mg_of X G (He.eqO_ok n1), n2, He.eqO_ok n3, ?_⟩
      split at n4
      · rename_i b hb
        rw [hb, of_decide_eq_true n4]
      · cases n4
    cases C with
    | mk fs =>
      simp only at hfs
      subst hfs
      have noat : ∀ f ∈ r.fs, PySem.W.findIn K (.ref ((T.L K).cad r.c)) ((T.L K).atn f) = some none := fun f hf => He.eqO_ok (x2 f hf)
      refine ⟨ox, ⟨He.fAd K r.ini.pl, fd, r.ini.N, He.eqO_ok i1, i2, ini_ok (C := ⟨r.fs⟩) Fu b2.1 b2.2 b3 ox par noat b5 b6 b7, ?_⟩, xfB_ok x1, noat, b8, b6, b7, fun d hd hn => by
        have q := m1 d (List.mem_range.mpr hd)
        rw [Bool.or_eq_true, decide_eq_true_eq] at q
        rcases q with q | q
        · have hn : (T.cls d).isNone = true := hn
          rw [Option.isNone_iff_eq_none] at hn
          rw [hn] at q
          cases q
        · exact q⟩
      rw [← b4]
      exact FunD.bindsN Fu b1
  · unfold kitB' at ek
    rw [List.all_eq_true] at ek
    have h1 := ek t (by
      cases t with
      | own k =>
        obtain ⟨C, hC⟩ := ht k rfl
        obtain ⟨r, hr, rfl, _⟩ := ok.cls k C hC
        exact List.mem_append_right _ (List.mem_map.mpr ⟨r, hr, rfl⟩)
      | _ => simp [vts])
    rw [List.all_eq_true] at h1
    exact of_decide_eq_true (h1 u (by
      cases u with
      | cls k => exact List.mem_append_right _ (List.mem_map.mpr ⟨k, List.mem_range.mpr (hu k rfl), rfl⟩)
      | _ => simp [tys]))
end Dy
end
section
set_option Elab.async false
set_option linter.all false
set_option maxRecDepth 100000
set_option maxHeartbeats 4000000
/-! DyEnd: a law's end over the interpreter. -/
namespace Dy
open PySem PySem.Spec PyProof.Rows L2
/-- a def that lets nothing out -/
theorem noexc {P : Program} {w : World} {K : PySem.W.Frag} {mg : PySem.Str → Option Vl} {base : Heap} {k : Nat} {f : Addr} {fd : FuncData} {ps : Nm} {sp : Sp} (F : FnOk P w K mg base (L2.CX P w) k f fd ps sp) :
    FnOk P w K mg base CX0 k f fd ps (fun vs H Q _ => sp vs H Q fun _ _ _ => False) :=
  ⟨fun vs H Q E h => F.len _ _ _ _ h, fun A outer s H args us vs Q E hr e0 b r h => codeAny_mono (F.run A outer s H args us vs Q (fun _ _ _ => False) hr e0 b r h) fun r' s' hq => by
    cases r' with
    | ok fl =>
      cases fl with
      | ret u => exact hq
      | next => exact hq
      | brk => exact hq
      | cont => exact hq
    | error e =>
      obtain ⟨_, _, _, _, _, _, _, _, _, _, _, _, z⟩ := hq
      exact z.elim⟩
theorem sr_nil {K : PySem.W.Frag} {L : Lk} {H : Hp} : SR K L ⟨[], []⟩ [] H :=
  ⟨rfl, fun k c a h1 _ => by simp at h1, fun i j a c c' h1 => by simp at h1, fun a h => by simp at h, fun k c a h1 => by simp at h1⟩
theorem ro_of {K : PySem.W.Frag} {H : Hp} {a : Addr} {vs : List V} (ho : Only H) (h : SqL K H a vs) : RoL K H a vs := by
  rcases h with (h | ⟨o, h⟩) | ⟨o, its, n, h1, h2, h3, h4, h5, h6⟩
  · rcases ho a with z | ⟨o, xs, z⟩
    · rw [z] at h; cases h
    · rw [z] at h; cases h
  · exact .inl ⟨o, h⟩
  · exact .inr ⟨o, its, n, h1, h2, h3, h4, h5, h6⟩
theorem law_sp {T : Tabs} {K : PySem.W.Frag} {n f : Nat} {H : Hp} {a : Addr} {ns : List Int} {m : Store} (hf : ∃ F, (T.L K).fns f = some F ∧ F.np = 1) (ho : Only H) (hs : SqL K H a (ns.map V.int)) (hr : run (T.L K).G (T.L K).fns n f [.ro (ns.map .int)] [] = .ok (.bl true) m) :
    spF K (T.L K) n f [.ref a] H (fun v _ => v = .bl true) fun _ _ _ => False := by
  obtain ⟨F, hF, hp⟩ := hf
  refine ⟨⟨[], []⟩, [], [.ro (ns.map .int)], F, hF, by rw [hp] <;> rfl, sr_nil, .one (rep_ro.mpr ⟨a, _, rfl, ro_of ho hs, Reps.ofInts ns⟩), ?_⟩
  rw [hr]
  exact fun ρ' H' v _ _ r => rep_bl.mp r
/-- the law's def, by what the head tells -/
theorem law_at {T : Tabs} (ok : TabsOk T) {P : Program} {w : World} {K : PySem.W.Frag} {mg : PySem.Str → Option Vl} {h : Heap} {n f : Nat} {r : FR} {x : PySem.Str} {fa : Addr} (X : K.In h) (G : h.Ns mainGlobals mg) (c : He.SaysD T.fa ((T.fn ++ T.xs.map (·.ini)).map FR.dd) K) (e : exB T K = true)
    (hr : T.fn[f]? = some r) (hp : r.pl.2 = none) (hx : r.ps = [x]) (hfa : mg r.pl.1 = some (.ref fa)) : ∃ fd : FuncData, (∀ (s : Shared) (u : Vl), BindsTo s fd ⟨[u], []⟩ [(x, u)]) ∧
      ∀ base : Heap, K.In base → base.Ns mainGlobals mg → FnOk P w K mg base CX0 (2 * (n + 1) + 2) fa fd [x] (fun vs H Q _ => spF K (T.L K) (n + 1) f vs H Q fun _ _ _ => False) := by
  have hm := List.mem_of_getElem? hr
  obtain ⟨fd, Fu⟩ := c.defs (d := r.dd) (List.mem_map.mpr ⟨r, List.mem_append_left _ hm, rfl⟩)
  obtain ⟨b1, b2, b3, b4⟩ := ok.fn r hm
  have b2 := b2 K
  rw [Bool.and_eq_true] at b2
  have ef : (T.L K).fad f = He.fAd K r.pl := by show (match T.fn[f]? with | some r => He.fAd K r.pl | none => 0) = _; rw [hr]
  have ga : He.fAd K r.pl = fa := by
    have hfa2 : He.Fa.glo r.pl.1 ∈ T.fa := by
      unfold Tabs.fa
      refine List.mem_append_left _ (List.mem_append_left _ (List.mem_append_left _ (List.mem_append_left _ (List.mem_filterMap.mpr ⟨r, hm, ?_⟩))))
      rw [hp]
      rfl
    have q := He.glo_ok X G (c.facts hfa2)
    rw [hfa] at q
    unfold He.fAd
    rw [hp]
    cases q
    rfl
  have Fu2 : FunD K r.nm r.qual (defArgs r.st) (defBody r.st) (defScope r.st) [] [] ((T.L K).fad f) fd := by rw [ef]; exact Fu
  refine ⟨fd, fun s u => ?_, fun base Kb Gb => ?_⟩
  · have q := FunD.bindsA Fu b1 s [u] (by rw [hx] <;> rfl)
    rw [hx] at q
    exact q
  · have lk : Link (T.L K) P w K mg base := link_of ok X G c e
    have q := noexc (fn_ok (n := n) (F := r.F) Fu2 b2.1 b2.2 (by show (T.fn[f]?).map (·.F) = some r.F; rw [hr] <;> rfl) b3 b4 (facts_all lk n))
    rw [ef, ga, hx] at q
    exact q
/-! ### the head's hook: what is reached from the main globals, and the statics -/
def frS (g : Addr → Option Obj) (n : Nat) : PySem.W.Frag := He.frT g (cStatics :: He.asD g n)
def obsS (n : Nat) (fa : List He.Fa) (fn : List He.DefD) (ex : PySem.W.Frag → Bool) (g : Addr → Option Obj) : He.AlD × Bool := (He.obsD fa fn (frS g n), ex (frS g n))
structure SaysS (fa : List He.Fa) (fn : List He.DefD) (ex : PySem.W.Frag → Bool) (K : PySem.W.Frag) : Prop where
  d : He.SaysD fa fn K
  more : ex K = true
def hookS (n : Nat) (fa : List He.Fa) (fn : List He.DefD) (ex : PySem.W.Frag → Bool) : PySem.W.Hook where
  α := He.AlD × Bool
  obs := fun s => obsS n fa fn ex s.heap.get?
  val := fun _ => (He.valD fn, true)
  says := fun _ h => ∃ K, K.In h ∧ SaysS fa fn ex K
  of := fun w s e => ⟨frS s.heap.get? n, He.frT_in, congrArg Prod.fst e, congrArg Prod.snd e⟩
  keeps := fun w h h' ⟨K, X, c⟩ hk => ⟨K, fun a o e => hk a o (X a o e), c⟩
theorem obsS_eq {n : Nat} {fa : List He.Fa} {fn : List He.DefD} {ex : PySem.W.Frag → Bool} {g : Addr → Option Obj} {s : Shared} (h : ∀ a, g a = s.heap.get? a) : obsS n fa fn ex g = (hookS n fa fn ex).obs s := by
  have : g = s.heap.get? := funext h
  rw [this]
  rfl
end Dy
end
section
set_option maxRecDepth 100000
namespace K01
open Dy
def b_is_integer : Ss := (.cons (.ret (.bop true (.cons (.isi (.var 0) false [.int]) (.cons (.notv (.isi (.var 0) false [.bool])) .nil)))) .nil)
def b_is_between : Ss := (.cons (.ret (.bop true (.cons (.call 0 (.cons (.var 0) .nil)) (.cons (.chain .le .le (.var 1) (.var 0) (.var 2)) .nil)))) .nil)
def b_is_index : Ss := (.cons (.ret (.call 1 (.cons (.var 0) (.cons (.lit (.int 0)) (.cons (.bin .sub (.var 1) (.lit (.int 1))) .nil))))) .nil)
def b_is_tuple : Ss := (.cons (.ret (.bop true (.cons (.isi (.var 0) false [.tuple]) (.cons (.cmp .eq (.bi .len (.cons (.var 0) .nil)) (.var 1)) .nil)))) .nil)
def b_is_ascending : Ss := (.cons (.ret (.bi .all (.cons (.lc false (.cmp .lt (.idx (.var 0) (.bin .sub (.var 1) (.lit (.int 1)))) (.idx (.var 0) (.var 1))) (.nm 1) (.rng2 (.lit (.int 1)) (.bi .len (.cons (.var 0) .nil))) .none [1]) .nil))) .nil)
def b_is_name : Ss := (.cons (.ret (.bop true (.cons (.isi (.var 0) false [.str]) (.cons (.chain .le .le (.lit (.int 1)) (.bi .len (.cons (.var 0) .nil)) (.glb 1)) (.cons (.bi .all (.cons (.lc false (.cmp .inn (.var 1) (.glb 0)) (.nm 1) (.e (.var 0)) .none [1]) .nil)) .nil))))) .nil)
def b_are_names : Ss := (.cons (.ite (.bop false (.cons (.notv (.e (.isi (.var 0) false [.tuple]))) (.cons (.notv (.e (.chain .le .le (.var 1) (.bi .len (.cons (.var 0) .nil)) (.var 2)))) .nil))) (.cons (.ret (.lit (.bl false))) .nil) .nil) (.cons (.ret (.bop true (.cons (.bi .all (.cons (.lc false (.call 5 (.cons (.var 3) .nil)) (.nm 3) (.e (.var 0)) .none [3]) .nil)) (.cons (.cmp .eq (.lenset (.var 0)) (.bi .len (.cons (.var 0) .nil))) .nil)))) .nil))
def b_is_known_lot : Ss := (.cons (.ret (.bop true (.cons (.isi (.var 0) false [.tuple]) (.cons (.bi .all (.cons (.lc false (.call 2 (.cons (.var 2) (.cons (.var 1) .nil))) (.nm 2) (.e (.var 0)) .none [2]) .nil)) (.cons (.call 4 (.cons (.var 0) .nil)) .nil))))) .nil)
def b_is_lot : Ss := (.cons (.ite (.notv (.e (.call 1 (.cons (.var 0) (.cons (.lit (.int 1)) (.cons (.glb 2) .nil)))))) (.cons (.raise 2 (.cons (.var 0) .nil)) .nil) .nil) (.cons (.ret (.call 7 (.cons (.var 1) (.cons (.var 0) .nil)))) .nil))
def b_unlike_in : Ss := (.cons (.ret (.bi .tuple (.cons (.lc false (.var 2) (.nm 2) (.rng1 (.bi .len (.cons (.var 0) .nil))) (.some (.e (.cmp .ne (.idx (.var 0) (.var 2)) (.idx (.var 1) (.var 2))))) [2]) .nil))) .nil)
def b_are_integers : Ss := (.cons (.ret (.bop true (.cons (.isi (.var 0) false [.tuple]) (.cons (.chain .le .le (.lit (.int 1)) (.bi .len (.cons (.var 0) .nil)) (.glb 2)) (.cons (.bi .all (.cons (.lc false (.call 0 (.cons (.var 1) .nil)) (.nm 1) (.e (.var 0)) .none [1]) .nil)) .nil))))) .nil)
def b_unlike_places : Ss := (.cons (.ite (.notv (.e (.call 10 (.cons (.var 0) .nil)))) (.cons (.raise 3 (.cons (.var 0) .nil)) .nil) .nil) (.cons (.ite (.bop false (.cons (.notv (.e (.call 10 (.cons (.var 1) .nil)))) (.cons (.e (.cmp .ne (.bi .len (.cons (.var 1) .nil)) (.bi .len (.cons (.var 0) .nil)))) .nil))) (.cons (.raise 3 (.cons (.var 1) .nil)) .nil) .nil) (.cons (.ret (.call 9 (.cons (.var 0) (.cons (.var 1) .nil)))) .nil)))
def b_need_lot : Ss := (.cons (.ite (.notv (.e (.call 7 (.cons (.var 0) (.cons (.glb 2) .nil))))) (.cons (.raise 4 (.cons (.var 0) .nil)) .nil) .nil) .nil)
def b_joined : Ss := (.cons (.ex (.call 12 (.cons (.var 0) .nil))) (.cons (.ex (.call 12 (.cons (.var 1) .nil))) (.cons (.ret (.bi .tuple (.cons (.sortset (.bin .add (.var 0) (.var 1))) .nil))) .nil)))
def b_is_within : Ss := (.cons (.ret (.bi .all (.cons (.lc false (.cmp .inn (.var 2) (.var 1)) (.nm 2) (.e (.var 0)) .none [2]) .nil))) .nil)
def b_within : Ss := (.cons (.ex (.call 12 (.cons (.var 0) .nil))) (.cons (.ex (.call 12 (.cons (.var 1) .nil))) (.cons (.ret (.call 14 (.cons (.var 0) (.cons (.var 1) .nil)))) .nil)))
def b_all_within : Ss := (.cons (.set 1 (.lst true (.cons (.tup .nil) .nil))) (.cons (.for (.nm 2) (.e (.var 0)) (.cons (.ex (.ext (.var 1) (.lc false (.tupS (.var 3) (.var 2)) (.nm 3) (.e (.var 1)) .none [3]))) .nil)) (.cons (.frz 1) (.cons (.ret (.var 1)) .nil))))
def b_lots_within : Ss := (.cons (.ex (.call 12 (.cons (.var 0) .nil))) (.cons (.ret (.new (.bi .sorted (.cons (.call 16 (.cons (.var 0) .nil)) .nil)))) .nil))
def b_is_table : Ss := (.cons (.ite (.bop false (.cons (.notv (.e (.isi (.var 0) false [.tuple]))) (.cons (.notv (.e (.chain .le .le (.lit (.int 1)) (.bi .len (.cons (.var 0) .nil)) (.var 2)))) .nil))) (.cons (.ret (.lit (.bl false))) .nil) .nil) (.cons (.ret (.bi .all (.cons (.lc false (.bop true (.cons (.call 3 (.cons (.var 3) (.cons (.var 1) .nil))) (.cons (.bi .all (.cons (.lc false (.call 2 (.cons (.var 4) (.cons (.bi .len (.cons (.var 0) .nil)) .nil))) (.nm 4) (.e (.var 3)) .none [4]) .nil)) .nil))) (.nm 3) (.e (.var 0)) .none [3]) .nil))) .nil))
def b_coming : Ss := (.cons (.par [1, 2] (.cons (.lst true (.cons (.lit (.int 0)) .nil)) (.cons (.lit (.int 0)) .nil))) (.cons (.while (.e (.cmp .lt (.var 2) (.bi .len (.cons (.var 1) .nil)))) (.cons (.for (.nm 3) (.e (.idx (.var 0) (.idx (.var 1) (.var 2)))) (.cons (.ite (.e (.cmp .nin (.var 3) (.var 1))) (.cons (.ex (.app (.var 1) (.var 3))) .nil) .nil) .nil)) (.cons (.aug 2 .add (.lit (.int 1))) .nil))) (.cons (.frz 1) (.cons (.ret (.var 1)) .nil))))
def b_going_back : Ss := (.cons (.set 1 (.lst false (.cons (.lit (.int 0)) .nil))) (.cons (.for (.nm 2) (.e (.var 0)) (.cons (.set 1 (.lc false (.var 3) (.tp [3, 4]) (.enum (.var 0)) (.some (.bop false (.cons (.e (.cmp .inn (.var 3) (.var 1))) (.cons (.e (.bi .any (.cons (.lc false (.cmp .inn (.var 5) (.var 1)) (.nm 5) (.e (.var 4)) .none [5]) .nil))) .nil)))) [3, 4])) .nil)) (.cons (.ret (.var 1)) .nil)))
def b_first_lost : Ss := (.cons (.par [2, 3] (.cons (.call 19 (.cons (.var 0) .nil)) (.cons (.call 20 (.cons (.var 0) .nil)) .nil))) (.cons (.set 1 (.lc false (.var 4) (.nm 4) (.rng1 (.bi .len (.cons (.var 0) .nil))) (.some (.bop false (.cons (.e (.cmp .nin (.var 4) (.var 2))) (.cons (.e (.cmp .nin (.var 4) (.var 3))) .nil)))) [4])) (.cons (.ret (.ife (.e (.cmp .eq (.var 1) (.lst false .nil))) (.lit .non) (.idx (.var 1) (.lit (.int 0))))) .nil)))
def b_Service___init__ : Ss := (.cons (.ite (.notv (.e (.call 6 (.cons (.var 1) (.cons (.lit (.int 1)) (.cons (.glb 3) .nil)))))) (.cons (.raise 5 (.cons (.var 1) .nil)) .nil) .nil) (.cons (.ite (.notv (.e (.call 18 (.cons (.var 2) (.cons (.bi .len (.cons (.var 1) .nil)) (.cons (.glb 4) .nil)))))) (.cons (.raise 6 (.cons (.var 2) .nil)) .nil) .nil) (.cons (.ite (.e (.isc true (.call 21 (.cons (.var 2) .nil)) .non)) (.cons (.raise 7 (.cons (.call 21 (.cons (.var 2) .nil)) .nil)) .nil) .nil) (.cons (.setfld (.var 0) 2 (.var 1)) (.cons (.setfld (.var 0) 3 (.var 2)) (.cons (.setfld (.var 0) 4 (.bi .len (.cons (.var 2) .nil))) .nil))))))
def b_Service___eq__ : Ss := (.cons (.ret (.bop true (.cons (.isi (.var 1) false [.cls 0]) (.cons (.cmp .eq (.fld (.var 0) 2) (.fld (.var 1) 2)) (.cons (.cmp .eq (.fld (.var 0) 3) (.fld (.var 1) 3)) .nil))))) .nil)
def b__law_cell : Ss := (.cons (.ret (.ife (.e (.cmp .lt (.var 1) (.bi .len (.cons (.var 0) .nil)))) (.idx (.var 0) (.var 1)) (.bin .add (.bin .mul (.lit (.int 6073)) (.var 1)) (.bin .mod (.bi .int (.cons (.bi .sum (.cons (.slc (.var 0) .none (.some (.lit (.int 1)))) .nil)) .nil)) (.lit (.int 1000033)))))) .nil)
def b__law_box : Ss := (.cons (.ret (.lst true (.cons (.bi .abs (.cons (.var 0) .nil)) (.cons (.cmp .ge (.bi .abs (.cons (.var 0) .nil)) (.bin .pow (.lit (.int 10)) (.lit (.int 18)))) (.cons (.bin .mod (.bi .int (.cons (.bi .abs (.cons (.var 0) .nil)) .nil)) (.lit (.int 2147483629))) (.cons (.lit (.int 0)) .nil)))))) .nil)
def b__law_take : Ss := (.cons (.ite (.bop true (.cons (.e (.idx (.var 0) (.lit (.int 1)))) (.cons (.e (.cmp .gt (.idx (.var 0) (.lit (.int 0))) (.lit (.int 0)))) .nil))) (.cons (.set 3 (.bin .mod (.bi .int (.cons (.idx (.var 0) (.lit (.int 0))) .nil)) (.var 1))) (.cons (.setix (.var 0) (.lit (.int 0)) (.bin .fdiv (.idx (.var 0) (.lit (.int 0))) (.var 1))) (.cons (.ret (.var 3)) .nil))) .nil) (.cons (.setix (.var 0) (.lit (.int 3)) (.bin .add (.idx (.var 0) (.lit (.int 3))) (.lit (.int 1)))) (.cons (.set 2 (.bin .mod (.bi .int (.cons (.bin .pow (.bin .add (.bin .add (.idx (.var 0) (.lit (.int 2))) (.bin .mul (.lit (.int 15486313)) (.idx (.var 0) (.lit (.int 3))))) (.lit (.int 179425177))) (.lit (.int 5))) .nil)) (.lit (.int 2147483647)))) (.cons (.ret (.bin .mod (.bi .int (.cons (.bin .fdiv (.bin .mod (.bi .int (.cons (.bin .pow (.bin .add (.bin .mul (.var 2) (.lit (.int 48271))) (.bin .mul (.lit (.int 104933)) (.idx (.var 0) (.lit (.int 3))))) (.lit (.int 3))) .nil)) (.lit (.int 2147483587))) (.lit (.int 64))) .nil)) (.var 1))) .nil))))
def b__law_pick : Ss := (.cons (.ret (.idx (.var 1) (.call 26 (.cons (.var 0) (.cons (.bi .len (.cons (.var 1) .nil)) .nil))))) .nil)
def b__law_same : Ss := (.cons (.ite (.bop false (.cons (.e (.isc false (.var 1) .non)) (.cons (.e (.isi (.var 1) false [.bool])) .nil))) (.cons (.ret (.ife (.e (.isc false (.var 1) .non)) (.isc false (.var 0) .non) (.bop true (.cons (.isi (.var 0) false [.bool]) (.cons (.cmp .eq (.isc false (.var 0) (.bl true)) (.isc false (.var 1) (.bl true))) .nil))))) .nil) .nil) (.cons (.ite (.e (.isi (.var 1) false [.int])) (.cons (.ret (.bop true (.cons (.isi (.var 0) false [.int]) (.cons (.notv (.isi (.var 0) false [.bool])) (.cons (.cmp .eq (.bin .sub (.bi .int (.cons (.var 0) .nil)) (.var 1)) (.lit (.int 0))) .nil))))) .nil) .nil) (.cons (.ite (.e (.isi (.var 1) false [.str])) (.cons (.ret (.bop true (.cons (.isi (.var 0) false [.str]) (.cons (.cmp .eq (.var 0) (.var 1)) .nil)))) .nil) .nil) (.cons (.ite (.e (.isi (.var 1) false [.dict])) (.cons (.ite (.bop false (.cons (.notv (.e (.isi (.var 0) false [.dict]))) (.cons (.e (.cmp .ne (.bi .len (.cons (.var 0) .nil)) (.bi .len (.cons (.var 1) .nil)))) .nil))) (.cons (.ret (.lit (.bl false))) .nil) .nil) (.cons (.ret (.lck 1 (.cmp .eq (.lc false (.var 3) (.nm 3) (.e (.var 1)) (.some (.bop false (.cons (.e (.cmp .nin (.var 3) (.var 0))) (.cons (.notv (.e (.call 28 (.cons (.idx (.var 0) (.var 3)) (.cons (.idx (.var 1) (.var 3)) .nil))))) .nil)))) [3]) (.lst false .nil)))) .nil)) .nil) (.cons (.ite (.bop false (.cons (.notv (.e (.isi (.var 1) true [.list, .tuple]))) (.cons (.notv (.e (.isi (.var 0) true [.list, .tuple]))) .nil))) (.cons (.ret (.lit (.bl false))) .nil) .nil) (.cons (.ite (.bop false (.cons (.e (.cmp .ne (.isi (.var 0) false [.list]) (.isi (.var 1) false [.list]))) (.cons (.e (.cmp .ne (.bi .len (.cons (.var 0) .nil)) (.bi .len (.cons (.var 1) .nil)))) .nil))) (.cons (.ret (.lit (.bl false))) .nil) .nil) (.cons (.ret (.cmp .eq (.lc false (.var 2) (.nm 2) (.rng1 (.bi .len (.cons (.var 1) .nil))) (.some (.notv (.e (.call 28 (.cons (.idx (.var 0) (.var 2)) (.cons (.idx (.var 1) (.var 2)) .nil)))))) [2]) (.lst false .nil))) .nil)))))))
def b__law_grown : Ss := (.cons (.ite (.e (.isi (.var 0) false [.list])) (.cons (.ex (.app (.var 0) (.lit (.str [109, 111, 114, 101])))) .nil) .nil) (.cons (.ite (.e (.isi (.var 0) false [.dict])) (.cons (.setix (.var 0) (.lit (.str [109, 111, 114, 101])) (.lit (.int 1))) .nil) .nil) .nil))
def b__law_lots : Ss := (.cons (.set 1 (.lst false (.cons (.tup .nil) .nil))) (.cons (.for (.nm 2) (.rng1 (.var 0)) (.cons (.set 1 (.bin .add (.var 1) (.lc false (.bin .add (.var 3) (.tup (.cons (.var 2) .nil))) (.nm 3) (.e (.var 1)) .none [3]))) .nil)) (.cons (.ret (.bi .sorted (.cons (.var 1) .nil))) .nil)))
def b__law_within : Ss := (.cons (.ret (.cmp .eq (.lc false (.var 2) (.nm 2) (.e (.var 0)) (.some (.e (.cmp .nin (.var 2) (.var 1)))) [2]) (.lst false .nil))) .nil)
def b__law_very : Ss := (.cons (.ite (.e (.isi (.var 1) false [.cls 0])) (.cons (.ret (.bop true (.cons (.isi (.var 0) false [.cls 0]) (.cons (.call 28 (.cons (.lst false (.cons (.fld (.var 0) 2) (.cons (.fld (.var 0) 3) .nil))) (.cons (.lst false (.cons (.fld (.var 1) 2) (.cons (.fld (.var 1) 3) .nil))) .nil))) .nil)))) .nil) .nil) (.cons (.ite (.notv (.e (.call 28 (.cons (.var 0) (.cons (.var 1) .nil))))) (.cons (.ret (.lit (.bl false))) .nil) .nil) (.cons (.ex (.call 29 (.cons (.var 1) .nil))) (.cons (.ret (.call 28 (.cons (.var 0) (.cons (.var 1) .nil)))) .nil))))
def b__law_lot : Ss := (.cons (.set 2 (.call 27 (.cons (.var 0) (.cons (.lst false (.cons (.lit (.int 2)) (.cons (.lit (.int 2)) (.cons (.lit (.int 3)) (.cons (.lit (.int 8)) .nil))))) .nil)))) (.cons (.ret (.bi .tuple (.cons (.lc false (.var 3) (.nm 3) (.rng1 (.var 1)) (.some (.bop false (.cons (.e (.cmp .eq (.var 2) (.lit (.int 8)))) (.cons (.e (.cmp .eq (.call 26 (.cons (.var 0) (.cons (.var 2) .nil))) (.lit (.int 0)))) .nil)))) [3]) .nil))) .nil))
def b__law_is_lot : Ss := (.cons (.ite (.notv (.e (.isi (.var 1) false [.tuple]))) (.cons (.ret (.lit (.bl false))) .nil) .nil) (.cons (.ite (.e (.cmp .ne (.lc false (.var 2) (.nm 2) (.e (.var 1)) (.some (.bop false (.cons (.notv (.e (.isi (.var 2) false [.int]))) (.cons (.e (.isi (.var 2) false [.bool])) (.cons (.e (.cmp .lt (.var 2) (.lit (.int 0)))) (.cons (.e (.cmp .ge (.var 2) (.var 0))) .nil)))))) [2]) (.lst false .nil))) (.cons (.ret (.lit (.bl false))) .nil) .nil) (.cons (.ret (.cmp .eq (.lc false (.var 3) (.nm 3) (.rng2 (.lit (.int 1)) (.bi .len (.cons (.var 1) .nil))) (.some (.e (.cmp .ge (.idx (.var 1) (.bin .sub (.var 3) (.lit (.int 1)))) (.idx (.var 1) (.var 3))))) [3]) (.lst false .nil))) .nil)))
def b__law_no_lots : Ss := (.cons (.par [3, 4] (.cons (.call 26 (.cons (.var 0) (.cons (.var 1) .nil))) (.cons (.bin .sub (.var 1) (.lit (.int 1))) .nil))) (.cons (.set 2 (.lst false (.cons (.lit .non) (.cons (.lit (.int 5)) (.cons (.lit (.bl true)) (.cons (.lit (.str [48])) (.cons (.lit (.str [])) (.cons (.lst true .nil) (.cons (.lst true (.cons (.var 3) .nil)) (.cons (.dsp .nil) (.cons (.dsp (.cons (.lit (.str [48])) (.cons (.lit (.int 0)) .nil))) (.cons (.tup (.cons (.var 1) .nil)) (.cons (.tup (.cons (.var 3) (.cons (.var 1) .nil))) (.cons (.tup (.cons (.neg (.lit (.int 1))) .nil)) (.cons (.tup (.cons (.neg (.lit (.int 1))) (.cons (.var 3) .nil))) (.cons (.tup (.cons (.var 3) (.cons (.var 3) .nil))) (.cons (.tup (.cons (.var 4) (.cons (.lit (.int 0)) (.cons (.var 4) .nil)))) .nil))))))))))))))))) (.cons (.set 2 (.bin .add (.var 2) (.lst false (.cons (.tup (.cons (.lit (.bl true)) .nil)) (.cons (.tup (.cons (.lit (.bl false)) .nil)) (.cons (.tup (.cons (.lit (.int 0)) (.cons (.lit (.bl true)) .nil))) (.cons (.tup (.cons (.lit .non) .nil)) (.cons (.tup (.cons (.lit (.str [48])) .nil)) (.cons (.tup (.cons (.tup (.cons (.var 3) .nil)) .nil)) (.cons (.tup (.cons (.lst true (.cons (.var 3) .nil)) .nil)) (.cons (.tup (.cons (.bin .pow (.lit (.int 10)) (.lit (.int 29))) .nil)) (.cons (.tup (.cons (.lit (.int 0)) (.cons (.lit .non) .nil))) (.cons (.rng true (.cons (.bin .add (.var 1) (.lit (.int 1))) .nil)) .nil))))))))))))) (.cons (.ret (.bin .add (.bin .add (.var 2) (.lst false (.cons (.make 0 (.cons (.tup (.cons (.lit (.str [97])) .nil)) (.cons (.tup (.cons (.tup (.cons (.lit (.int 0)) .nil)) .nil)) .nil))) .nil))) (.ife (.e (.cmp .gt (.var 1) (.lit (.int 1)))) (.lst false (.cons (.tup (.cons (.lit (.int 1)) (.cons (.lit (.int 0)) .nil))) (.cons (.tup (.cons (.var 4) (.cons (.bin .sub (.var 4) (.lit (.int 1))) .nil))) (.cons (.rev (.rng true (.cons (.var 1) .nil))) .nil)))) (.lst true .nil)))) .nil))))
def b__law_tuple : Ss := (.cons (.ret (.bi .tuple (.cons (.lc false (.call 27 (.cons (.var 0) (.cons (.lst false (.cons (.lit (.int 0)) (.cons (.lit (.int 1)) (.cons (.lit (.int 2)) (.cons (.bin .sub (.call 26 (.cons (.var 0) (.cons (.lit (.int 9)) .nil))) (.lit (.int 4))) (.cons (.bin .add (.bin .pow (.lit (.int 10)) (.lit (.int 29))) (.call 26 (.cons (.var 0) (.cons (.lit (.int 3)) .nil)))) (.cons (.neg (.bin .pow (.lit (.int 10)) (.lit (.int 29)))) .nil))))))) .nil))) (.nm 2) (.rng1 (.var 1)) .none [2]) .nil))) .nil)
def b__law_no_tuples : Ss := (.cons (.set 1 (.call 26 (.cons (.var 0) (.cons (.lit (.int 5)) .nil)))) (.cons (.set 2 (.lst false (.cons (.lit .non) (.cons (.lit (.int 5)) (.cons (.lit (.bl true)) (.cons (.lit (.str [49, 50])) (.cons (.tup .nil) (.cons (.lst true (.cons (.var 1) .nil)) (.cons (.lst true .nil) (.cons (.dsp .nil) (.cons (.tup (.cons (.lit (.bl true)) .nil)) (.cons (.tup (.cons (.var 1) (.cons (.lit (.bl false)) .nil))) (.cons (.tup (.cons (.lit .non) .nil)) (.cons (.tup (.cons (.lit (.str [49])) .nil)) (.cons (.tup (.cons (.var 1) (.cons (.lit (.str [49])) .nil))) (.cons (.tup (.cons (.tup (.cons (.var 1) .nil)) .nil)) (.cons (.tup (.cons (.lst true (.cons (.var 1) .nil)) .nil)) (.cons (.bin .mul (.tup (.cons (.var 1) .nil)) (.lit (.int 9))) .nil)))))))))))))))))) (.cons (.ret (.bin .add (.var 2) (.lst false (.cons (.tup (.cons (.var 1) (.cons (.lit .non) (.cons (.var 1) .nil)))) (.cons (.rng true (.cons (.lit (.int 9)) .nil)) (.cons (.dsp (.cons (.lit (.str [49])) (.cons (.lit (.int 1)) .nil))) .nil)))))) .nil)))
def b__law_call : Ss := (.cons (.ite (.e (.cmp .eq (.var 0) (.lit (.int 0)))) (.cons (.ret (.ife (.e (.var 2)) (.callk 8 .nil (.cons (.idx (.var 1) (.lit (.int 1))) (.cons (.idx (.var 1) (.lit (.int 0))) .nil)) [1, 0]) (.call 8 (.cons (.idx (.var 1) (.lit (.int 0))) (.cons (.idx (.var 1) (.lit (.int 1))) .nil))))) .nil) .nil) (.cons (.ite (.e (.cmp .eq (.var 0) (.lit (.int 1)))) (.cons (.ret (.ife (.e (.var 2)) (.callk 11 .nil (.cons (.idx (.var 1) (.lit (.int 1))) (.cons (.idx (.var 1) (.lit (.int 0))) .nil)) [1, 0]) (.call 11 (.cons (.idx (.var 1) (.lit (.int 0))) (.cons (.idx (.var 1) (.lit (.int 1))) .nil))))) .nil) .nil) (.cons (.ite (.e (.cmp .eq (.var 0) (.lit (.int 2)))) (.cons (.ret (.ife (.e (.var 2)) (.callk 13 .nil (.cons (.idx (.var 1) (.lit (.int 1))) (.cons (.idx (.var 1) (.lit (.int 0))) .nil)) [1, 0]) (.call 13 (.cons (.idx (.var 1) (.lit (.int 0))) (.cons (.idx (.var 1) (.lit (.int 1))) .nil))))) .nil) .nil) (.cons (.ite (.e (.cmp .eq (.var 0) (.lit (.int 3)))) (.cons (.ret (.ife (.e (.var 2)) (.callk 15 .nil (.cons (.idx (.var 1) (.lit (.int 1))) (.cons (.idx (.var 1) (.lit (.int 0))) .nil)) [1, 0]) (.call 15 (.cons (.idx (.var 1) (.lit (.int 0))) (.cons (.idx (.var 1) (.lit (.int 1))) .nil))))) .nil) .nil) (.cons (.ret (.ife (.e (.var 2)) (.callk 17 .nil (.cons (.idx (.var 1) (.lit (.int 0))) .nil) [0]) (.call 17 (.cons (.idx (.var 1) (.lit (.int 0))) .nil)))) .nil)))))
def b__law_asked : Ss := (.cons (.tryx (.cons (.ret (.lst false (.cons (.lit (.str [116, 111, 108, 100])) (.cons (.call 38 (.cons (.var 0) (.cons (.var 1) (.cons (.var 2) .nil)))) .nil)))) .nil) [⟨2, some 3, (some [.lit (.str [112, 108, 97, 99, 101, 115]), .fld 0])⟩, ⟨3, some 3, (some [.lit (.str [116, 117, 112, 108, 101]), .fld 0])⟩, ⟨4, some 3, (some [.lit (.str [108, 111, 116]), .fld 0])⟩]) .nil)
def b__law_refuses : Ss := (.cons (.set 5 (.call 39 (.cons (.var 0) (.cons (.var 1) (.cons (.var 4) .nil))))) (.cons (.ret (.bop true (.cons (.cmp .eq (.idx (.var 5) (.lit (.int 0))) (.var 2)) (.cons (.call 32 (.cons (.idx (.var 5) (.lit (.int 1))) (.cons (.idx (.var 1) (.var 3)) .nil))) .nil)))) .nil))
def b__law_judged_right : Ss := (.cons (.set 2 (.bin .add (.lit (.int 1)) (.call 26 (.cons (.var 0) (.cons (.lit (.int 8)) .nil))))) (.cons (.set 3 (.bin .add (.lst false (.cons (.call 33 (.cons (.var 0) (.cons (.var 2) .nil))) (.cons (.call 33 (.cons (.var 0) (.cons (.var 2) .nil))) (.cons (.tup .nil) (.cons (.rng true (.cons (.var 2) .nil)) (.cons (.tup (.cons (.bin .sub (.var 2) (.lit (.int 1))) .nil)) .nil)))))) (.call 35 (.cons (.var 0) (.cons (.var 2) .nil))))) (.cons (.for (.nm 4) (.e (.var 3)) (.cons (.for (.nm 6) (.e (.lst false (.cons (.var 2) (.cons (.bin .add (.lit (.int 1)) (.call 26 (.cons (.var 0) (.cons (.lit (.int 8)) .nil)))) .nil)))) (.cons (.ite (.notv (.e (.call 28 (.cons (.call 39 (.cons (.lit (.int 0)) (.cons (.lst false (.cons (.var 6) (.cons (.var 4) .nil))) (.cons (.var 1) .nil)))) (.cons (.lst false (.cons (.lit (.str [116, 111, 108, 100])) (.cons (.call 34 (.cons (.var 6) (.cons (.var 4) .nil))) .nil))) .nil))))) (.cons (.ret (.lit (.bl false))) .nil) .nil) (.cons (.set 1 (.notv (.var 1))) .nil))) .nil)) (.cons (.for (.nm 5) (.rng1 (.lit (.int 3))) (.cons (.set 7 (.call 27 (.cons (.var 0) (.cons (.lst false (.cons (.lit (.int 0)) (.cons (.lit (.int 9)) (.cons (.neg (.lit (.int 1))) (.cons (.lit (.bl true)) (.cons (.lit (.bl false)) (.cons (.lit .non) (.cons (.lit (.str [51])) (.cons (.tup (.cons (.lit (.int 3)) .nil)) (.cons (.lst true (.cons (.lit (.int 3)) .nil)) (.cons (.bin .pow (.lit (.int 10)) (.lit (.int 29))) (.cons (.neg (.bin .pow (.lit (.int 10)) (.lit (.int 29)))) (.cons (.dsp .nil) .nil))))))))))))) .nil)))) (.cons (.ite (.notv (.e (.call 40 (.cons (.lit (.int 0)) (.cons (.lst false (.cons (.var 7) (.cons (.call 27 (.cons (.var 0) (.cons (.lst false (.cons (.tup .nil) (.cons (.tup (.cons (.lit (.int 0)) .nil)) (.cons (.lit .non) (.cons (.lst false (.cons (.lit (.int 0)) .nil)) .nil))))) .nil))) .nil))) (.cons (.lit (.str [112, 108, 97, 99, 101, 115])) (.cons (.lit (.int 0)) (.cons (.var 1) .nil)))))))) (.cons (.ret (.lit (.bl false))) .nil) .nil) (.cons (.set 1 (.notv (.var 1))) .nil)))) (.cons (.ret (.lit (.bl true))) .nil)))))
def b__law_unlike_right : Ss := (.cons (.set 2 (.bin .add (.lit (.int 1)) (.call 26 (.cons (.var 0) (.cons (.lit (.int 8)) .nil))))) (.cons (.par [5, 3] (.cons (.call 36 (.cons (.var 0) (.cons (.var 2) .nil))) (.cons (.call 36 (.cons (.var 0) (.cons (.var 2) .nil))) .nil))) (.cons (.set 3 (.bi .tuple (.cons (.lc false (.ife (.e (.cmp .eq (.call 26 (.cons (.var 0) (.cons (.lit (.int 2)) .nil))) (.lit (.int 0)))) (.idx (.var 5) (.var 11)) (.idx (.var 3) (.var 11))) (.nm 11) (.rng1 (.var 2)) .none [11]) .nil))) (.cons (.for (.tp [6, 7]) (.e (.lst false (.cons (.tup (.cons (.var 5) (.cons (.var 3) .nil))) (.cons (.tup (.cons (.var 3) (.cons (.var 5) .nil))) (.cons (.tup (.cons (.var 5) (.cons (.var 5) .nil))) .nil))))) (.cons (.set 8 (.bi .tuple (.cons (.lc false (.var 11) (.nm 11) (.rng1 (.var 2)) (.some (.e (.cmp .ne (.idx (.var 6) (.var 11)) (.idx (.var 7) (.var 11))))) [11]) .nil))) (.cons (.ite (.notv (.e (.call 28 (.cons (.call 39 (.cons (.lit (.int 1)) (.cons (.lst false (.cons (.var 6) (.cons (.var 7) .nil))) (.cons (.var 1) .nil)))) (.cons (.lst false (.cons (.lit (.str [116, 111, 108, 100])) (.cons (.var 8) .nil))) .nil))))) (.cons (.ret (.lit (.bl false))) .nil) .nil) (.cons (.set 1 (.notv (.var 1))) .nil)))) (.cons (.for (.nm 4) (.rng1 (.lit (.int 3))) (.cons (.set 9 (.call 27 (.cons (.var 0) (.cons (.call 37 (.cons (.var 0) .nil)) .nil)))) (.cons (.ite (.notv (.e (.call 40 (.cons (.lit (.int 1)) (.cons (.lst false (.cons (.var 9) (.cons (.call 27 (.cons (.var 0) (.cons (.lst false (.cons (.var 5) (.cons (.lit .non) (.cons (.lst false (.cons (.lit (.int 0)) .nil)) (.cons (.tup .nil) .nil))))) .nil))) .nil))) (.cons (.lit (.str [116, 117, 112, 108, 101])) (.cons (.lit (.int 0)) (.cons (.var 1) .nil)))))))) (.cons (.ret (.lit (.bl false))) .nil) .nil) (.cons (.set 10 (.ife (.e (.cmp .lt (.var 2) (.lit (.int 8)))) (.lst false (.cons (.bin .add (.var 5) (.tup (.cons (.lit (.int 0)) .nil))) .nil)) (.lst false (.cons (.slc (.var 5) (.some (.lit (.int 1))) .none) .nil)))) (.cons (.set 9 (.call 27 (.cons (.var 0) (.cons (.bin .add (.bin .add (.bin .add (.call 37 (.cons (.var 0) .nil)) (.var 10)) (.var 10)) (.lst false (.cons (.slc (.var 5) .none (.some (.neg (.lit (.int 1))))) (.cons (.new (.bi .list (.cons (.var 5) .nil))) .nil)))) .nil)))) (.cons (.ite (.notv (.e (.call 40 (.cons (.lit (.int 1)) (.cons (.lst false (.cons (.var 5) (.cons (.var 9) .nil))) (.cons (.lit (.str [116, 117, 112, 108, 101])) (.cons (.lit (.int 1)) (.cons (.notv (.var 1)) .nil)))))))) (.cons (.ret (.lit (.bl false))) .nil) .nil) (.cons (.set 1 (.notv (.var 1))) .nil))))))) (.cons (.ret (.lit (.bl true))) .nil))))))
def b__law_two_right : Ss := (.cons (.par [6, 7, 8] (.cons (.call 33 (.cons (.var 0) (.cons (.lit (.int 8)) .nil))) (.cons (.call 33 (.cons (.var 0) (.cons (.lit (.int 8)) .nil))) (.cons (.lit (.int 8)) .nil)))) (.cons (.set 2 (.bi .tuple (.cons (.lc false (.var 16) (.nm 16) (.e (.var 7)) (.some (.e (.cmp .gt (.call 26 (.cons (.var 0) (.cons (.lit (.int 3)) .nil))) (.lit (.int 0))))) [16]) .nil))) (.cons (.for (.tp [9, 10]) (.e (.lst false (.cons (.tup (.cons (.var 6) (.cons (.var 7) .nil))) (.cons (.tup (.cons (.var 2) (.cons (.var 7) .nil))) (.cons (.tup (.cons (.var 7) (.cons (.var 2) .nil))) (.cons (.tup (.cons (.tup .nil) (.cons (.var 6) .nil))) (.cons (.tup (.cons (.var 6) (.cons (.tup .nil) .nil))) (.cons (.tup (.cons (.var 6) (.cons (.var 6) .nil))) .nil)))))))) (.cons (.set 4 (.bi .tuple (.cons (.lc false (.var 16) (.nm 16) (.rng1 (.lit (.int 8))) (.some (.bop false (.cons (.e (.cmp .inn (.var 16) (.var 9))) (.cons (.e (.cmp .inn (.var 16) (.var 10))) .nil)))) [16]) .nil))) (.cons (.set 11 (.lst false (.cons (.call 39 (.cons (.lit (.int 2)) (.cons (.lst false (.cons (.var 9) (.cons (.var 10) .nil))) (.cons (.var 1) .nil)))) (.cons (.call 39 (.cons (.lit (.int 3)) (.cons (.lst false (.cons (.var 9) (.cons (.var 10) .nil))) (.cons (.notv (.var 1)) .nil)))) .nil)))) (.cons (.ite (.notv (.e (.call 28 (.cons (.var 11) (.cons (.lst false (.cons (.lst false (.cons (.lit (.str [116, 111, 108, 100])) (.cons (.var 4) .nil))) (.cons (.lst false (.cons (.lit (.str [116, 111, 108, 100])) (.cons (.cmp .eq (.lc false (.var 16) (.nm 16) (.e (.var 9)) (.some (.e (.cmp .nin (.var 16) (.var 10)))) [16]) (.lst false .nil)) .nil))) .nil))) .nil))))) (.cons (.ret (.lit (.bl false))) .nil) .nil) (.cons (.set 1 (.notv (.var 1))) .nil))))) (.cons (.set 3 (.call 27 (.cons (.var 0) (.cons (.lst false (.cons (.var 6) (.cons (.var 2) (.cons (.slc (.var 6) .none (.some (.lit (.int 3)))) (.cons (.tup .nil) (.cons (.rng true (.cons (.ife (.e (.cmp .eq (.call 26 (.cons (.var 0) (.cons (.lit (.int 4)) .nil))) (.lit (.int 0)))) (.lit (.int 8)) (.lit (.int 4))) .nil)) .nil)))))) .nil)))) (.cons (.set 4 (.bi .sorted (.cons (.lc false (.var 17) (.nm 17) (.e (.call 30 (.cons (.lit (.int 8)) .nil))) (.some (.e (.call 31 (.cons (.var 17) (.cons (.var 3) .nil))))) [17]) .nil))) (.cons (.for (.nm 5) (.rng1 (.lit (.int 2))) (.cons (.set 12 (.call 39 (.cons (.lit (.int 4)) (.cons (.lst false (.cons (.var 3) .nil)) (.cons (.var 1) .nil))))) (.cons (.ite (.notv (.e (.call 28 (.cons (.var 12) (.cons (.lst false (.cons (.lit (.str [116, 111, 108, 100])) (.cons (.var 4) .nil))) .nil))))) (.cons (.ret (.lit (.bl false))) .nil) .nil) (.cons (.ex (.app (.idx (.var 12) (.lit (.int 1))) (.lit (.str [109, 111, 114, 101])))) (.cons (.set 1 (.notv (.var 1))) .nil))))) (.cons (.for (.nm 5) (.rng1 (.lit (.int 3))) (.cons (.set 13 (.lst false (.cons (.tup (.cons (.lit (.int 2)) (.cons (.lit (.int 0)) .nil))) (.cons (.tup (.cons (.lit (.int 2)) (.cons (.lit (.int 1)) .nil))) (.cons (.tup (.cons (.lit (.int 3)) (.cons (.lit (.int 0)) .nil))) (.cons (.tup (.cons (.lit (.int 3)) (.cons (.lit (.int 1)) .nil))) (.cons (.tup (.cons (.lit (.int 4)) (.cons (.lit (.int 0)) .nil))) .nil))))))) (.cons (.for (.tp [14, 15]) (.e (.var 13)) (.cons (.par [18, 19] (.cons (.call 27 (.cons (.var 0) (.cons (.call 35 (.cons (.var 0) (.cons (.var 8) .nil))) .nil))) (.cons (.lst true (.cons (.var 6) (.cons (.var 7) .nil))) .nil))) (.cons (.setix (.var 19) (.var 15) (.var 18)) (.cons (.ite (.bop true (.cons (.e (.cmp .eq (.var 15) (.lit (.int 0)))) (.cons (.e (.cmp .eq (.call 26 (.cons (.var 0) (.cons (.lit (.int 2)) .nil))) (.lit (.int 0)))) .nil))) (.cons (.setix (.var 19) (.lit (.int 1)) (.call 27 (.cons (.var 0) (.cons (.call 35 (.cons (.var 0) (.cons (.var 8) .nil))) .nil)))) .nil) .nil) (.cons (.ite (.notv (.e (.call 40 (.cons (.var 14) (.cons (.var 19) (.cons (.lit (.str [108, 111, 116])) (.cons (.var 15) (.cons (.var 1) .nil)))))))) (.cons (.ret (.lit (.bl false))) .nil) .nil) (.cons (.set 1 (.notv (.var 1))) .nil)))))) .nil))) (.cons (.ret (.lit (.bl true))) .nil))))))))
def b_law : Ss := (.cons (.for (.nm 1) (.rng1 (.bi .max (.cons (.lit (.int 2)) (.cons (.bi .min (.cons (.lit (.int 4)) (.cons (.bi .len (.cons (.var 0) .nil)) .nil))) .nil)))) (.cons (.set 2 (.call 25 (.cons (.call 24 (.cons (.var 0) (.cons (.var 1) .nil))) .nil))) (.cons (.set 3 (.cmp .eq (.call 26 (.cons (.var 2) (.cons (.lit (.int 2)) .nil))) (.lit (.int 0)))) (.cons (.ite (.bop false (.cons (.notv (.e (.call 41 (.cons (.var 2) (.cons (.var 3) .nil))))) (.cons (.notv (.e (.call 42 (.cons (.var 2) (.cons (.notv (.var 3)) .nil))))) (.cons (.notv (.e (.call 43 (.cons (.var 2) (.cons (.var 3) .nil))))) .nil)))) (.cons (.ret (.lit (.bl false))) .nil) .nil) .nil)))) (.cons (.ret (.lit (.bl true))) .nil))
def fnl : List FnC := [⟨1, 1, b_is_integer⟩, ⟨3, 3, b_is_between⟩, ⟨2, 2, b_is_index⟩, ⟨2, 2, b_is_tuple⟩, ⟨1, 2, b_is_ascending⟩, ⟨1, 2, b_is_name⟩, ⟨3, 4, b_are_names⟩, ⟨2, 3, b_is_known_lot⟩, ⟨2, 2, b_is_lot⟩, ⟨2, 3, b_unlike_in⟩, ⟨1, 2, b_are_integers⟩, ⟨2, 2, b_unlike_places⟩, ⟨1, 1, b_need_lot⟩, ⟨2, 2, b_joined⟩, ⟨2, 3, b_is_within⟩, ⟨2, 2, b_within⟩, ⟨1, 4, b_all_within⟩, ⟨1, 1, b_lots_within⟩, ⟨3, 5, b_is_table⟩, ⟨1, 4, b_coming⟩, ⟨1, 6, b_going_back⟩, ⟨1, 5, b_first_lost⟩, ⟨3, 3, b_Service___init__⟩, ⟨2, 2, b_Service___eq__⟩, ⟨2, 2, b__law_cell⟩, ⟨1, 1, b__law_box⟩, ⟨2, 4, b__law_take⟩, ⟨2, 2, b__law_pick⟩, ⟨2, 4, b__law_same⟩, ⟨1, 1, b__law_grown⟩, ⟨1, 4, b__law_lots⟩, ⟨2, 3, b__law_within⟩, ⟨2, 2, b__law_very⟩, ⟨2, 4, b__law_lot⟩, ⟨2, 4, b__law_is_lot⟩, ⟨2, 5, b__law_no_lots⟩, ⟨2, 3, b__law_tuple⟩, ⟨1, 3, b__law_no_tuples⟩, ⟨3, 3, b__law_call⟩, ⟨3, 4, b__law_asked⟩, ⟨5, 6, b__law_refuses⟩, ⟨2, 8, b__law_judged_right⟩, ⟨2, 12, b__law_unlike_right⟩, ⟨2, 20, b__law_two_right⟩, ⟨1, 4, b_law⟩]
def fns (i : Nat) : Option FnC := fnl[i]?
def gll : List (Option D) := [some (Lit.d (.str [97, 98, 99, 100, 101, 102, 103, 104, 105, 106, 107, 108, 109, 110, 111, 112, 113, 114, 115, 116, 117, 118, 119, 120, 121, 122])), some (Lit.d (.int 8)), some (Lit.d (.int 8)), some (Lit.d (.int 3)), some (Lit.d (.int 8))]
def gv : List D := [(Lit.d (.str [97, 98, 99, 100, 101, 102, 103, 104, 105, 106, 107, 108, 109, 110, 111, 112, 113, 114, 115, 116, 117, 118, 119, 120, 121, 122])), (Lit.d (.int 8)), (Lit.d (.int 8)), (Lit.d (.int 3)), (Lit.d (.int 8))]
def cll : List (Nat × Cls) := [(0, ⟨22, true⟩)]
def xll : List (Nat × Xcl) := [(2, ⟨[0]⟩), (3, ⟨[0]⟩), (4, ⟨[0]⟩), (5, ⟨[0]⟩), (6, ⟨[0]⟩), (7, ⟨[1]⟩)]
def supl : List (Nat × Nat) := [(0, 0), (1, 1), (2, 1), (2, 2), (3, 1), (3, 3), (4, 1), (4, 4), (5, 1), (5, 5), (6, 1), (6, 6), (7, 1), (7, 7)]
def sup (a b : Nat) : Bool := supl.contains (a, b)
def cls (i : Nat) : Option Cls := (cll.find? (·.1 == i)).map (·.2)
def xcl (i : Nat) : Option Xcl := (xll.find? (·.1 == i)).map (·.2)
def G : Env := ⟨fun g => gv[g]?, cls, xcl, sup⟩
abbrev f_is_integer : Nat := 0
abbrev f_is_between : Nat := 1
abbrev f_is_index : Nat := 2
abbrev f_is_tuple : Nat := 3
abbrev f_is_ascending : Nat := 4
abbrev f_is_name : Nat := 5
abbrev f_are_names : Nat := 6
abbrev f_is_known_lot : Nat := 7
abbrev f_is_lot : Nat := 8
abbrev f_unlike_in : Nat := 9
abbrev f_are_integers : Nat := 10
abbrev f_unlike_places : Nat := 11
abbrev f_need_lot : Nat := 12
abbrev f_joined : Nat := 13
abbrev f_is_within : Nat := 14
abbrev f_within : Nat := 15
abbrev f_all_within : Nat := 16
abbrev f_lots_within : Nat := 17
abbrev f_is_table : Nat := 18
abbrev f_coming : Nat := 19
abbrev f_going_back : Nat := 20
abbrev f_first_lost : Nat := 21
abbrev f_Service___init__ : Nat := 22
abbrev f_Service___eq__ : Nat := 23
abbrev f__law_cell : Nat := 24
abbrev f__law_box : Nat := 25
abbrev f__law_take : Nat := 26
abbrev f__law_pick : Nat := 27
abbrev f__law_same : Nat := 28
abbrev f__law_grown : Nat := 29
abbrev f__law_lots : Nat := 30
abbrev f__law_within : Nat := 31
abbrev f__law_very : Nat := 32
abbrev f__law_lot : Nat := 33
abbrev f__law_is_lot : Nat := 34
abbrev f__law_no_lots : Nat := 35
abbrev f__law_tuple : Nat := 36
abbrev f__law_no_tuples : Nat := 37
abbrev f__law_call : Nat := 38
abbrev f__law_asked : Nat := 39
abbrev f__law_refuses : Nat := 40
abbrev f__law_judged_right : Nat := 41
abbrev f__law_unlike_right : Nat := 42
abbrev f__law_two_right : Nat := 43
abbrev f_law : Nat := 44
end K01
end
section
set_option Elab.async false
set_option linter.all false
set_option maxRecDepth 100000
set_option maxHeartbeats 4000000
namespace K01
open Dy PySem PySem.Spec PyProof.Rows L2
def top (i : Nat) : Stmt := PySem.Challenge.pw_spareorbits_k01_lots.main.body.getD i (.Pass ⟨0, 0, 0, 0⟩)
abbrev s_is_integer : Stmt := top 8
def n_is_integer : Nm := ((["value"] : List String).map Str.ofString)
def p_is_integer : Nm := ((["value"] : List String).map Str.ofString)
def r_is_integer : FR := ⟨("is_integer", none), "is_integer", s_is_integer, n_is_integer, p_is_integer, ⟨1, 1, b_is_integer⟩⟩
theorem b_is_integer_ok : BndR r_is_integer := fun _ _ _ _ _ _ us hl => match us, hl with | [_], _ => rfl
abbrev s_is_between : Stmt := top 9
def n_is_between : Nm := ((["value", "low", "high"] : List String).map Str.ofString)
def p_is_between : Nm := ((["value", "low", "high"] : List String).map Str.ofString)
def r_is_between : FR := ⟨("is_between", none), "is_between", s_is_between, n_is_between, p_is_between, ⟨3, 3, b_is_between⟩⟩
theorem b_is_between_ok : BndR r_is_between := fun _ _ _ _ _ _ us hl => match us, hl with | [_, _, _], _ => rfl
abbrev s_is_index : Stmt := top 10
def n_is_index : Nm := ((["value", "length"] : List String).map Str.ofString)
def p_is_index : Nm := ((["value", "length"] : List String).map Str.ofString)
def r_is_index : FR := ⟨("is_index", none), "is_index", s_is_index, n_is_index, p_is_index, ⟨2, 2, b_is_index⟩⟩
theorem b_is_index_ok : BndR r_is_index := fun _ _ _ _ _ _ us hl => match us, hl with | [_, _], _ => rfl
abbrev s_is_tuple : Stmt := top 11
def n_is_tuple : Nm := ((["value", "length"] : List String).map Str.ofString)
def p_is_tuple : Nm := ((["value", "length"] : List String).map Str.ofString)
def r_is_tuple : FR := ⟨("is_tuple", none), "is_tuple", s_is_tuple, n_is_tuple, p_is_tuple, ⟨2, 2, b_is_tuple⟩⟩
theorem b_is_tuple_ok : BndR r_is_tuple := fun _ _ _ _ _ _ us hl => match us, hl with | [_, _], _ => rfl
abbrev s_is_ascending : Stmt := top 12
def n_is_ascending : Nm := ((["values", "at"] : List String).map Str.ofString)
def p_is_ascending : Nm := ((["values"] : List String).map Str.ofString)
def r_is_ascending : FR := ⟨("is_ascending", none), "is_ascending", s_is_ascending, n_is_ascending, p_is_ascending, ⟨1, 2, b_is_ascending⟩⟩
theorem b_is_ascending_ok : BndR r_is_ascending := fun _ _ _ _ _ _ us hl => match us, hl with | [_], _ => rfl
abbrev s_is_name : Stmt := top 17
def n_is_name : Nm := ((["value", "sign"] : List String).map Str.ofString)
def p_is_name : Nm := ((["value"] : List String).map Str.ofString)
def r_is_name : FR := ⟨("is_name", none), "is_name", s_is_name, n_is_name, p_is_name, ⟨1, 2, b_is_name⟩⟩
theorem b_is_name_ok : BndR r_is_name := fun _ _ _ _ _ _ us hl => match us, hl with | [_], _ => rfl
abbrev s_are_names : Stmt := top 18
def n_are_names : Nm := ((["value", "least", "most", "name"] : List String).map Str.ofString)
def p_are_names : Nm := ((["value", "least", "most"] : List String).map Str.ofString)
def r_are_names : FR := ⟨("are_names", none), "are_names", s_are_names, n_are_names, p_are_names, ⟨3, 4, b_are_names⟩⟩
theorem b_are_names_ok : BndR r_are_names := fun _ _ _ _ _ _ us hl => match us, hl with | [_, _, _], _ => rfl
abbrev s_is_known_lot : Stmt := top 19
def n_is_known_lot : Nm := ((["value", "places", "place"] : List String).map Str.ofString)
def p_is_known_lot : Nm := ((["value", "places"] : List String).map Str.ofString)
def r_is_known_lot : FR := ⟨("is_known_lot", none), "is_known_lot", s_is_known_lot, n_is_known_lot, p_is_known_lot, ⟨2, 3, b_is_known_lot⟩⟩
theorem b_is_known_lot_ok : BndR r_is_known_lot := fun _ _ _ _ _ _ us hl => match us, hl with | [_, _], _ => rfl
abbrev s_is_lot : Stmt := top 20
def n_is_lot : Nm := ((["places", "value"] : List String).map Str.ofString)
def p_is_lot : Nm := ((["places", "value"] : List String).map Str.ofString)
def r_is_lot : FR := ⟨("is_lot", none), "is_lot", s_is_lot, n_is_lot, p_is_lot, ⟨2, 2, b_is_lot⟩⟩
theorem b_is_lot_ok : BndR r_is_lot := fun _ _ _ _ _ _ us hl => match us, hl with | [_, _], _ => rfl
abbrev s_unlike_in : Stmt := top 21
def n_unlike_in : Nm := ((["one", "other", "at"] : List String).map Str.ofString)
def p_unlike_in : Nm := ((["one", "other"] : List String).map Str.ofString)
def r_unlike_in : FR := ⟨("unlike_in", none), "unlike_in", s_unlike_in, n_unlike_in, p_unlike_in, ⟨2, 3, b_unlike_in⟩⟩
theorem b_unlike_in_ok : BndR r_unlike_in := fun _ _ _ _ _ _ us hl => match us, hl with | [_, _], _ => rfl
abbrev s_are_integers : Stmt := top 22
def n_are_integers : Nm := ((["value", "item"] : List String).map Str.ofString)
def p_are_integers : Nm := ((["value"] : List String).map Str.ofString)
def r_are_integers : FR := ⟨("are_integers", none), "are_integers", s_are_integers, n_are_integers, p_are_integers, ⟨1, 2, b_are_integers⟩⟩
theorem b_are_integers_ok : BndR r_are_integers := fun _ _ _ _ _ _ us hl => match us, hl with | [_], _ => rfl
abbrev s_unlike_places : Stmt := top 23
def n_unlike_places : Nm := ((["one", "other"] : List String).map Str.ofString)
def p_unlike_places : Nm := ((["one", "other"] : List String).map Str.ofString)
def r_unlike_places : FR := ⟨("unlike_places", none), "unlike_places", s_unlike_places, n_unlike_places, p_unlike_places, ⟨2, 2, b_unlike_places⟩⟩
theorem b_unlike_places_ok : BndR r_unlike_places := fun _ _ _ _ _ _ us hl => match us, hl with | [_, _], _ => rfl
abbrev s_need_lot : Stmt := top 24
def n_need_lot : Nm := ((["lot"] : List String).map Str.ofString)
def p_need_lot : Nm := ((["lot"] : List String).map Str.ofString)
def r_need_lot : FR := ⟨("need_lot", none), "need_lot", s_need_lot, n_need_lot, p_need_lot, ⟨1, 1, b_need_lot⟩⟩
theorem b_need_lot_ok : BndR r_need_lot := fun _ _ _ _ _ _ us hl => match us, hl with | [_], _ => rfl
abbrev s_joined : Stmt := top 25
def n_joined : Nm := ((["one", "other"] : List String).map Str.ofString)
def p_joined : Nm := ((["one", "other"] : List String).map Str.ofString)
def r_joined : FR := ⟨("joined", none), "joined", s_joined, n_joined, p_joined, ⟨2, 2, b_joined⟩⟩
theorem b_joined_ok : BndR r_joined := fun _ _ _ _ _ _ us hl => match us, hl with | [_, _], _ => rfl
abbrev s_is_within : Stmt := top 26
def n_is_within : Nm := ((["one", "other", "place"] : List String).map Str.ofString)
def p_is_within : Nm := ((["one", "other"] : List String).map Str.ofString)
def r_is_within : FR := ⟨("is_within", none), "is_within", s_is_within, n_is_within, p_is_within, ⟨2, 3, b_is_within⟩⟩
theorem b_is_within_ok : BndR r_is_within := fun _ _ _ _ _ _ us hl => match us, hl with | [_, _], _ => rfl
abbrev s_within : Stmt := top 27
def n_within : Nm := ((["one", "other"] : List String).map Str.ofString)
def p_within : Nm := ((["one", "other"] : List String).map Str.ofString)
def r_within : FR := ⟨("within", none), "within", s_within, n_within, p_within, ⟨2, 2, b_within⟩⟩
theorem b_within_ok : BndR r_within := fun _ _ _ _ _ _ us hl => match us, hl with | [_, _], _ => rfl
abbrev s_all_within : Stmt := top 28
def n_all_within : Nm := ((["lot", "found", "place", "one"] : List String).map Str.ofString)
def p_all_within : Nm := ((["lot"] : List String).map Str.ofString)
def r_all_within : FR := ⟨("all_within", none), "all_within", s_all_within, n_all_within, p_all_within, ⟨1, 4, b_all_within⟩⟩
theorem b_all_within_ok : BndR r_all_within := fun _ _ _ _ _ _ us hl => match us, hl with | [_], _ => rfl
abbrev s_lots_within : Stmt := top 29
def n_lots_within : Nm := ((["lot"] : List String).map Str.ofString)
def p_lots_within : Nm := ((["lot"] : List String).map Str.ofString)
def r_lots_within : FR := ⟨("lots_within", none), "lots_within", s_lots_within, n_lots_within, p_lots_within, ⟨1, 1, b_lots_within⟩⟩
theorem b_lots_within_ok : BndR r_lots_within := fun _ _ _ _ _ _ us hl => match us, hl with | [_], _ => rfl
abbrev s_is_table : Stmt := top 35
def n_is_table : Nm := ((["value", "letters", "most", "row", "state"] : List String).map Str.ofString)
def p_is_table : Nm := ((["value", "letters", "most"] : List String).map Str.ofString)
def r_is_table : FR := ⟨("is_table", none), "is_table", s_is_table, n_is_table, p_is_table, ⟨3, 5, b_is_table⟩⟩
theorem b_is_table_ok : BndR r_is_table := fun _ _ _ _ _ _ us hl => match us, hl with | [_, _, _], _ => rfl
abbrev s_coming : Stmt := top 36
def n_coming : Nm := ((["table", "found", "at", "state"] : List String).map Str.ofString)
def p_coming : Nm := ((["table"] : List String).map Str.ofString)
def r_coming : FR := ⟨("coming", none), "coming", s_coming, n_coming, p_coming, ⟨1, 4, b_coming⟩⟩
theorem b_coming_ok : BndR r_coming := fun _ _ _ _ _ _ us hl => match us, hl with | [_], _ => rfl
abbrev s_going_back : Stmt := top 37
def n_going_back : Nm := ((["table", "found", "_", "at", "row", "state"] : List String).map Str.ofString)
def p_going_back : Nm := ((["table"] : List String).map Str.ofString)
def r_going_back : FR := ⟨("going_back", none), "going_back", s_going_back, n_going_back, p_going_back, ⟨1, 6, b_going_back⟩⟩
theorem b_going_back_ok : BndR r_going_back := fun _ _ _ _ _ _ us hl => match us, hl with | [_], _ => rfl
abbrev s_first_lost : Stmt := top 38
def n_first_lost : Nm := ((["table", "lost", "there", "back", "state"] : List String).map Str.ofString)
def p_first_lost : Nm := ((["table"] : List String).map Str.ofString)
def r_first_lost : FR := ⟨("first_lost", none), "first_lost", s_first_lost, n_first_lost, p_first_lost, ⟨1, 5, b_first_lost⟩⟩
theorem b_first_lost_ok : BndR r_first_lost := fun _ _ _ _ _ _ us hl => match us, hl with | [_], _ => rfl
abbrev s_Service___init__ : Stmt := L2.inClass (top 39) 0
def n_Service___init__ : Nm := ((["self", "letters", "table"] : List String).map Str.ofString)
def p_Service___init__ : Nm := ((["self", "letters", "table"] : List String).map Str.ofString)
def r_Service___init__ : FR := ⟨("Service", some "__init__"), "Service.__init__", s_Service___init__, n_Service___init__, p_Service___init__, ⟨3, 3, b_Service___init__⟩⟩
theorem b_Service___init___ok : BndR r_Service___init__ := fun _ _ _ _ _ _ us hl => match us, hl with | [_, _, _], _ => rfl
abbrev s_Service___eq__ : Stmt := L2.inClass (top 39) 1
def n_Service___eq__ : Nm := ((["self", "other"] : List String).map Str.ofString)
def p_Service___eq__ : Nm := ((["self", "other"] : List String).map Str.ofString)
def r_Service___eq__ : FR := ⟨("Service", some "__eq__"), "Service.__eq__", s_Service___eq__, n_Service___eq__, p_Service___eq__, ⟨2, 2, b_Service___eq__⟩⟩
theorem b_Service___eq___ok : BndR r_Service___eq__ := fun _ _ _ _ _ _ us hl => match us, hl with | [_, _], _ => rfl
abbrev s__law_cell : Stmt := top 41
def n__law_cell : Nm := ((["script", "k"] : List String).map Str.ofString)
def p__law_cell : Nm := ((["script", "k"] : List String).map Str.ofString)
def r__law_cell : FR := ⟨("_law_cell", none), "_law_cell", s__law_cell, n__law_cell, p__law_cell, ⟨2, 2, b__law_cell⟩⟩
theorem b__law_cell_ok : BndR r__law_cell := fun _ _ _ _ _ _ us hl => match us, hl with | [_, _], _ => rfl
abbrev s__law_box : Stmt := top 42
def n__law_box : Nm := ((["great"] : List String).map Str.ofString)
def p__law_box : Nm := ((["great"] : List String).map Str.ofString)
def r__law_box : FR := ⟨("_law_box", none), "_law_box", s__law_box, n__law_box, p__law_box, ⟨1, 1, b__law_box⟩⟩
theorem b__law_box_ok : BndR r__law_box := fun _ _ _ _ _ _ us hl => match us, hl with | [_], _ => rfl
abbrev s__law_take : Stmt := top 43
def n__law_take : Nm := ((["box", "many", "mixed", "digit"] : List String).map Str.ofString)
def p__law_take : Nm := ((["box", "many"] : List String).map Str.ofString)
def r__law_take : FR := ⟨("_law_take", none), "_law_take", s__law_take, n__law_take, p__law_take, ⟨2, 4, b__law_take⟩⟩
theorem b__law_take_ok : BndR r__law_take := fun _ _ _ _ _ _ us hl => match us, hl with | [_, _], _ => rfl
abbrev s__law_pick : Stmt := top 44
def n__law_pick : Nm := ((["box", "items"] : List String).map Str.ofString)
def p__law_pick : Nm := ((["box", "items"] : List String).map Str.ofString)
def r__law_pick : FR := ⟨("_law_pick", none), "_law_pick", s__law_pick, n__law_pick, p__law_pick, ⟨2, 2, b__law_pick⟩⟩
theorem b__law_pick_ok : BndR r__law_pick := fun _ _ _ _ _ _ us hl => match us, hl with | [_, _], _ => rfl
abbrev s__law_same : Stmt := top 45
def n__law_same : Nm := ((["told", "due", "k", "key"] : List String).map Str.ofString)
def p__law_same : Nm := ((["told", "due"] : List String).map Str.ofString)
def r__law_same : FR := ⟨("_law_same", none), "_law_same", s__law_same, n__law_same, p__law_same, ⟨2, 4, b__law_same⟩⟩
theorem b__law_same_ok : BndR r__law_same := fun _ _ _ _ _ _ us hl => match us, hl with | [_, _], _ => rfl
abbrev s__law_grown : Stmt := top 46
def n__law_grown : Nm := ((["value"] : List String).map Str.ofString)
def p__law_grown : Nm := ((["value"] : List String).map Str.ofString)
def r__law_grown : FR := ⟨("_law_grown", none), "_law_grown", s__law_grown, n__law_grown, p__law_grown, ⟨1, 1, b__law_grown⟩⟩
theorem b__law_grown_ok : BndR r__law_grown := fun _ _ _ _ _ _ us hl => match us, hl with | [_], _ => rfl
abbrev s__law_lots : Stmt := top 47
def n__law_lots : Nm := ((["places", "found", "k", "lot"] : List String).map Str.ofString)
def p__law_lots : Nm := ((["places"] : List String).map Str.ofString)
def r__law_lots : FR := ⟨("_law_lots", none), "_law_lots", s__law_lots, n__law_lots, p__law_lots, ⟨1, 4, b__law_lots⟩⟩
theorem b__law_lots_ok : BndR r__law_lots := fun _ _ _ _ _ _ us hl => match us, hl with | [_], _ => rfl
abbrev s__law_within : Stmt := top 48
def n__law_within : Nm := ((["lot", "other", "k"] : List String).map Str.ofString)
def p__law_within : Nm := ((["lot", "other"] : List String).map Str.ofString)
def r__law_within : FR := ⟨("_law_within", none), "_law_within", s__law_within, n__law_within, p__law_within, ⟨2, 3, b__law_within⟩⟩
theorem b__law_within_ok : BndR r__law_within := fun _ _ _ _ _ _ us hl => match us, hl with | [_, _], _ => rfl
abbrev s__law_very : Stmt := top 49
def n__law_very : Nm := ((["given", "value"] : List String).map Str.ofString)
def p__law_very : Nm := ((["given", "value"] : List String).map Str.ofString)
def r__law_very : FR := ⟨("_law_very", none), "_law_very", s__law_very, n__law_very, p__law_very, ⟨2, 2, b__law_very⟩⟩
theorem b__law_very_ok : BndR r__law_very := fun _ _ _ _ _ _ us hl => match us, hl with | [_, _], _ => rfl
abbrev s__law_lot : Stmt := top 50
def n__law_lot : Nm := ((["box", "places", "few", "k"] : List String).map Str.ofString)
def p__law_lot : Nm := ((["box", "places"] : List String).map Str.ofString)
def r__law_lot : FR := ⟨("_law_lot", none), "_law_lot", s__law_lot, n__law_lot, p__law_lot, ⟨2, 4, b__law_lot⟩⟩
theorem b__law_lot_ok : BndR r__law_lot := fun _ _ _ _ _ _ us hl => match us, hl with | [_, _], _ => rfl
abbrev s__law_is_lot : Stmt := top 51
def n__law_is_lot : Nm := ((["places", "value", "one", "k"] : List String).map Str.ofString)
def p__law_is_lot : Nm := ((["places", "value"] : List String).map Str.ofString)
def r__law_is_lot : FR := ⟨("_law_is_lot", none), "_law_is_lot", s__law_is_lot, n__law_is_lot, p__law_is_lot, ⟨2, 4, b__law_is_lot⟩⟩
theorem b__law_is_lot_ok : BndR r__law_is_lot := fun _ _ _ _ _ _ us hl => match us, hl with | [_, _], _ => rfl
abbrev s__law_no_lots : Stmt := top 52
def n__law_no_lots : Nm := ((["box", "places", "found", "one", "most"] : List String).map Str.ofString)
def p__law_no_lots : Nm := ((["box", "places"] : List String).map Str.ofString)
def r__law_no_lots : FR := ⟨("_law_no_lots", none), "_law_no_lots", s__law_no_lots, n__law_no_lots, p__law_no_lots, ⟨2, 5, b__law_no_lots⟩⟩
theorem b__law_no_lots_ok : BndR r__law_no_lots := fun _ _ _ _ _ _ us hl => match us, hl with | [_, _], _ => rfl
abbrev s__law_tuple : Stmt := top 53
def n__law_tuple : Nm := ((["box", "length", "k"] : List String).map Str.ofString)
def p__law_tuple : Nm := ((["box", "length"] : List String).map Str.ofString)
def r__law_tuple : FR := ⟨("_law_tuple", none), "_law_tuple", s__law_tuple, n__law_tuple, p__law_tuple, ⟨2, 3, b__law_tuple⟩⟩
theorem b__law_tuple_ok : BndR r__law_tuple := fun _ _ _ _ _ _ us hl => match us, hl with | [_, _], _ => rfl
abbrev s__law_no_tuples : Stmt := top 54
def n__law_no_tuples : Nm := ((["box", "one", "found"] : List String).map Str.ofString)
def p__law_no_tuples : Nm := ((["box"] : List String).map Str.ofString)
def r__law_no_tuples : FR := ⟨("_law_no_tuples", none), "_law_no_tuples", s__law_no_tuples, n__law_no_tuples, p__law_no_tuples, ⟨1, 3, b__law_no_tuples⟩⟩
theorem b__law_no_tuples_ok : BndR r__law_no_tuples := fun _ _ _ _ _ _ us hl => match us, hl with | [_], _ => rfl
abbrev s__law_call : Stmt := top 55
def n__law_call : Nm := ((["door", "args", "named"] : List String).map Str.ofString)
def p__law_call : Nm := ((["door", "args", "named"] : List String).map Str.ofString)
def r__law_call : FR := ⟨("_law_call", none), "_law_call", s__law_call, n__law_call, p__law_call, ⟨3, 3, b__law_call⟩⟩
theorem b__law_call_ok : BndR r__law_call := fun _ _ _ _ _ _ us hl => match us, hl with | [_, _, _], _ => rfl
abbrev s__law_asked : Stmt := top 56
def n__law_asked : Nm := ((["door", "args", "named", "e"] : List String).map Str.ofString)
def p__law_asked : Nm := ((["door", "args", "named"] : List String).map Str.ofString)
def r__law_asked : FR := ⟨("_law_asked", none), "_law_asked", s__law_asked, n__law_asked, p__law_asked, ⟨3, 4, b__law_asked⟩⟩
theorem b__law_asked_ok : BndR r__law_asked := fun _ _ _ _ _ _ us hl => match us, hl with | [_, _, _], _ => rfl
abbrev s__law_refuses : Stmt := top 57
def n__law_refuses : Nm := ((["door", "args", "word", "at", "named", "told"] : List String).map Str.ofString)
def p__law_refuses : Nm := ((["door", "args", "word", "at", "named"] : List String).map Str.ofString)
def r__law_refuses : FR := ⟨("_law_refuses", none), "_law_refuses", s__law_refuses, n__law_refuses, p__law_refuses, ⟨5, 6, b__law_refuses⟩⟩
theorem b__law_refuses_ok : BndR r__law_refuses := fun _ _ _ _ _ _ us hl => match us, hl with | [_, _, _, _, _], _ => rfl
abbrev s__law_judged_right : Stmt := top 58
def n__law_judged_right : Nm := ((["box", "named", "places", "values", "value", "turn", "many", "bad"] : List String).map Str.ofString)
def p__law_judged_right : Nm := ((["box", "named"] : List String).map Str.ofString)
def r__law_judged_right : FR := ⟨("_law_judged_right", none), "_law_judged_right", s__law_judged_right, n__law_judged_right, p__law_judged_right, ⟨2, 8, b__law_judged_right⟩⟩
theorem b__law_judged_right_ok : BndR r__law_judged_right := fun _ _ _ _ _ _ us hl => match us, hl with | [_, _], _ => rfl
abbrev s__law_unlike_right : Stmt := top 59
def n__law_unlike_right : Nm := ((["box", "named", "length", "other", "turn", "one", "first", "second", "due", "bad", "longer", "k"] : List String).map Str.ofString)
def p__law_unlike_right : Nm := ((["box", "named"] : List String).map Str.ofString)
def r__law_unlike_right : FR := ⟨("_law_unlike_right", none), "_law_unlike_right", s__law_unlike_right, n__law_unlike_right, p__law_unlike_right, ⟨2, 12, b__law_unlike_right⟩⟩
theorem b__law_unlike_right_ok : BndR r__law_unlike_right := fun _ _ _ _ _ _ us hl => match us, hl with | [_, _], _ => rfl
abbrev s__law_two_right : Stmt := top 60
def n__law_two_right : Nm := ((["box", "named", "inner", "lot", "due", "turn", "one", "other", "places", "first", "second", "asked", "told", "asks", "door", "at", "k", "some", "bad", "args"] : List String).map Str.ofString)
def p__law_two_right : Nm := ((["box", "named"] : List String).map Str.ofString)
def r__law_two_right : FR := ⟨("_law_two_right", none), "_law_two_right", s__law_two_right, n__law_two_right, p__law_two_right, ⟨2, 20, b__law_two_right⟩⟩
theorem b__law_two_right_ok : BndR r__law_two_right := fun _ _ _ _ _ _ us hl => match us, hl with | [_, _], _ => rfl
abbrev s_law : Stmt := top 61
def n_law : Nm := ((["script", "k", "box", "named"] : List String).map Str.ofString)
def p_law : Nm := ((["script"] : List String).map Str.ofString)
def r_law : FR := ⟨("law", none), "law", s_law, n_law, p_law, ⟨1, 4, b_law⟩⟩
theorem b_law_ok : BndR r_law := fun _ _ _ _ _ _ us hl => match us, hl with | [_], _ => rfl
def fnR : List FR := [r_is_integer, r_is_between, r_is_index, r_is_tuple, r_is_ascending, r_is_name, r_are_names, r_is_known_lot, r_is_lot, r_unlike_in, r_are_integers, r_unlike_places, r_need_lot, r_joined, r_is_within, r_within, r_all_within, r_lots_within, r_is_table, r_coming, r_going_back, r_first_lost, r_Service___init__, r_Service___eq__, r__law_cell, r__law_box, r__law_take, r__law_pick, r__law_same, r__law_grown, r__law_lots, r__law_within, r__law_very, r__law_lot, r__law_is_lot, r__law_no_lots, r__law_tuple, r__law_no_tuples, r__law_call, r__law_asked, r__law_refuses, r__law_judged_right, r__law_unlike_right, r__law_two_right, r_law]
abbrev s_InvalidPlaces___init__ : Stmt := L2.inClass (top 2) 0
def n_InvalidPlaces___init__ : Nm := ((["self", "given"] : List String).map Str.ofString)
def p_InvalidPlaces___init__ : Nm := ((["self", "given"] : List String).map Str.ofString)
def r_InvalidPlaces___init__ : FR := ⟨("InvalidPlaces", some "__init__"), "InvalidPlaces.__init__", s_InvalidPlaces___init__, n_InvalidPlaces___init__, p_InvalidPlaces___init__, ⟨2, 2, .nil⟩⟩
theorem b_InvalidPlaces___init___ok : BndR r_InvalidPlaces___init__ := fun _ _ _ _ _ _ us hl => match us, hl with | [_, _], _ => rfl
def x_InvalidPlaces : XR := ⟨2, r_InvalidPlaces___init__, "SpareError", [0]⟩
abbrev s_InvalidTuple___init__ : Stmt := L2.inClass (top 3) 0
def n_InvalidTuple___init__ : Nm := ((["self", "given"] : List String).map Str.ofString)
def p_InvalidTuple___init__ : Nm := ((["self", "given"] : List String).map Str.ofString)
def r_InvalidTuple___init__ : FR := ⟨("InvalidTuple", some "__init__"), "InvalidTuple.__init__", s_InvalidTuple___init__, n_InvalidTuple___init__, p_InvalidTuple___init__, ⟨2, 2, .nil⟩⟩
theorem b_InvalidTuple___init___ok : BndR r_InvalidTuple___init__ := fun _ _ _ _ _ _ us hl => match us, hl with | [_, _], _ => rfl
def x_InvalidTuple : XR := ⟨3, r_InvalidTuple___init__, "SpareError", [0]⟩
abbrev s_InvalidLot___init__ : Stmt := L2.inClass (top 4) 0
def n_InvalidLot___init__ : Nm := ((["self", "given"] : List String).map Str.ofString)
def p_InvalidLot___init__ : Nm := ((["self", "given"] : List String).map Str.ofString)
def r_InvalidLot___init__ : FR := ⟨("InvalidLot", some "__init__"), "InvalidLot.__init__", s_InvalidLot___init__, n_InvalidLot___init__, p_InvalidLot___init__, ⟨2, 2, .nil⟩⟩
theorem b_InvalidLot___init___ok : BndR r_InvalidLot___init__ := fun _ _ _ _ _ _ us hl => match us, hl with | [_, _], _ => rfl
def x_InvalidLot : XR := ⟨4, r_InvalidLot___init__, "SpareError", [0]⟩
abbrev s_InvalidLetters___init__ : Stmt := L2.inClass (top 5) 0
def n_InvalidLetters___init__ : Nm := ((["self", "given"] : List String).map Str.ofString)
def p_InvalidLetters___init__ : Nm := ((["self", "given"] : List String).map Str.ofString)
def r_InvalidLetters___init__ : FR := ⟨("InvalidLetters", some "__init__"), "InvalidLetters.__init__", s_InvalidLetters___init__, n_InvalidLetters___init__, p_InvalidLetters___init__, ⟨2, 2, .nil⟩⟩
theorem b_InvalidLetters___init___ok : BndR r_InvalidLetters___init__ := fun _ _ _ _ _ _ us hl => match us, hl with | [_, _], _ => rfl
def x_InvalidLetters : XR := ⟨5, r_InvalidLetters___init__, "SpareError", [0]⟩
abbrev s_InvalidTable___init__ : Stmt := L2.inClass (top 6) 0
def n_InvalidTable___init__ : Nm := ((["self", "given"] : List String).map Str.ofString)
def p_InvalidTable___init__ : Nm := ((["self", "given"] : List String).map Str.ofString)
def r_InvalidTable___init__ : FR := ⟨("InvalidTable", some "__init__"), "InvalidTable.__init__", s_InvalidTable___init__, n_InvalidTable___init__, p_InvalidTable___init__, ⟨2, 2, .nil⟩⟩
theorem b_InvalidTable___init___ok : BndR r_InvalidTable___init__ := fun _ _ _ _ _ _ us hl => match us, hl with | [_, _], _ => rfl
def x_InvalidTable : XR := ⟨6, r_InvalidTable___init__, "SpareError", [0]⟩
abbrev s_NotReturning___init__ : Stmt := L2.inClass (top 31) 0
def n_NotReturning___init__ : Nm := ((["self", "state"] : List String).map Str.ofString)
def p_NotReturning___init__ : Nm := ((["self", "state"] : List String).map Str.ofString)
def r_NotReturning___init__ : FR := ⟨("NotReturning", some "__init__"), "NotReturning.__init__", s_NotReturning___init__, n_NotReturning___init__, p_NotReturning___init__, ⟨2, 2, .nil⟩⟩
theorem b_NotReturning___init___ok : BndR r_NotReturning___init__ := fun _ _ _ _ _ _ us hl => match us, hl with | [_, _], _ => rfl
def x_NotReturning : XR := ⟨7, r_NotReturning___init__, "SpareError", [1]⟩
def xsR : List XR := [x_InvalidPlaces, x_InvalidTuple, x_InvalidLot, x_InvalidLetters, x_InvalidTable, x_NotReturning]
def c_Service : CR := ⟨0, 22, [2, 3, 4], true⟩
def csR : List CR := [c_Service]
def cnms : Nm := ((["Service", "SpareError", "InvalidPlaces", "InvalidTuple", "InvalidLot", "InvalidLetters", "InvalidTable", "NotReturning"] : List String).map Str.ofString)
def gnms : Nm := ((["SIGNS", "MOST_SIGNS", "MOST_PLACES", "MOST_LETTERS", "MOST_STATES"] : List String).map Str.ofString)
def atns : Nm := ((["given", "state", "letters", "table", "states"] : List String).map Str.ofString)
def kbl : List (Nat × Nat × Nm × List Nat) := [(8, 0, ((["value", "places"] : List String).map Str.ofString), [1, 0]), (11, 0, ((["other", "one"] : List String).map Str.ofString), [1, 0]), (13, 0, ((["other", "one"] : List String).map Str.ofString), [1, 0]), (15, 0, ((["other", "one"] : List String).map Str.ofString), [1, 0]), (17, 0, ((["lot"] : List String).map Str.ofString), [0])]
theorem atns_inj : ∀ i j, atOf atns i = atOf atns j → i = j := atOf_inj (by decide +kernel) (by decide +kernel)
def T : Tabs := ⟨fnR, cnms, gnms, gv, atns, xsR, csR, sup, kbl, atns_inj, xcl, cls⟩
theorem m_is_integer (K : PySem.W.Frag) : (fsC r_is_integer.N r_is_integer.ps (defScope r_is_integer.st) && mSs (T.L K) r_is_integer.N (defScope r_is_integer.st) r_is_integer.F.body (defBody r_is_integer.st)) = true := by kernel_rfl
theorem m_is_between (K : PySem.W.Frag) : (fsC r_is_between.N r_is_between.ps (defScope r_is_between.st) && mSs (T.L K) r_is_between.N (defScope r_is_between.st) r_is_between.F.body (defBody r_is_between.st)) = true := by kernel_rfl
theorem m_is_index (K : PySem.W.Frag) : (fsC r_is_index.N r_is_index.ps (defScope r_is_index.st) && mSs (T.L K) r_is_index.N (defScope r_is_index.st) r_is_index.F.body (defBody r_is_index.st)) = true := by kernel_rfl
theorem m_is_tuple (K : PySem.W.Frag) : (fsC r_is_tuple.N r_is_tuple.ps (defScope r_is_tuple.st) && mSs (T.L K) r_is_tuple.N (defScope r_is_tuple.st) r_is_tuple.F.body (defBody r_is_tuple.st)) = true := by kernel_rfl
theorem m_is_ascending (K : PySem.W.Frag) : (fsC r_is_ascending.N r_is_ascending.ps (defScope r_is_ascending.st) && mSs (T.L K) r_is_ascending.N (defScope r_is_ascending.st) r_is_ascending.F.body (defBody r_is_ascending.st)) = true := by kernel_rfl
theorem m_is_name (K : PySem.W.Frag) : (fsC r_is_name.N r_is_name.ps (defScope r_is_name.st) && mSs (T.L K) r_is_name.N (defScope r_is_name.st) r_is_name.F.body (defBody r_is_name.st)) = true := by kernel_rfl
theorem m_are_names (K : PySem.W.Frag) : (fsC r_are_names.N r_are_names.ps (defScope r_are_names.st) && mSs (T.L K) r_are_names.N (defScope r_are_names.st) r_are_names.F.body (defBody r_are_names.st)) = true := by kernel_rfl
theorem m_is_known_lot (K : PySem.W.Frag) : (fsC r_is_known_lot.N r_is_known_lot.ps (defScope r_is_known_lot.st) && mSs (T.L K) r_is_known_lot.N (defScope r_is_known_lot.st) r_is_known_lot.F.body (defBody r_is_known_lot.st)) = true := by kernel_rfl
theorem m_is_lot (K : PySem.W.Frag) : (fsC r_is_lot.N r_is_lot.ps (defScope r_is_lot.st) && mSs (T.L K) r_is_lot.N (defScope r_is_lot.st) r_is_lot.F.body (defBody r_is_lot.st)) = true := by kernel_rfl
theorem m_unlike_in (K : PySem.W.Frag) : (fsC r_unlike_in.N r_unlike_in.ps (defScope r_unlike_in.st) && mSs (T.L K) r_unlike_in.N (defScope r_unlike_in.st) r_unlike_in.F.body (defBody r_unlike_in.st)) = true := by kernel_rfl
theorem m_are_integers (K : PySem.W.Frag) : (fsC r_are_integers.N r_are_integers.ps (defScope r_are_integers.st) && mSs (T.L K) r_are_integers.N (defScope r_are_integers.st) r_are_integers.F.body (defBody r_are_integers.st)) = true := by kernel_rfl
theorem m_unlike_places (K : PySem.W.Frag) : (fsC r_unlike_places.N r_unlike_places.ps (defScope r_unlike_places.st) && mSs (T.L K) r_unlike_places.N (defScope r_unlike_places.st) r_unlike_places.F.body (defBody r_unlike_places.st)) = true := by kernel_rfl
theorem m_need_lot (K : PySem.W.Frag) : (fsC r_need_lot.N r_need_lot.ps (defScope r_need_lot.st) && mSs (T.L K) r_need_lot.N (defScope r_need_lot.st) r_need_lot.F.body (defBody r_need_lot.st)) = true := by kernel_rfl
theorem m_joined (K : PySem.W.Frag) : (fsC r_joined.N r_joined.ps (defScope r_joined.st) && mSs (T.L K) r_joined.N (defScope r_joined.st) r_joined.F.body (defBody r_joined.st)) = true := by kernel_rfl
theorem m_is_within (K : PySem.W.Frag) : (fsC r_is_within.N r_is_within.ps (defScope r_is_within.st) && mSs (T.L K) r_is_within.N (defScope r_is_within.st) r_is_within.F.body (defBody r_is_within.st)) = true := by kernel_rfl
theorem m_within (K : PySem.W.Frag) : (fsC r_within.N r_within.ps (defScope r_within.st) && mSs (T.L K) r_within.N (defScope r_within.st) r_within.F.body (defBody r_within.st)) = true := by kernel_rfl
theorem m_all_within (K : PySem.W.Frag) : (fsC r_all_within.N r_all_within.ps (defScope r_all_within.st) && mSs (T.L K) r_all_within.N (defScope r_all_within.st) r_all_within.F.body (defBody r_all_within.st)) = true := by kernel_rfl
theorem m_lots_within (K : PySem.W.Frag) : (fsC r_lots_within.N r_lots_within.ps (defScope r_lots_within.st) && mSs (T.L K) r_lots_within.N (defScope r_lots_within.st) r_lots_within.F.body (defBody r_lots_within.st)) = true := by kernel_rfl
theorem m_is_table (K : PySem.W.Frag) : (fsC r_is_table.N r_is_table.ps (defScope r_is_table.st) && mSs (T.L K) r_is_table.N (defScope r_is_table.st) r_is_table.F.body (defBody r_is_table.st)) = true := by kernel_rfl
theorem m_coming (K : PySem.W.Frag) : (fsC r_coming.N r_coming.ps (defScope r_coming.st) && mSs (T.L K) r_coming.N (defScope r_coming.st) r_coming.F.body (defBody r_coming.st)) = true := by kernel_rfl
theorem m_going_back (K : PySem.W.Frag) : (fsC r_going_back.N r_going_back.ps (defScope r_going_back.st) && mSs (T.L K) r_going_back.N (defScope r_going_back.st) r_going_back.F.body (defBody r_going_back.st)) = true := by kernel_rfl
theorem m_first_lost (K : PySem.W.Frag) : (fsC r_first_lost.N r_first_lost.ps (defScope r_first_lost.st) && mSs (T.L K) r_first_lost.N (defScope r_first_lost.st) r_first_lost.F.body (defBody r_first_lost.st)) = true := by kernel_rfl
theorem m_Service___init__ (K : PySem.W.Frag) : (fsC r_Service___init__.N r_Service___init__.ps (defScope r_Service___init__.st) && mSs (T.L K) r_Service___init__.N (defScope r_Service___init__.st) r_Service___init__.F.body (defBody r_Service___init__.st)) = true := by kernel_rfl
theorem m_Service___eq__ (K : PySem.W.Frag) : (fsC r_Service___eq__.N r_Service___eq__.ps (defScope r_Service___eq__.st) && mSs (T.L K) r_Service___eq__.N (defScope r_Service___eq__.st) r_Service___eq__.F.body (defBody r_Service___eq__.st)) = true := by kernel_rfl
theorem m__law_cell (K : PySem.W.Frag) : (fsC r__law_cell.N r__law_cell.ps (defScope r__law_cell.st) && mSs (T.L K) r__law_cell.N (defScope r__law_cell.st) r__law_cell.F.body (defBody r__law_cell.st)) = true := by kernel_rfl
theorem m__law_box (K : PySem.W.Frag) : (fsC r__law_box.N r__law_box.ps (defScope r__law_box.st) && mSs (T.L K) r__law_box.N (defScope r__law_box.st) r__law_box.F.body (defBody r__law_box.st)) = true := by kernel_rfl
theorem m__law_take (K : PySem.W.Frag) : (fsC r__law_take.N r__law_take.ps (defScope r__law_take.st) && mSs (T.L K) r__law_take.N (defScope r__law_take.st) r__law_take.F.body (defBody r__law_take.st)) = true := by kernel_rfl
theorem m__law_pick (K : PySem.W.Frag) : (fsC r__law_pick.N r__law_pick.ps (defScope r__law_pick.st) && mSs (T.L K) r__law_pick.N (defScope r__law_pick.st) r__law_pick.F.body (defBody r__law_pick.st)) = true := by kernel_rfl
theorem m__law_same (K : PySem.W.Frag) : (fsC r__law_same.N r__law_same.ps (defScope r__law_same.st) && mSs (T.L K) r__law_same.N (defScope r__law_same.st) r__law_same.F.body (defBody r__law_same.st)) = true := by kernel_rfl
theorem m__law_grown (K : PySem.W.Frag) : (fsC r__law_grown.N r__law_grown.ps (defScope r__law_grown.st) && mSs (T.L K) r__law_grown.N (defScope r__law_grown.st) r__law_grown.F.body (defBody r__law_grown.st)) = true := by kernel_rfl
theorem m__law_lots (K : PySem.W.Frag) : (fsC r__law_lots.N r__law_lots.ps (defScope r__law_lots.st) && mSs (T.L K) r__law_lots.N (defScope r__law_lots.st) r__law_lots.F.body (defBody r__law_lots.st)) = true := by kernel_rfl
theorem m__law_within (K : PySem.W.Frag) : (fsC r__law_within.N r__law_within.ps (defScope r__law_within.st) && mSs (T.L K) r__law_within.N (defScope r__law_within.st) r__law_within.F.body (defBody r__law_within.st)) = true := by kernel_rfl
theorem m__law_very (K : PySem.W.Frag) : (fsC r__law_very.N r__law_very.ps (defScope r__law_very.st) && mSs (T.L K) r__law_very.N (defScope r__law_very.st) r__law_very.F.body (defBody r__law_very.st)) = true := by kernel_rfl
theorem m__law_lot (K : PySem.W.Frag) : (fsC r__law_lot.N r__law_lot.ps (defScope r__law_lot.st) && mSs (T.L K) r__law_lot.N (defScope r__law_lot.st) r__law_lot.F.body (defBody r__law_lot.st)) = true := by kernel_rfl
theorem m__law_is_lot (K : PySem.W.Frag) : (fsC r__law_is_lot.N r__law_is_lot.ps (defScope r__law_is_lot.st) && mSs (T.L K) r__law_is_lot.N (defScope r__law_is_lot.st) r__law_is_lot.F.body (defBody r__law_is_lot.st)) = true := by kernel_rfl
theorem m__law_no_lots (K : PySem.W.Frag) : (fsC r__law_no_lots.N r__law_no_lots.ps (defScope r__law_no_lots.st) && mSs (T.L K) r__law_no_lots.N (defScope r__law_no_lots.st) r__law_no_lots.F.body (defBody r__law_no_lots.st)) = true := by kernel_rfl
theorem m__law_tuple (K : PySem.W.Frag) : (fsC r__law_tuple.N r__law_tuple.ps (defScope r__law_tuple.st) && mSs (T.L K) r__law_tuple.N (defScope r__law_tuple.st) r__law_tuple.F.body (defBody r__law_tuple.st)) = true := by kernel_rfl
theorem m__law_no_tuples (K : PySem.W.Frag) : (fsC r__law_no_tuples.N r__law_no_tuples.ps (defScope r__law_no_tuples.st) && mSs (T.L K) r__law_no_tuples.N (defScope r__law_no_tuples.st) r__law_no_tuples.F.body (defBody r__law_no_tuples.st)) = true := by kernel_rfl
theorem m__law_call (K : PySem.W.Frag) : (fsC r__law_call.N r__law_call.ps (defScope r__law_call.st) && mSs (T.L K) r__law_call.N (defScope r__law_call.st) r__law_call.F.body (defBody r__law_call.st)) = true := by kernel_rfl
theorem m__law_asked (K : PySem.W.Frag) : (fsC r__law_asked.N r__law_asked.ps (defScope r__law_asked.st) && mSs (T.L K) r__law_asked.N (defScope r__law_asked.st) r__law_asked.F.body (defBody r__law_asked.st)) = true := by kernel_rfl
theorem m__law_refuses (K : PySem.W.Frag) : (fsC r__law_refuses.N r__law_refuses.ps (defScope r__law_refuses.st) && mSs (T.L K) r__law_refuses.N (defScope r__law_refuses.st) r__law_refuses.F.body (defBody r__law_refuses.st)) = true := by kernel_rfl
theorem m__law_judged_right (K : PySem.W.Frag) : (fsC r__law_judged_right.N r__law_judged_right.ps (defScope r__law_judged_right.st) && mSs (T.L K) r__law_judged_right.N (defScope r__law_judged_right.st) r__law_judged_right.F.body (defBody r__law_judged_right.st)) = true := by kernel_rfl
theorem m__law_unlike_right (K : PySem.W.Frag) : (fsC r__law_unlike_right.N r__law_unlike_right.ps (defScope r__law_unlike_right.st) && mSs (T.L K) r__law_unlike_right.N (defScope r__law_unlike_right.st) r__law_unlike_right.F.body (defBody r__law_unlike_right.st)) = true := by kernel_rfl
theorem m__law_two_right (K : PySem.W.Frag) : (fsC r__law_two_right.N r__law_two_right.ps (defScope r__law_two_right.st) && mSs (T.L K) r__law_two_right.N (defScope r__law_two_right.st) r__law_two_right.F.body (defBody r__law_two_right.st)) = true := by kernel_rfl
theorem m_law (K : PySem.W.Frag) : (fsC r_law.N r_law.ps (defScope r_law.st) && mSs (T.L K) r_law.N (defScope r_law.st) r_law.F.body (defBody r_law.st)) = true := by kernel_rfl
theorem m_InvalidPlaces___init__ (K : PySem.W.Frag) : (fsC r_InvalidPlaces___init__.N r_InvalidPlaces___init__.N (defScope r_InvalidPlaces___init__.st) && mIni (T.L K) r_InvalidPlaces___init__.N (defScope r_InvalidPlaces___init__.st) x_InvalidPlaces.par x_InvalidPlaces.fs (defBody r_InvalidPlaces___init__.st)) = true := by kernel_rfl
theorem m_InvalidTuple___init__ (K : PySem.W.Frag) : (fsC r_InvalidTuple___init__.N r_InvalidTuple___init__.N (defScope r_InvalidTuple___init__.st) && mIni (T.L K) r_InvalidTuple___init__.N (defScope r_InvalidTuple___init__.st) x_InvalidTuple.par x_InvalidTuple.fs (defBody r_InvalidTuple___init__.st)) = true := by kernel_rfl
theorem m_InvalidLot___init__ (K : PySem.W.Frag) : (fsC r_InvalidLot___init__.N r_InvalidLot___init__.N (defScope r_InvalidLot___init__.st) && mIni (T.L K) r_InvalidLot___init__.N (defScope r_InvalidLot___init__.st) x_InvalidLot.par x_InvalidLot.fs (defBody r_InvalidLot___init__.st)) = true := by kernel_rfl
theorem m_InvalidLetters___init__ (K : PySem.W.Frag) : (fsC r_InvalidLetters___init__.N r_InvalidLetters___init__.N (defScope r_InvalidLetters___init__.st) && mIni (T.L K) r_InvalidLetters___init__.N (defScope r_InvalidLetters___init__.st) x_InvalidLetters.par x_InvalidLetters.fs (defBody r_InvalidLetters___init__.st)) = true := by kernel_rfl
theorem m_InvalidTable___init__ (K : PySem.W.Frag) : (fsC r_InvalidTable___init__.N r_InvalidTable___init__.N (defScope r_InvalidTable___init__.st) && mIni (T.L K) r_InvalidTable___init__.N (defScope r_InvalidTable___init__.st) x_InvalidTable.par x_InvalidTable.fs (defBody r_InvalidTable___init__.st)) = true := by kernel_rfl
theorem m_NotReturning___init__ (K : PySem.W.Frag) : (fsC r_NotReturning___init__.N r_NotReturning___init__.N (defScope r_NotReturning___init__.st) && mIni (T.L K) r_NotReturning___init__.N (defScope r_NotReturning___init__.st) x_NotReturning.par x_NotReturning.fs (defBody r_NotReturning___init__.st)) = true := by kernel_rfl
theorem k_0 : KwR r_is_lot 0 ((["value", "places"] : List String).map Str.ofString) [1, 0] := fun _ _ _ _ _ _ us ws hu hw => match us, ws, hu, hw with | [], [_, _], _, _ => rfl
theorem k_1 : KwR r_unlike_places 0 ((["other", "one"] : List String).map Str.ofString) [1, 0] := fun _ _ _ _ _ _ us ws hu hw => match us, ws, hu, hw with | [], [_, _], _, _ => rfl
theorem k_2 : KwR r_joined 0 ((["other", "one"] : List String).map Str.ofString) [1, 0] := fun _ _ _ _ _ _ us ws hu hw => match us, ws, hu, hw with | [], [_, _], _, _ => rfl
theorem k_3 : KwR r_within 0 ((["other", "one"] : List String).map Str.ofString) [1, 0] := fun _ _ _ _ _ _ us ws hu hw => match us, ws, hu, hw with | [], [_, _], _, _ => rfl
theorem k_4 : KwR r_lots_within 0 ((["lot"] : List String).map Str.ofString) [0] := fun _ _ _ _ _ _ us ws hu hw => match us, ws, hu, hw with | [], [_], _, _ => rfl
theorem ok : TabsOk T where
  fn := List.forall_mem_cons.mpr ⟨⟨b_is_integer_ok, m_is_integer, rfl, rfl⟩, List.forall_mem_cons.mpr ⟨⟨b_is_between_ok, m_is_between, rfl, rfl⟩, List.forall_mem_cons.mpr ⟨⟨b_is_index_ok, m_is_index, rfl, rfl⟩, List.forall_mem_cons.mpr ⟨⟨b_is_tuple_ok, m_is_tuple, rfl, rfl⟩, List.forall_mem_cons.mpr ⟨⟨b_is_ascending_ok, m_is_ascending, rfl, rfl⟩, List.forall_mem_cons.mpr ⟨⟨b_is_name_ok, m_is_name, rfl, rfl⟩, List.forall_mem_cons.mpr ⟨⟨b_are_names_ok, m_are_names, rfl, rfl⟩, List.forall_mem_cons.mpr ⟨⟨b_is_known_lot_ok, m_is_known_lot, rfl, rfl⟩, List.forall_mem_cons.mpr ⟨⟨b_is_lot_ok, m_is_lot, rfl, rfl⟩, List.forall_mem_cons.mpr ⟨⟨b_unlike_in_ok, m_unlike_in, rfl, rfl⟩, List.forall_mem_cons.mpr ⟨⟨b_are_integers_ok, m_are_integers, rfl, rfl⟩, List.forall_mem_cons.mpr ⟨⟨b_unlike_places_ok, m_unlike_places, rfl, rfl⟩, List.forall_mem_cons.mpr ⟨⟨b_need_lot_ok, m_need_lot, rfl, rfl⟩, List.forall_mem_cons.mpr ⟨⟨b_joined_ok, m_joined, rfl, rfl⟩, List.forall_mem_cons.mpr ⟨⟨b_is_within_ok, m_is_within, rfl, rfl⟩, List.forall_mem_cons.mpr ⟨⟨b_within_ok, m_within, rfl, rfl⟩, List.forall_mem_cons.mpr ⟨⟨b_all_within_ok, m_all_within, rfl, rfl⟩, List.forall_mem_cons.mpr ⟨⟨b_lots_within_ok, m_lots_within, rfl, rfl⟩, List.forall_mem_cons.mpr ⟨⟨b_is_table_ok, m_is_table, rfl, rfl⟩, List.forall_mem_cons.mpr ⟨⟨b_coming_ok, m_coming, rfl, rfl⟩, List.forall_mem_cons.mpr ⟨⟨b_going_back_ok, m_going_back, rfl, rfl⟩, List.forall_mem_cons.mpr ⟨⟨b_first_lost_ok, m_first_lost, rfl, rfl⟩, List.forall_mem_cons.mpr ⟨⟨b_Service___init___ok, m_Service___init__, rfl, rfl⟩, List.forall_mem_cons.mpr ⟨⟨b_Service___eq___ok, m_Service___eq__, rfl, rfl⟩, List.forall_mem_cons.mpr ⟨⟨b__law_cell_ok, m__law_cell, rfl, rfl⟩, List.forall_mem_cons.mpr ⟨⟨b__law_box_ok, m__law_box, rfl, rfl⟩, List.forall_mem_cons.mpr ⟨⟨b__law_take_ok, m__law_take, rfl, rfl⟩, List.forall_mem_cons.mpr ⟨⟨b__law_pick_ok, m__law_pick, rfl, rfl⟩, List.forall_mem_cons.mpr ⟨⟨b__law_same_ok, m__law_same, rfl, rfl⟩, List.forall_mem_cons.mpr ⟨⟨b__law_grown_ok, m__law_grown, rfl, rfl⟩, List.forall_mem_cons.mpr ⟨⟨b__law_lots_ok, m__law_lots, rfl, rfl⟩, List.forall_mem_cons.mpr ⟨⟨b__law_within_ok, m__law_within, rfl, rfl⟩, List.forall_mem_cons.mpr ⟨⟨b__law_very_ok, m__law_very, rfl, rfl⟩, List.forall_mem_cons.mpr ⟨⟨b__law_lot_ok, m__law_lot, rfl, rfl⟩, List.forall_mem_cons.mpr ⟨⟨b__law_is_lot_ok, m__law_is_lot, rfl, rfl⟩, List.forall_mem_cons.mpr ⟨⟨b__law_no_lots_ok, m__law_no_lots, rfl, rfl⟩, List.forall_mem_cons.mpr ⟨⟨b__law_tuple_ok, m__law_tuple, rfl, rfl⟩, List.forall_mem_cons.mpr ⟨⟨b__law_no_tuples_ok, m__law_no_tuples, rfl, rfl⟩, List.forall_mem_cons.mpr ⟨⟨b__law_call_ok, m__law_call, rfl, rfl⟩, List.forall_mem_cons.mpr ⟨⟨b__law_asked_ok, m__law_asked, rfl, rfl⟩, List.forall_mem_cons.mpr ⟨⟨b__law_refuses_ok, m__law_refuses, rfl, rfl⟩, List.forall_mem_cons.mpr ⟨⟨b__law_judged_right_ok, m__law_judged_right, rfl, rfl⟩, List.forall_mem_cons.mpr ⟨⟨b__law_unlike_right_ok, m__law_unlike_right, rfl, rfl⟩, List.forall_mem_cons.mpr ⟨⟨b__law_two_right_ok, m__law_two_right, rfl, rfl⟩, List.forall_mem_cons.mpr ⟨⟨b_law_ok, m_law, rfl, rfl⟩, (fun _ h => nomatch h)⟩⟩⟩⟩⟩⟩⟩⟩⟩⟩⟩⟩⟩⟩⟩⟩⟩⟩⟩⟩⟩⟩⟩⟩⟩⟩⟩⟩⟩⟩⟩⟩⟩⟩⟩⟩⟩⟩⟩⟩⟩⟩⟩⟩⟩
  kb := List.forall_mem_cons.mpr ⟨fun r h => (Option.some.inj (show some r_is_lot = some r from h)) ▸ ⟨k_0, rfl, by decide⟩, List.forall_mem_cons.mpr ⟨fun r h => (Option.some.inj (show some r_unlike_places = some r from h)) ▸ ⟨k_1, rfl, by decide⟩, List.forall_mem_cons.mpr ⟨fun r h => (Option.some.inj (show some r_joined = some r from h)) ▸ ⟨k_2, rfl, by decide⟩, List.forall_mem_cons.mpr ⟨fun r h => (Option.some.inj (show some r_within = some r from h)) ▸ ⟨k_3, rfl, by decide⟩, List.forall_mem_cons.mpr ⟨fun r h => (Option.some.inj (show some r_lots_within = some r from h)) ▸ ⟨k_4, rfl, by decide⟩, (fun _ h => nomatch h)⟩⟩⟩⟩⟩
  xs := List.forall_mem_cons.mpr ⟨⟨b_InvalidPlaces___init___ok, m_InvalidPlaces___init__, rfl, rfl, by decide, by decide, by decide, by decide⟩, List.forall_mem_cons.mpr ⟨⟨b_InvalidTuple___init___ok, m_InvalidTuple___init__, rfl, rfl, by decide, by decide, by decide, by decide⟩, List.forall_mem_cons.mpr ⟨⟨b_InvalidLot___init___ok, m_InvalidLot___init__, rfl, rfl, by decide, by decide, by decide, by decide⟩, List.forall_mem_cons.mpr ⟨⟨b_InvalidLetters___init___ok, m_InvalidLetters___init__, rfl, rfl, by decide, by decide, by decide, by decide⟩, List.forall_mem_cons.mpr ⟨⟨b_InvalidTable___init___ok, m_InvalidTable___init__, rfl, rfl, by decide, by decide, by decide, by decide⟩, List.forall_mem_cons.mpr ⟨⟨b_NotReturning___init___ok, m_NotReturning___init__, rfl, rfl, by decide, by decide, by decide, by decide⟩, (fun _ h => nomatch h)⟩⟩⟩⟩⟩⟩
  xcl := tab_xcl (xll := xll) (by decide)
  cls := tab_cls (cll := cll) (by decide)
  ini := List.forall_mem_cons.mpr ⟨by decide, (fun _ h => nomatch h)⟩
  gv := ⟨rfl, List.forall_mem_cons.mpr ⟨.inr ⟨_, rfl⟩, List.forall_mem_cons.mpr ⟨.inl ⟨_, rfl⟩, List.forall_mem_cons.mpr ⟨.inl ⟨_, rfl⟩, List.forall_mem_cons.mpr ⟨.inl ⟨_, rfl⟩, List.forall_mem_cons.mpr ⟨.inl ⟨_, rfl⟩, (fun _ h => nomatch h)⟩⟩⟩⟩⟩⟩
theorem fns_eq (K : PySem.W.Frag) : (T.L K).fns = fns := by funext i; show (fnR[i]?).map FR.F = fnl[i]?; rw [← List.getElem?_map]; rfl
theorem G_eq (K : PySem.W.Frag) : (T.L K).G = G := rfl
end K01
end
section
set_option Elab.async false
set_option linter.all false
set_option maxRecDepth 100000
set_option maxHeartbeats 0
namespace K01
open Dy PySem PySem.Spec PyProof.Rows L2
abbrev Rw : PySem.W.OpenRow := PySem.W.OpenLaw.row PySem.Challenge.rw_spareorbits_k01_lots
abbrev dfs : List He.DefD := (T.fn ++ T.xs.map (·.ini)).map FR.dd
abbrev hk : PySem.W.Hook := hookS 8 T.fa dfs (exB T)
def ob (s : PySem.W.SharedT) : He.AlD × Bool := obsS 8 T.fa dfs (exB T) (HandSHeadRun.getT s)
theorem ob_eq (s : PySem.W.SharedT) : ob s = hk.obs s.abs := obsS_eq (HandSHeadRun.getT_eq s)
def loose : List PySem.Str := (["SpareError", "InvalidPlaces", "InvalidTuple", "InvalidLot", "InvalidLetters", "InvalidTable", "is_integer", "is_between", "is_index", "is_tuple", "is_ascending", "SIGNS", "MOST_SIGNS", "MOST_PLACES", "is_name", "are_names", "is_known_lot", "is_lot", "unlike_in", "are_integers", "unlike_places", "need_lot", "joined", "is_within", "within", "all_within", "lots_within", "NotReturning", "MOST_LETTERS", "MOST_STATES"] : List PySem.Str) ++ (["is_table", "coming", "going_back", "first_lost", "Service", "_law_cell", "_law_box", "_law_take", "_law_pick", "_law_same", "_law_grown", "_law_lots", "_law_within", "_law_very", "_law_lot", "_law_is_lot", "_law_no_lots", "_law_tuple", "_law_no_tuples", "_law_call", "_law_asked", "_law_refuses", "_law_judged_right", "_law_unlike_right", "_law_two_right"] : List PySem.Str)
theorem hrun (w : World) : HandSHeadRun.RunEq Rw (PySem.W.view Rw.prog [61]) hk ob 3500 loose w := by
  intro os
  kernel_rfl
def Sem : Prop := ∃ n : Nat, Room (2 * (n + 1) + 2) callerA ∧ ∀ ns : List Int, ns.length ≤ 63 → ∃ m, Dy.run G fns (n + 1) f_law [.ro (ns.map .int)] [] = .ok (.bl true) m
end K01
open PySem PySem.W PySem.Calls PyProof.Rows
theorem K01.holds_of (hs : K01.Sem) : PySem.Challenge.rw_spareorbits_k01_lots.Holds := by
  obtain ⟨n, hroom, hs⟩ := hs
  w_on; o_law
  refine HandSHeadRun.head_any (r := OpenLaw.row PySem.Challenge.rw_spareorbits_k01_lots) (q := view (OpenLaw.row PySem.Challenge.rw_spareorbits_k01_lots).prog [61]) (H := K01.hk) (ob := K01.ob) (M := 3500) (loose := K01.loose) (d := HandSHeadRun.topDef (OpenLaw.row PySem.Challenge.rw_spareorbits_k01_lots).prog 61) (kwd := []) K01.ob_eq
    (by kernel_rfl) (fun s => by kernel_rfl) K01.hrun (by kernel_rfl) (by kernel_rfl) (by kernel_rfl) (by rfl) (by first | assumption | decide +kernel) (by decide +kernel) ⟨rfl, rfl, rfl, rfl, rfl, by decide +kernel⟩ ?hw ?hc
  case hw => w_witness2
  case hc =>
    refine L2.walk_ofE (l := PySem.Challenge.rw_spareorbits_k01_lots) (n := 63) (k := 2 * (n + 1) + 2) (x := "script") (CX := L2.CX0) rfl (by decide) (by kernel_rfl) hroom ?F (fun _ _ _ _ z => z)
    intro w mg fa h Y G hmg0
    obtain ⟨K, KX, c⟩ := Y
    have hmg : mg ("law" : PySem.Str) = some (.ref fa) := by
      have e : (HandSHeadRun.topDef (OpenLaw.row PySem.Challenge.rw_spareorbits_k01_lots).prog 61).name = ("law" : PySem.Str) := by kernel_rfl
      rw [← e]
      exact hmg0
    obtain ⟨fd, hb, hF⟩ := Dy.law_at (n := n) (f := K01.f_law) (r := K01.r_law) (x := "script") K01.ok (P := (PySem.Challenge.rw_spareorbits_k01_lots).prog) (w := w) KX G c.d c.more rfl rfl rfl hmg
    refine ⟨K, fd, _, KX, hb, fun H a ns hl ho hS => ?_, hF⟩
    obtain ⟨m, hm⟩ := hs ns hl
    exact Dy.law_sp (m := m) ⟨_, rfl, rfl⟩ ho hS (by rw [K01.fns_eq]; exact hm)
end
section
set_option linter.all false
set_option maxRecDepth 100000
/-! DyW: what must hold ahead of a run of the interpreter, by the text. Op, Br, W stop the unfolding. -/
namespace Dy
def Res.Wd {α : Type} (r : Res α) (Q : α → Store → Prop) (X : D → Store → Prop) : Prop := match r with
  | .ok a m => Q a m
  | .exc x m => X x m
  | .stuck => False
/-- behind r holds Q, or, if it raises, X -/
structure Res.W {α : Type} (r : Res α) (Q : α → Store → Prop) (X : D → Store → Prop) : Prop where
  go : r.Wd Q X
structure Op {α : Type} (o : Option α) (P : α → Prop) : Prop where
  go : ∃ z, o = some z ∧ P z
structure Br (k : Bool) (A B : Prop) : Prop where
  t : k = true → A
  f : k = false → B
/-- a condition -/
structure Gd (k : Bool) (A : Prop) : Prop where
  h : k = true
  go : A
/-- a length that is let -/
structure Lm (n : Nat) (A : Prop) : Prop where
  h : n ≤ 16777216
  go : A
/-- a range that is let -/
structure Rg (a b : Int) (A : Prop) : Prop where
  h : rgOk a b = true
  go : A
theorem Op_i {α : Type} {o : Option α} {P : α → Prop} {z : α} (h : o = some z) (q : P z) : Op o P := ⟨z, h, q⟩
theorem Br_t {k : Bool} {A B : Prop} (h : k = true) (q : A) : Br k A B := ⟨fun _ => q, fun z => nomatch (h.symm.trans z)⟩
theorem Br_f {k : Bool} {A B : Prop} (h : k = false) (q : B) : Br k A B := ⟨fun z => (nomatch (h.symm.trans z)), fun _ => q⟩
theorem Br_q {k : Bool} {P : Bool → Prop} (h : P k) : Br k (P true) (P false) := ⟨fun e => e ▸ h, fun e => e ▸ h⟩
theorem Gd_i {k : Bool} {A : Prop} (h : k = true) (q : A) : Gd k A := ⟨h, q⟩
theorem Lm_i {n : Nat} {A : Prop} (h : n ≤ 16777216) (q : A) : Lm n A := ⟨h, q⟩
theorem Rg_i {a b : Int} {A : Prop} (h1 : 0 ≤ a) (h2 : a ≤ 16777216) (h3 : 0 ≤ b) (h4 : b ≤ 16777216) (q : A) : Rg a b A := ⟨by
  unfold rgOk
  refine decide_eq_true ⟨by omega, by omega, by omega, by omega, ?_⟩
  show (b - a).toNat ≤ 16777216
  omega, q⟩
theorem W_eq {α : Type} {r : Res α} {a : α} {m : Store} {Q : α → Store → Prop} {X : D → Store → Prop} (e : r = .ok a m) (h : Q a m) : r.W Q X := ⟨by rw [e]; exact h⟩
theorem W_ok {α : Type} {a : α} {m : Store} {Q : α → Store → Prop} {X : D → Store → Prop} (h : Q a m) : (Res.ok a m).W Q X := ⟨h⟩
theorem W_ex {α : Type} {r : Res α} {x : D} {m : Store} {Q : α → Store → Prop} {X : D → Store → Prop} (e : r = .exc x m) (h : X x m) : r.W Q X := ⟨by rw [e]; exact h⟩
theorem W_if {α : Type} {c : Bool} {r r' : Res α} {Q : α → Store → Prop} {X : D → Store → Prop} (h : Br c (r.W Q X) (r'.W Q X)) : (if c = true then r else r').W Q X := by
  cases c with
  | true => exact h.t rfl
  | false => exact h.f rfl
/-- what a run tells, as an equation -/
theorem eq_W {α : Type} {r : Res α} {a : α} {m : Store} (h : r.W (fun b m1 => b = a ∧ m1 = m) fun _ _ => False) : r = .ok a m := by
  obtain ⟨h⟩ := h
  cases r with
  | ok b m1 =>
    obtain ⟨rfl, rfl⟩ := (show b = a ∧ m1 = m from h)
    rfl
  | exc x m1 => exact (show False from h).elim
  | stuck => exact (show False from h).elim
theorem eq_X {α : Type} {r : Res α} {x : D} {m : Store} (h : r.W (fun _ _ => False) fun b m1 => b = x ∧ m1 = m) : r = .exc x m := by
  obtain ⟨h⟩ := h
  cases r with
  | exc b m1 =>
    obtain ⟨rfl, rfl⟩ := (show b = x ∧ m1 = m from h)
    rfl
  | ok b m1 => exact (show False from h).elim
  | stuck => exact (show False from h).elim
theorem W_ok_of {α : Type} {r : Res α} {Q : α → Store → Prop} (h : r.W Q fun _ _ => False) : ∃ a m, r = .ok a m ∧ Q a m := by
  obtain ⟨h⟩ := h
  cases r with
  | ok b m1 => exact ⟨b, m1, rfl, h⟩
  | exc x m1 => exact (show False from h).elim
  | stuck => exact (show False from h).elim
/-- what each end of a statement must keep -/
structure Fl where
  nx : Loc → Store → Prop
  rt : D → Store → Prop
  brk : Loc → Store → Prop := fun _ _ => False
  ct : Loc → Store → Prop := fun _ _ => False
  exc : D → Loc → Store → Prop := fun _ _ _ => False
def Flw.Wd (r : Flw) (F : Fl) : Prop := match r with
  | .nx σ m => F.nx σ m
  | .rt d m => F.rt d m
  | .brk σ m => F.brk σ m
  | .ct σ m => F.ct σ m
  | .exc x σ m => F.exc x σ m
  | .stuck => False
structure Flw.W (r : Flw) (F : Fl) : Prop where
  go : r.Wd F
theorem Res.W_bind {α β : Type} {r : Res α} {f : α → Store → Res β} {Q : β → Store → Prop} {X : D → Store → Prop} (h : r.W (fun a m => (f a m).W Q X) X) : (r.bind f).W Q X := by
  obtain ⟨h⟩ := h
  cases r with
  | ok a m => exact h
  | exc x m => exact ⟨h⟩
  | stuck => exact ⟨h⟩
theorem Res.W_go {α : Type} {r : Res α} {σ : Loc} {f : α → Store → Flw} {F : Fl} (h : r.W (fun a m => (f a m).W F) (fun x m => F.exc x σ m)) : (r.go σ f).W F := by
  obtain ⟨h⟩ := h
  cases r with
  | ok a m => exact h
  | exc x m => exact ⟨h⟩
  | stuck => exact ⟨h⟩
theorem Flw.W_go {r : Flw} {f : Loc → Store → Flw} {F : Fl} (h : r.W { F with nx := fun σ m => (f σ m).W F }) : (r.go f).W F := by
  obtain ⟨h⟩ := h
  cases r with
  | nx σ m => exact h
  | _ => exact ⟨h⟩
theorem Res.W_mono {α : Type} {r : Res α} {Q Q' : α → Store → Prop} {X X' : D → Store → Prop} (h : r.W Q X) (hq : ∀ a m, Q a m → Q' a m) (hx : ∀ x m, X x m → X' x m) : r.W Q' X' := by
  obtain ⟨h⟩ := h
  cases r with
  | ok a m => exact ⟨hq _ _ h⟩
  | exc x m => exact ⟨hx _ _ h⟩
  | stuck => exact ⟨h⟩
theorem Res.W_and {α : Type} {r : Res α} {Q Q' : α → Store → Prop} {X X' : D → Store → Prop} (h : r.W Q X) (h' : r.W Q' X') : r.W (fun a m => Q a m ∧ Q' a m) fun a m => X a m ∧ X' a m := by
  obtain ⟨h⟩ := h
  obtain ⟨h'⟩ := h'
  cases r with
  | ok a m => exact ⟨h, h'⟩
  | exc x m => exact ⟨h, h'⟩
  | stuck => exact ⟨h⟩
theorem Res.W_ofO {α : Type} {m : Store} {o : Option α} {Q : α → Store → Prop} {X : D → Store → Prop} (h : Op o fun z => Q z m) : (ofO m o).W Q X := by
  obtain ⟨z, rfl, h⟩ := h
  exact ⟨h⟩
theorem Flw.W_mono {r : Flw} {F F' : Fl} (h : r.W F) (h1 : ∀ σ m, F.nx σ m → F'.nx σ m) (h2 : ∀ d m, F.rt d m → F'.rt d m) (h3 : ∀ σ m, F.brk σ m → F'.brk σ m) (h4 : ∀ σ m, F.ct σ m → F'.ct σ m) (h5 : ∀ x σ m, F.exc x σ m → F'.exc x σ m) : r.W F' := by
  obtain ⟨h⟩ := h
  cases r
  · exact ⟨h1 _ _ h⟩
  · exact ⟨h3 _ _ h⟩
  · exact ⟨h4 _ _ h⟩
  · exact ⟨h2 _ _ h⟩
  · exact ⟨h5 _ _ _ h⟩
  · exact ⟨h⟩
/-! ### comprehensions, loops, by what a turn asks -/
abbrev PL := List D → Store → Prop
/-- the turns of a comprehension -/
def wpLc (turn : D → Store → (Option D → Store → Prop) → Prop) : List D → Store → PL → Prop
  | [], m, Q => Q [] m
  | x :: r, m, Q => turn x m fun o m1 => wpLc turn r m1 fun ys m2 => Q (match o with
    | some y => y :: ys
    | none => ys) m2
/-- over a cell's list, which stays -/
def wpLk (turn : D → Store → (Option D → Store → Prop) → Prop) (k : Nat) (all : List D) : List D → Store → PL → Prop
  | [], m, Q => m[k]? = some (.lst all) ∧ Q [] m
  | x :: r, m, Q => m[k]? = some (.lst all) ∧ turn x m fun o m1 => wpLk turn k all r m1 fun ys m2 => Q (match o with
    | some y => y :: ys
    | none => ys) m2
structure WLc (turn : D → Store → (Option D → Store → Prop) → Prop) (s : Src) (m : Store) (Q : PL) : Prop where
  go : match s with
    | .fix xs => wpLc turn xs m Q
    | .cel k => ∃ xs, m[k]? = some (.lst xs) ∧ xs.length ≤ lim ∧ wpLk turn k xs xs m Q
    | .dic _ _ _ => False
def wpFor (body : Loc → Store → Fl → Prop) (tg : Tg) : List D → Loc → Store → Fl → Prop
  | [], σ, m, F => F.nx σ m
  | x :: r, σ, m, F => Op (bindTg tg x σ) fun σ1 => body σ1 m { F with nx := fun σ m => wpFor body tg r σ m F, ct := fun σ m => wpFor body tg r σ m F, brk := F.nx }
/-- a loop over a cell's list by what holds ahead of each turn: the index, the slots, the store -/
structure WFor (body : Loc → Store → Fl → Prop) (tg : Tg) (s : Src) (σ : Loc) (m : Store) (F : Fl) : Prop where
  go : match s with
    | .fix xs => wpFor body tg xs σ m F
    | .cel k => ∃ (I : Nat → Loc → Store → Prop) (μ : Nat), μ ≤ lim ∧ I 0 σ m ∧ ∀ i σ m, I i σ m → ∃ xs, m[k]? = some (.lst xs) ∧ i ≤ xs.length ∧ xs.length ≤ μ ∧ (xs.length = i → F.nx σ m) ∧ ∀ x, xs[i]? = some x → Op (bindTg tg x σ) fun σ1 => body σ1 m { F with nx := I (i + 1), ct := I (i + 1), brk := F.nx }
    | .dic _ _ _ => False
/-- a while loop by what holds ahead of each turn, and a measure -/
structure WWh (test : Loc → Store → (Bool → Store → Prop) → (D → Store → Prop) → Prop) (body : Loc → Store → Fl → Prop) (σ : Loc) (m : Store) (F : Fl) : Prop where
  go : ∃ (I : Nat → Loc → Store → Prop) (μ : Nat), μ ≤ lim ∧ I μ σ m ∧ ∀ μ σ m, I μ σ m → test σ m (fun k m1 => Br k (0 < μ ∧ body σ m1 { F with nx := fun σ m => ∃ μ', μ' < μ ∧ I μ' σ m, ct := fun σ m => ∃ μ', μ' < μ ∧ I μ' σ m, brk := F.nx }) (F.nx σ m1)) fun x m1 => F.exc x σ m1
def getL (σ : Loc) (i : Nat) : Option D := (σ[i]?).bind id
def noX : D → Store → Prop := fun _ _ => False
section
variable (G : Env) (Γ : Fns)
mutual
def wpE : E → Loc → Store → (D → Store → Prop) → (D → Store → Prop) → Prop
  | .var i, σ, m, Q, _ => Op (getL σ i) fun d => Q d m
  | .lit l, _, m, Q, _ => Q l.d m
  | .glb x, _, m, Q, _ => Op (G.glb x) fun d => Q d m
  | .bin op a b, σ, m, Q, X => wpE a σ m (fun x m1 => wpE b σ m1 (fun y m2 => Op (binD m2 op x y) fun z => Q z m2) X) X
  | .neg a, σ, m, Q, X => wpE a σ m (fun x m1 => Op (optI x) fun i => Q (.int (-i)) m1) X
  | .cmp op a b, σ, m, Q, X => wpE a σ m (fun x m1 => wpE b σ m1 (fun y m2 => Op (cmpD m2 op x y) fun k => Q (.bl k) m2) X) X
  | .chain op op' a b c, σ, m, Q, X => wpE a σ m (fun x m1 => wpE b σ m1 (fun y m2 => Op (cmpD m2 op x y) fun k => Br k (wpE c σ m2 (fun z m4 => Op (cmpD m4 op' y z) fun k' => Q (.bl k') m4) X) (Q (.bl false) m2)) X) X
  | .isc no a l, σ, m, Q, X => wpE a σ m (fun x m1 => Op (iscD x l) fun k => Q (.bl (k != no)) m1) X
  | .bop isAnd es, σ, m, Q, X => wpB isAnd es σ m Q X
  | .notv a, σ, m, Q, X => wpE a σ m (fun x m1 => Op (truD m1 x) fun k => Q (.bl (!k)) m1) X
  | .ife t a b, σ, m, Q, X => wpT t σ m (fun k m1 => Br k (wpE a σ m1 Q X) (wpE b σ m1 Q X)) X
  | .tup es, σ, m, Q, X => wpEs es σ m (fun vs m1 => Q (.tup vs) m1) X
  | .tupS a b, σ, m, Q, X => wpE a σ m (fun x m1 => Op (m1.seqAt x) fun xs => wpE b σ m1 (fun y m2 => Lm (xs.length + 1) (Q (.tup (xs ++ [y])) m2)) X) X
  | .lst true es, σ, m, Q, X => wpEs es σ m (fun vs m1 => Q (.cell m1.length) (m1 ++ [.lst vs])) X
  | .lst false es, σ, m, Q, X => wpEs es σ m (fun vs m1 => Q (.fl vs) m1) X
  | .new a, σ, m, Q, X => wpE a σ m (fun x m1 => match x with
    | .fl xs => Q (.cell m1.length) (m1 ++ [.lst xs])
    | _ => False) X
  | .dsp kvs, σ, m, Q, X => wpEs kvs σ (m ++ [.dct false []]) (fun xs m1 => Op (pairsD xs) fun ps => m1[m.length]? = some (.dct false []) ∧ Gd (decide (ps.length ≤ 15)) (Q (.cell m.length) (m1.set m.length (.dct false (ps.foldl (fun kvs p => putK p.1 p.2 kvs) []))))) X
  | .idx a i, σ, m, Q, X => wpE a σ m (fun x m1 => wpE i σ m1 (fun y m2 => Op (idxD m2 x y) fun z => Q z m2) X) X
  | .slc a lo hi, σ, m, Q, X => wpE a σ m (fun x m1 => wpO lo σ m1 (fun l m2 => wpO hi σ m2 (fun h m3 => Op (slcD m3 x l h) fun z => Q z m3) X) X) X
  | .rev a, σ, m, Q, X => wpE a σ m (fun x m1 => Op (revD m1 x) fun z => Q z m1) X
  | .fld a f, σ, m, Q, X => wpE a σ m (fun x m1 => match x with
    | .ob c ns fs => Gd (G.cls c).isSome (Op (getF f ns fs) fun z => Q z m1)
    | .cell k => ∃ c ns fs, m1[k]? = some (.ins c ns fs) ∧ Gd (G.cls c).isSome (Op (getF f ns fs) fun z => Q z m1)
    | _ => False) X
  | .call f es, σ, m, Q, X => wpEs es σ m (fun vs m1 => (Γ f vs m1).W Q X) X
  | .callk f es kes pm, σ, m, Q, X => wpEs es σ m (fun vs m1 => wpEs kes σ m1 (fun ws m2 => Op (permD (vs ++ ws) pm) fun us => (Γ f us m2).W Q X) X) X
  | .make c es, σ, m, Q, X => wpEs es σ m (fun vs m1 => (makeD G Γ c vs m1).W Q X) X
  | .bi b es, σ, m, Q, X => wpEs es σ m (fun vs m1 => Op (biD m1 b vs) fun z => Q z m1) X
  | .isi a _ ts, σ, m, Q, X => wpE a σ m (fun x m1 => Gd (alive (fun c => (G.cls c).isSome) m1 x) (Q (.bl (ts.any fun t => isTy G.sup m1 x t)) m1)) X
  | .rng tupled es, σ, m, Q, X => wpEs es σ m (fun vs m1 => match vs with
    | [.int b] => Rg 0 b (Q (if tupled then .tup (rngD 0 b) else .fl (rngD 0 b)) m1)
    | [.int a, .int b] => Rg a b (Q (if tupled then .tup (rngD a b) else .fl (rngD a b)) m1)
    | _ => False) X
  | .lenset a, σ, m, Q, X => wpE a σ m (fun x m1 => Op (lensetD x) fun n => Q (.int (n : Nat)) m1) X
  | .sortset a, σ, m, Q, X => wpE a σ m (fun x m1 => Op (sortsetD x) fun xs => Q (.fl xs) m1) X
  | .app a e, σ, m, Q, X => wpE a σ m (fun x m1 => Op (m1.lstOf x) fun k => wpE e σ m1 (fun y m2 => ∃ xs, m2[k]? = some (.lst xs) ∧ Lm (xs.length + 1) (Q .non (m2.set k (.lst (xs ++ [y]))))) X) X
  | .ext a e, σ, m, Q, X => wpE a σ m (fun x m1 => Op (m1.lstOf x) fun k => wpE e σ m1 (fun y m2 => ∃ ys xs, m2.flat y = .fl ys ∧ m2[k]? = some (.lst xs) ∧ Lm (xs.length + ys.length) (Q .non (m2.set k (.lst (xs ++ ys))))) X) X
  | .lc mu elt tg it cond own, σ, m, Q, X => wpI it σ m (fun s m1 => WLc (fun d m1 R => Op (bindTg tg d (wipeD σ own)) fun σ1 => wpC cond σ1 m1 (fun k m2 => Br k (wpE elt σ1 m2 (fun y m3 => R (some y) m3) noX) (R none m2)) noX) s m1 fun ys m2 => Lm ys.length (match mu with
    | true => Q (.cell m2.length) (m2 ++ [.lst ys])
    | false => Q (.fl ys) m2)) X
  | .lck i e, σ, m, Q, X => Op (getL σ i) fun d => match d with
    | .cell k => (∃ kvs, m[k]? = some (.dct false kvs) ∧ wpE e σ (m.set k (.dct true kvs)) (fun d m1 => ∃ b kvs1, d = .bl b ∧ m1[k]? = some (.dct true kvs1) ∧ Q (.bl b) (m1.set k (.dct false kvs1))) noX) ∨ ((∀ kvs, m[k]? ≠ some (.dct false kvs)) ∧ wpE e σ m Q X)
    | _ => wpE e σ m Q X
def wpEs : Es → Loc → Store → (List D → Store → Prop) → (D → Store → Prop) → Prop
  | .nil, _, m, Q, _ => Q [] m
  | .cons e r, σ, m, Q, X => wpE e σ m (fun x m1 => wpEs r σ m1 (fun xs m2 => Q (x :: xs) m2) X) X
def wpB (isAnd : Bool) : Es → Loc → Store → (D → Store → Prop) → (D → Store → Prop) → Prop
  | .nil, _, _, _, _ => False
  | .cons e .nil, σ, m, Q, X => wpE e σ m Q X
  | .cons e r, σ, m, Q, X => wpE e σ m (fun x m1 => Op (truD m1 x) fun k => Br (k == isAnd) (wpB isAnd r σ m1 Q X) (Q x m1)) X
def wpBT (isAnd : Bool) : Ts → Loc → Store → (Bool → Store → Prop) → (D → Store → Prop) → Prop
  | .nil, _, _, _, _ => False
  | .cons t .nil, σ, m, Q, X => wpT t σ m Q X
  | .cons t r, σ, m, Q, X => wpT t σ m (fun k m1 => Br (k == isAnd) (wpBT isAnd r σ m1 Q X) (Q (!isAnd) m1)) X
def wpT : T → Loc → Store → (Bool → Store → Prop) → (D → Store → Prop) → Prop
  | .bop isAnd ts, σ, m, Q, X => wpBT isAnd ts σ m Q X
  | .notv t, σ, m, Q, X => wpT t σ m (fun k m1 => Q (!k) m1) X
  | .e a, σ, m, Q, X => wpE a σ m (fun x m1 => Op (truD m1 x) fun k => Q k m1) X
def wpO : Oe → Loc → Store → (Option Int → Store → Prop) → (D → Store → Prop) → Prop
  | .none, _, m, Q, _ => Q none m
  | .some e, σ, m, Q, X => wpE e σ m (fun x m1 => Op (optI x) fun i => Q (some i) m1) X
def wpC : Ot → Loc → Store → (Bool → Store → Prop) → (D → Store → Prop) → Prop
  | .none, _, m, Q, _ => Q true m
  | .some t, σ, m, Q, X => wpT t σ m Q X
def wpI : Wk → Loc → Store → (Src → Store → Prop) → (D → Store → Prop) → Prop
  | .e a, σ, m, Q, X => wpE a σ m (fun x m1 => Op (m1.src x) fun s => Q s m1) X
  | .rng1 a, σ, m, Q, X => wpE a σ m (fun x m1 => Op (optI x) fun b => Rg 0 b (Q (.fix (rngD 0 b)) m1)) X
  | .rng2 a b, σ, m, Q, X => wpE a σ m (fun x m1 => wpE b σ m1 (fun y m2 => Op (optI x) fun i => Op (optI y) fun j => Rg i j (Q (.fix (rngD i j)) m2)) X) X
  | .enum a, σ, m, Q, X => wpE a σ m (fun x m1 => match x with
    | .fl xs => Q (.fix (enumD xs)) m1
    | .ro xs => Q (.fix (enumD xs)) m1
    | .tup xs => Q (.fix (enumD xs)) m1
    | _ => False) X
end
/-! ### statements -/
def hdW (x : D) (σ : Loc) (m : Store) (F : Fl) : List Hd → Prop
  | [] => F.exc x σ m
  | h :: r => match x with
    | .ex c ns _ => Op (G.xcl c) fun C => Gd (ns == C.fs) (Br (G.sup c h.c) (match h.items with
      | none => F.rt .non m
      | some hs => Op (hdItems x hs) fun ds => F.rt (.fl ds) m) (hdW x σ m F r))
    | _ => False
mutual
def wpS : S → Loc → Store → Fl → Prop
  | .set i e, σ, m, F => wpE G Γ e σ m (fun d m1 => F.nx (σ.set i (some d)) m1) (fun x m => F.exc x σ m)
  | .par is es, σ, m, F => wpEs G Γ es σ m (fun ds m1 => Gd (decide (ds.length = is.length)) (F.nx ((is.zip ds).foldl (fun σ p => σ.set p.1 (some p.2)) σ) m1)) (fun x m => F.exc x σ m)
  | .unp is e, σ, m, F => wpE G Γ e σ m (fun d m1 => Op (bindTg (.tp is) d σ) fun σ1 => F.nx σ1 m1) (fun x m => F.exc x σ m)
  | .setix a i e, σ, m, F => wpE G Γ e σ m (fun v m1 => wpE G Γ a σ m1 (fun x m2 => wpE G Γ i σ m2 (fun y m3 => Op (setixD m3 x y v) fun m4 => F.nx σ m4) (fun x m => F.exc x σ m)) (fun x m => F.exc x σ m)) (fun x m => F.exc x σ m)
  | .setfld a f e, σ, m, F => wpE G Γ e σ m (fun v m1 => wpE G Γ a σ m1 (fun x m2 => Op (setfldD G m2 x f v) fun m3 => F.nx σ m3) (fun x m => F.exc x σ m)) (fun x m => F.exc x σ m)
  | .aug i op e, σ, m, F => Op (getL σ i) fun x => wpE G Γ e σ m (fun y m1 => Op (augD op x y) fun z => F.nx (σ.set i (some z)) m1) (fun x m => F.exc x σ m)
  | .ex e, σ, m, F => wpE G Γ e σ m (fun _ m1 => F.nx σ m1) (fun x m => F.exc x σ m)
  | .ret e, σ, m, F => wpE G Γ e σ m (fun d m1 => F.rt d m1) (fun x m => F.exc x σ m)
  | .retN, _, m, F => F.rt .non m
  | .ite t a b, σ, m, F => wpT G Γ t σ m (fun k m1 => Br k (wpSs a σ m1 F) (wpSs b σ m1 F)) (fun x m => F.exc x σ m)
  | .for tg it b, σ, m, F => wpI G Γ it σ m (fun s m1 => WFor (fun σ m F => wpSs b σ m F) tg s σ m1 F) (fun x m => F.exc x σ m)
  | .while t b, σ, m, F => WWh (fun σ m Q X => wpT G Γ t σ m Q X) (fun σ m F => wpSs b σ m F) σ m F
  | .brk, σ, m, F => F.brk σ m
  | .ct, σ, m, F => F.ct σ m
  | .pass, σ, m, F => F.nx σ m
  | .raise c es, σ, m, F => wpEs G Γ es σ m (fun vs m1 => Op (G.xcl c) fun C => Gd (decide (vs.length = C.fs.length)) (F.exc (.ex c C.fs vs) σ m1)) (fun x m => F.exc x σ m)
  | .tryx b hs, σ, m, F => wpSs b σ m { F with exc := fun x σ1 m1 => hdW G x σ1 m1 F hs }
  | .frz i, σ, m, F => Op (getL σ i) fun x => Op (frzD m x) fun p => F.nx (σ.set i (some p.1)) p.2
def wpSs : Ss → Loc → Store → Fl → Prop
  | .nil, σ, m, F => F.nx σ m
  | .cons s r, σ, m, F => wpS s σ m { F with nx := fun σ m => wpSs r σ m F }
end
end
/-! ### it is sound -/
theorem getL_eq {σ : Loc} {i : Nat} {d : D} (h : getL σ i = some d) : σ[i]? = some (some d) := by
  unfold getL at h
  cases e : σ[i]? with
  | none => rw [e] at h; cases h
  | some o =>
    rw [e] at h
    have h : o = some d := h
    rw [h]
theorem optI_eq {x : D} {i : Int} (h : optI x = some i) : x = .int i := by
  cases x <;> first | (cases h; rfl) | cases h
section
variable {G : Env} {Γ : Fns}
/-- the turn of a comprehension -/
def lcTurn (G : Env) (Γ : Fns) (elt : E) (tg : Tg) (cond : Ot) (own : List Nat) (σ : Loc) (d : D) (m : Store) : Res (Option D) := match bindTg tg d (wipeD σ own) with
  | some σ1 => ((evC G Γ cond σ1 m).bind fun k m1 => if k then (evE G Γ elt σ1 m1).bind fun y m2 => .ok (some y) m2 else .ok none m1).noexc
  | none => .stuck
theorem noexc_W {α : Type} {r : Res α} {Q : α → Store → Prop} {X : D → Store → Prop} (h : r.W Q noX) : r.noexc.W Q X := by
  obtain ⟨h⟩ := h
  cases r with
  | ok a m => exact ⟨h⟩
  | exc x m => exact (show False from h).elim
  | stuck => exact (show False from h).elim
theorem lcL_W {tn : D → Store → Res (Option D)} {wt : D → Store → (Option D → Store → Prop) → Prop} {X : D → Store → Prop} (ht : ∀ d m R, wt d m R → (tn d m).W R X) : ∀ (xs : List D) (m : Store) (Q : PL), wpLc wt xs m Q → (lcL tn xs m).W Q X
  | [], m, Q, h => ⟨h⟩
  | x :: r, m, Q, h => by
    rw [lcL]
    exact Res.W_bind (Res.W_mono (ht x m _ h) (fun o m1 h => Res.W_bind (Res.W_mono (lcL_W ht r m1 _ h) (fun ys m2 h => ⟨h⟩) fun _ _ h => h)) fun _ _ h => h)
theorem lcC_W {tn : D → Store → Res (Option D)} {wt : D → Store → (Option D → Store → Prop) → Prop} {X : D → Store → Prop} (ht : ∀ d m R, wt d m R → (tn d m).W R X) (k : Nat) (all : List D) : ∀ (xs : List D) (μ i : Nat) (m : Store) (Q : PL), all.drop i = xs → xs.length < μ → wpLk wt k all xs m Q → (lcC tn k μ i m).W Q X
  | xs, 0, i, m, Q, _, hl, _ => absurd hl (Nat.not_lt_zero _)
  | [], μ + 1, i, m, Q, e, hl, h => by
    rw [lcC]
    have hn : all[i]? = none := List.getElem?_eq_none_iff.mpr (List.drop_eq_nil_iff.mp e)
    simp only [h.1, hn]
    exact ⟨h.2⟩
  | x :: r, μ + 1, i, m, Q, e, hl, h => by
    rw [lcC]
    have hs : all[i]? = some x := by
      have q : (all.drop i)[0]? = some x := by rw [e] <;> rfl
      rwa [List.getElem?_drop, Nat.add_zero] at q
    have e' : all.drop (i + 1) = r := by rw [← List.drop_drop, e] <;> rfl
    simp only [h.1, hs]
    exact Res.W_bind (Res.W_mono (ht x m _ h.2) (fun o m1 h => Res.W_bind (Res.W_mono (lcC_W ht k all r μ (i + 1) m1 _ e' (by simpa using hl) h) (fun ys m2 h => ⟨h⟩) fun _ _ h => h)) fun _ _ h => h)
mutual
theorem wpE_ok : ∀ (e : E) (σ : Loc) (m : Store) (Q : D → Store → Prop) (X : D → Store → Prop), wpE G Γ e σ m Q X → (evE G Γ e σ m).W Q X
  | .var i, σ, m, Q, X, h => by
    rw [wpE] at h
    obtain ⟨d, hd, h⟩ := h
    rw [evE, getL_eq hd]
    exact ⟨h⟩
  | .lit l, σ, m, Q, X, h => by rw [wpE] at h; rw [evE]; exact ⟨h⟩
  | .glb x, σ, m, Q, X, h => by
    rw [wpE] at h
    rw [evE]
    exact Res.W_ofO h
  | .bin op a b, σ, m, Q, X, h => by
    rw [wpE] at h
    rw [evE]
    exact Res.W_bind (Res.W_mono (wpE_ok a σ m _ _ h) (fun x m1 h => Res.W_bind (Res.W_mono (wpE_ok b σ m1 _ _ h) (fun y m2 h => Res.W_ofO h) fun _ _ h => h)) fun _ _ h => h)
  | .neg a, σ, m, Q, X, h => by
    rw [wpE] at h
    rw [evE]
    exact Res.W_bind (Res.W_mono (wpE_ok a σ m _ _ h) (fun x m1 ⟨i, e, h⟩ => by rw [optI_eq e]; exact ⟨h⟩) fun _ _ h => h)
  | .cmp op a b, σ, m, Q, X, h => by
    rw [wpE] at h
    rw [evE]
    exact Res.W_bind (Res.W_mono (wpE_ok a σ m _ _ h) (fun x m1 h => Res.W_bind (Res.W_mono (wpE_ok b σ m1 _ _ h) (fun y m2 ⟨k, e, h⟩ => Res.W_ofO ⟨_, by rw [e]; rfl, h⟩) fun _ _ h => h)) fun _ _ h => h)
  | .chain op op' a b c, σ, m, Q, X, h => by
    rw [wpE] at h
    rw [evE]
    refine Res.W_bind (Res.W_mono (wpE_ok a σ m _ _ h) (fun x m1 h => Res.W_bind (Res.W_mono (wpE_ok b σ m1 _ _ h) (fun y m2 ⟨k, e, h1, h2⟩ => ?_) fun _ _ h => h)) fun _ _ h => h)
    rw [e]
    cases k with
    | true =>
      refine Res.W_bind (Res.W_ofO ⟨true, rfl, ?_⟩)
      rw [if_pos rfl]
      exact Res.W_bind (Res.W_mono (wpE_ok c σ m2 _ _ (h1 rfl)) (fun z m4 ⟨k', e, h⟩ => Res.W_ofO ⟨_, by rw [e]; rfl, h⟩) fun _ _ h => h)
    | false =>
      refine Res.W_bind (Res.W_ofO ⟨false, rfl, ?_⟩)
      rw [if_neg (by simp)]
      exact ⟨h2 rfl⟩
  | .isc no a l, σ, m, Q, X, h => by
    rw [wpE] at h
    rw [evE]
    exact Res.W_bind (Res.W_mono (wpE_ok a σ m _ _ h) (fun x m1 ⟨k, e, h⟩ => Res.W_ofO ⟨_, by rw [e]; rfl, h⟩) fun _ _ h => h)
  | .bop isAnd es, σ, m, Q, X, h => by
    rw [wpE] at h
    rw [evE]
    exact wpB_ok isAnd es σ m Q X h
  | .notv a, σ, m, Q, X, h => by
    rw [wpE] at h
    rw [evE]
    exact Res.W_bind (Res.W_mono (wpE_ok a σ m _ _ h) (fun x m1 ⟨k, e, h⟩ => Res.W_ofO ⟨_, by rw [e]; rfl, h⟩) fun _ _ h => h)
  | .ife t a b, σ, m, Q, X, h => by
    rw [wpE] at h
    rw [evE]
    refine Res.W_bind (Res.W_mono (wpT_ok t σ m _ _ h) (fun k m1 ⟨h1, h2⟩ => ?_) fun _ _ h => h)
    cases k with
    | true => exact wpE_ok a σ m1 Q X (h1 rfl)
    | false => exact wpE_ok b σ m1 Q X (h2 rfl)
  | .tup es, σ, m, Q, X, h => by
    rw [wpE] at h
    rw [evE]
    exact Res.W_bind (Res.W_mono (wpEs_ok es σ m _ _ h) (fun vs m1 h => ⟨h⟩) fun _ _ h => h)
  | .tupS a b, σ, m, Q, X, h => by
    rw [wpE] at h
    rw [evE]
    refine Res.W_bind (Res.W_mono (wpE_ok a σ m _ _ h) (fun x m1 ⟨xs, e, h⟩ => ?_) fun _ _ h => h)
    simp only [e]
    refine Res.W_bind (Res.W_mono (wpE_ok b σ m1 _ _ h) (fun y m2 ⟨hl, h⟩ => ?_) fun _ _ h => h)
    rw [if_pos (show xs.length < lim from hl)]
    exact ⟨h⟩
  | .lst true es, σ, m, Q, X, h => by
    rw [wpE] at h
    rw [evE]
    exact Res.W_bind (Res.W_mono (wpEs_ok es σ m _ _ h) (fun vs m1 h => ⟨h⟩) fun _ _ h => h)
  | .lst false es, σ, m, Q, X, h => by
    rw [wpE] at h
    rw [evE]
    exact Res.W_bind (Res.W_mono (wpEs_ok es σ m _ _ h) (fun vs m1 h => ⟨h⟩) fun _ _ h => h)
  | .new a, σ, m, Q, X, h => by
    rw [wpE] at h
    rw [evE]
    exact Res.W_bind (Res.W_mono (wpE_ok a σ m _ _ h) (fun x m1 h => by cases x <;> first | exact ⟨h⟩ | exact h.elim) fun _ _ h => h)
  | .dsp kvs, σ, m, Q, X, h => by
    rw [wpE] at h
    rw [evE]
    refine Res.W_bind (Res.W_mono (wpEs_ok kvs σ _ _ _ h) (fun xs m1 ⟨ps, e, em, hl, h⟩ => ?_) fun _ _ h => h)
    simp only [e, em, if_pos (of_decide_eq_true hl)]
    exact ⟨h⟩
  | .idx a i, σ, m, Q, X, h => by
    rw [wpE] at h
    rw [evE]
    exact Res.W_bind (Res.W_mono (wpE_ok a σ m _ _ h) (fun x m1 h => Res.W_bind (Res.W_mono (wpE_ok i σ m1 _ _ h) (fun y m2 h => Res.W_ofO h) fun _ _ h => h)) fun _ _ h => h)
  | .slc a lo hi, σ, m, Q, X, h => by
    rw [wpE] at h
    rw [evE]
    exact Res.W_bind (Res.W_mono (wpE_ok a σ m _ _ h) (fun x m1 h => Res.W_bind (Res.W_mono (wpO_ok lo σ m1 _ _ h) (fun l m2 h => Res.W_bind (Res.W_mono (wpO_ok hi σ m2 _ _ h) (fun y m3 h => Res.W_ofO h) fun _ _ h => h)) fun _ _ h => h)) fun _ _ h => h)
  | .rev a, σ, m, Q, X, h => by
    rw [wpE] at h
    rw [evE]
    exact Res.W_bind (Res.W_mono (wpE_ok a σ m _ _ h) (fun x m1 h => Res.W_ofO h) fun _ _ h => h)
  | .fld a f, σ, m, Q, X, h => by
    rw [wpE] at h
    rw [evE]
    refine Res.W_bind (Res.W_mono (wpE_ok a σ m _ _ h) (fun x m1 h => ?_) fun _ _ h => h)
    cases x <;> simp only at h ⊢ <;> first
      | exact h.elim
      | (obtain ⟨hc, h⟩ := h
         rw [if_pos hc]
         exact Res.W_ofO h)
      | (obtain ⟨c, ns, fs, em, hc, h⟩ := h
         simp only [em, if_pos hc]
         exact Res.W_ofO h)
  | .call f es, σ, m, Q, X, h => by
    rw [wpE] at h
    rw [evE]
    exact Res.W_bind (Res.W_mono (wpEs_ok es σ m _ _ h) (fun vs m1 h => h) fun _ _ h => h)
  | .callk f es kes pm, σ, m, Q, X, h => by
    rw [wpE] at h
    rw [evE]
    exact Res.W_bind (Res.W_mono (wpEs_ok es σ m _ _ h) (fun vs m1 h => Res.W_bind (Res.W_mono (wpEs_ok kes σ m1 _ _ h) (fun ws m2 ⟨us, e, h⟩ => by simp only [e]; exact h) fun _ _ h => h)) fun _ _ h => h)
  | .make c es, σ, m, Q, X, h => by
    rw [wpE] at h
    rw [evE]
    exact Res.W_bind (Res.W_mono (wpEs_ok es σ m _ _ h) (fun vs m1 h => h) fun _ _ h => h)
  | .bi b es, σ, m, Q, X, h => by
    rw [wpE] at h
    rw [evE]
    exact Res.W_bind (Res.W_mono (wpEs_ok es σ m _ _ h) (fun vs m1 h => Res.W_ofO h) fun _ _ h => h)
  | .isi a _ ts, σ, m, Q, X, h => by
    rw [wpE] at h
    rw [evE]
    exact Res.W_bind (Res.W_mono (wpE_ok a σ m _ _ h) (fun x m1 ⟨e, h⟩ => by rw [if_pos e]; exact ⟨h⟩) fun _ _ h => h)
  | .rng k es, σ, m, Q, X, h => by
    rw [wpE] at h
    rw [evE]
    refine Res.W_bind (Res.W_mono (wpEs_ok es σ m _ _ h) (fun vs m1 h => ?_) fun _ _ h => h)
    match vs, h with
    | [.int b], h => exact (by simp only [if_pos h.h]; exact ⟨h.go⟩)
    | [.int a, .int b], h => exact (by simp only [if_pos h.h]; exact ⟨h.go⟩)
  | .lenset a, σ, m, Q, X, h => by
    rw [wpE] at h
    rw [evE]
    exact Res.W_bind (Res.W_mono (wpE_ok a σ m _ _ h) (fun x m1 ⟨n, e, h⟩ => Res.W_ofO ⟨_, by rw [e]; rfl, h⟩) fun _ _ h => h)
  | .sortset a, σ, m, Q, X, h => by
    rw [wpE] at h
    rw [evE]
    exact Res.W_bind (Res.W_mono (wpE_ok a σ m _ _ h) (fun x m1 ⟨n, e, h⟩ => Res.W_ofO ⟨_, by rw [e]; rfl, h⟩) fun _ _ h => h)
  | .app a e, σ, m, Q, X, h => by
    rw [wpE] at h
    rw [evE]
    refine Res.W_bind (Res.W_mono (wpE_ok a σ m _ _ h) (fun x m1 ⟨k, ek, h⟩ => ?_) fun _ _ h => h)
    simp only [ek]
    refine Res.W_bind (Res.W_mono (wpE_ok e σ m1 _ _ h) (fun y m2 ⟨xs, em, hl, h⟩ => ?_) fun _ _ h => h)
    simp only [em, if_pos (show xs.length < lim from hl)]
    exact ⟨h⟩
  | .ext a e, σ, m, Q, X, h => by
    rw [wpE] at h
    rw [evE]
    refine Res.W_bind (Res.W_mono (wpE_ok a σ m _ _ h) (fun x m1 ⟨k, ek, h⟩ => ?_) fun _ _ h => h)
    simp only [ek]
    refine Res.W_bind (Res.W_mono (wpE_ok e σ m1 _ _ h) (fun y m2 ⟨ys, xs, ef, em, hl, h⟩ => ?_) fun _ _ h => h)
    simp only [ef, em, if_pos (show xs.length + ys.length ≤ lim from hl)]
    exact ⟨h⟩
  | .lc mu elt tg it cond own, σ, m, Q, X, h => by
    rw [wpE] at h
    rw [evE]
    have ht : ∀ (X : D → Store → Prop) (d : D) (m1 : Store) (R : Option D → Store → Prop), (Op (bindTg tg d (wipeD σ own)) fun σ1 => wpC G Γ cond σ1 m1 (fun k m2 => Br k (wpE G Γ elt σ1 m2 (fun y m3 => R (some y) m3) noX) (R none m2)) noX) → (lcTurn G Γ elt tg cond own σ d m1).W R X := by
      intro X d m1 R ⟨σ1, eb, h⟩
      unfold lcTurn
      rw [eb]
      refine noexc_W (Res.W_bind (Res.W_mono (wpC_ok cond σ1 m1 _ _ h) (fun k m2 ⟨h1, h2⟩ => ?_) fun _ _ h => h))
      cases k with
      | true => exact Res.W_bind (Res.W_mono (wpE_ok elt σ1 m2 _ _ (h1 rfl)) (fun y m3 h => ⟨h⟩) fun _ _ h => h)
      | false => exact ⟨h2 rfl⟩
    refine Res.W_bind (Res.W_mono (wpI_ok it σ m _ _ h) (fun s m1 ⟨h⟩ => ?_) fun _ _ h => h)
    refine Res.W_bind (r := lcG (lcTurn G Γ elt tg cond own σ) s m1) ?_
    have fin : ∀ ys m2, Lm ys.length (match mu with
        | true => Q (.cell m2.length) (m2 ++ [.lst ys])
        | false => Q (.fl ys) m2) → (if ys.length ≤ lim then (if mu then newCell m2 (.lst ys) else .ok (.fl ys) m2) else .stuck : Res D).W Q X := by
      intro ys m2 ⟨hl, h⟩
      rw [if_pos (show ys.length ≤ lim from hl)]
      cases mu with
      | true => exact ⟨h⟩
      | false => exact ⟨h⟩
    cases s with
    | fix xs => exact Res.W_mono (lcL_W (ht X) xs m1 _ h) fin fun _ _ h => h
    | cel k =>
      obtain ⟨xs, em, hl, h⟩ := h
      exact Res.W_mono (lcC_W (ht X) k xs xs (lim + 1) 0 m1 _ rfl (Nat.lt_succ_of_le hl) h) fin fun _ _ h => h
    | dic _ _ _ => exact h.elim
  | .lck i e, σ, m, Q, X, h => by
    rw [wpE] at h
    rw [evE]
    obtain ⟨d, hd, h⟩ := h
    rw [getL_eq hd]
    cases d with
    | cell k =>
      rcases h with ⟨kvs, em, h⟩ | ⟨hn, h⟩
      · simp only [em]
        obtain ⟨d, m1, er, b, kvs1, rfl, em1, h⟩ := W_ok_of (wpE_ok e σ _ _ _ h)
        rw [er]
        unfold lckR
        simp only [em1]
        exact ⟨h⟩
      · simp only
        have q := wpE_ok e σ m Q X h
        exact q
    | _ => exact wpE_ok e σ m Q X h
theorem wpEs_ok : ∀ (es : Es) (σ : Loc) (m : Store) (Q : List D → Store → Prop) (X : D → Store → Prop), wpEs G Γ es σ m Q X → (evEs G Γ es σ m).W Q X
  | .nil, σ, m, Q, X, h => by rw [wpEs] at h; rw [evEs]; exact ⟨h⟩
  | .cons e r, σ, m, Q, X, h => by
    rw [wpEs] at h
    rw [evEs]
    exact Res.W_bind (Res.W_mono (wpE_ok e σ m _ _ h) (fun x m1 h => Res.W_bind (Res.W_mono (wpEs_ok r σ m1 _ _ h) (fun y m2 h => ⟨h⟩) fun _ _ h => h)) fun _ _ h => h)
theorem wpB_ok (isAnd : Bool) : ∀ (es : Es) (σ : Loc) (m : Store) (Q : D → Store → Prop) (X : D → Store → Prop), wpB G Γ isAnd es σ m Q X → (evB G Γ isAnd es σ m).W Q X
  | .nil, σ, m, Q, X, h => by rw [wpB] at h; exact h.elim
  | .cons e .nil, σ, m, Q, X, h => by rw [wpB] at h; rw [evB]; exact wpE_ok e σ m Q X h
  | .cons e (.cons e' r), σ, m, Q, X, h => by
    rw [wpB] at h
    · rw [evB]
      · refine Res.W_bind (Res.W_mono (wpE_ok e σ m _ _ h) (fun x m1 ⟨k, e, h1, h2⟩ => Res.W_bind (Res.W_ofO ⟨k, e, ?_⟩)) fun _ _ h => h)
        by_cases hk : k = isAnd
        · rw [if_pos hk]
          exact wpB_ok isAnd (.cons e' r) σ m1 Q X (h1 (by rw [hk]; simp))
        · rw [if_neg hk]
          exact ⟨h2 (by simpa using hk)⟩
      · simp
    · simp
theorem wpBT_ok (isAnd : Bool) : ∀ (es : Ts) (σ : Loc) (m : Store) (Q : Bool → Store → Prop) (X : D → Store → Prop), wpBT G Γ isAnd es σ m Q X → (evBT G Γ isAnd es σ m).W Q X
  | .nil, σ, m, Q, X, h => by rw [wpBT] at h; exact h.elim
  | .cons e .nil, σ, m, Q, X, h => by rw [wpBT] at h; rw [evBT]; exact wpT_ok e σ m Q X h
  | .cons e (.cons e' r), σ, m, Q, X, h => by
    rw [wpBT] at h
    · rw [evBT]
      · refine Res.W_bind (Res.W_mono (wpT_ok e σ m _ _ h) (fun k m1 ⟨h1, h2⟩ => ?_) fun _ _ h => h)
        by_cases hk : k = isAnd
        · rw [if_pos hk]
          exact wpBT_ok isAnd (.cons e' r) σ m1 Q X (h1 (by rw [hk]; simp))
        · rw [if_neg hk]
          have e : k = !isAnd := by cases k <;> cases isAnd <;> simp_all
          rw [e]
          exact ⟨h2 (by simpa using hk)⟩
      · simp
    · simp
theorem wpT_ok : ∀ (t : T) (σ : Loc) (m : Store) (Q : Bool → Store → Prop) (X : D → Store → Prop), wpT G Γ t σ m Q X → (evT G Γ t σ m).W Q X
  | .bop isAnd ts, σ, m, Q, X, h => by rw [wpT] at h; rw [evT]; exact wpBT_ok isAnd ts σ m Q X h
  | .notv t, σ, m, Q, X, h => by
    rw [wpT] at h
    rw [evT]
    exact Res.W_bind (Res.W_mono (wpT_ok t σ m _ _ h) (fun k m1 h => ⟨h⟩) fun _ _ h => h)
  | .e a, σ, m, Q, X, h => by
    rw [wpT] at h
    rw [evT]
    exact Res.W_bind (Res.W_mono (wpE_ok a σ m _ _ h) (fun k m1 h => Res.W_ofO h) fun _ _ h => h)
theorem wpO_ok : ∀ (o : Oe) (σ : Loc) (m : Store) (Q : Option Int → Store → Prop) (X : D → Store → Prop), wpO G Γ o σ m Q X → (evO G Γ o σ m).W Q X
  | .none, σ, m, Q, X, h => by rw [wpO] at h; rw [evO]; exact ⟨h⟩
  | .some e, σ, m, Q, X, h => by
    rw [wpO] at h
    rw [evO]
    exact Res.W_bind (Res.W_mono (wpE_ok e σ m _ _ h) (fun x m1 ⟨i, e, h⟩ => by rw [optI_eq e]; exact ⟨h⟩) fun _ _ h => h)
theorem wpC_ok : ∀ (o : Ot) (σ : Loc) (m : Store) (Q : Bool → Store → Prop) (X : D → Store → Prop), wpC G Γ o σ m Q X → (evC G Γ o σ m).W Q X
  | .none, σ, m, Q, X, h => by rw [wpC] at h; rw [evC]; exact ⟨h⟩
  | .some t, σ, m, Q, X, h => by
    rw [wpC] at h
    rw [evC]
    exact wpT_ok t σ m Q X h
theorem wpI_ok : ∀ (w : Wk) (σ : Loc) (m : Store) (Q : Src → Store → Prop) (X : D → Store → Prop), wpI G Γ w σ m Q X → (evI G Γ w σ m).W Q X
  | .e a, σ, m, Q, X, h => by
    rw [wpI] at h
    rw [evI]
    exact Res.W_bind (Res.W_mono (wpE_ok a σ m _ _ h) (fun x m1 h => Res.W_ofO h) fun _ _ h => h)
  | .rng1 a, σ, m, Q, X, h => by
    rw [wpI] at h
    rw [evI]
    exact Res.W_bind (Res.W_mono (wpE_ok a σ m _ _ h) (fun x m1 ⟨b, e, hr, h⟩ => by rw [optI_eq e]; simp only [hr, if_true]; exact ⟨h⟩) fun _ _ h => h)
  | .rng2 a b, σ, m, Q, X, h => by
    rw [wpI] at h
    rw [evI]
    exact Res.W_bind (Res.W_mono (wpE_ok a σ m _ _ h) (fun x m1 h => Res.W_bind (Res.W_mono (wpE_ok b σ m1 _ _ h) (fun y m2 ⟨i, e, j, e', hr, h2⟩ => by rw [optI_eq e, optI_eq e']; simp only [hr, if_true]; exact ⟨h2⟩) fun _ _ h => h)) fun _ _ h => h)
  | .enum a, σ, m, Q, X, h => by
    rw [wpI] at h
    rw [evI]
    exact Res.W_bind (Res.W_mono (wpE_ok a σ m _ _ h) (fun x m1 h => by cases x <;> first | exact ⟨h⟩ | exact h.elim) fun _ _ h => h)
end
theorem forL_W {be : Loc → Store → Flw} {bw : Loc → Store → Fl → Prop} {tg : Tg} (hb : ∀ σ m F, bw σ m F → (be σ m).W F) : ∀ (xs : List D) (σ : Loc) (m : Store) (F : Fl), wpFor bw tg xs σ m F → (forL be tg xs σ m).W F
  | [], σ, m, F, h => ⟨h⟩
  | x :: r, σ, m, F, ⟨σ1, e, h⟩ => by
    rw [forL]
    unfold bound
    rw [e]
    obtain ⟨q⟩ := hb σ1 m _ h
    simp only
    cases z : be σ1 m with
    | nx σ2 m2 => rw [z] at q; exact forL_W hb r σ2 m2 F q
    | ct σ2 m2 => rw [z] at q; exact forL_W hb r σ2 m2 F q
    | brk σ2 m2 => rw [z] at q; exact ⟨q⟩
    | rt d m2 => rw [z] at q; exact ⟨q⟩
    | exc x σ2 m2 => rw [z] at q; exact ⟨q⟩
    | stuck => rw [z] at q; exact (show False from q).elim
theorem forC_W {be : Loc → Store → Flw} {bw : Loc → Store → Fl → Prop} {tg : Tg} {F : Fl} {k top : Nat} {I : Nat → Loc → Store → Prop} (hb : ∀ σ m F, bw σ m F → (be σ m).W F)
    (h1 : ∀ i σ m, I i σ m → ∃ xs, m[k]? = some (.lst xs) ∧ i ≤ xs.length ∧ xs.length ≤ top ∧ (xs.length = i → F.nx σ m) ∧ ∀ x, xs[i]? = some x → Op (bindTg tg x σ) fun σ1 => bw σ1 m { F with nx := I (i + 1), ct := I (i + 1), brk := F.nx }) :
    ∀ (μ i : Nat) (σ : Loc) (m : Store), top < i + μ → I i σ m → (forC be tg k μ i σ m).W F
  | 0, i, σ, m, hl, h => by
    obtain ⟨xs, _, hi, ht, _⟩ := h1 i σ m h
    omega
  | μ + 1, i, σ, m, hl, h => by
    obtain ⟨xs, em, hi, ht, h0, hx⟩ := h1 i σ m h
    rw [forC]
    simp only [em]
    split
    · rename_i en
      exact ⟨h0 (Nat.le_antisymm (List.getElem?_eq_none_iff.mp en) hi)⟩
    · rename_i x ex
      obtain ⟨σ1, e, q⟩ := hx x ex
      unfold bound
      rw [e]
      obtain ⟨q⟩ := hb σ1 m _ q
      simp only
      cases z : be σ1 m with
      | nx σ2 m2 => rw [z] at q; exact forC_W hb h1 μ (i + 1) σ2 m2 (by omega) q
      | ct σ2 m2 => rw [z] at q; exact forC_W hb h1 μ (i + 1) σ2 m2 (by omega) q
      | brk σ2 m2 => rw [z] at q; exact ⟨q⟩
      | rt d m2 => rw [z] at q; exact ⟨q⟩
      | exc x σ2 m2 => rw [z] at q; exact ⟨q⟩
      | stuck => rw [z] at q; exact (show False from q).elim
theorem while_W {te : Loc → Store → Res Bool} {tw : Loc → Store → (Bool → Store → Prop) → (D → Store → Prop) → Prop} {be : Loc → Store → Flw} {bw : Loc → Store → Fl → Prop} {F : Fl} {I : Nat → Loc → Store → Prop} (ht : ∀ σ m Q X, tw σ m Q X → (te σ m).W Q X) (hb : ∀ σ m F, bw σ m F → (be σ m).W F)
    (h1 : ∀ μ σ m, I μ σ m → tw σ m (fun k m1 => Br k (0 < μ ∧ bw σ m1 { F with nx := fun σ m => ∃ μ', μ' < μ ∧ I μ' σ m, ct := fun σ m => ∃ μ', μ' < μ ∧ I μ' σ m, brk := F.nx }) (F.nx σ m1)) fun x m1 => F.exc x σ m1) :
    ∀ (N μ : Nat) (σ : Loc) (m : Store), μ < N → I μ σ m → (whileD te be N σ m).W F
  | 0, μ, σ, m, hl, h => absurd hl (Nat.not_lt_zero _)
  | N + 1, μ, σ, m, hl, h => by
    rw [whileD]
    refine Res.W_go (Res.W_mono (ht σ m _ _ (h1 μ σ m h)) (fun k m1 ⟨ha, hf⟩ => ?_) fun _ _ h => h)
    cases k with
    | false => exact ⟨hf rfl⟩
    | true =>
      rw [if_pos rfl]
      obtain ⟨hp, q⟩ := ha rfl
      obtain ⟨q⟩ := hb σ m1 _ q
      cases z : be σ m1 with
      | nx σ2 m2 =>
        rw [z] at q
        obtain ⟨μ', hm, q⟩ := (show ∃ μ', μ' < μ ∧ I μ' σ2 m2 from q)
        exact while_W ht hb h1 N μ' σ2 m2 (by omega) q
      | ct σ2 m2 =>
        rw [z] at q
        obtain ⟨μ', hm, q⟩ := (show ∃ μ', μ' < μ ∧ I μ' σ2 m2 from q)
        exact while_W ht hb h1 N μ' σ2 m2 (by omega) q
      | brk σ2 m2 => rw [z] at q; exact ⟨q⟩
      | rt d m2 => rw [z] at q; exact ⟨q⟩
      | exc x σ2 m2 => rw [z] at q; exact ⟨q⟩
      | stuck => rw [z] at q; exact (show False from q).elim
theorem hdW_ok (x : D) (σ : Loc) (m : Store) (F : Fl) : ∀ hs : List Hd, hdW G x σ m F hs → (hdGo G x σ m hs).W F
  | [], h => by unfold hdGo; exact ⟨h⟩
  | h :: r, q => by
    unfold hdW at q
    unfold hdGo
    cases x with
    | ex c ns fs =>
      obtain ⟨C, eC, en, q⟩ := q
      have en : ns = C.fs := by simpa using en
      simp only [eC, if_pos en]
      cases es : G.sup c h.c with
      | true =>
        rw [if_pos rfl]
        have q := q.t es
        cases ei : h.items with
        | none => rw [ei] at q; exact ⟨q⟩
        | some hs =>
          rw [ei] at q
          obtain ⟨ds, ed, q⟩ := q
          simp only [ed]
          exact ⟨q⟩
      | false =>
        rw [if_neg Bool.false_ne_true]
        exact hdW_ok _ σ m F r (q.f es)
    | _ => exact q.elim
mutual
theorem wpS_ok : ∀ (s : S) (σ : Loc) (m : Store) (F : Fl), wpS G Γ s σ m F → (evS G Γ s σ m).W F
  | .set i e, σ, m, F, h => by
    rw [wpS] at h; rw [evS]
    exact Res.W_go (Res.W_mono (wpE_ok e σ m _ _ h) (fun d m1 h => ⟨h⟩) fun _ _ h => h)
  | .par is es, σ, m, F, h => by
    rw [wpS] at h; rw [evS]
    exact Res.W_go (Res.W_mono (wpEs_ok es σ m _ _ h) (fun d m1 ⟨e, h⟩ => by rw [if_pos (of_decide_eq_true e)]; exact ⟨h⟩) fun _ _ h => h)
  | .unp is e, σ, m, F, h => by
    rw [wpS] at h; rw [evS]
    exact Res.W_go (Res.W_mono (wpE_ok e σ m _ _ h) (fun d m1 ⟨σ1, e, h⟩ => by unfold bound; rw [e]; exact ⟨h⟩) fun _ _ h => h)
  | .setix a i e, σ, m, F, h => by
    rw [wpS] at h; rw [evS]
    exact Res.W_go (Res.W_mono (wpE_ok e σ m _ _ h) (fun v m1 h => Res.W_go (Res.W_mono (wpE_ok a σ m1 _ _ h) (fun x m2 h => Res.W_go (Res.W_mono (wpE_ok i σ m2 _ _ h) (fun y m3 ⟨m4, e, h⟩ => by simp only [e]; exact ⟨h⟩) fun _ _ h => h)) fun _ _ h => h)) fun _ _ h => h)
  | .setfld a f e, σ, m, F, h => by
    rw [wpS] at h; rw [evS]
    exact Res.W_go (Res.W_mono (wpE_ok e σ m _ _ h) (fun v m1 h => Res.W_go (Res.W_mono (wpE_ok a σ m1 _ _ h) (fun x m2 ⟨m4, e, h⟩ => by simp only [e]; exact ⟨h⟩) fun _ _ h => h)) fun _ _ h => h)
  | .aug i op e, σ, m, F, h => by
    rw [wpS] at h; rw [evS]
    obtain ⟨x, hx, h⟩ := h
    simp only [getL_eq hx]
    exact Res.W_go (Res.W_mono (wpE_ok e σ m _ _ h) (fun d m1 ⟨z, e, h⟩ => by simp only [e]; exact ⟨h⟩) fun _ _ h => h)
  | .ex e, σ, m, F, h => by
    rw [wpS] at h; rw [evS]
    exact Res.W_go (Res.W_mono (wpE_ok e σ m _ _ h) (fun d m1 h => ⟨h⟩) fun _ _ h => h)
  | .ret e, σ, m, F, h => by
    rw [wpS] at h; rw [evS]
    exact Res.W_go (Res.W_mono (wpE_ok e σ m _ _ h) (fun d m1 h => ⟨h⟩) fun _ _ h => h)
  | .retN, σ, m, F, h => by rw [wpS] at h; rw [evS]; exact ⟨h⟩
  | .ite t a b, σ, m, F, h => by
    rw [wpS] at h; rw [evS]
    refine Res.W_go (Res.W_mono (wpT_ok t σ m _ _ h) (fun k m1 ⟨h1, h2⟩ => ?_) fun _ _ h => h)
    cases k with
    | true => exact wpSs_ok a σ m1 F (h1 rfl)
    | false => exact wpSs_ok b σ m1 F (h2 rfl)
  | .for tg it b, σ, m, F, h => by
    rw [wpS] at h; rw [evS]
    refine Res.W_go (Res.W_mono (wpI_ok it σ m _ _ h) (fun s m1 ⟨h⟩ => ?_) fun _ _ h => h)
    cases s with
    | fix xs => exact forL_W (fun σ m F h => wpSs_ok b σ m F h) xs σ m1 F h
    | cel k =>
      obtain ⟨I, μ, hμ, h0, h1⟩ := h
      exact forC_W (fun σ m F h => wpSs_ok b σ m F h) h1 (lim + 1) 0 σ m1 (by omega) h0
    | dic _ _ _ => exact h.elim
  | .while t b, σ, m, F, h => by
    rw [wpS] at h; rw [evS]
    obtain ⟨I, μ, hμ, h0, h1⟩ := h
    exact while_W (fun σ m Q X h => wpT_ok t σ m Q X h) (fun σ m F h => wpSs_ok b σ m F h) h1 (lim + 1) μ σ m (Nat.lt_succ_of_le hμ) h0
  | .brk, σ, m, F, h => by rw [wpS] at h; rw [evS]; exact ⟨h⟩
  | .ct, σ, m, F, h => by rw [wpS] at h; rw [evS]; exact ⟨h⟩
  | .pass, σ, m, F, h => by rw [wpS] at h; rw [evS]; exact ⟨h⟩
  | .raise c es, σ, m, F, h => by
    rw [wpS] at h; rw [evS]
    exact Res.W_go (Res.W_mono (wpEs_ok es σ m _ _ h) (fun d m1 ⟨C, e, hl, h⟩ => by simp only [e, if_pos (of_decide_eq_true hl)]; exact ⟨h⟩) fun _ _ h => h)
  | .tryx b hs, σ, m, F, h => by
    rw [wpS] at h; rw [evS]
    obtain ⟨q⟩ := wpSs_ok b σ m _ h
    cases e : evSs G Γ b σ m with
    | exc x σ1 m1 =>
      rw [e] at q
      exact hdW_ok x σ1 m1 F hs q
    | nx σ1 m1 => rw [e] at q; exact ⟨q⟩
    | ct σ1 m1 => rw [e] at q; exact ⟨q⟩
    | brk σ1 m1 => rw [e] at q; exact ⟨q⟩
    | rt d m1 => rw [e] at q; exact ⟨q⟩
    | stuck => rw [e] at q; exact (show False from q).elim
  | .frz i, σ, m, F, h => by
    rw [wpS] at h; rw [evS]
    obtain ⟨x, hx, ⟨d, m1⟩, hf, h⟩ := h
    simp only [getL_eq hx, hf]
    exact ⟨h⟩
theorem wpSs_ok : ∀ (s : Ss) (σ : Loc) (m : Store) (F : Fl), wpSs G Γ s σ m F → (evSs G Γ s σ m).W F
  | .nil, σ, m, F, h => by rw [wpSs] at h; rw [evSs]; exact ⟨h⟩
  | .cons s r, σ, m, F, h => by
    rw [wpSs] at h; rw [evSs]
    exact Flw.W_go (Flw.W_mono (wpS_ok s σ m _ h) (fun σ m h => wpSs_ok r σ m F h) (fun _ _ h => h) (fun _ _ h => h) (fun _ _ h => h) fun _ _ _ h => h)
end
end
/-- a call: the body from the arguments -/
theorem run_W {G : Env} {fns : Nat → Option FnC} {n f : Nat} {F : FnC} {vs : List D} {m : Store} {Q : D → Store → Prop} {X : D → Store → Prop} (hF : fns f = some F) (hl : vs.length = F.np)
    (h : wpSs G (run G fns n) F.body (vs.map some ++ List.replicate (F.nl - F.np) none) m { nx := fun _ m => Q .non m, rt := Q, exc := fun x _ m => X x m }) : (run G fns (n + 1) f vs m).W Q X := by
  rw [run]
  simp only [hF, if_pos hl]
  obtain ⟨q⟩ := wpSs_ok _ _ _ _ h
  cases e : evSs G (run G fns n) F.body (vs.map some ++ List.replicate (F.nl - F.np) none) m with
  | nx σ m => rw [e] at q; exact ⟨q⟩
  | rt d m => rw [e] at q; exact ⟨q⟩
  | exc x σ m => rw [e] at q; exact ⟨q⟩
  | brk σ m => rw [e] at q; exact (show False from q).elim
  | ct σ m => rw [e] at q; exact (show False from q).elim
  | stuck => rw [e] at q; exact (show False from q).elim
/-- an object is made -/
theorem make_W {G : Env} {Γ : Fns} {c : Nat} {C : Cls} {vs : List D} {m : Store} {Q : D → Store → Prop} {X : D → Store → Prop} (hc : G.cls c = some C)
    (h : (Γ C.init (.cell m.length :: vs) (m ++ [.ins c [] []])).W (fun r m2 => r = .non ∧ ∃ c' ns fs, m2[m.length]? = some (.ins c' ns fs) ∧ match C.frozen with
      | true => Q (.ob c' ns fs) (m2.set m.length .dead)
      | false => Q (.cell m.length) m2) X) : (makeD G Γ c vs m).W Q X := by
  unfold makeD
  rw [hc]
  refine Res.W_bind (Res.W_mono h (fun r m2 ⟨er, c', ns, fs, em, q⟩ => ?_) fun _ _ h => h)
  subst er
  simp only [em]
  cases hf : C.frozen with
  | true => rw [hf] at q; exact ⟨q⟩
  | false => rw [hf] at q; exact ⟨q⟩
end Dy
end
section
set_option linter.all false
set_option maxRecDepth 100000
/-! DyV: plain mathematics about the interpreter's data. -/
namespace Dy
/-! ### ints, lists -/
def isInt : D → Bool
  | .int _ => true
  | _ => false
def btw (a b : Int) : D → Bool
  | .int i => decide (a ≤ i) && decide (i ≤ b)
  | _ => false
theorem asBls_map {α : Type} {p : α → Bool} : ∀ {xs : List α}, asBls (xs.map fun x => D.bl (p x)) = some (xs.map p)
  | [] => rfl
  | x :: r => by
    show (asBls (r.map fun x => D.bl (p x))).map (p x :: ·) = _
    rw [asBls_map]
    rfl
theorem all_map {α : Type} {p : α → Bool} {m : Store} {xs : List α} : biD m .all [.fl (xs.map fun x => .bl (p x))] = some (.bl (xs.all p)) := by
  show ((asBls (xs.map fun x => D.bl (p x))).map fun bs => D.bl (bs.all id)) = _
  rw [asBls_map]
  show some (D.bl ((xs.map p).all id)) = _
  rw [List.all_map]
  rfl
theorem any_map {α : Type} {p : α → Bool} {m : Store} {xs : List α} : biD m .any [.fl (xs.map fun x => .bl (p x))] = some (.bl (xs.any p)) := by
  show ((asBls (xs.map fun x => D.bl (p x))).map fun bs => D.bl (bs.any id)) = _
  rw [asBls_map]
  show some (D.bl ((xs.map p).any id)) = _
  rw [List.any_map]
  rfl
theorem asInts_map : ∀ {ns : List Int}, asInts (ns.map .int) = some ns
  | [] => rfl
  | x :: r => by
    show (asInts (r.map D.int)).map (x :: ·) = _
    rw [asInts_map]
    rfl
theorem asInts_some : ∀ {xs : List D} {ns : List Int}, asInts xs = some ns → xs = ns.map .int
  | [], ns, h => by cases h; rfl
  | .int i :: r, ns, h => by
    have h : (asInts r).map (i :: ·) = some ns := h
    cases e : asInts r with
    | none => rw [e] at h; cases h
    | some l =>
      rw [e] at h
      cases h
      rw [asInts_some e]
      rfl
/-- a list all of whose items are ints -/
theorem ints_of : ∀ {xs : List D}, xs.all isInt = true → ∃ ns : List Int, xs = ns.map .int
  | [], _ => ⟨[], rfl⟩
  | .int i :: r, h => by
    obtain ⟨ns, rfl⟩ := ints_of (xs := r) (by simpa [isInt] using h)
    exact ⟨i :: ns, rfl⟩
  | .non :: _, h | .bl _ :: _, h | .str _ :: _, h | .tup _ :: _, h | .fl _ :: _, h | .ro _ :: _, h | .ob _ _ _ :: _, h | .ex _ _ _ :: _, h | .cell _ :: _, h => by simp [isInt] at h
theorem btw_isInt {a b : Int} {d : D} (h : btw a b d = true) : isInt d = true := by cases d <;> first | rfl | cases h
theorem ixN_nat {n i : Nat} (h : i < n) : ixN n (i : Int) = some i := by
  unfold ixN
  rw [if_pos (by omega), if_pos (by omega)]
  rfl
theorem ixN_int {n : Nat} {i : Int} (h : 0 ≤ i) (h2 : i < n) : ixN n i = some i.toNat := by
  unfold ixN
  rw [if_pos h, if_pos h2]
/-! ### rules for operators -/
theorem mod_i {m : Store} {i j : Int} (h : 0 < j) : binD m .mod (.int i) (.int j) = some (.int (i % j)) := if_pos (decide_eq_true h)
theorem fdiv_i {m : Store} {i j : Int} (h : 0 < j) (h2 : j < 1073741824) : binD m .fdiv (.int i) (.int j) = some (.int (i / j)) := if_pos (decide_eq_true ⟨h, h2⟩)
theorem pow_i {m : Store} {i j : Int} (h : 0 ≤ j) (h2 : j ≤ 1000000) (h3 : i.natAbs < 2 ^ 64) : binD m .pow (.int i) (.int j) = some (.int (i ^ j.toNat)) := if_pos (decide_eq_true ⟨h, h2, h3⟩)
theorem mul_i {m : Store} {i j : Int} (h : i.natAbs < 2 ^ 64) : binD m .mul (.int i) (.int j) = some (.int (i * j)) := if_pos (by unfold cMul; rw [decide_eq_true h, Bool.true_or])
theorem idx_l {m : Store} {k : Nat} {xs : List D} {i : Int} {z : D} (hm : m[k]? = some (.lst xs)) (h : (ixN xs.length i).bind (fun j => xs[j]?) = some z) : idxD m (.cell k) (.int i) = some z := by
  unfold idxD
  simp only [hm]
  exact h
/-- a sequence by an index -/
theorem idx_s {m : Store} {a : D} {xs : List D} {i : Nat} {z : D} (hs : m.seqAt a = some xs) (h : xs[i]? = some z) : idxD m a (.int (i : Int)) = some z := by
  have hi : i < xs.length := (List.getElem?_eq_some_iff.mp h).1
  have e : (ixN xs.length (i : Int)).bind (fun j => xs[j]?) = some z := by rw [ixN_nat hi]; exact h
  cases a with
  | cell k =>
    unfold Store.seqAt at hs
    cases em : m[k]? with
    | none => simp only [em] at hs; cases hs
    | some c =>
      simp only [em] at hs
      cases c <;> cases hs
      exact idx_l em e
  | fl ys => cases hs; exact e
  | ro ys => cases hs; exact e
  | tup ys => cases hs; exact e
  | _ => cases hs
theorem setix_l {m : Store} {k : Nat} {xs : List D} {i : Int} {j : Nat} {v : D} (hm : m[k]? = some (.lst xs)) (h : ixN xs.length i = some j) : setixD m (.cell k) (.int i) v = some (m.set k (.lst (xs.set j v))) := by
  unfold setixD
  simp only [hm, h]
  rfl
theorem rgOk_i {a b : Int} (h1 : 0 ≤ a) (h2 : a ≤ 16777216) (h3 : 0 ≤ b) (h4 : b ≤ 16777216) : rgOk a b = true := by
  unfold rgOk
  refine decide_eq_true ⟨by omega, by omega, by omega, by omega, ?_⟩
  show (b - a).toNat ≤ 16777216
  omega
theorem le_lim {n : Nat} (h : n ≤ 16777216) : decide (n ≤ lim) = true := decide_eq_true h
theorem lt_lim {n : Nat} (h : n < 16777216) : decide (n < lim) = true := decide_eq_true h
theorem rngD_len {a b : Int} : (rngD a b).length = (b - a).toNat := by unfold rngD; simp
theorem rngD_nat {n : Nat} : rngD 0 (n : Int) = (List.range n).map fun i => D.int (i : Nat) := by
  unfold rngD
  have e : ((n : Int) - 0).toNat = n := by omega
  rw [e]
  exact List.map_congr_left fun i _ => by rw [Int.zero_add]
theorem mem_rng {a b : Int} {x : D} (h : x ∈ rngD a b) : ∃ i : Int, x = .int i ∧ a ≤ i ∧ i < b := by
  unfold rngD at h
  obtain ⟨j, hj, rfl⟩ := List.mem_map.mp h
  have := List.mem_range.mp hj
  exact ⟨_, rfl, by omega, by omega⟩
theorem len_seq {m : Store} {a : D} {xs : List D} (h : m.seqAt a = some xs) : biD m .len [a] = some (.int xs.length) := by
  cases a with
  | cell k =>
    unfold Store.seqAt at h
    show (match m[k]? with
      | some (.lst xs) => some (D.int xs.length)
      | some (.dct _ kvs) => some (.int kvs.length)
      | _ => none) = _
    cases em : m[k]? with
    | none => simp only [em] at h; cases h
    | some c =>
      simp only [em] at h
      cases c <;> cases h
      rfl
  | fl ys => cases h; rfl
  | ro ys => cases h; rfl
  | tup ys => cases h; rfl
  | _ => cases h
/-! ### comprehensions -/
/-- turns that leave the store -/
theorem Lc_pure {wt : D → Store → (Option D → Store → Prop) → Prop} {m : Store} {f : D → Option D} : ∀ {xs : List D} {Q : PL}, (∀ x ∈ xs, ∀ R : Option D → Store → Prop, R (f x) m → wt x m R) → Q (xs.filterMap f) m → wpLc wt xs m Q
  | [], Q, _, h => h
  | x :: r, Q, ht, h => by
    refine ht x List.mem_cons_self _ (Lc_pure (fun y hy => ht y (List.mem_cons_of_mem _ hy)) ?_)
    rw [List.filterMap_cons] at h
    cases e : f x <;> rw [e] at h <;> exact h
theorem Lk_pure {wt : D → Store → (Option D → Store → Prop) → Prop} {m : Store} {f : D → Option D} {k : Nat} {all : List D} (hm : m[k]? = some (.lst all)) : ∀ {xs : List D} {Q : PL}, (∀ x ∈ xs, ∀ R : Option D → Store → Prop, R (f x) m → wt x m R) → Q (xs.filterMap f) m → wpLk wt k all xs m Q
  | [], Q, _, h => ⟨hm, h⟩
  | x :: r, Q, ht, h => by
    refine ⟨hm, ht x List.mem_cons_self _ (Lk_pure hm (fun y hy => ht y (List.mem_cons_of_mem _ hy)) ?_)⟩
    rw [List.filterMap_cons] at h
    cases e : f x <;> rw [e] at h <;> exact h
theorem fm_map {α β : Type} {f : α → β} : ∀ {xs : List α}, xs.filterMap (fun x => some (f x)) = xs.map f
  | [] => rfl
  | x :: r => by rw [List.filterMap_cons, List.map_cons, fm_map]
theorem fm_filter {α : Type} {p : α → Bool} : ∀ {xs : List α}, xs.filterMap (fun x => if p x = true then some x else none) = xs.filter p
  | [] => rfl
  | x :: r => by
    rw [List.filterMap_cons, List.filter_cons, fm_filter]
    cases p x <;> rfl
/-- each turn gives f of its item -/
theorem Lc_map {wt : D → Store → (Option D → Store → Prop) → Prop} {m : Store} (f : D → D) {xs : List D} {Q : PL} (ht : ∀ x ∈ xs, ∀ R : Option D → Store → Prop, R (some (f x)) m → wt x m R) (h : Q (xs.map f) m) : WLc wt (.fix xs) m Q :=
  ⟨Lc_pure ht (by rw [fm_map]; exact h)⟩
/-- each turn keeps its item, or not -/
theorem Lc_filter {wt : D → Store → (Option D → Store → Prop) → Prop} {m : Store} (p : D → Bool) {xs : List D} {Q : PL} (ht : ∀ x ∈ xs, ∀ R : Option D → Store → Prop, R (if p x = true then some x else none) m → wt x m R) (h : Q (xs.filter p) m) : WLc wt (.fix xs) m Q :=
  ⟨Lc_pure (f := fun x => if p x = true then some x else none) ht (by rw [fm_filter]; exact h)⟩
theorem Lc_fm {wt : D → Store → (Option D → Store → Prop) → Prop} {m : Store} (f : D → Option D) {xs : List D} {Q : PL} (ht : ∀ x ∈ xs, ∀ R : Option D → Store → Prop, R (f x) m → wt x m R) (h : Q (xs.filterMap f) m) : WLc wt (.fix xs) m Q :=
  ⟨Lc_pure ht h⟩
theorem Lc_n {wt : D → Store → (Option D → Store → Prop) → Prop} {m : Store} {Q : PL} (h : Q [] m) : WLc wt (.fix []) m Q := ⟨h⟩
theorem wpLc_mono {wt : D → Store → (Option D → Store → Prop) → Prop} {x : D} {r : List D} {m : Store} {Q : PL} (h : wt x m fun o m1 => wpLc wt r m1 fun ys m2 => Q (match o with
    | some y => y :: ys
    | none => ys) m2) : WLc wt (.fix (x :: r)) m Q := ⟨h⟩
/-- one item alone -/
theorem Lc_1 {wt : D → Store → (Option D → Store → Prop) → Prop} {x : D} {m : Store} {Q : PL} (h : ∀ R : Option D → Store → Prop, (∀ o m1, Q o.toList m1 → R o m1) → wt x m R) : WLc wt (.fix [x]) m Q := ⟨h _ fun o m1 q => by cases o <;> exact q⟩
/-- by what holds ahead of each turn: the items left, the items made -/
theorem Lc_inv' {wt : D → Store → (Option D → Store → Prop) → Prop} (I : List D → List D → Store → Prop) (h1 : ∀ x r acc m, I (x :: r) acc m → ∀ R : Option D → Store → Prop, (∀ o m1, I r (acc ++ o.toList) m1 → R o m1) → wt x m R) {Q : PL} (h0 : ∀ acc m, I [] acc m → Q acc m) : ∀ {xs acc : List D} {m : Store}, I xs acc m → wpLc wt xs m (fun ys m1 => Q (acc ++ ys) m1)
  | [], acc, m, h => by
    show Q (acc ++ []) m
    rw [List.append_nil]
    exact h0 acc m h
  | x :: r, acc, m, h => by
    refine h1 x r acc m h _ fun o m1 h => ?_
    have q := Lc_inv' I h1 h0 h
    cases o with
    | none => simpa using q
    | some y => simpa using q
theorem Lc_inv {wt : D → Store → (Option D → Store → Prop) → Prop} (I : List D → List D → Store → Prop) {Q : PL} {xs : List D} {m : Store} (hi : I xs [] m) (h1 : ∀ x r acc m, I (x :: r) acc m → ∀ R : Option D → Store → Prop, (∀ o m1, I r (acc ++ o.toList) m1 → R o m1) → wt x m R) (h0 : ∀ acc m, I [] acc m → Q acc m) : WLc wt (.fix xs) m Q :=
  ⟨Lc_inv' (acc := []) I h1 h0 hi⟩
/-- a loop by what holds ahead of each turn: the items left -/
theorem For_inv' {body : Loc → Store → Fl → Prop} {tg : Tg} {F : Fl} (I : List D → Loc → Store → Prop) (h1 : ∀ x r σ m, I (x :: r) σ m → ∀ N : Loc → Store → Prop, (∀ σ m, I r σ m → N σ m) → Op (bindTg tg x σ) fun σ1 => body σ1 m { F with nx := N, ct := N, brk := F.nx }) (h0 : ∀ σ m, I [] σ m → F.nx σ m) : ∀ {xs : List D} {σ : Loc} {m : Store}, I xs σ m → wpFor body tg xs σ m F
  | [], σ, m, h => h0 σ m h
  | x :: r, σ, m, h => h1 x r σ m h _ fun σ m h => For_inv' I h1 h0 h
theorem For_inv {body : Loc → Store → Fl → Prop} {tg : Tg} {F : Fl} (I : List D → Loc → Store → Prop) {xs : List D} {σ : Loc} {m : Store} (hi : I xs σ m) (h1 : ∀ x r σ m, I (x :: r) σ m → ∀ N : Loc → Store → Prop, (∀ σ m, I r σ m → N σ m) → Op (bindTg tg x σ) fun σ1 => body σ1 m { F with nx := N, ct := N, brk := F.nx }) (h0 : ∀ σ m, I [] σ m → F.nx σ m) : WFor body tg (.fix xs) σ m F :=
  ⟨For_inv' I h1 h0 hi⟩
theorem For_n {body : Loc → Store → Fl → Prop} {tg : Tg} {F : Fl} {σ : Loc} {m : Store} (h : F.nx σ m) : WFor body tg (.fix []) σ m F := ⟨h⟩
theorem For_c {body : Loc → Store → Fl → Prop} {tg : Tg} {F : Fl} {x : D} {r : List D} {σ : Loc} {m : Store} (h : ∀ N : Loc → Store → Prop, (∀ σ m, WFor body tg (.fix r) σ m F → N σ m) → Op (bindTg tg x σ) fun σ1 => body σ1 m { F with nx := N, ct := N, brk := F.nx }) : WFor body tg (.fix (x :: r)) σ m F :=
  ⟨h _ fun σ m h => h.go⟩
/-! ### frozen or not: the same all through -/
def Store.lsq (m : Store) : D → Option (List D)
  | .fl xs => some xs
  | .ro xs => some xs
  | .cell k => match m[k]? with
    | some (.lst xs) => some xs
    | _ => none
  | _ => none
inductive Sm (m : Store) : Nat → D → D → Prop
  | non {n} : Sm m n .non .non
  | bl {n} (b : Bool) : Sm m n (.bl b) (.bl b)
  | int {n} (i : Int) : Sm m n (.int i) (.int i)
  | str {n} (s : List Nat) (h : shp (.str s) 60 = true) : Sm m n (.str s) (.str s)
  | tup {n} (xs ys : List D) (hl : xs.length = ys.length) (hm : ys.length ≤ 16777216) (h : ∀ (i : Nat) (x y : D), xs[i]? = some x → ys[i]? = some y → Sm m n x y) : Sm m (n + 1) (.tup xs) (.tup ys)
  | lst {n} (a b : D) (xs ys : List D) (ha : m.lsq a = some xs) (hb : m.lsq b = some ys) (hl : xs.length = ys.length) (hm : ys.length ≤ 16777216) (h : ∀ (i : Nat) (x y : D), xs[i]? = some x → ys[i]? = some y → Sm m n x y) : Sm m (n + 1) a b
  | dct {n} (j k : Nat) (lj lk : Bool) (us vs : List (Ky × D)) (hj : m[j]? = some (.dct lj us)) (hk : m[k]? = some (.dct lk vs)) (hl : us.length = vs.length) (hm : vs.length ≤ 16777216) (h0 : ∀ p ∈ vs, (getK p.1 us).isSome = true ∧ (getK p.1 vs).isSome = true) (h : ∀ (p : Ky × D) (u v : D), p ∈ vs → getK p.1 us = some u → getK p.1 vs = some v → Sm m n u v) : Sm m (n + 1) (.cell j) (.cell k)
theorem Store.lsq_seq {m : Store} {a : D} {xs : List D} (h : m.lsq a = some xs) : m.seqAt a = some xs := by
  cases a <;> first | exact h | cases h
theorem shp_str {s : List Nat} {m : Store} (h : shp (.str s) 60 = true) : eqM m (.str s) (.str s) = some true := by
  show (if shp (.str s) 60 && shp (.str s) 60 then some (eqD (.str s) (.str s)) else none) = some true
  rw [h]
  show some (s == s) = some true
  simp
theorem get_lock {m : Store} {k i : Nat} {b b' : Bool} {vs : List (Ky × D)} (hk : m[k]? = some (.dct b vs)) : (m.set k (.dct b' vs))[i]? = m[i]? ∨ (i = k ∧ (m.set k (.dct b' vs))[i]? = some (.dct b' vs)) := by
  by_cases e : i = k
  · subst e
    exact .inr ⟨rfl, List.getElem?_set_self (List.getElem?_eq_some_iff.mp hk).1⟩
  · exact .inl (List.getElem?_set_ne (Ne.symm e))
theorem lsq_lock {m : Store} {k : Nat} {b b' : Bool} {vs : List (Ky × D)} (hk : m[k]? = some (.dct b vs)) {a : D} {xs : List D} (h : m.lsq a = some xs) : Store.lsq (m.set k (.dct b' vs)) a = some xs := by
  cases a with
  | cell i =>
    unfold Store.lsq at h ⊢
    simp only at h ⊢
    rcases get_lock (i := i) (b' := b') hk with e | ⟨rfl, e⟩
    · rw [e]; exact h
    · rw [hk] at h; cases h
  | _ => exact h
theorem Sm.lock {m : Store} {k : Nat} {b b' : Bool} {vs : List (Ky × D)} (hk : m[k]? = some (.dct b vs)) {n : Nat} {x y : D} (h : Sm m n x y) : Sm (m.set k (.dct b' vs)) n x y := by
  induction h with
  | non => exact .non
  | bl b => exact .bl b
  | int i => exact .int i
  | str s h => exact .str s h
  | tup xs ys hl hm h ih => exact .tup xs ys hl hm ih
  | lst a b xs ys ha hb hl hm h ih => exact .lst a b xs ys (lsq_lock hk ha) (lsq_lock hk hb) hl hm ih
  | dct i j li lj us ws hi hj hl hm h0 h ih =>
    obtain ⟨li', ei⟩ : ∃ l, (m.set k (.dct b' vs))[i]? = some (.dct l us) := by
      rcases get_lock (i := i) (b' := b') hk with e | ⟨rfl, e⟩
      · exact ⟨li, by rw [e, hi]⟩
      · rw [hk] at hi; cases hi; exact ⟨b', e⟩
    obtain ⟨lj', ej⟩ : ∃ l, (m.set k (.dct b' vs))[j]? = some (.dct l ws) := by
      rcases get_lock (i := j) (b' := b') hk with e | ⟨rfl, e⟩
      · exact ⟨lj, by rw [e, hj]⟩
      · rw [hk] at hj; cases hj; exact ⟨b', e⟩
    exact .dct i j li' lj' us ws ei ej hl hm h0 ih
theorem keyD_ky (k : Ky) : keyD (kyD k) = some k := by cases k <;> rfl
theorem isin_dct {m : Store} {j : Nat} {l : Bool} {us : List (Ky × D)} (h : m[j]? = some (.dct l us)) (k : Ky) : isinD m (kyD k) (.cell j) = some (getK k us).isSome := by
  have e : isinD m (kyD k) (.cell j) = (keyD (kyD k)).map fun y => (getK y us).isSome := by
    unfold isinD
    simp only [h]
  rw [e, keyD_ky]
  rfl
theorem idx_dct {m : Store} {j : Nat} {l : Bool} {us : List (Ky × D)} (h : m[j]? = some (.dct l us)) {k : Ky} {d : D} (g : getK k us = some d) : idxD m (.cell j) (kyD k) = some d := by
  have e : idxD m (.cell j) (kyD k) = (keyD (kyD k)).bind fun y => getK y us := by
    unfold idxD
    simp only [h]
  rw [e, keyD_ky]
  exact g
theorem len_dct {m : Store} {j : Nat} {l : Bool} {us : List (Ky × D)} (h : m[j]? = some (.dct l us)) : biD m .len [.cell j] = some (.int us.length) := by
  show lenD m [.cell j] = _
  unfold lenD
  simp only [h]
theorem src_lock {m : Store} {j : Nat} {us : List (Ky × D)} (h : m[j]? = some (.dct true us)) : m.src (.cell j) = some (.fix (us.map fun p => kyD p.1)) := by
  unfold Store.src
  simp only [h]
theorem set_unlock {m : Store} {k : Nat} {c : Cell} {us : List (Ky × D)} (h : m[k]? = some (.dct false us)) : (m.set k c).set k (.dct false us) = m := by
  rw [List.set_set]
  obtain ⟨hk, e⟩ := List.getElem?_eq_some_iff.mp h
  rw [← e]
  exact List.set_getElem_self hk
/-! ### lots -/
def nth (ns : List Int) (i : Int) : Int := ns.getD i.toNat 0
theorem idx_ints {m : Store} {a : D} {ns : List Int} {i : Int} (hs : m.seqAt a = some (ns.map .int)) (h : 0 ≤ i) (h2 : i < ns.length) : idxD m a (.int i) = some (.int (nth ns i)) := by
  obtain ⟨j, rfl⟩ := Int.eq_ofNat_of_zero_le h
  have hj : j < ns.length := by omega
  refine idx_s hs ?_
  rw [List.getElem?_map, List.getElem?_eq_getElem hj]
  show some (D.int ns[j]) = some (D.int (ns.getD j 0))
  rw [List.getD_eq_getElem?_getD, List.getElem?_eq_getElem hj]
  rfl
def onI (p : Int → Bool) : D → Bool
  | .int i => p i
  | _ => false
def ascB (ns : List Int) : Bool := (rngD 1 ns.length).all (onI fun i => decide (nth ns (i - 1) < nth ns i))
def ascD (xs : List D) : Bool := match asInts xs with
  | some ns => ascB ns
  | none => false
def kl (p : Int) : D → Bool
  | .tup xs => xs.all (btw 0 (p - 1)) && ascD xs
  | _ => false
def ai : D → Bool
  | .tup xs => decide (1 ≤ xs.length) && decide (xs.length ≤ 8) && xs.all isInt
  | _ => false
theorem eqM_int {m : Store} {i j : Int} : eqM m (.int i) (.int j) = some (i == j) := rfl
theorem all_int {p : Int} {xs : List D} (h : xs.all (btw 0 (p - 1)) = true) : ∃ ns : List Int, xs = ns.map .int := ints_of (by
  rw [List.all_eq_true] at h ⊢
  exact fun x hx => btw_isInt (h x hx))
end Dy
end
section
set_option linter.all false
set_option maxRecDepth 100000
/-! DyL: sorting, sets, lots. -/
namespace Dy
/-! ### sorting -/
structure Ord {α : Type} (lt : α → α → Bool) : Prop where
  irr : ∀ a, lt a a = false
  tr : ∀ a b c, lt a b = true → lt b c = true → lt a c = true
  tot : ∀ a b, lt a b = true ∨ a = b ∨ lt b a = true
theorem mem_ins {α : Type} {lt : α → α → Bool} {a x : α} : ∀ {xs : List α}, a ∈ ins lt x xs ↔ a = x ∨ a ∈ xs
  | [] => by simp [ins]
  | y :: r => by
    unfold ins
    cases lt y x with
    | true => simp only [if_true, List.mem_cons, mem_ins (xs := r)]; exact or_left_comm
    | false => simp
theorem mem_isort {α : Type} {lt : α → α → Bool} {a : α} : ∀ {xs : List α}, a ∈ isort lt xs ↔ a ∈ xs
  | [] => by simp [isort]
  | y :: r => by rw [isort, mem_ins, mem_isort, List.mem_cons]
theorem len_ins {α : Type} {lt : α → α → Bool} {x : α} : ∀ {xs : List α}, (ins lt x xs).length = xs.length + 1
  | [] => rfl
  | y :: r => by
    unfold ins
    cases lt y x <;> simp [len_ins]
theorem len_isort {α : Type} {lt : α → α → Bool} : ∀ {xs : List α}, (isort lt xs).length = xs.length
  | [] => rfl
  | y :: r => by rw [isort, len_ins, len_isort, List.length_cons]
abbrev Asc {α : Type} (lt : α → α → Bool) (xs : List α) : Prop := xs.Pairwise fun a b => lt a b = true
theorem asc_ins {α : Type} {lt : α → α → Bool} (o : Ord lt) {x : α} : ∀ {xs : List α}, Asc lt xs → x ∉ xs → Asc lt (ins lt x xs)
  | [], _, _ => by simp [ins, Asc]
  | y :: r, h, hx => by
    have hy := List.pairwise_cons.mp h
    unfold ins
    cases e : lt y x with
    | true =>
      simp only [if_true]
      refine List.pairwise_cons.mpr ⟨fun a ha => ?_, asc_ins o hy.2 fun z => hx (List.mem_cons_of_mem _ z)⟩
      rcases mem_ins.mp ha with rfl | ha
      · exact e
      · exact hy.1 a ha
    | false =>
      simp only [Bool.false_eq_true, if_false]
      have xy : lt x y = true := by
        rcases o.tot x y with h | h | h
        · exact h
        · exact absurd (h ▸ List.mem_cons_self) hx
        · rw [e] at h; cases h
      refine List.pairwise_cons.mpr ⟨fun a ha => ?_, h⟩
      rcases List.mem_cons.mp ha with rfl | ha
      · exact xy
      · exact o.tr _ _ _ xy (hy.1 a ha)
theorem asc_isort {α : Type} {lt : α → α → Bool} (o : Ord lt) : ∀ {xs : List α}, xs.Nodup → Asc lt (isort lt xs)
  | [], _ => by simp [isort, Asc]
  | x :: r, h => by
    have h := List.nodup_cons.mp h
    rw [isort]
    exact asc_ins o (asc_isort o h.2) fun z => h.1 (mem_isort.mp z)
/-- ascending lists of the same members are one -/
theorem asc_ext {α : Type} {lt : α → α → Bool} (o : Ord lt) : ∀ {xs ys : List α}, Asc lt xs → Asc lt ys → (∀ a, a ∈ xs ↔ a ∈ ys) → xs = ys
  | [], [], _, _, _ => rfl
  | [], y :: r, _, _, h => absurd ((h y).mpr List.mem_cons_self) (by simp)
  | x :: r, [], _, _, h => absurd ((h x).mp List.mem_cons_self) (by simp)
  | x :: r, y :: s, hx, hy, h => by
    have hx' := List.pairwise_cons.mp hx
    have hy' := List.pairwise_cons.mp hy
    have e : x = y := by
      rcases List.mem_cons.mp ((h x).mp List.mem_cons_self) with e | hm
      · exact e
      · rcases List.mem_cons.mp ((h y).mpr List.mem_cons_self) with e | hn
        · exact e.symm
        · have a := hy'.1 x hm
          have b := hx'.1 y hn
          have c := o.tr _ _ _ a b
          rw [o.irr] at c
          cases c
    subst e
    have ne : ∀ {l : List α}, (∀ a ∈ l, lt x a = true) → x ∉ l := fun hl z => by
      have q := hl x z
      rw [o.irr] at q
      cases q
    refine congrArg _ (asc_ext o hx'.2 hy'.2 fun a => ⟨fun ha => ?_, fun ha => ?_⟩)
    · rcases List.mem_cons.mp ((h a).mp (List.mem_cons_of_mem _ ha)) with rfl | z
      · exact absurd ha (ne hx'.1)
      · exact z
    · rcases List.mem_cons.mp ((h a).mpr (List.mem_cons_of_mem _ ha)) with rfl | z
      · exact absurd ha (ne hy'.1)
      · exact z
theorem ord_ltI : Ord ltI := ⟨fun a => by simp [ltI], fun a b c h h' => by simp [ltI] at *; omega, fun a b => by simp [ltI]; omega⟩
theorem ord_lexI : Ord lexI := by
  refine ⟨fun a => ?_, fun a => ?_, fun a => ?_⟩
  · induction a with
    | nil => rfl
    | cons x r ih => simp [lexI, ih]
  · induction a with
    | nil =>
      intro b c h h'
      cases b with
      | nil => cases h
      | cons y s =>
        cases c with
        | nil => cases h'
        | cons z t => rfl
    | cons x r ih =>
      intro b c h h'
      cases b with
      | nil => cases h
      | cons y s =>
        cases c with
        | nil => cases h'
        | cons z t =>
          simp only [lexI] at h h' ⊢
          by_cases e1 : x = y
          · subst e1
            rw [if_pos rfl] at h
            by_cases e2 : x = z
            · rw [if_pos e2] at h' ⊢
              exact ih s t h h'
            · rw [if_neg e2] at h' ⊢
              exact h'
          · rw [if_neg e1] at h
            have h := of_decide_eq_true h
            by_cases e2 : y = z
            · subst e2
              rw [if_neg e1]
              exact decide_eq_true h
            · rw [if_neg e2] at h'
              have h' := of_decide_eq_true h'
              rw [if_neg (by omega)]
              exact decide_eq_true (by omega)
  · induction a with
    | nil => intro b; cases b with
      | nil => exact .inr (.inl rfl)
      | cons y s => exact .inl rfl
    | cons x r ih =>
      intro b
      cases b with
      | nil => exact .inr (.inr rfl)
      | cons y s =>
        simp only [lexI]
        by_cases e : x = y
        · subst e
          rw [if_pos rfl, if_pos rfl]
          rcases ih s with h | h | h
          · exact .inl h
          · exact .inr (.inl (by rw [h]))
          · exact .inr (.inr h)
        · rw [if_neg e, if_neg (Ne.symm e)]
          by_cases l : x < y
          · exact .inl (decide_eq_true l)
          · exact .inr (.inr (decide_eq_true (by omega)))
theorem mem_und {α : Type} [DecidableEq α] {a : α} : ∀ {xs : List α}, a ∈ undup xs ↔ a ∈ xs
  | [] => by simp [undup]
  | x :: r => by
    unfold undup
    by_cases h : x ∈ r
    · rw [if_pos h, mem_und, List.mem_cons]
      exact ⟨.inr, fun z => z.elim (fun e => e ▸ h) id⟩
    · rw [if_neg h, List.mem_cons, List.mem_cons, mem_und]
theorem nodup_und {α : Type} [DecidableEq α] : ∀ {xs : List α}, (undup xs).Nodup
  | [] => by simp [undup]
  | x :: r => by
    unfold undup
    by_cases h : x ∈ r
    · rw [if_pos h]; exact nodup_und
    · rw [if_neg h]; exact List.nodup_cons.mpr ⟨fun z => h (mem_und.mp z), nodup_und⟩
/-! ### ints in lists -/
theorem deep_int {m : Store} {i : Int} : m.deep 60 (.int i) = .int i := rfl
theorem map_deep_ints {m : Store} : ∀ {ns : List Int}, (ns.map D.int).map (m.deep 60) = ns.map .int
  | [] => rfl
  | x :: r => congrArg (D.int x :: ·) map_deep_ints
theorem shps_ints : ∀ {ns : List Int}, shps (ns.map D.int) 60 = true
  | [] => rfl
  | x :: r => by
    show (true && shps (r.map D.int) 60) = true
    rw [shps_ints] <;> rfl
theorem inD_ints {i : Int} : ∀ {ns : List Int}, inD (.int i) (ns.map .int) = decide (i ∈ ns)
  | [] => by simp [inD]
  | x :: r => by
    show ((x == i) || inD (.int i) (r.map .int)) = _
    rw [inD_ints]
    by_cases e : x = i
    · simp [e]
    · simp [e, Ne.symm e]
theorem inM_ints {m : Store} {i : Int} {ns : List Int} : inM m (.int i) (ns.map .int) = some (decide (i ∈ ns)) := by
  unfold inM
  simp only [map_deep_ints, deep_int, shps_ints, inD_ints]
  rfl
theorem isin_ints {m : Store} {i : Int} {a : D} {ns : List Int} (h : m.lsq a = some (ns.map .int) ∨ a = .tup (ns.map .int)) (hr : ∀ xs, a ≠ .ro xs) : isinD m (.int i) a = some (decide (i ∈ ns)) := by
  rcases h with h | rfl
  · cases a with
    | fl xs => cases h; exact inM_ints
    | ro xs => exact absurd rfl (hr xs)
    | cell k =>
      unfold Store.lsq at h
      unfold isinD
      cases em : m[k]? with
      | none => simp only [em] at h; cases h
      | some c =>
        simp only [em] at h ⊢
        cases c <;> cases h
        exact inM_ints
    | _ => cases h
  · exact inM_ints
theorem isin_tup {m : Store} {i : Int} {ns : List Int} : isinD m (.int i) (.tup (ns.map .int)) = some (decide (i ∈ ns)) := inM_ints
theorem isin_fl {m : Store} {i : Int} {ns : List Int} : isinD m (.int i) (.fl (ns.map .int)) = some (decide (i ∈ ns)) := inM_ints
/-! ### lots -/
/-- numbers that ascend, below p -/
def Lot (p : Nat) (ks : List Nat) : Prop := ks.Sublist (List.range p)
def toI (ks : List Nat) : List Int := ks.map fun k : Nat => (k : Int)
def lotD (ks : List Nat) : D := .tup ((toI ks).map .int)
theorem toI_len {ks : List Nat} : (toI ks).length = ks.length := List.length_map ..
theorem toI_inj {a b : List Nat} (h : toI a = toI b) : a = b := by
  have q := congrArg (List.map Int.toNat) h
  unfold toI at q
  rw [List.map_map, List.map_map] at q
  have e : (Int.toNat ∘ fun k : Nat => (k : Int)) = id := funext fun k => rfl
  rw [e, List.map_id, List.map_id] at q
  exact q
theorem mem_toI {ks : List Nat} {i : Int} : i ∈ toI ks ↔ ∃ k ∈ ks, (k : Int) = i := List.mem_map
theorem mem_toI' {ks : List Nat} {k : Nat} : (k : Int) ∈ toI ks ↔ k ∈ ks := by
  rw [mem_toI]
  exact ⟨fun ⟨j, hj, e⟩ => by rwa [← Int.ofNat.inj e], fun h => ⟨k, h, rfl⟩⟩
theorem Lot.mono {p q : Nat} {ks : List Nat} (h : Lot p ks) (hq : p ≤ q) : Lot q ks := List.Sublist.trans h (List.range_sublist.mpr hq)
theorem Lot.pw {p : Nat} {ks : List Nat} (h : Lot p ks) : ks.Pairwise (· < ·) := List.Pairwise.sublist h List.pairwise_lt_range
theorem Lot.lt {p : Nat} {ks : List Nat} (h : Lot p ks) : ∀ k ∈ ks, k < p := fun k hk => List.mem_range.mp (h.subset hk)
theorem Lot.len {p : Nat} {ks : List Nat} (h : Lot p ks) : ks.length ≤ p := by simpa using h.length_le
theorem Lot.nil {p : Nat} : Lot p [] := List.nil_sublist _
theorem Lot.all {p : Nat} : Lot p (List.range p) := List.Sublist.refl _
theorem Lot.filter {p : Nat} {f : Nat → Bool} : Lot p ((List.range p).filter f) := List.filter_sublist
/-- an ascending row of numbers whose members are among those of another one -/
theorem sub_of_mem : ∀ {xs ys : List Nat}, xs.Pairwise (· < ·) → ys.Pairwise (· < ·) → (∀ a ∈ xs, a ∈ ys) → xs.Sublist ys
  | [], ys, _, _, _ => List.nil_sublist _
  | x :: r, [], _, _, h => absurd (h x List.mem_cons_self) (by simp)
  | x :: r, y :: s, hx, hy, h => by
    have hx' := List.pairwise_cons.mp hx
    have hy' := List.pairwise_cons.mp hy
    by_cases e : x = y
    · subst e
      refine List.Sublist.cons_cons x (sub_of_mem hx'.2 hy'.2 fun a ha => ?_)
      rcases List.mem_cons.mp (h a (List.mem_cons_of_mem _ ha)) with rfl | z
      · exact absurd (hx'.1 a ha) (Nat.lt_irrefl _)
      · exact z
    · have hxs : x ∈ s := (List.mem_cons.mp (h x List.mem_cons_self)).resolve_left e
      have yx := hy'.1 x hxs
      refine List.Sublist.cons y (sub_of_mem hx hy'.2 fun a ha => ?_)
      rcases List.mem_cons.mp (h a ha) with rfl | z
      · rcases List.mem_cons.mp ha with rfl | z
        · exact absurd yx (Nat.lt_irrefl _)
        · exact absurd (hx'.1 a z) (by omega)
      · exact z
theorem Lot.of {p : Nat} {ks : List Nat} (h : ks.Pairwise (· < ·)) (hp : ∀ k ∈ ks, k < p) : Lot p ks := sub_of_mem h List.pairwise_lt_range fun a ha => List.mem_range.mpr (hp a ha)
/-- all rows within a row, as they come -/
def awF (found : List (List Nat)) (k : Nat) : List (List Nat) := found ++ found.map (· ++ [k])
def aw (ks : List Nat) : List (List Nat) := ks.foldl awF [[]]
theorem aw_snoc {ks : List Nat} {k : Nat} : aw (ks ++ [k]) = aw ks ++ (aw ks).map (· ++ [k]) := by
  unfold aw
  rw [List.foldl_append]
  rfl
theorem aw_nil : aw [] = [[]] := rfl
theorem snoc_ind {α : Type} {P : List α → Prop} (h0 : P []) (h1 : ∀ xs x, P xs → P (xs ++ [x])) : ∀ xs, P xs := fun xs => by
  have q : ∀ ys : List α, P ys.reverse := fun ys => by
    induction ys with
    | nil => exact h0
    | cons y r ih => rw [List.reverse_cons]; exact h1 _ _ ih
  have := q xs.reverse
  rwa [List.reverse_reverse] at this
theorem mem_aw : ∀ (ks s : List Nat), s ∈ aw ks ↔ s.Sublist ks := by
  intro ks
  induction ks using snoc_ind with
  | h0 => intro s; simp [aw_nil]
  | h1 xs x ih =>
    intro s
    rw [aw_snoc, List.mem_append, List.mem_map, List.sublist_append_iff]
    constructor
    · rintro (h | ⟨t, h, rfl⟩)
      · exact ⟨s, [], by simp, (ih s).mp h, List.nil_sublist _⟩
      · exact ⟨t, [x], rfl, (ih t).mp h, List.Sublist.refl _⟩
    · rintro ⟨s1, s2, rfl, h1, h2⟩
      rcases s2 with _ | ⟨y, r⟩
      · rw [List.append_nil]
        exact .inl ((ih s1).mpr h1)
      · have l := h2.length_le
        have e : r = [] := List.eq_nil_of_length_eq_zero (by simp at l; exact List.length_eq_zero_iff.mpr l)
        subst e
        have e : y = x := by simpa using h2
        subst e
        exact .inr ⟨s1, (ih s1).mpr h1, rfl⟩
theorem nodup_aw : ∀ ks : List Nat, ks.Nodup → (aw ks).Nodup := by
  intro ks
  induction ks using snoc_ind with
  | h0 => intro _; simp [aw_nil]
  | h1 xs x ih =>
    intro h
    rw [List.nodup_append] at h
    rw [aw_snoc, List.nodup_append]
    have ihn := ih h.1
    refine ⟨ihn, ?_, fun a ha b hb e => ?_⟩
    · unfold List.Nodup
      rw [List.pairwise_map]
      exact ihn.imp fun {a b} ne e => ne (List.append_cancel_right e)
    · subst e
      obtain ⟨t, _, rfl⟩ := List.mem_map.mp hb
      have hx : x ∈ xs := ((mem_aw _ _).mp ha).subset (by simp)
      exact h.2.2 x hx x List.mem_cons_self rfl
theorem len_aw : ∀ ks : List Nat, (aw ks).length = 2 ^ ks.length := by
  intro ks
  induction ks using snoc_ind with
  | h0 => rfl
  | h1 xs x ih => rw [aw_snoc, List.length_append, List.length_map, ih, List.length_append, List.length_singleton, Nat.pow_succ]; omega
/-- the lots of a list, sorted -/
def srt (l : List (List Nat)) : List (List Int) := isort lexI (l.map toI)
theorem asIntTups_lots : ∀ {l : List (List Nat)}, asIntTups (l.map lotD) = some (l.map toI)
  | [] => rfl
  | x :: r => by
    show (match asInts ((toI x).map .int), asIntTups (r.map lotD) with
      | some a, some b => some (a :: b)
      | _, _ => none) = _
    rw [asInts_map, asIntTups_lots]
    rfl
theorem asIntTups_ints : ∀ {l : List (List Int)}, asIntTups (l.map fun t => .tup (t.map .int)) = some l
  | [] => rfl
  | x :: r => by
    show (match asInts (x.map .int), asIntTups (r.map fun t => .tup (t.map .int)) with
      | some a, some b => some (a :: b)
      | _, _ => none) = _
    rw [asInts_map, asIntTups_ints]
theorem sortD_lots {l : List (List Nat)} (h : l ≠ []) : sortD (l.map lotD) = some ((srt l).map fun t => .tup (t.map .int)) := by
  unfold sortD
  have e : asInts (l.map lotD) = none := by
    cases l with
    | nil => exact absurd rfl h
    | cons x r => rfl
  rw [e, asIntTups_lots]
  rfl
theorem sortD_tups {l : List (List Int)} (h : l ≠ []) : sortD (l.map fun t => .tup (t.map .int)) = some ((isort lexI l).map fun t => .tup (t.map .int)) := by
  unfold sortD
  have e : asInts (l.map fun t => D.tup (t.map .int)) = none := by
    cases l with
    | nil => exact absurd rfl h
    | cons x r => rfl
  rw [e, asIntTups_ints]
theorem nodup_toI {l : List (List Nat)} (h : l.Nodup) : (l.map toI).Nodup := by
  unfold List.Nodup at *
  rw [List.pairwise_map]
  exact h.imp fun {a b} ne e => ne (toI_inj e)
/-- the lots within a lot, by choosing among all of them -/
theorem lots_two {p : Nat} {ks : List Nat} (h : Lot p ks) : isort lexI ((srt (aw (List.range p))).filter fun t => t.all fun i => decide (i ∈ toI ks)) = srt (aw ks) := by
  have nd : ∀ js, Lot p js → (aw js).Nodup := fun js hj => nodup_aw js (hj.pw.imp fun {a b} l => Nat.ne_of_lt l)
  have asc : ∀ js, Lot p js → Asc lexI (srt (aw js)) := fun js hj => asc_isort ord_lexI (nodup_toI (nd js hj))
  have nds : (srt (aw (List.range p))).Nodup := (asc _ Lot.all).imp fun {a b} l e => by
    subst e
    rw [ord_lexI.irr] at l
    cases l
  refine asc_ext ord_lexI (asc_isort ord_lexI (nds.sublist List.filter_sublist)) (asc ks h) fun t => ?_
  rw [mem_isort, List.mem_filter]
  unfold srt
  rw [mem_isort, mem_isort, List.mem_map, List.mem_map]
  constructor
  · rintro ⟨⟨s, hs, rfl⟩, ha⟩
    refine ⟨s, (mem_aw _ _).mpr (sub_of_mem (Lot.pw ((mem_aw _ _).mp hs)) h.pw fun a hm => ?_), rfl⟩
    rw [List.all_eq_true] at ha
    exact mem_toI'.mp (of_decide_eq_true (ha a (mem_toI'.mpr hm)))
  · rintro ⟨s, hs, rfl⟩
    have hs := (mem_aw _ _).mp hs
    refine ⟨⟨s, (mem_aw _ _).mpr (hs.trans h), rfl⟩, List.all_eq_true.mpr fun i hi => ?_⟩
    obtain ⟨k, hk, rfl⟩ := mem_toI.mp hi
    exact decide_eq_true (mem_toI'.mpr (hs.subset hk))
/-- what is in one of two lots -/
theorem join_lots {p : Nat} {ks js : List Nat} (h : Lot p ks) (h' : Lot p js) : isort ltI (undup (toI ks ++ toI js)) = toI ((List.range p).filter fun k => decide (k ∈ ks) || decide (k ∈ js)) := by
  refine asc_ext ord_ltI (asc_isort ord_ltI nodup_und) ?_ fun a => ?_
  · unfold Asc toI
    rw [List.pairwise_map]
    exact (Lot.filter (p := p)).pw.imp fun {a b} l => by simp [ltI]; omega
  · rw [mem_isort, mem_und, List.mem_append, mem_toI, mem_toI, mem_toI]
    constructor
    · rintro (⟨k, hk, rfl⟩ | ⟨k, hk, rfl⟩)
      · exact ⟨k, List.mem_filter.mpr ⟨List.mem_range.mpr (h.lt k hk), by simp [hk]⟩, rfl⟩
      · exact ⟨k, List.mem_filter.mpr ⟨List.mem_range.mpr (h'.lt k hk), by simp [hk]⟩, rfl⟩
    · rintro ⟨k, hk, rfl⟩
      have q := (List.mem_filter.mp hk).2
      simp at q
      exact q.imp (fun z => ⟨k, z, rfl⟩) fun z => ⟨k, z, rfl⟩
theorem nth_toI {ks : List Nat} {i : Nat} (h : i < ks.length) : nth (toI ks) i = (ks[i] : Int) := by
  unfold nth toI
  rw [Int.toNat_natCast, List.getD_eq_getElem?_getD, List.getElem?_map, List.getElem?_eq_getElem h]
  rfl
theorem ascB_lot {ks : List Nat} (h : ks.Pairwise (· < ·)) : ascB (toI ks) = true := by
  unfold ascB
  rw [List.all_eq_true]
  intro x hx
  obtain ⟨i, rfl, h1, h2⟩ := mem_rng hx
  rw [toI_len] at h2
  obtain ⟨j, rfl⟩ : ∃ j : Nat, i = (j : Int) + 1 := ⟨(i - 1).toNat, by omega⟩
  have hj : j < ks.length := by omega
  have hj' : j + 1 < ks.length := by omega
  show decide (nth (toI ks) ((j : Int) + 1 - 1) < nth (toI ks) ((j + 1 : Nat) : Int)) = true
  rw [show (j : Int) + 1 - 1 = (j : Int) by omega, nth_toI hj, nth_toI hj']
  have := List.pairwise_iff_getElem.mp h j (j + 1) hj hj' (by omega)
  exact decide_eq_true (by omega)
theorem kl_lot {p : Nat} {q : Int} {ks : List Nat} (h : Lot p ks) (hq : (p : Int) ≤ q) : kl q (lotD ks) = true := by
  show (((toI ks).map D.int).all (btw 0 (q - 1)) && ascD ((toI ks).map D.int)) = true
  unfold ascD
  rw [asInts_map]
  show (((toI ks).map D.int).all (btw 0 (q - 1)) && ascB (toI ks)) = true
  rw [ascB_lot h.pw, Bool.and_true, List.all_eq_true]
  intro x hx
  obtain ⟨i, hi, rfl⟩ := List.mem_map.mp hx
  obtain ⟨k, hk, rfl⟩ := mem_toI.mp hi
  have := h.lt k hk
  simp [btw]
  omega
theorem tupInts_map {n : Nat} {ns : List Int} (h : ns.length ≤ n) : tupInts n (.tup (ns.map .int)) = some ns := by
  show (if (ns.map D.int).length ≤ n then asInts (ns.map D.int) else none) = _
  rw [List.length_map, if_pos h, asInts_map]
theorem all_toI {ks : List Nat} {p : Int → Bool} {q : Nat → Bool} (h : ∀ k ∈ ks, p (k : Int) = q k) : (toI ks).all p = ks.all q := by
  unfold toI
  rw [List.all_map]
  induction ks with
  | nil => rfl
  | cons x r ih => rw [List.all_cons, List.all_cons, ih fun k hk => h k (List.mem_cons_of_mem _ hk)]; show (p (x : Int) && _) = _; rw [h x List.mem_cons_self]
theorem get_new {m : Store} {c : Cell} : (m ++ [c])[m.length]? = some c := by simp
theorem set_new {m : Store} {c c' : Cell} : (m ++ [c]).set m.length c' = m ++ [c'] := by simp
/-! ### the box of draws -/
/-- the box lies at k, at most N draws were made -/
def Bx (k N : Nat) (m : Store) : Prop := ∃ (a c d : Int) (b : Bool), m[k]? = some (.lst [.int a, .bl b, .int c, .int d]) ∧ 0 ≤ a ∧ 0 ≤ c ∧ c < 2147483647 ∧ 0 ≤ d ∧ d ≤ N
/-- the store has grown; what lay in it lies there still, but for the place k -/
def Ext (k : Nat) (m m' : Store) : Prop := m.length ≤ m'.length ∧ ∀ j, j ≠ k → j < m.length → m'[j]? = m[j]?
theorem Ext.refl {k : Nat} {m : Store} : Ext k m m := ⟨Nat.le_refl _, fun _ _ _ => rfl⟩
theorem Ext.trans {k : Nat} {m m' m'' : Store} (h : Ext k m m') (h' : Ext k m' m'') : Ext k m m'' := ⟨Nat.le_trans h.1 h'.1, fun j hj hl => (h'.2 j hj (Nat.lt_of_lt_of_le hl h.1)).trans (h.2 j hj hl)⟩
theorem Ext.set {k : Nat} {m : Store} {c : Cell} : Ext k m (m.set k c) := ⟨by rw [List.length_set]; exact Nat.le_refl _, fun j hj _ => List.getElem?_set_ne (Ne.symm hj)⟩
theorem Ext.app {k : Nat} {m t : Store} : Ext k m (m ++ t) := ⟨by simp, fun j _ hl => List.getElem?_append_left hl⟩
theorem Ext.get {k j : Nat} {m m' : Store} {c : Cell} (h : Ext k m m') (hj : j ≠ k) (hm : m[j]? = some c) : m'[j]? = some c := (h.2 j hj (List.getElem?_eq_some_iff.mp hm).1).trans hm
theorem Bx.mono {k N N' : Nat} {m : Store} (h : Bx k N m) (hN : N ≤ N') : Bx k N' m := by
  obtain ⟨a, c, d, b, hm, ha, hc, hc2, hd, hd2⟩ := h
  exact ⟨a, c, d, b, hm, ha, hc, hc2, hd, by omega⟩
theorem Bx.app {k N : Nat} {m t : Store} (h : Bx k N m) : Bx k N (m ++ t) := by
  obtain ⟨a, c, d, b, hm, r⟩ := h
  exact ⟨a, c, d, b, by rw [List.getElem?_append_left (List.getElem?_eq_some_iff.mp hm).1]; exact hm, r⟩
theorem Bx.set {k j N : Nat} {m : Store} {c : Cell} (h : Bx k N m) (hj : j ≠ k) : Bx k N (m.set j c) := by
  obtain ⟨a, c', d, b, hm, r⟩ := h
  exact ⟨a, c', d, b, by rw [List.getElem?_set_ne hj]; exact hm, r⟩
theorem Bx.lt {k N : Nat} {m : Store} (h : Bx k N m) : k < m.length := by
  obtain ⟨a, c, d, b, hm, r⟩ := h
  exact (List.getElem?_eq_some_iff.mp hm).1
end Dy
end
section
set_option linter.all false
set_option maxRecDepth 100000
/-! DyG2: values that are plain, values that a law hands to a call. -/
namespace Dy
def atom : D → Bool
  | .non => true
  | .bl _ => true
  | .int _ => true
  | .str s => shp (.str s) 60
  | _ => false
mutual
/-- frozen plain data, nested n deep at most, no long lists -/
def pl : D → Nat → Bool
  | .tup xs, n + 1 => decide (xs.length ≤ 4096) && pls xs n
  | .fl xs, n + 1 => decide (xs.length ≤ 4096) && pls xs n
  | .non, _ => true
  | .bl _, _ => true
  | .int _, _ => true
  | .str s, _ => shp (.str s) 60
  | _, _ => false
def pls : List D → Nat → Bool
  | [], _ => true
  | x :: xs, n => pl x n && pls xs n
end
theorem pls_mem : ∀ {xs : List D} {n : Nat}, pls xs n = true → ∀ x ∈ xs, pl x n = true
  | [], _, _, x, hx => by simp at hx
  | y :: r, n, h, x, hx => by
    unfold pls at h
    rw [Bool.and_eq_true] at h
    rcases List.mem_cons.mp hx with rfl | hx
    · exact h.1
    · exact pls_mem h.2 x hx
theorem pls_of : ∀ {xs : List D} {n : Nat}, (∀ x ∈ xs, pl x n = true) → pls xs n = true
  | [], _, _ => rfl
  | y :: r, n, h => by
    unfold pls
    rw [h y List.mem_cons_self, pls_of fun x hx => h x (List.mem_cons_of_mem _ hx)]
    rfl
theorem Sm_pl {m : Store} : ∀ (n : Nat) (x : D), pl x n = true → Sm m n x x := by
  intro n
  induction n with
  | zero =>
    intro x h
    cases x with
    | non => exact .non
    | bl b => exact .bl b
    | int i => exact .int i
    | str s => exact .str s (by unfold pl at h; exact h)
    | _ => simp [pl] at h
  | succ n ih =>
    intro x h
    cases x with
    | non => exact .non
    | bl b => exact .bl b
    | int i => exact .int i
    | str s => exact .str s (by unfold pl at h; exact h)
    | tup xs =>
      unfold pl at h
      rw [Bool.and_eq_true, decide_eq_true_eq] at h
      exact .tup xs xs rfl (by omega) fun i x y e1 e2 => by
        rw [e1] at e2
        cases e2
        exact ih x (pls_mem h.2 x (List.mem_of_getElem? e1))
    | fl xs =>
      unfold pl at h
      rw [Bool.and_eq_true, decide_eq_true_eq] at h
      exact .lst _ _ xs xs rfl rfl rfl (by omega) fun i x y e1 e2 => by
        rw [e1] at e2
        cases e2
        exact ih x (pls_mem h.2 x (List.mem_of_getElem? e1))
    | _ => simp [pl] at h
theorem atom_pl {x : D} (h : atom x = true) : pl x 0 = true := by
  cases x <;> first | cases h; done | (unfold pl; first | rfl | exact h)
theorem Sm_atom {m : Store} {n : Nat} {x : D} (h : atom x = true) : Sm m n x x := by
  cases x <;> first | cases h; done | exact .non | exact .bl _ | exact .int _ | exact .str _ h
theorem deep_shp_pl {m : Store} : ∀ (n : Nat) (x : D) (k l : Nat), pl x n = true → n ≤ k → n ≤ l → shp (m.deep k x) l = true := by
  intro n
  induction n with
  | zero =>
    intro x k l h hk hl
    cases x with
    | str s =>
      unfold pl at h
      cases k <;> cases l <;> exact h
    | non => cases k <;> cases l <;> rfl
    | bl b => cases k <;> cases l <;> rfl
    | int i => cases k <;> cases l <;> rfl
    | _ => simp [pl] at h
  | succ n ih =>
    intro x k l h hk hl
    obtain ⟨k, rfl⟩ : ∃ k', k = k' + 1 := ⟨k - 1, by omega⟩
    obtain ⟨l, rfl⟩ : ∃ l', l = l' + 1 := ⟨l - 1, by omega⟩
    have many : ∀ xs : List D, pls xs n = true → shps (xs.map (m.deep k)) l = true := by
      intro xs
      induction xs with
      | nil => intro _; rfl
      | cons x r ihr =>
        intro h
        unfold pls at h
        rw [Bool.and_eq_true] at h
        show (shp (m.deep k x) l && shps (r.map (m.deep k)) l) = true
        rw [ih x k l h.1 (by omega) (by omega), ihr h.2]
        rfl
    cases x with
    | str s => unfold pl at h; exact h
    | non => rfl
    | bl b => rfl
    | int i => rfl
    | tup xs =>
      unfold pl at h
      rw [Bool.and_eq_true] at h
      exact many xs h.2
    | fl xs =>
      unfold pl at h
      rw [Bool.and_eq_true] at h
      exact many xs h.2
    | _ => simp [pl] at h
theorem shps_of {m : Store} {k l : Nat} : ∀ {xs : List D}, (∀ x ∈ xs, shp (m.deep k x) l = true) → shps (xs.map (m.deep k)) l = true
  | [], _ => rfl
  | x :: r, h => by
    show (shp (m.deep k x) l && shps (r.map (m.deep k)) l) = true
    rw [h x List.mem_cons_self, shps_of fun y hy => h y (List.mem_cons_of_mem _ hy)]
    rfl
/-- a list is [] or not -/
theorem eq_nil {m : Store} {xs : List D} (h : ∀ x ∈ xs, shp (m.deep 59 x) 59 = true) : eqM m (.fl xs) (.fl []) = some xs.isEmpty := by
  show (if shp (.fl (xs.map (m.deep 59))) 60 && shp (.fl []) 60 then some (eqD (.fl (xs.map (m.deep 59))) (.fl [])) else none) = _
  have e : shp (.fl (xs.map (m.deep 59))) 60 = true := shps_of h
  rw [e, show shp (.fl []) 60 = true from rfl]
  cases xs <;> rfl
theorem cmp_eq_nil {m : Store} {xs : List D} (h : ∀ x ∈ xs, shp (m.deep 59 x) 59 = true) : cmpD m .eq (.fl xs) (.fl []) = some xs.isEmpty := eq_nil h
theorem cmp_ne_nil {m : Store} {xs : List D} (h : ∀ x ∈ xs, shp (m.deep 59 x) 59 = true) : cmpD m .ne (.fl xs) (.fl []) = some (!xs.isEmpty) := by
  show (eqM m (.fl xs) (.fl [])).map (!·) = _
  rw [eq_nil h]
  rfl
theorem empty_filter {α : Type} {p : α → Bool} : ∀ {xs : List α}, (xs.filter p).isEmpty = xs.all fun x => !p x
  | [] => rfl
  | x :: r => by
    rw [List.filter_cons, List.all_cons]
    cases h : p x
    · simp only [Bool.false_eq_true, if_false, Bool.not_false, Bool.true_and]; exact empty_filter
    · simp
theorem all_congr {α : Type} {p q : α → Bool} : ∀ {xs : List α}, (∀ x ∈ xs, p x = q x) → xs.all p = xs.all q
  | [], _ => rfl
  | x :: r, h => by rw [List.all_cons, List.all_cons, h x List.mem_cons_self, all_congr fun y hy => h y (List.mem_cons_of_mem _ hy)]
theorem filter_ints {p : Int → Bool} : ∀ {ns : List Int}, (ns.map D.int).filter (onI p) = (ns.filter p).map .int
  | [] => rfl
  | x :: r => by
    rw [List.map_cons, List.filter_cons, List.filter_cons]
    show (if p x = true then _ else _) = _
    cases p x
    · simp only [Bool.false_eq_true, if_false]; exact filter_ints
    · simp only [if_true, List.map_cons]; exact congrArg _ filter_ints
end Dy
end
section
set_option linter.all false
set_option maxRecDepth 100000
namespace K01
open Dy
local macro_rules | `(tactic| rfl') => `(tactic| repeat' first | refine Op_i rfl ?_ | refine Br_t rfl ?_ | refine Br_f rfl ?_ | refine Gd_i rfl ?_ | with_reducible refine W_ok ?_ | refine Lm_i (by first | decide | (simp; done) | (simp; omega)) ?_ | refine Rg_i (by first | omega | decide) (by first | omega | decide) (by first | omega | decide) (by first | omega | decide) ?_ | exact And.intro rfl rfl | fail)
local macro_rules | `(tactic| exists $e:term) => `(tactic| (refine $e; rfl'))
/-- what isinstance may be asked of -/
def Al (m : Store) (d : D) : Prop := alive (fun c => (G.cls c).isSome) m d = true
theorem lsq_al {m : Store} {a : D} {xs : List D} (h : m.lsq a = some xs) : Al m a := by
  cases a with
  | cell k =>
    unfold Store.lsq at h
    unfold Al alive
    cases em : m[k]? with
    | none => simp only [em] at h; cases h
    | some c =>
      simp only [em] at h
      cases c <;> cases h
      simp only [em]
  | _ => first | rfl | cases h
theorem lsq_ty {m : Store} {a : D} {xs : List D} (h : m.lsq a = some xs) : isTy G.sup m a .list = true ∧ isTy G.sup m a .int = false ∧ isTy G.sup m a .bool = false ∧ isTy G.sup m a .str = false ∧ isTy G.sup m a .dict = false ∧ isTy G.sup m a .tuple = false ∧ (∃ b, iscD a .non = some b ∧ b = false) := by
  cases a with
  | cell k =>
    unfold Store.lsq at h
    cases em : m[k]? with
    | none => simp only [em] at h; cases h
    | some c =>
      simp only [em] at h
      cases c <;> cases h
      simp [isTy, iscD, em]
  | _ => first | cases h; done | simp [isTy, iscD]
theorem dct_ty {m : Store} {j : Nat} {l : Bool} {us : List (Ky × D)} (h : m[j]? = some (.dct l us)) : Al m (.cell j) ∧ isTy G.sup m (.cell j) .dict = true ∧ isTy G.sup m (.cell j) .bool = false ∧ isTy G.sup m (.cell j) .int = false ∧ isTy G.sup m (.cell j) .str = false := by
  simp [Al, alive, isTy, h]
theorem same_eq : ∀ {k : Nat} {m : Store} {a b : D}, Sm m k a b → ∀ {n : Nat}, k ≤ n → run G fns (n + 1) f__law_same [a, b] m = .ok (.bl true) m := by
  intro k
  induction k with
  | zero => ?_
  | succ k ih => ?_
  all_goals (intro m a b h n hn; cases h)
  case zero.non | succ.non => exact eq_W (run_W rfl rfl (by rfl'))
  case zero.bl b | succ.bl b =>
    refine eq_W (run_W rfl rfl ?_)
    cases b <;> rfl'
  case zero.int i | succ.int i =>
    refine eq_W (run_W rfl rfl ?_)
    rfl'
    refine ⟨?_, rfl⟩
    show D.bl (i - i == 0) = _
    simp
  case zero.str s h | succ.str s h =>
    refine eq_W (run_W rfl rfl ?_)
    rfl'
    refine Op_i (show eqM m (.str s) (.str s) = some true from shp_str h) ?_
    rfl'
  case succ.tup xs ys hl hm h =>
    refine eq_W (run_W rfl rfl ?_)
    rfl'
    refine Br_f (by show (!eqD (.int xs.length) (.int ys.length)) = false; simp [eqD, hl]) ?_
    rfl'
    refine Lc_fm (fun _ => none) (fun x hx R hR => ?_) ?_
    · obtain ⟨i, rfl, h1, h2⟩ := mem_rng hx
      obtain ⟨j, rfl⟩ := Int.eq_ofNat_of_zero_le h1
      have hj : j < ys.length := by omega
      have hj' : j < xs.length := by omega
      obtain ⟨n, rfl⟩ : ∃ n', n = n' + 1 := ⟨n - 1, by omega⟩
      rfl'
      refine Op_i (idx_s rfl (List.getElem?_eq_getElem hj')) ?_
      rfl'
      refine Op_i (idx_s rfl (List.getElem?_eq_getElem hj)) ?_
      rfl'
      refine W_eq (ih (h j _ _ (List.getElem?_eq_getElem hj') (List.getElem?_eq_getElem hj)) (by omega)) ?_
      rfl'
      exact hR
    · rw [show ∀ l : List D, l.filterMap (fun _ => (none : Option D)) = [] from fun l => by simp]
      rfl'
  case succ.lst xs ys hl hm h ha hb =>
    obtain ⟨a1, a2, a3, a4, a5, a6, _, a7, rfl⟩ := lsq_ty ha
    obtain ⟨b1, b2, b3, b4, b5, b6, _, b7, rfl⟩ := lsq_ty hb
    refine eq_W (run_W rfl rfl ?_)
    rfl'
    refine Op_i b7 ?_
    rfl'
    refine Gd_i (lsq_al hb) ?_
    refine Op_i rfl (Br_f (by simp [b3]) ?_)
    refine Op_i rfl (Gd_i (lsq_al hb) (Op_i rfl (Br_f (by simp [b2]) ?_)))
    refine Op_i rfl (Gd_i (lsq_al hb) (Op_i rfl (Br_f (by simp [b4]) ?_)))
    refine Op_i rfl (Gd_i (lsq_al hb) (Op_i rfl (Br_f (by simp [b5]) ?_)))
    refine Op_i rfl (Gd_i (lsq_al hb) (Op_i rfl (Br_t (by simp [b1]) ?_)))
    refine Op_i rfl (Gd_i (lsq_al ha) (Op_i rfl (Br_f (by simp [a1]) ?_)))
    refine Op_i rfl (Gd_i (lsq_al ha) (Op_i rfl (Gd_i (lsq_al hb) (Op_i (z := false) (by simp [cmpD, eqM, a1, b1, Store.deep, shp, eqD]) ?_))))
    rfl'
    refine Op_i (len_seq (Store.lsq_seq ha)) ?_
    rfl'
    refine Op_i (len_seq (Store.lsq_seq hb)) ?_
    rfl'
    refine Br_f (by show (!eqD (.int xs.length) (.int ys.length)) = false; simp [eqD, hl]) ?_
    rfl'
    refine Op_i (len_seq (Store.lsq_seq hb)) ?_
    rfl'
    refine Lc_fm (fun _ => none) (fun x hx R hR => ?_) ?_
    · obtain ⟨i, rfl, h1, h2⟩ := mem_rng hx
      obtain ⟨j, rfl⟩ := Int.eq_ofNat_of_zero_le h1
      have hj : j < ys.length := by omega
      have hj' : j < xs.length := by omega
      obtain ⟨n, rfl⟩ : ∃ n', n = n' + 1 := ⟨n - 1, by omega⟩
      rfl'
      refine Op_i (idx_s (Store.lsq_seq ha) (List.getElem?_eq_getElem hj')) ?_
      rfl'
      refine Op_i (idx_s (Store.lsq_seq hb) (List.getElem?_eq_getElem hj)) ?_
      rfl'
      refine W_eq (ih (h j _ _ (List.getElem?_eq_getElem hj') (List.getElem?_eq_getElem hj)) (by omega)) ?_
      rfl'
      exact hR
    · rw [show ∀ l : List D, l.filterMap (fun _ => (none : Option D)) = [] from fun l => by simp]
      rfl'
  case succ.dct i j li lj us vs hi hj hl hm h0 h =>
    obtain ⟨a0, a1, a2, a3, a4⟩ := dct_ty hi
    obtain ⟨b0, b1, b2, b3, b4⟩ := dct_ty hj
    refine eq_W (run_W rfl rfl ?_)
    rfl'
    refine Gd_i b0 (Op_i rfl (Br_f (by simp [b2]) ?_))
    refine Op_i rfl (Gd_i b0 (Op_i rfl (Br_f (by simp [b3]) ?_)))
    refine Op_i rfl (Gd_i b0 (Op_i rfl (Br_f (by simp [b4]) ?_)))
    refine Op_i rfl (Gd_i b0 (Op_i rfl (Br_t (by simp [b1]) ?_)))
    refine Op_i rfl (Gd_i a0 (Op_i rfl (Br_t (by simp [a1]) ?_)))
    refine Op_i rfl (Op_i (len_dct hi) (Op_i rfl (Op_i (len_dct hj) ?_)))
    rfl'
    refine Br_f (by show (!eqD (.int us.length) (.int vs.length)) = false; simp [eqD, hl]) ?_
    rfl'
    have fin : ∀ (m1 : Store) (R : D → Store → Prop) (X : D → Store → Prop) (li1 : Bool), m1[i]? = some (.dct li1 us) → m1[j]? = some (.dct true vs) → (∀ n u v, Sm m n u v → Sm m1 n u v) → R (.bl true) m1 → wpE G (run G fns n) (.cmp .eq (.lc false (.var 3) (.nm 3) (.e (.var 1)) (.some (.bop false (.cons (.e (.cmp .nin (.var 3) (.var 0))) (.cons (.notv (.e (.call 28 (.cons (.idx (.var 0) (.var 3)) (.cons (.idx (.var 1) (.var 3)) .nil))))) .nil)))) [3]) (.lst false .nil)) [some (.cell i), some (.cell j), none, none] m1 R X := by
      intro m1 R X li1 hi1 hj1 hs hR
      rfl'
      refine Op_i (src_lock hj1) ?_
      refine Lc_fm (fun _ => none) (fun x hx R hR => ?_) ?_
      · obtain ⟨p, hp, rfl⟩ := List.mem_map.mp hx
        obtain ⟨g1, g2⟩ := h0 p hp
        obtain ⟨u, gu⟩ := Option.isSome_iff_exists.mp g1
        obtain ⟨v, gv⟩ := Option.isSome_iff_exists.mp g2
        obtain ⟨n, rfl⟩ : ∃ n', n = n' + 1 := ⟨n - 1, by omega⟩
        rfl'
        refine Op_i (z := false) (by simp [cmpD, isin_dct hi1, gu]) ?_
        rfl'
        refine Op_i (idx_dct hi1 gu) ?_
        rfl'
        refine Op_i (idx_dct hj1 gv) ?_
        rfl'
        refine W_eq (ih (hs _ _ _ (h p u v hp gu gv)) (by omega)) ?_
        rfl'
        exact hR
      · rw [show ∀ l : List D, l.filterMap (fun _ => (none : Option D)) = [] from fun l => by simp]
        rfl'
        exact hR
    cases lj with
    | false =>
      refine .inl ⟨vs, hj, ?_⟩
      have hjl : j < m.length := (List.getElem?_eq_some_iff.mp hj).1
      obtain ⟨li1, hi1⟩ : ∃ l, (m.set j (.dct true vs))[i]? = some (.dct l us) := by
        rcases get_lock (i := i) (b' := true) hj with e | ⟨rfl, e⟩
        · exact ⟨li, by rw [e, hi]⟩
        · rw [hi] at hj; cases hj; exact ⟨true, e⟩
      refine fin _ _ _ li1 hi1 (List.getElem?_set_self hjl) (fun n u v s => s.lock hj) ?_
      refine ⟨true, vs, rfl, List.getElem?_set_self hjl, ?_⟩
      exact ⟨rfl, set_unlock hj⟩
    | true =>
      refine .inr ⟨fun kvs e => ?_, ?_⟩
      · rw [hj] at e; cases e
      · exact fin _ _ _ li hi hj (fun _ _ _ s => s) ⟨rfl, rfl⟩
end K01
end
section
set_option linter.all false
set_option maxRecDepth 100000
namespace K01
open Dy
local macro_rules | `(tactic| rfl') => `(tactic| repeat' first | refine Op_i rfl ?_ | refine Br_t rfl ?_ | refine Br_f rfl ?_ | refine Gd_i rfl ?_ | with_reducible refine W_ok ?_ | refine Lm_i (by first | decide | (simp; done) | (simp; omega)) ?_ | refine Rg_i (by first | omega | decide) (by first | omega | decide) (by first | omega | decide) (by first | omega | decide) ?_ | exact And.intro rfl rfl | fail)
theorem is_integer_eq {n : Nat} {m : Store} {d : D} (h : Al m d) : run G fns (n + 1) f_is_integer [d] m = .ok (.bl (isInt d)) m := by
  refine eq_W (run_W rfl rfl ?_)
  refine Op_i rfl (Gd_i h ?_)
  cases d <;> rfl'
theorem is_between_eq {n : Nat} {m : Store} {d : D} {a b : Int} (h : Al m d) : run G fns (n + 2) f_is_between [d, .int a, .int b] m = .ok (.bl (btw a b d)) m := by
  refine eq_W (run_W rfl rfl ?_)
  rfl'
  refine W_eq (is_integer_eq h) ?_
  cases d <;> rfl'
  refine ⟨fun h1 => ?_, fun h1 => ?_⟩ <;> rfl'
  · exact ⟨by show D.bl _ = D.bl (_ && _); rw [h1, Bool.true_and], rfl⟩
  · exact ⟨by show D.bl _ = D.bl (_ && _); rw [h1]; rfl, rfl⟩
theorem is_index_eq {n : Nat} {m : Store} {d : D} {b : Int} (h : Al m d) : run G fns (n + 3) f_is_index [d, .int b] m = .ok (.bl (btw 0 (b - 1) d)) m := by
  refine eq_W (run_W rfl rfl ?_)
  rfl'
  refine W_eq (is_between_eq h) ?_
  rfl'
theorem is_ascending_eq {n : Nat} {m : Store} {ns : List Int} (hl : ns.length ≤ 16777216) : run G fns (n + 1) f_is_ascending [.tup (ns.map .int)] m = .ok (.bl (ascB ns)) m := by
  have e : (ns.map D.int).length = ns.length := List.length_map ..
  refine eq_W (run_W rfl rfl ?_)
  rfl'
  refine Lc_map (fun x => .bl (onI (fun i => decide (nth ns (i - 1) < nth ns i)) x)) (fun x hx R hR => ?_) ?_
  · obtain ⟨i, rfl, h1, h2⟩ := mem_rng hx
    rfl'
    refine Op_i (idx_ints rfl (by omega) (by omega)) ?_
    rfl'
    refine Op_i (idx_ints rfl (by omega) (by omega)) ?_
    rfl'
    exact hR
  · refine Lm_i (by rw [List.length_map, rngD_len]; omega) ?_
    refine Op_i all_map ?_
    exact ⟨by rw [e] <;> rfl, rfl⟩
/-- a value that may be asked whether it is a tuple of .. -/
def Vl (m : Store) (d : D) : Prop := Al m d ∧ ∀ xs, d = .tup xs → xs.length ≤ 16777216 ∧ ∀ x ∈ xs, Al m x
theorem is_known_lot_eq {n : Nat} {m : Store} {d : D} {p : Int} (h : Vl m d) : run G fns (n + 4) f_is_known_lot [d, .int p] m = .ok (.bl (kl p d)) m := by
  refine eq_W (run_W rfl rfl ?_)
  refine Op_i rfl (Gd_i h.1 ?_)
  cases d <;> rfl'
  rename_i xs
  obtain ⟨hl, hx⟩ := h.2 xs rfl
  refine Lc_map (fun x => .bl (btw 0 (p - 1) x)) (fun x hx' R hR => ?_) ?_
  · rfl'
    refine W_eq (is_index_eq (hx x hx')) ?_
    exact hR
  · refine Lm_i (by rw [List.length_map]; exact hl) ?_
    refine Op_i all_map ?_
    rfl'
    refine ⟨fun h1 => ?_, fun h1 => ?_⟩ <;> rfl'
    · have h1 : xs.all (btw 0 (p - 1)) = true := by simpa using h1
      obtain ⟨ns, rfl⟩ := all_int h1
      refine W_eq (is_ascending_eq (by simpa using hl)) ⟨?_, rfl⟩
      show D.bl (ascB ns) = D.bl (_ && ascD _)
      unfold ascD
      rw [h1, asInts_map]
      rfl
    · have h1 : xs.all (btw 0 (p - 1)) = false := by simpa using h1
      exact ⟨by show D.bl _ = D.bl (_ && _); rw [h1]; rfl, rfl⟩
theorem is_lot_ok {n : Nat} {m : Store} {d : D} {p : Int} (h : Vl m d) (h1 : 1 ≤ p) (h2 : p ≤ 8) : run G fns (n + 5) f_is_lot [.int p, d] m = .ok (.bl (kl p d)) m := by
  refine eq_W (run_W rfl rfl ?_)
  rfl'
  refine W_eq (is_between_eq rfl) ?_
  refine Op_i rfl (Br_f (by simp [btw]; omega) ?_)
  rfl'
  refine W_eq (is_known_lot_eq h) ?_
  rfl'
theorem is_lot_ex {n : Nat} {m : Store} {d c : D} (h : Al m c) (h1 : btw 1 8 c = false) : run G fns (n + 5) f_is_lot [c, d] m = .exc (.ex 2 [0] [c]) m := by
  refine eq_X (run_W rfl rfl ?_)
  rfl'
  refine W_eq (is_between_eq h) ?_
  refine Op_i rfl (Br_t (by rw [h1]; rfl) ?_)
  rfl'
theorem need_ok {n : Nat} {m : Store} {d : D} (h : Vl m d) (h1 : kl 8 d = true) : run G fns (n + 5) f_need_lot [d] m = .ok .non m := by
  refine eq_W (run_W rfl rfl ?_)
  rfl'
  refine W_eq (is_known_lot_eq h) ?_
  refine Op_i rfl (Br_f (by rw [h1]; rfl) ?_)
  rfl'
theorem need_ex {n : Nat} {m : Store} {d : D} (h : Vl m d) (h1 : kl 8 d = false) : run G fns (n + 5) f_need_lot [d] m = .exc (.ex 4 [0] [d]) m := by
  refine eq_X (run_W rfl rfl ?_)
  rfl'
  refine W_eq (is_known_lot_eq h) ?_
  refine Op_i rfl (Br_t (by rw [h1]; rfl) ?_)
  rfl'
theorem are_integers_eq {n : Nat} {m : Store} {d : D} (h : Vl m d) : run G fns (n + 2) f_are_integers [d] m = .ok (.bl (ai d)) m := by
  refine eq_W (run_W rfl rfl ?_)
  refine Op_i rfl (Gd_i h.1 ?_)
  cases d <;> rfl'
  rename_i xs
  obtain ⟨hl, hx⟩ := h.2 xs rfl
  have go : ∀ {Q : D → Store → Prop} {X : D → Store → Prop} {σ : Loc}, Q (.bl (xs.all isInt)) m → WLc (fun d m1 R => Op (bindTg (.nm 1) d (wipeD [some (.tup xs), none] [1])) fun σ1 => wpC G (run G fns (n + 1)) .none σ1 m1 (fun k m2 => Br k (wpE G (run G fns (n + 1)) (.call 0 (.cons (.var 1) .nil)) σ1 m2 (fun y m3 => R (some y) m3) noX) (R none m2)) noX) (.fix xs) m fun ys m2 => Lm ys.length (Op (biD m2 .all [.fl ys]) fun z => Q z m2) := by
    intro Q X σ hQ
    refine Lc_map (fun x => .bl (isInt x)) (fun x hx' R hR => ?_) ?_
    · rfl'
      refine W_eq (is_integer_eq (hx x hx')) ?_
      exact hR
    · refine Lm_i (by rw [List.length_map]; exact hl) ?_
      exact Op_i all_map hQ
  refine ⟨fun h1 => ?_, fun h1 => ?_⟩ <;> rfl'
  · refine ⟨fun h2 => ?_, fun h2 => ?_⟩ <;> rfl'
    · refine go (Q := fun d m1 => d = _ ∧ m1 = m) (X := noX) (σ := []) ⟨?_, rfl⟩
      show _ = D.bl (_ && _ && _)
      have h1 : decide ((1 : Int) ≤ xs.length) = true := h1
      have h2 : (decide ((xs.length : Int) ≤ 8) == true) = true := h2
      have h1 := of_decide_eq_true h1
      have h2 : (xs.length : Int) ≤ 8 := by simpa using h2
      rw [decide_eq_true (show 1 ≤ xs.length by omega), decide_eq_true (show xs.length ≤ 8 by omega)]
      rfl
    · refine ⟨?_, rfl⟩
      show D.bl (decide ((xs.length : Int) ≤ 8)) = D.bl (_ && _ && _)
      have h2 : (decide ((xs.length : Int) ≤ 8) == true) = false := h2
      have h2 : ¬ (xs.length : Int) ≤ 8 := by simpa using h2
      rw [decide_eq_false h2, decide_eq_false (show ¬ xs.length ≤ 8 by omega), Bool.and_false, Bool.false_and]
  · refine ⟨?_, rfl⟩
    show D.bl false = D.bl (_ && _ && _)
    have h1 : decide ((1 : Int) ≤ xs.length) = false := h1
    have h1 := of_decide_eq_false h1
    rw [decide_eq_false (show ¬ 1 ≤ xs.length by omega)]
    rfl
/-- the places at which two rows of ints are unlike -/
def ulk (ns ms : List Int) : List D := (rngD 0 ns.length).filter (onI fun i => nth ns i != nth ms i)
theorem unlike_in_eq {n : Nat} {m : Store} {ns ms : List Int} (hl : ns.length ≤ 16777216) (he : ms.length = ns.length) : run G fns (n + 1) f_unlike_in [.tup (ns.map .int), .tup (ms.map .int)] m = .ok (.tup (ulk ns ms)) m := by
  have e : (ns.map D.int).length = ns.length := List.length_map ..
  refine eq_W (run_W rfl rfl ?_)
  rfl'
  refine Lc_filter (onI fun i => nth ns i != nth ms i) (fun x hx R hR => ?_) ?_
  · obtain ⟨i, rfl, h1, h2⟩ := mem_rng hx
    rfl'
    refine Op_i (idx_ints rfl (by omega) (by omega)) ?_
    rfl'
    refine Op_i (idx_ints rfl (by omega) (by omega)) ?_
    rfl'
    have hR : R (if (nth ns i != nth ms i) = true then some (.int i) else none) m := hR
    refine ⟨fun h => ?_, fun h => ?_⟩ <;> rfl'
    · have h : (nth ns i != nth ms i) = true := h
      rw [if_pos h] at hR
      exact hR
    · have h : (nth ns i != nth ms i) = false := h
      rw [h] at hR
      exact hR
  · have q := List.length_filter_le (onI fun i => nth ns i != nth ms i) (rngD 0 ↑(ns.map D.int).length)
    rw [rngD_len] at q
    refine Lm_i (by omega) ?_
    rfl'
    exact ⟨by rw [e] <;> rfl, rfl⟩
theorem ai_ints {d : D} (h : ai d = true) : ∃ ns : List Int, d = .tup (ns.map .int) ∧ 1 ≤ ns.length ∧ ns.length ≤ 8 := by
  cases d <;> first | cases h; done | skip
  rename_i xs
  have h : (decide (1 ≤ xs.length) && decide (xs.length ≤ 8) && xs.all isInt) = true := h
  rw [Bool.and_eq_true, Bool.and_eq_true, decide_eq_true_eq, decide_eq_true_eq] at h
  obtain ⟨ns, rfl⟩ := ints_of h.2
  exact ⟨ns, rfl, by simpa using h.1.1, by simpa using h.1.2⟩
theorem ai_of {ns : List Int} (h1 : 1 ≤ ns.length) (h2 : ns.length ≤ 8) : ai (.tup (ns.map .int)) = true := by
  show (decide (1 ≤ (ns.map D.int).length) && decide ((ns.map D.int).length ≤ 8) && (ns.map D.int).all isInt) = true
  rw [List.length_map, decide_eq_true h1, decide_eq_true h2]
  simp [isInt]
theorem Vl_ints {m : Store} {ns : List Int} (h : ns.length ≤ 16777216) : Vl m (.tup (ns.map .int)) := ⟨rfl, fun xs e => by
  cases e
  refine ⟨by simpa using h, fun x hx => ?_⟩
  obtain ⟨i, _, rfl⟩ := List.mem_map.mp hx
  rfl⟩
theorem unlike_ok {n : Nat} {m : Store} {ns ms : List Int} (h1 : 1 ≤ ns.length) (h2 : ns.length ≤ 8) (he : ms.length = ns.length) : run G fns (n + 3) f_unlike_places [.tup (ns.map .int), .tup (ms.map .int)] m = .ok (.tup (ulk ns ms)) m := by
  refine eq_W (run_W rfl rfl ?_)
  rfl'
  refine W_eq (are_integers_eq (Vl_ints (by omega))) ?_
  refine Op_i rfl (Br_f (by rw [ai_of h1 h2]; rfl) ?_)
  rfl'
  refine W_eq (are_integers_eq (Vl_ints (by omega))) ?_
  refine Op_i rfl (Br_t (by rw [ai_of (by omega) (by omega)]; rfl) ?_)
  rfl'
  refine Br_f (by show (!eqD (.int (ms.map D.int).length) (.int (ns.map D.int).length)) = false; simp [eqD, he]) ?_
  rfl'
  refine W_eq (unlike_in_eq (by omega) he) ?_
  rfl'
theorem unlike_ex1 {n : Nat} {m : Store} {d e : D} (h : Vl m d) (h1 : ai d = false) : run G fns (n + 3) f_unlike_places [d, e] m = .exc (.ex 3 [0] [d]) m := by
  refine eq_X (run_W rfl rfl ?_)
  rfl'
  refine W_eq (are_integers_eq h) ?_
  refine Op_i rfl (Br_t (by rw [h1]; rfl) ?_)
  rfl'
theorem unlike_ex2 {n : Nat} {m : Store} {ns : List Int} {e : D} (h1 : 1 ≤ ns.length) (h2 : ns.length ≤ 8) (h : Vl m e) (he : ai e = true → ∃ xs, e = .tup xs ∧ xs.length ≠ ns.length) : run G fns (n + 3) f_unlike_places [.tup (ns.map .int), e] m = .exc (.ex 3 [0] [e]) m := by
  refine eq_X (run_W rfl rfl ?_)
  rfl'
  refine W_eq (are_integers_eq (Vl_ints (by omega))) ?_
  refine Op_i rfl (Br_f (by rw [ai_of h1 h2]; rfl) ?_)
  rfl'
  refine W_eq (are_integers_eq h) ?_
  refine Op_i rfl ⟨fun h3 => ?_, fun h3 => ?_⟩
  · have h3 : ai e = true := by simpa using h3
    obtain ⟨xs, rfl, hn⟩ := he h3
    rfl'
    refine Br_t (by show (!eqD (.int xs.length) (.int (ns.map D.int).length)) = true; simp [eqD]; omega) ?_
    rfl'
  · rfl'
end K01
end
section
set_option linter.all false
set_option maxRecDepth 100000
namespace K01
open Dy
local macro_rules | `(tactic| rfl') => `(tactic| repeat' first | refine Op_i rfl ?_ | refine Br_t rfl ?_ | refine Br_f rfl ?_ | refine Gd_i rfl ?_ | with_reducible refine W_ok ?_ | refine Lm_i (by first | decide | (simp; done) | (simp; omega)) ?_ | refine Rg_i (by first | omega | decide) (by first | omega | decide) (by first | omega | decide) (by first | omega | decide) ?_ | exact And.intro rfl rfl | fail)
theorem Vl_lot {m : Store} {p : Nat} {ks : List Nat} (h : Lot p ks) (hp : p ≤ 16777216) : Vl m (lotD ks) := Vl_ints (by rw [toI_len]; have := h.len; omega)
theorem joined_ok {n : Nat} {m : Store} {ks js : List Nat} (h1 : Lot 8 ks) (h2 : Lot 8 js) : run G fns (n + 6) f_joined [lotD ks, lotD js] m = .ok (lotD ((List.range 8).filter fun k => decide (k ∈ ks) || decide (k ∈ js))) m := by
  refine eq_W (run_W rfl rfl ?_)
  rfl'
  refine W_eq (need_ok (Vl_lot h1 (by omega)) (kl_lot h1 (by omega))) ?_
  rfl'
  refine W_eq (need_ok (Vl_lot h2 (by omega)) (kl_lot h2 (by omega))) ?_
  have l1 := h1.len
  have l2 := h2.len
  have l3 : (toI ks ++ toI js).length ≤ 16 := by rw [List.length_append, toI_len, toI_len]; omega
  have e : binD m .add (lotD ks) (lotD js) = some (.tup ((toI ks ++ toI js).map .int)) := by
    show (if ((toI ks).map D.int).length + ((toI js).map D.int).length ≤ lim then some (D.tup ((toI ks).map D.int ++ (toI js).map D.int)) else none) = _
    rw [if_pos (by rw [List.length_map, List.length_map, toI_len, toI_len]; show _ ≤ 16777216; omega), List.map_append]
  refine Op_i rfl (Op_i rfl (Op_i e (Op_i (z := dInts (isort ltI (undup (toI ks ++ toI js)))) ?_ ?_)))
  · unfold sortsetD
    rw [tupInts_map (by omega)]
    rfl
  · rw [join_lots h1 h2]
    rfl'
theorem joined_ex1 {n : Nat} {m : Store} {d e : D} (h : Vl m d) (h1 : kl 8 d = false) : run G fns (n + 6) f_joined [d, e] m = .exc (.ex 4 [0] [d]) m := by
  refine eq_X (run_W rfl rfl ?_)
  rfl'
  refine W_ex (need_ex h h1) ?_
  rfl'
theorem joined_ex2 {n : Nat} {m : Store} {ks : List Nat} {e : D} (h : Lot 8 ks) (h1 : Vl m e) (h2 : kl 8 e = false) : run G fns (n + 6) f_joined [lotD ks, e] m = .exc (.ex 4 [0] [e]) m := by
  refine eq_X (run_W rfl rfl ?_)
  rfl'
  refine W_eq (need_ok (Vl_lot h (by omega)) (kl_lot h (by omega))) ?_
  rfl'
  refine W_ex (need_ex h1 h2) ?_
  rfl'
/-- all members of one are members of the other -/
def wi (ks js : List Nat) : Bool := ks.all fun k => decide (k ∈ js)
theorem is_within_eq {n : Nat} {m : Store} {ks js : List Nat} (hl : ks.length ≤ 16777216) : run G fns (n + 1) f_is_within [lotD ks, lotD js] m = .ok (.bl (wi ks js)) m := by
  refine eq_W (run_W rfl rfl ?_)
  rfl'
  refine Lc_map (fun x => .bl (onI (fun i => decide (i ∈ toI js)) x)) (fun x hx R hR => ?_) ?_
  · obtain ⟨i, hi, rfl⟩ := List.mem_map.mp hx
    rfl'
    refine Op_i (show cmpD m .inn (.int i) (lotD js) = some (decide (i ∈ toI js)) from isin_tup) ?_
    exact hR
  · refine Lm_i (by rw [List.length_map, List.length_map, toI_len]; exact hl) ?_
    refine Op_i all_map ?_
    refine ⟨?_, rfl⟩
    show D.bl (((toI ks).map D.int).all _) = _
    rw [List.all_map]
    exact congrArg D.bl (all_toI fun k hk => by
      show decide ((k : Int) ∈ toI js) = decide (k ∈ js)
      exact decide_eq_decide.mpr mem_toI')
theorem within_ok {n : Nat} {m : Store} {ks js : List Nat} (h1 : Lot 8 ks) (h2 : Lot 8 js) : run G fns (n + 6) f_within [lotD ks, lotD js] m = .ok (.bl (wi ks js)) m := by
  refine eq_W (run_W rfl rfl ?_)
  rfl'
  refine W_eq (need_ok (Vl_lot h1 (by omega)) (kl_lot h1 (by omega))) ?_
  rfl'
  refine W_eq (need_ok (Vl_lot h2 (by omega)) (kl_lot h2 (by omega))) ?_
  rfl'
  refine W_eq (is_within_eq (by have := h1.len; omega)) ?_
  rfl'
theorem within_ex1 {n : Nat} {m : Store} {d e : D} (h : Vl m d) (h1 : kl 8 d = false) : run G fns (n + 6) f_within [d, e] m = .exc (.ex 4 [0] [d]) m := by
  refine eq_X (run_W rfl rfl ?_)
  rfl'
  refine W_ex (need_ex h h1) ?_
  rfl'
theorem within_ex2 {n : Nat} {m : Store} {ks : List Nat} {e : D} (h : Lot 8 ks) (h1 : Vl m e) (h2 : kl 8 e = false) : run G fns (n + 6) f_within [lotD ks, e] m = .exc (.ex 4 [0] [e]) m := by
  refine eq_X (run_W rfl rfl ?_)
  rfl'
  refine W_eq (need_ok (Vl_lot h (by omega)) (kl_lot h (by omega))) ?_
  rfl'
  refine W_ex (need_ex h1 h2) ?_
  rfl'
theorem aw_len {ks : List Nat} (h : Lot 8 ks) : (aw ks).length ≤ 256 := by
  rw [len_aw]
  exact Nat.pow_le_pow_right (n := 2) (by omega) h.len
theorem all_within_eq {n : Nat} {m : Store} {ks : List Nat} (h : Lot 8 ks) : run G fns (n + 1) f_all_within [lotD ks] m = .ok (.fl ((aw ks).map lotD)) (m ++ [.dead]) := by
  refine eq_W (run_W rfl rfl ?_)
  rfl'
  refine For_inv (fun r σ m1 => ∃ (js rs : List Nat) (x y : Option D), js ++ rs = ks ∧ r = (toI rs).map .int ∧ σ = [some (lotD ks), some (.cell m.length), x, y] ∧ m1 = m ++ [.lst ((aw js).map lotD)]) ⟨[], ks, none, none, rfl, rfl, rfl, rfl⟩ ?_ ?_
  · rintro x r σ m1 ⟨js, rs, a, b, e, er, rfl, rfl⟩ N hN
    cases rs with
    | nil => cases er
    | cons k rs =>
      cases er
      have hl : (aw js).length ≤ 256 := aw_len (List.Sublist.trans (by rw [← e]; exact List.sublist_append_left _ _) h)
      rfl'
      refine Op_i (z := m.length) (by unfold Store.lstOf; simp only [get_new]) ?_
      rfl'
      refine Op_i (z := .cel m.length) (by unfold Store.src; simp only [get_new]) ?_
      refine ⟨_, get_new, by rw [List.length_map]; show _ ≤ 16777216; omega, Lk_pure (f := fun x => match x with | .tup xs => some (.tup (xs ++ [.int k])) | _ => none) get_new (fun x hx R hR => ?_) ?_⟩
      · obtain ⟨s, hs, rfl⟩ := List.mem_map.mp hx
        have hs := ((mem_aw _ _).mp hs).length_le
        have hj : js.length ≤ 8 := by
          have := congrArg List.length e
          rw [List.length_append] at this
          have := h.len
          omega
        rfl'
        refine Lm_i (by rw [List.length_map, toI_len]; omega) ?_
        exact hR
      · have ef : ((aw js).map lotD).filterMap (fun x => match x with | .tup xs => some (D.tup (xs ++ [.int k])) | _ => none) = ((aw js).map (· ++ [k])).map lotD := by
          rw [List.map_map]
          induction (aw js) with
          | nil => rfl
          | cons x r ih =>
            rw [List.map_cons, List.map_cons, ← ih]
            show D.tup ((toI x).map D.int ++ [.int k]) :: _ = _
            refine congrArg (· :: _) ?_
            show _ = D.tup ((toI (x ++ [k])).map D.int)
            unfold toI
            rw [List.map_append, List.map_append]
            rfl
        rw [ef]
        refine Lm_i (by rw [List.length_map, List.length_map]; omega) ?_
        refine ⟨_, _, rfl, get_new, Lm_i (by rw [List.length_map, List.length_map, List.length_map]; omega) ?_⟩
        refine hN _ _ ⟨js ++ [k], rs, _, _, by rw [← e]; simp, rfl, rfl, ?_⟩
        rw [set_new, aw_snoc, List.map_append]
  · rintro σ m1 ⟨js, rs, a, b, e, er, rfl, rfl⟩
    have : rs = [] := by cases rs with
      | nil => rfl
      | cons _ _ => cases er
    subst this
    rw [List.append_nil] at e
    subst e
    rfl'
    refine Op_i (z := (.fl ((aw js).map lotD), m ++ [.dead])) ?_ ?_
    · unfold frzD
      simp only [get_new, set_new]
    · rfl'
theorem lots_within_ok {n : Nat} {m : Store} {ks : List Nat} (h : Lot 8 ks) : run G fns (n + 6) f_lots_within [lotD ks] m = .ok (.cell (m.length + 1)) (m ++ [.dead] ++ [.lst ((srt (aw ks)).map fun t => .tup (t.map .int))]) := by
  refine eq_W (run_W rfl rfl ?_)
  rfl'
  refine W_eq (need_ok (Vl_lot h (by omega)) (kl_lot h (by omega))) ?_
  rfl'
  refine W_eq (all_within_eq h) ?_
  have ne : aw ks ≠ [] := fun z => by
    have q := len_aw ks
    rw [z] at q
    have := Nat.two_pow_pos ks.length
    simp at q
    omega
  refine Op_i (z := .fl ((srt (aw ks)).map fun t => .tup (t.map .int))) ?_ ?_
  · show (sortD ((aw ks).map lotD)).map D.fl = _
    rw [sortD_lots ne]
    rfl
  · refine ⟨?_, rfl⟩
    show D.cell (m ++ [Cell.dead]).length = _
    rw [List.length_append]
    rfl
theorem lots_within_ex {n : Nat} {m : Store} {d : D} (h : Vl m d) (h1 : kl 8 d = false) : run G fns (n + 6) f_lots_within [d] m = .exc (.ex 4 [0] [d]) m := by
  refine eq_X (run_W rfl rfl ?_)
  rfl'
  refine W_ex (need_ex h h1) ?_
  rfl'
end K01
end
section
set_option linter.all false
set_option maxRecDepth 100000
namespace K01
open Dy
local macro_rules | `(tactic| rfl') => `(tactic| repeat' first | refine Op_i rfl ?_ | refine Br_t rfl ?_ | refine Br_f rfl ?_ | refine Gd_i rfl ?_ | with_reducible refine W_ok ?_ | refine Lm_i (by first | decide | (simp; done) | (simp; omega)) ?_ | refine Rg_i (by first | omega | decide) (by first | omega | decide) (by first | omega | decide) (by first | omega | decide) ?_ | exact And.intro rfl rfl | fail)
theorem take_B {n k N : Nat} {m : Store} {many : Int} {Q : D → Store → Prop} {X : D → Store → Prop} (hb : Bx k N m) (hN : N < 1073741824) (h1 : 1 ≤ many) (h2 : many < 1073741824)
    (h : ∀ (r : Int) (m' : Store), 0 ≤ r → r < many → Bx k (N + 1) m' → Ext k m m' → Q (.int r) m') : (run G fns (n + 1) f__law_take [.cell k, .int many] m).W Q X := by
  obtain ⟨a, c, d, b, hm, ha, hc, hc2, hd, hd2⟩ := hb
  have hk : k < m.length := (List.getElem?_eq_some_iff.mp hm).1
  have hk2 : ∀ c, (m.set k c)[k]? = some c := fun c => by rw [List.getElem?_set_self hk]
  have fin : ∀ r a' d' : Int, 0 ≤ r → r < many → 0 ≤ a' → d ≤ d' → d' ≤ d + 1 → Q (.int r) (m.set k (.lst [.int a', .bl b, .int c, .int d'])) := fun r a' d' q1 q2 q3 q4 q5 =>
    h r _ q1 q2 ⟨a', c, d', b, List.getElem?_set_self hk, q3, hc, hc2, by omega, by omega⟩ Ext.set
  refine run_W rfl rfl ?_
  have low : wpSs G (run G fns n) (match b__law_take with | .cons _ r => r | .nil => .nil) [some (.cell k), some (.int many), none, none] m { nx := fun _ m => Q .non m, rt := Q, exc := fun x _ m => X x m } := by
    refine Op_i rfl (Op_i (idx_l hm rfl) ?_)
    rfl'
    refine Op_i (setix_l hm rfl) ?_
    refine Op_i rfl (Op_i (idx_l (hk2 _) rfl) ?_)
    rfl'
    refine Op_i (idx_l (hk2 _) rfl) ?_
    rfl'
    refine Op_i (pow_i (by decide) (by decide) ?_) ?_
    · omega
    rfl'
    refine Op_i (mul_i ?_) ?_
    · omega
    rfl'
    refine Op_i (idx_l (hk2 _) rfl) ?_
    rfl'
    refine Op_i (pow_i (by decide) (by decide) ?_) ?_
    · omega
    rfl'
    refine Op_i (mod_i (by omega)) ?_
    exact fin _ _ _ (Int.emod_nonneg _ (by omega)) (Int.emod_lt_of_pos _ (by omega)) ha (by omega) (by omega)
  refine Op_i rfl (Op_i (idx_l hm rfl) (Op_i rfl ?_))
  cases b with
  | false => exact Br_f rfl (Br_f rfl low)
  | true =>
    refine Br_t rfl (Op_i rfl (Op_i (idx_l hm rfl) (Op_i rfl (Op_i rfl ⟨fun hp => ?_, fun _ => low⟩))))
    have hp : 0 < a := of_decide_eq_true hp
    refine Op_i rfl (Op_i (idx_l hm rfl) ?_)
    rfl'
    refine Op_i (mod_i (by omega)) ?_
    refine Op_i rfl (Op_i (idx_l hm rfl) (Op_i rfl (Op_i (fdiv_i (by omega) h2) ?_)))
    rfl'
    refine Op_i (setix_l hm rfl) ?_
    rfl'
    exact fin _ _ _ (Int.emod_nonneg _ (by omega)) (Int.emod_lt_of_pos _ (by omega)) (Int.ediv_nonneg ha (by omega)) (by omega) (by omega)
theorem pick_B {n k N : Nat} {m : Store} {it : D} {xs : List D} {Q : D → Store → Prop} {X : D → Store → Prop} (hb : Bx k N m) (hN : N < 1073741824) (hi : it = .fl xs ∨ it = .tup xs) (h1 : 1 ≤ xs.length) (h2 : xs.length < 1073741824)
    (h : ∀ (x : D) (m' : Store), x ∈ xs → Bx k (N + 1) m' → Ext k m m' → Q x m') : (run G fns (n + 2) f__law_pick [.cell k, it] m).W Q X := by
  refine run_W rfl rfl ?_
  have hl : m.seqAt it = some xs := by rcases hi with rfl | rfl <;> rfl
  have hs : ∀ m : Store, m.seqAt it = some xs := fun m => by rcases hi with rfl | rfl <;> rfl
  rfl'
  refine Op_i (len_seq hl) ?_
  refine take_B hb hN (by omega) (by omega) fun r m' r1 r2 hb' he => ?_
  obtain ⟨j, rfl⟩ := Int.eq_ofNat_of_zero_le r1
  have hr : j < xs.length := by omega
  exact Op_i (idx_s (hs m') (List.getElem?_eq_getElem hr)) (h _ _ (List.getElem_mem hr) hb' he)
theorem pick_I {n k N : Nat} {m : Store} {ns : List Int} {lo hi : Int} {Q : D → Store → Prop} {X : D → Store → Prop} (hb : Bx k N m) (hN : N < 1073741824) (h1 : 1 ≤ ns.length) (h2 : ns.length < 1073741824) (hr : ∀ i ∈ ns, lo ≤ i ∧ i ≤ hi)
    (h : ∀ (w : Int) (m' : Store), lo ≤ w → w ≤ hi → Bx k (N + 1) m' → Ext k m m' → Q (.int w) m') : (run G fns (n + 2) f__law_pick [.cell k, .fl (ns.map .int)] m).W Q X := by
  refine pick_B hb hN (.inl rfl) (by rw [List.length_map]; exact h1) (by rw [List.length_map]; exact h2) fun x m' hx hb' he => ?_
  obtain ⟨w, hw, rfl⟩ := List.mem_map.mp hx
  exact h w m' (hr w hw).1 (hr w hw).2 hb' he
theorem cell_B {n j : Nat} {m : Store} {ns : List Int} (hl : ns.length ≤ 63) (hj : j ≤ 63) : ∃ i : Int, run G fns (n + 1) f__law_cell [.ro (ns.map .int), .int j] m = .ok (.int i) m := by
  have q : (run G fns (n + 1) f__law_cell [.ro (ns.map .int), .int j] m).W (fun d m1 => ∃ i : Int, d = .int i ∧ m1 = m) fun _ _ => False := by
    have e : (ns.map D.int).length = ns.length := List.length_map ..
    refine run_W rfl rfl ?_
    rfl'
    refine ⟨fun h => ?_, fun h => ?_⟩
    · have h : decide ((j : Int) < (ns.map D.int).length) = true := h
      have h := of_decide_eq_true h
      rfl'
      refine Op_i (idx_ints rfl (by omega) (by omega)) ?_
      exact ⟨_, rfl, rfl⟩
    · rfl'
      have ec : ∀ r : D, (match r with | .fl _ => True | _ => True) := fun _ => by split <;> trivial
      refine Op_i (z := .int (ns.take 1).sum) ?_ ?_
      · show ((m.lstAt (.fl (cut (ns.map D.int) none (some 1)))).bind fun xs => (asInts xs).map fun ns => D.int ns.sum) = _
        show (asInts (cut (ns.map D.int) none (some 1))).map (fun ns => D.int ns.sum) = _
        have e2 : cut (ns.map D.int) none (some 1) = (ns.take 1).map .int := by
          unfold cut sIx
          cases ns <;> simp
        rw [e2, asInts_map]
        rfl
      rfl'
      exact ⟨_, rfl, rfl⟩
  obtain ⟨d, m1, e, i, rfl, rfl⟩ := W_ok_of q
  exact ⟨i, e⟩
theorem box_B {n : Nat} {m : Store} {i : Int} {Q : D → Store → Prop} {X : D → Store → Prop} (h : ∀ m', Bx m.length 0 m' → Q (.cell m.length) m') : (run G fns (n + 1) f__law_box [.int i] m).W Q X := by
  refine run_W rfl rfl ?_
  rfl'
  refine h _ ⟨_, _, _, _, get_new, ?_, ?_, ?_, ?_, ?_⟩
  · split <;> omega
  · exact Int.emod_nonneg _ (by decide)
  · have := Int.emod_lt_of_pos (if i < 0 then -i else i) (b := 2147483629) (by decide)
    omega
  · decide
  · decide
end K01
end
section
set_option linter.all false
set_option maxRecDepth 100000
namespace Dy
/-- what a law hands to a call: plain data, or a list, a dict made just now, a list in a tuple, an object c; f is false of it -/
inductive Good (svc : D) (f : D → Bool) (m : Store) : D → Prop
  | frz (x : D) (h : pl x 3 = true) (hl : ∀ xs, x ≠ .fl xs) (hf : f x = false) : Good svc f m x
  | lst (k : Nat) (xs : List D) (hm : m[k]? = some (.lst xs)) (ha : xs.all atom = true) (hl : xs.length ≤ 4096) : Good svc f m (.cell k)
  | dct (k : Nat) (kvs : List (Ky × D)) (hm : m[k]? = some (.dct false kvs)) (ha : kvs.all (fun p => atom p.2) = true) (hl : kvs.length ≤ 4096) : Good svc f m (.cell k)
  | tup (k : Nat) (xs : List D) (hm : m[k]? = some (.lst xs)) (ha : xs.all atom = true) (hl : xs.length ≤ 4096) : Good svc f m (.tup [.cell k])
  | svc : Good svc f m svc
theorem getK_mem : ∀ {kvs : List (Ky × D)} {k : Ky} {d : D}, getK k kvs = some d → ∃ p ∈ kvs, p.2 = d
  | p :: r, k, d, h => by
    unfold getK at h
    split at h
    · cases h
      exact ⟨p, List.mem_cons_self, rfl⟩
    · obtain ⟨q, hq, e⟩ := getK_mem h
      exact ⟨q, List.mem_cons_of_mem _ hq, e⟩
theorem getK_has : ∀ {kvs : List (Ky × D)} {p : Ky × D}, p ∈ kvs → (getK p.1 kvs).isSome = true
  | q :: r, p, h => by
    unfold getK
    split
    · rfl
    · rename_i ne
      rcases List.mem_cons.mp h with rfl | h
      · exact absurd rfl ne
      · exact getK_has h
theorem putK_all {v : D} (hv : atom v = true) : ∀ {kvs : List (Ky × D)} {k : Ky}, kvs.all (fun p => atom p.2) = true → (putK k v kvs).all (fun p => atom p.2) = true ∧ (putK k v kvs).length ≤ kvs.length + 1
  | [], k, _ => ⟨by simp [putK, hv], by simp [putK]⟩
  | p :: r, k, h => by
    rw [List.all_cons, Bool.and_eq_true] at h
    unfold putK
    split
    · exact ⟨by rw [List.all_cons, h.2]; show (atom v && true) = true; rw [hv]; rfl, by simp⟩
    · obtain ⟨h1, h2⟩ := putK_all (k := k) hv h.2
      exact ⟨by rw [List.all_cons, h.1, h1]; rfl, by simpa using h2⟩
theorem Sm_lst {m : Store} {k n : Nat} {xs : List D} (hm : m[k]? = some (.lst xs)) (ha : xs.all atom = true) (hl : xs.length ≤ 16777216) : Sm m (n + 1) (.cell k) (.cell k) := by
  have e : m.lsq (.cell k) = some xs := by unfold Store.lsq; simp only [hm]
  refine .lst _ _ xs xs e e rfl hl fun i x y e1 e2 => ?_
  rw [e1] at e2
  cases e2
  exact Sm_atom (List.all_eq_true.mp ha x (List.mem_of_getElem? e1))
theorem Sm_dct {m : Store} {k n : Nat} {l : Bool} {kvs : List (Ky × D)} (hm : m[k]? = some (.dct l kvs)) (ha : kvs.all (fun p => atom p.2) = true) (hl : kvs.length ≤ 16777216) : Sm m (n + 1) (.cell k) (.cell k) := by
  refine .dct k k l l kvs kvs hm hm rfl hl (fun p hp => ⟨getK_has hp, getK_has hp⟩) fun p u v hp e1 e2 => ?_
  rw [e1] at e2
  cases e2
  obtain ⟨q, hq, rfl⟩ := getK_mem e1
  exact Sm_atom (List.all_eq_true.mp ha q hq)
theorem Good.ext {svc : D} {f : D → Bool} {m m' : Store} {x : D} {b : Nat} (h : Good svc f m x) (hb : ∀ k, (x = .cell k ∨ x = .tup [.cell k]) → k ≠ b) (e : Ext b m m') : Good svc f m' x := by
  cases h with
  | frz _ h hl hf => exact .frz x h hl hf
  | lst k xs hm ha hl => exact .lst k xs (e.get (hb k (.inl rfl)) hm) ha hl
  | dct k kvs hm ha hl => exact .dct k kvs (e.get (hb k (.inl rfl)) hm) ha hl
  | tup k xs hm ha hl => exact .tup k xs (e.get (hb k (.inr rfl)) hm) ha hl
  | svc => exact .svc
end Dy
namespace K01
open Dy
local macro_rules | `(tactic| rfl') => `(tactic| repeat' first | refine Op_i rfl ?_ | refine Br_t rfl ?_ | refine Br_f rfl ?_ | refine Gd_i rfl ?_ | with_reducible refine W_ok ?_ | refine Lm_i (by first | decide | (simp; done) | (simp; omega)) ?_ | refine Rg_i (by first | omega | decide) (by first | omega | decide) (by first | omega | decide) (by first | omega | decide) ?_ | exact And.intro rfl rfl | fail)
/-- the service of the wrong values -/
def svcD : D := .ob 0 [2, 3, 4] [.tup [.str [97]], .tup [.tup [.int 0]], .int 1]
theorem pl_al {m : Store} {n : Nat} {x : D} (h : pl x n = true) : Al m x := by
  cases n <;> cases x <;> first | rfl | simp [pl] at h
theorem Good_vl {f : D → Bool} {m : Store} {x : D} (h : Good svcD f m x) : Vl m x := by
  cases h with
  | frz _ h hl hf =>
    refine ⟨pl_al h, fun xs e => ?_⟩
    subst e
    unfold pl at h
    rw [Bool.and_eq_true, decide_eq_true_eq] at h
    exact ⟨by omega, fun x hx => pl_al (pls_mem h.2 x hx)⟩
  | lst k xs hm ha hl => exact ⟨by simp [Al, alive, hm], fun xs e => nomatch e⟩
  | dct k xs hm ha hl => exact ⟨by simp [Al, alive, hm], fun xs e => nomatch e⟩
  | tup k xs hm ha hl =>
    refine ⟨rfl, fun ys e => ?_⟩
    cases e
    refine ⟨by simp, fun x hx => ?_⟩
    cases List.mem_singleton.mp hx
    simp [Al, alive, hm]
  | svc => exact ⟨rfl, fun xs e => nomatch e⟩
/-- items of a tuple are shaped -/
theorem Good_sh {f : D → Bool} {m : Store} {x : D} (h : Good svcD f m x) : ∀ xs, x = .tup xs → ∀ y ∈ xs, shp (m.deep 59 y) 59 = true := by
  intro ys e
  cases h with
  | frz _ h hl hf =>
    subst e
    unfold pl at h
    rw [Bool.and_eq_true] at h
    exact fun y hy => deep_shp_pl 2 y 59 59 (pls_mem h.2 y hy) (by omega) (by omega)
  | tup k xs hm ha hl =>
    cases e
    intro y hy
    cases List.mem_singleton.mp hy
    have e : m.deep 59 (.cell k) = .fl (xs.map (m.deep 58)) := by
      show (match m[k]? with
        | some (.lst xs) => D.fl (xs.map (m.deep 58))
        | _ => .cell k) = _
      rw [hm]
    rw [e]
    exact shps_of fun x hx => deep_shp_pl 0 x 58 58 (atom_pl (List.all_eq_true.mp ha x hx)) (by omega) (by omega)
  | svc => cases e
  | lst => cases e
  | dct => cases e
theorem grown_id {n : Nat} {m : Store} {x : D} (h : Al m x) (h1 : isTy G.sup m x .list = false) (h2 : isTy G.sup m x .dict = false) : run G fns (n + 1) f__law_grown [x] m = .ok .non m := by
  refine eq_W (run_W rfl rfl ?_)
  refine Op_i rfl (Gd_i h (Op_i rfl (Br_f (by simp [h1]) ?_)))
  refine Op_i rfl (Gd_i h (Op_i rfl (Br_f (by simp [h2]) ?_)))
  rfl'
def more : D := .str [109, 111, 114, 101]
theorem grown_lst {n : Nat} {m : Store} {k : Nat} {xs : List D} (hm : m[k]? = some (.lst xs)) (hl : xs.length ≤ 4096) : run G fns (n + 1) f__law_grown [.cell k] m = .ok .non (m.set k (.lst (xs ++ [more]))) := by
  have hk : k < m.length := (List.getElem?_eq_some_iff.mp hm).1
  have h : Al m (.cell k) := by simp [Al, alive, hm]
  refine eq_W (run_W rfl rfl ?_)
  refine Op_i rfl (Gd_i h (Op_i rfl (Br_t (by simp [isTy, hm]) ?_)))
  refine Op_i rfl (Op_i (z := k) (by unfold Store.lstOf; simp only [hm]) ?_)
  refine ⟨xs, hm, Lm_i (by omega) ?_⟩
  have hm' : (m.set k (.lst (xs ++ [more])))[k]? = some (.lst (xs ++ [more])) := List.getElem?_set_self hk
  refine Op_i rfl (Gd_i (by simp [alive, more] at hm' ⊢; simp [hk]) (Op_i rfl (Br_f (by simp [isTy, Lit.d, hk]) ?_)))
  rfl'
theorem grown_dct {n : Nat} {m : Store} {k : Nat} {kvs : List (Ky × D)} (hm : m[k]? = some (.dct false kvs)) (hl : kvs.length ≤ 4096) : run G fns (n + 1) f__law_grown [.cell k] m = .ok .non (m.set k (.dct false (putK (.inr [109, 111, 114, 101]) (.int 1) kvs))) := by
  have h : Al m (.cell k) := by simp [Al, alive, hm]
  refine eq_W (run_W rfl rfl ?_)
  refine Op_i rfl (Gd_i h (Op_i rfl (Br_f (by simp [isTy, hm]) ?_)))
  refine Op_i rfl (Gd_i h (Op_i rfl (Br_t (by simp [isTy, hm]) ?_)))
  rfl'
  refine Op_i (z := m.set k (.dct false (putK (.inr [109, 111, 114, 101]) (.int 1) kvs))) ?_ ?_
  · unfold setixD
    simp only [hm]
    rw [if_pos (by omega)]
    rfl
  rfl'
/-- an error keeps the very value -/
theorem very_W {n b N : Nat} {f : D → Bool} {m : Store} {x : D} {Q : D → Store → Prop} {X : D → Store → Prop} (hb : Bx b N m) (hx : Good svcD f m x) (hne : ∀ k, x = .cell k → k ≠ b) (h : ∀ m', Bx b N m' → Q (.bl true) m') : (run G fns (n + 6) f__law_very [x, x] m).W Q X := by
  refine run_W rfl rfl ?_
  have hv := Good_vl hx
  refine Op_i rfl (Gd_i hv.1 ?_)
  have gen : ∀ (m2 : Store), Bx b N m2 → isTy G.sup m x (.cls 0) = false → Sm m 3 x x → run G fns (n + 5) f__law_grown [x] m = .ok .non m2 → Sm m2 3 x x → Op (truD m (.bl ([Ty.cls 0].any fun t => isTy G.sup m x t))) fun k => Br k (wpSs G (run G fns (n + 5)) (match b__law_very with | .cons (.ite _ a _) _ => a | _ => .nil) [some x, some x] m { nx := fun σ m_1 => wpSs G (run G fns (n + 5)) (match b__law_very with | .cons _ a => a | _ => .nil) σ m_1 { nx := fun x m => Q D.non m, rt := Q, exc := fun x _ m => X x m }, rt := Q, exc := fun x _ m => X x m }) (wpSs G (run G fns (n + 5)) .nil [some x, some x] m { nx := fun σ m_1 => wpSs G (run G fns (n + 5)) (match b__law_very with | .cons _ a => a | _ => .nil) σ m_1 { nx := fun x m => Q D.non m, rt := Q, exc := fun x _ m => X x m }, rt := Q, exc := fun x _ m => X x m }) := by
    intro m2 hb2 ht s1 hg s2
    refine Op_i rfl (Br_f (by simp [ht]) ?_)
    rfl'
    refine W_eq (same_eq s1 (by omega)) ?_
    rfl'
    refine W_eq hg ?_
    rfl'
    refine W_eq (same_eq s2 (by omega)) ?_
    exact h m2 hb2
  cases hx with
  | frz _ h0 hl hf =>
    have ty : isTy G.sup m x (.cls 0) = false ∧ isTy G.sup m x .list = false ∧ isTy G.sup m x .dict = false := by
      cases x <;> first | exact ⟨rfl, rfl, rfl⟩ | exact absurd rfl (hl _) | simp [pl] at h0
    exact gen m hb ty.1 (Sm_pl 3 x h0) (grown_id hv.1 ty.2.1 ty.2.2) (Sm_pl 3 x h0)
  | lst k xs hm ha hl =>
    have hk : k < m.length := (List.getElem?_eq_some_iff.mp hm).1
    refine gen _ (hb.set (hne k rfl)) (by simp [isTy, hm]) (Sm_lst hm ha (by omega)) (grown_lst hm hl) (Sm_lst (List.getElem?_set_self hk) (by rw [List.all_append, ha]; rfl) (by simp; omega))
  | dct k kvs hm ha hl =>
    have hk : k < m.length := (List.getElem?_eq_some_iff.mp hm).1
    obtain ⟨p1, p2⟩ := putK_all (k := .inr [109, 111, 114, 101]) (v := .int 1) rfl ha
    refine gen _ (hb.set (hne k rfl)) (by simp [isTy, hm]) (Sm_dct hm ha (by omega)) (grown_dct hm hl) (Sm_dct (List.getElem?_set_self hk) p1 (by omega))
  | tup k xs hm ha hl =>
    have s : Sm m 3 (.tup [.cell k]) (.tup [.cell k]) := .tup _ _ rfl (by simp) fun i x y e1 e2 => by
      rw [e1] at e2
      cases e2
      cases List.mem_singleton.mp (List.mem_of_getElem? e1)
      exact Sm_lst hm ha (by omega)
    exact gen m hb rfl s (grown_id hv.1 rfl rfl) s
  | svc =>
    refine Op_i rfl (Br_t rfl ?_)
    rfl'
    refine W_eq (same_eq (k := 3) (Sm_pl 3 _ (by decide)) (by omega)) ?_
    exact h m hb
end K01
end
section
set_option linter.all false
set_option maxRecDepth 100000
namespace K01
open Dy
local macro_rules | `(tactic| rfl') => `(tactic| repeat' first | refine Op_i rfl ?_ | refine Br_t rfl ?_ | refine Br_f rfl ?_ | refine Gd_i rfl ?_ | with_reducible refine W_ok ?_ | refine Lm_i (by first | decide | (simp; done) | (simp; omega)) ?_ | refine Rg_i (by first | omega | decide) (by first | omega | decide) (by first | omega | decide) (by first | omega | decide) ?_ | exact And.intro rfl rfl | fail)
/-- a drawn lot -/
theorem lot_B {n k N p : Nat} {m : Store} {Q : D → Store → Prop} {X : D → Store → Prop} (hb : Bx k N m) (hN : N + 9 < 1073741824) (hp : p ≤ 8)
    (h : ∀ (ks : List Nat) (m' : Store), Lot p ks → Bx k (N + 9) m' → Ext k m m' → Q (lotD ks) m') : (run G fns (n + 3) f__law_lot [.cell k, .int p] m).W Q X := by
  refine run_W rfl rfl ?_
  rfl'
  refine pick_I (ns := [2, 2, 3, 8]) (lo := 1) (hi := 8) hb (by omega) (by decide) (by decide) (by decide) ?_
  intro w m1 hw1 hw2 hb1 he1
  rfl'
  refine Lc_inv (fun r acc m' => ∃ i ks, i ≤ p ∧ Lot i ks ∧ acc = (toI ks).map .int ∧ r = (((List.range p).drop i).map fun i : Nat => D.int i) ∧ Bx k (N + 1 + i) m' ∧ Ext k m m') ⟨0, [], by omega, .nil, rfl, by rw [rngD_nat]; rfl, hb1, he1⟩ ?_ ?_
  · rintro x r acc m2 ⟨i, ks, hi, hk, rfl, er, hb2, he2⟩ R hR
    by_cases hlt : i < p
    · have ed : (List.range p).drop i = i :: (List.range p).drop (i + 1) := by
        rw [List.drop_eq_getElem_cons (by simpa using hlt), List.getElem_range]
      rw [ed, List.map_cons] at er
      cases er
      have keep : ∀ m3, Bx k (N + 1 + (i + 1)) m3 → Ext k m m3 → R (some (.int i)) m3 := fun m3 h3 e3 => hR _ _ ⟨i + 1, ks ++ [i], by omega, ?_, by unfold toI; simp, rfl, h3, e3⟩
      · have leave : ∀ m3, Bx k (N + 1 + (i + 1)) m3 → Ext k m m3 → R none m3 := fun m3 h3 e3 => hR _ _ ⟨i + 1, ks, by omega, hk.mono (by omega), by simp, rfl, h3, e3⟩
        rfl'
        refine ⟨fun h8 => ?_, fun h8 => ?_⟩
        · rfl'
          refine take_B hb2 (by omega) hw1 (by omega) fun r m3 r1 r2 hb3 he3 => ?_
          refine Op_i rfl (Op_i rfl ⟨fun h0 => ?_, fun h0 => ?_⟩)
          · rfl'
            exact keep m3 hb3 (he2.trans he3)
          · rfl'
            exact leave m3 hb3 (he2.trans he3)
        · rfl'
          exact keep m2 (hb2.mono (by omega)) he2
      · unfold Lot
        rw [List.range_succ]
        exact List.Sublist.append hk (List.Sublist.refl _)
    · rw [List.drop_of_length_le (by simpa using hlt)] at er
      cases er
  · rintro acc m2 ⟨i, ks, hi, hk, rfl, er, hb2, he2⟩
    have hk := hk.mono hi
    refine Lm_i (by rw [List.length_map, toI_len]; have := hk.len; omega) ?_
    rfl'
    exact h ks m2 hk (hb2.mono (by omega)) he2
/-- the law's own judging of a lot -/
theorem law_is_lot_eq {n : Nat} {m : Store} {d : D} {p : Int} (hv : Vl m d) (hs : ∀ xs, d = .tup xs → ∀ y ∈ xs, shp (m.deep 59 y) 59 = true) : run G fns (n + 1) f__law_is_lot [.int p, d] m = .ok (.bl (kl p d)) m := by
  refine eq_W (run_W rfl rfl ?_)
  refine Op_i rfl (Gd_i hv.1 ?_)
  cases d <;> rfl'
  rename_i xs
  obtain ⟨hl, hx⟩ := hv.2 xs rfl
  have hs := hs xs rfl
  refine Lc_filter (fun x => !btw 0 (p - 1) x) (fun x hx' R hR => ?_) ?_
  · refine Op_i rfl (Op_i rfl (Gd_i (hx x hx') ?_))
    cases x <;> rfl'
    all_goals first | exact hR | skip
    rename_i i
    have hR : R (if (!(decide (0 ≤ i) && decide (i ≤ p - 1))) = true then some (.int i) else none) m := hR
    refine ⟨fun h => ?_, fun h => ?_⟩ <;> rfl'
    · refine ⟨fun h' => ?_, fun h' => ?_⟩ <;> rfl'
      · have h1 : ¬ i < 0 := of_decide_eq_false (by simpa using h)
        have h2 : p ≤ i := of_decide_eq_true h'
        rw [decide_eq_true (show 0 ≤ i by omega), decide_eq_false (show ¬ i ≤ p - 1 by omega)] at hR
        exact hR
      · have h1 : ¬ i < 0 := of_decide_eq_false (by simpa using h)
        have h2 : ¬ p ≤ i := of_decide_eq_false h'
        rw [decide_eq_true (show 0 ≤ i by omega), decide_eq_true (show i ≤ p - 1 by omega)] at hR
        exact hR
    · have h1 : i < 0 := of_decide_eq_true (by simpa using h)
      rw [decide_eq_false (show ¬ 0 ≤ i by omega)] at hR
      exact hR
  · have hf : ∀ y ∈ xs.filter (fun x => !btw 0 (p - 1) x), shp (m.deep 59 y) 59 = true := fun y hy => hs y (List.mem_filter.mp hy).1
    refine Lm_i (Nat.le_trans (List.length_filter_le ..) hl) ?_
    refine Op_i (cmp_ne_nil hf) (Op_i rfl ?_)
    rw [empty_filter, all_congr (q := btw 0 (p - 1)) fun x _ => Bool.not_not _]
    refine ⟨fun h => ?_, fun h => ?_⟩ <;> rfl'
    · have h : xs.all (btw 0 (p - 1)) = false := by simpa using h
      exact ⟨by show _ = D.bl (_ && _); rw [h]; rfl, rfl⟩
    · have h : xs.all (btw 0 (p - 1)) = true := by simpa using h
      obtain ⟨ns, rfl⟩ := all_int h
      have e : (ns.map D.int).length = ns.length := List.length_map ..
      refine Lc_filter (onI fun i => decide (nth ns i ≤ nth ns (i - 1))) (fun x hx R hR => ?_) ?_
      · obtain ⟨i, rfl, h1, h2⟩ := mem_rng hx
        rfl'
        refine Op_i (idx_ints rfl (by omega) (by omega)) ?_
        rfl'
        refine Op_i (idx_ints rfl (by omega) (by omega)) ?_
        rfl'
        have hR : R (if decide (nth ns i ≤ nth ns (i - 1)) = true then some (.int i) else none) m := hR
        refine ⟨fun h => ?_, fun h => ?_⟩ <;> rfl'
        · have h : decide (nth ns i ≤ nth ns (i - 1)) = true := h
          rw [h] at hR
          exact hR
        · have h : decide (nth ns i ≤ nth ns (i - 1)) = false := h
          rw [h] at hR
          exact hR
      · have hf : ∀ y ∈ (rngD 1 (ns.map D.int).length).filter (onI fun i => decide (nth ns i ≤ nth ns (i - 1))), shp (m.deep 59 y) 59 = true := fun y hy => by
          obtain ⟨i, rfl, _, _⟩ := mem_rng (List.mem_filter.mp hy).1
          rfl
        have q := List.length_filter_le (onI fun i => decide (nth ns i ≤ nth ns (i - 1))) (rngD 1 ↑(ns.map D.int).length)
        rw [rngD_len] at q
        refine Lm_i (by omega) ?_
        refine Op_i (cmp_eq_nil hf) ?_
        refine ⟨?_, rfl⟩
        show _ = D.bl (_ && ascD _)
        unfold ascD
        rw [h, asInts_map, empty_filter, Bool.true_and]
        show _ = D.bl (ascB ns)
        unfold ascB
        rw [e]
        refine congrArg D.bl (all_congr fun x hx => ?_)
        obtain ⟨i, rfl, h1, h2⟩ := mem_rng hx
        show (!decide (nth ns i ≤ nth ns (i - 1))) = decide (nth ns (i - 1) < nth ns i)
        by_cases h : nth ns i ≤ nth ns (i - 1)
        · rw [decide_eq_true h, decide_eq_false (by omega)]; rfl
        · rw [decide_eq_false h, decide_eq_true (by omega)]; rfl
/-- all lots -/
theorem law_lots_eq {n p : Nat} {m : Store} (hp : p ≤ 8) : run G fns (n + 1) f__law_lots [.int p] m = .ok (.fl ((srt (aw (List.range p))).map fun t => .tup (t.map .int))) m := by
  refine eq_W (run_W rfl rfl ?_)
  rfl'
  refine For_inv (fun r σ m1 => ∃ (i : Nat) (x y : Option D), i ≤ p ∧ r = (((List.range p).drop i).map fun i : Nat => D.int i) ∧ σ = [some (.int p), some (.fl ((aw (List.range i)).map lotD)), x, y] ∧ m1 = m) ⟨0, none, none, by omega, by rw [rngD_nat]; rfl, rfl, rfl⟩ ?_ ?_
  · rintro x r σ m1 ⟨i, a, b, hi, er, rfl, rfl⟩ N hN
    by_cases hlt : i < p
    · have ed : (List.range p).drop i = i :: (List.range p).drop (i + 1) := by
        rw [List.drop_eq_getElem_cons (by simpa using hlt), List.getElem_range]
      rw [ed, List.map_cons] at er
      cases er
      have hl : (aw (List.range i)).length ≤ 256 := aw_len (Lot.all.mono (by omega))
      rfl'
      refine Lc_map (fun x => match x with | .tup xs => .tup (xs ++ [.int i]) | _ => .non) (fun x hx R hR => ?_) ?_
      · obtain ⟨s, hs, rfl⟩ := List.mem_map.mp hx
        have hs := ((mem_aw _ _).mp hs).length_le
        rw [List.length_range] at hs
        rfl'
        refine Op_i (z := .tup ((toI s).map .int ++ [.int i])) ?_ ?_
        · show (if ((toI s).map D.int).length + [D.int i].length ≤ lim then some (D.tup ((toI s).map D.int ++ [D.int i])) else none) = _
          rw [if_pos (by rw [List.length_map, toI_len]; show _ ≤ 16777216; simp; omega)]
        · exact hR
      · have ef : ((aw (List.range i)).map lotD).map (fun x => match x with | .tup xs => D.tup (xs ++ [.int i]) | _ => .non) = ((aw (List.range i)).map (· ++ [i])).map lotD := by
          rw [List.map_map, List.map_map]
          refine List.map_congr_left fun s _ => ?_
          show D.tup ((toI s).map D.int ++ [.int i]) = D.tup ((toI (s ++ [i])).map D.int)
          unfold toI
          rw [List.map_append, List.map_append]
          rfl
        rw [ef]
        refine Lm_i (by rw [List.length_map, List.length_map]; omega) ?_
        refine Op_i (z := .fl ((aw (List.range (i + 1))).map lotD)) ?_ ?_
        · show (if ((aw (List.range i)).map lotD).length + (((aw (List.range i)).map (· ++ [i])).map lotD).length ≤ lim then some (D.fl ((aw (List.range i)).map lotD ++ ((aw (List.range i)).map (· ++ [i])).map lotD)) else none) = _
          rw [if_pos (by rw [List.length_map, List.length_map, List.length_map]; show _ ≤ 16777216; omega), List.range_succ, aw_snoc, List.map_append]
        · exact hN _ _ ⟨i + 1, _, _, by omega, rfl, rfl, rfl⟩
    · rw [List.drop_of_length_le (by simpa using hlt)] at er
      cases er
  · rintro σ m1 ⟨i, a, b, hi, er, rfl, rfl⟩
    have : p ≤ i := by
      by_cases h : p ≤ i
      · exact h
      · have q := congrArg List.length er
        simp at q
        omega
    obtain rfl : i = p := by omega
    rfl'
    have ne : aw (List.range i) ≠ [] := fun z => by
      have q := len_aw (List.range i)
      have := Nat.two_pow_pos (List.range i).length
      rw [z, List.length_nil] at q
      omega
    refine Op_i (z := .fl ((srt (aw (List.range i))).map fun t => .tup (t.map .int))) ?_ ?_
    · show (sortD ((aw (List.range i)).map lotD)).map D.fl = _
      rw [sortD_lots ne]
      rfl
    · rfl'
theorem law_within_eq {n : Nat} {m : Store} {t s : List Int} (hl : t.length ≤ 16777216) : run G fns (n + 1) f__law_within [.tup (t.map .int), .tup (s.map .int)] m = .ok (.bl (t.all fun i => decide (i ∈ s))) m := by
  refine eq_W (run_W rfl rfl ?_)
  rfl'
  refine Lc_filter (onI fun i => !decide (i ∈ s)) (fun x hx R hR => ?_) ?_
  · obtain ⟨i, hi, rfl⟩ := List.mem_map.mp hx
    rfl'
    refine Op_i (show cmpD m .nin (.int i) (.tup (s.map .int)) = some (!decide (i ∈ s)) from ?_) ?_
    · show (isinD m (.int i) (.tup (s.map .int))).map (!·) = _
      rw [isin_tup]
      rfl
    have hR : R (if (!decide (i ∈ s)) = true then some (.int i) else none) m := hR
    refine Op_i rfl ⟨fun h => ?_, fun h => ?_⟩ <;> rfl'
    · rw [if_pos h] at hR
      exact hR
    · rw [h] at hR
      exact hR
  · rw [filter_ints]
    refine Lm_i (by rw [List.length_map]; exact Nat.le_trans (List.length_filter_le ..) hl) ?_
    refine Op_i (cmp_eq_nil fun x hx => ?_) ?_
    · obtain ⟨i, hi, rfl⟩ := List.mem_map.mp hx
      rfl
    · refine ⟨?_, rfl⟩
      rw [List.isEmpty_map, empty_filter]
      exact congrArg D.bl (all_congr fun x _ => Bool.not_not _)
end K01
end
section
set_option linter.all false
set_option maxRecDepth 100000
namespace K01
open Dy
local macro_rules | `(tactic| rfl') => `(tactic| repeat' first | refine Op_i rfl ?_ | refine Br_t rfl ?_ | refine Br_f rfl ?_ | refine Gd_i rfl ?_ | with_reducible refine W_ok ?_ | refine Lm_i (by first | decide | (simp; done) | (simp; omega)) ?_ | refine Rg_i (by first | omega | decide) (by first | omega | decide) (by first | omega | decide) (by first | omega | decide) ?_ | exact And.intro rfl rfl | fail)
/-! ### the service of the wrong values -/
theorem name_a {n : Nat} {m : Store} : run G fns (n + 1) f_is_name [.str [97]] m = .ok (.bl true) m := by
  refine eq_W (run_W rfl rfl ?_)
  rfl'
  refine Lc_1 fun R hR => ?_
  rfl'
  refine hR _ _ ?_
  rfl'
theorem names_a {n : Nat} {m : Store} : run G fns (n + 2) f_are_names [.tup [.str [97]], .int 1, .int 3] m = .ok (.bl true) m := by
  refine eq_W (run_W rfl rfl ?_)
  rfl'
  refine Lc_1 fun R hR => ?_
  rfl'
  refine W_eq name_a ?_
  refine hR _ _ ?_
  rfl'
theorem tuple_eq {n : Nat} {m : Store} {xs : List D} {l : Int} : run G fns (n + 1) f_is_tuple [.tup xs, .int l] m = .ok (.bl ((xs.length : Int) == l)) m := by
  refine eq_W (run_W rfl rfl ?_)
  rfl'
theorem table_a {n : Nat} {m : Store} : run G fns (n + 4) f_is_table [.tup [.tup [.int 0]], .int 1, .int 8] m = .ok (.bl true) m := by
  refine eq_W (run_W rfl rfl ?_)
  rfl'
  refine Lc_1 fun R hR => ?_
  rfl'
  refine W_eq tuple_eq ?_
  rfl'
  refine Lc_1 fun R' hR' => ?_
  rfl'
  refine W_eq (is_index_eq rfl) ?_
  rfl'
  refine hR' _ _ ?_
  rfl'
  refine hR _ _ ?_
  rfl'
theorem coming_a {n : Nat} {m : Store} : run G fns (n + 1) f_coming [.tup [.tup [.int 0]]] m = .ok (.fl [.int 0]) (m ++ [.dead]) := by
  refine eq_W (run_W rfl rfl ?_)
  rfl'
  refine ⟨fun μ σ m1 => μ ≤ 1 ∧ (∃ x, σ = [some (.tup [.tup [.int 0]]), some (.cell m.length), some (.int (1 - μ)), x]) ∧ m1 = m ++ [.lst [.int 0]], 1, by decide, ⟨by omega, ⟨none, rfl⟩, rfl⟩, ?_⟩
  rintro μ σ m1 ⟨hμ, ⟨x, rfl⟩, rfl⟩
  rfl'
  refine Op_i (z := .int 1) (len_seq (xs := [.int 0]) (by unfold Store.seqAt; simp only [get_new])) (Op_i rfl (Op_i rfl ⟨fun h => ?_, fun h => ?_⟩))
  · have h : (1 - (μ : Int)) < 1 := of_decide_eq_true h
    obtain rfl : μ = 1 := by omega
    refine ⟨by omega, ?_⟩
    rfl'
    refine Op_i (idx_l get_new rfl) ?_
    rfl'
    refine For_c fun N hN => ?_
    rfl'
    refine Op_i (z := false) (by
      show (isinD _ _ _).map (!·) = some false
      unfold isinD
      simp only [get_new]
      rfl) ?_
    rfl'
    refine hN _ _ (For_n ?_)
    rfl'
    exact ⟨0, by omega, by omega, ⟨_, rfl⟩, rfl⟩
  · have h : ¬ (1 - (μ : Int)) < 1 := of_decide_eq_false h
    rfl'
    refine Op_i (z := (.fl [.int 0], m ++ [.dead])) ?_ ?_
    · unfold frzD
      simp only [get_new, set_new]
    rfl'
theorem back_a {n : Nat} {m : Store} : run G fns (n + 1) f_going_back [.tup [.tup [.int 0]]] m = .ok (.fl [.int 0]) m := by
  refine eq_W (run_W rfl rfl ?_)
  rfl'
  refine For_c fun N hN => ?_
  rfl'
  refine Lc_1 fun R hR => ?_
  rfl'
  refine hR _ _ ?_
  rfl'
  refine hN _ _ (For_n ?_)
  rfl'
theorem lost_a {n : Nat} {m : Store} : run G fns (n + 2) f_first_lost [.tup [.tup [.int 0]]] m = .ok .non (m ++ [.dead]) := by
  refine eq_W (run_W rfl rfl ?_)
  rfl'
  refine W_eq coming_a ?_
  rfl'
  refine W_eq back_a ?_
  rfl'
  refine Lc_1 fun R hR => ?_
  rfl'
  refine hR _ _ ?_
  rfl'
theorem init_a {n k : Nat} {m : Store} (hm : m[k]? = some (.ins 0 [] [])) : run G fns (n + 5) f_Service___init__ [.cell k, .tup [.str [97]], .tup [.tup [.int 0]]] m = .ok .non ((m ++ [Cell.dead]).set k (.ins 0 [2, 3, 4] [.tup [.str [97]], .tup [.tup [.int 0]], .int 1])) := by
  have hk : k < m.length := (List.getElem?_eq_some_iff.mp hm).1
  have hk' : k < (m ++ [Cell.dead]).length := by rw [List.length_append]; omega
  refine eq_W (run_W rfl rfl ?_)
  rfl'
  refine W_eq names_a ?_
  rfl'
  refine W_eq table_a ?_
  rfl'
  refine W_eq lost_a ?_
  rfl'
  refine Op_i (z := (m ++ [Cell.dead]).set k (.ins 0 [2] [.tup [.str [97]]])) ?_ ?_
  · unfold setfldD
    simp only [List.getElem?_append_left hk, hm]
    rfl
  rfl'
  refine Op_i (z := (m ++ [Cell.dead]).set k (.ins 0 [2, 3] [.tup [.str [97]], .tup [.tup [.int 0]]])) ?_ ?_
  · unfold setfldD
    simp only [List.getElem?_set_self hk', List.set_set]
    rfl
  rfl'
  refine Op_i (z := (m ++ [Cell.dead]).set k (.ins 0 [2, 3, 4] [.tup [.str [97]], .tup [.tup [.int 0]], .int 1])) ?_ ?_
  · unfold setfldD
    simp only [List.getElem?_set_self hk', List.set_set]
    rfl
  rfl'
theorem make_a {n : Nat} {m : Store} {Q : D → Store → Prop} {X : D → Store → Prop} (h : Q svcD (m ++ [.dead] ++ [.dead])) : (makeD G (run G fns (n + 5)) 0 [.tup [.str [97]], .tup [.tup [.int 0]]] m).W Q X := by
  refine make_W (C := ⟨22, true⟩) rfl (W_eq (init_a get_new) ⟨rfl, _, _, _, List.getElem?_set_self (by simp), ?_⟩)
  show Q svcD _
  rw [List.set_set, show (m ++ [Cell.ins 0 [] []] ++ [Cell.dead]).set m.length .dead = m ++ [.dead] ++ [.dead] by simp]
  exact h
end K01
end
section
set_option linter.all false
set_option maxRecDepth 100000
namespace K01
open Dy
local macro_rules | `(tactic| rfl') => `(tactic| repeat' first | refine Op_i rfl ?_ | refine Br_t rfl ?_ | refine Br_f rfl ?_ | refine Gd_i rfl ?_ | with_reducible refine W_ok ?_ | refine Lm_i (by first | decide | (simp; done) | (simp; omega)) ?_ | refine Rg_i (by first | omega | decide) (by first | omega | decide) (by first | omega | decide) (by first | omega | decide) ?_ | exact And.intro rfl rfl | fail)
/-- the wrong values of a lot: cells at a .. -/
def nlA (p o : Int) (a : Nat) : List D := [.non, .int 5, .bl true, .str [48], .str [], .cell a, .cell (a + 1), .cell (a + 2), .cell (a + 3), .tup [.int p], .tup [.int o, .int p], .tup [.int (-1)], .tup [.int (-1), .int o], .tup [.int o, .int o], .tup [.int (p - 1), .int 0, .int (p - 1)]]
def nlB (p o : Int) (a : Nat) : List D := [.tup [.bl true], .tup [.bl false], .tup [.int 0, .bl true], .tup [.non], .tup [.str [48]], .tup [.tup [.int o]], .tup [.cell (a + 4)], .tup [.int (10 ^ 29)], .tup [.int 0, .non], .tup (rngD 0 (p + 1))]
def nlC (p : Int) : List D := [.tup [.int 1, .int 0], .tup [.int (p - 1), .int (p - 1 - 1)], .tup (rngD 0 p).reverse]
def nlM (o : Int) : Store := [.lst [], .lst [.int o], .dct false [], .dct false [(.inr [48], .int 0)], .lst [.int o], .dead, .dead]
theorem add_fl_cell {m : Store} {xs ys : List D} {j : Nat} (hj : m[j]? = some (.lst ys)) (hl : xs.length + ys.length ≤ 16777216) : binD m .add (.fl xs) (.cell j) = some (.fl (xs ++ ys)) := by
  have e : m.flat (.cell j) = .fl ys := by unfold Store.flat; simp only [hj]
  show (match m.flat (.fl xs), m.flat (.cell j) with
    | .fl xs, .fl ys => if xs.length + ys.length ≤ lim then some (D.fl (xs ++ ys)) else none
    | _, _ => none) = _
  rw [e]
  exact if_pos hl
/-- each of the wrong values may be handed to a call -/
theorem nl_good {f : D → Bool} {p o : Int} {b : Nat} {m1 t m' : Store} (h1 : 1 ≤ p) (h8 : p ≤ 8) (hf : ∀ k, f (.cell k) = false) (hf' : ∀ k, f (.tup [.cell k]) = false) (hF : ∀ x ∈ nlA p o 0 ++ nlB p o 0 ++ nlC p, f x = false) (hb : b < m1.length) (he : Ext b (m1 ++ nlM o ++ t) m') :
    ∀ x ∈ (nlA p o m1.length ++ nlB p o m1.length) ++ [svcD] ++ (if 1 < p then nlC p else []), Good svcD f m' x := by
  have at' : ∀ (i : Nat) (c : Cell), (nlM o)[i]? = some c → m'[m1.length + i]? = some c := fun i c hc => by
    refine he.get (by omega) ?_
    have hi : i < (nlM o).length := (List.getElem?_eq_some_iff.mp hc).1
    rw [List.getElem?_append_left (by rw [List.length_append]; omega), List.getElem?_append_right (by omega)]
    rw [show m1.length + i - m1.length = i by omega]
    exact hc
  have fz : ∀ x, pl x 3 = true → (∀ xs, x ≠ .fl xs) → x ∈ nlA p o 0 ++ nlB p o 0 ++ nlC p → Good svcD f m' x := fun x a b c => .frz x a b (hF x c)
  have rl : ∀ q : Int, 0 ≤ q → q ≤ 9 → pl (.tup (rngD 0 q)) 3 = true ∧ pl (.tup (rngD 0 q).reverse) 3 = true := by
    intro q q1 q2
    have h : q = 0 ∨ q = 1 ∨ q = 2 ∨ q = 3 ∨ q = 4 ∨ q = 5 ∨ q = 6 ∨ q = 7 ∨ q = 8 ∨ q = 9 := by omega
    rcases h with rfl | rfl | rfl | rfl | rfl | rfl | rfl | rfl | rfl | rfl <;> exact ⟨rfl, rfl⟩
  intro x hx
  rw [List.mem_append, List.mem_append, List.mem_append] at hx
  rcases hx with ((hx | hx) | hx) | hx
  · unfold nlA at hx
    simp only [List.mem_cons, List.not_mem_nil, or_false] at hx
    rcases hx with rfl | rfl | rfl | rfl | rfl | rfl | rfl | rfl | rfl | rfl | rfl | rfl | rfl | rfl | rfl
    case inr.inr.inr.inr.inr.inl => exact .lst _ [] (at' 0 _ rfl) rfl (by decide)
    case inr.inr.inr.inr.inr.inr.inl => exact .lst _ _ (at' 1 _ rfl) rfl (by simp)
    case inr.inr.inr.inr.inr.inr.inr.inl => exact .dct _ _ (at' 2 _ rfl) rfl (by decide)
    case inr.inr.inr.inr.inr.inr.inr.inr.inl => exact .dct _ _ (at' 3 _ rfl) rfl (by decide)
    all_goals exact fz _ rfl (fun xs e => nomatch e) (by simp [nlA])
  · unfold nlB at hx
    simp only [List.mem_cons, List.not_mem_nil, or_false] at hx
    rcases hx with rfl | rfl | rfl | rfl | rfl | rfl | rfl | rfl | rfl | rfl
    case inr.inr.inr.inr.inr.inr.inr.inl => exact .tup _ _ (at' 4 _ rfl) rfl (by simp)
    case inr.inr.inr.inr.inr.inr.inr.inr.inr.inr => exact fz _ (rl _ (by omega) (by omega)).1 (fun xs e => nomatch e) (by simp [nlB])
    all_goals exact fz _ rfl (fun xs e => nomatch e) (by simp [nlB])
  · rw [List.mem_singleton.mp hx]
    exact .svc
  · split at hx
    · unfold nlC at hx
      simp only [List.mem_cons, List.not_mem_nil, or_false] at hx
      rcases hx with rfl | rfl | rfl
      case inr.inr => exact fz _ (rl _ (by omega) (by omega)).2 (fun xs e => nomatch e) (by simp [nlC])
      all_goals exact fz _ rfl (fun xs e => nomatch e) (by simp [nlC])
    · simp at hx
theorem nl_kl (o : Int) (h0 : 0 ≤ o) (h8 : o < 8) : ∀ x ∈ nlA 8 o 0 ++ nlB 8 o 0 ++ nlC 8, kl 8 x = false := by
  have h : o = 0 ∨ o = 1 ∨ o = 2 ∨ o = 3 ∨ o = 4 ∨ o = 5 ∨ o = 6 ∨ o = 7 := by omega
  have q : (nlA 8 o 0 ++ nlB 8 o 0 ++ nlC 8).all (fun x => !kl 8 x) = true := by
    rcases h with rfl | rfl | rfl | rfl | rfl | rfl | rfl | rfl <;> decide +kernel
  intro x hx
  simpa using List.all_eq_true.mp q x hx
theorem no_lots_B {n k N : Nat} {p : Int} {m : Store} {Q : D → Store → Prop} {X : D → Store → Prop} (hb : Bx k N m) (hN : N < 1073741824) (h1 : 1 ≤ p) (h8 : p ≤ 8)
    (h : ∀ (o : Int) (m1 t : Store), 0 ≤ o → o < p → Bx k (N + 1) m1 → Ext k m m1 → Q (.fl ((nlA p o m1.length ++ nlB p o m1.length) ++ [svcD] ++ (if 1 < p then nlC p else []))) (m1 ++ nlM o ++ t)) : (run G fns (n + 6) f__law_no_lots [.cell k, .int p] m).W Q X := by
  refine run_W rfl rfl ?_
  rfl'
  refine take_B hb hN h1 (by omega) fun o m1 o1 o2 hb1 he1 => ?_
  rfl'
  refine ⟨get_new, ?_⟩
  rfl'
  rw [set_new]
  refine ⟨get_new, ?_⟩
  rfl'
  rw [set_new]
  rfl'
  refine make_a ?_
  rfl'
  have put : ∀ {d d' : D} {m m' : Store}, d = d' → m = m' → Q d m → Q d' m' := fun e e' q => e ▸ e' ▸ q
  refine ⟨fun hp => ?_, fun hp => ?_⟩
  · have hp : 1 < p := of_decide_eq_true hp
    rfl'
    refine put ?_ ?_ (h o m1 [] o1 o2 hb1 he1)
    · rw [if_pos hp]
      simp only [List.length_append, List.length_cons, List.length_nil]
      rfl
    · simp [nlM]
      rfl
  · have hp : ¬ 1 < p := of_decide_eq_false hp
    rfl'
    refine Op_i (z := .fl ((nlA p o m1.length ++ nlB p o m1.length) ++ [svcD])) ?_ ?_
    · refine (add_fl_cell get_new (by simp [nlA, nlB])).trans ?_
      rw [List.append_nil]
      simp only [List.length_append, List.length_cons, List.length_nil]
      rfl
    refine put ?_ ?_ (h o m1 [.lst []] o1 o2 hb1 he1)
    · rw [if_neg hp, List.append_nil]
    · simp [nlM]
      rfl
end K01
end
section
set_option linter.all false
set_option maxRecDepth 100000
namespace K01
open Dy
local macro_rules | `(tactic| rfl') => `(tactic| repeat' first | refine Op_i rfl ?_ | refine Br_t rfl ?_ | refine Br_f rfl ?_ | refine Gd_i rfl ?_ | with_reducible refine W_ok ?_ | refine Lm_i (by first | decide | (simp; done) | (simp; omega)) ?_ | refine Rg_i (by first | omega | decide) (by first | omega | decide) (by first | omega | decide) (by first | omega | decide) ?_ | exact And.intro rfl rfl | fail)
/-- a drawn row of ints -/
theorem tuple_B {n k N l : Nat} {m : Store} {Q : D → Store → Prop} {X : D → Store → Prop} (hb : Bx k N m) (hl : l ≤ 8) (hN : N + 24 < 1073741824) (h : ∀ (ns : List Int) (m' : Store), ns.length = l → Bx k (N + 24) m' → Ext k m m' → Q (.tup (ns.map .int)) m') : (run G fns (n + 3) f__law_tuple [.cell k, .int l] m).W Q X := by
  refine run_W rfl rfl ?_
  rfl'
  refine Lc_inv (fun r acc m' => ∃ ns : List Int, acc = ns.map .int ∧ ns.length + r.length = l ∧ Bx k (N + 3 * ns.length) m' ∧ Ext k m m') ⟨[], rfl, by rw [rngD_len]; simp, hb, .refl⟩ ?_ ?_
  · rintro x r acc m1 ⟨ns, rfl, e, hb1, he1⟩ R hR
    rw [List.length_cons] at e
    rfl'
    refine take_B hb1 (by omega) (by decide) (by decide) fun i m2 i1 i2 hb2 he2 => ?_
    rfl'
    refine take_B hb2 (by omega) (by decide) (by decide) fun j m3 j1 j2 hb3 he3 => ?_
    rfl'
    refine pick_I (ns := [0, 1, 2, i - 4, 10 ^ 29 + j, -10 ^ 29]) (lo := -10 ^ 30) (hi := 10 ^ 30) hb3 (by omega) (by simp) (by simp) (by simp; omega) fun w m4 w1 w2 hb4 he4 => ?_
    exact hR _ _ ⟨ns ++ [w], by simp, by simp; omega, hb4.mono (by simp; omega), he1.trans (he2.trans (he3.trans he4))⟩
  · rintro acc m1 ⟨ns, rfl, e, hb1, he1⟩
    simp at e
    refine Lm_i (by rw [List.length_map]; omega) ?_
    rfl'
    exact h ns m1 e (hb1.mono (by omega)) he1
theorem Good.weaken {f g : D → Bool} {m : Store} {x : D} (h : Good svcD f m x) (hfg : ∀ x, f x = false → g x = false) : Good svcD g m x := by
  cases h with
  | frz _ h hl hf => exact .frz x h hl (hfg x hf)
  | lst k xs hm ha hl => exact .lst k xs hm ha hl
  | dct k xs hm ha hl => exact .dct k xs hm ha hl
  | tup k xs hm ha hl => exact .tup k xs hm ha hl
  | svc => exact .svc
/-- the wrong values of a row of ints: cells at a .. -/
def ntA (o : Int) (a : Nat) : List D := [.non, .int 5, .bl true, .str [49, 50], .tup [], .cell a, .cell (a + 1), .cell (a + 2), .tup [.bl true], .tup [.int o, .bl false], .tup [.non], .tup [.str [49]], .tup [.int o, .str [49]], .tup [.tup [.int o]], .tup [.cell (a + 3)], .tup [.int o, .int o, .int o, .int o, .int o, .int o, .int o, .int o, .int o]]
def ntB (o : Int) (a : Nat) : List D := [.tup [.int o, .non, .int o], .tup (rngD 0 9), .cell (a + 4)]
def ntM (o : Int) : Store := [.lst [.int o], .lst [], .dct false [], .lst [.int o], .dct false [(.inr [49], .int 1)]]
theorem no_tuples_B {n k N : Nat} {m : Store} {Q : D → Store → Prop} {X : D → Store → Prop} (hb : Bx k N m) (hN : N < 1073741824)
    (h : ∀ (o : Int) (m1 : Store), 0 ≤ o → o < 5 → Bx k (N + 1) m1 → Ext k m m1 → Q (.fl (ntA o m1.length ++ ntB o m1.length)) (m1 ++ ntM o)) : (run G fns (n + 2) f__law_no_tuples [.cell k] m).W Q X := by
  have put : ∀ {d d' : D} {m m' : Store}, d = d' → m = m' → Q d m → Q d' m' := fun e e' q => e ▸ e' ▸ q
  refine run_W rfl rfl ?_
  rfl'
  refine take_B hb hN (by decide) (by decide) fun o m1 o1 o2 hb1 he1 => ?_
  rfl'
  refine ⟨get_new, ?_⟩
  rfl'
  rw [set_new]
  rfl'
  refine ⟨get_new, ?_⟩
  rfl'
  rw [set_new]
  refine put ?_ ?_ (h o m1 o1 o2 hb1 he1)
  · simp only [List.length_append, List.length_cons, List.length_nil]
    rfl
  · simp [ntM]
    rfl
end K01
end
section
set_option linter.all false
set_option maxRecDepth 100000
namespace K01
open Dy
local macro_rules | `(tactic| rfl') => `(tactic| repeat' first | refine Op_i rfl ?_ | refine Br_t rfl ?_ | refine Br_f rfl ?_ | refine Gd_i rfl ?_ | with_reducible refine W_ok ?_ | refine Lm_i (by first | decide | (simp; done) | (simp; omega)) ?_ | refine Rg_i (by first | omega | decide) (by first | omega | decide) (by first | omega | decide) (by first | omega | decide) ?_ | exact And.intro rfl rfl | fail)
theorem nt_good {o : Int} {b : Nat} {m1 m' : Store} (hb : b < m1.length) (he : Ext b (m1 ++ ntM o) m') :
    ∀ x ∈ ntA o m1.length ++ ntB o m1.length, Good svcD ai m' x := by
  have at' : ∀ (i : Nat) (c : Cell), (ntM o)[i]? = some c → m'[m1.length + i]? = some c := fun i c hc => by
    refine he.get (by omega) ?_
    rw [List.getElem?_append_right (by omega)]
    rw [show m1.length + i - m1.length = i by omega]
    exact hc
  intro x hx
  rw [List.mem_append] at hx
  rcases hx with hx | hx
  · unfold ntA at hx
    simp only [List.mem_cons, List.not_mem_nil, or_false] at hx
    rcases hx with rfl | rfl | rfl | rfl | rfl | rfl | rfl | rfl | rfl | rfl | rfl | rfl | rfl | rfl | rfl | rfl
    case inl.inr.inr.inr.inr.inr.inl => exact .lst _ _ (at' 0 _ rfl) rfl (by simp)
    case inl.inr.inr.inr.inr.inr.inr.inl => exact .lst _ _ (at' 1 _ rfl) rfl (by simp)
    case inl.inr.inr.inr.inr.inr.inr.inr.inl => exact .dct _ _ (at' 2 _ rfl) rfl (by decide)
    case inl.inr.inr.inr.inr.inr.inr.inr.inr.inr.inr.inr.inr.inr.inr.inl => exact .tup _ _ (at' 3 _ rfl) rfl (by simp)
    all_goals exact .frz _ rfl (fun xs e => nomatch e) rfl
  · unfold ntB at hx
    simp only [List.mem_cons, List.not_mem_nil, or_false] at hx
    rcases hx with rfl | rfl | rfl
    case inr.inr.inr => exact .dct _ _ (at' 4 _ rfl) rfl (by decide)
    all_goals exact .frz _ rfl (fun xs e => nomatch e) rfl
/-! ### the calls of the law -/
theorem seq_idx0 {m : Store} {a x : D} {r : List D} (hs : m.seqAt a = some (x :: r)) : idxD m a (.int 0) = some x := idx_s (i := 0) hs rfl
theorem seq_idx1 {m : Store} {a x y : D} {r : List D} (hs : m.seqAt a = some (x :: y :: r)) : idxD m a (.int 1) = some y := idx_s (i := 1) hs rfl
theorem call_0 {n : Nat} {m : Store} {a x y : D} {b : Bool} {Q : D → Store → Prop} {X : D → Store → Prop} (hs : m.seqAt a = some [x, y]) (h : (run G fns n f_is_lot [x, y] m).W Q X) : (run G fns (n + 1) f__law_call [.int 0, a, .bl b] m).W Q X := by
  refine run_W rfl rfl ?_
  cases b
  · rfl'
    refine Op_i (seq_idx0 hs) ?_
    rfl'
    refine Op_i (seq_idx1 hs) ?_
    exact h
  · rfl'
    refine Op_i (seq_idx1 hs) ?_
    rfl'
    refine Op_i (seq_idx0 hs) ?_
    rfl'
    exact h
theorem call_1 {n : Nat} {m : Store} {a x y : D} {b : Bool} {Q : D → Store → Prop} {X : D → Store → Prop} (hs : m.seqAt a = some [x, y]) (h : (run G fns n f_unlike_places [x, y] m).W Q X) : (run G fns (n + 1) f__law_call [.int 1, a, .bl b] m).W Q X := by
  refine run_W rfl rfl ?_
  cases b
  · rfl'
    refine Op_i (seq_idx0 hs) ?_
    rfl'
    refine Op_i (seq_idx1 hs) ?_
    exact h
  · rfl'
    refine Op_i (seq_idx1 hs) ?_
    rfl'
    refine Op_i (seq_idx0 hs) ?_
    rfl'
    exact h
theorem call_2 {n : Nat} {m : Store} {a x y : D} {b : Bool} {Q : D → Store → Prop} {X : D → Store → Prop} (hs : m.seqAt a = some [x, y]) (h : (run G fns n f_joined [x, y] m).W Q X) : (run G fns (n + 1) f__law_call [.int 2, a, .bl b] m).W Q X := by
  refine run_W rfl rfl ?_
  cases b
  · rfl'
    refine Op_i (seq_idx0 hs) ?_
    rfl'
    refine Op_i (seq_idx1 hs) ?_
    exact h
  · rfl'
    refine Op_i (seq_idx1 hs) ?_
    rfl'
    refine Op_i (seq_idx0 hs) ?_
    rfl'
    exact h
theorem call_3 {n : Nat} {m : Store} {a x y : D} {b : Bool} {Q : D → Store → Prop} {X : D → Store → Prop} (hs : m.seqAt a = some [x, y]) (h : (run G fns n f_within [x, y] m).W Q X) : (run G fns (n + 1) f__law_call [.int 3, a, .bl b] m).W Q X := by
  refine run_W rfl rfl ?_
  cases b
  · rfl'
    refine Op_i (seq_idx0 hs) ?_
    rfl'
    refine Op_i (seq_idx1 hs) ?_
    exact h
  · rfl'
    refine Op_i (seq_idx1 hs) ?_
    rfl'
    refine Op_i (seq_idx0 hs) ?_
    rfl'
    exact h
theorem call_4 {n : Nat} {m : Store} {a x : D} {r : List D} {b : Bool} {Q : D → Store → Prop} {X : D → Store → Prop} (hs : m.seqAt a = some (x :: r)) (h : (run G fns n f_lots_within [x] m).W Q X) : (run G fns (n + 1) f__law_call [.int 4, a, .bl b] m).W Q X := by
  refine run_W rfl rfl ?_
  cases b
  · rfl'
    refine Op_i (seq_idx0 hs) ?_
    rfl'
    exact h
  · rfl'
    refine Op_i (seq_idx0 hs) ?_
    rfl'
    exact h
def toldD : D := .str [116, 111, 108, 100]
theorem asked_W {n : Nat} {m : Store} {d a b : D} {Q : D → Store → Prop} {X : D → Store → Prop} (h : (run G fns n f__law_call [d, a, b] m).W (fun v m1 => Q (.fl [toldD, v]) m1) fun x m1 => ∃ c g w, x = .ex c [0] [g] ∧ (c, w) ∈ [(2, [112, 108, 97, 99, 101, 115]), (3, [116, 117, 112, 108, 101]), (4, [108, 111, 116])] ∧ Q (.fl [.str w, g]) m1) : (run G fns (n + 1) f__law_asked [d, a, b] m).W Q X := by
  refine run_W rfl rfl ?_
  rfl'
  refine Res.W_mono h (fun v m1 q => ?_) fun x m1 ⟨c, g, w, e, hc, q⟩ => ?_
  · exact q
  · subst e
    simp only [List.mem_cons, Prod.mk.injEq, List.not_mem_nil, or_false] at hc
    rcases hc with ⟨rfl, rfl⟩ | ⟨rfl, rfl⟩ | ⟨rfl, rfl⟩
    · rfl'
      exact q
    · rfl'
      exact q
    · rfl'
      exact q
theorem asked_ok {n : Nat} {m m1 : Store} {d a b v : D} (h : (run G fns n f__law_call [d, a, b] m).W (fun x m2 => x = v ∧ m2 = m1) fun _ _ => False) : run G fns (n + 1) f__law_asked [d, a, b] m = .ok (.fl [toldD, v]) m1 :=
  eq_W (asked_W (Res.W_mono h (fun x m2 ⟨e, e'⟩ => by subst e e'; exact ⟨rfl, rfl⟩) fun _ _ z => z.elim))
/-- an error with the very value -/
theorem refuses_W {n N bx c at' : Nat} {f : D → Bool} {m : Store} {door args g b : D} {l : List D} {w : List Nat} {Q : D → Store → Prop} {X : D → Store → Prop} (hb : Bx bx N m) (hg : Good svcD f m g) (hne : ∀ k, g = .cell k → k ≠ bx) (hs : m.seqAt args = some l) (hl : l[at']? = some g)
    (hcw : (c, w) ∈ [(2, [112, 108, 97, 99, 101, 115]), (3, [116, 117, 112, 108, 101]), (4, [108, 111, 116])]) (hc : (run G fns (n + 7) f__law_call [door, args, b] m).W (fun _ _ => False) fun x m1 => x = .ex c [0] [g] ∧ m1 = m)
    (h : ∀ m', Bx bx N m' → Q (.bl true) m') : (run G fns (n + 9) f__law_refuses [door, args, .str w, .int at', b] m).W Q X := by
  refine run_W rfl rfl ?_
  rfl'
  refine asked_W (Res.W_mono hc (fun _ _ z => z.elim) fun x m1 ⟨e, e'⟩ => ⟨c, g, w, e, hcw, ?_⟩)
  subst e'
  have hw : cmpD m1 .eq (.str w) (.str w) = some true := by
    refine shp_str ?_
    simp only [List.mem_cons, Prod.mk.injEq, List.not_mem_nil, or_false] at hcw
    rcases hcw with ⟨rfl, rfl⟩ | ⟨rfl, rfl⟩ | ⟨rfl, rfl⟩ <;> rfl
  rfl'
  refine Op_i hw ?_
  rfl'
  refine Op_i (idx_s hs hl) ?_
  rfl'
  exact very_W hb hg hne h
end K01
end
section
set_option linter.all false
set_option maxRecDepth 100000
namespace K01
open Dy
local macro_rules | `(tactic| rfl') => `(tactic| repeat' first | refine Op_i rfl ?_ | refine Br_t rfl ?_ | refine Br_f rfl ?_ | refine Gd_i rfl ?_ | with_reducible refine W_ok ?_ | refine Lm_i (by first | decide | (simp; done) | (simp; omega)) ?_ | refine Rg_i (by first | omega | decide) (by first | omega | decide) (by first | omega | decide) (by first | omega | decide) ?_ | exact And.intro rfl rfl | fail)
def noF : D → Bool := fun _ => false
theorem pl_lot {p : Nat} {ks : List Nat} (h : Lot p ks) (hp : p ≤ 4096) : pl (lotD ks) 3 = true := by
  have q := h.len
  unfold lotD
  unfold pl
  rw [Bool.and_eq_true, decide_eq_true_eq, List.length_map, toI_len]
  refine ⟨by omega, pls_of fun x hx => ?_⟩
  obtain ⟨i, _, rfl⟩ := List.mem_map.mp hx
  rfl
theorem pl_ints {ns : List Int} (h : ns.length ≤ 4096) : pl (.tup (ns.map .int)) 3 = true := by
  unfold pl
  rw [Bool.and_eq_true, decide_eq_true_eq, List.length_map]
  refine ⟨h, pls_of fun x hx => ?_⟩
  obtain ⟨i, _, rfl⟩ := List.mem_map.mp hx
  rfl
theorem judged_one {n : Nat} {m : Store} {q : Int} {v : D} {nm : Bool} (h1 : 1 ≤ q) (h8 : q ≤ 8) (hg : Good svcD noF m v) : run G fns (n + 7) f__law_asked [.int 0, .fl [.int q, v], .bl nm] m = .ok (.fl [toldD, .bl (kl q v)]) m :=
  asked_ok (call_0 rfl (W_eq (is_lot_ok (Good_vl hg) h1 h8) ⟨rfl, rfl⟩))
theorem add_fl {m : Store} {xs ys : List D} (h : xs.length + ys.length ≤ 16777216) : binD m .add (.fl xs) (.fl ys) = some (.fl (xs ++ ys)) := if_pos h
/-- two answers that are one plain value -/
theorem same_told {n : Nat} {m : Store} {d : D} (h : pl d 2 = true) : run G fns (n + 4) f__law_same [.fl [toldD, d], .fl [toldD, d]] m = .ok (.bl true) m := by
  refine same_eq (k := 3) (Sm_pl 3 _ ?_) (by omega)
  show (true && (pl toldD 2 && (pl d 2 && true))) = true
  rw [h]
  rfl
theorem judged_W {n k N : Nat} {m : Store} {nm : Bool} {Q : D → Store → Prop} {X : D → Store → Prop} (hb : Bx k N m) (hN : N + 100 < 1073741824) (h : ∀ m', Bx k (N + 100) m' → Q (.bl true) m') : (run G fns (n + 12) f__law_judged_right [.cell k, .bl nm] m).W Q X := by
  refine run_W rfl rfl ?_
  rfl'
  refine take_B hb (by omega) (by decide) (by decide) fun r m1 r1 r2 hb1 he1 => ?_
  rfl'
  obtain ⟨p, rfl⟩ : ∃ p : Nat, r = (p : Int) := ⟨r.toNat, by omega⟩
  have ep : (1 + (p : Int)) = ((p + 1 : Nat) : Int) := by omega
  rw [ep]
  refine lot_B (p := p + 1) hb1 (by omega) (by omega) fun ks m2 hk hb2 he2 => ?_
  rfl'
  refine lot_B (p := p + 1) hb2 (by omega) (by omega) fun js m3 hj hb3 he3 => ?_
  rfl'
  refine no_lots_B hb3 (by omega) (by omega) (by omega) fun o m4 t o1 o2 hb4 he4 => ?_
  have sv : ∀ x ∈ [lotD ks, lotD js, D.tup [], .tup (rngD 0 ↑(p + 1)), .tup [.int (↑(p + 1) - 1)]] ++ ((nlA (↑(p + 1)) o m4.length ++ nlB (↑(p + 1)) o m4.length) ++ [svcD] ++ (if (1 : Int) < ↑(p + 1) then nlC ↑(p + 1) else [])), ∀ m', Ext k (m4 ++ nlM o ++ t) m' → Good svcD noF m' x := by
    intro x hx m' he
    rw [List.mem_append] at hx
    rcases hx with hx | hx
    · simp only [List.mem_cons, List.not_mem_nil, or_false] at hx
      have rl : pl (.tup (rngD 0 ↑(p + 1))) 3 = true := by
        rw [rngD_nat]
        exact pl_lot (p := p + 1) (ks := List.range (p + 1)) Lot.all (by omega) |> fun q => by
          have e : lotD (List.range (p + 1)) = .tup ((List.range (p + 1)).map fun i => D.int (i : Nat)) := by unfold lotD toI; rw [List.map_map]; rfl
          rwa [e] at q
      rcases hx with rfl | rfl | rfl | rfl | rfl
      · exact .frz _ (pl_lot hk (by omega)) (fun xs e => nomatch e) rfl
      · exact .frz _ (pl_lot hj (by omega)) (fun xs e => nomatch e) rfl
      · exact .frz _ rfl (fun xs e => nomatch e) rfl
      · exact .frz _ rl (fun xs e => nomatch e) rfl
      · exact .frz _ rfl (fun xs e => nomatch e) rfl
    · exact nl_good (by omega) (by omega) (fun _ => rfl) (fun _ => rfl) (fun _ _ => rfl) hb4.lt he x hx
  have hl : ((nlA (↑(p + 1)) o m4.length ++ nlB (↑(p + 1)) o m4.length) ++ [svcD] ++ (if (1 : Int) < ↑(p + 1) then nlC ↑(p + 1) else [])).length ≤ 29 := by
    split <;> simp [nlA, nlB, nlC]
  refine Op_i (add_fl (by simp only [List.length_cons, List.length_nil]; omega)) ?_
  generalize ((nlA (↑(p + 1)) o m4.length ++ nlB (↑(p + 1)) o m4.length) ++ [svcD] ++ (if (1 : Int) < ↑(p + 1) then nlC ↑(p + 1) else [])) = more at sv hl
  have hb5 : Bx k (N + 20) (m4 ++ nlM o ++ t) := hb4.app.app
  generalize (m4 ++ nlM o ++ t) = m5 at sv hb5
  have hv : ([lotD ks, lotD js, D.tup [], .tup (rngD 0 ↑(p + 1)), .tup [.int (↑(p + 1) - 1)]] ++ more).length ≤ 34 := by
    rw [List.length_append]
    simp only [List.length_cons, List.length_nil]
    omega
  rfl'
  refine For_inv (fun r σ m' => ∃ (i : Nat) (nm : Bool) (vs v4 v5 v6 v7 : Option D), i + r.length ≤ 34 ∧ σ = [some (.cell k), some (.bl nm), some (.int ↑(p + 1)), vs, v4, v5, v6, v7] ∧ (∀ x ∈ r, ∀ m2, Ext k m' m2 → Good svcD noF m2 x) ∧ Bx k (N + 20 + i) m') ⟨0, nm, _, _, _, _, _, by simpa using hv, rfl, sv, hb5⟩ ?_ ?_
  · rintro v r σ m6 ⟨i, nm, vs, v4, v5, v6, v7, hi, rfl, hg, hb6⟩ N1 hN1
    rw [List.length_cons] at hi
    rfl'
    refine take_B hb6 (by omega) (by decide) (by decide) fun q m7 q1 q2 hb7 he7 => ?_
    rfl'
    have hv7 : Good svcD noF m7 v := hg v List.mem_cons_self m7 he7
    have one : ∀ (c : Int) (nm : Bool), 1 ≤ c → c ≤ 8 → Good svcD noF m7 v → ∀ (R : D → Store → Prop), R (.bl true) m7 → (run G fns (n + 11) f__law_same [.fl [toldD, .bl (kl c v)], .fl [toldD, .bl (kl c v)]] m7).W R fun _ _ => False := fun c nm _ _ _ R hR => W_eq (same_told rfl) hR
    refine For_c fun N2 hN2 => ?_
    rfl'
    refine W_eq (judged_one (by omega) (by omega) hv7) ?_
    rfl'
    refine W_eq (law_is_lot_eq (Good_vl hv7) (Good_sh hv7)) ?_
    rfl'
    refine W_eq (same_told rfl) ?_
    rfl'
    refine hN2 _ _ (For_c fun N3 hN3 => ?_)
    rfl'
    refine W_eq (judged_one (by omega) (by omega) hv7) ?_
    rfl'
    refine W_eq (law_is_lot_eq (Good_vl hv7) (Good_sh hv7)) ?_
    rfl'
    refine W_eq (same_told rfl) ?_
    rfl'
    refine hN3 _ _ (For_n ?_)
    rfl'
    refine hN1 _ _ ⟨i + 1, _, _, _, _, _, _, by omega, rfl, fun x hx m2 e2 => hg x (List.mem_cons_of_mem _ hx) m2 (he7.trans e2), hb7⟩
  · rintro σ m6 ⟨i, nm, vs, v4, v5, v6, v7, hi, rfl, hg, hb6⟩
    rfl'
    refine For_inv (fun r σ m' => ∃ (i : Nat) (nm : Bool) (vs v4 v5 v6 v7 : Option D), i + r.length ≤ 3 ∧ σ = [some (.cell k), some (.bl nm), some (.int ↑(p + 1)), vs, v4, v5, v6, v7] ∧ Bx k (N + 54 + 2 * i) m') ⟨0, nm, _, _, _, _, _, by simp [rngD_len], rfl, hb6.mono (by omega)⟩ ?_ ?_
    · rintro x r σ m7 ⟨i, nm, vs, v4, v5, v6, v7, hi, rfl, hb7⟩ N1 hN1
      rw [List.length_cons] at hi
      rfl'
      refine ⟨get_new, ?_⟩
      rfl'
      rw [set_new]
      have k7 := hb7.lt
      refine pick_B (xs := [.int 0, .int 9, .int (-1), .bl true, .bl false, .non, .str [51], .tup [.int 3], .cell m7.length, .int (10 ^ 29), .int (-10 ^ 29), .cell (m7 ++ [Cell.lst [.int 3]]).length]) hb7.app.app (by omega) (.inl rfl) (by simp) (by simp) fun g m8 hg8 hb8 he8 => ?_
      have gd : ∀ m', Ext k (m7 ++ [Cell.lst [.int 3]] ++ [Cell.dct false []]) m' → Good svcD (btw 1 8) m' g ∧ ∀ j, g = .cell j → j ≠ k := by
        intro m' he
        have c1 : m'[m7.length]? = some (.lst [.int 3]) := he.get (by omega) (by simp)
        have c2 : m'[(m7 ++ [Cell.lst [.int 3]]).length]? = some (.dct false []) := he.get (by simp; omega) get_new
        simp only [List.mem_cons, List.not_mem_nil, or_false] at hg8
        rcases hg8 with rfl | rfl | rfl | rfl | rfl | rfl | rfl | rfl | rfl | rfl | rfl | rfl
        case inr.inr.inr.inr.inr.inr.inr.inr.inl => exact ⟨.lst _ _ c1 rfl (by simp), fun j e => by cases e; omega⟩
        case inr.inr.inr.inr.inr.inr.inr.inr.inr.inr.inr => exact ⟨.dct _ _ c2 rfl (by decide), fun j e => by cases e; simp; omega⟩
        all_goals exact ⟨.frz _ rfl (fun xs e => nomatch e) rfl, fun j e => nomatch e⟩
      rfl'
      refine pick_B (xs := [.tup [], .tup [.int 0], .non, .fl [.int 0]]) hb8 (by omega) (.inl rfl) (by decide) (by decide) fun v m9 _ hb9 he9 => ?_
      obtain ⟨g9, ne⟩ := gd m9 (he8.trans he9)
      have bad : btw 1 8 g = false := by
        cases g9 with
        | frz _ _ _ hf => exact hf
        | _ => rfl
      rfl'
      refine refuses_W (at' := 0) hb9 g9 ne rfl rfl (List.mem_cons_self ..) (call_0 rfl (W_ex (is_lot_ex (Good_vl g9).1 bad) ⟨rfl, rfl⟩)) fun m10 hb10 => ?_
      rfl'
      exact hN1 _ _ ⟨i + 1, _, _, _, _, _, _, by omega, rfl, hb10.mono (by omega)⟩
    · rintro σ m7 ⟨i, nm, vs, v4, v5, v6, v7, hi, rfl, hb7⟩
      rfl'
      exact h _ (hb7.mono (by simp at hi; omega))
end K01
end
section
set_option linter.all false
set_option maxRecDepth 100000
set_option maxHeartbeats 1000000
namespace K01
open Dy
local macro_rules | `(tactic| rfl') => `(tactic| repeat' first | refine Op_i rfl ?_ | refine Br_t rfl ?_ | refine Br_f rfl ?_ | refine Gd_i rfl ?_ | with_reducible refine W_ok ?_ | refine Lm_i (by first | decide | (simp; done) | (simp; omega)) ?_ | refine Rg_i (by first | omega | decide) (by first | omega | decide) (by first | omega | decide) (by first | omega | decide) ?_ | exact And.intro rfl rfl | fail)
def tupI (ns : List Int) : D := .tup (ns.map .int)
/-- plain data nested deeper may be asked for more -/
theorem pl_tup1 {ns : List Int} (h : ns.length ≤ 4096) : pl (tupI ns) 2 = true := by
  unfold tupI pl
  rw [Bool.and_eq_true, decide_eq_true_eq, List.length_map]
  refine ⟨h, pls_of fun x hx => ?_⟩
  obtain ⟨i, _, rfl⟩ := List.mem_map.mp hx
  rfl
theorem pl_rngs {p : D → Bool} {b : Int} (h : b ≤ 4096) : pl (.tup ((rngD 0 b).filter p)) 2 = true := by
  unfold pl
  rw [Bool.and_eq_true, decide_eq_true_eq]
  refine ⟨Nat.le_trans (List.length_filter_le ..) (by rw [rngD_len]; omega), pls_of fun x hx => ?_⟩
  obtain ⟨i, rfl, _, _⟩ := mem_rng (List.mem_filter.mp hx).1
  rfl
theorem cut_lo {xs : List D} : cut xs (some 1) none = xs.drop 1 := by
  unfold cut sIx
  cases xs with
  | nil => rfl
  | cons x r => simp
theorem cut_hi {xs : List D} : cut xs none (some (-1)) = xs.take (xs.length - 1) := by
  unfold cut sIx
  simp
  omega
theorem Good_f {f : D → Bool} {m : Store} {x : D} (h : Good svcD f m x) (h1 : ∀ k, f (.cell k) = false) (h2 : ∀ k, f (.tup [.cell k]) = false) (h3 : f svcD = false) : f x = false := by
  cases h with
  | frz _ _ _ hf => exact hf
  | lst k => exact h1 k
  | dct k => exact h1 k
  | tup k => exact h2 k
  | svc => exact h3
theorem rng_drop {n i : Nat} (h : i < n) : (rngD 0 (n : Int)).drop i = .int (i : Nat) :: (rngD 0 (n : Int)).drop (i + 1) := by
  rw [rngD_nat, ← List.map_drop, ← List.map_drop, List.drop_eq_getElem_cons (by simpa using h), List.getElem_range, List.map_cons]
/-- what may stand behind one -/
def aiL (l : Nat) : D → Bool
  | .tup xs => ai (.tup xs) && decide (xs.length = l)
  | _ => false
theorem aiL_ai {l : Nat} {x : D} (h : ai x = false) : aiL l x = false := by
  cases x <;> first | rfl | skip
  rename_i xs
  show (ai (.tup xs) && _) = false
  rw [h]
  rfl
/-- the rest of a turn, the wrong second row is chosen -/
def restU : Ss := match b__law_unlike_right with
  | .cons _ (.cons _ (.cons _ (.cons _ (.cons (.for _ _ (.cons _ (.cons _ (.cons _ r)))) _)))) => r
  | _ => .nil
theorem restU_W {n k N p : Nat} {m : Store} {nm : Bool} {ns : List Int} {L : D} {v3 v4 v6 v7 v8 v9 v11 : Option D} {F : Fl} (hns : ns.length = p + 1) (hp : p < 8) (hb : Bx k N m) (hN : N + 10 < 1073741824) (hL : ∀ m', Good svcD (aiL (p + 1)) m' L) (hLc : ∀ j, L ≠ .cell j)
    (h : ∀ m' nm' v9', Bx k (N + 2) m' → F.nx [some (.cell k), some (.bl nm'), some (.int ↑(p + 1)), v3, v4, some (tupI ns), v6, v7, v8, v9', some (.fl [L]), v11] m') :
    wpSs G (run G fns (n + 11)) restU [some (.cell k), some (.bl nm), some (.int ↑(p + 1)), v3, v4, some (tupI ns), v6, v7, v8, v9, some (.fl [L]), v11] m F := by
  rfl'
  refine no_tuples_B hb (by omega) fun o m7 o1 o2 hb7 he7 => ?_
  rfl'
  have k7 := hb7.lt
  refine pick_B hb7.app.app (by omega) (.inl rfl) (by simp [ntA, ntB]) (by simp [ntA, ntB]) fun g m8 hg8 hb8 he8 => ?_
  have gd : Good svcD (aiL (p + 1)) m8 g ∧ ∀ j, g = .cell j → j ≠ k := by
    simp only [List.mem_append, List.mem_cons, List.not_mem_nil, or_false] at hg8
    rcases hg8 with (((hg8 | hg8) | rfl) | rfl) | rfl | rfl
    · refine ⟨Good.weaken (nt_good k7 (Ext.trans Ext.app he8) g (List.mem_append_left _ hg8)) fun x => aiL_ai, fun j e => ?_⟩
      subst e
      simp [ntA] at hg8
      omega
    · refine ⟨Good.weaken (nt_good k7 (Ext.trans Ext.app he8) g (List.mem_append_right _ hg8)) fun x => aiL_ai, fun j e => ?_⟩
      subst e
      simp [ntB] at hg8
      omega
    · exact ⟨hL _, fun j e => absurd e (hLc j)⟩
    · exact ⟨hL _, fun j e => absurd e (hLc j)⟩
    · refine ⟨?_, fun j e => nomatch e⟩
      rw [cut_hi, List.length_map, ← List.map_take]
      refine .frz _ (pl_ints (by simp; omega)) (fun xs e => nomatch e) ?_
      show (ai _ && decide (((ns.take (ns.length - 1)).map D.int).length = p + 1)) = false
      rw [List.length_map, decide_eq_false (by simp; omega), Bool.and_false]
    · refine ⟨.lst _ (ns.map .int) (he8.get (by simp; omega) get_new) ?_ (by simp; omega), fun j e => ?_⟩
      · rw [List.all_map]
        exact List.all_eq_true.mpr fun _ _ => rfl
      · cases e
        simp
        omega
  obtain ⟨g8, ne⟩ := gd
  rfl'
  refine refuses_W (at' := 1) hb8 g8 ne rfl rfl (List.mem_cons_of_mem _ (List.mem_cons_self ..)) (call_1 rfl (W_ex (unlike_ex2 (ns := ns) (by omega) (by omega) (Good_vl g8) fun ha => ?_) ⟨rfl, rfl⟩)) fun m10 hb10 => ?_
  · obtain ⟨xs, rfl, _, _⟩ := ai_ints ha
    refine ⟨_, rfl, fun e => ?_⟩
    have bad : aiL (p + 1) (.tup (xs.map .int)) = false := Good_f g8 (fun _ => rfl) (fun _ => rfl) rfl
    have q : (ai (.tup (xs.map .int)) && decide ((xs.map D.int).length = p + 1)) = false := bad
    rw [ha, decide_eq_true (by rw [e, hns])] at q
    cases q
  · rfl'
    exact h _ _ _ hb10
theorem unlike_W {n k N : Nat} {m : Store} {nm : Bool} {Q : D → Store → Prop} {X : D → Store → Prop} (hb : Bx k N m) (hN : N + 200 < 1073741824) (h : ∀ m', Bx k (N + 200) m' → Q (.bl true) m') : (run G fns (n + 12) f__law_unlike_right [.cell k, .bl nm] m).W Q X := by
  refine run_W rfl rfl ?_
  rfl'
  refine take_B hb (by omega) (by decide) (by decide) fun r m1 r1 r2 hb1 he1 => ?_
  rfl'
  obtain ⟨p, rfl⟩ : ∃ p : Nat, r = (p : Int) := ⟨r.toNat, by omega⟩
  have ep : (1 + (p : Int)) = ((p + 1 : Nat) : Int) := by omega
  rw [ep]
  refine tuple_B (l := p + 1) hb1 (by omega) (by omega) fun ns m2 hns hb2 he2 => ?_
  rfl'
  refine tuple_B (l := p + 1) hb2 (by omega) (by omega) fun js m3 hjs hb3 he3 => ?_
  rfl'
  refine Lc_inv (fun r acc m' => ∃ ms : List Int, acc = ms.map .int ∧ ms.length ≤ p + 1 ∧ r = (rngD 0 ↑(p + 1)).drop ms.length ∧ Bx k (N + 49 + ms.length) m') ⟨[], rfl, by simp, rfl, hb3⟩ ?_ ?_
  · rintro x r acc m4 ⟨ms, rfl, hl, er, hb4⟩ R hR
    have hlt : ms.length < p + 1 := by
      have q := congrArg List.length er
      rw [List.length_drop, rngD_len, List.length_cons] at q
      omega
    rw [rng_drop hlt] at er
    cases er
    rfl'
    refine take_B hb4 (by omega) (by decide) (by decide) fun q m5 q1 q2 hb5 he5 => ?_
    have go : ∀ w : Int, R (some (.int w)) m5 := fun w => hR _ _ ⟨ms ++ [w], by simp, by simp; omega, by simp, hb5.mono (by simp; omega)⟩
    rfl'
    refine ⟨fun h0 => ?_, fun h0 => ?_⟩
    · rfl'
      refine Op_i (idx_ints (ns := ns) rfl (by omega) (by omega)) ?_
      rfl'
      exact go _
    · rfl'
      refine Op_i (idx_ints (ns := js) rfl (by omega) (by omega)) ?_
      rfl'
      exact go _
  rintro acc m4 ⟨ms, rfl, hl, er, hb4⟩
  have hms : ms.length = p + 1 := by
    have q := congrArg List.length er
    rw [List.length_drop, rngD_len, List.length_nil] at q
    omega
  refine Lm_i (by rw [List.length_map]; omega) ?_
  rfl'
  refine For_inv (fun r σ m' => ∃ (nm : Bool) (v4 v6 v7 v8 v9 v10 v11 : Option D), (∀ x ∈ r, ∃ a b : List Int, x = .tup [tupI a, tupI b] ∧ a.length = p + 1 ∧ b.length = p + 1) ∧ σ = [some (.cell k), some (.bl nm), some (.int ↑(p + 1)), some (tupI ms), v4, some (tupI ns), v6, v7, v8, v9, v10, v11] ∧ Bx k (N + 60) m') ⟨nm, _, _, _, _, _, _, _, ?_, rfl, hb4.mono (by omega)⟩ ?_ ?_
  · intro x hx
    simp only [List.mem_cons, List.not_mem_nil, or_false] at hx
    rcases hx with rfl | rfl | rfl
    · exact ⟨ns, ms, rfl, hns, hms⟩
    · exact ⟨ms, ns, rfl, hms, hns⟩
    · exact ⟨ns, ns, rfl, hns, hns⟩
  · rintro x r σ m5 ⟨nm, v4, v6, v7, v8, v9, v10, v11, hr, rfl, hb5⟩ N1 hN1
    obtain ⟨a, b, rfl, ha, hb'⟩ := hr x List.mem_cons_self
    rfl'
    refine Lc_filter (onI fun i => nth a i != nth b i) (fun x hx R hR => ?_) ?_
    · obtain ⟨i, rfl, h1, h2⟩ := mem_rng hx
      rfl'
      refine Op_i (idx_ints (ns := a) rfl (by omega) (by omega)) ?_
      rfl'
      refine Op_i (idx_ints (ns := b) rfl (by omega) (by omega)) ?_
      rfl'
      have hR : R (if (nth a i != nth b i) = true then some (.int i) else none) m5 := hR
      refine ⟨fun h => ?_, fun h => ?_⟩ <;> rfl'
      · have h : (nth a i != nth b i) = true := h
        rw [if_pos h] at hR
        exact hR
      · have h : (nth a i != nth b i) = false := h
        rw [h] at hR
        exact hR
    · have q := List.length_filter_le (onI fun i => nth a i != nth b i) (rngD 0 ↑(p + 1))
      rw [rngD_len] at q
      refine Lm_i (by omega) ?_
      rfl'
      refine W_eq (asked_ok (call_1 rfl (W_eq (unlike_ok (ns := a) (ms := b) (by omega) (by omega) (by omega)) ⟨rfl, rfl⟩))) ?_
      have eu : ulk a b = (rngD 0 ↑(p + 1)).filter (onI fun i => nth a i != nth b i) := by unfold ulk; rw [ha]
      rw [eu]
      rfl'
      refine W_eq (same_told (pl_rngs (by omega))) ?_
      rfl'
      exact hN1 _ _ ⟨_, _, _, _, _, _, _, _, fun y hy => hr y (List.mem_cons_of_mem _ hy), rfl, hb5⟩
  · rintro σ m5 ⟨nm, v4, v6, v7, v8, v9, v10, v11, hr, rfl, hb5⟩
    rfl'
    refine For_inv (fun r σ m' => ∃ (i : Nat) (nm : Bool) (v4 v6 v7 v8 v9 v10 v11 : Option D), i + r.length ≤ 3 ∧ σ = [some (.cell k), some (.bl nm), some (.int ↑(p + 1)), some (tupI ms), v4, some (tupI ns), v6, v7, v8, v9, v10, v11] ∧ Bx k (N + 60 + 10 * i) m') ⟨0, nm, _, _, _, _, _, _, _, by simp [rngD_len], rfl, hb5⟩ ?_ ?_
    · rintro x r σ m6 ⟨i, nm, v4, v6, v7, v8, v9, v10, v11, hi, rfl, hb6⟩ N1 hN1
      rw [List.length_cons] at hi
      rfl'
      refine no_tuples_B hb6 (by omega) fun o m7 o1 o2 hb7 he7 => ?_
      rfl'
      refine pick_B hb7.app (by omega) (.inl rfl) (by simp [ntA, ntB]) (by simp [ntA, ntB]) fun g m8 hg8 hb8 he8 => ?_
      rfl'
      have k7 := hb7.lt
      have nc : ∀ o : Int, ∀ x ∈ ntA o m7.length ++ ntB o m7.length, ∀ j, x = .cell j → j ≠ k := by
        intro o x hx j e
        subst e
        simp [ntA, ntB] at hx
        omega
      refine pick_B (xs := [tupI ns, .non, .fl [.int 0], .tup []]) hb8 (by omega) (.inl rfl) (by simp) (by simp) fun v m9 hv9 hb9 he9 => ?_
      have g9 := nt_good k7 (he8.trans he9) g hg8
      have bad : ai g = false := by
        cases g9 with
        | frz _ _ _ hf => exact hf
        | _ => rfl
      rfl'
      refine refuses_W (at' := 0) hb9 g9 (nc o g hg8) rfl rfl (List.mem_cons_of_mem _ (List.mem_cons_self ..)) (call_1 rfl (W_ex (unlike_ex1 (Good_vl g9) bad) ⟨rfl, rfl⟩)) fun m10 hb10 => ?_
      rfl'
      have gL : ∀ ls : List Int, ls.length ≤ 4096 → ls.length ≠ p + 1 → ∀ m', Good svcD (aiL (p + 1)) m' (tupI ls) := fun ls h1 h2 m' => .frz _ (pl_ints h1) (fun xs e => nomatch e) (by
        show (ai (tupI ls) && decide ((ls.map D.int).length = p + 1)) = false
        rw [List.length_map, decide_eq_false h2, Bool.and_false])
      refine ⟨fun hp => ?_, fun hp => ?_⟩
      · have hp : ((p + 1 : Nat) : Int) < 8 := of_decide_eq_true hp
        rfl'
        refine Op_i (z := tupI (ns ++ [0])) ?_ ?_
        · show (if (ns.map D.int).length + 1 ≤ lim then some (D.tup (ns.map D.int ++ [.int 0])) else none) = _
          rw [if_pos (by rw [List.length_map]; show _ ≤ 16777216; omega)]
          unfold tupI
          rw [List.map_append]
          rfl
        exact restU_W (n := n) (L := tupI (ns ++ [0])) hns (by omega) hb10 (by omega) (gL (ns ++ [0]) (by simp; omega) (by simp; omega)) (fun j e => nomatch e) (fun m' nm' v9' hb' => hN1 _ _ ⟨i + 1, _, _, _, _, _, _, _, _, by omega, rfl, hb'.mono (by omega)⟩)
      · have hp : ¬ ((p + 1 : Nat) : Int) < 8 := of_decide_eq_false hp
        refine Op_i rfl (Op_i rfl (Op_i (z := tupI (ns.drop 1)) ?_ ?_))
        · show some (D.tup (cut (ns.map D.int) (some 1) none)) = _
          rw [cut_lo]
          unfold tupI
          rw [List.map_drop]
        exact restU_W (n := n) (L := tupI (ns.drop 1)) hns (by omega) hb10 (by omega) (gL (ns.drop 1) (by simp; omega) (by simp; omega)) (fun j e => nomatch e) (fun m' nm' v9' hb' => hN1 _ _ ⟨i + 1, _, _, _, _, _, _, _, _, by omega, rfl, hb'.mono (by omega)⟩)
    · rintro σ m6 ⟨i, nm, v4, v6, v7, v8, v9, v10, v11, hi, rfl, hb6⟩
      rfl'
      exact h _ (hb6.mono (by simp at hi; omega))
end K01
end
section
set_option linter.all false
set_option maxRecDepth 100000
set_option maxHeartbeats 1000000
namespace K01
open Dy
local macro_rules | `(tactic| rfl') => `(tactic| repeat' first | refine Op_i rfl ?_ | refine Br_t rfl ?_ | refine Br_f rfl ?_ | refine Gd_i rfl ?_ | with_reducible refine W_ok ?_ | refine Lm_i (by first | decide | (simp; done) | (simp; omega)) ?_ | refine Rg_i (by first | omega | decide) (by first | omega | decide) (by first | omega | decide) (by first | omega | decide) ?_ | exact And.intro rfl rfl | fail)
theorem rng_lot {p : Nat} : D.tup (rngD 0 (p : Int)) = lotD (List.range p) := by
  rw [rngD_nat]
  unfold lotD toI
  rw [List.map_map]
  rfl
theorem filter_rng {p : Nat} {f : Int → Bool} : (rngD 0 (p : Int)).filter (onI f) = (toI ((List.range p).filter fun k => f (k : Int))).map .int := by
  rw [rngD_nat]
  induction List.range p with
  | nil => rfl
  | cons x r ih =>
    rw [List.map_cons, List.filter_cons, List.filter_cons]
    show (if f (x : Int) = true then _ else _) = _
    cases f (x : Int)
    · simp only [Bool.false_eq_true, if_false]; exact ih
    · simp only [if_true]; exact congrArg (D.int x :: ·) ih
theorem cut_take {ks : List Nat} {n : Nat} : cut ((toI ks).map D.int) none (some (n : Int)) = (toI (ks.take n)).map .int := by
  have e : ∀ L : Nat, sIx L L (some (n : Int)) = min n L := fun L => by
    show (if (n : Int) < 0 then ((n : Int) + (L : Int)).toNat else min (n : Int).toNat L) = _
    rw [if_neg (by omega)]
    simp
  unfold cut
  rw [e]
  show (((toI ks).map D.int).drop 0).take (_ - 0) = _
  rw [List.drop_zero, Nat.sub_zero]
  have e2 : (toI (ks.take n)).map D.int = ((toI ks).map D.int).take n := by unfold toI; rw [List.map_take, List.map_take]
  rw [e2, List.take_eq_take_iff]
  omega
theorem wi_empty {a b : List Nat} : ((toI a).filter fun i => !decide (i ∈ toI b)).isEmpty = wi a b := by
  rw [empty_filter, all_congr (q := fun i => decide (i ∈ toI b)) fun x _ => Bool.not_not _]
  exact all_toI fun k hk => decide_eq_decide.mpr mem_toI'
/-- the pairs -/
theorem pl_two {a b : D} (ha : pl a 2 = true) (hb : pl b 2 = true) : pl (.fl [a, b]) 3 = true := by
  show (true && (pl a 2 && (pl b 2 && true))) = true
  rw [ha, hb]
  rfl
theorem pl_lot1 {p n : Nat} {ks : List Nat} (h : Lot p ks) (hp : p ≤ 4096) : pl (lotD ks) (n + 1) = true := by
  have q := h.len
  unfold lotD
  unfold pl
  rw [Bool.and_eq_true, decide_eq_true_eq, List.length_map, toI_len]
  refine ⟨by omega, pls_of fun x hx => ?_⟩
  obtain ⟨i, _, rfl⟩ := List.mem_map.mp hx
  cases n <;> rfl
def lotsD (l : List (List Int)) : List D := l.map fun t => .tup (t.map .int)
def inLot (s : List Nat) : D → Bool
  | .tup xs => xs.all (onI fun i => decide (i ∈ toI s))
  | _ => false
theorem inLot_tup {s : List Nat} {t : List Int} : inLot s (.tup (t.map .int)) = t.all fun i => decide (i ∈ toI s) := by
  show (t.map D.int).all _ = _
  rw [List.all_map]
  rfl
theorem filter_lots {s : List Nat} : ∀ {l : List (List Int)}, (lotsD l).filter (inLot s) = lotsD (l.filter fun t => t.all fun i => decide (i ∈ toI s))
  | [] => rfl
  | t :: l => by
    show (D.tup (t.map .int) :: lotsD l).filter _ = _
    rw [List.filter_cons, List.filter_cons, inLot_tup, filter_lots]
    cases t.all fun i => decide (i ∈ toI s) <;> rfl
theorem due_W {n : Nat} {m : Store} {ks : List Nat} {σ : Loc} {Q : D → Store → Prop} {X : D → Store → Prop} (hk : Lot 8 ks) (h3 : getL σ 3 = some (lotD ks)) (hl : σ.length = 20) (h : Q (.fl (lotsD (srt (aw ks)))) m) :
    wpE G (run G fns (n + 2)) (.bi .sorted (.cons (.lc false (.var 17) (.nm 17) (.e (.call 30 (.cons (.lit (.int 8)) .nil))) (.some (.e (.call 31 (.cons (.var 17) (.cons (.var 3) .nil))))) [17]) .nil)) σ m Q X := by
  rfl'
  refine W_eq (law_lots_eq (p := 8) (by omega)) ?_
  rfl'
  have len : (srt (aw (List.range 8))).length = 256 := by unfold srt; rw [len_isort, List.length_map, len_aw]; rfl
  have g17 : ∀ x : D, getL ((wipeD σ [17]).set 17 (some x)) 17 = some x ∧ getL ((wipeD σ [17]).set 17 (some x)) 3 = some (lotD ks) := by
    intro x
    unfold getL wipeD wipeD
    refine ⟨?_, ?_⟩
    · rw [List.getElem?_set_self (by rw [List.length_set]; omega)]
      rfl
    · rw [List.getElem?_set_ne (by omega), List.getElem?_set_ne (by omega)]
      exact h3
  refine Lc_filter (inLot ks) (fun x hx R hR => ?_) ?_
  · obtain ⟨t, ht, rfl⟩ := List.mem_map.mp hx
    have tl : t.length ≤ 8 := by
      unfold srt at ht
      rw [mem_isort, List.mem_map] at ht
      obtain ⟨s, hs, rfl⟩ := ht
      have := ((mem_aw _ _).mp hs).length_le
      rw [List.length_range] at this
      rw [toI_len]
      exact this
    refine Op_i rfl (Op_i (g17 _).1 (Op_i (g17 _).2 ?_))
    refine W_eq (law_within_eq (by omega)) ?_
    rw [inLot_tup] at hR
    refine Op_i rfl ⟨fun h => ?_, fun h => ?_⟩
    · rw [if_pos h] at hR
      exact Op_i (g17 _).1 hR
    · rw [h] at hR
      exact hR
  · rw [show ((srt (aw (List.range 8))).map fun t => D.tup (t.map .int)).filter (inLot ks) = lotsD _ from filter_lots]
    refine Lm_i (by unfold lotsD; rw [List.length_map]; exact Nat.le_trans (List.length_filter_le ..) (by rw [len]; omega)) ?_
    have ne : ((srt (aw (List.range 8))).filter fun t => t.all fun i => decide (i ∈ toI ks)) ≠ [] := fun z => by
      have : ([] : List Int) ∈ (srt (aw (List.range 8))).filter fun t => t.all fun i => decide (i ∈ toI ks) := by
        refine List.mem_filter.mpr ⟨?_, rfl⟩
        unfold srt
        rw [mem_isort, List.mem_map]
        exact ⟨[], (mem_aw _ _).mpr (List.nil_sublist _), rfl⟩
      rw [z] at this
      simp at this
    refine Op_i (z := .fl (lotsD (srt (aw ks)))) ?_ h
    show (sortD (lotsD _)).map D.fl = _
    unfold lotsD
    rw [sortD_tups ne, lots_two hk]
    rfl
end K01
end
section
set_option linter.all false
set_option maxRecDepth 100000
set_option maxHeartbeats 1000000
namespace K01
open Dy
local macro_rules | `(tactic| rfl') => `(tactic| repeat' first | refine Op_i rfl ?_ | refine Br_t rfl ?_ | refine Br_f rfl ?_ | refine Gd_i rfl ?_ | with_reducible refine W_ok ?_ | refine Lm_i (by first | decide | (simp; done) | (simp; omega)) ?_ | refine Rg_i (by first | omega | decide) (by first | omega | decide) (by first | omega | decide) (by first | omega | decide) ?_ | exact And.intro rfl rfl | fail)
/-- one of the refused calls -/
theorem ref_lot {n N k : Nat} {d a : Int} {m : Store} {ks : List Nat} {args g : D} {l : List D} {nm : Bool} {Q : D → Store → Prop} {X : D → Store → Prop} (hb : Bx k N m) (hk : Lot 8 ks) (hg : Good svcD (kl 8) m g) (hne : ∀ j, g = .cell j → j ≠ k) (hs : m.seqAt args = some l)
    (hda : (d, a, l) ∈ [((2 : Int), (0 : Int), [g, l[1]?.getD .non]), (2, 1, [lotD ks, g]), (3, 0, [g, l[1]?.getD .non]), (3, 1, [lotD ks, g]), (4, 0, [g, l[1]?.getD .non])]) (h : ∀ m', Bx k N m' → Q (.bl true) m') :
    (run G fns (n + 9) f__law_refuses [.int d, args, .str [108, 111, 116], .int a, .bl nm] m).W Q X := by
  have bad : kl 8 g = false := Good_f hg (fun _ => rfl) (fun _ => rfl) rfl
  have v := Good_vl hg
  have mem : ((4 : Nat), ([108, 111, 116] : List Nat)) ∈ [(2, [112, 108, 97, 99, 101, 115]), (3, [116, 117, 112, 108, 101]), (4, [108, 111, 116])] := by simp
  simp only [List.mem_cons, Prod.mk.injEq, List.not_mem_nil, or_false] at hda
  rcases hda with ⟨rfl, rfl, e⟩ | ⟨rfl, rfl, e⟩ | ⟨rfl, rfl, e⟩ | ⟨rfl, rfl, e⟩ | ⟨rfl, rfl, e⟩
  · exact refuses_W (at' := 0) hb hg hne hs (by rw [e] <;> rfl) mem (call_2 (hs.trans (congrArg some e)) (W_ex (joined_ex1 v bad) ⟨rfl, rfl⟩)) h
  · exact refuses_W (at' := 1) hb hg hne hs (by rw [e] <;> rfl) mem (call_2 (hs.trans (congrArg some e)) (W_ex (joined_ex2 hk v bad) ⟨rfl, rfl⟩)) h
  · exact refuses_W (at' := 0) hb hg hne hs (by rw [e] <;> rfl) mem (call_3 (hs.trans (congrArg some e)) (W_ex (within_ex1 v bad) ⟨rfl, rfl⟩)) h
  · exact refuses_W (at' := 1) hb hg hne hs (by rw [e] <;> rfl) mem (call_3 (hs.trans (congrArg some e)) (W_ex (within_ex2 hk v bad) ⟨rfl, rfl⟩)) h
  · exact refuses_W (at' := 0) hb hg hne hs (by rw [e] <;> rfl) mem (call_4 (hs.trans (congrArg some e)) (W_ex (lots_within_ex v bad) ⟨rfl, rfl⟩)) h
def restT : Ss := match b__law_two_right with
  | .cons _ (.cons _ (.cons _ (.cons _ r))) => r
  | _ => .nil
theorem restT_W {n k N : Nat} {m : Store} {nm : Bool} {ks js ls : List Nat} {v2 v4 v5 v9 v10 v11 v12 v13 v14 v15 v16 v17 v18 v19 : Option D} {Q : D → Store → Prop} {X : D → Store → Prop} {nx : Loc → Store → Prop} (hk : Lot 8 ks) (hj : Lot 8 js) (hls : Lot 8 ls) (hb : Bx k (N + 32) m) (hN : N + 200 < 1073741824)
    (h : ∀ m', Bx k (N + 200) m' → Q (.bl true) m') :
    wpSs G (run G fns (n + 11)) restT [some (.cell k), some (.bl nm), v2, some (lotD ls), v4, v5, some (lotD ks), some (lotD js), some (.int 8), v9, v10, v11, v12, v13, v14, v15, v16, v17, v18, v19] m { nx := nx, rt := Q, exc := fun x _ m => X x m } := by
  refine due_W hls rfl rfl ?_
  rfl'
  refine For_inv (fun r σ m' => ∃ (nm : Bool) (v5 v9 v10 v11 v12 v13 v14 v15 v16 v17 v18 v19 : Option D), σ = [some (.cell k), some (.bl nm), v2, some (lotD ls), some (.fl (lotsD (srt (aw ls)))), v5, some (lotD ks), some (lotD js), some (.int 8), v9, v10, v11, v12, v13, v14, v15, v16, v17, v18, v19] ∧ Bx k (N + 32) m') ⟨nm, _, _, _, _, _, _, _, _, _, _, _, _, rfl, hb⟩ ?_ ?_
  · rintro x r σ m1 ⟨nm, v5, v9, v10, v11, v12, v13, v14, v15, v16, v17, v18, v19, rfl, hb1⟩ N1 hN1
    rfl'
    refine W_eq (asked_ok (call_4 rfl (W_eq (lots_within_ok hls) ⟨rfl, rfl⟩))) ?_
    rfl'
    have k1 := hb1.lt
    have el : (m1 ++ [Cell.dead]).length = m1.length + 1 := by simp
    have gc : (m1 ++ [Cell.dead] ++ [Cell.lst (lotsD (srt (aw ls)))])[m1.length + 1]? = some (.lst (lotsD (srt (aw ls)))) := by rw [← el]; exact get_new
    have al : (lotsD (srt (aw ls))).length ≤ 256 := by
      unfold lotsD srt
      rw [List.length_map, len_isort, List.length_map]
      exact aw_len hls
    have s : Sm (m1 ++ [Cell.dead] ++ [Cell.lst (lotsD (srt (aw ls)))]) 3 (.fl [toldD, .cell (m1.length + 1)]) (.fl [toldD, .fl (lotsD (srt (aw ls)))]) := by
      refine .lst _ _ _ _ rfl rfl rfl (by simp) fun i x y e1 e2 => ?_
      match i, e1, e2 with
      | 0, e1, e2 =>
        cases e1
        cases e2
        exact .str _ rfl
      | 1, e1, e2 =>
        cases e1
        cases e2
        refine .lst _ _ (lotsD (srt (aw ls))) (lotsD (srt (aw ls))) (by unfold Store.lsq; simp only [gc]) rfl rfl (by omega) fun i x y e1 e2 => ?_
        rw [e1] at e2
        cases e2
        obtain ⟨t, ht, rfl⟩ := List.mem_map.mp (List.mem_of_getElem? e1)
        refine Sm_pl 1 _ ?_
        unfold srt at ht
        rw [mem_isort, List.mem_map] at ht
        obtain ⟨u, hu, rfl⟩ := ht
        exact pl_lot1 (n := 0) (((mem_aw _ _).mp hu).trans hls) (by omega)
      | i + 2, e1, e2 => simp at e1
    refine W_eq (same_eq s (by omega)) ?_
    rfl'
    refine Op_i (z := m1.length + 1) (by unfold Store.lstOf; simp only [gc]) ?_
    refine ⟨_, gc, Lm_i (by omega) ?_⟩
    rfl'
    exact hN1 _ _ ⟨_, _, _, _, _, _, _, _, _, _, _, _, _, rfl, hb1.app.app.set (by omega)⟩
  · rintro σ m1 ⟨nm, v5, v9, v10, v11, v12, v13, v14, v15, v16, v17, v18, v19, rfl, hb1⟩
    rfl'
    refine For_inv (fun r σ m' => ∃ (i : Nat) (nm : Bool) (v5 v9 v10 v11 v12 v13 v14 v15 v16 v17 v18 v19 : Option D), i + r.length ≤ 3 ∧ σ = [some (.cell k), some (.bl nm), v2, some (lotD ls), some (.fl (lotsD (srt (aw ls)))), v5, some (lotD ks), some (lotD js), some (.int 8), v9, v10, v11, v12, v13, v14, v15, v16, v17, v18, v19] ∧ Bx k (N + 32 + 50 * i) m') ⟨0, nm, _, _, _, _, _, _, _, _, _, _, _, _, by simp [rngD_len], rfl, hb1⟩ ?_ ?_
    · rintro x r σ m2 ⟨i, nm, v5, v9, v10, v11, v12, v13, v14, v15, v16, v17, v18, v19, hi, rfl, hb2⟩ N1 hN1
      rw [List.length_cons] at hi
      rfl'
      refine For_inv (fun r σ m' => ∃ (a : Nat) (nm : Bool) (v5 v9 v10 v11 v12 v13 v14 v15 v16 v17 v18 v19 : Option D), a + r.length ≤ 5 ∧ (∀ x ∈ r, ∃ d a : Int, x = .tup [.int d, .int a] ∧ (d, a) ∈ [((2 : Int), (0 : Int)), (2, 1), (3, 0), (3, 1), (4, 0)]) ∧ σ = [some (.cell k), some (.bl nm), v2, some (lotD ls), some (.fl (lotsD (srt (aw ls)))), v5, some (lotD ks), some (lotD js), some (.int 8), v9, v10, v11, v12, v13, v14, v15, v16, v17, v18, v19] ∧ Bx k (N + 32 + 50 * i + 10 * a) m') ⟨0, nm, _, _, _, _, _, _, _, _, _, _, _, _, by simp, ?_, rfl, hb2⟩ ?_ ?_
      · intro x hx
        simp only [List.mem_cons, List.not_mem_nil, or_false] at hx
        rcases hx with rfl | rfl | rfl | rfl | rfl <;> exact ⟨_, _, rfl, by simp⟩
      · rintro x r σ m3 ⟨a, nm, v5, v9, v10, v11, v12, v13, v14, v15, v16, v17, v18, v19, ha, hr, rfl, hb3⟩ N2 hN2
        rw [List.length_cons] at ha
        obtain ⟨d, t, rfl, hdt⟩ := hr x List.mem_cons_self
        rfl'
        refine no_lots_B (p := 8) hb3 (by omega) (by decide) (by decide) fun o m4 t4 o1 o2 hb4 he4 => ?_
        rfl'
        refine pick_B hb4.app.app (by omega) (.inl rfl) (by simp [nlA, nlB]) (by simp [nlA, nlB, nlC]) fun g m5 hg5 hb5 he5 => ?_
        have k4 := hb4.lt
        have l5 : (m4 ++ nlM o ++ t4).length ≤ m5.length := he5.1
        have gG : ∀ m', Ext k (m4 ++ nlM o ++ t4) m' → Good svcD (kl 8) m' g := fun m' he => nl_good (p := 8) (by decide) (by decide) (fun _ => rfl) (fun _ => rfl) (nl_kl o o1 o2) k4 he g hg5
        have ne : ∀ j, g = .cell j → j ≠ k := by
          intro j e
          subst e
          simp [nlA, nlB, nlC, svcD] at hg5
          omega
        simp only [List.mem_cons, Prod.mk.injEq, List.not_mem_nil, or_false] at hdt
        rcases hdt with ⟨rfl, rfl⟩ | ⟨rfl, rfl⟩ | ⟨rfl, rfl⟩ | ⟨rfl, rfl⟩ | ⟨rfl, rfl⟩
        all_goals (
          rfl'
          refine Op_i (setix_l get_new rfl) ?_
          rw [set_new]
          rfl')
        case inr.inl | inr.inr.inr.inl =>
          have gc : (m5 ++ [Cell.lst [lotD ks, g]]).seqAt (.cell m5.length) = some [lotD ks, g] := by unfold Store.seqAt; simp only [get_new]
          refine ref_lot hb5.app hk (gG _ (he5.trans Ext.app)) ne gc (by simp) fun m8 hb8 => ?_
          rfl'
          exact hN2 _ _ ⟨a + 1, _, _, _, _, _, _, _, _, _, _, _, _, _, by omega, fun y hy => hr y (List.mem_cons_of_mem _ hy), rfl, hb8.mono (by omega)⟩
        all_goals (
          refine take_B hb5.app (by omega) (by decide) (by decide) fun q m6 q1 q2 hb6 he6 => ?_
          have l6 := he6.1
          have lq : (m5 ++ [Cell.lst [g, lotD js]]).length = m5.length + 1 := by simp
          have k5 := hb5.lt
          have c6 : m6[m5.length]? = some (.lst [g, lotD js]) := he6.get (by omega) get_new
          have e6 : Ext k (m4 ++ nlM o ++ t4) m6 := (he5.trans Ext.app).trans he6
          rfl'
          refine ⟨fun h0 => ?_, fun h0 => ?_⟩)
        case inl.refine_1 | inr.inr.inl.refine_1 | inr.inr.inr.inr.refine_1 =>
          rfl'
          refine no_lots_B (p := 8) hb6 (by omega) (by decide) (by decide) fun o' m7 t7 _ _ hb7 he7 => ?_
          rfl'
          refine pick_B hb7.app.app (by omega) (.inl rfl) (by simp [nlA, nlB]) (by simp [nlA, nlB, nlC]) fun g' m8 _ hb8 he8 => ?_
          have e68 : Ext k m6 m8 := he7.trans ((Ext.app.trans Ext.app).trans he8)
          have c8 : m8[m5.length]? = some (.lst [g, lotD js]) := e68.get (by omega) c6
          have l8 : m5.length < m8.length := (List.getElem?_eq_some_iff.mp c8).1
          rfl'
          refine Op_i (setix_l c8 rfl) ?_
          rfl'
          have c9 : (m8.set m5.length (.lst [g, g']))[m5.length]? = some (.lst [g, g']) := List.getElem?_set_self l8
          have gc : Store.seqAt (m8.set m5.length (.lst [g, g'])) (.cell m5.length) = some [g, g'] := by unfold Store.seqAt; simp only [c9]
          have e9 : Ext k (m4 ++ nlM o ++ t4) (m8.set m5.length (.lst [g, g'])) := by
            have q := e6.trans e68
            exact ⟨by rw [List.length_set]; exact q.1, fun j hj hl => by rw [List.getElem?_set_ne (by omega)]; exact q.2 j hj hl⟩
          refine ref_lot (hb8.set (by omega)) hk (gG _ e9) ne gc (by simp) fun m9 hb9 => ?_
          rfl'
          exact hN2 _ _ ⟨a + 1, _, _, _, _, _, _, _, _, _, _, _, _, _, by omega, fun y hy => hr y (List.mem_cons_of_mem _ hy), rfl, hb9.mono (by omega)⟩
        all_goals (
          have gc : m6.seqAt (.cell m5.length) = some [g, lotD js] := by unfold Store.seqAt; simp only [c6]
          rfl'
          refine ref_lot hb6 hk (gG _ e6) ne gc (by simp) fun m9 hb9 => ?_
          rfl'
          exact hN2 _ _ ⟨a + 1, _, _, _, _, _, _, _, _, _, _, _, _, _, by omega, fun y hy => hr y (List.mem_cons_of_mem _ hy), rfl, hb9.mono (by omega)⟩)
      · rintro σ m3 ⟨a, nm, v5, v9, v10, v11, v12, v13, v14, v15, v16, v17, v18, v19, ha, hr, rfl, hb3⟩
        rfl'
        exact hN1 _ _ ⟨i + 1, _, _, _, _, _, _, _, _, _, _, _, _, _, by omega, rfl, hb3.mono (by simp at ha; omega)⟩
    · rintro σ m2 ⟨i, nm, v5, v9, v10, v11, v12, v13, v14, v15, v16, v17, v18, v19, hi, rfl, hb2⟩
      rfl'
      exact h _ (hb2.mono (by simp at hi; omega))
theorem two_W {n k N : Nat} {m : Store} {nm : Bool} {Q : D → Store → Prop} {X : D → Store → Prop} (hb : Bx k N m) (hN : N + 200 < 1073741824) (h : ∀ m', Bx k (N + 200) m' → Q (.bl true) m') : (run G fns (n + 12) f__law_two_right [.cell k, .bl nm] m).W Q X := by
  refine run_W rfl rfl ?_
  rfl'
  refine lot_B (p := 8) hb (by omega) (by omega) fun ks m1 hk hb1 he1 => ?_
  rfl'
  refine lot_B (p := 8) hb1 (by omega) (by omega) fun js m2 hj hb2 he2 => ?_
  rfl'
  refine Lc_inv (fun r acc m' => ∃ is rs : List Nat, acc = (toI is).map .int ∧ r = (toI rs).map .int ∧ (is ++ rs).Sublist js ∧ Bx k (N + 18 + (js.length - rs.length)) m') ⟨[], js, rfl, rfl, List.Sublist.refl _, hb2.mono (by omega)⟩ ?_ ?_
  · rintro x r acc m3 ⟨is, rs, rfl, er, hs, hb3⟩ R hR
    cases rs with
    | nil => cases er
    | cons i rs =>
      cases er
      have hl := hs.length_le
      have jl := hj.len
      simp at hl
      rfl'
      refine take_B hb3 (by simp; omega) (by decide) (by decide) fun q m4 q1 q2 hb4 he4 => ?_
      rfl'
      refine ⟨fun h0 => ?_, fun h0 => ?_⟩
      · rfl'
        exact hR _ _ ⟨is ++ [i], rs, by unfold toI; simp, rfl, by simpa using hs, hb4.mono (by simp; omega)⟩
      · exact hR _ _ ⟨is, rs, by simp, rfl, List.Sublist.trans (List.Sublist.append (List.Sublist.refl _) (List.sublist_cons_self _ _)) hs, hb4.mono (by simp; omega)⟩
  rintro acc m3 ⟨is, rs, rfl, er, hs, hb3⟩
  have : rs = [] := by cases rs with
    | nil => rfl
    | cons _ _ => cases er
  subst this
  rw [List.append_nil] at hs
  have hi : Lot 8 is := List.Sublist.trans hs hj
  have il := hi.len
  have jl := hj.len
  have kl' := hk.len
  refine Lm_i (by rw [List.length_map, toI_len]; omega) ?_
  rfl'
  refine For_inv (fun r σ m' => ∃ (nm : Bool) (v3 v4 v5 v9 v10 v11 v12 v13 v14 v15 v16 v17 v18 v19 : Option D), (∀ x ∈ r, ∃ a b : List Nat, x = .tup [lotD a, lotD b] ∧ Lot 8 a ∧ Lot 8 b) ∧ σ = [some (.cell k), some (.bl nm), some (lotD is), v3, v4, v5, some (lotD ks), some (lotD js), some (.int 8), v9, v10, v11, v12, v13, v14, v15, v16, v17, v18, v19] ∧ Bx k (N + 30) m') ⟨nm, _, _, _, _, _, _, _, _, _, _, _, _, _, _, ?_, rfl, hb3.mono (by simp; omega)⟩ ?_ ?_
  · intro x hx
    simp only [List.mem_cons, List.not_mem_nil, or_false] at hx
    rcases hx with rfl | rfl | rfl | rfl | rfl | rfl
    · exact ⟨ks, js, rfl, hk, hj⟩
    · exact ⟨is, js, rfl, hi, hj⟩
    · exact ⟨js, is, rfl, hj, hi⟩
    · exact ⟨[], ks, rfl, .nil, hk⟩
    · exact ⟨ks, [], rfl, hk, .nil⟩
    · exact ⟨ks, ks, rfl, hk, hk⟩
  · rintro x r σ m4 ⟨nm, v3, v4, v5, v9, v10, v11, v12, v13, v14, v15, v16, v17, v18, v19, hr, rfl, hb4⟩ N1 hN1
    obtain ⟨a, b, rfl, ha, hb'⟩ := hr x List.mem_cons_self
    have al := ha.len
    rfl'
    refine Lc_filter (onI fun i => decide (i ∈ toI a) || decide (i ∈ toI b)) (fun x hx R hR => ?_) ?_
    · obtain ⟨i, rfl, h1, h2⟩ := mem_rng hx
      rfl'
      refine Op_i (show cmpD m4 .inn (.int i) (lotD a) = some _ from isin_tup) ?_
      have hR : R (if (decide (i ∈ toI a) || decide (i ∈ toI b)) = true then some (.int i) else none) m4 := hR
      refine Op_i rfl ⟨fun h => ?_, fun h => ?_⟩
      · rfl'
        refine Op_i (show cmpD m4 .inn (.int i) (lotD b) = some _ from isin_tup) ?_
        have h : decide (i ∈ toI a) = false := by simpa using h
        rw [h, Bool.false_or] at hR
        refine Op_i rfl ⟨fun h => ?_, fun h => ?_⟩
        · rw [if_pos h] at hR
          rfl'
          exact hR
        · rw [h] at hR
          exact hR
      · have h : decide (i ∈ toI a) = true := by simpa using h
        rw [h, Bool.true_or, if_pos rfl] at hR
        rfl'
        exact hR
    · rw [show (8 : Int) = ((8 : Nat) : Int) from rfl, filter_rng]
      have ef : ((List.range 8).filter fun k : Nat => decide ((k : Int) ∈ toI a) || decide ((k : Int) ∈ toI b)) = (List.range 8).filter fun k => decide (k ∈ a) || decide (k ∈ b) := by
        refine List.filter_congr fun k _ => ?_
        rw [decide_eq_decide.mpr (mem_toI' (ks := a) (k := k)), decide_eq_decide.mpr (mem_toI' (ks := b) (k := k))]
      rw [ef]
      have hL : Lot 8 ((List.range 8).filter fun k => decide (k ∈ a) || decide (k ∈ b)) := Lot.filter
      refine Lm_i (by rw [List.length_map, toI_len]; have := hL.len; omega) ?_
      rfl'
      refine W_eq (asked_ok (call_2 rfl (W_eq (joined_ok ha hb') ⟨rfl, rfl⟩))) ?_
      rfl'
      refine W_eq (asked_ok (call_3 rfl (W_eq (within_ok ha hb') ⟨rfl, rfl⟩))) ?_
      rfl'
      refine Lc_filter (onI fun i => !decide (i ∈ toI b)) (fun x hx R hR => ?_) ?_
      · obtain ⟨i, hi, rfl⟩ := List.mem_map.mp hx
        rfl'
        refine Op_i (show cmpD m4 .nin (.int i) (lotD b) = some (!decide (i ∈ toI b)) from ?_) ?_
        · show (isinD m4 (.int i) (.tup ((toI b).map .int))).map (!·) = _
          rw [isin_tup]
          rfl
        have hR : R (if (!decide (i ∈ toI b)) = true then some (.int i) else none) m4 := hR
        refine Op_i rfl ⟨fun h => ?_, fun h => ?_⟩
        · rw [if_pos h] at hR
          rfl'
          exact hR
        · rw [h] at hR
          exact hR
      · rw [filter_ints]
        refine Lm_i (by rw [List.length_map]; exact Nat.le_trans (List.length_filter_le ..) (by rw [toI_len]; omega)) ?_
        rfl'
        refine Op_i (cmp_eq_nil fun x hx => ?_) ?_
        · obtain ⟨i, hi, rfl⟩ := List.mem_map.mp hx
          rfl
        rw [List.isEmpty_map, wi_empty]
        rfl'
        refine W_eq (same_eq (k := 4) (Sm_pl 4 (.fl [.fl [toldD, lotD ((List.range 8).filter fun k => decide (k ∈ a) || decide (k ∈ b))], .fl [toldD, .bl (wi a b)]]) ?_) (by omega)) ?_
        · show (true && (pl (.fl [toldD, _]) 3 && (pl (.fl [toldD, .bl _]) 3 && true))) = true
          rw [pl_two rfl (pl_lot1 hL (by omega)), pl_two rfl rfl]
          rfl
        rfl'
        exact hN1 _ _ ⟨_, _, _, _, _, _, _, _, _, _, _, _, _, _, _, fun y hy => hr y (List.mem_cons_of_mem _ hy), rfl, hb4⟩
  rintro σ m4 ⟨nm, v3, v4, v5, v9, v10, v11, v12, v13, v14, v15, v16, v17, v18, v19, hr, rfl, hb4⟩
  rfl'
  refine take_B hb4 (by omega) (by decide) (by decide) fun q m5 q1 q2 hb5 he5 => ?_
  have many : ∀ (w : Int) (R : D → Store → Prop) (X : D → Store → Prop) (_ : w = 8 ∨ w = 4) (_ : ∀ x m', (∃ ls, x = lotD ls ∧ Lot 8 ls) → Bx k (N + 32) m' → R x m'), (run G fns (n + 11) f__law_pick [.cell k, .fl [lotD ks, lotD is, .tup (cut ((toI ks).map D.int) none (some 3)), .tup [], .tup (rngD 0 w)]] m5).W R X := by
    intro w R X hw hR
    refine pick_B hb5 (by omega) (.inl rfl) (by simp) (by simp) fun x m6 hx hb6 he6 => hR x m6 ?_ hb6
    simp only [List.mem_cons, List.not_mem_nil, or_false] at hx
    rcases hx with rfl | rfl | rfl | rfl | rfl
    · exact ⟨ks, rfl, hk⟩
    · exact ⟨is, rfl, hi⟩
    · exact ⟨ks.take 3, by rw [show (3 : Int) = ((3 : Nat) : Int) from rfl, cut_take] <;> rfl, (List.take_sublist 3 ks).trans hk⟩
    · exact ⟨[], rfl, .nil⟩
    · rcases hw with rfl | rfl
      · exact ⟨List.range 8, rng_lot (p := 8), .all⟩
      · exact ⟨List.range 4, rng_lot (p := 4), Lot.all.mono (by omega)⟩
  rfl'
  refine ⟨fun h0 => ?_, fun h0 => ?_⟩
  · rfl'
    refine many 8 _ _ (.inl rfl) fun x m6 ⟨ls, e, hl⟩ hb6 => ?_
    subst e
    exact restT_W (n := n) hk hj hl (hb6.mono (by omega)) (by omega) h
  · rfl'
    refine many 4 _ _ (.inr rfl) fun x m6 ⟨ls, e, hl⟩ hb6 => ?_
    subst e
    exact restT_W (n := n) hk hj hl (hb6.mono (by omega)) (by omega) h
end K01
end
section
set_option linter.all false
set_option maxRecDepth 100000
set_option maxHeartbeats 1000000
namespace K01
open Dy
local macro_rules | `(tactic| rfl') => `(tactic| repeat' first | refine Op_i rfl ?_ | refine Br_t rfl ?_ | refine Br_f rfl ?_ | refine Gd_i rfl ?_ | with_reducible refine W_ok ?_ | refine Lm_i (by first | decide | (simp; done) | (simp; omega)) ?_ | refine Rg_i (by first | omega | decide) (by first | omega | decide) (by first | omega | decide) (by first | omega | decide) ?_ | exact And.intro rfl rfl | fail)
theorem law_W {ns : List Int} (hl : ns.length ≤ 63) : ∃ m, run G fns 13 f_law [.ro (ns.map .int)] [] = .ok (.bl true) m := by
  have q : (run G fns 13 f_law [.ro (ns.map .int)] []).W (fun d _ => d = .bl true) fun _ _ => False := by
    have e : (ns.map D.int).length = ns.length := List.length_map ..
    refine run_W rfl rfl ?_
    rfl'
    refine For_inv (fun r σ m' => ∃ (v1 v2 v3 : Option D), (∀ x ∈ r, ∃ i : Nat, x = .int i ∧ i ≤ 63) ∧ σ = [some (.ro (ns.map .int)), v1, v2, v3]) ⟨_, _, _, ?_, rfl⟩ ?_ ?_
    · intro x hx
      obtain ⟨i, rfl, h1, h2⟩ := mem_rng hx
      refine ⟨i.toNat, by congr 1; omega, ?_⟩
      have : i < 64 := by
        refine Int.lt_of_lt_of_le h2 ?_
        split <;> (try split) <;> omega
      omega
    · rintro x r σ m ⟨v1, v2, v3, hr, rfl⟩ N1 hN1
      obtain ⟨j, rfl, hj⟩ := hr x List.mem_cons_self
      obtain ⟨i, ei⟩ := cell_B (n := 11) (m := m) hl hj
      rfl'
      refine W_eq ei ?_
      rfl'
      refine box_B fun m1 hb1 => ?_
      rfl'
      refine take_B hb1 (by omega) (by decide) (by decide) fun q m2 q1 q2 hb2 he2 => ?_
      rfl'
      refine judged_W hb2 (by omega) fun m3 hb3 => ?_
      rfl'
      refine unlike_W hb3 (by omega) fun m4 hb4 => ?_
      rfl'
      refine two_W hb4 (by omega) fun m5 hb5 => ?_
      rfl'
      exact hN1 _ _ ⟨_, _, _, fun y hy => hr y (List.mem_cons_of_mem _ hy), rfl⟩
    · rintro σ m ⟨v1, v2, v3, hr, rfl⟩
      exact rfl
  obtain ⟨d, m, e, rfl⟩ := W_ok_of q
  exact ⟨m, e⟩
end K01
end
open PySem PySem.W PySem.Calls PyProof.Rows
theorem PySem.Challenge.cw_spareorbits_k01_lots_holds : PySem.Challenge.rw_spareorbits_k01_lots.Holds := by
  exact K01.holds_of ⟨12, ⟨rfl, by decide +kernel, by decide +kernel⟩, fun ns hl => K01.law_W hl⟩
